import PyProof.Rows.All
import Wide.All
import OpenK.AllK
import Wide.FinOn
import PySem.Challenge.RW_uf020001_01
set_option Elab.async false
section
set_option autoImplicit false
set_option linter.unusedVariables false
set_option linter.unusedSimpArgs false
namespace Mine
open PySem

/-- abstract values: tuples by value, lists / dicts / instances by location -/
inductive V where
  | none
  | bool (b : Bool)
  | int (i : Int)
  | str (s : Str)
  | tup (vs : List V)
  | ref (l : Nat)
  | script
  deriving Inhabited

inductive Cell where
  | list (vs : List V)
  | dict (es : List (V × V)) (ep : Nat)
  | inst (c : Nat) (fs : List (Nat × V))
  deriving Inhabited

mutual
def V.beq : V → V → Bool
  | .none, .none => true
  | .bool a, .bool b => a == b
  | .int a, .int b => a == b
  | .str a, .str b => a == b
  | .tup a, .tup b => V.beqs a b
  | .ref a, .ref b => a == b
  | .script, .script => true
  | _, _ => false
def V.beqs : List V → List V → Bool
  | [], [] => true
  | a :: r, b :: t => V.beq a b && V.beqs r t
  | _, _ => false
end
mutual
theorem V.beq_iff : ∀ a b : V, V.beq a b = true ↔ a = b
  | .none, b => by cases b <;> simp [V.beq]
  | .bool a, b => by cases b <;> simp [V.beq]
  | .int a, b => by cases b <;> simp [V.beq]
  | .str a, b => by cases b <;> simp [V.beq]
  | .tup a, b => by
    cases b with
    | tup b => rw [V.beq, V.tup.injEq]; exact V.beqs_iff a b
    | _ => simp [V.beq]
  | .ref a, b => by cases b <;> simp [V.beq]
  | .script, b => by cases b <;> simp [V.beq]
theorem V.beqs_iff : ∀ a b : List V, V.beqs a b = true ↔ a = b
  | [], b => by cases b <;> simp [V.beqs]
  | a :: r, [] => by simp [V.beqs]
  | a :: r, b :: t => by rw [V.beqs, Bool.and_eq_true, V.beq_iff a b, V.beqs_iff r t, List.cons.injEq]
end
instance : DecidableEq V := fun a b => if h : V.beq a b = true then .isTrue ((V.beq_iff a b).mp h) else .isFalse fun e => h ((V.beq_iff a b).mpr e)
deriving instance DecidableEq for Cell

abbrev Hp := List Cell
abbrev Env' := List (Option V)

inductive R (α : Type) where
  | ok (a : α) (h : Hp)
  | err (c : Nat) (h : Hp)
  | stuck

def R.bind {α β : Type} : R α → (α → Hp → R β) → R β
  | .ok a h, f => f a h
  | .err c h, _ => .err c h
  | .stuck, _ => .stuck

inductive Out where
  | next (ρ : Env') (h : Hp)
  | ret (v : V) (h : Hp)
  | brk (ρ : Env') (h : Hp)
  | cont (ρ : Env') (h : Hp)
  | err (c : Nat) (ρ : Env') (h : Hp)
  | stuck

def R.out {α : Type} (ρ : Env') (f : α → Hp → Out) : R α → Out
  | .ok a h => f a h
  | .err c h => .err c ρ h
  | .stuck => .stuck

inductive BOp where | add | sub | mul | fdiv | mod | pow
  deriving DecidableEq
inductive COp where | eq | ne | lt | le | gt | ge | isIn | notIn
  deriving DecidableEq

/-- built-ins of the fragment -/
inductive Bi where
  | len | isInt | isBool | isTuple | isList | isStr
  | tupleOf | lenSet | sortedSet | sorted | minL | maxL | min2 | max2 | sumI | sumL | any | intOf
  deriving DecidableEq
inductive Me where
  | append | clear | get1 | get2 | count | index | reverse
  deriving DecidableEq

inductive Tgt where
  | var (i : Nat)
  | tup (ts : List Tgt)

mutual
inductive E where
  | k (v : V)
  | var (i : Nat)
  | gk (j : Nat)
  | bin (op : BOp) (a b : E)
  | neg (a : E)
  | not (a : E)
  | and (es : List E)
  | or (es : List E)
  | ife (c a b : E)
  | cmp (op : COp) (a b : E)
  | cmp2 (a : E) (o1 : COp) (b : E) (o2 : COp) (c : E)
  | isNone (a : E)
  | notNone (a : E)
  | tup (es : List E)
  | lst (es : List E)
  | dct (kvs : List E)
  | idx (a i : E)
  | slc (a : E) (lo hi : Option E)
  | rev (a : E)
  | call (f : Nat) (es : List E)
  | bi (b : Bi) (es : List E)
  | minD (a d : E)
  | meth (m : Me) (a : E) (es : List E)
  | comp (nl : Nat) (elt : E) (t : Tgt) (it : It) (cs : List E)
  | sortKey (a body : E)
  | listOf (it : It)
inductive It where
  | of (e : E)
  | range (a b : E)
  | enum (e : E)
  | zip (a b : E)
end

inductive S where
  | expr (e : E)
  | asg (t : Tgt) (e : E)
  | setIdx (a i e : E)
  | ret (e : E)
  | ife (c : E) (a b : List S)
  | for (t : Tgt) (it : It) (body : List S)
  | while (c : E) (body : List S)
  | pass
  | brk
  | cont

/-- reading a value as plain data, `n` levels -/
def rdL (f : V → Option PyData) : List V → Option (List PyData)
  | [] => some []
  | v :: r => match f v, rdL f r with
    | some d, some ds => some (d :: ds)
    | _, _ => none
def rd (scr : List Int) : Nat → Hp → V → Option PyData
  | _, _, .none => some .none
  | _, _, .bool b => some (.bool b)
  | _, _, .int i => some (.int i)
  | _, _, .str s => if PyData.strOk s then some (.str s) else none
  | 0, _, _ => none
  | n + 1, H, .tup vs => (rdL (rd scr n H) vs).map .tuple
  | n + 1, H, .ref l => match H[l]? with
    | some (.list vs) => (rdL (rd scr n H) vs).map .list
    | _ => none
  | _ + 1, _, .script => some (.list (scr.map .int))

def truthy (scr : List Int) (H : Hp) : V → Option Bool
  | .none => some false
  | .bool b => some b
  | .int i => some (i != 0)
  | .tup vs => some (!vs.isEmpty)
  | .ref l => match H[l]? with
    | some (.list vs) => some (!vs.isEmpty)
    | some (.dict es _) => some (!es.isEmpty)
    | _ => none
  | .script => some (!scr.isEmpty)
  | .str _ => none

end Mine

end
section
set_option autoImplicit false
set_option linter.unusedVariables false
set_option linter.unusedSimpArgs false
namespace Mine
open PySem

structure Ctx where
  scr : List Int
  gks : List V
  call : Nat → List V → Hp → R V

def szOk {α : Type} (l : List α) : Bool := decide (l.length < 1000000)
def alloc (c : Cell) (H : Hp) : R V := .ok (.ref H.length) (H ++ [c])
def allocL (vs : List V) (H : Hp) : R V := if szOk vs then alloc (.list vs) H else .stuck

/-- the items of a list / a tuple / the script -/
def itemsOf (scr : List Int) (H : Hp) : V → Option (List V)
  | .tup vs => some vs
  | .ref l => match H[l]? with
    | some (.list vs) => some vs
    | some (.dict es _) => some (es.map (·.1))
    | _ => none
  | .script => some (scr.map .int)
  | _ => none

def mulOk (a b : Int) : Bool := !(decide (Builtin.Int.intBits a > shortFactorBits) && decide (Builtin.Int.intBits b > shortFactorBits) && Builtin.Int.intTooBig (Builtin.Int.intBits a + Builtin.Int.intBits b))

def binop (op : BOp) (x y : V) (H : Hp) : R V :=
  match op, x, y with
  | .add, .int a, .int b => .ok (.int (a + b)) H
  | .add, .ref l, .ref m => match H[l]?, H[m]? with
    | some (.list xs), some (.list ys) => allocL (xs ++ ys) H
    | _, _ => .stuck
  | .sub, .int a, .int b => .ok (.int (a - b)) H
  | .mul, .int a, .int b => if mulOk a b then .ok (.int (a * b)) H else .stuck
  | .fdiv, .int a, .int b => if b = 0 then .stuck else .ok (.int (a.fdiv b)) H
  | .mod, .int a, .int b => if b = 0 then .stuck else .ok (.int (a.fmod b)) H
  | .pow, .int a, .int b => if 0 ≤ b ∧ b ≤ 1000 ∧ a.natAbs < 1000 then .ok (.int (a ^ b.toNat)) H else .stuck
  | _, _, _ => .stuck

def isDict (H : Hp) : V → Option (List (V × V))
  | .ref l => match H[l]? with
    | some (.dict es _) => some es
    | _ => none
  | _ => none

def eqV (scr : List Int) (H : Hp) (x y : V) : Option Bool :=
  match isDict H x, isDict H y with
  | some es, some [] => some es.isEmpty
  | some _, _ => none
  | none, some _ => none
  | none, none => match rd scr 10 H x, rd scr 10 H y with
    | some d, some e => some (PyData.eqv d e)
    | _, _ => none

def allInts : List V → Option (List Int)
  | [] => some []
  | .int i :: r => (allInts r).map (i :: ·)
  | _ => none

def ltInts : List Int → List Int → Bool
  | [], [] => false
  | [], _ :: _ => true
  | _ :: _, [] => false
  | a :: r, b :: t => if a = b then ltInts r t else decide (a < b)

def ltV (H : Hp) (x y : V) : Option Bool :=
  match x, y with
  | .int a, .int b => some (decide (a < b))
  | _, _ => none

def keyOk : V → Bool
  | .int _ => true
  | .str s => PyData.strOk s
  | .tup [.int _, .bool _] => true
  | _ => false

def dget (es : List (V × V)) (k : V) : Option V := (es.find? (fun p => p.1 == k)).map (·.2)
def dput (es : List (V × V)) (k v : V) : List (V × V) := if es.any (fun p => p.1 == k) then es.map (fun p => if p.1 == k then (p.1, v) else p) else es ++ [(k, v)]

def inV (scr : List Int) (H : Hp) (x y : V) : Option Bool :=
  match isDict H y with
  | some es => if keyOk x then some (es.any (fun p => p.1 == x)) else none
  | none => match itemsOf scr H y with
    | some vs => match rdL (rd scr 10 H) vs, rd scr 10 H x with
      | some ds, some d => some (ds.any fun e => PyData.eqv e d)
      | _, _ => none
    | none => none

def cmpV (scr : List Int) (op : COp) (x y : V) (H : Hp) : Option Bool :=
  match op with
  | .eq => eqV scr H x y
  | .ne => (eqV scr H x y).map (!·)
  | .lt => ltV H x y
  | .gt => match x, y with
    | .int a, .int b => some (decide (a > b))
    | _, _ => none
  | .le => match x, y with
    | .int a, .int b => some (decide (a ≤ b))
    | _, _ => none
  | .ge => match x, y with
    | .int a, .int b => some (decide (a ≥ b))
    | _, _ => none
  | .isIn => inV scr H x y
  | .notIn => (inV scr H x y).map (!·)

def ofOpt {α : Type} (H : Hp) : Option α → R α
  | some a => .ok a H
  | none => .stuck

def seqAt {α : Type} (l : List α) (k : Int) : Option α :=
  if 0 ≤ k then l[k.toNat]? else if -(l.length : Int) ≤ k then l[(k + l.length).toNat]? else none

def idxV (scr : List Int) (x i : V) (H : Hp) : Option V :=
  match isDict H x with
  | some es => if keyOk i then dget es i else none
  | none => match itemsOf scr H x, i with
    | some vs, .int k => seqAt vs k
    | _, _ => none

def sliceEnd (n : Nat) (d : Nat) : Option Int → Nat
  | none => d
  | some k => if k < 0 then (k + n).toNat else min k.toNat n
def pySlice {α : Type} (l : List α) (lo hi : Option Int) : List α :=
  (l.take (sliceEnd l.length l.length hi)).drop (sliceEnd l.length 0 lo)

/-- None or an int -/
def partOf : V → Option (Option Int)
  | .none => some none
  | .int k => if k.natAbs < 2 ^ 60 then some (some k) else none
  | _ => none

def slcV (scr : List Int) (x lo hi : V) (H : Hp) : R V :=
  match partOf lo, partOf hi with
  | some l, some h => match x with
    | .tup vs => .ok (.tup (pySlice vs l h)) H
    | .ref _ | .script => match isDict H x, itemsOf scr H x with
      | none, some vs => allocL (pySlice vs l h) H
      | _, _ => .stuck
    | _ => .stuck
  | _, _ => .stuck

def insI (x : Int) : List Int → List Int
  | [] => [x]
  | y :: r => if x < y then x :: y :: r else y :: insI x r
def sortI (l : List Int) : List Int := l.foldl (fun acc x => insI x acc) []

def ltTup : List V → List V → Option Bool
  | [], [] => some false
  | [], _ :: _ => some true
  | _ :: _, [] => some false
  | .int a :: r, .int b :: t => if a = b then ltTup r t else some (decide (a < b))
  | .bool a :: r, .bool b :: t => if a = b then ltTup r t else some (decide ((a, b) = (false, true)))
  | _, _ => none

/-- `x < y` for the items that are sorted -/
def ltK (x y : V) : Option Bool :=
  match x, y with
  | .int a, .int b => some (decide (a < b))
  | .tup a, .tup b => ltTup a b
  | _, _ => none
/-- stable insertion: behind all that are not greater -/
def insK (x : V) : List V → Option (List V)
  | [] => some [x]
  | y :: r => match ltK x y with
    | some true => some (x :: y :: r)
    | some false => (insK x r).map (y :: ·)
    | none => none
def sortK : List V → Option (List V)
  | [] => some []
  | x :: r => match sortK r with
    | some s => insKF x s
    | none => none
where insKF (x : V) : List V → Option (List V)
  | [] => some [x]
  | y :: r => match ltK y x with
    | some true => (insKF x r).map (y :: ·)
    | some false => some (x :: y :: r)
    | none => none

def dedup : List V → List V
  | [] => []
  | x :: r => x :: (dedup r).filter (fun y => !(y == x))

def maxK : V → List V → Option V
  | m, [] => some m
  | m, x :: r => match ltK m x with
    | some true => maxK x r
    | some false => maxK m r
    | none => none

def allBools : List V → Option (List Bool)
  | [] => some []
  | .bool b :: r => (allBools r).map (b :: ·)
  | _ => none

def catLists (H : Hp) : List V → Option (List V)
  | [] => some []
  | .ref l :: r => match H[l]?, catLists H r with
    | some (.list vs), some ws => some (vs ++ ws)
    | _, _ => none
  | _ => none

def setOk (vs : List V) : Bool := (allInts vs).isSome || vs.all (fun v => match v with | .tup [.int _, .bool _] => true | _ => false)

def biV (scr : List Int) (b : Bi) (vs : List V) (H : Hp) : R V :=
  match b, vs with
  | .len, [x] => match itemsOf scr H x with
    | some l => .ok (.int l.length) H
    | none => .stuck
  | .isInt, [x] => match x with
    | .int _ | .bool _ => .ok (.bool true) H
    | _ => .ok (.bool false) H
  | .isBool, [x] => match x with
    | .bool _ => .ok (.bool true) H
    | _ => .ok (.bool false) H
  | .isTuple, [x] => match x with
    | .tup _ => .ok (.bool true) H
    | _ => .ok (.bool false) H
  | .isList, [x] => match x with
    | .ref l => match H[l]? with
      | some (.list _) => .ok (.bool true) H
      | some (.dict _ _) => .ok (.bool false) H
      | _ => .stuck
    | .script => .ok (.bool true) H
    | _ => .ok (.bool false) H
  | .isStr, [x] => match x with
    | .str _ => .ok (.bool true) H
    | _ => .ok (.bool false) H
  | .tupleOf, [x] => match isDict H x, itemsOf scr H x with
    | none, some l => if szOk l then .ok (.tup l) H else .stuck
    | _, _ => .stuck
  | .lenSet, [.ref l] => match H[l]? with
    | some (.list vs) => match allInts vs with
      | some _ => .ok (.int (dedup vs).length) H
      | none => .stuck
    | _ => .stuck
  | .sortedSet, [.ref l] => match H[l]? with
    | some (.list vs) => if setOk vs then match sortK (dedup vs) with
      | some s => allocL s H
      | none => .stuck
      else .stuck
    | _ => .stuck
  | .sorted, [.ref l] => match H[l]? with
    | some (.list vs) => match sortK vs with
      | some s => allocL s H
      | none => .stuck
    | _ => .stuck
  | .minL, [.ref l] => match H[l]? with
    | some (.list (x :: r)) => match allInts (x :: r) with
      | some (a :: is) => .ok (.int (is.foldl min a)) H
      | _ => .stuck
    | _ => .stuck
  | .maxL, [.ref l] => match H[l]? with
    | some (.list (x :: r)) => match maxK x r with
      | some m => .ok m H
      | none => .stuck
    | _ => .stuck
  | .min2, [.int a, .int b] => .ok (.int (min a b)) H
  | .max2, [.int a, .int b] => .ok (.int (max a b)) H
  | .sumI, [.ref l] => match H[l]? with
    | some (.list vs) => match allInts vs with
      | some is => .ok (.int is.sum) H
      | none => .stuck
    | _ => .stuck
  | .sumL, [.ref l] => match H[l]? with
    | some (.list vs) => match catLists H vs with
      | some ws => allocL ws H
      | none => .stuck
    | _ => .stuck
  | .any, [.ref l] => match H[l]? with
    | some (.list vs) => match allBools vs with
      | some bs => .ok (.bool (bs.any id)) H
      | none => .stuck
    | _ => .stuck
  | .intOf, [.bool b] => .ok (.int (if b then 1 else 0)) H
  | _, _ => .stuck

def minDV (x d : V) (H : Hp) : R V :=
  match x with
  | .ref l => match H[l]? with
    | some (.list []) => .ok d H
    | some (.list (x :: r)) => match allInts (x :: r) with
      | some (a :: is) => .ok (.int (is.foldl min a)) H
      | _ => .stuck
    | _ => .stuck
  | _ => .stuck

def countT : List Bool → Int
  | [] => 0
  | b :: r => (if b then 1 else 0) + countT r
def indexT : List Bool → Option Int
  | [] => none
  | true :: _ => some 0
  | false :: r => (indexT r).map (1 + ·)

def methV (m : Me) (x : V) (vs : List V) (H : Hp) : R V :=
  match x with
  | .ref l => match m, vs, H[l]? with
    | .append, [v], some (.list xs) => if szOk xs then .ok .none (H.set l (.list (xs ++ [v]))) else .stuck
    | .clear, [], some (.list _) => .ok .none (H.set l (.list []))
    | .reverse, [], some (.list xs) => .ok .none (H.set l (.list xs.reverse))
    | .get1, [k], some (.dict es _) => if keyOk k then .ok ((dget es k).getD .none) H else .stuck
    | .get2, [k, d], some (.dict es _) => if keyOk k then .ok ((dget es k).getD d) H else .stuck
    | .count, [.bool true], some (.list xs) => match allBools xs with
      | some bs => .ok (.int (countT bs)) H
      | none => .stuck
    | .index, [.bool true], some (.list xs) => match (allBools xs).bind indexT with
      | some k => .ok (.int k) H
      | none => .stuck
    | _, _, _ => .stuck
  | _ => .stuck

mutual
def asg : Tgt → V → Env' → Option Env'
  | .var i, v, ρ => if i < ρ.length then some (ρ.set i (some v)) else none
  | .tup ts, .tup vs, ρ => asgs ts vs ρ
  | .tup _, _, _ => none
def asgs : List Tgt → List V → Env' → Option Env'
  | [], [], ρ => some ρ
  | t :: ts, v :: vs, ρ => (asg t v ρ).bind (asgs ts vs)
  | _, _, _ => none
end

def setIdxV (x i v : V) (H : Hp) : Option Hp :=
  match x with
  | .ref l => match H[l]? with
    | some (.list xs) => match i with
      | .int k => if 0 ≤ k ∧ k < xs.length then some (H.set l (.list (xs.set k.toNat v))) else none
      | _ => none
    | some (.dict es ep) => if keyOk i && szOk es && (es.all fun p => sameKind p.1 i) then
        some (H.set l (.dict (dput es i v) (if es.any (fun p => p.1 == i) then ep else ep + 1))) else none
    | _ => none
  | _ => none
where sameKind : V → V → Bool
  | .int _, .int _ => true
  | .str _, .str _ => true
  | .tup _, .tup _ => true
  | _, _ => false

/-- what is watched while a loop goes over it -/
def watch : V → List Nat
  | .ref l => [l]
  | _ => []

def stands (ws : List Nat) (H₀ H : Hp) : Bool := ws.all fun l => decide (H[l]? = H₀[l]?)

def rangeV (a b : Int) : List V := (List.range (b - a).toNat).map fun (i : Nat) => .int (a + (i : Int))
def enumV : Nat → List V → List V
  | _, [] => []
  | k, v :: r => .tup [.int k, v] :: enumV (k + 1) r
def zipV : List V → List V → List V
  | a :: r, b :: t => .tup [a, b] :: zipV r t
  | _, _ => []

def compG (ws : List Nat) (H₀ : Hp) (t : Tgt) (test : Env' → Hp → R Bool) (elt : Env' → Hp → R V) : List V → Env' → Hp → List V → R (List V)
  | [], _, H, acc => .ok acc H
  | v :: vs, ρ, H, acc => match asg t v ρ with
    | none => .stuck
    | some ρ' => (test ρ' H).bind fun b H₁ =>
      if b then (elt ρ' H₁).bind fun y H₂ => if stands ws H₀ H₂ then compG ws H₀ t test elt vs ρ' H₂ (acc ++ [y]) else .stuck
      else if stands ws H₀ H₁ then compG ws H₀ t test elt vs ρ' H₁ acc else .stuck

/-- the keys of a sort, each by the key's own def -/
def keysG (key : V → Hp → R V) : List V → Hp → List (Int × V) → R (List (Int × V))
  | [], H, acc => .ok acc H
  | v :: vs, H, acc => (key v H).bind fun y H₁ => match y with
    | .int k => if H₁ = H then keysG key vs H₁ (acc ++ [(k, v)]) else .stuck
    | _ => .stuck
def insP (x : Int × V) : List (Int × V) → List (Int × V)
  | [] => [x]
  | y :: r => if y.1 < x.1 then y :: insP x r else x :: y :: r
def sortP : List (Int × V) → List (Int × V)
  | [] => []
  | x :: r => insP x (sortP r)

def pairUp : List V → Option (List (V × V))
  | [] => some []
  | k :: v :: r => (pairUp r).map ((k, v) :: ·)
  | _ => none

mutual
def evalE (C : Ctx) : E → Env' → Hp → R V
  | .k v, _, H => .ok v H
  | .var i, ρ, H => ofOpt H (ρ[i]?.join)
  | .gk j, _, H => ofOpt H C.gks[j]?
  | .bin op a b, ρ, H => (evalE C a ρ H).bind fun x H => (evalE C b ρ H).bind fun y H => binop op x y H
  | .neg a, ρ, H => (evalE C a ρ H).bind fun x H => match x with
    | .int i => .ok (.int (-i)) H
    | _ => .stuck
  | .not a, ρ, H => (evalE C a ρ H).bind fun x H => (ofOpt H (truthy C.scr H x)).bind fun b H => .ok (.bool (!b)) H
  | .and es, ρ, H => evalAnd C es ρ H
  | .or es, ρ, H => evalOr C es ρ H
  | .ife c a b, ρ, H => (evalE C c ρ H).bind fun x H => (ofOpt H (truthy C.scr H x)).bind fun t H => if t then evalE C a ρ H else evalE C b ρ H
  | .cmp op a b, ρ, H => (evalE C a ρ H).bind fun x H => (evalE C b ρ H).bind fun y H => (ofOpt H (cmpV C.scr op x y H)).bind fun t H => .ok (.bool t) H
  | .cmp2 a o1 b o2 c, ρ, H => (evalE C a ρ H).bind fun x H => (evalE C b ρ H).bind fun y H => (ofOpt H (cmpV C.scr o1 x y H)).bind fun t H =>
      if t then (evalE C c ρ H).bind fun z H => (ofOpt H (cmpV C.scr o2 y z H)).bind fun t H => .ok (.bool t) H else .ok (.bool false) H
  | .isNone a, ρ, H => (evalE C a ρ H).bind fun x H => .ok (.bool (x == .none)) H
  | .notNone a, ρ, H => (evalE C a ρ H).bind fun x H => .ok (.bool (!(x == .none))) H
  | .tup es, ρ, H => (evalEs C es ρ H).bind fun vs H => .ok (.tup vs) H
  | .lst es, ρ, H => (evalEs C es ρ H).bind fun vs H => alloc (.list vs) H
  | .dct es, ρ, H => (evalEs C es ρ H).bind fun vs H => (ofOpt H (pairUp vs)).bind fun kvs H => if kvs.all (fun p => keyOk p.1) && decide ((kvs.map (·.1)).Nodup) && decide (kvs.length ≤ 8) then alloc (.dict kvs kvs.length) H else .stuck
  | .idx a i, ρ, H => (evalE C a ρ H).bind fun x H => (evalE C i ρ H).bind fun y H => ofOpt H (idxV C.scr x y H)
  | .slc a lo hi, ρ, H => (evalE C a ρ H).bind fun x H => (evalO C lo ρ H).bind fun l H => (evalO C hi ρ H).bind fun h H => slcV C.scr x l h H
  | .rev a, ρ, H => (evalE C a ρ H).bind fun x H => match x with
    | .ref l => match H[l]? with
      | some (.list vs) => allocL vs.reverse H
      | _ => .stuck
    | _ => .stuck
  | .call f es, ρ, H => (evalEs C es ρ H).bind fun vs H => C.call f vs H
  | .bi b es, ρ, H => (evalEs C es ρ H).bind fun vs H => biV C.scr b vs H
  | .minD a d, ρ, H => (evalE C a ρ H).bind fun x H => (evalE C d ρ H).bind fun y H => minDV x y H
  | .meth m a es, ρ, H => (evalE C a ρ H).bind fun x H => (evalEs C es ρ H).bind fun vs H => methV m x vs H
  | .comp nl elt t it cs, ρ, H => (evalIt C it ρ H).bind fun p H =>
      (compG p.2 H t (fun ρ H => tests C cs ρ H) (fun ρ H => evalE C elt ρ H) p.1 (List.replicate nl none ++ ρ) H []).bind fun vs H => allocL vs H
  | .sortKey a body, ρ, H => (evalE C a ρ H).bind fun x H => match x with
    | .ref l => match H[l]? with
      | some (.list vs) => (keysG (fun v H => evalE C body (some v :: ρ) H) vs H []).bind fun ks H => allocL ((sortP ks).map (·.2)) H
      | _ => .stuck
    | _ => .stuck
  | .listOf it, ρ, H => (evalIt C it ρ H).bind fun p H => allocL p.1 H
def evalEs (C : Ctx) : List E → Env' → Hp → R (List V)
  | [], _, H => .ok [] H
  | e :: r, ρ, H => (evalE C e ρ H).bind fun v H => (evalEs C r ρ H).bind fun vs H => .ok (v :: vs) H
def evalO (C : Ctx) : Option E → Env' → Hp → R V
  | none, _, H => .ok .none H
  | some e, ρ, H => evalE C e ρ H
def evalAnd (C : Ctx) : List E → Env' → Hp → R V
  | [], _, _ => .stuck
  | e :: r, ρ, H => (evalE C e ρ H).bind fun x H => match r with
    | [] => .ok x H
    | _ :: _ => (ofOpt H (truthy C.scr H x)).bind fun t H => if t then evalAnd C r ρ H else .ok x H
def evalOr (C : Ctx) : List E → Env' → Hp → R V
  | [], _, _ => .stuck
  | e :: r, ρ, H => (evalE C e ρ H).bind fun x H => match r with
    | [] => .ok x H
    | _ :: _ => (ofOpt H (truthy C.scr H x)).bind fun t H => if t then .ok x H else evalOr C r ρ H
def tests (C : Ctx) : List E → Env' → Hp → R Bool
  | [], _, H => .ok true H
  | e :: r, ρ, H => (evalE C e ρ H).bind fun x H => (ofOpt H (truthy C.scr H x)).bind fun t H => if t then tests C r ρ H else .ok false H
def evalIt (C : Ctx) : It → Env' → Hp → R (List V × List Nat)
  | .of e, ρ, H => (evalE C e ρ H).bind fun x H => (ofOpt H (itemsOf C.scr H x)).bind fun vs H => .ok (vs, watch x) H
  | .range a b, ρ, H => (evalE C a ρ H).bind fun x H => (evalE C b ρ H).bind fun y H => match x, y with
    | .int i, .int j => if i.natAbs < 2 ^ 60 ∧ j.natAbs < 2 ^ 60 then .ok (rangeV i j, []) H else .stuck
    | _, _ => .stuck
  | .enum e, ρ, H => (evalE C e ρ H).bind fun x H => match isDict H x with
    | some _ => .stuck
    | none => (ofOpt H (itemsOf C.scr H x)).bind fun vs H => .ok (enumV 0 vs, watch x) H
  | .zip a b, ρ, H => (evalE C a ρ H).bind fun x H => (evalE C b ρ H).bind fun y H => match isDict H x, isDict H y with
    | none, none => (ofOpt H (itemsOf C.scr H x)).bind fun vs H => (ofOpt H (itemsOf C.scr H y)).bind fun ws H => .ok (zipV vs ws, watch x ++ watch y) H
    | _, _ => .stuck
end

def tst (C : Ctx) (e : E) (ρ : Env') (H : Hp) : R Bool := (evalE C e ρ H).bind fun x H => ofOpt H (truthy C.scr H x)

def forG (ws : List Nat) (H₀ : Hp) (t : Tgt) (body : Env' → Hp → Out) : List V → Env' → Hp → Out
  | [], ρ, H => .next ρ H
  | v :: vs, ρ, H => match asg t v ρ with
    | none => .stuck
    | some ρ' => match body ρ' H with
      | .next ρ₁ H₁ => if stands ws H₀ H₁ then forG ws H₀ t body vs ρ₁ H₁ else .stuck
      | .cont ρ₁ H₁ => if stands ws H₀ H₁ then forG ws H₀ t body vs ρ₁ H₁ else .stuck
      | .brk ρ₁ H₁ => .next ρ₁ H₁
      | .ret v H₁ => .ret v H₁
      | .err c ρ₁ H₁ => .err c ρ₁ H₁
      | .stuck => .stuck

def whileG (test : Env' → Hp → R Bool) (body : Env' → Hp → Out) : Nat → Env' → Hp → Out
  | 0, _, _ => .stuck
  | n + 1, ρ, H => (test ρ H).out ρ fun b H => if b then match body ρ H with
      | .next ρ₁ H₁ => whileG test body n ρ₁ H₁
      | .cont ρ₁ H₁ => whileG test body n ρ₁ H₁
      | .brk ρ₁ H₁ => .next ρ₁ H₁
      | .ret v H₁ => .ret v H₁
      | .err c ρ₁ H₁ => .err c ρ₁ H₁
      | .stuck => .stuck
    else .next ρ H

def weight : Env' → Nat
  | [] => 1000
  | some (.int i) :: r => i.natAbs + weight r
  | _ :: r => weight r

mutual
def execS (C : Ctx) : S → Env' → Hp → Out
  | .expr e, ρ, H => (evalE C e ρ H).out ρ fun _ H => .next ρ H
  | .asg t e, ρ, H => (evalE C e ρ H).out ρ fun v H => match asg t v ρ with
    | some ρ' => .next ρ' H
    | none => .stuck
  | .setIdx a i e, ρ, H => (evalE C e ρ H).out ρ fun v H => (evalE C a ρ H).out ρ fun x H => (evalE C i ρ H).out ρ fun k H => match setIdxV x k v H with
    | some H' => .next ρ H'
    | none => .stuck
  | .ret e, ρ, H => (evalE C e ρ H).out ρ fun v H => .ret v H
  | .ife c a b, ρ, H => (tst C c ρ H).out ρ fun t H => if t then execSs C a ρ H else execSs C b ρ H
  | .for t it body, ρ, H => (evalIt C it ρ H).out ρ fun p H => forG p.2 H t (fun ρ H => execSs C body ρ H) p.1 ρ H
  | .while c body, ρ, H => whileG (fun ρ H => tst C c ρ H) (fun ρ H => execSs C body ρ H) (weight ρ) ρ H
  | .pass, ρ, H => .next ρ H
  | .brk, ρ, H => .brk ρ H
  | .cont, ρ, H => .cont ρ H
def execSs (C : Ctx) : List S → Env' → Hp → Out
  | [], ρ, H => .next ρ H
  | s :: r, ρ, H => match execS C s ρ H with
    | .next ρ' H' => execSs C r ρ' H'
    | o => o
end

/-- a def: how many names it has, how many of them are parameters, its body -/
structure Fn where
  name : Str
  np : Nat
  nl : Nat
  body : List S

def endOut : Out → R V
  | .ret v H => .ok v H
  | .next _ H => .ok .none H
  | .err c _ H => .err c H
  | _ => .stuck

/-- a call with `n` levels of room -/
def callF (scr : List Int) (gks : List V) (fns : List Fn) : Nat → Nat → List V → Hp → R V
  | 0, _, _, _ => .stuck
  | n + 1, f, vs, H => match fns[f]? with
    | some d => if vs.length = d.np then endOut (execSs ⟨scr, gks, callF scr gks fns n⟩ d.body (vs.map some ++ List.replicate d.nl none) H) else .stuck
    | none => .stuck
end Mine

end
section
set_option autoImplicit false
set_option linter.unusedVariables false
set_option linter.unusedSimpArgs false
namespace Mine
open PySem

/-- the text's own names: defs, constants -/
structure CK where
  fns : List Str
  gks : List Str

def isVarK : Option NameKind → Bool
  | some .local => true
  | some .cell => true
  | some .free => true
  | _ => false
def isGlobK : Option NameKind → Bool
  | some .globalImplicit => true
  | _ => false

def okVar (ns : List Str) (i : Nat) (x : Str) : Bool := decide (ns.idxOf x = i) && decide (i < ns.length)
def okGlob (sc : Scope) (x : Str) : Bool := isGlobK (sc.names.lookup x) && !(x == ("__debug__" : Str))

def chkC : V → Const → Bool
  | .none, .none => true
  | .bool a, .bool b => a == b
  | .int a, .int b => a == b
  | .str a, .str b => a == b
  | _, _ => false

def opOk : BOp → Operator → Bool
  | .add, .Add => true
  | .sub, .Sub => true
  | .mul, .Mult => true
  | .fdiv, .FloorDiv => true
  | .mod, .Mod => true
  | .pow, .Pow => true
  | _, _ => false
def copOk : COp → CmpOp → Bool
  | .eq, .Eq => true
  | .ne, .NotEq => true
  | .lt, .Lt => true
  | .le, .LtE => true
  | .gt, .Gt => true
  | .ge, .GtE => true
  | _, _ => false

/-- the type that isinstance asks for -/
def isiName : Bi → Option String
  | .isInt => some "int"
  | .isBool => some "bool"
  | .isTuple => some "tuple"
  | .isList => some "list"
  | .isStr => some "str"
  | _ => none
/-- built-ins called by their own name with plain arguments -/
def biName : Bi → Option (Str × Nat)
  | .len => some ("len", 1)
  | _ => none
def meName : Me → Str
  | .append => "append"
  | .clear => "clear"
  | .get1 => "get"
  | .get2 => "get"
  | .count => "count"
  | .index => "index"
  | .reverse => "reverse"

def plainBase : Expr → Bool
  | .Call (.Name _ _) [] [] _ => false
  | _ => true

mutual
def chkT (sc : Scope) (ns : List Str) : Tgt → Expr → Bool
  | .var i, .Name x _ => okVar ns i x && (match sc.names.lookup x with | some .local => true | some .cell => true | _ => false)
  | .tup ts, .Tuple es _ _ => chkTs sc ns ts es
  | _, _ => false
def chkTs (sc : Scope) (ns : List Str) : List Tgt → List Expr → Bool
  | [], [] => true
  | t :: ts, e :: es => chkT sc ns t e && chkTs sc ns ts es
  | _, _ => false
end

mutual
def tNames : Tgt → Expr → List Str
  | .var _, .Name x _ => [x]
  | .tup ts, .Tuple es _ _ => tNamess ts es
  | _, _ => []
def tNamess : List Tgt → List Expr → List Str
  | t :: ts, e :: es => tNames t e ++ tNamess ts es
  | _, _ => []
end

/-- a comprehension's own scope, within the scope around it -/
def scIn (out : Scope) (ns : List Str) (loc : List Str) (sc : Scope) : Bool :=
  (match sc.kind with | .function => true | _ => false) && !sc.isGenerator && !sc.isCoroutine && sc.more.isEmpty &&
  decide ((sc.names.map (·.1)).Nodup) &&
  sc.names.all (fun p => match p.2 with
    | .local => p.1 == (".0" : Str) || loc.contains p.1
    | .cell => false
    | .free => ns.contains p.1 && !loc.contains p.1 && (match out.names.lookup p.1 with | some .cell => true | some .free => true | _ => false)
    | .globalImplicit => true
    | .globalExplicit => false) &&
  loc.all (fun x => match sc.names.lookup x with | some .local => true | _ => false)

def tgOk : It → Expr → Bool
  | .enum _, .Tuple .. => true
  | .zip _ _, .Tuple .. => true
  | .enum _, _ => false
  | .zip _ _, _ => false
  | _, .Tuple .. => true
  | _, .Name .. => true
  | _, _ => false

mutual
def chkE (K : CK) (sc : Scope) (ns : List Str) : E → Expr → Bool
  | .k v, .Constant c _ _ => chkC v c
  | .var i, .Name x _ => okVar ns i x && isVarK (sc.names.lookup x) && !(x == ("__debug__" : Str)) && !(x == ("__classdict__" : Str))
  | .gk j, .Name x _ => decide (K.gks[j]? = some x) && okGlob sc x
  | .bin op a b, .BinOp l o r _ => opOk op o && chkE K sc ns a l && chkE K sc ns b r
  | .neg a, .UnaryOp .USub x _ => chkE K sc ns a x
  | .not a, .UnaryOp .Not x _ => chkE K sc ns a x
  | .and es, .BoolOp .And xs _ => chkEs K sc ns es xs
  | .or es, .BoolOp .Or xs _ => chkEs K sc ns es xs
  | .ife c a b, .IfExp t x y _ => chkE K sc ns c t && chkE K sc ns a x && chkE K sc ns b y
  | .cmp op a b, .Compare l [o] [r] _ => copOk op o && chkE K sc ns a l && chkE K sc ns b r
  | .isNone a, .Compare l [.Is] [.Constant .none _ _] _ => chkE K sc ns a l
  | .notNone a, .Compare l [.IsNot] [.Constant .none _ _] _ => chkE K sc ns a l
  | .tup es, .Tuple xs _ _ => chkEs K sc ns es xs && decide (xs.length < 1000)
  | .lst es, .List xs _ => chkEs K sc ns es xs && decide (xs.length < 1000)
  | .idx a i, .Subscript v s _ => chkE K sc ns a v && chkE K sc ns i s
  | .call f es, .Call (.Name x _) xs [] _ => decide (K.fns[f]? = some x) && okGlob sc x && decide (xs.length < 20) && chkEs K sc ns es xs
  | .bi b es, .Call (.Name x _) xs [] _ =>
    okGlob sc x && (match biName b with
      | some (y, n) => x == y && decide (xs.length = n) && chkEs K sc ns es xs
      | none => match isiName b with
        | some t => x == ("isinstance" : Str) && (match es, xs with
          | [a], [e, .Name y _] => y == Str.ofString t && okGlob sc y && chkE K sc ns a e
          | _, _ => false)
        | none => false)
  | _, _ => false
def chkEs (K : CK) (sc : Scope) (ns : List Str) : List E → List Expr → Bool
  | [], [] => true
  | e :: es, x :: xs => chkE K sc ns e x && chkEs K sc ns es xs
  | _, _ => false
def chkKV (K : CK) (sc : Scope) (ns : List Str) : List E → List (Option Expr) → List Expr → Bool
  | [], [], [] => true
  | k :: e :: es, some x :: xs, y :: ys => chkE K sc ns k x && chkE K sc ns e y && chkKV K sc ns es xs ys
  | _, _, _ => false
def chkO (K : CK) (sc : Scope) (ns : List Str) : Option E → Option Expr → Bool
  | none, none => true
  | some e, some x => chkE K sc ns e x
  | _, _ => false
def chkIt (K : CK) (sc : Scope) (ns : List Str) : It → Expr → Bool
  | .range a b, .Call (.Name x _) [e] [] _ => x == ("range" : Str) && okGlob sc x && (match a with | .k (.int 0) => true | _ => false) && chkE K sc ns b e
  | .range a b, .Call (.Name x _) [e1, e2] [] _ => x == ("range" : Str) && okGlob sc x && chkE K sc ns a e1 && chkE K sc ns b e2
  | .enum a, .Call (.Name x _) [e] [] _ => x == ("enumerate" : Str) && okGlob sc x && chkE K sc ns a e
  | .zip a b, .Call (.Name x _) [e1, e2] [] _ => x == ("zip" : Str) && okGlob sc x && chkE K sc ns a e1 && chkE K sc ns b e2
  | .of e, x => chkE K sc ns e x
  | _, _ => false
end

def noPair : Expr → Expr → Bool
  | .Tuple .., .Tuple .. => false
  | _, _ => true

mutual
def chkS (K : CK) (sc : Scope) (ns : List Str) : S → Stmt → Bool
  | .expr e, .Expr x _ => chkE K sc ns e x && notComp x
  | .asg t e, .Assign [tg] x _ => chkT sc ns t tg && chkE K sc ns e x && notComp x && noPair tg x
  | .ret e, .Return (some x) _ => chkE K sc ns e x
  | .ife c a b, .If t x y _ => chkE K sc ns c t && chkSs K sc ns a x && chkSs K sc ns b y
  | .while c body, .While t b [] _ => chkE K sc ns c t && chkSs K sc ns body b
  | .pass, .Pass _ => true
  | .brk, .Break _ => true
  | .cont, .Continue _ => true
  | _, _ => false
def chkSs (K : CK) (sc : Scope) (ns : List Str) : List S → List Stmt → Bool
  | [], [] => true
  | s :: r, x :: t => chkS K sc ns s x && chkSs K sc ns r t
  | _, _ => false
def notComp : Expr → Bool
  | .ListComp .. => false
  | .SetComp .. => false
  | .DictComp .. => false
  | _ => true
end

/-- a def of the text, as far as a call reads it -/
structure Def where
  name : Str
  params : Arguments
  body : List Stmt
  scope : Scope

def plainParams (a : Arguments) (ps : List Str) : Bool :=
  a.posonlyargs.isEmpty && a.vararg.isNone && a.kwonlyargs.isEmpty && a.kw_defaults.isEmpty && a.kwarg.isNone && a.defaults.isEmpty && decide (a.args.map (·.arg) = ps)

def chkFn (K : CK) (d : Def) (ns : List Str) (f : Fn) : Bool :=
  decide (f.name = d.name) && plainParams d.params (ns.take f.np) && decide (ns.length = f.np + f.nl) && decide ns.Nodup &&
  (match d.scope.kind with | .function => true | _ => false) && !d.scope.isGenerator && !d.scope.isCoroutine && decide ((d.scope.names.map (·.1)).Nodup) &&
  d.scope.names.all (fun p => match p.2 with | .local => ns.contains p.1 | .cell => ns.contains p.1 | .globalImplicit => true | _ => false) &&
  ns.all (fun x => match d.scope.names.lookup x with | some .local => true | some .cell => true | _ => false) &&
  chkSs K d.scope ns f.body d.body
end Mine
namespace Mine
open PySem
def defOfS : Stmt → Option Def
  | .FunctionDef n a b _ _ _ sc _ _ _ => some ⟨n, a, b, sc⟩
  | _ => none
def defsOf (l : List Stmt) : List Def := l.filterMap defOfS
def chkAll (K : CK) : List Def → List (List Str) → List Fn → Bool
  | [], [], [] => true
  | d :: ds, n :: ns, f :: fs => chkFn K d n f && chkAll K ds ns fs
  | _, _, _ => false
def chkWhich (K : CK) : List Def → List (List Str) → List Fn → List Bool
  | d :: ds, n :: ns, f :: fs => chkFn K d n f :: chkWhich K ds ns fs
  | _, _, _ => []
end Mine

end
section
set_option autoImplicit false
set_option linter.unusedVariables false
set_option linter.unusedSimpArgs false
namespace Mine
open PySem

abbrev tupObj (xs : List Value) (n : Nat) : Obj := { cls := .type "tuple", data := .seq xs.toArray n }
abbrev lstObj (xs : List Value) (n : Nat) : Obj := { cls := .type "list", data := .seq xs.toArray n }

theorem nodup_inj {α : Type} {l : List α} (hn : l.Nodup) {i j : Nat} (hi : i < l.length) (hj : j < l.length) (e : l[i] = l[j]) : i = j := by
  have := List.pairwise_iff_getElem.mp hn
  rcases Nat.lt_trichotomy i j with h | h | h
  · exact absurd e (this i j hi hj h)
  · exact h
  · exact absurd e.symm (this j i hj hi h)

mutual
/-- the value `x` stands for the abstract value -/
inductive Rep (scr : Addr) (φ : List Addr) (h : Heap) : V → Value → Prop
  | none : Rep scr φ h .none .none
  | bool (b : Bool) : Rep scr φ h (.bool b) (.bool b)
  | int (i : Int) (t : Tok) : Rep scr φ h (.int i) (.int i t)
  | str (x : Str) (t : Tok) : Rep scr φ h (.str x) (.str x t)
  | tup {a : Addr} {n : Nat} {vs : List V} {xs : List Value} : h.get? a = some (tupObj xs n) → RepL scr φ h vs xs → vs.length ≤ 1000000 → Rep scr φ h (.tup vs) (.ref a)
  | ref {l : Nat} {a : Addr} : φ[l]? = some a → Rep scr φ h (.ref l) (.ref a)
  | script : Rep scr φ h .script (.ref scr)
inductive RepL (scr : Addr) (φ : List Addr) (h : Heap) : List V → List Value → Prop
  | nil : RepL scr φ h [] []
  | cons {v : V} {x : Value} {vs : List V} {xs : List Value} : Rep scr φ h v x → RepL scr φ h vs xs → RepL scr φ h (v :: vs) (x :: xs)
end

def NotTup (o : Obj) : Prop := ∀ xs n, o ≠ tupObj xs n
theorem notTup_dict {o : Obj} {es : Array DictEntry} {ep : Nat} (h : o.data = .dict es ep) : NotTup o := fun xs n e => by rw [e] at h; cases h
theorem notTup_cell {o : Obj} {v : Option Value} (h : o.data = .cell v) : NotTup o := fun xs n e => by rw [e] at h; cases h
theorem notTup_fields {o : Obj} {vs : Array Value} (h : o.data = .fields vs) : NotTup o := fun xs n e => by rw [e] at h; cases h
theorem notTup_cls {o : Obj} (h : o.cls ≠ .type "tuple") : NotTup o := fun xs n e => h (by rw [e])

structure Stp (own : List Addr) (φ : List Addr) (h : Heap) (φ' : List Addr) (h' : Heap) : Prop where
  pre : ∃ t, φ' = φ ++ t
  keep : ∀ a o, h.get? a = some o → a ∉ φ → a ∉ own → h'.get? a = some o
  fresh : ∀ a ∈ φ', a ∉ φ → h.get? a = none
  tup : ∀ a xs n, h.get? a = some (tupObj xs n) → h'.get? a = some (tupObj xs n)
  alive : ∀ a o, h.get? a = some o → ∃ o', h'.get? a = some o'

section
variable {own own' : List Addr} {scr : Addr} {φ φ' φ'' : List Addr} {h h' h'' : Heap}

theorem Stp.refl : Stp own φ h φ h := ⟨⟨[], by simp⟩, fun _ _ e _ _ => e, fun a h1 h2 => absurd h1 h2, fun _ _ _ e => e, fun _ o e => ⟨o, e⟩⟩
theorem Stp.mem {a : Addr} (S : Stp own φ h φ' h') (ha : a ∈ φ) : a ∈ φ' := by
  obtain ⟨t, rfl⟩ := S.pre
  exact List.mem_append_left _ ha
theorem Stp.notMem {a : Addr} {o : Obj} (S : Stp own φ h φ' h') (ho : h.get? a = some o) (ha : a ∉ φ) : a ∉ φ' := fun hm => by
  rw [S.fresh a hm ha] at ho; cases ho
theorem Stp.trans (S : Stp own φ h φ' h') (T : Stp own φ' h' φ'' h'') : Stp own φ h φ'' h'' := by
  refine ⟨?_, fun a o e h1 h2 => T.keep a o (S.keep a o e h1 h2) (S.notMem e h1) h2, fun a h1 h2 => ?_, fun a xs n e => T.tup a xs n (S.tup a xs n e), fun a o e => ?_⟩
  · obtain ⟨t, rfl⟩ := S.pre
    obtain ⟨u, rfl⟩ := T.pre
    exact ⟨t ++ u, by simp⟩
  · by_cases h3 : a ∈ φ'
    · exact S.fresh a h3 h2
    · have h4 := T.fresh a h1 h3
      cases h5 : h.get? a with
      | none => rfl
      | some o =>
        obtain ⟨o', e⟩ := S.alive a o h5
        rw [e] at h4; cases h4
  · obtain ⟨o', e'⟩ := S.alive a o e
    exact T.alive a o' e'
theorem Stp.sub (S : Stp own φ h φ' h') (hs : ∀ a ∈ own, a ∈ own') : Stp own' φ h φ' h' :=
  ⟨S.pre, fun a o e h1 h2 => S.keep a o e h1 fun hm => h2 (hs a hm), S.fresh, S.tup, S.alive⟩
theorem Stp.nil (S : Stp [] φ h φ' h') : Stp own φ h φ' h' := S.sub (fun _ hm => nomatch hm)
/-- own things that were not there before don't count -/
theorem Stp.drop (S : Stp own φ h φ' h') (hs : ∀ a ∈ own, a ∉ own' → h.get? a = none) : Stp own' φ h φ' h' :=
  ⟨S.pre, fun a o e h1 h2 => by
    by_cases hm : a ∈ own
    · rw [hs a hm h2] at e; cases e
    · exact S.keep a o e h1 hm, S.fresh, S.tup, S.alive⟩
theorem Stp.ext (hk : ∀ a o, h.get? a = some o → h'.get? a = some o) : Stp own φ h φ h' :=
  ⟨⟨[], by simp⟩, fun a o e _ _ => hk a o e, fun a h1 h2 => absurd h1 h2, fun a _ _ e => hk a _ e, fun a o e => ⟨o, hk a o e⟩⟩
theorem Stp.push (o : Obj) : Stp own φ h φ (h.push o) := .ext fun _ _ e => Heap.get?_push_of_some o e
/-- one object changed, that is not a tuple -/
theorem Stp.but {a : Addr} {o o' : Obj} (ha : a ∈ own ∨ a ∈ φ) (ho : h.get? a = some o) (hn : NotTup o) (ho' : h'.get? a = some o') (hs : Heap.ExtBut a h h') : Stp own φ h φ h' := by
  refine ⟨⟨[], by simp⟩, fun b o₂ e h1 h2 => ?_, fun b h1 h2 => absurd h1 h2, fun b xs n e => ?_, fun b o₂ e => ?_⟩
  · by_cases hb : b = a
    · subst hb; exact (ha.elim h2 h1).elim
    · exact hs b o₂ hb e
  · by_cases hb : b = a
    · subst hb; rw [ho] at e; exact absurd (Option.some.inj e) (hn xs n)
    · exact hs b _ hb e
  · by_cases hb : b = a
    · subst hb; exact ⟨o', ho'⟩
    · exact ⟨o₂, hs b o₂ hb e⟩

mutual
theorem Rep.mono (S : Stp own φ h φ' h') : ∀ {v : V} {x : Value}, Rep scr φ h v x → Rep scr φ' h' v x
  | _, _, .none => .none
  | _, _, .bool b => .bool b
  | _, _, .int i t => .int i t
  | _, _, .str x t => .str x t
  | _, _, .tup e r z => .tup (S.tup _ _ _ e) (RepL.mono S r) z
  | _, _, .ref e => .ref (by
      obtain ⟨t, rfl⟩ := S.pre
      rw [List.getElem?_append_left (by obtain ⟨hl, _⟩ := List.getElem?_eq_some_iff.mp e; exact hl)]; exact e)
  | _, _, .script => .script
theorem RepL.mono (S : Stp own φ h φ' h') : ∀ {vs : List V} {xs : List Value}, RepL scr φ h vs xs → RepL scr φ' h' vs xs
  | _, _, .nil => .nil
  | _, _, .cons r rs => .cons (Rep.mono S r) (RepL.mono S rs)
end
end

section
variable {scr : Addr} {φ : List Addr} {h : Heap} {vs ws : List V} {xs ys : List Value} {v : V} {x : Value}
theorem RepL.length (r : RepL scr φ h vs xs) : vs.length = xs.length := by
  induction vs generalizing xs with
  | nil => cases r; rfl
  | cons v vs ih => cases r with | cons _ r => rw [List.length_cons, List.length_cons, ih r]
theorem RepL.append (r : RepL scr φ h vs xs) (q : RepL scr φ h ws ys) : RepL scr φ h (vs ++ ws) (xs ++ ys) := by
  induction vs generalizing xs with
  | nil => cases r; exact q
  | cons v vs ih => cases r with | cons h1 r => exact .cons h1 (ih r)
theorem RepL.get {i : Nat} (r : RepL scr φ h vs xs) (e : vs[i]? = some v) : ∃ x, xs[i]? = some x ∧ Rep scr φ h v x := by
  induction vs generalizing xs i with
  | nil => simp at e
  | cons u vs ih =>
    cases r with
    | cons h1 r =>
      cases i with
      | zero => cases e; exact ⟨_, rfl, h1⟩
      | succ i => simpa using ih (i := i) r (by simpa using e)
theorem RepL.take (k : Nat) (r : RepL scr φ h vs xs) : RepL scr φ h (vs.take k) (xs.take k) := by
  induction vs generalizing xs k with
  | nil => cases r; simpa using RepL.nil
  | cons u vs ih =>
    cases r with
    | cons h1 r =>
      cases k with
      | zero => simpa using RepL.nil
      | succ k => exact .cons h1 (ih k r)
theorem RepL.drop (k : Nat) (r : RepL scr φ h vs xs) : RepL scr φ h (vs.drop k) (xs.drop k) := by
  induction vs generalizing xs k with
  | nil => cases r; simpa using RepL.nil
  | cons u vs ih =>
    cases r with
    | cons h1 r =>
      cases k with
      | zero => exact .cons h1 r
      | succ k => exact ih k r
theorem RepL.one (r : Rep scr φ h v x) : RepL scr φ h [v] [x] := .cons r .nil
theorem RepL.reverse (r : RepL scr φ h vs xs) : RepL scr φ h vs.reverse xs.reverse := by
  induction vs generalizing xs with
  | nil => cases r; exact .nil
  | cons u vs ih =>
    cases r with
    | cons h1 r => rw [List.reverse_cons, List.reverse_cons]; exact (ih r).append (.one h1)
theorem RepL.set (r : RepL scr φ h vs xs) (k : Nat) (q : Rep scr φ h v x) : RepL scr φ h (vs.set k v) (xs.set k x) := by
  induction vs generalizing xs k with
  | nil => cases r; exact .nil
  | cons u vs ih =>
    cases r with
    | cons h1 r =>
      cases k with
      | zero => exact .cons q r
      | succ k => exact .cons h1 (ih r k)
theorem RepL.ints {ns : List Int} (r : RepL scr φ h (ns.map .int) xs) : ∃ ts : List Tok, ts.length = ns.length ∧ xs = (ns.zip ts).map fun p => Value.int p.1 p.2 := by
  induction ns generalizing xs with
  | nil => cases r; exact ⟨[], rfl, rfl⟩
  | cons n ns ih =>
    cases r with
    | cons h1 r =>
      cases h1
      rename_i t
      obtain ⟨ts, e1, rfl⟩ := ih r
      exact ⟨t :: ts, by simp [e1], by simp⟩
end

/-- what stays the same through a whole run: the heap ahead of it, where the script lies, how keys are hashed -/
structure Wo where
  h₀ : Heap
  scr : Addr
  hsh : V → Int

def EntRep (W : Wo) (φ : List Addr) (h : Heap) (p : V × V) (e : DictEntry) : Prop := Rep W.scr φ h p.1 e.key ∧ Rep W.scr φ h p.2 e.val ∧ e.hash = W.hsh p.1
inductive EntsRep (W : Wo) (φ : List Addr) (h : Heap) : List (V × V) → List DictEntry → Prop
  | nil : EntsRep W φ h [] []
  | cons {p : V × V} {e : DictEntry} {ps : List (V × V)} {es : List DictEntry} : EntRep W φ h p e → EntsRep W φ h ps es → EntsRep W φ h (p :: ps) (e :: es)

def uniform (es : List (V × V)) : Bool := es.all (fun p => keyOk p.1) && (es.all (fun p => match p.1 with | .int _ => true | _ => false) || es.all (fun p => match p.1 with | .str _ => true | _ => false) || es.all (fun p => match p.1 with | .tup _ => true | _ => false))

def CellAt (W : Wo) (φ : List Addr) (h : Heap) (a : Addr) : Cell → Prop
  | .list vs => ∃ xs n, h.get? a = some (lstObj xs n) ∧ RepL W.scr φ h vs xs ∧ vs.length ≤ 1000000
  | .dict _ _ => False
  | .inst _ _ => False

structure SR (W : Wo) (φ : List Addr) (H : Hp) (h : Heap) : Prop where
  keep : ∀ a o, W.h₀.get? a = some o → h.get? a = some o
  fresh : ∀ a ∈ φ, W.h₀.get? a = none
  nodup : φ.Nodup
  len : φ.length = H.length
  cell : ∀ (l : Nat) (c : Cell), H[l]? = some c → ∃ a, φ[l]? = some a ∧ CellAt W φ h a c

section
variable {W : Wo} {own φ φ' : List Addr} {h h' : Heap} {H : Hp}
theorem EntsRep.mono (S : Stp own φ h φ' h') {ps : List (V × V)} {es : List DictEntry} (r : EntsRep W φ h ps es) : EntsRep W φ' h' ps es := by
  induction r with
  | nil => exact .nil
  | cons p _ ih => exact .cons ⟨p.1.mono S, p.2.1.mono S, p.2.2⟩ ih
theorem CellAt.mono {a : Addr} {c : Cell} (S : Stp own φ h φ' h') (ha : ∀ o, h.get? a = some o → h'.get? a = some o) (r : CellAt W φ h a c) : CellAt W φ' h' a c := by
  cases c with
  | list vs => obtain ⟨xs, n, e, q, z⟩ := r; exact ⟨xs, n, ha _ e, q.mono S, z⟩
  | dict es ep => exact r.elim
  | inst _ _ => exact r.elim
theorem CellAt.obj {a : Addr} {c : Cell} (r : CellAt W φ h a c) : ∃ o, h.get? a = some o ∧ NotTup o := by
  cases c with
  | list vs => obtain ⟨xs, n, e, _⟩ := r; exact ⟨_, e, fun _ _ e => by simp at e⟩
  | dict es ep => exact r.elim
  | inst _ _ => exact r.elim
theorem SR.lt {l : Nat} (R : SR W φ H h) (hl : l < φ.length) : ∃ c, H[l]? = some c := ⟨H[l]'(R.len ▸ hl), by simp⟩
theorem SR.obj {a : Addr} (R : SR W φ H h) (ha : a ∈ φ) : ∃ o, h.get? a = some o ∧ NotTup o := by
  obtain ⟨l, hl, rfl⟩ := List.getElem_of_mem ha
  obtain ⟨c, hc⟩ := R.lt hl
  obtain ⟨b, hb, r⟩ := R.cell l c hc
  have : φ[l] = b := by rw [List.getElem?_eq_getElem hl] at hb; exact Option.some.inj hb
  rw [this]; exact r.obj
/-- all else stays -/
theorem SR.ext (R : SR W φ H h) (hk : ∀ a o, h.get? a = some o → h'.get? a = some o) : SR W φ H h' :=
  ⟨fun a o e => hk a o (R.keep a o e), R.fresh, R.nodup, R.len, fun l c e => let ⟨a, ha, r⟩ := R.cell l c e; ⟨a, ha, r.mono (own := []) (.ext hk) fun o => hk a o⟩⟩
/-- an object apart changed -/
theorem SR.but {b : Addr} {o o' : Obj} (R : SR W φ H h) (hb : b ∉ φ) (h0 : W.h₀.get? b = none) (ho : h.get? b = some o) (hn : NotTup o) (ho' : h'.get? b = some o') (hs : Heap.ExtBut b h h') : SR W φ H h' := by
  have S : Stp [b] φ h φ h' := .but (.inl (by simp)) ho hn ho' hs
  refine ⟨fun a o e => hs a o (fun e' => by subst e'; rw [h0] at e; cases e) (R.keep a o e), R.fresh, R.nodup, R.len, fun l c e => ?_⟩
  obtain ⟨a, ha, r⟩ := R.cell l c e
  exact ⟨a, ha, r.mono S fun o e => hs a o (fun e' => hb (e' ▸ List.mem_of_getElem? ha)) e⟩
/-- a new cell -/
theorem SR.alloc {o : Obj} {c : Cell} (R : SR W φ H h) (hf : o.isFreed = false) (hc : CellAt W (φ ++ [h.objs.size]) (h.push o) h.objs.size c) : SR W (φ ++ [h.objs.size]) (H ++ [c]) (h.push o) := by
  have hnew : h.get? h.objs.size = none := by
    cases e : h.get? h.objs.size with
    | none => rfl
    | some o => exact absurd (Heap.lt_size e) (Nat.lt_irrefl _)
  have hnm : h.objs.size ∉ φ := fun hm => by
    obtain ⟨o, e, _⟩ := R.obj hm
    rw [hnew] at e; cases e
  have S : Stp [] φ h (φ ++ [h.objs.size]) (h.push o) := by
    refine ⟨⟨_, rfl⟩, fun a o' e _ _ => Heap.get?_push_of_some o e, fun a h1 h2 => ?_, fun a _ _ e => Heap.get?_push_of_some o e, fun a o' e => ⟨o', Heap.get?_push_of_some o e⟩⟩
    rcases List.mem_append.mp h1 with h1 | h1
    · exact absurd h1 h2
    · rw [List.mem_singleton.mp h1]; exact hnew
  refine ⟨fun a o' e => Heap.get?_push_of_some o (R.keep a o' e), ?_, ?_, by simp [R.len], fun l c' e => ?_⟩
  · intro a ha
    rcases List.mem_append.mp ha with ha | ha
    · exact R.fresh a ha
    · rw [List.mem_singleton.mp ha]
      cases e : W.h₀.get? h.objs.size with
      | none => rfl
      | some o => rw [R.keep _ _ e] at hnew; cases hnew
  · rw [List.nodup_append]
    exact ⟨R.nodup, by simp, fun a ha b hb e => hnm (by rw [List.mem_singleton] at hb; rw [← hb, ← e]; exact ha)⟩
  · by_cases hl : l < H.length
    · rw [List.getElem?_append_left hl] at e
      obtain ⟨a, ha, r⟩ := R.cell l c' e
      exact ⟨a, by rw [List.getElem?_append_left (by rw [R.len]; exact hl)]; exact ha, r.mono S fun o' e => Heap.get?_push_of_some o e⟩
    · have e2 : l = H.length := by
        have := (List.getElem?_eq_some_iff.mp e).1
        simp at this; omega
      subst e2
      rw [List.getElem?_append_right (Nat.le_refl _)] at e
      simp at e
      subst e
      exact ⟨h.objs.size, by rw [← R.len, List.getElem?_append_right (Nat.le_refl _)]; simp, hc⟩
theorem SR.allocStp (R : SR W φ H h) (o : Obj) : Stp own φ h (φ ++ [h.objs.size]) (h.push o) := by
  refine ⟨⟨_, rfl⟩, fun a o' e _ _ => Heap.get?_push_of_some o e, fun a h1 h2 => ?_, fun a _ _ e => Heap.get?_push_of_some o e, fun a o' e => ⟨o', Heap.get?_push_of_some o e⟩⟩
  rcases List.mem_append.mp h1 with h1 | h1
  · exact absurd h1 h2
  · rw [List.mem_singleton.mp h1]
    cases e : h.get? h.objs.size with
    | none => rfl
    | some o => exact absurd (Heap.lt_size e) (Nat.lt_irrefl _)
/-- a cell changed -/
theorem SR.set {l : Nat} {a : Addr} {c : Cell} (R : SR W φ H h) (ha : φ[l]? = some a) (hs : Heap.ExtBut a h h') (hc : CellAt W φ h' a c) : SR W φ (H.set l c) h' := by
  have hm := List.mem_of_getElem? ha
  obtain ⟨o, ho, hn⟩ := R.obj hm
  obtain ⟨o', ho', _⟩ := hc.obj
  have S : Stp [] φ h φ h' := .but (.inr hm) ho hn ho' hs
  refine ⟨fun b o e => hs b o (fun e' => by subst e'; rw [R.fresh _ hm] at e; cases e) (R.keep b o e), R.fresh, R.nodup, by simp [R.len], fun k c' e => ?_⟩
  by_cases hk : k = l
  · subst hk
    have hlt : k < H.length := by rw [← R.len]; exact (List.getElem?_eq_some_iff.mp ha).1
    rw [List.getElem?_set_self hlt] at e
    cases e
    exact ⟨a, ha, hc⟩
  · rw [List.getElem?_set_ne (Ne.symm hk)] at e
    obtain ⟨b, hb, r⟩ := R.cell k c' e
    refine ⟨b, hb, r.mono S fun o e => hs b o (fun e' => hk ?_) e⟩
    subst e'
    have h1 := (List.getElem?_eq_some_iff.mp ha)
    have h2 := (List.getElem?_eq_some_iff.mp hb)
    exact nodup_inj R.nodup h2.1 h1.1 (h2.2.trans h1.2.symm)
end
end Mine

end
section
set_option autoImplicit false
set_option linter.unusedVariables false
set_option linter.unusedSimpArgs false
namespace Mine
open PySem

def lk (ns : List Str) (ρ : Env') (x : Str) : Option V := (ρ[ns.idxOf x]?).join

inductive OptRep (scr : Addr) (φ : List Addr) (h : Heap) : Option V → Option Value → Prop
  | none : OptRep scr φ h none none
  | some {v : V} {x : Value} : Rep scr φ h v x → OptRep scr φ h (some v) (some x)

theorem OptRep.mono {own : List Addr} {scr : Addr} {φ φ' : List Addr} {h h' : Heap} (S : Stp own φ h φ' h') {v : Option V} {x : Option Value} (r : OptRep scr φ h v x) : OptRep scr φ' h' v x := by
  cases r with
  | none => exact .none
  | some r => exact .some (r.mono S)

def isCellK (k : Option NameKind) : Prop := k = some .cell ∨ k = some .free

structure FR (W : Wo) (env : Env) (ns : List Str) (ρ : Env') (φ : List Addr) (h : Heap) : Prop where
  fn : env.scope.kind = .function
  glob : env.globals = mainGlobals
  blt : env.builtins = builtinsNs
  gen : env.scope.isGenerator = false ∧ env.scope.isCoroutine = false ∧ interactive env = false
  len : ρ.length = ns.length
  loc : ∃ m, h.Ns env.locals m ∧ ∀ x ∈ ns, env.kindOf x = some .local → OptRep W.scr φ h (lk ns ρ x) (m x)
  locA : env.locals ∉ φ ∧ W.h₀.get? env.locals = none
  cel : ∀ x ∈ ns, isCellK (env.kindOf x) → ∃ c v, env.cells.lookup x = some c ∧ c ∉ φ ∧ c ≠ env.locals ∧ W.h₀.get? c = none ∧ h.IsCell c v ∧ OptRep W.scr φ h (lk ns ρ x) v
  apart : ∀ x y c, env.cells.lookup x = some c → env.cells.lookup y = some c → x = y
  alive : ∀ p ∈ env.cells, p.2 ∉ φ ∧ ∃ o, h.get? p.2 = some o

section
variable {W : Wo} {env : Env} {ns : List Str} {ρ : Env'} {own φ φ' : List Addr} {h h' : Heap}

theorem Ns_at {h h' : Heap} {a : Addr} {m : Str → Option Value} (hn : h.Ns a m) (e : ∀ o, h.get? a = some o → h'.get? a = some o) : h'.Ns a m :=
  let ⟨o, es, ep, x, r⟩ := hn; ⟨o, es, ep, e _ x, r⟩
theorem IsCell_at {h h' : Heap} {a : Addr} {v : Option Value} (hn : h.IsCell a v) (e : ∀ o, h.get? a = some o → h'.get? a = some o) : h'.IsCell a v :=
  let ⟨o, x, r⟩ := hn; ⟨o, e _ x, r⟩

/-- what others do leaves the frame as it is -/
theorem FR.mono (F : FR W env ns ρ φ h) (S : Stp own φ h φ' h') (hL : env.locals ∉ own) (hC : ∀ x c, env.cells.lookup x = some c → c ∉ own) : FR W env ns ρ φ' h' := by
  obtain ⟨m, hm, hr⟩ := F.loc
  obtain ⟨o, es, ep, ho, _⟩ := id hm
  have eL : ∀ o, h.get? env.locals = some o → h'.get? env.locals = some o := fun o e => S.keep _ o e F.locA.1 hL
  refine ⟨F.fn, F.glob, F.blt, F.gen, F.len, ?_, ⟨S.notMem ho F.locA.1, F.locA.2⟩, ?_, F.apart, fun p hp => ?_⟩
  · exact ⟨m, Ns_at hm eL, fun x hx hk => (hr x hx hk).mono S⟩
  · intro x hx hk
    obtain ⟨c, v, h1, h2, h3, h4, h5, h6⟩ := F.cel x hx hk
    obtain ⟨o, ho, _⟩ := id h5
    have eC : ∀ o, h.get? c = some o → h'.get? c = some o := fun o e => S.keep _ o e h2 (hC x c h1)
    exact ⟨c, v, h1, S.notMem ho h2, h3, h4, IsCell_at h5 eC, h6.mono S⟩
  · obtain ⟨q1, o, q2⟩ := F.alive p hp
    exact ⟨S.notMem q2 q1, S.alive _ _ q2⟩
theorem FR.mono0 (F : FR W env ns ρ φ h) (S : Stp [] φ h φ' h') : FR W env ns ρ φ' h' := F.mono S (by simp) (by simp)

theorem lk_set {i : Nat} {x y : Str} {v : Option V} (hx : ns.idxOf x = i) (hi : i < ρ.length) : lk ns (ρ.set i v) y = if ns.idxOf y = i then v else lk ns ρ y := by
  unfold lk
  by_cases e : ns.idxOf y = i
  · rw [if_pos e, e, List.getElem?_set_self hi]; rfl
  · rw [if_neg e, List.getElem?_set_ne (Ne.symm e)]

theorem idxOf_inj {x y : Str} (hx : x ∈ ns) (hy : y ∈ ns) (e : ns.idxOf x = ns.idxOf y) : x = y := by
  have h1 := List.idxOf_lt_length_of_mem hx
  have h2 := List.idxOf_lt_length_of_mem hy
  have e1 : ns[ns.idxOf x]? = some x := by rw [List.getElem?_eq_getElem h1]; simp
  have e2 : ns[ns.idxOf y]? = some y := by rw [List.getElem?_eq_getElem h2]; simp
  rw [e] at e1
  exact Option.some.inj (e1.symm.trans e2)
end
end Mine

end
section
set_option autoImplicit false
set_option linter.unusedVariables false
set_option linter.unusedSimpArgs false
namespace Mine
open PySem PySem.Calls

def biTable : List (Str × Value) := [("len", .builtin "len"), ("isinstance", .builtin "isinstance"), ("int", .type "int"), ("bool", .type "bool"), ("tuple", .type "tuple"), ("list", .type "list"), ("str", .type "str"),
  ("range", .type "range"), ("enumerate", .type "enumerate"), ("zip", .type "zip"), ("set", .type "set"), ("sorted", .builtin "sorted"), ("min", .builtin "min"), ("max", .builtin "max"), ("sum", .builtin "sum"), ("any", .builtin "any")]

structure Gl (W : Wo) (prog : Program) (w : World) (K : CK) (defs : List Def) (gkv : List V) (scr : List Int) (mg mb : Str → Option Value) : Prop where
  g : W.h₀.Ns mainGlobals mg
  b : W.h₀.Ns builtinsNs mb
  bi : ∀ p ∈ biTable, mg p.1 = none ∧ mb p.1 = some p.2
  fn : ∀ (f : Nat) (x : Str), K.fns[f]? = some x → ∃ a o d pm cd doc, defs[f]? = some d ∧ d.name = x ∧ mg x = some (.ref a) ∧ W.h₀.get? a = some o ∧
    o.data = .func (docDef d.name d.params d.body d.scope pm cd doc) ∧ W.h₀.CodeRec cd d.name
  gk : ∀ (j : Nat) (x : Str), K.gks[j]? = some x → ∃ v y, gkv[j]? = some v ∧ mg x = some y ∧ Rep W.scr [] W.h₀ v y
  nolimit : W.h₀.NoLimit
  seer : W.h₀.NoSeer
  tree : prog.given.tree = none
  script : ∃ xs : List Value, W.h₀.IsList W.scr xs.toArray ∧ RepL W.scr [] W.h₀ (scr.map .int) xs
  short : scr.length ≤ 1000

structure Room (A : Around) (n : Nat) : Prop where
  depth : A.depth + n + 110 ≤ recursionLimit
  units : A.units + 4 * n + 200 ≤ cLine
  handled : A.handled = none
  frames : ∃ fe outer, A.frames = some (fe :: outer) ∧ fe.scope.isGenerator = false ∧ fe.scope.isCoroutine = false ∧ fe.builtins = builtinsNs ∧ fe.globals = mainGlobals

def PostV (W : Wo) (φ : List Addr) (s : Shared) (Q : Value → Shared → Prop) : R V → Prop
  | .ok v H => ∀ φ' h' tk x, SR W φ' H h' → Stp [] φ s.heap φ' h' → Rep W.scr φ' h' v x → Q x { s with heap := h', toks := tk }
  | _ => False
def PostL (W : Wo) (φ : List Addr) (s : Shared) (Q : List Value → Shared → Prop) : R (List V) → Prop
  | .ok vs H => ∀ φ' h' tk xs, SR W φ' H h' → Stp [] φ s.heap φ' h' → RepL W.scr φ' h' vs xs → Q xs { s with heap := h', toks := tk }
  | _ => False
def PostB (W : Wo) (φ : List Addr) (s : Shared) (Q : Bool → Shared → Prop) : R Bool → Prop
  | .ok b H => ∀ φ' h' tk, SR W φ' H h' → Stp [] φ s.heap φ' h' → Q b { s with heap := h', toks := tk }
  | _ => False

section
variable {W : Wo} {φ φ₁ : List Addr} {s : Shared} {h₁ : Heap} {tk : Nat}
theorem PostV.step {Q : Value → Shared → Prop} {r : R V} (p : PostV W φ s Q r) (S : Stp [] φ s.heap φ₁ h₁) : PostV W φ₁ { s with heap := h₁, toks := tk } Q r := by
  cases r with
  | ok v H => exact fun φ' h' tk x r1 r2 r3 => p φ' h' tk x r1 (S.trans r2) r3
  | err _ _ => exact p
  | stuck => exact p
theorem PostL.step {Q : List Value → Shared → Prop} {r : R (List V)} (p : PostL W φ s Q r) (S : Stp [] φ s.heap φ₁ h₁) : PostL W φ₁ { s with heap := h₁, toks := tk } Q r := by
  cases r with
  | ok v H => exact fun φ' h' tk x r1 r2 r3 => p φ' h' tk x r1 (S.trans r2) r3
  | err _ _ => exact p
  | stuck => exact p
theorem PostB.step {Q : Bool → Shared → Prop} {r : R Bool} (p : PostB W φ s Q r) (S : Stp [] φ s.heap φ₁ h₁) : PostB W φ₁ { s with heap := h₁, toks := tk } Q r := by
  cases r with
  | ok v H => exact fun φ' h' tk r1 r2 => p φ' h' tk r1 (S.trans r2)
  | err _ _ => exact p
  | stuck => exact p
/-- the value is there, nothing has happened but tokens and things apart -/
theorem PostV.now {Q : Value → Shared → Prop} {v : V} {H : Hp} {x : Value} (p : PostV W φ s Q (.ok v H)) (R : SR W φ H s.heap) (r : Rep W.scr φ s.heap v x) (tk : Nat) : Q x { s with toks := tk } :=
  p φ s.heap tk x R .refl r
theorem PostB.now {Q : Bool → Shared → Prop} {b : Bool} {H : Hp} (p : PostB W φ s Q (.ok b H)) (R : SR W φ H s.heap) (tk : Nat) : Q b { s with toks := tk } :=
  p φ s.heap tk R .refl
theorem PostV.later {Q : Value → Shared → Prop} {v : V} {H : Hp} {x : Value} (p : PostV W φ s Q (.ok v H)) (R : SR W φ H s.heap) (hk : ∀ a o, s.heap.get? a = some o → h₁.get? a = some o) (r : Rep W.scr φ s.heap v x) (tk : Nat) : Q x { s with heap := h₁, toks := tk } :=
  p φ h₁ tk x (R.ext hk) (.ext hk) (r.mono (own := []) (.ext hk))
end

def kEq (a b : Option NameKind) : Prop := a = b ∨ (isCellK a ∧ isCellK b)
def Kinds (sc : Scope) (env : Env) : Prop := ∀ x, kEq (sc.names.lookup x) (env.kindOf x)

theorem Kinds.glob {sc : Scope} {env : Env} (k : Kinds sc env) {x : Str} (h : okGlob sc x = true) : env.kindOf x = some .globalImplicit ∧ (x == ("__debug__" : Str)) = false := by
  unfold okGlob at h
  simp only [Bool.and_eq_true, Bool.not_eq_true'] at h
  refine ⟨?_, h.2⟩
  have h1 := h.1
  rcases k x with e | ⟨e, _⟩
  · rw [← e]
    revert h1
    cases sc.names.lookup x with
    | none => simp [isGlobK]
    | some k => cases k <;> simp [isGlobK]
  · rcases e with e | e <;> rw [e] at h1 <;> simp [isGlobK] at h1

/-- what is fixed for a whole law: `n` levels of call are left -/
structure Fix where
  prog : Program
  w : World
  W : Wo
  K : CK
  defs : List Def
  scr : List Int
  mg : Str → Option Value
  mb : Str → Option Value

abbrev Fix.M (X : Fix) : Model := model X.prog X.w
def Fix.Gl (X : Fix) (C : Ctx) : Prop := Mine.Gl X.W X.prog X.w X.K X.defs C.gks X.scr X.mg X.mb ∧ C.scr = X.scr

/-- calls of the text's own defs come back as the interpreter says -/
def Fix.CallOk (X : Fix) (C : Ctx) (n : Nat) : Prop :=
  ∀ (A : Around) (f : Nat) (x : Str) (a : Addr) (vs : List V) (H : Hp) (φ : List Addr) (s : Shared) (xs : List Value) (Q : Value → Shared → Prop) (Ex : Value → Shared → Prop),
    Room A n → X.K.fns[f]? = some x → X.mg x = some (.ref a) → SR X.W φ H s.heap → RepL X.W.scr φ s.heap vs xs → PostV X.W φ s Q (C.call f vs H) → wpAny X.M A (call (.ref a) xs) Q Ex s

def EvS (X : Fix) (C : Ctx) (n : Nat) (sc : Scope) (ns : List Str) (c : E) (e : Expr) : Prop :=
  ∀ (A : Around) (env : Env) (ρ : Env') (φ : List Addr) (H : Hp) (s : Shared) (Q : Value → Shared → Prop) (Ex : Value → Shared → Prop),
    Room A n → Kinds sc env → FR X.W env ns ρ φ s.heap → SR X.W φ H s.heap → PostV X.W φ s Q (evalE C c ρ H) → wpAny X.M A (eval e env) Q Ex s
def TrS (X : Fix) (C : Ctx) (n : Nat) (sc : Scope) (ns : List Str) (c : E) (e : Expr) : Prop :=
  ∀ (A : Around) (env : Env) (ρ : Env') (φ : List Addr) (H : Hp) (s : Shared) (Q : Bool → Shared → Prop) (Ex : Value → Shared → Prop),
    Room A n → Kinds sc env → FR X.W env ns ρ φ s.heap → SR X.W φ H s.heap → PostB X.W φ s Q (tst C c ρ H) → wpAny X.M A (isTrue e env (eval e env)) Q Ex s
end Mine

end
section
set_option autoImplicit false
set_option linter.unusedVariables false
set_option linter.unusedSimpArgs false
namespace Mine
open PySem PySem.Calls PyProof.Rows

section
variable {prog : Program} {w : World} {A : Around} {E : Value → Shared → Prop} {s : Shared} {W : Wo} {φ : List Addr} {H : Hp}

theorem tupAt {scr : Addr} {h : Heap} {vs : List V} {x : Value} (r : Rep scr φ h (.tup vs) x) : ∃ a xs n, x = .ref a ∧ h.get? a = some (tupObj xs n) ∧ RepL scr φ h vs xs ∧ vs.length ≤ 1000000 := by
  cases r with
  | tup e q z => exact ⟨_, _, _, rfl, e, q, z⟩
theorem isTup_of {h : Heap} {a : Addr} {xs : List Value} {n : Nat} (e : h.get? a = some (tupObj xs n)) : IsTup h a xs.toArray := ⟨_, e, rfl, n, rfl⟩
theorem isList_of {h : Heap} {a : Addr} {xs : List Value} {n : Nat} (e : h.get? a = some (lstObj xs n)) : h.IsList a xs.toArray := ⟨_, e, rfl, n, rfl⟩
theorem refAt {scr : Addr} {h : Heap} {l : Nat} {x : Value} (r : Rep scr φ h (.ref l) x) : ∃ a, x = .ref a ∧ φ[l]? = some a := by
  cases r with
  | ref e => exact ⟨_, rfl, e⟩
theorem listAt {l : Nat} {x : Value} {vs : List V} (R : SR W φ H s.heap) (r : Rep W.scr φ s.heap (.ref l) x) (e : H[l]? = some (.list vs)) :
    ∃ a xs n, x = .ref a ∧ φ[l]? = some a ∧ s.heap.get? a = some (lstObj xs n) ∧ RepL W.scr φ s.heap vs xs ∧ vs.length ≤ 1000000 := by
  obtain ⟨a, rfl, ha⟩ := refAt r
  obtain ⟨b, hb, xs, n, h1, h2, h3⟩ := R.cell l _ e
  rw [ha] at hb; cases hb
  exact ⟨a, xs, n, rfl, ha, h1, h2, h3⟩
theorem repInt {scr : Addr} {h : Heap} {i : Int} {x : Value} (r : Rep scr φ h (.int i) x) : ∃ t, x = .int i t := by cases r; exact ⟨_, rfl⟩
theorem repBool {scr : Addr} {h : Heap} {b : Bool} {x : Value} (r : Rep scr φ h (.bool b) x) : x = .bool b := by cases r; rfl
theorem repNone {scr : Addr} {h : Heap} {x : Value} (r : Rep scr φ h .none x) : x = .none := by cases r; rfl
theorem repStr {scr : Addr} {h : Heap} {y : Str} {x : Value} (r : Rep scr φ h (.str y) x) : ∃ t, x = .str y t := by cases r; exact ⟨_, rfl⟩
theorem small_of_len {xs : List Value} {vs : List V} {scr : Addr} {h : Heap} (r : RepL scr φ h vs xs) (hz : vs.length ≤ 1000000) : (xs.toArray.size : Int) < 2 ^ 63 := by
  rw [List.size_toArray, ← r.length]; omega
end

section
variable {X : Fix} {C : Ctx} {A : Around} {n : Nat} {Ex : Value → Shared → Prop} {s : Shared} {φ : List Addr} {H : Hp}

theorem Gl.keep (G : X.Gl C) (R : SR X.W φ H s.heap) : ∃ xs : List Value, s.heap.IsList X.W.scr xs.toArray ∧ RepL X.W.scr φ s.heap (C.scr.map .int) xs ∧ C.scr.length ≤ 1000 := by
  obtain ⟨xs, ⟨o, e, e2⟩, r⟩ := G.1.script
  refine ⟨xs, ⟨o, R.keep _ _ e, e2⟩, ?_, by rw [G.2]; exact G.1.short⟩
  rw [G.2]
  have S : Stp [] [] X.W.h₀ φ s.heap := ⟨⟨φ, by simp⟩, fun a o e _ _ => R.keep a o e, fun a ha _ => R.fresh a ha, fun a xs n e => R.keep a _ e, fun a o e => ⟨o, R.keep a o e⟩⟩
  exact r.mono S

theorem noDict (R : SR X.W φ H s.heap) (v : V) : isDict H v = none := by
  unfold isDict
  split
  · split
    · rename_i l es ep hl
      obtain ⟨b, hb, q⟩ := R.cell _ _ hl
      exact q.elim
    · rfl
  · rfl
/-- truth of a value -/
theorem truthy_snd {v : V} {x : Value} {b : Bool} {Q : Bool → Shared → Prop} (G : X.Gl C) (R : SR X.W φ H s.heap) (r : Rep X.W.scr φ s.heap v x) (e : truthy C.scr H v = some b)
    (hQ : ∀ tk, Q b { s with toks := tk }) : wpAny X.M A (PySem.truthy x) Q Ex s := by
  cases v with
  | none => cases r; cases e; exact PyProof.Rows.truthy_none (hQ s.toks)
  | bool b' => cases r; cases e; exact wpAny_truthy_bool (hQ s.toks)
  | int i => cases r; cases e; exact PyProof.Rows.truthy_int (hQ s.toks)
  | str _ => cases e
  | tup vs =>
    obtain ⟨a, xs, n, rfl, h1, h2, h3⟩ := tupAt r
    refine truthy_tuple (isTup_of h1) (small_of_len h2 h3) ?_
    have : b = !xs.toArray.isEmpty := by
      have := h2.length
      cases e
      cases vs <;> cases xs <;> simp_all
    rw [← this]; exact hQ _
  | ref l =>
    simp only [truthy] at e
    split at e
    · rename_i vs hl
      obtain ⟨a, xs, n, rfl, _, h1, h2, h3⟩ := listAt R r hl
      refine wpAny_truthy_list (isList_of h1) (small_of_len h2 h3) ?_
      have : b = !xs.toArray.isEmpty := by
        have := h2.length
        cases e
        cases vs <;> cases xs <;> simp_all
      rw [← this]; exact hQ _
    · rename_i es ep hl
      obtain ⟨b, hb, q⟩ := R.cell _ _ hl
      exact q.elim
    · cases e
  | script =>
    cases r
    obtain ⟨xs, h1, h2, h3⟩ := Gl.keep G R
    refine wpAny_truthy_list h1 (small_of_len h2 (by simp; omega)) ?_
    have : b = !xs.toArray.isEmpty := by
      have := h2.length
      cases e
      cases hs : C.scr <;> cases xs <;> simp_all
    rw [← this]; exact hQ _

theorem room_frames (rm : Room A n) : A.depth + 110 ≤ recursionLimit := by have := rm.depth; omega

theorem pylong (G : X.Gl C) (R : SR X.W φ H s.heap) (rm : Room A n) : PylongRoom X.M A s := by
  obtain ⟨fe, outer, h1, h2, h3, h4, h5⟩ := rm.frames
  refine PylongRoom.of (G.1.nolimit.keeps R.keep) (by have := rm.depth; show A.depth + 100 < _; omega) ?_
  exact SeerAt.of (G.1.seer.keeps R.keep) G.1.tree h1 h2 h3 h4 h5

theorem binop_int {op : BOp} {o : Operator} {a b : Int} {t u : Tok} {v : V} {H' : Hp} {Q : Value → Shared → Prop} (G : X.Gl C) (R : SR X.W φ H s.heap) (rm : Room A n) (ho : opOk op o = true)
    (e : binop op (.int a) (.int b) H = .ok v H') (hQ : ∀ tk i t, v = .int i → H' = H → Q (.int i t) { s with toks := tk }) : wpAny X.M A (binaryOp o (.int a t) (.int b u)) Q Ex s := by
  cases op <;> cases o <;> first | (cases ho; done) | skip
  · cases e; exact PyProof.Rows.add_int (hQ _ _ _ rfl rfl)
  · cases e; exact PyProof.Rows.sub_int (hQ _ _ _ rfl rfl)
  · unfold binop at e
    dsimp only at e
    split at e
    · rename_i hm
      cases e
      refine PyProof.Rows.mul_int (hQ _ _ _ rfl rfl) ?_
      unfold mulOk at hm
      unfold IntMulOk
      intro hc
      rw [hc] at hm
      cases hm
    · cases e
  · unfold binop at e
    dsimp only at e
    split at e
    · cases e
    · rename_i hb
      cases e
      exact PyProof.Rows.floordiv_int hb (hQ _ _ _ rfl rfl) (.inr (pylong G R rm))
  · unfold binop at e
    dsimp only at e
    split at e
    · cases e
    · rename_i hb
      cases e
      exact PyProof.Rows.mod_int' hb (hQ _ _ _ rfl rfl)
  · unfold binop at e
    dsimp only at e
    split at e
    · rename_i hb
      cases e
      exact PyProof.Rows.pow_int_small hb.1 (by omega) (by omega) (hQ _ _ _ rfl rfl)
    · cases e
end
end Mine

end
section
set_option autoImplicit false
set_option linter.unusedVariables false
set_option linter.unusedSimpArgs false
namespace Mine
open PySem PySem.Calls PyProof.Rows

section
variable {X : Fix} {C : Ctx} {A : Around} {n : Nat} {Ex : Value → Shared → Prop} {s : Shared} {φ : List Addr} {H : Hp}

theorem rdL_snd {f : V → Option PyData} {m : Nat} (hf : ∀ v d x, f v = some d → Rep X.W.scr φ s.heap v x → ∃ as, Reads s.heap x d as ∧ d.canLay0 = true ∧ d.depth ≤ m) :
    ∀ (vs : List V) (ds : List PyData) (xs : List Value), rdL f vs = some ds → RepL X.W.scr φ s.heap vs xs → ∃ as, ReadsAll s.heap xs ds as ∧ PyData.canLayAll0 ds = true ∧ PyData.depthAll ds ≤ m
  | [], ds, xs, e, r => by
    cases e; cases r
    exact ⟨_, .nil, by simp [PyData.canLayAll0], by simp [PyData.depthAll]⟩
  | v :: vs, ds, xs, e, r => by
    cases r with
    | cons r1 r2 =>
      rw [rdL] at e
      cases e1 : f v with
      | none => rw [e1] at e; cases e
      | some d =>
        cases e2 : rdL f vs with
        | none => rw [e1, e2] at e; cases e
        | some ds' =>
          rw [e1, e2] at e
          cases e
          obtain ⟨as, h1, h2, h3⟩ := hf v d _ e1 r1
          obtain ⟨bs, q1, q2, q3⟩ := rdL_snd hf vs ds' _ e2 r2
          refine ⟨_, .cons h1 q1, by simp [PyData.canLayAll0, h2, q2], ?_⟩
          rw [PyData.depthAll]; omega

theorem rd_snd (G : X.Gl C) (R : SR X.W φ H s.heap) : ∀ (m : Nat) (v : V) (d : PyData) (x : Value), rd C.scr m H v = some d → Rep X.W.scr φ s.heap v x →
    ∃ as, Reads s.heap x d as ∧ d.canLay0 = true ∧ d.depth ≤ m := by
  intro m
  induction m with
  | zero =>
    intro v d x e r
    cases v <;> simp [rd] at e
    · cases r; subst e; exact ⟨_, .none, by simp [PyData.canLay0], by simp [PyData.depth]⟩
    · cases r; subst e; exact ⟨_, .bool _, by simp [PyData.canLay0], by simp [PyData.depth]⟩
    · cases r; subst e; exact ⟨_, .int _ _, by simp [PyData.canLay0], by simp [PyData.depth]⟩
    · cases r; obtain ⟨e1, rfl⟩ := e; exact ⟨_, .str _ _, by simp [PyData.canLay0, e1], by simp [PyData.depth]⟩
  | succ m ih =>
    intro v d x e r
    cases v with
    | none => cases r; simp [rd] at e; subst e; exact ⟨_, .none, by simp [PyData.canLay0], by simp [PyData.depth]⟩
    | bool b => cases r; simp [rd] at e; subst e; exact ⟨_, .bool _, by simp [PyData.canLay0], by simp [PyData.depth]⟩
    | int i => cases r; simp [rd] at e; subst e; exact ⟨_, .int _ _, by simp [PyData.canLay0], by simp [PyData.depth]⟩
    | str y => cases r; simp [rd] at e; obtain ⟨e1, rfl⟩ := e; exact ⟨_, .str _ _, by simp [PyData.canLay0, e1], by simp [PyData.depth]⟩
    | tup vs =>
      obtain ⟨a, xs, k, rfl, h1, h2, h3⟩ := tupAt r
      rw [rd] at e
      obtain ⟨ds, e1, rfl⟩ := Option.map_eq_some_iff.mp e
      obtain ⟨as, q1, q2, q3⟩ := rdL_snd (fun v d x => ih v d x) vs ds xs e1 h2
      exact ⟨_, reads_tuple_at h1 rfl rfl (by simpa using q1), by simp [PyData.canLay0, q2], by rw [PyData.depth]; omega⟩
    | ref l =>
      rw [rd] at e
      split at e
      · rename_i vs hl
        obtain ⟨a, xs, k, rfl, _, h1, h2, h3⟩ := listAt R r hl
        obtain ⟨ds, e1, rfl⟩ := Option.map_eq_some_iff.mp e
        obtain ⟨as, q1, q2, q3⟩ := rdL_snd (fun v d x => ih v d x) vs ds xs e1 h2
        exact ⟨_, reads_list_at h1 rfl rfl (by simpa using q1), by simp [PyData.canLay0, q2], by rw [PyData.depth]; omega⟩
      · cases e
    | script =>
      cases r
      obtain ⟨xs, ⟨o, h1, h1c, k, h1d⟩, h2, h3⟩ := Gl.keep G R
      rw [rd] at e
      cases e
      have e1 : rdL (fun v => match v with | .int i => some (.int i) | _ => none) (C.scr.map V.int) = some (C.scr.map PyData.int) := by
        clear h2 h3
        induction C.scr with
        | nil => rfl
        | cons i r ih => rw [List.map_cons, rdL, ih]; rfl
      obtain ⟨as, q1, q2, q3⟩ := rdL_snd (m := 0) (fun v d x e r => by
        cases v <;> simp at e
        subst e
        cases r
        exact ⟨_, .int _ _, by simp [PyData.canLay0], by simp [PyData.depth]⟩) _ _ _ e1 h2
      exact ⟨_, reads_list_at h1 h1c h1d (by simpa using q1), by simp [PyData.canLay0, q2], by rw [PyData.depth]; omega⟩

theorem shaped_of {d : PyData} (h1 : d.canLay0 = true) (h2 : d.depth ≤ 10) : SeqAt.shaped d = true := by
  unfold SeqAt.shaped; rw [h1, Bool.true_and]; exact decide_eq_true (by omega)

theorem units_of (rm : Room A n) : A.units + 64 < cLine := by have := rm.units; omega

theorem eqV_snd {op : COp} {o : CmpOp} {v u : V} {x y : Value} {b : Bool} {Q : Value → Shared → Prop} (G : X.Gl C) (R : SR X.W φ H s.heap) (rm : Room A n) (ho : copOk op o = true) (hop : op = .eq ∨ op = .ne)
    (r1 : Rep X.W.scr φ s.heap v x) (r2 : Rep X.W.scr φ s.heap u y) (e : cmpV C.scr op v u H = some b) (hQ : ∀ tk, Q (.bool b) { s with toks := tk }) : wpAny X.M A (compareOp o x y) Q Ex s := by
  have key : (isDict H v = none ∧ isDict H u = none) ∨ ¬ (isDict H v = none ∧ isDict H u = none) := Classical.em _
  rcases key with ⟨d1, d2⟩ | hd
  · rcases hop with rfl | rfl <;> cases o <;> simp [copOk] at ho <;> simp only [cmpV, eqV, d1, d2] at e
    · split at e
      · rename_i da db e1 e2
        obtain ⟨as, q1, q2, q3⟩ := rd_snd G R 10 v da x e1 r1
        obtain ⟨bs, p1, p2, p3⟩ := rd_snd G R 10 u db y e2 r2
        cases e
        exact eq_dataH q1 p1 (shaped_of q2 q3) (shaped_of p2 p3) (units_of rm) (hQ s.toks)
      · cases e
    · split at e
      · rename_i da db e1 e2
        obtain ⟨as, q1, q2, q3⟩ := rd_snd G R 10 v da x e1 r1
        obtain ⟨bs, p1, p2, p3⟩ := rd_snd G R 10 u db y e2 r2
        cases e
        exact ne_dataH q1 p1 (shaped_of q2 q3) (shaped_of p2 p3) (units_of rm) (hQ s.toks)
      · cases e
  · exact absurd ⟨noDict R v, noDict R u⟩ hd

/-- `in` over a tuple or a list -/
theorem inV_snd {op : COp} {o : CmpOp} {v u : V} {x y : Value} {b : Bool} {Q : Value → Shared → Prop} (G : X.Gl C) (R : SR X.W φ H s.heap) (rm : Room A n) (ho : copOk op o = true) (hop : op = .isIn ∨ op = .notIn)
    (r1 : Rep X.W.scr φ s.heap v x) (r2 : Rep X.W.scr φ s.heap u y) (e : cmpV C.scr op v u H = some b) (hQ : ∀ tk, Q (.bool b) { s with toks := tk }) : wpAny X.M A (compareOp o x y) Q Ex s := by
  rcases hop with rfl | rfl <;> cases o <;> simp [copOk] at ho

theorem cmp_snd {op : COp} {o : CmpOp} {v u : V} {x y : Value} {b : Bool} {Q : Value → Shared → Prop} (G : X.Gl C) (R : SR X.W φ H s.heap) (rm : Room A n) (ho : copOk op o = true)
    (r1 : Rep X.W.scr φ s.heap v x) (r2 : Rep X.W.scr φ s.heap u y) (e : cmpV C.scr op v u H = some b) (hQ : ∀ tk, Q (.bool b) { s with toks := tk }) : wpAny X.M A (compareOp o x y) Q Ex s := by
  cases op with
  | eq => exact eqV_snd G R rm ho (.inl rfl) r1 r2 e hQ
  | ne => exact eqV_snd G R rm ho (.inr rfl) r1 r2 e hQ
  | isIn => exact inV_snd G R rm ho (.inl rfl) r1 r2 e hQ
  | notIn => exact inV_snd G R rm ho (.inr rfl) r1 r2 e hQ
  | lt =>
    cases o <;> simp [copOk] at ho
    simp only [cmpV, ltV] at e
    split at e
    · cases r1; cases r2; cases e; exact PyProof.Rows.lt_int (hQ s.toks)
    · cases e
  | le =>
    cases o <;> simp [copOk] at ho
    simp only [cmpV] at e
    split at e
    · cases r1; cases r2; cases e; exact PyProof.Rows.le_int (hQ s.toks)
    · cases e
  | gt =>
    cases o <;> simp [copOk] at ho
    simp only [cmpV] at e
    split at e
    · cases r1; cases r2; cases e; exact PyProof.Rows.gt_int (hQ s.toks)
    · cases e
  | ge =>
    cases o <;> simp [copOk] at ho
    simp only [cmpV] at e
    split at e
    · cases r1; cases r2; cases e; exact PyProof.Rows.ge_int (hQ s.toks)
    · cases e
end
end Mine

end
section
set_option autoImplicit false
set_option linter.unusedVariables false
set_option linter.unusedSimpArgs false
namespace Mine
open PySem PySem.Calls PyProof.Rows

section
variable {X : Fix} {C : Ctx} {A : Around} {n : Nat} {Ex : Value → Shared → Prop} {s : Shared} {φ : List Addr} {H : Hp} {sc : Scope} {ns : List Str} {env : Env} {ρ : Env'}

/-- tests of a plain kind: the value, then its truth -/
def plainTest : Expr → Bool
  | .UnaryOp .Not _ _ => false
  | .BoolOp _ _ _ => false
  | .IfExp _ _ _ _ => false
  | .Compare _ _ _ _ => false
  | _ => true

theorem isTrue_plainTest {e : Expr} (h : plainTest e = true) (whole : Sem Value) : isTrue e env whole = (do let v ← whole; standAt e.pos; holding [v] (PySem.truthy v)) := by
  cases e <;> first | rfl | (cases h; done) | skip
  rename_i op x p
  cases op <;> first | rfl | cases h

theorem TrS.of {c : E} {e : Expr} (G : X.Gl C) (h : plainTest e = true) (ev : EvS X C n sc ns c e) : TrS X C n sc ns c e := by
  intro A env ρ φ H s Q Ex rm kd F R p
  refine wpAny_isTrue_value (ev A env ρ φ H s _ Ex rm kd F R ?_) (isTrue_plainTest h _)
  unfold tst at p
  cases hr : evalE C c ρ H with
  | ok v H1 =>
    rw [hr] at p
    intro φ' h' tk x R1 S1 r1
    change PostB X.W φ s Q (ofOpt H1 (truthy C.scr H1 v)) at p
    cases ht : truthy C.scr H1 v with
    | none => rw [ht] at p; exact p.elim
    | some b =>
      rw [ht] at p
      exact truthy_snd (s := { s with heap := h', toks := tk }) G R1 r1 ht fun tk' => p φ' h' tk' R1 S1
  | err _ _ => rw [hr] at p; exact p.elim
  | stuck => rw [hr] at p; exact p.elim

theorem okVar_spec {i : Nat} {x : Str} (h : okVar ns i x = true) : ns.idxOf x = i ∧ x ∈ ns := by
  unfold okVar at h
  simp only [Bool.and_eq_true, decide_eq_true_eq] at h
  refine ⟨h.1, ?_⟩
  rw [← h.1] at h
  exact List.idxOf_lt_length_iff.mp h.2

theorem var_snd {i : Nat} {x : Str} {pos : Pos} (h : chkE X.K sc ns (.var i) (.Name x pos) = true) : EvS X C n sc ns (.var i) (.Name x pos) := by
  intro A env ρ φ H s Q Ex rm kd F R p
  rw [chkE] at h
  simp only [Bool.and_eq_true, Bool.not_eq_true'] at h
  obtain ⟨⟨⟨h1, h2⟩, h3⟩, h9⟩ := h
  obtain ⟨hi, hx⟩ := okVar_spec h1
  rw [evalE] at p
  have hl : lk ns ρ x = ρ[i]?.join := by unfold lk; rw [hi]
  rw [← hl] at p
  cases hv : lk ns ρ x with
  | none => rw [hv] at p; exact p.elim
  | some v =>
    rw [hv] at p
    refine wpAny_Name ?_ h3
    have hk := kd x
    have key : env.kindOf x = some .local ∨ isCellK (env.kindOf x) := by
      rcases hk with e | ⟨_, e⟩
      · rw [← e]
        revert h2
        cases sc.names.lookup x with
        | none => simp [isVarK]
        | some k => cases k <;> simp [isVarK, isCellK]
      · exact .inr e
    rcases key with hk | hk
    · obtain ⟨m, hm, hr⟩ := F.loc
      have hr := hr x hx hk
      rw [hv] at hr
      generalize hmx : m x = mx at hr
      cases hr with
      | some r => exact wpAny_loadName_local F.fn hk hm hmx (p.now R r s.toks)
    · obtain ⟨c, v', h4, _, _, _, h5, hr⟩ := F.cel x hx hk
      rw [hv] at hr
      cases hr with
      | some r =>
        rcases hk with hk | hk
        · exact wpAny_loadName_cell F.fn hk h4 h5 (p.now R r s.toks)
        · exact wpAny_loadName_free F.fn hk h4 h5 (p.now R r s.toks) h9

theorem glob_fn {f : Nat} {x : Str} {pos : Pos} {Q : Value → Shared → Prop} (G : X.Gl C) (kd : Kinds sc env) (F : FR X.W env ns ρ φ s.heap) (R : SR X.W φ H s.heap) (h1 : X.K.fns[f]? = some x) (h2 : okGlob sc x = true)
    (hQ : ∀ a, X.mg x = some (.ref a) → Q (.ref a) s) : wpAny X.M A (eval (.Name x pos) env) Q Ex s := by
  obtain ⟨a, o, d, pm, cd, doc, e1, e2, e3, _⟩ := G.1.fn f x h1
  obtain ⟨k1, k2⟩ := kd.glob h2
  exact Name_function_global F.fn k1 (loadGlobal_global (by rw [F.glob]; exact G.1.g.keeps R.keep) e3 (hQ a e3)) k2
theorem glob_bi {x : Str} {v : Value} {pos : Pos} {Q : Value → Shared → Prop} (G : X.Gl C) (kd : Kinds sc env) (F : FR X.W env ns ρ φ s.heap) (R : SR X.W φ H s.heap) (h1 : (x, v) ∈ biTable) (h2 : okGlob sc x = true)
    (hQ : Q v s) : wpAny X.M A (eval (.Name x pos) env) Q Ex s := by
  obtain ⟨e1, e2⟩ := G.1.bi _ h1
  obtain ⟨k1, k2⟩ := kd.glob h2
  exact Name_function_global F.fn k1 (loadGlobal_builtin (by rw [F.glob]; exact G.1.g.keeps R.keep) e1 (by rw [F.blt]; exact G.1.b.keeps R.keep) e2 hQ) k2
theorem glob_k {j : Nat} {x : Str} {pos : Pos} {Q : Value → Shared → Prop} (G : X.Gl C) (kd : Kinds sc env) (F : FR X.W env ns ρ φ s.heap) (R : SR X.W φ H s.heap) (h1 : X.K.gks[j]? = some x) (h2 : okGlob sc x = true)
    (hQ : ∀ v y, C.gks[j]? = some v → Rep X.W.scr φ s.heap v y → Q y s) : wpAny X.M A (eval (.Name x pos) env) Q Ex s := by
  obtain ⟨v, y, e1, e2, e3⟩ := G.1.gk j x h1
  obtain ⟨k1, k2⟩ := kd.glob h2
  have S : Stp [] [] X.W.h₀ φ s.heap := ⟨⟨φ, by simp⟩, fun a o e _ _ => R.keep a o e, fun a ha _ => R.fresh a ha, fun a xs n e => R.keep a _ e, fun a o e => ⟨o, R.keep a o e⟩⟩
  exact Name_function_global F.fn k1 (loadGlobal_global (by rw [F.glob]; exact G.1.g.keeps R.keep) e2 (hQ v y e1 (e3.mono S))) k2

theorem isi_mem {b : Bi} {t : String} (ht : isiName b = some t) : (Str.ofString t, Value.type t) ∈ biTable := by
  cases b <;> simp [isiName] at ht <;> subst ht <;> simp [biTable]

/-- isinstance of the fragment's values -/
theorem isi_snd {b : Bi} {t : String} {v : V} {x : Value} {r : V} {H' : Hp} {Q : Value → Shared → Prop} (G : X.Gl C) (R : SR X.W φ H s.heap) (ht : isiName b = some t)
    (rv : Rep X.W.scr φ s.heap v x) (e : biV C.scr b [v] H = .ok r H') (hQ : ∀ tk b', r = .bool b' → H' = H → Q (.bool b') { s with toks := tk }) : wpAny X.M A (call (.builtin "isinstance") [x, .type t]) Q Ex s := by
  have hl : ∀ l, v = .ref l → ∃ a, x = .ref a ∧ ((∃ vs xs k, H[l]? = some (.list vs) ∧ s.heap.get? a = some (lstObj xs k)) ∨ (∃ es ep o, H[l]? = some (.dict es ep) ∧ s.heap.get? a = some o ∧ o.cls = .type "dict")) := by
    intro l hv
    subst hv
    obtain ⟨a, rfl, ha⟩ := refAt rv
    obtain ⟨c, hc⟩ := R.lt (List.getElem?_eq_some_iff.mp ha).1
    obtain ⟨b', hb, r'⟩ := R.cell l c hc
    rw [ha] at hb; cases hb
    cases c with
    | list vs => obtain ⟨xs, k, q, _⟩ := r'; exact ⟨a, rfl, .inl ⟨vs, xs, k, hc, q⟩⟩
    | dict es ep => exact r'.elim
    | inst _ _ => exact r'.elim
  cases b <;> simp [isiName] at ht <;> subst ht
  · cases v with
    | none => cases rv; cases e; exact IsiPair.NoneType_int (hQ _ _ rfl rfl)
    | bool b => cases rv; cases e; exact IsiPair.bool_int (hQ s.toks _ rfl rfl)
    | int i => cases rv; cases e; exact IsiPair.int_int (hQ s.toks _ rfl rfl)
    | str y => cases rv; cases e; exact IsiPair.str_int (hQ _ _ rfl rfl)
    | tup vs => obtain ⟨a, xs, k, rfl, h1, _⟩ := tupAt rv; cases e; exact IsiPair.tuple_int h1 rfl (hQ _ _ rfl rfl)
    | ref l =>
      obtain ⟨a, rfl, ⟨vs, xs, k, h0, h1⟩ | ⟨es, ep, o, h0, h1, h2⟩⟩ := hl l rfl
      · cases e; exact IsiPair.list_int h1 rfl (hQ _ _ rfl rfl)
      · cases e; exact IsiPair.dict_int h1 h2 (hQ _ _ rfl rfl)
    | script => cases rv; obtain ⟨xs, ⟨o, h1, h1c, _⟩, _⟩ := Gl.keep G R; cases e; exact IsiPair.list_int h1 h1c (hQ _ _ rfl rfl)
  · cases v with
    | none => cases rv; cases e; exact IsiPair.NoneType_bool (hQ _ _ rfl rfl)
    | bool b => cases rv; cases e; exact IsiPair.bool_bool (hQ s.toks _ rfl rfl)
    | int i => cases rv; cases e; exact IsiPair.int_bool (hQ _ _ rfl rfl)
    | str y => cases rv; cases e; exact IsiPair.str_bool (hQ _ _ rfl rfl)
    | tup vs => obtain ⟨a, xs, k, rfl, h1, _⟩ := tupAt rv; cases e; exact IsiPair.tuple_bool h1 rfl (hQ _ _ rfl rfl)
    | ref l =>
      obtain ⟨a, rfl, ⟨vs, xs, k, h0, h1⟩ | ⟨es, ep, o, h0, h1, h2⟩⟩ := hl l rfl
      · cases e; exact IsiPair.list_bool h1 rfl (hQ _ _ rfl rfl)
      · cases e; exact IsiPair.dict_bool h1 h2 (hQ _ _ rfl rfl)
    | script => cases rv; obtain ⟨xs, ⟨o, h1, h1c, _⟩, _⟩ := Gl.keep G R; cases e; exact IsiPair.list_bool h1 h1c (hQ _ _ rfl rfl)
  · cases v with
    | none => cases rv; cases e; exact IsiPair.NoneType_tuple (hQ _ _ rfl rfl)
    | bool b => cases rv; cases e; exact IsiPair.bool_tuple (hQ _ _ rfl rfl)
    | int i => cases rv; cases e; exact IsiPair.int_tuple (hQ _ _ rfl rfl)
    | str y => cases rv; cases e; exact IsiPair.str_tuple (hQ _ _ rfl rfl)
    | tup vs => obtain ⟨a, xs, k, rfl, h1, _⟩ := tupAt rv; cases e; exact IsiPair.tuple_tuple h1 rfl (hQ s.toks _ rfl rfl)
    | ref l =>
      obtain ⟨a, rfl, ⟨vs, xs, k, h0, h1⟩ | ⟨es, ep, o, h0, h1, h2⟩⟩ := hl l rfl
      · cases e; exact IsiPair.list_tuple h1 rfl (hQ _ _ rfl rfl)
      · cases e; exact IsiPair.dict_tuple h1 h2 (hQ _ _ rfl rfl)
    | script => cases rv; obtain ⟨xs, ⟨o, h1, h1c, _⟩, _⟩ := Gl.keep G R; cases e; exact IsiPair.list_tuple h1 h1c (hQ _ _ rfl rfl)
  · cases v with
    | none => cases rv; cases e; exact IsiPair.NoneType_list (hQ _ _ rfl rfl)
    | bool b => cases rv; cases e; exact IsiPair.bool_list (hQ _ _ rfl rfl)
    | int i => cases rv; cases e; exact IsiPair.int_list (hQ _ _ rfl rfl)
    | str y => cases rv; cases e; exact IsiPair.str_list (hQ _ _ rfl rfl)
    | tup vs => obtain ⟨a, xs, k, rfl, h1, _⟩ := tupAt rv; cases e; exact IsiPair.tuple_list h1 rfl (hQ _ _ rfl rfl)
    | ref l =>
      obtain ⟨a, rfl, ⟨vs, xs, k, h0, h1⟩ | ⟨es, ep, o, h0, h1, h2⟩⟩ := hl l rfl
      · simp only [biV, h0] at e; cases e; exact IsiPair.list_list h1 rfl (hQ s.toks _ rfl rfl)
      · simp only [biV, h0] at e; cases e; exact IsiPair.dict_list h1 h2 (hQ _ _ rfl rfl)
    | script => cases rv; obtain ⟨xs, ⟨o, h1, h1c, _⟩, _⟩ := Gl.keep G R; cases e; exact IsiPair.list_list h1 h1c (hQ s.toks _ rfl rfl)
  · cases v with
    | none => cases rv; cases e; exact IsiPair.NoneType_str (hQ _ _ rfl rfl)
    | bool b => cases rv; cases e; exact IsiPair.bool_str (hQ _ _ rfl rfl)
    | int i => cases rv; cases e; exact IsiPair.int_str (hQ _ _ rfl rfl)
    | str y => cases rv; cases e; exact IsiPair.str_str (hQ s.toks _ rfl rfl)
    | tup vs => obtain ⟨a, xs, k, rfl, h1, _⟩ := tupAt rv; cases e; exact IsiPair.tuple_str h1 rfl (hQ _ _ rfl rfl)
    | ref l =>
      obtain ⟨a, rfl, ⟨vs, xs, k, h0, h1⟩ | ⟨es, ep, o, h0, h1, h2⟩⟩ := hl l rfl
      · cases e; exact IsiPair.list_str h1 rfl (hQ _ _ rfl rfl)
      · cases e; exact IsiPair.dict_str h1 h2 (hQ _ _ rfl rfl)
    | script => cases rv; obtain ⟨xs, ⟨o, h1, h1c, _⟩, _⟩ := Gl.keep G R; cases e; exact IsiPair.list_str h1 h1c (hQ _ _ rfl rfl)

/-- the items of a tuple, a list, the script -/
theorem items_at {v : V} {x : Value} {vs : List V} (G : X.Gl C) (R : SR X.W φ H s.heap) (rv : Rep X.W.scr φ s.heap v x) (hd : isDict H v = none) (e : itemsOf C.scr H v = some vs) :
    ∃ a xs, x = .ref a ∧ RepL X.W.scr φ s.heap vs xs ∧ vs.length ≤ 1000000 ∧ (IsTup s.heap a xs.toArray ∧ (∃ k, s.heap.get? a = some (tupObj xs k)) ∧ v = .tup vs ∨ s.heap.IsList a xs.toArray ∧ (∀ us, v ≠ .tup us)) := by
  cases v with
  | tup us => cases e; obtain ⟨a, xs, k, rfl, h1, h2, h3⟩ := tupAt rv; exact ⟨a, xs, rfl, h2, h3, .inl ⟨isTup_of h1, ⟨k, h1⟩, rfl⟩⟩
  | ref l =>
    simp only [itemsOf] at e
    split at e
    · rename_i us hl
      cases e
      obtain ⟨a, xs, k, rfl, _, h1, h2, h3⟩ := listAt R rv hl
      exact ⟨a, xs, rfl, h2, h3, .inr ⟨isList_of h1, fun _ e => nomatch e⟩⟩
    · rename_i es ep hl
      simp [isDict, hl] at hd
    · cases e
  | script =>
    cases rv
    cases e
    obtain ⟨xs, h1, h2, h3⟩ := Gl.keep G R
    exact ⟨_, xs, rfl, h2, by simp; omega, .inr ⟨h1, fun _ e => nomatch e⟩⟩
  | _ => cases e

theorem seqAt_spec {vs : List V} {xs : List Value} {k : Int} {v : V} {scr : Addr} {h : Heap} (r : RepL scr φ h vs xs) (e : seqAt vs k = some v) : ∃ j x, seqIndex? k xs.length = some j ∧ xs[j]? = some x ∧ Rep scr φ h v x ∧
    ((0 ≤ k ∧ j = k.toNat) ∨ (k < 0 ∧ -(xs.length : Int) ≤ k ∧ j = (k + xs.length).toNat)) := by
  unfold seqAt at e
  have hl := r.length
  split at e
  · rename_i h0
    obtain ⟨x, hx, hr⟩ := r.get e
    have hlt := (List.getElem?_eq_some_iff.mp hx).1
    refine ⟨k.toNat, x, ?_, hx, hr, .inl ⟨h0, rfl⟩⟩
    unfold seqIndex?
    have h1 : ¬ k < 0 := by omega
    simp only [h1, if_false]
    rw [if_pos (by simp only [Bool.and_eq_true, decide_eq_true_eq]; omega)]
  · split at e
    · rename_i h0 h1
      rw [hl] at e h1
      obtain ⟨x, hx, hr⟩ := r.get e
      have hlt := (List.getElem?_eq_some_iff.mp hx).1
      refine ⟨(k + xs.length).toNat, x, ?_, hx, hr, .inr ⟨by omega, h1, rfl⟩⟩
      unfold seqIndex?
      have h2 : k < 0 := by omega
      simp only [h2, if_true]
      rw [if_pos (by simp only [Bool.and_eq_true, decide_eq_true_eq]; omega)]
    · cases e

/-- a subscript that is no slice -/
def notSlice : Expr → Bool
  | .Slice .. => false
  | _ => true
theorem subscripted_plain {e : Expr} (h : notSlice e = true) (o i : Value) : subscripted e false o i = operate [o, i] (getItem o i) := by
  cases e <;> first | rfl | cases h

theorem idx_snd {v i : V} {x y : Value} {u : V} {value slice : Expr} {Q : Value → Shared → Prop} (G : X.Gl C) (R : SR X.W φ H s.heap) (rm : Room A n) (hs : notSlice slice = true) (rv : Rep X.W.scr φ s.heap v x) (ri : Rep X.W.scr φ s.heap i y)
    (e : idxV C.scr v i H = some u) (hQ : ∀ tk z, Rep X.W.scr φ s.heap u z → Q z { s with toks := tk }) : wpAny X.M A (subscriptTail value slice x y) Q Ex s := by
  unfold idxV at e
  cases hd : isDict H v with
  | some es => rw [noDict R v] at hd; cases hd
  | none =>
    rw [hd] at e
    dsimp only at e
    split at e
    · rename_i vs k hv
      cases ri
      rename_i t
      obtain ⟨a, xs, rfl, h1, h2, h3⟩ := items_at G R rv hd hv
      obtain ⟨j, z, q1, q2, q3, q4⟩ := seqAt_spec h1 e
      have hxl := h1.length
      have hjl := (List.getElem?_eq_some_iff.mp q2).1
      have hk : -(1000000 : Int) ≤ k ∧ k ≤ 1000000 := by rcases q4 with ⟨q4, rfl⟩ | ⟨q4, q5, rfl⟩ <;> omega
      rcases h3 with ⟨h3, _, _⟩ | ⟨h3, _⟩
      · exact item_tupleT h3 (by omega) (by omega) q1 q2 (hQ s.toks z q3) (subscripted_plain hs _ _)
      · refine tail_any h3.typeIs PySem.slot_list_getitem.lookup ?_ (subscripted_plain hs _ _)
        rcases q4 with ⟨q4, rfl⟩ | ⟨q4, q5, rfl⟩
        · exact wpAny_getItem_list h3 q4 (by omega) (by simpa using q2) (hQ s.toks z q3)
        · exact wpAny_getItem_list_neg h3 q4 (by simpa using q5) (by omega) (by simpa using q2) (hQ s.toks z q3)
    · cases e
end
end Mine

end
section
set_option autoImplicit false
set_option linter.unusedVariables false
set_option linter.unusedSimpArgs false
namespace Mine
open PySem PySem.Calls PyProof.Rows

section
variable {X : Fix} {C : Ctx} {A : Around} {n : Nat} {Ex : Value → Shared → Prop} {s : Shared} {φ : List Addr} {H : Hp} {sc : Scope} {ns : List Str} {env : Env} {ρ : Env'}

/-- a list of expressions: as arguments, as the parts of `and`, `or`, as the tests of a comprehension -/
structure LsS (X : Fix) (C : Ctx) (n : Nat) (sc : Scope) (ns : List Str) (cs : List E) (es : List Expr) : Prop where
  spl : ∀ (A : Around) (env : Env) (ρ : Env') (φ : List Addr) (H : Hp) (s : Shared) (Q : List Value → Shared → Prop) (Ex : Value → Shared → Prop) (pos : Pos),
    Room A n → Kinds sc env → FR X.W env ns ρ φ s.heap → SR X.W φ H s.heap → PostL X.W φ s Q (evalEs C cs ρ H) → wpAny X.M A (spliced (backTo pos (starEach es env))) Q Ex s
  plain : ∀ (env : Env) (pos : Pos), (backTo pos (starEach es env)).any (·.1) = false
  and : ∀ (A : Around) (env : Env) (ρ : Env') (φ : List Addr) (H : Hp) (s : Shared) (Q : Value → Shared → Prop) (Ex : Value → Shared → Prop) (pos : Pos),
    Room A n → Kinds sc env → FR X.W env ns ρ φ s.heap → SR X.W φ H s.heap → PostV X.W φ s Q (evalAnd C cs ρ H) → wpAny X.M A (eval (.BoolOp .And es pos) env) Q Ex s
  or : ∀ (A : Around) (env : Env) (ρ : Env') (φ : List Addr) (H : Hp) (s : Shared) (Q : Value → Shared → Prop) (Ex : Value → Shared → Prop) (pos : Pos),
    Room A n → Kinds sc env → FR X.W env ns ρ φ s.heap → SR X.W φ H s.heap → PostV X.W φ s Q (evalOr C cs ρ H) → wpAny X.M A (eval (.BoolOp .Or es pos) env) Q Ex s
  andT : ∀ (A : Around) (env : Env) (ρ : Env') (φ : List Addr) (H : Hp) (s : Shared) (Q : Bool → Shared → Prop) (Ex : Value → Shared → Prop),
    Room A n → Kinds sc env → FR X.W env ns ρ φ s.heap → SR X.W φ H s.heap → PostB X.W φ s Q ((evalAnd C cs ρ H).bind fun x H => ofOpt H (truthy C.scr H x)) → wpAny X.M A (allTrue .And es env) Q Ex s
  orT : ∀ (A : Around) (env : Env) (ρ : Env') (φ : List Addr) (H : Hp) (s : Shared) (Q : Bool → Shared → Prop) (Ex : Value → Shared → Prop),
    Room A n → Kinds sc env → FR X.W env ns ρ φ s.heap → SR X.W φ H s.heap → PostB X.W φ s Q ((evalOr C cs ρ H).bind fun x H => ofOpt H (truthy C.scr H x)) → wpAny X.M A (allTrue .Or es env) Q Ex s
  tst : ∀ (A : Around) (env : Env) (ρ : Env') (φ : List Addr) (H : Hp) (s : Shared) (Q : Bool → Shared → Prop) (Ex : Value → Shared → Prop),
    Room A n → Kinds sc env → FR X.W env ns ρ φ s.heap → SR X.W φ H s.heap → PostB X.W φ s Q (tests C cs ρ H) →
    wpAny X.M A (forIn es true fun c r => if r = true then do let ok ← isTrue c env (eval c env); pure (ForInStep.yield ok) else pure (ForInStep.yield r)) Q Ex s

theorem tests_false {es : List Expr} {Q : Bool → Shared → Prop} (h : Q false s) :
    wpAny X.M A (forIn es false fun c r => if r = true then do let ok ← isTrue c env (eval c env); pure (ForInStep.yield ok) else pure (ForInStep.yield r)) Q Ex s := by
  induction es with
  | nil => rw [List.forIn_nil]; exact wpAny_pure h
  | cons e r ih =>
    rw [List.forIn_cons]
    exact wpAny_bind (wpAny_pure ih)

theorem notStarred {c : E} {e : Expr} (h : chkE X.K sc ns c e = true) : ∀ env (rest : List Expr), starEach (e :: rest) env = (false, eval e env) :: starEach rest env := by
  intro env rest
  cases e <;> first | rfl | skip
  exfalso
  cases c <;> simp [chkE] at h

theorem LsS.nil : LsS X C n sc ns [] [] where
  spl := fun A env ρ φ H s Q Ex pos rm kd F R p => wpAny_items_nil (by
    rw [evalEs] at p
    exact p φ s.heap s.toks [] R .refl .nil)
  plain := fun _ _ => rfl
  and := fun A env ρ φ H s Q Ex pos rm kd F R p => by rw [evalAnd] at p; exact p.elim
  or := fun A env ρ φ H s Q Ex pos rm kd F R p => by rw [evalOr] at p; exact p.elim
  andT := fun A env ρ φ H s Q Ex rm kd F R p => by rw [evalAnd] at p; exact p.elim
  orT := fun A env ρ φ H s Q Ex rm kd F R p => by rw [evalOr] at p; exact p.elim
  tst := fun A env ρ φ H s Q Ex rm kd F R p => by
    rw [tests] at p
    rw [List.forIn_nil]
    exact wpAny_pure (p.now R s.toks)

theorem LsS.cons {c : E} {cs : List E} {e : Expr} {es : List Expr} (G : X.Gl C) (h0 : chkE X.K sc ns c e = true) (hlen : cs.length = es.length) (he : EvS X C n sc ns c e ∧ TrS X C n sc ns c e) (hs : LsS X C n sc ns cs es) : LsS X C n sc ns (c :: cs) (e :: es) where
  spl := fun A env ρ φ H s Q Ex pos rm kd F R p => by
    refine wpAny_items_cons (he.1 A env ρ φ H s _ Ex rm kd F R ?_) (notStarred h0 env es)
    rw [evalEs] at p
    cases hr : evalE C c ρ H with
    | ok v H1 =>
      rw [hr] at p
      intro φ1 h1 tk x R1 S1 r1
      refine hs.spl A env ρ φ1 H1 { s with heap := h1, toks := tk } _ Ex pos rm kd (F.mono0 S1) R1 ?_
      change PostL X.W φ s Q ((evalEs C cs ρ H1).bind _) at p
      cases hr2 : evalEs C cs ρ H1 with
      | ok vs H2 =>
        rw [hr2] at p
        exact fun φ2 h2 tk2 xs R2 S2 r2 => p φ2 h2 tk2 (x :: xs) R2 (S1.trans S2) (.cons (r1.mono S2) r2)
      | err _ _ => rw [hr2] at p; exact p.elim
      | stuck => rw [hr2] at p; exact p.elim
    | err _ _ => rw [hr] at p; exact p.elim
    | stuck => rw [hr] at p; exact p.elim
  plain := fun env pos => by
    rw [notStarred h0 env es]
    have := hs.plain env pos
    simpa [backTo] using this
  and := fun A env ρ φ H s Q Ex pos rm kd F R p => by
    rw [evalAnd] at p
    have hv : ∀ {Q1 : Value → Shared → Prop}, (∀ v H1, evalE C c ρ H = .ok v H1 → PostV X.W φ s Q1 (.ok v H1)) → PostV X.W φ s Q1 (evalE C c ρ H) := by
      intro Q1 hq
      cases hr : evalE C c ρ H with
      | ok v H1 => exact hq v H1 hr
      | err _ _ => rw [hr] at p; exact p.elim
      | stuck => rw [hr] at p; exact p.elim
    cases cs with
    | nil =>
      cases es with
      | nil =>
        refine BoolOp_one (he.1 A env ρ φ H s _ Ex rm kd F R (hv fun v H1 hr => ?_))
        rw [hr] at p
        exact p
      | cons _ _ => cases hlen
    | cons c2 cs =>
      cases es with
      | nil => cases hlen
      | cons e2 es =>
        refine BoolOp_and (he.1 A env ρ φ H s _ Ex rm kd F R (hv fun v H1 hr => ?_))
        rw [hr] at p
        intro φ1 h1 tk x R1 S1 r1
        change PostV X.W φ s Q ((ofOpt H1 (truthy C.scr H1 v)).bind _) at p
        cases ht : truthy C.scr H1 v with
        | none => rw [ht] at p; exact p.elim
        | some b =>
          rw [ht] at p
          refine truthy_snd (s := { s with heap := h1, toks := tk }) G R1 r1 ht fun tk' => ?_
          cases b with
          | true => exact hs.and A env ρ φ1 H1 { s with heap := h1, toks := tk' } _ Ex pos rm kd (F.mono0 S1) R1 (p.step S1)
          | false => exact p φ1 h1 tk' x R1 S1 r1
  or := fun A env ρ φ H s Q Ex pos rm kd F R p => by
    rw [evalOr] at p
    have hv : ∀ {Q1 : Value → Shared → Prop}, (∀ v H1, evalE C c ρ H = .ok v H1 → PostV X.W φ s Q1 (.ok v H1)) → PostV X.W φ s Q1 (evalE C c ρ H) := by
      intro Q1 hq
      cases hr : evalE C c ρ H with
      | ok v H1 => exact hq v H1 hr
      | err _ _ => rw [hr] at p; exact p.elim
      | stuck => rw [hr] at p; exact p.elim
    cases cs with
    | nil =>
      cases es with
      | nil =>
        refine BoolOp_one (he.1 A env ρ φ H s _ Ex rm kd F R (hv fun v H1 hr => ?_))
        rw [hr] at p
        exact p
      | cons _ _ => cases hlen
    | cons c2 cs =>
      cases es with
      | nil => cases hlen
      | cons e2 es =>
        refine BoolOp_or (he.1 A env ρ φ H s _ Ex rm kd F R (hv fun v H1 hr => ?_))
        rw [hr] at p
        intro φ1 h1 tk x R1 S1 r1
        change PostV X.W φ s Q ((ofOpt H1 (truthy C.scr H1 v)).bind _) at p
        cases ht : truthy C.scr H1 v with
        | none => rw [ht] at p; exact p.elim
        | some b =>
          rw [ht] at p
          refine truthy_snd (s := { s with heap := h1, toks := tk }) G R1 r1 ht fun tk' => ?_
          cases b with
          | false => exact hs.or A env ρ φ1 H1 { s with heap := h1, toks := tk' } _ Ex pos rm kd (F.mono0 S1) R1 (p.step S1)
          | true => exact p φ1 h1 tk' x R1 S1 r1
  andT := fun A env ρ φ H s Q Ex rm kd F R p => by
    refine wpAny_allTrue_And_cons (he.2 A env ρ φ H s _ Ex rm kd F R ?_)
    unfold Mine.tst
    rw [evalAnd] at p
    cases hr : evalE C c ρ H with
    | ok v H1 =>
      rw [hr] at p
      show PostB X.W φ s _ (ofOpt H1 (truthy C.scr H1 v))
      cases ht : truthy C.scr H1 v with
      | none =>
        cases cs with
        | nil => change PostB X.W φ s Q (ofOpt H1 (truthy C.scr H1 v)) at p; rw [ht] at p; exact p.elim
        | cons c2 cs => change PostB X.W φ s Q (((ofOpt H1 (truthy C.scr H1 v)).bind _).bind _) at p; rw [ht] at p; exact p.elim
      | some b =>
        intro φ1 h1 tk R1 S1
        cases cs with
        | nil =>
          cases es with
          | cons _ _ => cases hlen
          | nil =>
            change PostB X.W φ s Q (ofOpt H1 (truthy C.scr H1 v)) at p
            rw [ht] at p
            cases b with
            | true => exact wpAny_allTrue_And_nil (p φ1 h1 tk R1 S1)
            | false => exact p φ1 h1 tk R1 S1
        | cons c2 cs =>
          change PostB X.W φ s Q (((ofOpt H1 (truthy C.scr H1 v)).bind _).bind _) at p
          rw [ht] at p
          cases b with
          | true => exact hs.andT A env ρ φ1 H1 { s with heap := h1, toks := tk } _ Ex rm kd (F.mono0 S1) R1 (p.step S1)
          | false =>
            change PostB X.W φ s Q (ofOpt H1 (truthy C.scr H1 v)) at p
            rw [ht] at p
            exact p φ1 h1 tk R1 S1
    | err _ _ => rw [hr] at p; exact p.elim
    | stuck => rw [hr] at p; exact p.elim
  orT := fun A env ρ φ H s Q Ex rm kd F R p => by
    refine wpAny_allTrue_Or_cons (he.2 A env ρ φ H s _ Ex rm kd F R ?_)
    unfold Mine.tst
    rw [evalOr] at p
    cases hr : evalE C c ρ H with
    | ok v H1 =>
      rw [hr] at p
      show PostB X.W φ s _ (ofOpt H1 (truthy C.scr H1 v))
      cases ht : truthy C.scr H1 v with
      | none =>
        cases cs with
        | nil => change PostB X.W φ s Q (ofOpt H1 (truthy C.scr H1 v)) at p; rw [ht] at p; exact p.elim
        | cons c2 cs => change PostB X.W φ s Q (((ofOpt H1 (truthy C.scr H1 v)).bind _).bind _) at p; rw [ht] at p; exact p.elim
      | some b =>
        intro φ1 h1 tk R1 S1
        cases cs with
        | nil =>
          cases es with
          | cons _ _ => cases hlen
          | nil =>
            change PostB X.W φ s Q (ofOpt H1 (truthy C.scr H1 v)) at p
            rw [ht] at p
            cases b with
            | false => exact wpAny_allTrue_Or_nil (p φ1 h1 tk R1 S1)
            | true => exact p φ1 h1 tk R1 S1
        | cons c2 cs =>
          change PostB X.W φ s Q (((ofOpt H1 (truthy C.scr H1 v)).bind _).bind _) at p
          rw [ht] at p
          cases b with
          | false => exact hs.orT A env ρ φ1 H1 { s with heap := h1, toks := tk } _ Ex rm kd (F.mono0 S1) R1 (p.step S1)
          | true =>
            change PostB X.W φ s Q (ofOpt H1 (truthy C.scr H1 v)) at p
            rw [ht] at p
            exact p φ1 h1 tk R1 S1
    | err _ _ => rw [hr] at p; exact p.elim
    | stuck => rw [hr] at p; exact p.elim
  tst := fun A env ρ φ H s Q Ex rm kd F R p => by
    rw [List.forIn_cons]
    refine wpAny_bind ?_
    show wpAny X.M A (do let ok ← isTrue e env (eval e env); pure (ForInStep.yield ok)) _ Ex s
    refine wpAny_bind (he.2 A env ρ φ H s _ Ex rm kd F R ?_)
    unfold Mine.tst
    rw [tests] at p
    cases hr : evalE C c ρ H with
    | ok v H1 =>
      rw [hr] at p
      show PostB X.W φ s _ (ofOpt H1 (truthy C.scr H1 v))
      change PostB X.W φ s Q ((ofOpt H1 (truthy C.scr H1 v)).bind _) at p
      cases ht : truthy C.scr H1 v with
      | none => rw [ht] at p; exact p.elim
      | some b =>
        rw [ht] at p
        intro φ1 h1 tk R1 S1
        refine wpAny_pure ?_
        cases b with
        | true => exact hs.tst A env ρ φ1 H1 { s with heap := h1, toks := tk } _ Ex rm kd (F.mono0 S1) R1 (p.step S1)
        | false => exact tests_false (p φ1 h1 tk R1 S1)
    | err _ _ => rw [hr] at p; exact p.elim
    | stuck => rw [hr] at p; exact p.elim
end
end Mine

end
section
set_option autoImplicit false
set_option linter.unusedVariables false
set_option linter.unusedSimpArgs false
namespace Mine
open PySem PySem.Calls PyProof.Rows

section
variable {X : Fix} {C : Ctx} {A : Around} {n : Nat} {Ex : Value → Shared → Prop} {s : Shared} {φ : List Addr} {H : Hp} {sc : Scope} {ns : List Str} {env : Env} {ρ : Env'}

theorem bindV {r : R V} {f : V → Hp → R V} {Q Q1 : Value → Shared → Prop} (p : PostV X.W φ s Q (r.bind f)) (k : ∀ v H1, PostV X.W φ s Q (f v H1) → PostV X.W φ s Q1 (.ok v H1)) : PostV X.W φ s Q1 r := by
  cases r with
  | ok v H1 => exact k v H1 p
  | err _ _ => exact p.elim
  | stuck => exact p.elim
theorem bindVB {r : R V} {f : V → Hp → R Bool} {Q : Bool → Shared → Prop} {Q1 : Value → Shared → Prop} (p : PostB X.W φ s Q (r.bind f)) (k : ∀ v H1, PostB X.W φ s Q (f v H1) → PostV X.W φ s Q1 (.ok v H1)) : PostV X.W φ s Q1 r := by
  cases r with
  | ok v H1 => exact k v H1 p
  | err _ _ => exact p.elim
  | stuck => exact p.elim
theorem bindL {r : R (List V)} {f : List V → Hp → R V} {Q : Value → Shared → Prop} {Q1 : List Value → Shared → Prop} (p : PostV X.W φ s Q (r.bind f)) (k : ∀ v H1, PostV X.W φ s Q (f v H1) → PostL X.W φ s Q1 (.ok v H1)) : PostL X.W φ s Q1 r := by
  cases r with
  | ok v H1 => exact k v H1 p
  | err _ _ => exact p.elim
  | stuck => exact p.elim
theorem bindO {α : Type} {o : Option α} {H1 : Hp} {f : α → Hp → R V} {Q : Value → Shared → Prop} (p : PostV X.W φ s Q ((ofOpt H1 o).bind f)) : ∃ a, o = some a ∧ PostV X.W φ s Q (f a H1) := by
  cases o with
  | none => exact p.elim
  | some a => exact ⟨a, rfl, p⟩

theorem k_snd {v : V} {c : Const} {k : Nat} {pos : Pos} (h : chkC v c = true) : EvS X C n sc ns (.k v) (.Constant c k pos) := by
  intro A env ρ φ H s Q Ex rm kd F R p
  rw [evalE] at p
  cases v <;> cases c <;> simp [chkC] at h
  · exact wpAny_Constant_none (p.now R .none s.toks)
  · subst h; exact wpAny_Constant_bool (p.now R (.bool _) s.toks)
  · subst h; exact wpAny_Constant_int (p.now R (.int _ _) _)
  · subst h; exact wpAny_Constant_str (p.now R (.str _ _) _)

theorem alloc_snd {vs : List V} {xs : List Value} {Q : Value → Shared → Prop} (R : SR X.W φ H s.heap) (r : RepL X.W.scr φ s.heap vs xs) (hz : vs.length ≤ 1000000) (p : PostV X.W φ s Q (alloc (.list vs) H)) (k tk : Nat) :
    Q (.ref s.heap.objs.size) { s with heap := s.heap.push (lstObj xs k), toks := tk } := by
  have S : Stp [] φ s.heap (φ ++ [s.heap.objs.size]) (s.heap.push (lstObj xs k)) := R.allocStp _
  refine p _ _ _ _ (R.alloc (c := .list vs) rfl ⟨xs, k, Heap.get?_push_size _ rfl, r.mono S, hz⟩) S (.ref ?_)
  rw [← R.len, List.getElem?_append_right (Nat.le_refl _)]; simp

theorem allocL_snd {vs : List V} {xs : List Value} {Q : Value → Shared → Prop} (R : SR X.W φ H s.heap) (r : RepL X.W.scr φ s.heap vs xs) (p : PostV X.W φ s Q (allocL vs H)) (k tk : Nat) :
    Q (.ref s.heap.objs.size) { s with heap := s.heap.push (lstObj xs k), toks := tk } ∧ xs.length ≤ sizeLine := by
  unfold allocL at p
  split at p
  · rename_i h
    have h' : vs.length < 1000000 := by simpa [szOk] using h
    exact ⟨alloc_snd R r (by omega) p k tk, by rw [← r.length]; unfold sizeLine; omega⟩
  · exact p.elim

theorem binop_snd {op : BOp} {o : Operator} {v u : V} {x y : Value} {Q : Value → Shared → Prop} (G : X.Gl C) (R : SR X.W φ H s.heap) (rm : Room A n) (ho : opOk op o = true)
    (r1 : Rep X.W.scr φ s.heap v x) (r2 : Rep X.W.scr φ s.heap u y) (p : PostV X.W φ s Q (binop op v u H)) : wpAny X.M A (binaryOp o x y) Q Ex s := by
  cases hr : binop op v u H with
  | err _ _ => rw [hr] at p; exact p.elim
  | stuck => rw [hr] at p; exact p.elim
  | ok z H' =>
    cases v with
    | int a =>
      cases u with
      | int b =>
        cases r1; cases r2
        refine binop_int G R rm ho hr fun tk i t hz hH => ?_
        subst hz; subst hH
        rw [hr] at p
        exact p.now R (.int _ _) _
      | _ => unfold binop at hr; cases op <;> simp at hr
    | ref l =>
      cases op <;> cases o <;> first | (cases ho; done) | skip
      · cases u with
        | ref m =>
          unfold binop at p
          dsimp only at p
          split at p
          · rename_i xs ys h1 h2
            obtain ⟨a, xa, ka, rfl, _, q1, q2, q3⟩ := listAt R r1 h1
            obtain ⟨b, xb, kb, rfl, _, t1, t2, t3⟩ := listAt R r2 h2
            obtain ⟨w1, w2⟩ := allocL_snd R (q2.append t2) p 0 s.toks
            refine P.add_list (items := xa.toArray) (items2 := xb.toArray) q1 t1 ?_ (by simpa using w2)
            rw [List.append_toArray]
            exact w1
          · exact p.elim
        | _ => unfold binop at hr; simp at hr
      · cases u <;> first | (unfold binop at hr; simp at hr; done) | skip
      · cases u <;> first | (unfold binop at hr; simp at hr; done) | skip
      · cases u <;> first | (unfold binop at hr; simp at hr; done) | skip
      · cases u <;> first | (unfold binop at hr; simp at hr; done) | skip
      · cases u <;> first | (unfold binop at hr; simp at hr; done) | skip
    | _ => unfold binop at hr; cases op <;> simp at hr

theorem bin_snd {op : BOp} {o : Operator} {a b : E} {l r : Expr} {pos : Pos} (G : X.Gl C) (ho : opOk op o = true) (ha : EvS X C n sc ns a l) (hb : EvS X C n sc ns b r) : EvS X C n sc ns (.bin op a b) (.BinOp l o r pos) := by
  intro A env ρ φ H s Q Ex rm kd F R p
  rw [evalE] at p
  refine wpAny_BinOp (ha A env ρ φ H s _ Ex rm kd F R (bindV p fun v H1 p1 => ?_))
  intro φ1 h1 tk x R1 S1 r1
  refine hb A env ρ φ1 H1 { s with heap := h1, toks := tk } _ Ex rm kd (F.mono0 S1) R1 (bindV (p1.step S1) fun u H2 p2 => ?_)
  intro φ2 h2 tk2 y R2 S2 r2
  exact binop_snd (s := { s with heap := h2, toks := tk2 }) G R2 rm ho (r1.mono S2) r2 (p2.step S2)

theorem neg_snd {a : E} {x : Expr} {pos : Pos} (ha : EvS X C n sc ns a x) : EvS X C n sc ns (.neg a) (.UnaryOp .USub x pos) := by
  intro A env ρ φ H s Q Ex rm kd F R p
  rw [evalE] at p
  refine wpAny_UnaryOp (ha A env ρ φ H s _ Ex rm kd F R (bindV p fun v H1 p1 => ?_))
  intro φ1 h1 tk x R1 S1 r1
  cases v with
  | int i => cases r1; exact PyProof.Rows.neg_int (p1 φ1 h1 _ _ R1 S1 (.int _ _))
  | _ => exact p1.elim

theorem not_snd {a : E} {x : Expr} {pos : Pos} (G : X.Gl C) (ha : EvS X C n sc ns a x ∧ TrS X C n sc ns a x) : EvS X C n sc ns (.not a) (.UnaryOp .Not x pos) ∧ TrS X C n sc ns (.not a) (.UnaryOp .Not x pos) := by
  constructor
  · intro A env ρ φ H s Q Ex rm kd F R p
    rw [evalE] at p
    refine wpAny_UnaryOp (ha.1 A env ρ φ H s _ Ex rm kd F R (bindV p fun v H1 p1 => ?_))
    intro φ1 h1 tk x R1 S1 r1
    obtain ⟨b, hb, p2⟩ := bindO p1
    exact not_of (truthy_snd (s := { s with heap := h1, toks := tk }) G R1 r1 hb fun tk' => p2 φ1 h1 tk' _ R1 S1 (.bool _))
  · intro A env ρ φ H s Q Ex rm kd F R p
    refine wpAny_isTrue_Not (ha.2 A env ρ φ H s _ Ex rm kd F R ?_)
    unfold tst at p ⊢
    rw [evalE] at p
    cases hr : evalE C a ρ H with
    | err _ _ => rw [hr] at p; exact p.elim
    | stuck => rw [hr] at p; exact p.elim
    | ok v H1 =>
      rw [hr] at p
      change PostB X.W φ s Q (((ofOpt H1 (truthy C.scr H1 v)).bind _).bind _) at p
      show PostB X.W φ s _ (ofOpt H1 (truthy C.scr H1 v))
      cases ht : truthy C.scr H1 v with
      | none => rw [ht] at p; exact p.elim
      | some b => rw [ht] at p; exact fun φ1 h1 tk R1 S1 => p φ1 h1 tk R1 S1

theorem and_snd {cs : List E} {es : List Expr} {pos : Pos} (h : LsS X C n sc ns cs es) : EvS X C n sc ns (.and cs) (.BoolOp .And es pos) ∧ TrS X C n sc ns (.and cs) (.BoolOp .And es pos) := by
  constructor
  · intro A env ρ φ H s Q Ex rm kd F R p
    rw [evalE] at p
    exact h.and A env ρ φ H s Q Ex pos rm kd F R p
  · intro A env ρ φ H s Q Ex rm kd F R p
    unfold tst at p
    rw [evalE] at p
    exact wpAny_isTrue_BoolOp (h.andT A env ρ φ H s Q Ex rm kd F R p)
theorem or_snd {cs : List E} {es : List Expr} {pos : Pos} (h : LsS X C n sc ns cs es) : EvS X C n sc ns (.or cs) (.BoolOp .Or es pos) ∧ TrS X C n sc ns (.or cs) (.BoolOp .Or es pos) := by
  constructor
  · intro A env ρ φ H s Q Ex rm kd F R p
    rw [evalE] at p
    exact h.or A env ρ φ H s Q Ex pos rm kd F R p
  · intro A env ρ φ H s Q Ex rm kd F R p
    unfold tst at p
    rw [evalE] at p
    exact wpAny_isTrue_BoolOp (h.orT A env ρ φ H s Q Ex rm kd F R p)

theorem bindTst {c : E} {f : Bool → Hp → R V} {Q : Value → Shared → Prop} {Q1 : Bool → Shared → Prop} (p : PostV X.W φ s Q ((evalE C c ρ H).bind fun x H => (ofOpt H (truthy C.scr H x)).bind f))
    (k : ∀ b H1, PostV X.W φ s Q (f b H1) → PostB X.W φ s Q1 (.ok b H1)) : PostB X.W φ s Q1 (tst C c ρ H) := by
  unfold tst
  cases hr : evalE C c ρ H with
  | err _ _ => rw [hr] at p; exact p.elim
  | stuck => rw [hr] at p; exact p.elim
  | ok v H1 =>
    rw [hr] at p
    change PostV X.W φ s Q ((ofOpt H1 (truthy C.scr H1 v)).bind _) at p
    obtain ⟨b, hb, p2⟩ := bindO p
    show PostB X.W φ s Q1 (ofOpt H1 (truthy C.scr H1 v))
    rw [hb]
    exact k b H1 p2

theorem ife_snd {c a b : E} {t x y : Expr} {pos : Pos} (hc : EvS X C n sc ns c t ∧ TrS X C n sc ns c t) (ha : EvS X C n sc ns a x ∧ TrS X C n sc ns a x) (hb : EvS X C n sc ns b y ∧ TrS X C n sc ns b y) :
    EvS X C n sc ns (.ife c a b) (.IfExp t x y pos) ∧ TrS X C n sc ns (.ife c a b) (.IfExp t x y pos) := by
  constructor
  · intro A env ρ φ H s Q Ex rm kd F R p
    rw [evalE] at p
    refine wpAny_IfExp (hc.2 A env ρ φ H s _ Ex rm kd F R (bindTst p fun b' H1 p1 => ?_))
    intro φ1 h1 tk R1 S1
    cases b' with
    | true => exact ha.1 A env ρ φ1 H1 { s with heap := h1, toks := tk } _ Ex rm kd (F.mono0 S1) R1 (p1.step S1)
    | false => exact hb.1 A env ρ φ1 H1 { s with heap := h1, toks := tk } _ Ex rm kd (F.mono0 S1) R1 (p1.step S1)
  · intro A env ρ φ H s Q Ex rm kd F R p
    refine isTrue_IfExp (hc.2 A env ρ φ H s _ Ex rm kd F R ?_)
    unfold tst at p ⊢
    rw [evalE] at p
    cases hr : evalE C c ρ H with
    | err _ _ => rw [hr] at p; exact p.elim
    | stuck => rw [hr] at p; exact p.elim
    | ok v H1 =>
      rw [hr] at p
      change PostB X.W φ s Q (((ofOpt H1 (truthy C.scr H1 v)).bind _).bind _) at p
      show PostB X.W φ s _ (ofOpt H1 (truthy C.scr H1 v))
      cases ht : truthy C.scr H1 v with
      | none => rw [ht] at p; exact p.elim
      | some b' =>
        rw [ht] at p
        intro φ1 h1 tk R1 S1
        cases b' with
        | true => exact ha.2 A env ρ φ1 H1 { s with heap := h1, toks := tk } _ Ex rm kd (F.mono0 S1) R1 (p.step S1)
        | false => exact hb.2 A env ρ φ1 H1 { s with heap := h1, toks := tk } _ Ex rm kd (F.mono0 S1) R1 (p.step S1)

theorem noMarks {c : E} {e : Expr} (h : chkE X.K sc ns c e = true) (o : CmpOp) : behindInMarks o e = false := by
  cases e <;> first | rfl | skip
  exfalso
  cases c <;> simp [chkE] at h

theorem cmpE_snd {op : COp} {o : CmpOp} {a b : E} {l r : Expr} {pos : Pos} (G : X.Gl C) (ho : copOk op o = true) (hr0 : chkE X.K sc ns b r = true) (ha : EvS X C n sc ns a l) (hb : EvS X C n sc ns b r) :
    EvS X C n sc ns (.cmp op a b) (.Compare l [o] [r] pos) ∧ TrS X C n sc ns (.cmp op a b) (.Compare l [o] [r] pos) := by
  constructor
  · intro A env ρ φ H s Q Ex rm kd F R p
    rw [evalE] at p
    refine wpAny_Compare1 (ha A env ρ φ H s _ Ex rm kd F R (bindV p fun v H1 p1 => ?_)) (noMarks hr0 o)
    intro φ1 h1 tk x R1 S1 r1
    refine hb A env ρ φ1 H1 { s with heap := h1, toks := tk } _ Ex rm kd (F.mono0 S1) R1 (bindV (p1.step S1) fun u H2 p2 => ?_)
    intro φ2 h2 tk2 y R2 S2 r2
    obtain ⟨b', hb', p3⟩ := bindO p2
    exact cmp_snd (s := { s with heap := h2, toks := tk2 }) G R2 rm ho (r1.mono S2) r2 hb' fun tk' => p3 φ2 h2 tk' _ R2 S2 (.bool _)
  · intro A env ρ φ H s Q Ex rm kd F R p
    unfold tst at p
    rw [evalE] at p
    refine wpAny_isTrue_Compare1 (ha A env ρ φ H s _ Ex rm kd F R ?_) (noMarks hr0 o)
    cases hv : evalE C a ρ H with
    | err _ _ => rw [hv] at p; exact p.elim
    | stuck => rw [hv] at p; exact p.elim
    | ok v H1 =>
      rw [hv] at p
      intro φ1 h1 tk x R1 S1 r1
      refine hb A env ρ φ1 H1 { s with heap := h1, toks := tk } _ Ex rm kd (F.mono0 S1) R1 ?_
      change PostB X.W φ s Q (((evalE C b ρ H1).bind _).bind _) at p
      cases hu : evalE C b ρ H1 with
      | err _ _ => rw [hu] at p; exact p.elim
      | stuck => rw [hu] at p; exact p.elim
      | ok u H2 =>
        rw [hu] at p
        intro φ2 h2 tk2 y R2 S2 r2
        change PostB X.W φ s Q (((ofOpt H2 (cmpV C.scr op v u H2)).bind _).bind _) at p
        cases hc : cmpV C.scr op v u H2 with
        | none => rw [hc] at p; exact p.elim
        | some b' =>
          rw [hc] at p
          exact cmp_snd (s := { s with heap := h2, toks := tk2 }) G R2 rm ho (r1.mono S2) r2 hc fun tk' => wpAny_truthy_bool (p φ2 h2 tk' R2 (S1.trans S2))

theorem isNone_snd {a : E} {l : Expr} {k : Nat} {kp pos : Pos} (ha : EvS X C n sc ns a l) :
    EvS X C n sc ns (.isNone a) (.Compare l [.Is] [.Constant .none k kp] pos) ∧ TrS X C n sc ns (.isNone a) (.Compare l [.Is] [.Constant .none k kp] pos) := by
  have key : ∀ {φ : List Addr} {h : Heap} {v : V} {x : Value}, Rep X.W.scr φ h v x → plainIs x .none = true ∧ (x == Value.none) = (v == V.none) := by
    intro φ h v x r
    cases r <;> exact ⟨rfl, rfl⟩
  constructor
  · intro A env ρ φ H s Q Ex rm kd F R p
    rw [evalE] at p
    refine wpAny_Compare1 (ha A env ρ φ H s _ Ex rm kd F R (bindV p fun v H1 p1 => ?_)) rfl
    intro φ1 h1 tk x R1 S1 r1
    refine wpAny_Constant_none (wpAny_is_plain (key r1).1 ?_)
    rw [(key r1).2]
    exact p1 φ1 h1 tk _ R1 S1 (.bool _)
  · intro A env ρ φ H s Q Ex rm kd F R p
    unfold tst at p
    rw [evalE] at p
    refine wpAny_isTrue_Compare1 (ha A env ρ φ H s _ Ex rm kd F R ?_) rfl
    cases hv : evalE C a ρ H with
    | err _ _ => rw [hv] at p; exact p.elim
    | stuck => rw [hv] at p; exact p.elim
    | ok v H1 =>
      rw [hv] at p
      intro φ1 h1 tk x R1 S1 r1
      refine wpAny_Constant_none (wpAny_is_plain (key r1).1 ?_)
      rw [(key r1).2]
      exact wpAny_truthy_bool (p φ1 h1 tk R1 S1)
theorem notNone_snd {a : E} {l : Expr} {k : Nat} {kp pos : Pos} (ha : EvS X C n sc ns a l) :
    EvS X C n sc ns (.notNone a) (.Compare l [.IsNot] [.Constant .none k kp] pos) ∧ TrS X C n sc ns (.notNone a) (.Compare l [.IsNot] [.Constant .none k kp] pos) := by
  have key : ∀ {φ : List Addr} {h : Heap} {v : V} {x : Value}, Rep X.W.scr φ h v x → plainIs x .none = true ∧ (x == Value.none) = (v == V.none) := by
    intro φ h v x r
    cases r <;> exact ⟨rfl, rfl⟩
  constructor
  · intro A env ρ φ H s Q Ex rm kd F R p
    rw [evalE] at p
    refine wpAny_Compare1 (ha A env ρ φ H s _ Ex rm kd F R (bindV p fun v H1 p1 => ?_)) rfl
    intro φ1 h1 tk x R1 S1 r1
    refine wpAny_Constant_none (wpAny_isNot_plain (key r1).1 ?_)
    rw [(key r1).2]
    exact p1 φ1 h1 tk _ R1 S1 (.bool _)
  · intro A env ρ φ H s Q Ex rm kd F R p
    unfold tst at p
    rw [evalE] at p
    refine wpAny_isTrue_Compare1 (ha A env ρ φ H s _ Ex rm kd F R ?_) rfl
    cases hv : evalE C a ρ H with
    | err _ _ => rw [hv] at p; exact p.elim
    | stuck => rw [hv] at p; exact p.elim
    | ok v H1 =>
      rw [hv] at p
      intro φ1 h1 tk x R1 S1 r1
      refine wpAny_Constant_none (wpAny_isNot_plain (key r1).1 ?_)
      rw [(key r1).2]
      exact wpAny_truthy_bool (p φ1 h1 tk R1 S1)

theorem chkEs_len {cs : List E} {es : List Expr} (h : chkEs X.K sc ns cs es = true) : cs.length = es.length := by
  induction cs generalizing es with
  | nil => cases es with
    | nil => rfl
    | cons _ _ => simp [chkEs] at h
  | cons c cs ih => cases es with
    | nil => simp [chkEs] at h
    | cons e es => simp [chkEs] at h; simp [ih h.2]
theorem evalEs_len {cs : List E} : ∀ {ρ : Env'} {H : Hp} {vs : List V} {H' : Hp}, evalEs C cs ρ H = .ok vs H' → vs.length = cs.length := by
  induction cs with
  | nil => intro ρ H vs H' h; rw [evalEs] at h; cases h; rfl
  | cons c cs ih =>
    intro ρ H vs H' h
    rw [evalEs] at h
    cases h1 : evalE C c ρ H with
    | err _ _ => rw [h1] at h; cases h
    | stuck => rw [h1] at h; cases h
    | ok v H1 =>
      rw [h1] at h
      change ((evalEs C cs ρ H1).bind _) = _ at h
      cases h2 : evalEs C cs ρ H1 with
      | err _ _ => rw [h2] at h; cases h
      | stuck => rw [h2] at h; cases h
      | ok us H2 => rw [h2] at h; cases h; simp [ih h2]

theorem tup_snd {cs : List E} {es : List Expr} {k : Nat} {pos : Pos} (hl : cs.length < 1000) (h : LsS X C n sc ns cs es) : EvS X C n sc ns (.tup cs) (.Tuple es k pos) := by
  intro A env ρ φ H s Q Ex rm kd F R p
  rw [evalE] at p
  refine wpAny_Tuple_spliced (h.spl A env ρ φ H s _ Ex pos rm kd F R ?_)
  cases hv : evalEs C cs ρ H with
  | err _ _ => rw [hv] at p; exact p.elim
  | stuck => rw [hv] at p; exact p.elim
  | ok vs H1 =>
    have hlen := evalEs_len hv
    rw [hv] at p
    intro φ1 h1 tk xs R1 S1 r1
    have := r1.length
    refine ⟨by unfold sizeLine; omega, ?_⟩
    refine p φ1 _ tk _ (R1.ext fun _ _ e => Heap.get?_push_of_some _ e) (S1.trans (.push _)) (.tup (n := 0) (Heap.get?_push_size _ rfl) (r1.mono (own := []) (.push _)) (by omega))
theorem lst_snd {cs : List E} {es : List Expr} {pos : Pos} (hl : cs.length < 1000) (h : LsS X C n sc ns cs es) : EvS X C n sc ns (.lst cs) (.List es pos) := by
  intro A env ρ φ H s Q Ex rm kd F R p
  rw [evalE] at p
  refine wpAny_List_spliced (h.spl A env ρ φ H s _ Ex pos rm kd F R ?_)
  cases hv : evalEs C cs ρ H with
  | err _ _ => rw [hv] at p; exact p.elim
  | stuck => rw [hv] at p; exact p.elim
  | ok vs H1 =>
    have hlen := evalEs_len hv
    rw [hv] at p
    intro φ1 h1 tk xs R1 S1 r1
    have := r1.length
    refine ⟨by unfold sizeLine; omega, ?_⟩
    exact alloc_snd (s := { s with heap := h1, toks := tk }) R1 r1 (by omega) (PostV.step p S1) 0 tk

theorem notSlice_of {c : E} {e : Expr} (h : chkE X.K sc ns c e = true) : notSlice e = true := by
  cases e <;> first | rfl | skip
  exfalso
  cases c <;> simp [chkE] at h
theorem idxE_snd {a i : E} {v sl : Expr} {pos : Pos} (G : X.Gl C) (h0 : chkE X.K sc ns i sl = true) (ha : EvS X C n sc ns a v) (hi : EvS X C n sc ns i sl) : EvS X C n sc ns (.idx a i) (.Subscript v sl pos) := by
  intro A env ρ φ H s Q Ex rm kd F R p
  rw [evalE] at p
  refine Subscript_ (ha A env ρ φ H s _ Ex rm kd F R (bindV p fun v H1 p1 => ?_))
  intro φ1 h1 tk x R1 S1 r1
  refine hi A env ρ φ1 H1 { s with heap := h1, toks := tk } _ Ex rm kd (F.mono0 S1) R1 (bindV (p1.step S1) fun u H2 p2 => ?_)
  intro φ2 h2 tk2 y R2 S2 r2
  cases hx : idxV C.scr v u H2 with
  | none => rw [hx] at p2; exact p2.elim
  | some z =>
    rw [hx] at p2
    exact idx_snd (s := { s with heap := h2, toks := tk2 }) G R2 rm (notSlice_of h0) (r1.mono S2) r2 hx fun tk' z' rz => p2 φ2 h2 tk' z' R2 S2 rz

theorem evalArgs_of {f : Value} {args : List (Bool × Sem Value)} {Q : Args → Shared → Prop} (hp : args.any (·.1) = false) (h : wpAny X.M A (spliced args) (fun vs s' => Q ⟨vs, []⟩ s') Ex s) : wpAny X.M A (evalArgs f true args []) Q Ex s := by
  cases args with
  | nil =>
    unfold evalArgs
    show wpAny X.M A (spliced [] >>= _) Q Ex s
    refine wpAny_bind (wpAny_mono h (fun vs s' h' => ?_) fun _ _ x => x)
    refine wpAny_bind (wpAny_pure (wpAny_holding ?_))
    exact wpAny_bind (wpAny_pure (wpAny_bind (wpAny_pure (wpAny_pure h'))))
  | cons a r =>
    obtain ⟨b, t⟩ := a
    simp only [List.any_cons, Bool.or_eq_false_iff] at hp
    obtain ⟨rfl, _⟩ := hp
    exact Calls.evalArgs_plain h

theorem call_snd {f : Nat} {x : Str} {cs : List E} {es : List Expr} {np pos : Pos} (G : X.Gl C) (hc : X.CallOk C n) (h1 : X.K.fns[f]? = some x) (h2 : okGlob sc x = true) (h : LsS X C n sc ns cs es) :
    EvS X C n sc ns (.call f cs) (.Call (.Name x np) es [] pos) := by
  intro A env ρ φ H s Q Ex rm kd F R p
  rw [evalE] at p
  refine wpAny_Call_NameR (glob_fn G kd F R h1 h2 fun a ha => ?_)
  obtain ⟨a', o, d, pm, cd, doc, e1, e2, e3, e4, e5, _⟩ := G.1.fn f x h1
  rw [ha] at e3; cases e3
  refine Calls.callWith_function (o := o) (fd := docDef d.name d.params d.body d.scope pm cd doc) (evalArgs_of (h.plain env pos) (h.spl A env ρ φ H s _ Ex pos rm kd F R (bindL p fun vs H1 p1 => ?_)))
  intro φ1 h1' tk xs R1 S1 r1
  exact ⟨⟨R1.keep _ _ e4, e5⟩, by simpa using hc A f x a vs H1 φ1 { s with heap := h1', toks := tk } xs Q Ex rm h1 ha R1 r1 (p1.step S1)⟩
end
end Mine

end
section
set_option autoImplicit false
set_option linter.unusedVariables false
set_option linter.unusedSimpArgs false
namespace Mine
open PySem PySem.Calls PyProof.Rows

section
variable {X : Fix} {C : Ctx} {A : Around} {n : Nat} {Ex : Value → Shared → Prop} {s : Shared} {φ : List Addr} {H : Hp} {sc : Scope} {ns : List Str} {env : Env} {ρ : Env'}

theorem gk_snd {j : Nat} {x : Str} {pos : Pos} (G : X.Gl C) (h1 : X.K.gks[j]? = some x) (h2 : okGlob sc x = true) : EvS X C n sc ns (.gk j) (.Name x pos) := by
  intro A env ρ φ H s Q Ex rm kd F R p
  rw [evalE] at p
  refine glob_k G kd F R h1 h2 fun v y hv r => ?_
  rw [hv] at p
  exact p.now R r s.toks
theorem len_snd {v : V} {x : Value} {r : V} {H' : Hp} {Q : Value → Shared → Prop} (G : X.Gl C) (R : SR X.W φ H s.heap) (rv : Rep X.W.scr φ s.heap v x) (e : biV C.scr .len [v] H = .ok r H') (hQ : ∀ tk i t, r = .int i → H' = H → Q (.int i t) { s with toks := tk }) :
    wpAny X.M A (call (.builtin "len") [x]) Q Ex s := by
  unfold biV at e
  dsimp only at e
  split at e
  · rename_i l hl
    cases e
    obtain ⟨a, xs, rfl, h1, h2, h3⟩ := items_at G R rv (noDict R v) hl
    have hlen := h1.length
    rcases h3 with ⟨h3, _, _⟩ | ⟨h3, _⟩
    · exact PyProof.Rows.len_tuple h3 (small_of_len h1 h2) (hQ _ _ _ (by simp [hlen]) rfl)
    · exact call_len_list h3 (small_of_len h1 h2) (hQ _ _ _ (by simp [hlen]) rfl)
  · cases e
theorem bi1_snd {b : Bi} {c : E} {x : Str} {id : String} {e : Expr} {np pos : Pos} (G : X.Gl C) (h1 : (x, Value.builtin id) ∈ biTable) (h2 : okGlob sc x = true) (h : LsS X C n sc ns [c] [e])
    (hb : ∀ (A : Around) (φ : List Addr) (H : Hp) (s : Shared) (v : V) (y : Value) (Q : Value → Shared → Prop) (Ex : Value → Shared → Prop), Room A n → SR X.W φ H s.heap → Rep X.W.scr φ s.heap v y → PostV X.W φ s Q (biV C.scr b [v] H) → wpAny X.M A (call (.builtin id) [y]) Q Ex s) :
    EvS X C n sc ns (.bi b [c]) (.Call (.Name x np) [e] [] pos) := by
  intro A env ρ φ H s Q Ex rm kd F R p
  rw [evalE] at p
  refine wpAny_Call_NameR (glob_bi G kd F R h1 h2 ?_)
  refine Calls.callWith_builtin (h.plain env pos) (evalArgs_of (h.plain env pos) (h.spl A env ρ φ H s _ Ex pos rm kd F R ?_))
  cases hv : evalEs C [c] ρ H with
  | err _ _ => rw [hv] at p; exact p.elim
  | stuck => rw [hv] at p; exact p.elim
  | ok vs H1 =>
    have hl := evalEs_len hv
    rw [hv] at p
    intro φ1 h1' tk xs R1 S1 r1
    cases r1 with
    | nil => cases hl
    | cons r1 r2 =>
      cases r2 with
      | cons _ _ => cases hl
      | nil => exact hb A φ1 H1 { s with heap := h1', toks := tk } _ _ Q Ex rm R1 r1 (PostV.step p S1)
theorem isiE_snd {b : Bi} {t : String} {c : E} {e : Expr} {y : Str} {np yp pos : Pos} (G : X.Gl C) (ht : isiName b = some t) (h2 : okGlob sc "isinstance" = true) (hy : okGlob sc (Str.ofString t) = true) (h0 : chkE X.K sc ns c e = true) (h : EvS X C n sc ns c e ∧ TrS X C n sc ns c e) :
    EvS X C n sc ns (.bi b [c]) (.Call (.Name "isinstance" np) [e, .Name (Str.ofString t) yp] [] pos) := by
  intro A env ρ φ H s Q Ex rm kd F R p
  rw [evalE] at p
  refine wpAny_Call_NameR (glob_bi G kd F R (v := .builtin "isinstance") (by simp [biTable]) h2 ?_)
  have hpl : (backTo pos (starEach [e, .Name (Str.ofString t) yp] env)).any (·.1) = false := by
    rw [notStarred h0 env]; rfl
  refine Calls.callWith_builtin hpl (evalArgs_of hpl ?_)
  refine wpAny_items_cons (h.1 A env ρ φ H s _ Ex rm kd F R ?_) (notStarred h0 env _)
  cases hv : evalE C c ρ H with
  | err _ _ => rw [evalEs, hv] at p; exact p.elim
  | stuck => rw [evalEs, hv] at p; exact p.elim
  | ok v H1 =>
    rw [evalEs, hv] at p
    change PostV X.W φ s Q (biV C.scr b [v] H1) at p
    intro φ1 h1 tk x R1 S1 r1
    refine wpAny_items_cons (glob_bi (s := { s with heap := h1, toks := tk }) G kd (F.mono0 S1) R1 (isi_mem ht) hy ?_) rfl
    refine wpAny_items_nil ?_
    cases hb : biV C.scr b [v] H1 with
    | err _ _ => rw [hb] at p; exact p.elim
    | stuck => rw [hb] at p; exact p.elim
    | ok r H2 =>
      rw [hb] at p
      refine isi_snd (s := { s with heap := h1, toks := tk }) G R1 ht r1 hb fun tk' b' e1 e2 => ?_
      subst e1; subst e2
      exact p φ1 h1 tk' _ R1 S1 (.bool _)
end

section
variable {X : Fix} {C : Ctx} {n : Nat}
theorem both {sc : Scope} {ns : List Str} {c : E} {e : Expr} (G : X.Gl C) (h : plainTest e = true) (q : EvS X C n sc ns c e) : EvS X C n sc ns c e ∧ TrS X C n sc ns c e := ⟨q, .of G h q⟩
mutual
theorem sndE (G : X.Gl C) (hc : X.CallOk C n) : ∀ (c : E) (sc : Scope) (ns : List Str) (e : Expr), chkE X.K sc ns c e = true → EvS X C n sc ns c e ∧ TrS X C n sc ns c e
  | .k v, sc, ns, e, h => by
    cases e <;> simp only [chkE, Bool.false_eq_true] at h
    exact both G rfl (k_snd h)
  | .var i, sc, ns, e, h => by
    cases e <;> first | (simp only [chkE, Bool.false_eq_true] at h; done) | skip
    exact both G rfl (var_snd h)
  | .gk j, sc, ns, e, h => by
    cases e <;> simp only [chkE, Bool.false_eq_true, Bool.and_eq_true, decide_eq_true_eq] at h
    exact both G rfl (gk_snd G h.1 h.2)
  | .bin op a b, sc, ns, e, h => by
    cases e <;> simp only [chkE, Bool.false_eq_true, Bool.and_eq_true] at h
    exact both G rfl (bin_snd G h.1.1 (sndE G hc a sc ns _ h.1.2).1 (sndE G hc b sc ns _ h.2).1)
  | .neg a, sc, ns, e, h => by
    cases e <;> first | (simp only [chkE, Bool.false_eq_true] at h; done) | skip
    rename_i op x pos
    cases op <;> simp only [chkE, Bool.false_eq_true] at h
    exact both G rfl (neg_snd (sndE G hc a sc ns _ h).1)
  | .not a, sc, ns, e, h => by
    cases e <;> first | (simp only [chkE, Bool.false_eq_true] at h; done) | skip
    rename_i op x pos
    cases op <;> simp only [chkE, Bool.false_eq_true] at h
    exact not_snd G (sndE G hc a sc ns _ h)
  | .and es, sc, ns, e, h => by
    cases e <;> first | (simp only [chkE, Bool.false_eq_true] at h; done) | skip
    rename_i op xs pos
    cases op <;> simp only [chkE, Bool.false_eq_true] at h
    exact and_snd (sndEs G hc es sc ns xs h)
  | .or es, sc, ns, e, h => by
    cases e <;> first | (simp only [chkE, Bool.false_eq_true] at h; done) | skip
    rename_i op xs pos
    cases op <;> simp only [chkE, Bool.false_eq_true] at h
    exact or_snd (sndEs G hc es sc ns xs h)
  | .ife c a b, sc, ns, e, h => by
    cases e <;> simp only [chkE, Bool.false_eq_true, Bool.and_eq_true] at h
    exact ife_snd (sndE G hc c sc ns _ h.1.1) (sndE G hc a sc ns _ h.1.2) (sndE G hc b sc ns _ h.2)
  | .cmp op a b, sc, ns, e, h => by
    unfold chkE at h
    split at h <;> first | contradiction | skip
    rename_i heq
    cases heq
    simp only [Bool.and_eq_true] at h
    exact cmpE_snd G h.1.1 h.2 (sndE G hc a sc ns _ h.1.2).1 (sndE G hc b sc ns _ h.2).1
  | .cmp2 a o1 b o2 c, sc, ns, e, h => by
    unfold chkE at h
    first | contradiction | (split at h <;> contradiction)
  | .isNone a, sc, ns, e, h => by
    unfold chkE at h
    split at h <;> first | contradiction | skip
    rename_i heq
    cases heq
    exact isNone_snd (sndE G hc a sc ns _ h).1
  | .notNone a, sc, ns, e, h => by
    unfold chkE at h
    split at h <;> first | contradiction | skip
    rename_i heq
    cases heq
    exact notNone_snd (sndE G hc a sc ns _ h).1
  | .tup es, sc, ns, e, h => by
    cases e <;> simp only [chkE, Bool.false_eq_true, Bool.and_eq_true, decide_eq_true_eq] at h
    exact both G rfl (tup_snd (by rw [chkEs_len h.1]; exact h.2) (sndEs G hc es sc ns _ h.1))
  | .lst es, sc, ns, e, h => by
    cases e <;> simp only [chkE, Bool.false_eq_true, Bool.and_eq_true, decide_eq_true_eq] at h
    exact both G rfl (lst_snd (by rw [chkEs_len h.1]; exact h.2) (sndEs G hc es sc ns _ h.1))
  | .dct es, sc, ns, e, h => by
    unfold chkE at h
    first | contradiction | (split at h <;> contradiction)
  | .idx a i, sc, ns, e, h => by
    cases e <;> simp only [chkE, Bool.false_eq_true, Bool.and_eq_true] at h
    exact both G rfl (idxE_snd G h.2 (sndE G hc a sc ns _ h.1).1 (sndE G hc i sc ns _ h.2).1)
  | .slc a lo hi, sc, ns, e, h => by
    unfold chkE at h
    first | contradiction | (split at h <;> contradiction)
  | .rev a, sc, ns, e, h => by
    unfold chkE at h
    first | contradiction | (split at h <;> contradiction)
  | .call f es, sc, ns, e, h => by
    unfold chkE at h
    split at h <;> first | contradiction | skip
    rename_i heq
    cases heq
    simp only [Bool.and_eq_true, decide_eq_true_eq] at h
    exact both G rfl (call_snd G hc h.1.1.1 h.1.1.2 (sndEs G hc es sc ns _ h.2))
  | .bi b es, sc, ns, e, h => by
    unfold chkE at h
    split at h <;> first | contradiction | skip
    rename_i heq
    cases heq
    rename_i x np xs pos
    simp only [Bool.and_eq_true] at h
    obtain ⟨hx, h⟩ := h
    cases hb : biName b with
    | some q =>
      obtain ⟨y, m⟩ := q
      rw [hb] at h
      simp only [Bool.and_eq_true, decide_eq_true_eq] at h
      obtain ⟨⟨h1, h2⟩, h3⟩ := h
      have h1 := eq_of_beq h1
      subst h1
      cases b <;> simp [biName] at hb
      obtain ⟨rfl, rfl⟩ := hb
      have hes := chkEs_len h3
      have hs := sndEs G hc es sc ns xs h3
      obtain ⟨c, rfl⟩ := List.length_eq_one_iff.mp (hes.trans h2)
      obtain ⟨e, rfl⟩ := List.length_eq_one_iff.mp h2
      refine both G rfl (bi1_snd (id := "len") G (by simp [biTable]) hx hs ?_)
      intro A φ H s v y Q Ex rm R r p
      cases hv : biV C.scr .len [v] H with
      | err _ _ => rw [hv] at p; exact p.elim
      | stuck => rw [hv] at p; exact p.elim
      | ok u H' =>
        rw [hv] at p
        refine len_snd G R r hv fun tk i t e1 e2 => ?_
        subst e1; subst e2
        exact p.now R (.int _ _) tk
    | none =>
      rw [hb] at h
      cases ht : isiName b with
      | none => rw [ht] at h; cases h
      | some t =>
        rw [ht] at h
        dsimp only at h
        simp only [Bool.and_eq_true] at h
        obtain ⟨h1, h⟩ := h
        have h1 := eq_of_beq h1
        subst h1
        split at h
        · rename_i a e y yp
          simp only [Bool.and_eq_true] at h
          obtain ⟨⟨h2, h3⟩, h4⟩ := h
          have h2 := eq_of_beq h2
          subst h2
          exact both G rfl (isiE_snd (y := Str.ofString t) G ht hx h3 h4 (sndE G hc a sc ns _ h4))
        · cases h
  | .minD a d, sc, ns, e, h => by
    unfold chkE at h
    first | contradiction | (split at h <;> contradiction)
  | .meth m a es, sc, ns, e, h => by
    unfold chkE at h
    first | contradiction | (split at h <;> contradiction)
  | .comp nl elt t it cs, sc, ns, e, h => by
    unfold chkE at h
    first | contradiction | (split at h <;> contradiction)
  | .sortKey a b, sc, ns, e, h => by
    unfold chkE at h
    first | contradiction | (split at h <;> contradiction)
  | .listOf it, sc, ns, e, h => by
    unfold chkE at h
    first | contradiction | (split at h <;> contradiction)
theorem sndEs (G : X.Gl C) (hc : X.CallOk C n) : ∀ (cs : List E) (sc : Scope) (ns : List Str) (es : List Expr), chkEs X.K sc ns cs es = true → LsS X C n sc ns cs es
  | [], sc, ns, es, h => by
    cases es with
    | nil => exact .nil
    | cons _ _ => simp [chkEs] at h
  | c :: cs, sc, ns, es, h => by
    cases es with
    | nil => simp [chkEs] at h
    | cons e es =>
      simp only [chkEs, Bool.and_eq_true] at h
      exact .cons G h.1 (chkEs_len h.2) (sndE G hc c sc ns e h.1) (sndEs G hc cs sc ns es h.2)
end
end
end Mine

end
section
set_option autoImplicit false
set_option linter.unusedVariables false
set_option linter.unusedSimpArgs false
namespace Mine
open PySem PySem.Calls PyProof.Rows

/-- what a statement may change of the frame -/
def OwnV (env : Env) (own : List Addr) (x : Str) : Prop := (env.kindOf x = some .local ∧ env.locals ∈ own) ∨ (env.kindOf x = some .cell ∧ ∀ c, env.cells.lookup x = some c → c ∈ own)

section
variable {X : Fix} {C : Ctx} {A : Around} {n : Nat} {Ex : Value → Shared → Prop} {s : Shared} {φ : List Addr} {H : Hp} {sc : Scope} {ns : List Str} {env : Env} {ρ : Env'} {own : List Addr}

/-- a name is stored -/
theorem store_snd {x : Str} {i : Nat} {v : V} {y : Value} {Q : Unit → Shared → Prop} (hi : ns.idxOf x = i) (hx : x ∈ ns) (ho : OwnV env own x) (F : FR X.W env ns ρ φ s.heap) (R : SR X.W φ H s.heap) (r : Rep X.W.scr φ s.heap v y)
    (hQ : ∀ h' tk, SR X.W φ H h' → FR X.W env ns (ρ.set i (some v)) φ h' → Stp own φ s.heap φ h' → Q () { s with heap := h', toks := tk }) : wpAny X.M A (bindName env x y) Q Ex s := by
  have hil : i < ρ.length := by rw [F.len, ← hi]; exact List.idxOf_lt_length_of_mem hx
  have hlk : ∀ z ∈ ns, lk ns (ρ.set i (some v)) z = if z = x then some v else lk ns ρ z := by
    intro z hz
    rw [lk_set hi hil]
    by_cases e : z = x
    · subst e; rw [if_pos hi, if_pos rfl]
    · rw [if_neg e, if_neg (fun e' => e (idxOf_inj hz hx (e'.trans hi.symm)))]
  unfold bindName
  refine wpAny_bind (wpAny_holding (wpAny_point (wpAny_bind ?_)))
  rcases ho with ⟨hk, hL⟩ | ⟨hk, hc⟩
  · obtain ⟨m, hm, hr⟩ := F.loc
    obtain ⟨o, es, ep, hg, hd, _⟩ := id hm
    refine wpAny_storeName_local hk hm (fun h' hn hs => wpAny_point ?_) (by rw [F.fn]; rfl)
    obtain ⟨o', es', ep', hg', _⟩ := id hn
    have S : Stp own φ s.heap φ h' := .but (.inl hL) hg (notTup_dict hd) hg' hs.extBut
    refine hQ h' _ (R.but F.locA.1 F.locA.2 hg (notTup_dict hd) hg' hs.extBut) ⟨F.fn, F.glob, F.blt, F.gen, by rw [List.length_set]; exact F.len, ?_, F.locA, ?_, F.apart, fun p hp => ⟨(F.alive p hp).1, S.alive _ _ (F.alive p hp).2.choose_spec⟩⟩ S
    · refine ⟨_, hn, fun z hz hkz => ?_⟩
      rw [hlk z hz]
      by_cases e : z = x
      · subst e; simp only [if_true]; exact .some (r.mono S)
      · simp only [if_neg e]; exact (hr z hz hkz).mono S
    · intro z hz hkz
      obtain ⟨c, v', h1, h2, h3, h4, h5, h6⟩ := F.cel z hz hkz
      refine ⟨c, v', h1, h2, h3, h4, IsCell_at h5 fun o e => hs.extBut c o h3 e, ?_⟩
      rw [hlk z hz, if_neg (fun e => by subst e; rw [hk] at hkz; rcases hkz with hkz | hkz <;> cases hkz)]
      exact h6.mono S
  · obtain ⟨c, v', h1, h2, h3, h4, h5, h6⟩ := F.cel x hx (.inl hk)
    obtain ⟨o, hg, hd⟩ := id h5
    refine wpAny_storeName_cell F.fn hk h1 h5 fun h' hn hs => wpAny_point ?_
    obtain ⟨o', hg', _⟩ := id hn
    have S : Stp own φ s.heap φ h' := .but (.inl (hc c h1)) hg (notTup_cell hd) hg' hs.extBut
    refine hQ h' s.toks (R.but h2 h4 hg (notTup_cell hd) hg' hs.extBut) ⟨F.fn, F.glob, F.blt, F.gen, by rw [List.length_set]; exact F.len, ?_, F.locA, ?_, F.apart, fun p hp => ⟨(F.alive p hp).1, S.alive _ _ (F.alive p hp).2.choose_spec⟩⟩ S
    · obtain ⟨m, hm, hr⟩ := F.loc
      refine ⟨m, Ns_at hm fun o e => hs.extBut _ o h3.symm e, fun z hz hkz => ?_⟩
      rw [hlk z hz, if_neg (fun e => by subst e; rw [hk] at hkz; cases hkz)]
      exact (hr z hz hkz).mono S
    · intro z hz hkz
      rw [hlk z hz]
      by_cases e : z = x
      · subst e
        rw [if_pos rfl]
        exact ⟨c, some y, h1, h2, h3, h4, hn, .some (r.mono S)⟩
      · rw [if_neg e]
        obtain ⟨c', v2, q1, q2, q3, q4, q5, q6⟩ := F.cel z hz hkz
        have hne : c' ≠ c := fun e' => e (F.apart z x c (e' ▸ q1) h1)
        exact ⟨c', v2, q1, q2, q3, q4, IsCell_at q5 fun o e => hs.extBut _ o hne e, q6.mono S⟩

/-- all names that a target may store are the frame's own -/
def OwnN (env : Env) (own : List Addr) (xs : List Str) : Prop := ∀ x ∈ xs, OwnV env own x

theorem size_none (h : Heap) : h.get? h.objs.size = none := by
  cases e : h.get? h.objs.size with
  | none => rfl
  | some o => exact absurd (Heap.lt_size e) (Nat.lt_irrefl _)
theorem extNew {h h' : Heap} (he : Heap.ExtBut h.objs.size h h') : ∀ a o, h.get? a = some o → h'.get? a = some o := fun a o e => he a o (fun e' => by subst e'; rw [size_none] at e; cases e) e

mutual
theorem asg_snd : ∀ (t : Tgt) (e : Expr) (v : V) (y : Value) (A : Around) (ρ ρ' : Env') (φ : List Addr) (H : Hp) (s : Shared) (Q : Unit → Shared → Prop) (Ex : Value → Shared → Prop), chkT sc ns t e = true → OwnN env own (tNames t e) → Room A n → FR X.W env ns ρ φ s.heap → SR X.W φ H s.heap → Rep X.W.scr φ s.heap v y →
    asg t v ρ = some ρ' → (∀ h' tk, SR X.W φ H h' → FR X.W env ns ρ' φ h' → Stp own φ s.heap φ h' → Q () { s with heap := h', toks := tk }) → wpAny X.M A (assign e env y) Q Ex s
  | .var i, e, v, y, A, ρ, ρ', φ, H, s, Q, Ex, h, ho, rm, F, R, r, ea, hQ => by
    cases e <;> simp only [chkT, Bool.false_eq_true, Bool.and_eq_true] at h
    rename_i x pos
    obtain ⟨hi, hx⟩ := okVar_spec h.1
    rw [asg] at ea
    split at ea
    · cases ea
      rw [PySem.assign_Name]
      refine wpAny_bind (wpAny_standAt ?_)
      exact store_snd hi hx (ho x (by simp [tNames])) F R r hQ
    · cases ea
  | .tup ts, e, v, y, A, ρ, ρ', φ, H, s, Q, Ex, h, ho, rm, F, R, r, ea, hQ => by
    cases e <;> simp only [chkT, Bool.false_eq_true] at h
    rename_i es k pos
    cases v <;> simp only [asg, reduceCtorEq] at ea
    rename_i vs
    obtain ⟨a, xs, k', rfl, h1, h2, h3⟩ := tupAt r
    obtain ⟨hlen, hst⟩ := asgs_shape ts es vs ρ ρ' h ea
    refine wpAny_assign_Tuple rm.handled ⟨_, h1, rfl, k', rfl⟩ (by rw [(hst env).1, List.size_toArray, ← h2.length, hlen]) ?_ fun h' he => ?_
    · exact (hst env).2
    · have hk := extNew he
      exact asgs_snd ts es vs xs A ρ ρ' φ H { s with heap := h' } Q Ex h (fun x hx => ho x (by simpa [tNames] using hx)) rm (F.mono0 (.ext hk)) (R.ext hk) (h2.mono (own := []) (.ext hk)) ea
        fun h2 tk q1 q2 q3 => hQ h2 tk q1 q2 (Stp.trans (.ext hk) q3)
theorem asgs_shape : ∀ (ts : List Tgt) (es : List Expr) (vs : List V) (ρ ρ' : Env'), chkTs sc ns ts es = true → asgs ts vs ρ = some ρ' → es.length = vs.length ∧ ∀ env, (assignEach es env).length = es.length ∧ (assignEach es env).findIdx? (·.1) = none
  | [], [], [], _, _, _, _ => ⟨rfl, fun _ => ⟨rfl, rfl⟩⟩
  | [], [], _ :: _, _, _, _, ea => by simp [asgs] at ea
  | [], _ :: _, _, _, _, h, _ => by simp [chkTs] at h
  | _ :: _, [], _, _, _, h, _ => by simp [chkTs] at h
  | _ :: _, _ :: _, [], _, _, _, ea => by simp [asgs] at ea
  | t :: ts, e :: es, v :: vs, ρ, ρ', h, ea => by
    simp only [chkTs, Bool.and_eq_true] at h
    simp only [asgs] at ea
    obtain ⟨ρ1, e1, e2⟩ := Option.bind_eq_some_iff.mp ea
    obtain ⟨q1, q2⟩ := asgs_shape ts es vs ρ1 ρ' h.2 e2
    have hs : ∀ env, assignEach (e :: es) env = (false, assign e env) :: assignEach es env := by
      intro env
      cases e <;> first | rfl | skip
      exfalso
      cases t <;> simp [chkT] at h
    refine ⟨by simp [q1], fun env => ?_⟩
    rw [hs]
    refine ⟨by simp [(q2 env).1], ?_⟩
    rw [List.findIdx?_cons]
    simp [(q2 env).2]
theorem asgs_snd : ∀ (ts : List Tgt) (es : List Expr) (vs : List V) (ys : List Value) (A : Around) (ρ ρ' : Env') (φ : List Addr) (H : Hp) (s : Shared) (Q : Unit → Shared → Prop) (Ex : Value → Shared → Prop), chkTs sc ns ts es = true → OwnN env own (tNamess ts es) → Room A n → FR X.W env ns ρ φ s.heap → SR X.W φ H s.heap → RepL X.W.scr φ s.heap vs ys →
    asgs ts vs ρ = some ρ' → (∀ h' tk, SR X.W φ H h' → FR X.W env ns ρ' φ h' → Stp own φ s.heap φ h' → Q () { s with heap := h', toks := tk }) → wpAny X.M A (assignInOrder ((assignEach es env).map (·.2)) ys) Q Ex s
  | [], es, vs, ys, A, ρ, ρ', φ, H, s, Q, Ex, h, ho, rm, F, R, r, ea, hQ => by
    cases es <;> simp only [chkTs, Bool.false_eq_true] at h
    cases vs <;> simp only [asgs, reduceCtorEq] at ea
    cases ea
    cases r
    exact wpAny_pure (hQ s.heap s.toks R F .refl)
  | t :: ts, es, vs, ys, A, ρ, ρ', φ, H, s, Q, Ex, h, ho, rm, F, R, r, ea, hQ => by
    cases es with
    | nil => simp [chkTs] at h
    | cons e es =>
      simp only [chkTs, Bool.and_eq_true] at h
      cases vs with
      | nil => simp [asgs] at ea
      | cons v vs =>
        simp only [asgs] at ea
        obtain ⟨ρ1, e1, e2⟩ := Option.bind_eq_some_iff.mp ea
        have hs : assignEach (e :: es) env = (false, assign e env) :: assignEach es env := by
          cases e <;> first | rfl | skip
          exfalso
          cases t <;> simp [chkT] at h
        cases r with
        | cons r1 r2 =>
          rw [hs]
          refine wpAny_assignInOrder_more ?_
          refine asg_snd t e v _ A ρ ρ1 φ H s _ Ex h.1 (fun x hx => ho x (by simp [tNamess, hx])) rm F R r1 e1 fun h1 tk q1 q2 q3 => ?_
          exact asgs_snd ts es vs _ A ρ1 ρ' φ H { s with heap := h1, toks := tk } Q Ex h.2 (fun x hx => ho x (by simp [tNamess, hx])) rm q2 q1 (r2.mono q3) e2 fun h2 tk2 w1 w2 w3 => hQ h2 tk2 w1 w2 (q3.trans w3)
end
end
end Mine

end
section
set_option autoImplicit false
set_option linter.unusedVariables false
set_option linter.unusedSimpArgs false
namespace Mine
open PySem PySem.Calls PyProof.Rows

def PostO (W : Wo) (env : Env) (ns : List Str) (own : List Addr) (φ : List Addr) (s : Shared) (Q : Flow → Shared → Prop) : Out → Prop
  | .next ρ H => ∀ φ' h' tk, SR W φ' H h' → FR W env ns ρ φ' h' → Stp own φ s.heap φ' h' → Q .next { s with heap := h', toks := tk }
  | .cont ρ H => ∀ φ' h' tk, SR W φ' H h' → FR W env ns ρ φ' h' → Stp own φ s.heap φ' h' → Q .cont { s with heap := h', toks := tk }
  | .brk ρ H => ∀ φ' h' tk, SR W φ' H h' → FR W env ns ρ φ' h' → Stp own φ s.heap φ' h' → Q .brk { s with heap := h', toks := tk }
  | .ret v H => ∀ φ' h' tk x, SR W φ' H h' → Stp own φ s.heap φ' h' → Rep W.scr φ' h' v x → Q (.ret x) { s with heap := h', toks := tk }
  | _ => False

/-- an iterator over the items `vs`, at its place -/
structure Itr (X : Fix) (n : Nat) (tg : Expr) (H₀ : Hp) (ws : List Nat) (vs : List V) (I : Addr) (io : List Addr) (St : Nat → Heap → Prop) : Prop where
  keep : ∀ i h h', St i h → (∀ a ∈ io, ∀ o, h.get? a = some o → h'.get? a = some o) → St i h'
  live : ∀ i h, St i h → ∀ a ∈ io, ∃ o, h.get? a = some o ∧ NotTup o
  item : ∀ (A : Around) (φ : List Addr) (H : Hp) (s : Shared) (i : Nat) (v : V) (Q : Option Value → Shared → Prop) (Ex : Value → Shared → Prop), Room A n → SR X.W φ H s.heap → stands ws H₀ H = true → St i s.heap →
    (∀ a ∈ io, a ∉ φ ∧ X.W.h₀.get? a = none) → vs[i]? = some v →
    (∀ y s₁, (∀ (Q' : Unit → Shared → Prop) (Ex' : Value → Shared → Prop), (∀ h' tk, SR X.W φ H h' → Stp io φ s.heap φ h' → St (i + 1) h' → Rep X.W.scr φ h' v y → Q' () { s with heap := h', toks := tk }) → wpAny X.M A (letOwnedTupleGo tg (.ref I) y) Q' Ex' s₁) → Q (some y) s₁) →
    wpAny X.M A (pyNext (.ref I)) Q Ex s
  done : ∀ (A : Around) (φ : List Addr) (H : Hp) (s : Shared) (i : Nat) (Q : Option Value → Shared → Prop) (Ex : Value → Shared → Prop), Room A n → SR X.W φ H s.heap → stands ws H₀ H = true → St i s.heap →
    (∀ a ∈ io, a ∉ φ ∧ X.W.h₀.get? a = none) → vs[i]? = none →
    (∀ h' tk, SR X.W φ H h' → Stp io φ s.heap φ h' → Q none { s with heap := h', toks := tk }) → wpAny X.M A (pyNext (.ref I)) Q Ex s
  self : ∀ (A : Around) (s : Shared) (Q : Value → Shared → Prop) (Ex : Value → Shared → Prop), Room A n → St 0 s.heap → Q (.ref I) s → wpAny X.M A (pyIter (.ref I)) Q Ex s

section
variable {prog : Program} {w : World} {A : Around} {R : Result → Shared → Prop} {s : Shared}
/-- a for loop, what it unpacks let go -/
theorem forLoop_any {target : Expr} {it : Value} {body : List Stmt} {env : Env} (I : Nat → Shared → Prop)
    (turn : ∀ n s, I n s → wpAny (model prog w) A (pyNext it) (fun r s₁ => match r with
      | none => R (.ok .next) s₁
      | some v => wpAny (model prog w) A (letOwnedTupleGo target it v) (fun _ s₁ => wpAny (model prog w) A (assign target env v) (fun _ s₂ => wpAny (model prog w) A (execs body env) (fun f s₃ => match f with
          | .next | .cont => ∃ m, m < n ∧ I m s₃
          | .brk => R (.ok .next) s₃
          | .ret v => R (.ok (.ret v)) s₃) (notedBy (model prog w) A env fun e s' => R (.error e) s') s₂) (notedBy (model prog w) A env fun e s' => R (.error e) s') s₁) (notedBy (model prog w) A env fun e s' => R (.error e) s') s₁)
      (notedBy (model prog w) A env fun e s' => R (.error e) s') s)
    (n : Nat) (h : I n s) : codeAny (model prog w) A (.forLoop target it body [] env) R s := by
  refine codeAny_loop' rfl I (fun n s hI => ?_) n h
  show wpAny _ _ ((forTurn target it body [] env).onRaise (fun x => do noteFrame x env; theTreesLotGoes x)) _ _ s
  refine wpAny_noted ?_
  simp only [forTurn]
  refine wpAny_bind (wpAny_standAt (wpAny_bind (wpAny_onRaise (wpAny_mono (turn n s hI) (fun r s₁ h₁ => ?_) fun _ _ h' => wpAny_standAt h'))))
  cases r with
  | none => exact wpAny_pure (.inr ⟨rfl, codeAny_block (wpAny_execs_nil h₁)⟩)
  | some v =>
    refine wpAny_bind (wpAny_mono h₁ (fun _ s₂ h₂ => ?_) fun _ _ h' => h')
    refine wpAny_bind (wpAny_mono h₂ (fun _ s₂ h₂ => wpAny_bind (wpAny_mono h₂ (fun f s₃ h₃ => ?_) fun _ _ h' => h')) fun _ _ h' => h')
    cases f with
    | next => exact wpAny_pure (.inl ⟨rfl, h₃⟩)
    | cont => exact wpAny_pure (.inl ⟨rfl, h₃⟩)
    | brk => exact wpAny_pure h₃
    | ret v => exact wpAny_pure h₃
end

section
variable {X : Fix} {C : Ctx} {A : Around} {n : Nat} {Ex : Value → Shared → Prop} {s : Shared} {φ : List Addr} {H : Hp} {sc : Scope} {ns : List Str} {env : Env} {ρ : Env'} {own : List Addr}

theorem PostO.step {Q : Flow → Shared → Prop} {o : Out} {φ₁ : List Addr} {h₁ : Heap} {tk : Nat} (p : PostO X.W env ns own φ s Q o) (S : Stp own φ s.heap φ₁ h₁) : PostO X.W env ns own φ₁ { s with heap := h₁, toks := tk } Q o := by
  cases o with
  | next ρ H => exact fun φ' h' tk r1 r2 r3 => p φ' h' tk r1 r2 (S.trans r3)
  | cont ρ H => exact fun φ' h' tk r1 r2 r3 => p φ' h' tk r1 r2 (S.trans r3)
  | brk ρ H => exact fun φ' h' tk r1 r2 r3 => p φ' h' tk r1 r2 (S.trans r3)
  | ret v H => exact fun φ' h' tk x r1 r2 r3 => p φ' h' tk x r1 (S.trans r2) r3
  | err _ _ _ => exact p
  | stuck => exact p

def OwnF (env : Env) (own : List Addr) (ns : List Str) : Prop := OwnN env own ns ∧ ∀ a ∈ own, a = env.locals ∨ ∃ p ∈ env.cells, p.2 = a

/-- the body of a loop, or of a def: a list of statements -/
def SsS (X : Fix) (C : Ctx) (n : Nat) (sc : Scope) (ns : List Str) (cs : List S) (ss : List Stmt) : Prop :=
  ∀ (A : Around) (env : Env) (own : List Addr) (ρ : Env') (φ : List Addr) (H : Hp) (s : Shared) (Q : Flow → Shared → Prop) (Ex : Value → Shared → Prop),
    Room A n → Kinds sc env → OwnF env own ns → FR X.W env ns ρ φ s.heap → SR X.W φ H s.heap → PostO X.W env ns own φ s Q (execSs C cs ρ H) → wpAny X.M A (execs ss env) Q Ex s
def SS (X : Fix) (C : Ctx) (n : Nat) (sc : Scope) (ns : List Str) (c : S) (st : Stmt) : Prop :=
  ∀ (A : Around) (env : Env) (own : List Addr) (ρ : Env') (φ : List Addr) (H : Hp) (s : Shared) (Q : Flow → Shared → Prop) (Ex : Value → Shared → Prop),
    Room A n → Kinds sc env → OwnF env own ns → FR X.W env ns ρ φ s.heap → SR X.W φ H s.heap → PostO X.W env ns own φ s Q (execS C c ρ H) → wpAny X.M A (exec st env) Q Ex s

theorem tNames_sub : ∀ (t : Tgt) (e : Expr), chkT sc ns t e = true → ∀ x ∈ tNames t e, x ∈ ns := by
  have both : ∀ (k : Nat), (∀ (t : Tgt) (e : Expr), sizeOf t < k → chkT sc ns t e = true → ∀ x ∈ tNames t e, x ∈ ns) ∧ (∀ (ts : List Tgt) (es : List Expr), sizeOf ts < k → chkTs sc ns ts es = true → ∀ x ∈ tNamess ts es, x ∈ ns) := by
    intro k
    induction k with
    | zero => exact ⟨fun _ _ h => absurd h (Nat.not_lt_zero _), fun _ _ h => absurd h (Nat.not_lt_zero _)⟩
    | succ k ih =>
      refine ⟨fun t e hk h x hx => ?_, fun ts es hk h x hx => ?_⟩
      · cases t with
        | var i =>
          cases e <;> simp only [chkT, Bool.false_eq_true, Bool.and_eq_true] at h
          simp [tNames] at hx
          subst hx
          exact (okVar_spec h.1).2
        | tup ts =>
          cases e <;> simp only [chkT, Bool.false_eq_true] at h
          exact ih.2 ts _ (by simp at hk; omega) h x (by simpa [tNames] using hx)
      · cases ts with
        | nil => cases es <;> simp [tNamess] at hx
        | cons t ts =>
          cases es with
          | nil => simp [tNamess] at hx
          | cons e es =>
            simp only [chkTs, Bool.and_eq_true] at h
            simp at hk
            rcases List.mem_append.mp (by simpa [tNamess] using hx : x ∈ tNames t e ++ tNamess ts es) with hx | hx
            · exact ih.1 t e (by omega) h.1 x hx
            · exact ih.2 ts es (by omega) h.2 x hx
  exact fun t e => (both (sizeOf t + 1)).1 t e (Nat.lt_succ_self _)

/-- the turns of a for loop -/
theorem turns_snd {t : Tgt} {tg : Expr} {body : List S} {bs : List Stmt} {H₀ : Hp} {ws : List Nat} {vs : List V} {I : Addr} {io : List Addr} {St : Nat → Heap → Prop} {Q : Flow → Shared → Prop}
    (rm : Room A n) (kd : Kinds sc env) (hown : OwnF env own ns) (ht : chkT sc ns t tg = true) (hb : SsS X C n sc ns body bs) (it : Itr X n tg H₀ ws vs I io St)
    (F : FR X.W env ns ρ φ s.heap) (R : SR X.W φ H s.heap) (hw : stands ws H₀ H = true) (hst : St 0 s.heap) (hio : ∀ a ∈ io, a ∉ φ ∧ X.W.h₀.get? a = none) (hfr : ∀ a ∈ io, a ≠ env.locals ∧ a ∉ own ∧ ∀ x c, env.cells.lookup x = some c → c ≠ a)
    (p : PostO X.W env ns (io ++ own) φ s Q (forG ws H₀ t (fun ρ H => execSs C body ρ H) vs ρ H)) :
    codeAny X.M A (.forLoop tg (.ref I) bs [] env) (fun r s' => match r with | .ok f => Q f s' | .error e => cameBackBy X.M A env Ex e s') s := by
  refine forLoop_any (fun k s' => ∃ i ρ' H' φ' h' tk, s' = { s with heap := h', toks := tk } ∧ k = (vs.drop i).length + 1 ∧ FR X.W env ns ρ' φ' h' ∧ SR X.W φ' H' h' ∧ stands ws H₀ H' = true ∧ St i h' ∧ (∀ a ∈ io, a ∉ φ' ∧ X.W.h₀.get? a = none) ∧
    Stp (io ++ own) φ s.heap φ' h' ∧ PostO X.W env ns (io ++ own) φ s Q (forG ws H₀ t (fun ρ H => execSs C body ρ H) (vs.drop i) ρ' H')) ?_ (vs.length + 1)
    ⟨0, ρ, H, φ, s.heap, s.toks, rfl, by simp, F, R, hw, hst, hio, .refl, by simpa using p⟩
  rintro k s' ⟨i, ρ', H', φ', h', tk, rfl, rfl, F', R', hw', hst', hio', S', p'⟩
  cases hv : vs[i]? with
  | none =>
    refine it.done A φ' H' { s with heap := h', toks := tk } i _ _ rm R' hw' hst' hio' hv fun h2 tk2 R2 S2 => ?_
    have hd : vs.drop i = [] := List.drop_eq_nil_iff.mpr (List.getElem?_eq_none_iff.mp hv)
    rw [hd, forG] at p'
    have S3 : Stp (io ++ own) φ' h' φ' h2 := S2.sub (fun a ha => List.mem_append_left _ ha)
    exact p' φ' h2 tk2 R2 (F'.mono S2 (fun hm => (hfr _ hm).1 rfl) fun x c hx hm => (hfr _ hm).2.2 x c hx rfl) (S'.trans S3)
  | some v =>
    refine it.item A φ' H' { s with heap := h', toks := tk } i v _ _ rm R' hw' hst' hio' hv fun y s₁ hl => ?_
    refine hl _ _ fun h2 tk2 R2 S2 st2 r2 => ?_
    have hlt := (List.getElem?_eq_some_iff.mp hv).1
    have hd : vs.drop i = v :: vs.drop (i + 1) := by rw [List.drop_eq_getElem_cons hlt, (List.getElem?_eq_some_iff.mp hv).2]
    rw [hd, forG] at p'
    have F2 := F'.mono S2 (fun hm => (hfr _ hm).1 rfl) (fun x c hx hm => (hfr _ hm).2.2 x c hx rfl)
    cases ha : asg t v ρ' with
    | none => rw [ha] at p'; exact p'.elim
    | some ρ2 =>
      rw [ha] at p'
      dsimp only at p'
      have S3 : Stp (io ++ own) φ s.heap φ' h2 := S'.trans (S2.sub (fun a ha => List.mem_append_left _ ha))
      refine asg_snd (own := own) t tg v y A ρ' ρ2 φ' H' { s with heap := h2, toks := tk2 } _ _ ht (fun x hx => hown.1 x (tNames_sub t tg ht x hx)) rm F2 R2 r2 ha fun h3 tk3 R3 F3 S4 => ?_
      have S5 : Stp (io ++ own) φ s.heap φ' h3 := S3.trans (S4.sub (fun a ha => List.mem_append_right _ ha))
      have st3 : St (i + 1) h3 := it.keep _ _ _ st2 fun a ha o e => S4.keep a o e (hio' a ha).1 (hfr a ha).2.1
      refine hb A env own ρ2 φ' H' { s with heap := h3, toks := tk3 } _ _ rm kd hown F3 R3 ?_
      have next : ∀ {ρ4 : Env'} {H4 : Hp}, PostO X.W env ns (io ++ own) φ s Q (if stands ws H₀ H4 = true then forG ws H₀ t (fun ρ H => execSs C body ρ H) (vs.drop (i + 1)) ρ4 H4 else .stuck) →
          ∀ φ4 h4 tk4, SR X.W φ4 H4 h4 → FR X.W env ns ρ4 φ4 h4 → Stp own φ' h3 φ4 h4 → ∃ m, m < (vs.drop i).length + 1 ∧ ∃ i ρ' H' φ' h' tk, ({ s with heap := h4, toks := tk4 } : Shared) = { s with heap := h', toks := tk } ∧ m = (vs.drop i).length + 1 ∧ FR X.W env ns ρ' φ' h' ∧ SR X.W φ' H' h' ∧ stands ws H₀ H' = true ∧ St i h' ∧ (∀ a ∈ io, a ∉ φ' ∧ X.W.h₀.get? a = none) ∧
            Stp (io ++ own) φ s.heap φ' h' ∧ PostO X.W env ns (io ++ own) φ s Q (forG ws H₀ t (fun ρ H => execSs C body ρ H) (vs.drop i) ρ' H') := by
        intro ρ4 H4 p4 φ4 h4 tk4 R4 F4 S6
        split at p4
        · rename_i hw4
          refine ⟨(vs.drop (i + 1)).length + 1, by rw [hd]; simp, i + 1, ρ4, H4, φ4, h4, tk4, rfl, rfl, F4, R4, hw4, ?_, ?_, S5.trans (S6.sub fun a ha => List.mem_append_right _ ha), p4⟩
          · exact it.keep _ _ _ st3 fun a ha o e => S6.keep a o e (hio' a ha).1 (hfr a ha).2.1
          · intro a ha
            obtain ⟨o, ho, _⟩ := it.live _ _ st3 a ha
            exact ⟨S6.notMem ho (hio' a ha).1, (hio' a ha).2⟩
        · exact p4.elim
      cases hx : execSs C body ρ2 H' with
      | next ρ4 H4 => rw [hx] at p'; exact fun φ4 h4 tk4 r1 r2 r3 => next p' φ4 h4 tk4 r1 r2 r3
      | cont ρ4 H4 => rw [hx] at p'; exact fun φ4 h4 tk4 r1 r2 r3 => next p' φ4 h4 tk4 r1 r2 r3
      | brk ρ4 H4 => rw [hx] at p'; exact fun φ4 h4 tk4 r1 r2 r3 => p' φ4 h4 tk4 r1 r2 (S5.trans (r3.sub fun a ha => List.mem_append_right _ ha))
      | ret v4 H4 => rw [hx] at p'; exact fun φ4 h4 tk4 x r1 r2 r3 => p' φ4 h4 tk4 x r1 (S5.trans (r2.sub fun a ha => List.mem_append_right _ ha)) r3
      | err _ _ _ => rw [hx] at p'; exact p'.elim
      | stuck => rw [hx] at p'; exact p'.elim

/-- what an iterable of the fragment gives -/
def PostI (X : Fix) (n : Nat) (tg : Expr) (φ : List Addr) (s : Shared) (Q : Value → Shared → Prop) : R (List V × List Nat) → Prop
  | .ok p H => ∀ φ' h' tk I io St, SR X.W φ' H h' → Stp [] φ s.heap φ' h' → Itr X n tg H p.2 p.1 I io St → St 0 h' → (∀ a ∈ io, a ∉ φ' ∧ s.heap.get? a = none ∧ X.W.h₀.get? a = none) → Q (.ref I) { s with heap := h', toks := tk }
  | _ => False
def ItS (X : Fix) (C : Ctx) (n : Nat) (sc : Scope) (ns : List Str) (it : It) (e : Expr) : Prop :=
  (∀ env x, foldedSetIterable e env x = pure x) ∧
  ∀ (A : Around) (env : Env) (ρ : Env') (φ : List Addr) (H : Hp) (s : Shared) (tg : Expr) (Q : Value → Shared → Prop) (Ex : Value → Shared → Prop),
    Room A n → Kinds sc env → FR X.W env ns ρ φ s.heap → SR X.W φ H s.heap → tgOk it tg = true → PostI X n tg φ s Q (evalIt C it ρ H) → wpAny X.M A (eval e env) (fun x s₁ => wpAny X.M A (pyIter x) Q Ex s₁) Ex s

theorem PostO.conv {Q : Flow → Shared → Prop} {o : Out} {own₁ φ₁ : List Addr} {h₁ : Heap} {tk : Nat} (p : PostO X.W env ns own φ s Q o) (hS : ∀ φ' h', Stp own₁ φ₁ h₁ φ' h' → Stp own φ s.heap φ' h') : PostO X.W env ns own₁ φ₁ { s with heap := h₁, toks := tk } Q o := by
  cases o with
  | next ρ H => exact fun φ' h' tk r1 r2 r3 => p φ' h' tk r1 r2 (hS _ _ r3)
  | cont ρ H => exact fun φ' h' tk r1 r2 r3 => p φ' h' tk r1 r2 (hS _ _ r3)
  | brk ρ H => exact fun φ' h' tk r1 r2 r3 => p φ' h' tk r1 r2 (hS _ _ r3)
  | ret v H => exact fun φ' h' tk x r1 r2 r3 => p φ' h' tk x r1 (hS _ _ r2) r3
  | err _ _ _ => exact p
  | stuck => exact p

theorem OwnF.alive (h : OwnF env own ns) (F : FR X.W env ns ρ φ s.heap) : ∀ a ∈ own, ∃ o, s.heap.get? a = some o := by
  intro a ha
  rcases h.2 a ha with rfl | ⟨p, hp, rfl⟩
  · obtain ⟨m, ⟨o, es, ep, ho, _⟩, _⟩ := F.loc; exact ⟨o, ho⟩
  · exact (F.alive p hp).2

theorem mem_of_lookup' {x : Str} {c : Addr} : ∀ {l : List (Str × Addr)}, l.lookup x = some c → (x, c) ∈ l
  | [], h => by cases h
  | (y, d) :: r, h => by
    rw [List.lookup_cons] at h
    split at h
    · rename_i e
      cases h
      rw [eq_of_beq e]
      exact .head _
    · exact .tail _ (mem_of_lookup' h)

theorem for_snd {t : Tgt} {it : It} {tg iter : Expr} {body : List S} {bs : List Stmt} {pos : Pos} (ht : chkT sc ns t tg = true) (htg : tgOk it tg = true) (hit : ItS X C n sc ns it iter) (hb : SsS X C n sc ns body bs) :
    SS X C n sc ns (.for t it body) (.For tg iter bs [] pos) := by
  intro A env own ρ φ H s Q Ex rm kd hown F R p
  rw [execS] at p
  refine wpAny_For (hit.2 A env ρ φ H s tg _ Ex rm kd F R htg ?_) (hit.1 env)
  cases hi : evalIt C it ρ H with
  | err _ _ => rw [hi] at p; exact p.elim
  | stuck => rw [hi] at p; exact p.elim
  | ok q H1 =>
    obtain ⟨vs, ws⟩ := q
    rw [hi] at p
    intro φ1 h1 tk I io St R1 S1 it1 st1 hio
    have F1 := F.mono0 S1
    have hL : ∃ o, s.heap.get? env.locals = some o := by obtain ⟨m, ⟨o, es, ep, ho, _⟩, _⟩ := F.loc; exact ⟨o, ho⟩
    change PostO X.W env ns own φ s Q (forG ws H1 t (fun ρ H => execSs C body ρ H) vs ρ H1) at p
    have fresh : ∀ a ∈ io, a ∉ own → s.heap.get? a = none := fun a ha _ => (hio a ha).2.1
    refine turns_snd (H := H1) (own := own) (ρ := ρ) (s := { s with heap := h1, toks := tk }) rm kd hown ht hb it1 F1 R1 ?_ st1 (fun a ha => ⟨(hio a ha).1, (hio a ha).2.2⟩) (fun a ha => ⟨?_, ?_, ?_⟩) ?_
    · simp [stands]
    · rintro rfl
      obtain ⟨o, ho⟩ := hL
      rw [(hio _ ha).2.1] at ho; cases ho
    · intro hm
      obtain ⟨o, ho⟩ := hown.alive F a hm
      rw [(hio _ ha).2.1] at ho; cases ho
    · rintro x c hx rfl
      obtain ⟨_, o, ho⟩ := F.alive _ (mem_of_lookup' hx)
      rw [(hio _ ha).2.1] at ho; cases ho
    · exact p.conv fun φ' h' q => Stp.drop (own := io ++ own) (S1.nil.trans q) fun a ha hn => (hio a ((List.mem_append.mp ha).resolve_right hn)).2.1
end
end Mine

end
section
set_option autoImplicit false
set_option linter.unusedVariables false
set_option linter.unusedSimpArgs false
namespace Mine
open PySem PySem.Calls PyProof.Rows

section
variable {X : Fix} {C : Ctx} {A : Around} {n : Nat} {Ex : Value → Shared → Prop} {s : Shared} {φ : List Addr} {H : Hp} {sc : Scope} {ns : List Str} {env : Env} {ρ : Env'} {own : List Addr}

theorem outV {r : R V} {f : V → Hp → Out} {Q : Flow → Shared → Prop} {Q1 : Value → Shared → Prop} (p : PostO X.W env ns own φ s Q (r.out ρ f)) (k : ∀ v H1, PostO X.W env ns own φ s Q (f v H1) → PostV X.W φ s Q1 (.ok v H1)) : PostV X.W φ s Q1 r := by
  cases r with
  | ok v H1 => exact k v H1 p
  | err _ _ => exact p.elim
  | stuck => exact p.elim
theorem outB {r : R Bool} {f : Bool → Hp → Out} {Q : Flow → Shared → Prop} {Q1 : Bool → Shared → Prop} (p : PostO X.W env ns own φ s Q (r.out ρ f)) (k : ∀ v H1, PostO X.W env ns own φ s Q (f v H1) → PostB X.W φ s Q1 (.ok v H1)) : PostB X.W φ s Q1 r := by
  cases r with
  | ok v H1 => exact k v H1 p
  | err _ _ => exact p.elim
  | stuck => exact p.elim

theorem noSwap_none {x : Expr} (h : notComp x = true) (line : Nat) : swapsWith x none line env = pure false := by
  cases x <;> first | rfl | cases h
theorem noSwap {x tg : Expr} (h : notComp x = true) (line : Nat) : swapsWith x (some tg) line env = pure false := by
  cases x <;> first | rfl | cases h

theorem expr_snd {e : E} {x : Expr} {pos : Pos} (hn : notComp x = true) (he : EvS X C n sc ns e x) : SS X C n sc ns (.expr e) (.Expr x pos) := by
  intro A env own ρ φ H s Q Ex rm kd hown F R p
  rw [execS] at p
  refine wpAny_Expr_any (he A env ρ φ H s _ Ex rm kd F R (outV p fun v H1 p1 => ?_)) F.gen.2.2 (noSwap_none hn _)
  exact fun φ1 h1 tk x R1 S1 r1 => p1 φ1 h1 tk R1 (F.mono0 S1) S1.nil

/-- an assignment whose value is no comprehension -/
theorem asgS_snd {t : Tgt} {e : E} {tg x : Expr} {pos : Pos} (hn : notComp x = true) (ht : chkT sc ns t tg = true) (hx : noPair tg x = true) (he : EvS X C n sc ns e x) : SS X C n sc ns (.asg t e) (.Assign [tg] x pos) := by
  intro A env own ρ φ H s Q Ex rm kd hown F R p
  rw [execS] at p
  have key : ∀ {Q1 : Value → Shared → Prop}, (∀ v ρ' H1 φ1 h1 tk y, asg t v ρ = some ρ' → SR X.W φ1 H1 h1 → Stp [] φ s.heap φ1 h1 → Rep X.W.scr φ1 h1 v y → PostO X.W env ns own φ s Q (.next ρ' H1) → Q1 y { s with heap := h1, toks := tk }) → PostV X.W φ s Q1 (evalE C e ρ H) := by
    intro Q1 hq
    refine outV p fun v H1 p1 => ?_
    intro φ1 h1 tk y R1 S1 r1
    cases ha : asg t v ρ with
    | none => rw [ha] at p1; exact p1.elim
    | some ρ' => rw [ha] at p1; exact hq v ρ' H1 φ1 h1 tk y ha R1 S1 r1 p1
  have fin : ∀ v ρ' H1 φ1 h1 tk y, asg t v ρ = some ρ' → SR X.W φ1 H1 h1 → Stp [] φ s.heap φ1 h1 → Rep X.W.scr φ1 h1 v y → PostO X.W env ns own φ s Q (.next ρ' H1) → wpAny X.M A (assign tg env y) (fun _ => Q .next) Ex { s with heap := h1, toks := tk } := by
    intro v ρ' H1 φ1 h1 tk y ha R1 S1 r1 p1
    refine asg_snd (own := own) t tg v y A ρ ρ' φ1 H1 { s with heap := h1, toks := tk } _ _ ht (fun x hx => hown.1 x (tNames_sub t tg ht x hx)) rm (F.mono0 S1) R1 r1 ha fun h2 tk2 R2 F2 S2 => ?_
    exact p1 φ1 h2 tk2 R2 F2 (S1.nil.trans S2)
  refine wpAny_Assign_stores (he A env ρ φ H s _ Ex rm kd F R (key fun v ρ' H1 φ1 h1 tk y ha R1 S1 r1 p1 => ?_)) (noSwap hn _) ?_
  · have ht' : assignEach [tg] env = [(false, assign tg env)] := by
      cases tg <;> first | rfl | (cases t <;> simp [chkT] at ht)
    rw [ht']
    exact fin v ρ' H1 φ1 h1 tk y ha R1 S1 r1 p1
  · cases tg <;> first | rfl | (cases t <;> simp [chkT] at ht; done) | skip
    cases x <;> first | rfl | cases hx

theorem ret_snd {e : E} {x : Expr} {pos : Pos} (he : EvS X C n sc ns e x) : SS X C n sc ns (.ret e) (.Return (some x) pos) := by
  intro A env own ρ φ H s Q Ex rm kd hown F R p
  rw [execS] at p
  refine wpAny_Return_some (he A env ρ φ H s _ Ex rm kd F R (outV p fun v H1 p1 => ?_))
  exact fun φ1 h1 tk x R1 S1 r1 => p1 φ1 h1 tk x R1 S1.nil r1

theorem if_snd {c : E} {a b : List S} {t : Expr} {x y : List Stmt} {pos : Pos} (hc : TrS X C n sc ns c t) (ha : SsS X C n sc ns a x) (hb : SsS X C n sc ns b y) : SS X C n sc ns (.ife c a b) (.If t x y pos) := by
  intro A env own ρ φ H s Q Ex rm kd hown F R p
  rw [execS] at p
  refine wpAny_If (hc A env ρ φ H s _ Ex rm kd F R (outB p fun v H1 p1 => ?_))
  intro φ1 h1 tk R1 S1
  cases v with
  | true => exact ha A env own ρ φ1 H1 { s with heap := h1, toks := tk } _ Ex rm kd hown (F.mono0 S1) R1 (p1.step S1.nil)
  | false => exact hb A env own ρ φ1 H1 { s with heap := h1, toks := tk } _ Ex rm kd hown (F.mono0 S1) R1 (p1.step S1.nil)

theorem while_snd {c : E} {b : List S} {t : Expr} {y : List Stmt} {pos : Pos} (hc : TrS X C n sc ns c t) (hb : SsS X C n sc ns b y) : SS X C n sc ns (.while c b) (.While t y [] pos) := by
  intro A env own ρ φ H s Q Ex rm kd hown F R p
  rw [execS] at p
  refine wpAny_While (codeAny_whileLoop (fun k s' => ∃ ρ' H' φ' h' tk, s' = { s with heap := h', toks := tk } ∧ FR X.W env ns ρ' φ' h' ∧ SR X.W φ' H' h' ∧ Stp own φ s.heap φ' h' ∧
    PostO X.W env ns own φ s Q (whileG (fun ρ H => tst C c ρ H) (fun ρ H => execSs C b ρ H) k ρ' H')) ?_ _ ⟨ρ, H, φ, s.heap, s.toks, rfl, F, R, .refl, p⟩)
  rintro k s' ⟨ρ', H', φ', h', tk, rfl, F', R', S', p'⟩
  cases k with
  | zero => exact p'.elim
  | succ k =>
    rw [whileG] at p'
    refine hc A env ρ' φ' H' { s with heap := h', toks := tk } _ _ rm kd F' R' ?_
    cases ht : tst C c ρ' H' with
    | err _ _ => rw [ht] at p'; exact p'.elim
    | stuck => rw [ht] at p'; exact p'.elim
    | ok v H1 =>
      rw [ht] at p'
      intro φ1 h1 tk1 R1 S1
      have F1 := F'.mono0 S1
      have S2 : Stp own φ s.heap φ1 h1 := S'.trans S1.nil
      cases v with
      | false => exact wpAny_execs_nil (p' φ1 h1 tk1 R1 F1 S2)
      | true =>
        refine hb A env own ρ' φ1 H1 { s with heap := h1, toks := tk1 } _ _ rm kd hown F1 R1 ?_
        simp only [Mine.R.out, if_true] at p'
        cases hx : execSs C b ρ' H1 with
        | next ρ2 H2 => rw [hx] at p'; exact fun φ2 h2 tk2 R2 F2 S3 => ⟨k, Nat.lt_succ_self _, ρ2, H2, φ2, h2, tk2, rfl, F2, R2, S2.trans S3, p'⟩
        | cont ρ2 H2 => rw [hx] at p'; exact fun φ2 h2 tk2 R2 F2 S3 => ⟨k, Nat.lt_succ_self _, ρ2, H2, φ2, h2, tk2, rfl, F2, R2, S2.trans S3, p'⟩
        | brk ρ2 H2 => rw [hx] at p'; exact fun φ2 h2 tk2 R2 F2 S3 => p' φ2 h2 tk2 R2 F2 (S2.trans S3)
        | ret v2 H2 => rw [hx] at p'; exact fun φ2 h2 tk2 x R2 S3 r3 => p' φ2 h2 tk2 x R2 (S2.trans S3) r3
        | err _ _ _ => rw [hx] at p'; exact p'.elim
        | stuck => rw [hx] at p'; exact p'.elim

theorem ss_nil : SsS X C n sc ns [] [] := by
  intro A env own ρ φ H s Q Ex rm kd hown F R p
  rw [execSs] at p
  exact wpAny_execs_nil (p φ s.heap s.toks R F .refl)
theorem ss_cons {c : S} {cs : List S} {st : Stmt} {ss : List Stmt} (h1 : SS X C n sc ns c st) (h2 : SsS X C n sc ns cs ss) : SsS X C n sc ns (c :: cs) (st :: ss) := by
  intro A env own ρ φ H s Q Ex rm kd hown F R p
  rw [execSs] at p
  refine wpAny_execs_cons (h1 A env own ρ φ H s _ Ex rm kd hown F R ?_)
  cases hx : execS C c ρ H with
  | next ρ2 H2 => rw [hx] at p; exact fun φ2 h2' tk2 R2 F2 S3 => h2 A env own ρ2 φ2 H2 { s with heap := h2', toks := tk2 } Q Ex rm kd hown F2 R2 (p.step S3)
  | cont ρ2 H2 => rw [hx] at p; exact p
  | brk ρ2 H2 => rw [hx] at p; exact p
  | ret v2 H2 => rw [hx] at p; exact p
  | err _ _ _ => rw [hx] at p; exact p.elim
  | stuck => rw [hx] at p; exact p.elim
end
end Mine

end
section
set_option autoImplicit false
set_option linter.unusedVariables false
set_option linter.unusedSimpArgs false
namespace Mine
open PySem PySem.Calls PyProof.Rows

section
variable {X : Fix} {C : Ctx} {n : Nat}
mutual
theorem sndS (G : X.Gl C) (hc : X.CallOk C n) : ∀ (c : S) (sc : Scope) (ns : List Str) (st : Stmt), chkS X.K sc ns c st = true → SS X C n sc ns c st
  | .expr e, sc, ns, st, h => by
    cases st <;> simp only [chkS, Bool.false_eq_true, Bool.and_eq_true] at h
    exact expr_snd h.2 (sndE G hc e sc ns _ h.1).1
  | .asg t e, sc, ns, st, h => by
    unfold chkS at h
    split at h <;> first | contradiction | skip
    rename_i heq
    cases heq
    simp only [Bool.and_eq_true] at h
    obtain ⟨⟨⟨h1, h2⟩, h3⟩, h4⟩ := h
    rename_i tg x pos
    exact asgS_snd h3 h1 h4 (sndE G hc e sc ns _ h2).1
  | .setIdx a i e, sc, ns, st, h => by
    unfold chkS at h
    first | contradiction | (split at h <;> contradiction)
  | .ret e, sc, ns, st, h => by
    unfold chkS at h
    split at h <;> first | contradiction | skip
    rename_i heq
    cases heq
    exact ret_snd (sndE G hc e sc ns _ h).1
  | .ife c a b, sc, ns, st, h => by
    cases st <;> simp only [chkS, Bool.false_eq_true, Bool.and_eq_true] at h
    exact if_snd (sndE G hc c sc ns _ h.1.1).2 (sndSs G hc a sc ns _ h.1.2) (sndSs G hc b sc ns _ h.2)
  | .for t it body, sc, ns, st, h => by
    unfold chkS at h
    first | contradiction | (split at h <;> contradiction)
  | .while c body, sc, ns, st, h => by
    unfold chkS at h
    split at h <;> first | contradiction | skip
    rename_i heq
    cases heq
    simp only [Bool.and_eq_true] at h
    exact while_snd (sndE G hc c sc ns _ h.1).2 (sndSs G hc body sc ns _ h.2)
  | .pass, sc, ns, st, h => by
    cases st <;> simp only [chkS, Bool.false_eq_true] at h
    intro A env own ρ φ H s Q Ex rm kd hown F R p
    rw [execS] at p
    exact wpAny_Pass (p φ s.heap s.toks R F .refl)
  | .brk, sc, ns, st, h => by
    cases st <;> simp only [chkS, Bool.false_eq_true] at h
    intro A env own ρ φ H s Q Ex rm kd hown F R p
    rw [execS] at p
    exact wpAny_Break (p φ s.heap s.toks R F .refl)
  | .cont, sc, ns, st, h => by
    cases st <;> simp only [chkS, Bool.false_eq_true] at h
    intro A env own ρ φ H s Q Ex rm kd hown F R p
    rw [execS] at p
    exact wpAny_Continue (p φ s.heap s.toks R F .refl)
theorem sndSs (G : X.Gl C) (hc : X.CallOk C n) : ∀ (cs : List S) (sc : Scope) (ns : List Str) (ss : List Stmt), chkSs X.K sc ns cs ss = true → SsS X C n sc ns cs ss
  | [], sc, ns, ss, h => by
    cases ss with
    | nil => exact ss_nil
    | cons _ _ => simp [chkSs] at h
  | c :: cs, sc, ns, ss, h => by
    cases ss with
    | nil => simp [chkSs] at h
    | cons st ss =>
      simp only [chkSs, Bool.and_eq_true] at h
      exact ss_cons (sndS G hc c sc ns st h.1) (sndSs G hc cs sc ns ss h.2)
end
end
end Mine

end
section
set_option autoImplicit false
set_option linter.unusedVariables false
set_option linter.unusedSimpArgs false
namespace Mine
open PySem PySem.Calls PyProof.Rows

theorem lookup_zip {α : Type} : ∀ (ps : List Str) (xs : List α) (i : Nat) (x : Str) (v : α), ps.Nodup → ps[i]? = some x → xs[i]? = some v → (ps.zip xs).lookup x = some v
  | [], _, i, x, v, _, h, _ => by simp at h
  | p :: ps, [], i, x, v, _, _, h => by simp at h
  | p :: ps, y :: xs, 0, x, v, _, h1, h2 => by
    simp at h1 h2
    subst h1; subst h2
    simp
  | p :: ps, y :: xs, i + 1, x, v, hn, h1, h2 => by
    simp at h1 h2
    rw [List.nodup_cons] at hn
    have hne : ¬ (x == p) = true := fun e => hn.1 (by rw [← eq_of_beq e]; exact List.mem_of_getElem? h1)
    rw [List.zip_cons_cons, List.lookup_cons]
    simp only [hne]
    exact lookup_zip ps xs i x v hn.2 h1 h2

theorem filterMap_zip {α : Type} : ∀ (ps : List Str) (xs : List α) (f : Str → Option α), ps.length = xs.length → (∀ (i : Nat) (x : Str) (v : α), ps[i]? = some x → xs[i]? = some v → f x = some v) → ps.filterMap (fun n => (f n).map (n, ·)) = ps.zip xs
  | [], [], _, _, _ => rfl
  | [], _ :: _, _, h, _ => by cases h
  | _ :: _, [], _, h, _ => by cases h
  | p :: ps, x :: xs, f, h, hf => by
    have h0 := hf 0 p x rfl rfl
    rw [List.filterMap_cons, h0]
    simp only [Option.map_some, List.zip_cons_cons]
    rw [filterMap_zip ps xs f (by simpa using h) fun i y v h1 h2 => hf (i + 1) y v (by simpa using h1) (by simpa using h2)]

theorem bindArgs_eq {name : Str} {params : Arguments} {body : List Stmt} {scope : Scope} {pm cd doc : Value} {ps : List Str} {xs : List Value} (hp : plainParams params ps = true) (hn : ps.Nodup) (hl : ps.length = xs.length) :
    bindArgs (docDef name params body scope pm cd doc) ⟨xs, []⟩ = pure (ps.zip xs) := by
  obtain ⟨po, ar, va, ko, kd, kw, df⟩ := params
  simp only [plainParams, Bool.and_eq_true, List.isEmpty_iff, Option.isNone_iff_eq_none, decide_eq_true_eq] at hp
  obtain ⟨⟨⟨⟨⟨⟨rfl, rfl⟩, rfl⟩, rfl⟩, rfl⟩, rfl⟩, hps⟩ := hp
  have key : ∀ (i : Nat) (x : Str) (v : Value), ps[i]? = some x → xs[i]? = some v → (ps.zip xs).lookup x = some v := fun i x v h1 h2 => lookup_zip ps xs i x v hn h1 h2
  have hmiss : (ps.filter fun n => ((ps.zip xs).lookup n).isNone) = [] := by
    rw [List.filter_eq_nil_iff]
    intro x hx
    obtain ⟨i, hi, rfl⟩ := List.getElem_of_mem hx
    rw [key i ps[i] xs[i] (by simp) (by simp)]
    simp
  unfold bindArgs
  have e1 : seqItems? Value.none = (pure none : Sem _) := rfl
  have e2 : ∀ {α β : Type} (a : α) (f : α → Sem β), (pure a >>= f) = f a := fun _ _ => rfl
  have e3 : ¬ (xs.length > ps.length) := by omega
  simp only [docDef, List.map_nil, List.nil_append, List.append_nil, hps, List.forIn_nil, e1, e2, e3, decide_false, Bool.false_and, Bool.false_eq_true, if_false, Option.getD_none, Array.toList_empty, List.length_nil, Nat.zero_sub, List.drop_nil, Nat.sub_zero, List.take_length, hmiss, List.isEmpty_nil, Bool.not_true, List.zip_nil_right]
  rw [filterMap_zip ps xs _ hl key]
end Mine

end
section
set_option autoImplicit false
set_option linter.unusedVariables false
set_option linter.unusedSimpArgs false
namespace Mine
open PySem PySem.Calls PyProof.Rows

theorem cellsFrom_mem : ∀ (names : List (Str × NameKind)) (k : Nat) (acc : List (Str × Addr)) (x : Str) (c : Addr), (x, c) ∈ cellsFrom k names acc → (x, c) ∈ acc ∨ ((x, NameKind.cell) ∈ names ∧ k ≤ c)
  | [], _, _, _, _, h => .inl h
  | (y, kd) :: r, k, acc, x, c, h => by
    unfold cellsFrom at h
    split at h
    · rename_i hk
      have hk : kd = .cell := by simpa using hk
      rcases cellsFrom_mem r (k + 1) _ x c h with h | ⟨h1, h2⟩
      · rcases List.mem_cons.mp h with h | h
        · cases h; subst hk; exact .inr ⟨.head _, Nat.le_refl _⟩
        · exact .inl h
      · exact .inr ⟨.tail _ h1, by omega⟩
    · rcases cellsFrom_mem r k _ x c h with h | ⟨h1, h2⟩
      · exact .inl h
      · exact .inr ⟨.tail _ h1, h2⟩

theorem cellsFrom_some' : ∀ (names : List (Str × NameKind)) (k : Nat) (acc : List (Str × Addr)) (x : Str), names.lookup x = some .cell ∨ (acc.lookup x).isSome = true → ((cellsFrom k names acc).lookup x).isSome = true
  | [], _, _, _, h => h.elim (fun e => by cases e) id
  | (y, kd) :: r, k, acc, x, h => by
    unfold cellsFrom
    rw [List.lookup_cons] at h
    by_cases hk : (kd == NameKind.cell) = true
    · rw [if_pos hk]
      refine cellsFrom_some' r (k + 1) _ x ?_
      by_cases hy : (x == y) = true
      · exact .inr (by rw [List.lookup_cons, hy]; rfl)
      · have hy' : (x == y) = false := by simpa using hy
        rw [hy'] at h
        rw [List.lookup_cons, hy']
        exact h
    · rw [if_neg hk]
      refine cellsFrom_some' r k acc x ?_
      by_cases hy : (x == y) = true
      · rw [hy] at h
        refine .inr (h.elim (fun e => ?_) id)
        exact absurd (by rw [Option.some.inj e]; rfl) hk
      · have hy' : (x == y) = false := by simpa using hy
        rw [hy'] at h
        exact h

theorem cellsFrom_nodup : ∀ (names : List (Str × NameKind)) (k : Nat) (acc : List (Str × Addr)), (names.map (·.1)).Nodup → (acc.map (·.1)).Nodup → (∀ p ∈ names, ∀ q ∈ acc, p.1 ≠ q.1) → ((cellsFrom k names acc).map (·.1)).Nodup
  | [], _, acc, _, h, _ => h
  | (y, kd) :: r, k, acc, h1, h2, h3 => by
    rw [List.map_cons, List.nodup_cons] at h1
    unfold cellsFrom
    split
    · refine cellsFrom_nodup r (k + 1) _ h1.2 ?_ ?_
      · rw [List.map_cons, List.nodup_cons]
        refine ⟨fun hm => ?_, h2⟩
        obtain ⟨q, hq, e⟩ := List.mem_map.mp hm
        exact h3 (y, kd) (.head _) q hq e.symm
      · intro p hp q hq
        rcases List.mem_cons.mp hq with rfl | hq
        · intro e
          exact h1.1 (e ▸ List.mem_map.mpr ⟨p, hp, rfl⟩)
        · exact h3 p (.tail _ hp) q hq
    · exact cellsFrom_nodup r k _ h1.2 h2 fun p hp q hq => h3 p (.tail _ hp) q hq

theorem lookup_of_mem {x : Str} {c : Addr} : ∀ {l : List (Str × Addr)}, (l.map (·.1)).Nodup → (x, c) ∈ l → l.lookup x = some c
  | (y, d) :: r, hn, h => by
    rw [List.map_cons, List.nodup_cons] at hn
    rw [List.lookup_cons]
    rcases List.mem_cons.mp h with h | h
    · cases h; simp
    · have hne : ¬ (x == y) = true := fun e => hn.1 (by rw [← eq_of_beq e]; exact List.mem_map.mpr ⟨(x, c), h, rfl⟩)
      simp only [hne]
      exact lookup_of_mem hn.2 h

theorem bindL_eq (kf : Str → Option NameKind) : ∀ (binds : List (Str × Value)) (m : Str → Option Value) (x : Str), (binds.map (·.1)).Nodup → kf x = some .local → PySem.bindL kf binds m x = (match binds.lookup x with | some v => some v | none => m x)
  | [], m, x, _, _ => rfl
  | (y, v) :: r, m, x, hn, hk => by
    rw [List.map_cons, List.nodup_cons] at hn
    unfold PySem.bindL
    rw [bindL_eq kf r _ x hn.2 hk, List.lookup_cons]
    by_cases e : x = y
    · subst e
      have : r.lookup x = none := by
        cases hr : r.lookup x with
        | none => rfl
        | some u =>
          exfalso
          refine hn.1 ?_
          clear hn
          induction r with
          | nil => cases hr
          | cons p r ih =>
            obtain ⟨z, w⟩ := p
            rw [List.lookup_cons] at hr
            split at hr
            · rename_i e; rw [eq_of_beq e]; simp
            · exact List.mem_cons_of_mem _ (ih hr)
      rw [this]
      simp [hk]
    · have hne : (x == y) = false := by simpa using e
      rw [hne]
      dsimp only
      cases r.lookup x with
      | some u => rfl
      | none =>
        dsimp only
        split
        · simp [e]
        · rfl
theorem bindC_eq (kf : Str → Option NameKind) : ∀ (binds : List (Str × Value)) (m : Str → Option Value) (x : Str), (binds.map (·.1)).Nodup → kf x = some .cell → PySem.bindC kf binds m x = (match binds.lookup x with | some v => some v | none => m x)
  | [], m, x, _, _ => rfl
  | (y, v) :: r, m, x, hn, hk => by
    rw [List.map_cons, List.nodup_cons] at hn
    unfold PySem.bindC
    rw [bindC_eq kf r _ x hn.2 hk, List.lookup_cons]
    by_cases e : x = y
    · subst e
      have : r.lookup x = none := by
        cases hr : r.lookup x with
        | none => rfl
        | some u =>
          exfalso
          refine hn.1 ?_
          clear hn
          induction r with
          | nil => cases hr
          | cons p r ih =>
            obtain ⟨z, w⟩ := p
            rw [List.lookup_cons] at hr
            split at hr
            · rename_i e; rw [eq_of_beq e]; simp
            · exact List.mem_cons_of_mem _ (ih hr)
      rw [this]
      simp [hk]
    · have hne : (x == y) = false := by simpa using e
      rw [hne]
      dsimp only
      cases r.lookup x with
      | some u => rfl
      | none =>
        dsimp only
        split
        · rfl
        · simp [e]

theorem lookup_zip_mem {α : Type} : ∀ (ps : List Str) (xs : List α) (x : Str) (y : α), (ps.zip xs).lookup x = some y → x ∈ ps
  | [], _, _, _, h => by simp at h
  | p :: ps, [], _, _, h => by simp at h
  | p :: ps, w :: xs, x, y, h => by
    rw [List.zip_cons_cons, List.lookup_cons] at h
    split at h
    · rename_i e; rw [eq_of_beq e]; simp
    · exact List.mem_cons_of_mem _ (lookup_zip_mem ps xs x y h)

section
variable {X : Fix} {s : Shared} {φ : List Addr} {H : Hp}

/-- the arguments stand in the slots of the parameters -/
theorem args_rep {ns : List Str} {np nl : Nat} {vs : List V} {xs : List Value} {scr : Addr} {h : Heap} (hn : ns.Nodup) (hlen : ns.length = np + nl) (hv : vs.length = np) (r : RepL scr φ h vs xs) (x : Str) (hx : x ∈ ns) :
    OptRep scr φ h (lk ns (vs.map some ++ List.replicate nl none) x) (((ns.take np).zip xs).lookup x) := by
  obtain ⟨i, hi, rfl⟩ := List.getElem_of_mem hx
  have hidx : ns.idxOf ns[i] = i := by
    have h1 := List.idxOf_lt_length_of_mem hx
    exact nodup_inj hn h1 hi (by simp)
  unfold lk
  rw [hidx]
  by_cases hip : i < np
  · rw [List.getElem?_append_left (by simpa [hv] using hip)]
    have hvi : i < vs.length := by omega
    have e1 : (vs.map some)[i]? = some (some vs[i]) := by simp [hvi]
    rw [e1]
    obtain ⟨y, hy, hr⟩ := r.get (i := i) (v := vs[i]) (by simp [hvi])
    have e2 : ((ns.take np).zip xs).lookup ns[i] = some y := lookup_zip (ns.take np) xs i ns[i] y (hn.sublist (List.take_sublist _ _)) (by rw [List.getElem?_take]; simp [hip]) hy
    rw [e2]
    exact .some hr
  · rw [List.getElem?_append_right (by simp [hv]; omega)]
    have e1 : ((List.replicate nl (none : Option V))[i - (vs.map some).length]?).join = none := by
      rw [List.getElem?_replicate]
      split <;> rfl
    rw [e1]
    have e2 : ((ns.take np).zip xs).lookup ns[i] = none := by
      cases hq : ((ns.take np).zip xs).lookup ns[i] with
      | none => rfl
      | some y =>
        exfalso
        have hm : ns[i] ∈ ns.take np := lookup_zip_mem _ _ _ _ hq
        obtain ⟨j, hj, e⟩ := List.getElem_of_mem hm
        have hj' : j < np := by have := hj; simp at this; omega
        have : ns[j]'(by omega) = ns[i] := by rw [← e]; simp
        have := nodup_inj hn (by omega) hi this
        omega
    rw [e2]
    exact .none

/-- room at a caller that may have no frame -/
structure RoomC (A : Around) (n : Nat) : Prop where
  depth : A.depth + n + 110 ≤ recursionLimit
  units : A.units + 4 * n + 200 ≤ cLine
  handled : A.handled = none
  frames : ∃ l, A.frames = some l
theorem Room.toC {A : Around} {n : Nat} (rm : Room A n) : RoomC A n := let ⟨fe, outer, e, _⟩ := rm.frames; ⟨rm.depth, rm.units, rm.handled, _, e⟩
theorem RoomC.deeper {A : Around} {n : Nat} {env : Env} (rm : RoomC A (n + 1)) (h1 : env.scope.isGenerator = false) (h2 : env.scope.isCoroutine = false) (h3 : env.builtins = builtinsNs) (h4 : env.globals = mainGlobals) : Room (A.deeper env) n := by
  obtain ⟨l, e⟩ := rm.frames
  refine ⟨?_, ?_, rm.handled, env, l, ?_, h1, h2, h3, h4⟩
  · have := rm.depth; show A.depth + 1 + n + 110 ≤ _; omega
  · have := rm.units; show A.units + 3 + 4 * n + 200 ≤ _; omega
  · show A.frames.map (env :: ·) = _; rw [e]; rfl

/-- a def of the text, called -/
theorem fn_snd {C' : Ctx} {n : Nat} {f : Fn} {d : Def} {ns : List Str} {A : Around} {a : Addr} {o : Obj} {pm cd doc : Value} {vs : List V} {xs : List Value} {Q Ex : Value → Shared → Prop} (G : X.Gl C') (hc : X.CallOk C' n) (rm : RoomC A (n + 1))
    (hck : chkFn X.K d ns f = true) (ho : X.W.h₀.get? a = some o) (hd : o.data = .func (docDef d.name d.params d.body d.scope pm cd doc)) (hcd : X.W.h₀.CodeRec cd d.name)
    (R : SR X.W φ H s.heap) (r : RepL X.W.scr φ s.heap vs xs) (hv : vs.length = f.np) (p : PostV X.W φ s Q (endOut (execSs C' f.body (vs.map some ++ List.replicate f.nl none) H))) : wpAny X.M A (call (.ref a) xs) Q Ex s := by
  simp only [chkFn, Bool.and_eq_true, decide_eq_true_eq, Bool.not_eq_true'] at hck
  obtain ⟨⟨⟨⟨⟨⟨⟨⟨⟨⟨c1, c2⟩, c3⟩, c4⟩, c5⟩, c6⟩, c7⟩, c8⟩, c9⟩, c10⟩, c11⟩ := hck
  have hkind : d.scope.kind = .function := by
    revert c5
    cases d.scope.kind <;> simp
  have hps : (ns.take f.np).length = xs.length := by rw [List.length_take, ← r.length, hv, c3]; omega
  have hnp : (ns.take f.np).Nodup := c4.sublist (List.take_sublist _ _)
  have hkn : ∀ x ∈ ns, d.scope.names.lookup x = some .local ∨ d.scope.names.lookup x = some .cell := by
    intro x hx
    have := List.all_eq_true.mp c10 x hx
    revert this
    cases d.scope.names.lookup x with
    | none => simp
    | some k => cases k <;> simp
  have hcells : ∀ (k : Nat) (x : Str), d.scope.names.lookup x = some .cell → ((cellsFrom k d.scope.names []).lookup x).isSome = true := fun k x hx => cellsFrom_some' _ _ _ _ (.inl hx)
  have hcn : ∀ k, ((cellsFrom k d.scope.names []).map (·.1)).Nodup := fun k => cellsFrom_nodup _ _ _ c8 (by simp) (by simp)
  refine wpAny_call (codeAny_call_cells (by have := rm.depth; omega) (R.keep _ _ ho) hd (G.1.nolimit.keeps R.keep) (hcd.keeps R.keep) rfl (bindArgs_eq c2 hnp hps) rfl ?_ (fun s₁ hin => ?_) c7 c6 hkind)
  · intro x hx
    have hm : x.1 ∈ ns := List.mem_of_mem_take (List.of_mem_zip hx).1
    rcases hkn _ hm with h | h
    · exact .inl h
    · exact .inr ⟨h, hcells _ _ h⟩
  · generalize hfd : docDef d.name d.params d.body d.scope pm cd doc = fd at hin ⊢
    generalize henv : callEnvC fd s.heap.objs.size a = env at hin ⊢
    have eL : env.locals = s.heap.objs.size := by rw [← henv]; rfl
    have eS : env.scope = d.scope := by rw [← henv, ← hfd]; rfl
    have eC : env.cells = cellsFrom (s.heap.objs.size + 1) d.scope.names [] := by rw [← henv, ← hfd]; rfl
    have eG : env.globals = mainGlobals := by rw [← henv, ← hfd]; rfl
    have eB : env.builtins = builtinsNs := by rw [← henv, ← hfd]; rfl
    have eK : env.kindOf = fun x => d.scope.names.lookup x := by funext x; unfold Env.kindOf; rw [eS]
    obtain ⟨h₁, tk₁, hs₁⟩ := hin.toInCall.same
    have keep : ∀ b o, s.heap.get? b = some o → s₁.heap.get? b = some o := hin.toInCall.keep
    have S0 : Stp (env.locals :: env.cells.map (·.2)) φ s.heap φ s₁.heap := .ext keep
    have fresh : ∀ b : Nat, s.heap.objs.size ≤ b → s.heap.get? b = none ∧ b ∉ φ ∧ X.W.h₀.get? b = none := by
      intro b hb
      have h1 : s.heap.get? b = none := by
        cases e : s.heap.get? b with
        | none => rfl
        | some o => exact absurd (Heap.lt_size e) (Nat.not_lt.mpr hb)
      refine ⟨h1, fun hm => ?_, ?_⟩
      · obtain ⟨o, e, _⟩ := R.obj hm; rw [h1] at e; cases e
      · cases e : X.W.h₀.get? b with
        | none => rfl
        | some o => rw [R.keep _ _ e] at h1; cases h1
    have hnz : (((ns.take f.np).zip xs).map (·.1)).Nodup := by rw [List.map_fst_zip (by omega)]; exact hnp
    have hcm : ∀ (x : Str) (c : Nat), (x, c) ∈ env.cells → s.heap.objs.size < c := by
      intro x c hm
      have := hin.above x c hm
      rw [eL] at this
      exact this
    have rep1 := fun x hx => args_rep (np := f.np) (nl := f.nl) c4 c3 hv (r.mono (own := []) (.ext keep) : RepL X.W.scr φ s₁.heap vs xs) x hx
    have F : FR X.W env ns (vs.map some ++ List.replicate f.nl none) φ s₁.heap := by
      refine ⟨by rw [eS]; exact hkind, eG, eB, ⟨by rw [eS]; exact c6, by rw [eS]; exact c7, by unfold interactive; rw [eS, hkind]; rfl⟩, by simp [hv, c3], ?_, ?_, ?_, ?_, ?_⟩
      · refine ⟨_, hin.toInCall.ns, fun x hx hk => ?_⟩
        rw [bindL_eq _ _ _ _ hnz hk]
        have := rep1 x hx
        cases hq : ((ns.take f.np).zip xs).lookup x with
        | none => rw [hq] at this; exact this
        | some y => rw [hq] at this; exact this
      · rw [eL]
        exact ⟨(fresh _ (Nat.le_refl _)).2.1, (fresh _ (Nat.le_refl _)).2.2⟩
      · intro x hx hk
        have hk' : env.kindOf x = some .cell := by
          rcases hk with hk | hk
          · exact hk
          · rw [eK] at hk
            dsimp only at hk
            rcases hkn x hx with h | h <;> rw [h] at hk <;> cases hk
        have hlook : (env.cells.lookup x).isSome = true := by rw [eC]; exact hcells _ _ (by rw [eK] at hk'; exact hk')
        obtain ⟨c, hc'⟩ := Option.isSome_iff_exists.mp hlook
        have hlt := hcm x c (mem_of_lookup' hc')
        refine ⟨c, _, hc', (fresh c (Nat.le_of_lt hlt)).2.1, by rw [eL]; exact Nat.ne_of_gt hlt, (fresh c (Nat.le_of_lt hlt)).2.2, hin.cell x c hc', ?_⟩
        rw [bindC_eq _ _ _ _ hnz hk']
        have := rep1 x hx
        cases hq : ((ns.take f.np).zip xs).lookup x with
        | none => rw [hq] at this; exact this
        | some y => rw [hq] at this; exact this
      · intro x y c h1 h2
        exact name_of_addr hin.apart (mem_of_lookup' h1) (mem_of_lookup' h2)
      · rintro ⟨x, c⟩ hm
        have hlt := hcm x c hm
        have hl := lookup_of_mem (by rw [eC]; exact hcn _) hm
        obtain ⟨o, ho', _⟩ := hin.cell x c hl
        exact ⟨(fresh c (Nat.le_of_lt hlt)).2.1, o, ho'⟩
    have hown : OwnF env (env.locals :: env.cells.map (·.2)) ns := by
      refine ⟨fun x hx => ?_, fun b hb => ?_⟩
      · rcases hkn x hx with h | h
        · exact .inl ⟨by rw [eK]; exact h, .head _⟩
        · exact .inr ⟨by rw [eK]; exact h, fun c hc' => .tail _ (List.mem_map.mpr ⟨(x, c), mem_of_lookup' hc', rfl⟩)⟩
      · rcases List.mem_cons.mp hb with hb | hb
        · exact .inl hb
        · obtain ⟨q, hq, e⟩ := List.mem_map.mp hb; exact .inr ⟨q, hq, e⟩
    have drop : ∀ {φ' : List Addr} {h' : Heap}, Stp (env.locals :: env.cells.map (·.2)) φ s₁.heap φ' h' → Stp [] φ s.heap φ' h' := fun q => (S0.trans q).drop fun b hb _ => by
      rcases List.mem_cons.mp hb with rfl | hb
      · rw [eL]; exact size_none _
      · obtain ⟨⟨x, c⟩, hq, rfl⟩ := List.mem_map.mp hb
        exact (fresh c (Nat.le_of_lt (hcm x c hq))).1
    have rm' : Room (A.deeper env) n := rm.deeper (by rw [eS]; exact c6) (by rw [eS]; exact c7) eB eG
    have hss := sndSs G hc f.body d.scope ns d.body c11 (A.deeper env) env _ _ φ H s₁ (fun fl s' => Q (match fl with | .ret v => v | _ => .none) s') (fun e s' => wpAny X.M (A.deeper env) (leaving env e) (fun _ s'' => Ex e s'') (fun e' s'' => Ex e' s'') s') rm' (fun x => .inl (by rw [eK])) hown F (R.ext keep) ?_
    · exact wpAny_mono hss (fun fl s' q => by cases fl <;> exact q) (fun e s' q => q)
    · subst hs₁
      cases hx : execSs C' f.body (vs.map some ++ List.replicate f.nl none) H with
      | next ρ2 H2 => rw [hx] at p; exact fun φ2 h2 tk2 R2 F2 S2 => p φ2 h2 tk2 _ R2 (drop S2) .none
      | ret v2 H2 => rw [hx] at p; exact fun φ2 h2 tk2 x R2 S2 r2 => p φ2 h2 tk2 _ R2 (drop S2) r2
      | cont ρ2 H2 => rw [hx] at p; exact p.elim
      | brk ρ2 H2 => rw [hx] at p; exact p.elim
      | err _ _ _ => rw [hx] at p; exact p.elim
      | stuck => rw [hx] at p; exact p.elim
end

theorem chkAll_get {K : CK} : ∀ {ds : List Def} {nss : List (List Str)} {fs : List Fn} {i : Nat} {d : Def} {f : Fn}, chkAll K ds nss fs = true → ds[i]? = some d → fs[i]? = some f → ∃ ns, chkFn K d ns f = true
  | [], [], [], i, d, f, _, h, _ => by simp at h
  | d :: ds, n :: nss, f :: fs, 0, d', f', h, h1, h2 => by
    simp only [chkAll, Bool.and_eq_true] at h
    simp at h1 h2
    subst h1; subst h2
    exact ⟨n, h.1⟩
  | d :: ds, n :: nss, f :: fs, i + 1, d', f', h, h1, h2 => by
    simp only [chkAll, Bool.and_eq_true] at h
    exact chkAll_get (i := i) h.2 (by simpa using h1) (by simpa using h2)
  | [], [], _ :: _, _, _, _, h, _, _ => by simp [chkAll] at h
  | [], _ :: _, _, _, _, _, h, _, _ => by simp [chkAll] at h
  | _ :: _, [], _, _, _, _, h, _, _ => by simp [chkAll] at h
  | _ :: _, _ :: _, [], _, _, _, h, _, _ => by simp [chkAll] at h

/-- calls, whatever room is left -/
theorem callOk {X : Fix} {gks : List V} {fns : List Fn} {nss : List (List Str)} (hck : chkAll X.K X.defs nss fns = true) (G : ∀ n, X.Gl ⟨X.scr, gks, callF X.scr gks fns n⟩) : ∀ n, X.CallOk ⟨X.scr, gks, callF X.scr gks fns n⟩ n := by
  intro n
  induction n with
  | zero =>
    intro A f x a vs H φ s xs Q Ex rm h1 h2 R r p
    exact p.elim
  | succ n ih =>
    intro A f x a vs H φ s xs Q Ex rm h1 h2 R r p
    obtain ⟨a', o, d, pm, cd, doc, e1, e2, e3, e4, e5, e6⟩ := (G n).1.fn f x h1
    rw [h2] at e3; cases e3
    change PostV X.W φ s Q (callF X.scr gks fns (n + 1) f vs H) at p
    rw [callF] at p
    cases hf : fns[f]? with
    | none => rw [hf] at p; exact p.elim
    | some fn =>
      rw [hf] at p
      dsimp only at p
      split at p
      · rename_i hv
        obtain ⟨ns, hc⟩ := chkAll_get hck e1 hf
        exact fn_snd (G n) ih rm.toC hc e4 e5 e6 R r hv p
      · exact p.elim
end Mine

end
section
set_option autoImplicit false
set_option linter.unusedVariables false
set_option linter.unusedSimpArgs false
namespace Mine
open PySem PySem.Calls PyProof.Rows PySem.W

def defQ (d : DefRec) : Def := ⟨d.name, d.params, d.body, d.scope⟩
def defsQ (q : Program) : List Def := (recsOf q).map defQ

/-- the names of the built-ins are the built-ins' own -/
def biFree (q : Program) (loose : List Str) : Bool := biTable.all fun p => !startupNames.contains p.1 && !loose.contains p.1 && !((recsOf q).map (·.name)).contains p.1 && !((litsOf q).map (·.1)).contains p.1 && !((clssOf q loose).map (·.name)).contains p.1 &&
  !(p.1 == ("__name__" : Str)) && decide (bootBuiltins p.1 = some p.2)

theorem ints_rep {scr : Addr} {φ : List Addr} {h : Heap} : ∀ {vs : List Value} {ns : List Int}, IntsAre vs ns → RepL scr φ h (ns.map .int) vs := by
  intro vs ns hI
  induction hI with
  | nil => exact .nil
  | cons _ _ _ ih => exact .cons (.int _ _) ih

/-- a whole law, by the interpreter's answer -/
theorem law_of {q prog : Program} {loose : List Str} {mean : ExcName → Option Value} {mg mb : Str → Option Value} {w : World} {s₁ : Shared} {K : CK} {fns : List Fn} {nss : List (List Str)} {gks : List V} {scr : Addr} {vs : List Value} {ns : List Int} {fa : Addr} {N lawIdx : Nat} {Q Ex : Value → Shared → Prop}
    (T : Top q loose mean mg mb s₁.heap) (hK : K.fns = (defsQ q).map (·.name)) (hck : chkAll K (defsQ q) nss fns = true) (hbi : biFree q loose = true) (himp : importsNone q = true) (htree : prog.given.tree = none)
    (hgk : ∀ (j : Nat) (x : Str), K.gks[j]? = some x → ∃ v y, gks[j]? = some v ∧ mg x = some y ∧ Rep scr [] s₁.heap v y)
    (hL : s₁.heap.IsList scr vs.toArray) (hI : IntsAre vs ns) (hlen : ns.length ≤ 63) (hN : N ≤ 560) (hlaw : K.fns[lawIdx]? = some (Str.ofString "law")) (hfa : mg "law" = some (.ref fa))
    (hrun : ∃ H, callF ns gks fns N lawIdx [.script] [] = .ok (.bool true) H)
    (hQ : ∀ h' tk, (∀ b o, s₁.heap.get? b = some o → h'.get? b = some o) → Q (.bool true) { s₁ with heap := h', toks := tk }) : wpAny (model prog w) callerA (call (.ref fa) [.ref scr]) Q Ex s₁ := by
  let W : Wo := ⟨s₁.heap, scr, fun _ => 0⟩
  let X : Fix := ⟨prog, w, W, K, defsQ q, ns, mg, mb⟩
  have hbi' := List.all_eq_true.mp hbi
  have G : ∀ n, X.Gl ⟨ns, gks, callF ns gks fns n⟩ := by
    intro n
    refine ⟨⟨T.g, T.b, fun p hp => ?_, fun f x hx => ?_, hgk, T.nolimit, T.seer himp, htree, ⟨vs, hL, ints_rep hI⟩, by show ns.length ≤ 1000; omega⟩, rfl⟩
    · have h := hbi' p hp
      simp only [Bool.and_eq_true, Bool.not_eq_true', decide_eq_true_eq] at h
      obtain ⟨⟨⟨⟨⟨⟨h1, h2⟩, h3⟩, h4⟩, h5⟩, h6⟩, h7⟩ := h
      have nc : ∀ {l : List Str} {x : Str}, l.contains x = false → x ∉ l := fun h hm => by rw [List.contains_iff_mem.mpr hm] at h; cases h
      exact ⟨T.free p.1 (nc h1) (nc h2) (nc h3) (nc h4) (nc h5), (T.builtins p.1 (fun e => by rw [e] at h6; simp at h6)).trans h7⟩
    · have hx' : ((defsQ q).map (·.name))[f]? = some x := by rw [← hK]; exact hx
      rw [List.getElem?_map] at hx'
      obtain ⟨d, hd, rfl⟩ := Option.map_eq_some_iff.mp hx'
      have hd' := hd
      unfold defsQ at hd'
      rw [List.getElem?_map] at hd'
      obtain ⟨r, hr, rfl⟩ := Option.map_eq_some_iff.mp hd'
      obtain ⟨a, o, pm, cd, doc, h1, h2, h3, h4⟩ := T.fn r (List.mem_of_getElem? hr)
      exact ⟨a, o, defQ r, pm, cd, doc, hd, rfl, h1, h2, h3, h4⟩
  have R0 : SR W [] [] s₁.heap := ⟨fun _ _ e => e, fun a ha => (by cases ha), List.nodup_nil, rfl, fun l c e => (by cases e)⟩
  obtain ⟨H, hrun⟩ := hrun
  cases N with
  | zero => cases hrun
  | succ n =>
    obtain ⟨a', o, d, pm, cd, doc, e1, e2, e3, e4, e5, e6⟩ := (G n).1.fn lawIdx "law" hlaw
    change mg _ = _ at e3
    rw [hfa] at e3; cases e3
    rw [callF] at hrun
    cases hf : fns[lawIdx]? with
    | none => rw [hf] at hrun; cases hrun
    | some fn =>
      rw [hf] at hrun
      dsimp only at hrun
      split at hrun
      · rename_i hv
        obtain ⟨nn, hc⟩ := chkAll_get hck e1 hf
        have rm : RoomC callerA (n + 1) := ⟨by show 1 + 300 + (n + 1) + 110 ≤ 1000; omega, by show 4 + 4 * (n + 1) + 200 ≤ 9900; omega, rfl, _, rfl⟩
        refine fn_snd (X := X) (G n) (callOk (X := X) hck G n) rm hc e4 e5 e6 R0 (.cons .script .nil) hv ?_
        rw [hrun]
        intro φ' h' tk x R1 S1 r1
        cases r1
        exact hQ h' tk fun b o e => R1.keep b o e
      · cases hrun
end Mine

end
section
set_option autoImplicit false
set_option linter.unusedVariables false
set_option linter.unusedSimpArgs false
namespace Mine
open PySem
theorem evalE_k (C : Ctx) (v : V) (ρ : Env') (H : Hp) : evalE C (.k v) ρ H = (.ok v H) := by (rw [evalE]; try rfl)
theorem evalE_var (C : Ctx) (i : Nat) (ρ : Env') (H : Hp) : evalE C (.var i) ρ H = (ofOpt H (ρ[i]?.join)) := by (rw [evalE]; try rfl)
theorem evalE_gk (C : Ctx) (j : Nat) (ρ : Env') (H : Hp) : evalE C (.gk j) ρ H = (ofOpt H C.gks[j]?) := by (rw [evalE]; try rfl)
theorem evalE_bin (C : Ctx) (op : BOp) (a b : E) (ρ : Env') (H : Hp) : evalE C (.bin op a b) ρ H = ((evalE C a ρ H).bind fun x H => (evalE C b ρ H).bind fun y H => binop op x y H) := by (rw [evalE]; try rfl)
theorem evalE_neg (C : Ctx) (a : E) (ρ : Env') (H : Hp) : evalE C (.neg a) ρ H = ((evalE C a ρ H).bind fun x H => match x with
      | .int i => .ok (.int (-i)) H
      | _ => .stuck) := by (rw [evalE]; try rfl)
theorem evalE_not (C : Ctx) (a : E) (ρ : Env') (H : Hp) : evalE C (.not a) ρ H = ((evalE C a ρ H).bind fun x H => (ofOpt H (truthy C.scr H x)).bind fun b H => .ok (.bool (!b)) H) := by (rw [evalE]; try rfl)
theorem evalE_and (C : Ctx) (es : List E) (ρ : Env') (H : Hp) : evalE C (.and es) ρ H = (evalAnd C es ρ H) := by (rw [evalE]; try rfl)
theorem evalE_or (C : Ctx) (es : List E) (ρ : Env') (H : Hp) : evalE C (.or es) ρ H = (evalOr C es ρ H) := by (rw [evalE]; try rfl)
theorem evalE_ife (C : Ctx) (c a b : E) (ρ : Env') (H : Hp) : evalE C (.ife c a b) ρ H = ((evalE C c ρ H).bind fun x H => (ofOpt H (truthy C.scr H x)).bind fun t H => if t then evalE C a ρ H else evalE C b ρ H) := by (rw [evalE]; try rfl)
theorem evalE_cmp (C : Ctx) (op : COp) (a b : E) (ρ : Env') (H : Hp) : evalE C (.cmp op a b) ρ H = ((evalE C a ρ H).bind fun x H => (evalE C b ρ H).bind fun y H => (ofOpt H (cmpV C.scr op x y H)).bind fun t H => .ok (.bool t) H) := by (rw [evalE]; try rfl)
theorem evalE_cmp2 (C : Ctx) (a : E) (o1 : COp) (b : E) (o2 : COp) (c : E) (ρ : Env') (H : Hp) : evalE C (.cmp2 a o1 b o2 c) ρ H = ((evalE C a ρ H).bind fun x H => (evalE C b ρ H).bind fun y H => (ofOpt H (cmpV C.scr o1 x y H)).bind fun t H =>
        if t then (evalE C c ρ H).bind fun z H => (ofOpt H (cmpV C.scr o2 y z H)).bind fun t H => .ok (.bool t) H else .ok (.bool false) H) := by (rw [evalE]; try rfl)
theorem evalE_isNone (C : Ctx) (a : E) (ρ : Env') (H : Hp) : evalE C (.isNone a) ρ H = ((evalE C a ρ H).bind fun x H => .ok (.bool (x == .none)) H) := by (rw [evalE]; try rfl)
theorem evalE_notNone (C : Ctx) (a : E) (ρ : Env') (H : Hp) : evalE C (.notNone a) ρ H = ((evalE C a ρ H).bind fun x H => .ok (.bool (!(x == .none))) H) := by (rw [evalE]; try rfl)
theorem evalE_tup (C : Ctx) (es : List E) (ρ : Env') (H : Hp) : evalE C (.tup es) ρ H = ((evalEs C es ρ H).bind fun vs H => .ok (.tup vs) H) := by (rw [evalE]; try rfl)
theorem evalE_lst (C : Ctx) (es : List E) (ρ : Env') (H : Hp) : evalE C (.lst es) ρ H = ((evalEs C es ρ H).bind fun vs H => alloc (.list vs) H) := by (rw [evalE]; try rfl)
theorem evalE_dct (C : Ctx) (es : List E) (ρ : Env') (H : Hp) : evalE C (.dct es) ρ H = ((evalEs C es ρ H).bind fun vs H => (ofOpt H (pairUp vs)).bind fun kvs H => if kvs.all (fun p => keyOk p.1) && decide ((kvs.map (·.1)).Nodup) && decide (kvs.length ≤ 8) then alloc (.dict kvs kvs.length) H else .stuck) := by (rw [evalE]; try rfl)
theorem evalE_idx (C : Ctx) (a i : E) (ρ : Env') (H : Hp) : evalE C (.idx a i) ρ H = ((evalE C a ρ H).bind fun x H => (evalE C i ρ H).bind fun y H => ofOpt H (idxV C.scr x y H)) := by (rw [evalE]; try rfl)
theorem evalE_slc (C : Ctx) (a : E) (lo hi : Option E) (ρ : Env') (H : Hp) : evalE C (.slc a lo hi) ρ H = ((evalE C a ρ H).bind fun x H => (evalO C lo ρ H).bind fun l H => (evalO C hi ρ H).bind fun h H => slcV C.scr x l h H) := by (rw [evalE]; try rfl)
theorem evalE_rev (C : Ctx) (a : E) (ρ : Env') (H : Hp) : evalE C (.rev a) ρ H = ((evalE C a ρ H).bind fun x H => match x with
      | .ref l => match H[l]? with
        | some (.list vs) => allocL vs.reverse H
        | _ => .stuck
      | _ => .stuck) := by (rw [evalE]; try rfl)
theorem evalE_call (C : Ctx) (f : Nat) (es : List E) (ρ : Env') (H : Hp) : evalE C (.call f es) ρ H = ((evalEs C es ρ H).bind fun vs H => C.call f vs H) := by (rw [evalE]; try rfl)
theorem evalE_bi (C : Ctx) (b : Bi) (es : List E) (ρ : Env') (H : Hp) : evalE C (.bi b es) ρ H = ((evalEs C es ρ H).bind fun vs H => biV C.scr b vs H) := by (rw [evalE]; try rfl)
theorem evalE_minD (C : Ctx) (a d : E) (ρ : Env') (H : Hp) : evalE C (.minD a d) ρ H = ((evalE C a ρ H).bind fun x H => (evalE C d ρ H).bind fun y H => minDV x y H) := by (rw [evalE]; try rfl)
theorem evalE_meth (C : Ctx) (m : Me) (a : E) (es : List E) (ρ : Env') (H : Hp) : evalE C (.meth m a es) ρ H = ((evalE C a ρ H).bind fun x H => (evalEs C es ρ H).bind fun vs H => methV m x vs H) := by (rw [evalE]; try rfl)
theorem evalE_listOf (C : Ctx) (it : It) (ρ : Env') (H : Hp) : evalE C (.listOf it) ρ H = ((evalIt C it ρ H).bind fun p H => allocL p.1 H) := by (rw [evalE]; try rfl)
def compB (C : Ctx) (t : Tgt) (cs : List E) (elt : E) (ws : List Nat) (H₀ : Hp) (vs : List V) (ρ : Env') (H : Hp) (acc : List V) : R (List V) := compG ws H₀ t (fun ρ H => tests C cs ρ H) (fun ρ H => evalE C elt ρ H) vs ρ H acc
theorem evalE_comp (C : Ctx) (nl : Nat) (elt : E) (t : Tgt) (it : It) (cs : List E) (ρ : Env') (H : Hp) : evalE C (.comp nl elt t it cs) ρ H = ((evalIt C it ρ H).bind fun p H => (compB C t cs elt p.2 H p.1 (List.replicate nl none ++ ρ) H []).bind fun vs H => allocL vs H) := by rw [evalE]; rfl
def keysB (C : Ctx) (body : E) (vs : List V) (ρ : Env') (H : Hp) : R (List (Int × V)) := keysG (fun v H => evalE C body (some v :: ρ) H) vs H []
theorem evalE_sortKey (C : Ctx) (a body : E) (ρ : Env') (H : Hp) : evalE C (.sortKey a body) ρ H = ((evalE C a ρ H).bind fun x H => match x with
    | .ref l => match H[l]? with
      | some (.list vs) => (keysB C body vs ρ H).bind fun ks H => allocL ((sortP ks).map (·.2)) H
      | _ => .stuck
    | _ => .stuck) := by rw [evalE]; rfl
def forB (C : Ctx) (t : Tgt) (body : List S) (ws : List Nat) (H₀ : Hp) (vs : List V) (ρ : Env') (H : Hp) : Out := forG ws H₀ t (fun ρ H => execSs C body ρ H) vs ρ H
def whileB (C : Ctx) (c : E) (body : List S) (n : Nat) (ρ : Env') (H : Hp) : Out := whileG (fun ρ H => tst C c ρ H) (fun ρ H => execSs C body ρ H) n ρ H
theorem execS_expr (C : Ctx) (e : E) (ρ : Env') (H : Hp) : execS C (.expr e) ρ H = ((evalE C e ρ H).out ρ fun _ H => .next ρ H) := by (rw [execS]; try rfl)
theorem execS_asg (C : Ctx) (t : Tgt) (e : E) (ρ : Env') (H : Hp) : execS C (.asg t e) ρ H = ((evalE C e ρ H).out ρ fun v H => match asg t v ρ with
    | some ρ' => .next ρ' H
    | none => .stuck) := by (rw [execS]; try rfl)
theorem execS_setIdx (C : Ctx) (a i e : E) (ρ : Env') (H : Hp) : execS C (.setIdx a i e) ρ H = ((evalE C e ρ H).out ρ fun v H => (evalE C a ρ H).out ρ fun x H => (evalE C i ρ H).out ρ fun k H => match setIdxV x k v H with
    | some H' => .next ρ H'
    | none => .stuck) := by (rw [execS]; try rfl)
theorem execS_ret (C : Ctx) (e : E) (ρ : Env') (H : Hp) : execS C (.ret e) ρ H = ((evalE C e ρ H).out ρ fun v H => .ret v H) := by (rw [execS]; try rfl)
theorem execS_ife (C : Ctx) (c : E) (a b : List S) (ρ : Env') (H : Hp) : execS C (.ife c a b) ρ H = ((tst C c ρ H).out ρ fun t H => if t then execSs C a ρ H else execSs C b ρ H) := by (rw [execS]; try rfl)
theorem execS_for (C : Ctx) (t : Tgt) (it : It) (body : List S) (ρ : Env') (H : Hp) : execS C (.for t it body) ρ H = ((evalIt C it ρ H).out ρ fun p H => forB C t body p.2 H p.1 ρ H) := by rw [execS]; rfl
theorem execS_while (C : Ctx) (c : E) (body : List S) (ρ : Env') (H : Hp) : execS C (.while c body) ρ H = whileB C c body (weight ρ) ρ H := by rw [execS]; rfl
theorem execS_pass (C : Ctx) (ρ : Env') (H : Hp) : execS C .pass ρ H = .next ρ H := by (rw [execS]; try rfl)
theorem execS_brk (C : Ctx) (ρ : Env') (H : Hp) : execS C .brk ρ H = .brk ρ H := by (rw [execS]; try rfl)
theorem execS_cont (C : Ctx) (ρ : Env') (H : Hp) : execS C .cont ρ H = .cont ρ H := by (rw [execS]; try rfl)
/-- one statement behind the other -/
def Out.seq (o : Out) (f : Env' → Hp → Out) : Out := match o with
  | .next ρ H => f ρ H
  | o => o
theorem seq_next (ρ : Env') (H : Hp) (f : Env' → Hp → Out) : Out.seq (.next ρ H) f = f ρ H := rfl
theorem seq_ret (v : V) (H : Hp) (f : Env' → Hp → Out) : Out.seq (.ret v H) f = .ret v H := rfl
theorem seq_cont (ρ : Env') (H : Hp) (f : Env' → Hp → Out) : Out.seq (.cont ρ H) f = .cont ρ H := rfl
theorem seq_brk (ρ : Env') (H : Hp) (f : Env' → Hp → Out) : Out.seq (.brk ρ H) f = .brk ρ H := rfl
theorem execSs_nil (C : Ctx) (ρ : Env') (H : Hp) : execSs C [] ρ H = .next ρ H := by rw [execSs]
theorem execSs_cons (C : Ctx) (s : S) (r : List S) (ρ : Env') (H : Hp) : execSs C (s :: r) ρ H = (execS C s ρ H).seq (execSs C r) := by
  rw [execSs]; cases execS C s ρ H <;> rfl
theorem seq_ite (c : Prop) [Decidable c] (a b : Out) (f : Env' → Hp → Out) : Out.seq (if c then a else b) f = if c then a.seq f else b.seq f := by split <;> rfl
theorem truthy_none (scr : List Int) (H : Hp) : truthy scr H .none = some false := rfl
theorem truthy_bool (scr : List Int) (H : Hp) (b : Bool) : truthy scr H (.bool b) = some b := rfl
theorem truthy_int (scr : List Int) (H : Hp) (i : Int) : truthy scr H (.int i) = some (i != 0) := rfl
theorem truthy_tup (scr : List Int) (H : Hp) (vs : List V) : truthy scr H (.tup vs) = some (!vs.isEmpty) := rfl
theorem isInt_int (scr : List Int) (i : Int) (H : Hp) : biV scr .isInt [.int i] H = .ok (.bool true) H := rfl
theorem isInt_bool (scr : List Int) (i : Bool) (H : Hp) : biV scr .isInt [.bool i] H = .ok (.bool true) H := rfl
theorem isBool_int (scr : List Int) (i : Int) (H : Hp) : biV scr .isBool [.int i] H = .ok (.bool false) H := rfl
theorem isBool_bool (scr : List Int) (i : Bool) (H : Hp) : biV scr .isBool [.bool i] H = .ok (.bool true) H := rfl
theorem isTuple_tup (scr : List Int) (vs : List V) (H : Hp) : biV scr .isTuple [.tup vs] H = .ok (.bool true) H := rfl
theorem len_tup (scr : List Int) (vs : List V) (H : Hp) : biV scr .len [.tup vs] H = .ok (.int vs.length) H := rfl
theorem len_script (scr : List Int) (H : Hp) : biV scr .len [.script] H = .ok (.int scr.length) H := by simp [biV, itemsOf]
theorem idx_tup (scr : List Int) (vs : List V) (k : Int) (H : Hp) : idxV scr (.tup vs) (.int k) H = seqAt vs k := rfl
theorem idx_script (scr : List Int) (k : Int) (H : Hp) : idxV scr .script (.int k) H = seqAt (scr.map .int) k := rfl
theorem seqAt_zero (v : V) (vs : List V) : seqAt (v :: vs) 0 = some v := rfl
theorem seqAt_one (v u : V) (vs : List V) : seqAt (v :: u :: vs) 1 = some u := rfl
theorem seqAt_two (v u w : V) (vs : List V) : seqAt (v :: u :: w :: vs) 2 = some w := rfl
theorem seqAt_three (v u w x : V) (vs : List V) : seqAt (v :: u :: w :: x :: vs) 3 = some x := rfl
theorem bin_add (a b : Int) (H : Hp) : binop .add (.int a) (.int b) H = .ok (.int (a + b)) H := rfl
theorem bin_sub (a b : Int) (H : Hp) : binop .sub (.int a) (.int b) H = .ok (.int (a - b)) H := rfl
theorem bin_mul (a b : Int) (H : Hp) (h : mulOk a b = true) : binop .mul (.int a) (.int b) H = .ok (.int (a * b)) H := by unfold binop; simp [h]
theorem bin_fdiv (a b : Int) (H : Hp) (h : b ≠ 0) : binop .fdiv (.int a) (.int b) H = .ok (.int (a.fdiv b)) H := by unfold binop; simp [h]
theorem bin_mod (a b : Int) (H : Hp) (h : b ≠ 0) : binop .mod (.int a) (.int b) H = .ok (.int (a.fmod b)) H := by unfold binop; simp [h]
theorem cmp_lt (scr : List Int) (a b : Int) (H : Hp) : cmpV scr .lt (.int a) (.int b) H = some (decide (a < b)) := rfl
theorem cmp_le (scr : List Int) (a b : Int) (H : Hp) : cmpV scr .le (.int a) (.int b) H = some (decide (a ≤ b)) := rfl
theorem cmp_gt (scr : List Int) (a b : Int) (H : Hp) : cmpV scr .gt (.int a) (.int b) H = some (decide (a > b)) := rfl
theorem cmp_ge (scr : List Int) (a b : Int) (H : Hp) : cmpV scr .ge (.int a) (.int b) H = some (decide (a ≥ b)) := rfl
theorem cmp_eq (scr : List Int) (a b : Int) (H : Hp) : cmpV scr .eq (.int a) (.int b) H = some (a == b) := by simp [cmpV, eqV, isDict, rd, PyData.eqv]
theorem cmp_ne (scr : List Int) (a b : Int) (H : Hp) : cmpV scr .ne (.int a) (.int b) H = some (!(a == b)) := by simp [cmpV, eqV, isDict, rd, PyData.eqv]
theorem mulOk_small (a b : Int) (h : a.natAbs < 2 ^ 64 ∨ b.natAbs < 2 ^ 64) : mulOk a b = true := by
  have key : ∀ x : Int, x.natAbs < 2 ^ 64 → Builtin.Int.intBits x ≤ 64 := by
    intro x hx
    unfold Builtin.Int.intBits
    split
    · omega
    · rename_i h0
      have h0' : x.natAbs ≠ 0 := by
        intro e
        apply h0
        simp only [beq_iff_eq]
        omega
      have := (Nat.log2_lt h0').mpr hx
      omega
  unfold mulOk shortFactorBits
  rcases h with h | h
  · have := key a h
    simp [Nat.not_lt.mpr this]
  · have := key b h
    simp [Nat.not_lt.mpr this]
end Mine

end
section
set_option autoImplicit false
set_option linter.unusedVariables false
set_option linter.unusedSimpArgs false
namespace Mine
open PySem
theorem R.bind_ok {α β : Type} (a : α) (H : Hp) (f : α → Hp → R β) : R.bind (.ok a H) f = f a H := rfl
theorem R.out_ok {α : Type} (ρ : Env') (a : α) (H : Hp) (f : α → Hp → Out) : R.out ρ f (.ok a H) = f a H := rfl
theorem ofOpt_some {α : Type} (H : Hp) (a : α) : ofOpt H (some a) = .ok a H := rfl
theorem endOut_ret (v : V) (H : Hp) : endOut (.ret v H) = .ok v H := rfl
theorem endOut_next (ρ : Env') (H : Hp) : endOut (.next ρ H) = .ok .none H := rfl
theorem execSs_next {C : Ctx} {s : S} {r : List S} {ρ ρ' : Env'} {H H' : Hp} (h : execS C s ρ H = .next ρ' H') : execSs C (s :: r) ρ H = execSs C r ρ' H' := by rw [execSs, h]
theorem execSs_ret {C : Ctx} {s : S} {r : List S} {ρ : Env'} {H H' : Hp} {v : V} (h : execS C s ρ H = .ret v H') : execSs C (s :: r) ρ H = .ret v H' := by rw [execSs, h]

def partB : List S :=
  [.asg (.var 2) (.var 0),
   .asg (.var 3) (.var 1),
   .while (.cmp .gt (.var 3) (.k (.int 0)))
    [.asg (.var 4) (.bin .mod (.var 2) (.var 3)),
     .asg (.var 2) (.var 3),
     .asg (.var 3) (.var 4)],
   .ret (.tup [(.bin .fdiv (.var 0) (.var 2)), (.bin .fdiv (.var 1) (.var 2))])]

theorem fmod_nat (a b : Nat) : Int.fmod (a : Int) (b : Int) = ((a % b : Nat) : Int) := by
  rw [Int.fmod_eq_emod_of_nonneg _ (by omega)]; rfl
theorem fdiv_nat (a b : Nat) : Int.fdiv (a : Int) (b : Int) = ((a / b : Nat) : Int) := by
  rw [Int.fdiv_eq_ediv_of_nonneg _ (by omega)]; rfl

theorem part_loop (C : Ctx) (x y : Option V) (H : Hp) : ∀ (b a m : Nat) (r : Option V), b < m → ∃ r',
    whileB C (.cmp .gt (.var 3) (.k (.int 0))) [.asg (.var 4) (.bin .mod (.var 2) (.var 3)), .asg (.var 2) (.var 3), .asg (.var 3) (.var 4)] m [x, y, some (.int a), some (.int b), r] H
      = .next [x, y, some (.int (Nat.gcd a b)), some (.int 0), r'] H := by
  intro b
  induction b using Nat.strongRecOn with
  | ind b ih =>
    intro a m r hm
    obtain ⟨m, rfl⟩ : ∃ k, m = k + 1 := ⟨m - 1, by omega⟩
    unfold whileB at ih ⊢
    rw [whileG]
    by_cases hb : b = 0
    · subst hb
      refine ⟨r, ?_⟩
      simp [tst, evalE_var, evalE_k, evalE_cmp, ofOpt, R.bind, R.out, cmpV, truthy]
    · have h1 : (0 : Int) < (b : Int) := by omega
      obtain ⟨r', h'⟩ := ih (a % b) (Nat.mod_lt _ (by omega)) b m (some (.int (a % b : Nat))) (by have := Nat.mod_lt a (Nat.pos_of_ne_zero hb); omega)
      refine ⟨r', ?_⟩
      have hb' : ((b : Int) ≠ 0) := by omega
      have hg : Nat.gcd b (a % b) = Nat.gcd a b := by rw [Nat.gcd_comm b, ← Nat.gcd_rec, Nat.gcd_comm]
      rw [hg] at h'
      rw [← h']
      simp only [R.bind_ok, R.out_ok, ofOpt_some, endOut_ret, endOut_next, tst, evalEs, evalAnd, evalOr, evalO, evalIt, tests, asg, asgs, Option.bind_some, Option.map_some, List.getElem?_cons_succ, List.getElem?_cons_zero, Option.join_some, List.set_cons_succ, List.set_cons_zero, List.length_cons, List.length_nil, Nat.reduceAdd, Nat.reduceLT, Nat.lt_irrefl, if_true, if_false, Bool.false_eq_true, reduceIte, Nat.zero_add, Nat.succ_eq_add_one, evalE_k, evalE_var, evalE_gk, evalE_bin, evalE_neg, evalE_not, evalE_and, evalE_or, evalE_ife, evalE_cmp, evalE_cmp2, evalE_isNone, evalE_notNone, evalE_tup, evalE_lst, evalE_dct, evalE_idx, evalE_slc, evalE_rev, evalE_call, evalE_bi, evalE_minD, evalE_meth, evalE_listOf, evalE_comp, evalE_sortKey, execS_expr, execS_asg, execS_setIdx, execS_ret, execS_ife, execS_for, execS_while, execS_pass, execS_brk, execS_cont, seq_next, seq_ret, seq_cont, seq_brk, execSs_nil, execSs_cons, truthy_none, truthy_bool, truthy_int, truthy_tup, isInt_int, isInt_bool, isBool_int, isBool_bool, isTuple_tup, len_tup, len_script, idx_tup, idx_script, seqAt_zero, seqAt_one, seqAt_two, seqAt_three, bin_add, bin_sub, cmp_lt, cmp_le, cmp_gt, cmp_ge, cmp_eq, cmp_ne, ne_eq, Bool.not_true, Bool.not_false, decide_true, decide_false, decide_eq_true_eq, gt_iff_lt, ge_iff_le, Int.cast_ofNat_Int, beq_self_eq_true, Int.reduceLT, Int.reduceLE, Int.reduceAdd, Int.reduceMul, Int.reduceSub, h1, bin_mod _ _ _ hb', fmod_nat]

theorem weight_ge : ∀ (ρ : Env') (i : Int), some (.int i) ∈ ρ → i.natAbs + 1000 ≤ weight ρ
  | [], i, h => by simp at h
  | o :: r, i, h => by
    have base : ∀ ρ : Env', 1000 ≤ weight ρ := by
      intro ρ
      induction ρ with
      | nil => simp [weight]
      | cons a t ih =>
        cases a with
        | none => simpa [weight] using ih
        | some v => cases v <;> simp [weight] <;> omega
    rcases List.mem_cons.mp h with h | h
    · subst h
      have := base r
      simp [weight]; omega
    · have := weight_ge r i h
      cases o with
      | none => simpa [weight] using this
      | some v => cases v <;> simp [weight] <;> omega

/-- the part of two numbers: lowest terms -/
def prt (a b : Nat) : V := .tup [.int ((a / Nat.gcd a b : Nat) : Int), .int ((b / Nat.gcd a b : Nat) : Int)]

theorem part_exec (C : Ctx) (a b : Nat) (H : Hp) (hb : 0 < b) : execSs C partB [some (.int a), some (.int b), none, none, none] H = .ret (prt a b) H := by
  have hw := weight_ge [some (.int a), some (.int b), some (.int a), some (.int b), none] (b : Int) (by simp)
  obtain ⟨r', h'⟩ := part_loop C (some (.int a)) (some (.int b)) H b a (weight [some (.int a), some (.int b), some (.int a), some (.int b), none]) none (by omega)
  have hg : ((Nat.gcd a b : Int) ≠ 0) := by
    have := Nat.gcd_pos_of_pos_right a hb
    omega
  unfold partB
  simp only [R.bind_ok, R.out_ok, ofOpt_some, endOut_ret, endOut_next, tst, evalEs, evalAnd, evalOr, evalO, evalIt, tests, asg, asgs, Option.bind_some, Option.map_some, List.getElem?_cons_succ, List.getElem?_cons_zero, Option.join_some, List.set_cons_succ, List.set_cons_zero, List.length_cons, List.length_nil, Nat.reduceAdd, Nat.reduceLT, Nat.lt_irrefl, if_true, if_false, Bool.false_eq_true, reduceIte, Nat.zero_add, Nat.succ_eq_add_one, evalE_k, evalE_var, evalE_gk, evalE_bin, evalE_neg, evalE_not, evalE_and, evalE_or, evalE_ife, evalE_cmp, evalE_cmp2, evalE_isNone, evalE_notNone, evalE_tup, evalE_lst, evalE_dct, evalE_idx, evalE_slc, evalE_rev, evalE_call, evalE_bi, evalE_minD, evalE_meth, evalE_listOf, evalE_comp, evalE_sortKey, execS_expr, execS_asg, execS_setIdx, execS_ret, execS_ife, execS_for, execS_while, execS_pass, execS_brk, execS_cont, seq_next, seq_ret, seq_cont, seq_brk, execSs_nil, execSs_cons, truthy_none, truthy_bool, truthy_int, truthy_tup, isInt_int, isInt_bool, isBool_int, isBool_bool, isTuple_tup, len_tup, len_script, idx_tup, idx_script, seqAt_zero, seqAt_one, seqAt_two, seqAt_three, bin_add, bin_sub, cmp_lt, cmp_le, cmp_gt, cmp_ge, cmp_eq, cmp_ne, ne_eq, Bool.not_true, Bool.not_false, decide_true, decide_false, decide_eq_true_eq, gt_iff_lt, ge_iff_le, Int.cast_ofNat_Int, beq_self_eq_true, Int.reduceLT, Int.reduceLE, Int.reduceAdd, Int.reduceMul, Int.reduceSub]
  rw [h']
  simp only [R.bind_ok, R.out_ok, ofOpt_some, endOut_ret, endOut_next, tst, evalEs, evalAnd, evalOr, evalO, evalIt, tests, asg, asgs, Option.bind_some, Option.map_some, List.getElem?_cons_succ, List.getElem?_cons_zero, Option.join_some, List.set_cons_succ, List.set_cons_zero, List.length_cons, List.length_nil, Nat.reduceAdd, Nat.reduceLT, Nat.lt_irrefl, if_true, if_false, Bool.false_eq_true, reduceIte, Nat.zero_add, Nat.succ_eq_add_one, evalE_k, evalE_var, evalE_gk, evalE_bin, evalE_neg, evalE_not, evalE_and, evalE_or, evalE_ife, evalE_cmp, evalE_cmp2, evalE_isNone, evalE_notNone, evalE_tup, evalE_lst, evalE_dct, evalE_idx, evalE_slc, evalE_rev, evalE_call, evalE_bi, evalE_minD, evalE_meth, evalE_listOf, evalE_comp, evalE_sortKey, execS_expr, execS_asg, execS_setIdx, execS_ret, execS_ife, execS_for, execS_while, execS_pass, execS_brk, execS_cont, seq_next, seq_ret, seq_cont, seq_brk, execSs_nil, execSs_cons, truthy_none, truthy_bool, truthy_int, truthy_tup, isInt_int, isInt_bool, isBool_int, isBool_bool, isTuple_tup, len_tup, len_script, idx_tup, idx_script, seqAt_zero, seqAt_one, seqAt_two, seqAt_three, bin_add, bin_sub, cmp_lt, cmp_le, cmp_gt, cmp_ge, cmp_eq, cmp_ne, ne_eq, Bool.not_true, Bool.not_false, decide_true, decide_false, decide_eq_true_eq, gt_iff_lt, ge_iff_le, Int.cast_ofNat_Int, beq_self_eq_true, Int.reduceLT, Int.reduceLE, Int.reduceAdd, Int.reduceMul, Int.reduceSub, bin_fdiv _ _ _ hg, fdiv_nat, prt]
end Mine

end
section
set_option autoImplicit false
set_option linter.unusedVariables false
set_option linter.unusedSimpArgs false
set_option maxRecDepth 100000
namespace Mine.P
open PySem
abbrev i_part : Nat := 0
abbrev i_added : Nat := 1
abbrev i_less : Nat := 2
abbrev i_times : Nat := 3
abbrev i_shared : Nat := 4
abbrev i_law_cell_at : Nat := 5
abbrev i_law_whole : Nat := 6
abbrev i_law_lowest : Nat := 7
abbrev i_law_is_part : Nat := 8
abbrev i_law_drawn : Nat := 9
abbrev i_law : Nat := 10
def pn_part : List Str := ["over", "under", "one", "other", "rest"]
def pb_part : List S :=
  [.asg (.var 2) (.var 0),
   .asg (.var 3) (.var 1),
   .while (.cmp .gt (.var 3) (.k (.int 0)))
    [.asg (.var 4) (.bin .mod (.var 2) (.var 3)),
     .asg (.var 2) (.var 3),
     .asg (.var 3) (.var 4)],
   .ret (.tup [(.bin .fdiv (.var 0) (.var 2)), (.bin .fdiv (.var 1) (.var 2))])]
def pn_added : List Str := ["one", "other"]
def pb_added : List S :=
  [.ret (.call i_part [(.bin .add (.bin .mul (.idx (.var 0) (.k (.int 0))) (.idx (.var 1) (.k (.int 1)))) (.bin .mul (.idx (.var 1) (.k (.int 0))) (.idx (.var 0) (.k (.int 1))))), (.bin .mul (.idx (.var 0) (.k (.int 1))) (.idx (.var 1) (.k (.int 1))))])]
def pn_less : List Str := ["one", "other"]
def pb_less : List S :=
  [.ret (.call i_part [(.bin .sub (.bin .mul (.idx (.var 0) (.k (.int 0))) (.idx (.var 1) (.k (.int 1)))) (.bin .mul (.idx (.var 1) (.k (.int 0))) (.idx (.var 0) (.k (.int 1))))), (.bin .mul (.idx (.var 0) (.k (.int 1))) (.idx (.var 1) (.k (.int 1))))])]
def pn_times : List Str := ["one", "other"]
def pb_times : List S :=
  [.ret (.call i_part [(.bin .mul (.idx (.var 0) (.k (.int 0))) (.idx (.var 1) (.k (.int 0)))), (.bin .mul (.idx (.var 0) (.k (.int 1))) (.idx (.var 1) (.k (.int 1))))])]
def pn_shared : List Str := ["one", "many"]
def pb_shared : List S :=
  [.ret (.call i_part [(.idx (.var 0) (.k (.int 0))), (.bin .mul (.idx (.var 0) (.k (.int 1))) (.var 1))])]
def pn_law_cell_at : List Str := ["_law_script", "_law_k"]
def pb_law_cell_at : List S :=
  [.ife (.cmp .lt (.var 1) (.bi .len [(.var 0)]))
    [.ret (.idx (.var 0) (.var 1))]
    [],
   .ret (.k (.int 0))]
def pn_law_whole : List Str := ["_law_found"]
def pb_law_whole : List S :=
  [.ret (.and [(.bi .isInt [(.var 0)]), (.not (.bi .isBool [(.var 0)]))])]
def pn_law_lowest : List Str := ["_law_over", "_law_under", "_law_a", "_law_b", "_law_c"]
def pb_law_lowest : List S :=
  [.asg (.var 2) (.var 0),
   .asg (.var 3) (.var 1),
   .while (.cmp .gt (.var 3) (.k (.int 0)))
    [.asg (.var 4) (.bin .mod (.var 2) (.var 3)),
     .asg (.var 2) (.var 3),
     .asg (.var 3) (.var 4)],
   .ret (.tup [(.bin .fdiv (.var 0) (.var 2)), (.bin .fdiv (.var 1) (.var 2))])]
def pn_law_is_part : List Str := ["_law_found", "_law_due"]
def pb_law_is_part : List S :=
  [.ife (.or [(.not (.bi .isTuple [(.var 0)])), (.cmp .ne (.bi .len [(.var 0)]) (.k (.int 2))), (.not (.call i_law_whole [(.idx (.var 0) (.k (.int 0)))])), (.not (.call i_law_whole [(.idx (.var 0) (.k (.int 1)))]))])
    [.ret (.k (.bool false))]
    [],
   .ret (.cmp .eq (.var 0) (.var 1))]
def pn_law_drawn : List Str := ["_law_cell", "_law_other", "_law_bound", "_law_under", "_law_over"]
def pb_law_drawn : List S :=
  [.asg (.var 2) (.idx (.lst [(.k (.int 9)), (.k (.int 1000)), (.bin .pow (.k (.int 10)) (.k (.int 12)))]) (.bin .mod (.var 0) (.k (.int 3)))),
   .asg (.var 3) (.bin .add (.k (.int 1)) (.bin .mod (.bin .fdiv (.var 0) (.k (.int 3))) (.var 2))),
   .asg (.var 4) (.bin .mod (.var 1) (.bin .add (.var 2) (.k (.int 1)))),
   .ife (.cmp .eq (.bin .mod (.var 1) (.k (.int 8))) (.k (.int 7)))
    [.asg (.var 4) (.idx (.lst [(.k (.int 0)), (.var 3)]) (.bin .mod (.bin .fdiv (.var 1) (.k (.int 8))) (.k (.int 2))))]
    [],
   .ret (.call i_law_lowest [(.var 4), (.var 3)])]
def pn_law : List Str := ["_law_script", "_law_one", "_law_other", "_law_many", "_law_twin", "_law_both", "_law_great", "_law_small", "_law_rest"]
def pb_law : List S :=
  [.asg (.var 1) (.call i_law_drawn [(.call i_law_cell_at [(.var 0), (.k (.int 0))]), (.call i_law_cell_at [(.var 0), (.k (.int 1))])]),
   .asg (.var 2) (.call i_law_drawn [(.call i_law_cell_at [(.var 0), (.k (.int 2))]), (.call i_law_cell_at [(.var 0), (.k (.int 3))])]),
   .asg (.var 3) (.bin .add (.k (.int 1)) (.bin .mod (.call i_law_cell_at [(.var 0), (.k (.int 4))]) (.k (.int 60)))),
   .asg (.var 4) (.bin .add (.k (.int 1)) (.bin .mod (.bin .fdiv (.call i_law_cell_at [(.var 0), (.k (.int 4))]) (.k (.int 60))) (.k (.int 40)))),
   .ife (.not (.call i_law_is_part [(.call i_part [(.bin .mul (.idx (.var 1) (.k (.int 0))) (.var 4)), (.bin .mul (.idx (.var 1) (.k (.int 1))) (.var 4))]), (.var 1)]))
    [.ret (.k (.bool false))]
    [],
   .asg (.var 5) (.call i_law_lowest [(.bin .add (.bin .mul (.idx (.var 1) (.k (.int 0))) (.idx (.var 2) (.k (.int 1)))) (.bin .mul (.idx (.var 2) (.k (.int 0))) (.idx (.var 1) (.k (.int 1))))), (.bin .mul (.idx (.var 1) (.k (.int 1))) (.idx (.var 2) (.k (.int 1))))]),
   .ife (.or [(.not (.call i_law_is_part [(.call i_added [(.var 1), (.var 2)]), (.var 5)])), (.not (.call i_law_is_part [(.call i_added [(.var 2), (.var 1)]), (.var 5)]))])
    [.ret (.k (.bool false))]
    [],
   .asg (.var 6) (.var 1),
   .asg (.var 7) (.var 2),
   .ife (.cmp .lt (.bin .mul (.idx (.var 1) (.k (.int 0))) (.idx (.var 2) (.k (.int 1)))) (.bin .mul (.idx (.var 2) (.k (.int 0))) (.idx (.var 1) (.k (.int 1)))))
    [.asg (.var 6) (.var 2),
     .asg (.var 7) (.var 1)]
    [],
   .asg (.var 8) (.call i_law_lowest [(.bin .sub (.bin .mul (.idx (.var 6) (.k (.int 0))) (.idx (.var 7) (.k (.int 1)))) (.bin .mul (.idx (.var 7) (.k (.int 0))) (.idx (.var 6) (.k (.int 1))))), (.bin .mul (.idx (.var 6) (.k (.int 1))) (.idx (.var 7) (.k (.int 1))))]),
   .ife (.or [(.not (.call i_law_is_part [(.call i_less [(.var 6), (.var 7)]), (.var 8)])), (.not (.call i_law_is_part [(.call i_less [(.var 1), (.var 1)]), (.tup [(.k (.int 0)), (.k (.int 1))])]))])
    [.ret (.k (.bool false))]
    [],
   .ife (.not (.call i_law_is_part [(.call i_times [(.var 1), (.var 2)]), (.call i_law_lowest [(.bin .mul (.idx (.var 1) (.k (.int 0))) (.idx (.var 2) (.k (.int 0)))), (.bin .mul (.idx (.var 1) (.k (.int 1))) (.idx (.var 2) (.k (.int 1))))])]))
    [.ret (.k (.bool false))]
    [],
   .ret (.call i_law_is_part [(.call i_shared [(.var 1), (.var 3)]), (.call i_law_lowest [(.idx (.var 1) (.k (.int 0))), (.bin .mul (.idx (.var 1) (.k (.int 1))) (.var 3))])])]
def pfns : List Fn := [
  ⟨"part", 2, 3, pb_part⟩,
  ⟨"added", 2, 0, pb_added⟩,
  ⟨"less", 2, 0, pb_less⟩,
  ⟨"times", 2, 0, pb_times⟩,
  ⟨"shared", 2, 0, pb_shared⟩,
  ⟨"_law_cell_at", 2, 0, pb_law_cell_at⟩,
  ⟨"_law_whole", 1, 0, pb_law_whole⟩,
  ⟨"_law_lowest", 2, 3, pb_law_lowest⟩,
  ⟨"_law_is_part", 2, 0, pb_law_is_part⟩,
  ⟨"_law_drawn", 2, 3, pb_law_drawn⟩,
  ⟨"law", 1, 8, pb_law⟩]
def pnss : List (List Str) := [pn_part, pn_added, pn_less, pn_times, pn_shared, pn_law_cell_at, pn_law_whole, pn_law_lowest, pn_law_is_part, pn_law_drawn, pn_law]
def pK : CK := ⟨["part", "added", "less", "times", "shared", "_law_cell_at", "_law_whole", "_law_lowest", "_law_is_part", "_law_drawn", "law"], []⟩
def pgks : List V := []
theorem c_part (scr : List Int) (n : Nat) (x0 x1 : V) (H : Hp) : callF scr pgks pfns (n + 1) i_part [x0, x1] H = endOut (execSs ⟨scr, pgks, callF scr pgks pfns n⟩ pb_part [some x0, some x1, none, none, none] H) := rfl
theorem c_added (scr : List Int) (n : Nat) (x0 x1 : V) (H : Hp) : callF scr pgks pfns (n + 1) i_added [x0, x1] H = endOut (execSs ⟨scr, pgks, callF scr pgks pfns n⟩ pb_added [some x0, some x1] H) := rfl
theorem c_less (scr : List Int) (n : Nat) (x0 x1 : V) (H : Hp) : callF scr pgks pfns (n + 1) i_less [x0, x1] H = endOut (execSs ⟨scr, pgks, callF scr pgks pfns n⟩ pb_less [some x0, some x1] H) := rfl
theorem c_times (scr : List Int) (n : Nat) (x0 x1 : V) (H : Hp) : callF scr pgks pfns (n + 1) i_times [x0, x1] H = endOut (execSs ⟨scr, pgks, callF scr pgks pfns n⟩ pb_times [some x0, some x1] H) := rfl
theorem c_shared (scr : List Int) (n : Nat) (x0 x1 : V) (H : Hp) : callF scr pgks pfns (n + 1) i_shared [x0, x1] H = endOut (execSs ⟨scr, pgks, callF scr pgks pfns n⟩ pb_shared [some x0, some x1] H) := rfl
theorem c_law_cell_at (scr : List Int) (n : Nat) (x0 x1 : V) (H : Hp) : callF scr pgks pfns (n + 1) i_law_cell_at [x0, x1] H = endOut (execSs ⟨scr, pgks, callF scr pgks pfns n⟩ pb_law_cell_at [some x0, some x1] H) := rfl
theorem c_law_whole (scr : List Int) (n : Nat) (x0 : V) (H : Hp) : callF scr pgks pfns (n + 1) i_law_whole [x0] H = endOut (execSs ⟨scr, pgks, callF scr pgks pfns n⟩ pb_law_whole [some x0] H) := rfl
theorem c_law_lowest (scr : List Int) (n : Nat) (x0 x1 : V) (H : Hp) : callF scr pgks pfns (n + 1) i_law_lowest [x0, x1] H = endOut (execSs ⟨scr, pgks, callF scr pgks pfns n⟩ pb_law_lowest [some x0, some x1, none, none, none] H) := rfl
theorem c_law_is_part (scr : List Int) (n : Nat) (x0 x1 : V) (H : Hp) : callF scr pgks pfns (n + 1) i_law_is_part [x0, x1] H = endOut (execSs ⟨scr, pgks, callF scr pgks pfns n⟩ pb_law_is_part [some x0, some x1] H) := rfl
theorem c_law_drawn (scr : List Int) (n : Nat) (x0 x1 : V) (H : Hp) : callF scr pgks pfns (n + 1) i_law_drawn [x0, x1] H = endOut (execSs ⟨scr, pgks, callF scr pgks pfns n⟩ pb_law_drawn [some x0, some x1, none, none, none] H) := rfl
theorem c_law (scr : List Int) (n : Nat) (x0 : V) (H : Hp) : callF scr pgks pfns (n + 1) i_law [x0] H = endOut (execSs ⟨scr, pgks, callF scr pgks pfns n⟩ pb_law [some x0, none, none, none, none, none, none, none, none] H) := rfl
end Mine.P

end
section
set_option autoImplicit false
set_option linter.unusedVariables false
set_option linter.unusedSimpArgs false
set_option maxRecDepth 100000
namespace Mine.P
open PySem
variable (scr : List Int)

theorem s_part (n a b : Nat) (H : Hp) (hb : 0 < b) : callF scr pgks pfns (n + 1) i_part [.int a, .int b] H = .ok (prt a b) H := by
  rw [c_part]
  exact congrArg endOut (part_exec _ a b H hb)
theorem s_lowest (n a b : Nat) (H : Hp) (hb : 0 < b) : callF scr pgks pfns (n + 1) i_law_lowest [.int a, .int b] H = .ok (prt a b) H := by
  rw [c_law_lowest]
  exact congrArg endOut (part_exec _ a b H hb)

theorem s_cell (n k : Nat) (H : Hp) (hl : scr.length ≤ 63) : callF scr pgks pfns (n + 1) i_law_cell_at [.script, .int k] H = .ok (.int (scr.getD k 0)) H := by
  rw [c_law_cell_at]
  unfold pb_law_cell_at
  simp only [R.bind_ok, R.out_ok, ofOpt_some, endOut_ret, endOut_next, tst, evalEs, evalAnd, evalOr, evalO, evalIt, tests, asg, asgs, Option.bind_some, Option.map_some, List.getElem?_cons_succ, List.getElem?_cons_zero, Option.join_some, List.set_cons_succ, List.set_cons_zero, List.length_cons, List.length_nil, Nat.reduceAdd, Nat.reduceLT, Nat.lt_irrefl, if_true, if_false, Bool.false_eq_true, reduceIte, Nat.zero_add, Nat.succ_eq_add_one, evalE_k, evalE_var, evalE_gk, evalE_bin, evalE_neg, evalE_not, evalE_and, evalE_or, evalE_ife, evalE_cmp, evalE_cmp2, evalE_isNone, evalE_notNone, evalE_tup, evalE_lst, evalE_dct, evalE_idx, evalE_slc, evalE_rev, evalE_call, evalE_bi, evalE_minD, evalE_meth, evalE_listOf, evalE_comp, evalE_sortKey, execS_expr, execS_asg, execS_setIdx, execS_ret, execS_ife, execS_for, execS_while, execS_pass, execS_brk, execS_cont, seq_next, seq_ret, seq_cont, seq_brk, execSs_nil, execSs_cons, truthy_none, truthy_bool, truthy_int, truthy_tup, isInt_int, isInt_bool, isBool_int, isBool_bool, isTuple_tup, len_tup, len_script, idx_tup, idx_script, seqAt_zero, seqAt_one, seqAt_two, seqAt_three, bin_add, bin_sub, cmp_lt, cmp_le, cmp_gt, cmp_ge, cmp_eq, cmp_ne, ne_eq, Bool.not_true, Bool.not_false, decide_true, decide_false, decide_eq_true_eq, gt_iff_lt, ge_iff_le, Int.cast_ofNat_Int, beq_self_eq_true, Int.reduceLT, Int.reduceLE, Int.reduceAdd, Int.reduceMul, Int.reduceSub]
  by_cases h : k < scr.length
  · have h1 : ((k : Int) < (scr.length : Int)) := by omega
    have h3 : (0 : Int) ≤ (k : Int) := by omega
    have h4 : (scr.map V.int)[(k : Int).toNat]? = some (.int (scr.getD k 0)) := by simp [h]
    simp only [h1, decide_true, if_true, seqAt, h3, h4, R.bind_ok, R.out_ok, ofOpt_some, endOut_ret, endOut_next, tst, evalEs, evalAnd, evalOr, evalO, evalIt, tests, asg, asgs, Option.bind_some, Option.map_some, List.getElem?_cons_succ, List.getElem?_cons_zero, Option.join_some, List.set_cons_succ, List.set_cons_zero, List.length_cons, List.length_nil, Nat.reduceAdd, Nat.reduceLT, Nat.lt_irrefl, if_true, if_false, Bool.false_eq_true, reduceIte, Nat.zero_add, Nat.succ_eq_add_one, evalE_k, evalE_var, evalE_gk, evalE_bin, evalE_neg, evalE_not, evalE_and, evalE_or, evalE_ife, evalE_cmp, evalE_cmp2, evalE_isNone, evalE_notNone, evalE_tup, evalE_lst, evalE_dct, evalE_idx, evalE_slc, evalE_rev, evalE_call, evalE_bi, evalE_minD, evalE_meth, evalE_listOf, evalE_comp, evalE_sortKey, execS_expr, execS_asg, execS_setIdx, execS_ret, execS_ife, execS_for, execS_while, execS_pass, execS_brk, execS_cont, seq_next, seq_ret, seq_cont, seq_brk, execSs_nil, execSs_cons, truthy_none, truthy_bool, truthy_int, truthy_tup, isInt_int, isInt_bool, isBool_int, isBool_bool, isTuple_tup, len_tup, len_script, idx_tup, idx_script, seqAt_zero, seqAt_one, seqAt_two, seqAt_three, bin_add, bin_sub, cmp_lt, cmp_le, cmp_gt, cmp_ge, cmp_eq, cmp_ne, ne_eq, Bool.not_true, Bool.not_false, decide_true, decide_false, decide_eq_true_eq, gt_iff_lt, ge_iff_le, Int.cast_ofNat_Int, beq_self_eq_true, Int.reduceLT, Int.reduceLE, Int.reduceAdd, Int.reduceMul, Int.reduceSub]
  · have h1 : ¬ ((k : Int) < (scr.length : Int)) := by omega
    have h4 : scr.getD k 0 = 0 := by simp [h]
    simp only [h1, decide_false, R.bind_ok, R.out_ok, ofOpt_some, endOut_ret, endOut_next, tst, evalEs, evalAnd, evalOr, evalO, evalIt, tests, asg, asgs, Option.bind_some, Option.map_some, List.getElem?_cons_succ, List.getElem?_cons_zero, Option.join_some, List.set_cons_succ, List.set_cons_zero, List.length_cons, List.length_nil, Nat.reduceAdd, Nat.reduceLT, Nat.lt_irrefl, if_true, if_false, Bool.false_eq_true, reduceIte, Nat.zero_add, Nat.succ_eq_add_one, evalE_k, evalE_var, evalE_gk, evalE_bin, evalE_neg, evalE_not, evalE_and, evalE_or, evalE_ife, evalE_cmp, evalE_cmp2, evalE_isNone, evalE_notNone, evalE_tup, evalE_lst, evalE_dct, evalE_idx, evalE_slc, evalE_rev, evalE_call, evalE_bi, evalE_minD, evalE_meth, evalE_listOf, evalE_comp, evalE_sortKey, execS_expr, execS_asg, execS_setIdx, execS_ret, execS_ife, execS_for, execS_while, execS_pass, execS_brk, execS_cont, seq_next, seq_ret, seq_cont, seq_brk, execSs_nil, execSs_cons, truthy_none, truthy_bool, truthy_int, truthy_tup, isInt_int, isInt_bool, isBool_int, isBool_bool, isTuple_tup, len_tup, len_script, idx_tup, idx_script, seqAt_zero, seqAt_one, seqAt_two, seqAt_three, bin_add, bin_sub, cmp_lt, cmp_le, cmp_gt, cmp_ge, cmp_eq, cmp_ne, ne_eq, Bool.not_true, Bool.not_false, decide_true, decide_false, decide_eq_true_eq, gt_iff_lt, ge_iff_le, Int.cast_ofNat_Int, beq_self_eq_true, Int.reduceLT, Int.reduceLE, Int.reduceAdd, Int.reduceMul, Int.reduceSub, h4]

theorem s_whole (n : Nat) (i : Int) (H : Hp) : callF scr pgks pfns (n + 1) i_law_whole [.int i] H = .ok (.bool true) H := by
  rw [c_law_whole]
  unfold pb_law_whole
  simp only [R.bind_ok, R.out_ok, ofOpt_some, endOut_ret, endOut_next, tst, evalEs, evalAnd, evalOr, evalO, evalIt, tests, asg, asgs, Option.bind_some, Option.map_some, List.getElem?_cons_succ, List.getElem?_cons_zero, Option.join_some, List.set_cons_succ, List.set_cons_zero, List.length_cons, List.length_nil, Nat.reduceAdd, Nat.reduceLT, Nat.lt_irrefl, if_true, if_false, Bool.false_eq_true, reduceIte, Nat.zero_add, Nat.succ_eq_add_one, evalE_k, evalE_var, evalE_gk, evalE_bin, evalE_neg, evalE_not, evalE_and, evalE_or, evalE_ife, evalE_cmp, evalE_cmp2, evalE_isNone, evalE_notNone, evalE_tup, evalE_lst, evalE_dct, evalE_idx, evalE_slc, evalE_rev, evalE_call, evalE_bi, evalE_minD, evalE_meth, evalE_listOf, evalE_comp, evalE_sortKey, execS_expr, execS_asg, execS_setIdx, execS_ret, execS_ife, execS_for, execS_while, execS_pass, execS_brk, execS_cont, seq_next, seq_ret, seq_cont, seq_brk, execSs_nil, execSs_cons, truthy_none, truthy_bool, truthy_int, truthy_tup, isInt_int, isInt_bool, isBool_int, isBool_bool, isTuple_tup, len_tup, len_script, idx_tup, idx_script, seqAt_zero, seqAt_one, seqAt_two, seqAt_three, bin_add, bin_sub, cmp_lt, cmp_le, cmp_gt, cmp_ge, cmp_eq, cmp_ne, ne_eq, Bool.not_true, Bool.not_false, decide_true, decide_false, decide_eq_true_eq, gt_iff_lt, ge_iff_le, Int.cast_ofNat_Int, beq_self_eq_true, Int.reduceLT, Int.reduceLE, Int.reduceAdd, Int.reduceMul, Int.reduceSub, Bool.not_false]

theorem s_is_part (n : Nat) (x y x' y' : Int) (H : Hp) : callF scr pgks pfns (n + 2) i_law_is_part [.tup [.int x, .int y], .tup [.int x', .int y']] H = .ok (.bool (x == x' && (y == y' && true))) H := by
  rw [c_law_is_part]
  unfold pb_law_is_part
  have e : ((1 + 1 : Nat) : Int) = 2 := rfl
  simp only [R.bind_ok, R.out_ok, ofOpt_some, endOut_ret, endOut_next, tst, evalEs, evalAnd, evalOr, evalO, evalIt, tests, asg, asgs, Option.bind_some, Option.map_some, List.getElem?_cons_succ, List.getElem?_cons_zero, Option.join_some, List.set_cons_succ, List.set_cons_zero, List.length_cons, List.length_nil, Nat.reduceAdd, Nat.reduceLT, Nat.lt_irrefl, if_true, if_false, Bool.false_eq_true, reduceIte, Nat.zero_add, Nat.succ_eq_add_one, evalE_k, evalE_var, evalE_gk, evalE_bin, evalE_neg, evalE_not, evalE_and, evalE_or, evalE_ife, evalE_cmp, evalE_cmp2, evalE_isNone, evalE_notNone, evalE_tup, evalE_lst, evalE_dct, evalE_idx, evalE_slc, evalE_rev, evalE_call, evalE_bi, evalE_minD, evalE_meth, evalE_listOf, evalE_comp, evalE_sortKey, execS_expr, execS_asg, execS_setIdx, execS_ret, execS_ife, execS_for, execS_while, execS_pass, execS_brk, execS_cont, seq_next, seq_ret, seq_cont, seq_brk, execSs_nil, execSs_cons, truthy_none, truthy_bool, truthy_int, truthy_tup, isInt_int, isInt_bool, isBool_int, isBool_bool, isTuple_tup, len_tup, len_script, idx_tup, idx_script, seqAt_zero, seqAt_one, seqAt_two, seqAt_three, bin_add, bin_sub, cmp_lt, cmp_le, cmp_gt, cmp_ge, cmp_eq, cmp_ne, ne_eq, Bool.not_true, Bool.not_false, decide_true, decide_false, decide_eq_true_eq, gt_iff_lt, ge_iff_le, Int.cast_ofNat_Int, beq_self_eq_true, Int.reduceLT, Int.reduceLE, Int.reduceAdd, Int.reduceMul, Int.reduceSub, s_whole, e, cmpV, eqV, isDict, rd, rdL, PyData.eqv, PyData.eqvAll, List.mapM_cons, List.mapM_nil]
theorem s_is_self (n : Nat) (x y : Int) (H : Hp) : callF scr pgks pfns (n + 2) i_law_is_part [.tup [.int x, .int y], .tup [.int x, .int y]] H = .ok (.bool true) H := by
  rw [s_is_part]; simp
theorem s_is_prt (n a b : Nat) (H : Hp) : callF scr pgks pfns (n + 2) i_law_is_part [prt a b, prt a b] H = .ok (.bool true) H := s_is_self scr n _ _ H

theorem fmod_ex (c : Int) (k : Nat) (hk : 0 < k) : ∃ r : Nat, c.fmod k = r ∧ r < k := by
  have h1 : c.fmod k = c % k := Int.fmod_eq_emod_of_nonneg _ (by omega)
  refine ⟨(c % k).toNat, ?_, ?_⟩
  · have := Int.emod_nonneg c (b := (k : Int)) (by omega)
    omega
  · have := Int.emod_lt_of_pos c (b := (k : Int)) (by omega)
    have := Int.emod_nonneg c (b := (k : Int)) (by omega)
    omega
theorem idx_new (vs : List V) (k : Int) (H : Hp) : idxV scr (.ref H.length) (.int k) (H ++ [.list vs]) = seqAt vs k := by
  simp [idxV, isDict, itemsOf]
theorem prt_low (a b : Nat) (hb : 0 < b) : ∃ x y : Nat, prt a b = .tup [.int x, .int y] ∧ Nat.gcd x y = 1 ∧ 0 < y ∧ x ≤ a ∧ y ≤ b := by
  have hg := Nat.gcd_pos_of_pos_right a hb
  exact ⟨a / Nat.gcd a b, b / Nat.gcd a b, rfl, Nat.gcd_div_gcd_div_gcd_of_pos_right hb, Nat.div_pos (Nat.le_of_dvd hb (Nat.gcd_dvd_right a b)) hg, Nat.div_le_self _ _, Nat.div_le_self _ _⟩

theorem s_drawn (n : Nat) (c o : Int) (H : Hp) : ∃ (a b : Nat) (H' : Hp), callF scr pgks pfns (n + 2) i_law_drawn [.int c, .int o] H = .ok (.tup [.int a, .int b]) H' ∧ Nat.gcd a b = 1 ∧ 0 < b ∧ a ≤ 10 ^ 12 ∧ b ≤ 10 ^ 12 := by
  rw [c_law_drawn]
  unfold pb_law_drawn
  have hp : ∀ H, binop .pow (.int 10) (.int 12) H = .ok (.int 1000000000000) H := fun _ => rfl
  obtain ⟨r, hr, hr3⟩ := fmod_ex c 3 (by omega)
  obtain ⟨B, hB, hB1, hB2⟩ : ∃ B : Nat, seqAt [V.int 9, V.int 1000, V.int 1000000000000] (r : Int) = some (V.int B) ∧ 0 < B ∧ B ≤ 10 ^ 12 := by
    rcases r with _ | _ | _ | r
    · exact ⟨9, rfl, by omega, by omega⟩
    · exact ⟨1000, rfl, by omega, by omega⟩
    · exact ⟨1000000000000, rfl, by omega, by omega⟩
    · omega
  obtain ⟨u, hu, hu'⟩ := fmod_ex (c.fdiv 3) B hB1
  obtain ⟨v, hv, hv'⟩ := fmod_ex o (B + 1) (by omega)
  have hv2 : o.fmod ((B : Int) + 1) = v := by rw [← hv]; rfl
  have hr' : c.fmod 3 = r := hr
  have hBz : ((B : Int) ≠ 0) := by omega
  have hBz' : ((B : Int) + 1 ≠ 0) := by omega
  have hz3 : ((3 : Int) ≠ 0) := by decide
  have hz8 : ((8 : Int) ≠ 0) := by decide
  have hz2 : ((2 : Int) ≠ 0) := by decide
  have e1 : (1 : Int) + (u : Int) = ((1 + u : Nat) : Int) := by omega
  have fin : ∀ (w : Nat) (H' : Hp), w ≤ B → ∃ (a b : Nat) (H'' : Hp), callF scr pgks pfns (n + 1) i_law_lowest [.int w, .int (1 + u : Nat)] H' = .ok (.tup [.int a, .int b]) H'' ∧ Nat.gcd a b = 1 ∧ 0 < b ∧ a ≤ 10 ^ 12 ∧ b ≤ 10 ^ 12 := by
    intro w H' hw
    obtain ⟨x, y, h1, h2, h3, h4, h5⟩ := prt_low w (1 + u) (by omega)
    exact ⟨x, y, H', by rw [s_lowest scr n w (1 + u) H' (by omega), h1], h2, h3, by omega, by omega⟩
  simp only [R.bind_ok, R.out_ok, ofOpt_some, endOut_ret, endOut_next, tst, evalEs, evalAnd, evalOr, evalO, evalIt, tests, asg, asgs, Option.bind_some, Option.map_some, List.getElem?_cons_succ, List.getElem?_cons_zero, Option.join_some, List.set_cons_succ, List.set_cons_zero, List.length_cons, List.length_nil, Nat.reduceAdd, Nat.reduceLT, Nat.lt_irrefl, if_true, if_false, Bool.false_eq_true, reduceIte, Nat.zero_add, Nat.succ_eq_add_one, evalE_k, evalE_var, evalE_gk, evalE_bin, evalE_neg, evalE_not, evalE_and, evalE_or, evalE_ife, evalE_cmp, evalE_cmp2, evalE_isNone, evalE_notNone, evalE_tup, evalE_lst, evalE_dct, evalE_idx, evalE_slc, evalE_rev, evalE_call, evalE_bi, evalE_minD, evalE_meth, evalE_listOf, evalE_comp, evalE_sortKey, execS_expr, execS_asg, execS_setIdx, execS_ret, execS_ife, execS_for, execS_while, execS_pass, execS_brk, execS_cont, seq_next, seq_ret, seq_cont, seq_brk, execSs_nil, execSs_cons, truthy_none, truthy_bool, truthy_int, truthy_tup, isInt_int, isInt_bool, isBool_int, isBool_bool, isTuple_tup, len_tup, len_script, idx_tup, idx_script, seqAt_zero, seqAt_one, seqAt_two, seqAt_three, bin_add, bin_sub, cmp_lt, cmp_le, cmp_gt, cmp_ge, cmp_eq, cmp_ne, ne_eq, Bool.not_true, Bool.not_false, decide_true, decide_false, decide_eq_true_eq, gt_iff_lt, ge_iff_le, Int.cast_ofNat_Int, beq_self_eq_true, Int.reduceLT, Int.reduceLE, Int.reduceAdd, Int.reduceMul, Int.reduceSub, alloc, hp, bin_mod _ _ _ hz3, bin_fdiv _ _ _ hz3, hr', idx_new, hB, bin_mod _ _ _ hBz, hu, bin_mod _ _ _ hBz', hv2, bin_mod _ _ _ hz8, e1]
  by_cases h7 : o.fmod 8 = 7
  · obtain ⟨k, hk, hk2⟩ := fmod_ex (o.fdiv 8) 2 (by omega)
    have hk' : (o.fdiv 8).fmod 2 = k := hk
    simp only [h7, R.bind_ok, R.out_ok, ofOpt_some, endOut_ret, endOut_next, tst, evalEs, evalAnd, evalOr, evalO, evalIt, tests, asg, asgs, Option.bind_some, Option.map_some, List.getElem?_cons_succ, List.getElem?_cons_zero, Option.join_some, List.set_cons_succ, List.set_cons_zero, List.length_cons, List.length_nil, Nat.reduceAdd, Nat.reduceLT, Nat.lt_irrefl, if_true, if_false, Bool.false_eq_true, reduceIte, Nat.zero_add, Nat.succ_eq_add_one, evalE_k, evalE_var, evalE_gk, evalE_bin, evalE_neg, evalE_not, evalE_and, evalE_or, evalE_ife, evalE_cmp, evalE_cmp2, evalE_isNone, evalE_notNone, evalE_tup, evalE_lst, evalE_dct, evalE_idx, evalE_slc, evalE_rev, evalE_call, evalE_bi, evalE_minD, evalE_meth, evalE_listOf, evalE_comp, evalE_sortKey, execS_expr, execS_asg, execS_setIdx, execS_ret, execS_ife, execS_for, execS_while, execS_pass, execS_brk, execS_cont, seq_next, seq_ret, seq_cont, seq_brk, execSs_nil, execSs_cons, truthy_none, truthy_bool, truthy_int, truthy_tup, isInt_int, isInt_bool, isBool_int, isBool_bool, isTuple_tup, len_tup, len_script, idx_tup, idx_script, seqAt_zero, seqAt_one, seqAt_two, seqAt_three, bin_add, bin_sub, cmp_lt, cmp_le, cmp_gt, cmp_ge, cmp_eq, cmp_ne, ne_eq, Bool.not_true, Bool.not_false, decide_true, decide_false, decide_eq_true_eq, gt_iff_lt, ge_iff_le, Int.cast_ofNat_Int, beq_self_eq_true, Int.reduceLT, Int.reduceLE, Int.reduceAdd, Int.reduceMul, Int.reduceSub, alloc, bin_fdiv _ _ _ hz8, bin_mod _ _ _ hz2, hk', idx_new]
    rcases k with _ | _ | k
    · have e0 : seqAt [V.int 0, V.int ((1 + u : Nat) : Int)] ((0 : Nat) : Int) = some (V.int ((0 : Nat) : Int)) := rfl
      obtain ⟨a, b, H'', q, q'⟩ := fin 0 (H ++ [.list [.int 9, .int 1000, .int 1000000000000]] ++ [.list [.int 0, .int ((1 + u : Nat) : Int)]]) (by omega)
      refine ⟨a, b, H'', ?_, q'⟩
      change callF _ _ _ _ _ [V.int 0, _] _ = _ at q
      simp only [e0, R.bind_ok, R.out_ok, ofOpt_some, endOut_ret, endOut_next, tst, evalEs, evalAnd, evalOr, evalO, evalIt, tests, asg, asgs, Option.bind_some, Option.map_some, List.getElem?_cons_succ, List.getElem?_cons_zero, Option.join_some, List.set_cons_succ, List.set_cons_zero, List.length_cons, List.length_nil, Nat.reduceAdd, Nat.reduceLT, Nat.lt_irrefl, if_true, if_false, Bool.false_eq_true, reduceIte, Nat.zero_add, Nat.succ_eq_add_one, evalE_k, evalE_var, evalE_gk, evalE_bin, evalE_neg, evalE_not, evalE_and, evalE_or, evalE_ife, evalE_cmp, evalE_cmp2, evalE_isNone, evalE_notNone, evalE_tup, evalE_lst, evalE_dct, evalE_idx, evalE_slc, evalE_rev, evalE_call, evalE_bi, evalE_minD, evalE_meth, evalE_listOf, evalE_comp, evalE_sortKey, execS_expr, execS_asg, execS_setIdx, execS_ret, execS_ife, execS_for, execS_while, execS_pass, execS_brk, execS_cont, seq_next, seq_ret, seq_cont, seq_brk, execSs_nil, execSs_cons, truthy_none, truthy_bool, truthy_int, truthy_tup, isInt_int, isInt_bool, isBool_int, isBool_bool, isTuple_tup, len_tup, len_script, idx_tup, idx_script, seqAt_zero, seqAt_one, seqAt_two, seqAt_three, bin_add, bin_sub, cmp_lt, cmp_le, cmp_gt, cmp_ge, cmp_eq, cmp_ne, ne_eq, Bool.not_true, Bool.not_false, decide_true, decide_false, decide_eq_true_eq, gt_iff_lt, ge_iff_le, Int.cast_ofNat_Int, beq_self_eq_true, Int.reduceLT, Int.reduceLE, Int.reduceAdd, Int.reduceMul, Int.reduceSub, q]
    · have e0 : seqAt [V.int 0, V.int ((1 + u : Nat) : Int)] ((0 + 1 : Nat) : Int) = some (V.int ((1 + u : Nat) : Int)) := rfl
      obtain ⟨a, b, H'', q, q'⟩ := fin (1 + u) (H ++ [.list [.int 9, .int 1000, .int 1000000000000]] ++ [.list [.int 0, .int ((1 + u : Nat) : Int)]]) (by omega)
      refine ⟨a, b, H'', ?_, q'⟩
      simp only [e0, R.bind_ok, R.out_ok, ofOpt_some, endOut_ret, endOut_next, tst, evalEs, evalAnd, evalOr, evalO, evalIt, tests, asg, asgs, Option.bind_some, Option.map_some, List.getElem?_cons_succ, List.getElem?_cons_zero, Option.join_some, List.set_cons_succ, List.set_cons_zero, List.length_cons, List.length_nil, Nat.reduceAdd, Nat.reduceLT, Nat.lt_irrefl, if_true, if_false, Bool.false_eq_true, reduceIte, Nat.zero_add, Nat.succ_eq_add_one, evalE_k, evalE_var, evalE_gk, evalE_bin, evalE_neg, evalE_not, evalE_and, evalE_or, evalE_ife, evalE_cmp, evalE_cmp2, evalE_isNone, evalE_notNone, evalE_tup, evalE_lst, evalE_dct, evalE_idx, evalE_slc, evalE_rev, evalE_call, evalE_bi, evalE_minD, evalE_meth, evalE_listOf, evalE_comp, evalE_sortKey, execS_expr, execS_asg, execS_setIdx, execS_ret, execS_ife, execS_for, execS_while, execS_pass, execS_brk, execS_cont, seq_next, seq_ret, seq_cont, seq_brk, execSs_nil, execSs_cons, truthy_none, truthy_bool, truthy_int, truthy_tup, isInt_int, isInt_bool, isBool_int, isBool_bool, isTuple_tup, len_tup, len_script, idx_tup, idx_script, seqAt_zero, seqAt_one, seqAt_two, seqAt_three, bin_add, bin_sub, cmp_lt, cmp_le, cmp_gt, cmp_ge, cmp_eq, cmp_ne, ne_eq, Bool.not_true, Bool.not_false, decide_true, decide_false, decide_eq_true_eq, gt_iff_lt, ge_iff_le, Int.cast_ofNat_Int, beq_self_eq_true, Int.reduceLT, Int.reduceLE, Int.reduceAdd, Int.reduceMul, Int.reduceSub, q]
    · omega
  · have h7' : (o.fmod 8 == 7) = false := by simpa using h7
    obtain ⟨a, b, H'', q, q'⟩ := fin v (H ++ [.list [.int 9, .int 1000, .int 1000000000000]]) (by omega)
    refine ⟨a, b, H'', ?_, q'⟩
    simp only [h7', R.bind_ok, R.out_ok, ofOpt_some, endOut_ret, endOut_next, tst, evalEs, evalAnd, evalOr, evalO, evalIt, tests, asg, asgs, Option.bind_some, Option.map_some, List.getElem?_cons_succ, List.getElem?_cons_zero, Option.join_some, List.set_cons_succ, List.set_cons_zero, List.length_cons, List.length_nil, Nat.reduceAdd, Nat.reduceLT, Nat.lt_irrefl, if_true, if_false, Bool.false_eq_true, reduceIte, Nat.zero_add, Nat.succ_eq_add_one, evalE_k, evalE_var, evalE_gk, evalE_bin, evalE_neg, evalE_not, evalE_and, evalE_or, evalE_ife, evalE_cmp, evalE_cmp2, evalE_isNone, evalE_notNone, evalE_tup, evalE_lst, evalE_dct, evalE_idx, evalE_slc, evalE_rev, evalE_call, evalE_bi, evalE_minD, evalE_meth, evalE_listOf, evalE_comp, evalE_sortKey, execS_expr, execS_asg, execS_setIdx, execS_ret, execS_ife, execS_for, execS_while, execS_pass, execS_brk, execS_cont, seq_next, seq_ret, seq_cont, seq_brk, execSs_nil, execSs_cons, truthy_none, truthy_bool, truthy_int, truthy_tup, isInt_int, isInt_bool, isBool_int, isBool_bool, isTuple_tup, len_tup, len_script, idx_tup, idx_script, seqAt_zero, seqAt_one, seqAt_two, seqAt_three, bin_add, bin_sub, cmp_lt, cmp_le, cmp_gt, cmp_ge, cmp_eq, cmp_ne, ne_eq, Bool.not_true, Bool.not_false, decide_true, decide_false, decide_eq_true_eq, gt_iff_lt, ge_iff_le, Int.cast_ofNat_Int, beq_self_eq_true, Int.reduceLT, Int.reduceLE, Int.reduceAdd, Int.reduceMul, Int.reduceSub, q]

theorem bin_mulN (x y : Nat) (H : Hp) (h : x ≤ 10 ^ 12) : binop .mul (.int x) (.int y) H = .ok (.int ((x * y : Nat) : Int)) H := by
  rw [bin_mul _ _ _ (mulOk_small _ _ (.inl (by omega)))]; simp
theorem prt_mul (a b t : Nat) (h : Nat.gcd a b = 1) (ht : 0 < t) : prt (a * t) (b * t) = .tup [.int a, .int b] := by
  unfold prt
  rw [Nat.gcd_mul_right, h, Nat.one_mul, Nat.mul_div_cancel _ ht, Nat.mul_div_cancel _ ht]
theorem prt_zero (b : Nat) (h : 0 < b) : prt 0 b = .tup [.int 0, .int 1] := by
  unfold prt
  rw [Nat.gcd_zero_left, Nat.div_self h, Nat.zero_div]; rfl
theorem s_added (n a b c d : Nat) (H : Hp) (ha : a ≤ 10 ^ 12) (hb : b ≤ 10 ^ 12) (hc : c ≤ 10 ^ 12) (hb0 : 0 < b) (hd0 : 0 < d) : callF scr pgks pfns (n + 2) i_added [.tup [.int a, .int b], .tup [.int c, .int d]] H = .ok (prt (a * d + c * b) (b * d)) H := by
  rw [c_added]
  unfold pb_added
  simp only [R.bind_ok, R.out_ok, ofOpt_some, endOut_ret, endOut_next, tst, evalEs, evalAnd, evalOr, evalO, evalIt, tests, asg, asgs, Option.bind_some, Option.map_some, List.getElem?_cons_succ, List.getElem?_cons_zero, Option.join_some, List.set_cons_succ, List.set_cons_zero, List.length_cons, List.length_nil, Nat.reduceAdd, Nat.reduceLT, Nat.lt_irrefl, if_true, if_false, Bool.false_eq_true, reduceIte, Nat.zero_add, Nat.succ_eq_add_one, evalE_k, evalE_var, evalE_gk, evalE_bin, evalE_neg, evalE_not, evalE_and, evalE_or, evalE_ife, evalE_cmp, evalE_cmp2, evalE_isNone, evalE_notNone, evalE_tup, evalE_lst, evalE_dct, evalE_idx, evalE_slc, evalE_rev, evalE_call, evalE_bi, evalE_minD, evalE_meth, evalE_listOf, evalE_comp, evalE_sortKey, execS_expr, execS_asg, execS_setIdx, execS_ret, execS_ife, execS_for, execS_while, execS_pass, execS_brk, execS_cont, seq_next, seq_ret, seq_cont, seq_brk, execSs_nil, execSs_cons, truthy_none, truthy_bool, truthy_int, truthy_tup, isInt_int, isInt_bool, isBool_int, isBool_bool, isTuple_tup, len_tup, len_script, idx_tup, idx_script, seqAt_zero, seqAt_one, seqAt_two, seqAt_three, bin_add, bin_sub, cmp_lt, cmp_le, cmp_gt, cmp_ge, cmp_eq, cmp_ne, ne_eq, Bool.not_true, Bool.not_false, decide_true, decide_false, decide_eq_true_eq, gt_iff_lt, ge_iff_le, Int.cast_ofNat_Int, beq_self_eq_true, Int.reduceLT, Int.reduceLE, Int.reduceAdd, Int.reduceMul, Int.reduceSub, bin_mulN _ _ _ ha, bin_mulN _ _ _ hb, bin_mulN _ _ _ hc, ← Int.natCast_add, s_part scr n _ (b * d) H (Nat.mul_pos hb0 hd0)]
theorem s_less (n a b c d : Nat) (H : Hp) (ha : a ≤ 10 ^ 12) (hb : b ≤ 10 ^ 12) (hc : c ≤ 10 ^ 12) (hb0 : 0 < b) (hd0 : 0 < d) (hle : c * b ≤ a * d) : callF scr pgks pfns (n + 2) i_less [.tup [.int a, .int b], .tup [.int c, .int d]] H = .ok (prt (a * d - c * b) (b * d)) H := by
  rw [c_less]
  unfold pb_less
  simp only [R.bind_ok, R.out_ok, ofOpt_some, endOut_ret, endOut_next, tst, evalEs, evalAnd, evalOr, evalO, evalIt, tests, asg, asgs, Option.bind_some, Option.map_some, List.getElem?_cons_succ, List.getElem?_cons_zero, Option.join_some, List.set_cons_succ, List.set_cons_zero, List.length_cons, List.length_nil, Nat.reduceAdd, Nat.reduceLT, Nat.lt_irrefl, if_true, if_false, Bool.false_eq_true, reduceIte, Nat.zero_add, Nat.succ_eq_add_one, evalE_k, evalE_var, evalE_gk, evalE_bin, evalE_neg, evalE_not, evalE_and, evalE_or, evalE_ife, evalE_cmp, evalE_cmp2, evalE_isNone, evalE_notNone, evalE_tup, evalE_lst, evalE_dct, evalE_idx, evalE_slc, evalE_rev, evalE_call, evalE_bi, evalE_minD, evalE_meth, evalE_listOf, evalE_comp, evalE_sortKey, execS_expr, execS_asg, execS_setIdx, execS_ret, execS_ife, execS_for, execS_while, execS_pass, execS_brk, execS_cont, seq_next, seq_ret, seq_cont, seq_brk, execSs_nil, execSs_cons, truthy_none, truthy_bool, truthy_int, truthy_tup, isInt_int, isInt_bool, isBool_int, isBool_bool, isTuple_tup, len_tup, len_script, idx_tup, idx_script, seqAt_zero, seqAt_one, seqAt_two, seqAt_three, bin_add, bin_sub, cmp_lt, cmp_le, cmp_gt, cmp_ge, cmp_eq, cmp_ne, ne_eq, Bool.not_true, Bool.not_false, decide_true, decide_false, decide_eq_true_eq, gt_iff_lt, ge_iff_le, Int.cast_ofNat_Int, beq_self_eq_true, Int.reduceLT, Int.reduceLE, Int.reduceAdd, Int.reduceMul, Int.reduceSub, bin_mulN _ _ _ ha, bin_mulN _ _ _ hb, bin_mulN _ _ _ hc, ← Int.ofNat_sub hle, s_part scr n _ (b * d) H (Nat.mul_pos hb0 hd0)]
theorem s_times (n a b c d : Nat) (H : Hp) (ha : a ≤ 10 ^ 12) (hb : b ≤ 10 ^ 12) (hb0 : 0 < b) (hd0 : 0 < d) : callF scr pgks pfns (n + 2) i_times [.tup [.int a, .int b], .tup [.int c, .int d]] H = .ok (prt (a * c) (b * d)) H := by
  rw [c_times]
  unfold pb_times
  simp only [R.bind_ok, R.out_ok, ofOpt_some, endOut_ret, endOut_next, tst, evalEs, evalAnd, evalOr, evalO, evalIt, tests, asg, asgs, Option.bind_some, Option.map_some, List.getElem?_cons_succ, List.getElem?_cons_zero, Option.join_some, List.set_cons_succ, List.set_cons_zero, List.length_cons, List.length_nil, Nat.reduceAdd, Nat.reduceLT, Nat.lt_irrefl, if_true, if_false, Bool.false_eq_true, reduceIte, Nat.zero_add, Nat.succ_eq_add_one, evalE_k, evalE_var, evalE_gk, evalE_bin, evalE_neg, evalE_not, evalE_and, evalE_or, evalE_ife, evalE_cmp, evalE_cmp2, evalE_isNone, evalE_notNone, evalE_tup, evalE_lst, evalE_dct, evalE_idx, evalE_slc, evalE_rev, evalE_call, evalE_bi, evalE_minD, evalE_meth, evalE_listOf, evalE_comp, evalE_sortKey, execS_expr, execS_asg, execS_setIdx, execS_ret, execS_ife, execS_for, execS_while, execS_pass, execS_brk, execS_cont, seq_next, seq_ret, seq_cont, seq_brk, execSs_nil, execSs_cons, truthy_none, truthy_bool, truthy_int, truthy_tup, isInt_int, isInt_bool, isBool_int, isBool_bool, isTuple_tup, len_tup, len_script, idx_tup, idx_script, seqAt_zero, seqAt_one, seqAt_two, seqAt_three, bin_add, bin_sub, cmp_lt, cmp_le, cmp_gt, cmp_ge, cmp_eq, cmp_ne, ne_eq, Bool.not_true, Bool.not_false, decide_true, decide_false, decide_eq_true_eq, gt_iff_lt, ge_iff_le, Int.cast_ofNat_Int, beq_self_eq_true, Int.reduceLT, Int.reduceLE, Int.reduceAdd, Int.reduceMul, Int.reduceSub, bin_mulN _ _ _ ha, bin_mulN _ _ _ hb, s_part scr n _ (b * d) H (Nat.mul_pos hb0 hd0)]
theorem s_shared (n a b m : Nat) (H : Hp) (hb : b ≤ 10 ^ 12) (hb0 : 0 < b) (hm : 0 < m) : callF scr pgks pfns (n + 2) i_shared [.tup [.int a, .int b], .int m] H = .ok (prt a (b * m)) H := by
  rw [c_shared]
  unfold pb_shared
  simp only [R.bind_ok, R.out_ok, ofOpt_some, endOut_ret, endOut_next, tst, evalEs, evalAnd, evalOr, evalO, evalIt, tests, asg, asgs, Option.bind_some, Option.map_some, List.getElem?_cons_succ, List.getElem?_cons_zero, Option.join_some, List.set_cons_succ, List.set_cons_zero, List.length_cons, List.length_nil, Nat.reduceAdd, Nat.reduceLT, Nat.lt_irrefl, if_true, if_false, Bool.false_eq_true, reduceIte, Nat.zero_add, Nat.succ_eq_add_one, evalE_k, evalE_var, evalE_gk, evalE_bin, evalE_neg, evalE_not, evalE_and, evalE_or, evalE_ife, evalE_cmp, evalE_cmp2, evalE_isNone, evalE_notNone, evalE_tup, evalE_lst, evalE_dct, evalE_idx, evalE_slc, evalE_rev, evalE_call, evalE_bi, evalE_minD, evalE_meth, evalE_listOf, evalE_comp, evalE_sortKey, execS_expr, execS_asg, execS_setIdx, execS_ret, execS_ife, execS_for, execS_while, execS_pass, execS_brk, execS_cont, seq_next, seq_ret, seq_cont, seq_brk, execSs_nil, execSs_cons, truthy_none, truthy_bool, truthy_int, truthy_tup, isInt_int, isInt_bool, isBool_int, isBool_bool, isTuple_tup, len_tup, len_script, idx_tup, idx_script, seqAt_zero, seqAt_one, seqAt_two, seqAt_three, bin_add, bin_sub, cmp_lt, cmp_le, cmp_gt, cmp_ge, cmp_eq, cmp_ne, ne_eq, Bool.not_true, Bool.not_false, decide_true, decide_false, decide_eq_true_eq, gt_iff_lt, ge_iff_le, Int.cast_ofNat_Int, beq_self_eq_true, Int.reduceLT, Int.reduceLE, Int.reduceAdd, Int.reduceMul, Int.reduceSub, bin_mulN _ _ _ hb, s_part scr n _ (b * m) H (Nat.mul_pos hb0 hm)]

theorem run_ok (n : Nat) (hl : scr.length ≤ 63) : ∃ H, callF scr pgks pfns (n + 5) i_law [.script] [] = .ok (.bool true) H := by
  rw [c_law]
  unfold pb_law
  have hz60 : ((60 : Int) ≠ 0) := by decide
  have hz40 : ((40 : Int) ≠ 0) := by decide
  have cell : ∀ (k : Nat) (H : Hp), callF scr pgks pfns (n + 4) i_law_cell_at [.script, .int k] H = .ok (.int (scr.getD k 0)) H := fun k H => s_cell scr (n + 3) k H hl
  have c0 : ∀ H, callF scr pgks pfns (n + 4) i_law_cell_at [.script, .int 0] H = _ := cell 0
  have c1 : ∀ H, callF scr pgks pfns (n + 4) i_law_cell_at [.script, .int 1] H = _ := cell 1
  have c2 : ∀ H, callF scr pgks pfns (n + 4) i_law_cell_at [.script, .int 2] H = _ := cell 2
  have c3 : ∀ H, callF scr pgks pfns (n + 4) i_law_cell_at [.script, .int 3] H = _ := cell 3
  have c4 : ∀ H, callF scr pgks pfns (n + 4) i_law_cell_at [.script, .int 4] H = _ := cell 4
  obtain ⟨a, b, H1, d1, g1, b0, ha, hb⟩ := s_drawn scr (n + 2) (scr.getD 0 0) (scr.getD 1 0) []
  obtain ⟨c, d, H2, d2, g2, d0, hc, hd⟩ := s_drawn scr (n + 2) (scr.getD 2 0) (scr.getD 3 0) H1
  obtain ⟨m, hm, hm'⟩ := fmod_ex (scr.getD 4 0) 60 (by omega)
  obtain ⟨t, ht, ht'⟩ := fmod_ex ((scr.getD 4 0).fdiv 60) 40 (by omega)
  have hm2 : (scr.getD 4 0).fmod 60 = m := hm
  have ht2 : ((scr.getD 4 0).fdiv 60).fmod 40 = t := ht
  have em : (1 : Int) + (m : Int) = ((1 + m : Nat) : Int) := by omega
  have et : (1 : Int) + (t : Int) = ((1 + t : Nat) : Int) := by omega
  have M0 := bin_mulN a
  have bd : 0 < b * d := Nat.mul_pos b0 d0
  have low := fun x H => s_lowest scr (n + 3) x (b * d) H bd
  have low2 := fun x H => s_lowest scr (n + 3) x (d * b) H (Nat.mul_pos d0 b0)
  have p1 := s_part scr (n + 3) (a * (1 + t)) (b * (1 + t)) H2 (Nat.mul_pos b0 (by omega))
  rw [prt_mul a b (1 + t) g1 (by omega)] at p1
  have isP := fun x y H => s_is_prt scr (n + 2) x y H
  have isS := s_is_self scr (n + 2) (a : Int) (b : Int) H2
  have ad1 := s_added scr (n + 2) a b c d H2 ha hb hc b0 d0
  have ad2 := s_added scr (n + 2) c d a b H2 hc hd ha d0 b0
  rw [Nat.add_comm (c * b), Nat.mul_comm d b] at ad2
  have ls := s_less scr (n + 2) a b a b H2 ha hb ha b0 b0 (Nat.le_refl _)
  rw [Nat.sub_self, prt_zero _ (Nat.mul_pos b0 b0)] at ls
  have isZ := s_is_self scr (n + 2) 0 1 H2
  have tm := s_times scr (n + 2) a b c d H2 ha hb b0 d0
  have sh := s_shared scr (n + 2) a b (1 + m) H2 hb b0 (by omega)
  have low3 := s_lowest scr (n + 3) a (b * (1 + m)) H2 (Nat.mul_pos b0 (by omega))
  refine ⟨H2, ?_⟩
  simp only [R.bind_ok, R.out_ok, ofOpt_some, endOut_ret, endOut_next, tst, evalEs, evalAnd, evalOr, evalO, evalIt, tests, asg, asgs, Option.bind_some, Option.map_some, List.getElem?_cons_succ, List.getElem?_cons_zero, Option.join_some, List.set_cons_succ, List.set_cons_zero, List.length_cons, List.length_nil, Nat.reduceAdd, Nat.reduceLT, Nat.lt_irrefl, if_true, if_false, Bool.false_eq_true, reduceIte, Nat.zero_add, Nat.succ_eq_add_one, evalE_k, evalE_var, evalE_gk, evalE_bin, evalE_neg, evalE_not, evalE_and, evalE_or, evalE_ife, evalE_cmp, evalE_cmp2, evalE_isNone, evalE_notNone, evalE_tup, evalE_lst, evalE_dct, evalE_idx, evalE_slc, evalE_rev, evalE_call, evalE_bi, evalE_minD, evalE_meth, evalE_listOf, evalE_comp, evalE_sortKey, execS_expr, execS_asg, execS_setIdx, execS_ret, execS_ife, execS_for, execS_while, execS_pass, execS_brk, execS_cont, seq_next, seq_ret, seq_cont, seq_brk, execSs_nil, execSs_cons, truthy_none, truthy_bool, truthy_int, truthy_tup, isInt_int, isInt_bool, isBool_int, isBool_bool, isTuple_tup, len_tup, len_script, idx_tup, idx_script, seqAt_zero, seqAt_one, seqAt_two, seqAt_three, bin_add, bin_sub, cmp_lt, cmp_le, cmp_gt, cmp_ge, cmp_eq, cmp_ne, ne_eq, Bool.not_true, Bool.not_false, decide_true, decide_false, decide_eq_true_eq, gt_iff_lt, ge_iff_le, Int.cast_ofNat_Int, beq_self_eq_true, Int.reduceLT, Int.reduceLE, Int.reduceAdd, Int.reduceMul, Int.reduceSub, c0, c1, c2, c3, c4, d1, d2, bin_mod _ _ _ hz60, bin_fdiv _ _ _ hz60, bin_mod _ _ _ hz40, hm2, ht2, em, et, bin_mulN _ _ _ ha, bin_mulN _ _ _ hb, bin_mulN _ _ _ hc, bin_mulN _ _ _ hd, p1, isS, ← Int.natCast_add, low, ad1, ad2, isP]
  by_cases hlt : a * d < c * b
  · have hlt' : ((a * d : Nat) : Int) < ((c * b : Nat) : Int) := by exact_mod_cast hlt
    have le := s_less scr (n + 2) c d a b H2 hc hd ha d0 b0 (Nat.le_of_lt hlt)
    simp only [hlt', R.bind_ok, R.out_ok, ofOpt_some, endOut_ret, endOut_next, tst, evalEs, evalAnd, evalOr, evalO, evalIt, tests, asg, asgs, Option.bind_some, Option.map_some, List.getElem?_cons_succ, List.getElem?_cons_zero, Option.join_some, List.set_cons_succ, List.set_cons_zero, List.length_cons, List.length_nil, Nat.reduceAdd, Nat.reduceLT, Nat.lt_irrefl, if_true, if_false, Bool.false_eq_true, reduceIte, Nat.zero_add, Nat.succ_eq_add_one, evalE_k, evalE_var, evalE_gk, evalE_bin, evalE_neg, evalE_not, evalE_and, evalE_or, evalE_ife, evalE_cmp, evalE_cmp2, evalE_isNone, evalE_notNone, evalE_tup, evalE_lst, evalE_dct, evalE_idx, evalE_slc, evalE_rev, evalE_call, evalE_bi, evalE_minD, evalE_meth, evalE_listOf, evalE_comp, evalE_sortKey, execS_expr, execS_asg, execS_setIdx, execS_ret, execS_ife, execS_for, execS_while, execS_pass, execS_brk, execS_cont, seq_next, seq_ret, seq_cont, seq_brk, execSs_nil, execSs_cons, truthy_none, truthy_bool, truthy_int, truthy_tup, isInt_int, isInt_bool, isBool_int, isBool_bool, isTuple_tup, len_tup, len_script, idx_tup, idx_script, seqAt_zero, seqAt_one, seqAt_two, seqAt_three, bin_add, bin_sub, cmp_lt, cmp_le, cmp_gt, cmp_ge, cmp_eq, cmp_ne, ne_eq, Bool.not_true, Bool.not_false, decide_true, decide_false, decide_eq_true_eq, gt_iff_lt, ge_iff_le, Int.cast_ofNat_Int, beq_self_eq_true, Int.reduceLT, Int.reduceLE, Int.reduceAdd, Int.reduceMul, Int.reduceSub, bin_mulN _ _ _ ha, bin_mulN _ _ _ hb, bin_mulN _ _ _ hc, bin_mulN _ _ _ hd, ← Int.ofNat_sub (Nat.le_of_lt hlt), low, low2, low3, le, isP, ls, isZ, tm, sh]
  · have hlt' : ¬ (((a * d : Nat) : Int) < ((c * b : Nat) : Int)) := by exact_mod_cast hlt
    have le := s_less scr (n + 2) a b c d H2 ha hb hc b0 d0 (Nat.le_of_not_lt hlt)
    simp only [hlt', R.bind_ok, R.out_ok, ofOpt_some, endOut_ret, endOut_next, tst, evalEs, evalAnd, evalOr, evalO, evalIt, tests, asg, asgs, Option.bind_some, Option.map_some, List.getElem?_cons_succ, List.getElem?_cons_zero, Option.join_some, List.set_cons_succ, List.set_cons_zero, List.length_cons, List.length_nil, Nat.reduceAdd, Nat.reduceLT, Nat.lt_irrefl, if_true, if_false, Bool.false_eq_true, reduceIte, Nat.zero_add, Nat.succ_eq_add_one, evalE_k, evalE_var, evalE_gk, evalE_bin, evalE_neg, evalE_not, evalE_and, evalE_or, evalE_ife, evalE_cmp, evalE_cmp2, evalE_isNone, evalE_notNone, evalE_tup, evalE_lst, evalE_dct, evalE_idx, evalE_slc, evalE_rev, evalE_call, evalE_bi, evalE_minD, evalE_meth, evalE_listOf, evalE_comp, evalE_sortKey, execS_expr, execS_asg, execS_setIdx, execS_ret, execS_ife, execS_for, execS_while, execS_pass, execS_brk, execS_cont, seq_next, seq_ret, seq_cont, seq_brk, execSs_nil, execSs_cons, truthy_none, truthy_bool, truthy_int, truthy_tup, isInt_int, isInt_bool, isBool_int, isBool_bool, isTuple_tup, len_tup, len_script, idx_tup, idx_script, seqAt_zero, seqAt_one, seqAt_two, seqAt_three, bin_add, bin_sub, cmp_lt, cmp_le, cmp_gt, cmp_ge, cmp_eq, cmp_ne, ne_eq, Bool.not_true, Bool.not_false, decide_true, decide_false, decide_eq_true_eq, gt_iff_lt, ge_iff_le, Int.cast_ofNat_Int, beq_self_eq_true, Int.reduceLT, Int.reduceLE, Int.reduceAdd, Int.reduceMul, Int.reduceSub, bin_mulN _ _ _ ha, bin_mulN _ _ _ hb, bin_mulN _ _ _ hc, bin_mulN _ _ _ hd, ← Int.ofNat_sub (Nat.le_of_not_lt hlt), low, low2, low3, le, isP, ls, isZ, tm, sh]
end Mine.P

end
section
set_option autoImplicit false
set_option linter.unusedVariables false
set_option linter.unusedSimpArgs false
set_option maxRecDepth 100000
open PySem PySem.W PyProof.Rows
namespace Mine
theorem goodTrue {c : ClaimW} {cl : Str → Option Addr} {mean : ExcName → Option Value} {args : List WData} {s₁ : Shared} {h' : Heap} {tk : Nat} (hk : ∀ b o, s₁.heap.get? b = some o → h'.get? b = some o) (hg : s₁.gens = #[])
    (hn : ∀ cls, c.raises args cls = false) (hp : c.post args (.bool true) args = true) : GoodWG c cl mean args s₁ (.ok (.ret (.bool true))) { s₁ with heap := h', toks := tk } :=
  GoodW.toG ⟨.inl ⟨_, _, _, rfl, hn, .bool true, hp, fun _ => ⟨.nil, fun _ ha => nomatch ha⟩⟩, hk, rfl, hg⟩
open_top hd01 for PySem.Challenge.rw_uf020001_01
end Mine
set_option maxHeartbeats 8000000 in
theorem PySem.Challenge.cw_uf020001_01_holds : PySem.Challenge.rw_uf020001_01.Holds := by
  refine Mine.hd01 ?_
  intro w s₀ s₁ mg mb G Y fa o pm cd doc dV kV ho hd hcd hD hmg hg args vals as hpre hlay hrd hwl hlo
  refine Ground.open G ?_
  intro T B D TE TW
  wrow_args hpre hlay hrd hwl hlo
  rename_i ns _ _ _ _ _ _ _ scr vs _ hL _ _ _ hI _ hc _
  refine Mine.law_of (K := Mine.P.pK) (fns := Mine.P.pfns) (nss := Mine.P.pnss) (gks := Mine.P.pgks) (N := 500) (lawIdx := Mine.P.i_law) T ?_ ?_ ?_ ?_ ?_ ?_ hL hI ?_ ?_ ?_ hmg (Mine.P.run_ok _ 495 ?_) ?_
  · decide +kernel
  · decide +kernel
  · decide +kernel
  · decide +kernel
  · rfl
  · intro j x h; simp [Mine.P.pK] at h
  · omega
  · omega
  · rfl
  · omega
  · intro h' tk hk
    exact Mine.goodTrue hk hg (fun _ => rfl) (by with_unfolding_all rfl)

end
