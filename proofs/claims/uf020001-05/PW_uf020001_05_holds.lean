import PyProof.Rows.All
import Wide.All
import Open.Line
import Wide.FinOn
import PyProof.Claim2
import PyProof.P3Statements
import PyProof.Seq
import PyProof.Cells
import PyProof.TupleIter
import PyProof.PlainList
import PyProof.DictRoads
import PyProof.DictKinds
import PyProof.DictIter
import PyProof.Methods
import PyProof.NoPylong
import PyProof.CodeObjX
import PyProof.DictTruth
import PyProof.CompFree
import PyProof.SliceSyntax
import PyProof.SliceList
import PyProof.Rows.TupMore
import KE.LcSums
import PyProof.DictDisplay
import PyProof.ListRange
import PyProof.ListNew
import PyProof.Rows.CallKwBuiltin
import PyProof.DefMake
import PyProof.ZipIter
import PyProof.Rows.ZipGen
import PyProof.AutoSeq1
import PySem.Challenge.RW_uf020001_05
set_option Elab.async false
set_option genSizeOfSpec false
set_option genSizeOf false
set_option genInjectivity false
section
set_option autoImplicit false
set_option linter.unusedVariables false
set_option linter.unusedSimpArgs false
namespace Mine
open PySem
/-- a name of the def that holds the lambda, and of no other -/
abbrev mk : Str := "_law_root"

/-- abstract values: tuples by value, lists / dicts / instances by location -/
inductive V where
  | none
  | bool (b : Bool)
  | int (i : Int)
  | tup (vs : List V)
  | ref (l : Nat)
  | script
  deriving Inhabited

inductive Cell where
  | list (vs : List V)
  | dict (es : List (Int × V))
  | tab
  | hid
  deriving Inhabited

noncomputable def isNoneV : V → Bool
  | .none => true
  | _ => false
noncomputable instance : DecidableEq V := fun a b => Classical.propDecidable (a = b)
noncomputable instance : DecidableEq Cell := fun a b => Classical.propDecidable (a = b)

abbrev Hp := List Cell
abbrev Env' := List (Option V)

inductive R (α : Type) where
  | ok (a : α) (h : Hp)
  | stuck

inductive Out where
  | next (ρ : Env') (h : Hp)
  | ret (v : V) (h : Hp)

inductive BOp where | add | sub | mul | fdiv | mod
inductive COp where | eq | ne | lt | le | gt | isIn | notIn

/-- built-ins of the fragment -/
inductive Bi where
  | len | isBool | sumI | isInt | isTuple | isList
  | any
inductive Me where
  | append | get2 | clear

set_option genSizeOf true in
set_option genSizeOfSpec true in
inductive Tgt where
  | var (i : Nat)
  | tup (ts : List Tgt)

mutual
inductive E where
  | k (v : V)
  | var (i : Nat)
  | bin (op : BOp) (a b : E)
  | neg (a : E)
  | not (a : E)
  | and (es : List E)
  | or (es : List E)
  | cmp (op : COp) (a b : E)
  | isNone (a : E)
  | notNone (a : E)
  | tup (es : List E)
  | lst (es : List E)
  | idx (a i : E)
  | slc (a : E) (lo hi : Option E)
  | call (f : Nat) (es : List E)
  | bi (b : Bi) (es : List E)
  | meth (m : Me) (a : E) (es : List E)
  | comp (nl : Nat) (elt : E) (t : Tgt) (it : It) (cs : List E)
  | listOf (e : E)
  | listR (e : E)
  | dct0
  | dct1 (a b : E)
  | sortK (a : E) (i : Nat)
  | gk (j : Nat)
inductive It where
  | of (e : E)
  | range (a b : E)
  | enum (e : E)
  | zip (a b : E)
end

inductive S where
  | expr (e : E)
  | asg (t : Tgt) (e : E)
  | setIdx (a i e : E)
  | ret (e : E)
  | ife (c : E) (a b : List S)
  | for (t : Tgt) (it : It) (body : List S)
  | while (c : E) (body : List S)

/-- reading a value as plain data, `n` levels -/
noncomputable def rdL (f : V → Option PyData) : List V → Option (List PyData)
  | [] => some []
  | v :: r => match f v, rdL f r with
    | some d, some ds => some (d :: ds)
    | _, _ => none
noncomputable def rd (scr : List Int) : Nat → Hp → V → Option PyData
  | _, _, .none => some .none
  | _, _, .bool b => some (.bool b)
  | _, _, .int i => some (.int i)
  | 0, _, _ => none
  | n + 1, H, .tup vs => (rdL (rd scr n H) vs).map .tuple
  | n + 1, H, .ref l => match H[l]? with
    | some (.list vs) => (rdL (rd scr n H) vs).map .list
    | _ => none
  | _ + 1, _, .script => some (.list (scr.map .int))

theorem rdT (scr : List Int) (n : Nat) (H : Hp) (vs : List V) : rd scr (n + 1) H (.tup vs) = (rdL (rd scr n H) vs).map .tuple := rfl
theorem rdR (scr : List Int) (n : Nat) (H : Hp) (l : Nat) : rd scr (n + 1) H (.ref l) = (match H[l]? with | some (.list vs) => (rdL (rd scr n H) vs).map .list | _ => none) := rfl
theorem rdI (scr : List Int) (n : Nat) (H : Hp) (i : Int) : rd scr n H (.int i) = some (.int i) := by cases n <;> rfl
theorem rdLc (f : V → Option PyData) (v : V) (r : List V) : rdL f (v :: r) = (match f v, rdL f r with | some d, some ds => some (d :: ds) | _, _ => none) := rfl
noncomputable def truthy (scr : List Int) (H : Hp) : V → Option Bool
  | .none => some false
  | .bool b => some b
  | .int i => some (i != 0)
  | .tup vs => some (!vs.isEmpty)
  | .ref l => match H[l]? with
    | some (.list vs) => some (!vs.isEmpty)
    | _ => none
  | .script => some (!scr.isEmpty)

end Mine

end
section
set_option autoImplicit false
set_option linter.unusedVariables false
set_option linter.unusedSimpArgs false
namespace Mine
open PySem

structure Ctx where
  scr : List Int
  gks : List V
  call : Nat → List V → Hp → (V → Hp → Prop) → Prop

noncomputable def szOk {α : Type} (l : List α) : Bool := decide (l.length < 16000000)
noncomputable def alloc (c : Cell) (H : Hp) : R V := .ok (.ref H.length) (H ++ [c])
noncomputable def allocL (vs : List V) (H : Hp) : R V := if szOk vs then alloc (.list vs) H else .stuck

/-- the items of a list / a tuple / the script -/
noncomputable def itemsOf (scr : List Int) (H : Hp) : V → Option (List V)
  | .tup vs => some vs
  | .ref l => match H[l]? with
    | some (.list vs) => some vs
    | _ => none
  | .script => some (scr.map .int)
  | _ => none

/-- the items of a list or of the script -/
noncomputable def lstOf (scr : List Int) (H : Hp) : V → Option (List V)
  | .ref l => match H[l]? with
    | some (.list vs) => some vs
    | _ => none
  | .script => some (scr.map .int)
  | _ => none

noncomputable def mulOk (a b : Int) : Bool := !(decide (Builtin.Int.intBits a > shortFactorBits) && decide (Builtin.Int.intBits b > shortFactorBits) && Builtin.Int.intTooBig (Builtin.Int.intBits a + Builtin.Int.intBits b))

noncomputable def onInt (x : V) (f : Int → R V) : R V := match x with
  | .int i => f i
  | _ => .stuck
/-- a list's items -/
noncomputable def onL (H : Hp) (x : V) (f : List V → R V) : R V := match x with
  | .ref l => match H[l]? with
    | some (.list vs) => f vs
    | _ => .stuck
  | _ => .stuck
noncomputable def onO {α β : Type} (o : Option α) (f : α → R β) : R β := match o with
  | some a => f a
  | none => .stuck
noncomputable def binI (op : BOp) (a b : Int) (H : Hp) : R V := match op with
  | .add => .ok (.int (a + b)) H
  | .sub => .ok (.int (a - b)) H
  | .mul => if mulOk a b then .ok (.int (a * b)) H else .stuck
  | .fdiv => if b = 0 then .stuck else .ok (.int (a.fdiv b)) H
  | .mod => if b = 0 then .stuck else .ok (.int (a.fmod b)) H
noncomputable def binL (op : BOp) (x y : V) (H : Hp) : R V := match op with
  | .add => onL H x fun xs => onL H y fun ys => allocL (xs ++ ys) H
  | _ => .stuck
noncomputable def binop (op : BOp) (x y : V) (H : Hp) : R V := match x with
  | .int a => onInt y fun b => binI op a b H
  | .ref l => binL op (.ref l) y H
  | _ => .stuck

noncomputable def eqV (scr : List Int) (H : Hp) (x y : V) : Option Bool :=
  match rd scr 10 H x, rd scr 10 H y with
  | some d, some e => some (PyData.eqv d e)
  | _, _ => none

/-- the entries of a table -/
noncomputable def dictOf (H : Hp) : V → Option (List (Int × V))
  | .ref l => match H[l]? with
    | some (.dict es) => some es
    | _ => none
  | _ => none
noncomputable def dget (es : List (Int × V)) (k : Int) : Option V := (es.find? (fun p => decide (p.1 = k))).map (·.2)
noncomputable def dput (es : List (Int × V)) (k : Int) (v : V) : List (Int × V) := if es.any (fun p => decide (p.1 = k)) then es.map (fun p => if p.1 = k then (p.1, v) else p) else es ++ [(k, v)]
noncomputable def allInts : List V → Option (List Int)
  | [] => some []
  | .int i :: r => (allInts r).map (i :: ·)
  | _ => none

noncomputable def allBools : List V → Option (List Bool)
  | [] => some []
  | .bool i :: r => (allBools r).map (i :: ·)
  | _ => none
noncomputable def int2 (x y : V) (f : Int → Int → Bool) : Option Bool := match x with
  | .int a => match y with
    | .int b => some (f a b)
    | _ => none
  | _ => none

/-- with an int, or not at all -/
noncomputable def ofInt {α : Type} (x : V) (f : Int → Option α) : Option α := match x with
  | .int k => f k
  | _ => none
noncomputable def inS (scr : List Int) (H : Hp) (x y : V) : Option Bool :=
  match itemsOf scr H y with
  | some vs => match rdL (rd scr 10 H) vs, rd scr 10 H x with
    | some ds, some d => some (ds.any fun e => PyData.eqv e d)
    | _, _ => none
  | none => none

noncomputable def inV (scr : List Int) (H : Hp) (x y : V) : Option Bool := match dictOf H y with
  | some es => ofInt x fun k => some (es.any fun p => decide (p.1 = k))
  | none => inS scr H x y

noncomputable def cmpV (scr : List Int) (op : COp) (x y : V) (H : Hp) : Option Bool :=
  match op with
  | .eq => eqV scr H x y
  | .ne => (eqV scr H x y).map (!·)
  | .lt => int2 x y fun a b => decide (a < b)
  | .gt => int2 x y fun a b => decide (a > b)
  | .le => int2 x y fun a b => decide (a ≤ b)
  | .isIn => inV scr H x y
  | .notIn => (inV scr H x y).map (!·)

noncomputable def seqAt {α : Type} (l : List α) (k : Int) : Option α :=
  if 0 ≤ k then l[k.toNat]? else if -(l.length : Int) ≤ k then l[(k + l.length).toNat]? else none

noncomputable def idxV (scr : List Int) (x i : V) (H : Hp) : Option V := ofInt i fun k => match itemsOf scr H x with
  | some vs => seqAt vs k
  | none => (dictOf H x).bind fun es => dget es k

noncomputable def sliceEnd (n : Nat) (d : Nat) : Option Int → Nat
  | none => d
  | some k => if k < 0 then (k + n).toNat else min k.toNat n
noncomputable def pySlice {α : Type} (l : List α) (lo hi : Option Int) : List α :=
  (l.take (sliceEnd l.length l.length hi)).drop (sliceEnd l.length 0 lo)

/-- None or an int -/
noncomputable def partOf : V → Option (Option Int)
  | .none => some none
  | .int k => if k.natAbs < 2 ^ 60 then some (some k) else none
  | _ => none

noncomputable def slcV (scr : List Int) (x lo hi : V) (H : Hp) : R V :=
  match partOf lo, partOf hi with
  | some l, some h => match x with
    | .ref _ | .script => match itemsOf scr H x with
      | some vs => allocL (pySlice vs l h) H
      | _ => .stuck
    | _ => .stuck
  | _, _ => .stuck

/-- one argument, two arguments -/
noncomputable def bi0 (vs : List V) (r : R V) : R V := match vs with
  | [] => r
  | _ => .stuck
noncomputable def bi1 (vs : List V) (f : V → R V) : R V := match vs with
  | [x] => f x
  | _ => .stuck
noncomputable def bi2 (vs : List V) (f : V → V → R V) : R V := match vs with
  | [x, y] => f x y
  | _ => .stuck
noncomputable def biV (scr : List Int) (b : Bi) (vs : List V) (H : Hp) : R V := match b with
  | .len => bi1 vs fun x => onO (itemsOf scr H x) fun l => .ok (.int l.length) H
  | .isBool => bi1 vs fun x => match x with
    | .bool _ => .ok (.bool true) H
    | .int _ => .ok (.bool false) H
    | _ => .stuck
  | .isInt => bi1 vs fun x => onInt x fun _ => .ok (.bool true) H
  | .isTuple => bi1 vs fun x => match x with
    | .tup _ => .ok (.bool true) H
    | _ => .stuck
  | .isList => bi1 vs fun x => onL H x fun _ => .ok (.bool true) H
  | .sumI => bi1 vs fun x => onL H x fun l => onO (allInts l) fun is => .ok (.int is.sum) H
  | .any => bi1 vs fun x => onL H x fun l => onO (allBools l) fun bs => .ok (.bool (bs.any id)) H

noncomputable def isListB (H : Hp) : V → Bool
  | .ref l => match H[l]? with
    | some (.list _) => true
    | _ => false
  | _ => false
noncomputable def isDictB (H : Hp) (x : V) : Bool := (dictOf H x).isSome
/-- the object of a method's call, when it is fetched -/
noncomputable def meKind (m : Me) (H : Hp) (x : V) : Bool := match m with
  | .append => isListB H x
  | .get2 => isDictB H x
  | .clear => isListB H x
noncomputable def methV (m : Me) (x : V) (vs : List V) (H : Hp) : R V := match m with
  | .append => match x with
    | .ref l => onL H x fun xs => bi1 vs fun v => if szOk xs then .ok .none (H.set l (.list (xs ++ [v]))) else .stuck
    | _ => .stuck
  | .get2 => onO (dictOf H x) fun es => bi2 vs fun k d => onInt k fun k => .ok ((dget es k).getD d) H
  | .clear => match x with
    | .ref l => onL H x fun _ => bi0 vs (.ok .none (H.set l (.list [])))
    | _ => .stuck

mutual
noncomputable def asg : Tgt → V → Env' → Option Env'
  | .var i, v, ρ => if i < ρ.length then some (ρ.set i (some v)) else none
  | .tup ts, .tup vs, ρ => asgs ts vs ρ
  | .tup _, _, _ => none
noncomputable def asgs : List Tgt → List V → Env' → Option Env'
  | [], [], ρ => some ρ
  | t :: ts, v :: vs, ρ => (asg t v ρ).bind (asgs ts vs)
  | _, _, _ => none
end

noncomputable def setIdxV (x i v : V) (H : Hp) : Option Hp := ofInt i fun k =>
  match x with
  | .ref l => match H[l]? with
    | some (.list xs) => if 0 ≤ k ∧ k < xs.length then some (H.set l (.list (xs.set k.toNat v))) else none
    | some (.dict es) => if szOk es = true then some (H.set l (.dict (dput es k v))) else none
    | _ => none
  | _ => none
/-- the items of a list, a tuple, the script; the keys of a table -/
noncomputable def keysOf (scr : List Int) (H : Hp) (x : V) : Option (List V) := match dictOf H x with
  | some es => some (es.map fun p => .int p.1)
  | none => itemsOf scr H x

/-- what is watched while a loop goes over it -/
noncomputable def watch : V → List Nat
  | .ref l => [l]
  | _ => []

noncomputable def stands (ws : List Nat) (H₀ H : Hp) : Bool := ws.all fun l => decide (H[l]? = H₀[l]?)

noncomputable def rangeV (a b : Int) : List V := (List.range (b - a).toNat).map fun (i : Nat) => .int (a + (i : Int))
noncomputable def enumV : Nat → List V → List V
  | _, [] => []
  | k, v :: r => .tup [.int k, v] :: enumV (k + 1) r

noncomputable def zipV : List V → List V → List V
  | a :: r, b :: t => .tup [a, b] :: zipV r t
  | _, _ => []
noncomputable def weight : Env' → Nat
  | [] => 1000
  | some (.int i) :: r => i.natAbs + weight r
  | _ :: r => weight r

/-- a def: how many names it has, how many of them are parameters, its body -/
structure Fn where
  name : Str
  np : Nat
  nl : Nat
  body : List S

end Mine

end
section
set_option autoImplicit false
set_option linter.unusedVariables false
set_option linter.unusedSimpArgs false
namespace Mine
open PySem

abbrev tupObj (xs : List Value) (n : Nat) : Obj := { cls := .type "tuple", data := .seq xs.toArray n }
abbrev lstObj (xs : List Value) (n : Nat) : Obj := { cls := .type "list", data := .seq xs.toArray n }

theorem nodup_inj {α : Type} {l : List α} (hn : l.Nodup) {i j : Nat} (hi : i < l.length) (hj : j < l.length) (e : l[i] = l[j]) : i = j := by
  have := List.pairwise_iff_getElem.mp hn
  rcases Nat.lt_trichotomy i j with h | h | h
  · exact absurd e (this i j hi hj h)
  · exact h
  · exact absurd e.symm (this j i hj hi h)

mutual
/-- the value `x` stands for the abstract value -/
inductive Rep (scr : Addr) (φ : List Addr) (h : Heap) : V → Value → Prop
  | none : Rep scr φ h .none .none
  | bool (b : Bool) : Rep scr φ h (.bool b) (.bool b)
  | int (i : Int) (t : Tok) : Rep scr φ h (.int i) (.int i t)
  | tup {a : Addr} {n : Nat} {vs : List V} {xs : List Value} : h.get? a = some (tupObj xs n) → RepL scr φ h vs xs → vs.length ≤ 16000000 → a ∉ φ → Rep scr φ h (.tup vs) (.ref a)
  | ref {l : Nat} {a : Addr} : φ[l]? = some a → Rep scr φ h (.ref l) (.ref a)
  | script : Rep scr φ h .script (.ref scr)
inductive RepL (scr : Addr) (φ : List Addr) (h : Heap) : List V → List Value → Prop
  | nil : RepL scr φ h [] []
  | cons {v : V} {x : Value} {vs : List V} {xs : List Value} : Rep scr φ h v x → RepL scr φ h vs xs → RepL scr φ h (v :: vs) (x :: xs)
end

/-- a code object -/
noncomputable def CodO (o : Obj) : Prop := o.cls = .type "code" ∧ ∃ vs, o.data = .fields vs
noncomputable def NotTup (o : Obj) : Prop := (∀ xs n, o ≠ tupObj xs n) ∧ ¬ CodO o
theorem notTup_dict {o : Obj} {es : Array DictEntry} {ep : Nat} (h : o.data = .dict es ep) : NotTup o := by
  refine ⟨fun xs n e => ?_, fun e => ?_⟩
  · rw [e] at h; cases h
  · obtain ⟨_, vs, e⟩ := e
    rw [e] at h; cases h
theorem notTup_cell {o : Obj} {v : Option Value} (h : o.data = .cell v) : NotTup o := by
  refine ⟨fun xs n e => ?_, fun e => ?_⟩
  · rw [e] at h; cases h
  · obtain ⟨_, vs, e⟩ := e
    rw [e] at h; cases h
theorem notTup_cls {o : Obj} (h : o.cls ≠ .type "tuple") (h' : o.cls ≠ .type "code") : NotTup o := ⟨fun xs n e => h (by rw [e]), fun e => h' e.1⟩
theorem notTup_at {o : Obj} {nm : String} (hc : o.cls = .type nm) (hn : nm ≠ "tuple") (hn' : nm ≠ "code") : NotTup o :=
  notTup_cls (fun e => hn (by rw [hc] at e; cases e; rfl)) (fun e => hn' (by rw [hc] at e; cases e; rfl))

structure Stp (own : List Addr) (φ : List Addr) (h : Heap) (φ' : List Addr) (h' : Heap) : Prop where
  pre : ∃ t, φ' = φ ++ t
  keep : ∀ a o, h.get? a = some o → a ∉ φ → a ∉ own → h'.get? a = some o
  fresh : ∀ a ∈ φ', a ∉ φ → h.get? a = none
  tup : ∀ a xs n, a ∉ φ → h.get? a = some (tupObj xs n) → h'.get? a = some (tupObj xs n)
  cod : ∀ a o, CodO o → h.get? a = some o → h'.get? a = some o
  alive : ∀ a o, h.get? a = some o → ∃ o', h'.get? a = some o'

section
variable {own own' : List Addr} {scr : Addr} {φ φ' φ'' : List Addr} {h h' h'' : Heap}

theorem Stp.refl : Stp own φ h φ h := ⟨⟨[], by simp⟩, fun _ _ e _ _ => e, fun a h1 h2 => absurd h1 h2, fun _ _ _ _ e => e, fun _ _ _ e => e, fun _ o e => ⟨o, e⟩⟩
theorem Stp.notMem {a : Addr} {o : Obj} (S : Stp own φ h φ' h') (ho : h.get? a = some o) (ha : a ∉ φ) : a ∉ φ' := fun hm => by
  rw [S.fresh a hm ha] at ho; cases ho
theorem Stp.trans (S : Stp own φ h φ' h') (T : Stp own φ' h' φ'' h'') : Stp own φ h φ'' h'' := by
  refine ⟨?_, fun a o e h1 h2 => T.keep a o (S.keep a o e h1 h2) (S.notMem e h1) h2, fun a h1 h2 => ?_, fun a xs n ha e => T.tup a xs n (S.notMem e ha) (S.tup a xs n ha e), fun a o z e => T.cod a o z (S.cod a o z e), fun a o e => ?_⟩
  · obtain ⟨t, rfl⟩ := S.pre
    obtain ⟨u, rfl⟩ := T.pre
    exact ⟨t ++ u, by simp⟩
  · by_cases h3 : a ∈ φ'
    · exact S.fresh a h3 h2
    · have h4 := T.fresh a h1 h3
      cases h5 : h.get? a with
      | none => rfl
      | some o =>
        obtain ⟨o', e⟩ := S.alive a o h5
        rw [e] at h4; cases h4
  · obtain ⟨o', e'⟩ := S.alive a o e
    exact T.alive a o' e'
theorem Stp.sub (S : Stp own φ h φ' h') (hs : ∀ a ∈ own, a ∈ own') : Stp own' φ h φ' h' :=
  ⟨S.pre, fun a o e h1 h2 => S.keep a o e h1 fun hm => h2 (hs a hm), S.fresh, S.tup, S.cod, S.alive⟩
theorem Stp.nil (S : Stp [] φ h φ' h') : Stp own φ h φ' h' := S.sub (fun _ hm => nomatch hm)
/-- own things that were not there before don't count -/
theorem Stp.drop (S : Stp own φ h φ' h') (hs : ∀ a ∈ own, a ∉ own' → h.get? a = none) : Stp own' φ h φ' h' :=
  ⟨S.pre, fun a o e h1 h2 => by
    by_cases hm : a ∈ own
    · rw [hs a hm h2] at e; cases e
    · exact S.keep a o e h1 hm, S.fresh, S.tup, S.cod, S.alive⟩
theorem Stp.ext (hk : ∀ a o, h.get? a = some o → h'.get? a = some o) : Stp own φ h φ h' :=
  ⟨⟨[], by simp⟩, fun a o e _ _ => hk a o e, fun a h1 h2 => absurd h1 h2, fun a _ _ _ e => hk a _ e, fun a o _ e => hk a o e, fun a o e => ⟨o, hk a o e⟩⟩
theorem Stp.push (o : Obj) : Stp own φ h φ (h.push o) := .ext fun _ _ e => Heap.get?_push_of_some o e
/-- one object changed, that is not a tuple, or one of the cells -/
theorem Stp.butC {a : Addr} {o o' : Obj} (ha : a ∈ own ∨ a ∈ φ) (ho : h.get? a = some o) (hn : a ∈ φ ∨ ∀ xs n, o ≠ tupObj xs n) (hc : ¬ CodO o) (ho' : h'.get? a = some o') (hs : Heap.ExtBut a h h') : Stp own φ h φ h' := by
  refine ⟨⟨[], by simp⟩, fun b o₂ e h1 h2 => ?_, fun b h1 h2 => absurd h1 h2, fun b xs n hb e => ?_, fun b o₂ z e => ?_, fun b o₂ e => ?_⟩
  · by_cases hb : b = a
    · subst hb; exact (ha.elim h2 h1).elim
    · exact hs b o₂ hb e
  · by_cases hba : b = a
    · subst hba
      rw [ho] at e
      exact hn.elim (fun h => absurd h hb) fun h => absurd (Option.some.inj e) (h xs n)
    · exact hs b _ hba e
  · by_cases hb : b = a
    · subst hb; rw [ho] at e; cases e; exact absurd z hc
    · exact hs b _ hb e
  · by_cases hb : b = a
    · subst hb; exact ⟨o', ho'⟩
    · exact ⟨o₂, hs b o₂ hb e⟩
theorem Stp.but {a : Addr} {o o' : Obj} (ha : a ∈ own ∨ a ∈ φ) (ho : h.get? a = some o) (hn : NotTup o) (ho' : h'.get? a = some o') (hs : Heap.ExtBut a h h') : Stp own φ h φ h' := .butC ha ho (.inr hn.1) hn.2 ho' hs

/-- tuples stay, cells stay at their places -/
structure Kp (φ : List Addr) (h : Heap) (φ' : List Addr) (h' : Heap) : Prop where
  pre : ∃ t, φ' = φ ++ t
  tup : ∀ a xs n, a ∉ φ → h.get? a = some (tupObj xs n) → h'.get? a = some (tupObj xs n)
  cod : ∀ a o, CodO o → h.get? a = some o → h'.get? a = some o
  out : ∀ a xs n, a ∉ φ → h.get? a = some (tupObj xs n) → a ∉ φ'
theorem Kp.trans (S : Kp φ h φ' h') (T : Kp φ' h' φ'' h'') : Kp φ h φ'' h'' := by
  refine ⟨?_, fun a xs n ha e => T.tup a xs n (S.out a xs n ha e) (S.tup a xs n ha e), fun a o z e => T.cod a o z (S.cod a o z e), fun a xs n ha e => T.out a xs n (S.out a xs n ha e) (S.tup a xs n ha e)⟩
  obtain ⟨t, rfl⟩ := S.pre
  obtain ⟨u, rfl⟩ := T.pre
  exact ⟨t ++ u, by simp⟩
theorem Kp.refl : Kp φ h φ h := ⟨⟨[], by simp⟩, fun _ _ _ _ e => e, fun _ _ _ e => e, fun _ _ _ ha _ => ha⟩
theorem Stp.kp (S : Stp own φ h φ' h') : Kp φ h φ' h' := ⟨S.pre, S.tup, S.cod, fun a xs n ha e => S.notMem e ha⟩
/-- something that is no tuple becomes a cell -/
theorem Kp.adopt {D : Addr} {o : Obj} (hD : h.get? D = some o) (hn : ∀ xs n, o ≠ tupObj xs n) : Kp φ h (φ ++ [D]) h :=
  ⟨⟨[D], rfl⟩, fun _ _ _ _ e => e, fun _ _ _ e => e, fun a xs n ha e hm => by
    rcases List.mem_append.mp hm with hm | hm
    · exact ha hm
    · rw [List.mem_singleton.mp hm, hD] at e; exact hn xs n (Option.some.inj e)⟩
/-- something new becomes a cell -/
theorem Kp.new {D : Addr} (hk : ∀ a o, h.get? a = some o → h'.get? a = some o) (hD : h.get? D = none) : Kp φ h (φ ++ [D]) h' :=
  ⟨⟨[D], rfl⟩, fun _ _ _ _ e => hk _ _ e, fun _ _ _ e => hk _ _ e, fun a xs n ha e hm => by
    rcases List.mem_append.mp hm with hm | hm
    · exact ha hm
    · rw [List.mem_singleton.mp hm, hD] at e; cases e⟩
mutual
theorem Rep.kp (S : Kp φ h φ' h') : ∀ {v : V} {x : Value}, Rep scr φ h v x → Rep scr φ' h' v x
  | _, _, .none => .none
  | _, _, .bool b => .bool b
  | _, _, .int i t => .int i t
  | _, _, .tup e r z hn => .tup (S.tup _ _ _ hn e) (RepL.kp S r) z (S.out _ _ _ hn e)
  | _, _, .ref e => .ref (by
      obtain ⟨t, rfl⟩ := S.pre
      rw [List.getElem?_append_left (by obtain ⟨hl, _⟩ := List.getElem?_eq_some_iff.mp e; exact hl)]; exact e)
  | _, _, .script => .script
theorem RepL.kp (S : Kp φ h φ' h') : ∀ {vs : List V} {xs : List Value}, RepL scr φ h vs xs → RepL scr φ' h' vs xs
  | _, _, .nil => .nil
  | _, _, .cons r rs => .cons (Rep.kp S r) (RepL.kp S rs)
end
theorem Rep.mono (S : Stp own φ h φ' h') {v : V} {x : Value} (r : Rep scr φ h v x) : Rep scr φ' h' v x := r.kp S.kp
theorem RepL.mono (S : Stp own φ h φ' h') {v : List V} {x : List Value} (r : RepL scr φ h v x) : RepL scr φ' h' v x := r.kp S.kp
end

section
variable {scr : Addr} {φ : List Addr} {h : Heap} {vs ws : List V} {xs ys : List Value} {v : V} {x : Value}
theorem RepL.length (r : RepL scr φ h vs xs) : vs.length = xs.length := by
  induction vs generalizing xs with
  | nil => cases r; rfl
  | cons v vs ih => cases r with | cons _ r => rw [List.length_cons, List.length_cons, ih r]
theorem RepL.append (r : RepL scr φ h vs xs) (q : RepL scr φ h ws ys) : RepL scr φ h (vs ++ ws) (xs ++ ys) := by
  induction vs generalizing xs with
  | nil => cases r; exact q
  | cons v vs ih => cases r with | cons h1 r => exact .cons h1 (ih r)
theorem RepL.get {i : Nat} (r : RepL scr φ h vs xs) (e : vs[i]? = some v) : ∃ x, xs[i]? = some x ∧ Rep scr φ h v x := by
  induction vs generalizing xs i with
  | nil => simp at e
  | cons u vs ih =>
    cases r with
    | cons h1 r =>
      cases i with
      | zero => cases e; exact ⟨_, rfl, h1⟩
      | succ i => simpa using ih (i := i) r (by simpa using e)
theorem RepL.take (k : Nat) (r : RepL scr φ h vs xs) : RepL scr φ h (vs.take k) (xs.take k) := by
  induction vs generalizing xs k with
  | nil => cases r; simpa using RepL.nil
  | cons u vs ih =>
    cases r with
    | cons h1 r =>
      cases k with
      | zero => simpa using RepL.nil
      | succ k => exact .cons h1 (ih k r)
theorem RepL.drop (k : Nat) (r : RepL scr φ h vs xs) : RepL scr φ h (vs.drop k) (xs.drop k) := by
  induction vs generalizing xs k with
  | nil => cases r; simpa using RepL.nil
  | cons u vs ih =>
    cases r with
    | cons h1 r =>
      cases k with
      | zero => exact .cons h1 r
      | succ k => exact ih k r
theorem RepL.one (r : Rep scr φ h v x) : RepL scr φ h [v] [x] := .cons r .nil
theorem RepL.set (r : RepL scr φ h vs xs) (k : Nat) (q : Rep scr φ h v x) : RepL scr φ h (vs.set k v) (xs.set k x) := by
  induction vs generalizing xs k with
  | nil => cases r; exact .nil
  | cons u vs ih =>
    cases r with
    | cons h1 r =>
      cases k with
      | zero => exact .cons q r
      | succ k => exact .cons h1 (ih r k)
end

/-- what stays the same through a whole run: the heap ahead of it, where the script lies, how keys are hashed -/
structure Wo where
  h₀ : Heap
  scr : Addr
  prog : Program
  w : World
  /-- the code of the def that holds the lambda, its table, the lambda's place and name -/
  lc : Addr
  lP : Addr
  ln : Nat
  lm : Nat
  lq : Str

/-- the entries of a table whose keys are ints -/
inductive KvRep (scr : Addr) (φ : List Addr) (h : Heap) : List (Int × V) → List (Int × Value) → Prop
  | nil : KvRep scr φ h [] []
  | cons {k : Int} {v : V} {x : Value} {es : List (Int × V)} {kvs : List (Int × Value)} : Rep scr φ h v x → KvRep scr φ h es kvs → KvRep scr φ h ((k, v) :: es) ((k, x) :: kvs)

section
variable {scr : Addr} {φ φ' : List Addr} {h h' : Heap} {es : List (Int × V)} {kvs : List (Int × Value)}
theorem KvRep.kp (S : Kp φ h φ' h') (r : KvRep scr φ h es kvs) : KvRep scr φ' h' es kvs := by
  induction r with
  | nil => exact .nil
  | cons p _ ih => exact .cons (p.kp S) ih
theorem KvRep.length (r : KvRep scr φ h es kvs) : es.length = kvs.length := by
  induction r with
  | nil => rfl
  | cons p _ ih => rw [List.length_cons, List.length_cons, ih]
theorem KvRep.any (r : KvRep scr φ h es kvs) (k : Int) : es.any (fun p => decide (p.1 = k)) = kvs.any (fun kv => decide (kv.1 = k)) := by
  induction r with
  | nil => rfl
  | cons p _ ih => rw [List.any_cons, List.any_cons, ih]
theorem KvRep.find (r : KvRep scr φ h es kvs) (k : Int) : (dget es k = none ∧ valueAt kvs k = none) ∨ ∃ v x, dget es k = some v ∧ valueAt kvs k = some x ∧ Rep scr φ h v x := by
  induction r with
  | nil => exact .inl ⟨rfl, rfl⟩
  | @cons k' v x es kvs p _ ih =>
    unfold dget valueAt at ih ⊢
    rw [List.find?_cons, List.find?_cons]
    by_cases e : k' = k
    · simp only [e, decide_true]
      exact .inr ⟨v, x, rfl, rfl, p⟩
    · simp only [e, decide_false]
      exact ih
theorem KvRep.put (r : KvRep scr φ h es kvs) (k : Int) {v : V} {x : Value} (q : Rep scr φ h v x) : KvRep scr φ h (es.map fun p => if p.1 = k then (p.1, v) else p) (kvs.map fun kv => if kv.1 = k then (kv.1, x) else kv) := by
  induction r with
  | nil => exact .nil
  | @cons k2 v2 x2 es2 kvs2 p2 _ ih2 =>
    rw [List.map_cons, List.map_cons]
    by_cases e : k2 = k
    · rw [if_pos e, if_pos e]; exact .cons q ih2
    · rw [if_neg e, if_neg e]; exact .cons p2 ih2
theorem KvRep.snoc (r : KvRep scr φ h es kvs) (k : Int) {v : V} {x : Value} (q : Rep scr φ h v x) : KvRep scr φ h (es ++ [(k, v)]) (kvs ++ [(k, x)]) := by
  induction r with
  | nil => exact .cons q .nil
  | cons p _ ih => exact .cons p ih
theorem KvRep.stored (r : KvRep scr φ h es kvs) (k : Int) {v : V} {x : Value} (q : Rep scr φ h v x) : KvRep scr φ h (dput es k v) (stored kvs k x) := by
  unfold dput PySem.stored
  rw [r.any k]
  split
  · exact r.put k q
  · exact r.snoc k q
theorem KvRep.keys (r : KvRep scr φ h es kvs) {vs : List Value} (hl : vs.length = kvs.length) (hv : ∀ (j : Nat) (v : Value), vs[j]? = some v → ∃ k x, kvs[j]? = some (k, x) ∧ Value.isInt k v = true) : RepL scr φ h (es.map fun p => .int p.1) vs := by
  induction r generalizing vs with
  | nil => rw [List.length_eq_zero_iff.mp hl]; exact .nil
  | @cons k' v' x' es kvs p _ ih =>
    cases vs with
    | nil => cases hl
    | cons v vs =>
      obtain ⟨k, x, e, hk⟩ := hv 0 v rfl
      cases e
      obtain ⟨t, rfl⟩ := Value.isInt_shape hk
      exact .cons (.int _ _) (ih (by simpa using hl) fun j u hu => by simpa using hv (j + 1) u (by simpa using hu))
end
abbrev tabObj (ps : Array Value) : Obj := { cls := .none, data := .fields ps }
/-- a code's name -/
noncomputable def CodeNm (h : Heap) (c : Addr) (q : Str) : Prop := ∃ o vs t, h.get? c = some o ∧ o.cls = .type "code" ∧ o.data = .fields vs ∧ vs[1]? = some (.str q t)
theorem CodeNm.kp {φ φ' : List Addr} {h h' : Heap} {c : Addr} {q : Str} (S : Kp φ h φ' h') (x : CodeNm h c q) : CodeNm h' c q := by
  obtain ⟨o, vs, t, e, hc, hd, hv⟩ := x
  exact ⟨o, vs, t, S.cod _ _ ⟨hc, vs, hd⟩ e, hc, hd, hv⟩

noncomputable def CellAt (W : Wo) (φ : List Addr) (h : Heap) (a : Addr) : Cell → Prop
  | .list vs => ∃ xs n, h.get? a = some (lstObj xs n) ∧ RepL W.scr φ h vs xs ∧ vs.length ≤ 16000000
  | .dict es => ∃ kvs, (a == sysModules) = false ∧ h.DictOf (intKind W.prog W.w) a kvs ∧ KvRep W.scr φ h es kvs ∧ es.length ≤ 16000000
  | .hid => ∃ x y, h.get? a = some (tupObj [x, y] 0)
  | .tab => a = W.lP ∧ (h.get? a = some (tabObj #[]) ∨ ∃ c, h.get? a = some (tabObj #[rawInt W.ln, rawInt W.lm, .ref c]) ∧ CodeNm h c W.lq)

structure SR (W : Wo) (φ : List Addr) (H : Hp) (h : Heap) : Prop where
  keep : ∀ a o, W.h₀.get? a = some o → h.get? a = some o
  fresh : ∀ a ∈ φ, W.h₀.get? a = none
  nodup : φ.Nodup
  len : φ.length = H.length
  cell : ∀ (l : Nat) (c : Cell), H[l]? = some c → ∃ a, φ[l]? = some a ∧ CellAt W φ h a c

section
variable {W : Wo} {own φ φ' : List Addr} {h h' : Heap} {H : Hp}
theorem CellAt.kp {a : Addr} {c : Cell} (S : Kp φ h φ' h') (ha : ∀ o, h.get? a = some o → h'.get? a = some o) (r : CellAt W φ h a c) : CellAt W φ' h' a c := by
  cases c with
  | list vs => obtain ⟨xs, n, e, q, z⟩ := r; exact ⟨xs, n, ha _ e, q.kp S, z⟩
  | dict es => obtain ⟨kvs, z1, ⟨o, en, p, e, q⟩, z2, z3⟩ := r; exact ⟨kvs, z1, ⟨o, en, p, ha _ e, q⟩, z2.kp S, z3⟩
  | hid => obtain ⟨x, y, e⟩ := r; exact ⟨x, y, ha _ e⟩
  | tab =>
    obtain ⟨e0, r⟩ := r
    refine ⟨e0, ?_⟩
    rcases r with e | ⟨c, e, q⟩
    · exact .inl (ha _ e)
    · exact .inr ⟨c, ha _ e, q.kp S⟩
theorem CellAt.mono {a : Addr} {c : Cell} (S : Stp own φ h φ' h') (ha : ∀ o, h.get? a = some o → h'.get? a = some o) (r : CellAt W φ h a c) : CellAt W φ' h' a c := r.kp S.kp ha
theorem CellAt.obj {a : Addr} {c : Cell} (r : CellAt W φ h a c) : ∃ o, h.get? a = some o ∧ ¬ CodO o := by
  cases c with
  | list vs => obtain ⟨xs, n, e, _⟩ := r; exact ⟨_, e, (notTup_cls (by simp) (by simp)).2⟩
  | dict es => obtain ⟨kvs, _, ⟨o, en, p, e, _, hd, _⟩, _⟩ := r; exact ⟨_, e, (notTup_dict hd).2⟩
  | hid => obtain ⟨x, y, e⟩ := r; exact ⟨_, e, fun z => by obtain ⟨_, vs, z⟩ := z; cases z⟩
  | tab =>
    obtain ⟨_, r⟩ := r
    rcases r with e | ⟨c, e, q⟩
    · exact ⟨_, e, (notTup_cls (by simp) (by simp)).2⟩
    · exact ⟨_, e, (notTup_cls (by simp) (by simp)).2⟩
theorem CellAt.notT {a : Addr} {c : Cell} (r : CellAt W φ h a c) (hc : c ≠ .hid) : ∃ o, h.get? a = some o ∧ ∀ xs n, o ≠ tupObj xs n := by
  cases c with
  | list vs => obtain ⟨xs, n, e, _⟩ := r; exact ⟨_, e, (notTup_cls (by simp) (by simp)).1⟩
  | dict es => obtain ⟨kvs, _, ⟨o, en, p, e, _, hd, _⟩, _⟩ := r; exact ⟨_, e, (notTup_dict hd).1⟩
  | hid => exact absurd rfl hc
  | tab =>
    obtain ⟨_, r⟩ := r
    rcases r with e | ⟨c, e, q⟩
    · exact ⟨_, e, (notTup_cls (by simp) (by simp)).1⟩
    · exact ⟨_, e, (notTup_cls (by simp) (by simp)).1⟩
theorem SR.lt {l : Nat} (R : SR W φ H h) (hl : l < φ.length) : ∃ c, H[l]? = some c := ⟨H[l]'(R.len ▸ hl), by simp⟩
theorem SR.obj {a : Addr} (R : SR W φ H h) (ha : a ∈ φ) : ∃ o, h.get? a = some o ∧ ¬ CodO o := by
  obtain ⟨l, hl, rfl⟩ := List.getElem_of_mem ha
  obtain ⟨c, hc⟩ := R.lt hl
  obtain ⟨b, hb, r⟩ := R.cell l c hc
  have : φ[l] = b := by rw [List.getElem?_eq_getElem hl] at hb; exact Option.some.inj hb
  rw [this]; exact r.obj
/-- all else stays -/
theorem SR.ext (R : SR W φ H h) (hk : ∀ a o, h.get? a = some o → h'.get? a = some o) : SR W φ H h' :=
  ⟨fun a o e => hk a o (R.keep a o e), R.fresh, R.nodup, R.len, fun l c e => let ⟨a, ha, r⟩ := R.cell l c e; ⟨a, ha, r.mono (own := []) (.ext hk) fun o => hk a o⟩⟩
/-- an object apart changed -/
theorem SR.but {b : Addr} {o o' : Obj} (R : SR W φ H h) (hb : b ∉ φ) (h0 : W.h₀.get? b = none) (ho : h.get? b = some o) (hn : NotTup o) (ho' : h'.get? b = some o') (hs : Heap.ExtBut b h h') : SR W φ H h' := by
  have S : Stp [b] φ h φ h' := .but (.inl (by simp)) ho hn ho' hs
  refine ⟨fun a o e => hs a o (fun e' => by subst e'; rw [h0] at e; cases e) (R.keep a o e), R.fresh, R.nodup, R.len, fun l c e => ?_⟩
  obtain ⟨a, ha, r⟩ := R.cell l c e
  exact ⟨a, ha, r.mono S fun o e => hs a o (fun e' => hb (e' ▸ List.mem_of_getElem? ha)) e⟩
/-- things apart have gone, or changed in any way -/
structure Fin (io : List Addr) (h h' : Heap) : Prop where
  keep : ∀ a o, a ∉ io → h.get? a = some o → h'.get? a = some o
  not : ∀ a ∈ io, ∀ o, h.get? a = some o → NotTup o
theorem Fin.kp {io : List Addr} (S : Fin io h h') : Kp φ h φ h' := ⟨⟨[], by simp⟩, fun a xs n _ e => S.keep a _ (fun hm => (S.not a hm _ e).1 xs n rfl) e, fun a o z e => S.keep a _ (fun hm => (S.not a hm _ e).2 z) e, fun _ _ _ ha _ => ha⟩
theorem SR.fin {io : List Addr} (R : SR W φ H h) (hio : ∀ a ∈ io, a ∉ φ ∧ W.h₀.get? a = none) (S : Fin io h h') : SR W φ H h' := by
  refine ⟨fun a o e => S.keep a o (fun hm => by rw [(hio a hm).2] at e; cases e) (R.keep a o e), R.fresh, R.nodup, R.len, fun l c e => ?_⟩
  obtain ⟨a, ha, r⟩ := R.cell l c e
  exact ⟨a, ha, r.kp S.kp fun o e => S.keep a o (fun hm => (hio a hm).1 (List.mem_of_getElem? ha)) e⟩
theorem Stp.fin {io : List Addr} {h₁ h₂ : Heap} {φ₁ : List Addr} (S : Stp own φ h φ₁ h₁) (T : Fin io h₁ h₂) (hn : ∀ a ∈ io, h.get? a = none) : Stp own φ h φ₁ h₂ :=
  ⟨S.pre, fun a o e h1 h2 => T.keep a o (fun hm => by rw [hn a hm] at e; cases e) (S.keep a o e h1 h2), S.fresh, fun a xs n ha e => T.kp (φ := φ₁).tup _ _ _ (S.notMem e ha) (S.tup a xs n ha e), fun a o z e => T.kp (φ := φ).cod _ _ z (S.cod a o z e),
    fun a o e => let ⟨o', e'⟩ := S.alive a o e; ⟨o', T.keep a o' (fun hm => by rw [hn a hm] at e; cases e) e'⟩⟩
/-- the same, and cells may have changed -/
structure Fin2 (io φ : List Addr) (h h' : Heap) : Prop where
  keep : ∀ a o, a ∉ io → a ∉ φ → h.get? a = some o → h'.get? a = some o
  not : ∀ a ∈ io, ∀ o, h.get? a = some o → NotTup o ∨ h'.get? a = some o
  cod : ∀ a ∈ φ, ∀ o, h.get? a = some o → ¬ CodO o
  live : ∀ a ∈ φ, ∃ o, h'.get? a = some o
theorem Fin.two {io : List Addr} {H' : Hp} (S : Fin io h h') (R : SR W φ H h) (R' : SR W φ H' h') : Fin2 io φ h h' :=
  ⟨fun a o h1 _ e => S.keep a o h1 e, fun a ha o e => .inl (S.not a ha o e), fun a ha o e hc => by obtain ⟨o', e', hn⟩ := R.obj ha; rw [e] at e'; cases e'; exact hn hc, fun a ha => let ⟨o, e, _⟩ := R'.obj ha; ⟨o, e⟩⟩
theorem Fin2.kp {io : List Addr} (S : Fin2 io φ h h') : Kp φ h φ h' := by
  refine ⟨⟨[], by simp⟩, fun a xs n ha e => ?_, fun a o z e => ?_, fun _ _ _ ha _ => ha⟩
  · by_cases hm : a ∈ io
    · exact (S.not a hm _ e).elim (fun h => absurd rfl (h.1 xs n)) id
    · exact S.keep a _ hm ha e
  · by_cases hm : a ∈ io
    · exact (S.not a hm _ e).elim (fun h => absurd z h.2) id
    · exact S.keep a _ hm (fun hm => S.cod a hm o e z) e
theorem Stp.fin2 {io : List Addr} {h₁ h₂ : Heap} {φ₁ : List Addr} (S : Stp own φ h φ₁ h₁) (T : Fin2 io φ₁ h₁ h₂) (hn : ∀ a ∈ io, h.get? a = none) : Stp own φ h φ₁ h₂ := by
  have ni : ∀ {a : Addr} {o : Obj}, h.get? a = some o → a ∉ io := fun e hm => by rw [hn _ hm] at e; cases e
  refine ⟨S.pre, fun a o e h1 h2 => T.keep a o (ni e) (S.notMem e h1) (S.keep a o e h1 h2), S.fresh, fun a xs n ha e => T.kp.tup _ _ _ (S.notMem e ha) (S.tup a xs n ha e), fun a o z e => T.kp.cod _ _ z (S.cod a o z e), fun a o e => ?_⟩
  obtain ⟨o', e'⟩ := S.alive a o e
  by_cases hm : a ∈ φ₁
  · exact T.live a hm
  · exact ⟨o', T.keep a o' (ni e) hm e'⟩
theorem none_size (h : Heap) : h.get? h.objs.size = none := by
  cases e : h.get? h.objs.size with
  | none => rfl
  | some o => exact absurd (Heap.lt_size e) (Nat.lt_irrefl _)
theorem SR.sizeNot (R : SR W φ H h) : h.objs.size ∉ φ := fun hm => by
  obtain ⟨o, e, _⟩ := R.obj hm
  rw [none_size h] at e; cases e
/-- one more cell -/
theorem SR.grow {D : Addr} {c : Cell} (R : SR W φ H h) (hk : ∀ a o, h.get? a = some o → h'.get? a = some o) (kp : Kp φ h (φ ++ [D]) h') (hD : D ∉ φ) (h0 : W.h₀.get? D = none) (hc : CellAt W (φ ++ [D]) h' D c) : SR W (φ ++ [D]) (H ++ [c]) h' := by
  refine ⟨fun a o' e => hk _ _ (R.keep a o' e), ?_, ?_, by simp [R.len], fun l c' e => ?_⟩
  · intro a ha
    rcases List.mem_append.mp ha with ha | ha
    · exact R.fresh a ha
    · rw [List.mem_singleton.mp ha]; exact h0
  · rw [List.nodup_append]
    exact ⟨R.nodup, by simp, fun a ha b hb e => hD (by rw [List.mem_singleton] at hb; rw [← hb, ← e]; exact ha)⟩
  · by_cases hl : l < H.length
    · rw [List.getElem?_append_left hl] at e
      obtain ⟨a, ha, r⟩ := R.cell l c' e
      exact ⟨a, by rw [List.getElem?_append_left (by rw [R.len]; exact hl)]; exact ha, r.kp kp fun o' e => hk _ _ e⟩
    · have e2 : l = H.length := by
        have := (List.getElem?_eq_some_iff.mp e).1
        simp at this; (first | lia | omega)
      subst e2
      rw [List.getElem?_append_right (Nat.le_refl _)] at e
      simp at e
      subst e
      exact ⟨D, by rw [← R.len, List.getElem?_append_right (Nat.le_refl _)]; simp, hc⟩
/-- a new cell -/
theorem SR.alloc {o : Obj} {c : Cell} (R : SR W φ H h) (hf : o.isFreed = false) (hc : CellAt W (φ ++ [h.objs.size]) (h.push o) h.objs.size c) : SR W (φ ++ [h.objs.size]) (H ++ [c]) (h.push o) := by
  have hnew := none_size h
  refine R.grow (fun a o' e => Heap.get?_push_of_some o e) (.new (fun a o' e => Heap.get?_push_of_some o e) hnew) (fun hm => ?_) ?_ hc
  · obtain ⟨o, e, _⟩ := R.obj hm
    rw [hnew] at e; cases e
  · cases e : W.h₀.get? h.objs.size with
    | none => rfl
    | some o => rw [R.keep _ _ e] at hnew; cases hnew
theorem SR.allocStp (R : SR W φ H h) (o : Obj) : Stp own φ h (φ ++ [h.objs.size]) (h.push o) := by
  refine ⟨⟨_, rfl⟩, fun a o' e _ _ => Heap.get?_push_of_some o e, fun a h1 h2 => ?_, fun a _ _ _ e => Heap.get?_push_of_some o e, fun a _ _ e => Heap.get?_push_of_some o e, fun a o' e => ⟨o', Heap.get?_push_of_some o e⟩⟩
  rcases List.mem_append.mp h1 with h1 | h1
  · exact absurd h1 h2
  · rw [List.mem_singleton.mp h1]; exact none_size h
/-- a cell changed -/
theorem SR.set {l : Nat} {a : Addr} {c : Cell} (R : SR W φ H h) (ha : φ[l]? = some a) (hs : Heap.ExtBut a h h') (hc : CellAt W φ h' a c) : SR W φ (H.set l c) h' := by
  have hm := List.mem_of_getElem? ha
  obtain ⟨o, ho, hn⟩ := R.obj hm
  obtain ⟨o', ho', _⟩ := hc.obj
  have S : Stp [] φ h φ h' := .butC (.inr hm) ho (.inl hm) hn ho' hs
  refine ⟨fun b o e => hs b o (fun e' => by subst e'; rw [R.fresh _ hm] at e; cases e) (R.keep b o e), R.fresh, R.nodup, by simp [R.len], fun k c' e => ?_⟩
  by_cases hk : k = l
  · subst hk
    have hlt : k < H.length := by rw [← R.len]; exact (List.getElem?_eq_some_iff.mp ha).1
    rw [List.getElem?_set_self hlt] at e
    cases e
    exact ⟨a, ha, hc⟩
  · rw [List.getElem?_set_ne (Ne.symm hk)] at e
    obtain ⟨b, hb, r⟩ := R.cell k c' e
    refine ⟨b, hb, r.mono S fun o e => hs b o (fun e' => hk ?_) e⟩
    subst e'
    have h1 := (List.getElem?_eq_some_iff.mp ha)
    have h2 := (List.getElem?_eq_some_iff.mp hb)
    exact nodup_inj R.nodup h2.1 h1.1 (h2.2.trans h1.2.symm)
end
end Mine

end
section
set_option autoImplicit false
set_option linter.unusedVariables false
set_option linter.unusedSimpArgs false
namespace Mine
open PySem

noncomputable def lk (ns : List Str) (ρ : Env') (x : Str) : Option V := (ρ[ns.idxOf x]?).join

inductive OptRep (scr : Addr) (φ : List Addr) (h : Heap) : Option V → Option Value → Prop
  | none : OptRep scr φ h none none
  | some {v : V} {x : Value} : Rep scr φ h v x → OptRep scr φ h (some v) (some x)

theorem OptRep.mono {own : List Addr} {scr : Addr} {φ φ' : List Addr} {h h' : Heap} (S : Stp own φ h φ' h') {v : Option V} {x : Option Value} (r : OptRep scr φ h v x) : OptRep scr φ' h' v x := by
  cases r with
  | none => exact .none
  | some r => exact .some (r.mono S)

noncomputable def isCellK (k : Option NameKind) : Prop := k = some .cell ∨ k = some .free

structure FR (W : Wo) (env : Env) (ns : List Str) (ρ : Env') (φ : List Addr) (h : Heap) : Prop where
  fn : env.scope.kind = .function
  glob : env.globals = mainGlobals
  blt : env.builtins = builtinsNs
  gen : env.scope.isGenerator = false ∧ env.scope.isCoroutine = false ∧ interactive env = false
  code : (env.kindOf mk).isSome = true → env.code = .ref W.lc ∧ env.qual ++ "<lambda>" = W.lq
  len : ρ.length = ns.length
  loc : ∃ m, h.Ns env.locals m ∧ ∀ x ∈ ns, env.kindOf x = some .local → OptRep W.scr φ h (lk ns ρ x) (m x)
  locA : env.locals ∉ φ ∧ W.h₀.get? env.locals = none
  cel : ∀ x ∈ ns, isCellK (env.kindOf x) → ∃ c v, env.cells.lookup x = some c ∧ c ∉ φ ∧ c ≠ env.locals ∧ W.h₀.get? c = none ∧ h.IsCell c v ∧ OptRep W.scr φ h (lk ns ρ x) v
  apart : ∀ x y c, env.cells.lookup x = some c → env.cells.lookup y = some c → x = y
  alive : ∀ p ∈ env.cells, p.2 ∉ φ ∧ ∃ o, h.get? p.2 = some o

section
variable {W : Wo} {env : Env} {ns : List Str} {ρ : Env'} {own φ φ' : List Addr} {h h' : Heap}

theorem Ns_at {h h' : Heap} {a : Addr} {m : Str → Option Value} (hn : h.Ns a m) (e : ∀ o, h.get? a = some o → h'.get? a = some o) : h'.Ns a m :=
  let ⟨o, es, ep, x, r⟩ := hn; ⟨o, es, ep, e _ x, r⟩
theorem IsCell_at {h h' : Heap} {a : Addr} {v : Option Value} (hn : h.IsCell a v) (e : ∀ o, h.get? a = some o → h'.get? a = some o) : h'.IsCell a v :=
  let ⟨o, x, r⟩ := hn; ⟨o, e _ x, r⟩

/-- what others do leaves the frame as it is -/
theorem FR.mono (F : FR W env ns ρ φ h) (S : Stp own φ h φ' h') (hL : env.locals ∉ own) (hC : ∀ x c, env.cells.lookup x = some c → c ∉ own) : FR W env ns ρ φ' h' := by
  obtain ⟨m, hm, hr⟩ := F.loc
  obtain ⟨o, es, ep, ho, _⟩ := id hm
  have eL : ∀ o, h.get? env.locals = some o → h'.get? env.locals = some o := fun o e => S.keep _ o e F.locA.1 hL
  refine ⟨F.fn, F.glob, F.blt, F.gen, F.code, F.len, ?_, ⟨S.notMem ho F.locA.1, F.locA.2⟩, ?_, F.apart, fun p hp => ?_⟩
  · exact ⟨m, Ns_at hm eL, fun x hx hk => (hr x hx hk).mono S⟩
  · intro x hx hk
    obtain ⟨c, v, h1, h2, h3, h4, h5, h6⟩ := F.cel x hx hk
    obtain ⟨o, ho, _⟩ := id h5
    have eC : ∀ o, h.get? c = some o → h'.get? c = some o := fun o e => S.keep _ o e h2 (hC x c h1)
    exact ⟨c, v, h1, S.notMem ho h2, h3, h4, IsCell_at h5 eC, h6.mono S⟩
  · obtain ⟨q1, o, q2⟩ := F.alive p hp
    exact ⟨S.notMem q2 q1, S.alive _ _ q2⟩
theorem OptRep.kp {scr : Addr} {φ φ' : List Addr} {h h' : Heap} (S : Kp φ h φ' h') {v : Option V} {x : Option Value} (r : OptRep scr φ h v x) : OptRep scr φ' h' v x := by
  cases r with
  | none => exact .none
  | some r => exact .some (r.kp S)
theorem FR.fin {io : List Addr} (F : FR W env ns ρ φ h) (S : Fin io h h') (hL : env.locals ∉ io) (hC : ∀ p ∈ env.cells, p.2 ∉ io) : FR W env ns ρ φ h' := by
  have hC' : ∀ x c, env.cells.lookup x = some c → c ∉ io := by
    have : ∀ (l : List (Str × Addr)), (∀ p ∈ l, p.2 ∉ io) → ∀ x c, l.lookup x = some c → c ∉ io := by
      intro l
      induction l with
      | nil => intro _ x c h; cases h
      | cons p l ih =>
        intro hl x c h
        rw [List.lookup_cons] at h
        split at h
        · cases h; exact hl p (.head _)
        · exact ih (fun q hq => hl q (.tail _ hq)) x c h
    exact this _ hC
  obtain ⟨m, hm, hr⟩ := F.loc
  refine ⟨F.fn, F.glob, F.blt, F.gen, F.code, F.len, ?_, F.locA, ?_, F.apart, fun p hp => ?_⟩
  · exact ⟨m, Ns_at hm fun o e => S.keep _ o hL e, fun x hx hk => (hr x hx hk).kp S.kp⟩
  · intro x hx hk
    obtain ⟨c, v, h1, h2, h3, h4, h5, h6⟩ := F.cel x hx hk
    exact ⟨c, v, h1, h2, h3, h4, IsCell_at h5 fun o e => S.keep _ o (hC' x c h1) e, h6.kp S.kp⟩
  · obtain ⟨q1, o, q2⟩ := F.alive p hp
    exact ⟨q1, o, S.keep _ _ (hC p hp) q2⟩
theorem FR.fin2 {io : List Addr} (F : FR W env ns ρ φ h) (S : Fin2 io φ h h') (hL : env.locals ∉ io) (hC : ∀ p ∈ env.cells, p.2 ∉ io) : FR W env ns ρ φ h' := by
  have hC' : ∀ x c, env.cells.lookup x = some c → c ∉ io := by
    have : ∀ (l : List (Str × Addr)), (∀ p ∈ l, p.2 ∉ io) → ∀ x c, l.lookup x = some c → c ∉ io := by
      intro l
      induction l with
      | nil => intro _ x c h; cases h
      | cons p l ih =>
        intro hl x c h
        rw [List.lookup_cons] at h
        split at h
        · cases h; exact hl p (.head _)
        · exact ih (fun q hq => hl q (.tail _ hq)) x c h
    exact this _ hC
  obtain ⟨m, hm, hr⟩ := F.loc
  refine ⟨F.fn, F.glob, F.blt, F.gen, F.code, F.len, ?_, F.locA, ?_, F.apart, fun p hp => ?_⟩
  · exact ⟨m, Ns_at hm fun o e => S.keep _ o hL F.locA.1 e, fun x hx hk => (hr x hx hk).kp S.kp⟩
  · intro x hx hk
    obtain ⟨c, v, h1, h2, h3, h4, h5, h6⟩ := F.cel x hx hk
    exact ⟨c, v, h1, h2, h3, h4, IsCell_at h5 fun o e => S.keep _ o (hC' x c h1) h2 e, h6.kp S.kp⟩
  · obtain ⟨q1, o, q2⟩ := F.alive p hp
    exact ⟨q1, o, S.keep _ _ (hC p hp) q1 q2⟩
theorem FR.mono0 (F : FR W env ns ρ φ h) (S : Stp [] φ h φ' h') : FR W env ns ρ φ' h' := F.mono S (by simp) (by simp)

theorem lk_set {i : Nat} {x y : Str} {v : Option V} (hx : ns.idxOf x = i) (hi : i < ρ.length) : lk ns (ρ.set i v) y = if ns.idxOf y = i then v else lk ns ρ y := by
  unfold lk
  by_cases e : ns.idxOf y = i
  · rw [if_pos e, e, List.getElem?_set_self hi]; rfl
  · rw [if_neg e, List.getElem?_set_ne (Ne.symm e)]

theorem idxOf_inj {x y : Str} (hx : x ∈ ns) (hy : y ∈ ns) (e : ns.idxOf x = ns.idxOf y) : x = y := by
  have h1 := List.idxOf_lt_length_of_mem hx
  have h2 := List.idxOf_lt_length_of_mem hy
  have e1 : ns[ns.idxOf x]? = some x := by rw [List.getElem?_eq_getElem h1]; simp
  have e2 : ns[ns.idxOf y]? = some y := by rw [List.getElem?_eq_getElem h2]; simp
  rw [e] at e1
  exact Option.some.inj (e1.symm.trans e2)
end
end Mine

end
section
set_option autoImplicit false
set_option linter.unusedVariables false
set_option linter.unusedSimpArgs false
namespace Mine
open PySem

noncomputable def Wp {α : Type} (r : R α) (Q : α → Hp → Prop) : Prop := match r with | .ok a H => Q a H | _ => False
noncomputable def wSome {α : Type} (o : Option α) (f : α → Prop) : Prop := match o with | some a => f a | none => False
noncomputable def wIf (t : Bool) (A B : Prop) : Prop := match t with | true => A | false => B
noncomputable def wInt (x : V) (f : Int → Prop) : Prop := match x with | .int i => f i | _ => False
noncomputable def wRange (x y : V) (f : List V → Prop) : Prop := wInt x fun i => wInt y fun j => (i.natAbs < 2 ^ 60 ∧ j.natAbs < 2 ^ 60) ∧ f (rangeV i j)
/-- a list's items -/
noncomputable def lstAt (H : Hp) : V → Option (List V)
  | .ref l => match H[l]? with
    | some (.list vs) => some vs
    | _ => none
  | _ => none
noncomputable def wL (H : Hp) (x : V) (f : List V → Prop) : Prop := wSome (lstAt H x) f
noncomputable def wNil {α : Type} (l : List α) (A B : Prop) : Prop := match l with | [] => A | _ :: _ => B
noncomputable def wThen (o : Out) (f : Env' → Hp → Prop) (A : Prop) : Prop := match o with | .next ρ H => f ρ H | .ret _ _ => A
noncomputable def retK (Q : V → Hp → Prop) (o : Out) : Prop := match o with | .ret v H => Q v H | .next _ H => Q .none H
/-- what a turn of a loop may come to -/
noncomputable def loopK (K : Out → Prop) (N : Env' → Hp → Prop) (o : Out) : Prop := match o with
  | .next ρ H => N ρ H
  | .ret v H => K (.ret v H)

noncomputable def WCall (C : Ctx) (f : Nat) (vs : List V) (H : Hp) (Q : V → Hp → Prop) : Prop := ∃ Q₀, C.call f vs H Q₀ ∧ ∀ v H, Q₀ v H → Q v H
noncomputable def WBin (op : BOp) (x y : V) (H : Hp) (Q : V → Hp → Prop) : Prop := Wp (binop op x y H) Q
noncomputable def WBi (scr : List Int) (b : Bi) (vs : List V) (H : Hp) (Q : V → Hp → Prop) : Prop := Wp (biV scr b vs H) Q
noncomputable def WMeth (m : Me) (x : V) (vs : List V) (H : Hp) (Q : V → Hp → Prop) : Prop := Wp (methV m x vs H) Q
noncomputable def WAllocL (vs : List V) (H : Hp) (Q : V → Hp → Prop) : Prop := Wp (allocL vs H) Q
noncomputable def WSlc (scr : List Int) (x lo hi : V) (H : Hp) (Q : V → Hp → Prop) : Prop := Wp (slcV scr x lo hi H) Q

noncomputable def compW (ws : List Nat) (H₀ : Hp) (t : Tgt) (test : Env' → Hp → (Bool → Hp → Prop) → Prop) (elt : Env' → Hp → (V → Hp → Prop) → Prop) : List V → Env' → Hp → List V → (List V → Hp → Prop) → Prop
  | [], _, H, acc, Q => Q acc H
  | v :: vs, ρ, H, acc, Q => wSome (asg t v ρ) fun ρ' => test ρ' H fun b H₁ =>
      wIf b (elt ρ' H₁ fun y H₂ => stands ws H₀ H₂ = true ∧ compW ws H₀ t test elt vs ρ' H₂ (acc ++ [y]) Q) (stands ws H₀ H₁ = true ∧ compW ws H₀ t test elt vs ρ' H₁ acc Q)
noncomputable def forW (ws : List Nat) (H₀ : Hp) (t : Tgt) (body : Env' → Hp → (Out → Prop) → Prop) : List V → Env' → Hp → (Out → Prop) → Prop
  | [], ρ, H, K => K (.next ρ H)
  | v :: vs, ρ, H, K => wSome (asg t v ρ) fun ρ' => body ρ' H (loopK K fun ρ₁ H₁ => stands ws H₀ H₁ = true ∧ forW ws H₀ t body vs ρ₁ H₁ K)
noncomputable def whileW (test : Env' → Hp → (Bool → Hp → Prop) → Prop) (body : Env' → Hp → (Out → Prop) → Prop) : Nat → Env' → Hp → (Out → Prop) → Prop
  | 0, _, _, _ => False
  | n + 1, ρ, H, K => test ρ H fun b H => wIf b (body ρ H (loopK K fun ρ₁ H₁ => whileW test body n ρ₁ H₁ K)) (K (.next ρ H))

mutual
noncomputable def WE (C : Ctx) : E → Env' → Hp → (V → Hp → Prop) → Prop
  | .k v, _, H, Q => Q v H
  | .var i, ρ, H, Q => wSome (ρ[i]?.join) fun v => Q v H
  | .bin op a b, ρ, H, Q => WE C a ρ H fun x H => WE C b ρ H fun y H => WBin op x y H Q
  | .neg a, ρ, H, Q => WE C a ρ H fun x H => wInt x fun i => Q (.int (-i)) H
  | .not a, ρ, H, Q => WE C a ρ H fun x H => wSome (truthy C.scr H x) fun b => Q (.bool (!b)) H
  | .and es, ρ, H, Q => WAnd C es ρ H Q
  | .or es, ρ, H, Q => WOr C es ρ H Q
  | .cmp op a b, ρ, H, Q => WE C a ρ H fun x H => WE C b ρ H fun y H => wSome (cmpV C.scr op x y H) fun t => Q (.bool t) H
  | .isNone a, ρ, H, Q => WE C a ρ H fun x H => Q (.bool (isNoneV x)) H
  | .notNone a, ρ, H, Q => WE C a ρ H fun x H => Q (.bool (!isNoneV x)) H
  | .tup es, ρ, H, Q => WEs C es ρ H fun vs H => Q (.tup vs) H
  | .lst es, ρ, H, Q => WEs C es ρ H fun vs H => Q (.ref H.length) (H ++ [.list vs])
  | .idx a i, ρ, H, Q => WE C a ρ H fun x H => WE C i ρ H fun y H => wSome (idxV C.scr x y H) fun v => Q v H
  | .slc a lo hi, ρ, H, Q => WE C a ρ H fun x H => WO C lo ρ H fun l H => WO C hi ρ H fun h H => WSlc C.scr x l h H Q
  | .call f es, ρ, H, Q => WEs C es ρ H fun vs H => WCall C f vs H Q
  | .bi b es, ρ, H, Q => WEs C es ρ H fun vs H => WBi C.scr b vs H Q
  | .meth m a es, ρ, H, Q => WE C a ρ H fun x H => wIf (meKind m H x) (WEs C es ρ H fun vs H => WMeth m x vs H Q) False
  | .comp nl elt t it cs, ρ, H, Q => WIt C it ρ H fun p H => szOk p.1 = true ∧ compW p.2 H t (fun ρ H Q => WT C cs ρ H Q) (fun ρ H Q => WE C elt ρ H Q) p.1 (List.replicate nl none ++ ρ) H [] fun vs H => Q (.ref H.length) (H ++ [.list vs])
  | .listOf e, ρ, H, Q => WE C e ρ H fun x H => wSome (keysOf C.scr H x) fun vs => WAllocL vs H Q
  | .listR e, ρ, H, Q => WE C e ρ H fun x H => wInt x fun j => (0 ≤ j ∧ j < 16000000) ∧ Q (.ref H.length) (H ++ [.list (rangeV 0 j)])
  | .dct0, _, H, Q => Q (.ref H.length) (H ++ [.dict []])
  | .dct1 a b, ρ, H, Q => WE C a ρ H fun x H => WE C b ρ H fun y H => wInt x fun k => Q (.ref H.length) (H ++ [.dict [(k, y)]])
  | .sortK a i, ρ, H, Q => WE C a ρ H fun x H => wL H x fun vs => (vs.length < 64 ∧ H[0]? = some .tab) ∧ (∀ v ∈ vs, wSome (ρ[i]?.join) fun x => wSome (idxV C.scr x v H) fun y => wSome (idxV C.scr y (.int 0) H) fun k => wInt k fun _ => True) ∧ ∀ ws : List V, ws.Perm vs → Q (.ref H.length) (H ++ [.list ws])
  | .gk j, _, H, Q => wSome C.gks[j]? fun v => Q v H
noncomputable def WEs (C : Ctx) : List E → Env' → Hp → (List V → Hp → Prop) → Prop
  | [], _, H, Q => Q [] H
  | e :: r, ρ, H, Q => WE C e ρ H fun v H => WEs C r ρ H fun vs H => Q (v :: vs) H
noncomputable def WO (C : Ctx) : Option E → Env' → Hp → (V → Hp → Prop) → Prop
  | none, _, H, Q => Q .none H
  | some e, ρ, H, Q => WE C e ρ H Q
noncomputable def WAnd (C : Ctx) : List E → Env' → Hp → (V → Hp → Prop) → Prop
  | [], _, _, _ => False
  | e :: r, ρ, H, Q => WE C e ρ H fun x H => wNil r (Q x H) (wSome (truthy C.scr H x) fun t => wIf t (WAnd C r ρ H Q) (Q x H))
noncomputable def WOr (C : Ctx) : List E → Env' → Hp → (V → Hp → Prop) → Prop
  | [], _, _, _ => False
  | e :: r, ρ, H, Q => WE C e ρ H fun x H => wNil r (Q x H) (wSome (truthy C.scr H x) fun t => wIf t (Q x H) (WOr C r ρ H Q))
noncomputable def WT (C : Ctx) : List E → Env' → Hp → (Bool → Hp → Prop) → Prop
  | [], _, H, Q => Q true H
  | e :: r, ρ, H, Q => WE C e ρ H fun x H => wSome (truthy C.scr H x) fun t => wIf t (WT C r ρ H Q) (Q false H)
noncomputable def WIt (C : Ctx) : It → Env' → Hp → (List V × List Nat → Hp → Prop) → Prop
  | .of e, ρ, H, Q => WE C e ρ H fun x H => wSome (itemsOf C.scr H x) fun vs => Q (vs, watch x) H
  | .range a b, ρ, H, Q => WE C a ρ H fun x H => WE C b ρ H fun y H => wRange x y fun l => Q (l, []) H
  | .enum e, ρ, H, Q => WE C e ρ H fun x H => wSome (lstOf C.scr H x) fun vs => Q (enumV 0 vs, watch x) H
  | .zip a b, ρ, H, Q => WE C a ρ H fun x H => WE C b ρ H fun y H => wSome (lstOf C.scr H x) fun vs => wSome (lstOf C.scr H y) fun us => vs.length ≤ us.length ∧ Q (zipV vs us, H.length :: (watch x ++ watch y)) (H ++ [.hid])
end
/-- a test -/
noncomputable def WTr (C : Ctx) (e : E) (ρ : Env') (H : Hp) (Q : Bool → Hp → Prop) : Prop := WE C e ρ H fun x H => wSome (truthy C.scr H x) fun t => Q t H
mutual
noncomputable def WS (C : Ctx) : S → Env' → Hp → (Out → Prop) → Prop
  | .expr e, ρ, H, K => WE C e ρ H fun _ H => K (.next ρ H)
  | .asg t e, ρ, H, K => WE C e ρ H fun v H => wSome (asg t v ρ) fun ρ' => K (.next ρ' H)
  | .setIdx a i e, ρ, H, K => WE C e ρ H fun v H => WE C a ρ H fun x H => WE C i ρ H fun k H => wSome (setIdxV x k v H) fun H' => K (.next ρ H')
  | .ret e, ρ, H, K => WE C e ρ H fun v H => K (.ret v H)
  | .ife c a b, ρ, H, K => WE C c ρ H fun x H => wSome (truthy C.scr H x) fun t => wIf t (WSs C a ρ H K) (WSs C b ρ H K)
  | .for t it body, ρ, H, K => WIt C it ρ H fun p H => forW p.2 H t (fun ρ H K => WSs C body ρ H K) p.1 ρ H K
  | .while c body, ρ, H, K => whileW (fun ρ H Q => WTr C c ρ H Q) (fun ρ H K => WSs C body ρ H K) (weight ρ) ρ H K
noncomputable def WSs (C : Ctx) : List S → Env' → Hp → (Out → Prop) → Prop
  | [], ρ, H, K => K (.next ρ H)
  | s :: r, ρ, H, K => WS C s ρ H fun o => wThen o (fun ρ H => WSs C r ρ H K) (K o)
end

/-- a call with `n` levels of room -/
noncomputable def callW (scr : List Int) (gks : List V) (fns : List Fn) : Nat → Nat → List V → Hp → (V → Hp → Prop) → Prop
  | 0, _, _, _, _ => False
  | n + 1, f, vs, H, Q => wSome fns[f]? fun d => (vs.length = d.np ∧ d.np ≠ 999) ∧ WSs ⟨scr, gks, callW scr gks fns n⟩ d.body (vs.map some ++ List.replicate d.nl none) H (retK Q)

theorem Wp_mono {α : Type} {r : R α} {Q Q' : α → Hp → Prop} (h : Wp r Q) (h' : ∀ a H, Q a H → Q' a H) : Wp r Q' := by
  cases r
  · exact h' _ _ h
  · exact h
theorem wSome_mono {α : Type} {o : Option α} {f g : α → Prop} (h : wSome o f) (m : ∀ a, f a → g a) : wSome o g := by
  cases o
  · exact h
  · exact m _ h
theorem wSome_ex {α : Type} {o : Option α} {f : α → Prop} (h : wSome o f) : ∃ a, o = some a ∧ f a := by
  cases o
  · exact h.elim
  · exact ⟨_, rfl, h⟩
theorem wIf_mono {t : Bool} {A B A' B' : Prop} (h : wIf t A B) (a : A → A') (b : B → B') : wIf t A' B' := by
  cases t
  · exact b h
  · exact a h
theorem wInt_ex {x : V} {f : Int → Prop} (h : wInt x f) : ∃ i, x = .int i ∧ f i := by
  cases x with
  | int i => exact ⟨i, rfl, h⟩
  | _ => exact h.elim
theorem wInt_mono {x : V} {f g : Int → Prop} (h : wInt x f) (m : ∀ i, f i → g i) : wInt x g := by
  obtain ⟨i, rfl, h⟩ := wInt_ex h
  exact m i h
theorem wRange_mono {x y : V} {f g : List V → Prop} (h : wRange x y f) (m : ∀ i, f i → g i) : wRange x y g :=
  wInt_mono h fun _ h => wInt_mono h fun _ h => ⟨h.1, m _ h.2⟩
theorem wL_mono {H : Hp} {x : V} {f g : List V → Prop} (h : wL H x f) (m : ∀ i, f i → g i) : wL H x g := wSome_mono h m
theorem wNil_mono {α : Type} {l : List α} {A B A' B' : Prop} (h : wNil l A B) (a : A → A') (b : B → B') : wNil l A' B' := by
  cases l
  · exact a h
  · exact b h
theorem loopK_mono {K K' : Out → Prop} {N N' : Env' → Hp → Prop} (m : ∀ o, K o → K' o) (m' : ∀ ρ H, N ρ H → N' ρ H) (o : Out) (h : loopK K N o) : loopK K' N' o := by
  cases o
  · exact m' _ _ h
  · exact m _ h
theorem WCall_mono {C : Ctx} {f : Nat} {vs : List V} {H : Hp} {Q Q' : V → Hp → Prop} (h : WCall C f vs H Q) (m : ∀ a H, Q a H → Q' a H) : WCall C f vs H Q' :=
  h.imp fun _ h => ⟨h.1, fun v H q => m v H (h.2 v H q)⟩
theorem compW_mono {ws : List Nat} {H₀ : Hp} {t : Tgt} {test : Env' → Hp → (Bool → Hp → Prop) → Prop} {elt : Env' → Hp → (V → Hp → Prop) → Prop}
    (mt : ∀ ρ H Q Q', (∀ a H, Q a H → Q' a H) → test ρ H Q → test ρ H Q') (me : ∀ ρ H Q Q', (∀ a H, Q a H → Q' a H) → elt ρ H Q → elt ρ H Q') :
    ∀ (vs : List V) (ρ : Env') (H : Hp) (acc : List V) (Q Q' : List V → Hp → Prop), (∀ a H, Q a H → Q' a H) → compW ws H₀ t test elt vs ρ H acc Q → compW ws H₀ t test elt vs ρ H acc Q'
  | [], ρ, H, acc, Q, Q', m, h => m _ _ h
  | v :: vs, ρ, H, acc, Q, Q', m, h => wSome_mono h fun ρ' h => mt _ _ _ _ (fun b H₁ h => wIf_mono h (fun h => me _ _ _ _ (fun y H₂ h => ⟨h.1, compW_mono mt me vs _ _ _ Q Q' m h.2⟩) h) fun h => ⟨h.1, compW_mono mt me vs _ _ _ Q Q' m h.2⟩) h
theorem forW_mono {ws : List Nat} {H₀ : Hp} {t : Tgt} {body : Env' → Hp → (Out → Prop) → Prop} (mb : ∀ ρ H K K', (∀ o, K o → K' o) → body ρ H K → body ρ H K') :
    ∀ (vs : List V) (ρ : Env') (H : Hp) (K K' : Out → Prop), (∀ o, K o → K' o) → forW ws H₀ t body vs ρ H K → forW ws H₀ t body vs ρ H K'
  | [], ρ, H, K, K', m, h => m _ h
  | v :: vs, ρ, H, K, K', m, h => wSome_mono h fun ρ' h => mb _ _ _ _ (loopK_mono m fun ρ₁ H₁ h => ⟨h.1, forW_mono mb vs ρ₁ H₁ K K' m h.2⟩) h
theorem whileW_mono {test : Env' → Hp → (Bool → Hp → Prop) → Prop} {body : Env' → Hp → (Out → Prop) → Prop} (mt : ∀ ρ H Q Q', (∀ a H, Q a H → Q' a H) → test ρ H Q → test ρ H Q') (mb : ∀ ρ H K K', (∀ o, K o → K' o) → body ρ H K → body ρ H K') :
    ∀ (n : Nat) (ρ : Env') (H : Hp) (K K' : Out → Prop), (∀ o, K o → K' o) → whileW test body n ρ H K → whileW test body n ρ H K'
  | 0, ρ, H, K, K', m, h => h
  | n + 1, ρ, H, K, K', m, h => mt _ _ _ _ (fun b H h => wIf_mono h (fun h => mb _ _ _ _ (loopK_mono m fun ρ₁ H₁ h => whileW_mono mt mb n ρ₁ H₁ K K' m h) h) (m _)) h

section
variable (C : Ctx)
mutual
theorem mnE : ∀ (e : E) (ρ : Env') (H : Hp) (Q Q' : V → Hp → Prop), (∀ a H, Q a H → Q' a H) → WE C e ρ H Q → WE C e ρ H Q'
  | .k v, ρ, H, Q, Q', m, h => m _ _ h
  | .var i, ρ, H, Q, Q', m, h => wSome_mono h fun _ h => m _ _ h
  | .bin op a b, ρ, H, Q, Q', m, h => mnE a ρ H _ _ (fun x H h => mnE b ρ H _ _ (fun y H h => Wp_mono h m) h) h
  | .neg a, ρ, H, Q, Q', m, h => mnE a ρ H _ _ (fun x H h => wInt_mono h fun _ h => m _ _ h) h
  | .not a, ρ, H, Q, Q', m, h => mnE a ρ H _ _ (fun x H h => wSome_mono h fun _ h => m _ _ h) h
  | .and es, ρ, H, Q, Q', m, h => mnAnd es ρ H Q Q' m h
  | .or es, ρ, H, Q, Q', m, h => mnOr es ρ H Q Q' m h
  | .cmp op a b, ρ, H, Q, Q', m, h => mnE a ρ H _ _ (fun x H h => mnE b ρ H _ _ (fun y H h => wSome_mono h fun _ h => m _ _ h) h) h
  | .isNone a, ρ, H, Q, Q', m, h => mnE a ρ H _ _ (fun x H h => m _ _ h) h
  | .notNone a, ρ, H, Q, Q', m, h => mnE a ρ H _ _ (fun x H h => m _ _ h) h
  | .tup es, ρ, H, Q, Q', m, h => mnEs es ρ H _ _ (fun vs H h => m _ _ h) h
  | .lst es, ρ, H, Q, Q', m, h => mnEs es ρ H _ _ (fun vs H h => m _ _ h) h
  | .idx a i, ρ, H, Q, Q', m, h => mnE a ρ H _ _ (fun x H h => mnE i ρ H _ _ (fun y H h => wSome_mono h fun _ h => m _ _ h) h) h
  | .slc a lo hi, ρ, H, Q, Q', m, h => mnE a ρ H _ _ (fun x H h => mnO lo ρ H _ _ (fun y H h => mnO hi ρ H _ _ (fun y H h => Wp_mono h m) h) h) h
  | .call f es, ρ, H, Q, Q', m, h => mnEs es ρ H _ _ (fun vs H h => WCall_mono h m) h
  | .bi b es, ρ, H, Q, Q', m, h => mnEs es ρ H _ _ (fun vs H h => Wp_mono h m) h
  | .meth k a es, ρ, H, Q, Q', m, h => mnE a ρ H _ _ (fun x H h => wIf_mono h (mnEs es ρ H _ _ fun vs H h => Wp_mono h m) id) h
  | .comp nl elt t it cs, ρ, H, Q, Q', m, h => mnIt it ρ H _ _ (fun p H h => ⟨h.1, compW_mono (fun ρ H Q Q' => mnT cs ρ H Q Q') (fun ρ H Q Q' => mnE elt ρ H Q Q') p.1 _ _ _ _ _ (fun vs H h => m _ _ h) h.2⟩) h
  | .listOf e, ρ, H, Q, Q', m, h => mnE e ρ H _ _ (fun x H h => wSome_mono h fun _ h => Wp_mono h m) h
  | .listR e, ρ, H, Q, Q', m, h => mnE e ρ H _ _ (fun x H h => wInt_mono h fun _ h => ⟨h.1, m _ _ h.2⟩) h
  | .dct0, ρ, H, Q, Q', m, h => m _ _ h
  | .dct1 a b, ρ, H, Q, Q', m, h => mnE a ρ H _ _ (fun x H h => mnE b ρ H _ _ (fun y H h => wInt_mono h fun _ h => m _ _ h) h) h
  | .sortK a i, ρ, H, Q, Q', m, h => mnE a ρ H _ _ (fun x H h => wL_mono h fun _ h => ⟨h.1, h.2.1, fun ws hw => m _ _ (h.2.2 ws hw)⟩) h
  | .gk j, ρ, H, Q, Q', m, h => wSome_mono h fun _ h => m _ _ h
theorem mnEs : ∀ (es : List E) (ρ : Env') (H : Hp) (Q Q' : List V → Hp → Prop), (∀ a H, Q a H → Q' a H) → WEs C es ρ H Q → WEs C es ρ H Q'
  | [], ρ, H, Q, Q', m, h => m _ _ h
  | e :: r, ρ, H, Q, Q', m, h => mnE e ρ H _ _ (fun v H h => mnEs r ρ H _ _ (fun vs H h => m _ _ h) h) h
theorem mnO : ∀ (e : Option E) (ρ : Env') (H : Hp) (Q Q' : V → Hp → Prop), (∀ a H, Q a H → Q' a H) → WO C e ρ H Q → WO C e ρ H Q'
  | none, ρ, H, Q, Q', m, h => m _ _ h
  | some e, ρ, H, Q, Q', m, h => mnE e ρ H Q Q' m h
theorem mnAnd : ∀ (es : List E) (ρ : Env') (H : Hp) (Q Q' : V → Hp → Prop), (∀ a H, Q a H → Q' a H) → WAnd C es ρ H Q → WAnd C es ρ H Q'
  | [], ρ, H, Q, Q', m, h => h.elim
  | e :: r, ρ, H, Q, Q', m, h => mnE e ρ H _ _ (fun x H h => wNil_mono h (m _ _) fun h => wSome_mono h fun t h => wIf_mono h (mnAnd r ρ H Q Q' m) (m _ _)) h
theorem mnOr : ∀ (es : List E) (ρ : Env') (H : Hp) (Q Q' : V → Hp → Prop), (∀ a H, Q a H → Q' a H) → WOr C es ρ H Q → WOr C es ρ H Q'
  | [], ρ, H, Q, Q', m, h => h.elim
  | e :: r, ρ, H, Q, Q', m, h => mnE e ρ H _ _ (fun x H h => wNil_mono h (m _ _) fun h => wSome_mono h fun t h => wIf_mono h (m _ _) (mnOr r ρ H Q Q' m)) h
theorem mnT : ∀ (es : List E) (ρ : Env') (H : Hp) (Q Q' : Bool → Hp → Prop), (∀ a H, Q a H → Q' a H) → WT C es ρ H Q → WT C es ρ H Q'
  | [], ρ, H, Q, Q', m, h => m _ _ h
  | e :: r, ρ, H, Q, Q', m, h => mnE e ρ H _ _ (fun x H h => wSome_mono h fun t h => wIf_mono h (mnT r ρ H Q Q' m) (m _ _)) h
theorem mnIt : ∀ (it : It) (ρ : Env') (H : Hp) (Q Q' : List V × List Nat → Hp → Prop), (∀ a H, Q a H → Q' a H) → WIt C it ρ H Q → WIt C it ρ H Q'
  | .of e, ρ, H, Q, Q', m, h => mnE e ρ H _ _ (fun x H h => wSome_mono h fun _ h => m _ _ h) h
  | .range a b, ρ, H, Q, Q', m, h => mnE a ρ H _ _ (fun x H h => mnE b ρ H _ _ (fun y H h => wRange_mono h fun _ h => m _ _ h) h) h
  | .enum e, ρ, H, Q, Q', m, h => mnE e ρ H _ _ (fun x H h => wSome_mono h fun _ h => m _ _ h) h
  | .zip a b, ρ, H, Q, Q', m, h => mnE a ρ H _ _ (fun x H h => mnE b ρ H _ _ (fun y H h => wSome_mono h fun _ h => wSome_mono h fun _ h => ⟨h.1, m _ _ h.2⟩) h) h
end
theorem mnTr (e : E) (ρ : Env') (H : Hp) (Q Q' : Bool → Hp → Prop) (m : ∀ a H, Q a H → Q' a H) (h : WTr C e ρ H Q) : WTr C e ρ H Q' :=
  mnE C e ρ H _ _ (fun x H h => wSome_mono h fun _ h => m _ _ h) h
mutual
theorem mnS : ∀ (s : S) (ρ : Env') (H : Hp) (K K' : Out → Prop), (∀ o, K o → K' o) → WS C s ρ H K → WS C s ρ H K'
  | .expr e, ρ, H, K, K', m, h => mnE C e ρ H _ _ (fun _ H h => m _ h) h
  | .asg t e, ρ, H, K, K', m, h => mnE C e ρ H _ _ (fun _ H h => wSome_mono h fun _ h => m _ h) h
  | .setIdx a i e, ρ, H, K, K', m, h => mnE C e ρ H _ _ (fun _ H h => mnE C a ρ H _ _ (fun _ H h => mnE C i ρ H _ _ (fun _ H h => wSome_mono h fun _ h => m _ h) h) h) h
  | .ret e, ρ, H, K, K', m, h => mnE C e ρ H _ _ (fun _ H h => m _ h) h
  | .ife c a b, ρ, H, K, K', m, h => mnE C c ρ H _ _ (fun x H h => wSome_mono h fun t h => wIf_mono h (mnSs a ρ H K K' m) (mnSs b ρ H K K' m)) h
  | .for t it body, ρ, H, K, K', m, h => mnIt C it ρ H _ _ (fun p H h => forW_mono (fun ρ H K K' => mnSs body ρ H K K') p.1 _ _ K K' m h) h
  | .while c body, ρ, H, K, K', m, h => whileW_mono (fun ρ H Q Q' => mnTr C c ρ H Q Q') (fun ρ H K K' => mnSs body ρ H K K') _ _ _ K K' m h
theorem mnSs : ∀ (ss : List S) (ρ : Env') (H : Hp) (K K' : Out → Prop), (∀ o, K o → K' o) → WSs C ss ρ H K → WSs C ss ρ H K'
  | [], ρ, H, K, K', m, h => m _ h
  | s :: r, ρ, H, K, K', m, h => mnS s ρ H _ _ (fun o ho => by
      cases o
      · exact mnSs r _ _ K K' m ho
      · exact m _ ho) h
end
end
theorem WE_mono {C : Ctx} {e : E} {ρ : Env'} {H : Hp} {Q Q' : V → Hp → Prop} (h : WE C e ρ H Q) (h' : ∀ a H, Q a H → Q' a H) : WE C e ρ H Q' := mnE C e ρ H Q Q' h' h
theorem WEs_mono {C : Ctx} {e : List E} {ρ : Env'} {H : Hp} {Q Q' : List V → Hp → Prop} (h : WEs C e ρ H Q) (h' : ∀ a H, Q a H → Q' a H) : WEs C e ρ H Q' := mnEs C e ρ H Q Q' h' h
theorem WS_mono {C : Ctx} {e : S} {ρ : Env'} {H : Hp} {Q Q' : Out → Prop} (h : WS C e ρ H Q) (h' : ∀ o, Q o → Q' o) : WS C e ρ H Q' := mnS C e ρ H Q Q' h' h
theorem WSs_mono {C : Ctx} {e : List S} {ρ : Env'} {H : Hp} {Q Q' : Out → Prop} (h : WSs C e ρ H Q) (h' : ∀ o, Q o → Q' o) : WSs C e ρ H Q' := mnSs C e ρ H Q Q' h' h
end Mine

end
section
set_option autoImplicit false
set_option linter.unusedVariables false
set_option linter.unusedSimpArgs false
namespace Mine
open PySem

/-- the text's own names: defs, constants -/
structure CK where
  fns : List Str
  gks : List Str
  /-- the def that holds the lambda, and the lambda's place -/
  lfn : Str
  ln : Nat
  lm : Nat

noncomputable def isVarK : Option NameKind → Bool
  | some .local => true
  | some .cell => true
  | some .free => true
  | _ => false
noncomputable def isGlobK : Option NameKind → Bool
  | some .globalImplicit => true
  | _ => false

noncomputable def okVar (ns : List Str) (i : Nat) (x : Str) : Bool := decide (ns.idxOf x = i) && decide (i < ns.length)
noncomputable def okGlob (sc : Scope) (x : Str) : Bool := isGlobK (sc.names.lookup x) && !(x == ("__debug__" : Str))

noncomputable def chkC (v : V) (c : Const) : Bool := match v with
  | .none => decide (c = .none)
  | .bool b => decide (c = .bool b)
  | .int i => decide (c = .int i)
  | _ => false
noncomputable def opOf : BOp → Operator
  | .add => .Add
  | .sub => .Sub
  | .mul => .Mult
  | .fdiv => .FloorDiv
  | .mod => .Mod
noncomputable def opOk (op : BOp) (o : Operator) : Bool := decide (o = opOf op)
noncomputable def copOf : COp → CmpOp
  | .eq => .Eq
  | .ne => .NotEq
  | .lt => .Lt
  | .le => .LtE
  | .gt => .Gt
  | .isIn => .In
  | .notIn => .NotIn
noncomputable def copOk (op : COp) (o : CmpOp) : Bool := decide (o = copOf op)

/-- the type that isinstance asks for -/
noncomputable def isiName : Bi → Option String
  | .isBool => some "bool"
  | .isInt => some "int"
  | .isTuple => some "tuple"
  | .isList => some "list"
  | _ => none
/-- built-ins called by their own name with plain arguments -/
noncomputable def biName : Bi → Option (Str × Nat)
  | .len => some ("len", 1)
  | .sumI => some ("sum", 1)
  | .any => some ("any", 1)
  | _ => none
noncomputable def meName : Me → Str × Nat
  | .append => ("append", 1)
  | .get2 => ("get", 2)
  | .clear => ("clear", 0)
noncomputable def isNameE (x : Expr) : Bool := decide (x.ctorIdx = 23)
noncomputable def isBaseE (x : Expr) : Bool := decide (x.ctorIdx = 23) || decide (x.ctorIdx = 21)
noncomputable def isTupE (x : Expr) : Bool := decide (x.ctorIdx = 25)

theorem got {c : Prop} [i : Decidable c] {t : c → Bool} (h : (if hc : c then t hc else false) = true) : c :=
  match i, h with
  | .isTrue hc, _ => hc
noncomputable def ifConst (x : Expr) (f : Const → Bool) : Bool := if h : x.ctorIdx = 19 then Expr.Constant.elim (motive_1 := fun _ => Bool) x h (fun c _ _ => f c) else false
theorem ifConst.spec {x : Expr} {f : Const → Bool} (h : ifConst x f = true) : ∃ c k p, x = .Constant c k p ∧ f c = true :=
  Expr.Constant.elim (motive_1 := fun x => ifConst x f = true → ∃ c k p, x = .Constant c k p ∧ f c = true) x (got h) (fun a0 a1 a2 h => ⟨a0, a1, a2, rfl, h⟩) h
noncomputable def ifName (x : Expr) (f : Str → Bool) : Bool := if h : x.ctorIdx = 23 then Expr.Name.elim (motive_1 := fun _ => Bool) x h (fun y _ => f y) else false
theorem ifName.spec {x : Expr} {f : Str → Bool} (h : ifName x f = true) : ∃ y p, x = .Name y p ∧ f y = true :=
  Expr.Name.elim (motive_1 := fun x => ifName x f = true → ∃ y p, x = .Name y p ∧ f y = true) x (got h) (fun a0 a1 h => ⟨a0, a1, rfl, h⟩) h
noncomputable def ifBin (x : Expr) (f : Expr → Operator → Expr → Bool) : Bool := if h : x.ctorIdx = 2 then Expr.BinOp.elim (motive_1 := fun _ => Bool) x h (fun l o r _ => f l o r) else false
theorem ifBin.spec {x : Expr} {f : Expr → Operator → Expr → Bool} (h : ifBin x f = true) : ∃ l o r p, x = .BinOp l o r p ∧ f l o r = true :=
  Expr.BinOp.elim (motive_1 := fun x => ifBin x f = true → ∃ l o r p, x = .BinOp l o r p ∧ f l o r = true) x (got h) (fun a0 a1 a2 a3 h => ⟨a0, a1, a2, a3, rfl, h⟩) h
noncomputable def ifUn (x : Expr) (f : UnaryOp → Expr → Bool) : Bool := if h : x.ctorIdx = 3 then Expr.UnaryOp.elim (motive_1 := fun _ => Bool) x h (fun o y _ => f o y) else false
theorem ifUn.spec {x : Expr} {f : UnaryOp → Expr → Bool} (h : ifUn x f = true) : ∃ o y p, x = .UnaryOp o y p ∧ f o y = true :=
  Expr.UnaryOp.elim (motive_1 := fun x => ifUn x f = true → ∃ o y p, x = .UnaryOp o y p ∧ f o y = true) x (got h) (fun a0 a1 a2 h => ⟨a0, a1, a2, rfl, h⟩) h
noncomputable def ifBool (x : Expr) (f : BoolOp → List Expr → Bool) : Bool := if h : x.ctorIdx = 0 then Expr.BoolOp.elim (motive_1 := fun _ => Bool) x h (fun o ys _ => f o ys) else false
theorem ifBool.spec {x : Expr} {f : BoolOp → List Expr → Bool} (h : ifBool x f = true) : ∃ o ys p, x = .BoolOp o ys p ∧ f o ys = true :=
  Expr.BoolOp.elim (motive_1 := fun x => ifBool x f = true → ∃ o ys p, x = .BoolOp o ys p ∧ f o ys = true) x (got h) (fun a0 a1 a2 h => ⟨a0, a1, a2, rfl, h⟩) h
noncomputable def ifLam (x : Expr) (f : Arguments → Expr → Scope → Pos → Bool) : Bool := if h : x.ctorIdx = 4 then Expr.Lambda.elim (motive_1 := fun _ => Bool) x h (fun a b c p => f a b c p) else false
theorem ifLam.spec {x : Expr} {f : Arguments → Expr → Scope → Pos → Bool} (h : ifLam x f = true) : ∃ a b c p, x = .Lambda a b c p ∧ f a b c p = true :=
  Expr.Lambda.elim (motive_1 := fun x => ifLam x f = true → ∃ a b c p, x = .Lambda a b c p ∧ f a b c p = true) x (got h) (fun a0 a1 a2 a3 h => ⟨a0, a1, a2, a3, rfl, h⟩) h
noncomputable def ifDict (x : Expr) (f : List (Option Expr) → List Expr → Bool) : Bool := if h : x.ctorIdx = 6 then Expr.Dict.elim (motive_1 := fun _ => Bool) x h (fun a b _ => f a b) else false
theorem ifDict.spec {x : Expr} {f : List (Option Expr) → List Expr → Bool} (h : ifDict x f = true) : ∃ a b p, x = .Dict a b p ∧ f a b = true :=
  Expr.Dict.elim (motive_1 := fun x => ifDict x f = true → ∃ a b p, x = .Dict a b p ∧ f a b = true) x (got h) (fun a0 a1 a2 h => ⟨a0, a1, a2, rfl, h⟩) h
noncomputable def ifCmp (x : Expr) (f : Expr → List CmpOp → List Expr → Bool) : Bool := if h : x.ctorIdx = 15 then Expr.Compare.elim (motive_1 := fun _ => Bool) x h (fun l os rs _ => f l os rs) else false
theorem ifCmp.spec {x : Expr} {f : Expr → List CmpOp → List Expr → Bool} (h : ifCmp x f = true) : ∃ l os rs p, x = .Compare l os rs p ∧ f l os rs = true :=
  Expr.Compare.elim (motive_1 := fun x => ifCmp x f = true → ∃ l os rs p, x = .Compare l os rs p ∧ f l os rs = true) x (got h) (fun a0 a1 a2 a3 h => ⟨a0, a1, a2, a3, rfl, h⟩) h
noncomputable def ifTuple (x : Expr) (f : List Expr → Bool) : Bool := if h : x.ctorIdx = 25 then Expr.Tuple.elim (motive_1 := fun _ => Bool) x h (fun ys _ _ => f ys) else false
theorem ifTuple.spec {x : Expr} {f : List Expr → Bool} (h : ifTuple x f = true) : ∃ ys k p, x = .Tuple ys k p ∧ f ys = true :=
  Expr.Tuple.elim (motive_1 := fun x => ifTuple x f = true → ∃ ys k p, x = .Tuple ys k p ∧ f ys = true) x (got h) (fun a0 a1 a2 h => ⟨a0, a1, a2, rfl, h⟩) h
noncomputable def ifList (x : Expr) (f : List Expr → Bool) : Bool := if h : x.ctorIdx = 24 then Expr.List.elim (motive_1 := fun _ => Bool) x h (fun ys _ => f ys) else false
theorem ifList.spec {x : Expr} {f : List Expr → Bool} (h : ifList x f = true) : ∃ ys p, x = .List ys p ∧ f ys = true :=
  Expr.List.elim (motive_1 := fun x => ifList x f = true → ∃ ys p, x = .List ys p ∧ f ys = true) x (got h) (fun a0 a1 h => ⟨a0, a1, rfl, h⟩) h
noncomputable def ifSub (x : Expr) (f : Expr → Expr → Bool) : Bool := if h : x.ctorIdx = 21 then Expr.Subscript.elim (motive_1 := fun _ => Bool) x h (fun y z _ => f y z) else false
theorem ifSub.spec {x : Expr} {f : Expr → Expr → Bool} (h : ifSub x f = true) : ∃ y z p, x = .Subscript y z p ∧ f y z = true :=
  Expr.Subscript.elim (motive_1 := fun x => ifSub x f = true → ∃ y z p, x = .Subscript y z p ∧ f y z = true) x (got h) (fun a0 a1 a2 h => ⟨a0, a1, a2, rfl, h⟩) h
noncomputable def ifSlice (x : Expr) (f : Option Expr → Option Expr → Option Expr → Bool) : Bool := if h : x.ctorIdx = 26 then Expr.Slice.elim (motive_1 := fun _ => Bool) x h (fun l u t _ => f l u t) else false
theorem ifSlice.spec {x : Expr} {f : Option Expr → Option Expr → Option Expr → Bool} (h : ifSlice x f = true) : ∃ l u t p, x = .Slice l u t p ∧ f l u t = true :=
  Expr.Slice.elim (motive_1 := fun x => ifSlice x f = true → ∃ l u t p, x = .Slice l u t p ∧ f l u t = true) x (got h) (fun a0 a1 a2 a3 h => ⟨a0, a1, a2, a3, rfl, h⟩) h
noncomputable def ifCall (x : Expr) (f : Expr → List Expr → List Keyword → Pos → Bool) : Bool := if h : x.ctorIdx = 16 then Expr.Call.elim (motive_1 := fun _ => Bool) x h (fun g ys ks p => f g ys ks p) else false
theorem ifCall.spec {x : Expr} {f : Expr → List Expr → List Keyword → Pos → Bool} (h : ifCall x f = true) : ∃ g ys ks p, x = .Call g ys ks p ∧ f g ys ks p = true :=
  Expr.Call.elim (motive_1 := fun x => ifCall x f = true → ∃ g ys ks p, x = .Call g ys ks p ∧ f g ys ks p = true) x (got h) (fun a0 a1 a2 a3 h => ⟨a0, a1, a2, a3, rfl, h⟩) h
noncomputable def ifAttr (x : Expr) (f : Expr → Str → Pos → Bool) : Bool := if h : x.ctorIdx = 20 then Expr.Attribute.elim (motive_1 := fun _ => Bool) x h (fun o y p => f o y p) else false
theorem ifAttr.spec {x : Expr} {f : Expr → Str → Pos → Bool} (h : ifAttr x f = true) : ∃ o y p, x = .Attribute o y p ∧ f o y p = true :=
  Expr.Attribute.elim (motive_1 := fun x => ifAttr x f = true → ∃ o y p, x = .Attribute o y p ∧ f o y p = true) x (got h) (fun a0 a1 a2 h => ⟨a0, a1, a2, rfl, h⟩) h
noncomputable def ifComp (x : Expr) (f : Expr → List Comprehension → Scope → Bool) : Bool := if h : x.ctorIdx = 8 then Expr.ListComp.elim (motive_1 := fun _ => Bool) x h (fun e gs c _ => f e gs c) else false
theorem ifComp.spec {x : Expr} {f : Expr → List Comprehension → Scope → Bool} (h : ifComp x f = true) : ∃ e gs c p, x = .ListComp e gs c p ∧ f e gs c = true :=
  Expr.ListComp.elim (motive_1 := fun x => ifComp x f = true → ∃ e gs c p, x = .ListComp e gs c p ∧ f e gs c = true) x (got h) (fun a0 a1 a2 a3 h => ⟨a0, a1, a2, a3, rfl, h⟩) h
noncomputable def isExprS (x : Stmt) (f : Expr → Bool) : Bool := if h : x.ctorIdx = 24 then Stmt.Expr.elim (motive_2 := fun _ => Bool) x h (fun e _ => f e) else false
theorem isExprS.spec {x : Stmt} {f : Expr → Bool} (h : isExprS x f = true) : ∃ e p, x = .Expr e p ∧ f e = true :=
  Stmt.Expr.elim (motive_2 := fun x => isExprS x f = true → ∃ e p, x = .Expr e p ∧ f e = true) x (got h) (fun a0 a1 h => ⟨a0, a1, rfl, h⟩) h
noncomputable def isAssign (x : Stmt) (f : List Expr → Expr → Bool) : Bool := if h : x.ctorIdx = 5 then Stmt.Assign.elim (motive_2 := fun _ => Bool) x h (fun ts e _ => f ts e) else false
theorem isAssign.spec {x : Stmt} {f : List Expr → Expr → Bool} (h : isAssign x f = true) : ∃ ts e p, x = .Assign ts e p ∧ f ts e = true :=
  Stmt.Assign.elim (motive_2 := fun x => isAssign x f = true → ∃ ts e p, x = .Assign ts e p ∧ f ts e = true) x (got h) (fun a0 a1 a2 h => ⟨a0, a1, a2, rfl, h⟩) h
noncomputable def isReturn (x : Stmt) (f : Option Expr → Bool) : Bool := if h : x.ctorIdx = 3 then Stmt.Return.elim (motive_2 := fun _ => Bool) x h (fun e _ => f e) else false
theorem isReturn.spec {x : Stmt} {f : Option Expr → Bool} (h : isReturn x f = true) : ∃ e p, x = .Return e p ∧ f e = true :=
  Stmt.Return.elim (motive_2 := fun x => isReturn x f = true → ∃ e p, x = .Return e p ∧ f e = true) x (got h) (fun a0 a1 h => ⟨a0, a1, rfl, h⟩) h
noncomputable def isIf (x : Stmt) (f : Expr → List Stmt → List Stmt → Bool) : Bool := if h : x.ctorIdx = 12 then Stmt.If.elim (motive_2 := fun _ => Bool) x h (fun t a b _ => f t a b) else false
theorem isIf.spec {x : Stmt} {f : Expr → List Stmt → List Stmt → Bool} (h : isIf x f = true) : ∃ t a b p, x = .If t a b p ∧ f t a b = true :=
  Stmt.If.elim (motive_2 := fun x => isIf x f = true → ∃ t a b p, x = .If t a b p ∧ f t a b = true) x (got h) (fun a0 a1 a2 a3 h => ⟨a0, a1, a2, a3, rfl, h⟩) h
noncomputable def isFor (x : Stmt) (f : Expr → Expr → List Stmt → List Stmt → Bool) : Bool := if h : x.ctorIdx = 9 then Stmt.For.elim (motive_2 := fun _ => Bool) x h (fun t i a b _ => f t i a b) else false
theorem isFor.spec {x : Stmt} {f : Expr → Expr → List Stmt → List Stmt → Bool} (h : isFor x f = true) : ∃ t i a b p, x = .For t i a b p ∧ f t i a b = true :=
  Stmt.For.elim (motive_2 := fun x => isFor x f = true → ∃ t i a b p, x = .For t i a b p ∧ f t i a b = true) x (got h) (fun a0 a1 a2 a3 a4 h => ⟨a0, a1, a2, a3, a4, rfl, h⟩) h
noncomputable def isWhile (x : Stmt) (f : Expr → List Stmt → List Stmt → Bool) : Bool := if h : x.ctorIdx = 11 then Stmt.While.elim (motive_2 := fun _ => Bool) x h (fun t a b _ => f t a b) else false
theorem isWhile.spec {x : Stmt} {f : Expr → List Stmt → List Stmt → Bool} (h : isWhile x f = true) : ∃ t a b p, x = .While t a b p ∧ f t a b = true :=
  Stmt.While.elim (motive_2 := fun x => isWhile x f = true → ∃ t a b p, x = .While t a b p ∧ f t a b = true) x (got h) (fun a0 a1 a2 a3 h => ⟨a0, a1, a2, a3, rfl, h⟩) h
noncomputable def if1 {α : Type} (l : List α) (f : α → Bool) : Bool := match l with
  | [a] => f a
  | _ => false
noncomputable def if2 {α : Type} (l : List α) (f : α → α → Bool) : Bool := match l with
  | [a, b] => f a b
  | _ => false
noncomputable def ifCons {α : Type} (l : List α) (f : α → List α → Bool) : Bool := match l with
  | a :: r => f a r
  | _ => false
noncomputable def ifSome {α : Type} (l : Option α) (f : α → Bool) : Bool := match l with
  | some a => f a
  | _ => false
theorem if1.spec {α : Type} {l : List α} {f : α → Bool} (h : if1 l f = true) : ∃ a, l = [a] ∧ f a = true := by
  rcases l with _ | ⟨a, _ | ⟨b, l⟩⟩
  · exact Bool.noConfusion h
  · exact ⟨a, rfl, h⟩
  · exact Bool.noConfusion h
theorem if2.spec {α : Type} {l : List α} {f : α → α → Bool} (h : if2 l f = true) : ∃ a b, l = [a, b] ∧ f a b = true := by
  rcases l with _ | ⟨a, _ | ⟨b, _ | ⟨c, l⟩⟩⟩
  · exact Bool.noConfusion h
  · exact Bool.noConfusion h
  · exact ⟨a, b, rfl, h⟩
  · exact Bool.noConfusion h
theorem ifCons.spec {α : Type} {l : List α} {f : α → List α → Bool} (h : ifCons l f = true) : ∃ a r, l = a :: r ∧ f a r = true := by
  rcases l with _ | ⟨a, l⟩
  · exact Bool.noConfusion h
  · exact ⟨a, l, rfl, h⟩
theorem ifSome.spec {α : Type} {l : Option α} {f : α → Bool} (h : ifSome l f = true) : ∃ a, l = some a ∧ f a = true := by
  cases l
  · exact Bool.noConfusion h
  · exact ⟨_, rfl, h⟩
noncomputable def isZeroE (a : E) : Bool := if h : a.ctorIdx = 0 then E.k.elim (motive_1 := fun _ => Bool) a h (fun v => if h : v.ctorIdx = 2 then V.int.elim (motive_1 := fun _ => Bool) v h (fun i => decide (i = 0)) else false) else false
theorem isZeroE.spec {a : E} (h : isZeroE a = true) : a = .k (.int 0) :=
  E.k.elim (motive_1 := fun a => isZeroE a = true → a = .k (.int 0)) a (got h) (fun v h => V.int.elim (motive_1 := fun v => isZeroE (.k v) = true → E.k v = .k (.int 0)) v (got (c := v.ctorIdx = 2) h) (fun i h => of_decide_eq_true (p := i = 0) h ▸ rfl) h) h
noncomputable def ifGen (g : Comprehension) (f : Expr → Expr → List Expr → Bool) : Bool := decide (g.is_async = 0) && f g.target g.iter g.ifs
theorem ifGen.spec {g : Comprehension} {f : Expr → Expr → List Expr → Bool} (h : ifGen g f = true) : ∃ tg it ifs, g = ⟨tg, it, ifs, 0⟩ ∧ f tg it ifs = true := by
  obtain ⟨tg, it, ifs, a⟩ := g
  have h := Bool.and_eq_true_iff.mp h
  obtain rfl : a = 0 := of_decide_eq_true h.1
  exact ⟨tg, it, ifs, rfl, h.2⟩
noncomputable def ifKw (g : Keyword) (f : Str → Expr → Bool) : Bool := match g with
  | ⟨some y, v, _⟩ => f y v
  | _ => false
theorem ifKw.spec {g : Keyword} {f : Str → Expr → Bool} (h : ifKw g f = true) : ∃ y v p, g = ⟨some y, v, p⟩ ∧ f y v = true := by
  obtain ⟨n, v, p⟩ := g
  cases n
  · exact Bool.noConfusion h
  · exact ⟨_, _, _, rfl, h⟩

noncomputable def isOwnK : Option NameKind → Bool
  | some .local => true
  | some .cell => true
  | _ => false
mutual
noncomputable def chkT (sc : Scope) (ns : List Str) : Tgt → Expr → Bool
  | .var i, e => ifName e fun x => okVar ns i x && isOwnK (sc.names.lookup x)
  | .tup ts, e => ifTuple e fun es => chkTs sc ns ts es
noncomputable def chkTs (sc : Scope) (ns : List Str) : List Tgt → List Expr → Bool
  | [], es => es.isEmpty
  | t :: ts, es => ifCons es fun e es => chkT sc ns t e && chkTs sc ns ts es
end

mutual
noncomputable def tNames : Tgt → Expr → List Str
  | .var _, .Name x _ => [x]
  | .tup ts, .Tuple es _ _ => tNamess ts es
  | _, _ => []
noncomputable def tNamess : List Tgt → List Expr → List Str
  | t :: ts, e :: es => tNames t e ++ tNamess ts es
  | _, _ => []
end

noncomputable def plainParams (a : Arguments) (ps : List Str) : Bool :=
  a.posonlyargs.isEmpty && a.vararg.isNone && a.kwonlyargs.isEmpty && a.kw_defaults.isEmpty && a.kwarg.isNone && a.defaults.isEmpty && decide (a.args.map (·.arg) = ps)

/-- a comprehension's own scope, within the scope around it -/
noncomputable def scIn (out : Scope) (ns : List Str) (loc : List Str) (sc : Scope) : Bool :=
  (match sc.kind with | .function => true | _ => false) && !sc.isGenerator && !sc.isCoroutine && sc.more.isEmpty &&
  decide ((sc.names.map (·.1)).Nodup) &&
  sc.names.all (fun p => match p.2 with
    | .local => p.1 == (".0" : Str) || loc.contains p.1
    | .cell => false
    | .free => ns.contains p.1 && !loc.contains p.1 && (match out.names.lookup p.1 with | some .cell => true | some .free => true | _ => false)
    | .globalImplicit => true
    | .globalExplicit => false) &&
  loc.all (fun x => match sc.names.lookup x with | some .local => true | _ => false) && !ns.contains (".0" : Str) && (sc.names.lookup mk).isNone

noncomputable def tgOk (it : It) (tg : Expr) : Bool := match it with
  | .enum _ => isTupE tg
  | .zip _ _ => isTupE tg
  | _ => isTupE tg || isNameE tg

noncomputable def chkVar (sc : Scope) (ns : List Str) (i : Nat) (x : Str) : Bool := okVar ns i x && isVarK (sc.names.lookup x) && !(x == ("__debug__" : Str)) && !(x == ("__classdict__" : Str))
/-- lambda k: x[k][0] -/
noncomputable def chkKey (cs : Scope) (ns : List Str) (i : Nat) (b : Expr) : Bool := ifSub b fun y z => ifConst z (chkC (.int 0)) && ifSub y fun u v => ifName u (chkVar cs ns (i + 1)) && ifName v (chkVar cs ns 0)
noncomputable def chkLam (K : CK) (sc : Scope) (ns : List Str) (i : Nat) (v : Expr) : Bool := ifLam v fun ps b cs p => decide (p.line = K.ln) && decide (p.col = K.lm) && if1 ps.args fun q => plainParams ps [q.arg] && scIn sc ns [q.arg] cs && chkKey cs (q.arg :: ns) i b
mutual
noncomputable def chkE (K : CK) (sc : Scope) (ns : List Str) : E → Expr → Bool
  | .k v, x => ifConst x fun c => chkC v c
  | .var i, x => ifName x (chkVar sc ns i)
  | .bin op a b, x => ifBin x fun l o r => opOk op o && chkE K sc ns a l && chkE K sc ns b r
  | .neg a, x => ifUn x fun o y => decide (o = .USub) && chkE K sc ns a y
  | .not a, x => ifUn x fun o y => decide (o = .Not) && chkE K sc ns a y
  | .and es, x => ifBool x fun o xs => decide (o = .And) && chkEs K sc ns es xs
  | .or es, x => ifBool x fun o xs => decide (o = .Or) && chkEs K sc ns es xs
  | .cmp op a b, x => ifCmp x fun l os rs => if1 os fun o => if1 rs fun r => copOk op o && chkE K sc ns a l && chkE K sc ns b r
  | .isNone a, x => ifCmp x fun l os rs => if1 os fun o => decide (o = .Is) && if1 rs fun r => ifConst r fun c => decide (c = .none) && chkE K sc ns a l
  | .notNone a, x => ifCmp x fun l os rs => if1 os fun o => decide (o = .IsNot) && if1 rs fun r => ifConst r fun c => decide (c = .none) && chkE K sc ns a l
  | .tup es, x => ifTuple x fun xs => chkEs K sc ns es xs && decide (xs.length < 1000)
  | .lst es, x => ifList x fun xs => chkEs K sc ns es xs && decide (xs.length < 1000)
  | .idx a i, x => ifSub x fun v s => chkE K sc ns a v && chkE K sc ns i s
  | .slc a lo hi, x => ifSub x fun v s => ifSlice s fun l u t => t.isNone && chkE K sc ns a v && chkO K sc ns lo l && chkO K sc ns hi u
  | .call f es, x => ifCall x fun g xs kws _ => kws.isEmpty && ifName g fun x => decide (K.fns[f]? = some x) && okGlob sc x && decide (xs.length < 20) && chkEs K sc ns es xs
  | .bi b es, x => ifCall x fun g xs kws _ => kws.isEmpty && ifName g fun x => okGlob sc x && (match biName b with
      | some q => x == q.1 && decide (xs.length = q.2) && chkEs K sc ns es xs
      | none => match isiName b with
        | some t => x == ("isinstance" : Str) && if2 xs fun e nm => ifName nm fun y => y == Str.ofString t && okGlob sc y && chkEs K sc ns es [e]
        | none => false)
  | .meth m a es, x => ifCall x fun g xs kws pos => kws.isEmpty && ifAttr g fun o y apos => y == (meName m).1 && isBaseE o && (apos.endLine == pos.line) && decide (xs.length = (meName m).2) && chkE K sc ns a o && chkEs K sc ns es xs
  | .comp nl elt t it cs, x => ifComp x fun e gs cs' => if1 gs fun g => ifGen g fun tg iter ifs =>
    decide ((tNames t tg).length = nl) && scIn sc ns (tNames t tg) cs' && chkIt K sc ns it iter && tgOk it tg && chkT cs' (tNames t tg ++ ns) t tg && chkE K cs' (tNames t tg ++ ns) elt e && chkEs K cs' (tNames t tg ++ ns) cs ifs
  | .listOf a, x => ifCall x fun g xs kws _ => kws.isEmpty && ifName g fun x => x == ("list" : Str) && okGlob sc x && if1 xs fun e => chkE K sc ns a e
  | .listR a, x => ifCall x fun g xs kws _ => kws.isEmpty && ifName g fun x => x == ("list" : Str) && okGlob sc x && if1 xs fun e => ifCall e fun g xs kws _ => kws.isEmpty && ifName g fun x => x == ("range" : Str) && okGlob sc x && if1 xs fun e => chkE K sc ns a e
  | .dct0, x => ifDict x fun ks vs => ks.isEmpty && vs.isEmpty
  | .dct1 a b, x => ifDict x fun ks vs => if1 ks fun k => ifSome k fun k => if1 vs fun v => chkE K sc ns a k && chkE K sc ns b v
  | .sortK a i, x => ifCall x fun g xs kws _ => ifName g fun x => x == ("sorted" : Str) && okGlob sc x && (sc.names.lookup mk).isSome && if1 xs fun e => if1 kws fun kw => ifKw kw fun y v => y == ("key" : Str) && chkE K sc ns a e && chkLam K sc ns i v
  | .gk j, x => ifName x fun x => decide (K.gks[j]? = some x) && okGlob sc x
noncomputable def chkEs (K : CK) (sc : Scope) (ns : List Str) : List E → List Expr → Bool
  | [], xs => xs.isEmpty
  | e :: es, xs => ifCons xs fun x xs => chkE K sc ns e x && chkEs K sc ns es xs
noncomputable def chkO (K : CK) (sc : Scope) (ns : List Str) : Option E → Option Expr → Bool
  | none, x => x.isNone
  | some e, x => ifSome x fun x => chkE K sc ns e x
noncomputable def chkIt (K : CK) (sc : Scope) (ns : List Str) : It → Expr → Bool
  | .range a b, x => ifCall x fun g xs kws _ => kws.isEmpty && ifName g fun x => x == ("range" : Str) && okGlob sc x && (if1 xs (fun e => isZeroE a && chkE K sc ns b e) || if2 xs fun e1 e2 => chkE K sc ns a e1 && chkE K sc ns b e2)
  | .enum a, x => ifCall x fun g xs kws _ => kws.isEmpty && ifName g fun x => x == ("enumerate" : Str) && okGlob sc x && if1 xs fun e => chkE K sc ns a e
  | .zip a b, x => ifCall x fun g xs kws _ => kws.isEmpty && ifName g fun x => x == ("zip" : Str) && okGlob sc x && if2 xs fun e1 e2 => chkE K sc ns a e1 && chkE K sc ns b e2
  | .of e, x => chkE K sc ns e x
end

noncomputable def noPair (a b : Expr) : Bool := !(isTupE a && isTupE b)

noncomputable def notComp (x : Expr) : Bool := decide (x.ctorIdx ≠ 8 ∧ x.ctorIdx ≠ 9 ∧ x.ctorIdx ≠ 10)
noncomputable def isCompE (e : E) : Bool := decide (e.ctorIdx = 17)
mutual
noncomputable def chkS (K : CK) (sc : Scope) (ns : List Str) : S → Stmt → Bool
  | .expr e, st => isExprS st fun x => chkE K sc ns e x && notComp x
  | .asg t e, st => isAssign st fun ts x => if1 ts fun tg => chkT sc ns t tg && chkE K sc ns e x && (isNameE tg && isCompE e || notComp x) && noPair tg x
  | .setIdx a i e, st => isAssign st fun ts x => if1 ts fun tg => ifSub tg fun o j => chkE K sc ns a o && chkE K sc ns i j && chkE K sc ns e x && notComp x
  | .ret e, st => isReturn st fun x => ifSome x fun x => chkE K sc ns e x
  | .ife c a b, st => isIf st fun t x y => chkE K sc ns c t && chkSs K sc ns a x && chkSs K sc ns b y
  | .for t it body, st => isFor st fun tg iter b o => o.isEmpty && chkT sc ns t tg && tgOk it tg && chkIt K sc ns it iter && chkSs K sc ns body b
  | .while c body, st => isWhile st fun t b o => o.isEmpty && chkE K sc ns c t && chkSs K sc ns body b
noncomputable def chkSs (K : CK) (sc : Scope) (ns : List Str) : List S → List Stmt → Bool
  | [], ss => ss.isEmpty
  | s :: r, ss => ifCons ss fun x t => chkS K sc ns s x && chkSs K sc ns r t
end

/-- a def of the text, as far as a call reads it -/
structure Def where
  name : Str
  params : Arguments
  body : List Stmt
  scope : Scope

noncomputable def chkFn (K : CK) (d : Def) (ns : List Str) (f : Fn) : Bool :=
  decide (f.name = d.name) && plainParams d.params (ns.take f.np) && decide (ns.length = f.np + f.nl) && decide ns.Nodup &&
  (match d.scope.kind with | .function => true | _ => false) && !d.scope.isGenerator && !d.scope.isCoroutine && decide ((d.scope.names.map (·.1)).Nodup) &&
  d.scope.names.all (fun p => match p.2 with | .local => ns.contains p.1 | .cell => ns.contains p.1 | .globalImplicit => true | _ => false) &&
  ns.all (fun x => match d.scope.names.lookup x with | some .local => true | some .cell => true | _ => false) &&
  chkSs K d.scope ns f.body d.body && (!(d.scope.names.lookup mk).isSome || d.name == K.lfn)
end Mine
namespace Mine
open PySem
noncomputable def chkAll (K : CK) (ds : List Def) (nss : List (List Str)) (fs : List Fn) : Bool :=
  (List.range fs.length).all fun i => ifSome fs[i]? fun f => ifSome ds[i]? fun d => ifSome nss[i]? fun n => decide (f.np = 999) || chkFn K d n f
theorem chkAll_get {K : CK} {ds : List Def} {nss : List (List Str)} {fs : List Fn} {i : Nat} {d : Def} {f : Fn} (h : chkAll K ds nss fs = true) (h1 : ds[i]? = some d) (h2 : fs[i]? = some f) : ∃ ns, f.np ≠ 999 → chkFn K d ns f = true := by
  have h := List.all_eq_true.mp h i (List.mem_range.mpr (List.getElem?_eq_some_iff.mp h2).1)
  rw [h2, h1] at h
  obtain ⟨n, _, h⟩ := ifSome.spec (f := fun n => decide (f.np = 999) || chkFn K d n f) h
  refine ⟨n, fun hne => ?_⟩
  rw [decide_eq_false hne] at h
  exact h
end Mine

end
section
set_option autoImplicit false
set_option linter.unusedVariables false
set_option linter.unusedSimpArgs false
namespace Mine
open PySem PySem.Calls

noncomputable def biTable : List (Str × Value) := [("len", .builtin "len"), ("isinstance", .builtin "isinstance"), ("int", .type "int"), ("bool", .type "bool"), ("tuple", .type "tuple"), ("list", .type "list"),
  ("range", .type "range"), ("enumerate", .type "enumerate"), ("sum", .builtin "sum"), ("sorted", .builtin "sorted"), ("zip", .type "zip")
  , ("any", .builtin "any")
  ]
theorem bi_mem (i : Nat) (h : i < biTable.length) : biTable[i]'h ∈ biTable := List.getElem_mem h

structure Gl (W : Wo) (prog : Program) (w : World) (K : CK) (defs : List Def) (gkv : List V) (scr : List Int) (mg mb : Str → Option Value) : Prop where
  g : W.h₀.Ns mainGlobals mg
  b : W.h₀.Ns builtinsNs mb
  bi : ∀ p ∈ biTable, mg p.1 = none ∧ mb p.1 = some p.2
  fn : ∀ (f : Nat) (x : Str), K.fns[f]? = some x → ∃ a o d pm cd doc, defs[f]? = some d ∧ d.name = x ∧ mg x = some (.ref a) ∧ W.h₀.get? a = some o ∧
    o.data = .func (docDef d.name d.params d.body d.scope pm cd doc) ∧ W.h₀.CodeRec cd d.name ∧ (x = K.lfn → cd = .ref W.lc)
  gk : ∀ (j : Nat) (x : Str), K.gks[j]? = some x → ∃ v y, gkv[j]? = some v ∧ mg x = some y ∧ Rep W.scr [] W.h₀ v y
  nolimit : W.h₀.NoLimit
  seer : W.h₀.NoSeer
  tree : prog.given.tree = none
  script : ∃ xs : List Value, W.h₀.IsList W.scr xs.toArray ∧ RepL W.scr [] W.h₀ (scr.map .int) xs
  short : scr.length ≤ 1000
  low : ∃ o, W.h₀.get? cStatics = some o
  same : W.prog = prog ∧ W.w = w
  lam : W.ln = K.ln ∧ W.lm = K.lm ∧ (K.lfn ++ ".<locals>.") ++ "<lambda>" = W.lq
  tab : ∀ (h : Heap) (ps : Array Value), (∀ a o, W.h₀.get? a = some o → h.get? a = some o) → h.get? W.lP = some (tabObj ps) → TriplesOk ps.toList → h.IsCode W.lc W.lP ps ∧ h.TableAt W.lc W.lP ps
  bm : ∃ b o, mg "__builtins__" = some (.ref b) ∧ b ≠ builtinsNs ∧ b ≠ W.lP ∧ W.h₀.get? b = some o ∧ o.cls = .type "module" ∧ o.dict = some builtinsNs ∧ o.data = .plain
  gP : mainGlobals ≠ W.lP

structure Room (A : Around) (n : Nat) : Prop where
  depth : A.depth + n + 110 ≤ recursionLimit
  units : A.units + 5 * n + 200 ≤ cLine
  handled : A.handled = none
  frames : ∃ fe outer, A.frames = some (fe :: outer) ∧ fe.scope.isGenerator = false ∧ fe.scope.isCoroutine = false ∧ fe.builtins = builtinsNs ∧ fe.globals = mainGlobals

noncomputable def PV (W : Wo) (φ : List Addr) (s : Shared) (Q : Value → Shared → Prop) (v : V) (H : Hp) : Prop :=
  ∀ φ' h' tk x, SR W φ' H h' → Stp [] φ s.heap φ' h' → Rep W.scr φ' h' v x → Q x { s with heap := h', toks := tk }
noncomputable def PL (W : Wo) (φ : List Addr) (s : Shared) (Q : List Value → Shared → Prop) (vs : List V) (H : Hp) : Prop :=
  ∀ φ' h' tk xs, SR W φ' H h' → Stp [] φ s.heap φ' h' → RepL W.scr φ' h' vs xs → Q xs { s with heap := h', toks := tk }
noncomputable def PB (W : Wo) (φ : List Addr) (s : Shared) (Q : Bool → Shared → Prop) (b : Bool) (H : Hp) : Prop :=
  ∀ φ' h' tk, SR W φ' H h' → Stp [] φ s.heap φ' h' → Q b { s with heap := h', toks := tk }
noncomputable def PostV (W : Wo) (φ : List Addr) (s : Shared) (Q : Value → Shared → Prop) (r : R V) : Prop := Wp r (PV W φ s Q)

section
variable {W : Wo} {φ φ₁ : List Addr} {s : Shared} {h₁ : Heap} {tk : Nat}
theorem PV.step {Q : Value → Shared → Prop} {v : V} {H : Hp} (p : PV W φ s Q v H) (S : Stp [] φ s.heap φ₁ h₁) : PV W φ₁ { s with heap := h₁, toks := tk } Q v H :=
  fun φ' h' tk x r1 r2 r3 => p φ' h' tk x r1 (S.trans r2) r3
theorem PB.step {Q : Bool → Shared → Prop} {v : Bool} {H : Hp} (p : PB W φ s Q v H) (S : Stp [] φ s.heap φ₁ h₁) : PB W φ₁ { s with heap := h₁, toks := tk } Q v H :=
  fun φ' h' tk r1 r2 => p φ' h' tk r1 (S.trans r2)
theorem PostV.step {Q : Value → Shared → Prop} {r : R V} (p : PostV W φ s Q r) (S : Stp [] φ s.heap φ₁ h₁) : PostV W φ₁ { s with heap := h₁, toks := tk } Q r :=
  Wp_mono p fun _ _ p => p.step S
/-- the value is there, nothing has happened but tokens and things apart -/
theorem PV.now {Q : Value → Shared → Prop} {v : V} {H : Hp} {x : Value} (p : PV W φ s Q v H) (R : SR W φ H s.heap) (r : Rep W.scr φ s.heap v x) (tk : Nat) : Q x { s with toks := tk } :=
  p φ s.heap tk x R .refl r
theorem PostV.now {Q : Value → Shared → Prop} {v : V} {H : Hp} {x : Value} (p : PostV W φ s Q (.ok v H)) (R : SR W φ H s.heap) (r : Rep W.scr φ s.heap v x) (tk : Nat) : Q x { s with toks := tk } :=
  p φ s.heap tk x R .refl r
theorem PB.now {Q : Bool → Shared → Prop} {b : Bool} {H : Hp} (p : PB W φ s Q b H) (R : SR W φ H s.heap) (tk : Nat) : Q b { s with toks := tk } :=
  p φ s.heap tk R .refl
theorem PV.later {Q : Value → Shared → Prop} {v : V} {H : Hp} {x : Value} (p : PV W φ s Q v H) (R : SR W φ H s.heap) (hk : ∀ a o, s.heap.get? a = some o → h₁.get? a = some o) (r : Rep W.scr φ s.heap v x) (tk : Nat) : Q x { s with heap := h₁, toks := tk } :=
  p φ h₁ tk x (R.ext hk) (.ext hk) (r.mono (own := []) (.ext hk))
end

noncomputable def kEq (a b : Option NameKind) : Prop := a = b ∨ (isCellK a ∧ isCellK b)
noncomputable def Kinds (sc : Scope) (env : Env) : Prop := ∀ x, kEq (sc.names.lookup x) (env.kindOf x)

theorem Kinds.glob {sc : Scope} {env : Env} (k : Kinds sc env) {x : Str} (h : okGlob sc x = true) : env.kindOf x = some .globalImplicit ∧ (x == ("__debug__" : Str)) = false := by
  unfold okGlob at h
  simp only [Bool.and_eq_true, Bool.not_eq_true'] at h
  refine ⟨?_, h.2⟩
  have h1 := h.1
  rcases k x with e | ⟨e, _⟩
  · rw [← e]
    revert h1
    cases sc.names.lookup x with
    | none => simp [isGlobK]
    | some k => cases k <;> simp [isGlobK]
  · rcases e with e | e <;> rw [e] at h1 <;> simp [isGlobK] at h1

/-- what is fixed for a whole law: `n` levels of call are left -/
structure Fix where
  prog : Program
  w : World
  W : Wo
  K : CK
  defs : List Def
  scr : List Int
  mg : Str → Option Value
  mb : Str → Option Value

abbrev Fix.M (X : Fix) : Model := model X.prog X.w
noncomputable def Fix.Gl (X : Fix) (C : Ctx) : Prop := Mine.Gl X.W X.prog X.w X.K X.defs C.gks X.scr X.mg X.mb ∧ C.scr = X.scr

/-- calls of the text's own defs come back as the interpreter says -/
noncomputable def Fix.CallOk (X : Fix) (C : Ctx) (n : Nat) : Prop :=
  ∀ (A : Around) (f : Nat) (x : Str) (a : Addr) (vs : List V) (H : Hp) (φ : List Addr) (s : Shared) (xs : List Value) (Q : Value → Shared → Prop) (Ex : Value → Shared → Prop),
    Room A n → X.K.fns[f]? = some x → X.mg x = some (.ref a) → SR X.W φ H s.heap → RepL X.W.scr φ s.heap vs xs → WCall C f vs H (PV X.W φ s Q) → wpAny X.M A (call (.ref a) xs) Q Ex s

noncomputable def EvS (X : Fix) (C : Ctx) (n : Nat) (sc : Scope) (ns : List Str) (c : E) (e : Expr) : Prop :=
  ∀ (A : Around) (env : Env) (ρ : Env') (φ : List Addr) (H : Hp) (s : Shared) (Q : Value → Shared → Prop) (Ex : Value → Shared → Prop),
    Room A n → Kinds sc env → FR X.W env ns ρ φ s.heap → SR X.W φ H s.heap → WE C c ρ H (PV X.W φ s Q) → wpAny X.M A (eval e env) Q Ex s
noncomputable def TrS (X : Fix) (C : Ctx) (n : Nat) (sc : Scope) (ns : List Str) (c : E) (e : Expr) : Prop :=
  ∀ (A : Around) (env : Env) (ρ : Env') (φ : List Addr) (H : Hp) (s : Shared) (Q : Bool → Shared → Prop) (Ex : Value → Shared → Prop),
    Room A n → Kinds sc env → FR X.W env ns ρ φ s.heap → SR X.W φ H s.heap → WTr C c ρ H (PB X.W φ s Q) → wpAny X.M A (isTrue e env (eval e env)) Q Ex s
end Mine

end
section
set_option autoImplicit false
set_option linter.unusedVariables false
set_option linter.unusedSimpArgs false
namespace Mine
open PySem PySem.Calls PyProof.Rows

section
variable {prog : Program} {w : World} {A : Around} {E : Value → Shared → Prop} {s : Shared} {W : Wo} {φ : List Addr} {H : Hp}

theorem tupAt {scr : Addr} {h : Heap} {vs : List V} {x : Value} (r : Rep scr φ h (.tup vs) x) : ∃ a xs n, x = .ref a ∧ h.get? a = some (tupObj xs n) ∧ RepL scr φ h vs xs ∧ vs.length ≤ 16000000 := by
  cases r with
  | tup e q z hn => exact ⟨_, _, _, rfl, e, q, z⟩
theorem tupAt' {scr : Addr} {h : Heap} {vs : List V} {x : Value} (r : Rep scr φ h (.tup vs) x) : ∃ a xs n, x = .ref a ∧ h.get? a = some (tupObj xs n) ∧ RepL scr φ h vs xs ∧ vs.length ≤ 16000000 ∧ a ∉ φ := by
  cases r with
  | tup e q z hn => exact ⟨_, _, _, rfl, e, q, z, hn⟩
theorem isTup_of {h : Heap} {a : Addr} {xs : List Value} {n : Nat} (e : h.get? a = some (tupObj xs n)) : IsTup h a xs.toArray := ⟨_, e, rfl, n, rfl⟩
theorem isList_of {h : Heap} {a : Addr} {xs : List Value} {n : Nat} (e : h.get? a = some (lstObj xs n)) : h.IsList a xs.toArray := ⟨_, e, rfl, n, rfl⟩
theorem refAt {scr : Addr} {h : Heap} {l : Nat} {x : Value} (r : Rep scr φ h (.ref l) x) : ∃ a, x = .ref a ∧ φ[l]? = some a := by
  cases r with
  | ref e => exact ⟨_, rfl, e⟩
theorem onL_post {Q : Value → Shared → Prop} {v : V} {f : List V → R V} (p : PostV W φ s Q (onL H v f)) : ∃ l vs, v = .ref l ∧ H[l]? = some (.list vs) ∧ PostV W φ s Q (f vs) := by
  cases v <;> first | exact p.elim | skip
  rename_i l
  change PostV W φ s Q (match H[l]? with | some (.list vs) => f vs | _ => .stuck) at p
  cases hl : H[l]? with
  | none => rw [hl] at p; exact p.elim
  | some c => cases c <;> rw [hl] at p <;> first | exact p.elim | exact ⟨l, _, rfl, hl, p⟩
theorem onO_post {Q : Value → Shared → Prop} {α : Type} {o : Option α} {f : α → R V} (p : PostV W φ s Q (onO o f)) : ∃ a, o = some a ∧ PostV W φ s Q (f a) := by
  cases o
  · exact p.elim
  · exact ⟨_, rfl, p⟩
theorem onInt_post {Q : Value → Shared → Prop} {v : V} {f : Int → R V} (p : PostV W φ s Q (onInt v f)) : ∃ a, v = .int a ∧ PostV W φ s Q (f a) := by
  cases v <;> first | exact p.elim | exact ⟨_, rfl, p⟩
theorem bi1_post {Q : Value → Shared → Prop} {vs : List V} {f : V → R V} (p : PostV W φ s Q (bi1 vs f)) : ∃ a, vs = [a] ∧ PostV W φ s Q (f a) := by
  rcases vs with _ | ⟨a, _ | ⟨b, l⟩⟩
  · exact p.elim
  · exact ⟨a, rfl, p⟩
  · exact p.elim
theorem bi2_post {Q : Value → Shared → Prop} {vs : List V} {f : V → V → R V} (p : PostV W φ s Q (bi2 vs f)) : ∃ a b, vs = [a, b] ∧ PostV W φ s Q (f a b) := by
  rcases vs with _ | ⟨a, _ | ⟨b, _ | ⟨c, l⟩⟩⟩
  · exact p.elim
  · exact p.elim
  · exact ⟨a, b, rfl, p⟩
  · exact p.elim
theorem if_post {Q : Value → Shared → Prop} {t : Bool} {r : R V} (p : PostV W φ s Q (if t = true then r else .stuck)) : t = true ∧ PostV W φ s Q r := by
  cases t
  · exact p.elim
  · exact ⟨rfl, p⟩
theorem listAt {l : Nat} {x : Value} {vs : List V} (R : SR W φ H s.heap) (r : Rep W.scr φ s.heap (.ref l) x) (e : H[l]? = some (.list vs)) :
    ∃ a xs n, x = .ref a ∧ φ[l]? = some a ∧ s.heap.get? a = some (lstObj xs n) ∧ RepL W.scr φ s.heap vs xs ∧ vs.length ≤ 16000000 := by
  obtain ⟨a, rfl, ha⟩ := refAt r
  obtain ⟨b, hb, xs, n, h1, h2, h3⟩ := R.cell l _ e
  rw [ha] at hb; cases hb
  exact ⟨a, xs, n, rfl, ha, h1, h2, h3⟩
theorem small_of_len {xs : List Value} {vs : List V} {scr : Addr} {h : Heap} (r : RepL scr φ h vs xs) (hz : vs.length ≤ 16000000) : (xs.toArray.size : Int) < 2 ^ 63 := by
  rw [List.size_toArray, ← r.length]; (first | lia | omega)
end

section
variable {X : Fix} {C : Ctx} {A : Around} {n : Nat} {Ex : Value → Shared → Prop} {s : Shared} {φ : List Addr} {H : Hp}

theorem Gl.keep (G : X.Gl C) (R : SR X.W φ H s.heap) : ∃ xs : List Value, s.heap.IsList X.W.scr xs.toArray ∧ RepL X.W.scr φ s.heap (C.scr.map .int) xs ∧ C.scr.length ≤ 1000 := by
  obtain ⟨xs, ⟨o, e, e2⟩, r⟩ := G.1.script
  refine ⟨xs, ⟨o, R.keep _ _ e, e2⟩, ?_, by rw [G.2]; exact G.1.short⟩
  rw [G.2]
  have S : Stp [] [] X.W.h₀ φ s.heap := ⟨⟨φ, by simp⟩, fun a o e _ _ => R.keep a o e, fun a ha _ => R.fresh a ha, fun a _ _ _ e => R.keep a _ e, fun a _ _ e => R.keep a _ e, fun a o e => ⟨o, R.keep a o e⟩⟩
  exact r.mono S

/-- a table's own object -/
theorem dictAt {l : Nat} {x : Value} {es : List (Int × V)} (G : X.Gl C) (R : SR X.W φ H s.heap) (r : Rep X.W.scr φ s.heap (.ref l) x) (e : H[l]? = some (.dict es)) :
    ∃ a kvs, x = .ref a ∧ φ[l]? = some a ∧ (a == sysModules) = false ∧ s.heap.DictOf (intKind X.prog X.w) a kvs ∧ KvRep X.W.scr φ s.heap es kvs ∧ es.length ≤ 16000000 := by
  obtain ⟨a, rfl, ha⟩ := refAt r
  obtain ⟨b, hb, kvs, h1, h2, h3, h4⟩ := R.cell l _ e
  rw [ha] at hb; cases hb
  rw [G.1.same.1, G.1.same.2] at h2
  exact ⟨a, kvs, rfl, ha, h1, h2, h3, h4⟩
theorem dictOf_ref {v : V} {es : List (Int × V)} (h : dictOf H v = some es) : ∃ l, v = .ref l ∧ H[l]? = some (.dict es) := by
  cases v with
  | ref l =>
    change (match H[l]? with | some (.dict es) => some es | _ => none) = _ at h
    split at h
    · rename_i hl; cases h; exact ⟨l, rfl, hl⟩
    · cases h
  | _ => cases h
theorem ofInt_ok {α : Type} {x : V} {f : Int → Option α} {r : α} (h : ofInt x f = some r) : ∃ k, x = .int k ∧ f k = some r := by
  cases x with
  | int k => exact ⟨k, rfl, h⟩
  | _ => cases h

/-- truth of a value -/
theorem truthy_snd {v : V} {x : Value} {b : Bool} {Q : Bool → Shared → Prop} (G : X.Gl C) (R : SR X.W φ H s.heap) (r : Rep X.W.scr φ s.heap v x) (e : truthy C.scr H v = some b)
    (hQ : ∀ tk, Q b { s with toks := tk }) : wpAny X.M A (PySem.truthy x) Q Ex s := by
  cases v with
  | none => cases r; cases e; exact PyProof.Rows.truthy_none (hQ s.toks)
  | bool b' => cases r; cases e; exact wpAny_truthy_bool (hQ s.toks)
  | int i => cases r; cases e; exact PyProof.Rows.truthy_int (hQ s.toks)
  | tup vs =>
    obtain ⟨a, xs, n, rfl, h1, h2, h3⟩ := tupAt r
    refine truthy_tuple (isTup_of h1) (small_of_len h2 h3) ?_
    have : b = !xs.toArray.isEmpty := by
      have := h2.length
      cases e
      cases vs <;> cases xs <;> simp_all
    rw [← this]; exact hQ _
  | ref l =>
    simp only [truthy] at e
    split at e
    · rename_i vs hl
      obtain ⟨a, xs, n, rfl, _, h1, h2, h3⟩ := listAt R r hl
      refine wpAny_truthy_list (isList_of h1) (small_of_len h2 h3) ?_
      have : b = !xs.toArray.isEmpty := by
        have := h2.length
        cases e
        cases vs <;> cases xs <;> simp_all
      rw [← this]; exact hQ _
    · cases e
  | script =>
    cases r
    obtain ⟨xs, h1, h2, h3⟩ := Gl.keep G R
    refine wpAny_truthy_list h1 (small_of_len h2 (by simp; (first | lia | omega))) ?_
    have : b = !xs.toArray.isEmpty := by
      have := h2.length
      cases e
      cases hs : C.scr <;> cases xs <;> simp_all
    rw [← this]; exact hQ _

theorem pylong (G : X.Gl C) (R : SR X.W φ H s.heap) (rm : Room A n) : PylongRoom X.M A s := by
  obtain ⟨fe, outer, h1, h2, h3, h4, h5⟩ := rm.frames
  refine PylongRoom.of (G.1.nolimit.keeps R.keep) (by have := rm.depth; show A.depth + 100 < _; (first | lia | omega)) ?_
  exact SeerAt.of (G.1.seer.keeps R.keep) G.1.tree h1 h2 h3 h4 h5

theorem binop_int {op : BOp} {o : Operator} {a b : Int} {t u : Tok} {v : V} {H' : Hp} {Q : Value → Shared → Prop} (G : X.Gl C) (R : SR X.W φ H s.heap) (rm : Room A n) (ho : opOk op o = true)
    (e : binI op a b H = .ok v H') (hQ : ∀ tk i t, v = .int i → H' = H → Q (.int i t) { s with toks := tk }) : wpAny X.M A (binaryOp o (.int a t) (.int b u)) Q Ex s := by
  obtain rfl := of_decide_eq_true ho
  cases op
  · cases e; exact PyProof.Rows.add_int (hQ _ _ _ rfl rfl)
  · cases e; exact PyProof.Rows.sub_int (hQ _ _ _ rfl rfl)
  · change (if mulOk a b then _ else _) = _ at e
    split at e
    · rename_i hm
      cases e
      refine PyProof.Rows.mul_int (hQ _ _ _ rfl rfl) ?_
      unfold mulOk at hm
      unfold IntMulOk
      intro hc
      rw [hc] at hm
      cases hm
    · cases e
  · change (if b = 0 then _ else _) = _ at e
    split at e
    · cases e
    · rename_i hb
      cases e
      exact PyProof.Rows.floordiv_int hb (hQ _ _ _ rfl rfl) (.inr (pylong G R rm))
  · change (if b = 0 then _ else _) = _ at e
    split at e
    · cases e
    · rename_i hb
      cases e
      exact PyProof.Rows.mod_int' hb (hQ _ _ _ rfl rfl)
end
end Mine

end
section
set_option autoImplicit false
set_option linter.unusedVariables false
set_option linter.unusedSimpArgs false
namespace Mine
open PySem PySem.Calls PyProof.Rows

section
variable {X : Fix} {C : Ctx} {A : Around} {n : Nat} {Ex : Value → Shared → Prop} {s : Shared} {φ : List Addr} {H : Hp}

theorem rdL_snd {f : V → Option PyData} {m : Nat} (hf : ∀ v d x, f v = some d → Rep X.W.scr φ s.heap v x → ∃ as, Reads s.heap x d as ∧ d.canLay0 = true ∧ d.depth ≤ m) :
    ∀ (vs : List V) (ds : List PyData) (xs : List Value), rdL f vs = some ds → RepL X.W.scr φ s.heap vs xs → ∃ as, ReadsAll s.heap xs ds as ∧ PyData.canLayAll0 ds = true ∧ PyData.depthAll ds ≤ m
  | [], ds, xs, e, r => by
    cases e; cases r
    exact ⟨_, .nil, by simp [PyData.canLayAll0], by simp [PyData.depthAll]⟩
  | v :: vs, ds, xs, e, r => by
    cases r with
    | cons r1 r2 =>
      rw [rdLc] at e
      cases e1 : f v with
      | none => rw [e1] at e; cases e
      | some d =>
        cases e2 : rdL f vs with
        | none => rw [e1, e2] at e; cases e
        | some ds' =>
          rw [e1, e2] at e
          cases e
          obtain ⟨as, h1, h2, h3⟩ := hf v d _ e1 r1
          obtain ⟨bs, q1, q2, q3⟩ := rdL_snd hf vs ds' _ e2 r2
          refine ⟨_, .cons h1 q1, by simp [PyData.canLayAll0, h2, q2], ?_⟩
          rw [PyData.depthAll]; (first | lia | omega)

theorem rd_snd (G : X.Gl C) (R : SR X.W φ H s.heap) : ∀ (m : Nat) (v : V) (d : PyData) (x : Value), rd C.scr m H v = some d → Rep X.W.scr φ s.heap v x →
    ∃ as, Reads s.heap x d as ∧ d.canLay0 = true ∧ d.depth ≤ m := by
  intro m
  induction m with
  | zero =>
    intro v d x e r
    cases v with
    | none => cases r; cases e; exact ⟨_, .none, by simp [PyData.canLay0], by simp [PyData.depth]⟩
    | bool b => cases r; cases e; exact ⟨_, .bool _, by simp [PyData.canLay0], by simp [PyData.depth]⟩
    | int i => cases r; cases e; exact ⟨_, .int _ _, by simp [PyData.canLay0], by simp [PyData.depth]⟩
    | _ => cases e
  | succ m ih =>
    intro v d x e r
    cases v with
    | none => cases r; cases e; exact ⟨_, .none, by simp [PyData.canLay0], by simp [PyData.depth]⟩
    | bool b => cases r; cases e; exact ⟨_, .bool _, by simp [PyData.canLay0], by simp [PyData.depth]⟩
    | int i => cases r; cases e; exact ⟨_, .int _ _, by simp [PyData.canLay0], by simp [PyData.depth]⟩
    | tup vs =>
      obtain ⟨a, xs, k, rfl, h1, h2, h3⟩ := tupAt r
      rw [rdT] at e
      obtain ⟨ds, e1, rfl⟩ := Option.map_eq_some_iff.mp e
      obtain ⟨as, q1, q2, q3⟩ := rdL_snd (fun v d x => ih v d x) vs ds xs e1 h2
      exact ⟨_, reads_tuple_at h1 rfl rfl (by simpa using q1), by simp [PyData.canLay0, q2], by rw [PyData.depth]; (first | lia | omega)⟩
    | ref l =>
      rw [rdR] at e
      split at e
      · rename_i vs hl
        obtain ⟨a, xs, k, rfl, _, h1, h2, h3⟩ := listAt R r hl
        obtain ⟨ds, e1, rfl⟩ := Option.map_eq_some_iff.mp e
        obtain ⟨as, q1, q2, q3⟩ := rdL_snd (fun v d x => ih v d x) vs ds xs e1 h2
        exact ⟨_, reads_list_at h1 rfl rfl (by simpa using q1), by simp [PyData.canLay0, q2], by rw [PyData.depth]; (first | lia | omega)⟩
      · cases e
    | script =>
      cases r
      obtain ⟨xs, ⟨o, h1, h1c, k, h1d⟩, h2, h3⟩ := Gl.keep G R
      cases e
      have e1 : rdL (fun v => match v with | .int i => some (.int i) | _ => none) (C.scr.map V.int) = some (C.scr.map PyData.int) := by
        clear h2 h3
        induction C.scr with
        | nil => rfl
        | cons i r ih => rw [List.map_cons, rdLc, ih]; rfl
      obtain ⟨as, q1, q2, q3⟩ := rdL_snd (m := 0) (fun v d x e r => by
        cases v <;> simp at e
        subst e
        cases r
        exact ⟨_, .int _ _, by simp [PyData.canLay0], by simp [PyData.depth]⟩) _ _ _ e1 h2
      exact ⟨_, reads_list_at h1 h1c h1d (by simpa using q1), by simp [PyData.canLay0, q2], by rw [PyData.depth]; (first | lia | omega)⟩

theorem shaped_of {d : PyData} (h1 : d.canLay0 = true) (h2 : d.depth ≤ 10) : SeqAt.shaped d = true := by
  unfold SeqAt.shaped; rw [h1, Bool.true_and]; exact decide_eq_true (by (first | lia | omega))

theorem units_of (rm : Room A n) : A.units + 64 < cLine := by have := rm.units; (first | lia | omega)

theorem eqV_snd {op : COp} {o : CmpOp} {v u : V} {x y : Value} {b : Bool} {Q : Value → Shared → Prop} (G : X.Gl C) (R : SR X.W φ H s.heap) (rm : Room A n) (ho : copOk op o = true) (hop : op = .eq ∨ op = .ne)
    (r1 : Rep X.W.scr φ s.heap v x) (r2 : Rep X.W.scr φ s.heap u y) (e : cmpV C.scr op v u H = some b) (hQ : ∀ tk, Q (.bool b) { s with toks := tk }) : wpAny X.M A (compareOp o x y) Q Ex s := by
  obtain rfl := of_decide_eq_true ho
  rcases hop with rfl | rfl <;> simp only [cmpV, eqV] at e
  · split at e
    · rename_i da db e1 e2
      obtain ⟨as, q1, q2, q3⟩ := rd_snd G R 10 v da x e1 r1
      obtain ⟨bs, p1, p2, p3⟩ := rd_snd G R 10 u db y e2 r2
      cases e
      exact eq_dataH q1 p1 (shaped_of q2 q3) (shaped_of p2 p3) (units_of rm) (hQ s.toks)
    · cases e
  · split at e
    · rename_i da db e1 e2
      obtain ⟨as, q1, q2, q3⟩ := rd_snd G R 10 v da x e1 r1
      obtain ⟨bs, p1, p2, p3⟩ := rd_snd G R 10 u db y e2 r2
      cases e
      exact ne_dataH q1 p1 (shaped_of q2 q3) (shaped_of p2 p3) (units_of rm) (hQ s.toks)
    · cases e

theorem not_in {x y : Value} {Q : Value → Shared → Prop} (h : wpAny X.M A (compareOp .In x y) (fun r s' => ∃ b, r = .bool b ∧ Q (.bool (!b)) s') Ex s) : wpAny X.M A (compareOp .NotIn x y) Q Ex s := by
  intro Γ p hΓ
  have := h Γ p hΓ
  change Sem.wp _ _ (contains y x >>= fun b => pure (Value.bool b)) _ _ _ _ at this
  show Sem.wp _ _ (contains y x >>= fun b => pure (Value.bool (!b))) _ _ _ _
  rw [Sem.wp_bind'] at this ⊢
  refine Sem.wp_mono _ _ _ (fun b p' s' h' => ?_) (fun _ _ _ h' => h') _ _ this
  rw [Sem.wp_pure'] at h' ⊢
  obtain ⟨b', e, q⟩ := h'
  cases e
  exact q
theorem any_isSome (kvs : List (Int × Value)) (k : Int) : kvs.any (fun kv => decide (kv.1 = k)) = (valueAt kvs k).isSome := by
  unfold valueAt
  induction kvs with
  | nil => rfl
  | cons a r ih =>
    rw [List.any_cons, List.find?_cons, ih]
    cases decide (a.1 = k)
    · rfl
    · rfl
/-- `in` over a table -/
theorem inD_snd {k : Int} {t : Tok} {l : Nat} {es : List (Int × V)} {y : Value} {Q : Value → Shared → Prop} (G : X.Gl C) (R : SR X.W φ H s.heap) (hl : H[l]? = some (.dict es)) (r2 : Rep X.W.scr φ s.heap (.ref l) y)
    (hQ : ∀ tk, Q (.bool (es.any fun p => decide (p.1 = k))) { s with toks := tk }) : wpAny X.M A (compareOp .In (.int k t) y) Q Ex s := by
  obtain ⟨a, kvs, rfl, _, h1, h2, h3, h4⟩ := dictAt G R r2 hl
  refine wpAny_in_of (knd := intKind X.prog X.w) (k := k) (by simp [intKind, Value.isInt]) h1 h2.mapOf ?_
  rw [← any_isSome, ← h3.any k]; exact hQ _
/-- `in` over a tuple or a list -/
theorem inS_snd {op : COp} {o : CmpOp} {v u : V} {x y : Value} {b b' : Bool} {Q : Value → Shared → Prop} (G : X.Gl C) (R : SR X.W φ H s.heap) (rm : Room A n) (ho : copOk op o = true) (hb : (op = .isIn ∧ b = b') ∨ (op = .notIn ∧ b = !b'))
    (r1 : Rep X.W.scr φ s.heap v x) (r2 : Rep X.W.scr φ s.heap u y) (hi : inS C.scr H v u = some b') (hQ : ∀ tk, Q (.bool b) { s with toks := tk }) : wpAny X.M A (compareOp o x y) Q Ex s := by
  unfold inS at hi
  split at hi
  · rename_i vs hvs
    split at hi
    · rename_i ds d e1 e2
      cases hi
      obtain ⟨bs, p1, p2, p3⟩ := rd_snd G R 10 v d x e2 r1
      have key : ∃ as c, Reads s.heap y c as ∧ (c = .list ds ∨ c = .tuple ds) ∧ PyData.canLayAll0 ds = true ∧ PyData.depthAll ds ≤ 10 := by
        cases u with
        | tup us =>
          cases hvs
          obtain ⟨a, xs, k, rfl, h1, h2, h3⟩ := tupAt r2
          obtain ⟨as, q1, q2, q3⟩ := rdL_snd (fun v d x => rd_snd G R 10 v d x) vs ds xs e1 h2
          exact ⟨_, _, reads_tuple_at h1 rfl rfl (by simpa using q1), .inr rfl, q2, q3⟩
        | ref l =>
          simp only [itemsOf] at hvs
          split at hvs
          · rename_i us hl
            cases hvs
            obtain ⟨a, xs, k, rfl, _, h1, h2, h3⟩ := listAt R r2 hl
            obtain ⟨as, q1, q2, q3⟩ := rdL_snd (fun v d x => rd_snd G R 10 v d x) vs ds xs e1 h2
            exact ⟨_, _, reads_list_at h1 rfl rfl (by simpa using q1), .inl rfl, q2, q3⟩
          · cases hvs
        | script =>
          cases hvs
          cases r2
          obtain ⟨xs, ⟨o, h1, h1c, k, h1d⟩, h2, h3⟩ := Gl.keep G R
          obtain ⟨as, q1, q2, q3⟩ := rdL_snd (fun v d x => rd_snd G R 10 v d x) _ ds xs e1 h2
          exact ⟨_, _, reads_list_at h1 h1c h1d (by simpa using q1), .inl rfl, q2, q3⟩
        | _ => cases hvs
      obtain ⟨as, c, k1, k2, k3, k4⟩ := key
      have hu : A.units + 1 + min (PyData.depthAll ds) d.depth < cLine := by have := units_of rm; (first | lia | omega)
      obtain rfl := of_decide_eq_true ho
      rcases hb with ⟨rfl, rfl⟩ | ⟨rfl, rfl⟩ <;> rcases k2 with rfl | rfl
      · exact SeqAt.in_list_reads k1 p1 k3 p2 hu (hQ s.toks)
      · exact SeqAt.in_tuple_reads k1 p1 k3 p2 hu (hQ s.toks)
      · exact SeqAt.notIn_list_reads k1 p1 k3 p2 hu (hQ s.toks)
      · exact SeqAt.notIn_tuple_reads k1 p1 k3 p2 hu (hQ s.toks)
    · cases hi
  · cases hi

theorem inV_snd {op : COp} {o : CmpOp} {v u : V} {x y : Value} {b : Bool} {Q : Value → Shared → Prop} (G : X.Gl C) (R : SR X.W φ H s.heap) (rm : Room A n) (ho : copOk op o = true) (hop : op = .isIn ∨ op = .notIn)
    (r1 : Rep X.W.scr φ s.heap v x) (r2 : Rep X.W.scr φ s.heap u y) (e : cmpV C.scr op v u H = some b) (hQ : ∀ tk, Q (.bool b) { s with toks := tk }) : wpAny X.M A (compareOp o x y) Q Ex s := by
  have hi : ∃ b', inV C.scr H v u = some b' ∧ ((op = .isIn ∧ b = b') ∨ (op = .notIn ∧ b = !b')) := by
    rcases hop with rfl | rfl
    · exact ⟨b, e, .inl ⟨rfl, rfl⟩⟩
    · obtain ⟨b', h1, h2⟩ := Option.map_eq_some_iff.mp e
      exact ⟨b', h1, .inr ⟨rfl, h2.symm⟩⟩
  obtain ⟨b', hi, hb⟩ := hi
  unfold inV at hi
  split at hi
  · rename_i es hd
    obtain ⟨l, rfl, hl⟩ := dictOf_ref hd
    obtain ⟨k, rfl, hi⟩ := ofInt_ok hi
    cases hi
    cases r1
    obtain rfl := of_decide_eq_true ho
    rcases hb with ⟨rfl, rfl⟩ | ⟨rfl, rfl⟩
    · exact inD_snd G R hl r2 hQ
    · exact not_in (inD_snd G R hl r2 fun tk => ⟨_, rfl, hQ tk⟩)
  · exact inS_snd G R rm ho hb r1 r2 hi hQ

theorem int2_ok {x y : V} {f : Int → Int → Bool} {b : Bool} (e : int2 x y f = some b) : ∃ i j, x = .int i ∧ y = .int j ∧ f i j = b := by
  cases x with
  | int i => cases y with
    | int j => exact ⟨i, j, rfl, rfl, Option.some.inj e⟩
    | _ => cases e
  | _ => cases e
theorem cmp_snd {op : COp} {o : CmpOp} {v u : V} {x y : Value} {b : Bool} {Q : Value → Shared → Prop} (G : X.Gl C) (R : SR X.W φ H s.heap) (rm : Room A n) (ho : copOk op o = true)
    (r1 : Rep X.W.scr φ s.heap v x) (r2 : Rep X.W.scr φ s.heap u y) (e : cmpV C.scr op v u H = some b) (hQ : ∀ tk, Q (.bool b) { s with toks := tk }) : wpAny X.M A (compareOp o x y) Q Ex s := by
  cases op with
  | eq => exact eqV_snd G R rm ho (.inl rfl) r1 r2 e hQ
  | ne => exact eqV_snd G R rm ho (.inr rfl) r1 r2 e hQ
  | isIn => exact inV_snd G R rm ho (.inl rfl) r1 r2 e hQ
  | notIn => exact inV_snd G R rm ho (.inr rfl) r1 r2 e hQ
  | lt =>
    obtain rfl := of_decide_eq_true ho
    obtain ⟨i, j, rfl, rfl, rfl⟩ := int2_ok e
    cases r1; cases r2; exact PyProof.Rows.lt_int (hQ s.toks)
  | le =>
    obtain rfl := of_decide_eq_true ho
    obtain ⟨i, j, rfl, rfl, rfl⟩ := int2_ok e
    cases r1; cases r2; exact PyProof.Rows.le_int (hQ s.toks)
  | gt =>
    obtain rfl := of_decide_eq_true ho
    obtain ⟨i, j, rfl, rfl, rfl⟩ := int2_ok e
    cases r1; cases r2; exact PyProof.Rows.gt_int (hQ s.toks)
end
end Mine

end
section
set_option autoImplicit false
set_option linter.unusedVariables false
set_option linter.unusedSimpArgs false
namespace Mine
open PySem PySem.Calls PyProof.Rows

section
variable {X : Fix} {C : Ctx} {A : Around} {n : Nat} {Ex : Value → Shared → Prop} {s : Shared} {φ : List Addr} {H : Hp} {sc : Scope} {ns : List Str} {env : Env} {ρ : Env'}

/-- tests of a plain kind: the value, then its truth -/
noncomputable def plainTest : Expr → Bool
  | .UnaryOp .Not _ _ => false
  | .BoolOp _ _ _ => false
  | .IfExp _ _ _ _ => false
  | .Compare _ _ _ _ => false
  | _ => true

theorem isTrue_plainTest {e : Expr} (h : plainTest e = true) (whole : Sem Value) : isTrue e env whole = (do let v ← whole; standAt e.pos; holding [v] (PySem.truthy v)) := by
  cases e <;> first | rfl | (cases h; done) | skip
  rename_i op x p
  cases op <;> first | rfl | cases h

theorem TrS.of {c : E} {e : Expr} (G : X.Gl C) (h : plainTest e = true) (ev : EvS X C n sc ns c e) : TrS X C n sc ns c e := by
  intro A env ρ φ H s Q Ex rm kd F R p
  refine wpAny_isTrue_value (ev A env ρ φ H s _ Ex rm kd F R (WE_mono p fun v H1 p => ?_)) (isTrue_plainTest h _)
  obtain ⟨b, ht, p⟩ := wSome_ex p
  intro φ' h' tk x R1 S1 r1
  exact truthy_snd (s := { s with heap := h', toks := tk }) G R1 r1 ht fun tk' => p φ' h' tk' R1 S1

theorem okVar_spec {i : Nat} {x : Str} (h : okVar ns i x = true) : ns.idxOf x = i ∧ x ∈ ns := by
  unfold okVar at h
  simp only [Bool.and_eq_true, decide_eq_true_eq] at h
  refine ⟨h.1, ?_⟩
  rw [← h.1] at h
  exact List.idxOf_lt_length_iff.mp h.2

theorem var_snd {i : Nat} {x : Str} {pos : Pos} (h : chkE X.K sc ns (.var i) (.Name x pos) = true) : EvS X C n sc ns (.var i) (.Name x pos) := by
  intro A env ρ φ H s Q Ex rm kd F R p
  replace h : (okVar ns i x && isVarK (sc.names.lookup x) && !(x == ("__debug__" : Str)) && !(x == ("__classdict__" : Str))) = true := h
  simp only [Bool.and_eq_true, Bool.not_eq_true'] at h
  obtain ⟨⟨⟨h1, h2⟩, h3⟩, h9⟩ := h
  obtain ⟨hi, hx⟩ := okVar_spec h1
  have hl : lk ns ρ x = ρ[i]?.join := by unfold lk; rw [hi]
  obtain ⟨v, hv, p⟩ := wSome_ex p
  rw [← hl] at hv
  refine wpAny_Name ?_ h3
  have hk := kd x
  have key : env.kindOf x = some .local ∨ isCellK (env.kindOf x) := by
    rcases hk with e | ⟨_, e⟩
    · rw [← e]
      revert h2
      cases sc.names.lookup x with
      | none => simp [isVarK]
      | some k => cases k <;> simp [isVarK, isCellK]
    · exact .inr e
  rcases key with hk | hk
  · obtain ⟨m, hm, hr⟩ := F.loc
    have hr := hr x hx hk
    rw [hv] at hr
    generalize hmx : m x = mx at hr
    cases hr with
    | some r => exact wpAny_loadName_local F.fn hk hm hmx (p.now R r s.toks)
  · obtain ⟨c, v', h4, _, _, _, h5, hr⟩ := F.cel x hx hk
    rw [hv] at hr
    cases hr with
    | some r =>
      rcases hk with hk | hk
      · exact wpAny_loadName_cell F.fn hk h4 h5 (p.now R r s.toks)
      · exact wpAny_loadName_free F.fn hk h4 h5 (p.now R r s.toks) h9

theorem glob_fn {f : Nat} {x : Str} {pos : Pos} {Q : Value → Shared → Prop} (G : X.Gl C) (kd : Kinds sc env) (F : FR X.W env ns ρ φ s.heap) (R : SR X.W φ H s.heap) (h1 : X.K.fns[f]? = some x) (h2 : okGlob sc x = true)
    (hQ : ∀ a, X.mg x = some (.ref a) → Q (.ref a) s) : wpAny X.M A (eval (.Name x pos) env) Q Ex s := by
  obtain ⟨a, o, d, pm, cd, doc, e1, e2, e3, _⟩ := G.1.fn f x h1
  obtain ⟨k1, k2⟩ := kd.glob h2
  exact Name_function_global F.fn k1 (loadGlobal_global (by rw [F.glob]; exact G.1.g.keeps R.keep) e3 (hQ a e3)) k2
theorem glob_bi {x : Str} {v : Value} {pos : Pos} {Q : Value → Shared → Prop} (G : X.Gl C) (kd : Kinds sc env) (F : FR X.W env ns ρ φ s.heap) (R : SR X.W φ H s.heap) (h1 : (x, v) ∈ biTable) (h2 : okGlob sc x = true)
    (hQ : Q v s) : wpAny X.M A (eval (.Name x pos) env) Q Ex s := by
  obtain ⟨e1, e2⟩ := G.1.bi _ h1
  obtain ⟨k1, k2⟩ := kd.glob h2
  exact Name_function_global F.fn k1 (loadGlobal_builtin (by rw [F.glob]; exact G.1.g.keeps R.keep) e1 (by rw [F.blt]; exact G.1.b.keeps R.keep) e2 hQ) k2
theorem glob_k {j : Nat} {x : Str} {pos : Pos} {Q : Value → Shared → Prop} (G : X.Gl C) (kd : Kinds sc env) (F : FR X.W env ns ρ φ s.heap) (R : SR X.W φ H s.heap) (h1 : X.K.gks[j]? = some x) (h2 : okGlob sc x = true)
    (hQ : ∀ v y, C.gks[j]? = some v → Rep X.W.scr φ s.heap v y → Q y s) : wpAny X.M A (eval (.Name x pos) env) Q Ex s := by
  obtain ⟨v, y, e1, e2, e3⟩ := G.1.gk j x h1
  obtain ⟨k1, k2⟩ := kd.glob h2
  have S : Stp [] [] X.W.h₀ φ s.heap := ⟨⟨φ, by simp⟩, fun a o e _ _ => R.keep a o e, fun a ha _ => R.fresh a ha, fun a _ _ _ e => R.keep a _ e, fun a _ _ e => R.keep a _ e, fun a o e => ⟨o, R.keep a o e⟩⟩
  exact Name_function_global F.fn k1 (loadGlobal_global (by rw [F.glob]; exact G.1.g.keeps R.keep) e2 (hQ v y e1 (e3.mono S))) k2
theorem gk_snd {j : Nat} {x : Str} {pos : Pos} (G : X.Gl C) (h1 : X.K.gks[j]? = some x) (h2 : okGlob sc x = true) : EvS X C n sc ns (.gk j) (.Name x pos) := by
  intro A env ρ φ H s Q Ex rm kd F R p
  obtain ⟨v, hv, p⟩ := wSome_ex p
  refine glob_k G kd F R h1 h2 fun u y e r => ?_
  rw [hv] at e; cases e
  exact p.now R r s.toks
theorem isi_mem {b : Bi} {t : String} (ht : isiName b = some t) : (Str.ofString t, Value.type t) ∈ biTable := by
  cases b with
  | isBool => cases ht; exact bi_mem 3 (by decide)
  | isInt => cases ht; exact bi_mem 2 (by decide)
  | isTuple => cases ht; exact bi_mem 4 (by decide)
  | isList => cases ht; exact bi_mem 5 (by decide)
  | _ => cases ht

/-- isinstance of the fragment's values -/
theorem isi_snd {b : Bi} {t : String} {v : V} {x : Value} {Q : Value → Shared → Prop} (R : SR X.W φ H s.heap) (ht : isiName b = some t)
    (rv : Rep X.W.scr φ s.heap v x) (p : PostV X.W φ s Q (biV C.scr b [v] H)) : wpAny X.M A (call (.builtin "isinstance") [x, .type t]) Q Ex s := by
  cases b with
  | isBool =>
    cases ht
    cases v with
    | bool b' => cases rv; exact IsiPair.bool_bool (PostV.now (v := .bool true) p R (.bool _) s.toks)
    | int i => cases rv; exact IsiPair.int_bool (PostV.now (v := .bool false) p R (.bool _) _)
    | _ => exact p.elim
  | isInt =>
    cases ht
    obtain ⟨i, rfl, p⟩ := onInt_post (f := fun _ => .ok (.bool true) H) p
    cases rv; exact IsiPair.int_int (p.now R (.bool _) s.toks)
  | isTuple =>
    cases ht
    cases v with
    | tup vs => obtain ⟨a, xs, k, rfl, h1, _⟩ := tupAt rv; exact IsiPair.tuple_tuple h1 rfl (PostV.now (v := .bool true) p R (.bool _) _)
    | _ => exact p.elim
  | isList =>
    cases ht
    obtain ⟨l, vs, rfl, hl, p⟩ := onL_post (H := H) (f := fun _ => .ok (.bool true) H) p
    obtain ⟨a, xs, k, rfl, _, h1, _⟩ := listAt R rv hl
    exact IsiPair.list_list h1 rfl (p.now R (.bool _) _)
  | _ => cases ht

/-- the items of a tuple, a list, the script -/
theorem items_at {v : V} {x : Value} {vs : List V} (G : X.Gl C) (R : SR X.W φ H s.heap) (rv : Rep X.W.scr φ s.heap v x) (e : itemsOf C.scr H v = some vs) :
    ∃ a xs, x = .ref a ∧ RepL X.W.scr φ s.heap vs xs ∧ vs.length ≤ 16000000 ∧ (IsTup s.heap a xs.toArray ∧ (∃ k, s.heap.get? a = some (tupObj xs k)) ∧ v = .tup vs ∨ s.heap.IsList a xs.toArray ∧ (∀ us, v ≠ .tup us)) := by
  cases v with
  | tup us => cases e; obtain ⟨a, xs, k, rfl, h1, h2, h3⟩ := tupAt rv; exact ⟨a, xs, rfl, h2, h3, .inl ⟨isTup_of h1, ⟨k, h1⟩, rfl⟩⟩
  | ref l =>
    simp only [itemsOf] at e
    split at e
    · rename_i us hl
      cases e
      obtain ⟨a, xs, k, rfl, _, h1, h2, h3⟩ := listAt R rv hl
      exact ⟨a, xs, rfl, h2, h3, .inr ⟨isList_of h1, fun _ e => nomatch e⟩⟩
    · cases e
  | script =>
    cases rv
    cases e
    obtain ⟨xs, h1, h2, h3⟩ := Gl.keep G R
    exact ⟨_, xs, rfl, h2, by simp; (first | lia | omega), .inr ⟨h1, fun _ e => nomatch e⟩⟩
  | _ => cases e

theorem seqAt_spec {vs : List V} {xs : List Value} {k : Int} {v : V} {scr : Addr} {h : Heap} (r : RepL scr φ h vs xs) (e : seqAt vs k = some v) : ∃ j x, seqIndex? k xs.length = some j ∧ xs[j]? = some x ∧ Rep scr φ h v x ∧
    ((0 ≤ k ∧ j = k.toNat) ∨ (k < 0 ∧ -(xs.length : Int) ≤ k ∧ j = (k + xs.length).toNat)) := by
  unfold seqAt at e
  have hl := r.length
  split at e
  · rename_i h0
    obtain ⟨x, hx, hr⟩ := r.get e
    have hlt := (List.getElem?_eq_some_iff.mp hx).1
    refine ⟨k.toNat, x, ?_, hx, hr, .inl ⟨h0, rfl⟩⟩
    unfold seqIndex?
    have h1 : ¬ k < 0 := by (first | lia | omega)
    simp only [h1, if_false]
    rw [if_pos (by simp only [Bool.and_eq_true, decide_eq_true_eq]; (first | lia | omega))]
  · split at e
    · rename_i h0 h1
      rw [hl] at e h1
      obtain ⟨x, hx, hr⟩ := r.get e
      have hlt := (List.getElem?_eq_some_iff.mp hx).1
      refine ⟨(k + xs.length).toNat, x, ?_, hx, hr, .inr ⟨by (first | lia | omega), h1, rfl⟩⟩
      unfold seqIndex?
      have h2 : k < 0 := by (first | lia | omega)
      simp only [h2, if_true]
      rw [if_pos (by simp only [Bool.and_eq_true, decide_eq_true_eq]; (first | lia | omega))]
    · cases e

/-- a subscript that is no slice -/
noncomputable def notSlice : Expr → Bool
  | .Slice .. => false
  | _ => true
theorem subscripted_plain {e : Expr} (h : notSlice e = true) (o i : Value) : subscripted e false o i = operate [o, i] (getItem o i) := by
  cases e <;> first | rfl | cases h

theorem idx_snd {v i : V} {x y : Value} {u : V} {value slice : Expr} {Q : Value → Shared → Prop} (G : X.Gl C) (R : SR X.W φ H s.heap) (rm : Room A n) (hs : notSlice slice = true) (rv : Rep X.W.scr φ s.heap v x) (ri : Rep X.W.scr φ s.heap i y)
    (e : idxV C.scr v i H = some u) (hQ : ∀ tk z, Rep X.W.scr φ s.heap u z → Q z { s with toks := tk }) : wpAny X.M A (subscriptTail value slice x y) Q Ex s := by
  replace e := ofInt_ok e
  obtain ⟨k, rfl, e⟩ := e
  cases ri
  rename_i t
  split at e
  · rename_i vs hv
    obtain ⟨a, xs, rfl, h1, h2, h3⟩ := items_at G R rv hv
    obtain ⟨j, z, q1, q2, q3, q4⟩ := seqAt_spec h1 e
    have hxl := h1.length
    have hjl := (List.getElem?_eq_some_iff.mp q2).1
    have hk : -(16000000 : Int) ≤ k ∧ k ≤ 16000000 := by rcases q4 with ⟨q4, rfl⟩ | ⟨q4, q5, rfl⟩ <;> (first | lia | omega)
    rcases h3 with ⟨h3, _, _⟩ | ⟨h3, _⟩
    · exact item_tupleT h3 (by (first | lia | omega)) (by (first | lia | omega)) q1 q2 (hQ s.toks z q3) (subscripted_plain hs _ _)
    · refine tail_any h3.typeIs PySem.slot_list_getitem.lookup ?_ (subscripted_plain hs _ _)
      rcases q4 with ⟨q4, rfl⟩ | ⟨q4, q5, rfl⟩
      · exact wpAny_getItem_list h3 q4 (by (first | lia | omega)) (by simpa using q2) (hQ s.toks z q3)
      · exact wpAny_getItem_list_neg h3 q4 (by simpa using q5) (by (first | lia | omega)) (by simpa using q2) (hQ s.toks z q3)
  · obtain ⟨es, hd, e'⟩ := Option.bind_eq_some_iff.mp e
    obtain ⟨l, rfl, hl⟩ := dictOf_ref hd
    obtain ⟨a, kvs, rfl, _, h1, h2, h3, h4⟩ := dictAt G R rv hl
    rcases h3.find k with ⟨q, _⟩ | ⟨u', x', q1, q2, q3⟩
    · rw [q] at e'; cases e'
    · rw [q1] at e'; cases e'
      refine tail_any h2.typeIs PySem.slot_dict_getitem.lookup ?_ (subscripted_plain hs _ _)
      exact wpAny_getItem_of (knd := intKind X.prog X.w) (k := k) (by simp [intKind, Value.isInt]) h2.mapOf q2 (hQ _ _ q3)
end
end Mine

end
section
set_option autoImplicit false
set_option linter.unusedVariables false
set_option linter.unusedSimpArgs false
namespace Mine
open PySem PySem.Calls PyProof.Rows

section
variable {X : Fix} {C : Ctx} {A : Around} {n : Nat} {Ex : Value → Shared → Prop} {s : Shared} {φ : List Addr} {H : Hp} {sc : Scope} {ns : List Str} {env : Env} {ρ : Env'}

noncomputable def PT (X : Fix) (C : Ctx) (φ : List Addr) (s : Shared) (Q : Bool → Shared → Prop) (x : V) (H : Hp) : Prop := wSome (truthy C.scr H x) fun t => PB X.W φ s Q t H
theorem PT.step {φ₁ : List Addr} {h₁ : Heap} {tk : Nat} {Q : Bool → Shared → Prop} {x : V} {H : Hp} (p : PT X C φ s Q x H) (S : Stp [] φ s.heap φ₁ h₁) : PT X C φ₁ { s with heap := h₁, toks := tk } Q x H := wSome_mono p fun _ p => p.step S

/-- a list of expressions: as arguments, as the parts of `and`, `or`, as the tests of a comprehension -/
structure LsS (X : Fix) (C : Ctx) (n : Nat) (sc : Scope) (ns : List Str) (cs : List E) (es : List Expr) : Prop where
  spl : ∀ (A : Around) (env : Env) (ρ : Env') (φ : List Addr) (H : Hp) (s : Shared) (Q : List Value → Shared → Prop) (Ex : Value → Shared → Prop) (pos : Pos),
    Room A n → Kinds sc env → FR X.W env ns ρ φ s.heap → SR X.W φ H s.heap → WEs C cs ρ H (PL X.W φ s Q) → wpAny X.M A (spliced (backTo pos (starEach es env))) Q Ex s
  plain : ∀ (env : Env) (pos : Pos), (backTo pos (starEach es env)).any (·.1) = false
  one : ∀ c e, cs = [c] → es = [e] → EvS X C n sc ns c e ∧ TrS X C n sc ns c e
  and : ∀ (A : Around) (env : Env) (ρ : Env') (φ : List Addr) (H : Hp) (s : Shared) (Q : Value → Shared → Prop) (Ex : Value → Shared → Prop) (pos : Pos),
    Room A n → Kinds sc env → FR X.W env ns ρ φ s.heap → SR X.W φ H s.heap → WAnd C cs ρ H (PV X.W φ s Q) → wpAny X.M A (eval (.BoolOp .And es pos) env) Q Ex s
  or : ∀ (A : Around) (env : Env) (ρ : Env') (φ : List Addr) (H : Hp) (s : Shared) (Q : Value → Shared → Prop) (Ex : Value → Shared → Prop) (pos : Pos),
    Room A n → Kinds sc env → FR X.W env ns ρ φ s.heap → SR X.W φ H s.heap → WOr C cs ρ H (PV X.W φ s Q) → wpAny X.M A (eval (.BoolOp .Or es pos) env) Q Ex s
  andT : ∀ (A : Around) (env : Env) (ρ : Env') (φ : List Addr) (H : Hp) (s : Shared) (Q : Bool → Shared → Prop) (Ex : Value → Shared → Prop),
    Room A n → Kinds sc env → FR X.W env ns ρ φ s.heap → SR X.W φ H s.heap → WAnd C cs ρ H (PT X C φ s Q) → wpAny X.M A (allTrue .And es env) Q Ex s
  orT : ∀ (A : Around) (env : Env) (ρ : Env') (φ : List Addr) (H : Hp) (s : Shared) (Q : Bool → Shared → Prop) (Ex : Value → Shared → Prop),
    Room A n → Kinds sc env → FR X.W env ns ρ φ s.heap → SR X.W φ H s.heap → WOr C cs ρ H (PT X C φ s Q) → wpAny X.M A (allTrue .Or es env) Q Ex s
  tst : ∀ (A : Around) (env : Env) (ρ : Env') (φ : List Addr) (H : Hp) (s : Shared) (Q : Bool → Shared → Prop) (Ex : Value → Shared → Prop),
    Room A n → Kinds sc env → FR X.W env ns ρ φ s.heap → SR X.W φ H s.heap → WT C cs ρ H (PB X.W φ s Q) →
    wpAny X.M A (forIn es true fun c r => if r = true then do let ok ← isTrue c env (eval c env); pure (ForInStep.yield ok) else pure (ForInStep.yield r)) Q Ex s

theorem tests_false {es : List Expr} {Q : Bool → Shared → Prop} (h : Q false s) :
    wpAny X.M A (forIn es false fun c r => if r = true then do let ok ← isTrue c env (eval c env); pure (ForInStep.yield ok) else pure (ForInStep.yield r)) Q Ex s := by
  induction es with
  | nil => rw [List.forIn_nil]; exact wpAny_pure h
  | cons e r ih =>
    rw [List.forIn_cons]
    exact wpAny_bind (wpAny_pure ih)

theorem notStarred {c : E} {e : Expr} (h : chkE X.K sc ns c e = true) : ∀ env (rest : List Expr), starEach (e :: rest) env = (false, eval e env) :: starEach rest env := by
  intro env rest
  cases e <;> first | rfl | skip
  exfalso
  cases c <;> exact Bool.noConfusion h

theorem LsS.nil : LsS X C n sc ns [] [] where
  spl := fun A env ρ φ H s Q Ex pos rm kd F R p => wpAny_items_nil (by
    exact p φ s.heap s.toks [] R .refl .nil)
  plain := fun _ _ => rfl
  one := fun c e h => by cases h
  and := fun A env ρ φ H s Q Ex pos rm kd F R p => p.elim
  or := fun A env ρ φ H s Q Ex pos rm kd F R p => p.elim
  andT := fun A env ρ φ H s Q Ex rm kd F R p => p.elim
  orT := fun A env ρ φ H s Q Ex rm kd F R p => p.elim
  tst := fun A env ρ φ H s Q Ex rm kd F R p => by
    rw [List.forIn_nil]
    exact wpAny_pure (p.now R s.toks)

theorem LsS.cons {c : E} {cs : List E} {e : Expr} {es : List Expr} (G : X.Gl C) (h0 : chkE X.K sc ns c e = true) (hlen : cs.length = es.length) (he : EvS X C n sc ns c e ∧ TrS X C n sc ns c e) (hs : LsS X C n sc ns cs es) : LsS X C n sc ns (c :: cs) (e :: es) where
  spl := fun A env ρ φ H s Q Ex pos rm kd F R p => by
    refine wpAny_items_cons (he.1 A env ρ φ H s _ Ex rm kd F R (WE_mono p fun v H1 p => ?_)) (notStarred h0 env es)
    intro φ1 h1 tk x R1 S1 r1
    refine hs.spl A env ρ φ1 H1 { s with heap := h1, toks := tk } _ Ex pos rm kd (F.mono0 S1) R1 (WEs_mono p fun vs H2 p => ?_)
    exact fun φ2 h2 tk2 xs R2 S2 r2 => p φ2 h2 tk2 (x :: xs) R2 (S1.trans S2) (.cons (r1.mono S2) r2)
  one := fun c' e' h1 h2 => by cases h1; cases h2; exact he
  plain := fun env pos => by
    rw [notStarred h0 env es]
    have := hs.plain env pos
    simpa [backTo] using this
  and := fun A env ρ φ H s Q Ex pos rm kd F R p => by
    cases cs with
    | nil =>
      cases es with
      | nil => exact BoolOp_one (he.1 A env ρ φ H s _ Ex rm kd F R p)
      | cons _ _ => cases hlen
    | cons c2 cs =>
      cases es with
      | nil => cases hlen
      | cons e2 es =>
        refine BoolOp_and (he.1 A env ρ φ H s _ Ex rm kd F R (WE_mono p fun v H1 p => ?_))
        intro φ1 h1 tk x R1 S1 r1
        obtain ⟨b, ht, p⟩ := wSome_ex p
        refine truthy_snd (s := { s with heap := h1, toks := tk }) G R1 r1 ht fun tk' => ?_
        cases b with
        | true => exact hs.and A env ρ φ1 H1 { s with heap := h1, toks := tk' } _ Ex pos rm kd (F.mono0 S1) R1 (mnAnd C _ ρ H1 _ _ (fun _ _ p => p.step S1) p)
        | false => exact p φ1 h1 tk' x R1 S1 r1
  or := fun A env ρ φ H s Q Ex pos rm kd F R p => by
    cases cs with
    | nil =>
      cases es with
      | nil => exact BoolOp_one (he.1 A env ρ φ H s _ Ex rm kd F R p)
      | cons _ _ => cases hlen
    | cons c2 cs =>
      cases es with
      | nil => cases hlen
      | cons e2 es =>
        refine BoolOp_or (he.1 A env ρ φ H s _ Ex rm kd F R (WE_mono p fun v H1 p => ?_))
        intro φ1 h1 tk x R1 S1 r1
        obtain ⟨b, ht, p⟩ := wSome_ex p
        refine truthy_snd (s := { s with heap := h1, toks := tk }) G R1 r1 ht fun tk' => ?_
        cases b with
        | false => exact hs.or A env ρ φ1 H1 { s with heap := h1, toks := tk' } _ Ex pos rm kd (F.mono0 S1) R1 (mnOr C _ ρ H1 _ _ (fun _ _ p => p.step S1) p)
        | true => exact p φ1 h1 tk' x R1 S1 r1
  andT := fun A env ρ φ H s Q Ex rm kd F R p => by
    refine wpAny_allTrue_And_cons (he.2 A env ρ φ H s _ Ex rm kd F R (WE_mono p fun v H1 p => ?_))
    cases cs with
    | nil =>
      cases es with
      | cons _ _ => cases hlen
      | nil =>
        refine wSome_mono p fun b p => fun φ1 h1 tk R1 S1 => ?_
        cases b with
        | true => exact wpAny_allTrue_And_nil (p φ1 h1 tk R1 S1)
        | false => exact p φ1 h1 tk R1 S1
    | cons c2 cs =>
      obtain ⟨b, ht, p⟩ := wSome_ex p
      rw [ht]
      intro φ1 h1 tk R1 S1
      cases b with
      | true => exact hs.andT A env ρ φ1 H1 { s with heap := h1, toks := tk } _ Ex rm kd (F.mono0 S1) R1 (mnAnd C _ ρ H1 _ _ (fun _ _ p => p.step S1) p)
      | false =>
        change wSome (truthy C.scr H1 v) _ at p
        rw [ht] at p
        exact p φ1 h1 tk R1 S1
  orT := fun A env ρ φ H s Q Ex rm kd F R p => by
    refine wpAny_allTrue_Or_cons (he.2 A env ρ φ H s _ Ex rm kd F R (WE_mono p fun v H1 p => ?_))
    cases cs with
    | nil =>
      cases es with
      | cons _ _ => cases hlen
      | nil =>
        refine wSome_mono p fun b p => fun φ1 h1 tk R1 S1 => ?_
        cases b with
        | false => exact wpAny_allTrue_Or_nil (p φ1 h1 tk R1 S1)
        | true => exact p φ1 h1 tk R1 S1
    | cons c2 cs =>
      obtain ⟨b, ht, p⟩ := wSome_ex p
      rw [ht]
      intro φ1 h1 tk R1 S1
      cases b with
      | false => exact hs.orT A env ρ φ1 H1 { s with heap := h1, toks := tk } _ Ex rm kd (F.mono0 S1) R1 (mnOr C _ ρ H1 _ _ (fun _ _ p => p.step S1) p)
      | true =>
        change wSome (truthy C.scr H1 v) _ at p
        rw [ht] at p
        exact p φ1 h1 tk R1 S1
  tst := fun A env ρ φ H s Q Ex rm kd F R p => by
    rw [List.forIn_cons]
    refine wpAny_bind ?_
    show wpAny X.M A (do let ok ← isTrue e env (eval e env); pure (ForInStep.yield ok)) _ Ex s
    refine wpAny_bind (he.2 A env ρ φ H s _ Ex rm kd F R (WE_mono p fun v H1 p => wSome_mono p fun b p => ?_))
    intro φ1 h1 tk R1 S1
    refine wpAny_pure ?_
    cases b with
    | true => exact hs.tst A env ρ φ1 H1 { s with heap := h1, toks := tk } _ Ex rm kd (F.mono0 S1) R1 (mnT C _ ρ H1 _ _ (fun _ _ p => p.step S1) p)
    | false => exact tests_false (p φ1 h1 tk R1 S1)
end
end Mine

end
section
set_option autoImplicit false
set_option linter.unusedVariables false
set_option linter.unusedSimpArgs false
namespace Mine
open PySem PySem.Calls PyProof.Rows

section
variable {X : Fix} {C : Ctx} {A : Around} {n : Nat} {Ex : Value → Shared → Prop} {s : Shared} {φ : List Addr} {H : Hp} {sc : Scope} {ns : List Str} {env : Env} {ρ : Env'}

theorem k_snd {v : V} {c : Const} {k : Nat} {pos : Pos} (h : chkC v c = true) : EvS X C n sc ns (.k v) (.Constant c k pos) := by
  intro A env ρ φ H s Q Ex rm kd F R p
  cases v with
  | none => obtain rfl := of_decide_eq_true h; exact wpAny_Constant_none (p.now R .none s.toks)
  | bool b => obtain rfl := of_decide_eq_true h; exact wpAny_Constant_bool (p.now R (.bool _) s.toks)
  | int i => obtain rfl := of_decide_eq_true h; exact wpAny_Constant_int (p.now R (.int _ _) _)
  | _ => exact Bool.noConfusion h

theorem alloc_snd {vs : List V} {xs : List Value} {Q : Value → Shared → Prop} (R : SR X.W φ H s.heap) (r : RepL X.W.scr φ s.heap vs xs) (hz : vs.length ≤ 16000000) (p : PostV X.W φ s Q (alloc (.list vs) H)) (k tk : Nat) :
    Q (.ref s.heap.objs.size) { s with heap := s.heap.push (lstObj xs k), toks := tk } := by
  have S : Stp [] φ s.heap (φ ++ [s.heap.objs.size]) (s.heap.push (lstObj xs k)) := R.allocStp _
  refine p _ _ _ _ (R.alloc (c := .list vs) rfl ⟨xs, k, Heap.get?_push_size _ rfl, r.mono S, hz⟩) S (.ref ?_)
  rw [← R.len, List.getElem?_append_right (Nat.le_refl _)]; simp

theorem allocL_snd {vs : List V} {xs : List Value} {Q : Value → Shared → Prop} (R : SR X.W φ H s.heap) (r : RepL X.W.scr φ s.heap vs xs) (p : PostV X.W φ s Q (allocL vs H)) (k tk : Nat) :
    Q (.ref s.heap.objs.size) { s with heap := s.heap.push (lstObj xs k), toks := tk } ∧ xs.length ≤ sizeLine := by
  unfold allocL at p
  split at p
  · rename_i h
    have h' : vs.length < 16000000 := by simpa [szOk] using h
    exact ⟨alloc_snd R r (by (first | lia | omega)) p k tk, by rw [← r.length]; unfold sizeLine; (first | lia | omega)⟩
  · exact p.elim

theorem binop_snd {op : BOp} {o : Operator} {v u : V} {x y : Value} {Q : Value → Shared → Prop} (G : X.Gl C) (R : SR X.W φ H s.heap) (rm : Room A n) (ho : opOk op o = true)
    (r1 : Rep X.W.scr φ s.heap v x) (r2 : Rep X.W.scr φ s.heap u y) (p : PostV X.W φ s Q (binop op v u H)) : wpAny X.M A (binaryOp o x y) Q Ex s := by
  cases v with
  | int a =>
    obtain ⟨b, rfl, p2⟩ := onInt_post (f := fun b => binI op a b H) p
    cases r1; cases r2
    cases hr : binI op a b H with
    | stuck => rw [hr] at p2; exact p2.elim
    | ok z H' =>
      refine binop_int G R rm ho hr fun tk i t hz hH => ?_
      subst hz; subst hH
      rw [hr] at p2
      exact p2.now R (.int _ _) _
  | ref l =>
    cases op <;> first | exact p.elim | skip
    obtain rfl := of_decide_eq_true ho
    obtain ⟨l', xs, e1, h1, p2⟩ := onL_post (v := .ref l) (H := H) (f := fun xs => onL H u fun ys => allocL (xs ++ ys) H) p
    cases e1
    obtain ⟨m, ys, rfl, h2, p3⟩ := onL_post p2
    obtain ⟨a, xa, ka, rfl, _, q1, q2, q3⟩ := listAt R r1 h1
    obtain ⟨b, xb, kb, rfl, _, t1, t2, t3⟩ := listAt R r2 h2
    obtain ⟨w1, w2⟩ := allocL_snd R (q2.append t2) p3 0 s.toks
    refine P.add_list (items := xa.toArray) (items2 := xb.toArray) q1 t1 ?_ (by simpa using w2)
    rw [List.append_toArray]
    exact w1
  | _ => exact p.elim

theorem bin_snd {op : BOp} {o : Operator} {a b : E} {l r : Expr} {pos : Pos} (G : X.Gl C) (ho : opOk op o = true) (ha : EvS X C n sc ns a l) (hb : EvS X C n sc ns b r) : EvS X C n sc ns (.bin op a b) (.BinOp l o r pos) := by
  intro A env ρ φ H s Q Ex rm kd F R p
  refine wpAny_BinOp (ha A env ρ φ H s _ Ex rm kd F R (WE_mono p fun v H1 p => ?_))
  intro φ1 h1 tk x R1 S1 r1
  refine hb A env ρ φ1 H1 { s with heap := h1, toks := tk } _ Ex rm kd (F.mono0 S1) R1 (WE_mono p fun u H2 p => ?_)
  intro φ2 h2 tk2 y R2 S2 r2
  exact binop_snd (s := { s with heap := h2, toks := tk2 }) G R2 rm ho (r1.mono S2) r2 (PostV.step p (S1.trans S2))

theorem neg_snd {a : E} {x : Expr} {pos : Pos} (ha : EvS X C n sc ns a x) : EvS X C n sc ns (.neg a) (.UnaryOp .USub x pos) := by
  intro A env ρ φ H s Q Ex rm kd F R p
  refine wpAny_UnaryOp (ha A env ρ φ H s _ Ex rm kd F R (WE_mono p fun v H1 p => ?_))
  intro φ1 h1 tk x R1 S1 r1
  obtain ⟨i, rfl, p⟩ := wInt_ex p
  cases r1; exact PyProof.Rows.neg_int (p φ1 h1 _ _ R1 S1 (.int _ _))

theorem not_snd {a : E} {x : Expr} {pos : Pos} (G : X.Gl C) (ha : EvS X C n sc ns a x ∧ TrS X C n sc ns a x) : EvS X C n sc ns (.not a) (.UnaryOp .Not x pos) ∧ TrS X C n sc ns (.not a) (.UnaryOp .Not x pos) := by
  constructor
  · intro A env ρ φ H s Q Ex rm kd F R p
    refine wpAny_UnaryOp (ha.1 A env ρ φ H s _ Ex rm kd F R (WE_mono p fun v H1 p => ?_))
    intro φ1 h1 tk x R1 S1 r1
    obtain ⟨b, hb, p⟩ := wSome_ex p
    exact not_of (truthy_snd (s := { s with heap := h1, toks := tk }) G R1 r1 hb fun tk' => p φ1 h1 tk' _ R1 S1 (.bool _))
  · intro A env ρ φ H s Q Ex rm kd F R p
    exact wpAny_isTrue_Not (ha.2 A env ρ φ H s _ Ex rm kd F R p)

theorem and_snd {cs : List E} {es : List Expr} {pos : Pos} (h : LsS X C n sc ns cs es) : EvS X C n sc ns (.and cs) (.BoolOp .And es pos) ∧ TrS X C n sc ns (.and cs) (.BoolOp .And es pos) :=
  ⟨fun A env ρ φ H s Q Ex rm kd F R p => h.and A env ρ φ H s Q Ex pos rm kd F R p, fun A env ρ φ H s Q Ex rm kd F R p => wpAny_isTrue_BoolOp (h.andT A env ρ φ H s Q Ex rm kd F R p)⟩
theorem or_snd {cs : List E} {es : List Expr} {pos : Pos} (h : LsS X C n sc ns cs es) : EvS X C n sc ns (.or cs) (.BoolOp .Or es pos) ∧ TrS X C n sc ns (.or cs) (.BoolOp .Or es pos) :=
  ⟨fun A env ρ φ H s Q Ex rm kd F R p => h.or A env ρ φ H s Q Ex pos rm kd F R p, fun A env ρ φ H s Q Ex rm kd F R p => wpAny_isTrue_BoolOp (h.orT A env ρ φ H s Q Ex rm kd F R p)⟩

theorem noMarks {c : E} {e : Expr} (h : chkE X.K sc ns c e = true) (o : CmpOp) : behindInMarks o e = false := by
  cases e <;> first | rfl | skip
  exfalso
  cases c <;> exact Bool.noConfusion h

theorem cmpE_snd {op : COp} {o : CmpOp} {a b : E} {l r : Expr} {pos : Pos} (G : X.Gl C) (ho : copOk op o = true) (hr0 : chkE X.K sc ns b r = true) (ha : EvS X C n sc ns a l) (hb : EvS X C n sc ns b r) :
    EvS X C n sc ns (.cmp op a b) (.Compare l [o] [r] pos) ∧ TrS X C n sc ns (.cmp op a b) (.Compare l [o] [r] pos) := by
  constructor
  · intro A env ρ φ H s Q Ex rm kd F R p
    refine wpAny_Compare1 (ha A env ρ φ H s _ Ex rm kd F R (WE_mono p fun v H1 p => ?_)) (noMarks hr0 o)
    intro φ1 h1 tk x R1 S1 r1
    refine hb A env ρ φ1 H1 { s with heap := h1, toks := tk } _ Ex rm kd (F.mono0 S1) R1 (WE_mono p fun u H2 p => ?_)
    intro φ2 h2 tk2 y R2 S2 r2
    obtain ⟨b', hb', p⟩ := wSome_ex p
    exact cmp_snd (s := { s with heap := h2, toks := tk2 }) G R2 rm ho (r1.mono S2) r2 hb' fun tk' => p φ2 h2 tk' _ R2 (S1.trans S2) (.bool _)
  · intro A env ρ φ H s Q Ex rm kd F R p
    refine wpAny_isTrue_Compare1 (ha A env ρ φ H s _ Ex rm kd F R (WE_mono p fun v H1 p => ?_)) (noMarks hr0 o)
    intro φ1 h1 tk x R1 S1 r1
    refine hb A env ρ φ1 H1 { s with heap := h1, toks := tk } _ Ex rm kd (F.mono0 S1) R1 (WE_mono p fun u H2 p => ?_)
    intro φ2 h2 tk2 y R2 S2 r2
    obtain ⟨b', hc, p⟩ := wSome_ex p
    exact cmp_snd (s := { s with heap := h2, toks := tk2 }) G R2 rm ho (r1.mono S2) r2 hc fun tk' => wpAny_truthy_bool (p φ2 h2 tk' R2 (S1.trans S2))

theorem none_key {φ : List Addr} {h : Heap} {v : V} {x : Value} (r : Rep X.W.scr φ h v x) : plainIs x .none = true ∧ (x == Value.none) = isNoneV v := by
  cases r <;> exact ⟨rfl, rfl⟩
theorem isNone_snd {a : E} {l : Expr} {k : Nat} {kp pos : Pos} (ha : EvS X C n sc ns a l) :
    EvS X C n sc ns (.isNone a) (.Compare l [.Is] [.Constant .none k kp] pos) ∧ TrS X C n sc ns (.isNone a) (.Compare l [.Is] [.Constant .none k kp] pos) := by
  constructor
  · intro A env ρ φ H s Q Ex rm kd F R p
    refine wpAny_Compare1 (ha A env ρ φ H s _ Ex rm kd F R (WE_mono p fun v H1 p => ?_)) rfl
    intro φ1 h1 tk x R1 S1 r1
    refine wpAny_Constant_none (wpAny_is_plain (none_key r1).1 ?_)
    rw [(none_key r1).2]
    exact p φ1 h1 tk _ R1 S1 (.bool _)
  · intro A env ρ φ H s Q Ex rm kd F R p
    refine wpAny_isTrue_Compare1 (ha A env ρ φ H s _ Ex rm kd F R (WE_mono p fun v H1 p => ?_)) rfl
    intro φ1 h1 tk x R1 S1 r1
    refine wpAny_Constant_none (wpAny_is_plain (none_key r1).1 ?_)
    rw [(none_key r1).2]
    exact wpAny_truthy_bool (p φ1 h1 tk R1 S1)
theorem notNone_snd {a : E} {l : Expr} {k : Nat} {kp pos : Pos} (ha : EvS X C n sc ns a l) :
    EvS X C n sc ns (.notNone a) (.Compare l [.IsNot] [.Constant .none k kp] pos) ∧ TrS X C n sc ns (.notNone a) (.Compare l [.IsNot] [.Constant .none k kp] pos) := by
  constructor
  · intro A env ρ φ H s Q Ex rm kd F R p
    refine wpAny_Compare1 (ha A env ρ φ H s _ Ex rm kd F R (WE_mono p fun v H1 p => ?_)) rfl
    intro φ1 h1 tk x R1 S1 r1
    refine wpAny_Constant_none (wpAny_isNot_plain (none_key r1).1 ?_)
    rw [(none_key r1).2]
    exact p φ1 h1 tk _ R1 S1 (.bool _)
  · intro A env ρ φ H s Q Ex rm kd F R p
    refine wpAny_isTrue_Compare1 (ha A env ρ φ H s _ Ex rm kd F R (WE_mono p fun v H1 p => ?_)) rfl
    intro φ1 h1 tk x R1 S1 r1
    refine wpAny_Constant_none (wpAny_isNot_plain (none_key r1).1 ?_)
    rw [(none_key r1).2]
    exact wpAny_truthy_bool (p φ1 h1 tk R1 S1)

theorem chkEs_len {cs : List E} {es : List Expr} (h : chkEs X.K sc ns cs es = true) : cs.length = es.length := by
  induction cs generalizing es with
  | nil => cases es with
    | nil => rfl
    | cons _ _ => exact Bool.noConfusion h
  | cons c cs ih => cases es with
    | nil => exact Bool.noConfusion h
    | cons e es =>
      replace h : (chkE X.K sc ns c e && chkEs X.K sc ns cs es) = true := h
      rw [Bool.and_eq_true] at h
      rw [List.length_cons, List.length_cons, ih h.2]
theorem WEs_len {cs : List E} : ∀ {ρ : Env'} {H : Hp} {Q : List V → Hp → Prop}, WEs C cs ρ H Q → WEs C cs ρ H fun vs H => vs.length = cs.length ∧ Q vs H := by
  induction cs with
  | nil => exact fun h => ⟨rfl, h⟩
  | cons c cs ih => exact fun h => WE_mono h fun v H h => WEs_mono (ih h) fun vs H h => ⟨congrArg (· + 1) h.1, h.2⟩

theorem tup_snd {cs : List E} {es : List Expr} {k : Nat} {pos : Pos} (hl : cs.length < 1000) (h : LsS X C n sc ns cs es) : EvS X C n sc ns (.tup cs) (.Tuple es k pos) := by
  intro A env ρ φ H s Q Ex rm kd F R p
  refine wpAny_Tuple_spliced (h.spl A env ρ φ H s _ Ex pos rm kd F R (WEs_mono (WEs_len p) fun vs H1 p => ?_))
  intro φ1 h1 tk xs R1 S1 r1
  have := r1.length
  refine ⟨by unfold sizeLine; (first | lia | omega), ?_⟩
  refine p.2 φ1 _ tk _ (R1.ext fun _ _ e => Heap.get?_push_of_some _ e) (S1.trans (.push _)) (.tup (n := 0) (Heap.get?_push_size _ rfl) (r1.mono (own := []) (.push _)) (by (first | lia | omega)) R1.sizeNot)
theorem lst_snd {cs : List E} {es : List Expr} {pos : Pos} (hl : cs.length < 1000) (h : LsS X C n sc ns cs es) : EvS X C n sc ns (.lst cs) (.List es pos) := by
  intro A env ρ φ H s Q Ex rm kd F R p
  refine wpAny_List_spliced (h.spl A env ρ φ H s _ Ex pos rm kd F R (WEs_mono (WEs_len p) fun vs H1 p => ?_))
  intro φ1 h1 tk xs R1 S1 r1
  have := r1.length
  refine ⟨by unfold sizeLine; (first | lia | omega), ?_⟩
  exact alloc_snd (s := { s with heap := h1, toks := tk }) R1 r1 (by (first | lia | omega)) (PV.step p.2 S1) 0 tk

theorem notSlice_of {c : E} {e : Expr} (h : chkE X.K sc ns c e = true) : notSlice e = true := by
  cases e <;> first | rfl | skip
  exfalso
  cases c <;> exact Bool.noConfusion h
theorem idxE_snd {a i : E} {v sl : Expr} {pos : Pos} (G : X.Gl C) (h0 : chkE X.K sc ns i sl = true) (ha : EvS X C n sc ns a v) (hi : EvS X C n sc ns i sl) : EvS X C n sc ns (.idx a i) (.Subscript v sl pos) := by
  intro A env ρ φ H s Q Ex rm kd F R p
  refine Subscript_ (ha A env ρ φ H s _ Ex rm kd F R (WE_mono p fun v H1 p => ?_))
  intro φ1 h1 tk x R1 S1 r1
  refine hi A env ρ φ1 H1 { s with heap := h1, toks := tk } _ Ex rm kd (F.mono0 S1) R1 (WE_mono p fun u H2 p => ?_)
  intro φ2 h2 tk2 y R2 S2 r2
  obtain ⟨z, hx, p⟩ := wSome_ex p
  exact idx_snd (s := { s with heap := h2, toks := tk2 }) G R2 rm (notSlice_of h0) (r1.mono S2) r2 hx fun tk' z' rz => p φ2 h2 tk' z' R2 (S1.trans S2) rz

theorem evalArgs_of {f : Value} {args : List (Bool × Sem Value)} {Q : Args → Shared → Prop} (hp : args.any (·.1) = false) (h : wpAny X.M A (spliced args) (fun vs s' => Q ⟨vs, []⟩ s') Ex s) : wpAny X.M A (evalArgs f true args []) Q Ex s := by
  cases args with
  | nil =>
    unfold evalArgs
    show wpAny X.M A (spliced [] >>= _) Q Ex s
    refine wpAny_bind (wpAny_mono h (fun vs s' h' => ?_) fun _ _ x => x)
    refine wpAny_bind (wpAny_pure (wpAny_holding ?_))
    exact wpAny_bind (wpAny_pure (wpAny_bind (wpAny_pure (wpAny_pure h'))))
  | cons a r =>
    obtain ⟨b, t⟩ := a
    simp only [List.any_cons, Bool.or_eq_false_iff] at hp
    obtain ⟨rfl, _⟩ := hp
    exact Calls.evalArgs_plain h

theorem call_snd {f : Nat} {x : Str} {cs : List E} {es : List Expr} {np pos : Pos} (G : X.Gl C) (hc : X.CallOk C n) (h1 : X.K.fns[f]? = some x) (h2 : okGlob sc x = true) (h : LsS X C n sc ns cs es) :
    EvS X C n sc ns (.call f cs) (.Call (.Name x np) es [] pos) := by
  intro A env ρ φ H s Q Ex rm kd F R p
  refine wpAny_Call_NameR (glob_fn G kd F R h1 h2 fun a ha => ?_)
  obtain ⟨a', o, d, pm, cd, doc, e1, e2, e3, e4, e5, _⟩ := G.1.fn f x h1
  rw [ha] at e3; cases e3
  refine Calls.callWith_function (o := o) (fd := docDef d.name d.params d.body d.scope pm cd doc) (evalArgs_of (h.plain env pos) (h.spl A env ρ φ H s _ Ex pos rm kd F R (WEs_mono p fun vs H1 p => ?_)))
  intro φ1 h1' tk xs R1 S1 r1
  exact ⟨⟨R1.keep _ _ e4, e5⟩, by simpa using hc A f x a vs H1 φ1 { s with heap := h1', toks := tk } xs Q Ex rm h1 ha R1 r1 (WCall_mono p fun _ _ p => p.step S1)⟩
end
end Mine

end
section
set_option autoImplicit false
set_option linter.unusedVariables false
set_option linter.unusedSimpArgs false
namespace Mine
open PySem PySem.Calls PyProof.Rows

/-- what a statement may change of the frame -/
noncomputable def OwnV (env : Env) (own : List Addr) (x : Str) : Prop := (env.kindOf x = some .local ∧ env.locals ∈ own) ∨ (env.kindOf x = some .cell ∧ ∀ c, env.cells.lookup x = some c → c ∈ own)

section
variable {X : Fix} {C : Ctx} {A : Around} {n : Nat} {Ex : Value → Shared → Prop} {s : Shared} {φ : List Addr} {H : Hp} {sc : Scope} {ns : List Str} {env : Env} {ρ : Env'} {own : List Addr}

/-- a name is stored -/
theorem store_snd {x : Str} {i : Nat} {v : V} {y : Value} {Q : Unit → Shared → Prop} (hi : ns.idxOf x = i) (hx : x ∈ ns) (ho : OwnV env own x) (F : FR X.W env ns ρ φ s.heap) (R : SR X.W φ H s.heap) (r : Rep X.W.scr φ s.heap v y)
    (hQ : ∀ h' tk, SR X.W φ H h' → FR X.W env ns (ρ.set i (some v)) φ h' → Stp own φ s.heap φ h' → Q () { s with heap := h', toks := tk }) : wpAny X.M A (bindName env x y) Q Ex s := by
  have hil : i < ρ.length := by rw [F.len, ← hi]; exact List.idxOf_lt_length_of_mem hx
  have hlk : ∀ z ∈ ns, lk ns (ρ.set i (some v)) z = if z = x then some v else lk ns ρ z := by
    intro z hz
    rw [lk_set hi hil]
    by_cases e : z = x
    · subst e; rw [if_pos hi, if_pos rfl]
    · rw [if_neg e, if_neg (fun e' => e (idxOf_inj hz hx (e'.trans hi.symm)))]
  unfold bindName
  refine wpAny_bind (wpAny_holding (wpAny_point (wpAny_bind ?_)))
  rcases ho with ⟨hk, hL⟩ | ⟨hk, hc⟩
  · obtain ⟨m, hm, hr⟩ := F.loc
    obtain ⟨o, es, ep, hg, hd, _⟩ := id hm
    refine wpAny_storeName_local hk hm (fun h' hn hs => wpAny_point ?_) (by rw [F.fn]; rfl)
    obtain ⟨o', es', ep', hg', _⟩ := id hn
    have S : Stp own φ s.heap φ h' := .but (.inl hL) hg (notTup_dict hd) hg' hs.extBut
    refine hQ h' _ (R.but F.locA.1 F.locA.2 hg (notTup_dict hd) hg' hs.extBut) ⟨F.fn, F.glob, F.blt, F.gen, F.code, by rw [List.length_set]; exact F.len, ?_, F.locA, ?_, F.apart, fun p hp => ⟨(F.alive p hp).1, S.alive _ _ (F.alive p hp).2.choose_spec⟩⟩ S
    · refine ⟨_, hn, fun z hz hkz => ?_⟩
      rw [hlk z hz]
      by_cases e : z = x
      · subst e; simp only [if_true]; exact .some (r.mono S)
      · simp only [if_neg e]; exact (hr z hz hkz).mono S
    · intro z hz hkz
      obtain ⟨c, v', h1, h2, h3, h4, h5, h6⟩ := F.cel z hz hkz
      refine ⟨c, v', h1, h2, h3, h4, IsCell_at h5 fun o e => hs.extBut c o h3 e, ?_⟩
      rw [hlk z hz, if_neg (fun e => by subst e; rw [hk] at hkz; rcases hkz with hkz | hkz <;> cases hkz)]
      exact h6.mono S
  · obtain ⟨c, v', h1, h2, h3, h4, h5, h6⟩ := F.cel x hx (.inl hk)
    obtain ⟨o, hg, hd⟩ := id h5
    refine wpAny_storeName_cell F.fn hk h1 h5 fun h' hn hs => wpAny_point ?_
    obtain ⟨o', hg', _⟩ := id hn
    have S : Stp own φ s.heap φ h' := .but (.inl (hc c h1)) hg (notTup_cell hd) hg' hs.extBut
    refine hQ h' s.toks (R.but h2 h4 hg (notTup_cell hd) hg' hs.extBut) ⟨F.fn, F.glob, F.blt, F.gen, F.code, by rw [List.length_set]; exact F.len, ?_, F.locA, ?_, F.apart, fun p hp => ⟨(F.alive p hp).1, S.alive _ _ (F.alive p hp).2.choose_spec⟩⟩ S
    · obtain ⟨m, hm, hr⟩ := F.loc
      refine ⟨m, Ns_at hm fun o e => hs.extBut _ o h3.symm e, fun z hz hkz => ?_⟩
      rw [hlk z hz, if_neg (fun e => by subst e; rw [hk] at hkz; cases hkz)]
      exact (hr z hz hkz).mono S
    · intro z hz hkz
      rw [hlk z hz]
      by_cases e : z = x
      · subst e
        rw [if_pos rfl]
        exact ⟨c, some y, h1, h2, h3, h4, hn, .some (r.mono S)⟩
      · rw [if_neg e]
        obtain ⟨c', v2, q1, q2, q3, q4, q5, q6⟩ := F.cel z hz hkz
        have hne : c' ≠ c := fun e' => e (F.apart z x c (e' ▸ q1) h1)
        exact ⟨c', v2, q1, q2, q3, q4, IsCell_at q5 fun o e => hs.extBut _ o hne e, q6.mono S⟩

/-- all names that a target may store are the frame's own -/
noncomputable def OwnN (env : Env) (own : List Addr) (xs : List Str) : Prop := ∀ x ∈ xs, OwnV env own x

theorem size_none (h : Heap) : h.get? h.objs.size = none := by
  cases e : h.get? h.objs.size with
  | none => rfl
  | some o => exact absurd (Heap.lt_size e) (Nat.lt_irrefl _)
theorem extNew {h h' : Heap} (he : Heap.ExtBut h.objs.size h h') : ∀ a o, h.get? a = some o → h'.get? a = some o := fun a o e => he a o (fun e' => by subst e'; rw [size_none] at e; cases e) e

mutual
theorem asg_snd : ∀ (t : Tgt) (e : Expr) (v : V) (y : Value) (A : Around) (ρ ρ' : Env') (φ : List Addr) (H : Hp) (s : Shared) (Q : Unit → Shared → Prop) (Ex : Value → Shared → Prop), chkT sc ns t e = true → OwnN env own (tNames t e) → Room A n → FR X.W env ns ρ φ s.heap → SR X.W φ H s.heap → Rep X.W.scr φ s.heap v y →
    asg t v ρ = some ρ' → (∀ h' tk, SR X.W φ H h' → FR X.W env ns ρ' φ h' → Stp own φ s.heap φ h' → Q () { s with heap := h', toks := tk }) → wpAny X.M A (assign e env y) Q Ex s
  | .var i, e, v, y, A, ρ, ρ', φ, H, s, Q, Ex, h, ho, rm, F, R, r, ea, hQ => by
    replace h := ifName.spec h
    obtain ⟨x, pos, rfl, h⟩ := h
    rw [Bool.and_eq_true] at h
    obtain ⟨hi, hx⟩ := okVar_spec h.1
    change (if i < ρ.length then some (ρ.set i (some v)) else none) = _ at ea
    split at ea
    · cases ea
      rw [PySem.assign_Name]
      refine wpAny_bind (wpAny_standAt ?_)
      exact store_snd hi hx (ho x (show x ∈ [x] from List.mem_singleton.mpr rfl)) F R r hQ
    · cases ea
  | .tup ts, e, v, y, A, ρ, ρ', φ, H, s, Q, Ex, h, ho, rm, F, R, r, ea, hQ => by
    replace h := ifTuple.spec h
    obtain ⟨es, k, pos, rfl, h⟩ := h
    obtain ⟨vs, rfl⟩ : ∃ vs, v = .tup vs := by cases v <;> first | cases ea | exact ⟨_, rfl⟩
    change asgs ts vs ρ = _ at ea
    obtain ⟨a, xs, k', rfl, h1, h2, h3⟩ := tupAt r
    obtain ⟨hlen, hst⟩ := asgs_shape ts es vs ρ ρ' h ea
    refine wpAny_assign_Tuple rm.handled ⟨_, h1, rfl, k', rfl⟩ (by rw [(hst env).1, List.size_toArray, ← h2.length, hlen]) ?_ fun h' he => ?_
    · exact (hst env).2
    · have hk := extNew he
      exact asgs_snd ts es vs xs A ρ ρ' φ H { s with heap := h' } Q Ex h (fun x hx => ho x hx) rm (F.mono0 (.ext hk)) (R.ext hk) (h2.mono (own := []) (.ext hk)) ea
        fun h2 tk q1 q2 q3 => hQ h2 tk q1 q2 (Stp.trans (.ext hk) q3)
theorem asgs_shape : ∀ (ts : List Tgt) (es : List Expr) (vs : List V) (ρ ρ' : Env'), chkTs sc ns ts es = true → asgs ts vs ρ = some ρ' → es.length = vs.length ∧ ∀ env, (assignEach es env).length = es.length ∧ (assignEach es env).findIdx? (·.1) = none
  | [], [], [], _, _, _, _ => ⟨rfl, fun _ => ⟨rfl, rfl⟩⟩
  | [], [], _ :: _, _, _, _, ea => by cases ea
  | [], _ :: _, _, _, _, h, _ => Bool.noConfusion h
  | _ :: _, [], _, _, _, h, _ => Bool.noConfusion h
  | _ :: _, _ :: _, [], _, _, _, ea => by cases ea
  | t :: ts, e :: es, v :: vs, ρ, ρ', h, ea => by
    replace h := Bool.and_eq_true_iff.mp h
    change (asg t v ρ).bind (asgs ts vs) = _ at ea
    obtain ⟨ρ1, e1, e2⟩ := Option.bind_eq_some_iff.mp ea
    obtain ⟨q1, q2⟩ := asgs_shape ts es vs ρ1 ρ' h.2 e2
    have hs : ∀ env, assignEach (e :: es) env = (false, assign e env) :: assignEach es env := by
      intro env
      cases e <;> first | rfl | skip
      exfalso
      cases t <;> exact Bool.noConfusion h.1
    refine ⟨by simp [q1], fun env => ?_⟩
    rw [hs]
    refine ⟨by simp [(q2 env).1], ?_⟩
    rw [List.findIdx?_cons]
    simp [(q2 env).2]
theorem asgs_snd : ∀ (ts : List Tgt) (es : List Expr) (vs : List V) (ys : List Value) (A : Around) (ρ ρ' : Env') (φ : List Addr) (H : Hp) (s : Shared) (Q : Unit → Shared → Prop) (Ex : Value → Shared → Prop), chkTs sc ns ts es = true → OwnN env own (tNamess ts es) → Room A n → FR X.W env ns ρ φ s.heap → SR X.W φ H s.heap → RepL X.W.scr φ s.heap vs ys →
    asgs ts vs ρ = some ρ' → (∀ h' tk, SR X.W φ H h' → FR X.W env ns ρ' φ h' → Stp own φ s.heap φ h' → Q () { s with heap := h', toks := tk }) → wpAny X.M A (assignInOrder ((assignEach es env).map (·.2)) ys) Q Ex s
  | [], es, vs, ys, A, ρ, ρ', φ, H, s, Q, Ex, h, ho, rm, F, R, r, ea, hQ => by
    obtain rfl := List.isEmpty_iff.mp h
    cases vs <;> cases ea
    cases r
    exact wpAny_pure (hQ s.heap s.toks R F .refl)
  | t :: ts, es, vs, ys, A, ρ, ρ', φ, H, s, Q, Ex, h, ho, rm, F, R, r, ea, hQ => by
    cases es with
    | nil => exact Bool.noConfusion h
    | cons e es =>
      replace h := Bool.and_eq_true_iff.mp h
      cases vs with
      | nil => cases ea
      | cons v vs =>
        change (asg t v ρ).bind (asgs ts vs) = _ at ea
        obtain ⟨ρ1, e1, e2⟩ := Option.bind_eq_some_iff.mp ea
        have hs : assignEach (e :: es) env = (false, assign e env) :: assignEach es env := by
          cases e <;> first | rfl | skip
          exfalso
          cases t <;> exact Bool.noConfusion h.1
        cases r with
        | cons r1 r2 =>
          rw [hs]
          refine wpAny_assignInOrder_more ?_
          refine asg_snd t e v _ A ρ ρ1 φ H s _ Ex h.1 (fun x hx => ho x (show x ∈ tNames t e ++ tNamess ts es from List.mem_append.mpr (.inl hx))) rm F R r1 e1 fun h1 tk q1 q2 q3 => ?_
          exact asgs_snd ts es vs _ A ρ1 ρ' φ H { s with heap := h1, toks := tk } Q Ex h.2 (fun x hx => ho x (show x ∈ tNames t e ++ tNamess ts es from List.mem_append.mpr (.inr hx))) rm q2 q1 (r2.mono q3) e2 fun h2 tk2 w1 w2 w3 => hQ h2 tk2 w1 w2 (q3.trans w3)
end
end
end Mine

end
section
set_option autoImplicit false
set_option linter.unusedVariables false
set_option linter.unusedSimpArgs false
namespace Mine
open PySem PySem.Calls PyProof.Rows

noncomputable def PostO (W : Wo) (env : Env) (ns : List Str) (own : List Addr) (φ : List Addr) (s : Shared) (Q : Flow → Shared → Prop) : Out → Prop
  | .next ρ H => ∀ φ' h' tk, SR W φ' H h' → FR W env ns ρ φ' h' → Stp own φ s.heap φ' h' → Q .next { s with heap := h', toks := tk }
  | .ret v H => ∀ φ' h' tk x, SR W φ' H h' → Stp own φ s.heap φ' h' → Rep W.scr φ' h' v x → Q (.ret x) { s with heap := h', toks := tk }

/-- an iterator over the items `vs`, at its place -/
structure Itr (X : Fix) (n : Nat) (tg : Expr) (φ₀ : List Addr) (h₁ : Heap) (H₀ : Hp) (ws : List Nat) (vs : List V) (I : Addr) (io : List Addr) (St : Nat → Heap → Prop) : Prop where
  keep : ∀ i h h', St i h → (∀ a ∈ io, ∀ o, h.get? a = some o → h'.get? a = some o) → St i h'
  live : ∀ i h, St i h → ∀ a ∈ io, ∃ o, h.get? a = some o
  item : ∀ (A : Around) (φ : List Addr) (H : Hp) (s : Shared) (i : Nat) (v : V) (Q : Option Value → Shared → Prop) (Ex : Value → Shared → Prop), Room A n → Kp φ₀ h₁ φ s.heap → SR X.W φ H s.heap → stands ws H₀ H = true → St i s.heap →
    (∀ a ∈ io, a ∉ φ ∧ X.W.h₀.get? a = none) → vs[i]? = some v →
    (∀ y s₁, (∀ (Q' : Unit → Shared → Prop) (Ex' : Value → Shared → Prop), (∀ h' tk, SR X.W φ H h' → Stp io φ s.heap φ h' → St (i + 1) h' → Rep X.W.scr φ h' v y → Q' () { s with heap := h', toks := tk }) → wpAny X.M A (letOwnedTupleGo tg (.ref I) y) Q' Ex' s₁) → Q (some y) s₁) →
    wpAny X.M A (pyNext (.ref I)) Q Ex s
  done : ∀ (A : Around) (φ : List Addr) (H : Hp) (s : Shared) (i : Nat) (Q : Option Value → Shared → Prop) (Ex : Value → Shared → Prop), Room A n → Kp φ₀ h₁ φ s.heap → SR X.W φ H s.heap → stands ws H₀ H = true → St i s.heap →
    (∀ a ∈ io, a ∉ φ ∧ X.W.h₀.get? a = none) → vs[i]? = none →
    (∀ h' tk, SR X.W φ H h' → Fin2 io φ s.heap h' → Q none { s with heap := h', toks := tk }) → wpAny X.M A (pyNext (.ref I)) Q Ex s
  self : ∀ (A : Around) (s : Shared) (Q : Value → Shared → Prop) (Ex : Value → Shared → Prop), Room A n → St 0 s.heap → Q (.ref I) s → wpAny X.M A (pyIter (.ref I)) Q Ex s

section
variable {prog : Program} {w : World} {A : Around} {R : Result → Shared → Prop} {s : Shared}
/-- a for loop, what it unpacks let go -/
theorem forLoop_any {target : Expr} {it : Value} {body : List Stmt} {env : Env} (I : Nat → Shared → Prop)
    (turn : ∀ n s, I n s → wpAny (model prog w) A (pyNext it) (fun r s₁ => match r with
      | none => R (.ok .next) s₁
      | some v => wpAny (model prog w) A (letOwnedTupleGo target it v) (fun _ s₁ => wpAny (model prog w) A (assign target env v) (fun _ s₂ => wpAny (model prog w) A (execs body env) (fun f s₃ => match f with
          | .next | .cont => ∃ m, m < n ∧ I m s₃
          | .brk => R (.ok .next) s₃
          | .ret v => R (.ok (.ret v)) s₃) (notedBy (model prog w) A env fun e s' => R (.error e) s') s₂) (notedBy (model prog w) A env fun e s' => R (.error e) s') s₁) (notedBy (model prog w) A env fun e s' => R (.error e) s') s₁)
      (notedBy (model prog w) A env fun e s' => R (.error e) s') s)
    (n : Nat) (h : I n s) : codeAny (model prog w) A (.forLoop target it body [] env) R s := by
  refine codeAny_loop' rfl I (fun n s hI => ?_) n h
  show wpAny _ _ ((forTurn target it body [] env).onRaise (fun x => do noteFrame x env; theTreesLotGoes x)) _ _ s
  refine wpAny_noted ?_
  simp only [forTurn]
  refine wpAny_bind (wpAny_standAt (wpAny_bind (wpAny_onRaise (wpAny_mono (turn n s hI) (fun r s₁ h₁ => ?_) fun _ _ h' => wpAny_standAt h'))))
  cases r with
  | none => exact wpAny_pure (.inr ⟨rfl, codeAny_block (wpAny_execs_nil h₁)⟩)
  | some v =>
    refine wpAny_bind (wpAny_mono h₁ (fun _ s₂ h₂ => ?_) fun _ _ h' => h')
    refine wpAny_bind (wpAny_mono h₂ (fun _ s₂ h₂ => wpAny_bind (wpAny_mono h₂ (fun f s₃ h₃ => ?_) fun _ _ h' => h')) fun _ _ h' => h')
    cases f with
    | next => exact wpAny_pure (.inl ⟨rfl, h₃⟩)
    | cont => exact wpAny_pure (.inl ⟨rfl, h₃⟩)
    | brk => exact wpAny_pure h₃
    | ret v => exact wpAny_pure h₃
end

section
variable {X : Fix} {C : Ctx} {A : Around} {n : Nat} {Ex : Value → Shared → Prop} {s : Shared} {φ : List Addr} {H : Hp} {sc : Scope} {ns : List Str} {env : Env} {ρ : Env'} {own : List Addr}

theorem PostO.step {Q : Flow → Shared → Prop} {o : Out} {φ₁ : List Addr} {h₁ : Heap} {tk : Nat} (p : PostO X.W env ns own φ s Q o) (S : Stp own φ s.heap φ₁ h₁) : PostO X.W env ns own φ₁ { s with heap := h₁, toks := tk } Q o := by
  cases o with
  | next ρ H => exact fun φ' h' tk r1 r2 r3 => p φ' h' tk r1 r2 (S.trans r3)
  | ret v H => exact fun φ' h' tk x r1 r2 r3 => p φ' h' tk x r1 (S.trans r2) r3

noncomputable def OwnF (env : Env) (own : List Addr) (ns : List Str) : Prop := OwnN env own ns ∧ ∀ a ∈ own, a = env.locals ∨ ∃ p ∈ env.cells, p.2 = a

/-- the body of a loop, or of a def: a list of statements -/
noncomputable def SsS (X : Fix) (C : Ctx) (n : Nat) (sc : Scope) (ns : List Str) (cs : List S) (ss : List Stmt) : Prop :=
  ∀ (A : Around) (env : Env) (own : List Addr) (ρ : Env') (φ : List Addr) (H : Hp) (s : Shared) (Q : Flow → Shared → Prop) (Ex : Value → Shared → Prop),
    Room A n → Kinds sc env → OwnF env own ns → FR X.W env ns ρ φ s.heap → SR X.W φ H s.heap → WSs C cs ρ H (PostO X.W env ns own φ s Q) → wpAny X.M A (execs ss env) Q Ex s
noncomputable def SS (X : Fix) (C : Ctx) (n : Nat) (sc : Scope) (ns : List Str) (c : S) (st : Stmt) : Prop :=
  ∀ (A : Around) (env : Env) (own : List Addr) (ρ : Env') (φ : List Addr) (H : Hp) (s : Shared) (Q : Flow → Shared → Prop) (Ex : Value → Shared → Prop),
    Room A n → Kinds sc env → OwnF env own ns → FR X.W env ns ρ φ s.heap → SR X.W φ H s.heap → WS C c ρ H (PostO X.W env ns own φ s Q) → wpAny X.M A (exec st env) Q Ex s

theorem tNames_sub : ∀ (t : Tgt) (e : Expr), chkT sc ns t e = true → ∀ x ∈ tNames t e, x ∈ ns := by
  have both : ∀ (k : Nat), (∀ (t : Tgt) (e : Expr), sizeOf t < k → chkT sc ns t e = true → ∀ x ∈ tNames t e, x ∈ ns) ∧ (∀ (ts : List Tgt) (es : List Expr), sizeOf ts < k → chkTs sc ns ts es = true → ∀ x ∈ tNamess ts es, x ∈ ns) := by
    intro k
    induction k with
    | zero => exact ⟨fun _ _ h => absurd h (Nat.not_lt_zero _), fun _ _ h => absurd h (Nat.not_lt_zero _)⟩
    | succ k ih =>
      refine ⟨fun t e hk h x hx => ?_, fun ts es hk h x hx => ?_⟩
      · cases t with
        | var i =>
          replace h := ifName.spec h
          obtain ⟨y, p, rfl, h⟩ := h
          rw [Bool.and_eq_true] at h
          rw [show tNames (.var i) (.Name y p) = [y] from rfl, List.mem_singleton] at hx
          subst hx
          exact (okVar_spec h.1).2
        | tup ts =>
          replace h := ifTuple.spec h
          obtain ⟨es, k', p, rfl, h⟩ := h
          exact ih.2 ts _ (by simp at hk; (first | lia | omega)) h x hx
      · cases ts with
        | nil => cases es <;> exact absurd (show x ∈ ([] : List Str) from hx) List.not_mem_nil
        | cons t ts =>
          cases es with
          | nil => exact absurd (show x ∈ ([] : List Str) from hx) List.not_mem_nil
          | cons e es =>
            replace h := Bool.and_eq_true_iff.mp h
            simp at hk
            rcases List.mem_append.mp (show x ∈ tNames t e ++ tNamess ts es from hx) with hx | hx
            · exact ih.1 t e (by (first | lia | omega)) h.1 x hx
            · exact ih.2 ts es (by (first | lia | omega)) h.2 x hx
  exact fun t e => (both (sizeOf t + 1)).1 t e (Nat.lt_succ_self _)

theorem mem_of_lookup' {x : Str} {c : Addr} : ∀ {l : List (Str × Addr)}, l.lookup x = some c → (x, c) ∈ l
  | [], h => by cases h
  | (y, d) :: r, h => by
    rw [List.lookup_cons] at h
    split at h
    · rename_i e
      cases h
      rw [eq_of_beq e]
      exact .head _
    · exact .tail _ (mem_of_lookup' h)

/-- what holds between two turns of a for loop -/
inductive FTurn (X : Fix) (C : Ctx) (s : Shared) (φ₀ φ : List Addr) (h1 : Heap) (env : Env) (ns : List Str) (own : List Addr) (H₀ : Hp) (ws : List Nat) (vs : List V) (io : List Addr) (St : Nat → Heap → Prop) (t : Tgt) (body : List S) (Q : Flow → Shared → Prop) (k : Nat) (s' : Shared) : Prop
  | mk (i : Nat) (ρ' : Env') (H' : Hp) (φ' : List Addr) (h' : Heap) (tk : Nat) (e1 : s' = { s with heap := h', toks := tk }) (e2 : k = (vs.drop i).length + 1) (F : FR X.W env ns ρ' φ' h') (R : SR X.W φ' H' h') (hw : stands ws H₀ H' = true) (st : St i h') (hio : ∀ a ∈ io, a ∉ φ' ∧ X.W.h₀.get? a = none)
    (S : Stp own φ₀ s.heap φ' h') (kp : Kp φ h1 φ' h') (p : forW ws H₀ t (fun ρ H K => WSs C body ρ H K) (vs.drop i) ρ' H' (PostO X.W env ns own φ₀ s Q)) : FTurn X C s φ₀ φ h1 env ns own H₀ ws vs io St t body Q k s'

/-- the turns of a for loop: `s₀` is where it was, ahead of its iterator -/
theorem turns_snd {t : Tgt} {tg : Expr} {body : List S} {bs : List Stmt} {H₀ : Hp} {ws : List Nat} {vs : List V} {I : Addr} {io φ₀ : List Addr} {St : Nat → Heap → Prop} {Q : Flow → Shared → Prop} {h1 : Heap} {tk1 : Nat}
    (rm : Room A n) (kd : Kinds sc env) (hown : OwnF env own ns) (ht : chkT sc ns t tg = true) (hb : SsS X C n sc ns body bs) (it : Itr X n tg φ h1 H₀ ws vs I io St) (hnew : ∀ a ∈ io, s.heap.get? a = none) (S0 : Stp own φ₀ s.heap φ h1)
    (F : FR X.W env ns ρ φ h1) (R : SR X.W φ H h1) (hw : stands ws H₀ H = true) (hst : St 0 h1) (hio : ∀ a ∈ io, a ∉ φ ∧ X.W.h₀.get? a = none) (hfr : ∀ a ∈ io, a ≠ env.locals ∧ a ∉ own ∧ ∀ p ∈ env.cells, p.2 ≠ a)
    (p : forW ws H₀ t (fun ρ H K => WSs C body ρ H K) vs ρ H (PostO X.W env ns own φ₀ s Q)) :
    codeAny X.M A (.forLoop tg (.ref I) bs [] env) (fun r s' => match r with | .ok f => Q f s' | .error e => cameBackBy X.M A env Ex e s') { s with heap := h1, toks := tk1 } := by
  refine forLoop_any (FTurn X C s φ₀ φ h1 env ns own H₀ ws vs io St t body Q) ?_ (vs.length + 1)
    ⟨0, ρ, H, φ, h1, tk1, rfl, by simp, F, R, hw, hst, hio, S0, .refl, by simpa using p⟩
  have hC : ∀ x c, env.cells.lookup x = some c → c ∉ io := fun x c hx hm => (hfr c hm).2.2 _ (mem_of_lookup' hx) rfl
  rintro k s' ⟨i, ρ', H', φ', h', tk, rfl, rfl, F', R', hw', hst', hio', S', hpre', p'⟩
  have step : ∀ {φ₂ : List Addr} {h₂ : Heap}, Stp io φ' h' φ₂ h₂ → Stp own φ₀ s.heap φ₂ h₂ := fun T =>
    Stp.drop (own := io ++ own) ((S'.sub fun a ha => List.mem_append_right _ ha).trans (T.sub fun a ha => List.mem_append_left _ ha)) fun a ha hn => hnew a ((List.mem_append.mp ha).resolve_right hn)
  cases hv : vs[i]? with
  | none =>
    refine it.done A φ' H' { s with heap := h', toks := tk } i _ _ rm hpre' R' hw' hst' hio' hv fun h2 tk2 R2 S2 => ?_
    have hd : vs.drop i = [] := List.drop_eq_nil_iff.mpr (List.getElem?_eq_none_iff.mp hv)
    rw [hd] at p'
    exact p' φ' h2 tk2 R2 (F'.fin2 S2 (fun hm => (hfr _ hm).1 rfl) fun p hp hm => (hfr _ hm).2.2 p hp rfl) (S'.fin2 S2 hnew)
  | some v =>
    refine it.item A φ' H' { s with heap := h', toks := tk } i v _ _ rm hpre' R' hw' hst' hio' hv fun y s₁ hl => ?_
    refine hl _ _ fun h2 tk2 R2 S2 st2 r2 => ?_
    have hlt := (List.getElem?_eq_some_iff.mp hv).1
    have hd : vs.drop i = v :: vs.drop (i + 1) := by rw [List.drop_eq_getElem_cons hlt, (List.getElem?_eq_some_iff.mp hv).2]
    rw [hd] at p'
    have F2 := F'.mono S2 (fun hm => (hfr _ hm).1 rfl) hC
    obtain ⟨ρ2, ha, p'⟩ := wSome_ex p'
    have S3 : Stp own φ₀ s.heap φ' h2 := step S2
    refine asg_snd (own := own) t tg v y A ρ' ρ2 φ' H' { s with heap := h2, toks := tk2 } _ _ ht (fun x hx => hown.1 x (tNames_sub t tg ht x hx)) rm F2 R2 r2 ha fun h3 tk3 R3 F3 S4 => ?_
    have S5 : Stp own φ₀ s.heap φ' h3 := S3.trans S4
    have st3 : St (i + 1) h3 := it.keep _ _ _ st2 fun a ha o e => S4.keep a o e (hio' a ha).1 (hfr a ha).2.1
    refine hb A env own ρ2 φ' H' { s with heap := h3, toks := tk3 } _ _ rm kd hown F3 R3 (WSs_mono p' fun o p4 => ?_)
    cases o with
    | next ρ4 H4 =>
      intro φ4 h4 tk4 R4 F4 S6
      refine ⟨(vs.drop (i + 1)).length + 1, by rw [hd]; simp, i + 1, ρ4, H4, φ4, h4, tk4, rfl, rfl, F4, R4, p4.1, ?_, ?_, S5.trans S6, ?_, p4.2⟩
      · exact it.keep _ _ _ st3 fun a ha o e => S6.keep a o e (hio' a ha).1 (hfr a ha).2.1
      · intro a ha
        obtain ⟨o, ho⟩ := it.live _ _ st3 a ha
        exact ⟨S6.notMem ho (hio' a ha).1, (hio' a ha).2⟩
      · exact ((hpre'.trans S2.kp).trans S4.kp).trans S6.kp
    | ret v4 H4 => exact fun φ4 h4 tk4 x r1 r2 r3 => p4 φ4 h4 tk4 x r1 (S5.trans r2) r3

/-- what an iterable of the fragment gives -/
noncomputable def PostI (X : Fix) (n : Nat) (tg : Expr) (φ : List Addr) (s : Shared) (Q : Value → Shared → Prop) (p : List V × List Nat) (H : Hp) : Prop :=
  ∀ φ' h' tk I io St, SR X.W φ' H h' → Stp [] φ s.heap φ' h' → Itr X n tg φ' h' H p.2 p.1 I io St → St 0 h' → (∀ a ∈ io, a ∉ φ' ∧ s.heap.get? a = none ∧ X.W.h₀.get? a = none) → Q (.ref I) { s with heap := h', toks := tk }
noncomputable def ItS (X : Fix) (C : Ctx) (n : Nat) (sc : Scope) (ns : List Str) (it : It) (e : Expr) : Prop :=
  (∀ env x, foldedSetIterable e env x = pure x) ∧
  ∀ (A : Around) (env : Env) (ρ : Env') (φ : List Addr) (H : Hp) (s : Shared) (tg : Expr) (Q : Value → Shared → Prop) (Ex : Value → Shared → Prop),
    Room A n → Kinds sc env → FR X.W env ns ρ φ s.heap → SR X.W φ H s.heap → tgOk it tg = true → WIt C it ρ H (PostI X n tg φ s Q) → wpAny X.M A (eval e env) (fun x s₁ => wpAny X.M A (pyIter x) Q Ex s₁) Ex s

theorem OwnF.alive (h : OwnF env own ns) (F : FR X.W env ns ρ φ s.heap) : ∀ a ∈ own, ∃ o, s.heap.get? a = some o := by
  intro a ha
  rcases h.2 a ha with rfl | ⟨p, hp, rfl⟩
  · obtain ⟨m, ⟨o, es, ep, ho, _⟩, _⟩ := F.loc; exact ⟨o, ho⟩
  · exact (F.alive p hp).2

theorem for_snd {t : Tgt} {it : It} {tg iter : Expr} {body : List S} {bs : List Stmt} {pos : Pos} (ht : chkT sc ns t tg = true) (htg : tgOk it tg = true) (hit : ItS X C n sc ns it iter) (hb : SsS X C n sc ns body bs) :
    SS X C n sc ns (.for t it body) (.For tg iter bs [] pos) := by
  intro A env own ρ φ H s Q Ex rm kd hown F R p
  refine wpAny_For (hit.2 A env ρ φ H s tg _ Ex rm kd F R htg (mnIt C it ρ H _ _ (fun q H1 p => ?_) p)) (hit.1 env)
  obtain ⟨vs, ws⟩ := q
  intro φ1 h1 tk I io St R1 S1 it1 st1 hio
  have F1 := F.mono0 S1
  have hL : ∃ o, s.heap.get? env.locals = some o := by obtain ⟨m, ⟨o, es, ep, ho, _⟩, _⟩ := F.loc; exact ⟨o, ho⟩
  refine turns_snd (H := H1) (own := own) (ρ := ρ) (s := s) (h1 := h1) (tk1 := tk) rm kd hown ht hb it1 (fun a ha => (hio a ha).2.1) S1.nil F1 R1 ?_ st1 (fun a ha => ⟨(hio a ha).1, (hio a ha).2.2⟩) (fun a ha => ⟨?_, ?_, ?_⟩) p
  · simp [stands]
  · rintro rfl
    obtain ⟨o, ho⟩ := hL
    rw [(hio _ ha).2.1] at ho; cases ho
  · intro hm
    obtain ⟨o, ho⟩ := hown.alive F a hm
    rw [(hio _ ha).2.1] at ho; cases ho
  · rintro p hp rfl
    obtain ⟨_, o, ho⟩ := F.alive p hp
    rw [(hio _ ha).2.1] at ho; cases ho
end
end Mine

end
section
set_option autoImplicit false
set_option linter.unusedVariables false
set_option linter.unusedSimpArgs false
namespace Mine
open PySem PySem.Calls PyProof.Rows

noncomputable def pairGivers : List String := ["enumerate", "zip", "dict_itemiterator", "dict_reverseitemiterator", "odict_iterator", "itertools.zip_longest", "itertools.pairwise"]

section
variable {X : Fix} {C : Ctx} {A : Around} {n : Nat} {Ex : Value → Shared → Prop} {s : Shared} {φ φ₀ : List Addr} {H H₀ : Hp} {sc : Scope} {ns : List Str} {env : Env} {ρ : Env'} {own : List Addr} {tg : Expr} {ws : List Nat} {vs : List V} {I a : Addr} {h₁ : Heap}

theorem letOwned_plain {y : Value} {o : Obj} {nm : String} {Q : Unit → Shared → Prop} (ho : s.heap.get? I = some o) (hc : o.cls = .type nm) (hn : pairGivers.contains nm = false) (hQ : Q () s) : wpAny X.M A (letOwnedTupleGo tg (.ref I) y) Q Ex s := by
  have key : ∀ a, wpAny X.M A (do
    let o ← load I
    match o.cls, o.data with
    | .type n, .fields vs =>
      if pairGivers.contains n && vs[0]? == some (rawInt a) then
        rule "for.unpacks-the-owned-tuple"
        updateField I 0 .none
    | _, _ => pure ()) Q Ex s := by
    intro a
    refine wpAny_bind (wpAny_load ho ?_)
    rw [hc]
    cases o.data with
    | fields vs =>
      show wpAny X.M A (if (pairGivers.contains nm && vs[0]? == some (rawInt a)) = true then _ else _) Q Ex s
      rw [hn, Bool.false_and, if_neg (by simp)]
      exact wpAny_pure hQ
    | _ => exact wpAny_pure hQ
  unfold letOwnedTupleGo
  cases tg <;> first | exact wpAny_pure hQ | (cases y <;> first | exact wpAny_pure hQ | exact key _)

/-- where the items of a list are found as long as the list stands -/
noncomputable def SrcL (X : Fix) (φ₀ : List Addr) (h₁ : Heap) (H₀ : Hp) (ws : List Nat) (vs : List V) (a : Addr) : Prop :=
  ∀ (φ : List Addr) (H : Hp) (s : Shared), Kp φ₀ h₁ φ s.heap → SR X.W φ H s.heap → stands ws H₀ H = true → ∃ xs, s.heap.IsList a xs.toArray ∧ RepL X.W.scr φ s.heap vs xs
noncomputable def SrcT (X : Fix) (φ₀ : List Addr) (h₀ : Heap) (vs : List V) (a : Addr) : Prop := ∃ xs k, h₀.get? a = some (tupObj xs k) ∧ RepL X.W.scr φ₀ h₀ vs xs ∧ a ∉ φ₀

theorem stands_get {l : Nat} (h : stands ws H₀ H = true) (hl : l ∈ ws) : H[l]? = H₀[l]? := by
  unfold stands at h
  simpa using List.all_eq_true.mp h l hl
theorem srcL_ref {l : Nat} (hl : φ₀[l]? = some a) (e : H₀[l]? = some (.list vs)) (hw : l ∈ ws) : SrcL X φ₀ h₁ H₀ ws vs a := by
  intro φ H s kp R hs
  obtain ⟨t, ht⟩ := kp.pre
  have e1 : H[l]? = some (.list vs) := (stands_get hs hw).trans e
  obtain ⟨b, hb, xs, k, h1, h2, _⟩ := R.cell l _ e1
  have : φ[l]? = some a := by
    rw [ht, List.getElem?_append_left (by exact (List.getElem?_eq_some_iff.mp hl).1)]; exact hl
  rw [this] at hb; cases hb
  exact ⟨xs, isList_of h1, h2⟩
theorem srcL_script (G : X.Gl C) : SrcL X φ₀ h₁ H₀ ws (C.scr.map .int) X.W.scr := by
  intro φ H s _ R _
  obtain ⟨xs, h1, h2, _⟩ := Gl.keep G R
  exact ⟨xs, h1, h2⟩

theorem itr_list (hsrc : SrcL X φ₀ h₁ H₀ ws vs a) : Itr X n tg φ₀ h₁ H₀ ws vs I [I] (fun i h => h.IsListIter I a i) where
  keep := fun i h h' st hk => let ⟨o, e, r⟩ := st; ⟨o, hk I (by simp) o e, r⟩
  live := fun i h st b hb => by
    rw [List.mem_singleton.mp hb]
    let ⟨o, e, r⟩ := st
    exact ⟨o, e⟩
  item := fun A φ H s i v Q Ex rm hp R hw st hio hv hQ => by
    obtain ⟨xs, h1, h2⟩ := hsrc φ H s hp R hw
    obtain ⟨y, hy, ry⟩ := h2.get hv
    obtain ⟨o, ho, hc, hd⟩ := id st
    refine wpAny_pyNext_list_item st h1 (by simpa using hy) fun h' hit hs => ?_
    refine hQ y _ fun Q' Ex' hq => ?_
    obtain ⟨o', ho', hc', hd'⟩ := id hit
    refine letOwned_plain (s := { s with heap := h' }) ho' hc' (by decide) ?_
    have hI := hio I (by simp)
    have S : Stp [I] φ s.heap φ h' := .but (.inl (by simp)) ho (notTup_at hc (by decide) (by decide)) ho' hs.extBut
    exact hq h' s.toks (R.but hI.1 hI.2 ho (notTup_at hc (by decide) (by decide)) ho' hs.extBut) S hit (ry.mono S)
  done := fun A φ H s i Q Ex rm hp R hw st hio hv hQ => by
    obtain ⟨xs, h1, h2⟩ := hsrc φ H s hp R hw
    obtain ⟨o, ho, hc, hd⟩ := id st
    have hl := h2.length
    refine wpAny_pyNext_list_end rm.handled st h1 (by simpa [← hl] using hv) fun h' he => ?_
    have S : Fin [I] s.heap h' := ⟨fun b o hb e => he b o (by simpa using hb) e, fun b hb o' e => by
      rw [List.mem_singleton.mp hb, ho] at e; cases e; exact notTup_at hc (by decide) (by decide)⟩
    exact hQ h' s.toks (R.fin hio S) (S.two R (R.fin hio S))
  self := fun A s Q Ex rm st hQ => wpAny_pyIter_listiter st hQ

theorem itr_tuple (hsrc : SrcT X φ₀ h₁ vs a) : Itr X n tg φ₀ h₁ H₀ ws vs I [I] (fun i h => h.IsTupleIter I a i) where
  keep := fun i h h' st hk => let ⟨o, e, r⟩ := st; ⟨o, hk I (by simp) o e, r⟩
  live := fun i h st b hb => by
    rw [List.mem_singleton.mp hb]
    let ⟨o, e, r⟩ := st
    exact ⟨o, e⟩
  item := fun A φ H s i v Q Ex rm hp R hw st hio hv hQ => by
    obtain ⟨xs, k, e0, r0, hna⟩ := hsrc
    have h1 := hp.tup _ _ _ hna e0
    have h2 := r0.kp hp
    obtain ⟨y, hy, ry⟩ := h2.get hv
    obtain ⟨o, ho, hc, hd⟩ := id st
    refine wpAny_pyNext_tuple_item st ⟨_, h1, rfl, k, rfl⟩ (by simpa using hy) fun h' hit hs => ?_
    refine hQ y _ fun Q' Ex' hq => ?_
    obtain ⟨o', ho', hc', hd'⟩ := id hit
    refine letOwned_plain (s := { s with heap := h' }) ho' hc' (by decide) ?_
    have hI := hio I (by simp)
    have S : Stp [I] φ s.heap φ h' := .but (.inl (by simp)) ho (notTup_at hc (by decide) (by decide)) ho' hs.extBut
    exact hq h' s.toks (R.but hI.1 hI.2 ho (notTup_at hc (by decide) (by decide)) ho' hs.extBut) S hit (ry.mono S)
  done := fun A φ H s i Q Ex rm hp R hw st hio hv hQ => by
    obtain ⟨xs, k, e0, r0, hna⟩ := hsrc
    have h1 := hp.tup _ _ _ hna e0
    have h2 := r0.kp hp
    obtain ⟨o, ho, hc, hd⟩ := id st
    have hl := h2.length
    refine wpAny_pyNext_tuple_end rm.handled st ⟨_, h1, rfl, k, rfl⟩ (by simpa [← hl] using hv) fun h' he => ?_
    have S : Fin [I] s.heap h' := ⟨fun b o hb e => he b o (by simpa using hb) e, fun b hb o' e => by
      rw [List.mem_singleton.mp hb, ho] at e; cases e; exact notTup_at hc (by decide) (by decide)⟩
    exact hQ h' s.toks (R.fin hio S) (S.two R (R.fin hio S))
  self := fun A s Q Ex rm st hQ => wpAny_pyIter_tupleiter st hQ

theorem rangeV_get {i : Nat} {x y : Int} : (rangeV x y)[i]? = if i < (y - x).toNat then some (.int (x + i)) else none := by
  unfold rangeV
  rw [List.getElem?_map]
  split
  · rename_i h
    rw [List.getElem?_range h]; rfl
  · rename_i h
    rw [List.getElem?_eq_none (by simpa using h)]; rfl

theorem itr_range {x y : Int} : Itr X n tg φ₀ h₁ H₀ ws (rangeV x y) I [I] (fun i h => IsRangeIter h I (x + i) (((y - x).toNat : Int) - i) 1) where
  keep := fun i h h' st hk => hk I (by simp) _ st
  live := fun i h st b hb => by
    rw [List.mem_singleton.mp hb]
    exact ⟨_, st⟩
  item := fun A φ H s i v Q Ex rm hp R hw st hio hv hQ => by
    rw [rangeV_get] at hv
    split at hv
    · rename_i hi
      cases hv
      refine wpAny_pyNext_range_item st (by (first | lia | omega)) fun h' hit hs => ?_
      refine hQ _ _ fun Q' Ex' hq => ?_
      refine letOwned_plain (s := { s with heap := h', toks := s.toks + 1 }) hit rfl (by decide) ?_
      have hI := hio I (by simp)
      have S : Stp [I] φ s.heap φ h' := .but (.inl (by simp)) st (notTup_at rfl (by decide) (by decide)) hit hs.extBut
      refine hq h' _ (R.but hI.1 hI.2 st (notTup_at rfl (by decide) (by decide)) hit hs.extBut) S ?_ (.int _ _)
      have e1 : x + ((i + 1 : Nat) : Int) = x + i + 1 := by (first | lia | omega)
      have e2 : (((y - x).toNat : Int) - ((i + 1 : Nat) : Int)) = ((y - x).toNat : Int) - i - 1 := by (first | lia | omega)
      rw [e1, e2]; exact hit
    · cases hv
  done := fun A φ H s i Q Ex rm hp R hw st hio hv hQ => by
    rw [rangeV_get] at hv
    split at hv
    · cases hv
    · rename_i hi
      refine wpAny_pyNext_range_end rm.handled st (by (first | lia | omega)) fun h' he => ?_
      have S : Fin [I] s.heap h' := ⟨fun b o hb e => he b o (by simpa using hb) e, fun b hb o' e => by
        rw [List.mem_singleton.mp hb, st] at e; cases e; exact notTup_at rfl (by decide) (by decide)⟩
      exact hQ h' s.toks (R.fin hio S) (S.two R (R.fin hio S))
  self := fun A s Q Ex rm st hQ => wpAny_pyIter_rangeiter st hQ

theorem enumV_get : ∀ {us : List V} {k i : Nat}, (enumV k us)[i]? = us[i]?.map fun u => .tup [.int ((k + i : Nat) : Int), u]
  | [], k, i => by simp [enumV]
  | u :: us, k, 0 => by simp [enumV]
  | u :: us, k, i + 1 => by
    rw [enumV]
    simp only [List.getElem?_cons_succ]
    rw [enumV_get]
    congr 1
    funext u
    congr 3
    (first | lia | omega)

theorem itr_enum {e it : Addr} (htg : ∃ es k p, tg = .Tuple es k p) (hsrc : SrcL X φ₀ h₁ H₀ ws vs a) (hne : e ≠ it) : Itr X n tg φ₀ h₁ H₀ ws (enumV 0 vs) e [e, it] (fun i h => (∃ old, IsEnum h e it i old) ∧ h.IsListIter it a i) where
  keep := fun i h h' st hk => let ⟨⟨old, e1⟩, o, e2, r⟩ := st; ⟨⟨old, hk e (by simp) _ e1⟩, o, hk it (by simp) o e2, r⟩
  live := fun i h st b hb => by
    obtain ⟨⟨old, e1⟩, o, e2, r⟩ := st
    simp at hb
    rcases hb with rfl | rfl
    · exact ⟨_, e1⟩
    · exact ⟨_, e2⟩
  item := fun A φ H s i v Q Ex rm hp R hw st hio hv hQ => by
    obtain ⟨es, k, p, rfl⟩ := htg
    obtain ⟨xs, h1, h2⟩ := hsrc φ H s hp R hw
    rw [enumV_get] at hv
    obtain ⟨u, hu, rfl⟩ := Option.map_eq_some_iff.mp hv
    obtain ⟨y, hy, ry⟩ := h2.get hu
    obtain ⟨⟨old, e1⟩, st2⟩ := st
    obtain ⟨o, ho, hc, hd⟩ := id st2
    refine wpAny_pyNext_enum_item e1 st2 h1 (by simpa using hy) hne fun h' q1 q2 q3 q4 q5 => ?_
    refine hQ _ _ fun Q' Ex' hq => ?_
    refine wpAny_letOwnedTupleGo_enum (s := { s with heap := h', toks := s.toks + 1 }) q1 fun h2' w1 w2 => ?_
    replace w2 : Heap.SameBut e h' h2' := w2
    have hT : h2'.get? s.heap.objs.size = some (tupObj [.int i s.toks, y] 0) := by
      refine w2.extBut _ _ ?_ q3
      intro e'
      rw [← e'] at e1
      exact absurd (Heap.lt_size e1) (Nat.lt_irrefl _)
    have keep : ∀ b o, b ≠ e → b ≠ it → s.heap.get? b = some o → h2'.get? b = some o := fun b o n1 n2 x => w2.extBut b o n1 (q5 b o n1 n2 x)
    obtain ⟨o', ho', hc', hd'⟩ := id q2
    have hit' : h2'.get? it = some o' := w2.extBut _ _ hne.symm ho'
    have S : Stp [e, it] φ s.heap φ h2' := by
      refine ⟨⟨[], by simp⟩, fun b o x n1 n2 => ?_, fun b n1 n2 => absurd n1 n2, fun b xs k _ x => ?_, fun b oz z x => ?_, fun b o x => ?_⟩
      · simp at n2
        exact keep b o n2.1 n2.2 x
      · refine keep b _ ?_ ?_ x
        · rintro rfl; rw [e1] at x; exact absurd (Option.some.inj x) ((notTup_at (o := _) (nm := "enumerate") rfl (by decide) (by decide)).1 xs k)
        · rintro rfl; rw [ho] at x; exact absurd (Option.some.inj x) ((notTup_at hc (by decide) (by decide)).1 xs k)
      · refine keep b _ ?_ ?_ x
        · rintro rfl; rw [e1] at x; cases x; exact (notTup_at (o := _) (nm := "enumerate") rfl (by decide) (by decide)).2 z
        · rintro rfl; rw [ho] at x; cases x; exact (notTup_at hc (by decide) (by decide)).2 z
      · by_cases n1 : b = e
        · subst n1; exact ⟨_, w1⟩
        · by_cases n2 : b = it
          · subst n2; exact ⟨_, hit'⟩
          · exact ⟨o, keep b o n1 n2 x⟩
    have F : Fin [e, it] s.heap h2' := ⟨fun b o hb x => by simp at hb; exact keep b o hb.1 hb.2 x, fun b hb o' x => by
      simp at hb
      rcases hb with rfl | rfl
      · rw [e1] at x; cases x; exact notTup_at rfl (by decide) (by decide)
      · rw [ho] at x; cases x; exact notTup_at hc (by decide) (by decide)⟩
    refine hq h2' _ (R.fin hio F) S ⟨⟨y, ?_⟩, o', hit', hc', hd'⟩ ?_
    · have : ((i + 1 : Nat) : Int) = (i : Int) + 1 := by (first | lia | omega)
      rw [this]; exact w1
    · refine .tup hT (.cons ?_ (.cons (ry.mono S) .nil)) (by simp) R.sizeNot
      have : ((0 + i : Nat) : Int) = (i : Int) := by (first | lia | omega)
      rw [this]; exact .int _ _
  done := fun A φ H s i Q Ex rm hp R hw st hio hv hQ => by
    obtain ⟨xs, h1, h2⟩ := hsrc φ H s hp R hw
    rw [enumV_get] at hv
    have hv := Option.map_eq_none_iff.mp hv
    obtain ⟨⟨old, e1⟩, st2⟩ := st
    obtain ⟨o, ho, hc, hd⟩ := id st2
    have hl := h2.length
    refine wpAny_pyNext_enum_end rm.handled e1 st2 h1 (by simpa [← hl] using hv) fun h' he => ?_
    have S : Fin [e, it] s.heap h' := ⟨fun b o hb x => by simp at hb; exact he b o hb.2 x, fun b hb o' x => by
      simp at hb
      rcases hb with rfl | rfl
      · rw [e1] at x; cases x; exact notTup_at rfl (by decide) (by decide)
      · rw [ho] at x; cases x; exact notTup_at hc (by decide) (by decide)⟩
    exact hQ h' s.toks (R.fin hio S) (S.two R (R.fin hio S))
  self := fun A s Q Ex rm st hQ => by
    obtain ⟨⟨old, e1⟩, _⟩ := st
    exact wpAny_pyIter_enum e1 hQ

end
end Mine

end
section
set_option autoImplicit false
set_option linter.unusedVariables false
set_option linter.unusedSimpArgs false
namespace Mine
open PySem PySem.Calls PyProof.Rows

section
variable {X : Fix} {C : Ctx} {A : Around} {n : Nat} {Ex : Value → Shared → Prop} {s : Shared} {φ φ₀ : List Addr} {H H₀ : Hp} {sc : Scope} {ns : List Str} {env : Env} {ρ : Env'} {own : List Addr} {tg : Expr} {ws : List Nat} {vs : List V} {I a : Addr} {h₁ : Heap}

theorem notSet_of {c : E} {e : Expr} (h : chkE X.K sc ns c e = true) (env : Env) (x : Value) : foldedSetIterable e env x = pure x := by
  cases e <;> first | rfl | skip
  exfalso
  cases c <;> exact Bool.noConfusion h

/-- an address that is not there yet -/
theorem fresh_at {h1 h0 : Heap} {φ0 φ1 : List Addr} {b : Addr} (R : SR X.W φ1 H h1) (S : Stp own φ0 h0 φ1 h1) (hb : h1.objs.size ≤ b) : b ∉ φ1 ∧ h0.get? b = none ∧ X.W.h₀.get? b = none := by
  have hn : h1.get? b = none := by
    cases e : h1.get? b with
    | none => rfl
    | some o => exact absurd (Heap.lt_size e) (Nat.not_lt.mpr hb)
  refine ⟨fun hm => ?_, ?_, ?_⟩
  · obtain ⟨o, e, _⟩ := R.obj hm
    rw [hn] at e; cases e
  · cases e : h0.get? b with
    | none => rfl
    | some o => obtain ⟨o', e'⟩ := S.alive b o e; rw [hn] at e'; cases e'
  · cases e : X.W.h₀.get? b with
    | none => rfl
    | some o => rw [R.keep b o e] at hn; cases hn

theorem iter_of {v : V} {x : Value} {us : List V} {Q : Value → Shared → Prop} {φ1 : List Addr} {H1 : Hp} {h1 : Heap} {tk : Nat} (G : X.Gl C) (R1 : SR X.W φ1 H1 h1) (S1 : Stp [] φ s.heap φ1 h1) (r1 : Rep X.W.scr φ1 h1 v x) (e : itemsOf C.scr H1 v = some us)
    (p : PostI X n tg φ s Q (us, watch v) H1) : wpAny X.M A (pyIter x) Q Ex { s with heap := h1, toks := tk } := by
  have fr := fresh_at R1 S1 (Nat.le_refl _)
  have hk : ∀ (o : Obj) (a : Addr) (o' : Obj), h1.get? a = some o' → (h1.push o).get? a = some o' := fun o a o' e => Heap.get?_push_of_some o e
  have io : ∀ a ∈ [h1.objs.size], a ∉ φ1 ∧ s.heap.get? a = none ∧ X.W.h₀.get? a = none := fun a ha => by rw [List.mem_singleton.mp ha]; exact fr
  cases v with
  | tup ts =>
    cases e
    obtain ⟨a, xs, k, rfl, q1, q2, q3, q4⟩ := tupAt' r1
    refine wpAny_pyIter_tuple (s := { s with heap := h1, toks := tk }) ⟨_, q1, rfl, k, rfl⟩ ?_
    exact p φ1 _ tk _ _ _ (R1.ext (hk _)) (S1.trans (.push _)) (itr_tuple (a := a) ⟨xs, k, hk _ _ _ q1, q2.mono (own := []) (.push _), q4⟩) ⟨_, Heap.get?_push_size _ rfl, rfl, rfl⟩ io
  | ref l =>
    simp only [itemsOf] at e
    split at e
    · rename_i us' hl
      cases e
      obtain ⟨a, xs, k, rfl, ha, q1, q2, q3⟩ := listAt (s := { s with heap := h1, toks := tk }) R1 r1 hl
      refine wpAny_pyIter_list (s := { s with heap := h1, toks := tk }) (isList_of q1) ?_
      exact p φ1 _ tk _ _ _ (R1.ext (hk _)) (S1.trans (.push _)) (itr_list (a := a) (srcL_ref ha hl (by simp [watch]))) ⟨_, Heap.get?_push_size _ rfl, rfl, rfl⟩ io
    · cases e
  | script =>
    cases r1
    cases e
    obtain ⟨xs, q1, q2, q3⟩ := Gl.keep (s := { s with heap := h1, toks := tk }) G R1
    refine wpAny_pyIter_list (s := { s with heap := h1, toks := tk }) q1 ?_
    exact p φ1 _ tk _ _ _ (R1.ext (hk _)) (S1.trans (.push _)) (itr_list (srcL_script G)) ⟨_, Heap.get?_push_size _ rfl, rfl, rfl⟩ io
  | _ => cases e

theorem of_its {c : E} {e : Expr} (G : X.Gl C) (h0 : chkE X.K sc ns c e = true) (he : EvS X C n sc ns c e) : ItS X C n sc ns (.of c) e := by
  refine ⟨notSet_of h0, fun A env ρ φ H s tg Q Ex rm kd F R htg p => ?_⟩
  refine he A env ρ φ H s _ Ex rm kd F R (WE_mono p fun v H1 p => ?_)
  intro φ1 h1 tk x R1 S1 r1
  obtain ⟨us, hi, p⟩ := wSome_ex p
  exact iter_of G R1 S1 r1 hi p

theorem iter_range {x y : Int} {r : Addr} {t u w : Tok} {Q : Value → Shared → Prop} {φ1 : List Addr} {H1 : Hp} {h1 : Heap} {tk : Nat} (R1 : SR X.W φ1 H1 h1) (S1 : Stp [] φ s.heap φ1 h1) (hr : IsRange h1 r x y 1 t u w) (hx : x.natAbs < 2 ^ 60 ∧ y.natAbs < 2 ^ 60)
    (p : PostI X n tg φ s Q (rangeV x y, []) H1) : wpAny X.M A (pyIter (.ref r)) Q Ex { s with heap := h1, toks := tk } := by
  have fr := fresh_at R1 S1 (Nat.le_refl _)
  refine wpAny_pyIter_range (s := { s with heap := h1, toks := tk }) hr (small_one (by (first | lia | omega)) (by (first | lia | omega)) (by (first | lia | omega)) (by (first | lia | omega))) ?_
  refine p φ1 _ tk _ [h1.objs.size] _ (R1.ext fun a o e => Heap.get?_push_of_some _ e) (S1.trans (.push _)) (itr_range (x := x) (y := y)) ?_ (fun a ha => by rw [List.mem_singleton.mp ha]; exact fr)
  have e1 : x + ((0 : Nat) : Int) = x := by (first | lia | omega)
  have e2 : (((y - x).toNat : Int) - ((0 : Nat) : Int)) = Builtin.Range.rangeSize x y 1 := by rw [rangeSize_one]; split <;> (first | lia | omega)
  show IsRangeIter _ _ (x + ((0 : Nat) : Int)) (((y - x).toNat : Int) - ((0 : Nat) : Int)) 1
  rw [e1, e2]
  exact Heap.get?_push_size _ rfl

theorem range1_its {b : E} {e : Expr} {np pos : Pos} (G : X.Gl C) (hx : okGlob sc "range" = true) (h0 : chkE X.K sc ns b e = true) (he : EvS X C n sc ns b e) : ItS X C n sc ns (.range (.k (.int 0)) b) (.Call (.Name "range" np) [e] [] pos) := by
  refine ⟨fun _ _ => rfl, fun A env ρ φ H s tg Q Ex rm kd F R htg p => ?_⟩
  have hpl : (backTo pos (starEach [e] env)).any (·.1) = false := by rw [notStarred h0 env]; rfl
  refine wpAny_Call_NameR (glob_bi G kd F R (v := .type "range") (bi_mem 6 (by decide)) hx ?_)
  refine PySem.callWith_type hpl (evalArgs_of hpl ?_)
  refine wpAny_items_cons (he A env ρ φ H s _ Ex rm kd F R (WE_mono p fun v H1 p => ?_)) (notStarred h0 env _)
  intro φ1 h1 tk x R1 S1 r1
  refine wpAny_items_nil ?_
  obtain ⟨j, rfl, hj, p⟩ := wInt_ex (f := fun j => ((0 : Int).natAbs < 2 ^ 60 ∧ j.natAbs < 2 ^ 60) ∧ PostI X n tg φ s Q (rangeV 0 j, []) H1) p
  cases r1
  rename_i t
  refine call_range_1 ?_
  exact iter_range (s := s) (R1.ext fun a o e => Heap.get?_push_of_some _ e) (S1.trans (.push _)) (IsRange.new _ _ _ _ _ _ _) hj p
theorem range2_its {c b : E} {e1 e2 : Expr} {np pos : Pos} (G : X.Gl C) (hx : okGlob sc "range" = true) (h1 : chkE X.K sc ns c e1 = true) (h2 : chkE X.K sc ns b e2 = true) (he1 : EvS X C n sc ns c e1) (he2 : EvS X C n sc ns b e2) : ItS X C n sc ns (.range c b) (.Call (.Name "range" np) [e1, e2] [] pos) := by
  refine ⟨fun _ _ => rfl, fun A env ρ φ H s tg Q Ex rm kd F R htg p => ?_⟩
  have hpl : (backTo pos (starEach [e1, e2] env)).any (·.1) = false := by rw [notStarred h1 env, notStarred h2 env]; rfl
  refine wpAny_Call_NameR (glob_bi G kd F R (v := .type "range") (bi_mem 6 (by decide)) hx ?_)
  refine PySem.callWith_type hpl (evalArgs_of hpl ?_)
  refine wpAny_items_cons (he1 A env ρ φ H s _ Ex rm kd F R (WE_mono p fun v H1 p => ?_)) (notStarred h1 env _)
  intro φ1 g1 tk x R1 S1 r1
  refine wpAny_items_cons (he2 A env ρ φ1 H1 { s with heap := g1, toks := tk } _ Ex rm kd (F.mono0 S1) R1 (WE_mono p fun u H2 p => ?_)) (notStarred h2 env _)
  intro φ2 g2 tk2 y R2 S2 r2
  refine wpAny_items_nil ?_
  obtain ⟨i, rfl, p⟩ := wInt_ex p
  obtain ⟨j, rfl, hj, p⟩ := wInt_ex (f := fun j => (i.natAbs < 2 ^ 60 ∧ j.natAbs < 2 ^ 60) ∧ PostI X n tg φ s Q (rangeV i j, []) H2) p
  cases r1; cases r2
  refine call_range_2 ?_
  exact iter_range (s := s) (R2.ext fun a o e => Heap.get?_push_of_some _ e) ((S1.trans S2).trans (.push _)) (IsRange.new _ _ _ _ _ _ _) hj p
theorem enum_its {c : E} {e : Expr} {np pos : Pos} (G : X.Gl C) (hx : okGlob sc "enumerate" = true) (h0 : chkE X.K sc ns c e = true) (he : EvS X C n sc ns c e) : ItS X C n sc ns (.enum c) (.Call (.Name "enumerate" np) [e] [] pos) := by
  refine ⟨fun _ _ => rfl, fun A env ρ φ H s tg Q Ex rm kd F R htg p => ?_⟩
  have hpl : (backTo pos (starEach [e] env)).any (·.1) = false := by rw [notStarred h0 env]; rfl
  have htg' : ∃ es k p, tg = .Tuple es k p := by
    cases tg <;> first | exact Bool.noConfusion htg | exact ⟨_, _, _, rfl⟩
  refine wpAny_Call_NameR (glob_bi G kd F R (v := .type "enumerate") (bi_mem 7 (by decide)) hx ?_)
  refine PySem.callWith_type hpl (evalArgs_of hpl ?_)
  refine wpAny_items_cons (he A env ρ φ H s _ Ex rm kd F R (WE_mono p fun v H1 p => ?_)) (notStarred h0 env _)
  intro φ1 h1 tk x R1 S1 r1
  refine wpAny_items_nil ?_
  obtain ⟨us, hl, p⟩ := wSome_ex p
  have fr := fun b (hb : h1.objs.size ≤ b) => fresh_at R1 S1 hb
  have fin : ∀ {a : Addr} {us : List V} {xs : List Value}, h1.IsList a xs.toArray → SrcL X φ1 h1 H1 (watch v) us a → PostI X n tg φ s Q (enumV 0 us, watch v) H1 → wpAny X.M A (call (.type "enumerate") [.ref a]) (fun x s₁ => wpAny X.M A (pyIter x) Q Ex s₁) Ex { s with heap := h1, toks := tk } := by
    intro a us xs q1 src p
    refine call_enumerate_list (s := { s with heap := h1, toks := tk }) q1 fun h2 w1 w2 w3 w4 => ?_
    refine wpAny_pyIter_enum (s := { s with heap := h2, toks := tk }) w1 ?_
    refine p φ1 h2 tk (h1.objs.size + 1) [h1.objs.size + 1, h1.objs.size] _ (R1.ext w4) (S1.trans (.ext w4)) (itr_enum (a := a) (it := h1.objs.size) htg' ?_ (Nat.succ_ne_self _)) ⟨⟨.none, w1⟩, w2⟩ ?_
    · intro φ' H' s' kp R' hs
      exact src φ' H' s' (Kp.trans (Stp.kp (own := []) (.ext w4)) kp) R' hs
    · intro b hb
      simp at hb
      rcases hb with rfl | rfl
      · exact fr _ (by (first | lia | omega))
      · exact fr _ (by (first | lia | omega))
  cases v with
  | ref l =>
    unfold lstOf at hl
    dsimp only at hl
    split at hl
    · rename_i us' hl'
      cases hl
      obtain ⟨a, xs, k, rfl, ha, q1, q2, q3⟩ := listAt (s := { s with heap := h1, toks := tk }) R1 r1 hl'
      exact fin (isList_of q1) (srcL_ref ha hl' (by simp [watch])) p
    · cases hl
  | script =>
    cases r1
    cases hl
    obtain ⟨xs, q1, q2, q3⟩ := Gl.keep (s := { s with heap := h1, toks := tk }) G R1
    exact fin q1 (srcL_script G) p
  | _ => cases hl
end
end Mine

end
section
set_option autoImplicit false
set_option linter.unusedVariables false
set_option linter.unusedSimpArgs false
namespace Mine
open PySem PySem.Calls PyProof.Rows

noncomputable def closOf (env : Env) : List (Str × NameKind) → List (Str × Addr) → List (Str × Addr)
  | [], acc => acc
  | (x, k) :: r, acc => closOf env r (if (k == NameKind.free) = true then (match env.cells.lookup x with | some c => (x, c) :: acc | none => acc) else acc)

theorem clos_go {env : Env} : ∀ (names : List (Str × NameKind)) (acc : List (Str × Addr)), (∀ p ∈ names, p.2 = .free → ∃ c, env.cells.lookup p.1 = some c) →
    (forIn names acc fun (x : Str × NameKind) (cs : List (Str × Addr)) => if (x.2 == NameKind.free) = true then (do let c ← cellOf env x.1; pure (ForInStep.yield ((x.1, c) :: cs))) else pure (ForInStep.yield cs) : Sem (List (Str × Addr))) = pure (closOf env names acc)
  | [], acc, _ => rfl
  | (x, k) :: r, acc, h => by
    rw [List.forIn_cons, closOf]
    by_cases hk : (k == NameKind.free) = true
    · obtain ⟨c, hc⟩ := h (x, k) (.head _) (by simpa using hk)
      have e : cellOf env x = pure c := by unfold cellOf; rw [hc]
      simp only [hk, if_true, e, hc]
      show (pure c >>= fun c => pure (ForInStep.yield ((x, c) :: acc))) >>= _ = _
      exact clos_go r ((x, c) :: acc) fun p hp => h p (.tail _ hp)
    · simp only [hk, if_false, Bool.false_eq_true]
      exact clos_go r acc fun p hp => h p (.tail _ hp)
theorem clos_mem {env : Env} : ∀ (names : List (Str × NameKind)) (acc : List (Str × Addr)) (p : Str × Addr), p ∈ closOf env names acc → p ∈ acc ∨ env.cells.lookup p.1 = some p.2
  | [], acc, p, h => .inl h
  | (x, k) :: r, acc, p, h => by
    rw [closOf] at h
    rcases clos_mem r _ p h with h | h
    · split at h
      · split at h
        · rename_i c hc
          rcases List.mem_cons.mp h with rfl | h
          · exact .inr hc
          · exact .inl h
        · exact .inl h
      · exact .inl h
    · exact .inr h
theorem clos_some {env : Env} (x : Str) : ∀ (names : List (Str × NameKind)) (acc : List (Str × Addr)), (∀ p ∈ names, p.2 = .free → ∃ c, env.cells.lookup p.1 = some c) → ((x, NameKind.free) ∈ names ∨ (∃ c, (x, c) ∈ acc)) → ∃ c, (x, c) ∈ closOf env names acc
  | [], acc, _, h => by
    rcases h with h | h
    · cases h
    · exact h
  | (y, k) :: r, acc, hn, h => by
    rw [closOf]
    refine clos_some x r _ (fun p hp => hn p (.tail _ hp)) ?_
    rcases h with h | ⟨c, h⟩
    · rcases List.mem_cons.mp h with h | h
      · cases h
        obtain ⟨c, hc⟩ := hn (x, .free) (.head _) rfl
        refine .inr ⟨c, ?_⟩
        have hc' : env.cells.lookup x = some c := hc
        simp [hc']
      · exact .inl h
    · refine .inr ⟨c, ?_⟩
      split
      · split
        · exact .tail _ h
        · exact h
      · exact h
theorem lookupC_of_mem {x : Str} {c : Addr} : ∀ {l : List (Str × Addr)}, (x, c) ∈ l → ∃ d, l.lookup x = some d
  | (y, e) :: r, h => by
    rw [List.lookup_cons]
    split
    · exact ⟨_, rfl⟩
    · rename_i hb
      rcases List.mem_cons.mp h with h | h
      · cases h; simp at hb
      · exact lookupC_of_mem h

theorem closure_eq {cs' : Scope} {env : Env} (h : ∀ p ∈ cs'.names, p.2 = .free → ∃ c, env.cells.lookup p.1 = some c) : ∃ cl, closureFor cs' env = pure cl ∧ (∀ x c, cl.lookup x = some c → env.cells.lookup x = some c) ∧
    (∀ x, (x, NameKind.free) ∈ cs'.names → ∃ c, cl.lookup x = some c) ∧ (∀ p ∈ cl, env.cells.lookup p.1 = some p.2) := by
  refine ⟨closOf env cs'.names [], ?_, ?_, ?_, ?_⟩
  · unfold closureFor
    have := clos_go (env := env) cs'.names [] h
    simp only [bind_pure]
    exact this
  · intro x c hc
    rcases clos_mem _ _ _ (mem_of_lookup' hc) with h | h
    · cases h
    · exact h
  · intro x hx
    obtain ⟨c, hc⟩ := clos_some x cs'.names [] h (.inl hx)
    exact lookupC_of_mem hc
  · intro p hp
    rcases clos_mem _ _ _ hp with h | h
    · cases h
    · exact h

section
variable {prog : Program} {w : World} {A : Around} {R : Result → Shared → Prop} {s : Shared}
/-- a list comprehension's turns, what it unpacks let go -/
theorem compLoop_any {elt target iter : Expr} {ifs : List Expr} {scope : Scope} {pos : Pos} {it acc : Value} {env : Env} (I : Nat → Shared → Prop)
    (turn : ∀ n s, I n s → wpAny (model prog w) A (pyNext it) (fun r s₁ => match r with
      | none => R (.ok .next) s₁
      | some v => wpAny (model prog w) A (letOwnedTupleGo target it v) (fun _ s₀ => wpAny (model prog w) A (assign target env v) (fun _ s₂ =>
          wpAny (model prog w) A (forIn ifs true fun c r => if r = true then do let ok ← isTrue c env (eval c env); pure (ForInStep.yield ok) else pure (ForInStep.yield r)) (fun ok s₃ =>
            if ok = true then wpAny (model prog w) A (eval elt env) (fun x s₄ =>
              wpAny (model prog w) A (call (.builtin "list.append") [acc, x]) (fun _ s₅ => ∃ m, m < n ∧ I m s₅) (notedBy (model prog w) A env fun e s' => R (.error e) s') s₄) (notedBy (model prog w) A env fun e s' => R (.error e) s') s₃
            else ∃ m, m < n ∧ I m s₃) (notedBy (model prog w) A env fun e s' => R (.error e) s') s₂) (notedBy (model prog w) A env fun e s' => R (.error e) s') s₀) (notedBy (model prog w) A env fun e s' => R (.error e) s') s₁) (notedBy (model prog w) A env fun e s' => R (.error e) s') s)
    (n : Nat) (h : I n s) : codeAny (model prog w) A (.compLoop (.ListComp elt [⟨target, iter, ifs, 0⟩] scope pos) 0 it acc env) R s := by
  refine codeAny_loop rfl I (fun n s hI => ?_) n h
  show wpAny _ A ((compTurn (.ListComp elt [⟨target, iter, ifs, 0⟩] scope pos) 0 it acc env).onRaise (fun x => do noteFrame x env; theTreesLotGoes x)) _ _ s
  refine wpAny_noted ?_
  rw [compTurn_list]
  refine wpAny_bind (wpAny_standAt (wpAny_bind (wpAny_mono (turn n s hI) (fun r s₁ h₁ => ?_) fun _ _ h' => h')))
  cases r with
  | none => exact wpAny_pure h₁
  | some v =>
    refine wpAny_bind (wpAny_mono h₁ (fun _ s₀ h₀ => ?_) fun _ _ h' => h')
    refine wpAny_bind (wpAny_mono h₀ (fun _ s₂ h₂ => wpAny_bind (wpAny_mono h₂ (fun ok s₃ h₃ => ?_) fun _ _ h' => h')) fun _ _ h' => h')
    cases ok with
    | false => exact wpAny_pure ⟨rfl, h₃⟩
    | true =>
      exact wpAny_bind (wpAny_bind (wpAny_mono h₃ (fun x s₄ h₄ => wpAny_bind (wpAny_mono h₄ (fun _ s₅ h₅ => wpAny_pure (wpAny_pure ⟨rfl, h₅⟩)) fun _ _ h' => h')) fun _ _ h' => h'))
end
end Mine

end
section
set_option autoImplicit false
set_option linter.unusedVariables false
set_option linter.unusedSimpArgs false
namespace Mine
open PySem PySem.Calls PyProof.Rows

/-- a comprehension's own names: the scope -/
structure CompSc (sc : Scope) (ns loc : List Str) (cs' : Scope) : Prop where
  kind : cs'.kind = .function
  gen : cs'.isGenerator = false ∧ cs'.isCoroutine = false
  nodup : (cs'.names.map (·.1)).Nodup
  local_ : ∀ p ∈ cs'.names, p.2 = .local → p.1 = (".0" : Str) ∨ p.1 ∈ loc
  nocell : ∀ p ∈ cs'.names, p.2 ≠ .cell
  free : ∀ p ∈ cs'.names, p.2 = .free → p.1 ∈ ns ∧ p.1 ∉ loc ∧ isCellK (sc.names.lookup p.1)
  loc_ : ∀ x ∈ loc, cs'.names.lookup x = some .local
  dot : (".0" : Str) ∉ ns
  mk_ : cs'.names.lookup mk = none

theorem lookupK_nodup {x : Str} {k : NameKind} : ∀ {l : List (Str × NameKind)}, (l.map (·.1)).Nodup → (x, k) ∈ l → l.lookup x = some k
  | (y, j) :: r, hn, h => by
    rw [List.lookup_cons]
    simp only [List.map_cons, List.nodup_cons] at hn
    rcases List.mem_cons.mp h with h' | h'
    · cases h'; simp
    · have : (x == y) = false := by
        rw [beq_eq_false_iff_ne]
        intro e
        exact hn.1 (List.mem_map.mpr ⟨(x, k), h', e⟩)
      rw [this]
      exact lookupK_nodup hn.2 h'
theorem mem_of_lookupK {x : Str} {c : NameKind} : ∀ {l : List (Str × NameKind)}, l.lookup x = some c → (x, c) ∈ l
  | [], h => by cases h
  | (y, d) :: r, h => by
    rw [List.lookup_cons] at h
    split at h
    · rename_i e
      cases h
      rw [eq_of_beq e]
      exact .head _
    · exact .tail _ (mem_of_lookupK h)

theorem relabel_lookup {cs' : Scope} {env : Env} (x : Str) : (relabel cs' env).names.lookup x = cs'.names.lookup x ∨ (cs'.names.lookup x = some .free ∧ (relabel cs' env).names.lookup x = some .cell) := by
  unfold relabel
  dsimp only
  induction cs'.names with
  | nil => exact .inl rfl
  | cons p r ih =>
    obtain ⟨y, k⟩ := p
    rw [List.map_cons]
    dsimp only
    by_cases hc : (k == NameKind.free && env.scope.kind == .function && env.kindOf y == some .cell) = true
    · rw [if_pos hc, List.lookup_cons, List.lookup_cons]
      cases hx : x == y with
      | true =>
        simp only [Bool.and_eq_true] at hc
        have : k = .free := by simpa using hc.1.1
        subst this
        exact .inr ⟨rfl, rfl⟩
      | false => exact ih
    · rw [if_neg hc, List.lookup_cons, List.lookup_cons]
      cases hx : x == y with
      | true => exact .inl rfl
      | false => exact ih

theorem idxOf_app {x : Str} {loc ns : List Str} (hx : x ∉ loc) : (loc ++ ns).idxOf x = loc.length + ns.idxOf x := by
  rw [List.idxOf_append, if_neg hx, Nat.add_comm]

section
variable {X : Fix} {sc cs' : Scope} {ns loc : List Str} {env : Env} {ρ : Env'} {φ : List Addr} {h h' : Heap} {cl : List (Str × Addr)} {D : Addr}

theorem CompSc.kinds (c : CompSc sc ns loc cs') : Kinds cs' (compEnvC cs' cl D env) := by
  intro x
  show kEq (cs'.names.lookup x) ((relabel cs' env).names.lookup x)
  rcases relabel_lookup (cs' := cs') (env := env) x with h | ⟨h1, h2⟩
  · exact .inl h.symm
  · rw [h1, h2]; exact .inr ⟨.inr rfl, .inl rfl⟩

theorem CompSc.frame (c : CompSc sc ns loc cs') (kd : Kinds sc env) (F : FR X.W env ns ρ φ h) (hcl1 : ∀ x c, cl.lookup x = some c → env.cells.lookup x = some c) (hcl2 : ∀ x, (x, NameKind.free) ∈ cs'.names → ∃ c, cl.lookup x = some c) (hcl3 : ∀ p ∈ cl, env.cells.lookup p.1 = some p.2)
    (hD : D ∉ φ ∧ X.W.h₀.get? D = none ∧ h.get? D = none) (hkeep : ∀ a o, h.get? a = some o → h'.get? a = some o) (hn : h'.Ns D (fun _ => none)) : FR X.W (compEnvC cs' cl D env) (loc ++ ns) (List.replicate loc.length none ++ ρ) φ h' := by
  have hkind : ∀ x, (compEnvC cs' cl D env).kindOf x = (relabel cs' env).names.lookup x := fun _ => rfl
  have hlk : ∀ x, x ∉ loc → lk (loc ++ ns) (List.replicate loc.length none ++ ρ) x = lk ns ρ x := by
    intro x hx
    unfold lk
    rw [idxOf_app hx, List.getElem?_append_right (by simp)]
    simp
  have hlk2 : ∀ x, x ∈ loc → lk (loc ++ ns) (List.replicate loc.length none ++ ρ) x = none := by
    intro x hx
    unfold lk
    have h1 := List.idxOf_lt_length_of_mem hx
    rw [List.idxOf_append, if_pos hx, List.getElem?_append_left (by simpa using h1)]
    simp [h1]
  have hne : ∀ a o, h.get? a = some o → a ≠ D := fun a o e e' => by subst e'; rw [hD.2.2] at e; cases e
  have S : Stp [] φ h φ h' := .ext hkeep
  refine ⟨c.kind, F.glob, F.blt, ⟨c.gen.1, c.gen.2, ?_⟩, fun hm => ?_, by simp [F.len], ⟨_, hn, ?_⟩, ⟨hD.1, hD.2.1⟩, ?_, ?_, ?_⟩
  · unfold interactive
    have : (compEnvC cs' cl D env).scope.kind = .function := c.kind
    rw [this]; rfl
  · rw [hkind] at hm
    rcases relabel_lookup (cs' := cs') (env := env) Mine.mk with h | ⟨h1, h2⟩
    · rw [h, c.mk_] at hm; cases hm
    · rw [c.mk_] at h1; cases h1
  · intro x hx hk
    rw [hkind] at hk
    have hk' : cs'.names.lookup x = some .local := by
      rcases relabel_lookup (cs' := cs') (env := env) x with h | ⟨h1, h2⟩
      · rw [← h]; exact hk
      · rw [h2] at hk; cases hk
    have hm := mem_of_lookupK hk'
    by_cases hl : x ∈ loc
    · rw [hlk2 x hl]; exact .none
    · rcases c.local_ _ hm rfl with e | e
      · have e : x = (".0" : Str) := e
        subst e
        rcases List.mem_append.mp hx with hx | hx
        · exact absurd hx hl
        · exact absurd hx c.dot
      · exact absurd e hl
  · intro x hx hk
    rw [hkind] at hk
    have hk' : cs'.names.lookup x = some .free := by
      rcases relabel_lookup (cs' := cs') (env := env) x with h | ⟨h1, h2⟩
      · rw [h] at hk
        rcases hk with hk | hk
        · exact absurd rfl (c.nocell _ (mem_of_lookupK hk))
        · exact hk
      · exact h1
    have hm := mem_of_lookupK hk'
    obtain ⟨f1, f2, f3⟩ := c.free _ hm rfl
    obtain ⟨d, hd⟩ := hcl2 x hm
    have hd' := hcl1 x d hd
    have hkc : isCellK (env.kindOf x) := by
      rcases kd x with e | ⟨_, e⟩
      · rw [← e]; exact f3
      · exact e
    obtain ⟨c1, v, q1, q2, q3, q4, q5, q6⟩ := F.cel x f1 hkc
    rw [hd'] at q1; cases q1
    obtain ⟨o, ho, hod⟩ := id q5
    refine ⟨d, v, hd, q2, hne d o ho, q4, IsCell_at q5 fun o e => hkeep _ _ e, ?_⟩
    rw [hlk x f2]
    exact q6.mono S
  · intro x y c h1 h2
    exact F.apart x y c (hcl1 _ _ h1) (hcl1 _ _ h2)
  · intro p hp
    have := hcl3 p hp
    obtain ⟨q1, o, q2⟩ := F.alive _ (mem_of_lookup' this)
    exact ⟨q1, o, hkeep _ _ q2⟩
end
end Mine

end
section
set_option autoImplicit false
set_option linter.unusedVariables false
set_option linter.unusedSimpArgs false
namespace Mine
open PySem PySem.Calls PyProof.Rows

section
variable {X : Fix} {C : Ctx} {A : Around} {n : Nat} {Ex : Value → Shared → Prop} {s : Shared} {φ : List Addr} {H : Hp} {sc : Scope} {ns : List Str} {env : Env} {ρ : Env'}

/-- what holds between two turns of a comprehension -/
inductive CTurn (X : Fix) (C : Ctx) (s : Shared) (φ φ₀ : List Addr) (h1 : Heap) (cenv : Env) (nsC : List Str) (H₀ : Hp) (ws : List Nat) (us : List V) (QQ : List V → Hp → Prop) (D : Addr) (io : List Addr) (St : Nat → Heap → Prop) (t : Tgt) (cs : List E) (elt : E) (k : Nat) (s' : Shared) : Prop
  | mk (i : Nat) (ρ' : Env') (H' : Hp) (φ' : List Addr) (h' : Heap) (tk : Nat) (acc : List V) (ys : List Value) (kk : Nat) (e1 : s' = { s with heap := h', toks := tk }) (e2 : k = (us.drop i).length + 1) (F : FR X.W cenv nsC ρ' φ' h') (R : SR X.W φ' H' h') (hw : stands ws H₀ H' = true) (st : St i h')
    (hio : ∀ a ∈ D :: io, a ∉ φ' ∧ X.W.h₀.get? a = none) (S : Stp [] φ s.heap φ' h') (kp : Kp φ₀ h1 φ' h') (hD : h'.get? D = some (lstObj ys kk)) (ra : RepL X.W.scr φ' h' acc ys) (hal : acc.length ≤ i) (hi : i ≤ us.length) (p : compW ws H₀ t (fun ρ H Q => WT C cs ρ H Q) (fun ρ H Q => WE C elt ρ H Q) (us.drop i) ρ' H' acc QQ) : CTurn X C s φ φ₀ h1 cenv nsC H₀ ws us QQ D io St t cs elt k s'

/-- the turns of a comprehension -/
theorem compTurns_snd {elt : E} {t : Tgt} {cs : List E} {e tg iter : Expr} {ifs : List Expr} {cs' : Scope} {nsC : List Str} {cenv : Env} {pos : Pos} {H₀ H1 : Hp} {ws : List Nat} {us : List V} {QQ : List V → Hp → Prop} {I D : Addr} {io φ₀ : List Addr} {St : Nat → Heap → Prop} {h1 : Heap} {tk1 : Nat} {RR : Result → Shared → Prop}
    (rm : Room A n) (kd : Kinds cs' cenv) (hown : OwnN cenv [cenv.locals] (tNames t tg)) (ht : chkT cs' nsC t tg = true) (helt : EvS X C n cs' nsC elt e) (hifs : LsS X C n cs' nsC cs ifs)
    (it : Itr X n tg φ₀ h1 H₀ ws us I io St) (hnew : ∀ a ∈ D :: cenv.locals :: io, s.heap.get? a = none) (S0 : Stp [] φ s.heap φ₀ h1)
    (F : FR X.W cenv nsC ρ φ₀ h1) (R : SR X.W φ₀ H1 h1) (hw : stands ws H₀ H1 = true) (hst : St 0 h1) (hio : ∀ a ∈ D :: io, a ∉ φ₀ ∧ X.W.h₀.get? a = none) (hfr : ∀ a ∈ D :: io, a ≠ cenv.locals ∧ ∀ p ∈ cenv.cells, p.2 ≠ a) (hDio : D ∉ io)
    (hD : ∃ k, h1.get? D = some (lstObj [] k)) (hlen : us.length < 16000000)
    (p : compW ws H₀ t (fun ρ H Q => WT C cs ρ H Q) (fun ρ H Q => WE C elt ρ H Q) us ρ H1 [] QQ)
    (fin : ∀ vs H2 φ' h' tk ys k ρ', QQ vs H2 → vs.length < 16000000 → SR X.W φ' H2 h' → Stp [] φ s.heap φ' h' → FR X.W cenv nsC ρ' φ' h' → h'.get? D = some (lstObj ys k) → RepL X.W.scr φ' h' vs ys → D ∉ φ' → RR (.ok .next) { s with heap := h', toks := tk }) :
    codeAny X.M A (.compLoop (.ListComp e [⟨tg, iter, ifs, 0⟩] cs' pos) 0 (.ref I) (.ref D) cenv) RR { s with heap := h1, toks := tk1 } := by
  refine compLoop_any (CTurn X C s φ φ₀ h1 cenv nsC H₀ ws us QQ D io St t cs elt) ?_ (us.length + 1)
    ⟨0, ρ, H1, φ₀, h1, tk1, [], [], hD.choose, rfl, by simp, F, R, hw, hst, hio, S0, .refl, hD.choose_spec, .nil, Nat.zero_le _, Nat.zero_le _, by simpa using p⟩
  have hC : ∀ a ∈ D :: io, ∀ x c, cenv.cells.lookup x = some c → c ≠ a := fun a ha x c hx e => (hfr a ha).2 _ (mem_of_lookup' hx) e
  have hL : ∀ a ∈ D :: io, cenv.locals ≠ a := fun a ha e => (hfr a ha).1 e.symm
  rintro k s' ⟨i, ρ', H', φ', h', tk, acc, ys, kk, rfl, rfl, F', R', hw', hst', hio', S', hpre', hD', ra, hal, hi, p'⟩
  have hioI : ∀ a ∈ io, a ∉ φ' ∧ X.W.h₀.get? a = none := fun a ha => hio' a (.tail _ ha)
  cases hv : us[i]? with
  | none =>
    refine it.done A φ' H' { s with heap := h', toks := tk } i _ _ rm hpre' R' hw' hst' hioI hv fun h2 tk2 R2 S2 => ?_
    have hd : us.drop i = [] := List.drop_eq_nil_iff.mpr (List.getElem?_eq_none_iff.mp hv)
    rw [hd] at p'
    exact fin acc H' φ' h2 tk2 ys kk ρ' p' (by (first | lia | omega)) R2 (S'.fin2 S2 fun a ha => hnew a (.tail _ (.tail _ ha))) (F'.fin2 S2 (fun hm => (hfr _ (.tail _ hm)).1 rfl) fun p hp hm => (hfr _ (.tail _ hm)).2 p hp rfl) (S2.keep _ _ hDio (hio' D (.head _)).1 hD') (ra.kp S2.kp) (hio' D (.head _)).1
  | some v =>
    refine it.item A φ' H' { s with heap := h', toks := tk } i v _ _ rm hpre' R' hw' hst' hioI hv fun y s₁ hl => ?_
    refine hl _ _ fun h2 tk2 R2 S2 st2 r2 => ?_
    have hlt := (List.getElem?_eq_some_iff.mp hv).1
    have hd : us.drop i = v :: us.drop (i + 1) := by rw [List.drop_eq_getElem_cons hlt, (List.getElem?_eq_some_iff.mp hv).2]
    rw [hd] at p'
    have F2 := F'.mono S2 (fun hm => (hfr _ (.tail _ hm)).1 rfl) (fun x c hx hm => hC c (.tail _ hm) x c hx rfl)
    obtain ⟨ρ2, ha, p'⟩ := wSome_ex p'
    -- all that is not there at the start
    have back : ∀ {own φ₂ : List Addr} {h₂ : Heap}, Stp own φ' h' φ₂ h₂ → (∀ a ∈ own, a ∈ D :: cenv.locals :: io) → Stp [] φ s.heap φ₂ h₂ := fun T hs =>
      Stp.drop (S'.nil.trans T) fun a ha _ => hnew a (hs a ha)
    have hD2 : h2.get? D = some (lstObj ys kk) := S2.keep _ _ hD' (hio' D (.head _)).1 hDio
    refine asg_snd (own := [cenv.locals]) t tg v y A ρ' ρ2 φ' H' { s with heap := h2, toks := tk2 } _ _ ht hown rm F2 R2 r2 ha fun h3 tk3 R3 F3 S4 => ?_
    have inL : ∀ a ∈ D :: io, a ∉ [cenv.locals] := fun a ha hm => hL a ha (List.mem_singleton.mp hm).symm
    have hD3 : h3.get? D = some (lstObj ys kk) := S4.keep _ _ hD2 (hio' D (.head _)).1 (inL D (.head _))
    have st3 : St (i + 1) h3 := it.keep _ _ _ st2 fun a ha o e => S4.keep a o e (hioI a ha).1 (inL a (.tail _ ha))
    let W : List Addr := io ++ [cenv.locals]
    have hW : ∀ a ∈ W, a ∈ D :: cenv.locals :: io := by
      intro a ha
      rcases List.mem_append.mp ha with ha | ha
      · exact .tail _ (.tail _ ha)
      · rw [List.mem_singleton.mp ha]; exact .tail _ (.head _)
    have S3 : Stp W φ' h' φ' h3 := (S2.sub fun a ha => List.mem_append_left _ ha).trans (S4.sub fun a ha => List.mem_append_right _ ha)
    refine hifs.tst A cenv ρ2 φ' H' { s with heap := h3, toks := tk3 } _ _ rm kd F3 R3 (mnT C cs ρ2 H' _ _ (fun b H4 p' => ?_) p')
    intro φ4 h4 tk4 R4 S5
    have F4 := F3.mono0 S5
    have hio4 : ∀ a ∈ D :: io, a ∉ φ4 ∧ X.W.h₀.get? a = none := by
      intro a ha
      refine ⟨?_, (hio' a ha).2⟩
      rcases List.mem_cons.mp ha with rfl | ha'
      · exact S5.notMem hD3 (hio' _ (.head _)).1
      · obtain ⟨o, ho⟩ := it.live _ _ st3 a ha'
        exact S5.notMem ho (hioI a ha').1
    have hD4 : h4.get? D = some (lstObj ys kk) := S5.keep _ _ hD3 (hio' D (.head _)).1 (by simp)
    have st4 : St (i + 1) h4 := it.keep _ _ _ st3 fun a ha o e => S5.keep a o e (hioI a ha).1 (by simp)
    have S6 : Stp W φ' h' φ4 h4 := S3.trans S5.nil
    have kp4 : Kp φ₀ h1 φ4 h4 := hpre'.trans S6.kp
    cases b with
    | false =>
      simp only [Bool.false_eq_true, if_false]
      exact ⟨(us.drop (i + 1)).length + 1, by rw [hd]; simp, i + 1, ρ2, H4, φ4, h4, tk4, acc, ys, kk, rfl, rfl, F4, R4, p'.1, st4, hio4, back S6 hW, kp4, hD4, ra.mono S6, by (first | lia | omega), hlt, p'.2⟩
    | true =>
      simp only [if_true]
      refine helt A cenv ρ2 φ4 H4 { s with heap := h4, toks := tk4 } _ _ rm kd F4 R4 (WE_mono p' fun y5 H5 p' => ?_)
      intro φ5 h5 tk5 x5 R5 S7 r5
      have hio5 : ∀ a ∈ D :: io, a ∉ φ5 ∧ X.W.h₀.get? a = none := by
        intro a ha
        refine ⟨?_, (hio' a ha).2⟩
        rcases List.mem_cons.mp ha with rfl | ha'
        · exact S7.notMem hD4 (hio4 _ (.head _)).1
        · obtain ⟨o, ho⟩ := it.live _ _ st4 a ha'
          exact S7.notMem ho (hio4 a ha).1
      have hD5 : h5.get? D = some (lstObj ys kk) := S7.keep _ _ hD4 (hio4 D (.head _)).1 (by simp)
      have st5 : St (i + 1) h5 := it.keep _ _ _ st4 fun a ha o e => S7.keep a o e (hio4 a (.tail _ ha)).1 (by simp)
      have S8 : Stp W φ' h' φ5 h5 := S6.trans S7.nil
      have hrl := ra.length
      refine wpAny_list_append_plain (s := { s with heap := h5, toks := tk5 }) (items := ys.toArray) ⟨kk, hD5⟩ (fun h6 hp6 hs6 => ?_) (by simp; unfold sizeLine; (first | lia | omega))
      obtain ⟨k6, hD6⟩ := hp6
      have hD6' : h6.get? D = some (lstObj (ys ++ [x5]) k6) := by rw [hD6]; simp
      have hDn : NotTup (lstObj ys kk) := notTup_cls (by simp) (by simp)
      have S9 : Stp [D] φ5 h5 φ5 h6 := .but (.inl (by simp)) hD5 hDn hD6' hs6.extBut
      have R6 : SR X.W φ5 H5 h6 := R5.but (hio5 D (.head _)).1 (hio5 D (.head _)).2 hD5 hDn hD6' hs6.extBut
      have F6 : FR X.W cenv nsC ρ2 φ5 h6 := (F4.mono0 S7).mono S9 (fun hm => hL D (.head _) (List.mem_singleton.mp hm)) (fun x c hx hm => hC D (.head _) x c hx (List.mem_singleton.mp hm))
      have st6 : St (i + 1) h6 := it.keep _ _ _ st5 fun a ha o e => hs6.extBut a o (fun e' => hDio (e' ▸ ha)) e
      have S10 : Stp (D :: W) φ' h' φ5 h6 := (S8.sub fun a ha => .tail _ ha).trans (S9.sub fun a ha => by rw [List.mem_singleton.mp ha]; exact .head _)
      refine ⟨(us.drop (i + 1)).length + 1, by rw [hd]; simp, i + 1, ρ2, H5, φ5, h6, tk5, acc ++ [y5], ys ++ [x5], k6, rfl, rfl, F6, R6, p'.1, st6, hio5, back S10 ?_, ?_, hD6', (ra.mono S10).append (.one (r5.mono S9)), ?_, hlt, p'.2⟩
      · intro a ha
        rcases List.mem_cons.mp ha with rfl | ha
        · exact .head _
        · exact hW a ha
      · exact (hpre'.trans S10.kp)
      · rw [List.length_append]; exact Nat.succ_le_succ hal
end
end Mine

end
section
set_option autoImplicit false
set_option linter.unusedVariables false
set_option linter.unusedSimpArgs false
namespace Mine
open PySem PySem.Calls PyProof.Rows

section
variable {W : Wo} {own φ φ' : List Addr} {h h' : Heap} {H : Hp}
/-- an object of one's own becomes a cell -/
theorem SR.adopt {D : Addr} {c : Cell} (R : SR W φ H h) (hD : D ∉ φ) (h0 : W.h₀.get? D = none) (hc : CellAt W (φ ++ [D]) h D c) (hh : c ≠ .hid := by intro e; cases e) : SR W (φ ++ [D]) (H ++ [c]) h := by
  obtain ⟨o, e, hn⟩ := hc.notT hh
  exact R.grow (fun _ _ e => e) (.adopt e hn) hD h0 hc
theorem Stp.adopt {D : Addr} (S : Stp own φ h φ' h') (hD : h.get? D = none) : Stp own φ h (φ' ++ [D]) h' := by
  refine ⟨?_, S.keep, fun a ha hn => ?_, S.tup, S.cod, S.alive⟩
  · obtain ⟨t, rfl⟩ := S.pre; exact ⟨t ++ [D], by simp⟩
  · rcases List.mem_append.mp ha with ha | ha
    · exact S.fresh a ha hn
    · rw [List.mem_singleton.mp ha]; exact hD
end

section
variable {X : Fix} {C : Ctx} {A : Around} {n : Nat} {Ex : Value → Shared → Prop} {s : Shared} {φ : List Addr} {H : Hp} {sc : Scope} {ns : List Str} {env : Env} {ρ : Env'}

theorem comp_core {elt : E} {t : Tgt} {it : It} {cs : List E} {e tg iter : Expr} {ifs : List Expr} {cs' : Scope} {loc : List Str} {pos p0 : Pos} {use : Option (Value → Sem Unit)} {Q : Value → Shared → Prop} {QQ : List V → Hp → Prop}
    (c : CompSc sc ns loc cs') (hloc : tNames t tg = loc) (ht : chkT cs' (loc ++ ns) t tg = true) (htg : tgOk it tg = true) (hit : ItS X C n sc ns it iter) (helt : EvS X C n cs' (loc ++ ns) elt e) (hifs : LsS X C n cs' (loc ++ ns) cs ifs)
    (rm : Room A n) (kd : Kinds sc env) (F : FR X.W env ns ρ φ s.heap) (R : SR X.W φ H s.heap)
    (p : WIt C it ρ H fun p H => szOk p.1 = true ∧ compW p.2 H t (fun ρ H Q => WT C cs ρ H Q) (fun ρ H Q => WE C elt ρ H Q) p.1 (List.replicate loc.length none ++ ρ) H [] QQ)
    (fin : ∀ vs H2 φ' h' tk D C' ys k m, QQ vs H2 → vs.length < 16000000 → SR X.W φ' H2 h' → Stp [] φ s.heap φ' h' → h'.get? D = some (lstObj ys k) → RepL X.W.scr φ' h' vs ys → D ∉ φ' → s.heap.get? D = none → X.W.h₀.get? D = none → C' ∉ φ' → s.heap.get? C' = none → C' ≠ D → X.W.h₀.get? C' = none → h'.Ns C' m →
      compPost X.M A Ex use Q (.ref D) C' (.ok .next) { s with heap := h', toks := tk }) :
    wpAny X.M A (comprehension (.ListComp e [⟨tg, iter, ifs, 0⟩] cs' pos) cs' env p0 (newList []) false (eval iter env) use) Q Ex s := by
  have hcells : ∀ p ∈ cs'.names, p.2 = .free → ∃ d, env.cells.lookup p.1 = some d := by
    intro p hp hk
    obtain ⟨f1, f2, f3⟩ := c.free p hp hk
    have hkc : isCellK (env.kindOf p.1) := by
      rcases kd p.1 with e | ⟨_, e⟩
      · rw [← e]; exact f3
      · exact e
    obtain ⟨c1, v, q1, _⟩ := F.cel p.1 f1 hkc
    exact ⟨c1, q1⟩
  obtain ⟨cl, hclos, hcl1, hcl2, hcl3⟩ := closure_eq hcells
  refine wpAny_comprehension_free rfl (hit.1 env) hclos c.kind (fun x hx hl => by obtain ⟨y, k⟩ := x; cases hl; exact lookupK_nodup c.nodup hx) (hit.2 A env ρ φ H s tg _ Ex rm kd F R htg (mnIt C it ρ H _ _ (fun q H1 p => ?_) p))
  obtain ⟨us, ws⟩ := q
  have hus : us.length < 16000000 := by simpa [szOk] using p.1
  intro φ1 h1 tk I io St R1 S1 it1 st1 hio
  refine wpAny_newObj_type (wpAny_newFunctionEnv c.nocell (by intro y hy; simp at hy) (fun h₂ hns hsb => ?_) c.kind)
  dsimp only at hns hsb ⊢
  generalize hH2 : h1.push { cls := .type "list", dict := none, data := .seq ([] : List Value).toArray } = g at hns hsb ⊢
  have hCs : g.objs.size = h1.objs.size + 1 := by rw [← hH2, Heap.size_push]
  have old1 : ∀ a o, h1.get? a = some o → g.get? a = some o := fun a o e => hH2 ▸ Heap.get?_push_of_some _ e
  have old2 : ∀ a o, g.get? a = some o → h₂.get? a = some o := fun a o e => hsb.extBut a o (Nat.ne_of_lt (Heap.lt_size e)) (Heap.get?_push_of_some _ e)
  have old : ∀ a o, h1.get? a = some o → h₂.get? a = some o := fun a o e => old2 a o (old1 a o e)
  have hD : h₂.get? h1.objs.size = some (lstObj [] 0) := old2 _ _ (by rw [← hH2]; exact Heap.get?_push_size _ rfl)
  have frD := fresh_at R1 S1 (b := h1.objs.size) (Nat.le_refl _)
  have frC := fresh_at R1 S1 (b := g.objs.size) (by (first | lia | omega))
  have none1 : ∀ b, h1.objs.size ≤ b → h1.get? b = none := by
    intro b hb
    cases e : h1.get? b with
    | none => rfl
    | some o => exact absurd (Heap.lt_size e) (Nat.not_lt.mpr hb)
  have Fc : FR X.W (compEnvC cs' cl g.objs.size env) (loc ++ ns) (List.replicate loc.length none ++ ρ) φ1 h₂ := c.frame kd (F.mono0 S1) hcl1 hcl2 hcl3 ⟨frC.1, frC.2.2, none1 _ (by (first | lia | omega))⟩ old hns
  have St0 : St 0 h₂ := it1.keep _ _ _ st1 fun a _ o e => old a o e
  have liv : ∀ a ∈ io, ∃ o, h1.get? a = some o := fun a ha => it1.live _ _ st1 a ha
  have hlt : ∀ a ∈ io, a < h1.objs.size := fun a ha => let ⟨o, e⟩ := liv a ha; Heap.lt_size e
  have cellsF : ∀ p ∈ cl, ∃ o, s.heap.get? p.2 = some o := fun p hp => (F.alive _ (mem_of_lookup' (hcl3 p hp))).2
  have loop : codeAny X.M A (.compLoop (.ListComp e [⟨tg, iter, ifs, 0⟩] cs' pos) 0 (.ref I) (.ref h1.objs.size) (compEnvC cs' cl g.objs.size env)) (compPost X.M A Ex use Q (.ref h1.objs.size) g.objs.size) { s with heap := h₂, toks := tk } := by
    refine compTurns_snd (s := s) (φ := φ) (φ₀ := φ1) (io := io) (St := St) (us := us) (ws := ws) (H₀ := H1) (H1 := H1) rm (c.kinds) ?_ ht helt hifs ⟨it1.keep, it1.live, ?_, ?_, it1.self⟩ ?_ (S1.trans (.ext old)) Fc (R1.ext old) (by simp [stands]) St0 ?_ ?_ ?_ ⟨0, hD⟩ hus p.2 ?_
    · intro x hx
      rw [hloc] at hx
      exact .inl ⟨lookup_relabel_local (c.loc_ x hx), by show g.objs.size ∈ [g.objs.size]; simp⟩
    · intro A φ H s i v Q Ex rm kp
      exact it1.item A φ H s i v Q Ex rm (Kp.trans (Stp.kp (own := []) (.ext old)) kp)
    · intro A φ H s i Q Ex rm kp
      exact it1.done A φ H s i Q Ex rm (Kp.trans (Stp.kp (own := []) (.ext old)) kp)
    · intro a ha
      rcases List.mem_cons.mp ha with rfl | ha
      · exact frD.2.1
      · rcases List.mem_cons.mp ha with rfl | ha
        · exact frC.2.1
        · exact (hio a ha).2.1
    · intro a ha
      rcases List.mem_cons.mp ha with rfl | ha
      · exact ⟨frD.1, frD.2.2⟩
      · exact ⟨(hio a ha).1, (hio a ha).2.2⟩
    · intro a ha
      refine ⟨?_, fun p hp e => ?_⟩
      · show a ≠ g.objs.size
        rcases List.mem_cons.mp ha with rfl | ha
        · exact fun e => by rw [hCs] at e; exact absurd e (Nat.ne_of_lt (Nat.lt_succ_self _))
        · have := hlt a ha; exact fun e => by rw [hCs] at e; subst e; exact absurd this (Nat.not_lt.mpr (Nat.le_succ _))
      · obtain ⟨o, ho⟩ := cellsF p hp
        rw [e] at ho
        rcases List.mem_cons.mp ha with rfl | ha
        · rw [frD.2.1] at ho; cases ho
        · rw [(hio a ha).2.1] at ho; cases ho
    · intro hm
      exact Nat.lt_irrefl _ (hlt _ hm)
    · intro vs H2 φ' h' tk' ys k ρ' q1 q2 r1 r2 r3 r4 r5 r6
      obtain ⟨m, hm, _⟩ := r3.loc
      exact fin vs H2 φ' h' tk' h1.objs.size g.objs.size ys k m q1 q2 r1 r2 r4 r5 r6 frD.2.1 frD.2.2 r3.locA.1 frC.2.1 (fun e => by rw [hCs] at e; exact absurd e.symm (Nat.ne_of_lt (Nat.lt_succ_self _))) r3.locA.2 hm
  exact codeAny_compStart_list loop (it1.self A _ _ _ rm St0 loop)

theorem comp_snd {elt : E} {t : Tgt} {it : It} {cs : List E} {e tg iter : Expr} {ifs : List Expr} {cs' : Scope} {loc : List Str} {pos : Pos}
    (c : CompSc sc ns loc cs') (hloc : tNames t tg = loc) (ht : chkT cs' (loc ++ ns) t tg = true) (htg : tgOk it tg = true) (hit : ItS X C n sc ns it iter) (helt : EvS X C n cs' (loc ++ ns) elt e) (hifs : LsS X C n cs' (loc ++ ns) cs ifs) :
    EvS X C n sc ns (.comp loc.length elt t it cs) (.ListComp e [⟨tg, iter, ifs, 0⟩] cs' pos) := by
  intro A env ρ φ H s Q Ex rm kd F R p
  rw [eval_ListComp]
  refine comp_core c hloc ht htg hit helt hifs rm kd F R p ?_
  intro vs H2 φ' h' tk D C' ys k m p hz' R2 S2 hD r hDn hDs hD0 hCn hCs hCD hC0 hm
  refine ⟨m, hm, fun h3 hs3 => ?_⟩
  replace hs3 : Heap.SameBut C' h' h3 := hs3
  obtain ⟨o, es, ep, ho, hd, _⟩ := hm
  have FI : Fin [C'] h' h3 := ⟨fun a o hb e => hs3.extBut a o (by simpa using hb) e, fun a ha o' e => by rw [List.mem_singleton.mp ha, ho] at e; cases e; exact notTup_dict hd⟩
  have R3 := R2.fin (io := [C']) (fun a ha => by rw [List.mem_singleton.mp ha]; exact ⟨hCn, hC0⟩) FI
  have S3 := S2.fin FI (fun a ha => by rw [List.mem_singleton.mp ha]; exact hCs)
  have hD3 : h3.get? D = some (lstObj ys k) := FI.keep _ _ (by simpa using hCD.symm) hD
  have kp : Kp φ' h3 (φ' ++ [D]) h3 := .adopt hD3 (notTup_cls (by simp) (by simp)).1
  refine p (φ' ++ [D]) h3 tk (.ref D) (R3.adopt hDn hD0 ⟨ys, k, hD3, (r.kp FI.kp).kp kp, by (first | lia | omega)⟩) (S3.adopt hDs) (.ref ?_)
  rw [← R3.len, List.getElem?_append_right (Nat.le_refl _)]; simp

theorem asgComp_snd {elt : E} {t u : Tgt} {it : It} {cs : List E} {e tg iter : Expr} {ifs : List Expr} {cs' : Scope} {loc : List Str} {y : Str} {py cpos pos : Pos}
    (c : CompSc sc ns loc cs') (hloc : tNames t tg = loc) (ht : chkT cs' (loc ++ ns) t tg = true) (htg : tgOk it tg = true) (hit : ItS X C n sc ns it iter) (helt : EvS X C n cs' (loc ++ ns) elt e) (hifs : LsS X C n cs' (loc ++ ns) cs ifs)
    (hu : chkT sc ns u (.Name y py) = true) : SS X C n sc ns (.asg u (.comp loc.length elt t it cs)) (.Assign [.Name y py] (.ListComp e [⟨tg, iter, ifs, 0⟩] cs' cpos) pos) := by
  intro A env own ρ φ H s Q Ex rm kd hown F R p
  change WE C (.comp loc.length elt t it cs) ρ H (fun v H => wSome (asg u v ρ) fun ρ' => PostO X.W env ns own φ s Q (.next ρ' H)) at p
  have hev := comp_snd (pos := cpos) c hloc ht htg hit helt hifs
  have hsw : ∃ b, swapsWith (.ListComp e [⟨tg, iter, ifs, 0⟩] cs' cpos) (some (.Name y py)) pos.line env = pure b := ⟨_, rfl⟩
  obtain ⟨b, hsw⟩ := hsw
  cases b with
  | false =>
    refine wpAny_Assign_stores (hev A env ρ φ H s _ Ex rm kd F R (WE_mono p fun v H1 p => ?_)) hsw rfl
    intro φ1 h1 tk y' R1 S1 r1
    obtain ⟨ρ', ha, p1⟩ := wSome_ex p
    show wpAny X.M A (assign (.Name y py) env y') (fun _ => Q .next) Ex { s with heap := h1, toks := tk }
    refine asg_snd (own := own) u (.Name y py) v y' A ρ ρ' φ1 H1 { s with heap := h1, toks := tk } _ _ hu (fun x hx => hown.1 x (tNames_sub u _ hu x hx)) rm (F.mono0 S1) R1 r1 ha fun h2 tk2 R2 F2 S2 => ?_
    exact p1 φ1 h2 tk2 R2 F2 (S1.nil.trans S2)
  | true =>
    rw [exec_Assign_Name_used _ _ _ _ hsw]
    refine wpAny_bind (wpAny_standAt (wpAny_bind ?_))
    show wpAny _ A (do let _ ← comprehension (.ListComp e [⟨tg, iter, ifs, 0⟩] cs' cpos) cs' env _ (newList []) false (eval iter env) (some (assign (.Name y py) env))) _ _ s
    refine wpAny_bind (wpAny_mono (Q := fun _ s' => Q .next s') ?_ (fun _ s' hq => wpAny_pure (wpAny_pure hq)) fun _ _ e => e)
    refine comp_core (QQ := fun vs H => wSome (asg u (.ref H.length) ρ) fun ρ' => PostO X.W env ns own φ s Q (.next ρ' (H ++ [Cell.list vs]))) c hloc ht htg hit helt hifs rm kd F R p ?_
    intro vs H2 φ' h' tk D C' ys k m p hz' R2 S2 hD r hDn hDs hD0 hCn hCs hCD hC0 hm
    obtain ⟨ρ', ha, p⟩ := wSome_ex p
    show wpAny X.M A (assign (.Name y py) env (.ref D)) _ _ _
    have kp : Kp φ' h' (φ' ++ [D]) h' := .adopt hD (notTup_cls (by simp) (by simp)).1
    have R3 := R2.adopt hDn hD0 (c := .list vs) ⟨ys, k, hD, r.kp kp, by (first | lia | omega)⟩
    have S3 : Stp [] φ s.heap (φ' ++ [D]) h' := S2.adopt hDs
    have aliveL : ∃ o, s.heap.get? env.locals = some o := by obtain ⟨m, ⟨o, es, ep, ho, _⟩, _⟩ := F.loc; exact ⟨o, ho⟩
    refine asg_snd (own := own) u (.Name y py) (.ref H2.length) (.ref D) A ρ ρ' (φ' ++ [D]) (H2 ++ [.list vs]) { s with heap := h', toks := tk } _ _ hu (fun x hx => hown.1 x (tNames_sub u _ hu x hx)) rm (F.mono0 S3) R3 (.ref (by rw [← R2.len, List.getElem?_append_right (Nat.le_refl _)]; simp)) ha fun h4 tk4 R4 F4 S4 => ?_
    obtain ⟨o, es, ep, ho, hd, hrest⟩ := id hm
    have hCown : C' ∉ own := fun hmem => by
      obtain ⟨o, ho⟩ := hown.alive F C' hmem
      rw [hCs] at ho; cases ho
    have hCn' : C' ∉ φ' ++ [D] := fun hmem => by
      rcases List.mem_append.mp hmem with h | h
      · exact hCn h
      · exact hCD (List.mem_singleton.mp h)
    have hm4 : h4.Ns C' m := Ns_at hm fun o e => S4.keep _ _ e hCn' hCown
    refine ⟨m, hm4, fun h5 hs5 => ?_⟩
    replace hs5 : Heap.SameBut C' h4 h5 := hs5
    obtain ⟨o4, es4, ep4, ho4, hd4, _⟩ := hm4
    have FI : Fin [C'] h4 h5 := ⟨fun a o hb e => hs5.extBut a o (by simpa using hb) e, fun a ha o' e => by rw [List.mem_singleton.mp ha, ho4] at e; cases e; exact notTup_dict hd4⟩
    have R5 := R4.fin (io := [C']) (fun a ha => by rw [List.mem_singleton.mp ha]; exact ⟨hCn', hC0⟩) FI
    have S5 : Stp own φ s.heap (φ' ++ [D]) h5 := (S3.nil.trans S4).fin FI (fun a ha => by rw [List.mem_singleton.mp ha]; exact hCs)
    have hCL : C' ≠ env.locals := fun e => by obtain ⟨o, ho⟩ := aliveL; rw [← e, hCs] at ho; cases ho
    have F5 := F4.fin FI (fun hm => hCL (List.mem_singleton.mp hm).symm) (fun p hp hm => by
      obtain ⟨_, o, ho⟩ := F.alive p hp
      rw [List.mem_singleton.mp hm, hCs] at ho; cases ho)
    exact p _ h5 tk4 R5 F5 S5
end
end Mine

end
section
set_option autoImplicit false
set_option linter.unusedVariables false
set_option linter.unusedSimpArgs false
namespace Mine
open PySem PySem.Calls PyProof.Rows

section
variable {X : Fix} {C : Ctx} {A : Around} {n : Nat} {Ex : Value → Shared → Prop} {s : Shared} {φ : List Addr} {H : Hp} {sc : Scope} {ns : List Str} {env : Env} {ρ : Env'}

theorem wIf_true {t : Bool} {A : Prop} (p : wIf t A False) : t = true ∧ A := by
  cases t
  · exact p.elim
  · exact ⟨rfl, p⟩
theorem low_of (G : X.Gl C) (R : SR X.W φ H s.heap) : (s.heap.objs.size == sysModules) = false := by
  obtain ⟨o, ho⟩ := G.1.low
  have := Heap.lt_size (R.keep _ _ ho)
  rw [beq_eq_false_iff_ne]
  intro e
  rw [e] at this
  exact absurd this (by decide)
/-- a cell of a list changed -/
theorem setList {l : Nat} {a : Addr} {vs ws : List V} {xs ys : List Value} {k k' : Nat} {h' : Heap} (R : SR X.W φ H s.heap) (ha : φ[l]? = some a) (h1 : s.heap.get? a = some (lstObj xs k)) (hs : Heap.ExtBut a s.heap h') (h2 : h'.get? a = some (lstObj ys k'))
    (r : RepL X.W.scr φ s.heap ws ys) (hz : ws.length ≤ 16000000) : SR X.W φ (H.set l (.list ws)) h' ∧ Stp [] φ s.heap φ h' := by
  have hn : NotTup (lstObj xs k) := notTup_cls (by simp) (by simp)
  have S : Stp [] φ s.heap φ h' := .but (.inr (List.mem_of_getElem? ha)) h1 hn h2 hs
  exact ⟨R.set ha hs ⟨ys, k', h2, r.mono S, hz⟩, S⟩

theorem base_of {o : Expr} (h : isBaseE o = true) (x : Str) (env : Env) : attributeBase o x env (eval o env) = eval o env := by
  rcases Bool.or_eq_true_iff.mp h with h | h
  · exact Expr.Name.elim (motive_1 := fun o => attributeBase o x env (eval o env) = eval o env) o (of_decide_eq_true h) fun _ _ => rfl
  · exact Expr.Subscript.elim (motive_1 := fun o => attributeBase o x env (eval o env) = eval o env) o (of_decide_eq_true h) fun _ _ _ => rfl
theorem few_of {es : List Expr} {cs : List E} {pos : Pos} (h : LsS X C n sc ns cs es) (hl : es.length < 20) (env : Env) : ((backTo pos (starEach es env)).all (fun x => !x.1) && (backToKw pos (keywordEach [] env)).all (fun x => x.1.isSome)
      && decide (es.length + ([] : List Keyword).length + (if ([] : List Keyword).isEmpty then 0 else 1) < 30)) = true := by
  have h1 := h.plain env pos
  have h2 : (backTo pos (starEach es env)).all (fun x => !x.1) = true := by
    rw [List.all_eq_true]
    intro x hx
    have := List.any_eq_false.mp h1 x hx
    simpa using this
  rw [h2]
  show (true && true && decide (es.length + 0 + 0 < 30)) = true
  rw [Bool.true_and, Bool.true_and, decide_eq_true_eq]
  (first | lia | omega)

theorem kind_append {v : V} {H : Hp} {x : Value} {h : Heap} (R : SR X.W φ H h) (r : Rep X.W.scr φ h v x) (hk : meKind .append H v = true) : ∃ l ad ys k, v = .ref l ∧ x = .ref ad ∧ φ[l]? = some ad ∧ h.get? ad = some (lstObj ys k) := by
  cases v <;> first | exact Bool.noConfusion hk | skip
  rename_i l
  replace hk : isListB H (.ref l) = true := hk
  simp only [isListB] at hk
  split at hk <;> first | exact Bool.noConfusion hk | skip
  rename_i us1 hl1
  obtain ⟨ad, rfl, had⟩ := refAt r
  obtain ⟨b, hb, ys, k, q, _⟩ := R.cell l _ hl1
  rw [had] at hb; cases hb
  exact ⟨l, ad, ys, k, rfl, rfl, had, q⟩
theorem append_snd {a c : E} {o e : Expr} {ap pos : Pos} (ho : isBaseE o = true) (hline : (ap.endLine == pos.line) = true) (ha : EvS X C n sc ns a o) (h : LsS X C n sc ns [c] [e]) : EvS X C n sc ns (.meth .append a [c]) (.Call (.Attribute o "append" ap) [e] [] pos) := by
  intro A env ρ φ H s Q Ex rm kd F R p
  refine wpAny_Call_method (base_of ho _ env) (few_of h (by simp) env) hline PySem.F.plainAttrs_list PySem.F.slot_list_append PySem.F.type_list_append (ha A env ρ φ H s _ Ex rm kd F R (WE_mono p fun v H1 p => ?_))
  obtain ⟨hkind, p⟩ := wIf_true p
  intro φ1 h1 tk x R1 S1 r1
  obtain ⟨l, ad, ys1, k1, rfl, rfl, had, hq1⟩ := kind_append R1 r1 hkind
  refine ⟨⟨_, hq1, rfl⟩, fun a' e => by cases e; exact ⟨_, hq1, rfl⟩, ?_⟩
  refine Calls.callWith_builtin (h.plain env pos) (evalArgs_of (h.plain env pos) (h.spl A env ρ φ1 H1 { s with heap := h1, toks := tk } _ Ex pos rm kd (F.mono0 S1) R1 (WEs_mono p fun us H2 p => ?_)))
  obtain ⟨l', xs, e0, hl2, p⟩ := onL_post (H := H2) (v := .ref l) (f := fun xs => bi1 us fun v => if szOk xs then .ok .none (H2.set l (.list (xs ++ [v]))) else .stuck) (PostV.step (tk := tk) (r := methV .append (.ref l) us H2) p S1)
  cases e0
  obtain ⟨u, rfl, p⟩ := bi1_post p
  obtain ⟨hz, p⟩ := if_post p
  have hz' : xs.length < 16000000 := by simpa [szOk] using hz
  intro φ2 h2 tk2 zs R2 S2 r2
  cases r2 with
  | cons rz r2 =>
    cases r2
    obtain ⟨ad', ys, k, e', had2, q1, q2, q3⟩ := listAt (s := { s with heap := h2, toks := tk2 }) R2 (Rep.mono S2 (Rep.ref had)) hl2
    cases e'
    rename_i z
    have := q2.length
    refine wpAny_list_append_plain (s := { s with heap := h2, toks := tk2 }) (items := ys.toArray) ⟨k, q1⟩ (fun h3 hp3 hs3 => ?_) (by simp; unfold sizeLine; (first | lia | omega))
    obtain ⟨k3, hp3⟩ := hp3
    have hp3' : h3.get? ad = some (lstObj (ys ++ [z]) k3) := by rw [hp3]; simp
    obtain ⟨R3, S3⟩ := setList (s := { s with heap := h2, toks := tk2 }) (vs := xs) R2 had2 q1 hs3.extBut hp3' (q2.append (.one rz)) (by simp; (first | lia | omega))
    exact p φ2 h3 tk2 _ R3 (S2.trans S3) .none

end
end Mine

end
section
set_option autoImplicit false
set_option linter.unusedVariables false
set_option linter.unusedSimpArgs false
namespace Mine
open PySem PySem.Calls PyProof.Rows

section
variable {X : Fix} {C : Ctx} {A : Around} {n : Nat} {Ex : Value → Shared → Prop} {s : Shared} {φ : List Addr} {H : Hp} {sc : Scope} {ns : List Str} {env : Env} {ρ : Env'}

theorem allInts_map : ∀ {vs : List V} {is : List Int}, allInts vs = some is → vs = is.map .int
  | [], is, h => by cases h; rfl
  | .int i :: r, is, h => by
    change (allInts r).map (i :: ·) = some is at h
    obtain ⟨js, h1, rfl⟩ := Option.map_eq_some_iff.mp h
    rw [List.map_cons, ← allInts_map h1]
  | .none :: r, is, h => nomatch h
  | .bool _ :: r, is, h => nomatch h
  | .tup _ :: r, is, h => nomatch h
  | .ref _ :: r, is, h => nomatch h
  | .script :: r, is, h => nomatch h
theorem intsAre_of {scr : Addr} {h : Heap} : ∀ {is : List Int} {xs : List Value}, RepL scr φ h (is.map .int) xs → IntsAre xs is
  | [], _, .nil => .nil
  | i :: is, _, .cons r1 r2 => by cases r1; exact .cons _ _ (intsAre_of r2)

end
end Mine

end
section
set_option autoImplicit false
set_option linter.unusedVariables false
set_option linter.unusedSimpArgs false
namespace Mine
open PySem PySem.Calls PyProof.Rows

theorem slice_bounds (lo hi : Option Int) (n : Nat) : sliceBounds lo hi none n = (((sliceEnd n 0 lo : Nat) : Int), ((sliceEnd n n hi : Nat) : Int), 1) := by
  unfold sliceBounds sliceEnd
  simp only [Option.getD_none]
  have h1 : (1 : Int) > 0 := by decide
  simp only [h1, if_true]
  congr 1
  · cases lo with
    | none => simp
    | some k => dsimp only; split <;> (first | lia | omega)
  · congr 1
    cases hi with
    | none => simp
    | some k => dsimp only; split <;> (first | lia | omega)
theorem slicePick_eq (xs : List Value) (lo hi : Option Int) : slicePick xs.toArray lo hi none = (pySlice xs lo hi).toArray := by
  unfold slicePick pySlice
  rw [List.size_toArray, slice_bounds]
  dsimp only
  rw [sliceRange_one, pick_run, List.drop_take]
theorem RepL.slice {scr : Addr} {φ : List Addr} {h : Heap} {vs : List V} {xs : List Value} (r : RepL scr φ h vs xs) (lo hi : Option Int) : RepL scr φ h (pySlice vs lo hi) (pySlice xs lo hi) := by
  unfold pySlice
  rw [r.length]
  exact (r.take _).drop _

theorem slice_adjust (lo hi : Option Int) (n : Nat) : Builtin.Slice.sliceAdjust lo hi 1 (n : Int) = (((sliceEnd n 0 lo : Nat) : Int), ((sliceEnd n n hi : Nat) : Int)) := by
  unfold Builtin.Slice.sliceAdjust sliceEnd
  have h1 : ¬ ((1 : Int) < 0) := by (first | lia | omega)
  simp only [h1, if_false]
  congr 1
  · cases lo with
    | none => simp
    | some k => dsimp only; split <;> (first | lia | omega)
  · cases hi with
    | none => simp
    | some k => dsimp only; split <;> (first | lia | omega)
theorem slice_places (a b : Nat) : Builtin.Slice.slicePlaces (a : Int) (b : Int) 1 = b - a := by
  unfold Builtin.Slice.slicePlaces
  have h1 : (1 : Int) > 0 := by (first | lia | omega)
  simp only [h1, if_true, Int.ediv_one]
  split <;> (first | lia | omega)
theorem sliceEnd_le (n d : Nat) (hd : d ≤ n) (k : Option Int) : sliceEnd n d k ≤ n := by
  unfold sliceEnd
  cases k with
  | none => exact hd
  | some k => dsimp only; split <;> (first | lia | omega)

section
variable {X : Fix} {C : Ctx} {A : Around} {n : Nat} {Ex : Value → Shared → Prop} {s : Shared} {φ : List Addr} {H : Hp} {sc : Scope} {ns : List Str} {env : Env} {ρ : Env'}

theorem slicePart_of {v : Value} {k : Option Int} {Q : Option Int → Shared → Prop} (hv : IsPart v k) (h : Q k s) : wpAny X.M A (Builtin.Slice.slicePartIndex v) Q Ex s := by
  cases hv with
  | none => exact slicePart_none h
  | int i t => exact slicePart_int h

/-- a part of a slice: an int, or none -/
theorem part_snd {lo : Option E} {l : Option Expr} (h : chkO X.K sc ns lo l = true) (he : ∀ c e, lo = some c → l = some e → EvS X C n sc ns c e) (A : Around) (env : Env) (ρ : Env') (φ : List Addr) (H : Hp) (s : Shared) (Q : Value → Shared → Prop) (Ex : Value → Shared → Prop)
    (rm : Room A n) (kd : Kinds sc env) (F : FR X.W env ns ρ φ s.heap) (R : SR X.W φ H s.heap) (p : WO C lo ρ H (PV X.W φ s Q)) : wpAny X.M A (evalPart l env) Q Ex s := by
  cases lo with
  | none =>
    cases l with
    | none =>
      rw [evalPart_none]
      exact wpAny_pure (p.now R .none s.toks)
    | some e => cases h
  | some c =>
    cases l with
    | none => cases h
    | some e =>
      rw [evalPart_some]
      exact he c e rfl rfl A env ρ φ H s Q Ex rm kd F R p
theorem partOf_spec {v : V} {x : Value} {k : Option Int} {scr : Addr} {h : Heap} (r : Rep scr φ h v x) (e : partOf v = some k) : IsPart x k := by
  cases v <;> simp [partOf] at e
  · subst e; cases r; exact .none
  · obtain ⟨_, rfl⟩ := e; cases r; exact .int _ _

theorem slc_snd {a : E} {lo hi : Option E} {v : Expr} {l u : Option Expr} {p0 pos : Pos} (G : X.Gl C) (ha : EvS X C n sc ns a v) (hl : chkO X.K sc ns lo l = true) (hu : chkO X.K sc ns hi u = true)
    (hle : ∀ c e, lo = some c → l = some e → EvS X C n sc ns c e) (hue : ∀ c e, hi = some c → u = some e → EvS X C n sc ns c e) : EvS X C n sc ns (.slc a lo hi) (.Subscript v (.Slice l u none p0) pos) := by
  intro A env ρ φ H s Q Ex rm kd F R p
  refine Subscript_ (ha A env ρ φ H s _ Ex rm kd F R (WE_mono p fun x H1 p1 => ?_))
  intro φ1 h1 tk1 y R1 S1 r1
  refine wpAny_Slice (part_snd hl hle A env ρ φ1 H1 { s with heap := h1, toks := tk1 } _ Ex rm kd (F.mono0 S1) R1 (mnO C lo ρ H1 _ _ (fun lv H2 p2 => ?_) p1))
  intro φ2 h2 tk2 z R2 S2 r2
  refine part_snd hu hue A env ρ φ2 H2 { s with heap := h2, toks := tk2 } _ Ex rm kd ((F.mono0 S1).mono0 S2) R2 (mnO C hi ρ H2 _ _ (fun hv H3 p3 => ?_) p2)
  intro φ3 h3 tk3 w R3 S3 r3
  rw [evalPart_none]
  refine wpAny_pure ?_
  have rx := (r1.mono S2).mono S3
  replace p3 : PostV X.W φ2 { s with heap := h2, toks := tk2 } Q (slcV C.scr x lv hv H3) := PostV.step p3 (S1.trans S2)
  unfold slcV at p3
  cases hp1 : partOf lv with
  | none => rw [hp1] at p3; exact p3.elim
  | some k1 =>
    cases hp2 : partOf hv with
    | none => rw [hp1, hp2] at p3; exact p3.elim
    | some k2 =>
      rw [hp1, hp2] at p3
      dsimp only at p3
      have q1 := partOf_spec (r2.mono S3) hp1
      have q2 := partOf_spec r3 hp2
      let oS : Obj := { cls := .type "slice", data := .fields #[z, w, .none] }
      have S4 : Stp [] φ3 h3 φ3 (h3.push oS) := .push _
      have R4 : SR X.W φ3 H3 (h3.push oS) := R3.ext fun a o e => Heap.get?_push_of_some _ e
      have sl : (h3.push oS).IsSliceOf h3.objs.size z w .none := Heap.IsSliceOf.new _ _ _ _
      have lst : ∀ {ad : Addr} {us : List V} {xs : List Value}, y = .ref ad → h3.IsList ad xs.toArray → RepL X.W.scr φ3 h3 us xs → us.length ≤ 16000000 → PostV X.W φ2 { s with heap := h2, toks := tk2 } Q (allocL (pySlice us k1 k2) H3) → wpAny X.M A (subscriptTail v (.Slice l u none p0) y (.ref h3.objs.size)) Q Ex { s with heap := h3.push oS, toks := tk3 } := by
        intro ad us xs e hL rs hz p4
        subst e
        have hL' := hL.push oS
        refine tail_any (s := { s with heap := h3.push oS, toks := tk3 }) hL'.typeIs PySem.slot_list_getitem.lookup ?_ rfl
        have hlen := rs.length
        refine wpAny_getItem_list_slice (s := { s with heap := h3.push oS, toks := tk3 }) hL' sl q1 q2 .none (by simp) ?_ (by simp; unfold sizeLine; (first | lia | omega))
        rw [slicePick_eq]
        unfold allocL at p4
        split at p4
        · rename_i hz2
          have hz3 : (pySlice us k1 k2).length < 16000000 := by simpa [szOk] using hz2
          exact alloc_snd (s := { s with heap := h3.push oS, toks := tk3 }) R4 ((rs.mono S4).slice k1 k2) (by (first | lia | omega)) (PostV.step (s := { s with heap := h2, toks := tk2 }) p4 (S3.trans S4)) 0 tk3
        · exact p4.elim
      cases x with
      | ref li =>
        dsimp only at p3
        split at p3
        · rename_i us hi
          obtain ⟨ad, xs, e, g1, g2, g3⟩ := items_at (s := { s with heap := h3, toks := tk3 }) G R3 rx hi
          rcases g3 with ⟨_, _, g3⟩ | ⟨g3, _⟩
          · cases g3
          · exact lst e g3 g1 g2 p3
        · exact p3.elim
      | script =>
        dsimp only at p3
        split at p3
        · rename_i us hi
          obtain ⟨ad, xs, e, g1, g2, g3⟩ := items_at (s := { s with heap := h3, toks := tk3 }) G R3 rx hi
          rcases g3 with ⟨_, _, g3⟩ | ⟨g3, _⟩
          · cases g3
          · exact lst e g3 g1 g2 p3
        · exact p3.elim
      | _ => exact p3.elim
end
end Mine

end
section
set_option autoImplicit false
set_option linter.unusedVariables false
set_option linter.unusedSimpArgs false
set_option maxRecDepth 100000
namespace Mine
open PySem PySem.Calls PyProof.Rows

section
variable {prog : Program} {w : World} {A : Around} {E : Value → Shared → Prop} {s : Shared} {d : Addr} {kvs : List (Int × Value)} {ep : Nat}
/-- a table asked for its length as a hint: nothing happens -/
theorem dHint {Q : Bool → Shared → Prop} (hT : s.TypeIs (.ref d) "dict") (h : Q false s) : wpAny (model prog w) A (Builtin.List.listLengthHint (.ref d)) Q E s := by
  unfold Builtin.List.listLengthHint
  refine wpAny_bind (wpAny_specialOf hT PySem.F.slot_dict_len.lookup ?_)
  generalize hid : ("dict.__len__" : String) = id0
  wp_delta
  rw [show splitId id0 = some ("dict", "__len__") from by subst hid; decide +kernel]
  subst hid
  refine wpAny_bind (wpAny_isInstance (T := "dict") (b := true) hT (by rw [isSubtype_type]; kernel_rfl) ?_)
  refine wpAny_ite_split (fun hab => absurd hab (by decide)) (fun _ => ?_)
  refine wpAny_ite_split (fun _ => ?_) (fun hab => absurd (by decide +kernel) hab)
  exact wpAny_bind (wpAny_typeOf hT (wpAny_pure h))

/-- what list(d) leaves: the keys in a new list -/
abbrev KeyAt (kvs : List (Int × Value)) (i : Nat) (v : Value) : Prop := ∃ k x, kvs[i]? = some (k, x) ∧ (intKind prog w).is k v = true
/-- the keys go to the list at `S` -/
theorem dFill {R : Result → Shared → Prop} {S : Addr} {c₀ : Nat} (hh : A.handled = none) (lo : (d == sysModules) = false) (hD : s.heap.DictAt (intKind prog w) d kvs ep) (hSd : S ≠ d) (hn : kvs.length ≤ sizeLine)
    (hS : s.heap.get? S = some { cls := .type "list", data := .seq #[] c₀ })
    (hR : ∀ h' tk acc c', (∀ b o, b ≠ S → s.heap.get? b = some o → h'.get? b = some o) → h'.get? S = some { cls := .type "list", dict := none, data := .seq acc c', slots := #[] } → ItemsOf (KeyAt (prog := prog) (w := w) kvs) acc kvs.length → R (.ok (.ret .none)) { s with heap := h', toks := tk }) :
    wpAny (model prog w) A.in1 (Builtin.List.listExtendWith (.ref S) (.ref d) .none)
      (fun fin s' => match fin with | .done f => R (.ok f) s' | .again c' => c'.quiet = true ∧ codeAny (model prog w) A c' R s') (fun e s' => R (.error e) s') s := by
  have hT : s.TypeIs (.ref d) "dict" := hD.dictOf.typeIs
  have hSI : S ≠ s.heap.objs.size := Nat.ne_of_lt (Heap.lt_size hS)
  have hSf : S ∉ [s.heap.objs.size, d] := by
    intro hm
    rcases List.mem_cons.mp hm with e | hm
    · exact hSI e
    · exact hSd (List.mem_singleton.mp hm)
  have W := Walks.dictKeys (prog := prog) (w := w) (A := A.in1) (knd := intKind prog w) hh s.heap.objs.size d (Nat.ne_of_lt hD.lt_size) kvs ep
  have go : ∀ (h : Heap) (c₁ tk : Nat), h.IsKeyIter s.heap.objs.size d 0 kvs.length ep → h.DictAt (intKind prog w) d kvs ep → (∀ b o, b ≠ S → s.heap.get? b = some o → h.get? b = some o) → h.get? S = some { cls := .type "list", data := .seq #[] c₁ } →
      codeAny (model prog w) A (.builtin "list.extend.loop" ⟨[.ref S, .ref s.heap.objs.size, .none], []⟩) R { s with heap := h, toks := tk } := by
    intro h c₁ tk i1 i2 hk hS₁
    refine codeAny_extend_loopS W.toS hn S hSf .none kvs.length 0 _ #[] c₁ rfl (Nat.zero_le _) ⟨i1, i2⟩ hS₁ (ItemsOf.nil _) fun s' acc c' hm hS' hacc => ?_
    rw [Moved.eq_with hm]
    refine hR s'.heap s'.toks acc c' (fun b o hb e => hm.heap b o (fun hmem => ?_) (hk b o hb e)) hS' hacc
    rcases List.mem_cons.mp hmem with e' | hmem
    · exact hb e'
    · rw [List.mem_singleton.mp hmem] at e
      exact absurd (Heap.lt_size e) (Nat.lt_irrefl _)
  unfold Builtin.List.listExtendWith
  refine wpAny_bind (wpAny_typeOf (T := "dict") hT ?_)
  have h1 : Builtin.List.listSameRef (.ref S) (.ref d) = false := by simp [Builtin.List.listSameRef, hSd]
  simp only [h1, show (Value.type "dict" == Value.type "list") = false from by decide, show (Value.type "dict" == Value.type "tuple") = false from by decide, Bool.or_false, Bool.false_eq_true, if_false]
  refine wpAny_bind (wpAny_pyIter_dict lo hD ?_)
  have hS₁ := Heap.get?_push_of_some { cls := .type "dict_keyiterator", data := .fields #[.ref d, .int 0 0, .int kvs.length 0, .int ep 0] } hS
  have i1 : (s.heap.push { cls := .type "dict_keyiterator", data := .fields #[.ref d, .int 0 0, .int kvs.length 0, .int ep 0] }).IsKeyIter s.heap.objs.size d 0 kvs.length ep := ⟨_, Heap.get?_push_size _ rfl, rfl, rfl⟩
  have i2 := hD.push { cls := .type "dict_keyiterator", data := .fields #[.ref d, .int 0 0, .int kvs.length 0, .int ep 0] }
  refine wpAny_bind (wpAny_holding (dHint i2.dictOf.typeIs ?_))
  refine wpAny_ite_split (fun _ => ?_) (fun _ => wpAny_pure ⟨plainId_quiet PySem.F.plain_extend_loop _, go _ c₀ _ i1 i2 (fun b o _ e => Heap.get?_push_of_some _ e) hS₁⟩)
  refine wpAny_bind (wpAny_rule (wpAny_bind ?_))
  show wpAny _ _ (updateSeq S (·.push .none) >>= fun _ => updateSeq S (·.pop)) _ _ _
  refine wpAny_bind (wpAny_updateSeq hS₁ rfl ?_)
  have hS₂ := Heap.get?_update_self (Obj.mapSeq (·.push Value.none)) hS₁ rfl
  refine wpAny_updateSeq (hz := by seq_fits) hS₂ rfl ?_
  have hS₃ := Heap.get?_update_self (Obj.mapSeq (·.pop)) hS₂ rfl
  have oth : ∀ b o, b ≠ S → (s.heap.push { cls := .type "dict_keyiterator", data := .fields #[.ref d, .int 0 0, .int kvs.length 0, .int ep 0] }).get? b = some o → (((s.heap.push { cls := .type "dict_keyiterator", data := .fields #[.ref d, .int 0 0, .int kvs.length 0, .int ep 0] }).update S (Obj.mapSeq (·.push Value.none))).update S (Obj.mapSeq (·.pop))).get? b = some o :=
    fun b o hb e => (Heap.get?_update_other _ _ (Ne.symm hb)).trans ((Heap.get?_update_other _ _ (Ne.symm hb)).trans e)
  exact wpAny_pure ⟨plainId_quiet PySem.F.plain_extend_loop _, go _ _ _ (i1.at fun o e => oth _ o hSI.symm e) (i2.at' fun o e => oth _ o hSd.symm e) (fun b o hb e => oth b o hb (Heap.get?_push_of_some _ e)) hS₃⟩

/-- list(d) of a table -/
theorem dList {Q : Value → Shared → Prop} (hh : A.handled = none) (lo : (d == sysModules) = false) (hD : s.heap.DictAt (intKind prog w) d kvs ep) (hn : kvs.length ≤ sizeLine)
    (hQ : ∀ h' tk acc c', (∀ b o, s.heap.get? b = some o → h'.get? b = some o) → h'.get? s.heap.objs.size = some { cls := .type "list", dict := none, data := .seq acc c', slots := #[] } → ItemsOf (KeyAt (prog := prog) (w := w) kvs) acc kvs.length → Q (.ref s.heap.objs.size) { s with heap := h', toks := tk }) :
    wpAny (model prog w) A (call (.type "list") [.ref d]) Q E s := by
  refine callType_codes (Q₁ := fun obj s₁ => obj = .ref s.heap.objs.size ∧ s₁ = { s with heap := s.heap.push { cls := .type "list", data := .seq #[] } }) PySem.F.called_list (PySem.F.typeCall_list_1 _) PySem.F.entry_list_init
    (code_list_new _ ⟨rfl, rfl⟩) fun obj s₁ h₁ => ?_
  obtain ⟨rfl, rfl⟩ := h₁
  have hS : (s.heap.push { cls := .type "list", data := .seq #[] }).get? s.heap.objs.size = some { cls := .type "list", data := .seq #[] } := Heap.get?_push_size _ rfl
  have hSd : s.heap.objs.size ≠ d := Nat.ne_of_gt hD.lt_size
  refine ⟨⟨_, hS, rfl⟩, PySem.F.args_list_init_2 _ _, ?_⟩
  show wpAny _ _ (do let old ← Builtin.List.listItems (.ref s.heap.objs.size); Builtin.List.listUpdate (.ref s.heap.objs.size) (fun _ => #[]); letGo old.toList.reverse; Builtin.List.listExtendWith (.ref s.heap.objs.size) (.ref d) .none) _ _ _
  refine wpAny_bind ?_
  unfold Builtin.List.listItems
  refine wpAny_bind (wpAny_seqItems hS rfl (wpAny_pure ?_))
  show wpAny _ _ (updateSeq s.heap.objs.size (fun _ => #[]) >>= fun _ => letGo (#[] : Array Value).toList.reverse >>= fun _ => Builtin.List.listExtendWith (.ref s.heap.objs.size) (.ref d) .none) _ _ _
  refine wpAny_bind (wpAny_updateSeq hS rfl ?_)
  have hS₂ := Heap.get?_update_self (Obj.mapSeq (fun _ => (#[] : Array Value))) hS rfl
  have oth : ∀ b o, b ≠ s.heap.objs.size → (s.heap.push { cls := .type "list", data := .seq #[] }).get? b = some o → ((s.heap.push { cls := .type "list", data := .seq #[] }).update s.heap.objs.size (Obj.mapSeq (fun _ => (#[] : Array Value)))).get? b = some o :=
    fun b o hb e => (Heap.get?_update_other _ _ (Ne.symm hb)).trans e
  refine wpAny_bind (wpAny_letGo ?_)
  refine dFill (A := A.in1) hh lo ((hD.push _).at' fun o e => oth _ o hSd.symm e) hSd hn hS₂ fun h' tk acc c' hk hS' hacc => ?_
  exact ⟨rfl, hQ h' tk acc c' (fun b o e => hk b o (Nat.ne_of_lt (Heap.lt_size e)) (oth b o (Nat.ne_of_lt (Heap.lt_size e)) (Heap.get?_push_of_some _ e))) hS' hacc⟩
end
end Mine

end
section
set_option autoImplicit false
set_option linter.unusedVariables false
set_option linter.unusedSimpArgs false
namespace Mine
open PySem PySem.Calls PyProof.Rows

section
variable {X : Fix} {C : Ctx} {A : Around} {n : Nat} {Ex : Value → Shared → Prop} {s : Shared} {φ : List Addr} {H : Hp} {sc : Scope} {ns : List Str} {env : Env} {ρ : Env'}

/-- a list of one's own becomes a cell -/
theorem newList_at {φ1 : List Addr} {H1 : Hp} {h1 h2 : Heap} {us : List V} {xs : List Value} {c' tk2 : Nat} {Q : Value → Shared → Prop} (R1 : SR X.W φ1 H1 h1) (S1 : Stp [] φ s.heap φ1 h1) (w1 : ∀ b o', h1.get? b = some o' → h2.get? b = some o') (w2 : h2.get? h1.objs.size = some (lstObj xs c'))
    (q1 : RepL X.W.scr φ1 h1 us xs) (hz : us.length ≤ 16000000) (p : PV X.W φ s Q (.ref H1.length) (H1 ++ [.list us])) : Q (.ref h1.objs.size) { s with heap := h2, toks := tk2 } := by
  have fr := fresh_at (b := h1.objs.size) R1 S1 (Nat.le_refl _)
  have R2 : SR X.W φ1 H1 h2 := R1.ext w1
  have S2 : Stp [] φ s.heap φ1 h2 := S1.trans (.ext w1)
  have kp : Kp φ1 h1 (φ1 ++ [h1.objs.size]) h2 := .new w1 (none_size h1)
  refine p (φ1 ++ [h1.objs.size]) h2 tk2 _ (R2.adopt (c := .list us) fr.1 fr.2.2 ⟨xs, c', w2, q1.kp kp, hz⟩) (S2.adopt fr.2.1) (.ref ?_)
  rw [← R2.len, List.getElem?_append_right (Nat.le_refl _)]; simp

/-- list(x) of a list, a tuple, a table -/
theorem listOf_snd {a : E} {e : Expr} {np pos : Pos} (G : X.Gl C) (hx : okGlob sc "list" = true) (h0 : chkE X.K sc ns a e = true) (ha : EvS X C n sc ns a e) : EvS X C n sc ns (.listOf a) (.Call (.Name "list" np) [e] [] pos) := by
  intro A env ρ φ H s Q Ex rm kd F R p
  have hpl : (backTo pos (starEach [e] env)).any (·.1) = false := by rw [notStarred h0 env]; rfl
  refine wpAny_Call_NameR (glob_bi G kd F R (v := .type "list") (bi_mem 5 (by decide)) hx ?_)
  refine PySem.callWith_type hpl (evalArgs_of hpl ?_)
  refine wpAny_items_cons (ha A env ρ φ H s _ Ex rm kd F R (WE_mono p fun v H1 p => ?_)) (notStarred h0 env _)
  obtain ⟨us, hi, p1⟩ := wSome_ex p
  clear p
  intro φ1 h1 tk x R1 S1 r1
  refine wpAny_items_nil ?_
  obtain ⟨hz, p2⟩ := if_post (r := alloc (.list us) H1) p1
  clear p1
  have hz' : us.length < 16000000 := by simpa [szOk] using hz
  unfold keysOf at hi
  split at hi
  · rename_i es hd
    cases hi
    obtain ⟨l, rfl, hl⟩ := dictOf_ref hd
    obtain ⟨ad, kvs, rfl, _, g1, g2, g3, g4⟩ := dictAt (s := { s with heap := h1, toks := tk }) G R1 r1 hl
    obtain ⟨epc, hat⟩ := g2.dictAt
    have hlen := g3.length
    refine dList (s := { s with heap := h1, toks := tk }) rm.handled g1 hat (by unfold sizeLine; (first | lia | omega)) fun h2 tk2 acc c' w1 w2 w3 => ?_
    refine newList_at (s := s) (xs := acc.toList) (c' := c') R1 S1 w1 (by rw [show lstObj acc.toList c' = { cls := .type "list", dict := none, data := .seq acc c', slots := #[] } from by simp]; exact w2) ?_ (Nat.le_of_lt hz') p2
    exact g3.keys (by rw [Array.length_toList]; exact w3.1) fun j v hv => w3.2 j v (by rw [← Array.getElem?_toList]; exact hv)
  · obtain ⟨ad, xs, rfl, q1, q2, q3⟩ := items_at (s := { s with heap := h1, toks := tk }) G R1 r1 hi
    have hlen := q1.length
    have key : ∃ T o k, (T = "list" ∨ T = "tuple") ∧ h1.get? ad = some o ∧ o.cls = .type T ∧ o.data = .seq xs.toArray k := by
      rcases q3 with ⟨⟨o, w1, w2, k, w3⟩, _⟩ | ⟨⟨o, w1, w2, k, w3⟩, _⟩
      · exact ⟨_, o, k, .inr rfl, w1, w2, w3⟩
      · exact ⟨_, o, k, .inl rfl, w1, w2, w3⟩
    obtain ⟨T, o, k, t1, t2, t3, t4⟩ := key
    exact call_list_seq (s := { s with heap := h1, toks := tk }) ad t1 t2 t3 t4 (fun h2 c' w1 w2 => newList_at (s := s) R1 S1 w1 w2 q1 (Nat.le_of_lt hz') p2) (by simp; unfold sizeLine; (first | lia | omega))

theorem get2_snd {a c d : E} {o e1 e2 : Expr} {ap pos : Pos} (G : X.Gl C) (ho : isBaseE o = true) (hline : (ap.endLine == pos.line) = true) (ha : EvS X C n sc ns a o) (h : LsS X C n sc ns [c, d] [e1, e2]) : EvS X C n sc ns (.meth .get2 a [c, d]) (.Call (.Attribute o "get" ap) [e1, e2] [] pos) := by
  intro A env ρ φ H s Q Ex rm kd F R p
  refine wpAny_Call_method (base_of ho _ env) (few_of h (by simp) env) hline PySem.F.plainAttrs_dict PySem.F.slot_dict_get PySem.F.type_dict_get (ha A env ρ φ H s _ Ex rm kd F R (WE_mono p fun v H1 p => ?_))
  obtain ⟨hk, p⟩ := wIf_true p
  intro φ1 h1 tk x R1 S1 r1
  obtain ⟨es1, hd1⟩ := Option.isSome_iff_exists.mp hk
  obtain ⟨l, rfl, hl1⟩ := dictOf_ref hd1
  obtain ⟨ad, kvs1, rfl, had, g1, g2, g3, g4⟩ := dictAt (s := { s with heap := h1, toks := tk }) G R1 r1 hl1
  obtain ⟨ob, _, _, hob, hex, _⟩ := id g2
  refine ⟨g2.typeIs, fun a' e => by cases e; exact ⟨_, hob, hex.2.1⟩, ?_⟩
  refine Calls.callWith_builtin (h.plain env pos) (evalArgs_of (h.plain env pos) (h.spl A env ρ φ1 H1 { s with heap := h1, toks := tk } _ Ex pos rm kd (F.mono0 S1) R1 (WEs_mono p fun us H2 p => ?_)))
  obtain ⟨es, hd, p⟩ := onO_post (o := dictOf H2 (.ref l)) (f := fun es => bi2 us fun k d => onInt k fun k => .ok ((dget es k).getD d) H2) (PostV.step (tk := tk) (r := methV .get2 (.ref l) us H2) p S1)
  obtain ⟨u, w, rfl, p3⟩ := bi2_post p
  obtain ⟨k, rfl, p4⟩ := onInt_post p3
  obtain ⟨l', e0, hl2⟩ := dictOf_ref hd
  cases e0
  intro φ2 h2 tk2 zs R2 S2 r2
  cases r2 with
  | cons ru r2 =>
    cases r2 with
    | cons rw' r2 =>
      cases r2
      cases ru
      obtain ⟨ad', kvs, e', had2, q1, q2, q3, q4⟩ := dictAt (s := { s with heap := h2, toks := tk2 }) G R2 (Rep.mono S2 (Rep.ref had)) hl2
      cases e'
      refine call_meetsIn PySem.F.slot_dict_get q2.typeIs PySem.F.entry_dict_get (PySem.F.args_dict_get_3 _ _ _) (meets_dict_get_default (intKind X.prog X.w) ad (k := k) (by simp [intKind, Value.isInt]) q1 _) ⟨_, q2.mapOf, ?_⟩
      rcases q3.find k with ⟨w1, w2⟩ | ⟨vv, xx, w1, w2, w3⟩
      · rw [w2]; rw [w1] at p4
        exact p4 φ2 h2 _ _ R2 S2 rw'
      · rw [w2]; rw [w1] at p4
        exact p4 φ2 h2 _ _ R2 S2 w3

/-- a table that is written out: empty, or of one entry -/
theorem dct0_snd {pos : Pos} (G : X.Gl C) : EvS X C n sc ns .dct0 (.Dict [] [] pos) := by
  intro A env ρ φ H s Q Ex rm kd F R p
  refine wpAny_Dict_empty ?_
  refine p (φ ++ [s.heap.objs.size]) _ s.toks _ (R.alloc rfl ⟨[], ?_, ?_, .nil, by simp⟩) (R.allocStp _) (.ref ?_)
  · exact low_of G R
  · rw [G.1.same.1, G.1.same.2]; exact Heap.DictOf.new _
  · rw [← R.len, List.getElem?_append_right (Nat.le_refl _)]; simp

theorem dct1_snd {c d : E} {k v : Expr} {pos : Pos} (G : X.Gl C) (hk : EvS X C n sc ns c k) (hv : EvS X C n sc ns d v) : EvS X C n sc ns (.dct1 c d) (.Dict [some k] [v] pos) := by
  intro A env ρ φ H s Q Ex rm kd F R p
  have fr := fresh_at (own := []) (b := s.heap.objs.size) R .refl (Nat.le_refl _)
  have lo := low_of G R
  refine wpAny_Dict_pairs (knd := intKind X.prog X.w) (pairs := [(eval k env, do let x ← eval v env; standAt pos; pure x)]) rfl (by simp) (by simp) ?_
  refine evalPairs_cons ?_
  have S0 : Stp [] φ s.heap φ (s.heap.push { cls := .type "dict", data := .dict #[] }) := .push _
  have D0 : (s.heap.push { cls := .type "dict", data := .dict #[] }).DictOf (intKind X.prog X.w) s.heap.objs.size [] := Heap.DictOf.new _
  refine hk A env ρ φ H { s with heap := s.heap.push { cls := .type "dict", data := .dict #[] } } _ Ex rm kd (F.mono0 S0) (R.ext fun a o e => Heap.get?_push_of_some _ e) (WE_mono p fun u H1 p => ?_)
  intro φ1 h1 tk1 x R1 S1 r1
  have S1' : Stp [] φ s.heap φ1 h1 := S0.trans S1
  have keep : ∀ {φa φb : List Addr} {ha hb : Heap}, Stp [] φa ha φb hb → s.heap.objs.size ∉ φa → ha.DictOf (intKind X.prog X.w) s.heap.objs.size [] → hb.DictOf (intKind X.prog X.w) s.heap.objs.size [] ∧ s.heap.objs.size ∉ φb := by
    intro φa φb ha hb S hn ⟨o, es, ep, e, q⟩
    exact ⟨⟨o, es, ep, S.keep _ _ e hn (by simp), q⟩, S.notMem e hn⟩
  obtain ⟨D1, n1⟩ := keep S1 fr.1 D0
  refine wpAny_bind (hv A env ρ φ1 H1 { s with heap := h1, toks := tk1 } _ Ex rm kd (F.mono0 S1') R1 (WE_mono p fun w H2 p => ?_))
  obtain ⟨kk, rfl, p⟩ := wInt_ex p
  intro φ2 h2 tk2 y R2 S2 r2
  refine wpAny_bind (wpAny_standAt (wpAny_pure ?_))
  refine evalPairs_nil ?_
  obtain ⟨D2, n2⟩ := keep S2 n1 D1
  cases r1
  rename_i t
  refine ⟨[(kk, y)], ⟨by simp [intKind, Value.isInt], rfl, trivial⟩, D2, fun h3 D3 hs3 => ?_⟩
  replace hs3 : Heap.SameBut s.heap.objs.size h2 h3 := hs3
  have D3' : h3.DictOf (intKind X.prog X.w) s.heap.objs.size [(kk, y)] := D3
  obtain ⟨o2, _, _, ho2, _, hd2, _⟩ := id D2
  obtain ⟨o3, _, _, ho3, _, hd3, _⟩ := id D3'
  have S3 : Stp [s.heap.objs.size] φ2 h2 φ2 h3 := .but (.inl (by simp)) ho2 (notTup_dict hd2) ho3 hs3.extBut
  have R3 : SR X.W φ2 H2 h3 := R2.but n2 fr.2.2 ho2 (notTup_dict hd2) ho3 hs3.extBut
  have S4 : Stp [] φ s.heap φ2 h3 := Stp.drop ((S1'.trans S2).nil.trans S3) fun a ha _ => by rw [List.mem_singleton.mp ha]; exact fr.2.1
  have kp : Kp φ2 h3 (φ2 ++ [s.heap.objs.size]) h3 := .adopt ho3 (notTup_dict hd3).1
  refine p (φ2 ++ [s.heap.objs.size]) h3 _ _ (R3.adopt (c := .dict [(kk, w)]) n2 fr.2.2 ⟨[(kk, y)], lo, ?_, .cons ((r2.mono S3).kp kp) .nil, by simp⟩) (S4.adopt fr.2.1) (.ref ?_)
  · rw [G.1.same.1, G.1.same.2]; exact D3'
  · rw [← R3.len, List.getElem?_append_right (Nat.le_refl _)]; simp

theorem setDict {l : Nat} {a : Addr} {es' : List (Int × V)} {kvs kvs' : List (Int × Value)} {h' : Heap} (G : X.Gl C) (R : SR X.W φ H s.heap) (ha : φ[l]? = some a) (lo : (a == sysModules) = false) (h1 : s.heap.DictOf (intKind X.prog X.w) a kvs) (hs : Heap.ExtBut a s.heap h') (h2 : h'.DictOf (intKind X.prog X.w) a kvs')
    (r : KvRep X.W.scr φ s.heap es' kvs') (hz : es'.length ≤ 16000000) : SR X.W φ (H.set l (.dict es')) h' ∧ Stp [] φ s.heap φ h' := by
  obtain ⟨o, _, _, ho, _, hd, _⟩ := id h1
  obtain ⟨o', _, _, ho', _⟩ := id h2
  have S : Stp [] φ s.heap φ h' := .but (.inr (List.mem_of_getElem? ha)) ho (notTup_dict hd) ho' hs
  exact ⟨R.set ha hs ⟨kvs', lo, by rw [G.1.same.1, G.1.same.2]; exact h2, r.kp S.kp, hz⟩, S⟩

theorem sumI_snd {v : V} {x : Value} {Q : Value → Shared → Prop} (G : X.Gl C) (R : SR X.W φ H s.heap) (rm : Room A n) (rv : Rep X.W.scr φ s.heap v x) (p : PostV X.W φ s Q (biV C.scr .sumI [v] H)) : wpAny X.M A (call (.builtin "sum") [x]) Q Ex s := by
  obtain ⟨l, vs, rfl, hl, p⟩ := onL_post (H := H) (f := fun l => onO (allInts l) fun is => .ok (.int is.sum) H) p
  obtain ⟨is, hi, p2⟩ := onO_post p
  have := allInts_map hi
  subst this
  obtain ⟨a, xs, k, rfl, ha, q1, q2, q3⟩ := listAt R rv hl
  have hI := intsAre_of q2
  obtain ⟨zs, hx⟩ := hI.allInts.items
  have hl' : s.heap.IsList a (intItems zs) := hx ▸ isList_of q1
  refine sum_intListG rm.handled hl' fun h' tk t' hk => ?_
  have e1 : is = zs.toList.map (·.1) := by
    rw [← nums_intItems, ← hx]
    exact (show numsOf xs.toArray.toList = is from hI.numsOf).symm
  have e2 : preSum (numAt zs) zs.size = is.sum := by
    rw [preSum_eq, List.take_of_length_le (by simp), e1]
  rw [e2]
  exact PV.later p2 R hk (.int _ _) tk

theorem allBools_map : ∀ {vs : List V} {is : List Bool}, allBools vs = some is → vs = is.map .bool
  | [], is, h => by cases h; rfl
  | .bool i :: r, is, h => by
    change (allBools r).map (i :: ·) = some is at h
    obtain ⟨js, h1, rfl⟩ := Option.map_eq_some_iff.mp h
    rw [List.map_cons, ← allBools_map h1]
  | .none :: r, is, h => nomatch h
  | .int _ :: r, is, h => nomatch h
  | .tup _ :: r, is, h => nomatch h
  | .ref _ :: r, is, h => nomatch h
  | .script :: r, is, h => nomatch h
theorem any_snd {v : V} {x : Value} {Q : Value → Shared → Prop} (G : X.Gl C) (R : SR X.W φ H s.heap) (rm : Room A n) (rv : Rep X.W.scr φ s.heap v x) (p : PostV X.W φ s Q (biV C.scr .any [v] H)) : wpAny X.M A (call (.builtin "any") [x]) Q Ex s := by
  obtain ⟨l, vs, rfl, hl, p⟩ := onL_post (H := H) (f := fun l => onO (allBools l) fun bs => .ok (.bool (bs.any id)) H) p
  obtain ⟨bs, hi, p2⟩ := onO_post p
  have := allBools_map hi
  subst this
  obtain ⟨a, xs, k, rfl, ha, q1, q2, q3⟩ := listAt R rv hl
  have hlt : a < s.heap.objs.size := Heap.lt_size q1
  have hlen := q2.length
  refine call_any_walk (wpAny_pyIter_list (isList_of q1) ?_)
  refine ⟨s.heap.objs.size, [s.heap.objs.size, a], [s.heap.objs.size], xs.toArray.size, _, _, fun i => (bs[i]?).getD false, rfl, Walks.list (A := A.in1) rm.handled _ a (Nat.ne_of_lt hlt) xs.toArray,
    ⟨⟨_, Heap.get?_push_size _ rfl, rfl, rfl⟩, (isList_of q1).push _⟩, fun i v s' Q' E' hP hQ => ?_, fun h' tk hk => ?_⟩
  · have hP' : xs[i]? = some v := by simpa using hP
    have hb : ∃ b, bs[i]? = some b ∧ v = .bool b := by
      have hil := (List.getElem?_eq_some_iff.mp hP').1
      have hil2 : i < bs.length := by simpa using (hlen ▸ hil : i < (bs.map V.bool).length)
      obtain ⟨x, hx, rx⟩ := q2.get (i := i) (v := .bool bs[i]) (by simp [hil2])
      rw [hP'] at hx; cases hx
      cases rx
      exact ⟨_, List.getElem?_eq_getElem hil2, rfl⟩
    obtain ⟨b, e, rfl⟩ := hb
    simp only [e, Option.getD_some] at hQ
    exact wpAny_truthy_bool hQ
  · have e : ((List.range xs.toArray.size).any fun i => (bs[i]?).getD false) = bs.any id := by
      rw [List.size_toArray, ← hlen, List.length_map]; exact LSm.range_any bs
    rw [e]
    exact PV.later p2 R (LSm.kept_iter hk) (.bool _) tk
theorem rangeV_rep {scr : Addr} {h : Heap} {N : Nat} {acc : Array Value} {x y : Int} (hN : (y - x).toNat = N) (hi : ItemsOf (fun i v => ∃ t, v = Value.int (x + i * 1) t) acc N) : RepL scr φ h (rangeV x y) acc.toList := by
  obtain ⟨h1, h2⟩ := hi
  have key : ∀ (m : Nat) (l : List Value) (k : Nat), l.length = m → (∀ j v, l[j]? = some v → ∃ t, v = Value.int (x + ((k + j : Nat) : Int)) t) → RepL scr φ h ((List.range' k m).map fun (i : Nat) => V.int (x + (i : Int))) l := by
    intro m
    induction m with
    | zero => intro l k hl _; rw [List.length_eq_zero_iff.mp hl]; exact .nil
    | succ m ih =>
      intro l k hl hj
      cases l with
      | nil => cases hl
      | cons v l =>
        rw [List.range'_succ, List.map_cons]
        obtain ⟨t, rfl⟩ := hj 0 v rfl
        refine .cons ?_ (ih l (k + 1) (by simpa using hl) fun j v hv => ?_)
        · have : ((k + 0 : Nat) : Int) = (k : Int) := by (first | lia | omega)
          rw [this]; exact .int _ _
        · obtain ⟨t, e⟩ := hj (j + 1) v (by simpa using hv)
          exact ⟨t, by rw [e]; congr 2; (first | lia | omega)⟩
  unfold rangeV
  rw [hN, List.range_eq_range']
  refine key N acc.toList 0 (by simpa using h1) fun j v hv => ?_
  obtain ⟨t, e⟩ := h2 j v (by simpa using hv)
  exact ⟨t, by rw [e]; congr 1⟩

theorem listR_snd {b : E} {e : Expr} {np rp rpos pos : Pos} (G : X.Gl C) (hx : okGlob sc "list" = true) (hy : okGlob sc "range" = true) (h0 : chkE X.K sc ns b e = true) (hb : EvS X C n sc ns b e) : EvS X C n sc ns (.listR b) (.Call (.Name "list" np) [.Call (.Name "range" rp) [e] [] rpos] [] pos) := by
  intro A env ρ φ H s Q Ex rm kd F R p
  have hpl : (backTo pos (starEach [Expr.Call (.Name "range" rp) [e] [] rpos] env)).any (·.1) = false := rfl
  have hpl2 : (backTo rpos (starEach [e] env)).any (·.1) = false := by rw [notStarred h0 env]; rfl
  refine wpAny_Call_NameR (glob_bi G kd F R (v := .type "list") (bi_mem 5 (by decide)) hx ?_)
  refine PySem.callWith_type hpl (evalArgs_of hpl ?_)
  refine wpAny_items_cons ?_ rfl
  refine wpAny_Call_NameR (glob_bi G kd F R (v := .type "range") (bi_mem 6 (by decide)) hy ?_)
  refine PySem.callWith_type hpl2 (evalArgs_of hpl2 ?_)
  refine wpAny_items_cons (hb A env ρ φ H s _ Ex rm kd F R (WE_mono p fun v H1 p => ?_)) (notStarred h0 env _)
  intro φ1 h1 tk x R1 S1 r1
  refine wpAny_items_nil ?_
  obtain ⟨j, rfl, hj, p⟩ := wInt_ex (f := fun j => (0 ≤ j ∧ j < 16000000) ∧ PV X.W φ s Q (.ref H1.length) (H1 ++ [.list (rangeV 0 j)])) p
  cases r1
  rename_i t
  refine call_range_1 ?_
  refine wpAny_items_nil ?_
  refine call_list_range (n := (j - 0).toNat) rm.handled (IsRange.new _ _ _ _ _ _ _) (small_one (by (first | lia | omega)) (by (first | lia | omega)) (by (first | lia | omega)) (by (first | lia | omega))) (by rw [rangeSize_one]; split <;> (first | lia | omega)) (by (first | lia | omega)) fun h2 tk2 acc c' w1 w2 w3 => ?_
  have R1' := R1.ext (h' := _) fun a o e => Heap.get?_push_of_some { cls := .type "range", data := .fields #[.int 0 tk, .int j t, .int 1 (tk + 1)] } e
  have S1' : Stp [] φ s.heap φ1 _ := S1.trans (.push { cls := .type "range", data := .fields #[.int 0 tk, .int j t, .int 1 (tk + 1)] })
  exact newList_at (s := s) (xs := acc.toList) (c' := c') R1' S1' w1 (by rw [show lstObj acc.toList c' = { cls := .type "list", dict := none, data := .seq acc c', slots := #[] } from by simp]; exact w2) (rangeV_rep rfl w3) (by simp [rangeV]; (first | lia | omega)) p
end
end Mine

end
section
set_option autoImplicit false
set_option linter.unusedVariables false
set_option linter.unusedSimpArgs false
set_option maxRecDepth 100000
set_option maxHeartbeats 4000000
namespace Mine
open PySem PySem.Calls PyProof.Rows

/-- sorting a list by a key, as the model does it: the end, the sort itself, the whole -/
def kTail (a : Addr) (before : Nat) (st : Value) (z : SortSt) : Sem PySem.Fin := do
  let sorted := (arrOf z).map (·.2)
  Builtin.List.listUpdate st fun _ => #[]
  letGo ((arrOf z).map (·.1)).toList (failedOf z).toList
  let touched := (← seqEpoch a) != before
  Builtin.List.listUpdate (.ref a) fun _ => sorted
  if let some e := failedOf z then rule "list.sort.comparison-raised"; throw e
  if touched then rule "list.sort.modified"; raiseError "ValueError" "list modified during sort"
  ret .none
def kMid (a : Addr) (items : Array Value) (before : Nat) (st : Value) (keys : Array Value) : Sem PySem.Fin := do
  let kind ← if items.size < 2 then pure general' else keyKind' keys
  let ((), z) ← (if items.size < 2 then pure () else sortRuns').run (SortSt.mk' kind (keys.zip items) #[] 7 none)
  kTail a before st z
def kRest (a : Addr) (f : Value) (items : Array Value) (before : Nat) (st : Value) : Sem PySem.Fin := do
  rule "list.sort.key"
  for x in items do
    match ← (call f [x]).attempt with
    | .ok k => Builtin.List.listUpdate st (·.push k)
    | .error e =>
      rule "list.sort.key-raised"
      let made ← Builtin.List.listItems st
      Builtin.List.listUpdate st fun _ => #[]
      letGo made.toList.reverse [e]
      Builtin.List.listUpdate (.ref a) fun _ => items; throw e
  let keys ← Builtin.List.listItems st
  kMid a items before st keys
theorem keyTree (a q : Addr) : Builtin.«list.sort» ⟨[.ref a], [(Str.ofString "key", .ref q)]⟩ = (do
    let items ← Builtin.List.listItems (.ref a)
    Builtin.List.listUpdate (.ref a) fun _ => #[]
    let before ← seqEpoch a
    let held ← newTuple items.toList
    let keyStore ← newList []
    holding [held, keyStore] (kRest a (.ref q) items before keyStore)) := rfl

section
variable {M : Model} {A : Around} {E : Value → Shared → Prop}
theorem foldI {body : Value → PUnit → Sem (ForInStep PUnit)} {Q : PUnit → Shared → Prop} (I : List Value → Shared → Prop) (step : ∀ x r s', I (x :: r) s' → wpAny M A (body x ⟨⟩) (fun y s'' => y = .yield ⟨⟩ ∧ I r s'') E s')
    (fin : ∀ s', I [] s' → Q ⟨⟩ s') : ∀ (vs : List Value) (s : Shared), I vs s → wpAny M A (forIn vs PUnit.unit body) Q E s
  | [], s, h => by rw [List.forIn_nil]; exact wpAny_pure (fin s h)
  | x :: r, s, h => by
    rw [List.forIn_cons]
    refine wpAny_bind (wpAny_mono (step x r s h) (fun y s' hy => ?_) fun _ _ e => e)
    obtain ⟨rfl, hI⟩ := hy
    exact foldI I step fin r s' hI
end
theorem IntsAre.snoc {n : Int} {t : Tok} : ∀ {vs : List Value} {ns : List Int}, IntsAre vs ns → IntsAre (vs ++ [.int n t]) (ns ++ [n])
  | _, _, .nil => .cons n t .nil
  | _, _, .cons n' t' h => .cons n' t' (IntsAre.snoc h)
theorem IntsAre.isInt : ∀ {vs : List Value} {ns : List Int}, IntsAre vs ns → ∀ v ∈ vs, ∃ n t, v = .int n t
  | _, _, .nil, v, h => nomatch h
  | _, _, .cons n t r, v, h => by
    rcases List.mem_cons.mp h with rfl | h
    · exact ⟨n, t, rfl⟩
    · exact IntsAre.isInt r v h
theorem kind_of {keys : Array Value} {kz : List Int} (hk : IntsAre keys.toList kz) (h2 : 2 ≤ keys.size) : keyKind' keys = pure oneType' := by
  have hl : 2 ≤ keys.toList.length := by rw [Array.length_toList]; exact h2
  obtain ⟨l⟩ := keys
  match l, hl, hk with
  | a :: b :: r, _, hk => exact keyKind_ints hk

section
variable {prog : Program} {w : World} {A : Around} {E : Value → Shared → Prop} {s : Shared}
theorem list_at {h : Heap} {a : Addr} {xs : Array Value} {n : Nat} {o : Obj} (e : h.get? a = some (seqObj "list" xs n)) (e' : h.get? a = some o) : NotTup o := by
  rw [e] at e'; cases e'; exact notTup_cls (by simp) (by simp)

theorem zip_list (keys : Array Value) (vs : List Value) : (keys.zip vs.toArray).toList = keys.toList.zip vs := by obtain ⟨l⟩ := keys; simp
theorem kTail_ok {D kS : Addr} {vs : List Value} {keys : Array Value} {e e1 : Nat} {P : PySem.Fin → Shared → Prop} {z : SortSt} (hne : kS ≠ D) (nk : s.heap.get? kS = some (seqObj "list" keys e)) (na : s.heap.get? D = some (seqObj "list" #[] e1))
    (hsz : keys.size = vs.length) (h64 : vs.length < 64) (hp : (arrOf z).Perm (keys.zip vs.toArray)) (hf : failedOf z = none)
    (h : ∀ h' (out : List Value) c, Fin [D, kS] s.heap h' → h'.get? D = some (lstObj out c) → out.Perm vs → P (.done (.ret .none)) { s with heap := h' }) :
    wpAny (model prog w) A (kTail D e1 (.ref kS) z) P E s := by
  have hzs : (keys.zip vs.toArray).size = vs.length := by rw [Array.size_zip, hsz, List.size_toArray, Nat.min_self]
  have hzz : (arrOf z).size = vs.length := by rw [hp.size_eq, hzs]
  generalize hout : (arrOf z).map (·.2) = out
  have hos : out.size = vs.length := by rw [← hout, Array.size_map, hzz]
  have hop : out.toList.Perm vs := by
    have hl2 := (Array.perm_iff_toList_perm.mp hp).map (·.2)
    rw [zip_list, List.map_snd_zip (Nat.le_of_eq (hsz.symm.trans (Array.length_toList ..).symm))] at hl2
    rw [← hout, Array.toList_map]; exact hl2
  have s1 := Heap.SameBut.update s.heap kS (Obj.mapSeq fun _ => (#[] : Array Value))
  have na1 : (s.heap.update kS (Obj.mapSeq fun _ => (#[] : Array Value))).get? D = some (seqObj "list" #[] e1) := (s1.2 D hne.symm).trans na
  have s2 := Heap.SameBut.update (s.heap.update kS (Obj.mapSeq fun _ => (#[] : Array Value))) D (Obj.mapSeq fun _ => out)
  have hc2 := get?_update_seq na1 fun _ => out
  unfold kTail
  rw [hf]
  refine wpAny_bind (listUpdate_at nk rfl ?_ (by rw [hsz, sizeLine_eq]; (first | lia | omega)) (Nat.zero_le _))
  refine wpAny_bind (wpAny_letGo ?_)
  refine wpAny_bind (seqEpoch_at na1 rfl ?_)
  rw [hout]
  refine wpAny_bind (listUpdate_at na1 rfl ?_ (Nat.zero_le _) (Nat.le_trans (Nat.le_of_eq hos) (by rw [sizeLine_eq]; (first | lia | omega))))
  simp only [bne_self_eq_false, Bool.false_eq_true, if_false]
  refine wpAny_pure (h _ out.toList _ ⟨fun b o hb eb => ?_, fun b hb o eb => ?_⟩ (by rw [hc2]) hop)
  · rw [List.mem_cons, List.mem_singleton, not_or] at hb
    exact (s2.2 b hb.1).trans ((s1.2 b hb.2).trans eb)
  · rcases List.mem_cons.mp hb with rfl | hb
    · exact list_at na eb
    · rw [List.mem_singleton.mp hb] at eb; exact list_at nk eb
theorem kMid_ok {D kS : Addr} {vs : List Value} {keys : Array Value} {kz : List Int} {e e1 : Nat} {P : PySem.Fin → Shared → Prop} (hne : kS ≠ D) (nk : s.heap.get? kS = some (seqObj "list" keys e)) (na : s.heap.get? D = some (seqObj "list" #[] e1))
    (hk : IntsAre keys.toList kz) (hlen : kz.length = vs.length) (h64 : vs.length < 64)
    (h : ∀ h' (out : List Value) c, Fin [D, kS] s.heap h' → h'.get? D = some (lstObj out c) → out.Perm vs → P (.done (.ret .none)) { s with heap := h' }) :
    wpAny (model prog w) A (kMid D vs.toArray e1 (.ref kS) keys) P E s := by
  have hsz : keys.size = vs.length := by
    have h1 := hk.length
    rw [Array.length_toList] at h1
    (first | lia | omega)
  have hzs : (keys.zip vs.toArray).size = vs.length := by rw [Array.size_zip, hsz, List.size_toArray, Nat.min_self]
  unfold kMid
  by_cases h2 : vs.toArray.size < 2
  · rw [if_pos h2, if_pos h2]
    refine wpAny_bind (wpAny_pure ?_)
    dsimp only
    rw [StateT.run_pure]
    refine wpAny_bind (wpAny_pure ?_)
    exact kTail_ok (z := SortSt.mk' general' (keys.zip vs.toArray) #[] 7 none) hne nk na hsz h64 (Array.Perm.refl _) rfl h
  · rw [if_neg h2, if_neg h2]
    rw [List.size_toArray] at h2
    rw [kind_of hk (by rw [hsz]; (first | lia | omega))]
    refine wpAny_bind (wpAny_pure ?_)
    refine wpAny_bind (wpAny_mono (wpS_sortRuns (a₀ := keys.zip vs.toArray) (st := SortSt.mk' oneType' (keys.zip vs.toArray) #[] 7 none)
      (Q := fun _ z => (arrOf z).Perm (keys.zip vs.toArray) ∧ failedOf z = none) (fun p hp => ?_) ⟨Array.Perm.refl _, rfl, rfl, rfl⟩ (by rw [hzs]; (first | lia | omega)) (by rw [hzs]; exact h64) fun z a1 a2 a3 => ⟨a1, a2⟩) ?_ fun _ _ e => e)
    · rw [zip_list] at hp
      obtain ⟨x, y⟩ := p
      exact IntsAre.isInt hk _ (List.of_mem_zip hp).1
    · rintro ⟨⟨⟩, z⟩ s' ⟨rfl, hp, hf⟩
      exact kTail_ok hne nk na hsz h64 hp hf h
end
end Mine

end
section
set_option autoImplicit false
set_option linter.unusedVariables false
set_option linter.unusedSimpArgs false
set_option maxRecDepth 100000
set_option maxHeartbeats 1000000
namespace Mine
open PySem PySem.Calls PyProof.Rows

section
variable {prog : Program} {w : World} {A : Around} {E : Value → Shared → Prop} {s : Shared}
/-- what a key's call comes to -/
noncomputable def KeyEnd (J : Heap → Prop) (io : List Addr) (s : Shared) (h : Heap) (r : Value) (s' : Shared) : Prop :=
  ∃ h' tk k t, s' = { s with heap := h', toks := tk } ∧ r = .int k t ∧ J h' ∧ ∀ a ∈ io, ∀ o, h.get? a = some o → h'.get? a = some o

theorem kRest_ok (J : Heap → Prop) {D kS : Addr} {f : Value} {vs : List Value} {e1 : Nat} {P : PySem.Fin → Shared → Prop} (hne : kS ≠ D) (nk : s.heap.get? kS = some (seqObj "list" #[] 0)) (na : s.heap.get? D = some (seqObj "list" #[] e1)) (h64 : vs.length < 64) (hJ : J s.heap)
    (stab : ∀ h h', J h → Fin [D, kS] h h' → J h')
    (turn : ∀ h tk v, v ∈ vs → J h → wpAny (model prog w) A (call f [v]) (KeyEnd J [D, kS] s h) (fun _ _ => False) { s with heap := h, toks := tk })
    (h : ∀ h' tk (out : List Value) c, J h' → h'.get? D = some (lstObj out c) → out.Perm vs → P (.done (.ret .none)) { s with heap := h', toks := tk }) :
    wpAny (model prog w) A (kRest D f vs.toArray e1 (.ref kS)) P E s := by
  unfold kRest
  refine wpAny_bind (wpAny_rule ?_)
  rw [List.forIn_toArray]
  refine wpAny_bind (foldI (fun r s' => ∃ h tk kA e kz, s' = { s with heap := h, toks := tk } ∧ J h ∧ h.get? kS = some (seqObj "list" kA e) ∧ h.get? D = some (seqObj "list" #[] e1) ∧ IntsAre kA.toList kz ∧ kz.length + r.length = vs.length ∧ ∀ v ∈ r, v ∈ vs)
    ?step ?done vs s ⟨s.heap, s.toks, #[], 0, [], rfl, hJ, nk, na, .nil, by simp, fun v hv => hv⟩)
  case step =>
    rintro x r s' ⟨h, tk, kA, e, kz, rfl, hJ, nk, na, hk, hl, hr⟩
    have hz : kA.size ≤ vs.length := by
      have h1 := hk.length
      rw [Array.length_toList] at h1
      (first | lia | omega)
    refine wpAny_bind (wpAny_attempt (wpAny_mono (turn h tk x (hr x (.head _)) hJ) (fun v s'' he => ?_) fun _ _ hF => hF.elim))
    obtain ⟨g, tk2, k, t, rfl, rfl, hJ2, hkeep⟩ := he
    have nk2 := hkeep kS (by simp) _ nk
    have na2 := hkeep D (by simp) _ na
    have s1 := Heap.SameBut.update g kS (Obj.mapSeq (·.push (.int k t)))
    have hc2 := get?_update_seq nk2 (·.push (.int k t))
    have ea : (kA.push (Value.int k t)).toList = kA.toList ++ [Value.int k t] := by simp
    refine wpAny_bind (listUpdate_at nk2 rfl ?_ (by rw [sizeLine_eq]; (first | lia | omega)) (Nat.le_trans (Nat.le_of_eq (Array.size_push ..)) (by rw [sizeLine_eq]; (first | lia | omega))))
    refine wpAny_pure ⟨rfl, _, _, kA.push (.int k t), _, kz ++ [k], rfl, stab _ _ hJ2 ⟨fun b o hb eb => (s1.2 b (fun e' => hb (by rw [e']; simp))).trans eb, fun b hb o eb => ?_⟩, hc2, (s1.2 D hne.symm).trans na2, by rw [ea]; exact IntsAre.snoc hk, ?_, fun v hv => hr v (.tail _ hv)⟩
    · rcases List.mem_cons.mp hb with rfl | hb
      · exact list_at na2 eb
      · rw [List.mem_singleton.mp hb] at eb; exact list_at nk2 eb
    · rw [List.length_append, List.length_singleton]
      rw [List.length_cons] at hl
      (first | lia | omega)
  case done =>
    rintro s' ⟨h0, tk, kA, e, kz, rfl, hJ, nk, na, hk, hl, _⟩
    refine wpAny_bind (listItems_at nk rfl ?_)
    refine kMid_ok hne nk na hk (by simpa using hl) h64 fun h' out c hF hD hp => ?_
    exact h h' tk out c (stab _ _ hJ hF) hD hp

theorem argsSorted (a v : Value) : argsOk "sorted" ⟨[a], [(Str.ofString "key", v)]⟩ := by unfold argsOk; kernel_rfl
theorem argsSort (a v : Value) : argsOk "list.sort" ⟨[a], [(Str.ofString "key", v)]⟩ := by unfold argsOk; kernel_rfl
theorem size_none' {h : Heap} {a : Addr} (ha : h.objs.size ≤ a) : h.get? a = none := by
  cases e : h.get? a with
  | none => rfl
  | some o => exact absurd (Heap.lt_size e) (Nat.not_lt.mpr ha)

/-- sorted(l, key=f): some order of the items -/
theorem keySorted (J : Heap → Prop) {l q : Addr} {vs : List Value} {Q : Value → Shared → Prop} (hl : s.heap.IsList l vs.toArray) (h64 : vs.length < 64) (hJ : J s.heap)
    (stab : ∀ h h', J h → Fin [s.heap.objs.size + 1, s.heap.objs.size + 3] h h' → J h')
    (turn : ∀ h tk v, v ∈ vs → J h → wpAny (model prog w) A.in1.in1 (call (.ref q) [v]) (KeyEnd J [s.heap.objs.size + 1, s.heap.objs.size + 3] s h) (fun _ _ => False) { s with heap := h, toks := tk })
    (h : ∀ h' tk (out : List Value) c, J h' → h'.get? (s.heap.objs.size + 1) = some (lstObj out c) → out.Perm vs → Q (.ref (s.heap.objs.size + 1)) { s with heap := h', toks := tk }) :
    wpAny (model prog w) A (call (.builtin "sorted") [.ref l] [(Str.ofString "key", .ref q)]) Q E s := by
  refine call_function_entry_kw kind_sorted plain_sorted entry_sorted (argsSorted _ _) ?_
  unfold Builtin.«sorted»
  refine wpAny_bind (m := checkCount "sorted" 1 1 _) (wpAny_pure ?_)
  refine wpAny_bind (collect_list hl ?_ (by rw [sizeLine_eq]; (first | lia | omega)))
  refine wpAny_bind (wpAny_newList ?_ (by rw [sizeLine_eq]; (first | lia | omega)))
  have hsz : ((s.heap.push (seqObj "list" #[] 0)).update s.heap.objs.size (Obj.mapSeq (· ++ vs.toArray))).objs.size = s.heap.objs.size + 1 := by
    rw [Heap.size_update, size_push']
  generalize hg : (s.heap.push (seqObj "list" #[] 0)).update s.heap.objs.size (Obj.mapSeq (· ++ vs.toArray)) = g at hsz
  have keep1 : ∀ b o, s.heap.get? b = some o → g.get? b = some o := fun b o e => by
    have hlt := Heap.lt_size e
    rw [← hg, Heap.get?_update_ne _ _ _ _ (Nat.ne_of_lt hlt), Heap.get?_push_ne _ _ _ (Nat.ne_of_lt hlt)]
    exact e
  clear hg
  have hoL : (g.push (seqObj "list" vs.toArray 0)).get? (s.heap.objs.size + 1) = some (seqObj "list" vs.toArray 0) := by
    rw [← hsz]; exact Heap.get?_push_size _ rfl
  show wpAny _ _ _ _ _ { s with heap := g.push (seqObj "list" vs.toArray 0) }
  rw [hsz]
  refine wpAny_bind (wpAny_holding (wpAny_call_entry_kw slot_list_sort ⟨_, hoL, rfl⟩ entry_list_sort ?body (argsSort _ _)))
  case body =>
    show wpAny (model prog w) A.in1.in1 (Builtin.«list.sort» ⟨[.ref (s.heap.objs.size + 1)], [(Str.ofString "key", .ref q)]⟩) _ _ _
    rw [keyTree]
    have hgs : (g.push (seqObj "list" vs.toArray 0)).objs.size = s.heap.objs.size + 2 := by rw [size_push', hsz]
    generalize hg2 : g.push (seqObj "list" vs.toArray 0) = g2 at hoL hgs
    have keep2 : ∀ b o, s.heap.get? b = some o → g2.get? b = some o := fun b o e => by rw [← hg2]; exact Heap.get?_push_of_some _ (keep1 b o e)
    clear hg2
    have s1 := Heap.SameBut.update g2 (s.heap.objs.size + 1) (Obj.mapSeq fun _ => (#[] : Array Value))
    have ho1 := get?_update_seq hoL fun _ => (#[] : Array Value)
    have hus : (g2.update (s.heap.objs.size + 1) (Obj.mapSeq fun _ => (#[] : Array Value))).objs.size = s.heap.objs.size + 2 := by rw [Heap.size_update, hgs]
    generalize hg3 : g2.update (s.heap.objs.size + 1) (Obj.mapSeq fun _ => (#[] : Array Value)) = g3 at s1 ho1 hus
    have hk3 : (g3.push (seqObj "tuple" vs.toArray 0)).objs.size = s.heap.objs.size + 3 := by rw [size_push', hus]
    refine wpAny_bind (listItems_at hoL rfl ?_)
    refine wpAny_bind (listUpdate_at hoL rfl ?_ (by rw [List.size_toArray, sizeLine_eq]; (first | lia | omega)) (Nat.zero_le _))
    show wpAny _ _ _ _ _ { s with heap := g2.update (s.heap.objs.size + 1) (Obj.mapSeq fun _ => (#[] : Array Value)) }
    rw [hg3]
    refine wpAny_bind (seqEpoch_at ho1 rfl ?_)
    refine wpAny_bind (wpAny_newTuple ?_ (by show vs.length ≤ _; rw [sizeLine_eq]; (first | lia | omega)))
    refine wpAny_bind (wpAny_newList ?_ (Nat.zero_le _))
    refine wpAny_holding ?_
    show wpAny _ _ (kRest _ _ _ _ (.ref (g3.push (seqObj "tuple" vs.toArray 0)).objs.size)) _ _ { s with heap := (g3.push (seqObj "tuple" vs.toArray 0)).push (seqObj "list" #[] 0) }
    have nk := Heap.get?_push_size (g3.push (seqObj "tuple" vs.toArray 0)) (o := seqObj "list" #[] 0) rfl
    rw [hk3] at nk ⊢
    refine kRest_ok (s := { s with heap := (g3.push (seqObj "tuple" vs.toArray 0)).push (seqObj "list" #[] 0) }) (kS := s.heap.objs.size + 3) (D := s.heap.objs.size + 1) J (fun e => absurd (Nat.add_left_cancel e) (by decide)) nk (Heap.get?_push_of_some _ (Heap.get?_push_of_some _ ho1)) h64 (stab _ _ hJ ⟨fun b o hb eb => ?_, fun b hb o eb => ?_⟩) stab turn fun h' tk out c hJ' hD hp => ⟨_, rfl, ?_⟩
    · refine Heap.get?_push_of_some _ (Heap.get?_push_of_some _ ((s1.2 b fun e => hb (by rw [e]; simp)).trans (keep2 b o eb)))
    · have hb' : s.heap.objs.size ≤ b := by
        rcases List.mem_cons.mp hb with rfl | hb
        · (first | lia | omega)
        · rw [List.mem_singleton.mp hb]; (first | lia | omega)
      rw [size_none' hb'] at eb; cases eb
    · exact wpAny_pure ⟨_, rfl, h h' tk out c hJ' hD hp⟩
end
end Mine

end
section
set_option autoImplicit false
set_option linter.unusedVariables false
set_option linter.unusedSimpArgs false
namespace Mine
open PySem PySem.Calls PyProof.Rows

theorem lookup_zip {α : Type} : ∀ (ps : List Str) (xs : List α) (i : Nat) (x : Str) (v : α), ps.Nodup → ps[i]? = some x → xs[i]? = some v → (ps.zip xs).lookup x = some v
  | [], _, i, x, v, _, h, _ => by simp at h
  | p :: ps, [], i, x, v, _, _, h => by simp at h
  | p :: ps, y :: xs, 0, x, v, _, h1, h2 => by
    simp at h1 h2
    subst h1; subst h2
    simp
  | p :: ps, y :: xs, i + 1, x, v, hn, h1, h2 => by
    simp at h1 h2
    rw [List.nodup_cons] at hn
    have hne : ¬ (x == p) = true := fun e => hn.1 (by rw [← eq_of_beq e]; exact List.mem_of_getElem? h1)
    rw [List.zip_cons_cons, List.lookup_cons]
    simp only [hne]
    exact lookup_zip ps xs i x v hn.2 h1 h2

theorem filterMap_zip {α : Type} : ∀ (ps : List Str) (xs : List α) (f : Str → Option α), ps.length = xs.length → (∀ (i : Nat) (x : Str) (v : α), ps[i]? = some x → xs[i]? = some v → f x = some v) → ps.filterMap (fun n => (f n).map (n, ·)) = ps.zip xs
  | [], [], _, _, _ => rfl
  | [], _ :: _, _, h, _ => by cases h
  | _ :: _, [], _, h, _ => by cases h
  | p :: ps, x :: xs, f, h, hf => by
    have h0 := hf 0 p x rfl rfl
    rw [List.filterMap_cons, h0]
    simp only [Option.map_some, List.zip_cons_cons]
    rw [filterMap_zip ps xs f (by simpa using h) fun i y v h1 h2 => hf (i + 1) y v (by simpa using h1) (by simpa using h2)]

theorem bindArgs_eq {fd : FuncData} {ps : List Str} {xs : List Value} (hd : fd.defaults = .none) (hkd : fd.kwdefaults = .none) (hp : plainParams fd.params ps = true) (hn : ps.Nodup) (hl : ps.length = xs.length) :
    bindArgs fd ⟨xs, []⟩ = pure (ps.zip xs) := by
  generalize hpar : fd.params = params at hp
  obtain ⟨po, ar, va, ko, kd, kw, df⟩ := params
  simp only [plainParams, Bool.and_eq_true, List.isEmpty_iff, Option.isNone_iff_eq_none, decide_eq_true_eq] at hp
  obtain ⟨⟨⟨⟨⟨⟨rfl, rfl⟩, rfl⟩, rfl⟩, rfl⟩, rfl⟩, hps⟩ := hp
  have key : ∀ (i : Nat) (x : Str) (v : Value), ps[i]? = some x → xs[i]? = some v → (ps.zip xs).lookup x = some v := fun i x v h1 h2 => lookup_zip ps xs i x v hn h1 h2
  have hmiss : (ps.filter fun n => ((ps.zip xs).lookup n).isNone) = [] := by
    rw [List.filter_eq_nil_iff]
    intro x hx
    obtain ⟨i, hi, rfl⟩ := List.getElem_of_mem hx
    rw [key i ps[i] xs[i] (by simp) (by simp)]
    simp
  unfold bindArgs
  have e1 : seqItems? Value.none = (pure none : Sem _) := rfl
  have e2 : ∀ {α β : Type} (a : α) (f : α → Sem β), (pure a >>= f) = f a := fun _ _ => rfl
  have e3 : ¬ (xs.length > ps.length) := by (first | lia | omega)
  simp only [hpar, hd, hkd, List.map_nil, List.nil_append, List.append_nil, hps, List.forIn_nil, e1, e2, e3, decide_false, Bool.false_and, Bool.false_eq_true, if_false, Option.getD_none, Array.toList_empty, List.length_nil, Nat.zero_sub, List.drop_nil, Nat.sub_zero, List.take_length, hmiss, List.isEmpty_nil, Bool.not_true, List.zip_nil_right]
  rw [filterMap_zip ps xs _ hl key]
end Mine

end
section
set_option autoImplicit false
set_option linter.unusedVariables false
set_option linter.unusedSimpArgs false
set_option maxRecDepth 100000
namespace Mine
open PySem PySem.Calls PyProof.Rows

/-- the function that a lambda gives -/
abbrev lamFn (qual : Str) (params : Arguments) (body : Expr) (scope : Scope) (cl : List (Str × Addr)) (pm ct : Value) (c : Addr) : FuncData :=
  { name := "<lambda>", qualname := qual, params, body := .expr body, scope, globals := mainGlobals, closure := cl, defaults := .none, kwdefaults := .none, doc := .none, pyModule := pm, annotations := none, code := .ref c, closureTuple := ct, builtins := builtinsNs }
abbrev lamObj (qual : Str) (params : Arguments) (body : Expr) (scope : Scope) (cl : List (Str × Addr)) (pm ct : Value) (c : Addr) : Obj :=
  { cls := .type "function", data := .func (lamFn qual params body scope cl pm ct c) }

section
variable {X : Fix} {C : Ctx} {A : Around} {n : Nat} {Ex : Value → Shared → Prop} {s : Shared} {φ : List Addr} {H : Hp} {sc : Scope} {ns : List Str} {env : Env} {ρ : Env'}

/-- the lambda's code: made the first time, found later -/
theorem lam_code {pos : Pos} {fl : Nat} {name : Str} {ps : Arguments} {cs : Scope} {fb : FuncBody} {Q : Value → Shared → Prop} (G : X.Gl C) (hc : env.code = .ref X.W.lc) (R : SR X.W φ H s.heap) (h0 : H[0]? = some .tab) (hl : pos.line = X.W.ln) (hm : pos.col = X.W.lm)
    (hQ : ∀ c h' tk, SR X.W φ H h' → Stp [] φ s.heap φ h' → CodeNm h' c X.W.lq → Q (.ref c) { s with heap := h', toks := tk }) :
    wpAny X.M A (functionCode env pos fl name X.W.lq ps cs fb) Q Ex s := by
  obtain ⟨a, ha, rfl, hcell⟩ := R.cell 0 _ h0
  have hset : H.set 0 .tab = H := by
    cases H with
    | nil => cases h0
    | cons c r => cases h0; rfl
  rcases hcell with e | ⟨c, e, q⟩
  · obtain ⟨k1, k2⟩ := G.1.tab s.heap #[] R.keep e trivial
    refine wpAny_functionCodeX hc k1 k2 rfl fun c h' tk hx hge hlt _ hrec htb hP' => ?_
    have etab : h'.get? X.W.lP = some (tabObj #[rawInt X.W.ln, rawInt X.W.lm, .ref c]) := by rw [← hl, ← hm]; exact htb.2
    have nm : CodeNm h' c X.W.lq := by
      obtain ⟨P', _, _, ⟨oc, vs, g1, g2, g3, _⟩, _⟩ := hP'
      obtain ⟨c2, o2, vs2, t2, e2, g4, g5, g6⟩ := hrec
      cases e2
      rw [g1] at g4; cases g4
      rw [g3] at g5; cases g5
      exact ⟨oc, vs, t2, g1, g2, g3, g6⟩
    have S : Stp [] φ s.heap φ h' := .but (.inr (List.mem_of_getElem? ha)) e (notTup_cls (by simp) (by simp)) etab hx
    have R' := R.set (c := .tab) ha hx ⟨rfl, .inr ⟨c, etab, nm⟩⟩
    rw [hset] at R'
    exact hQ c h' tk R' S nm
  · obtain ⟨k1, k2⟩ := G.1.tab s.heap #[rawInt X.W.ln, rawInt X.W.lm, .ref c] R.keep e trivial
    refine wpAny_functionCode_hit (c' := .ref c) hc k1 ?_ (hQ c s.heap s.toks R .refl q)
    show codeAmong pos [rawInt X.W.ln, rawInt X.W.lm, .ref c] = _
    rw [← hl, ← hm]
    simp [codeAmong, rawInt]

theorem lam_eval {pos : Pos} {ps : Arguments} {b : Expr} {cs : Scope} {cl : List (Str × Addr)} {Q : Value → Shared → Prop} (G : X.Gl C) (F : FR X.W env ns ρ φ s.heap) (R : SR X.W φ H s.heap) (hmk : (env.kindOf mk).isSome = true) (h0 : H[0]? = some .tab) (hl : pos.line = X.W.ln) (hm : pos.col = X.W.lm)
    (hcl : closureFor cs env = pure cl) (hdef : defaultsOf ps env = ([], []))
    (hQ : ∀ f c pm ct h' tk, SR X.W φ H h' → Stp [] φ s.heap φ h' → f ∉ φ → h'.get? f = some (lamObj X.W.lq ps b cs cl pm ct c) → CodeNm h' c X.W.lq → Q (.ref f) { s with heap := h', toks := tk }) :
    wpAny X.M A (eval (.Lambda ps b cs pos) env) Q Ex s := by
  obtain ⟨hc, hq⟩ := F.code hmk
  rw [arm_eval_Lambda, hdef]
  show wpAny X.M A (do let dv ← evalAll []; let kdv ← holding dv (evalAllOpt []); makeFunction "<lambda>" (env.qual ++ "<lambda>") ps (.expr b) cs env dv kdv [] pos pos.line) Q Ex s
  refine wpAny_bind (wpAny_pure (wpAny_bind (wpAny_holding (wpAny_pure ?_))))
  rw [makeFunction_eq, hq]
  simp only [List.zip_nil_right, List.filterMap_nil, List.isEmpty_nil, if_true, pure_bind]
  unfold makeTail
  rw [hcl, F.glob]
  refine wpAny_bind (wpAny_pure ?_)
  obtain ⟨bm, ob, b1, b2, b3, b4, b5, b6, b7⟩ := G.1.bm
  have fin : ∀ (ct pm : Value) (h1 : Heap) (c : Addr) (h2 : Heap) (tk : Nat), (∀ a o, s.heap.get? a = some o → h1.get? a = some o) → SR X.W φ H h2 → Stp [] φ h1 φ h2 → CodeNm h2 c X.W.lq →
      Q (.ref h2.objs.size) { s with heap := h2.push (lamObj X.W.lq ps b cs cl pm ct c), toks := tk } := by
    intro ct pm h1 c h2 tk hk R2 S2 nm
    have hk2 : ∀ a o, h2.get? a = some o → (h2.push (lamObj X.W.lq ps b cs cl pm ct c)).get? a = some o := fun a o e => Heap.get?_push_of_some _ e
    have S2' : Stp [] φ s.heap φ h2 := (Stp.ext hk).trans S2
    refine hQ h2.objs.size c pm ct _ tk (R2.ext hk2) (S2'.trans (.ext hk2)) (fun hm => ?_) (Heap.get?_push_size _ rfl) (nm.kp (φ := φ) (φ' := φ) (Stp.kp (own := []) (.ext hk2)))
    obtain ⟨o, e, _⟩ := R2.obj hm
    exact absurd (Heap.lt_size e) (Nat.lt_irrefl _)
  cases cl with
  | nil =>
    simp only [List.isEmpty_nil, if_true]
    refine wpAny_bind (wpAny_pure ?_)
    refine wpAny_bind (lam_code G hc R h0 hl hm fun c h2 tk R2 S2 nm => ?_)
    refine wpAny_bind (wpAny_builtinsFor (G.1.g.keeps R2.keep) b1 b2 (R2.keep _ _ b4) b5 b6 b7 ?_)
    refine wpAny_bind (wpAny_nsGet (G.1.g.keeps R2.keep) ?_)
    exact wpAny_bind (wpAny_pure (wpAny_newObj_type (fin .none _ s.heap c h2 tk (fun _ _ e => e) R2 S2 nm) (by size_fits)))
  | cons q r =>
    simp only [List.isEmpty_cons, Bool.false_eq_true, if_false]
    refine wpAny_bind (wpAny_newTextTuple ?_)
    refine wpAny_bind (lam_code G hc (R.ext fun a o e => Heap.get?_push_of_some _ e) h0 hl hm fun c h2 tk R2 S2 nm => ?_)
    refine wpAny_bind (wpAny_builtinsFor (G.1.g.keeps R2.keep) b1 b2 (R2.keep _ _ b4) b5 b6 b7 ?_)
    refine wpAny_bind (wpAny_nsGet (G.1.g.keeps R2.keep) ?_)
    exact wpAny_bind (wpAny_pure (wpAny_newObj_type (fin _ _ _ c h2 tk (fun _ _ e => Heap.get?_push_of_some _ e) R2 S2 nm) (by size_fits)))
end
end Mine

end
section
set_option autoImplicit false
set_option linter.unusedVariables false
set_option linter.unusedSimpArgs false
set_option maxRecDepth 100000
namespace Mine
open PySem PySem.Calls PyProof.Rows

section
variable {X : Fix} {sc cs : Scope} {ns : List Str} {env : Env} {ρ : Env'} {φ : List Addr} {h h' : Heap} {cl : List (Str × Addr)} {D : Addr} {p q : Str} {fo : Option Addr} {cd : Value} {v : V} {y : Value}

theorem CompSc.kindsL (c : CompSc sc ns [p] cs) : Kinds cs (newEnv cs D mainGlobals cl q fo cd none builtinsNs) := fun x => .inl rfl
/-- the lambda's frame -/
theorem CompSc.lam (c : CompSc sc ns [p] cs) (kd : Kinds sc env) (F : FR X.W env ns ρ φ h) (hcl1 : ∀ x c, cl.lookup x = some c → env.cells.lookup x = some c) (hcl2 : ∀ x, (x, NameKind.free) ∈ cs.names → ∃ c, cl.lookup x = some c) (hcl3 : ∀ p ∈ cl, env.cells.lookup p.1 = some p.2)
    (hD : D ∉ φ ∧ X.W.h₀.get? D = none ∧ h.get? D = none) (hkeep : ∀ a o, h.get? a = some o → h'.get? a = some o) (hn : h'.Ns D (fun x => [(p, y)].reverse.lookup x)) (rv : Rep X.W.scr φ h v y) : FR X.W (newEnv cs D mainGlobals cl q fo cd none builtinsNs) (p :: ns) (some v :: ρ) φ h' := by
  have hlk : ∀ x, x ≠ p → lk (p :: ns) (some v :: ρ) x = lk ns ρ x := by
    intro x hx
    unfold lk
    have : (p :: ns).idxOf x = ns.idxOf x + 1 := by
      have := idxOf_app (x := x) (loc := [p]) (ns := ns) (by simpa using hx)
      rw [List.singleton_append, List.length_singleton, Nat.add_comm] at this
      exact this
    rw [this]; rfl
  have hlkp : lk (p :: ns) (some v :: ρ) p = some v := by
    unfold lk
    rw [List.idxOf_cons_self]; rfl
  have hne : ∀ a o, h.get? a = some o → a ≠ D := fun a o e e' => by subst e'; rw [hD.2.2] at e; cases e
  have S : Stp [] φ h φ h' := .ext hkeep
  refine ⟨c.kind, rfl, rfl, ⟨c.gen.1, c.gen.2, ?_⟩, fun hm => ?_, by simp [F.len], ⟨_, hn, ?_⟩, ⟨hD.1, hD.2.1⟩, ?_, ?_, ?_⟩
  · unfold interactive
    have : (newEnv cs D mainGlobals cl q fo cd none builtinsNs).scope.kind = .function := c.kind
    rw [this]; rfl
  · have e : (cs.names.lookup Mine.mk).isSome = true := hm
    rw [c.mk_] at e; cases e
  · intro x hx hk
    have hk' : cs.names.lookup x = some .local := hk
    rcases c.local_ _ (mem_of_lookupK hk') rfl with e | e
    · have e : x = (".0" : Str) := e
      subst e
      rcases List.mem_cons.mp hx with hx | hx
      · rw [hx, hlkp]
        show OptRep X.W.scr φ h' (some v) (List.lookup p [(p, y)])
        rw [List.lookup_cons_self]
        exact .some (rv.mono S)
      · exact absurd hx c.dot
    · have e : x = p := List.mem_singleton.mp e
      rw [e, hlkp]
      show OptRep X.W.scr φ h' (some v) (List.lookup p [(p, y)])
      rw [List.lookup_cons_self]
      exact .some (rv.mono S)
  · intro x hx hk
    have hk' : cs.names.lookup x = some .free := by
      rcases hk with hk | hk
      · exact absurd rfl (c.nocell _ (mem_of_lookupK (show cs.names.lookup x = some .cell from hk)))
      · exact hk
    have hm := mem_of_lookupK hk'
    obtain ⟨f1, f2, f3⟩ := c.free _ hm rfl
    obtain ⟨d, hd⟩ := hcl2 x hm
    have hd' := hcl1 x d hd
    have hkc : isCellK (env.kindOf x) := by
      rcases kd x with e | ⟨_, e⟩
      · rw [← e]; exact f3
      · exact e
    obtain ⟨c1, u, q1, q2, q3, q4, q5, q6⟩ := F.cel x f1 hkc
    rw [hd'] at q1; cases q1
    obtain ⟨o, ho, hod⟩ := id q5
    refine ⟨d, u, hd, q2, hne d o ho, q4, IsCell_at q5 fun o e => hkeep _ _ e, ?_⟩
    rw [hlk x (fun e => f2 (by simpa using e))]
    exact q6.mono S
  · intro x y c h1 h2
    exact F.apart x y c (hcl1 _ _ h1) (hcl1 _ _ h2)
  · intro p hp
    obtain ⟨q1, o, q2⟩ := F.alive _ (mem_of_lookup' (hcl3 p hp))
    exact ⟨q1, o, hkeep _ _ q2⟩
end

section
variable {X : Fix} {C : Ctx} {A : Around} {n : Nat} {s : Shared} {φ : List Addr} {H : Hp} {sc cs : Scope} {ns : List Str} {env : Env} {ρ : Env'} {cl : List (Str × Addr)} {p : Str}
/-- the lambda called -/
theorem lam_call {f c : Addr} {ps : Arguments} {b : Expr} {pm ct : Value} {kb : E} {v : V} {y : Value} (G : X.Gl C) (rm : Room A n) (hn : 0 < n) (hsc : CompSc sc ns [p] cs) (hps : plainParams ps [p] = true) (kd : Kinds sc env) (F : FR X.W env ns ρ φ s.heap)
    (hcl1 : ∀ x c, cl.lookup x = some c → env.cells.lookup x = some c) (hcl2 : ∀ x, (x, NameKind.free) ∈ cs.names → ∃ c, cl.lookup x = some c) (hcl3 : ∀ p ∈ cl, env.cells.lookup p.1 = some p.2)
    (ho : s.heap.get? f = some (lamObj X.W.lq ps b cs cl pm ct c)) (nm : CodeNm s.heap c X.W.lq) (R : SR X.W φ H s.heap) (rv : Rep X.W.scr φ s.heap v y) (hb : EvS X C 0 cs (p :: ns) kb b)
    (hkb : WE C kb (some v :: ρ) H fun k H' => H' = H ∧ ∃ i, k = .int i) :
    wpAny X.M A.in1.in1 (call (.ref f) [y]) (fun r s' => ∃ h' tk k t, s' = { s with heap := h', toks := tk } ∧ r = .int k t ∧ SR X.W φ H h' ∧ Stp [] φ s.heap φ h') (fun _ _ => False) s := by
  have hroom : A.in1.in1.depth < recursionLimit := by have := rm.depth; show A.depth < _; (first | lia | omega)
  refine wpAny_call (codeAny_of_tree ?_)
  show wpAny _ _ (callAny (.ref f) ⟨[y], []⟩) _ _ s
  simp only [callAny]
  refine wpAny_bind (wpAny_load ho ?_)
  obtain ⟨oc, vs, t, e1, e2, e3, e4⟩ := nm
  simp only [callFunction, hsc.gen.1, hsc.gen.2]
  refine wpAny_bind (m := field (.ref c) 1) (wpAny_field e1 e3 e4 (wpAny_bind (wpAny_pure ?_)))
  rw [bindArgs_eq (fd := lamFn X.W.lq ps b cs cl pm ct c) (ps := [p]) (xs := [y]) rfl rfl hps (by simp) rfl]
  refine wpAny_bind (wpAny_pure ?_)
  refine wpAny_bind (wpAny_newFunctionEnv hsc.nocell (fun x hx => ?_) (fun h1 hns hsb => ?_) hsc.kind)
  · have : x = (p, y) := by simpa using hx
    rw [this]; exact hsc.loc_ p (by simp)
  · have keep : ∀ a o, s.heap.get? a = some o → h1.get? a = some o := fun a o e => hsb.extBut a o (Nat.ne_of_lt (Heap.lt_size e)) (Heap.get?_push_of_some _ e)
    have fr := fresh_at (own := []) (b := s.heap.objs.size) R .refl (Nat.le_refl _)
    refine wpAny_bind (wpAny_enterFrame ((G.1.nolimit).keeps fun a o e => keep a o (R.keep a o e)) hroom (wpAny_pure ⟨rfl, ?_⟩))
    have F' := CompSc.lam (q := X.W.lq ++ ".<locals>.") (fo := some f) (cd := .ref c) hsc kd F hcl1 hcl2 hcl3 ⟨fr.1, fr.2.2, fr.2.1⟩ keep hns rv
    have K' : Kinds cs (newEnv cs s.heap.objs.size mainGlobals cl (X.W.lq ++ ".<locals>.") (some f) (.ref c) none builtinsNs) := CompSc.kindsL hsc
    generalize henv : newEnv cs s.heap.objs.size mainGlobals cl (X.W.lq ++ ".<locals>.") (some f) (.ref c) none builtinsNs = env' at F' K'
    have hgl : env'.globals = mainGlobals := by rw [← henv]; rfl
    have hbl : env'.builtins = builtinsNs := by rw [← henv]; rfl
    have hsg : env'.scope = cs := by rw [← henv]; rfl
    show codeAny X.M _ (.expr b _) _ _
    have rm' : Room (A.in1.in1.deeper env') 0 := by
      obtain ⟨fe, outer, e, _⟩ := rm.frames
      refine ⟨?_, ?_, rm.handled, env', fe :: outer, ?_, by rw [hsg]; exact hsc.gen.1, by rw [hsg]; exact hsc.gen.2, hbl, hgl⟩
      · have := rm.depth; show A.depth + 1 + 0 + 110 ≤ _; (first | lia | omega)
      · have := rm.units; show A.units + 1 + 1 + 3 + 5 * 0 + 200 ≤ _; (first | lia | omega)
      · show A.frames.map (env' :: ·) = _; rw [e]; rfl
    refine codeAny_of_tree ?_
    show wpAny _ (A.in1.in1.deeper _) (do point; ret (← (eval b _).onRaise (leaving _))) _ _ _
    refine wpAny_bind (wpAny_point (wpAny_bind (wpAny_onRaise ?_)))
    have S1 : Stp [] φ s.heap φ h1 := .ext keep
    have ev := hb (A.in1.in1.deeper env') env' (some v :: ρ) φ H { s with heap := h1, toks := s.toks + 1 } (fun r s' => ∃ h' tk k t, s' = { s with heap := h', toks := tk } ∧ r = .int k t ∧ SR X.W φ H h' ∧ Stp [] φ s.heap φ h') (fun _ _ => False) rm' K' F' (R.ext keep) (WE_mono hkb fun k H' hk => ?_)
    · refine wpAny_mono ev (fun r s' hr => wpAny_pure hr) (fun _ _ hF => hF.elim)
    · obtain ⟨rfl, i, rfl⟩ := hk
      intro φ2 h2 tk2 x R2 S2 r2
      have hφ : φ2 = φ := by
        obtain ⟨t, rfl⟩ := S2.pre
        have l1 := R2.len
        have l2 := R.len
        rw [List.length_append] at l1
        have : t = [] := List.length_eq_zero_iff.mp (by (first | lia | omega))
        rw [this, List.append_nil]
      subst hφ
      cases r2
      exact ⟨h2, tk2, i, _, rfl, rfl, R2, S1.trans S2⟩
end
end Mine

end
section
set_option autoImplicit false
set_option linter.unusedVariables false
set_option linter.unusedSimpArgs false
set_option maxRecDepth 100000
namespace Mine
open PySem PySem.Calls PyProof.Rows

theorem RepL.perm {scr : Addr} {φ : List Addr} {h : Heap} {xs out : List Value} (hp : out.Perm xs) : ∀ {vs : List V}, RepL scr φ h vs xs → ∃ ws, ws.Perm vs ∧ RepL scr φ h ws out := by
  induction hp with
  | nil => exact fun r => ⟨_, .refl _, r⟩
  | cons x _ ih =>
    intro vs r
    cases r with
    | cons r1 r2 =>
      obtain ⟨ws, h1, h2⟩ := ih r2
      exact ⟨_, h1.cons _, .cons r1 h2⟩
  | swap x y l =>
    intro vs r
    cases r with
    | cons r1 r2 =>
      cases r2 with
      | cons r2 r3 => exact ⟨_, .swap _ _ _, .cons r2 (.cons r1 r3)⟩
  | trans _ _ ih1 ih2 =>
    intro vs r
    obtain ⟨ws, h1, h2⟩ := ih2 r
    obtain ⟨us, h3, h4⟩ := ih1 h2
    exact ⟨us, h3.trans h1, h4⟩
theorem RepL.mem {scr : Addr} {φ : List Addr} {h : Heap} {y : Value} : ∀ {vs : List V} {xs : List Value}, RepL scr φ h vs xs → y ∈ xs → ∃ v ∈ vs, Rep scr φ h v y
  | _, _, .nil, hm => nomatch hm
  | _, _, .cons r1 r2, hm => by
    rcases List.mem_cons.mp hm with rfl | hm
    · exact ⟨_, .head _, r1⟩
    · obtain ⟨v, h1, h2⟩ := RepL.mem r2 hm
      exact ⟨v, .tail _ h1, h2⟩

noncomputable def keyE (i : Nat) : E := .idx (.idx (.var (i + 1)) (.var 0)) (.k (.int 0))
section
variable {X : Fix} {C : Ctx} {n : Nat} {sc : Scope} {ns : List Str}
theorem key_snd {cs : Scope} {i : Nat} {b : Expr} (G : X.Gl C) (h : chkKey cs ns i b = true) : EvS X C n cs ns (keyE i) b := by
  replace h := ifSub.spec h
  obtain ⟨y, z, p, rfl, h⟩ := h
  rw [Bool.and_eq_true] at h
  obtain ⟨u, w, p2, rfl, h2⟩ := ifSub.spec h.2
  rw [Bool.and_eq_true] at h2
  obtain ⟨x1, q1, rfl, g1⟩ := ifName.spec h2.1
  obtain ⟨x2, q2, rfl, g2⟩ := ifName.spec h2.2
  obtain ⟨c, k, q3, rfl, g3⟩ := ifConst.spec h.1
  exact idxE_snd G (i := .k (.int 0)) (show chkE X.K cs ns (.k (.int 0)) (.Constant c k q3) = true from g3) (idxE_snd G (i := .var 0) (show chkE X.K cs ns (.var 0) (.Name x2 q2) = true from g2) (var_snd (i := i + 1) (show chkE X.K cs ns (.var (i + 1)) (.Name x1 q1) = true from g1)) (var_snd (i := 0) (show chkE X.K cs ns (.var 0) (.Name x2 q2) = true from g2))) (k_snd g3)
theorem key_wp {i : Nat} {ρ : Env'} {H : Hp} {v : V} (h : wSome (ρ[i]?.join) fun x => wSome (idxV C.scr x v H) fun y => wSome (idxV C.scr y (.int 0) H) fun k => wInt k fun _ => True) : WE C (keyE i) (some v :: ρ) H fun k H' => H' = H ∧ ∃ i, k = .int i := by
  show wSome (ρ[i]?.join) fun x => wSome (idxV C.scr x v H) fun y => wSome (idxV C.scr y (.int 0) H) fun k => H = H ∧ ∃ i, k = .int i
  refine wSome_mono h fun x h => wSome_mono h fun y h => wSome_mono h fun k h => ?_
  obtain ⟨i, rfl, _⟩ := wInt_ex h
  exact ⟨rfl, i, rfl⟩

theorem sortK_snd {a : E} {i : Nat} {e v : Expr} {np kp pos : Pos} (G : X.Gl C) (hn : 0 < n) (hx : okGlob sc "sorted" = true) (hm : (sc.names.lookup mk).isSome = true) (h0 : chkE X.K sc ns a e = true) (ha : EvS X C n sc ns a e) (hsp : ∀ cs p, scIn sc ns [p] cs = true → CompSc sc ns [p] cs) (hv : chkLam X.K sc ns i v = true) :
    EvS X C n sc ns (.sortK a i) (.Call (.Name "sorted" np) [e] [⟨some "key", v, kp⟩] pos) := by
  intro A env ρ φ H s Q Ex rm kd F R p
  replace hv := ifLam.spec hv
  obtain ⟨ps, b, cs, lp, rfl, hv⟩ := hv
  simp only [Bool.and_eq_true, decide_eq_true_eq] at hv
  obtain ⟨⟨hl, hc⟩, hv⟩ := hv
  replace hv := if1.spec hv
  obtain ⟨q, hq, hv⟩ := hv
  simp only [Bool.and_eq_true] at hv
  obtain ⟨⟨hps, hsc⟩, hkey⟩ := hv
  have hsc := hsp cs q.arg hsc
  have hb : EvS X C 0 cs (q.arg :: ns) (keyE i) b := key_snd G hkey
  have hmk : (env.kindOf mk).isSome = true := by
    rcases kd mk with e | ⟨_, e⟩
    · rw [← e]; exact hm
    · rcases e with e | e <;> rw [e] <;> rfl
  have hpl : (backTo pos (starEach [e] env)).any (·.1) = false := by rw [notStarred h0 env]; rfl
  show wpAny X.M A (do callWith pos (← eval (.Name "sorted" np) env) [] (backTo pos (starEach [e] env)) (backToKw pos (keywordEach [⟨some "key", .Lambda ps b cs lp, kp⟩] env))) Q Ex s
  refine wpAny_bind (glob_bi G kd F R (v := .builtin "sorted") (bi_mem 9 (by decide)) hx ?_)
  refine callWith_builtin_kwB hpl rfl ?_
  obtain ⟨y, hy⟩ : ∃ y, backTo pos (starEach [e] env) = [(false, y)] := ⟨_, by rw [notStarred h0 env]; rfl⟩
  rw [hy]
  refine evalArgs_kwB rfl ?_
  rw [← hy]
  refine wpAny_items_cons (ha A env ρ φ H s _ Ex rm kd F R (WE_mono p fun v1 H1 p1 => ?_)) (notStarred h0 env _)
  intro φ1 h1 tk x R1 S1 r1
  refine wpAny_items_nil ?_
  have F1 := F.mono0 S1
  have hfree : ∀ p ∈ cs.names, p.2 = .free → ∃ c, env.cells.lookup p.1 = some c := by
    intro p hp hf
    obtain ⟨f1, f2, f3⟩ := hsc.free p hp hf
    have hkc : isCellK (env.kindOf p.1) := by
      rcases kd p.1 with e | ⟨_, e⟩
      · rw [← e]; exact f3
      · exact e
    obtain ⟨c1, u, q1, _⟩ := F.cel p.1 f1 hkc
    exact ⟨c1, q1⟩
  obtain ⟨cl, hcl, hcl1, hcl2, hcl3⟩ := closure_eq hfree
  have hdef : defaultsOf ps env = ([], []) := by
    obtain ⟨po, ar, va, ko, kdd, kw, df⟩ := ps
    simp only [plainParams, Bool.and_eq_true, List.isEmpty_iff, Option.isNone_iff_eq_none, decide_eq_true_eq] at hps
    obtain ⟨⟨⟨⟨⟨⟨rfl, rfl⟩, rfl⟩, rfl⟩, rfl⟩, rfl⟩, _⟩ := hps
    rfl
  unfold wL at p1
  obtain ⟨us, hus, ⟨h64, htab⟩, hkeys, p2⟩ := wSome_ex p1
  obtain ⟨l, rfl, hlst⟩ : ∃ l, v1 = .ref l ∧ H1[l]? = some (.list us) := by
    cases v1 with
    | ref l =>
      change (match H1[l]? with | some (.list vs) => some vs | _ => none) = _ at hus
      split at hus
      · rename_i hl'; cases hus; exact ⟨l, rfl, hl'⟩
      · cases hus
    | _ => cases hus
  refine kws_cons (lam_eval (s := { s with heap := h1, toks := tk }) G F1 R1 hmk htab (by rw [G.1.lam.1]; exact hl) (by rw [G.1.lam.2.1]; exact hc) hcl hdef fun f c pm ct h2 tk2 R2 S2 hf ho nm => ?_)
  refine kws_nil ?_
  show wpAny X.M A (call (.builtin "sorted") [x] [(Str.ofString "key", .ref f)]) Q Ex { s with heap := h2, toks := tk2 }
  obtain ⟨ad, xs, k, rfl, had, q1, q2, q3⟩ := listAt (s := { s with heap := h2, toks := tk2 }) R2 (r1.mono S2) hlst
  have fr := fun b (hb : h2.objs.size ≤ b) => fresh_at (own := []) (b := b) R2 (S1.trans S2) hb
  have F2 := F1.mono0 S2
  refine keySorted (s := { s with heap := h2, toks := tk2 }) (vs := xs) (fun h => SR X.W φ1 H1 h ∧ FR X.W env ns ρ φ1 h ∧ Stp [] φ1 h2 φ1 h ∧ h.get? f = some (lamObj X.W.lq ps b cs cl pm ct c) ∧ CodeNm h c X.W.lq) (isList_of q1) (by rw [← q2.length]; exact h64) ⟨R2, F2, .refl, ho, nm⟩ ?_ ?_ ?_
  · rintro h h' ⟨j1, j2, j3, j4, j5⟩ hF
    have hio : ∀ a ∈ [h2.objs.size + 1, h2.objs.size + 3], h2.objs.size ≤ a := by
      intro a ha
      rcases List.mem_cons.mp ha with rfl | ha
      · exact Nat.le_add_right _ _
      · rw [List.mem_singleton.mp ha]; exact Nat.le_add_right _ _
    have live : ∀ a o, h2.get? a = some o → a ∉ [h2.objs.size + 1, h2.objs.size + 3] := fun a o e hm => absurd (Heap.lt_size e) (Nat.not_lt.mpr (hio a hm))
    obtain ⟨m, ⟨oL, _, _, hoL, _⟩, _⟩ := F2.loc
    refine ⟨j1.fin (fun a ha => ⟨(fr a (hio a ha)).1, (fr a (hio a ha)).2.2⟩) hF, j2.fin hF (live _ _ hoL) (fun p hp => ?_), j3.fin hF (fun a ha => ?_), hF.keep f _ (live f _ ho) j4, j5.kp (φ := φ1) (φ' := φ1) hF.kp⟩
    · obtain ⟨_, o, e⟩ := F2.alive p hp
      exact live _ _ e
    · exact size_none' (hio a ha)
  · rintro h tk3 y hy ⟨j1, j2, j3, j4, j5⟩
    obtain ⟨v, hv, rv⟩ := q2.mem hy
    refine wpAny_mono (lam_call (s := { s with heap := h, toks := tk3 }) G rm hn hsc hps kd j2 hcl1 hcl2 hcl3 j4 j5 j1 (rv.mono j3) hb (key_wp (hkeys v hv))) (fun r s' hr => ?_) fun _ _ hF => hF
    obtain ⟨h', tk', k', t, rfl, rfl, R', S'⟩ := hr
    refine ⟨h', tk', k', t, rfl, rfl, ⟨R', j2.mono0 S', j3.trans S', S'.keep f _ j4 hf (by simp), j5.kp S'.kp⟩, fun a ha o e => S'.keep a o e ?_ (by simp)⟩
    refine (fr a ?_).1
    rcases List.mem_cons.mp ha with rfl | ha
    · exact Nat.le_add_right _ _
    · rw [List.mem_singleton.mp ha]; exact Nat.le_add_right _ _
  · rintro h' tk3 out c' ⟨j1, j2, j3, j4, j5⟩ hD hp
    obtain ⟨ws, hw, rw'⟩ := RepL.perm hp q2
    have frD := fr (h2.objs.size + 1) (Nat.le_add_right _ _)
    have S3 : Stp [] φ s.heap φ1 h' := (S1.trans S2).trans j3
    have hwl : ws.length ≤ 16000000 := by rw [hw.length_eq]; (first | lia | omega)
    have kp : Kp φ1 h2 (φ1 ++ [h2.objs.size + 1]) h' := j3.kp.trans (.adopt hD (notTup_cls (by simp) (by simp)).1)
    refine p2 ws hw (φ1 ++ [h2.objs.size + 1]) h' tk3 _ (j1.adopt (c := .list ws) frD.1 frD.2.2 ⟨out, c', hD, rw'.kp kp, hwl⟩) (S3.adopt frD.2.1) (.ref ?_)
    rw [← j1.len, List.getElem?_append_right (Nat.le_refl _)]; simp
end
end Mine

end
section
set_option autoImplicit false
set_option linter.unusedVariables false
set_option linter.unusedSimpArgs false
set_option maxRecDepth 100000
namespace Mine
open PySem PySem.Calls PyProof.Rows

theorem zipV_get : ∀ {us vs : List V} {i : Nat} {v : V}, (zipV us vs)[i]? = some v → ∃ u w, us[i]? = some u ∧ vs[i]? = some w ∧ v = .tup [u, w]
  | [], _, i, v, h => by simp [zipV] at h
  | _ :: _, [], i, v, h => by simp [zipV] at h
  | a :: r, b :: t, 0, v, h => by cases h; exact ⟨a, b, rfl, rfl, rfl⟩
  | a :: r, b :: t, i + 1, v, h => by
    obtain ⟨u, w, h1, h2, h3⟩ := zipV_get (us := r) (vs := t) (i := i) h
    exact ⟨u, w, h1, h2, h3⟩
theorem zipV_end : ∀ {us vs : List V} {i : Nat}, us.length ≤ vs.length → (zipV us vs)[i]? = none → us[i]? = none
  | [], _, i, _, _ => rfl
  | a :: r, [], i, hl, h => by cases hl
  | a :: r, b :: t, 0, _, h => by cases h
  | a :: r, b :: t, i + 1, hl, h => zipV_end (us := r) (vs := t) (i := i) (Nat.le_of_succ_le_succ hl) h

section
variable {prog : Program} {w : World} {A : Around} {E : Value → Shared → Prop} {s : Shared}
/-- zip asked once more when its first list is at its end -/
theorem zipEnd {z TI TO i1 i2 l1 l2 : Addr} {k : Nat} {xs : Array Value} {Q : Option Value → Shared → Prop} (hh : A.handled = none) (D : ZipApart z TI TO i1 i2 l1 l2)
    (hz : IsZip s.heap z TI TO .none) (hTI : IsPair s.heap TI (.ref i1) (.ref i2)) (h1 : s.heap.IsListIter i1 l1 k) (hl1 : s.heap.IsList l1 xs) (hx : xs[k]? = none)
    (hQ : ∀ h', (∀ c o, c ≠ z → c ≠ i1 → s.heap.get? c = some o → h'.get? c = some o) → Q none { s with heap := h' }) : wpAny (model prog w) A (pyNext (.ref z)) Q E s := by
  have hT : s.TypeIs (.ref z) "zip" := ⟨_, hz, rfl⟩
  unfold pyNext
  refine wpAny_bind (wpAny_attempt (wpAny_callSpecial?_slot (name := Str.ofString "__next__") hT PySem.F.slot_zip_next (wpAny_call_entry PySem.F.slot_zip_next hT PySem.F.entry_zip_next ?_ (PySem.F.args_zip_next_1 _))))
  show wpAny _ _ (field (.ref z) 2 >>= _) _ _ _
  refine wpAny_bind (wpAny_field hz rfl (x := .bool false) rfl ?_)
  show wpAny _ _ (field (.ref z) 3 >>= _) _ _ _
  refine wpAny_bind (wpAny_field hz rfl (x := .ref TI) rfl ?_)
  refine wpAny_bind (wpAny_seqItems hTI rfl ?_)
  show wpAny _ _ (Builtin.SmallTypes.ownedTupleIsFree (.ref z) >>= _) _ _ _
  refine wpAny_bind ?_
  unfold Builtin.SmallTypes.ownedTupleIsFree
  refine wpAny_bind (wpAny_field hz rfl (x := .none) rfl (wpAny_pure ?_))
  simp only [if_true]
  refine wpAny_bind (wpAny_rule ?_)
  refine wpAny_bind (wpAny_field hz rfl (x := .ref TO) rfl ?_)
  refine wpAny_bind (wpAny_setField_rec hz (by simp) fun g1 hz1 hs1 => ?_)
  replace hz1 : IsZip g1 z TI TO .ellipsis := hz1
  refine wpAny_bind ?_
  simp only [List.zipIdx_cons, List.zipIdx_nil, List.forIn_cons, List.forIn_nil]
  refine wpAny_bind (wpAny_bind (wpAny_onRaise ?_))
  show wpAny _ _ (Builtin.SmallTypes.nextOf (.ref i1) >>= _) _ _ _
  refine wpAny_bind (wpAny_nextOf_list_end hh (h1.extBut hs1.extBut D.i1z) (hl1.extBut hs1.extBut D.l1z) hx fun g2 e hs2 he => ?_)
  obtain ⟨oe, hoe, hce⟩ := he
  have hz2 : IsZip g2 z TI TO .ellipsis := hs2 _ _ D.i1z.symm hz1
  have hez : e ≠ z := fun x => by subst x; rw [hz2] at hoe; cases hoe; simp at hce
  refine wpAny_setField_rec hz2 (by simp) fun g3 _ hs3 => ?_
  refine wpAny_bind (wpAny_isInstance (T := "StopIteration") (b := true) ⟨oe, hs3.extBut _ _ hez hoe, hce⟩ isSubtype_stop ?_)
  exact wpAny_pure (hQ _ fun c o c1 c3 x => hs3.extBut _ _ c1 (hs2 _ _ c3 (hs1.extBut _ _ c1 x)))
end

section
variable {X : Fix} {C : Ctx} {A : Around} {n : Nat} {Ex : Value → Shared → Prop} {s : Shared} {φ φ₀ : List Addr} {H H₀ : Hp} {sc : Scope} {ns : List Str} {env : Env} {ρ : Env'} {tg : Expr} {ws : List Nat} {us vs : List V} {h₁ : Heap}

/-- the tuple that zip hides changed -/
theorem SR.hid {W : Wo} {h h' : Heap} {io : List Addr} {lz : Nat} {TO : Addr} (R : SR W φ H h) (hl : φ[lz]? = some TO) (eH : H[lz]? = some .hid) (hio : ∀ a ∈ io, a ∉ φ ∧ W.h₀.get? a = none) (kp : Kp φ h φ h')
    (hk : ∀ a o, a ∉ io → a ≠ TO → h.get? a = some o → h'.get? a = some o) (hc : CellAt W φ h' TO .hid) : SR W φ H h' := by
  have hm := List.mem_of_getElem? hl
  refine ⟨fun a o e => hk a o (fun hm' => by rw [(hio a hm').2] at e; cases e) (fun e' => by rw [e', R.fresh TO hm] at e; cases e) (R.keep a o e), R.fresh, R.nodup, R.len, fun l c e => ?_⟩
  by_cases hll : l = lz
  · subst hll
    rw [eH] at e; cases e
    exact ⟨TO, hl, hc⟩
  · obtain ⟨a, ha, r⟩ := R.cell l c e
    refine ⟨a, ha, r.kp kp fun o e => hk a o (fun hm' => (hio a hm').1 (List.mem_of_getElem? ha)) (fun e' => hll ?_) e⟩
    subst e'
    have h1 := (List.getElem?_eq_some_iff.mp ha)
    have h2 := (List.getElem?_eq_some_iff.mp hl)
    exact nodup_inj R.nodup h1.1 h2.1 (h1.2.trans h2.2.symm)

theorem itr_zip {z TI TO i1 i2 l1 l2 : Addr} {lz : Nat} (htg : ∃ es k p, tg = .Tuple es k p) (D : ZipApart z TI TO i1 i2 l1 l2) (hle : us.length ≤ vs.length) (hs1 : SrcL X φ₀ h₁ H₀ ws us l1) (hs2 : SrcL X φ₀ h₁ H₀ ws vs l2) (hz0 : φ₀[lz]? = some TO) (hH : H₀[lz]? = some .hid) (hlz : lz ∈ ws) :
    Itr X n tg φ₀ h₁ H₀ ws (zipV us vs) z [z, i1, i2, TI] (fun i h => IsZip h z TI TO .none ∧ IsPair h TI (.ref i1) (.ref i2) ∧ h.IsListIter i1 l1 i ∧ h.IsListIter i2 l2 i) where
  keep := fun i h h' st hk => let ⟨e1, e2, e3, e4⟩ := st; ⟨hk z (by simp) _ e1, hk TI (by simp) _ e2, e3.at fun o e => hk i1 (by simp) o e, e4.at fun o e => hk i2 (by simp) o e⟩
  live := fun i h st b hb => by
    obtain ⟨e1, e2, ⟨_, e3, _⟩, ⟨_, e4, _⟩⟩ := st
    simp only [List.mem_cons, List.not_mem_nil, or_false] at hb
    rcases hb with rfl | rfl | rfl | rfl
    · exact ⟨_, e1⟩
    · exact ⟨_, e3⟩
    · exact ⟨_, e4⟩
    · exact ⟨_, e2⟩
  item := fun A φ H s i v Q Ex rm hp R hw st hio hv hQ => by
    obtain ⟨es, k, p, rfl⟩ := htg
    obtain ⟨hz, hTI, st1, st2⟩ := st
    obtain ⟨xs, a1, a2⟩ := hs1 φ H s hp R hw
    obtain ⟨ys, b1, b2⟩ := hs2 φ H s hp R hw
    obtain ⟨u, t, hu, ht, rfl⟩ := zipV_get hv
    obtain ⟨x, hx, rx⟩ := a2.get hu
    obtain ⟨y, hy, ry⟩ := b2.get ht
    have eH : H[lz]? = some .hid := (stands_get hw hlz).trans hH
    have eφ : φ[lz]? = some TO := by
      obtain ⟨t, ht⟩ := hp.pre
      rw [ht, List.getElem?_append_left (List.getElem?_eq_some_iff.mp hz0).1]; exact hz0
    obtain ⟨b, hb, p1, p2, hTO⟩ := R.cell lz _ eH
    rw [eφ] at hb; cases hb
    have hTOm := List.mem_of_getElem? eφ
    obtain ⟨oi1, ho1, hc1, hd1⟩ := id st1
    obtain ⟨oi2, ho2, hc2, hd2⟩ := id st2
    refine wpAny_pyNext_zip_item (a := p1) (b := p2) D hz hTI hTO st1 st2 a1 b1 (by simpa using hx) (by simpa using hy) fun h' q1 q2 q3 q4 q5 q6 q7 => ?_
    refine hQ _ _ fun Q' Ex' hq => ?_
    refine wpAny_letOwnedTupleGo_zip (s := { s with heap := h' }) q1 fun h2 w1 w2 => ?_
    replace w2 : Heap.SameBut z h' h2 := w2
    have keep : ∀ c o, c ≠ z → c ≠ TO → c ≠ i1 → c ≠ i2 → s.heap.get? c = some o → h2.get? c = some o := fun c o n1 n2 n3 n4 e => w2.extBut c o n1 (q7 c o n1 n2 n3 n4 e)
    have hTO2 : h2.get? TO = some (tupObj [x, y] 0) := w2.extBut _ _ D.TOz q2
    have hT : h2.get? s.heap.objs.size = some (tupObj [x, y] 0) := w2.extBut _ _ (fun e' => absurd (Heap.lt_size hz) (by rw [← e']; exact Nat.lt_irrefl _)) q5
    have g1 : h2.IsListIter i1 l1 (i + 1) := q3.extBut w2.extBut D.i1z
    have g2 : h2.IsListIter i2 l2 (i + 1) := q4.extBut w2.extBut D.i2z
    have nz : NotTup { cls := .type "zip", dict := none, data := .fields #[.none, .bool false, .bool false, .ref TI, .ref TO], slots := #[] } := notTup_at (nm := "zip") rfl (by decide) (by decide)
    have n1 := notTup_at hc1 (by decide) (by decide)
    have n2 := notTup_at hc2 (by decide) (by decide)
    have S : Stp [z, i1, i2, TI] φ s.heap φ h2 := by
      refine ⟨⟨[], by simp⟩, fun b o e hb hn => ?_, fun b m1 m2 => absurd m1 m2, fun b xs k hb e => ?_, fun b o zz e => ?_, fun b o e => ?_⟩
      · simp only [List.mem_cons, List.not_mem_nil, or_false, not_or] at hn
        exact keep b o hn.1 (fun e' => hb (e' ▸ hTOm)) hn.2.1 hn.2.2.1 e
      · refine keep b _ ?_ (fun e' => hb (e' ▸ hTOm)) ?_ ?_ e
        · rintro rfl; rw [hz] at e; exact nz.1 xs k (Option.some.inj e)
        · rintro rfl; rw [ho1] at e; exact n1.1 xs k (Option.some.inj e)
        · rintro rfl; rw [ho2] at e; exact n2.1 xs k (Option.some.inj e)
      · refine keep b _ ?_ ?_ ?_ ?_ e
        · rintro rfl; rw [hz] at e; cases e; exact nz.2 zz
        · rintro rfl; rw [hTO] at e; cases e; obtain ⟨_, _, zz⟩ := zz; cases zz
        · rintro rfl; rw [ho1] at e; cases e; exact n1.2 zz
        · rintro rfl; rw [ho2] at e; cases e; exact n2.2 zz
      · by_cases m1 : b = z
        · subst m1; exact ⟨_, w1⟩
        · by_cases m2 : b = TO
          · subst m2; exact ⟨_, hTO2⟩
          · by_cases m3 : b = i1
            · subst m3; obtain ⟨o', e', _⟩ := g1; exact ⟨o', e'⟩
            · by_cases m4 : b = i2
              · subst m4; obtain ⟨o', e', _⟩ := g2; exact ⟨o', e'⟩
              · exact ⟨o, keep b o m1 m2 m3 m4 e⟩
    have R2 : SR X.W φ H h2 := R.hid eφ eH hio S.kp (fun a o ha hb e => by
      simp only [List.mem_cons, List.not_mem_nil, or_false, not_or] at ha
      exact keep a o ha.1 hb ha.2.1 ha.2.2.1 e) ⟨x, y, hTO2⟩
    exact hq h2 s.toks R2 S ⟨w1, keep TI _ D.TIz D.TITO D.TIi1 D.TIi2 hTI, g1, g2⟩ (.tup hT (.cons (rx.mono S) (.cons (ry.mono S) .nil)) (by simp) R.sizeNot)
  done := fun A φ H s i Q Ex rm hp R hw st hio hv hQ => by
    obtain ⟨hz, hTI, st1, st2⟩ := st
    obtain ⟨xs, a1, a2⟩ := hs1 φ H s hp R hw
    have hl := a2.length
    have hx : xs.toArray[i]? = none := by
      have := zipV_end hle hv
      simpa [← hl] using this
    obtain ⟨oi1, ho1, hc1, hd1⟩ := id st1
    refine zipEnd rm.handled D hz hTI st1 a1 hx fun h' hk => ?_
    have S : Fin [z, i1] s.heap h' := ⟨fun b o hb e => by
      simp only [List.mem_cons, List.not_mem_nil, or_false, not_or] at hb
      exact hk b o hb.1 hb.2 e, fun b hb o e => by
      simp only [List.mem_cons, List.not_mem_nil, or_false] at hb
      rcases hb with rfl | rfl
      · rw [hz] at e; cases e; exact notTup_at (nm := "zip") rfl (by decide) (by decide)
      · rw [ho1] at e; cases e; exact notTup_at hc1 (by decide) (by decide)⟩
    have R' : SR X.W φ H h' := R.fin (io := [z, i1]) (fun a ha => hio a (by
      simp only [List.mem_cons, List.not_mem_nil, or_false] at ha ⊢
      rcases ha with rfl | rfl <;> simp)) S
    have F := S.two R R'
    refine hQ h' s.toks R' ⟨fun a o ha hφ e => F.keep a o (fun hm => ha ?_) hφ e, fun a ha o e => ?_, F.cod, F.live⟩
    · simp only [List.mem_cons, List.not_mem_nil, or_false] at hm ⊢
      rcases hm with rfl | rfl <;> simp
    · by_cases m1 : a = z
      · exact .inl (S.not a (by simp [m1]) o e)
      · by_cases m2 : a = i1
        · exact .inl (S.not a (by simp [m2]) o e)
        · exact .inr (hk a o m1 m2 e)
  self := fun A s Q Ex rm st hQ => wpAny_pyIter_zip st.1 hQ

theorem srcL_mono {H' : Hp} {φ' : List Addr} {h' : Heap} {ws' : List Nat} {vs : List V} {a : Addr} (src : SrcL X φ₀ h₁ H₀ ws vs a) (kp : Kp φ₀ h₁ φ' h') (hw : ∀ l ∈ ws, l ∈ ws' ∧ H'[l]? = H₀[l]?) : SrcL X φ' h' H' ws' vs a := by
  intro φ H s kp' R hs
  refine src φ H s (kp.trans kp') R ?_
  unfold stands
  rw [List.all_eq_true]
  intro l hl
  exact decide_eq_true ((stands_get hs (hw l hl).1).trans (hw l hl).2)
/-- where the items of a list or of the script lie -/
theorem src_of (s : Shared) {v : V} {x : Value} {us : List V} {φ1 : List Addr} {H1 : Hp} {h1 : Heap} (G : X.Gl C) (R1 : SR X.W φ1 H1 h1) (r1 : Rep X.W.scr φ1 h1 v x) (hl : lstOf C.scr H1 v = some us) : ∃ a xs, x = .ref a ∧ h1.IsList a (xs : List Value).toArray ∧ RepL X.W.scr φ1 h1 us xs ∧ SrcL X φ1 h1 H1 (watch v) us a ∧ ∀ l ∈ watch v, l < H1.length := by
  cases v with
  | ref l =>
    unfold lstOf at hl
    dsimp only at hl
    split at hl
    · rename_i us' hl'
      cases hl
      obtain ⟨a, xs, k, rfl, ha, q1, q2, q3⟩ := listAt (s := { s with heap := h1 }) R1 r1 hl'
      exact ⟨a, xs, rfl, isList_of q1, q2, srcL_ref ha hl' (by simp [watch]), fun m hm => by
        have : m = l := by simpa [watch] using hm
        rw [this]; exact (List.getElem?_eq_some_iff.mp hl').1⟩
    · cases hl
  | script =>
    cases r1
    cases hl
    obtain ⟨xs, q1, q2, q3⟩ := Gl.keep (s := { s with heap := h1 }) G R1
    exact ⟨_, xs, rfl, q1, q2, srcL_script G, fun m hm => nomatch hm⟩
  | _ => cases hl

theorem zip_its {c d : E} {e f : Expr} {np pos : Pos} (G : X.Gl C) (hx : okGlob sc "zip" = true) (h0 : chkE X.K sc ns c e = true) (h0' : chkE X.K sc ns d f = true) (he : EvS X C n sc ns c e) (hf : EvS X C n sc ns d f) : ItS X C n sc ns (.zip c d) (.Call (.Name "zip" np) [e, f] [] pos) := by
  refine ⟨fun _ _ => rfl, fun A env ρ φ H s tg Q Ex rm kd F R htg p => ?_⟩
  have hpl : (backTo pos (starEach [e, f] env)).any (·.1) = false := by rw [notStarred h0 env, notStarred h0' env]; rfl
  have htg' : ∃ es k p, tg = .Tuple es k p := by
    cases tg <;> first | exact Bool.noConfusion htg | exact ⟨_, _, _, rfl⟩
  refine wpAny_Call_NameR (glob_bi G kd F R (v := .type "zip") (bi_mem 10 (by decide)) hx ?_)
  refine PySem.callWith_type hpl (evalArgs_of hpl ?_)
  refine wpAny_items_cons (he A env ρ φ H s _ Ex rm kd F R (WE_mono p fun v H1 p1 => ?_)) (notStarred h0 env _)
  intro φ1 g1 tk x R1 S1 r1
  refine wpAny_items_cons (hf A env ρ φ1 H1 { s with heap := g1, toks := tk } _ Ex rm kd (F.mono0 S1) R1 (WE_mono p1 fun u H2 p2 => ?_)) (notStarred h0' env _)
  intro φ2 g2 tk2 y R2 S2 r2
  refine wpAny_items_nil ?_
  obtain ⟨us, hl1, p3⟩ := wSome_ex p2
  obtain ⟨vs, hl2, hle, p4⟩ := wSome_ex p3
  obtain ⟨a, xs, rfl, q1, q2, s1, w1⟩ := src_of s G R2 (r1.mono S2) hl1
  obtain ⟨b, ys, rfl, t1, t2, s2, w2⟩ := src_of s G R2 r2 hl2
  have S12 := S1.trans S2
  have fr := fun b (hb : g2.objs.size ≤ b) => fresh_at R2 S12 hb
  refine call_zip_2 (s := { s with heap := g2, toks := tk2 }) q1 t1 fun h' z1 z2 z3 z4 z5 z6 z7 => ?_
  refine wpAny_pyIter_zip (s := { s with heap := h', toks := tk2 }) z1 ?_
  have frT := fr (g2.objs.size + 3) (Nat.le_add_right _ _)
  have hTn : g2.get? (g2.objs.size + 3) = none := size_none' (Nat.le_add_right _ _)
  have kp : Kp φ2 g2 (φ2 ++ [g2.objs.size + 3]) h' := .new z7 hTn
  have R3 : SR X.W (φ2 ++ [g2.objs.size + 3]) (H2 ++ [.hid]) h' := R2.grow z7 kp frT.1 frT.2.2 ⟨_, _, z3⟩
  have S3 : Stp [] φ s.heap (φ2 ++ [g2.objs.size + 3]) h' := (S12.trans (.ext z7)).adopt frT.2.1
  have hlt1 : a < g2.objs.size := by obtain ⟨_, e, _⟩ := q1; exact Heap.lt_size e
  have hlt2 : b < g2.objs.size := by obtain ⟨_, e, _⟩ := t1; exact Heap.lt_size e
  have hap : ∀ {ws : List Nat}, (∀ l ∈ ws, l < H2.length) → ∀ l ∈ ws, (H2 ++ [Cell.hid])[l]? = H2[l]? := fun h l hl => List.getElem?_append_left (h l hl)
  refine p4 (φ2 ++ [g2.objs.size + 3]) h' tk2 (g2.objs.size + 4) _ _ R3 S3 (itr_zip (lz := H2.length) htg' (zipApart_new hlt1 hlt2) hle (srcL_mono s1 kp fun l hl => ⟨by simp [hl], hap w1 l hl⟩) (srcL_mono s2 kp fun l hl => ⟨by simp [hl], hap w2 l hl⟩) ?_ (by simp) (by simp)) ⟨z1, z2, z4, z5⟩ ?_
  · rw [← R2.len, List.getElem?_append_right (Nat.le_refl _)]; simp
  · intro c hc
    simp only [List.mem_cons, List.not_mem_nil, or_false] at hc
    have key : ∀ c, g2.objs.size ≤ c → c ≠ g2.objs.size + 3 → c ∉ φ2 ++ [g2.objs.size + 3] ∧ s.heap.get? c = none ∧ X.W.h₀.get? c = none := fun c hc hne => by
      obtain ⟨k1, k2, k3⟩ := fr c hc
      exact ⟨fun hm => (List.mem_append.mp hm).elim k1 fun h => hne (List.mem_singleton.mp h), k2, k3⟩
    have ne : ∀ {a b : Nat}, a ≠ b → g2.objs.size + a ≠ g2.objs.size + b := fun h e => h (Nat.add_left_cancel e)
    rcases hc with rfl | rfl | rfl | rfl
    · exact key _ (Nat.le_add_right _ _) (ne (by decide))
    · exact key _ (Nat.le_refl _) (ne (a := 0) (by decide))
    · exact key _ (Nat.le_add_right _ _) (ne (by decide))
    · exact key _ (Nat.le_add_right _ _) (ne (by decide))

theorem clear_snd {a : E} {o : Expr} {ap pos : Pos} (ho : isBaseE o = true) (hline : (ap.endLine == pos.line) = true) (ha : EvS X C n sc ns a o) (h : LsS X C n sc ns [] []) : EvS X C n sc ns (.meth .clear a []) (.Call (.Attribute o "clear" ap) [] [] pos) := by
  intro A env ρ φ H s Q Ex rm kd F R p
  refine wpAny_Call_method (base_of ho _ env) (few_of h (by simp) env) hline PySem.F.plainAttrs_list PySem.F.slot_list_clear PySem.F.type_list_clear (ha A env ρ φ H s _ Ex rm kd F R (WE_mono p fun v H1 p1 => ?_))
  obtain ⟨hkind, p2⟩ := wIf_true p1
  intro φ1 h1 tk x R1 S1 r1
  obtain ⟨l, ad, ys1, k1, rfl, rfl, had, hq1⟩ := kind_append R1 r1 hkind
  refine ⟨⟨_, hq1, rfl⟩, fun a' e => by cases e; exact ⟨_, hq1, rfl⟩, ?_⟩
  refine Calls.callWith_builtin (h.plain env pos) (evalArgs_of (h.plain env pos) (h.spl A env ρ φ1 H1 { s with heap := h1, toks := tk } _ Ex pos rm kd (F.mono0 S1) R1 (WEs_mono p2 fun us H2 p3 => ?_)))
  obtain ⟨l', xs, e0, hl2, p4⟩ := onL_post (H := H2) (v := .ref l) (f := fun _ => bi0 us (.ok .none (H2.set l (.list [])))) (PostV.step (tk := tk) (r := methV .clear (.ref l) us H2) p3 S1)
  cases e0
  cases us with
  | cons _ _ => exact p4.elim
  | nil =>
    intro φ2 h2 tk2 zs R2 S2 r2
    cases r2
    obtain ⟨ad', ys, k, e', had2, q1, q2, q3⟩ := listAt (s := { s with heap := h2, toks := tk2 }) R2 (Rep.mono S2 (Rep.ref had)) hl2
    cases e'
    have hl := q2.length
    refine call_meets PySem.F.slot_list_clear ⟨_, q1, rfl⟩ PySem.F.entry_list_clear (PySem.F.args_list_clear_1 _) (PySem.AutoSeq1.list_clear_list_0 ad ys.toArray k (by rw [List.size_toArray]; unfold sizeLine; (first | lia | omega))) ⟨q1, ?_⟩
    have he : (h2.update ad (Obj.mapSeq fun _ => (#[] : Array Value))).get? ad = some (lstObj [] (if (#[] : Array Value).size == ys.toArray.size then k else k + 1)) := get?_update_seq q1 fun _ => #[]
    obtain ⟨R3, S3⟩ := setList (s := { s with heap := h2, toks := tk2 }) (vs := xs) R2 had2 q1 (Heap.SameBut.update ..).extBut he .nil (by simp)
    exact p4 φ2 _ _ _ R3 (S2.trans S3) .none
end
end Mine

end
section
set_option autoImplicit false
set_option linter.unusedVariables false
set_option linter.unusedSimpArgs false
namespace Mine
open PySem PySem.Calls PyProof.Rows

section
variable {X : Fix} {C : Ctx} {A : Around} {n : Nat} {Ex : Value → Shared → Prop} {s : Shared} {φ : List Addr} {H : Hp} {sc : Scope} {ns : List Str} {env : Env} {ρ : Env'}

theorem len_snd {v : V} {x : Value} {Q : Value → Shared → Prop} (G : X.Gl C) (R : SR X.W φ H s.heap) (rv : Rep X.W.scr φ s.heap v x) (p : PostV X.W φ s Q (biV C.scr .len [v] H)) :
    wpAny X.M A (call (.builtin "len") [x]) Q Ex s := by
  obtain ⟨l, hl, p⟩ := onO_post (f := fun l : List V => .ok (.int l.length) H) p
  obtain ⟨a, xs, rfl, h1, h2, h3⟩ := items_at G R rv hl
  have hlen := h1.length
  rw [hlen] at p
  rcases h3 with ⟨h3, _, _⟩ | ⟨h3, _⟩
  · exact PyProof.Rows.len_tuple h3 (small_of_len h1 h2) (p.now R (.int _ _) _)
  · exact call_len_list h3 (small_of_len h1 h2) (p.now R (.int _ _) _)
theorem bi1_snd {b : Bi} {c : E} {x : Str} {id : String} {e : Expr} {np pos : Pos} (G : X.Gl C) (h1 : (x, Value.builtin id) ∈ biTable) (h2 : okGlob sc x = true) (h : LsS X C n sc ns [c] [e])
    (hb : ∀ (A : Around) (φ : List Addr) (H : Hp) (s : Shared) (v : V) (y : Value) (Q : Value → Shared → Prop) (Ex : Value → Shared → Prop), Room A n → SR X.W φ H s.heap → Rep X.W.scr φ s.heap v y → PostV X.W φ s Q (biV C.scr b [v] H) → wpAny X.M A (call (.builtin id) [y]) Q Ex s) :
    EvS X C n sc ns (.bi b [c]) (.Call (.Name x np) [e] [] pos) := by
  intro A env ρ φ H s Q Ex rm kd F R p
  refine wpAny_Call_NameR (glob_bi G kd F R h1 h2 ?_)
  refine Calls.callWith_builtin (h.plain env pos) (evalArgs_of (h.plain env pos) (h.spl A env ρ φ H s _ Ex pos rm kd F R (WEs_mono (WEs_len p) fun vs H1 p => ?_)))
  have hl := p.1
  intro φ1 h1' tk xs R1 S1 r1
  cases r1 with
  | nil => cases hl
  | cons r1 r2 =>
    cases r2 with
    | cons _ _ => cases hl
    | nil => exact hb A φ1 H1 { s with heap := h1', toks := tk } _ _ Q Ex rm R1 r1 (PostV.step p.2 S1)
theorem isiE_snd {b : Bi} {t : String} {c : E} {e : Expr} {y : Str} {np yp pos : Pos} (G : X.Gl C) (ht : isiName b = some t) (h2 : okGlob sc "isinstance" = true) (hy : okGlob sc (Str.ofString t) = true) (h0 : chkE X.K sc ns c e = true) (h : EvS X C n sc ns c e ∧ TrS X C n sc ns c e) :
    EvS X C n sc ns (.bi b [c]) (.Call (.Name "isinstance" np) [e, .Name (Str.ofString t) yp] [] pos) := by
  intro A env ρ φ H s Q Ex rm kd F R p
  refine wpAny_Call_NameR (glob_bi G kd F R (v := .builtin "isinstance") (bi_mem 1 (by decide)) h2 ?_)
  have hpl : (backTo pos (starEach [e, .Name (Str.ofString t) yp] env)).any (·.1) = false := by
    rw [notStarred h0 env]; rfl
  refine Calls.callWith_builtin hpl (evalArgs_of hpl ?_)
  refine wpAny_items_cons (h.1 A env ρ φ H s _ Ex rm kd F R (WE_mono p fun v H1 p => ?_)) (notStarred h0 env _)
  change PostV X.W φ s Q (biV C.scr b [v] H1) at p
  intro φ1 h1 tk x R1 S1 r1
  refine wpAny_items_cons (glob_bi (s := { s with heap := h1, toks := tk }) G kd (F.mono0 S1) R1 (isi_mem ht) hy ?_) rfl
  refine wpAny_items_nil ?_
  exact isi_snd (s := { s with heap := h1, toks := tk }) R1 ht r1 (PostV.step p S1)
end

section
variable {X : Fix} {C : Ctx} {n : Nat}
theorem scIn_spec {sc cs' : Scope} {ns loc : List Str} (h : scIn sc ns loc cs' = true) : CompSc sc ns loc cs' := by
  unfold scIn at h
  simp only [Bool.and_eq_true, Bool.not_eq_true', decide_eq_true_eq] at h
  obtain ⟨⟨⟨⟨⟨⟨⟨⟨h1, h2⟩, h3⟩, h4⟩, h5⟩, h6⟩, h7⟩, h8⟩, h9⟩ := h
  have h6 := List.all_eq_true.mp h6
  have h7 := List.all_eq_true.mp h7
  refine ⟨?_, ⟨h2, h3⟩, h5, ?_, ?_, ?_, ?_, ?_, Option.isNone_iff_eq_none.mp h9⟩
  · cases hk : cs'.kind <;> rw [hk] at h1 <;> first | rfl | cases h1
  · intro p hp hk
    have := h6 p hp
    rw [hk] at this
    simp only [Bool.or_eq_true] at this
    rcases this with this | this
    · exact .inl (eq_of_beq this)
    · exact .inr (List.contains_iff_mem.mp this)
  · intro p hp hk
    have := h6 p hp
    rw [hk] at this
    cases this
  · intro p hp hk
    have := h6 p hp
    rw [hk] at this
    simp only [Bool.and_eq_true, Bool.not_eq_true'] at this
    refine ⟨List.contains_iff_mem.mp this.1.1, fun hm => ?_, ?_⟩
    · rw [List.contains_iff_mem.mpr hm] at this
      cases this.1.2
    · have h9 := this.2
      split at h9
      · rename_i e; exact .inl e
      · rename_i e; exact .inr e
      · cases h9
  · intro x hx
    have := h7 x hx
    split at this
    · assumption
    · cases this
  · intro hm
    rw [List.contains_iff_mem.mpr hm] at h8
    cases h8
theorem len_two {α : Type} {l : List α} (h : l.length = 2) : ∃ a b, l = [a, b] := by
  match l, h with
  | [a, b], _ => exact ⟨a, b, rfl⟩
theorem both {sc : Scope} {ns : List Str} {c : E} {e : Expr} (G : X.Gl C) (h : plainTest e = true) (q : EvS X C n sc ns c e) : EvS X C n sc ns c e ∧ TrS X C n sc ns c e := ⟨q, .of G h q⟩
section
variable {sc : Scope} {ns : List Str} {x : Str} {xs : List Expr} {es : List E} {np pos : Pos}
theorem bi_arg {y : Str} {m : Nat} (h : (x == y && decide (xs.length = m) && chkEs X.K sc ns es xs) = true) : x = y ∧ xs.length = m ∧ es.length = m ∧ chkEs X.K sc ns es xs = true := by
  have h := Bool.and_eq_true_iff.mp h
  have h1 := Bool.and_eq_true_iff.mp h.1
  have l := of_decide_eq_true h1.2
  exact ⟨eq_of_beq h1.1, l, (chkEs_len h.2).trans l, h.2⟩
theorem isi_arg {t : String} (h : (x == ("isinstance" : Str) && if2 xs fun e nm => ifName nm fun y => y == Str.ofString t && okGlob sc y && chkEs X.K sc ns es [e]) = true) :
    x = "isinstance" ∧ ∃ e yp, xs = [e, .Name (Str.ofString t) yp] ∧ okGlob sc (Str.ofString t) = true ∧ chkEs X.K sc ns es [e] = true := by
  have h := Bool.and_eq_true_iff.mp h
  obtain ⟨e, nm, rfl, h2⟩ := if2.spec h.2
  obtain ⟨y, yp, rfl, h2⟩ := ifName.spec h2
  have h2 := Bool.and_eq_true_iff.mp h2
  have h3 := Bool.and_eq_true_iff.mp h2.1
  obtain rfl := eq_of_beq h3.1
  exact ⟨eq_of_beq h.1, e, yp, rfl, h3.2, h2.2⟩
theorem one_one {α β : Type} {l : List α} {m : List β} {P : List α → List β → Prop} (h1 : l.length = 1) (h2 : m.length = 1) (h : ∀ a b, P [a] [b]) : P l m := by
  obtain ⟨a, rfl⟩ := List.length_eq_one_iff.mp h1
  obtain ⟨b, rfl⟩ := List.length_eq_one_iff.mp h2
  exact h a b
theorem len_all (G : X.Gl C) (hx : okGlob sc "len" = true) (l1 : xs.length = 1) (l2 : es.length = 1) (hs : LsS X C n sc ns es xs) : EvS X C n sc ns (.bi .len es) (.Call (.Name "len" np) xs [] pos) := by
  refine one_one (P := fun es xs => LsS X C n sc ns es xs → EvS X C n sc ns (.bi .len es) (.Call (.Name "len" np) xs [] pos)) l2 l1 (fun c e hs => ?_) hs
  exact bi1_snd (id := "len") G (bi_mem 0 (by decide)) hx hs fun A φ H s v y Q Ex rm R r p => len_snd G R r p
theorem sum_all (G : X.Gl C) (hx : okGlob sc "sum" = true) (l1 : xs.length = 1) (l2 : es.length = 1) (hs : LsS X C n sc ns es xs) : EvS X C n sc ns (.bi .sumI es) (.Call (.Name "sum" np) xs [] pos) :=
  one_one (P := fun es xs => LsS X C n sc ns es xs → EvS X C n sc ns (.bi .sumI es) (.Call (.Name "sum" np) xs [] pos)) l2 l1 (fun c e hs => bi1_snd (id := "sum") G (bi_mem 8 (by decide)) hx hs fun A φ H s v y Q Ex rm R r p => sumI_snd G R rm r p) hs
theorem any_all (G : X.Gl C) (hx : okGlob sc "any" = true) (l1 : xs.length = 1) (l2 : es.length = 1) (hs : LsS X C n sc ns es xs) : EvS X C n sc ns (.bi .any es) (.Call (.Name "any" np) xs [] pos) :=
  one_one (P := fun es xs => LsS X C n sc ns es xs → EvS X C n sc ns (.bi .any es) (.Call (.Name "any" np) xs [] pos)) l2 l1 (fun c e hs => bi1_snd (id := "any") G (bi_mem 11 (by decide)) hx hs fun A φ H s v y Q Ex rm R r p => any_snd G R rm r p) hs
theorem isi_all {b : Bi} {t : String} {e : Expr} {yp : Pos} (G : X.Gl C) (ht : isiName b = some t) (hx : okGlob sc "isinstance" = true) (h3 : okGlob sc (Str.ofString t) = true) (h4 : chkEs X.K sc ns es [e] = true) (hs : LsS X C n sc ns es [e]) : EvS X C n sc ns (.bi b es) (.Call (.Name "isinstance" np) [e, .Name (Str.ofString t) yp] [] pos) := by
  obtain ⟨a, rfl⟩ := List.length_eq_one_iff.mp (chkEs_len h4)
  exact isiE_snd (y := Str.ofString t) G ht hx h3 (Bool.and_eq_true_iff.mp h4).1 (hs.one a _ rfl rfl)
end
set_option maxHeartbeats 2000000
mutual
theorem sndE (G : X.Gl C) (hc : X.CallOk C n) (hn : 0 < n) : ∀ (c : E) (sc : Scope) (ns : List Str) (e : Expr), chkE X.K sc ns c e = true → EvS X C n sc ns c e ∧ TrS X C n sc ns c e
  | .k v, sc, ns, e, h => by
    replace h := ifConst.spec h
    obtain ⟨c, k, p, rfl, h⟩ := h
    exact both G rfl (k_snd h)
  | .var i, sc, ns, e, h => by
    obtain ⟨y, p, rfl, h'⟩ := ifName.spec h
    exact both G rfl (var_snd h)
  | .bin op a b, sc, ns, e, h => by
    replace h := ifBin.spec h
    obtain ⟨l, o, r, p, rfl, h⟩ := h
    simp only [Bool.and_eq_true] at h
    exact both G rfl (bin_snd G h.1.1 (sndE G hc hn a sc ns _ h.1.2).1 (sndE G hc hn b sc ns _ h.2).1)
  | .neg a, sc, ns, e, h => by
    replace h := ifUn.spec h
    obtain ⟨o, y, p, rfl, h⟩ := h
    rw [Bool.and_eq_true] at h
    obtain rfl := of_decide_eq_true h.1
    exact both G rfl (neg_snd (sndE G hc hn a sc ns _ h.2).1)
  | .not a, sc, ns, e, h => by
    replace h := ifUn.spec h
    obtain ⟨o, y, p, rfl, h⟩ := h
    rw [Bool.and_eq_true] at h
    obtain rfl := of_decide_eq_true h.1
    exact not_snd G (sndE G hc hn a sc ns _ h.2)
  | .and es, sc, ns, e, h => by
    replace h := ifBool.spec h
    obtain ⟨o, ys, p, rfl, h⟩ := h
    rw [Bool.and_eq_true] at h
    obtain rfl := of_decide_eq_true h.1
    exact and_snd (sndEs G hc hn es sc ns _ h.2)
  | .or es, sc, ns, e, h => by
    replace h := ifBool.spec h
    obtain ⟨o, ys, p, rfl, h⟩ := h
    rw [Bool.and_eq_true] at h
    obtain rfl := of_decide_eq_true h.1
    exact or_snd (sndEs G hc hn es sc ns _ h.2)
  | .cmp op a b, sc, ns, e, h => by
    replace h := ifCmp.spec h
    obtain ⟨l, os, rs, p, rfl, h⟩ := h
    replace h := if1.spec h
    obtain ⟨o, rfl, h⟩ := h
    replace h := if1.spec h
    obtain ⟨r, rfl, h⟩ := h
    simp only [Bool.and_eq_true] at h
    exact cmpE_snd G h.1.1 h.2 (sndE G hc hn a sc ns _ h.1.2).1 (sndE G hc hn b sc ns _ h.2).1
  | .isNone a, sc, ns, e, h => by
    replace h := ifCmp.spec h
    obtain ⟨l, os, rs, p, rfl, h⟩ := h
    replace h := if1.spec h
    obtain ⟨o, rfl, h⟩ := h
    rw [Bool.and_eq_true] at h
    obtain rfl := of_decide_eq_true h.1
    replace h := if1.spec h.2
    obtain ⟨r, rfl, h⟩ := h
    replace h := ifConst.spec h
    obtain ⟨c, k, q, rfl, h⟩ := h
    rw [Bool.and_eq_true] at h
    obtain rfl := of_decide_eq_true h.1
    exact isNone_snd (sndE G hc hn a sc ns _ h.2).1
  | .notNone a, sc, ns, e, h => by
    replace h := ifCmp.spec h
    obtain ⟨l, os, rs, p, rfl, h⟩ := h
    replace h := if1.spec h
    obtain ⟨o, rfl, h⟩ := h
    rw [Bool.and_eq_true] at h
    obtain rfl := of_decide_eq_true h.1
    replace h := if1.spec h.2
    obtain ⟨r, rfl, h⟩ := h
    replace h := ifConst.spec h
    obtain ⟨c, k, q, rfl, h⟩ := h
    rw [Bool.and_eq_true] at h
    obtain rfl := of_decide_eq_true h.1
    exact notNone_snd (sndE G hc hn a sc ns _ h.2).1
  | .tup es, sc, ns, e, h => by
    replace h := ifTuple.spec h
    obtain ⟨ys, k, p, rfl, h⟩ := h
    simp only [Bool.and_eq_true, decide_eq_true_eq] at h
    exact both G rfl (tup_snd (by rw [chkEs_len h.1]; exact h.2) (sndEs G hc hn es sc ns _ h.1))
  | .lst es, sc, ns, e, h => by
    replace h := ifList.spec h
    obtain ⟨ys, p, rfl, h⟩ := h
    simp only [Bool.and_eq_true, decide_eq_true_eq] at h
    exact both G rfl (lst_snd (by rw [chkEs_len h.1]; exact h.2) (sndEs G hc hn es sc ns _ h.1))
  | .idx a i, sc, ns, e, h => by
    replace h := ifSub.spec h
    obtain ⟨y, z, p, rfl, h⟩ := h
    rw [Bool.and_eq_true] at h
    exact both G rfl (idxE_snd G h.2 (sndE G hc hn a sc ns _ h.1).1 (sndE G hc hn i sc ns _ h.2).1)
  | .slc a lo hi, sc, ns, e, h => by
    replace h := ifSub.spec h
    obtain ⟨y, z, p, rfl, h⟩ := h
    replace h := ifSlice.spec h
    obtain ⟨l, u, t, q, rfl, h⟩ := h
    simp only [Bool.and_eq_true, Option.isNone_iff_eq_none] at h
    obtain ⟨⟨⟨rfl, h1⟩, h2⟩, h3⟩ := h
    exact both G rfl (slc_snd G (sndE G hc hn a sc ns _ h1).1 h2 h3 (sndO G hc hn lo sc ns _ h2) (sndO G hc hn hi sc ns _ h3))
  | .call f es, sc, ns, e, h => by
    replace h := ifCall.spec h
    obtain ⟨g, xs, ks, p, rfl, h⟩ := h
    rw [Bool.and_eq_true] at h
    obtain rfl := List.isEmpty_iff.mp h.1
    replace h := ifName.spec h.2
    obtain ⟨x, q, rfl, h⟩ := h
    simp only [Bool.and_eq_true, decide_eq_true_eq] at h
    exact both G rfl (call_snd G hc h.1.1.1 h.1.1.2 (sndEs G hc hn es sc ns _ h.2))
  | .bi b es, sc, ns, e, h => by
    replace h := ifCall.spec h
    obtain ⟨g, xs, ks, pos, rfl, h⟩ := h
    rw [Bool.and_eq_true] at h
    obtain rfl := List.isEmpty_iff.mp h.1
    replace h := ifName.spec h.2
    obtain ⟨x, np, rfl, h⟩ := h
    rw [Bool.and_eq_true] at h
    obtain ⟨hx, h⟩ := h
    cases b with
    | len =>
      obtain ⟨rfl, l1, l2, h3⟩ := bi_arg (y := "len") (m := 1) h
      exact both G rfl (len_all G hx l1 l2 (sndEs G hc hn es sc ns xs h3))
    | sumI =>
      obtain ⟨rfl, l1, l2, h3⟩ := bi_arg (y := "sum") (m := 1) h
      exact both G rfl (sum_all G hx l1 l2 (sndEs G hc hn es sc ns xs h3))
    | any =>
      obtain ⟨rfl, l1, l2, h3⟩ := bi_arg (y := "any") (m := 1) h
      exact both G rfl (any_all G hx l1 l2 (sndEs G hc hn es sc ns xs h3))
    | isBool =>
      obtain ⟨rfl, e, yp, rfl, h3, h4⟩ := isi_arg (t := "bool") h
      exact both G rfl (isi_all G rfl hx h3 h4 (sndEs G hc hn es sc ns _ h4))
    | isInt =>
      obtain ⟨rfl, e, yp, rfl, h3, h4⟩ := isi_arg (t := "int") h
      exact both G rfl (isi_all G rfl hx h3 h4 (sndEs G hc hn es sc ns _ h4))
    | isTuple =>
      obtain ⟨rfl, e, yp, rfl, h3, h4⟩ := isi_arg (t := "tuple") h
      exact both G rfl (isi_all G rfl hx h3 h4 (sndEs G hc hn es sc ns _ h4))
    | isList =>
      obtain ⟨rfl, e, yp, rfl, h3, h4⟩ := isi_arg (t := "list") h
      exact both G rfl (isi_all G rfl hx h3 h4 (sndEs G hc hn es sc ns _ h4))
  | .meth m a es, sc, ns, e, h => by
    replace h := ifCall.spec h
    obtain ⟨g, xs, ks, pos, rfl, h⟩ := h
    rw [Bool.and_eq_true] at h
    obtain rfl := List.isEmpty_iff.mp h.1
    replace h := ifAttr.spec h.2
    obtain ⟨o, x, apos, rfl, h⟩ := h
    simp only [Bool.and_eq_true, decide_eq_true_eq] at h
    obtain ⟨⟨⟨⟨⟨h2, h3⟩, h4⟩, h5⟩, h6⟩, h7⟩ := h
    obtain rfl := eq_of_beq h2
    have hb := (sndE G hc hn a sc ns _ h6).1
    have hs := sndEs G hc hn es sc ns xs h7
    have hl := chkEs_len h7
    cases m with
    | append =>
      obtain ⟨c, rfl⟩ := List.length_eq_one_iff.mp (hl.trans h5)
      obtain ⟨e, rfl⟩ := List.length_eq_one_iff.mp h5
      exact both G rfl (append_snd h3 h4 hb hs)
    | get2 =>
      obtain ⟨c, d, rfl⟩ := len_two (hl.trans h5)
      obtain ⟨e, f, rfl⟩ := len_two h5
      exact both G rfl (get2_snd G h3 h4 hb hs)
    | clear =>
      obtain rfl := List.length_eq_zero_iff.mp (hl.trans h5)
      obtain rfl := List.length_eq_zero_iff.mp h5
      exact both G rfl (clear_snd h3 h4 hb hs)
  | .comp nl elt t it cs, sc, ns, e, h => by
    replace h := ifComp.spec h
    obtain ⟨x, gs, cs', p, rfl, h⟩ := h
    replace h := if1.spec h
    obtain ⟨g, rfl, h⟩ := h
    replace h := ifGen.spec h
    obtain ⟨tg, iter, ifs, rfl, h⟩ := h
    simp only [Bool.and_eq_true, decide_eq_true_eq] at h
    obtain ⟨⟨⟨⟨⟨⟨h1, h2⟩, h3⟩, h4⟩, h5⟩, h6⟩, h7⟩ := h
    subst h1
    exact both G rfl (comp_snd (scIn_spec h2) rfl h5 h4 (sndIt G hc hn it sc ns _ h3) (sndE G hc hn elt _ _ _ h6).1 (sndEs G hc hn cs _ _ _ h7))
  | .listOf a, sc, ns, e, h => by
    replace h := ifCall.spec h
    obtain ⟨g, xs, ks, p, rfl, h⟩ := h
    rw [Bool.and_eq_true] at h
    obtain rfl := List.isEmpty_iff.mp h.1
    replace h := ifName.spec h.2
    obtain ⟨x, q, rfl, h⟩ := h
    simp only [Bool.and_eq_true] at h
    obtain ⟨⟨h1, h2⟩, h⟩ := h
    replace h := if1.spec h
    obtain ⟨e, rfl, h⟩ := h
    obtain rfl := eq_of_beq h1
    exact both G rfl (listOf_snd G h2 h (sndE G hc hn a sc ns e h).1)
  | .listR a, sc, ns, e, h => by
    replace h := ifCall.spec h
    obtain ⟨g, xs, ks, p, rfl, h⟩ := h
    rw [Bool.and_eq_true] at h
    obtain rfl := List.isEmpty_iff.mp h.1
    replace h := ifName.spec h.2
    obtain ⟨x, q, rfl, h⟩ := h
    simp only [Bool.and_eq_true] at h
    obtain ⟨⟨h1, h2⟩, h⟩ := h
    replace h := if1.spec h
    obtain ⟨e, rfl, h⟩ := h
    obtain rfl := eq_of_beq h1
    replace h := ifCall.spec h
    obtain ⟨g, xs, ks, p, rfl, h⟩ := h
    rw [Bool.and_eq_true] at h
    obtain rfl := List.isEmpty_iff.mp h.1
    replace h := ifName.spec h.2
    obtain ⟨x, q, rfl, h⟩ := h
    simp only [Bool.and_eq_true] at h
    obtain ⟨⟨h3, h4⟩, h⟩ := h
    replace h := if1.spec h
    obtain ⟨e, rfl, h⟩ := h
    obtain rfl := eq_of_beq h3
    exact both G rfl (listR_snd G h2 h4 h (sndE G hc hn a sc ns e h).1)
  | .dct0, sc, ns, e, h => by
    replace h := ifDict.spec h
    obtain ⟨ks, vs, p, rfl, h⟩ := h
    rw [Bool.and_eq_true] at h
    obtain rfl := List.isEmpty_iff.mp h.1
    obtain rfl := List.isEmpty_iff.mp h.2
    exact both G rfl (dct0_snd G)
  | .dct1 a b, sc, ns, e, h => by
    replace h := ifDict.spec h
    obtain ⟨ks, vs, p, rfl, h⟩ := h
    replace h := if1.spec h
    obtain ⟨k, rfl, h⟩ := h
    replace h := ifSome.spec h
    obtain ⟨k, rfl, h⟩ := h
    replace h := if1.spec h
    obtain ⟨v, rfl, h⟩ := h
    rw [Bool.and_eq_true] at h
    exact both G rfl (dct1_snd G (sndE G hc hn a sc ns k h.1).1 (sndE G hc hn b sc ns v h.2).1)
  | .sortK a i, sc, ns, e, h => by
    replace h := ifCall.spec h
    obtain ⟨g, xs, ks, p, rfl, h⟩ := h
    replace h := ifName.spec h
    obtain ⟨x, q, rfl, h⟩ := h
    simp only [Bool.and_eq_true] at h
    obtain ⟨⟨⟨h1, h3⟩, h6⟩, h⟩ := h
    replace h := if1.spec h
    obtain ⟨e, rfl, h⟩ := h
    replace h := if1.spec h
    obtain ⟨kw, rfl, h⟩ := h
    replace h := ifKw.spec h
    obtain ⟨y, v, kp, rfl, h⟩ := h
    simp only [Bool.and_eq_true] at h
    obtain ⟨⟨h2, h4⟩, h5⟩ := h
    obtain rfl := eq_of_beq h1
    obtain rfl := eq_of_beq h2
    exact both G rfl (sortK_snd G hn h3 h6 h4 (sndE G hc hn a sc ns _ h4).1 (fun cs p h => scIn_spec h) h5)
  | .gk j, sc, ns, e, h => by
    replace h := ifName.spec h
    obtain ⟨x, p, rfl, h⟩ := h
    simp only [Bool.and_eq_true, decide_eq_true_eq] at h
    exact both G rfl (gk_snd G h.1 h.2)
theorem sndEs (G : X.Gl C) (hc : X.CallOk C n) (hn : 0 < n) : ∀ (cs : List E) (sc : Scope) (ns : List Str) (es : List Expr), chkEs X.K sc ns cs es = true → LsS X C n sc ns cs es
  | [], sc, ns, es, h => by
    obtain rfl := List.isEmpty_iff.mp h
    exact .nil
  | c :: cs, sc, ns, es, h => by
    replace h := ifCons.spec h
    obtain ⟨e, es, rfl, h⟩ := h
    rw [Bool.and_eq_true] at h
    exact .cons G h.1 (chkEs_len h.2) (sndE G hc hn c sc ns e h.1) (sndEs G hc hn cs sc ns es h.2)
theorem sndO (G : X.Gl C) (hc : X.CallOk C n) (hn : 0 < n) : ∀ (lo : Option E) (sc : Scope) (ns : List Str) (l : Option Expr), chkO X.K sc ns lo l = true → ∀ c e, lo = some c → l = some e → EvS X C n sc ns c e
  | none, _, _, _, _, _, _, h, _ => by cases h
  | some c, sc, ns, l, h, c', e, h1, h2 => by
    cases h1
    subst h2
    exact (sndE G hc hn c sc ns e h).1
theorem sndIt (G : X.Gl C) (hc : X.CallOk C n) (hn : 0 < n) : ∀ (it : It) (sc : Scope) (ns : List Str) (e : Expr), chkIt X.K sc ns it e = true → ItS X C n sc ns it e
  | .of c, sc, ns, e, h => of_its G h (sndE G hc hn c sc ns e h).1
  | .range a b, sc, ns, e, h => by
    replace h := ifCall.spec h
    obtain ⟨g, xs, ks, p, rfl, h⟩ := h
    rw [Bool.and_eq_true] at h
    obtain rfl := List.isEmpty_iff.mp h.1
    replace h := ifName.spec h.2
    obtain ⟨x, q, rfl, h⟩ := h
    simp only [Bool.and_eq_true, Bool.or_eq_true] at h
    obtain ⟨⟨h1, h2⟩, h⟩ := h
    obtain rfl := eq_of_beq h1
    rcases h with h | h
    · replace h := if1.spec h
      obtain ⟨e, rfl, h⟩ := h
      rw [Bool.and_eq_true] at h
      obtain rfl := isZeroE.spec h.1
      exact range1_its G h2 h.2 (sndE G hc hn _ sc ns _ h.2).1
    · replace h := if2.spec h
      obtain ⟨e1, e2, rfl, h⟩ := h
      rw [Bool.and_eq_true] at h
      exact range2_its G h2 h.1 h.2 (sndE G hc hn _ sc ns _ h.1).1 (sndE G hc hn _ sc ns _ h.2).1
  | .enum c, sc, ns, e, h => by
    replace h := ifCall.spec h
    obtain ⟨g, xs, ks, p, rfl, h⟩ := h
    rw [Bool.and_eq_true] at h
    obtain rfl := List.isEmpty_iff.mp h.1
    replace h := ifName.spec h.2
    obtain ⟨x, q, rfl, h⟩ := h
    simp only [Bool.and_eq_true] at h
    obtain ⟨⟨h1, h2⟩, h⟩ := h
    obtain rfl := eq_of_beq h1
    replace h := if1.spec h
    obtain ⟨e, rfl, h⟩ := h
    exact enum_its G h2 h (sndE G hc hn _ sc ns _ h).1
  | .zip a b, sc, ns, e, h => by
    replace h := ifCall.spec h
    obtain ⟨g, xs, ks, p, rfl, h⟩ := h
    rw [Bool.and_eq_true] at h
    obtain rfl := List.isEmpty_iff.mp h.1
    replace h := ifName.spec h.2
    obtain ⟨x, q, rfl, h⟩ := h
    simp only [Bool.and_eq_true] at h
    obtain ⟨⟨h1, h2⟩, h⟩ := h
    obtain rfl := eq_of_beq h1
    replace h := if2.spec h
    obtain ⟨e1, e2, rfl, h⟩ := h
    rw [Bool.and_eq_true] at h
    exact zip_its G h2 h.1 h.2 (sndE G hc hn _ sc ns _ h.1).1 (sndE G hc hn _ sc ns _ h.2).1
end
end
end Mine

end
section
set_option autoImplicit false
set_option linter.unusedVariables false
set_option linter.unusedSimpArgs false
set_option maxRecDepth 100000
namespace Mine
open PySem PySem.Calls PyProof.Rows

section
variable {X : Fix} {C : Ctx} {A : Around} {n : Nat} {Ex : Value → Shared → Prop} {s : Shared} {φ : List Addr} {H : Hp} {sc : Scope} {ns : List Str} {env : Env} {ρ : Env'} {own : List Addr}

theorem noSwap {x : Expr} {o : Option Expr} (h : notComp x = true) (line : Nat) : swapsWith x o line env = pure false := by
  cases x <;> first | rfl | cases h
theorem tgt_of {t : Tgt} {tg : Expr} (h : chkT sc ns t tg = true) : tg.ctorIdx = 23 ∨ tg.ctorIdx = 25 := by
  cases t with
  | var i => exact .inl (got h)
  | tup ts => exact .inr (got h)
theorem each_of {t : Tgt} {tg : Expr} (h : chkT sc ns t tg = true) : assignEach [tg] env = [(false, assign tg env)] := by
  rcases tgt_of h with h | h
  · exact Expr.Name.elim (motive_1 := fun tg => assignEach [tg] env = [(false, assign tg env)]) tg h fun _ _ => rfl
  · exact Expr.Tuple.elim (motive_1 := fun tg => assignEach [tg] env = [(false, assign tg env)]) tg h fun _ _ _ => rfl

theorem expr_snd {e : E} {x : Expr} {pos : Pos} (hn : notComp x = true) (he : EvS X C n sc ns e x) : SS X C n sc ns (.expr e) (.Expr x pos) := by
  intro A env own ρ φ H s Q Ex rm kd hown F R p
  change WE C e ρ H (fun _ H => PostO X.W env ns own φ s Q (.next ρ H)) at p
  refine wpAny_Expr_any (he A env ρ φ H s _ Ex rm kd F R (WE_mono p fun v H1 p1 => ?_)) F.gen.2.2 (noSwap hn _)
  exact fun φ1 h1 tk x R1 S1 r1 => p1 φ1 h1 tk R1 (F.mono0 S1) S1.nil

/-- an assignment whose value is no comprehension -/
theorem asgS_snd {t : Tgt} {e : E} {tg x : Expr} {pos : Pos} (hn : notComp x = true) (ht : chkT sc ns t tg = true) (hx : noPair tg x = true) (he : EvS X C n sc ns e x) : SS X C n sc ns (.asg t e) (.Assign [tg] x pos) := by
  intro A env own ρ φ H s Q Ex rm kd hown F R p
  change WE C e ρ H (fun v H => wSome (asg t v ρ) fun ρ' => PostO X.W env ns own φ s Q (.next ρ' H)) at p
  have fin : ∀ v ρ' H1 φ1 h1 tk y, asg t v ρ = some ρ' → SR X.W φ1 H1 h1 → Stp [] φ s.heap φ1 h1 → Rep X.W.scr φ1 h1 v y → PostO X.W env ns own φ s Q (.next ρ' H1) → wpAny X.M A (assign tg env y) (fun _ => Q .next) Ex { s with heap := h1, toks := tk } := by
    intro v ρ' H1 φ1 h1 tk y ha R1 S1 r1 p1
    refine asg_snd (own := own) t tg v y A ρ ρ' φ1 H1 { s with heap := h1, toks := tk } _ _ ht (fun x hx => hown.1 x (tNames_sub t tg ht x hx)) rm (F.mono0 S1) R1 r1 ha fun h2 tk2 R2 F2 S2 => ?_
    exact p1 φ1 h2 tk2 R2 F2 (S1.nil.trans S2)
  refine wpAny_Assign_stores (he A env ρ φ H s _ Ex rm kd F R (WE_mono p fun v H1 p => ?_)) (noSwap hn _) ?_
  · intro φ1 h1 tk y R1 S1 r1
    obtain ⟨ρ', ha, p1⟩ := wSome_ex p
    rw [each_of ht]
    exact fin v ρ' H1 φ1 h1 tk y ha R1 S1 r1 p1
  · cases tg <;> first | rfl | (cases t <;> exact Bool.noConfusion ht) | skip
    cases x <;> first | rfl | cases hx

theorem ret_snd {e : E} {x : Expr} {pos : Pos} (he : EvS X C n sc ns e x) : SS X C n sc ns (.ret e) (.Return (some x) pos) := by
  intro A env own ρ φ H s Q Ex rm kd hown F R p
  change WE C e ρ H (fun v H => PostO X.W env ns own φ s Q (.ret v H)) at p
  refine wpAny_Return_some (he A env ρ φ H s _ Ex rm kd F R (WE_mono p fun v H1 p1 => ?_))
  exact fun φ1 h1 tk x R1 S1 r1 => p1 φ1 h1 tk x R1 S1.nil r1

theorem if_snd {c : E} {a b : List S} {t : Expr} {x y : List Stmt} {pos : Pos} (hc : TrS X C n sc ns c t) (ha : SsS X C n sc ns a x) (hb : SsS X C n sc ns b y) : SS X C n sc ns (.ife c a b) (.If t x y pos) := by
  intro A env own ρ φ H s Q Ex rm kd hown F R p
  change WTr C c ρ H (fun t H => wIf t (WSs C a ρ H (PostO X.W env ns own φ s Q)) (WSs C b ρ H (PostO X.W env ns own φ s Q))) at p
  refine wpAny_If (hc A env ρ φ H s _ Ex rm kd F R (mnTr C c ρ H _ _ (fun v H1 p1 => ?_) p))
  intro φ1 h1 tk R1 S1
  cases v with
  | true => exact ha A env own ρ φ1 H1 { s with heap := h1, toks := tk } _ Ex rm kd hown (F.mono0 S1) R1 (WSs_mono p1 fun _ p => p.step S1.nil)
  | false => exact hb A env own ρ φ1 H1 { s with heap := h1, toks := tk } _ Ex rm kd hown (F.mono0 S1) R1 (WSs_mono p1 fun _ p => p.step S1.nil)

/-- what holds between two turns of a while loop -/
inductive WTurn (X : Fix) (C : Ctx) (s : Shared) (φ : List Addr) (env : Env) (ns : List Str) (own : List Addr) (c : E) (b : List S) (Q : Flow → Shared → Prop) (k : Nat) (s' : Shared) : Prop
  | mk (ρ' : Env') (H' : Hp) (φ' : List Addr) (h' : Heap) (tk : Nat) (e1 : s' = { s with heap := h', toks := tk }) (F : FR X.W env ns ρ' φ' h') (R : SR X.W φ' H' h') (S : Stp own φ s.heap φ' h')
    (p : whileW (fun ρ H Q => WTr C c ρ H Q) (fun ρ H K => WSs C b ρ H K) k ρ' H' (PostO X.W env ns own φ s Q)) : WTurn X C s φ env ns own c b Q k s'

theorem while_snd {c : E} {b : List S} {t : Expr} {y : List Stmt} {pos : Pos} (hc : TrS X C n sc ns c t) (hb : SsS X C n sc ns b y) : SS X C n sc ns (.while c b) (.While t y [] pos) := by
  intro A env own ρ φ H s Q Ex rm kd hown F R p
  refine wpAny_While (codeAny_whileLoop (WTurn X C s φ env ns own c b Q) ?_ _ ⟨ρ, H, φ, s.heap, s.toks, rfl, F, R, .refl, p⟩)
  rintro k s' ⟨ρ', H', φ', h', tk, rfl, F', R', S', p'⟩
  cases k with
  | zero => exact p'.elim
  | succ k =>
    refine hc A env ρ' φ' H' { s with heap := h', toks := tk } _ _ rm kd F' R' (mnTr C c ρ' H' _ _ (fun v H1 p' => ?_) p')
    intro φ1 h1 tk1 R1 S1
    have F1 := F'.mono0 S1
    have S2 : Stp own φ s.heap φ1 h1 := S'.trans S1.nil
    cases v with
    | false => exact wpAny_execs_nil (p' φ1 h1 tk1 R1 F1 S2)
    | true =>
      refine hb A env own ρ' φ1 H1 { s with heap := h1, toks := tk1 } _ _ rm kd hown F1 R1 (WSs_mono p' fun o p' => ?_)
      cases o with
      | next ρ2 H2 => exact fun φ2 h2 tk2 R2 F2 S3 => ⟨k, Nat.lt_succ_self _, ρ2, H2, φ2, h2, tk2, rfl, F2, R2, S2.trans S3, p'⟩
      | ret v2 H2 => exact fun φ2 h2 tk2 x R2 S3 r3 => p' φ2 h2 tk2 x R2 (S2.trans S3) r3

theorem ss_nil : SsS X C n sc ns [] [] := by
  intro A env own ρ φ H s Q Ex rm kd hown F R p
  exact wpAny_execs_nil (p φ s.heap s.toks R F .refl)
theorem ss_cons {c : S} {cs : List S} {st : Stmt} {ss : List Stmt} (h1 : SS X C n sc ns c st) (h2 : SsS X C n sc ns cs ss) : SsS X C n sc ns (c :: cs) (st :: ss) := by
  intro A env own ρ φ H s Q Ex rm kd hown F R p
  refine wpAny_execs_cons (h1 A env own ρ φ H s _ Ex rm kd hown F R (WS_mono p fun o p => ?_))
  cases o with
  | next ρ2 H2 => exact fun φ2 h2' tk2 R2 F2 S3 => h2 A env own ρ2 φ2 H2 { s with heap := h2', toks := tk2 } Q Ex rm kd hown F2 R2 (WSs_mono p fun _ p => p.step S3)
  | ret v2 H2 => exact p

theorem setAt_own {prog : Program} {w : World} {A : Around} {E : Value → Shared → Prop} {s : Shared} {l : Addr} {xs : List Value} {n : Nat} {k : Int} {t : Tok} {v : Value} {Q : Unit → Shared → Prop} (ho : s.heap.get? l = some (lstObj xs n)) (h0 : 0 ≤ k) (hfit : k < 2 ^ 63) (hn : k < xs.toArray.size)
    (hQ : Q () { s with heap := s.heap.update l (Obj.mapSeq (·.setIfInBounds k.toNat v)) }) : wpAny (model prog w) A (setItem (.ref l) (.int k t) v) Q E s := by
  have hl : s.heap.IsList l xs.toArray := isList_of ho
  unfold setItem
  refine wpAny_holding (wpAny_bind (wpAny_sequenceKey hl.typeIs (by decide) (wpAny_bind (wpAny_callSpecial?_slot (name := Str.ofString "__setitem__") hl.typeIs PySem.slot_list_setitem
    (wpAny_call_entry PySem.slot_list_setitem hl.typeIs PySem.entry_list_setitem ?_ (PySem.args_list_setitem _ _ _))))))
  show wpAny _ _ (Builtin.List.listSubscript? (.int k t) >>= _) _ _ s
  refine wpAny_bind (wpAny_listSubscript_int (fitsIndex_of h0 hfit) ?_)
  clear hfit
  obtain ⟨j, rfl⟩ := Int.eq_ofNat_of_zero_le h0
  have hj : j < xs.toArray.size := by (first | lia | omega)
  show wpAny _ _ ((seqItemAt l j >>= fun r => pure (r.map (j, ·))) >>= _) _ _ s
  refine wpAny_bind (wpAny_bind (wpAny_seqItemAt ho rfl (wpAny_pure ?_)))
  rw [Array.getElem?_eq_getElem hj]
  show wpAny _ _ (setSeqItemAt l j v >>= _) _ _ s
  refine wpAny_bind (wpAny_setSeqItemAt ho rfl ?_)
  first
    | exact wpAny_bind (wpAny_pure (wpAny_pure ⟨.none, rfl, wpAny_pure hQ⟩))
    | exact wpAny_pure ⟨.none, rfl, wpAny_pure hQ⟩
theorem setIdx_snd {a i e : E} {o j x : Expr} {sp pos : Pos} (G : X.Gl C) (hn : notComp x = true) (ha : EvS X C n sc ns a o) (hi : EvS X C n sc ns i j) (he : EvS X C n sc ns e x) : SS X C n sc ns (.setIdx a i e) (.Assign [.Subscript o j sp] x pos) := by
  intro A env own ρ φ H s Q Ex rm kd hown F R p
  change WE C e ρ H (fun v H => WE C a ρ H fun x H => WE C i ρ H fun k H => wSome (setIdxV x k v H) fun H' => PostO X.W env ns own φ s Q (.next ρ H')) at p
  refine wpAny_Assign_Subscript (he A env ρ φ H s _ Ex rm kd F R (WE_mono p fun v H1 p1 => ?_)) (noSwap hn _)
  intro φ1 h1 tk1 y R1 S1 r1
  refine ha A env ρ φ1 H1 { s with heap := h1, toks := tk1 } _ Ex rm kd (F.mono0 S1) R1 (WE_mono p1 fun u H2 p2 => ?_)
  intro φ2 h2 tk2 z R2 S2 r2
  refine hi A env ρ φ2 H2 { s with heap := h2, toks := tk2 } _ Ex rm kd ((F.mono0 S1).mono0 S2) R2 (WE_mono p2 fun k H3 p3 => ?_)
  intro φ3 h3 tk3 kx R3 S3 r3
  have F3 := ((F.mono0 S1).mono0 S2).mono0 S3
  have ru := r2.mono S3
  have rv := (r1.mono S2).mono S3
  obtain ⟨H4, hs, p4⟩ := wSome_ex p3
  clear p3
  replace hs := ofInt_ok hs
  obtain ⟨k', rfl, hs⟩ := hs
  cases r3
  rename_i t
  cases u with
  | ref l =>
    dsimp only at hs
    split at hs
    · rename_i xs hl
      split at hs
      · rename_i hk
        cases hs
        obtain ⟨ad, ys, m, rfl, had, q1, q2, q3⟩ := listAt (s := { s with heap := h3, toks := tk3 }) R3 ru hl
        have hlen := q2.length
        refine setAt_own (s := { s with heap := h3, toks := tk3 }) (n := m) q1 hk.1 (by (first | lia | omega)) (by rw [List.size_toArray, ← hlen]; exact hk.2) ?_
        have he4 : (h3.update ad (Obj.mapSeq (·.setIfInBounds k'.toNat y))).get? ad = some (lstObj (ys.set k'.toNat y) m) := by
          rw [Heap.get?_update_self _ q1 rfl]
          simp [Obj.mapSeq]
        obtain ⟨R4, S4⟩ := setList (s := { s with heap := h3, toks := tk3 }) (vs := xs) (k' := m) R3 had q1 (Heap.SameBut.update ..).extBut he4 (q2.set k'.toNat rv) (by simpa using q3)
        exact p4 φ3 _ tk3 R4 (F3.mono0 S4) (((S1.trans S2).trans S3).trans S4).nil
      · cases hs
    · rename_i es hl
      split at hs
      · rename_i hk
        cases hs
        have hz : es.length < 16000000 := by simpa [szOk] using hk
        obtain ⟨ad, kvs, rfl, had, g1, g2, g3, g4⟩ := dictAt (s := { s with heap := h3, toks := tk3 }) G R3 ru hl
        have hlen := g3.length
        refine wpAny_setItem_pairs (s := { s with heap := h3, toks := tk3 }) (knd := intKind X.prog X.w) (k := k') (by simp [intKind, Value.isInt]) g2 (fun h4 hm4 hs4 => ?_) (by unfold sizeLine; (first | lia | omega))
        have hl4 : (dput es k' v).length ≤ 16000000 := by
          unfold dput
          split
          · rw [List.length_map]; (first | lia | omega)
          · rw [List.length_append, List.length_singleton]; (first | lia | omega)
        obtain ⟨R4, S4⟩ := setDict (s := { s with heap := h3, toks := tk3 }) G R3 had g1 g2 hs4.extBut hm4 (g3.stored k' rv) hl4
        exact p4 φ3 _ _ R4 (F3.mono0 S4) (((S1.trans S2).trans S3).trans S4).nil
      · cases hs
    · cases hs
  | _ => cases hs
end
end Mine

end
section
set_option autoImplicit false
set_option linter.unusedVariables false
set_option linter.unusedSimpArgs false
namespace Mine
open PySem PySem.Calls PyProof.Rows

section
variable {X : Fix} {C : Ctx} {n : Nat}
theorem asgC_snd (G : X.Gl C) (hc : X.CallOk C n) (hn : 0 < n) {sc : Scope} {ns : List Str} {u : Tgt} {e : E} {tg x : Expr} {pos : Pos} (hnm : isNameE tg = true) (he : isCompE e = true) (hu : chkT sc ns u tg = true) (h : chkE X.K sc ns e x = true) : SS X C n sc ns (.asg u e) (.Assign [tg] x pos) := by
  refine Expr.Name.elim (motive_1 := fun tg => chkT sc ns u tg = true → SS X C n sc ns (.asg u e) (.Assign [tg] x pos)) tg (of_decide_eq_true hnm) (fun y py hu => ?_) hu
  refine E.comp.elim (motive_1 := fun e => chkE X.K sc ns e x = true → SS X C n sc ns (.asg u e) (.Assign [.Name y py] x pos)) e (of_decide_eq_true he) (fun nl elt t it cs k => ?_) h
  clear h
  replace k := ifComp.spec k
  obtain ⟨x, gs, cs', p, rfl, k⟩ := k
  replace k := if1.spec k
  obtain ⟨g, rfl, k⟩ := k
  replace k := ifGen.spec k
  obtain ⟨tg, iter, ifs, rfl, k⟩ := k
  simp only [Bool.and_eq_true, decide_eq_true_eq] at k
  obtain ⟨⟨⟨⟨⟨⟨h1, h2⟩, h3⟩, h4⟩, h5⟩, h6⟩, h7⟩ := k
  subst h1
  exact asgComp_snd (scIn_spec h2) rfl h5 h4 (sndIt G hc hn _ sc ns _ h3) (sndE G hc hn _ _ _ _ h6).1 (sndEs G hc hn _ _ _ _ h7) hu
mutual
theorem sndS (G : X.Gl C) (hc : X.CallOk C n) (hn : 0 < n) : ∀ (c : S) (sc : Scope) (ns : List Str) (st : Stmt), chkS X.K sc ns c st = true → SS X C n sc ns c st
  | .expr e, sc, ns, st, h => by
    replace h := isExprS.spec h
    obtain ⟨x, p, rfl, h⟩ := h
    rw [Bool.and_eq_true] at h
    exact expr_snd h.2 (sndE G hc hn e sc ns _ h.1).1
  | .asg t e, sc, ns, st, h => by
    replace h := isAssign.spec h
    obtain ⟨ts, x, pos, rfl, h⟩ := h
    replace h := if1.spec h
    obtain ⟨tg, rfl, h⟩ := h
    simp only [Bool.and_eq_true, Bool.or_eq_true] at h
    obtain ⟨⟨⟨h1, h2⟩, h3⟩, h4⟩ := h
    rcases h3 with h3 | h3
    · exact asgC_snd G hc hn h3.1 h3.2 h1 h2
    · exact asgS_snd h3 h1 h4 (sndE G hc hn e sc ns _ h2).1
  | .setIdx a i e, sc, ns, st, h => by
    replace h := isAssign.spec h
    obtain ⟨ts, x, pos, rfl, h⟩ := h
    replace h := if1.spec h
    obtain ⟨tg, rfl, h⟩ := h
    replace h := ifSub.spec h
    obtain ⟨o, j, p, rfl, h⟩ := h
    simp only [Bool.and_eq_true] at h
    exact setIdx_snd G h.2 (sndE G hc hn a sc ns _ h.1.1.1).1 (sndE G hc hn i sc ns _ h.1.1.2).1 (sndE G hc hn e sc ns _ h.1.2).1
  | .ret e, sc, ns, st, h => by
    replace h := isReturn.spec h
    obtain ⟨x, p, rfl, h⟩ := h
    replace h := ifSome.spec h
    obtain ⟨x, rfl, h⟩ := h
    exact ret_snd (sndE G hc hn e sc ns _ h).1
  | .ife c a b, sc, ns, st, h => by
    replace h := isIf.spec h
    obtain ⟨t, x, y, p, rfl, h⟩ := h
    simp only [Bool.and_eq_true] at h
    exact if_snd (sndE G hc hn c sc ns _ h.1.1).2 (sndSs G hc hn a sc ns _ h.1.2) (sndSs G hc hn b sc ns _ h.2)
  | .for t it body, sc, ns, st, h => by
    replace h := isFor.spec h
    obtain ⟨tg, iter, b, o, p, rfl, h⟩ := h
    simp only [Bool.and_eq_true] at h
    obtain rfl := List.isEmpty_iff.mp h.1.1.1.1
    exact for_snd h.1.1.1.2 h.1.1.2 (sndIt G hc hn it sc ns _ h.1.2) (sndSs G hc hn body sc ns _ h.2)
  | .while c body, sc, ns, st, h => by
    replace h := isWhile.spec h
    obtain ⟨t, b, o, p, rfl, h⟩ := h
    simp only [Bool.and_eq_true] at h
    obtain rfl := List.isEmpty_iff.mp h.1.1
    exact while_snd (sndE G hc hn c sc ns _ h.1.2).2 (sndSs G hc hn body sc ns _ h.2)
theorem sndSs (G : X.Gl C) (hc : X.CallOk C n) (hn : 0 < n) : ∀ (cs : List S) (sc : Scope) (ns : List Str) (ss : List Stmt), chkSs X.K sc ns cs ss = true → SsS X C n sc ns cs ss
  | [], sc, ns, ss, h => by
    obtain rfl := List.isEmpty_iff.mp h
    exact ss_nil
  | c :: cs, sc, ns, ss, h => by
    replace h := ifCons.spec h
    obtain ⟨st, ss, rfl, h⟩ := h
    rw [Bool.and_eq_true] at h
    exact ss_cons (sndS G hc hn c sc ns st h.1) (sndSs G hc hn cs sc ns ss h.2)
end
end
end Mine

end
section
set_option autoImplicit false
set_option linter.unusedVariables false
set_option linter.unusedSimpArgs false
namespace Mine
open PySem PySem.Calls PyProof.Rows

theorem cellsFrom_some' : ∀ (names : List (Str × NameKind)) (k : Nat) (acc : List (Str × Addr)) (x : Str), names.lookup x = some .cell ∨ (acc.lookup x).isSome = true → ((cellsFrom k names acc).lookup x).isSome = true
  | [], _, _, _, h => h.elim (fun e => by cases e) id
  | (y, kd) :: r, k, acc, x, h => by
    unfold cellsFrom
    rw [List.lookup_cons] at h
    by_cases hk : (kd == NameKind.cell) = true
    · rw [if_pos hk]
      refine cellsFrom_some' r (k + 1) _ x ?_
      by_cases hy : (x == y) = true
      · exact .inr (by rw [List.lookup_cons, hy]; rfl)
      · have hy' : (x == y) = false := by simpa using hy
        rw [hy'] at h
        rw [List.lookup_cons, hy']
        exact h
    · rw [if_neg hk]
      refine cellsFrom_some' r k acc x ?_
      by_cases hy : (x == y) = true
      · rw [hy] at h
        refine .inr (h.elim (fun e => ?_) id)
        exact absurd (by rw [Option.some.inj e]; rfl) hk
      · have hy' : (x == y) = false := by simpa using hy
        rw [hy'] at h
        exact h

theorem cellsFrom_nodup : ∀ (names : List (Str × NameKind)) (k : Nat) (acc : List (Str × Addr)), (names.map (·.1)).Nodup → (acc.map (·.1)).Nodup → (∀ p ∈ names, ∀ q ∈ acc, p.1 ≠ q.1) → ((cellsFrom k names acc).map (·.1)).Nodup
  | [], _, acc, _, h, _ => h
  | (y, kd) :: r, k, acc, h1, h2, h3 => by
    rw [List.map_cons, List.nodup_cons] at h1
    unfold cellsFrom
    split
    · refine cellsFrom_nodup r (k + 1) _ h1.2 ?_ ?_
      · rw [List.map_cons, List.nodup_cons]
        refine ⟨fun hm => ?_, h2⟩
        obtain ⟨q, hq, e⟩ := List.mem_map.mp hm
        exact h3 (y, kd) (.head _) q hq e.symm
      · intro p hp q hq
        rcases List.mem_cons.mp hq with rfl | hq
        · intro e
          exact h1.1 (e ▸ List.mem_map.mpr ⟨p, hp, rfl⟩)
        · exact h3 p (.tail _ hp) q hq
    · exact cellsFrom_nodup r k _ h1.2 h2 fun p hp q hq => h3 p (.tail _ hp) q hq

theorem lookup_of_mem {x : Str} {c : Addr} : ∀ {l : List (Str × Addr)}, (l.map (·.1)).Nodup → (x, c) ∈ l → l.lookup x = some c
  | (y, d) :: r, hn, h => by
    rw [List.map_cons, List.nodup_cons] at hn
    rw [List.lookup_cons]
    rcases List.mem_cons.mp h with h | h
    · cases h; simp
    · have hne : ¬ (x == y) = true := fun e => hn.1 (by rw [← eq_of_beq e]; exact List.mem_map.mpr ⟨(x, c), h, rfl⟩)
      simp only [hne]
      exact lookup_of_mem hn.2 h

theorem bindL_eq (kf : Str → Option NameKind) : ∀ (binds : List (Str × Value)) (m : Str → Option Value) (x : Str), (binds.map (·.1)).Nodup → kf x = some .local → PySem.bindL kf binds m x = (match binds.lookup x with | some v => some v | none => m x)
  | [], m, x, _, _ => rfl
  | (y, v) :: r, m, x, hn, hk => by
    rw [List.map_cons, List.nodup_cons] at hn
    unfold PySem.bindL
    rw [bindL_eq kf r _ x hn.2 hk, List.lookup_cons]
    by_cases e : x = y
    · subst e
      have : r.lookup x = none := by
        cases hr : r.lookup x with
        | none => rfl
        | some u =>
          exfalso
          refine hn.1 ?_
          clear hn
          induction r with
          | nil => cases hr
          | cons p r ih =>
            obtain ⟨z, w⟩ := p
            rw [List.lookup_cons] at hr
            split at hr
            · rename_i e; rw [eq_of_beq e]; simp
            · exact List.mem_cons_of_mem _ (ih hr)
      rw [this]
      simp [hk]
    · have hne : (x == y) = false := by simpa using e
      rw [hne]
      dsimp only
      cases r.lookup x with
      | some u => rfl
      | none =>
        dsimp only
        split
        · simp [e]
        · rfl
theorem bindC_eq (kf : Str → Option NameKind) : ∀ (binds : List (Str × Value)) (m : Str → Option Value) (x : Str), (binds.map (·.1)).Nodup → kf x = some .cell → PySem.bindC kf binds m x = (match binds.lookup x with | some v => some v | none => m x)
  | [], m, x, _, _ => rfl
  | (y, v) :: r, m, x, hn, hk => by
    rw [List.map_cons, List.nodup_cons] at hn
    unfold PySem.bindC
    rw [bindC_eq kf r _ x hn.2 hk, List.lookup_cons]
    by_cases e : x = y
    · subst e
      have : r.lookup x = none := by
        cases hr : r.lookup x with
        | none => rfl
        | some u =>
          exfalso
          refine hn.1 ?_
          clear hn
          induction r with
          | nil => cases hr
          | cons p r ih =>
            obtain ⟨z, w⟩ := p
            rw [List.lookup_cons] at hr
            split at hr
            · rename_i e; rw [eq_of_beq e]; simp
            · exact List.mem_cons_of_mem _ (ih hr)
      rw [this]
      simp [hk]
    · have hne : (x == y) = false := by simpa using e
      rw [hne]
      dsimp only
      cases r.lookup x with
      | some u => rfl
      | none =>
        dsimp only
        split
        · rfl
        · simp [e]

theorem lookup_zip_mem {α : Type} : ∀ (ps : List Str) (xs : List α) (x : Str) (y : α), (ps.zip xs).lookup x = some y → x ∈ ps
  | [], _, _, _, h => by simp at h
  | p :: ps, [], _, _, h => by simp at h
  | p :: ps, w :: xs, x, y, h => by
    rw [List.zip_cons_cons, List.lookup_cons] at h
    split at h
    · rename_i e; rw [eq_of_beq e]; simp
    · exact List.mem_cons_of_mem _ (lookup_zip_mem ps xs x y h)

section
variable {X : Fix} {s : Shared} {φ : List Addr} {H : Hp}

/-- the arguments stand in the slots of the parameters -/
theorem args_rep {ns : List Str} {np nl : Nat} {vs : List V} {xs : List Value} {scr : Addr} {h : Heap} (hn : ns.Nodup) (hlen : ns.length = np + nl) (hv : vs.length = np) (r : RepL scr φ h vs xs) (x : Str) (hx : x ∈ ns) :
    OptRep scr φ h (lk ns (vs.map some ++ List.replicate nl none) x) (((ns.take np).zip xs).lookup x) := by
  obtain ⟨i, hi, rfl⟩ := List.getElem_of_mem hx
  have hidx : ns.idxOf ns[i] = i := by
    have h1 := List.idxOf_lt_length_of_mem hx
    exact nodup_inj hn h1 hi (by simp)
  unfold lk
  rw [hidx]
  by_cases hip : i < np
  · rw [List.getElem?_append_left (by simpa [hv] using hip)]
    have hvi : i < vs.length := by (first | lia | omega)
    have e1 : (vs.map some)[i]? = some (some vs[i]) := by simp [hvi]
    rw [e1]
    obtain ⟨y, hy, hr⟩ := r.get (i := i) (v := vs[i]) (by simp [hvi])
    have e2 : ((ns.take np).zip xs).lookup ns[i] = some y := lookup_zip (ns.take np) xs i ns[i] y (hn.sublist (List.take_sublist _ _)) (by rw [List.getElem?_take]; simp [hip]) hy
    rw [e2]
    exact .some hr
  · rw [List.getElem?_append_right (by simp [hv]; (first | lia | omega))]
    have e1 : ((List.replicate nl (none : Option V))[i - (vs.map some).length]?).join = none := by
      rw [List.getElem?_replicate]
      split <;> rfl
    rw [e1]
    have e2 : ((ns.take np).zip xs).lookup ns[i] = none := by
      cases hq : ((ns.take np).zip xs).lookup ns[i] with
      | none => rfl
      | some y =>
        exfalso
        have hm : ns[i] ∈ ns.take np := lookup_zip_mem _ _ _ _ hq
        obtain ⟨j, hj, e⟩ := List.getElem_of_mem hm
        have hj' : j < np := by have := hj; simp at this; (first | lia | omega)
        have : ns[j]'(by (first | lia | omega)) = ns[i] := by rw [← e]; simp
        have := nodup_inj hn (by (first | lia | omega)) hi this
        (first | lia | omega)
    rw [e2]
    exact .none

/-- room at a caller that may have no frame -/
structure RoomC (A : Around) (n : Nat) : Prop where
  depth : A.depth + n + 110 ≤ recursionLimit
  units : A.units + 5 * n + 200 ≤ cLine
  handled : A.handled = none
  frames : ∃ l, A.frames = some l
theorem Room.toC {A : Around} {n : Nat} (rm : Room A n) : RoomC A n := let ⟨fe, outer, e, _⟩ := rm.frames; ⟨rm.depth, rm.units, rm.handled, _, e⟩
theorem RoomC.deeper {A : Around} {n : Nat} {env : Env} (rm : RoomC A (n + 1)) (h1 : env.scope.isGenerator = false) (h2 : env.scope.isCoroutine = false) (h3 : env.builtins = builtinsNs) (h4 : env.globals = mainGlobals) : Room (A.deeper env) n := by
  obtain ⟨l, e⟩ := rm.frames
  refine ⟨?_, ?_, rm.handled, env, l, ?_, h1, h2, h3, h4⟩
  · have := rm.depth; show A.depth + 1 + n + 110 ≤ _; (first | lia | omega)
  · have := rm.units; show A.units + 3 + 5 * n + 200 ≤ _; (first | lia | omega)
  · show A.frames.map (env :: ·) = _; rw [e]; rfl

/-- a def of the text, called -/
theorem fn_snd {C' : Ctx} {n : Nat} {f : Fn} {d : Def} {ns : List Str} {A : Around} {a : Addr} {o : Obj} {pm cd doc : Value} {vs : List V} {xs : List Value} {Q Ex : Value → Shared → Prop} (G : X.Gl C') (hc : X.CallOk C' n) (hn : 0 < n) (rm : RoomC A (n + 1))
    (hck : chkFn X.K d ns f = true) (ho : X.W.h₀.get? a = some o) (hd : o.data = .func (docDef d.name d.params d.body d.scope pm cd doc)) (hcd : X.W.h₀.CodeRec cd d.name) (hlc : d.name = X.K.lfn → cd = .ref X.W.lc)
    (R : SR X.W φ H s.heap) (r : RepL X.W.scr φ s.heap vs xs) (hv : vs.length = f.np) (p : WSs C' f.body (vs.map some ++ List.replicate f.nl none) H (retK (PV X.W φ s Q))) : wpAny X.M A (call (.ref a) xs) Q Ex s := by
  simp only [chkFn, Bool.and_eq_true, decide_eq_true_eq, Bool.not_eq_true'] at hck
  obtain ⟨⟨⟨⟨⟨⟨⟨⟨⟨⟨⟨c1, c2⟩, c3⟩, c4⟩, c5⟩, c6⟩, c7⟩, c8⟩, c9⟩, c10⟩, c11⟩, c12⟩ := hck
  have hkind : d.scope.kind = .function := by
    revert c5
    cases d.scope.kind <;> simp
  have hps : (ns.take f.np).length = xs.length := by rw [List.length_take, ← r.length, hv, c3]; (first | lia | omega)
  have hnp : (ns.take f.np).Nodup := c4.sublist (List.take_sublist _ _)
  have hkn : ∀ x ∈ ns, d.scope.names.lookup x = some .local ∨ d.scope.names.lookup x = some .cell := by
    intro x hx
    have := List.all_eq_true.mp c10 x hx
    revert this
    cases d.scope.names.lookup x with
    | none => simp
    | some k => cases k <;> simp
  have hcells : ∀ (k : Nat) (x : Str), d.scope.names.lookup x = some .cell → ((cellsFrom k d.scope.names []).lookup x).isSome = true := fun k x hx => cellsFrom_some' _ _ _ _ (.inl hx)
  have hcn : ∀ k, ((cellsFrom k d.scope.names []).map (·.1)).Nodup := fun k => cellsFrom_nodup _ _ _ c8 (by simp) (by simp)
  refine wpAny_call (codeAny_call_cells (by have := rm.depth; (first | lia | omega)) (R.keep _ _ ho) hd (G.1.nolimit.keeps R.keep) (hcd.keeps R.keep) rfl (bindArgs_eq rfl rfl c2 hnp hps) rfl ?_ (fun s₁ hin => ?_) c7 c6 hkind)
  · intro x hx
    have hm : x.1 ∈ ns := List.mem_of_mem_take (List.of_mem_zip hx).1
    rcases hkn _ hm with h | h
    · exact .inl h
    · exact .inr ⟨h, hcells _ _ h⟩
  · generalize hfd : docDef d.name d.params d.body d.scope pm cd doc = fd at hin ⊢
    generalize henv : callEnvC fd s.heap.objs.size a = env at hin ⊢
    have eL : env.locals = s.heap.objs.size := by rw [← henv]; rfl
    have eS : env.scope = d.scope := by rw [← henv, ← hfd]; rfl
    have eC : env.cells = cellsFrom (s.heap.objs.size + 1) d.scope.names [] := by rw [← henv, ← hfd]; rfl
    have eG : env.globals = mainGlobals := by rw [← henv, ← hfd]; rfl
    have eB : env.builtins = builtinsNs := by rw [← henv, ← hfd]; rfl
    have eK : env.kindOf = fun x => d.scope.names.lookup x := by funext x; unfold Env.kindOf; rw [eS]
    obtain ⟨h₁, tk₁, hs₁⟩ := hin.toInCall.same
    have keep : ∀ b o, s.heap.get? b = some o → s₁.heap.get? b = some o := hin.toInCall.keep
    have S0 : Stp (env.locals :: env.cells.map (·.2)) φ s.heap φ s₁.heap := .ext keep
    have fresh : ∀ b : Nat, s.heap.objs.size ≤ b → s.heap.get? b = none ∧ b ∉ φ ∧ X.W.h₀.get? b = none := by
      intro b hb
      have h1 : s.heap.get? b = none := by
        cases e : s.heap.get? b with
        | none => rfl
        | some o => exact absurd (Heap.lt_size e) (Nat.not_lt.mpr hb)
      refine ⟨h1, fun hm => ?_, ?_⟩
      · obtain ⟨o, e, _⟩ := R.obj hm; rw [h1] at e; cases e
      · cases e : X.W.h₀.get? b with
        | none => rfl
        | some o => rw [R.keep _ _ e] at h1; cases h1
    have hnz : (((ns.take f.np).zip xs).map (·.1)).Nodup := by rw [List.map_fst_zip (by (first | lia | omega))]; exact hnp
    have hcm : ∀ (x : Str) (c : Nat), (x, c) ∈ env.cells → s.heap.objs.size < c := by
      intro x c hm
      have := hin.above x c hm
      rw [eL] at this
      exact this
    have rep1 := fun x hx => args_rep (np := f.np) (nl := f.nl) c4 c3 hv (r.mono (own := []) (.ext keep) : RepL X.W.scr φ s₁.heap vs xs) x hx
    have F : FR X.W env ns (vs.map some ++ List.replicate f.nl none) φ s₁.heap := by
      refine ⟨by rw [eS]; exact hkind, eG, eB, ⟨by rw [eS]; exact c6, by rw [eS]; exact c7, by unfold interactive; rw [eS, hkind]; rfl⟩, fun hm => ?_, by simp [hv, c3], ?_, ?_, ?_, ?_, ?_⟩
      · rw [eK] at hm
        simp only [Bool.or_eq_true, Bool.not_eq_true'] at c12
        rcases c12 with c12 | c12
        · exact absurd hm (by rw [c12]; exact Bool.false_ne_true)
        · have hnm := eq_of_beq c12
          refine ⟨?_, ?_⟩
          · rw [← henv, ← hfd]; exact hlc hnm
          · rw [← G.1.lam.2.2, ← hnm, ← henv, ← hfd]; rfl
      · refine ⟨_, hin.toInCall.ns, fun x hx hk => ?_⟩
        rw [bindL_eq _ _ _ _ hnz hk]
        have := rep1 x hx
        cases hq : ((ns.take f.np).zip xs).lookup x with
        | none => rw [hq] at this; exact this
        | some y => rw [hq] at this; exact this
      · rw [eL]
        exact ⟨(fresh _ (Nat.le_refl _)).2.1, (fresh _ (Nat.le_refl _)).2.2⟩
      · intro x hx hk
        have hk' : env.kindOf x = some .cell := by
          rcases hk with hk | hk
          · exact hk
          · rw [eK] at hk
            dsimp only at hk
            rcases hkn x hx with h | h <;> rw [h] at hk <;> cases hk
        have hlook : (env.cells.lookup x).isSome = true := by rw [eC]; exact hcells _ _ (by rw [eK] at hk'; exact hk')
        obtain ⟨c, hc'⟩ := Option.isSome_iff_exists.mp hlook
        have hlt := hcm x c (mem_of_lookup' hc')
        refine ⟨c, _, hc', (fresh c (Nat.le_of_lt hlt)).2.1, by rw [eL]; exact Nat.ne_of_gt hlt, (fresh c (Nat.le_of_lt hlt)).2.2, hin.cell x c hc', ?_⟩
        rw [bindC_eq _ _ _ _ hnz hk']
        have := rep1 x hx
        cases hq : ((ns.take f.np).zip xs).lookup x with
        | none => rw [hq] at this; exact this
        | some y => rw [hq] at this; exact this
      · intro x y c h1 h2
        exact name_of_addr hin.apart (mem_of_lookup' h1) (mem_of_lookup' h2)
      · rintro ⟨x, c⟩ hm
        have hlt := hcm x c hm
        have hl := lookup_of_mem (by rw [eC]; exact hcn _) hm
        obtain ⟨o, ho', _⟩ := hin.cell x c hl
        exact ⟨(fresh c (Nat.le_of_lt hlt)).2.1, o, ho'⟩
    have hown : OwnF env (env.locals :: env.cells.map (·.2)) ns := by
      refine ⟨fun x hx => ?_, fun b hb => ?_⟩
      · rcases hkn x hx with h | h
        · exact .inl ⟨by rw [eK]; exact h, .head _⟩
        · exact .inr ⟨by rw [eK]; exact h, fun c hc' => .tail _ (List.mem_map.mpr ⟨(x, c), mem_of_lookup' hc', rfl⟩)⟩
      · rcases List.mem_cons.mp hb with hb | hb
        · exact .inl hb
        · obtain ⟨q, hq, e⟩ := List.mem_map.mp hb; exact .inr ⟨q, hq, e⟩
    have drop : ∀ {φ' : List Addr} {h' : Heap}, Stp (env.locals :: env.cells.map (·.2)) φ s₁.heap φ' h' → Stp [] φ s.heap φ' h' := fun q => (S0.trans q).drop fun b hb _ => by
      rcases List.mem_cons.mp hb with rfl | hb
      · rw [eL]; exact size_none _
      · obtain ⟨⟨x, c⟩, hq, rfl⟩ := List.mem_map.mp hb
        exact (fresh c (Nat.le_of_lt (hcm x c hq))).1
    have rm' : Room (A.deeper env) n := rm.deeper (by rw [eS]; exact c6) (by rw [eS]; exact c7) eB eG
    have hss := sndSs G hc hn f.body d.scope ns d.body c11 (A.deeper env) env _ _ φ H s₁ (fun fl s' => Q (match fl with | .ret v => v | _ => .none) s') (fun e s' => wpAny X.M (A.deeper env) (leaving env e) (fun _ s'' => Ex e s'') (fun e' s'' => Ex e' s'') s') rm' (fun x => .inl (by rw [eK])) hown F (R.ext keep) (WSs_mono p fun o p => ?_)
    · exact wpAny_mono hss (fun fl s' q => by cases fl <;> exact q) (fun e s' q => q)
    · subst hs₁
      cases o with
      | next ρ2 H2 => exact fun φ2 h2 tk2 R2 F2 S2 => p φ2 h2 tk2 _ R2 (drop S2) .none
      | ret v2 H2 => exact fun φ2 h2 tk2 x R2 S2 r2 => p φ2 h2 tk2 _ R2 (drop S2) r2
end

theorem Room.less {A : Around} {n m : Nat} (rm : Room A n) (h : m ≤ n) : Room A m := ⟨by have := rm.depth; (first | lia | omega), by have := rm.units; (first | lia | omega), rm.handled, rm.frames⟩
theorem CallOk.more {X : Fix} {C : Ctx} {n m : Nat} (hc : X.CallOk C n) (h : n ≤ m) : X.CallOk C m := fun A f x a vs H φ s xs Q Ex rm => hc A f x a vs H φ s xs Q Ex (rm.less h)
/-- calls, whatever room is left -/
theorem callOk {X : Fix} {gks : List V} {fns : List Fn} {nss : List (List Str)} (hck : chkAll X.K X.defs nss fns = true) (G : ∀ n, X.Gl ⟨X.scr, gks, callW X.scr gks fns n⟩) : ∀ n, X.CallOk ⟨X.scr, gks, callW X.scr gks fns n⟩ (2 * n) := by
  intro n
  induction n with
  | zero =>
    intro A f x a vs H φ s xs Q Ex rm h1 h2 R r p
    obtain ⟨_, h, _⟩ := p
    exact h.elim
  | succ n ih =>
    intro A f x a vs H φ s xs Q Ex rm h1 h2 R r p
    obtain ⟨a', o, d, pm, cd, doc, e1, e2, e3, e4, e5, e6, e7⟩ := (G n).1.fn f x h1
    rw [h2] at e3; cases e3
    obtain ⟨Q₀, p, hq⟩ := p
    obtain ⟨fn, hf, hv, p⟩ := wSome_ex (o := fns[f]?) (f := fun d : Fn => (vs.length = d.np ∧ d.np ≠ 999) ∧ WSs ⟨X.scr, gks, callW X.scr gks fns n⟩ d.body (vs.map some ++ List.replicate d.nl none) H (retK Q₀)) p
    obtain ⟨ns, hc⟩ := chkAll_get hck e1 hf
    refine fn_snd (n := 2 * n + 1) (G n) (CallOk.more ih (by (first | lia | omega))) (by (first | lia | omega)) rm.toC (hc hv.2) e4 e5 e6 (fun h => e7 (e2.symm.trans h)) R r hv.1 (WSs_mono p fun o p => ?_)
    cases o with
    | next ρ2 H2 => exact hq _ _ p
    | ret v2 H2 => exact hq _ _ p
end Mine

end
section
set_option autoImplicit false
set_option linter.unusedVariables false
set_option linter.unusedSimpArgs false
namespace Mine
open PySem PySem.Calls PyProof.Rows PySem.W

noncomputable def defQ (d : DefRec) : Def := ⟨d.name, d.params, d.body, d.scope⟩
noncomputable def defsQ (q : Program) : List Def := (recsOf q).map defQ

/-- the names of the built-ins are the built-ins' own -/
noncomputable def biFree (q : Program) (loose : List Str) : Bool := biTable.all fun p => !startupNames.contains p.1 && !loose.contains p.1 && !((recsOf q).map (·.name)).contains p.1 && !((litsOf q).map (·.1)).contains p.1 && !((clssOf q loose).map (·.name)).contains p.1 &&
  !(p.1 == ("__name__" : Str)) && decide (bootBuiltins p.1 = some p.2)

theorem ints_rep {scr : Addr} {φ : List Addr} {h : Heap} : ∀ {vs : List Value} {ns : List Int}, IntsAre vs ns → RepL scr φ h (ns.map .int) vs := by
  intro vs ns hI
  induction hI with
  | nil => exact .nil
  | cons _ _ _ ih => exact .cons (.int _ _) ih

/-- what is not the table stays when the table is hidden -/
theorem hid_get {h : Heap} {P b : Addr} {o : Obj} (hP : h.get? P = some (tabObj #[])) (e : h.get? b = some o) (hn : o ≠ tabObj #[]) : (h.hide P).get? b = some o := by
  rw [Heap.hide_ne h fun q => hn ?_]
  · exact e
  · rw [q, hP] at e; exact (Option.some.inj e).symm
theorem hid_ns {h : Heap} {P a : Addr} {m : Str → Option Value} (hP : h.get? P = some (tabObj #[])) (x : h.Ns a m) : (h.hide P).Ns a m :=
  let ⟨o, es, ep, e, hd, r⟩ := x; ⟨o, es, ep, hid_get hP e (fun q => by rw [q] at hd; cases hd), hd, r⟩
theorem hid_code {h : Heap} {P : Addr} {cd : Value} {q : Str} (hP : h.get? P = some (tabObj #[])) (x : h.CodeRec cd q) : (h.hide P).CodeRec cd q := by
  obtain ⟨c, o, vs, t, e1, e2, e3, e4⟩ := x
  refine ⟨c, o, vs, t, e1, hid_get hP e2 (fun q => ?_), e3, e4⟩
  rw [q] at e3; cases e3; cases e4

/-- a whole law, by the interpreter's answer -/
theorem law_of {q prog : Program} {loose : List Str} {mean : ExcName → Option Value} {mg mb : Str → Option Value} {w : World} {s₁ : Shared} {K : CK} {fns : List Fn} {nss : List (List Str)} {gks : List V} {scr : Addr} {vs : List Value} {ns : List Int} {fa : Addr} {N lawIdx : Nat} {Q Ex : Value → Shared → Prop}
    (T : Top q loose mean mg mb s₁.heap) (hK : K.fns = (defsQ q).map (·.name)) (hck : chkAll K (defsQ q) nss fns = true) (hbi : biFree q loose = true) (himp : importsNone q = true) (htree : prog.given.tree = none)
    (hlfn : ((recsOf q).map (·.name)).contains K.lfn = true)
    (hgk : ∀ h : Heap, (∀ b o, s₁.heap.get? b = some o → o.cls ≠ .none → h.get? b = some o) → ∀ (j : Nat) (x : Str), K.gks[j]? = some x → ∃ v y, gks[j]? = some v ∧ mg x = some y ∧ Rep scr [] h v y)
    (hL : s₁.heap.IsList scr vs.toArray) (hI : IntsAre vs ns) (hlen : ns.length ≤ 63) (hN : N ≤ 280) (hlaw : K.fns[lawIdx]? = some (Str.ofString "law")) (hfa : mg "law" = some (.ref fa))
    (hrun : callW ns gks fns N lawIdx [.script] [.tab] fun v H => v = .bool true ∧ H[0]? = some .tab)
    (hQ : ∀ c P ps h' tk, s₁.heap.TableAt c P #[] → (∀ b o, b ≠ P → s₁.heap.get? b = some o → h'.get? b = some o) → h'.get? P = some (tabObj ps) → Q (.bool true) { s₁ with heap := h', toks := tk }) : wpAny (model prog w) callerA (call (.ref fa) [.ref scr]) Q Ex s₁ := by
  obtain ⟨lr, hlr, hlrn⟩ := List.mem_map.mp (List.contains_iff_mem.mp hlfn)
  obtain ⟨la, lo, lfd, lc, lP, t1, t2, t3, t4, t5, t6⟩ := T.tab lr hlr
  have hP : s₁.heap.get? lP = some (tabObj #[]) := t6.2
  have up : ∀ {b : Addr} {o : Obj}, (s₁.heap.hide lP).get? b = some o → s₁.heap.get? b = some o := fun e => Heap.of_hide e
  let W : Wo := ⟨s₁.heap.hide lP, scr, prog, w, lc, lP, K.ln, K.lm, (K.lfn ++ ".<locals>.") ++ "<lambda>"⟩
  let X : Fix := ⟨prog, w, W, K, defsQ q, ns, mg, mb⟩
  have hbi' := List.all_eq_true.mp hbi
  have G : ∀ n, X.Gl ⟨ns, gks, callW ns gks fns n⟩ := by
    intro n
    refine ⟨⟨hid_ns hP T.g, hid_ns hP T.b, fun p hp => ?_, fun f x hx => ?_, hgk _ fun b o e hc => hid_get hP e fun q => hc (by rw [q]), ?_, ?_, htree, ⟨vs, ?_, ints_rep hI⟩, by show ns.length ≤ 1000; (first | lia | omega), ?_, ⟨rfl, rfl⟩, ⟨rfl, rfl, rfl⟩, ?_, ?_, ?_⟩, rfl⟩
    · have h := hbi' p hp
      simp only [Bool.and_eq_true, Bool.not_eq_true', decide_eq_true_eq] at h
      obtain ⟨⟨⟨⟨⟨⟨h1, h2⟩, h3⟩, h4⟩, h5⟩, h6⟩, h7⟩ := h
      have nc : ∀ {l : List Str} {x : Str}, l.contains x = false → x ∉ l := fun h hm => by rw [List.contains_iff_mem.mpr hm] at h; cases h
      exact ⟨T.free p.1 (nc h1) (nc h2) (nc h3) (nc h4) (nc h5), (T.builtins p.1 (fun e => by rw [e] at h6; simp at h6)).trans h7⟩
    · have hx' : ((defsQ q).map (·.name))[f]? = some x := by rw [← hK]; exact hx
      rw [List.getElem?_map] at hx'
      obtain ⟨d, hd, rfl⟩ := Option.map_eq_some_iff.mp hx'
      have hd' := hd
      unfold defsQ at hd'
      rw [List.getElem?_map] at hd'
      obtain ⟨r, hr, rfl⟩ := Option.map_eq_some_iff.mp hd'
      obtain ⟨a, o, pm, cd, doc, h1, h2, h3, h4⟩ := T.fn r (List.mem_of_getElem? hr)
      refine ⟨a, o, defQ r, pm, cd, doc, hd, rfl, h1, hid_get hP h2 (fun q => by rw [q] at h3; cases h3), h3, hid_code hP h4, fun he => ?_⟩
      have he' : r.name = lr.name := Eq.trans he hlrn.symm
      rw [he', t1] at h1; cases h1
      rw [t2] at h2; cases h2
      rw [t3] at h3; cases h3
      exact t4
    · obtain ⟨mc, h1, h2⟩ := T.nolimit; exact ⟨mc, hid_ns hP h1, h2⟩
    · have Z := T.seer himp
      refine ⟨?_, ?_, ?_, ?_⟩
      · obtain ⟨mc, a, b⟩ := Z.statics; exact ⟨mc, hid_ns hP a, b⟩
      · obtain ⟨mc, a, b⟩ := Z.mods; exact ⟨mc, hid_ns hP a, b⟩
      · obtain ⟨mc, a, b⟩ := Z.imp; exact ⟨mc, hid_ns hP a, b⟩
      · obtain ⟨mg', bm, ob, a, b, c, d, e⟩ := Z.main
        exact ⟨mg', bm, ob, hid_ns hP a, b, hid_get hP c (fun q => by rw [q] at d; cases d), d, e⟩
    · obtain ⟨o, e, hc, r⟩ := hL
      exact ⟨o, hid_get hP e (fun q => by rw [q] at hc; cases hc), hc, r⟩
    · obtain ⟨mc, h1, _⟩ := T.nodigits
      obtain ⟨o, _, _, ho, _⟩ := hid_ns hP h1
      exact ⟨o, ho⟩
    · intro h ps hk hps htr
      obtain ⟨o', vs', file, tf, flags, tg, inF, text, tt, op, f1, f2, f3, f4, f5, f6, f7, _, _, _, f11⟩ := t5
      obtain ⟨⟨o, vs2, g1, g2, g3, g4⟩, _⟩ := t6
      have hc' : h.get? lc = some o := hk _ _ (hid_get hP g1 fun q => by rw [q] at g2; cases g2)
      rw [g1] at f1; cases f1
      rw [g3] at f2; cases f2
      exact ⟨⟨_, _, file, tf, flags, tg, inF, text, tt, _, hc', g3, f3, f4, f5, f6, f7, hps, rfl, htr, f11⟩, ⟨_, _, hc', g2, g3, g4⟩, hps⟩
    · obtain ⟨bm, ob, b1, b2, b3, b4, b5, b6⟩ := T.bmain
      refine ⟨bm, ob, b1, b2, fun e => ?_, hid_get hP b3 (fun q => by rw [q] at b4; cases b4), b4, b5, b6⟩
      have e : bm = lP := e
      rw [e, hP] at b3; cases b3; cases b4
    · intro e
      have e : mainGlobals = lP := e
      obtain ⟨o, es, ep, h1, h2, _⟩ := T.g
      rw [e, hP] at h1; cases h1; cases h2
  have R0 : SR W [lP] [.tab] s₁.heap := by
    refine ⟨fun _ _ e => up e, fun a ha => ?_, by simp, rfl, fun l c e => ?_⟩
    · rw [List.mem_singleton.mp ha]; exact Heap.hide_self _ _
    · cases l with
      | zero => cases e; exact ⟨lP, rfl, rfl, .inl hP⟩
      | succ l => cases e
  cases N with
  | zero => cases hrun
  | succ n =>
    obtain ⟨a', o, d, pm, cd, doc, e1, e2, e3, e4, e5, e6, e7⟩ := (G n).1.fn lawIdx "law" hlaw
    change mg _ = _ at e3
    rw [hfa] at e3; cases e3
    obtain ⟨fn, hf, hv, hrun⟩ := wSome_ex (o := fns[lawIdx]?) (f := fun d : Fn => (([.script] : List V).length = d.np ∧ d.np ≠ 999) ∧ WSs ⟨ns, gks, callW ns gks fns n⟩ d.body (([.script] : List V).map some ++ List.replicate d.nl none) [Cell.tab] (retK fun v H => v = V.bool true ∧ H[0]? = some Cell.tab)) hrun
    obtain ⟨nn, hc⟩ := chkAll_get hck e1 hf
    have rm : RoomC callerA (2 * n + 1 + 1) := ⟨by show 1 + 300 + (2 * n + 1 + 1) + 110 ≤ 1000; (first | lia | omega), by show 4 + 5 * (2 * n + 1 + 1) + 200 ≤ 9900; (first | lia | omega), rfl, _, rfl⟩
    have fin : ∀ v H, v = V.bool true ∧ H[0]? = some .tab → PV W [lP] s₁ Q v H := by
      rintro v H ⟨rfl, h0⟩ φ' h' tk x R1 S1 r1
      cases r1
      obtain ⟨a, ha, ea, hcell⟩ := R1.cell 0 _ h0
      have ea : a = lP := ea
      rw [ea] at hcell
      have keep : ∀ b o, b ≠ lP → s₁.heap.get? b = some o → h'.get? b = some o := fun b o hb e => R1.keep b o ((Heap.hide_ne _ hb).trans e)
      rcases hcell with e | ⟨c, e, _⟩
      · exact hQ lc lP _ h' tk t6 keep e
      · exact hQ lc lP _ h' tk t6 keep e
    refine fn_snd (X := X) (n := 2 * n + 1) (G n) (CallOk.more (callOk (X := X) hck G n) (by (first | lia | omega))) (by (first | lia | omega)) rm (hc hv.2) e4 e5 e6 (fun h => e7 (e2.symm.trans h)) R0 (.cons .script .nil) hv.1 (WSs_mono hrun fun o p => ?_)
    cases o with
    | next ρ2 H2 => exact fin _ _ p
    | ret v2 H2 => exact fin _ _ p
end Mine

end
section
set_option autoImplicit false
set_option linter.unusedVariables false
set_option linter.unusedSimpArgs false
set_option maxRecDepth 100000
namespace Mine.P
open PySem
abbrev i_lives : Nat := 0
abbrev i_parents_on : Nat := 1
abbrev i_children_on : Nat := 2
abbrev i_has_line : Nat := 3
abbrev i_part : Nat := 4
abbrev i_times : Nat := 5
abbrev i_shared : Nat := 6
abbrev i_lines_to : Nat := 7
abbrev i_by_lines : Nat := 8
abbrev i_others_of : Nat := 9
abbrev i_by_parents : Nat := 10
abbrev i_law_cell_at : Nat := 11
abbrev i_law_whole : Nat := 12
abbrev i_law_stream : Nat := 13
abbrev i_law_some : Nat := 14
abbrev i_law_people : Nat := 15
abbrev i_law_adopting : Nat := 16
abbrev i_law_lives : Nat := 17
abbrev i_law_parents : Nat := 18
abbrev i_law_children : Nat := 19
abbrev i_law_lined : Nat := 20
abbrev i_law_tangled : Nat := 21
abbrev i_law_is_part : Nat := 23
abbrev i_law_shared : Nat := 24
abbrev i_law_by_parents : Nat := 26
abbrev i_law_rows_same : Nat := 27
abbrev i_law_day : Nat := 28
abbrev i_law : Nat := 29
noncomputable def pn_lives : List Str := ["people", "person", "day", "born", "parents", "adopted", "died"]
noncomputable def pb_lives : List S :=
  [.asg (.tup [(.var 3), (.var 4), (.var 5), (.var 6)]) (.idx (.var 0) (.var 1)),
   .ret (.and [(.cmp .le (.var 3) (.var 2)), (.or [(.isNone (.var 6)), (.cmp .lt (.var 2) (.var 6))])])]
noncomputable def pn_parents_on : List Str := ["people", "person", "day", "born", "parents", "adopted", "died"]
noncomputable def pb_parents_on : List S :=
  [.asg (.tup [(.var 3), (.var 4), (.var 5), (.var 6)]) (.idx (.var 0) (.var 1)),
   .ife (.and [(.notNone (.var 5)), (.cmp .le (.idx (.var 5) (.k (.int 0))) (.var 2))])
    [.ret (.idx (.var 5) (.k (.int 1)))]
    [],
   .ret (.var 4)]
noncomputable def pn_children_on : List Str := ["people", "person", "day", "found", "child"]
noncomputable def pb_children_on : List S :=
  [.asg (.var 3) (.lst []),
   .for (.var 4) (.range (.k (.int 0)) (.bi .len [(.var 0)]))
    [.ife (.and [(.cmp .le (.idx (.idx (.var 0) (.var 4)) (.k (.int 0))) (.var 2)), (.cmp .isIn (.var 1) (.call i_parents_on [(.var 0), (.var 4), (.var 2)]))])
      [.expr (.meth .append (.var 3) [(.var 4)])]
      []],
   .ret (.var 3)]
noncomputable def pn_has_line : List Str := ["people", "person", "day", "child"]
noncomputable def pb_has_line : List S :=
  [.ife (.call i_lives [(.var 0), (.var 1), (.var 2)])
    [.ret (.k (.bool true))]
    [],
   .for (.var 3) (.of (.call i_children_on [(.var 0), (.var 1), (.var 2)]))
    [.ife (.call i_has_line [(.var 0), (.var 3), (.var 2)])
      [.ret (.k (.bool true))]
      []],
   .ret (.k (.bool false))]
noncomputable def pn_part : List Str := ["over", "under", "one", "other", "rest"]
noncomputable def pb_part : List S :=
  [.asg (.var 2) (.var 0),
   .asg (.var 3) (.var 1),
   .while (.cmp .gt (.var 3) (.k (.int 0)))
    [.asg (.var 4) (.bin .mod (.var 2) (.var 3)),
     .asg (.var 2) (.var 3),
     .asg (.var 3) (.var 4)],
   .ret (.tup [(.bin .fdiv (.var 0) (.var 2)), (.bin .fdiv (.var 1) (.var 2))])]
noncomputable def pn_times : List Str := ["one", "other"]
noncomputable def pb_times : List S :=
  [.ret (.call i_part [(.bin .mul (.idx (.var 0) (.k (.int 0))) (.idx (.var 1) (.k (.int 0)))), (.bin .mul (.idx (.var 0) (.k (.int 1))) (.idx (.var 1) (.k (.int 1))))])]
noncomputable def pn_shared : List Str := ["one", "many"]
noncomputable def pb_shared : List S :=
  [.ret (.call i_part [(.idx (.var 0) (.k (.int 0))), (.bin .mul (.idx (.var 0) (.k (.int 1))) (.var 1))])]
noncomputable def pn_lines_to : List Str := ["people", "person", "children", "day", "takers", "rows", "child", "share", "heir", "piece", "line"]
noncomputable def pb_lines_to : List S :=
  [.asg (.var 4) (.comp 1 (.var 0) (.var 0) (.of (.var 2)) [(.call i_has_line [(.var 1), (.var 0), (.var 4)])]),
   .asg (.var 5) (.lst []),
   .for (.var 6) (.of (.var 4))
    [.asg (.var 7) (.call i_shared [(.gk 0), (.bi .len [(.var 4)])]),
     .ife (.call i_lives [(.var 0), (.var 6), (.var 3)])
      [.expr (.meth .append (.var 5) [(.tup [(.var 6), (.var 7), (.lst [(.var 1), (.var 6)])])])]
      [.for (.tup [(.var 8), (.var 9), (.var 10)]) (.of (.call i_by_lines [(.var 0), (.var 6), (.var 3)]))
        [.expr (.meth .append (.var 5) [(.tup [(.var 8), (.call i_times [(.var 7), (.var 9)]), (.bin .add (.lst [(.var 1)]) (.var 10))])])]]],
   .ret (.var 5)]
noncomputable def pn_by_lines : List Str := ["people", "person", "day"]
noncomputable def pb_by_lines : List S :=
  [.ret (.call i_lines_to [(.var 0), (.var 1), (.call i_children_on [(.var 0), (.var 1), (.var 2)]), (.var 2)])]
noncomputable def pn_others_of : List Str := ["people", "parent", "person", "day"]
noncomputable def pb_others_of : List S :=
  [.ret (.comp 1 (.var 0) (.var 0) (.of (.call i_children_on [(.var 0), (.var 1), (.var 3)])) [(.cmp .ne (.var 0) (.var 3))])]
noncomputable def pn_by_parents : List Str := ["people", "person", "day", "takers", "parent", "others", "rows", "share", "heir", "piece", "line"]
noncomputable def pb_by_parents : List S :=
  [.asg (.var 3) (.lst []),
   .for (.var 4) (.of (.call i_parents_on [(.var 0), (.var 1), (.var 2)]))
    [.asg (.var 5) (.call i_others_of [(.var 0), (.var 4), (.var 1), (.var 2)]),
     .ife (.or [(.call i_lives [(.var 0), (.var 4), (.var 2)]), (.bi .any [(.comp 1 (.call i_has_line [(.var 1), (.var 0), (.var 3)]) (.var 0) (.of (.var 5)) [])])])
      [.expr (.meth .append (.var 3) [(.var 4)])]
      []],
   .asg (.var 6) (.lst []),
   .for (.var 4) (.of (.var 3))
    [.asg (.var 7) (.call i_shared [(.gk 0), (.bi .len [(.var 3)])]),
     .ife (.call i_lives [(.var 0), (.var 4), (.var 2)])
      [.expr (.meth .append (.var 6) [(.tup [(.var 4), (.var 7), (.lst [(.var 1), (.var 4)])])])]
      [.for (.tup [(.var 8), (.var 9), (.var 10)]) (.of (.call i_lines_to [(.var 0), (.var 4), (.call i_others_of [(.var 0), (.var 4), (.var 1), (.var 2)]), (.var 2)]))
        [.expr (.meth .append (.var 6) [(.tup [(.var 8), (.call i_times [(.var 7), (.var 9)]), (.bin .add (.lst [(.var 1)]) (.var 10))])])]]],
   .ret (.var 6)]
noncomputable def pn_law_cell_at : List Str := ["_law_script", "_law_k"]
noncomputable def pb_law_cell_at : List S :=
  [.ife (.cmp .lt (.var 1) (.bi .len [(.var 0)]))
    [.ret (.idx (.var 0) (.var 1))]
    [],
   .ret (.k (.int 0))]
noncomputable def pn_law_whole : List Str := ["_law_found"]
noncomputable def pb_law_whole : List S :=
  [.ret (.and [(.bi .isInt [(.var 0)]), (.not (.bi .isBool [(.var 0)]))])]
noncomputable def pn_law_stream : List Str := ["_law_cell", "_law_many", "_law_found", "_law_number", "_law_k"]
noncomputable def pb_law_stream : List S :=
  [.asg (.var 2) (.lst []),
   .asg (.var 3) (.bin .mod (.var 0) (.k (.int 2147483647))),
   .for (.var 4) (.range (.k (.int 0)) (.var 1))
    [.asg (.var 3) (.bin .mod (.bin .add (.bin .add (.bin .mul (.var 3) (.k (.int 48271))) (.k (.int 11))) (.var 4)) (.k (.int 2147483647))),
     .expr (.meth .append (.var 2) [(.var 3)])],
   .ret (.var 2)]
noncomputable def pn_law_some : List Str := ["_law_elders", "_law_y", "_law_fewest", "_law_one", "_law_other"]
noncomputable def pb_law_some : List S :=
  [.ife (.or [(.cmp .eq (.var 0) (.lst [])), (.and [(.cmp .eq (.var 2) (.k (.int 0))), (.cmp .eq (.bin .mod (.bin .fdiv (.var 1) (.k (.int 7))) (.k (.int 5))) (.k (.int 0)))])])
    [.ret (.tup [])]
    [],
   .asg (.var 3) (.idx (.var 0) (.bin .mod (.var 1) (.bi .len [(.var 0)]))),
   .asg (.var 4) (.idx (.var 0) (.bin .mod (.bin .fdiv (.var 1) (.k (.int 60))) (.bi .len [(.var 0)]))),
   .ife (.or [(.cmp .eq (.var 3) (.var 4)), (.cmp .eq (.bin .mod (.bin .fdiv (.var 1) (.k (.int 3))) (.k (.int 4))) (.k (.int 0)))])
    [.ret (.tup [(.var 3)])]
    [],
   .ret (.tup [(.var 3), (.var 4)])]
noncomputable def pn_law_people : List Str := ["_law_cell", "_law_many", "_law_people_here", "_law_scale", "_law_house", "_law_k", "_law_x", "_law_born", "_law_elders", "_law_parents_here", "_law_died"]
noncomputable def pb_law_people : List S :=
  [.asg (.var 2) (.lst []),
   .asg (.var 3) (.idx (.lst [(.k (.int 1)), (.k (.int 1)), (.k (.int 1)), (.k (.int 600))]) (.bin .mod (.var 0) (.k (.int 4)))),
   .asg (.var 4) (.lst [(.tup []), (.tup []), (.tup [(.k (.int 1)), (.k (.int 0))]), (.tup [(.k (.int 1)), (.k (.int 0))]), (.tup [(.k (.int 2))]), (.tup [(.k (.int 3))]), (.tup []), (.tup [(.k (.int 5))]), (.tup [(.k (.int 3))]), (.tup [(.k (.int 1))]), (.tup []), (.tup [(.k (.int 2))])]),
   .for (.tup [(.var 5), (.var 6)]) (.enum (.call i_law_stream [(.bin .fdiv (.var 0) (.k (.int 4))), (.var 1)]))
    [.asg (.var 7) (.bin .mul (.bin .add (.bin .mul (.k (.int 5)) (.bin .fdiv (.var 5) (.k (.int 3)))) (.bin .mod (.var 6) (.k (.int 11)))) (.var 3)),
     .asg (.var 8) (.comp 1 (.var 0) (.var 0) (.range (.k (.int 0)) (.var 5)) [(.cmp .lt (.idx (.idx (.var 3) (.var 0)) (.k (.int 0))) (.var 8))]),
     .asg (.var 9) (.call i_law_some [(.slc (.var 8) (some (.neg (.k (.int 7)))) none), (.bin .fdiv (.var 6) (.k (.int 11))), (.k (.int 0))]),
     .ife (.and [(.cmp .gt (.var 5) (.k (.int 0))), (.cmp .eq (.bin .mod (.bin .fdiv (.var 6) (.k (.int 13))) (.k (.int 3))) (.k (.int 0))), (.cmp .eq (.comp 1 (.var 0) (.var 0) (.of (.idx (.idx (.var 2) (.bin .sub (.var 5) (.k (.int 1)))) (.k (.int 1)))) [(.cmp .notIn (.var 0) (.var 9))]) (.lst []))])
      [.asg (.var 9) (.idx (.idx (.var 2) (.bin .sub (.var 5) (.k (.int 1)))) (.k (.int 1)))]
      [],
     .ife (.and [(.cmp .eq (.bin .mod (.bin .fdiv (.var 0) (.k (.int 4))) (.k (.int 3))) (.k (.int 0))), (.cmp .lt (.var 5) (.k (.int 12)))])
      [.asg (.var 7) (.bin .mul (.bin .add (.bin .mul (.k (.int 12)) (.bin .fdiv (.var 5) (.k (.int 2)))) (.bin .mod (.var 6) (.k (.int 11)))) (.var 3)),
       .asg (.var 9) (.idx (.var 4) (.var 5))]
      [],
     .asg (.var 10) (.k .none),
     .ife (.cmp .gt (.bin .mod (.bin .fdiv (.var 6) (.k (.int 500))) (.idx (.lst [(.k (.int 4)), (.k (.int 9))]) (.bin .mod (.bin .fdiv (.var 0) (.k (.int 12))) (.k (.int 2))))) (.k (.int 0)))
      [.asg (.var 10) (.bin .add (.var 7) (.bin .mul (.bin .mod (.bin .fdiv (.var 6) (.k (.int 1500))) (.k (.int 40))) (.var 3)))]
      [],
     .expr (.meth .append (.var 2) [(.tup [(.var 7), (.var 9), (.k .none), (.var 10)])])],
   .ret (.var 2)]
noncomputable def pn_law_adopting : List Str := ["_law_people_here", "_law_cell", "_law_found", "_law_k", "_law_x", "_law_born", "_law_parents_here", "_law_adopted", "_law_died", "_law_elders", "_law_day_here"]
noncomputable def pb_law_adopting : List S :=
  [.asg (.var 2) (.listOf (.var 0)),
   .for (.tup [(.var 3), (.var 4)]) (.enum (.call i_law_stream [(.var 1), (.bi .len [(.var 0)])]))
    [.asg (.tup [(.var 5), (.var 6), (.var 7), (.var 8)]) (.idx (.var 0) (.var 3)),
     .asg (.var 9) (.comp 1 (.var 0) (.var 0) (.range (.k (.int 0)) (.bi .len [(.var 0)])) [(.cmp .lt (.idx (.idx (.var 1) (.var 0)) (.k (.int 0))) (.var 6))]),
     .asg (.var 10) (.bin .add (.var 5) (.bin .mod (.var 4) (.k (.int 30)))),
     .ife (.and [(.cmp .eq (.bin .mod (.bin .fdiv (.var 4) (.k (.int 30))) (.k (.int 4))) (.k (.int 0))), (.cmp .ne (.var 9) (.lst [])), (.or [(.isNone (.var 8)), (.cmp .lt (.var 10) (.var 8))])])
      [.setIdx (.var 2) (.var 3) (.tup [(.var 5), (.var 6), (.tup [(.var 10), (.call i_law_some [(.var 9), (.bin .fdiv (.var 4) (.k (.int 120))), (.k (.int 1))])]), (.var 8)])]
      []],
   .ret (.var 2)]
noncomputable def pn_law_lives : List Str := ["_law_people_here", "_law_person", "_law_day_here"]
noncomputable def pb_law_lives : List S :=
  [.ife (.cmp .lt (.var 2) (.idx (.idx (.var 0) (.var 1)) (.k (.int 0))))
    [.ret (.k (.bool false))]
    [],
   .ret (.or [(.isNone (.idx (.idx (.var 0) (.var 1)) (.k (.int 3)))), (.cmp .gt (.idx (.idx (.var 0) (.var 1)) (.k (.int 3))) (.var 2))])]
noncomputable def pn_law_parents : List Str := ["_law_people_here", "_law_person", "_law_day_here"]
noncomputable def pb_law_parents : List S :=
  [.ife (.and [(.notNone (.idx (.idx (.var 0) (.var 1)) (.k (.int 2)))), (.cmp .le (.idx (.idx (.idx (.var 0) (.var 1)) (.k (.int 2))) (.k (.int 0))) (.var 2))])
    [.ret (.idx (.idx (.idx (.var 0) (.var 1)) (.k (.int 2))) (.k (.int 1)))]
    [],
   .ret (.idx (.idx (.var 0) (.var 1)) (.k (.int 1)))]
noncomputable def pn_law_children : List Str := ["_law_people_here", "_law_person", "_law_day_here", "_law_found", "_law_one"]
noncomputable def pb_law_children : List S :=
  [.asg (.var 3) (.lst []),
   .for (.var 4) (.range (.k (.int 0)) (.bi .len [(.var 0)]))
    [.ife (.and [(.cmp .le (.idx (.idx (.var 0) (.var 4)) (.k (.int 0))) (.var 2)), (.cmp .isIn (.var 1) (.call i_law_parents [(.var 0), (.var 4), (.var 2)]))])
      [.expr (.meth .append (.var 3) [(.var 4)])]
      []],
   .ret (.var 3)]
noncomputable def pn_law_lined : List Str := ["_law_people_here", "_law_day_here", "_law_lined_here", "_law_one", "_law_turn", "_law_parent"]
noncomputable def pb_law_lined : List S :=
  [.asg (.var 2) .dct0,
   .for (.var 3) (.range (.k (.int 0)) (.bi .len [(.var 0)]))
    [.ife (.call i_law_lives [(.var 0), (.var 3), (.var 1)])
      [.setIdx (.var 2) (.var 3) (.k (.bool true))]
      []],
   .for (.var 4) (.range (.k (.int 0)) (.bi .len [(.var 0)]))
    [.for (.var 3) (.of (.listOf (.var 2)))
      [.ife (.cmp .le (.idx (.idx (.var 0) (.var 3)) (.k (.int 0))) (.var 1))
        [.for (.var 5) (.of (.call i_law_parents [(.var 0), (.var 3), (.var 1)]))
          [.setIdx (.var 2) (.var 5) (.k (.bool true))]]
        []]],
   .ret (.var 2)]
noncomputable def pn_law_tangled : List Str := ["_law_people_here", "_law_root", "_law_ways", "_law_one", "_law_above"]
noncomputable def pb_law_tangled : List S :=
  [.for (.var 1) (.range (.k (.int 0)) (.bi .len [(.var 0)]))
    [.asg (.var 2) (.dct1 (.var 1) (.k (.int 1))),
     .for (.var 3) (.of (.sortK (.listR (.bi .len [(.var 0)])) 0))
      [.asg (.var 4) (.listOf (.idx (.idx (.var 0) (.var 3)) (.k (.int 1)))),
       .ife (.notNone (.idx (.idx (.var 0) (.var 3)) (.k (.int 2))))
        [.asg (.var 4) (.bin .add (.var 4) (.comp 1 (.var 0) (.var 0) (.of (.idx (.idx (.idx (.var 0) (.var 3)) (.k (.int 2))) (.k (.int 1)))) [(.cmp .notIn (.var 0) (.var 5))]))]
        [],
       .setIdx (.var 2) (.var 3) (.bin .add (.meth .get2 (.var 2) [(.var 3), (.k (.int 0))]) (.bi .sumI [(.comp 1 (.meth .get2 (.var 3) [(.var 0), (.k (.int 0))]) (.var 0) (.of (.var 4)) [])])),
       .ife (.cmp .gt (.idx (.var 2) (.var 3)) (.k (.int 40)))
        [.ret (.k (.bool true))]
        []]],
   .ret (.k (.bool false))]
noncomputable def pn_law_lowest : List Str := ["_law_over", "_law_under", "_law_a", "_law_b", "_law_c"]
noncomputable def pb_law_lowest : List S :=
  [.asg (.var 2) (.var 0),
   .asg (.var 3) (.var 1),
   .while (.cmp .gt (.var 3) (.k (.int 0)))
    [.asg (.var 4) (.bin .mod (.var 2) (.var 3)),
     .asg (.var 2) (.var 3),
     .asg (.var 3) (.var 4)],
   .ret (.tup [(.bin .fdiv (.var 0) (.var 2)), (.bin .fdiv (.var 1) (.var 2))])]
noncomputable def pn_law_is_part : List Str := ["_law_found", "_law_due"]
noncomputable def pb_law_is_part : List S :=
  [.ife (.or [(.not (.bi .isTuple [(.var 0)])), (.cmp .ne (.bi .len [(.var 0)]) (.k (.int 2))), (.not (.call i_law_whole [(.idx (.var 0) (.k (.int 0)))])), (.not (.call i_law_whole [(.idx (.var 0) (.k (.int 1)))]))])
    [.ret (.k (.bool false))]
    [],
   .ret (.cmp .eq (.var 0) (.var 1))]
noncomputable def pn_law_shared : List Str := ["_law_people_here", "_law_lined_here", "_law_person", "_law_takers", "_law_day_here", "_law_under", "_law_rows", "_law_taker", "_law_below", "_law_heir", "_law_mine", "_law_line"]
noncomputable def pb_law_shared : List S :=
  [.asg (.var 6) (.lst []),
   .for (.var 7) (.of (.var 3))
    [.ife (.call i_law_lives [(.var 0), (.var 7), (.var 4)])
      [.expr (.meth .append (.var 6) [(.tup [(.var 7), (.tup [(.k (.int 1)), (.bin .mul (.var 5) (.bi .len [(.var 3)]))]), (.lst [(.var 2), (.var 7)])])])]
      [.asg (.var 8) (.comp 1 (.var 0) (.var 0) (.of (.call i_law_children [(.var 0), (.var 7), (.var 4)])) [(.cmp .isIn (.var 0) (.var 2))]),
       .for (.tup [(.var 9), (.var 10), (.var 11)]) (.of (.call i_law_shared [(.var 0), (.var 1), (.var 7), (.var 8), (.var 4), (.bin .mul (.var 5) (.bi .len [(.var 3)]))]))
        [.expr (.meth .append (.var 6) [(.tup [(.var 9), (.var 10), (.bin .add (.lst [(.var 2)]) (.var 11))])])]]],
   .ret (.var 6)]
noncomputable def pn_law_by_lines : List Str := ["_law_people_here", "_law_person", "_law_day_here", "_law_lined_here", "_law_takers"]
noncomputable def pb_law_by_lines : List S :=
  [.asg (.var 3) (.call i_law_lined [(.var 0), (.var 2)]),
   .asg (.var 4) (.comp 1 (.var 0) (.var 0) (.of (.call i_law_children [(.var 0), (.var 1), (.var 2)])) [(.cmp .isIn (.var 0) (.var 4))]),
   .ret (.call i_law_shared [(.var 0), (.var 3), (.var 1), (.var 4), (.var 2), (.k (.int 1))])]
noncomputable def pn_law_by_parents : List Str := ["_law_people_here", "_law_person", "_law_day_here", "_law_lined_here", "_law_found", "_law_takers", "_law_parent", "_law_others", "_law_heir", "_law_mine", "_law_line"]
noncomputable def pb_law_by_parents : List S :=
  [.asg (.var 3) (.call i_law_lined [(.var 0), (.var 2)]),
   .asg (.var 4) (.lst []),
   .asg (.var 5) (.lst []),
   .for (.var 6) (.of (.call i_law_parents [(.var 0), (.var 1), (.var 2)]))
    [.asg (.var 7) (.comp 1 (.var 0) (.var 0) (.of (.call i_law_children [(.var 0), (.var 6), (.var 2)])) [(.and [(.cmp .isIn (.var 0) (.var 4)), (.cmp .ne (.var 0) (.var 2))])]),
     .ife (.or [(.call i_law_lives [(.var 0), (.var 6), (.var 2)]), (.cmp .ne (.var 7) (.lst []))])
      [.expr (.meth .append (.var 5) [(.tup [(.var 6), (.var 7)])])]
      []],
   .for (.tup [(.var 6), (.var 7)]) (.of (.var 5))
    [.ife (.call i_law_lives [(.var 0), (.var 6), (.var 2)])
      [.expr (.meth .append (.var 4) [(.tup [(.var 6), (.tup [(.k (.int 1)), (.bi .len [(.var 5)])]), (.lst [(.var 1), (.var 6)])])])]
      [.for (.tup [(.var 8), (.var 9), (.var 10)]) (.of (.call i_law_shared [(.var 0), (.var 3), (.var 6), (.var 7), (.var 2), (.bi .len [(.var 5)])]))
        [.expr (.meth .append (.var 4) [(.tup [(.var 8), (.var 9), (.bin .add (.lst [(.var 1)]) (.var 10))])])]]],
   .ret (.var 4)]
noncomputable def pn_law_rows_same : List Str := ["_law_found", "_law_due", "_law_row", "_law_other"]
noncomputable def pb_law_rows_same : List S :=
  [.ife (.or [(.not (.bi .isList [(.var 0)])), (.cmp .ne (.bi .len [(.var 0)]) (.bi .len [(.var 1)]))])
    [.ret (.k (.bool false))]
    [],
   .for (.tup [(.var 2), (.var 3)]) (.zip (.var 0) (.var 1))
    [.ife (.or [(.not (.bi .isTuple [(.var 2)])), (.cmp .ne (.bi .len [(.var 2)]) (.k (.int 3))), (.not (.call i_law_whole [(.idx (.var 2) (.k (.int 0)))])), (.not (.bi .isList [(.idx (.var 2) (.k (.int 2)))]))])
      [.ret (.k (.bool false))]
      [],
     .ife (.or [(.cmp .ne (.comp 1 (.var 0) (.var 0) (.of (.idx (.var 2) (.k (.int 2)))) [(.not (.call i_law_whole [(.var 0)]))]) (.lst [])), (.not (.call i_law_is_part [(.idx (.var 2) (.k (.int 1))), (.idx (.var 3) (.k (.int 1)))]))])
      [.ret (.k (.bool false))]
      [],
     .ife (.or [(.cmp .ne (.idx (.var 2) (.k (.int 0))) (.idx (.var 3) (.k (.int 0)))), (.cmp .ne (.idx (.var 2) (.k (.int 2))) (.idx (.var 3) (.k (.int 2))))])
      [.ret (.k (.bool false))]
      []],
   .ret (.k (.bool true))]
noncomputable def pn_law_day : List Str := ["_law_people_here", "_law_cell", "_law_died"]
noncomputable def pb_law_day : List S :=
  [.asg (.var 2) (.idx (.idx (.var 0) (.bin .mod (.bin .fdiv (.var 1) (.k (.int 5))) (.bi .len [(.var 0)]))) (.k (.int 3))),
   .ife (.and [(.cmp .gt (.bin .mod (.var 1) (.k (.int 5))) (.k (.int 0))), (.notNone (.var 2))])
    [.ret (.var 2)]
    [],
   .ret (.bin .mod (.bin .fdiv (.var 1) (.k (.int 5))) (.k (.int 201)))]
noncomputable def pn_law : List Str := ["_law_script", "_law_many", "_law_people_here", "_law_handed", "_law_day_here", "_law_one", "_law_other", "_law_due", "_law_found"]
noncomputable def pb_law : List S :=
  [.asg (.var 1) (.bin .add (.k (.int 1)) (.bin .mod (.call i_law_cell_at [(.var 0), (.k (.int 0))]) (.k (.int 12)))),
   .ife (.cmp .eq (.bin .mod (.bin .fdiv (.call i_law_cell_at [(.var 0), (.k (.int 0))]) (.k (.int 12))) (.k (.int 6))) (.k (.int 1)))
    [.asg (.var 1) (.bin .add (.k (.int 1)) (.bin .mod (.bin .fdiv (.call i_law_cell_at [(.var 0), (.k (.int 0))]) (.k (.int 72))) (.k (.int 24))))]
    [],
   .asg (.var 2) (.call i_law_adopting [(.call i_law_people [(.call i_law_cell_at [(.var 0), (.k (.int 1))]), (.var 1)]), (.call i_law_cell_at [(.var 0), (.k (.int 2))])]),
   .ife (.call i_law_tangled [(.var 2)])
    [.ret (.k (.bool true))]
    [],
   .asg (.var 3) (.listOf (.var 2)),
   .asg (.var 4) (.call i_law_day [(.var 2), (.call i_law_cell_at [(.var 0), (.k (.int 4))])]),
   .asg (.var 5) (.bin .mod (.call i_law_cell_at [(.var 0), (.k (.int 3))]) (.var 1)),
   .asg (.var 6) (.bin .mod (.call i_law_cell_at [(.var 0), (.k (.int 5))]) (.var 1)),
   .asg (.var 7) (.call i_law_by_parents [(.var 2), (.var 5), (.var 4)]),
   .asg (.var 8) (.call i_by_parents [(.var 3), (.var 5), (.var 4)]),
   .ife (.not (.call i_law_rows_same [(.var 8), (.var 7)]))
    [.ret (.k (.bool false))]
    [],
   .ife (.not (.call i_law_rows_same [(.call i_by_parents [(.var 3), (.var 6), (.var 4)]), (.call i_law_by_parents [(.var 2), (.var 6), (.var 4)])]))
    [.ret (.k (.bool false))]
    [],
   .ife (.not (.call i_law_rows_same [(.var 8), (.var 7)]))
    [.ret (.k (.bool false))]
    [],
   .ife (.cmp .ne (.var 8) (.lst []))
    [.expr (.meth .append (.idx (.idx (.var 8) (.k (.int 0))) (.k (.int 2))) [(.k (.int 0))])]
    [],
   .expr (.meth .clear (.var 8) []),
   .ret (.and [(.call i_law_rows_same [(.call i_by_parents [(.var 3), (.var 5), (.var 4)]), (.var 7)]), (.cmp .eq (.var 3) (.var 2))])]
noncomputable def pfns : List Fn := [
  ⟨"lives", 3, 4, pb_lives⟩,
  ⟨"parents_on", 3, 4, pb_parents_on⟩,
  ⟨"children_on", 3, 2, pb_children_on⟩,
  ⟨"has_line", 3, 1, pb_has_line⟩,
  ⟨"part", 2, 3, pb_part⟩,
  ⟨"times", 2, 0, pb_times⟩,
  ⟨"shared", 2, 0, pb_shared⟩,
  ⟨"lines_to", 4, 7, pb_lines_to⟩,
  ⟨"by_lines", 3, 0, pb_by_lines⟩,
  ⟨"others_of", 4, 0, pb_others_of⟩,
  ⟨"by_parents", 3, 8, pb_by_parents⟩,
  ⟨"_law_cell_at", 2, 0, pb_law_cell_at⟩,
  ⟨"_law_whole", 1, 0, pb_law_whole⟩,
  ⟨"_law_stream", 2, 3, pb_law_stream⟩,
  ⟨"_law_some", 3, 2, pb_law_some⟩,
  ⟨"_law_people", 2, 9, pb_law_people⟩,
  ⟨"_law_adopting", 2, 9, pb_law_adopting⟩,
  ⟨"_law_lives", 3, 0, pb_law_lives⟩,
  ⟨"_law_parents", 3, 0, pb_law_parents⟩,
  ⟨"_law_children", 3, 2, pb_law_children⟩,
  ⟨"_law_lined", 2, 4, pb_law_lined⟩,
  ⟨"_law_tangled", 1, 4, pb_law_tangled⟩,
  ⟨"_law_lowest", 2, 3, pb_law_lowest⟩,
  ⟨"_law_is_part", 2, 0, pb_law_is_part⟩,
  ⟨"_law_shared", 6, 6, pb_law_shared⟩,
  ⟨"_law_by_lines", 3, 2, pb_law_by_lines⟩,
  ⟨"_law_by_parents", 3, 8, pb_law_by_parents⟩,
  ⟨"_law_rows_same", 2, 2, pb_law_rows_same⟩,
  ⟨"_law_day", 2, 1, pb_law_day⟩,
  ⟨"law", 1, 8, pb_law⟩]
noncomputable def pnss : List (List Str) := [pn_lives, pn_parents_on, pn_children_on, pn_has_line, pn_part, pn_times, pn_shared, pn_lines_to, pn_by_lines, pn_others_of, pn_by_parents, pn_law_cell_at, pn_law_whole, pn_law_stream, pn_law_some, pn_law_people, pn_law_adopting, pn_law_lives, pn_law_parents, pn_law_children, pn_law_lined, pn_law_tangled, pn_law_lowest, pn_law_is_part, pn_law_shared, pn_law_by_lines, pn_law_by_parents, pn_law_rows_same, pn_law_day, pn_law]
noncomputable def pK : CK := ⟨["lives", "parents_on", "children_on", "has_line", "part", "times", "shared", "lines_to", "by_lines", "others_of", "by_parents", "_law_cell_at", "_law_whole", "_law_stream", "_law_some", "_law_people", "_law_adopting", "_law_lives", "_law_parents", "_law_children", "_law_lined", "_law_tangled", "_law_lowest", "_law_is_part", "_law_shared", "_law_by_lines", "_law_by_parents", "_law_rows_same", "_law_day", "law"], ["WHOLE"], "_law_tangled", 145, 71⟩
noncomputable def pgks : List V := [(.tup [(.int 1), (.int 1)])]
theorem c_lives {scr : List Int} {n : Nat} {x0 x1 x2 : V} {H : Hp} {Q : V → Hp → Prop} (h : WSs ⟨scr, pgks, callW scr pgks pfns n⟩ pb_lives [some x0, some x1, some x2, none, none, none, none] H (retK Q)) : callW scr pgks pfns (n + 1) i_lives [x0, x1, x2] H Q := ⟨⟨rfl, by decide⟩, h⟩
theorem c_parents_on {scr : List Int} {n : Nat} {x0 x1 x2 : V} {H : Hp} {Q : V → Hp → Prop} (h : WSs ⟨scr, pgks, callW scr pgks pfns n⟩ pb_parents_on [some x0, some x1, some x2, none, none, none, none] H (retK Q)) : callW scr pgks pfns (n + 1) i_parents_on [x0, x1, x2] H Q := ⟨⟨rfl, by decide⟩, h⟩
theorem c_children_on {scr : List Int} {n : Nat} {x0 x1 x2 : V} {H : Hp} {Q : V → Hp → Prop} (h : WSs ⟨scr, pgks, callW scr pgks pfns n⟩ pb_children_on [some x0, some x1, some x2, none, none] H (retK Q)) : callW scr pgks pfns (n + 1) i_children_on [x0, x1, x2] H Q := ⟨⟨rfl, by decide⟩, h⟩
theorem c_has_line {scr : List Int} {n : Nat} {x0 x1 x2 : V} {H : Hp} {Q : V → Hp → Prop} (h : WSs ⟨scr, pgks, callW scr pgks pfns n⟩ pb_has_line [some x0, some x1, some x2, none] H (retK Q)) : callW scr pgks pfns (n + 1) i_has_line [x0, x1, x2] H Q := ⟨⟨rfl, by decide⟩, h⟩
theorem c_part {scr : List Int} {n : Nat} {x0 x1 : V} {H : Hp} {Q : V → Hp → Prop} (h : WSs ⟨scr, pgks, callW scr pgks pfns n⟩ pb_part [some x0, some x1, none, none, none] H (retK Q)) : callW scr pgks pfns (n + 1) i_part [x0, x1] H Q := ⟨⟨rfl, by decide⟩, h⟩
theorem c_times {scr : List Int} {n : Nat} {x0 x1 : V} {H : Hp} {Q : V → Hp → Prop} (h : WSs ⟨scr, pgks, callW scr pgks pfns n⟩ pb_times [some x0, some x1] H (retK Q)) : callW scr pgks pfns (n + 1) i_times [x0, x1] H Q := ⟨⟨rfl, by decide⟩, h⟩
theorem c_shared {scr : List Int} {n : Nat} {x0 x1 : V} {H : Hp} {Q : V → Hp → Prop} (h : WSs ⟨scr, pgks, callW scr pgks pfns n⟩ pb_shared [some x0, some x1] H (retK Q)) : callW scr pgks pfns (n + 1) i_shared [x0, x1] H Q := ⟨⟨rfl, by decide⟩, h⟩
theorem c_lines_to {scr : List Int} {n : Nat} {x0 x1 x2 x3 : V} {H : Hp} {Q : V → Hp → Prop} (h : WSs ⟨scr, pgks, callW scr pgks pfns n⟩ pb_lines_to [some x0, some x1, some x2, some x3, none, none, none, none, none, none, none] H (retK Q)) : callW scr pgks pfns (n + 1) i_lines_to [x0, x1, x2, x3] H Q := ⟨⟨rfl, by decide⟩, h⟩
theorem c_by_lines {scr : List Int} {n : Nat} {x0 x1 x2 : V} {H : Hp} {Q : V → Hp → Prop} (h : WSs ⟨scr, pgks, callW scr pgks pfns n⟩ pb_by_lines [some x0, some x1, some x2] H (retK Q)) : callW scr pgks pfns (n + 1) i_by_lines [x0, x1, x2] H Q := ⟨⟨rfl, by decide⟩, h⟩
theorem c_others_of {scr : List Int} {n : Nat} {x0 x1 x2 x3 : V} {H : Hp} {Q : V → Hp → Prop} (h : WSs ⟨scr, pgks, callW scr pgks pfns n⟩ pb_others_of [some x0, some x1, some x2, some x3] H (retK Q)) : callW scr pgks pfns (n + 1) i_others_of [x0, x1, x2, x3] H Q := ⟨⟨rfl, by decide⟩, h⟩
theorem c_by_parents {scr : List Int} {n : Nat} {x0 x1 x2 : V} {H : Hp} {Q : V → Hp → Prop} (h : WSs ⟨scr, pgks, callW scr pgks pfns n⟩ pb_by_parents [some x0, some x1, some x2, none, none, none, none, none, none, none, none] H (retK Q)) : callW scr pgks pfns (n + 1) i_by_parents [x0, x1, x2] H Q := ⟨⟨rfl, by decide⟩, h⟩
theorem c_law_cell_at {scr : List Int} {n : Nat} {x0 x1 : V} {H : Hp} {Q : V → Hp → Prop} (h : WSs ⟨scr, pgks, callW scr pgks pfns n⟩ pb_law_cell_at [some x0, some x1] H (retK Q)) : callW scr pgks pfns (n + 1) i_law_cell_at [x0, x1] H Q := ⟨⟨rfl, by decide⟩, h⟩
theorem c_law_whole {scr : List Int} {n : Nat} {x0 : V} {H : Hp} {Q : V → Hp → Prop} (h : WSs ⟨scr, pgks, callW scr pgks pfns n⟩ pb_law_whole [some x0] H (retK Q)) : callW scr pgks pfns (n + 1) i_law_whole [x0] H Q := ⟨⟨rfl, by decide⟩, h⟩
theorem c_law_stream {scr : List Int} {n : Nat} {x0 x1 : V} {H : Hp} {Q : V → Hp → Prop} (h : WSs ⟨scr, pgks, callW scr pgks pfns n⟩ pb_law_stream [some x0, some x1, none, none, none] H (retK Q)) : callW scr pgks pfns (n + 1) i_law_stream [x0, x1] H Q := ⟨⟨rfl, by decide⟩, h⟩
theorem c_law_some {scr : List Int} {n : Nat} {x0 x1 x2 : V} {H : Hp} {Q : V → Hp → Prop} (h : WSs ⟨scr, pgks, callW scr pgks pfns n⟩ pb_law_some [some x0, some x1, some x2, none, none] H (retK Q)) : callW scr pgks pfns (n + 1) i_law_some [x0, x1, x2] H Q := ⟨⟨rfl, by decide⟩, h⟩
theorem c_law_people {scr : List Int} {n : Nat} {x0 x1 : V} {H : Hp} {Q : V → Hp → Prop} (h : WSs ⟨scr, pgks, callW scr pgks pfns n⟩ pb_law_people [some x0, some x1, none, none, none, none, none, none, none, none, none] H (retK Q)) : callW scr pgks pfns (n + 1) i_law_people [x0, x1] H Q := ⟨⟨rfl, by decide⟩, h⟩
theorem c_law_adopting {scr : List Int} {n : Nat} {x0 x1 : V} {H : Hp} {Q : V → Hp → Prop} (h : WSs ⟨scr, pgks, callW scr pgks pfns n⟩ pb_law_adopting [some x0, some x1, none, none, none, none, none, none, none, none, none] H (retK Q)) : callW scr pgks pfns (n + 1) i_law_adopting [x0, x1] H Q := ⟨⟨rfl, by decide⟩, h⟩
theorem c_law_lives {scr : List Int} {n : Nat} {x0 x1 x2 : V} {H : Hp} {Q : V → Hp → Prop} (h : WSs ⟨scr, pgks, callW scr pgks pfns n⟩ pb_law_lives [some x0, some x1, some x2] H (retK Q)) : callW scr pgks pfns (n + 1) i_law_lives [x0, x1, x2] H Q := ⟨⟨rfl, by decide⟩, h⟩
theorem c_law_parents {scr : List Int} {n : Nat} {x0 x1 x2 : V} {H : Hp} {Q : V → Hp → Prop} (h : WSs ⟨scr, pgks, callW scr pgks pfns n⟩ pb_law_parents [some x0, some x1, some x2] H (retK Q)) : callW scr pgks pfns (n + 1) i_law_parents [x0, x1, x2] H Q := ⟨⟨rfl, by decide⟩, h⟩
theorem c_law_children {scr : List Int} {n : Nat} {x0 x1 x2 : V} {H : Hp} {Q : V → Hp → Prop} (h : WSs ⟨scr, pgks, callW scr pgks pfns n⟩ pb_law_children [some x0, some x1, some x2, none, none] H (retK Q)) : callW scr pgks pfns (n + 1) i_law_children [x0, x1, x2] H Q := ⟨⟨rfl, by decide⟩, h⟩
theorem c_law_lined {scr : List Int} {n : Nat} {x0 x1 : V} {H : Hp} {Q : V → Hp → Prop} (h : WSs ⟨scr, pgks, callW scr pgks pfns n⟩ pb_law_lined [some x0, some x1, none, none, none, none] H (retK Q)) : callW scr pgks pfns (n + 1) i_law_lined [x0, x1] H Q := ⟨⟨rfl, by decide⟩, h⟩
theorem c_law_tangled {scr : List Int} {n : Nat} {x0 : V} {H : Hp} {Q : V → Hp → Prop} (h : WSs ⟨scr, pgks, callW scr pgks pfns n⟩ pb_law_tangled [some x0, none, none, none, none] H (retK Q)) : callW scr pgks pfns (n + 1) i_law_tangled [x0] H Q := ⟨⟨rfl, by decide⟩, h⟩
theorem c_law_is_part {scr : List Int} {n : Nat} {x0 x1 : V} {H : Hp} {Q : V → Hp → Prop} (h : WSs ⟨scr, pgks, callW scr pgks pfns n⟩ pb_law_is_part [some x0, some x1] H (retK Q)) : callW scr pgks pfns (n + 1) i_law_is_part [x0, x1] H Q := ⟨⟨rfl, by decide⟩, h⟩
theorem c_law_shared {scr : List Int} {n : Nat} {x0 x1 x2 x3 x4 x5 : V} {H : Hp} {Q : V → Hp → Prop} (h : WSs ⟨scr, pgks, callW scr pgks pfns n⟩ pb_law_shared [some x0, some x1, some x2, some x3, some x4, some x5, none, none, none, none, none, none] H (retK Q)) : callW scr pgks pfns (n + 1) i_law_shared [x0, x1, x2, x3, x4, x5] H Q := ⟨⟨rfl, by decide⟩, h⟩
theorem c_law_by_parents {scr : List Int} {n : Nat} {x0 x1 x2 : V} {H : Hp} {Q : V → Hp → Prop} (h : WSs ⟨scr, pgks, callW scr pgks pfns n⟩ pb_law_by_parents [some x0, some x1, some x2, none, none, none, none, none, none, none, none] H (retK Q)) : callW scr pgks pfns (n + 1) i_law_by_parents [x0, x1, x2] H Q := ⟨⟨rfl, by decide⟩, h⟩
theorem c_law_rows_same {scr : List Int} {n : Nat} {x0 x1 : V} {H : Hp} {Q : V → Hp → Prop} (h : WSs ⟨scr, pgks, callW scr pgks pfns n⟩ pb_law_rows_same [some x0, some x1, none, none] H (retK Q)) : callW scr pgks pfns (n + 1) i_law_rows_same [x0, x1] H Q := ⟨⟨rfl, by decide⟩, h⟩
theorem c_law_day {scr : List Int} {n : Nat} {x0 x1 : V} {H : Hp} {Q : V → Hp → Prop} (h : WSs ⟨scr, pgks, callW scr pgks pfns n⟩ pb_law_day [some x0, some x1, none] H (retK Q)) : callW scr pgks pfns (n + 1) i_law_day [x0, x1] H Q := ⟨⟨rfl, by decide⟩, h⟩
theorem c_law {scr : List Int} {n : Nat} {x0 : V} {H : Hp} {Q : V → Hp → Prop} (h : WSs ⟨scr, pgks, callW scr pgks pfns n⟩ pb_law [some x0, none, none, none, none, none, none, none, none] H (retK Q)) : callW scr pgks pfns (n + 1) i_law [x0] H Q := ⟨⟨rfl, by decide⟩, h⟩
end Mine.P

end
section
set_option autoImplicit false
set_option linter.unusedVariables false
set_option linter.unusedSimpArgs false
namespace Mine
/- to take what holds behind a part or a call apart at one blow -/
theorem el_1_1 {X Y α0 : Type} {L : Y → α0 → X} {A0 : Y → α0 → Prop} {G : X → Y → Prop} (k : ∀ y a0, A0 y a0 → G (L y a0) y) : ∀ x y, (∃ a0, x = L y a0 ∧ A0 y a0) → G x y := by
  rintro x y ⟨a0, rfl, h0⟩
  exact k y a0 h0
theorem el_1_2 {X Y α0 : Type} {L : Y → α0 → X} {A0 A1 : Y → α0 → Prop} {G : X → Y → Prop} (k : ∀ y a0, A0 y a0 → A1 y a0 → G (L y a0) y) : ∀ x y, (∃ a0, x = L y a0 ∧ A0 y a0 ∧ A1 y a0) → G x y := by
  rintro x y ⟨a0, rfl, h0, h1⟩
  exact k y a0 h0 h1
theorem el_1_3 {X Y α0 : Type} {L : Y → α0 → X} {A0 A1 A2 : Y → α0 → Prop} {G : X → Y → Prop} (k : ∀ y a0, A0 y a0 → A1 y a0 → A2 y a0 → G (L y a0) y) : ∀ x y, (∃ a0, x = L y a0 ∧ A0 y a0 ∧ A1 y a0 ∧ A2 y a0) → G x y := by
  rintro x y ⟨a0, rfl, h0, h1, h2⟩
  exact k y a0 h0 h1 h2
theorem el_1_4 {X Y α0 : Type} {L : Y → α0 → X} {A0 A1 A2 A3 : Y → α0 → Prop} {G : X → Y → Prop} (k : ∀ y a0, A0 y a0 → A1 y a0 → A2 y a0 → A3 y a0 → G (L y a0) y) : ∀ x y, (∃ a0, x = L y a0 ∧ A0 y a0 ∧ A1 y a0 ∧ A2 y a0 ∧ A3 y a0) → G x y := by
  rintro x y ⟨a0, rfl, h0, h1, h2, h3⟩
  exact k y a0 h0 h1 h2 h3
theorem el_1_5 {X Y α0 : Type} {L : Y → α0 → X} {A0 A1 A2 A3 A4 : Y → α0 → Prop} {G : X → Y → Prop} (k : ∀ y a0, A0 y a0 → A1 y a0 → A2 y a0 → A3 y a0 → A4 y a0 → G (L y a0) y) : ∀ x y, (∃ a0, x = L y a0 ∧ A0 y a0 ∧ A1 y a0 ∧ A2 y a0 ∧ A3 y a0 ∧ A4 y a0) → G x y := by
  rintro x y ⟨a0, rfl, h0, h1, h2, h3, h4⟩
  exact k y a0 h0 h1 h2 h3 h4
theorem el_2_1 {X Y α0 α1 : Type} {L : Y → α0 → α1 → X} {A0 : Y → α0 → α1 → Prop} {G : X → Y → Prop} (k : ∀ y a0 a1, A0 y a0 a1 → G (L y a0 a1) y) : ∀ x y, (∃ a0 a1, x = L y a0 a1 ∧ A0 y a0 a1) → G x y := by
  rintro x y ⟨a0, a1, rfl, h0⟩
  exact k y a0 a1 h0
theorem el_2_2 {X Y α0 α1 : Type} {L : Y → α0 → α1 → X} {A0 A1 : Y → α0 → α1 → Prop} {G : X → Y → Prop} (k : ∀ y a0 a1, A0 y a0 a1 → A1 y a0 a1 → G (L y a0 a1) y) : ∀ x y, (∃ a0 a1, x = L y a0 a1 ∧ A0 y a0 a1 ∧ A1 y a0 a1) → G x y := by
  rintro x y ⟨a0, a1, rfl, h0, h1⟩
  exact k y a0 a1 h0 h1
theorem el_2_3 {X Y α0 α1 : Type} {L : Y → α0 → α1 → X} {A0 A1 A2 : Y → α0 → α1 → Prop} {G : X → Y → Prop} (k : ∀ y a0 a1, A0 y a0 a1 → A1 y a0 a1 → A2 y a0 a1 → G (L y a0 a1) y) : ∀ x y, (∃ a0 a1, x = L y a0 a1 ∧ A0 y a0 a1 ∧ A1 y a0 a1 ∧ A2 y a0 a1) → G x y := by
  rintro x y ⟨a0, a1, rfl, h0, h1, h2⟩
  exact k y a0 a1 h0 h1 h2
theorem el_2_4 {X Y α0 α1 : Type} {L : Y → α0 → α1 → X} {A0 A1 A2 A3 : Y → α0 → α1 → Prop} {G : X → Y → Prop} (k : ∀ y a0 a1, A0 y a0 a1 → A1 y a0 a1 → A2 y a0 a1 → A3 y a0 a1 → G (L y a0 a1) y) : ∀ x y, (∃ a0 a1, x = L y a0 a1 ∧ A0 y a0 a1 ∧ A1 y a0 a1 ∧ A2 y a0 a1 ∧ A3 y a0 a1) → G x y := by
  rintro x y ⟨a0, a1, rfl, h0, h1, h2, h3⟩
  exact k y a0 a1 h0 h1 h2 h3
theorem el_2_5 {X Y α0 α1 : Type} {L : Y → α0 → α1 → X} {A0 A1 A2 A3 A4 : Y → α0 → α1 → Prop} {G : X → Y → Prop} (k : ∀ y a0 a1, A0 y a0 a1 → A1 y a0 a1 → A2 y a0 a1 → A3 y a0 a1 → A4 y a0 a1 → G (L y a0 a1) y) : ∀ x y, (∃ a0 a1, x = L y a0 a1 ∧ A0 y a0 a1 ∧ A1 y a0 a1 ∧ A2 y a0 a1 ∧ A3 y a0 a1 ∧ A4 y a0 a1) → G x y := by
  rintro x y ⟨a0, a1, rfl, h0, h1, h2, h3, h4⟩
  exact k y a0 a1 h0 h1 h2 h3 h4
theorem el_2_6 {X Y α0 α1 : Type} {L : Y → α0 → α1 → X} {A0 A1 A2 A3 A4 A5 : Y → α0 → α1 → Prop} {G : X → Y → Prop} (k : ∀ y a0 a1, A0 y a0 a1 → A1 y a0 a1 → A2 y a0 a1 → A3 y a0 a1 → A4 y a0 a1 → A5 y a0 a1 → G (L y a0 a1) y) : ∀ x y, (∃ a0 a1, x = L y a0 a1 ∧ A0 y a0 a1 ∧ A1 y a0 a1 ∧ A2 y a0 a1 ∧ A3 y a0 a1 ∧ A4 y a0 a1 ∧ A5 y a0 a1) → G x y := by
  rintro x y ⟨a0, a1, rfl, h0, h1, h2, h3, h4, h5⟩
  exact k y a0 a1 h0 h1 h2 h3 h4 h5
theorem el_2_7 {X Y α0 α1 : Type} {L : Y → α0 → α1 → X} {A0 A1 A2 A3 A4 A5 A6 : Y → α0 → α1 → Prop} {G : X → Y → Prop} (k : ∀ y a0 a1, A0 y a0 a1 → A1 y a0 a1 → A2 y a0 a1 → A3 y a0 a1 → A4 y a0 a1 → A5 y a0 a1 → A6 y a0 a1 → G (L y a0 a1) y) : ∀ x y, (∃ a0 a1, x = L y a0 a1 ∧ A0 y a0 a1 ∧ A1 y a0 a1 ∧ A2 y a0 a1 ∧ A3 y a0 a1 ∧ A4 y a0 a1 ∧ A5 y a0 a1 ∧ A6 y a0 a1) → G x y := by
  rintro x y ⟨a0, a1, rfl, h0, h1, h2, h3, h4, h5, h6⟩
  exact k y a0 a1 h0 h1 h2 h3 h4 h5 h6
theorem el_3_2 {X Y α0 α1 α2 : Type} {L : Y → α0 → α1 → α2 → X} {A0 A1 : Y → α0 → α1 → α2 → Prop} {G : X → Y → Prop} (k : ∀ y a0 a1 a2, A0 y a0 a1 a2 → A1 y a0 a1 a2 → G (L y a0 a1 a2) y) : ∀ x y, (∃ a0 a1 a2, x = L y a0 a1 a2 ∧ A0 y a0 a1 a2 ∧ A1 y a0 a1 a2) → G x y := by
  rintro x y ⟨a0, a1, a2, rfl, h0, h1⟩
  exact k y a0 a1 a2 h0 h1
theorem el_3_3 {X Y α0 α1 α2 : Type} {L : Y → α0 → α1 → α2 → X} {A0 A1 A2 : Y → α0 → α1 → α2 → Prop} {G : X → Y → Prop} (k : ∀ y a0 a1 a2, A0 y a0 a1 a2 → A1 y a0 a1 a2 → A2 y a0 a1 a2 → G (L y a0 a1 a2) y) : ∀ x y, (∃ a0 a1 a2, x = L y a0 a1 a2 ∧ A0 y a0 a1 a2 ∧ A1 y a0 a1 a2 ∧ A2 y a0 a1 a2) → G x y := by
  rintro x y ⟨a0, a1, a2, rfl, h0, h1, h2⟩
  exact k y a0 a1 a2 h0 h1 h2
theorem el_3_5 {X Y α0 α1 α2 : Type} {L : Y → α0 → α1 → α2 → X} {A0 A1 A2 A3 A4 : Y → α0 → α1 → α2 → Prop} {G : X → Y → Prop} (k : ∀ y a0 a1 a2, A0 y a0 a1 a2 → A1 y a0 a1 a2 → A2 y a0 a1 a2 → A3 y a0 a1 a2 → A4 y a0 a1 a2 → G (L y a0 a1 a2) y) : ∀ x y, (∃ a0 a1 a2, x = L y a0 a1 a2 ∧ A0 y a0 a1 a2 ∧ A1 y a0 a1 a2 ∧ A2 y a0 a1 a2 ∧ A3 y a0 a1 a2 ∧ A4 y a0 a1 a2) → G x y := by
  rintro x y ⟨a0, a1, a2, rfl, h0, h1, h2, h3, h4⟩
  exact k y a0 a1 a2 h0 h1 h2 h3 h4
theorem el_3_6 {X Y α0 α1 α2 : Type} {L : Y → α0 → α1 → α2 → X} {A0 A1 A2 A3 A4 A5 : Y → α0 → α1 → α2 → Prop} {G : X → Y → Prop} (k : ∀ y a0 a1 a2, A0 y a0 a1 a2 → A1 y a0 a1 a2 → A2 y a0 a1 a2 → A3 y a0 a1 a2 → A4 y a0 a1 a2 → A5 y a0 a1 a2 → G (L y a0 a1 a2) y) : ∀ x y, (∃ a0 a1 a2, x = L y a0 a1 a2 ∧ A0 y a0 a1 a2 ∧ A1 y a0 a1 a2 ∧ A2 y a0 a1 a2 ∧ A3 y a0 a1 a2 ∧ A4 y a0 a1 a2 ∧ A5 y a0 a1 a2) → G x y := by
  rintro x y ⟨a0, a1, a2, rfl, h0, h1, h2, h3, h4, h5⟩
  exact k y a0 a1 a2 h0 h1 h2 h3 h4 h5
theorem el_4_1 {X Y α0 α1 α2 α3 : Type} {L : Y → α0 → α1 → α2 → α3 → X} {A0 : Y → α0 → α1 → α2 → α3 → Prop} {G : X → Y → Prop} (k : ∀ y a0 a1 a2 a3, A0 y a0 a1 a2 a3 → G (L y a0 a1 a2 a3) y) : ∀ x y, (∃ a0 a1 a2 a3, x = L y a0 a1 a2 a3 ∧ A0 y a0 a1 a2 a3) → G x y := by
  rintro x y ⟨a0, a1, a2, a3, rfl, h0⟩
  exact k y a0 a1 a2 a3 h0
theorem el_4_4 {X Y α0 α1 α2 α3 : Type} {L : Y → α0 → α1 → α2 → α3 → X} {A0 A1 A2 A3 : Y → α0 → α1 → α2 → α3 → Prop} {G : X → Y → Prop} (k : ∀ y a0 a1 a2 a3, A0 y a0 a1 a2 a3 → A1 y a0 a1 a2 a3 → A2 y a0 a1 a2 a3 → A3 y a0 a1 a2 a3 → G (L y a0 a1 a2 a3) y) : ∀ x y, (∃ a0 a1 a2 a3, x = L y a0 a1 a2 a3 ∧ A0 y a0 a1 a2 a3 ∧ A1 y a0 a1 a2 a3 ∧ A2 y a0 a1 a2 a3 ∧ A3 y a0 a1 a2 a3) → G x y := by
  rintro x y ⟨a0, a1, a2, a3, rfl, h0, h1, h2, h3⟩
  exact k y a0 a1 a2 a3 h0 h1 h2 h3
theorem el_4_5 {X Y α0 α1 α2 α3 : Type} {L : Y → α0 → α1 → α2 → α3 → X} {A0 A1 A2 A3 A4 : Y → α0 → α1 → α2 → α3 → Prop} {G : X → Y → Prop} (k : ∀ y a0 a1 a2 a3, A0 y a0 a1 a2 a3 → A1 y a0 a1 a2 a3 → A2 y a0 a1 a2 a3 → A3 y a0 a1 a2 a3 → A4 y a0 a1 a2 a3 → G (L y a0 a1 a2 a3) y) : ∀ x y, (∃ a0 a1 a2 a3, x = L y a0 a1 a2 a3 ∧ A0 y a0 a1 a2 a3 ∧ A1 y a0 a1 a2 a3 ∧ A2 y a0 a1 a2 a3 ∧ A3 y a0 a1 a2 a3 ∧ A4 y a0 a1 a2 a3) → G x y := by
  rintro x y ⟨a0, a1, a2, a3, rfl, h0, h1, h2, h3, h4⟩
  exact k y a0 a1 a2 a3 h0 h1 h2 h3 h4
theorem el_4_7 {X Y α0 α1 α2 α3 : Type} {L : Y → α0 → α1 → α2 → α3 → X} {A0 A1 A2 A3 A4 A5 A6 : Y → α0 → α1 → α2 → α3 → Prop} {G : X → Y → Prop} (k : ∀ y a0 a1 a2 a3, A0 y a0 a1 a2 a3 → A1 y a0 a1 a2 a3 → A2 y a0 a1 a2 a3 → A3 y a0 a1 a2 a3 → A4 y a0 a1 a2 a3 → A5 y a0 a1 a2 a3 → A6 y a0 a1 a2 a3 → G (L y a0 a1 a2 a3) y) : ∀ x y, (∃ a0 a1 a2 a3, x = L y a0 a1 a2 a3 ∧ A0 y a0 a1 a2 a3 ∧ A1 y a0 a1 a2 a3 ∧ A2 y a0 a1 a2 a3 ∧ A3 y a0 a1 a2 a3 ∧ A4 y a0 a1 a2 a3 ∧ A5 y a0 a1 a2 a3 ∧ A6 y a0 a1 a2 a3) → G x y := by
  rintro x y ⟨a0, a1, a2, a3, rfl, h0, h1, h2, h3, h4, h5, h6⟩
  exact k y a0 a1 a2 a3 h0 h1 h2 h3 h4 h5 h6
theorem el_6_3 {X Y α0 α1 α2 α3 α4 α5 : Type} {L : Y → α0 → α1 → α2 → α3 → α4 → α5 → X} {A0 A1 A2 : Y → α0 → α1 → α2 → α3 → α4 → α5 → Prop} {G : X → Y → Prop} (k : ∀ y a0 a1 a2 a3 a4 a5, A0 y a0 a1 a2 a3 a4 a5 → A1 y a0 a1 a2 a3 a4 a5 → A2 y a0 a1 a2 a3 a4 a5 → G (L y a0 a1 a2 a3 a4 a5) y) : ∀ x y, (∃ a0 a1 a2 a3 a4 a5, x = L y a0 a1 a2 a3 a4 a5 ∧ A0 y a0 a1 a2 a3 a4 a5 ∧ A1 y a0 a1 a2 a3 a4 a5 ∧ A2 y a0 a1 a2 a3 a4 a5) → G x y := by
  rintro x y ⟨a0, a1, a2, a3, a4, a5, rfl, h0, h1, h2⟩
  exact k y a0 a1 a2 a3 a4 a5 h0 h1 h2
theorem el_6_5 {X Y α0 α1 α2 α3 α4 α5 : Type} {L : Y → α0 → α1 → α2 → α3 → α4 → α5 → X} {A0 A1 A2 A3 A4 : Y → α0 → α1 → α2 → α3 → α4 → α5 → Prop} {G : X → Y → Prop} (k : ∀ y a0 a1 a2 a3 a4 a5, A0 y a0 a1 a2 a3 a4 a5 → A1 y a0 a1 a2 a3 a4 a5 → A2 y a0 a1 a2 a3 a4 a5 → A3 y a0 a1 a2 a3 a4 a5 → A4 y a0 a1 a2 a3 a4 a5 → G (L y a0 a1 a2 a3 a4 a5) y) : ∀ x y, (∃ a0 a1 a2 a3 a4 a5, x = L y a0 a1 a2 a3 a4 a5 ∧ A0 y a0 a1 a2 a3 a4 a5 ∧ A1 y a0 a1 a2 a3 a4 a5 ∧ A2 y a0 a1 a2 a3 a4 a5 ∧ A3 y a0 a1 a2 a3 a4 a5 ∧ A4 y a0 a1 a2 a3 a4 a5) → G x y := by
  rintro x y ⟨a0, a1, a2, a3, a4, a5, rfl, h0, h1, h2, h3, h4⟩
  exact k y a0 a1 a2 a3 a4 a5 h0 h1 h2 h3 h4
theorem el_7_3 {X Y α0 α1 α2 α3 α4 α5 α6 : Type} {L : Y → α0 → α1 → α2 → α3 → α4 → α5 → α6 → X} {A0 A1 A2 : Y → α0 → α1 → α2 → α3 → α4 → α5 → α6 → Prop} {G : X → Y → Prop} (k : ∀ y a0 a1 a2 a3 a4 a5 a6, A0 y a0 a1 a2 a3 a4 a5 a6 → A1 y a0 a1 a2 a3 a4 a5 a6 → A2 y a0 a1 a2 a3 a4 a5 a6 → G (L y a0 a1 a2 a3 a4 a5 a6) y) : ∀ x y, (∃ a0 a1 a2 a3 a4 a5 a6, x = L y a0 a1 a2 a3 a4 a5 a6 ∧ A0 y a0 a1 a2 a3 a4 a5 a6 ∧ A1 y a0 a1 a2 a3 a4 a5 a6 ∧ A2 y a0 a1 a2 a3 a4 a5 a6) → G x y := by
  rintro x y ⟨a0, a1, a2, a3, a4, a5, a6, rfl, h0, h1, h2⟩
  exact k y a0 a1 a2 a3 a4 a5 a6 h0 h1 h2
theorem el_7_8 {X Y α0 α1 α2 α3 α4 α5 α6 : Type} {L : Y → α0 → α1 → α2 → α3 → α4 → α5 → α6 → X} {A0 A1 A2 A3 A4 A5 A6 A7 : Y → α0 → α1 → α2 → α3 → α4 → α5 → α6 → Prop} {G : X → Y → Prop} (k : ∀ y a0 a1 a2 a3 a4 a5 a6, A0 y a0 a1 a2 a3 a4 a5 a6 → A1 y a0 a1 a2 a3 a4 a5 a6 → A2 y a0 a1 a2 a3 a4 a5 a6 → A3 y a0 a1 a2 a3 a4 a5 a6 → A4 y a0 a1 a2 a3 a4 a5 a6 → A5 y a0 a1 a2 a3 a4 a5 a6 → A6 y a0 a1 a2 a3 a4 a5 a6 → A7 y a0 a1 a2 a3 a4 a5 a6 → G (L y a0 a1 a2 a3 a4 a5 a6) y) : ∀ x y, (∃ a0 a1 a2 a3 a4 a5 a6, x = L y a0 a1 a2 a3 a4 a5 a6 ∧ A0 y a0 a1 a2 a3 a4 a5 a6 ∧ A1 y a0 a1 a2 a3 a4 a5 a6 ∧ A2 y a0 a1 a2 a3 a4 a5 a6 ∧ A3 y a0 a1 a2 a3 a4 a5 a6 ∧ A4 y a0 a1 a2 a3 a4 a5 a6 ∧ A5 y a0 a1 a2 a3 a4 a5 a6 ∧ A6 y a0 a1 a2 a3 a4 a5 a6 ∧ A7 y a0 a1 a2 a3 a4 a5 a6) → G x y := by
  rintro x y ⟨a0, a1, a2, a3, a4, a5, a6, rfl, h0, h1, h2, h3, h4, h5, h6, h7⟩
  exact k y a0 a1 a2 a3 a4 a5 a6 h0 h1 h2 h3 h4 h5 h6 h7
theorem el_9_4 {X Y α0 α1 α2 α3 α4 α5 α6 α7 α8 : Type} {L : Y → α0 → α1 → α2 → α3 → α4 → α5 → α6 → α7 → α8 → X} {A0 A1 A2 A3 : Y → α0 → α1 → α2 → α3 → α4 → α5 → α6 → α7 → α8 → Prop} {G : X → Y → Prop} (k : ∀ y a0 a1 a2 a3 a4 a5 a6 a7 a8, A0 y a0 a1 a2 a3 a4 a5 a6 a7 a8 → A1 y a0 a1 a2 a3 a4 a5 a6 a7 a8 → A2 y a0 a1 a2 a3 a4 a5 a6 a7 a8 → A3 y a0 a1 a2 a3 a4 a5 a6 a7 a8 → G (L y a0 a1 a2 a3 a4 a5 a6 a7 a8) y) : ∀ x y, (∃ a0 a1 a2 a3 a4 a5 a6 a7 a8, x = L y a0 a1 a2 a3 a4 a5 a6 a7 a8 ∧ A0 y a0 a1 a2 a3 a4 a5 a6 a7 a8 ∧ A1 y a0 a1 a2 a3 a4 a5 a6 a7 a8 ∧ A2 y a0 a1 a2 a3 a4 a5 a6 a7 a8 ∧ A3 y a0 a1 a2 a3 a4 a5 a6 a7 a8) → G x y := by
  rintro x y ⟨a0, a1, a2, a3, a4, a5, a6, a7, a8, rfl, h0, h1, h2, h3⟩
  exact k y a0 a1 a2 a3 a4 a5 a6 a7 a8 h0 h1 h2 h3
theorem in_1_1 {X α0 : Type} {x : X} {L : α0 → X} {A0 : α0 → Prop} {a0 : α0} (h : x = L a0) (h0 : A0 a0) : ∃ a0, x = L a0 ∧ A0 a0 :=
  ⟨a0, h, h0⟩
theorem in_1_2 {X α0 : Type} {x : X} {L : α0 → X} {A0 A1 : α0 → Prop} {a0 : α0} (h : x = L a0) (h0 : A0 a0) (h1 : A1 a0) : ∃ a0, x = L a0 ∧ A0 a0 ∧ A1 a0 :=
  ⟨a0, h, h0, h1⟩
theorem in_1_3 {X α0 : Type} {x : X} {L : α0 → X} {A0 A1 A2 : α0 → Prop} {a0 : α0} (h : x = L a0) (h0 : A0 a0) (h1 : A1 a0) (h2 : A2 a0) : ∃ a0, x = L a0 ∧ A0 a0 ∧ A1 a0 ∧ A2 a0 :=
  ⟨a0, h, h0, h1, h2⟩
theorem in_1_5 {X α0 : Type} {x : X} {L : α0 → X} {A0 A1 A2 A3 A4 : α0 → Prop} {a0 : α0} (h : x = L a0) (h0 : A0 a0) (h1 : A1 a0) (h2 : A2 a0) (h3 : A3 a0) (h4 : A4 a0) : ∃ a0, x = L a0 ∧ A0 a0 ∧ A1 a0 ∧ A2 a0 ∧ A3 a0 ∧ A4 a0 :=
  ⟨a0, h, h0, h1, h2, h3, h4⟩
theorem in_1_6 {X α0 : Type} {x : X} {L : α0 → X} {A0 A1 A2 A3 A4 A5 : α0 → Prop} {a0 : α0} (h : x = L a0) (h0 : A0 a0) (h1 : A1 a0) (h2 : A2 a0) (h3 : A3 a0) (h4 : A4 a0) (h5 : A5 a0) : ∃ a0, x = L a0 ∧ A0 a0 ∧ A1 a0 ∧ A2 a0 ∧ A3 a0 ∧ A4 a0 ∧ A5 a0 :=
  ⟨a0, h, h0, h1, h2, h3, h4, h5⟩
theorem in_2_1 {X α0 α1 : Type} {x : X} {L : α0 → α1 → X} {A0 : α0 → α1 → Prop} {a0 : α0} {a1 : α1} (h : x = L a0 a1) (h0 : A0 a0 a1) : ∃ a0 a1, x = L a0 a1 ∧ A0 a0 a1 :=
  ⟨a0, a1, h, h0⟩
theorem in_2_2 {X α0 α1 : Type} {x : X} {L : α0 → α1 → X} {A0 A1 : α0 → α1 → Prop} {a0 : α0} {a1 : α1} (h : x = L a0 a1) (h0 : A0 a0 a1) (h1 : A1 a0 a1) : ∃ a0 a1, x = L a0 a1 ∧ A0 a0 a1 ∧ A1 a0 a1 :=
  ⟨a0, a1, h, h0, h1⟩
theorem in_2_3 {X α0 α1 : Type} {x : X} {L : α0 → α1 → X} {A0 A1 A2 : α0 → α1 → Prop} {a0 : α0} {a1 : α1} (h : x = L a0 a1) (h0 : A0 a0 a1) (h1 : A1 a0 a1) (h2 : A2 a0 a1) : ∃ a0 a1, x = L a0 a1 ∧ A0 a0 a1 ∧ A1 a0 a1 ∧ A2 a0 a1 :=
  ⟨a0, a1, h, h0, h1, h2⟩
theorem in_2_4 {X α0 α1 : Type} {x : X} {L : α0 → α1 → X} {A0 A1 A2 A3 : α0 → α1 → Prop} {a0 : α0} {a1 : α1} (h : x = L a0 a1) (h0 : A0 a0 a1) (h1 : A1 a0 a1) (h2 : A2 a0 a1) (h3 : A3 a0 a1) : ∃ a0 a1, x = L a0 a1 ∧ A0 a0 a1 ∧ A1 a0 a1 ∧ A2 a0 a1 ∧ A3 a0 a1 :=
  ⟨a0, a1, h, h0, h1, h2, h3⟩
theorem in_2_5 {X α0 α1 : Type} {x : X} {L : α0 → α1 → X} {A0 A1 A2 A3 A4 : α0 → α1 → Prop} {a0 : α0} {a1 : α1} (h : x = L a0 a1) (h0 : A0 a0 a1) (h1 : A1 a0 a1) (h2 : A2 a0 a1) (h3 : A3 a0 a1) (h4 : A4 a0 a1) : ∃ a0 a1, x = L a0 a1 ∧ A0 a0 a1 ∧ A1 a0 a1 ∧ A2 a0 a1 ∧ A3 a0 a1 ∧ A4 a0 a1 :=
  ⟨a0, a1, h, h0, h1, h2, h3, h4⟩
theorem in_2_6 {X α0 α1 : Type} {x : X} {L : α0 → α1 → X} {A0 A1 A2 A3 A4 A5 : α0 → α1 → Prop} {a0 : α0} {a1 : α1} (h : x = L a0 a1) (h0 : A0 a0 a1) (h1 : A1 a0 a1) (h2 : A2 a0 a1) (h3 : A3 a0 a1) (h4 : A4 a0 a1) (h5 : A5 a0 a1) : ∃ a0 a1, x = L a0 a1 ∧ A0 a0 a1 ∧ A1 a0 a1 ∧ A2 a0 a1 ∧ A3 a0 a1 ∧ A4 a0 a1 ∧ A5 a0 a1 :=
  ⟨a0, a1, h, h0, h1, h2, h3, h4, h5⟩
theorem in_2_7 {X α0 α1 : Type} {x : X} {L : α0 → α1 → X} {A0 A1 A2 A3 A4 A5 A6 : α0 → α1 → Prop} {a0 : α0} {a1 : α1} (h : x = L a0 a1) (h0 : A0 a0 a1) (h1 : A1 a0 a1) (h2 : A2 a0 a1) (h3 : A3 a0 a1) (h4 : A4 a0 a1) (h5 : A5 a0 a1) (h6 : A6 a0 a1) : ∃ a0 a1, x = L a0 a1 ∧ A0 a0 a1 ∧ A1 a0 a1 ∧ A2 a0 a1 ∧ A3 a0 a1 ∧ A4 a0 a1 ∧ A5 a0 a1 ∧ A6 a0 a1 :=
  ⟨a0, a1, h, h0, h1, h2, h3, h4, h5, h6⟩
theorem in_3_3 {X α0 α1 α2 : Type} {x : X} {L : α0 → α1 → α2 → X} {A0 A1 A2 : α0 → α1 → α2 → Prop} {a0 : α0} {a1 : α1} {a2 : α2} (h : x = L a0 a1 a2) (h0 : A0 a0 a1 a2) (h1 : A1 a0 a1 a2) (h2 : A2 a0 a1 a2) : ∃ a0 a1 a2, x = L a0 a1 a2 ∧ A0 a0 a1 a2 ∧ A1 a0 a1 a2 ∧ A2 a0 a1 a2 :=
  ⟨a0, a1, a2, h, h0, h1, h2⟩
theorem in_3_4 {X α0 α1 α2 : Type} {x : X} {L : α0 → α1 → α2 → X} {A0 A1 A2 A3 : α0 → α1 → α2 → Prop} {a0 : α0} {a1 : α1} {a2 : α2} (h : x = L a0 a1 a2) (h0 : A0 a0 a1 a2) (h1 : A1 a0 a1 a2) (h2 : A2 a0 a1 a2) (h3 : A3 a0 a1 a2) : ∃ a0 a1 a2, x = L a0 a1 a2 ∧ A0 a0 a1 a2 ∧ A1 a0 a1 a2 ∧ A2 a0 a1 a2 ∧ A3 a0 a1 a2 :=
  ⟨a0, a1, a2, h, h0, h1, h2, h3⟩
theorem in_3_5 {X α0 α1 α2 : Type} {x : X} {L : α0 → α1 → α2 → X} {A0 A1 A2 A3 A4 : α0 → α1 → α2 → Prop} {a0 : α0} {a1 : α1} {a2 : α2} (h : x = L a0 a1 a2) (h0 : A0 a0 a1 a2) (h1 : A1 a0 a1 a2) (h2 : A2 a0 a1 a2) (h3 : A3 a0 a1 a2) (h4 : A4 a0 a1 a2) : ∃ a0 a1 a2, x = L a0 a1 a2 ∧ A0 a0 a1 a2 ∧ A1 a0 a1 a2 ∧ A2 a0 a1 a2 ∧ A3 a0 a1 a2 ∧ A4 a0 a1 a2 :=
  ⟨a0, a1, a2, h, h0, h1, h2, h3, h4⟩
theorem in_3_6 {X α0 α1 α2 : Type} {x : X} {L : α0 → α1 → α2 → X} {A0 A1 A2 A3 A4 A5 : α0 → α1 → α2 → Prop} {a0 : α0} {a1 : α1} {a2 : α2} (h : x = L a0 a1 a2) (h0 : A0 a0 a1 a2) (h1 : A1 a0 a1 a2) (h2 : A2 a0 a1 a2) (h3 : A3 a0 a1 a2) (h4 : A4 a0 a1 a2) (h5 : A5 a0 a1 a2) : ∃ a0 a1 a2, x = L a0 a1 a2 ∧ A0 a0 a1 a2 ∧ A1 a0 a1 a2 ∧ A2 a0 a1 a2 ∧ A3 a0 a1 a2 ∧ A4 a0 a1 a2 ∧ A5 a0 a1 a2 :=
  ⟨a0, a1, a2, h, h0, h1, h2, h3, h4, h5⟩
theorem in_4_1 {X α0 α1 α2 α3 : Type} {x : X} {L : α0 → α1 → α2 → α3 → X} {A0 : α0 → α1 → α2 → α3 → Prop} {a0 : α0} {a1 : α1} {a2 : α2} {a3 : α3} (h : x = L a0 a1 a2 a3) (h0 : A0 a0 a1 a2 a3) : ∃ a0 a1 a2 a3, x = L a0 a1 a2 a3 ∧ A0 a0 a1 a2 a3 :=
  ⟨a0, a1, a2, a3, h, h0⟩
theorem in_4_4 {X α0 α1 α2 α3 : Type} {x : X} {L : α0 → α1 → α2 → α3 → X} {A0 A1 A2 A3 : α0 → α1 → α2 → α3 → Prop} {a0 : α0} {a1 : α1} {a2 : α2} {a3 : α3} (h : x = L a0 a1 a2 a3) (h0 : A0 a0 a1 a2 a3) (h1 : A1 a0 a1 a2 a3) (h2 : A2 a0 a1 a2 a3) (h3 : A3 a0 a1 a2 a3) : ∃ a0 a1 a2 a3, x = L a0 a1 a2 a3 ∧ A0 a0 a1 a2 a3 ∧ A1 a0 a1 a2 a3 ∧ A2 a0 a1 a2 a3 ∧ A3 a0 a1 a2 a3 :=
  ⟨a0, a1, a2, a3, h, h0, h1, h2, h3⟩
theorem in_4_5 {X α0 α1 α2 α3 : Type} {x : X} {L : α0 → α1 → α2 → α3 → X} {A0 A1 A2 A3 A4 : α0 → α1 → α2 → α3 → Prop} {a0 : α0} {a1 : α1} {a2 : α2} {a3 : α3} (h : x = L a0 a1 a2 a3) (h0 : A0 a0 a1 a2 a3) (h1 : A1 a0 a1 a2 a3) (h2 : A2 a0 a1 a2 a3) (h3 : A3 a0 a1 a2 a3) (h4 : A4 a0 a1 a2 a3) : ∃ a0 a1 a2 a3, x = L a0 a1 a2 a3 ∧ A0 a0 a1 a2 a3 ∧ A1 a0 a1 a2 a3 ∧ A2 a0 a1 a2 a3 ∧ A3 a0 a1 a2 a3 ∧ A4 a0 a1 a2 a3 :=
  ⟨a0, a1, a2, a3, h, h0, h1, h2, h3, h4⟩
theorem in_4_7 {X α0 α1 α2 α3 : Type} {x : X} {L : α0 → α1 → α2 → α3 → X} {A0 A1 A2 A3 A4 A5 A6 : α0 → α1 → α2 → α3 → Prop} {a0 : α0} {a1 : α1} {a2 : α2} {a3 : α3} (h : x = L a0 a1 a2 a3) (h0 : A0 a0 a1 a2 a3) (h1 : A1 a0 a1 a2 a3) (h2 : A2 a0 a1 a2 a3) (h3 : A3 a0 a1 a2 a3) (h4 : A4 a0 a1 a2 a3) (h5 : A5 a0 a1 a2 a3) (h6 : A6 a0 a1 a2 a3) : ∃ a0 a1 a2 a3, x = L a0 a1 a2 a3 ∧ A0 a0 a1 a2 a3 ∧ A1 a0 a1 a2 a3 ∧ A2 a0 a1 a2 a3 ∧ A3 a0 a1 a2 a3 ∧ A4 a0 a1 a2 a3 ∧ A5 a0 a1 a2 a3 ∧ A6 a0 a1 a2 a3 :=
  ⟨a0, a1, a2, a3, h, h0, h1, h2, h3, h4, h5, h6⟩
theorem in_6_3 {X α0 α1 α2 α3 α4 α5 : Type} {x : X} {L : α0 → α1 → α2 → α3 → α4 → α5 → X} {A0 A1 A2 : α0 → α1 → α2 → α3 → α4 → α5 → Prop} {a0 : α0} {a1 : α1} {a2 : α2} {a3 : α3} {a4 : α4} {a5 : α5} (h : x = L a0 a1 a2 a3 a4 a5) (h0 : A0 a0 a1 a2 a3 a4 a5) (h1 : A1 a0 a1 a2 a3 a4 a5) (h2 : A2 a0 a1 a2 a3 a4 a5) : ∃ a0 a1 a2 a3 a4 a5, x = L a0 a1 a2 a3 a4 a5 ∧ A0 a0 a1 a2 a3 a4 a5 ∧ A1 a0 a1 a2 a3 a4 a5 ∧ A2 a0 a1 a2 a3 a4 a5 :=
  ⟨a0, a1, a2, a3, a4, a5, h, h0, h1, h2⟩
theorem in_6_5 {X α0 α1 α2 α3 α4 α5 : Type} {x : X} {L : α0 → α1 → α2 → α3 → α4 → α5 → X} {A0 A1 A2 A3 A4 : α0 → α1 → α2 → α3 → α4 → α5 → Prop} {a0 : α0} {a1 : α1} {a2 : α2} {a3 : α3} {a4 : α4} {a5 : α5} (h : x = L a0 a1 a2 a3 a4 a5) (h0 : A0 a0 a1 a2 a3 a4 a5) (h1 : A1 a0 a1 a2 a3 a4 a5) (h2 : A2 a0 a1 a2 a3 a4 a5) (h3 : A3 a0 a1 a2 a3 a4 a5) (h4 : A4 a0 a1 a2 a3 a4 a5) : ∃ a0 a1 a2 a3 a4 a5, x = L a0 a1 a2 a3 a4 a5 ∧ A0 a0 a1 a2 a3 a4 a5 ∧ A1 a0 a1 a2 a3 a4 a5 ∧ A2 a0 a1 a2 a3 a4 a5 ∧ A3 a0 a1 a2 a3 a4 a5 ∧ A4 a0 a1 a2 a3 a4 a5 :=
  ⟨a0, a1, a2, a3, a4, a5, h, h0, h1, h2, h3, h4⟩
theorem in_7_3 {X α0 α1 α2 α3 α4 α5 α6 : Type} {x : X} {L : α0 → α1 → α2 → α3 → α4 → α5 → α6 → X} {A0 A1 A2 : α0 → α1 → α2 → α3 → α4 → α5 → α6 → Prop} {a0 : α0} {a1 : α1} {a2 : α2} {a3 : α3} {a4 : α4} {a5 : α5} {a6 : α6} (h : x = L a0 a1 a2 a3 a4 a5 a6) (h0 : A0 a0 a1 a2 a3 a4 a5 a6) (h1 : A1 a0 a1 a2 a3 a4 a5 a6) (h2 : A2 a0 a1 a2 a3 a4 a5 a6) : ∃ a0 a1 a2 a3 a4 a5 a6, x = L a0 a1 a2 a3 a4 a5 a6 ∧ A0 a0 a1 a2 a3 a4 a5 a6 ∧ A1 a0 a1 a2 a3 a4 a5 a6 ∧ A2 a0 a1 a2 a3 a4 a5 a6 :=
  ⟨a0, a1, a2, a3, a4, a5, a6, h, h0, h1, h2⟩
theorem in_7_8 {X α0 α1 α2 α3 α4 α5 α6 : Type} {x : X} {L : α0 → α1 → α2 → α3 → α4 → α5 → α6 → X} {A0 A1 A2 A3 A4 A5 A6 A7 : α0 → α1 → α2 → α3 → α4 → α5 → α6 → Prop} {a0 : α0} {a1 : α1} {a2 : α2} {a3 : α3} {a4 : α4} {a5 : α5} {a6 : α6} (h : x = L a0 a1 a2 a3 a4 a5 a6) (h0 : A0 a0 a1 a2 a3 a4 a5 a6) (h1 : A1 a0 a1 a2 a3 a4 a5 a6) (h2 : A2 a0 a1 a2 a3 a4 a5 a6) (h3 : A3 a0 a1 a2 a3 a4 a5 a6) (h4 : A4 a0 a1 a2 a3 a4 a5 a6) (h5 : A5 a0 a1 a2 a3 a4 a5 a6) (h6 : A6 a0 a1 a2 a3 a4 a5 a6) (h7 : A7 a0 a1 a2 a3 a4 a5 a6) : ∃ a0 a1 a2 a3 a4 a5 a6, x = L a0 a1 a2 a3 a4 a5 a6 ∧ A0 a0 a1 a2 a3 a4 a5 a6 ∧ A1 a0 a1 a2 a3 a4 a5 a6 ∧ A2 a0 a1 a2 a3 a4 a5 a6 ∧ A3 a0 a1 a2 a3 a4 a5 a6 ∧ A4 a0 a1 a2 a3 a4 a5 a6 ∧ A5 a0 a1 a2 a3 a4 a5 a6 ∧ A6 a0 a1 a2 a3 a4 a5 a6 ∧ A7 a0 a1 a2 a3 a4 a5 a6 :=
  ⟨a0, a1, a2, a3, a4, a5, a6, h, h0, h1, h2, h3, h4, h5, h6, h7⟩
theorem in_9_4 {X α0 α1 α2 α3 α4 α5 α6 α7 α8 : Type} {x : X} {L : α0 → α1 → α2 → α3 → α4 → α5 → α6 → α7 → α8 → X} {A0 A1 A2 A3 : α0 → α1 → α2 → α3 → α4 → α5 → α6 → α7 → α8 → Prop} {a0 : α0} {a1 : α1} {a2 : α2} {a3 : α3} {a4 : α4} {a5 : α5} {a6 : α6} {a7 : α7} {a8 : α8} (h : x = L a0 a1 a2 a3 a4 a5 a6 a7 a8) (h0 : A0 a0 a1 a2 a3 a4 a5 a6 a7 a8) (h1 : A1 a0 a1 a2 a3 a4 a5 a6 a7 a8) (h2 : A2 a0 a1 a2 a3 a4 a5 a6 a7 a8) (h3 : A3 a0 a1 a2 a3 a4 a5 a6 a7 a8) : ∃ a0 a1 a2 a3 a4 a5 a6 a7 a8, x = L a0 a1 a2 a3 a4 a5 a6 a7 a8 ∧ A0 a0 a1 a2 a3 a4 a5 a6 a7 a8 ∧ A1 a0 a1 a2 a3 a4 a5 a6 a7 a8 ∧ A2 a0 a1 a2 a3 a4 a5 a6 a7 a8 ∧ A3 a0 a1 a2 a3 a4 a5 a6 a7 a8 :=
  ⟨a0, a1, a2, a3, a4, a5, a6, a7, a8, h, h0, h1, h2, h3⟩
theorem in_9_5 {X α0 α1 α2 α3 α4 α5 α6 α7 α8 : Type} {x : X} {L : α0 → α1 → α2 → α3 → α4 → α5 → α6 → α7 → α8 → X} {A0 A1 A2 A3 A4 : α0 → α1 → α2 → α3 → α4 → α5 → α6 → α7 → α8 → Prop} {a0 : α0} {a1 : α1} {a2 : α2} {a3 : α3} {a4 : α4} {a5 : α5} {a6 : α6} {a7 : α7} {a8 : α8} (h : x = L a0 a1 a2 a3 a4 a5 a6 a7 a8) (h0 : A0 a0 a1 a2 a3 a4 a5 a6 a7 a8) (h1 : A1 a0 a1 a2 a3 a4 a5 a6 a7 a8) (h2 : A2 a0 a1 a2 a3 a4 a5 a6 a7 a8) (h3 : A3 a0 a1 a2 a3 a4 a5 a6 a7 a8) (h4 : A4 a0 a1 a2 a3 a4 a5 a6 a7 a8) : ∃ a0 a1 a2 a3 a4 a5 a6 a7 a8, x = L a0 a1 a2 a3 a4 a5 a6 a7 a8 ∧ A0 a0 a1 a2 a3 a4 a5 a6 a7 a8 ∧ A1 a0 a1 a2 a3 a4 a5 a6 a7 a8 ∧ A2 a0 a1 a2 a3 a4 a5 a6 a7 a8 ∧ A3 a0 a1 a2 a3 a4 a5 a6 a7 a8 ∧ A4 a0 a1 a2 a3 a4 a5 a6 a7 a8 :=
  ⟨a0, a1, a2, a3, a4, a5, a6, a7, a8, h, h0, h1, h2, h3, h4⟩
end Mine

end
section
set_option autoImplicit false
set_option linter.unusedVariables false
set_option linter.unusedSimpArgs false
namespace Mine
open PySem
theorem len_script (scr : List Int) (H : Hp) : biV scr .len [.script] H = .ok (.int scr.length) H := by
  show R.ok (V.int ((scr.map V.int).length : Int)) H = _
  rw [List.length_map]
theorem idx_script (scr : List Int) (k : Int) (H : Hp) : idxV scr .script (.int k) H = seqAt (scr.map .int) k := rfl
theorem bin_mul (a b : Int) (H : Hp) (h : mulOk a b = true) : binop .mul (.int a) (.int b) H = .ok (.int (a * b)) H := if_pos h
theorem bin_fdiv (a b : Int) (H : Hp) (h : b ≠ 0) : binop .fdiv (.int a) (.int b) H = .ok (.int (a.fdiv b)) H := if_neg h
theorem bin_mod (a b : Int) (H : Hp) (h : b ≠ 0) : binop .mod (.int a) (.int b) H = .ok (.int (a.fmod b)) H := if_neg h
theorem mulOk_small (a b : Int) (h : a.natAbs < 2 ^ 64 ∨ b.natAbs < 2 ^ 64) : mulOk a b = true := by
  have key : ∀ x : Int, x.natAbs < 2 ^ 64 → Builtin.Int.intBits x ≤ 64 := by
    intro x hx
    unfold Builtin.Int.intBits
    split
    · (first | lia | omega)
    · rename_i h0
      have h0' : x.natAbs ≠ 0 := by
        intro e
        apply h0
        simp only [beq_iff_eq]
        (first | lia | omega)
      have := (Nat.log2_lt h0').mpr hx
      (first | lia | omega)
  unfold mulOk shortFactorBits
  rcases h with h | h
  · have := key a h
    simp [Nat.not_lt.mpr this]
  · have := key b h
    simp [Nat.not_lt.mpr this]
noncomputable def WFor (C : Ctx) (t : Tgt) (body : List S) (ws : List Nat) (H₀ : Hp) (vs : List V) (ρ : Env') (H : Hp) (K : Out → Prop) : Prop := forW ws H₀ t (fun ρ H K => WSs C body ρ H K) vs ρ H K
noncomputable def WComp (C : Ctx) (t : Tgt) (cs : List E) (elt : E) (ws : List Nat) (H₀ : Hp) (vs : List V) (ρ : Env') (H : Hp) (Q : V → Hp → Prop) : Prop := szOk vs = true ∧ compW ws H₀ t (fun ρ H Q => WT C cs ρ H Q) (fun ρ H Q => WE C elt ρ H Q) vs ρ H [] fun vs H => Q (.ref H.length) (H ++ [.list vs])
/-- guards: what comes behind is held fast by the last argument, so that a rewriting goes by the head alone -/
inductive DF {α : Type} (a : α) : Type
  | mk
inductive DF2 (A B : Prop) : Type
  | mk
noncomputable def gSome {α : Type} (o : Option α) (f : α → Prop) (_ : DF f) : Prop := wSome o f
noncomputable def gInt (x : V) (f : Int → Prop) (_ : DF f) : Prop := wInt x f
noncomputable def gRange (x y : V) (f : List V → Prop) (_ : DF f) : Prop := wRange x y f
noncomputable def gIf (t : Bool) (A B : Prop) (_ : DF2 A B) : Prop := wIf t A B
noncomputable def gCall (C : Ctx) (f : Nat) (vs : List V) (H : Hp) (Q : V → Hp → Prop) (_ : DF Q) : Prop := WCall C f vs H Q
noncomputable def gBin (op : BOp) (x y : V) (H : Hp) (Q : V → Hp → Prop) (_ : DF Q) : Prop := WBin op x y H Q
noncomputable def gBi (scr : List Int) (b : Bi) (vs : List V) (H : Hp) (Q : V → Hp → Prop) (_ : DF Q) : Prop := WBi scr b vs H Q
noncomputable def gMeth (m : Me) (x : V) (vs : List V) (H : Hp) (Q : V → Hp → Prop) (_ : DF Q) : Prop := WMeth m x vs H Q
noncomputable def gAllocL (vs : List V) (H : Hp) (Q : V → Hp → Prop) (_ : DF Q) : Prop := WAllocL vs H Q
noncomputable def gSlc (scr : List Int) (x lo hi : V) (H : Hp) (Q : V → Hp → Prop) (_ : DF Q) : Prop := WSlc scr x lo hi H Q
noncomputable def gComp (C : Ctx) (t : Tgt) (cs : List E) (elt : E) (ws : List Nat) (H₀ : Hp) (vs : List V) (ρ : Env') (H : Hp) (Q : V → Hp → Prop) (_ : DF Q) : Prop := WComp C t cs elt ws H₀ vs ρ H Q
theorem wSome_some {α : Type} (a : α) (f : α → Prop) (u : DF f) : gSome (some a) f u = f a := rfl
theorem gSome_of {α : Type} {o : Option α} {a : α} {f : α → Prop} {u : DF f} (h : o = some a) (hf : f a) : gSome o f u := by subst h; exact hf
theorem wIf_t (A B : Prop) (u : DF2 A B) : gIf true A B u = A := rfl
theorem wIf_f (A B : Prop) (u : DF2 A B) : gIf false A B u = B := rfl
theorem wIf_split {t : Bool} {A B : Prop} {u : DF2 A B} (h : t = true → A) (h' : t = false → B) : gIf t A B u := by
  cases t
  · exact h' rfl
  · exact h rfl
theorem wRange_ok (i j : Int) (f : List V → Prop) (u : DF f) (h1 : -1152921504606846976 < i) (h2 : i < 1152921504606846976) (h3 : -1152921504606846976 < j) (h4 : j < 1152921504606846976) : gRange (.int i) (.int j) f u = f (rangeV i j) :=
  propext ⟨fun h => h.2, fun h => ⟨⟨by (first | lia | omega), by (first | lia | omega)⟩, h⟩⟩
section
variable (H : Hp) (Q : V → Hp → Prop) {u : DF Q}
theorem WBin_mulr (a b : Int) (h : -18446744073709551616 < b) (h' : b < 18446744073709551616) : gBin .mul (.int a) (.int b) H Q u = Q (.int (a * b)) H := by
  unfold gBin WBin; rw [bin_mul _ _ _ (mulOk_small _ _ (.inr (by (first | lia | omega))))]; rfl
theorem WBin_mull (a b : Int) (h : -18446744073709551616 < a) (h' : a < 18446744073709551616) : gBin .mul (.int a) (.int b) H Q u = Q (.int (a * b)) H := by
  unfold gBin WBin; rw [bin_mul _ _ _ (mulOk_small _ _ (.inl (by (first | lia | omega))))]; rfl
theorem WBin_fdiv (a b : Int) (h : 0 < b) : gBin .fdiv (.int a) (.int b) H Q u = Q (.int (a / b)) H := by
  unfold gBin WBin; rw [bin_fdiv _ _ _ (by (first | lia | omega)), Int.fdiv_eq_ediv_of_nonneg _ (by (first | lia | omega))]; rfl
theorem WBin_mod (a b : Int) (h : 0 < b) : gBin .mod (.int a) (.int b) H Q u = Q (.int (a % b)) H := by
  unfold gBin WBin; rw [bin_mod _ _ _ (by (first | lia | omega)), Int.fmod_eq_emod_of_nonneg _ (by (first | lia | omega))]; rfl
theorem onL_at {H : Hp} {l : Nat} {xs : List V} {f : List V → R V} (h : H[l]? = some (.list xs)) : onL H (.ref l) f = f xs := by simp only [onL, h]
theorem WBin_cat {l m : Nat} {xs ys : List V} (h : H[l]? = some (.list xs)) (h' : H[m]? = some (.list ys)) : gBin .add (.ref l) (.ref m) H Q u = gAllocL (xs ++ ys) H Q u := by
  show Wp (onL H (.ref l) fun xs => onL H (.ref m) fun ys => allocL (xs ++ ys) H) Q = _
  rw [onL_at h, onL_at h']; rfl
theorem WAllocL_ok (vs : List V) (h : vs.length < 16000000) : gAllocL vs H Q u = Q (.ref H.length) (H ++ [.list vs]) := by
  unfold gAllocL WAllocL allocL szOk; simp only [h, decide_true, if_true]; rfl
theorem WBi_lenS (scr : List Int) : gBi scr .len [.script] H Q u = Q (.int scr.length) H := by unfold gBi WBi; rw [len_script]; rfl
theorem WBi_lenL (scr : List Int) {l : Nat} {xs : List V} (h : H[l]? = some (.list xs)) : gBi scr .len [.ref l] H Q u = Q (.int xs.length) H := by
  have e : itemsOf scr H (.ref l) = some xs := by
    show (match H[l]? with | some (.list vs) => some vs | _ => none) = _
    rw [h]
  show Wp (onO (itemsOf scr H (.ref l)) fun l => R.ok (V.int l.length) H) Q = _
  rw [e]; rfl
theorem WMeth_app {l : Nat} {xs : List V} (v : V) (h : H[l]? = some (.list xs)) (h' : xs.length < 16000000) : gMeth .append (.ref l) [v] H Q u = Q .none (H.set l (.list (xs ++ [v]))) := by
  show Wp (onL H (.ref l) fun xs => bi1 [v] fun v => if szOk xs then .ok .none (H.set l (.list (xs ++ [v]))) else .stuck) Q = _
  rw [onL_at h]
  have : szOk xs = true := decide_eq_true h'
  show Wp (if szOk xs then .ok .none (H.set l (.list (xs ++ [v]))) else .stuck) Q = _
  rw [this]; rfl
theorem WSlc_lst (scr : List Int) {n : Nat} {xs : List V} (lo hi : V) {l h : Option Int} (hx : H[n]? = some (.list xs)) (hl : partOf lo = some l) (hh : partOf hi = some h) : gSlc scr (.ref n) lo hi H Q u = gAllocL (pySlice xs l h) H Q u := by
  unfold gSlc gAllocL WSlc WAllocL slcV itemsOf; simp only [hl, hh, hx]
theorem meKind_app {l : Nat} {xs : List V} (h : H[l]? = some (.list xs)) : meKind .append H (.ref l) = true := by simp [meKind, isListB, h]
theorem lstOf_lst (scr : List Int) {l : Nat} {xs : List V} (h : H[l]? = some (.list xs)) : lstOf scr H (.ref l) = some xs := by
  show (match H[l]? with | some (.list vs) => some vs | _ => none) = _
  rw [h]
theorem itemsOf_lst (scr : List Int) {l : Nat} {xs : List V} (h : H[l]? = some (.list xs)) : itemsOf scr H (.ref l) = some xs := by
  show (match H[l]? with | some (.list vs) => some vs | _ => none) = _
  rw [h]
theorem idx_lst (scr : List Int) {l : Nat} {xs : List V} (k : Int) (h : H[l]? = some (.list xs)) : idxV scr (.ref l) (.int k) H = seqAt xs k := by simp [idxV, ofInt, itemsOf, h]
theorem setIdx_lst {l : Nat} {xs : List V} (k : Int) (v : V) (h : H[l]? = some (.list xs)) (h0 : 0 ≤ k) (h1 : k < xs.length) : setIdxV (.ref l) (.int k) v H = some (H.set l (.list (xs.set k.toNat v))) := by simp [setIdxV, ofInt, h, h0, h1]
theorem dictOf_at {l : Nat} {es : List (Int × V)} (h : H[l]? = some (.dict es)) : dictOf H (.ref l) = some es := by simp [dictOf, h]
theorem dictOf_lst {l : Nat} {xs : List V} (h : H[l]? = some (.list xs)) : dictOf H (.ref l) = none := by simp [dictOf, h]
theorem idx_dct (scr : List Int) {l : Nat} {es : List (Int × V)} (k : Int) (h : H[l]? = some (.dict es)) : idxV scr (.ref l) (.int k) H = dget es k := by simp [idxV, ofInt, itemsOf, dictOf, h]
theorem setIdx_dct {l : Nat} {es : List (Int × V)} (k : Int) (v : V) (h : H[l]? = some (.dict es)) (h1 : es.length < 16000000) : setIdxV (.ref l) (.int k) v H = some (H.set l (.dict (dput es k v))) := by simp [setIdxV, ofInt, h, szOk, h1]
theorem in_dct {scr : List Int} {l : Nat} {es : List (Int × V)} (k : Int) (h : H[l]? = some (.dict es)) : cmpV scr .isIn (.int k) (.ref l) H = some (es.any fun p => decide (p.1 = k)) := by simp [cmpV, inV, dictOf, ofInt, h]
theorem meKind_get {l : Nat} {es : List (Int × V)} (h : H[l]? = some (.dict es)) : meKind .get2 H (.ref l) = true := by simp [meKind, isDictB, dictOf, h]
theorem WMeth_get {l : Nat} {es : List (Int × V)} (k : Int) (d : V) (h : H[l]? = some (.dict es)) : gMeth .get2 (.ref l) [.int k, d] H Q u = Q ((dget es k).getD d) H := by
  show Wp (onO (dictOf H (.ref l)) fun es => bi2 [.int k, d] fun k d => onInt k fun k => .ok ((dget es k).getD d) H) Q = _
  rw [dictOf_at H h]; rfl
theorem keysOf_dct (scr : List Int) {l : Nat} {es : List (Int × V)} (h : H[l]? = some (.dict es)) : keysOf scr H (.ref l) = some (es.map fun p => .int p.1) := by simp [keysOf, dictOf, h]
theorem keysOf_lst (scr : List Int) {l : Nat} {xs : List V} (h : H[l]? = some (.list xs)) : keysOf scr H (.ref l) = some xs := by simp [keysOf, dictOf, itemsOf, h]
theorem keysOf_tup (scr : List Int) (xs : List V) : keysOf scr H (.tup xs) = some xs := rfl
theorem WBi_sum (scr : List Int) {l : Nat} {is : List Int} (h : H[l]? = some (.list (is.map .int))) : gBi scr .sumI [.ref l] H Q u = Q (.int is.sum) H := by
  have e : ∀ is : List Int, allInts (is.map .int) = some is := by
    intro is
    induction is with
    | nil => rfl
    | cons a r ih => rw [List.map_cons, allInts, ih]; rfl
  show Wp (onL H (.ref l) fun l => onO (allInts l) fun is => R.ok (V.int is.sum) H) Q = _
  rw [onL_at h, e]; rfl
end
noncomputable def thenK (C : Ctx) (r : List S) (K : Out → Prop) (o : Out) : Prop := wThen o (fun ρ H => WSs C r ρ H K) (K o)
section
variable (C : Ctx) (ρ : Env') (H : Hp) (Q : V → Hp → Prop) (K : Out → Prop)
theorem WE_var (i : Nat) : WE C (.var i) ρ H Q = gSome (ρ[i]?.join) (fun v => Q v H) .mk := rfl
theorem WS_ife (c : E) (a b : List S) : WS C (.ife c a b) ρ H K = WE C c ρ H fun x H => wSome (truthy C.scr H x) fun t => wIf t (WSs C a ρ H K) (WSs C b ρ H K) := rfl
theorem WSs_nil : WSs C [] ρ H K = K (.next ρ H) := rfl
theorem WSs_cons (s : S) (r : List S) : WSs C (s :: r) ρ H K = WS C s ρ H (thenK C r K) := rfl
end
theorem loopK_next (K : Out → Prop) (N : Env' → Hp → Prop) (ρ : Env') (H : Hp) : loopK K N (.next ρ H) = N ρ H := rfl
/-- a part of a body, and what holds behind it -/
noncomputable def mid (J : Env' → Hp → Prop) (K : Out → Prop) (o : Out) : Prop := match o with
  | .next ρ H => J ρ H
  | o => K o
theorem WSs_append (C : Ctx) : ∀ (a b : List S) (ρ : Env') (H : Hp) (K : Out → Prop), WSs C (a ++ b) ρ H K = WSs C a ρ H (thenK C b K)
  | [], b, ρ, H, K => by rw [WSs_nil]; rfl
  | s :: a, b, ρ, H, K => by
    rw [List.cons_append, WSs_cons, WSs_cons]
    congr 1
    funext o
    cases o <;> first | rfl | exact WSs_append C a b _ _ K
theorem cutN (n : Nat) (J : Env' → Hp → Prop) {C : Ctx} {ss : List S} {ρ : Env'} {H : Hp} {K : Out → Prop} (h : WSs C (ss.take n) ρ H (mid J K)) (h' : ∀ ρ' H', J ρ' H' → WSs C (ss.drop n) ρ' H' K) : WSs C ss ρ H K := by
  have e : ss = ss.take n ++ ss.drop n := (List.take_append_drop n ss).symm
  rw [e, WSs_append]
  refine WSs_mono h ?_
  intro o ho
  cases o <;> first | exact ho | exact h' _ _ ho
/-- a part of a body that goes on -/
theorem cut (n : Nat) (J : Env' → Hp → Prop) {C : Ctx} {ss : List S} {ρ : Env'} {H : Hp} {K : Out → Prop} (h : WSs C (ss.take n) ρ H (mid J fun _ => False)) (h' : ∀ ρ' H', J ρ' H' → WSs C (ss.drop n) ρ' H' K) : WSs C ss ρ H K := by
  refine cutN n J (WSs_mono h ?_) h'
  intro o ho
  cases o <;> first | exact ho | exact ho.elim
theorem call_of {scr : List Int} {gks : List V} {fns : List Fn} {n : Nat} {f : Nat} {vs : List V} {H : Hp} {Q Q' : V → Hp → Prop} (h : callW scr gks fns n f vs H Q) {u : DF Q'} (h' : ∀ a H, Q a H → Q' a H) : gCall ⟨scr, gks, callW scr gks fns n⟩ f vs H Q' u := ⟨Q, h, h'⟩
theorem wIf_q {t : Bool} (H : Hp) {Q : Bool → Hp → Prop} {u : DF2 (Q true H) (Q false H)} (h : Q t H) : gIf t (Q true H) (Q false H) u := by
  cases t
  · rw [wIf_f]; exact h
  · exact h
theorem if_cut (J : Bool → Hp → Prop) {C : Ctx} {c : E} {a b r : List S} {ρ : Env'} {H : Hp} {K : Out → Prop} (hc : WE C c ρ H fun x H' => gSome (truthy C.scr H' x) (fun t => J t H') .mk)
    (ht : ∀ H', J true H' → WSs C a ρ H' (thenK C r K)) (hf : ∀ H', J false H' → WSs C b ρ H' (thenK C r K)) : WSs C (.ife c a b :: r) ρ H K := by
  rw [WSs_cons, WS_ife]
  refine WE_mono hc ?_
  intro x H' h
  cases ht' : truthy C.scr H' x with
  | none => rw [ht'] at h; exact h.elim
  | some t =>
    rw [ht'] at h
    cases t with
    | false => exact hf H' h
    | true => exact ht H' h
theorem ed00 (C : Ctx) (ρ : Env') (H : Hp) (Q : V → Hp → Prop) (v : V) : WE C (.k v) ρ H Q = Q v H := rfl
theorem ed01 (C : Ctx) (ρ : Env') (H : Hp) (Q : V → Hp → Prop) (i : Nat) : WE C (.var i) ρ H Q = gSome (ρ[i]?.join) (fun v => Q v H) .mk := rfl
theorem ed03 (C : Ctx) (ρ : Env') (H : Hp) (Q : V → Hp → Prop) (op : BOp) (a b : E) : WE C (.bin op a b) ρ H Q = WE C a ρ H fun x H => WE C b ρ H fun y H => gBin op x y H Q .mk := rfl
theorem ed04 (C : Ctx) (ρ : Env') (H : Hp) (Q : V → Hp → Prop) (a : E) : WE C (.neg a) ρ H Q = WE C a ρ H fun x H => gInt x (fun i => Q (.int (-i)) H) .mk := rfl
theorem ed05 (C : Ctx) (ρ : Env') (H : Hp) (Q : V → Hp → Prop) (a : E) : WE C (.not a) ρ H Q = WE C a ρ H fun x H => gSome (truthy C.scr H x) (fun b => Q (.bool (!b)) H) .mk := rfl
theorem ed06 (C : Ctx) (ρ : Env') (H : Hp) (Q : V → Hp → Prop) (es : List E) : WE C (.and es) ρ H Q = WAnd C es ρ H Q := rfl
theorem ed07 (C : Ctx) (ρ : Env') (H : Hp) (Q : V → Hp → Prop) (es : List E) : WE C (.or es) ρ H Q = WOr C es ρ H Q := rfl
theorem ed09 (C : Ctx) (ρ : Env') (H : Hp) (Q : V → Hp → Prop) (op : COp) (a b : E) : WE C (.cmp op a b) ρ H Q = WE C a ρ H fun x H => WE C b ρ H fun y H => gSome (cmpV C.scr op x y H) (fun t => Q (.bool t) H) .mk := rfl
theorem ed11 (C : Ctx) (ρ : Env') (H : Hp) (Q : V → Hp → Prop) (a : E) : WE C (.isNone a) ρ H Q = WE C a ρ H fun x H => Q (.bool (isNoneV x)) H := rfl
theorem ed12 (C : Ctx) (ρ : Env') (H : Hp) (Q : V → Hp → Prop) (a : E) : WE C (.notNone a) ρ H Q = WE C a ρ H fun x H => Q (.bool (!isNoneV x)) H := rfl
theorem ed13 (C : Ctx) (ρ : Env') (H : Hp) (Q : V → Hp → Prop) (es : List E) : WE C (.tup es) ρ H Q = WEs C es ρ H fun vs H => Q (.tup vs) H := rfl
theorem ed14 (C : Ctx) (ρ : Env') (H : Hp) (Q : V → Hp → Prop) (es : List E) : WE C (.lst es) ρ H Q = WEs C es ρ H fun vs H => Q (.ref H.length) (H ++ [.list vs]) := rfl
theorem ed15 (C : Ctx) (ρ : Env') (H : Hp) (Q : V → Hp → Prop) (a i : E) : WE C (.idx a i) ρ H Q = WE C a ρ H fun x H => WE C i ρ H fun y H => gSome (idxV C.scr x y H) (fun v => Q v H) .mk := rfl
theorem ed16 (C : Ctx) (ρ : Env') (H : Hp) (Q : V → Hp → Prop) (a : E) (lo hi : Option E) : WE C (.slc a lo hi) ρ H Q = WE C a ρ H fun x H => WO C lo ρ H fun l H => WO C hi ρ H fun h H => gSlc C.scr x l h H Q .mk := rfl
theorem ed17 (C : Ctx) (ρ : Env') (H : Hp) (Q : V → Hp → Prop) (f : Nat) (es : List E) : WE C (.call f es) ρ H Q = WEs C es ρ H fun vs H => gCall C f vs H Q .mk := rfl
theorem ed18 (C : Ctx) (ρ : Env') (H : Hp) (Q : V → Hp → Prop) (b : Bi) (es : List E) : WE C (.bi b es) ρ H Q = WEs C es ρ H fun vs H => gBi C.scr b vs H Q .mk := rfl
theorem ed20 (C : Ctx) (ρ : Env') (H : Hp) (Q : V → Hp → Prop) (m : Me) (a : E) (es : List E) : WE C (.meth m a es) ρ H Q = WE C a ρ H fun x H => gIf (meKind m H x) (WEs C es ρ H fun vs H => gMeth m x vs H Q .mk) False .mk := rfl
theorem ed21 (C : Ctx) (ρ : Env') (H : Hp) (Q : V → Hp → Prop) (e : E) : WE C (.listOf e) ρ H Q = WE C e ρ H fun x H => gSome (keysOf C.scr H x) (fun vs => gAllocL vs H Q .mk) .mk := rfl
theorem ed22 (C : Ctx) (ρ : Env') (H : Hp) (Q : V → Hp → Prop) (e : E) : WE C (.listR e) ρ H Q = WE C e ρ H fun x H => gInt x (fun j => (0 ≤ j ∧ j < 16000000) ∧ Q (.ref H.length) (H ++ [.list (rangeV 0 j)])) .mk := rfl
theorem ed08 (C : Ctx) (ρ : Env') (H : Hp) (Q : V → Hp → Prop) : WE C .dct0 ρ H Q = Q (.ref H.length) (H ++ [.dict []]) := rfl
theorem ed10 (C : Ctx) (ρ : Env') (H : Hp) (Q : V → Hp → Prop) (a b : E) : WE C (.dct1 a b) ρ H Q = WE C a ρ H fun x H => WE C b ρ H fun y H => gInt x (fun k => Q (.ref H.length) (H ++ [.dict [(k, y)]])) .mk := rfl
theorem ed23 (C : Ctx) (ρ : Env') (H : Hp) (Q : V → Hp → Prop) (nl : Nat) (elt : E) (t : Tgt) (it : It) (cs : List E) : WE C (.comp nl elt t it cs) ρ H Q = WIt C it ρ H fun p H => gComp C t cs elt p.2 H p.1 (List.replicate nl none ++ ρ) H Q .mk := rfl
theorem ed24 (C : Ctx) (ρ : Env') (H : Hp) (Q : List V → Hp → Prop) : WEs C [] ρ H Q = Q [] H := rfl
theorem ed25 (C : Ctx) (ρ : Env') (H : Hp) (e : E) (r : List E) (Q : List V → Hp → Prop) : WEs C (e :: r) ρ H Q = WE C e ρ H fun v H => WEs C r ρ H fun vs H => Q (v :: vs) H := rfl
theorem ed26 (C : Ctx) (ρ : Env') (H : Hp) (Q : V → Hp → Prop) : WO C none ρ H Q = Q .none H := rfl
theorem ed27 (C : Ctx) (ρ : Env') (H : Hp) (Q : V → Hp → Prop) (e : E) : WO C (some e) ρ H Q = WE C e ρ H Q := rfl
theorem ed28 (C : Ctx) (ρ : Env') (H : Hp) (Q : V → Hp → Prop) (e : E) : WAnd C [e] ρ H Q = WE C e ρ H Q := rfl
theorem ed29 (C : Ctx) (ρ : Env') (H : Hp) (Q : V → Hp → Prop) (e f : E) (r : List E) : WAnd C (e :: f :: r) ρ H Q = WE C e ρ H fun x H => gSome (truthy C.scr H x) (fun t => gIf t (WAnd C (f :: r) ρ H Q) (Q x H) .mk) .mk := rfl
theorem ed30 (C : Ctx) (ρ : Env') (H : Hp) (Q : V → Hp → Prop) (e : E) : WOr C [e] ρ H Q = WE C e ρ H Q := rfl
theorem ed31 (C : Ctx) (ρ : Env') (H : Hp) (Q : V → Hp → Prop) (e f : E) (r : List E) : WOr C (e :: f :: r) ρ H Q = WE C e ρ H fun x H => gSome (truthy C.scr H x) (fun t => gIf t (Q x H) (WOr C (f :: r) ρ H Q) .mk) .mk := rfl
theorem ed32 (C : Ctx) (ρ : Env') (H : Hp) (Q : Bool → Hp → Prop) : WT C [] ρ H Q = Q true H := rfl
theorem ed33 (C : Ctx) (ρ : Env') (H : Hp) (e : E) (r : List E) (Q : Bool → Hp → Prop) : WT C (e :: r) ρ H Q = WE C e ρ H fun x H => gSome (truthy C.scr H x) (fun t => gIf t (WT C r ρ H Q) (Q false H) .mk) .mk := rfl
theorem ed34 (C : Ctx) (ρ : Env') (H : Hp) (e : E) (Q : List V × List Nat → Hp → Prop) : WIt C (.of e) ρ H Q = WE C e ρ H fun x H => gSome (itemsOf C.scr H x) (fun vs => Q (vs, watch x) H) .mk := rfl
theorem ed35 (C : Ctx) (ρ : Env') (H : Hp) (e : E) (Q : List V × List Nat → Hp → Prop) : WIt C (.enum e) ρ H Q = WE C e ρ H fun x H => gSome (lstOf C.scr H x) (fun vs => Q (enumV 0 vs, watch x) H) .mk := rfl
theorem ed36 (C : Ctx) (ρ : Env') (H : Hp) (a b : E) (Q : List V × List Nat → Hp → Prop) : WIt C (.range a b) ρ H Q = WE C a ρ H fun x H => WE C b ρ H fun y H => gRange x y (fun l => Q (l, []) H) .mk := rfl
theorem ed43 (C : Ctx) (ρ : Env') (H : Hp) (Q : V → Hp → Prop) (j : Nat) : WE C (.gk j) ρ H Q = gSome C.gks[j]? (fun v => Q v H) .mk := rfl
theorem ed44 (C : Ctx) (ρ : Env') (H : Hp) (a b : E) (Q : List V × List Nat → Hp → Prop) : WIt C (.zip a b) ρ H Q = WE C a ρ H fun x H => WE C b ρ H fun y H => gSome (lstOf C.scr H x) (fun vs => gSome (lstOf C.scr H y) (fun us => vs.length ≤ us.length ∧ Q (zipV vs us, H.length :: (watch x ++ watch y)) (H ++ [.hid])) .mk) .mk := rfl
theorem ed37 (C : Ctx) (ρ : Env') (H : Hp) (K : Out → Prop) (e : E) : WS C (.expr e) ρ H K = WE C e ρ H fun _ H => K (.next ρ H) := rfl
theorem ed38 (C : Ctx) (ρ : Env') (H : Hp) (K : Out → Prop) (t : Tgt) (e : E) : WS C (.asg t e) ρ H K = WE C e ρ H fun v H => gSome (asg t v ρ) (fun ρ' => K (.next ρ' H)) .mk := rfl
theorem ed39 (C : Ctx) (ρ : Env') (H : Hp) (K : Out → Prop) (a i e : E) : WS C (.setIdx a i e) ρ H K = WE C e ρ H fun v H => WE C a ρ H fun x H => WE C i ρ H fun k H => gSome (setIdxV x k v H) (fun H' => K (.next ρ H')) .mk := rfl
theorem ed40 (C : Ctx) (ρ : Env') (H : Hp) (K : Out → Prop) (e : E) : WS C (.ret e) ρ H K = WE C e ρ H fun v H => K (.ret v H) := rfl
theorem ed41 (C : Ctx) (ρ : Env') (H : Hp) (K : Out → Prop) (c : E) (a b : List S) : WS C (.ife c a b) ρ H K = WE C c ρ H fun x H => gSome (truthy C.scr H x) (fun t => gIf t (WSs C a ρ H K) (WSs C b ρ H K) .mk) .mk := rfl
theorem ed42 (C : Ctx) (ρ : Env') (H : Hp) (K : Out → Prop) (t : Tgt) (it : It) (body : List S) : WS C (.for t it body) ρ H K = WIt C it ρ H fun p H => WFor C t body p.2 H p.1 ρ H K := rfl
theorem ed46 (C : Ctx) (ρ : Env') (H : Hp) (K : Out → Prop) : WSs C [] ρ H K = K (.next ρ H) := rfl
theorem ed47 (C : Ctx) (ρ : Env') (H : Hp) (K : Out → Prop) (s : S) (r : List S) : WSs C (s :: r) ρ H K = WS C s ρ H (thenK C r K) := rfl
theorem eu00 {α : Type} (a : α) (f : α → Prop) (u : DF f) : gSome (some a) f u = f a := rfl
theorem eu01 (A B : Prop) (u : DF2 A B) : gIf true A B u = A := rfl
theorem eu02 : type_of% @wIf_f := @wIf_f
theorem eu03 (i : Int) (f : Int → Prop) (u : DF f) : gInt (.int i) f u = f i := rfl
theorem eu04 : type_of% @wRange_ok := @wRange_ok
theorem eu05 (C : Ctx) (r : List S) (K : Out → Prop) (ρ : Env') (H : Hp) : thenK C r K (.next ρ H) = WSs C r ρ H K := rfl
theorem eu06 (C : Ctx) (r : List S) (K : Out → Prop) (v : V) (H : Hp) : thenK C r K (.ret v H) = K (.ret v H) := rfl
theorem eu09 (Q : V → Hp → Prop) (v : V) (H : Hp) : retK Q (.ret v H) = Q v H := rfl
theorem eu10 (Q : V → Hp → Prop) (ρ : Env') (H : Hp) : retK Q (.next ρ H) = Q .none H := rfl
theorem eu11 (K : Out → Prop) (N : Env' → Hp → Prop) (ρ : Env') (H : Hp) : loopK K N (.next ρ H) = N ρ H := rfl
theorem eu14 (J : Env' → Hp → Prop) (K : Out → Prop) (ρ : Env') (H : Hp) : mid J K (.next ρ H) = J ρ H := rfl
theorem eu15 (J : Env' → Hp → Prop) (K : Out → Prop) (v : V) (H : Hp) : mid J K (.ret v H) = K (.ret v H) := rfl
theorem eu18 (K : Out → Prop) (N : Env' → Hp → Prop) (v : V) (H : Hp) : loopK K N (.ret v H) = K (.ret v H) := rfl
theorem eu19 (H : Hp) (Q : V → Hp → Prop) (a b : Int) (u : DF Q) : gBin .add (.int a) (.int b) H Q u = Q (.int (a + b)) H := rfl
theorem eu20 (H : Hp) (Q : V → Hp → Prop) (a b : Int) (u : DF Q) : gBin .sub (.int a) (.int b) H Q u = Q (.int (a - b)) H := rfl
theorem eu21 : type_of% @WBin_mulr := @WBin_mulr
theorem eu22 : type_of% @WBin_mull := @WBin_mull
theorem eu23 : type_of% @WBin_fdiv := @WBin_fdiv
theorem eu24 : type_of% @WBin_mod := @WBin_mod
theorem eu25 : type_of% @WAllocL_ok := @WAllocL_ok
theorem eu26 (H : Hp) (Q : V → Hp → Prop) (scr : List Int) (vs : List V) (u : DF Q) : gBi scr .len [.tup vs] H Q u = Q (.int vs.length) H := rfl
theorem eu27 : type_of% @WBi_lenS := @WBi_lenS
theorem eu32 (H : Hp) (scr : List Int) (vs : List V) : itemsOf scr H (.tup vs) = some vs := rfl
theorem eu28 (H : Hp) (Q : V → Hp → Prop) (scr : List Int) (i : Int) (u : DF Q) : gBi scr .isInt [.int i] H Q u = Q (.bool true) H := rfl
theorem eu30 (H : Hp) (Q : V → Hp → Prop) (scr : List Int) (vs : List V) (u : DF Q) : gBi scr .isTuple [.tup vs] H Q u = Q (.bool true) H := rfl
theorem eu31 (H : Hp) (Q : V → Hp → Prop) (scr : List Int) (i : Int) (u : DF Q) : gBi scr .isBool [.int i] H Q u = Q (.bool false) H := rfl
theorem eu29 (H : Hp) (Q : V → Hp → Prop) (scr : List Int) (b : Bool) (u : DF Q) : gBi scr .isBool [.bool b] H Q u = Q (.bool true) H := rfl
theorem eu33 (scr : List Int) (H : Hp) : truthy scr H .none = some false := rfl
theorem eu34 (scr : List Int) (H : Hp) (b : Bool) : truthy scr H (.bool b) = some b := rfl
theorem eu35 (scr : List Int) (H : Hp) (i : Int) : truthy scr H (.int i) = some (i != 0) := rfl
theorem eu36 (scr : List Int) (H : Hp) (vs : List V) : truthy scr H (.tup vs) = some (!vs.isEmpty) := rfl
theorem eu37 (scr : List Int) (vs : List V) (k : Int) (H : Hp) : idxV scr (.tup vs) (.int k) H = seqAt vs k := rfl
theorem eu38 (v : V) (vs : List V) : seqAt (v :: vs) 0 = some v := rfl
theorem eu39 (v u : V) (vs : List V) : seqAt (v :: u :: vs) 1 = some u := rfl
theorem eu40 (v u w : V) (vs : List V) : seqAt (v :: u :: w :: vs) 2 = some w := rfl
theorem eu41 (v u w x : V) (vs : List V) : seqAt (v :: u :: w :: x :: vs) 3 = some x := rfl
theorem eu42 (scr : List Int) (a b : Int) (H : Hp) : cmpV scr .lt (.int a) (.int b) H = some (decide (a < b)) := rfl
theorem eu43 (scr : List Int) (a b : Int) (H : Hp) : cmpV scr .le (.int a) (.int b) H = some (decide (a ≤ b)) := rfl
theorem eu44 (scr : List Int) (a b : Int) (H : Hp) : cmpV scr .gt (.int a) (.int b) H = some (decide (a > b)) := rfl
theorem eu46 (scr : List Int) (a b : Int) (H : Hp) : cmpV scr .eq (.int a) (.int b) H = some (a == b) := rfl
theorem eu47 (scr : List Int) (a b : Int) (H : Hp) : cmpV scr .ne (.int a) (.int b) H = some (!(a == b)) := rfl
theorem eu48 (i : Nat) (v : V) (ρ : Env') : asg (.var i) v ρ = if i < ρ.length then some (ρ.set i (some v)) else none := rfl
theorem eu49 (ts : List Tgt) (vs : List V) (ρ : Env') : asg (.tup ts) (.tup vs) ρ = asgs ts vs ρ := rfl
theorem eu50 (ρ : Env') : asgs [] [] ρ = some ρ := rfl
theorem eu51 (t : Tgt) (ts : List Tgt) (v : V) (vs : List V) (ρ : Env') : asgs (t :: ts) (v :: vs) ρ = (asg t v ρ).bind (asgs ts vs) := rfl
theorem eo00 {α β : Type} (a : α) (f : α → Option β) : (some a).bind f = f a := rfl
theorem eo01 {α : Type} (a : α) (l : List α) (i : Nat) : (a :: l)[i + 1]? = l[i]? := rfl
theorem eo02 {α : Type} (a : α) (l : List α) : (a :: l)[0]? = some a := rfl
theorem eo03 {α : Type} (a : Option α) : (some a).join = a := rfl
theorem eo04 {α : Type} (a b : α) (l : List α) (i : Nat) : (a :: l).set (i + 1) b = a :: l.set i b := rfl
theorem eo05 {α : Type} (a b : α) (l : List α) : (a :: l).set 0 b = b :: l := rfl
theorem eo06 {α : Type} (a : α) (l : List α) : (a :: l).length = l.length + 1 := rfl
theorem eo07 {α : Type} : ([] : List α).length = 0 := rfl
theorem eo08 {α : Type} (a : α) (l m : List α) : (a :: l) ++ m = a :: (l ++ m) := rfl
theorem eo09 {α : Type} (l : List α) : [] ++ l = l := rfl
theorem eo10 : (!true) = false := rfl
theorem eo11 : (!false) = true := rfl
theorem eo12 {α : Type} (a : α) (l : List α) (i : Nat) : (a :: l).take (i + 1) = a :: l.take i := rfl
theorem eo13 {α : Type} (l : List α) : l.take 0 = [] := rfl
theorem eo14 {α : Type} (a : α) (l : List α) (i : Nat) : (a :: l).drop (i + 1) = l.drop i := rfl
theorem eo15 {α : Type} (l : List α) : l.drop 0 = l := rfl
theorem eo16 {α : Type} (a : α) (i : Nat) : List.replicate (i + 1) a = a :: List.replicate i a := rfl
theorem eo17 {α : Type} (a : α) : List.replicate 0 a = [] := rfl
theorem eo18 : ((2 : Nat) : Int) = 2 := rfl
theorem eo19 : ((3 : Nat) : Int) = 3 := rfl
theorem eo20 : ((1 : Nat) : Int) = 1 := rfl
end Mine

end
local macro_rules
  | `(tactic| open_line) => `(tactic| open_line with [Mine.eo20])
  | `(tactic| open_line with [$ts,*]) => `(tactic| try simp (disch := first | assumption | decide | lia | omega) only [↓Mine.ed00, ↓Mine.ed01, ↓Mine.ed03, ↓Mine.ed04, ↓Mine.ed05, ↓Mine.ed06, ↓Mine.ed07, ↓Mine.ed08, ↓Mine.ed09, ↓Mine.ed10, ↓Mine.ed11, ↓Mine.ed12, ↓Mine.ed13, ↓Mine.ed14, ↓Mine.ed15, ↓Mine.ed16, ↓Mine.ed17, ↓Mine.ed18, ↓Mine.ed20, ↓Mine.ed21, ↓Mine.ed22, ↓Mine.ed23, ↓Mine.ed24, ↓Mine.ed25, ↓Mine.ed26, ↓Mine.ed27, ↓Mine.ed28, ↓Mine.ed29, ↓Mine.ed30, ↓Mine.ed31, ↓Mine.ed32, ↓Mine.ed33, ↓Mine.ed34, ↓Mine.ed35, ↓Mine.ed36, ↓Mine.ed37, ↓Mine.ed38, ↓Mine.ed39, ↓Mine.ed40, ↓Mine.ed41, ↓Mine.ed42, ↓Mine.ed43, ↓Mine.ed44, ↓Mine.ed46, ↓Mine.ed47, Mine.eu00, Mine.eu01, Mine.eu02, Mine.eu03, Mine.eu04, ↓Mine.eu05, ↓Mine.eu06, ↓Mine.eu09, ↓Mine.eu10, ↓Mine.eu11, ↓Mine.eu14, ↓Mine.eu15, ↓Mine.eu18, Mine.eu19, Mine.eu20, Mine.eu21, Mine.eu22, Mine.eu23, Mine.eu24, Mine.eu25, Mine.eu26, Mine.eu27, Mine.eu28, Mine.eu29, Mine.eu30, Mine.eu31, Mine.eu32, Mine.eu33, Mine.eu34, Mine.eu35, Mine.eu36, Mine.eu37, Mine.eu38, Mine.eu39, Mine.eu40, Mine.eu41, Mine.eu42, Mine.eu43, Mine.eu44, Mine.eu46, Mine.eu47, Mine.eu48, Mine.eu49, Mine.eu50, Mine.eu51, Mine.eo00, Mine.eo01, Mine.eo02, Mine.eo03, Mine.eo04, Mine.eo05, Mine.eo06, Mine.eo07, Mine.eo08, Mine.eo09, Mine.eo10, Mine.eo11, Mine.eo12, Mine.eo13, Mine.eo14, Mine.eo15, Mine.eo16, Mine.eo17, Nat.reduceAdd, Nat.reduceLT, if_true, Bool.false_eq_true, reduceIte, Nat.zero_add, Nat.succ_eq_add_one, Int.reduceNeg, beq_self_eq_true, Mine.eo18, Mine.eo19, Mine.eo20, $[$ts:term],*])
local macro_rules
  | `(tactic| o_facts $_) => `(tactic| first | (refine Mine.gSome_of rfl ?_; try simp only [Mine.eo04, Mine.eo05]) | simp only [List.take_succ_cons, List.take_zero, List.drop_succ_cons, List.drop_zero])
section
set_option autoImplicit false
set_option linter.unusedVariables false
set_option linter.unusedSimpArgs false
namespace Mine
open PySem
/-- the cells below `n` stay -/
noncomputable def Kept (n : Nat) (H H' : Hp) : Prop := n ≤ H.length ∧ H.length ≤ H'.length ∧ ∀ l, l < n → H'[l]? = H[l]?
theorem Kept.refl {n : Nat} {H : Hp} (h : n ≤ H.length) : Kept n H H := ⟨h, Nat.le_refl _, fun _ _ => rfl⟩
theorem Kept.trans {n m : Nat} {H H' H'' : Hp} (h : Kept n H H') (h' : Kept m H' H'') (hm : n ≤ m) : Kept n H H'' := ⟨h.1, Nat.le_trans h.2.1 h'.2.1, fun l hl => (h'.2.2 l (by (first | lia | omega))).trans (h.2.2 l hl)⟩
theorem Kept.tr {n : Nat} {H H' H'' : Hp} (h : Kept n H H') (h' : Kept H'.length H' H'') : Kept n H H'' := h.trans h' (Nat.le_trans h.1 h.2.1)
theorem at_lt {H : Hp} {l : Nat} {c : Cell} (h : H[l]? = some c) : l < H.length := (List.getElem?_eq_some_iff.mp h).1
theorem Kept.at {n : Nat} {H H' : Hp} {l : Nat} {c : Cell} (h : Kept n H H') (ha : H[l]? = some c) (hl : l < n) : H'[l]? = some c := (h.2.2 l hl).trans ha
theorem Kept.at' {H H' : Hp} {l : Nat} {c : Cell} (h : Kept H.length H H') (ha : H[l]? = some c) : H'[l]? = some c := h.at ha (at_lt ha)
theorem Kept.app (H : Hp) (t : List Cell) : Kept H.length H (H ++ t) := ⟨Nat.le_refl _, by simp, fun l hl => by rw [List.getElem?_append_left hl]⟩
theorem at_new (H : Hp) (c : Cell) : (H ++ [c])[H.length]? = some c := by simp
theorem Kept.set {n : Nat} {H : Hp} {l : Nat} (c : Cell) (h : n ≤ l) (hn : n ≤ H.length) : Kept n H (H.set l c) := ⟨hn, by simp, fun k hk => by rw [List.getElem?_set_ne (by (first | lia | omega))]⟩
theorem at_set {H : Hp} {l : Nat} {c c' : Cell} (h : H[l]? = some c) : (H.set l c')[l]? = some c' := by rw [List.getElem?_set_self (at_lt h)]
theorem at_set_ne {H : Hp} {l m : Nat} {c c' : Cell} (h : H[m]? = some c) (hn : l ≠ m) : (H.set l c')[m]? = some c := by rw [List.getElem?_set_ne hn]; exact h
theorem at_app {H : Hp} {l : Nat} {c : Cell} (t : List Cell) (h : H[l]? = some c) : (H ++ t)[l]? = some c := by rw [List.getElem?_append_left (at_lt h)]; exact h

theorem stands_one {l : Nat} {H₀ H : Hp} (h : H[l]? = H₀[l]?) : stands [l] H₀ H = true := by simp [stands, h]
theorem stands_ref {l : Nat} {H₀ H : Hp} {c : Cell} (h : H[l]? = some c) (h' : H₀[l]? = some c) : stands (watch (.ref l)) H₀ H = true := stands_one (by rw [h, h'])

theorem for_aux {C : Ctx} {t : Tgt} {body : List S} {ws : List Nat} {H₀ : Hp} {K : Out → Prop} (vs : List V) (I : Nat → Env' → Hp → Prop)
    (step : ∀ k v, vs[k]? = some v → ∀ ρ H, I k ρ H → gSome (asg t v ρ) (fun ρ' => WSs C body ρ' H (loopK K fun ρ₁ H₁ => stands ws H₀ H₁ = true ∧ I (k + 1) ρ₁ H₁)) .mk)
    (fin : ∀ ρ H, I vs.length ρ H → K (.next ρ H)) : ∀ (m k : Nat) (ρ : Env') (H : Hp), k + m = vs.length → I k ρ H → WFor C t body ws H₀ (vs.drop k) ρ H K := by
  intro m
  induction m with
  | zero =>
    intro k ρ H hk hI
    have hk : k = vs.length := hk
    rw [hk, List.drop_length]
    exact fin ρ H (hk ▸ hI)
  | succ m ih =>
    intro k ρ H hk hI
    have hlt : k < vs.length := by (first | lia | omega)
    have e : vs.drop k = vs[k] :: vs.drop (k + 1) := List.drop_eq_getElem_cons hlt
    rw [e]
    exact wSome_mono (step k vs[k] (by simp [hlt]) ρ H hI) fun ρ' st => WSs_mono st (loopK_mono (fun _ h => h) fun ρ₁ H₁ h => ⟨h.1, ih (k + 1) ρ₁ H₁ (by (first | lia | omega)) h.2⟩)
/-- a loop, by what holds ahead of its k-th turn -/
theorem for_inv (I : Nat → Env' → Hp → Prop) {C : Ctx} {t : Tgt} {body : List S} {ws : List Nat} {H₀ H : Hp} {vs : List V} {ρ : Env'} {K : Out → Prop} (h0 : I 0 ρ H)
    (step : ∀ k v, vs[k]? = some v → ∀ ρ H, I k ρ H → gSome (asg t v ρ) (fun ρ' => WSs C body ρ' H (loopK K fun ρ₁ H₁ => stands ws H₀ H₁ = true ∧ I (k + 1) ρ₁ H₁)) .mk)
    (fin : ∀ ρ H, I vs.length ρ H → K (.next ρ H)) : WFor C t body ws H₀ vs ρ H K := for_aux vs I step fin vs.length 0 ρ H (by (first | lia | omega)) h0

theorem comp_aux {C : Ctx} {t : Tgt} {cs : List E} {elt : E} {ws : List Nat} {H₀ : Hp} {ρ : Env'} {nl : Nat} {Q : List V → Hp → Prop} (vs : List V) (env : V → Env') (I : Nat → List V → Hp → Prop)
    (he : ∀ v, v ∈ vs → (env v).length = nl ∧ ∀ pre : Env', pre.length = nl → asg t v (pre ++ ρ) = some (env v ++ ρ))
    (step : ∀ k v acc H, vs[k]? = some v → I k acc H → WT C cs (env v ++ ρ) H fun b H₁ => gIf b (WE C elt (env v ++ ρ) H₁ fun y H₂ => stands ws H₀ H₂ = true ∧ I (k + 1) (acc ++ [y]) H₂) (stands ws H₀ H₁ = true ∧ I (k + 1) acc H₁) .mk)
    (fin : ∀ acc H, acc.length ≤ vs.length → I vs.length acc H → Q acc H) : ∀ (m k : Nat) (pre : Env') (H : Hp) (acc : List V), k + m = vs.length → pre.length = nl → acc.length ≤ k → I k acc H →
      compW ws H₀ t (fun ρ H Q => WT C cs ρ H Q) (fun ρ H Q => WE C elt ρ H Q) (vs.drop k) (pre ++ ρ) H acc Q := by
  intro m
  induction m with
  | zero =>
    intro k pre H acc hk hp hl hI
    have hk : k = vs.length := hk
    subst hk
    rw [List.drop_length]
    exact fin acc H hl hI
  | succ m ih =>
    intro k pre H acc hk hp hl hI
    have hlt : k < vs.length := by (first | lia | omega)
    have e : vs.drop k = vs[k] :: vs.drop (k + 1) := List.drop_eq_getElem_cons hlt
    rw [e]
    obtain ⟨hel, ha⟩ := he vs[k] (by simp)
    show wSome (asg t vs[k] (pre ++ ρ)) _
    rw [ha pre hp]
    exact mnT C cs _ H _ _ (fun b H₁ hb => wIf_mono hb (fun h => WE_mono h fun y H₂ hy => ⟨hy.1, ih (k + 1) (env vs[k]) H₂ (acc ++ [y]) (by (first | lia | omega)) hel (by rw [List.length_append, List.length_singleton]; (first | lia | omega)) hy.2⟩)
      fun h => ⟨h.1, ih (k + 1) (env vs[k]) H₁ acc (by (first | lia | omega)) hel (by (first | lia | omega)) h.2⟩) (step k vs[k] acc H (by simp [hlt]) hI)
/-- a comprehension, by what holds ahead of its k-th turn -/
theorem comp_inv (env : V → Env') (I : Nat → List V → Hp → Prop) {C : Ctx} {t : Tgt} {cs : List E} {elt : E} {ws : List Nat} {H₀ H : Hp} {vs : List V} {pre ρ : Env'} {Q : V → Hp → Prop} {u : DF Q}
    (he : ∀ v, v ∈ vs → (env v).length = pre.length ∧ ∀ p : Env', p.length = pre.length → asg t v (p ++ ρ) = some (env v ++ ρ)) (hsz : vs.length < 16000000) (h0 : I 0 [] H)
    (step : ∀ k v acc H, vs[k]? = some v → I k acc H → WT C cs (env v ++ ρ) H fun b H₁ => gIf b (WE C elt (env v ++ ρ) H₁ fun y H₂ => stands ws H₀ H₂ = true ∧ I (k + 1) (acc ++ [y]) H₂) (stands ws H₀ H₁ = true ∧ I (k + 1) acc H₁) .mk)
    (fin : ∀ acc H, acc.length ≤ vs.length → I vs.length acc H → Q (.ref H.length) (H ++ [.list acc])) : gComp C t cs elt ws H₀ vs (pre ++ ρ) H Q u := by
  exact ⟨decide_eq_true hsz, comp_aux vs env I he step fin vs.length 0 pre H [] (by (first | lia | omega)) rfl (by simp) h0⟩
/-- a comprehension that leaves the heap as it is -/
theorem comp_pure (env : V → Env') (p : V → Bool) (f : V → V) {C : Ctx} {t : Tgt} {cs : List E} {elt : E} {ws : List Nat} {H : Hp} {vs : List V} {pre ρ : Env'} {Q : V → Hp → Prop} {u : DF Q}
    (he : ∀ v, v ∈ vs → (env v).length = pre.length ∧ ∀ p : Env', p.length = pre.length → asg t v (p ++ ρ) = some (env v ++ ρ)) (hsz : vs.length < 16000000)
    (step : ∀ v, v ∈ vs → ∀ Q : V → Hp → Prop, (p v = true → Q (f v) H) → ∀ Q' : Hp → Prop, (p v = false → Q' H) → WT C cs (env v ++ ρ) H fun b H₁ => gIf b (WE C elt (env v ++ ρ) H₁ Q) (Q' H₁) .mk)
    (fin : Q (.ref H.length) (H ++ [.list ((vs.filter p).map f)])) : gComp C t cs elt ws H vs (pre ++ ρ) H Q u := by
  have hst : ∀ H, stands ws H H = true := by intro H; simp [stands]
  refine comp_inv env (fun k acc H' => H' = H ∧ acc = ((vs.take k).filter p).map f) he hsz ⟨rfl, rfl⟩ ?_ ?_
  · rintro k v acc H' hv ⟨rfl, rfl⟩
    have hk : k < vs.length := (List.getElem?_eq_some_iff.mp hv).1
    have hv' : vs[k] = v := (List.getElem?_eq_some_iff.mp hv).2
    have ht : vs.take (k + 1) = vs.take k ++ [v] := by rw [List.take_add_one, hv]; rfl
    refine step v (by rw [← hv']; simp) _ ?_ _ ?_
    · intro hp
      first | exact in_1_1 (a0 := hst _) rfl (by rw [ht]; simp [hp]) | exact ⟨hst _, rfl, by rw [ht]; simp [hp]⟩
    · intro hp
      first | exact in_1_1 (a0 := hst _) rfl (by rw [ht]; simp [hp]) | exact ⟨hst _, rfl, by rw [ht]; simp [hp]⟩
  · rintro acc H' _ ⟨rfl, rfl⟩
    rw [List.take_length]; exact fin

theorem env_one {ρ : Env'} {v : V} {pre : Env'} (hp : pre.length = 1) : ([some v] : Env').length = pre.length ∧ ∀ p : Env', p.length = pre.length → asg (.var 0) v (p ++ ρ) = some ([some v] ++ ρ) := by
  refine ⟨by simp [hp], ?_⟩
  intro p hpl
  rw [hp] at hpl
  match p, hpl with
  | [a], _ =>
    show (if 0 < ([a] ++ ρ).length then some (([a] ++ ρ).set 0 (some v)) else none) = _
    exact if_pos (Nat.succ_pos _)

theorem range_get {a b : Int} {k : Nat} {v : V} (h : (rangeV a b)[k]? = some v) : v = .int (a + k) ∧ a + k < b := by
  unfold rangeV at h
  rw [List.getElem?_map] at h
  by_cases hk : k < (b - a).toNat
  · rw [List.getElem?_range hk] at h
    simp at h
    exact ⟨h.symm, by (first | lia | omega)⟩
  · rw [List.getElem?_eq_none (by simp; (first | lia | omega))] at h
    simp at h
theorem range_len (a b : Int) : (rangeV a b).length = (b - a).toNat := by simp [rangeV]
theorem range_mem {a b : Int} {v : V} (h : v ∈ rangeV a b) : ∃ i : Int, v = .int i ∧ a ≤ i ∧ i < b := by
  obtain ⟨k, hk, e⟩ := List.getElem_of_mem h
  obtain ⟨h1, h2⟩ := range_get (a := a) (b := b) (k := k) (v := v) (by rw [← e]; simp [hk])
  exact ⟨a + k, h1, by (first | lia | omega), h2⟩
theorem enum_get : ∀ {vs : List V} {j k : Nat} {v : V}, (enumV j vs)[k]? = some v → ∃ w, vs[k]? = some w ∧ v = .tup [.int ((j + k : Nat) : Int), w]
  | [], j, k, v, h => by simp [enumV] at h
  | x :: r, j, 0, v, h => by simp [enumV] at h; exact ⟨x, rfl, h.symm⟩
  | x :: r, j, k + 1, v, h => by
    rw [enumV, List.getElem?_cons_succ] at h
    obtain ⟨w, h1, h2⟩ := enum_get h
    exact ⟨w, by simpa using h1, by rw [h2]; congr 3; (first | lia | omega)⟩
theorem enum_len : ∀ (vs : List V) (j : Nat), (enumV j vs).length = vs.length
  | [], _ => rfl
  | x :: r, j => by rw [enumV, List.length_cons, enum_len r, List.length_cons]
/-- reading -/
noncomputable def plain : Nat → V → Bool
  | _, .none => true
  | _, .bool _ => true
  | _, .int _ => true
  | 0, _ => false
  | n + 1, .tup vs => vs.all (plain n)
  | _, _ => false
theorem rdL_some {f : V → Option PyData} : ∀ {vs : List V}, (∀ v, v ∈ vs → ∃ d, f v = some d) → ∃ ds, rdL f vs = some ds
  | [], _ => ⟨[], rfl⟩
  | v :: r, h => by
    obtain ⟨d, hd⟩ := h v (by simp)
    obtain ⟨ds, hds⟩ := rdL_some (vs := r) fun u hu => h u (by simp [hu])
    exact ⟨d :: ds, by rw [rdLc, hd, hds]⟩
theorem plain_rd (scr : List Int) (H : Hp) : ∀ (n m : Nat) (v : V), n ≤ m → plain n v = true → ∃ d, rd scr m H v = some d
  | n, m, .none, _, _ => ⟨.none, by cases m <;> rfl⟩
  | n, m, .bool b, _, _ => ⟨.bool b, by cases m <;> rfl⟩
  | n, m, .int b, _, _ => ⟨.int b, by cases m <;> rfl⟩
  | 0, m, .tup s, _, h => by simp [plain] at h
  | n + 1, 0, .tup vs, hm, h => by (first | lia | omega)
  | n + 1, m + 1, .tup vs, hm, h => by
    rw [plain, List.all_eq_true] at h
    obtain ⟨ds, hds⟩ := rdL_some (f := rd scr m H) (vs := vs) fun v hv => plain_rd scr H n m v (by (first | lia | omega)) (h v hv)
    exact ⟨.tuple ds, by rw [rdT, hds]; rfl⟩
  | 0, m, .ref s, _, h => by simp [plain] at h
  | n + 1, m, .ref s, _, h => by simp [plain] at h
  | 0, m, .script, _, h => by simp [plain] at h
  | n + 1, m, .script, _, h => by simp [plain] at h
theorem eqvs_self {f : V → Option PyData} (hf : ∀ v d, f v = some d → PyData.eqv d d = true) : ∀ (vs : List V) (ds : List PyData), rdL f vs = some ds → PyData.eqvAll ds ds = true
  | [], ds, h => by cases h; rfl
  | v :: r, ds, h => by
    change (match f v, rdL f r with | some d, some ds => some (d :: ds) | _, _ => none) = _ at h
    cases h1 : f v with
    | none => rw [h1] at h; cases h
    | some d =>
      cases h2 : rdL f r with
      | none => rw [h1, h2] at h; cases h
      | some es =>
        rw [h1, h2] at h; cases h
        show (PyData.eqv d d && PyData.eqvAll es es) = true
        rw [hf v d h1, eqvs_self hf r es h2]; rfl
theorem opt_tuple {f : V → Option PyData} (hf : ∀ v d, f v = some d → PyData.eqv d d = true) {vs : List V} {g : List PyData → PyData} (hg : ∀ ds, PyData.eqv (g ds) (g ds) = PyData.eqvAll ds ds) {d : PyData} (h : (rdL f vs).map g = some d) : PyData.eqv d d = true := by
  cases hr : rdL f vs with
  | none => rw [hr] at h; cases h
  | some ds =>
    rw [hr] at h; cases h
    rw [hg]; exact eqvs_self hf vs ds hr
theorem eqv_self (scr : List Int) (H : Hp) : ∀ (n : Nat) (v : V) (d : PyData), rd scr n H v = some d → PyData.eqv d d = true
  | 0, v, d, h => by
    cases v with
    | none => cases h; rfl
    | bool b => cases h; exact beq_self_eq_true b
    | int i => cases h; exact beq_self_eq_true i
    | tup _ => cases h
    | ref _ => cases h
    | script => cases h
  | n + 1, v, d, h => by
    cases v with
    | none => cases h; rfl
    | bool b => cases h; exact beq_self_eq_true b
    | int i => cases h; exact beq_self_eq_true i
    | tup vs => exact opt_tuple (eqv_self scr H n) (fun _ => rfl) h
    | ref l =>
      change (match H[l]? with | some (.list vs) => (rdL (rd scr n H) vs).map PyData.list | _ => none) = _ at h
      split at h
      · exact opt_tuple (eqv_self scr H n) (fun _ => rfl) h
      · cases h
    | script =>
      cases h
      show PyData.eqvAll (scr.map .int) (scr.map .int) = true
      induction scr with
      | nil => rfl
      | cons a r ih =>
        show (PyData.eqv (.int a) (.int a) && PyData.eqvAll (r.map .int) (r.map .int)) = true
        rw [ih, show PyData.eqv (.int a) (.int a) = true from beq_self_eq_true a]; rfl
theorem rd_list {scr : List Int} {H : Hp} {l : Nat} {vs : List V} (h : H[l]? = some (.list vs)) (hp : ∀ v, v ∈ vs → plain 8 v = true) : ∃ ds, rd scr 10 H (.ref l) = some (.list ds) ∧ rdL (rd scr 9 H) vs = some ds := by
  obtain ⟨ds, hds⟩ := rdL_some (f := rd scr 9 H) (vs := vs) fun v hv => plain_rd scr H 8 9 v (by (first | lia | omega)) (hp v hv)
  exact ⟨ds, by rw [rdR, h]; simp only [hds]; rfl, hds⟩
theorem rdL_len {f : V → Option PyData} : ∀ {vs : List V} {ds : List PyData}, rdL f vs = some ds → ds.length = vs.length
  | [], ds, h => by cases h; rfl
  | v :: r, ds, h => by
    rw [rdLc] at h
    cases h1 : f v with
    | none => rw [h1] at h; simp at h
    | some d =>
      cases h2 : rdL f r with
      | none => rw [h1, h2] at h; simp at h
      | some es => rw [h1, h2] at h; simp at h; subst h; simp [rdL_len h2]
/-- a list against the empty one -/
theorem eq_empty {scr : List Int} {H : Hp} {l m : Nat} {vs : List V} (h : H[l]? = some (.list vs)) (h' : H[m]? = some (.list [])) (hp : ∀ v, v ∈ vs → plain 8 v = true) : eqV scr H (.ref l) (.ref m) = some vs.isEmpty := by
  obtain ⟨ds, h1, h2⟩ := rd_list (scr := scr) h hp
  have h3 : rd scr 10 H (.ref m) = some (.list []) := by rw [rdR, h']; rfl
  have hl := rdL_len h2
  unfold eqV
  rw [h1, h3]
  cases ds with
  | nil => cases vs with
    | nil => rfl
    | cons a b => simp at hl
  | cons d r => cases vs with
    | nil => simp at hl
    | cons a b => rfl
theorem cmp_eq_empty {scr : List Int} {H : Hp} {l : Nat} {vs : List V} (h : H[l]? = some (.list vs)) (hp : ∀ v, v ∈ vs → plain 8 v = true) : cmpV scr .eq (.ref l) (.ref H.length) (H ++ [.list []]) = some vs.isEmpty := by
  rw [cmpV]; exact eq_empty (at_app _ h) (at_new _ _) hp
theorem cmp_ne_empty {scr : List Int} {H : Hp} {l : Nat} {vs : List V} (h : H[l]? = some (.list vs)) (hp : ∀ v, v ∈ vs → plain 8 v = true) : cmpV scr .ne (.ref l) (.ref H.length) (H ++ [.list []]) = some (!vs.isEmpty) := by
  rw [cmpV, eq_empty (at_app _ h) (at_new _ _) hp]; rfl
end Mine

end
section
set_option autoImplicit false
set_option linter.unusedVariables false
set_option linter.unusedSimpArgs false
set_option maxRecDepth 100000
namespace Mine.P
open PySem
variable (scr : List Int)

theorem w_cell (n k : Nat) (H : Hp) : callW scr pgks pfns (n + 1) i_law_cell_at [.script, .int k] H fun v H' => v = .int (scr.getD k 0) ∧ H' = H := by
  refine c_law_cell_at ?_
  unfold pb_law_cell_at
  open_line
  refine wIf_split ?_ ?_
  · intro h
    open_line
    have h1 : k < scr.length := by simpa using h
    have h4 : seqAt (scr.map V.int) (k : Int) = some (.int (scr.getD k 0)) := by simp [seqAt, h1]
    open_line with [idx_script, h4]
    exact ⟨(by trivial), (by trivial)⟩
  · intro h
    open_line
    have h1 : ¬ k < scr.length := by simpa using h
    have h4 : scr.getD k 0 = 0 := by simp [h1]
    open_line with [h4]
    exact ⟨(by trivial), (by trivial)⟩

theorem w_stream (n : Nat) (c m : Int) (H : Hp) (h0 : 0 ≤ m) (h1 : m ≤ 1000) : callW scr pgks pfns (n + 1) i_law_stream [.int c, .int m] H fun v H' =>
    ∃ (l : Nat) (xs : List Int), v = .ref l ∧ H.length ≤ l ∧ Kept H.length H H' ∧ H'[l]? = some (.list (xs.map .int)) ∧ xs.length = m.toNat ∧ ∀ x ∈ xs, 0 ≤ x ∧ x < 2147483647 := by
  refine c_law_stream ?_
  unfold pb_law_stream
  open_line
  refine for_inv (fun k ρ H' => ∃ (y z : Option V) (nu : Int) (xs : List Int), ρ = [some (.int c), y, some (.ref H.length), some (.int nu), z] ∧ Kept H.length H H' ∧ H'[H.length]? = some (.list (xs.map .int)) ∧ xs.length = k ∧ (∀ x ∈ xs, 0 ≤ x ∧ x < 2147483647)) ⟨_, _, _, [], rfl, Kept.app _ _, at_new _ _, rfl, by simp⟩ ?_ ?_
  · intro k v hv
    refine el_4_4 ?_
    intro H' y z nu xs hF hA hl hx
    obtain ⟨rfl, hk⟩ := range_get hv
    have hkl : k < 1000 := by (first | lia | omega)
    have hsz : (xs.map V.int).length < 16000000 := by simp; (first | lia | omega)
    open_line with [meKind_app _ hA, WMeth_app _ _ _ hA hsz, loopK_next]
    first | refine ⟨rfl, in_4_4 (a3 := xs ++ [(nu * 48271 + 11 + (0 + (k : Int))) % 2147483647]) rfl (hF.trans (Kept.set _ (Nat.le_refl _) (by have := hF.2.1; (first | lia | omega))) (Nat.le_refl _)) ?_ (by simp [hl]) ?_⟩ | refine ⟨rfl, _, _, _, xs ++ [(nu * 48271 + 11 + (0 + (k : Int))) % 2147483647], rfl, hF.trans (Kept.set _ (Nat.le_refl _) (by have := hF.2.1; (first | lia | omega))) (Nat.le_refl _), ?_, by simp [hl], ?_⟩
    · rw [at_set hA]; simp
    · intro x hxm
      rcases List.mem_append.mp hxm with h | h
      · exact hx x h
      · have : x = _ := List.mem_singleton.mp h
        (first | lia | omega)
  · refine el_4_4 ?_
    intro H' y z nu xs hF hA hl hx
    open_line
    first | exact in_2_5 (a1 := xs) rfl (Nat.le_refl _) hF hA (by rw [hl, range_len]; simp) hx | exact ⟨_, xs, rfl, Nat.le_refl _, hF, hA, by rw [hl, range_len]; simp, hx⟩

theorem plain_int (i : Int) (n : Nat) : plain n (.int i) = true := by cases n <;> rfl
theorem plain_ints (es : List Int) (n : Nat) : ∀ v, v ∈ es.map V.int → plain n v = true := by
  intro v hv
  obtain ⟨i, _, rfl⟩ := List.mem_map.mp hv
  exact plain_int i n
theorem seqAt_map {α : Type} (f : Int → α) (es : List Int) (k : Int) (h0 : 0 ≤ k) (h1 : k < es.length) : ∃ i, seqAt (es.map f) k = some (f i) ∧ i ∈ es := by
  have hk : k.toNat < es.length := by (first | lia | omega)
  refine ⟨es[k.toNat], ?_, by simp⟩
  unfold seqAt; rw [if_pos h0]; simp [hk]

theorem w_some (n : Nat) (l : Nat) (y f : Int) (H : Hp) (es : List Int) (hA : H[l]? = some (.list (es.map .int))) : callW scr pgks pfns (n + 1) i_law_some [.ref l, .int y, .int f] H fun v H' =>
    ∃ ls : List Int, v = .tup (ls.map .int) ∧ Kept H.length H H' ∧ (∀ j ∈ ls, j ∈ es) ∧ ls.Nodup ∧ ls.length ≤ 2 ∧ (f ≠ 0 → es ≠ [] → ls ≠ []) := by
  refine c_law_some ?_
  unfold pb_law_some
  have hE := cmp_eq_empty (scr := scr) hA (plain_ints es 8)
  have hF : Kept H.length H (H ++ [.list []]) := Kept.app _ _
  have hA' := at_app [.list []] hA
  refine if_cut (fun b H' => H' = H ++ [.list []] ∧ (b = true → es = [] ∨ f = 0) ∧ (b = false → es ≠ [])) ?_ ?_ ?_
  · open_line with [hE]
    refine wIf_split ?_ ?_
    · intro h
      open_line
      exact ⟨(by trivial), fun _ => .inl (by simpa using h), fun h' => by rw [h] at h'; simp at h'⟩
    · intro h
      open_line
      refine wIf_split ?_ ?_
      · intro h2
        open_line
        exact ⟨(by trivial), fun _ => .inr (by simpa using h2), fun _ => by simpa using h⟩
      · intro h2
        open_line
        rw [h2]
        exact ⟨(by trivial), by simp, fun _ => by simpa using h⟩
  · rintro H' ⟨rfl, h, _⟩
    open_line
    first | refine in_1_5 (a0 := []) rfl hF (by simp) (by simp) (by simp) ?_ | refine ⟨[], rfl, hF, by simp, by simp, by simp, ?_⟩
    intro h1 h2
    rcases h rfl with h | h
    · exact absurd h h2
    · exact absurd h h1
  · rintro H' ⟨rfl, _, hne⟩
    have hne := hne rfl
    have hpos : 0 < es.length := List.length_pos_iff.mpr hne
    obtain ⟨a, ha, hae⟩ := seqAt_map V.int es (y % (es.length : Int)) (Int.emod_nonneg _ (by (first | lia | omega))) (Int.emod_lt_of_pos _ (by (first | lia | omega)))
    obtain ⟨b, hb, hbe⟩ := seqAt_map V.int es (y / 60 % (es.length : Int)) (Int.emod_nonneg _ (by (first | lia | omega))) (Int.emod_lt_of_pos _ (by (first | lia | omega)))
    open_line with [WBi_lenL _ _ _ hA', List.length_map, idx_lst _ _ _ hA', ha, hb]
    by_cases hab : a = b
    · open_line with [hab]
      first | exact in_1_5 (a0 := [b]) rfl hF (by simpa using hbe) (by simp) (by simp) (by simp) | exact ⟨[b], rfl, hF, by simpa using hbe, by simp, by simp, by simp⟩
    · have hab' : (a == b) = false := by simpa using hab
      open_line with [hab']
      refine wIf_split ?_ ?_
      · intro h
        open_line
        first | exact in_1_5 (a0 := [a]) rfl hF (by simpa using hae) (by simp) (by simp) (by simp) | exact ⟨[a], rfl, hF, by simpa using hae, by simp, by simp, by simp⟩
      · intro h
        open_line
        first | exact in_1_5 (a0 := [a, b]) rfl hF (by simpa using ⟨hae, hbe⟩) (by simpa using hab) (by simp) (by simp) | exact ⟨[a, b], rfl, hF, by simpa using ⟨hae, hbe⟩, by simpa using hab, by simp, by simp⟩
end Mine.P

end
section
set_option autoImplicit false
set_option linter.unusedVariables false
set_option linter.unusedSimpArgs false
namespace Mine
open PySem
/-- the iseq from a to b -/
noncomputable def iseq (a b : Int) : List Int := (List.range (b - a).toNat).map fun (i : Nat) => a + (i : Int)
theorem range_ints (a b : Int) : rangeV a b = (iseq a b).map .int := by simp [rangeV, iseq, Function.comp_def]
theorem mem_ints {a b x : Int} (h : x ∈ iseq a b) : a ≤ x ∧ x < b := by
  obtain ⟨i, hi, rfl⟩ := List.mem_map.mp h
  have := List.mem_range.mp hi
  (first | lia | omega)
theorem ints_len (a b : Int) : (iseq a b).length = (b - a).toNat := by simp [iseq]
/-- a comprehension that takes some of a list of iseq -/
theorem comp_filt (q : Int → Bool) {C : Ctx} {cs : List E} {ws : List Nat} {H : Hp} {xs : List Int} {ρ : Env'} {o : Option V} {Q : V → Hp → Prop} {u : DF Q} (hsz : xs.length < 16000000)
    (step : ∀ x, x ∈ xs → ∀ Q : Bool → Hp → Prop, Q (q x) H → WT C cs (some (.int x) :: ρ) H Q)
    (fin : Q (.ref H.length) (H ++ [.list ((xs.filter q).map .int)])) : gComp C (.var 0) cs (.var 0) ws H (xs.map .int) (o :: ρ) H Q u := by
  refine comp_pure (pre := [o]) (ρ := ρ) (fun v => [some v]) (fun v => match v with | .int x => q x | _ => false) id ?_ (by simpa using hsz) ?_ ?_
  · intro v _; exact env_one rfl
  · intro v hv Q hQ Q' hQ'
    obtain ⟨x, hx, rfl⟩ := List.mem_map.mp hv
    refine step x hx _ ?_
    simp only at hQ hQ'
    cases hq : q x with
    | false => rw [wIf_f]; exact hQ' hq
    | true =>
      rw [wIf_t]
      simp only [↓WE_var, List.cons_append, List.nil_append, List.getElem?_cons_zero, Option.join_some, wSome_some]
      exact hQ hq
  · have : (List.filter (fun v => match v with | .int x => q x | _ => false) (xs.map V.int)).map id = (xs.filter q).map .int := by
      rw [List.map_id, List.filter_map]; rfl
    rw [this]; exact fin
/-- a comprehension over iseq that takes one thing for each of some of them -/
theorem comp_fm {α : Type} (g : α → V) (q : α → Bool) (f : α → V) {C : Ctx} {cs : List E} {elt : E} {ws : List Nat} {H : Hp} {xs : List α} {ρ : Env'} {o : Option V} {Q : V → Hp → Prop} {u : DF Q} (hsz : xs.length < 16000000)
    (step : ∀ x, x ∈ xs → ∀ Q : Bool → Hp → Prop, Q (q x) H → WT C cs (some (g x) :: ρ) H Q)
    (selt : ∀ x, x ∈ xs → q x = true → ∀ Q : V → Hp → Prop, Q (f x) H → WE C elt (some (g x) :: ρ) H Q)
    (fin : Q (.ref H.length) (H ++ [.list ((xs.filter q).map f)])) : gComp C (.var 0) cs elt ws H (xs.map g) (o :: ρ) H Q u := by
  have hst : ∀ H, stands ws H H = true := by intro H; simp [stands]
  refine comp_inv (pre := [o]) (ρ := ρ) (fun v => [some v]) (fun k acc H' => H' = H ∧ acc = ((xs.take k).filter q).map f) (fun v _ => env_one rfl) (by simpa using hsz) ⟨rfl, rfl⟩ ?_ ?_
  · rintro k v acc H' hv ⟨rfl, rfl⟩
    rw [List.getElem?_map] at hv
    cases hx : xs[k]? with
    | none => rw [hx] at hv; simp at hv
    | some x =>
      rw [hx] at hv
      have hv : g x = v := by simpa using hv
      subst hv
      have hm : x ∈ xs := List.mem_of_getElem? hx
      have ht : xs.take (k + 1) = xs.take k ++ [x] := by rw [List.take_add_one, hx]; rfl
      refine step x hm _ ?_
      cases hq : q x with
      | false => rw [wIf_f]; exact ⟨hst _, rfl, by rw [ht]; simp [hq]⟩
      | true =>
        rw [wIf_t]
        exact selt x hm hq _ ⟨hst _, rfl, by rw [ht]; simp [hq]⟩
  · rintro acc H' _ ⟨rfl, rfl⟩
    rw [List.length_map, List.take_length]; exact fin
theorem slice_map {α β : Type} (f : α → β) (l : List α) (lo hi : Option Int) : pySlice (l.map f) lo hi = (pySlice l lo hi).map f := by
  unfold pySlice; rw [List.length_map, List.map_drop, List.map_take]
theorem slice_mem {α : Type} {l : List α} {lo hi : Option Int} {x : α} (h : x ∈ pySlice l lo hi) : x ∈ l := List.mem_of_mem_take (List.mem_of_mem_drop h)
theorem slice_len {α : Type} (l : List α) (lo hi : Option Int) : (pySlice l lo hi).length ≤ l.length := by
  unfold pySlice; rw [List.length_drop, List.length_take]; (first | lia | omega)
theorem in_ints {scr : List Int} {H : Hp} {y : V} {es : List Int} (j : Int) (hd : dictOf H y = none) (hi : itemsOf scr H y = some (es.map .int)) : inV scr H (.int j) y = some (decide (j ∈ es)) := by
  have h : ∀ es : List Int, rdL (rd scr 10 H) (es.map .int) = some (es.map PyData.int) := by
    intro es; induction es with
    | nil => rfl
    | cons a r ih => rw [List.map_cons, rdLc, ih, rdI]; rfl
  have h2 : ∀ es : List Int, ((es.map PyData.int).any fun e => PyData.eqv e (.int j)) = decide (j ∈ es) := by
    intro es; induction es with
    | nil => simp
    | cons a r ih =>
      rw [List.map_cons, List.any_cons, ih]
      by_cases e : a = j
      · subst e; rw [show PyData.eqv (.int a) (.int a) = true from beq_self_eq_true a]; simp
      · have : ¬ j = a := fun h => e h.symm
        rw [show PyData.eqv (.int a) (.int j) = false from beq_false_of_ne e]; simp [this]
  unfold inV inS; simp only [hd, hi, h, rdI, h2]
theorem notin_lst {scr : List Int} {H : Hp} {l : Nat} {es : List Int} (j : Int) (h : H[l]? = some (.list (es.map .int))) : cmpV scr .notIn (.int j) (.ref l) H = some (!decide (j ∈ es)) := by
  rw [cmpV, in_ints j (dictOf_lst _ h) (itemsOf_lst _ _ h)]; rfl
theorem in_tup {scr : List Int} {H : Hp} {es : List Int} (j : Int) : cmpV scr .isIn (.int j) (.tup (es.map .int)) H = some (decide (j ∈ es)) := by
  rw [cmpV]; exact in_ints j rfl rfl

/-- a person of the roll -/
structure Per where
  born : Int
  par : List Int
  ad : Option (Int × List Int)
  died : Option Int
noncomputable def adV : Option (Int × List Int) → V
  | none => .none
  | some (d, ls) => .tup [.int d, .tup (ls.map .int)]
noncomputable def diV : Option Int → V
  | none => .none
  | some d => .int d
noncomputable def perV (p : Per) : V := .tup [.int p.born, .tup (p.par.map .int), adV p.ad, diV p.died]
theorem perV_plain (p : Per) : plain 8 (perV p) = true := by
  have h : ∀ (es : List Int) n, (es.map V.int).all (plain n) = true := by
    intro es n; induction es with
    | nil => rfl
    | cons a r ih => rw [List.map_cons, List.all_cons, ih]; cases n <;> rfl
  unfold perV
  cases hp : p.ad with
  | none => cases p.died <;> simp [plain, adV, diV, h]
  | some a => obtain ⟨d, ls⟩ := a; cases p.died <;> simp [plain, adV, diV, h]
theorem per_at {ps : List Per} {k : Int} (h0 : 0 ≤ k) (h1 : k < ps.length) : ∃ p, seqAt (ps.map perV) k = some (perV p) ∧ ps[k.toNat]? = some p := by
  have hk : k.toNat < ps.length := by (first | lia | omega)
  refine ⟨ps[k.toNat], ?_, by simp [hk]⟩
  unfold seqAt; rw [if_pos h0]; simp [hk]
theorem per_at' {ps : List Per} {k : Int} {p : Per} (h0 : 0 ≤ k) (h : ps[k.toNat]? = some p) : seqAt (ps.map perV) k = some (perV p) := by
  unfold seqAt; rw [if_pos h0, List.getElem?_map, h]; rfl
end Mine

end
section
set_option autoImplicit false
set_option linter.unusedVariables false
set_option linter.unusedSimpArgs false
namespace Mine
open PySem
/-- one of the roll, born ahead of day b -/
noncomputable def Older (ps : List Per) (b j : Int) : Prop := 0 ≤ j ∧ ∃ q, ps[j.toNat]? = some q ∧ q.born < b
noncomputable def WfAd (ps : List Per) (p : Per) : Prop := ∀ d ls, p.ad = some (d, ls) → p.born ≤ d ∧ d ≤ p.born + 29 ∧ ls ≠ [] ∧ ls.Nodup ∧ ls.length ≤ 2 ∧ (∀ j ∈ ls, Older ps p.born j) ∧ ∀ e, p.died = some e → d < e
noncomputable def WfOne (ps : List Per) (p : Per) : Prop := 0 ≤ p.born ∧ p.born ≤ 400000 ∧ p.par.Nodup ∧ p.par.length ≤ 2 ∧ (∀ j ∈ p.par, Older ps p.born j) ∧ (∀ d, p.died = some d → p.born ≤ d ∧ d ≤ 600000) ∧ WfAd ps p
noncomputable def WfP (ps : List Per) : Prop := ∀ (k : Nat) p, ps[k]? = some p → WfOne ps p
theorem Older.app {ps : List Per} {b j : Int} (t : List Per) (h : Older ps b j) : Older (ps ++ t) b j := by
  obtain ⟨h0, q, hq, hb⟩ := h
  exact ⟨h0, q, by rw [List.getElem?_append_left (List.getElem?_eq_some_iff.mp hq).1]; exact hq, hb⟩
end Mine

end
section
set_option autoImplicit false
set_option linter.unusedVariables false
set_option linter.unusedSimpArgs false
set_option maxRecDepth 100000
namespace Mine.P
open PySem
variable (scr : List Int)

noncomputable def houseP : List (List Int) := [[], [], [1, 0], [1, 0], [2], [3], [], [5], [3], [1], [], [2]]
noncomputable def houseV : List V := houseP.map fun l => .tup (l.map .int)

noncomputable def HouseInv (on : Prop) (sc : Int) (ps : List Per) : Prop := on → ∀ (k : Nat) p, k < 12 → ps[k]? = some p → 12 * ((k / 2 : Nat) : Int) * sc ≤ p.born ∧ p.born ≤ (12 * ((k / 2 : Nat) : Int) + 10) * sc

theorem house_ok {ps : List Per} {sc : Int} (hsc : sc = 1 ∨ sc = 600) {k : Nat} (hk : k < 12) (hl : ps.length = k) (hI : HouseInv True sc ps) (r : Int) (h0 : 0 ≤ r) :
    ∃ ls, houseP[k]? = some ls ∧ ls.Nodup ∧ ls.length ≤ 2 ∧ ∀ j ∈ ls, Older ps ((12 * ((k : Int) / 2) + r) * sc) j := by
  have hj : ∀ j : Nat, j < k → 12 * ((j / 2 : Nat) : Int) + 10 < 12 * ((k / 2 : Nat) : Int) → Older ps ((12 * ((k : Int) / 2) + r) * sc) j := by
    intro j hjk hlt
    have hjl : j < ps.length := by (first | lia | omega)
    have hp : ps[j]? = some ps[j] := by simp [hjl]
    obtain ⟨_, h2⟩ := hI trivial j ps[j] (by (first | lia | omega)) hp
    refine ⟨by (first | lia | omega), ps[j], by simp [hjl], ?_⟩
    rcases hsc with h | h <;> subst h <;> (first | lia | omega)
  have hk' : k = 0 ∨ k = 1 ∨ k = 2 ∨ k = 3 ∨ k = 4 ∨ k = 5 ∨ k = 6 ∨ k = 7 ∨ k = 8 ∨ k = 9 ∨ k = 10 ∨ k = 11 := by (first | lia | omega)
  rcases hk' with h | h | h | h | h | h | h | h | h | h | h | h <;> subst h
  · first | exact in_1_3 (a0 := []) rfl (by simp) (by simp) (by simp) | exact ⟨[], rfl, by simp, by simp, by simp⟩
  · first | exact in_1_3 (a0 := []) rfl (by simp) (by simp) (by simp) | exact ⟨[], rfl, by simp, by simp, by simp⟩
  · exact ⟨[1, 0], rfl, by simp, by simp, by
      intro j h
      have : j = 1 ∨ j = 0 := by simpa using h
      rcases this with rfl | rfl
      · exact hj 1 (by (first | lia | omega)) (by (first | lia | omega))
      · exact hj 0 (by (first | lia | omega)) (by (first | lia | omega))⟩
  · exact ⟨[1, 0], rfl, by simp, by simp, by
      intro j h
      have : j = 1 ∨ j = 0 := by simpa using h
      rcases this with rfl | rfl
      · exact hj 1 (by (first | lia | omega)) (by (first | lia | omega))
      · exact hj 0 (by (first | lia | omega)) (by (first | lia | omega))⟩
  · exact ⟨[2], rfl, by simp, by simp, by
      intro j h
      have : j = 2 := by simpa using h
      subst this
      exact hj 2 (by (first | lia | omega)) (by (first | lia | omega))⟩
  · exact ⟨[3], rfl, by simp, by simp, by
      intro j h
      have : j = 3 := by simpa using h
      subst this
      exact hj 3 (by (first | lia | omega)) (by (first | lia | omega))⟩
  · first | exact in_1_3 (a0 := []) rfl (by simp) (by simp) (by simp) | exact ⟨[], rfl, by simp, by simp, by simp⟩
  · exact ⟨[5], rfl, by simp, by simp, by
      intro j h
      have : j = 5 := by simpa using h
      subst this
      exact hj 5 (by (first | lia | omega)) (by (first | lia | omega))⟩
  · exact ⟨[3], rfl, by simp, by simp, by
      intro j h
      have : j = 3 := by simpa using h
      subst this
      exact hj 3 (by (first | lia | omega)) (by (first | lia | omega))⟩
  · exact ⟨[1], rfl, by simp, by simp, by
      intro j h
      have : j = 1 := by simpa using h
      subst this
      exact hj 1 (by (first | lia | omega)) (by (first | lia | omega))⟩
  · first | exact in_1_3 (a0 := []) rfl (by simp) (by simp) (by simp) | exact ⟨[], rfl, by simp, by simp, by simp⟩
  · exact ⟨[2], rfl, by simp, by simp, by
      intro j h
      have : j = 2 := by simpa using h
      subst this
      exact hj 2 (by (first | lia | omega)) (by (first | lia | omega))⟩

theorem bd_mul {a sc : Int} (hsc : sc = 1 ∨ sc = 600) (h0 : 0 ≤ a) (h1 : a ≤ 600) : 0 ≤ a * sc ∧ a * sc ≤ 360000 := by
  rcases hsc with h | h <;> subst h <;> (first | lia | omega)

theorem w_people (n : Nat) (c m : Int) (H : Hp) (h0 : 0 ≤ m) (h1 : m ≤ 60) : callW scr pgks pfns (n + 2) i_law_people [.int c, .int m] H fun v H' =>
    ∃ (l : Nat) (ps : List Per), v = .ref l ∧ H.length ≤ l ∧ Kept H.length H H' ∧ H'[l]? = some (.list (ps.map perV)) ∧ ps.length = m.toNat ∧ WfP ps ∧ ∀ p ∈ ps, p.ad = none := by
  refine c_law_people ?_
  unfold pb_law_people
  refine cutN 3 (fun ρ' H' => ∃ (sc : Int) (lh : Nat), ρ' = [some (.int c), some (.int m), some (.ref H.length), some (.int sc), some (.ref lh), none, none, none, none, none, none] ∧ (sc = 1 ∨ sc = 600) ∧ H'[H.length]? = some (.list []) ∧ H'[lh]? = some (.list houseV) ∧ H.length < lh ∧ Kept H.length H H') ?_ ?_
  · have hs : ∃ sc : Int, seqAt [V.int 1, V.int 1, V.int 1, V.int 600] (c % 4) = some (.int sc) ∧ (sc = 1 ∨ sc = 600) := by
      have : c % 4 = 0 ∨ c % 4 = 1 ∨ c % 4 = 2 ∨ c % 4 = 3 := by (first | lia | omega)
      rcases this with h | h | h | h <;> rw [h]
      · first | exact in_1_1 (a0 := 1) rfl (.inl rfl) | exact ⟨1, rfl, .inl rfl⟩
      · first | exact in_1_1 (a0 := 1) rfl (.inl rfl) | exact ⟨1, rfl, .inl rfl⟩
      · first | exact in_1_1 (a0 := 1) rfl (.inl rfl) | exact ⟨1, rfl, .inl rfl⟩
      · first | exact in_1_1 (a0 := 600) rfl (.inr rfl) | exact ⟨600, rfl, .inr rfl⟩
    obtain ⟨sc, hs, hsc⟩ := hs
    open_line with [idx_lst _ _ _ (at_new _ _), hs]
    first | exact in_2_5 (a0 := sc) rfl hsc (at_app _ (at_app _ (at_new _ _))) (at_new _ _) (by simp) (((Kept.app _ _).trans (Kept.app _ _) (by simp)).trans (Kept.app _ _) (by simp)) | exact ⟨sc, _, rfl, hsc, at_app _ (at_app _ (at_new _ _)), at_new _ _, by simp, ((Kept.app _ _).trans (Kept.app _ _) (by simp)).trans (Kept.app _ _) (by simp)⟩
  · refine el_2_5 ?_
    intro H₁ sc lh hsc hP hH hlh hF
    simp only [List.drop_succ_cons, List.drop_zero]
    open_line
    refine call_of (w_stream scr n (c / 4) m H₁ h0 (by (first | lia | omega))) ?_
    refine el_2_5 ?_
    intro H₂ ls xs hls hF2 hX hxl hxr
    have hP2 := hF2.at' hP
    have hH2 := hF2.at' hH
    have hlt := at_lt hP
    have hlh2 := at_lt hH
    open_line with [lstOf_lst _ _ hX]
    refine for_inv (fun k ρ H' => ∃ (ps : List Per) (a b d e f g : Option V), ρ = [some (.int c), some (.int m), some (.ref H.length), some (.int sc), some (.ref lh), a, b, d, e, f, g] ∧ Kept H.length H H' ∧ H'[H.length]? = some (.list (ps.map perV)) ∧ H'[lh]? = some (.list houseV) ∧ H'[ls]? = some (.list (xs.map .int)) ∧ ps.length = k ∧ WfP ps ∧ (∀ p ∈ ps, p.ad = none) ∧ HouseInv (c / 4 % 3 = 0) sc ps) ?_ ?_ ?_
    · first | exact in_7_8 (a0 := []) rfl (hF.trans hF2 (by (first | lia | omega))) hP2 hH2 hX rfl (by intro k p h; simp at h) (by simp) (by intro _ k p _ h; simp at h) | exact ⟨[], _, _, _, _, _, _, rfl, hF.trans hF2 (by (first | lia | omega)), hP2, hH2, hX, rfl, by intro k p h; simp at h, by simp, by intro _ k p _ h; simp at h⟩
    · intro k v hv
      refine el_7_8 ?_
      intro Hk ps oa ob od oe of og hFk hPk hHk hXk hl hW hAd hHI
      obtain ⟨w, hw, rfl⟩ := enum_get hv
      rw [List.getElem?_map] at hw
      obtain ⟨x, hx, rfl⟩ : ∃ x, xs[k]? = some x ∧ w = .int x := by
        cases hx : xs[k]? with
        | none => rw [hx] at hw; simp at hw
        | some x => rw [hx] at hw; exact ⟨x, rfl, by simpa using hw.symm⟩
      have hkx := (List.getElem?_eq_some_iff.mp hx).1
      have hk60 : k < 60 := by (first | lia | omega)
      obtain ⟨hx0, hx1⟩ := hxr x (List.mem_of_getElem? hx)
      o_facts bd
      -- the day of birth, the elders, the parents
      obtain ⟨hb0, hb1⟩ := bd_mul (a := 5 * ((k : Int) / 3) + x % 11) hsc (by (first | lia | omega)) (by (first | lia | omega))
      refine cut 3 (fun ρ' H' => ∃ (le : Nat) (es pl : List Int), ρ' = [some (.int c), some (.int m), some (.ref H.length), some (.int sc), some (.ref lh), some (.int k), some (.int x), some (.int ((5 * ((k : Int) / 3) + x % 11) * sc)), some (.ref le), some (.tup (pl.map .int)), og] ∧ Kept Hk.length Hk H' ∧ H'[le]? = some (.list (es.map .int)) ∧ (∀ j ∈ es, Older ps ((5 * ((k : Int) / 3) + x % 11) * sc) j) ∧ (∀ j ∈ pl, j ∈ es) ∧ pl.Nodup ∧ pl.length ≤ 2) ?_ ?_
      · open_line with [range_ints]
        refine comp_filt (fun j => decide ((ps.getD j.toNat ⟨0, [], none, none⟩).born < (5 * ((k : Int) / 3) + x % 11) * sc)) (by rw [ints_len]; (first | lia | omega)) ?_ ?_
        · intro j hj Q hQ
          obtain ⟨hj0, hj1⟩ := mem_ints hj
          obtain ⟨p, hp, hp'⟩ := per_at (ps := ps) (k := j) hj0 (by (first | lia | omega))
          have e : ps.getD j.toNat ⟨0, [], none, none⟩ = p := by rw [List.getD_eq_getElem?_getD, hp']; rfl
          rw [e] at hQ
          open_line with [idx_lst _ _ _ hPk, hp, perV]
          exact wIf_q _ hQ
        · generalize hes : (iseq 0 (k : Int)).filter _ = es
          have hes' : ∀ j ∈ es, Older ps ((5 * ((k : Int) / 3) + x % 11) * sc) j := by
            intro j hj
            rw [← hes, List.mem_filter] at hj
            obtain ⟨hj0, hj1⟩ := mem_ints hj.1
            obtain ⟨p, hp, hp'⟩ := per_at (ps := ps) (k := j) hj0 (by (first | lia | omega))
            have e : ps.getD j.toNat ⟨0, [], none, none⟩ = p := by rw [List.getD_eq_getElem?_getD, hp']; rfl
            rw [e] at hj
            exact ⟨hj0, p, hp', by simpa using hj.2⟩
          have hel : es.length ≤ k := by
            rw [← hes]
            refine Nat.le_trans (List.length_filter_le _ _) ?_
            rw [ints_len]; (first | lia | omega)
          have hsl := slice_len es (some (-7)) none
          have hE := at_new Hk (.list (es.map .int))
          have hsz : ((pySlice es (some (-7)) none).map V.int).length < 16000000 := by simp <;> (first | lia | omega)
          open_line with [WSlc_lst _ _ _ (.int (-7)) .none hE (l := some (-7)) (h := none) (by rfl) (by rfl), slice_map, WAllocL_ok _ _ _ hsz]
          refine call_of (w_some scr n _ (x / 11) 0 _ (pySlice es (some (-7)) none) (at_new _ _)) ?_
          refine el_1_5 ?_
          intro H' pl hF' hin hnd hpl _
          open_line
          first | exact in_3_6 (a1 := es) (a2 := pl) rfl (((Kept.app _ _).trans (Kept.app _ _) (by simp)).trans hF' (by simp <;> (first | lia | omega))) (hF'.at' (at_app _ hE)) hes' (fun j hj => slice_mem (hin j hj)) hnd hpl | exact ⟨_, es, pl, rfl, ((Kept.app _ _).trans (Kept.app _ _) (by simp)).trans hF' (by simp <;> (first | lia | omega)), hF'.at' (at_app _ hE), hes', fun j hj => slice_mem (hin j hj), hnd, hpl⟩
      · refine el_3_6 ?_
        intro Hm le es pl hFm hEm hes hple hplN hpl2
        have hPm := hFm.at' hPk
        have hHm := hFm.at' hHk
        have hXm := hFm.at' hXk
        simp only [List.drop_succ_cons, List.drop_zero]
        -- the parents of the one ahead
        refine cut 1 (fun ρ' H' => ∃ pl : List Int, ρ' = [some (.int c), some (.int m), some (.ref H.length), some (.int sc), some (.ref lh), some (.int k), some (.int x), some (.int ((5 * ((k : Int) / 3) + x % 11) * sc)), some (.ref le), some (.tup (pl.map .int)), og] ∧ Kept Hm.length Hm H' ∧ (∀ j ∈ pl, Older ps ((5 * ((k : Int) / 3) + x % 11) * sc) j) ∧ pl.Nodup ∧ pl.length ≤ 2) ?_ ?_
        · have stay : ∀ H', Kept Hm.length Hm H' → ∃ pl' : List Int, ([some (.int c), some (.int m), some (.ref H.length), some (.int sc), some (.ref lh), some (.int k), some (.int x), some (.int ((5 * ((k : Int) / 3) + x % 11) * sc)), some (.ref le), some (.tup (pl.map .int)), og] : Env') = [some (.int c), some (.int m), some (.ref H.length), some (.int sc), some (.ref lh), some (.int k), some (.int x), some (.int ((5 * ((k : Int) / 3) + x % 11) * sc)), some (.ref le), some (.tup (pl'.map .int)), og] ∧ Kept Hm.length Hm H' ∧ (∀ j ∈ pl', Older ps ((5 * ((k : Int) / 3) + x % 11) * sc) j) ∧ pl'.Nodup ∧ pl'.length ≤ 2 :=
            fun H' hH' => ⟨pl, rfl, hH', fun j hj => hes j (hple j hj), hplN, hpl2⟩
          simp only [List.take_succ_cons, List.take_zero]
          refine if_cut (fun b H' => Kept Hm.length Hm H' ∧ (b = true → 0 < k ∧ ∃ p, ps[k - 1]? = some p ∧ ∀ j ∈ p.par, j ∈ es)) ?_ ?_ ?_
          · open_line
            refine wIf_split ?_ ?_
            · intro hk0
              open_line
              have hk0 : 0 < k := by simpa using hk0
              refine wIf_split ?_ ?_
              · intro _
                open_line
                obtain ⟨p, hp, hp'⟩ := per_at (ps := ps) (k := (k : Int) - 1) (by (first | lia | omega)) (by (first | lia | omega))
                have hp2 : ps[k - 1]? = some p := by rw [← hp']; congr 1; (first | lia | omega)
                open_line with [idx_lst _ _ _ hPm, hp, perV]
                refine comp_filt (fun j => !decide (j ∈ es)) (by have := (hW _ _ hp2).2.2.2.1; (first | lia | omega)) ?_ ?_
                · intro j hj Q hQ
                  open_line with [notin_lst _ hEm]
                  exact wIf_q _ hQ
                · open_line with [cmp_eq_empty (at_new _ _) (plain_ints _ 8)]
                  refine ⟨(Kept.app _ _).trans (Kept.app _ _) (by simp), fun h => ⟨hk0, p, hp2, ?_⟩⟩
                  intro j hj
                  have : List.filter (fun j => !decide (j ∈ es)) p.par = [] := by simpa using h
                  have := List.filter_eq_nil_iff.mp this j hj
                  simpa using this
              · intro h
                open_line
                rw [h]
                exact ⟨Kept.refl (Nat.le_refl _), by simp⟩
            · intro h
              open_line
              rw [h]
              exact ⟨Kept.refl (Nat.le_refl _), by simp⟩
          · rintro H' ⟨hF', h⟩
            obtain ⟨hk0, p, hp, hin⟩ := h rfl
            have hs := per_at' (ps := ps) (k := (k : Int) - 1) (p := p) (by (first | lia | omega)) (by rw [← hp]; congr 1; (first | lia | omega))
            open_line with [idx_lst _ _ _ (hF'.at' hPm), hs, perV]
            obtain ⟨w1, w2, w3, w4, w5⟩ := hW _ _ hp
            exact ⟨p.par, by simp, hF', fun j hj => hes j (hin j hj), w3, w4⟩
          · rintro H' ⟨hF', _⟩
            open_line
            exact stay H' hF'
        · refine el_1_4 ?_
          intro Hn pl hFn hpo hpN hp2
          have hPn := hFn.at' hPm
          have hHn := hFn.at' hHm
          have hXn := hFn.at' hXm
          simp only [List.drop_succ_cons, List.drop_zero]
          -- the house of four ages
          refine cut 1 (fun ρ' H' => ∃ (b : Int) (pl : List Int), ρ' = [some (.int c), some (.int m), some (.ref H.length), some (.int sc), some (.ref lh), some (.int k), some (.int x), some (.int b), some (.ref le), some (.tup (pl.map .int)), og] ∧ H' = Hn ∧ 0 ≤ b ∧ b ≤ 360000 ∧ (∀ j ∈ pl, Older ps b j) ∧ pl.Nodup ∧ pl.length ≤ 2 ∧ (c / 4 % 3 = 0 → k < 12 → 12 * ((k / 2 : Nat) : Int) * sc ≤ b ∧ b ≤ (12 * ((k / 2 : Nat) : Int) + 10) * sc)) ?_ ?_
          · by_cases hc : c / 4 % 3 = 0
            · by_cases hk : k < 12
              · have hk' : ((k : Int) < 12) := by (first | lia | omega)
                have hr : 0 ≤ x % 11 ∧ x % 11 ≤ 10 := by (first | lia | omega)
                obtain ⟨ls, hls, hN, h2, hO⟩ := house_ok hsc hk hl (fun _ => hHI hc) (x % 11) hr.1
                have hs : seqAt houseV (k : Int) = some (.tup (ls.map .int)) := by
                  unfold seqAt; rw [if_pos (by (first | lia | omega))]
                  simp [houseV, hls]
                obtain ⟨hb0, hb1⟩ := bd_mul (a := 12 * ((k : Int) / 2) + x % 11) hsc (by (first | lia | omega)) (by (first | lia | omega))
                open_line with [hc, hk', decide_true, idx_lst _ _ _ hHn, hs]
                refine ⟨(12 * ((k : Int) / 2) + x % 11) * sc, ls, by simp, by simp, hb0, hb1, hO, hN, h2, fun _ _ => ?_⟩
                rcases hsc with h | h <;> subst h <;> (first | lia | omega)
              · have hk' : ¬ ((k : Int) < 12) := by (first | lia | omega)
                open_line with [hc, hk', decide_false]
                first | exact in_2_7 (a1 := pl) rfl trivial hb0 hb1 hpo hpN hp2 (fun _ h => absurd h hk) | exact ⟨_, pl, rfl, (by trivial), hb0, hb1, hpo, hpN, hp2, fun _ h => absurd h hk⟩
            · have hc' : (c / 4 % 3 == 0) = false := by simpa using hc
              open_line with [hc']
              first | exact in_2_7 (a1 := pl) rfl trivial hb0 hb1 hpo hpN hp2 (fun h => absurd h hc) | exact ⟨_, pl, rfl, (by trivial), hb0, hb1, hpo, hpN, hp2, fun h => absurd h hc⟩
          · refine el_2_7 ?_
            intro H' b pl hrf0 hb0 hb1 hpo hpN hp2 hHb
            subst hrf0
            simp only [List.drop_succ_cons, List.drop_zero]
            -- the day of death
            refine cut 2 (fun ρ' H'' => ∃ di : Option Int, ρ' = [some (.int c), some (.int m), some (.ref H.length), some (.int sc), some (.ref lh), some (.int k), some (.int x), some (.int b), some (.ref le), some (.tup (pl.map .int)), some (diV di)] ∧ Kept H'.length H' H'' ∧ ∀ d, di = some d → b ≤ d ∧ d ≤ 600000) ?_ ?_
            · have hs : ∃ z : Int, seqAt [V.int 4, V.int 9] (c / 12 % 2) = some (.int z) ∧ 0 < z := by
                have : c / 12 % 2 = 0 ∨ c / 12 % 2 = 1 := by (first | lia | omega)
                rcases this with h | h <;> rw [h]
                · first | exact in_1_1 (a0 := 4) rfl (by (first | lia | omega)) | exact ⟨4, rfl, by (first | lia | omega)⟩
                · first | exact in_1_1 (a0 := 9) rfl (by (first | lia | omega)) | exact ⟨9, rfl, by (first | lia | omega)⟩
              obtain ⟨z, hz, hz0⟩ := hs
              open_line with [idx_lst _ _ _ (at_new _ _), hz]
              obtain ⟨hd0, hd1⟩ := bd_mul (a := x / 1500 % 40) hsc (by (first | lia | omega)) (by (first | lia | omega))
              refine wIf_split ?_ ?_
              · intro _
                open_line
                exact ⟨some (b + x / 1500 % 40 * sc), rfl, Kept.app _ _, by
                  intro d hd
                  have : d = b + x / 1500 % 40 * sc := by simpa using hd.symm
                  rcases hsc with h | h <;> subst h <;> (first | lia | omega)⟩
              · intro _
                open_line
                first | exact in_1_2 (a0 := none) rfl (Kept.app _ _) (by simp) | exact ⟨none, rfl, Kept.app _ _, by simp⟩
            · refine el_1_2 ?_
              intro Ho di hFo hdi
              have hPo := hFo.at' hPn
              have hHo := hFo.at' hHn
              have hXo := hFo.at' hXn
              simp only [List.drop_succ_cons, List.drop_zero]
              have hsz : (ps.map perV).length < 16000000 := by simp <;> (first | lia | omega)
              open_line with [meKind_app _ hPo, WMeth_app _ _ _ hPo hsz]
              have hFall : Kept H.length H Ho := ((hFk.trans hFm (by have := at_lt hPk; (first | lia | omega))).trans hFn (by have := at_lt hPm; (first | lia | omega))).trans hFo (by have := at_lt hPn; (first | lia | omega))
              have hlsne : H.length ≠ ls := by (first | lia | omega)
              have hlhne : H.length ≠ lh := by (first | lia | omega)
              first | refine ⟨stands_ref (at_set_ne hXo hlsne) hX, in_7_8 (a0 := ps ++ [⟨b, pl, none, di⟩]) rfl (hFall.trans (Kept.set _ (Nat.le_refl _) (by have := at_lt hPo; (first | lia | omega))) (Nat.le_refl _)) ?_ (at_set_ne hHo hlhne) (at_set_ne hXo hlsne) (by simp [hl]) ?_ ?_ ?_⟩ | refine ⟨stands_ref (at_set_ne hXo hlsne) hX, ps ++ [⟨b, pl, none, di⟩], _, _, _, _, _, _, rfl, hFall.trans (Kept.set _ (Nat.le_refl _) (by have := at_lt hPo; (first | lia | omega))) (Nat.le_refl _), ?_, at_set_ne hHo hlhne, at_set_ne hXo hlsne, by simp [hl], ?_, ?_, ?_⟩
              · rw [at_set hPo]; simp [perV, adV]
              · intro i p hp
                rcases Nat.lt_or_ge i ps.length with hi | hi
                · rw [List.getElem?_append_left hi] at hp
                  obtain ⟨w1, w2, w3, w4, w5, w6, w7⟩ := hW i p hp
                  have had : p.ad = none := hAd p (List.mem_of_getElem? hp)
                  exact ⟨w1, w2, w3, w4, fun j hj => (w5 j hj).app _, w6, fun d ls h => by rw [had] at h; simp at h⟩
                · rw [List.getElem?_append_right hi] at hp
                  have hi0 : i - ps.length = 0 := by
                    rcases Nat.eq_zero_or_pos (i - ps.length) with h | h
                    · exact h
                    · rw [List.getElem?_eq_none (by simp <;> (first | lia | omega))] at hp; simp at hp
                  rw [hi0] at hp
                  have hp : p = ⟨b, pl, none, di⟩ := by simpa using hp.symm
                  subst hp
                  exact ⟨hb0, by show b ≤ 400000; (first | lia | omega), hpN, hp2, fun j hj => (hpo j hj).app _, hdi, fun d ls h => by simp at h⟩
              · intro p hp
                rcases List.mem_append.mp hp with h | h
                · exact hAd p h
                · have : p = _ := List.mem_singleton.mp h
                  subst this; rfl
              · intro hc i p hi hp
                rcases Nat.lt_or_ge i ps.length with hi' | hi'
                · rw [List.getElem?_append_left hi'] at hp
                  exact hHI hc i p hi hp
                · rw [List.getElem?_append_right hi'] at hp
                  have hi0 : i - ps.length = 0 := by
                    rcases Nat.eq_zero_or_pos (i - ps.length) with h | h
                    · exact h
                    · rw [List.getElem?_eq_none (by simp <;> (first | lia | omega))] at hp; simp at hp
                  rw [hi0] at hp
                  have hp : p = ⟨b, pl, none, di⟩ := by simpa using hp.symm
                  subst hp
                  have : i = k := by (first | lia | omega)
                  subst this
                  exact hHb hc hi
    · refine el_7_8 ?_
      intro H' ps oa ob od oe of og hF' hP' hH' hX' hl hW hAd _
      open_line
      first | exact in_2_6 (a1 := ps) rfl (Nat.le_refl _) hF' hP' (by rw [hl, enum_len, List.length_map]; exact hxl) hW hAd | exact ⟨_, ps, rfl, Nat.le_refl _, hF', hP', by rw [hl, enum_len, List.length_map]; exact hxl, hW, hAd⟩

/-- the same people, some of them adopted -/
noncomputable def Adopted (ps ps' : List Per) : Prop := ps'.length = ps.length ∧ ∀ (i : Nat) p p', ps[i]? = some p → ps'[i]? = some p' → p'.born = p.born ∧ p'.par = p.par ∧ p'.died = p.died ∧ WfAd ps p'
theorem Adopted.older {ps ps' : List Per} (h : Adopted ps ps') {b j : Int} (ho : Older ps b j) : Older ps' b j := by
  obtain ⟨h0, q, hq, hb⟩ := ho
  have hl := (List.getElem?_eq_some_iff.mp hq).1
  have hl' : j.toNat < ps'.length := by rw [h.1]; exact hl
  have hq' : ps'[j.toNat]? = some ps'[j.toNat] := by simp [hl']
  obtain ⟨e, _⟩ := h.2 _ _ _ hq hq'
  exact ⟨h0, _, hq', by rw [e]; exact hb⟩
theorem Adopted.wf {ps ps' : List Per} (h : Adopted ps ps') (hW : WfP ps) : WfP ps' := by
  intro k p' hp'
  have hl := (List.getElem?_eq_some_iff.mp hp').1
  have hl' : k < ps.length := by rw [← h.1]; exact hl
  have hp : ps[k]? = some ps[k] := by simp [hl']
  obtain ⟨e1, e2, e3, ha⟩ := h.2 k _ _ hp hp'
  obtain ⟨w1, w2, w3, w4, w5, w6, w7⟩ := hW k _ hp
  refine ⟨by rw [e1]; exact w1, by rw [e1]; exact w2, by rw [e2]; exact w3, by rw [e2]; exact w4, ?_, ?_, ?_⟩
  · rw [e1, e2]; exact fun j hj => h.older (w5 j hj)
  · rw [e1, e3]; exact w6
  · intro d ls hd
    obtain ⟨a1, a2, a3, a4, a5, a6, a7⟩ := ha d ls hd
    exact ⟨a1, a2, a3, a4, a5, fun j hj => h.older (a6 j hj), a7⟩

theorem enum_int {xs : List Int} {k : Nat} {v : V} (hv : (enumV 0 (xs.map V.int))[k]? = some v) : ∃ x, xs[k]? = some x ∧ v = .tup [.int (k : Int), .int x] := by
  obtain ⟨w, hw, rfl⟩ := enum_get hv
  rw [List.getElem?_map] at hw
  cases hx : xs[k]? with
  | none => rw [hx] at hw; simp at hw
  | some x =>
    rw [hx] at hw
    have hw : V.int x = w := by simpa using hw
    first | exact in_1_1 (a0 := x) rfl (by rw [← hw]; simp) | exact ⟨x, rfl, by rw [← hw]; simp⟩

theorem w_adopting (n l : Nat) (c : Int) (H : Hp) (ps : List Per) (hA : H[l]? = some (.list (ps.map perV))) (hW : WfP ps) (hno : ∀ p ∈ ps, p.ad = none) (hlen : ps.length ≤ 60) : callW scr pgks pfns (n + 2) i_law_adopting [.ref l, .int c] H fun v H' =>
    ∃ (l' : Nat) (ps' : List Per), v = .ref l' ∧ H.length ≤ l' ∧ Kept H.length H H' ∧ H'[l']? = some (.list (ps'.map perV)) ∧ ps'.length = ps.length ∧ WfP ps' := by
  refine c_law_adopting ?_
  unfold pb_law_adopting
  have hsz : (ps.map perV).length < 16000000 := by simp <;> (first | lia | omega)
  open_line with [keysOf_lst _ _ hA, WAllocL_ok _ _ _ hsz, WBi_lenL _ _ _ (at_app _ hA), List.length_map]
  refine call_of (w_stream scr n c _ _ (by (first | lia | omega)) (by (first | lia | omega))) ?_
  refine el_2_5 ?_
  intro H₂ ls xs hls hF2 hX hxl hxr
  have hN := hF2.at' (at_new H (.list (ps.map perV)))
  have hA2 := hF2.at' (at_app [.list (ps.map perV)] hA)
  have hlt := at_lt hA
  simp only [List.length_append, List.length_cons, List.length_nil] at hls
  open_line with [lstOf_lst _ _ hX]
  refine for_inv (fun k ρ H' => ∃ (ps' : List Per) (a b d e f g i j : Option V), ρ = [some (.ref l), some (.int c), some (.ref H.length), a, b, d, e, f, g, i, j] ∧ Kept H.length H H' ∧ H'[H.length]? = some (.list (ps'.map perV)) ∧ H'[ls]? = some (.list (xs.map .int)) ∧ Adopted ps ps') ?_ ?_ ?_
  · first | refine in_9_5 (a0 := ps) rfl ((Kept.app _ _).trans hF2 (by simp)) hN hX rfl ?_ | refine ⟨ps, _, _, _, _, _, _, _, _, rfl, (Kept.app _ _).trans hF2 (by simp), hN, hX, rfl, ?_⟩
    intro i p p' hp hp'
    rw [hp] at hp'
    have : p = p' := by simpa using hp'
    subst this
    exact ⟨rfl, rfl, rfl, (hW i p hp).2.2.2.2.2.2⟩
  · intro k v hv
    refine el_9_4 ?_
    intro Hk ps' oa ob od oe of og oi oj hFk hNk hXk hAd
    obtain ⟨x, hx, rfl⟩ := enum_int hv
    have hkx := (List.getElem?_eq_some_iff.mp hx).1
    obtain ⟨hx0, hx1⟩ := hxr x (List.mem_of_getElem? hx)
    have hAk := hFk.at' hA
    obtain ⟨p, hp, hp'⟩ := per_at (ps := ps) (k := (k : Int)) (by (first | lia | omega)) (by (first | lia | omega))
    o_facts bd
    refine cut 3 (fun ρ' H' => ∃ (le : Nat) (es : List Int), ρ' = [some (.ref l), some (.int c), some (.ref H.length), some (.int k), some (.int x), some (.int p.born), some (.tup (p.par.map .int)), some (adV p.ad), some (diV p.died), some (.ref le), some (.int (p.born + x % 30))] ∧ Kept Hk.length Hk H' ∧ H'[le]? = some (.list (es.map .int)) ∧ (∀ j ∈ es, Older ps p.born j)) ?_ ?_
    · open_line with [idx_lst _ _ _ hAk, hp, perV, WBi_lenL _ _ _ hAk, List.length_map, range_ints]
      refine comp_filt (fun j => decide ((ps.getD j.toNat ⟨0, [], none, none⟩).born < p.born)) (by rw [ints_len]; (first | lia | omega)) ?_ ?_
      · intro j hj Q hQ
        obtain ⟨hj0, hj1⟩ := mem_ints hj
        obtain ⟨q, hq, hq'⟩ := per_at (ps := ps) (k := j) hj0 (by (first | lia | omega))
        have e : ps.getD j.toNat ⟨0, [], none, none⟩ = q := by rw [List.getD_eq_getElem?_getD, hq']; rfl
        rw [e] at hQ
        open_line with [idx_lst _ _ _ hAk, hq, perV]
        exact wIf_q _ hQ
      · generalize hes : (iseq 0 (ps.length : Int)).filter _ = es
        have hes' : ∀ j ∈ es, Older ps p.born j := by
          intro j hj
          rw [← hes, List.mem_filter] at hj
          obtain ⟨hj0, hj1⟩ := mem_ints hj.1
          obtain ⟨q, hq, hq'⟩ := per_at (ps := ps) (k := j) hj0 (by (first | lia | omega))
          have e : ps.getD j.toNat ⟨0, [], none, none⟩ = q := by rw [List.getD_eq_getElem?_getD, hq']; rfl
          rw [e] at hj
          exact ⟨hj0, q, hq', by simpa using hj.2⟩
        open_line
        first | exact in_2_3 (a1 := es) rfl (Kept.app _ _) (at_new _ _) hes' | exact ⟨_, es, rfl, Kept.app _ _, at_new _ _, hes'⟩
    · refine el_2_3 ?_
      intro Hm le es hFm hEm hes
      have hNm := hFm.at' hNk
      have hXm := hFm.at' hXk
      have hFall : Kept H.length H Hm := hFk.trans hFm (by have := at_lt hNk; (first | lia | omega))
      have hne : H.length ≠ ls := by (first | lia | omega)
      simp only [List.drop_succ_cons, List.drop_zero]
      refine if_cut (fun b H' => Kept Hm.length Hm H' ∧ (b = true → es ≠ [] ∧ ∀ e, p.died = some e → p.born + x % 30 < e)) ?_ ?_ ?_
      · open_line
        refine wIf_split ?_ ?_
        · intro _
          open_line with [cmp_ne_empty hEm (plain_ints _ 8)]
          refine wIf_split ?_ ?_
          · intro h
            open_line
            have hes0 : es ≠ [] := by simpa using h
            cases hd : p.died with
            | none =>
              open_line with [diV, show isNoneV V.none = true from rfl]
              exact ⟨Kept.app _ _, fun _ => ⟨hes0, by simp⟩⟩
            | some e =>
              open_line with [diV, show isNoneV (V.int e) = false from rfl]
              refine ⟨Kept.app _ _, fun h => ⟨hes0, ?_⟩⟩
              intro e' he'
              have : e = e' := by simpa using he'
              subst this
              simpa using h
          · intro h
            open_line
            rw [h]
            exact ⟨Kept.app _ _, by simp⟩
        · intro h
          open_line
          rw [h]
          exact ⟨Kept.refl (Nat.le_refl _), by simp⟩
      · rintro H' ⟨hF', h⟩
        obtain ⟨hes0, hdd⟩ := h rfl
        open_line
        refine call_of (w_some scr n le (x / 120) 1 H' es (hF'.at' hEm)) ?_
        refine el_1_5 ?_
        intro H'' al hF'' hin hnd hl2 hne1
        have hN'' := hF''.at' (hF'.at' hNm)
        have hX'' := hF''.at' (hF'.at' hXm)
        have hk' : k < ps'.length := by rw [hAd.1]; (first | lia | omega)
        open_line with [setIdx_lst _ _ _ hN'' (Int.natCast_nonneg k) (by simp <;> (first | lia | omega))]
        first | refine ⟨stands_ref (at_set_ne hX'' hne) hX, in_9_5 (a0 := ps'.set k ⟨p.born, p.par, some (p.born + x % 30, al), p.died⟩) rfl ?_ ?_ (at_set_ne hX'' hne) ?_ ?_⟩ | refine ⟨stands_ref (at_set_ne hX'' hne) hX, ps'.set k ⟨p.born, p.par, some (p.born + x % 30, al), p.died⟩, _, _, _, _, _, _, _, _, rfl, ?_, ?_, at_set_ne hX'' hne, ?_, ?_⟩
        · have h1 := at_lt hNm
          exact ((hFall.trans hF' (by (first | lia | omega))).trans hF'' (by have := at_lt (hF'.at' hNm); (first | lia | omega))).trans (Kept.set _ (Nat.le_refl _) (by have := at_lt hN''; (first | lia | omega))) (Nat.le_refl _)
        · rw [at_set hN'']
          simp [List.map_set, perV, adV]
        · rw [List.length_set]; exact hAd.1
        · intro i q q' hq hq'
          by_cases hik : k = i
          · subst hik
            rw [List.getElem?_set_self hk'] at hq'
            have hq' := (Option.some.inj hq').symm
            subst hq'
            have : q = p := by
              have h1 : ps[k]? = some p := by simpa using hp'
              rw [hq] at h1; simpa using h1
            subst this
            refine ⟨rfl, rfl, rfl, ?_⟩
            intro d ls hd
            have hd : q.born + x % 30 = d ∧ al = ls := by simpa using hd
            obtain ⟨rfl, rfl⟩ := hd
            exact ⟨by show q.born ≤ _; (first | lia | omega), by show _ ≤ q.born + 29; (first | lia | omega), hne1 (by decide) hes0, hnd, hl2, fun j hj => hes j (hin j hj), hdd⟩
          · rw [List.getElem?_set_ne hik] at hq'
            exact hAd.2 i q q' hq hq'
      · rintro H' ⟨hF', _⟩
        open_line
        first | exact ⟨stands_ref (hF'.at' hXm) hX, in_9_4 (a0 := ps') rfl (hFall.trans hF' (by have := at_lt hNm; (first | lia | omega))) (hF'.at' hNm) (hF'.at' hXm) hAd⟩ | exact ⟨stands_ref (hF'.at' hXm) hX, ps', _, _, _, _, _, _, _, _, rfl, hFall.trans hF' (by have := at_lt hNm; (first | lia | omega)), hF'.at' hNm, hF'.at' hXm, hAd⟩
  · refine el_9_4 ?_
    intro H' ps' oa ob od oe of og oi oj hF' hN' hX' hAd
    open_line
    first | exact in_2_5 (a1 := ps') rfl (Nat.le_refl _) hF' hN' hAd.1 (hAd.wf hW) | exact ⟨_, ps', rfl, Nat.le_refl _, hF', hN', hAd.1, hAd.wf hW⟩
end Mine.P

end
section
set_option autoImplicit false
set_option linter.unusedVariables false
set_option linter.unusedSimpArgs false
namespace Mine
open PySem

/-- a person's parents on a day, whether a person lives on it -/
noncomputable def parOn (p : Per) (d : Int) : List Int := match p.ad with
  | some (a, ls) => if a ≤ d then ls else p.par
  | none => p.par
noncomputable def livesP (p : Per) (d : Int) : Bool := decide (p.born ≤ d) && (match p.died with | none => true | some e => decide (d < e))
noncomputable def childB (ps : List Per) (d p c : Int) : Bool := match ps[c.toNat]? with
  | some q => decide (q.born ≤ d) && decide (p ∈ parOn q d)
  | none => false
theorem parOn_older {ps : List Per} (hW : WfP ps) {k : Nat} {q : Per} (hq : ps[k]? = some q) (d : Int) {j : Int} (h : j ∈ parOn q d) : Older ps q.born j := by
  obtain ⟨_, _, _, _, w5, _, w7⟩ := hW k q hq
  unfold parOn at h
  cases ha : q.ad with
  | none => rw [ha] at h; exact w5 j h
  | some a =>
    obtain ⟨x, ls⟩ := a
    rw [ha] at h
    obtain ⟨_, _, _, _, _, w, _⟩ := w7 x ls ha
    dsimp only at h
    split at h
    · exact w j h
    · exact w5 j h
theorem parOn_len {ps : List Per} (hW : WfP ps) {k : Nat} {q : Per} (hq : ps[k]? = some q) (d : Int) : (parOn q d).length ≤ 2 := by
  obtain ⟨_, _, _, w4, _, _, w7⟩ := hW k q hq
  unfold parOn
  cases ha : q.ad with
  | none => exact w4
  | some a =>
    obtain ⟨x, ls⟩ := a
    obtain ⟨_, _, _, _, w, _, _⟩ := w7 x ls ha
    dsimp only
    split
    · exact w
    · exact w4
/-- one of the lines below a person lives: found `k` ages below -/
inductive Line (ps : List Per) (d : Int) : Nat → Int → Prop
  | live {p : Int} {q : Per} : 0 ≤ p → ps[p.toNat]? = some q → livesP q d = true → Line ps d 0 p
  | step {k : Nat} {p c : Int} {q : Per} : 0 ≤ c → ps[c.toNat]? = some q → q.born ≤ d → p ∈ parOn q d → Line ps d k c → Line ps d (k + 1) p
/-- how many are younger -/
noncomputable def younger (ps : List Per) (b : Int) : Nat := ps.countP fun q => decide (b < q.born)
theorem younger_le (ps : List Per) (b : Int) : younger ps b ≤ ps.length := List.countP_le_length
theorem younger_mono {b b' : Int} (h : b ≤ b') : ∀ ps : List Per, younger ps b' ≤ younger ps b := fun ps => List.countP_mono_left fun q _ hq => by
  have : b' < q.born := by simpa using hq
  simp; (first | lia | omega)
theorem younger_lt {b : Int} {q : Per} (hb : b < q.born) : ∀ {ps : List Per}, q ∈ ps → younger ps q.born < younger ps b
  | p :: r, h => by
    unfold younger
    rw [List.countP_cons, List.countP_cons]
    rcases List.mem_cons.mp h with e | h
    · subst e
      have h1 : decide (q.born < q.born) = false := by simp
      have h2 : decide (b < q.born) = true := by simpa using hb
      rw [h1, h2]
      have := younger_mono (b := b) (b' := q.born) (by (first | lia | omega)) r
      unfold younger at this
      simp; (first | lia | omega)
    · have ih := younger_lt hb h
      unfold younger at ih
      by_cases h1 : q.born < p.born
      · have h2 : b < p.born := by (first | lia | omega)
        simp [h1, h2]; (first | lia | omega)
      · simp [h1]; (first | lia | omega)
theorem Line.rank {ps : List Per} (hW : WfP ps) {d : Int} {k : Nat} {p : Int} (h : Line ps d k p) : ∀ {q : Per}, ps[p.toNat]? = some q → k ≤ younger ps q.born := by
  induction h with
  | live => intro q _; exact Nat.zero_le _
  | @step k p c q h0 hq hb hp _ ih =>
    intro q' hq'
    obtain ⟨_, q2, hq2, hlt⟩ := parOn_older hW hq d hp
    rw [hq'] at hq2; cases hq2
    have := younger_lt hlt (List.mem_of_getElem? hq)
    have := ih hq
    (first | lia | omega)
theorem Line.valid {ps : List Per} (hW : WfP ps) {d : Int} {k : Nat} {p : Int} (h : Line ps d k p) : 0 ≤ p ∧ ∃ q, ps[p.toNat]? = some q := by
  cases h with
  | live h0 hq _ => exact ⟨h0, _, hq⟩
  | step h0 hq hb hp _ =>
    obtain ⟨h1, q2, hq2, _⟩ := parOn_older hW hq d hp
    exact ⟨h1, q2, hq2⟩

/-- the keys of a table -/
abbrev ks (es : List (Int × V)) : List Int := es.map (·.1)
theorem any_ks (es : List (Int × V)) (k : Int) : (es.any fun p => decide (p.1 = k)) = decide (k ∈ ks es) := by
  induction es with
  | nil => rfl
  | cons a r ih =>
    rw [List.any_cons, ih]
    by_cases h : a.1 = k
    · simp [h]
    · have : ¬ k = a.1 := fun e => h e.symm
      simp [h, this]
theorem ks_dput (es : List (Int × V)) (k : Int) (v : V) : ks (dput es k v) = if k ∈ ks es then ks es else ks es ++ [k] := by
  unfold dput
  rw [any_ks]
  by_cases h : k ∈ ks es
  · simp only [h, decide_true, if_true]
    show (es.map _).map _ = _
    rw [List.map_map]
    refine List.map_congr_left fun p _ => ?_
    show (if p.1 = k then (p.1, v) else p).1 = p.1
    split <;> rfl
  · simp only [h, decide_false, Bool.false_eq_true, if_false]
    show (es ++ [(k, v)]).map _ = _
    rw [List.map_append]; rfl
theorem mem_dput {es : List (Int × V)} {k j : Int} {v : V} : j ∈ ks (dput es k v) ↔ j ∈ ks es ∨ j = k := by
  rw [ks_dput]
  by_cases h : k ∈ ks es
  · rw [if_pos h]
    exact ⟨.inl, fun h' => h'.elim id fun e => e ▸ h⟩
  · rw [if_neg h, List.mem_append, List.mem_singleton]
theorem nodup_dput {es : List (Int × V)} {k : Int} {v : V} (h : (ks es).Nodup) : (ks (dput es k v)).Nodup := by
  rw [ks_dput]
  by_cases hk : k ∈ ks es
  · rw [if_pos hk]; exact h
  · rw [if_neg hk, List.nodup_append]
    exact ⟨h, by simp, fun a ha b hb e => hk (by rw [List.mem_singleton] at hb; rw [← hb, ← e]; exact ha)⟩
theorem len_dput (es : List (Int × V)) (k : Int) (v : V) : (dput es k v).length ≤ es.length + 1 := by
  unfold dput
  split
  · rw [List.length_map]; (first | lia | omega)
  · rw [List.length_append, List.length_singleton]; (first | lia | omega)
theorem val_dput {es : List (Int × V)} {k : Int} {v : V} {P : V → Prop} (h : ∀ p ∈ es, P p.2) (hv : P v) : ∀ p ∈ dput es k v, P p.2 := by
  unfold dput
  split
  · intro p hp
    obtain ⟨q, hq, rfl⟩ := List.mem_map.mp hp
    split
    · exact hv
    · exact h q hq
  · intro p hp
    rcases List.mem_append.mp hp with hp | hp
    · exact h p hp
    · rw [List.mem_singleton.mp hp]; exact hv
theorem dget_some {es : List (Int × V)} {k : Int} {P : V → Prop} (h : ∀ p ∈ es, P p.2) {v : V} (hv : dget es k = some v) : P v := by
  unfold dget at hv
  obtain ⟨p, hp, rfl⟩ := Option.map_eq_some_iff.mp hv
  exact h p (List.mem_of_find?_eq_some hp)
theorem dget_dput {es : List (Int × V)} {k : Int} {v : V} : ∃ u, dget (dput es k v) k = some u := by
  have h : k ∈ ks (dput es k v) := mem_dput.mpr (.inr rfl)
  obtain ⟨p, hp, e⟩ := List.mem_map.mp h
  unfold dget
  cases hf : (dput es k v).find? (fun p => decide (p.1 = k)) with
  | some q => exact ⟨_, rfl⟩
  | none =>
    have := List.find?_eq_none.mp hf p hp
    simp [e] at this
theorem nodup_bound : ∀ (n : Nat) (l : List Int), l.Nodup → (∀ k ∈ l, 0 ≤ k ∧ k < n) → l.length ≤ n
  | 0, l, _, h => by
    cases l with
    | nil => simp
    | cons a r => have := h a (.head _); (first | lia | omega)
  | n + 1, l, hn, h => by
    by_cases hm : (n : Int) ∈ l
    · have := nodup_bound n (l.erase n) (hn.erase _) fun k hk => by
        have hk' := (hn.mem_erase_iff).mp hk
        have := h k hk'.2
        have hne := hk'.1
        (first | lia | omega)
      rw [List.length_erase_of_mem hm] at this
      (first | lia | omega)
    · have := nodup_bound n l hn fun k hk => by
        have h1 := h k hk
        have : k ≠ n := fun e => hm (e ▸ hk)
        (first | lia | omega)
      (first | lia | omega)
/-- two lists of the same plain things -/
theorem eq_lists {scr : List Int} {H : Hp} {l m : Nat} {vs : List V} (h : H[l]? = some (.list vs)) (h' : H[m]? = some (.list vs)) (hp : ∀ v, v ∈ vs → plain 8 v = true) : cmpV scr .eq (.ref l) (.ref m) H = some true := by
  obtain ⟨ds, h1, h2⟩ := rd_list (scr := scr) h hp
  have h3 : rd scr 10 H (.ref m) = some (.list ds) := by
    show (match H[m]? with | some (.list vs) => (rdL (rd scr 9 H) vs).map PyData.list | _ => none) = _
    rw [h']
    show (rdL (rd scr 9 H) vs).map PyData.list = _
    rw [h2]; rfl
  rw [cmpV]
  unfold eqV
  rw [h1, h3]
  show some _ = _
  rw [eqv_self scr H 10 (.ref l) _ h1]
end Mine

end
section
set_option autoImplicit false
set_option linter.unusedVariables false
set_option linter.unusedSimpArgs false
set_option maxRecDepth 100000
namespace Mine.P
open PySem
variable (scr : List Int)

theorem w_lives (n l : Nat) (k d : Int) (H : Hp) (ps : List Per) (p : Per) (hA : H[l]? = some (.list (ps.map perV))) (h0 : 0 ≤ k) (hp : ps[k.toNat]? = some p) : callW scr pgks pfns (n + 1) i_lives [.ref l, .int k, .int d] H fun v H' => v = .bool (livesP p d) ∧ H' = H := by
  refine c_lives ?_
  unfold pb_lives
  have hk := per_at' h0 hp
  open_line with [idx_lst _ _ _ hA, hk, perV]
  unfold livesP
  by_cases hb : p.born ≤ d
  · have hb' : decide (p.born ≤ d) = true := by simpa using hb
    cases hd : p.died with
    | none =>
      open_line with [hb', hd, diV, show isNoneV V.none = true from rfl, Bool.true_and]
      exact ⟨(by trivial), (by trivial)⟩
    | some e =>
      open_line with [hb', hd, diV, show isNoneV (V.int e) = false from rfl, Bool.true_and]
      exact ⟨(by trivial), (by trivial)⟩
  · have hb' : decide (p.born ≤ d) = false := by simpa using hb
    open_line with [hb', Bool.false_and]
    exact ⟨(by trivial), (by trivial)⟩

theorem w_llives (n l : Nat) (k d : Int) (H : Hp) (ps : List Per) (p : Per) (hA : H[l]? = some (.list (ps.map perV))) (h0 : 0 ≤ k) (hp : ps[k.toNat]? = some p) : callW scr pgks pfns (n + 1) i_law_lives [.ref l, .int k, .int d] H fun v H' => v = .bool (livesP p d) ∧ H' = H := by
  refine c_law_lives ?_
  unfold pb_law_lives
  have hk := per_at' h0 hp
  open_line with [idx_lst _ _ _ hA, hk, perV]
  unfold livesP
  by_cases hb : p.born ≤ d
  · have hb' : decide (p.born ≤ d) = true := by simpa using hb
    have hb2 : decide (d < p.born) = false := by simpa using hb
    cases hd : p.died with
    | none =>
      open_line with [hb', hb2, idx_lst _ _ _ hA, hk, perV, hd, diV, show isNoneV V.none = true from rfl, Bool.true_and]
      exact ⟨(by trivial), (by trivial)⟩
    | some e =>
      open_line with [hb', hb2, idx_lst _ _ _ hA, hk, perV, hd, diV, show isNoneV (V.int e) = false from rfl, Bool.true_and]
      exact ⟨(by trivial), (by trivial)⟩
  · have hb' : decide (p.born ≤ d) = false := by simpa using hb
    have hb2 : decide (d < p.born) = true := by simpa using hb
    open_line with [hb', hb2, Bool.false_and]
    exact ⟨(by trivial), (by trivial)⟩

theorem w_parents_on (n l : Nat) (k d : Int) (H : Hp) (ps : List Per) (p : Per) (hA : H[l]? = some (.list (ps.map perV))) (h0 : 0 ≤ k) (hp : ps[k.toNat]? = some p) : callW scr pgks pfns (n + 1) i_parents_on [.ref l, .int k, .int d] H fun v H' => v = .tup ((parOn p d).map .int) ∧ H' = H := by
  refine c_parents_on ?_
  unfold pb_parents_on
  have hk := per_at' h0 hp
  open_line with [idx_lst _ _ _ hA, hk, perV]
  unfold parOn
  cases ha : p.ad with
  | none =>
    open_line with [ha, adV, show isNoneV V.none = true from rfl]
    exact ⟨(by trivial), (by trivial)⟩
  | some a =>
    obtain ⟨x, ls⟩ := a
    open_line with [ha, adV, show isNoneV (V.tup [.int x, .tup (ls.map .int)]) = false from rfl]
    by_cases hx : x ≤ d
    · open_line with [show decide (x ≤ d) = true from decide_eq_true hx, if_pos hx]
      exact ⟨(by trivial), (by trivial)⟩
    · open_line with [show decide (x ≤ d) = false from decide_eq_false hx, if_neg hx]
      exact ⟨(by trivial), (by trivial)⟩

theorem w_lparents (n l : Nat) (k d : Int) (H : Hp) (ps : List Per) (p : Per) (hA : H[l]? = some (.list (ps.map perV))) (h0 : 0 ≤ k) (hp : ps[k.toNat]? = some p) : callW scr pgks pfns (n + 1) i_law_parents [.ref l, .int k, .int d] H fun v H' => v = .tup ((parOn p d).map .int) ∧ H' = H := by
  refine c_law_parents ?_
  unfold pb_law_parents
  have hk := per_at' h0 hp
  open_line with [idx_lst _ _ _ hA, hk, perV]
  unfold parOn
  cases ha : p.ad with
  | none =>
    open_line with [ha, adV, show isNoneV V.none = true from rfl, idx_lst _ _ _ hA, hk, perV]
    exact ⟨(by trivial), (by trivial)⟩
  | some a =>
    obtain ⟨x, ls⟩ := a
    open_line with [ha, adV, show isNoneV (V.tup [.int x, .tup (ls.map .int)]) = false from rfl, idx_lst _ _ _ hA, hk, perV]
    by_cases hx : x ≤ d
    · open_line with [show decide (x ≤ d) = true from decide_eq_true hx, if_pos hx, idx_lst _ _ _ hA, hk, perV, ha, adV]
      exact ⟨(by trivial), (by trivial)⟩
    · open_line with [show decide (x ≤ d) = false from decide_eq_false hx, if_neg hx, idx_lst _ _ _ hA, hk, perV]
      exact ⟨(by trivial), (by trivial)⟩

theorem take_filter {α : Type} (q : α → Bool) {l : List α} {k : Nat} {x : α} (h : l[k]? = some x) : (l.take (k + 1)).filter q = if q x then (l.take k).filter q ++ [x] else (l.take k).filter q := by
  rw [List.take_add_one, h, List.filter_append]
  cases hq : q x <;> simp [hq]
theorem iseq_get {a b : Int} {k : Nat} {v : V} (h : ((iseq a b).map V.int)[k]? = some v) : (iseq a b)[k]? = some (a + k) ∧ v = .int (a + k) ∧ a + k < b := by
  rw [← range_ints] at h
  obtain ⟨h1, h2⟩ := range_get h
  refine ⟨?_, h1, h2⟩
  have hk : k < (b - a).toNat := by (first | lia | omega)
  unfold iseq
  rw [List.getElem?_map, List.getElem?_range hk]; rfl

theorem w_children (n l : Nat) (k d : Int) (H : Hp) (ps : List Per) (hA : H[l]? = some (.list (ps.map perV))) (hlen : ps.length ≤ 60) : callW scr pgks pfns (n + 2) i_children_on [.ref l, .int k, .int d] H fun v H' =>
    ∃ lc, v = .ref lc ∧ Kept H.length H H' ∧ H'[lc]? = some (.list (((iseq 0 ps.length).filter (childB ps d k)).map .int)) := by
  refine c_children_on ?_
  unfold pb_children_on
  have hlt := at_lt hA
  open_line with [WBi_lenL _ _ _ (at_app _ hA), List.length_map, range_ints]
  refine for_inv (fun j ρ H' => ∃ o : Option V, ρ = [some (.ref l), some (.int k), some (.int d), some (.ref H.length), o] ∧ Kept H.length H H' ∧ H'[H.length]? = some (.list ((((iseq 0 ps.length).take j).filter (childB ps d k)).map .int))) ⟨_, rfl, Kept.app _ _, at_new _ _⟩ ?_ ?_
  · intro j v hv
    refine el_1_2 ?_
    intro H' o hF hN
    obtain ⟨hj1, rfl, hj2⟩ := iseq_get hv
    have hA' := hF.at' hA
    obtain ⟨p, hp, hp'⟩ := per_at (ps := ps) (k := 0 + (j : Int)) (by (first | lia | omega)) (by (first | lia | omega))
    have htf := take_filter (childB ps d k) hj1
    have hch : childB ps d k (0 + (j : Int)) = (decide (p.born ≤ d) && decide (k ∈ parOn p d)) := by unfold childB; rw [hp']
    rw [hch] at htf
    o_facts bd
    open_line with [idx_lst _ _ _ hA', hp, perV]
    by_cases hb : p.born ≤ d
    · have hb' : decide (p.born ≤ d) = true := by simpa using hb
      rw [hb', Bool.true_and] at htf
      open_line with [hb']
      refine call_of (w_parents_on scr n l (0 + (j : Int)) d H' ps p hA' (by (first | lia | omega)) hp') ?_
      rintro v H'' ⟨rfl, rfl⟩
      open_line with [in_tup]
      refine wIf_split ?_ ?_
      · intro h
        open_line
        rw [h, if_pos rfl] at htf
        have hsz : ((((iseq 0 ps.length).take j).filter (childB ps d k)).map V.int).length < 16000000 := by
          rw [List.length_map]
          refine Nat.lt_of_le_of_lt (List.length_filter_le _ _) ?_
          rw [List.length_take, ints_len]; (first | lia | omega)
        open_line with [meKind_app _ hN, WMeth_app _ _ _ hN hsz]
        first | refine ⟨rfl, in_1_2 rfl (hF.trans (Kept.set _ (Nat.le_refl _) (by have := at_lt hN; (first | lia | omega))) (Nat.le_refl _)) ?_⟩ | refine ⟨rfl, _, rfl, hF.trans (Kept.set _ (Nat.le_refl _) (by have := at_lt hN; (first | lia | omega))) (Nat.le_refl _), ?_⟩
        rw [at_set hN, htf, List.map_append]; rfl
      · intro h
        open_line
        rw [h] at htf
        open_line
        first | exact ⟨rfl, in_1_2 rfl hF (by rw [hN, htf]; rfl)⟩ | exact ⟨rfl, _, rfl, hF, by rw [hN, htf]; rfl⟩
    · have hb' : decide (p.born ≤ d) = false := by simpa using hb
      rw [hb'] at htf
      open_line with [hb']
      first | exact ⟨rfl, in_1_2 rfl hF (by rw [hN, htf]; rfl)⟩ | exact ⟨rfl, _, rfl, hF, by rw [hN, htf]; rfl⟩
  · refine el_1_2 ?_
    intro H' o hF hN
    open_line
    first | refine in_1_2 rfl hF ?_ | refine ⟨_, rfl, hF, ?_⟩
    rw [hN, List.length_map, List.take_length]

theorem child_mem {ps : List Per} {d k c : Int} : c ∈ (iseq 0 ps.length).filter (childB ps d k) ↔ 0 ≤ c ∧ ∃ q, ps[c.toNat]? = some q ∧ q.born ≤ d ∧ k ∈ parOn q d := by
  rw [List.mem_filter]
  constructor
  · rintro ⟨h1, h2⟩
    refine ⟨(mem_ints h1).1, ?_⟩
    unfold childB at h2
    split at h2
    · rename_i q hq
      simp only [Bool.and_eq_true, decide_eq_true_eq] at h2
      exact ⟨q, hq, h2⟩
    · cases h2
  · rintro ⟨h0, q, hq, h1, h2⟩
    have hl := (List.getElem?_eq_some_iff.mp hq).1
    refine ⟨?_, ?_⟩
    · unfold iseq
      exact List.mem_map.mpr ⟨c.toNat, List.mem_range.mpr (by (first | lia | omega)), by (first | lia | omega)⟩
    · unfold childB
      rw [hq]
      simp [h1, h2]

/-- has_line, by how many are younger -/
theorem w_line (l : Nat) (d : Int) (ps : List Per) (hW : WfP ps) (hlen : ps.length ≤ 60) : ∀ (r n : Nat) (k : Int) (p : Per) (H : Hp), H[l]? = some (.list (ps.map perV)) → 0 ≤ k → ps[k.toNat]? = some p → younger ps p.born ≤ r →
    callW scr pgks pfns (n + r + 3) i_has_line [.ref l, .int k, .int d] H fun v H' => ∃ b, v = .bool b ∧ Kept H.length H H' ∧ (b = true ↔ ∃ m, Line ps d m k) := by
  intro r
  induction r with
  | zero =>
    intro n k p H hA h0 hp hr
    refine c_has_line ?_
    unfold pb_has_line
    open_line
    refine call_of (w_lives scr (n + 0 + 1) l k d H ps p hA h0 hp) ?_
    rintro v H' ⟨rfl, rfl⟩
    open_line
    refine wIf_split ?_ ?_
    · intro h
      open_line
      first | exact in_1_3 (a0 := true) rfl (Kept.refl (Nat.le_refl _)) (fun _ => ⟨0, .live h0 hp h⟩) (fun _ => rfl) | exact ⟨true, rfl, Kept.refl (Nat.le_refl _), fun _ => ⟨0, .live h0 hp h⟩, fun _ => rfl⟩
    · intro h
      open_line
      refine call_of (w_children scr (n + 0) l k d H' ps hA hlen) ?_
      refine el_1_2 ?_
      intro H₂ lc hF hL
      have none_ : (iseq 0 ps.length).filter (childB ps d k) = [] := by
        rw [List.eq_nil_iff_forall_not_mem]
        intro c hc
        obtain ⟨hc0, q, hq, hb, hm⟩ := child_mem.mp hc
        obtain ⟨_, q2, hq2, hlt⟩ := parOn_older hW hq d hm
        rw [hp] at hq2; cases hq2
        have := younger_lt hlt (List.mem_of_getElem? hq)
        (first | lia | omega)
      rw [none_] at hL
      open_line with [itemsOf_lst _ _ hL]
      refine for_inv (fun j ρ H' => ρ = [some (.ref l), some (.int k), some (.int d), none] ∧ H' = H₂) ⟨rfl, rfl⟩ ?_ ?_
      · intro j v hv; cases hv
      · rintro ρ H'' ⟨rfl, rfl⟩
        open_line
        first | refine in_1_3 (a0 := false) rfl hF (fun h => (by cases h)) ?_ | refine ⟨false, rfl, hF, fun h => (by cases h), ?_⟩
        rintro ⟨m, hm⟩
        cases hm with
        | live _ hq hl => rw [hp] at hq; cases hq; rw [h] at hl; exact hl
        | step hc0 hq hb hm _ =>
          have := child_mem.mpr ⟨hc0, _, hq, hb, hm⟩
          rw [none_] at this; cases this
  | succ r ih =>
    intro n k p H hA h0 hp hr
    refine c_has_line ?_
    unfold pb_has_line
    open_line
    refine call_of (w_lives scr (n + (r + 1) + 1) l k d H ps p hA h0 hp) ?_
    rintro v H' ⟨rfl, rfl⟩
    open_line
    refine wIf_split ?_ ?_
    · intro h
      open_line
      first | exact in_1_3 (a0 := true) rfl (Kept.refl (Nat.le_refl _)) (fun _ => ⟨0, .live h0 hp h⟩) (fun _ => rfl) | exact ⟨true, rfl, Kept.refl (Nat.le_refl _), fun _ => ⟨0, .live h0 hp h⟩, fun _ => rfl⟩
    · intro h
      open_line
      refine call_of (w_children scr (n + (r + 1)) l k d H' ps hA hlen) ?_
      refine el_1_2 ?_
      intro H₂ lc hF hL
      open_line with [itemsOf_lst _ _ hL]
      refine for_inv (fun j ρ H₃ => ∃ o : Option V, ρ = [some (.ref l), some (.int k), some (.int d), o] ∧ Kept H₂.length H₂ H₃ ∧ ∀ c ∈ (((iseq 0 ps.length).filter (childB ps d k)).take j), ¬ ∃ m, Line ps d m c) ⟨_, rfl, Kept.refl (Nat.le_refl _), by simp⟩ ?_ ?_
      · intro j v hv
        refine el_1_2 ?_
        intro H₃ o hF3 hno
        rw [List.getElem?_map] at hv
        obtain ⟨c, hc, rfl⟩ := Option.map_eq_some_iff.mp hv
        obtain ⟨hc0, q, hq, hb, hm⟩ := child_mem.mp (List.mem_of_getElem? hc)
        obtain ⟨_, q2, hq2, hlt⟩ := parOn_older hW hq d hm
        rw [hp] at hq2; cases hq2
        have hy := younger_lt hlt (List.mem_of_getElem? hq)
        have hFF := hF.tr hF3
        have hA3 := hFF.at' hA
        o_facts bd
        open_line
        refine call_of (ih n c q H₃ hA3 hc0 hq (by (first | lia | omega))) ?_
        refine el_1_2 ?_
        intro H₄ b hF4 hbl
        have hF24 := hF3.tr hF4
        have hL4 := hF24.at' hL
        open_line
        refine wIf_split ?_ ?_
        · intro hb1
          open_line
          obtain ⟨m, hm'⟩ := hbl.mp hb1
          first | exact in_1_3 (a0 := true) rfl (hFF.tr hF4) (fun _ => ⟨m + 1, .step hc0 hq hb hm hm'⟩) (fun _ => rfl) | exact ⟨true, rfl, hFF.tr hF4, fun _ => ⟨m + 1, .step hc0 hq hb hm hm'⟩, fun _ => rfl⟩
        · intro hb1
          open_line
          first | refine ⟨stands_ref hL4 hL, in_1_2 rfl hF24 (fun x hx => ?_)⟩ | refine ⟨stands_ref hL4 hL, _, rfl, hF24, fun x hx => ?_⟩
          rw [List.take_add_one, hc, List.mem_append] at hx
          rcases hx with hx | hx
          · exact hno x hx
          · have : x = c := by simpa using hx
            rw [this]
            intro hmm
            have := hbl.mpr hmm
            rw [hb1] at this; cases this
      · refine el_1_2 ?_
        intro H₃ o hF3 hno
        rw [List.length_map, List.take_length] at hno
        open_line
        first | refine in_1_3 (a0 := false) rfl (hF.tr hF3) (fun h => (by cases h)) ?_ | refine ⟨false, rfl, hF.tr hF3, fun h => (by cases h), ?_⟩
        rintro ⟨m, hm⟩
        cases hm with
        | live _ hq hl => rw [hp] at hq; cases hq; rw [h] at hl; exact hl
        | step hc0 hq hb hm hl => exact absurd ⟨_, hl⟩ (hno _ (child_mem.mpr ⟨hc0, _, hq, hb, hm⟩))
end Mine.P

end
section
set_option autoImplicit false
set_option linter.unusedVariables false
set_option linter.unusedSimpArgs false
set_option maxRecDepth 100000
namespace Mine
open PySem
noncomputable def gL (H : Hp) (x : V) (f : List V → Prop) (_ : DF f) : Prop := wL H x f
theorem edSort (C : Ctx) (ρ : Env') (H : Hp) (Q : V → Hp → Prop) (a : E) (i : Nat) : WE C (.sortK a i) ρ H Q = WE C a ρ H fun x H => gL H x (fun vs => (vs.length < 64 ∧ H[0]? = some .tab) ∧ (∀ v ∈ vs, gSome (ρ[i]?.join) (fun x => gSome (idxV C.scr x v H) (fun y => gSome (idxV C.scr y (.int 0) H) (fun k => gInt k (fun _ => True) .mk) .mk) .mk) .mk) ∧ ∀ ws : List V, ws.Perm vs → Q (.ref H.length) (H ++ [.list ws])) .mk := rfl
theorem wL_at {H : Hp} {l : Nat} {xs : List V} {f : List V → Prop} {u : DF f} (h : H[l]? = some (.list xs)) : gL H (.ref l) f u = f xs := by simp [gL, wL, lstAt, h, wSome]
noncomputable def IntV (v : V) : Prop := ∃ i, v = .int i
noncomputable def intOf : V → Int
  | .int i => i
  | _ => 0
theorem getI {es : List (Int × V)} (h : ∀ p ∈ es, IntV p.2) (k : Int) : (dget es k).getD (.int 0) = .int (intOf ((dget es k).getD (.int 0))) := by
  cases hd : dget es k with
  | none => rfl
  | some v =>
    obtain ⟨i, rfl⟩ := dget_some h hd
    rfl
end Mine
namespace Mine.P
open PySem
variable (scr : List Int)

theorem w_tangled (n l : Nat) (H : Hp) (ps : List Per) (hA : H[l]? = some (.list (ps.map perV))) (hW : WfP ps) (hlen : ps.length ≤ 60) (h0 : H[0]? = some .tab) : callW scr pgks pfns (n + 1) i_law_tangled [.ref l] H fun v H' => ∃ b, v = .bool b ∧ Kept H.length H H' := by
  refine c_law_tangled ?_
  unfold pb_law_tangled
  have hlt := at_lt hA
  open_line with [WBi_lenL _ _ _ hA, List.length_map, range_ints]
  refine for_inv (fun j ρ H' => ∃ a b c e : Option V, ρ = [some (.ref l), a, b, c, e] ∧ Kept H.length H H') ⟨_, _, _, _, rfl, Kept.refl (Nat.le_refl _)⟩ ?_ ?_
  · intro j v hv
    refine el_4_1 ?_
    intro Hk oa ob oc oe hFk
    obtain ⟨_, rfl, _⟩ := iseq_get hv
    have hAk := hFk.at' hA
    have h0k := hFk.at' h0
    o_facts bd
    open_line with [edSort, WBi_lenL _ _ _ (at_app _ hAk), List.length_map]
    refine ⟨⟨by (first | lia | omega), by (first | lia | omega)⟩, ?_⟩
    rw [wL_at (at_new _ _)]
    have hA3 := at_app [.list (rangeV 0 ps.length)] (at_app [.dict [(0 + (j : Int), .int 1)]] hAk)
    refine ⟨⟨by rw [range_len]; (first | lia | omega), at_app _ (at_app _ h0k)⟩, ?_, ?_⟩
    · intro v hv
      obtain ⟨i, rfl, hi0, hi1⟩ := range_mem hv
      obtain ⟨p, hp, _⟩ := per_at (ps := ps) (k := i) hi0 (by (first | lia | omega))
      open_line with [idx_lst _ _ _ hA3, hp, perV]
    · intro ws hws
      have hws' : ∀ v ∈ ws, ∃ i : Int, v = .int i ∧ 0 ≤ i ∧ i < ps.length := fun v hv => range_mem (hws.mem_iff.mp hv)
      have hwl : ws.length ≤ 60 := by rw [hws.length_eq, range_len]; (first | lia | omega)
      generalize hH3 : (Hk ++ [Cell.dict [(0 + (j : Int), V.int 1)]]) ++ [Cell.list (rangeV 0 ps.length)] = H₃ at hA3
      have hD3 : H₃[Hk.length]? = some (.dict [(0 + (j : Int), .int 1)]) := by rw [← hH3]; exact at_app _ (at_new _ _)
      have hF3 : Kept H.length H H₃ := by rw [← hH3]; exact (hFk.tr (Kept.app _ _)).tr (Kept.app _ _)
      clear hH3
      have hltD := at_lt hD3
      open_line with [itemsOf_lst _ _ (at_new _ _)]
      have hS4 := at_new H₃ (.list ws)
      refine for_inv (fun i ρ H' => ∃ (c e : Option V) (es : List (Int × V)), ρ = [some (.ref l), some (.int (0 + (j : Int))), some (.ref Hk.length), c, e] ∧ Kept H.length H H' ∧ H'[Hk.length]? = some (.dict es) ∧ H'[H₃.length]? = some (.list ws) ∧ es.length ≤ i + 1 ∧ ∀ p ∈ es, IntV p.2)
        ⟨_, _, _, rfl, hF3.tr (Kept.app _ _), at_app _ hD3, hS4, by simp, fun p hp => ⟨1, by rw [List.mem_singleton.mp hp]⟩⟩ ?_ ?_
      · intro i v hv
        refine el_3_5 ?_
        intro Hj oj oj2 es hFj hDj hSj hle hI
        have hil := (List.getElem?_eq_some_iff.mp hv).1
        obtain ⟨k, rfl, hk0, hk1⟩ := hws' v (List.mem_of_getElem? hv)
        obtain ⟨p, hp, hp'⟩ := per_at (ps := ps) (k := k) hk0 (by (first | lia | omega))
        have hAj := hFj.at' hA
        obtain ⟨_, _, _, hpl, _, _, hwad⟩ := hW k.toNat p hp'
        o_facts bd
        refine cut 2 (fun ρ' H' => ∃ (la : Nat) (as : List Int), ρ' = [some (.ref l), some (.int (0 + (j : Int))), some (.ref Hk.length), some (.int k), some (.ref la)] ∧ Kept Hj.length Hj H' ∧ H'[la]? = some (.list (as.map .int)) ∧ as.length ≤ 4) ?_ ?_
        · have hsz : (p.par.map V.int).length < 16000000 := by rw [List.length_map]; (first | lia | omega)
          have hN := at_new Hj (.list (p.par.map V.int))
          cases had : p.ad with
          | none =>
            open_line with [idx_lst _ _ _ hAj, hp, perV, keysOf_tup, WAllocL_ok _ _ _ hsz, idx_lst _ _ _ (at_app _ hAj), had, adV, show isNoneV V.none = true from rfl]
            first | exact in_2_3 (a1 := p.par) rfl (Kept.app _ _) hN (by (first | lia | omega)) | exact ⟨_, p.par, rfl, Kept.app _ _, hN, by (first | lia | omega)⟩
          | some a =>
            obtain ⟨x, ls⟩ := a
            obtain ⟨_, _, _, _, hls, _, _⟩ := hwad x ls had
            open_line with [idx_lst _ _ _ hAj, hp, perV, keysOf_tup, WAllocL_ok _ _ _ hsz, idx_lst _ _ _ (at_app _ hAj), had, adV, show isNoneV (V.tup [.int x, .tup (ls.map .int)]) = false from rfl]
            refine comp_filt (fun j => !decide (j ∈ p.par)) (by (first | lia | omega)) ?_ ?_
            · intro y hy Q hQ
              open_line with [notin_lst y hN]
              exact wIf_q _ hQ
            · have hfl : (ls.filter fun j => !decide (j ∈ p.par)).length ≤ 2 := Nat.le_trans (List.length_filter_le _ _) hls
              have hsz2 : (p.par.map V.int ++ (ls.filter fun j => !decide (j ∈ p.par)).map V.int).length < 16000000 := by rw [List.length_append, List.length_map, List.length_map]; (first | lia | omega)
              open_line with [WBin_cat _ _ (at_app _ hN) (at_new _ _), WAllocL_ok _ _ _ hsz2]
              first | refine in_2_3 (a1 := p.par ++ ls.filter fun j => !decide (j ∈ p.par)) rfl (((Kept.app _ _).tr (Kept.app _ _)).tr (Kept.app _ _)) ?_ (by rw [List.length_append]; (first | lia | omega)) | refine ⟨_, p.par ++ ls.filter fun j => !decide (j ∈ p.par), rfl, ((Kept.app _ _).tr (Kept.app _ _)).tr (Kept.app _ _), ?_, by rw [List.length_append]; (first | lia | omega)⟩
              rw [List.map_append]; exact at_new _ _
        · refine el_2_3 ?_
          intro Hm la as hFm hLm hal
          have hDm := hFm.at' hDj
          have hSm := hFm.at' hSj
          have hFHm := hFj.tr hFm
          simp only [List.drop_succ_cons, List.drop_zero]
          obtain ⟨g, hg⟩ : ∃ g : Int → Int, ∀ x, (dget es x).getD (.int 0) = .int (g x) := ⟨_, getI hI⟩
          open_line with [meKind_get _ hDm, WMeth_get _ _ _ _ hDm, hg, itemsOf_lst _ _ hLm]
          refine comp_fm (g := V.int) (fun _ => true) (fun x => V.int (g x)) (by (first | lia | omega)) ?_ ?_ ?_
          · intro x _ Q hQ
            open_line
            exact hQ
          · intro x _ _ Q hQ
            open_line with [meKind_get _ hDm, WMeth_get _ _ _ _ hDm, hg]
            exact hQ
          · have hmap : (as.filter fun _ => true).map (fun x => V.int (g x)) = (as.map fun x => g x).map V.int := by
              rw [List.filter_eq_self.mpr (fun _ _ => rfl), List.map_map]; rfl
            rw [hmap]
            have hDn := at_app [.list ((as.map fun x => g x).map V.int)] hDm
            have hSn := at_app [.list ((as.map fun x => g x).map V.int)] hSm
            generalize hval : g k + (as.map fun x => g x).sum = val
            open_line with [WBi_sum _ _ _ (at_new _ _), hg, hval, setIdx_dct _ _ _ hDn (by (first | lia | omega))]
            have hDs := at_set (c' := .dict (dput es k (.int val))) hDn
            have hSs := at_set_ne (c' := .dict (dput es k (.int val))) hSn (show Hk.length ≠ H₃.length by (first | lia | omega))
            have hI2 : ∀ p ∈ dput es k (.int val), IntV p.2 := val_dput hI ⟨val, rfl⟩
            obtain ⟨u, hu⟩ := dget_dput (es := es) (k := k) (v := .int val)
            obtain ⟨uv, rfl⟩ := dget_some hI2 hu
            have hKs : Kept H.length H ((Hm ++ [Cell.list ((as.map fun x => g x).map V.int)]).set Hk.length (Cell.dict (dput es k (.int val)))) :=
              (hFHm.tr (Kept.app _ _)).trans (Kept.set _ (by have := hFk.1; have := hFk.2.1; (first | lia | omega)) (by have := hFHm.2.1; have := hFHm.1; rw [List.length_append]; (first | lia | omega))) (Nat.le_refl _)
            open_line with [idx_dct _ _ _ hDs, hu]
            refine wIf_split ?_ ?_
            · intro _
              open_line
              first | exact in_1_1 (a0 := true) rfl hKs | exact ⟨true, rfl, hKs⟩
            · intro _
              open_line
              first | exact ⟨stands_ref hSs hS4, in_3_5 rfl hKs hDs hSs (by have := len_dput es k (.int val); (first | lia | omega)) hI2⟩ | exact ⟨stands_ref hSs hS4, _, _, _, rfl, hKs, hDs, hSs, by have := len_dput es k (.int val); (first | lia | omega), hI2⟩
      · refine el_3_2 ?_
        intro H' c e es hF _
        open_line
        first | exact ⟨rfl, in_4_1 rfl hF⟩ | exact ⟨rfl, _, _, _, _, rfl, hF⟩
  · refine el_4_1 ?_
    intro H' a b c e hF
    open_line
    first | exact in_1_1 (a0 := false) rfl hF | exact ⟨false, rfl, hF⟩
end Mine.P

end
section
set_option autoImplicit false
set_option linter.unusedVariables false
set_option linter.unusedSimpArgs false
set_option maxRecDepth 100000
namespace Mine
open PySem
noncomputable def WWhile (C : Ctx) (c : E) (body : List S) (n : Nat) (ρ : Env') (H : Hp) (K : Out → Prop) : Prop := whileW (fun ρ H Q => WTr C c ρ H Q) (fun ρ H K => WSs C body ρ H K) n ρ H K
theorem weight_ge : ∀ ρ : Env', 1000 ≤ weight ρ
  | [] => Nat.le_refl _
  | some (.int i) :: r => Nat.le_trans (weight_ge r) (Nat.le_add_left _ _)
  | none :: r => weight_ge r
  | some .none :: r => weight_ge r
  | some (.bool _) :: r => weight_ge r
  | some (.tup _) :: r => weight_ge r
  | some (.ref _) :: r => weight_ge r
  | some .script :: r => weight_ge r
theorem while_aux (I : Nat → Env' → Hp → Prop) {C : Ctx} {c : E} {body : List S} {K : Out → Prop}
    (step : ∀ j ρ H, I j ρ H → WE C c ρ H fun x H => gSome (truthy C.scr H x) (fun t => gIf t (WSs C body ρ H (loopK K fun ρ₁ H₁ => ∃ i, i < j ∧ I i ρ₁ H₁)) (K (.next ρ H)) .mk) .mk) :
    ∀ (n j : Nat) (ρ : Env') (H : Hp), j < n → I j ρ H → WWhile C c body n ρ H K
  | 0, j, ρ, H, hj, _ => absurd hj (Nat.not_lt_zero _)
  | n + 1, j, ρ, H, hj, hI => WE_mono (step j ρ H hI) fun x H₁ h => wSome_mono h fun t h => wIf_mono h (fun h => WSs_mono h (loopK_mono (fun _ h => h) fun ρ₁ H₁ h => by
      obtain ⟨i, hi, hI⟩ := h
      exact while_aux I step n i ρ₁ H₁ (by (first | lia | omega)) hI)) fun h => h
/-- a while loop of few turns, by what holds with at most j turns to come -/
theorem while_inv (I : Nat → Env' → Hp → Prop) (j : Nat) {C : Ctx} {c : E} {body : List S} {ρ : Env'} {H : Hp} {K : Out → Prop} (hj : j < 1000) (h0 : I j ρ H)
    (step : ∀ j ρ H, I j ρ H → WE C c ρ H fun x H => gSome (truthy C.scr H x) (fun t => gIf t (WSs C body ρ H (loopK K fun ρ₁ H₁ => ∃ i, i < j ∧ I i ρ₁ H₁)) (K (.next ρ H)) .mk) .mk) : WS C (.while c body) ρ H K :=
  while_aux I step (weight ρ) j ρ H (Nat.lt_of_lt_of_le hj (weight_ge ρ)) h0
end Mine
namespace Mine.P
open PySem
variable (scr : List Int)

/-- a part with 1 above is as it should be -/
theorem w_part (n : Nat) (u : Int) (H : Hp) (hu : 1 ≤ u) : callW scr pgks pfns (n + 1) i_part [.int 1, .int u] H fun v H' => v = .tup [.int 1, .int u] ∧ H' = H := by
  refine c_part ?_
  unfold pb_part
  refine cut 2 (fun ρ' H' => ρ' = [some (.int 1), some (.int u), some (.int 1), some (.int u), none] ∧ H' = H) ?_ ?_
  · open_line
    exact ⟨(by trivial), (by trivial)⟩
  · rintro ρ' H' ⟨rfl, rfl⟩
    rw [show ∀ (a b c d : S), List.drop 2 [a, b, c, d] = [c, d] from fun _ _ _ _ => rfl, WSs_cons]
    refine while_inv (fun j ρ H => H = H' ∧ ∃ (a b : Int) (o : Option V), ρ = [some (.int 1), some (.int u), some (.int a), some (.int b), o] ∧ ((j = 2 ∧ a = 1 ∧ b = u) ∨ (j = 1 ∧ a = u ∧ b = 1 ∧ 1 < u) ∨ (j = 0 ∧ a = 1 ∧ b = 0))) 2 (by (first | lia | omega)) ⟨rfl, 1, u, none, rfl, .inl ⟨rfl, rfl, rfl⟩⟩ ?_
    rintro j ρ H ⟨rfl, a, b, o, rfl, h⟩
    open_line
    refine wIf_split ?_ ?_
    · intro hb
      open_line
      have hb : 0 < b := by simpa using hb
      open_line
      rcases h with ⟨rfl, rfl, rfl⟩ | ⟨rfl, rfl, rfl, h1⟩ | ⟨rfl, rfl, rfl⟩
      · by_cases h1 : b = 1
        · exact ⟨0, by (first | lia | omega), (by trivial), b, 1 % b, _, rfl, .inr (.inr ⟨rfl, h1, by rw [h1]; rfl⟩)⟩
        · exact ⟨1, by (first | lia | omega), (by trivial), b, 1 % b, _, rfl, .inr (.inl ⟨rfl, rfl, Int.emod_eq_of_lt (by (first | lia | omega)) (by (first | lia | omega)), by (first | lia | omega)⟩)⟩
      · exact ⟨0, by (first | lia | omega), (by trivial), 1, a % 1, _, rfl, .inr (.inr ⟨rfl, rfl, Int.emod_one a⟩)⟩
      · (first | lia | omega)
    · intro hb
      open_line
      have hb : ¬ 0 < b := by simpa using hb
      have ha : a = 1 := by
        rcases h with ⟨rfl, rfl, rfl⟩ | ⟨rfl, rfl, rfl, h1⟩ | ⟨rfl, rfl, rfl⟩
        · (first | lia | omega)
        · (first | lia | omega)
        · rfl
      subst ha
      open_line with [Int.ediv_one]
      exact ⟨(by trivial), (by trivial)⟩

theorem w_times (n : Nat) (m u : Int) (H : Hp) (hm : 1 ≤ m) (hm1 : m ≤ 100) (hu : 1 ≤ u) : callW scr pgks pfns (n + 2) i_times [.tup [.int 1, .int m], .tup [.int 1, .int u]] H fun v H' => v = .tup [.int 1, .int (m * u)] ∧ H' = H := by
  refine c_times ?_
  unfold pb_times
  open_line
  refine call_of (w_part scr n (m * u) H ?_) ?_
  · have := Int.mul_le_mul hm hu (by (first | lia | omega)) (by (first | lia | omega))
    (first | lia | omega)
  · rintro v H' ⟨rfl, rfl⟩
    open_line
    exact ⟨(by trivial), (by trivial)⟩

theorem w_shared (n : Nat) (m : Int) (H : Hp) (hm : 1 ≤ m) (hm1 : m ≤ 100) : callW scr pgks pfns (n + 2) i_shared [.tup [.int 1, .int 1], .int m] H fun v H' => v = .tup [.int 1, .int m] ∧ H' = H := by
  refine c_shared ?_
  unfold pb_shared
  open_line with [Int.one_mul]
  refine call_of (w_part scr n m H hm) ?_
  rintro v H' ⟨rfl, rfl⟩
  open_line
  exact ⟨(by trivial), (by trivial)⟩

theorem w_whole (n : Nat) (i : Int) (H : Hp) : callW scr pgks pfns (n + 1) i_law_whole [.int i] H fun v H' => v = .bool true ∧ H' = H := by
  refine c_law_whole ?_
  unfold pb_law_whole
  open_line
  exact ⟨(by trivial), (by trivial)⟩

theorem w_is_part (n : Nat) (u : Int) (H : Hp) : callW scr pgks pfns (n + 2) i_law_is_part [.tup [.int 1, .int u], .tup [.int 1, .int u]] H fun v H' => v = .bool true ∧ H' = H := by
  refine c_law_is_part ?_
  unfold pb_law_is_part
  open_line with [List.length_cons, List.length_nil]
  refine call_of (w_whole scr n 1 H) ?_
  rintro v H' ⟨rfl, rfl⟩
  open_line
  refine call_of (w_whole scr n u H') ?_
  rintro v H' ⟨rfl, rfl⟩
  open_line
  exact ⟨congrArg V.bool (eqv_self scr H' 10 (.tup [.int 1, .int u]) _ rfl), (by trivial)⟩
end Mine.P

end
section
set_option autoImplicit false
set_option linter.unusedVariables false
set_option linter.unusedSimpArgs false
namespace Mine
open PySem

/-- a row: the heir, the share's number below, the line -/
structure Row where
  heir : Int
  under : Int
  line : List Int
noncomputable def lineB (ps : List Per) (d c : Int) : Bool := @decide (∃ m, Line ps d m c) (Classical.propDecidable _)
theorem lineB_iff {ps : List Per} {d c : Int} : lineB ps d c = true ↔ ∃ m, Line ps d m c := by unfold lineB; exact @decide_eq_true_iff _ (Classical.propDecidable _)
noncomputable def kidsP (ps : List Per) (d p : Int) : List Int := (iseq 0 ps.length).filter (childB ps d p)
noncomputable def takersP (ps : List Per) (d p : Int) : List Int := (kidsP ps d p).filter (lineB ps d)
noncomputable def livesAt (ps : List Per) (d c : Int) : Bool := match ps[c.toNat]? with
  | some q => livesP q d
  | none => false
noncomputable def upRow (p n : Int) (r : Row) : Row := ⟨r.heir, n * r.under, p :: r.line⟩
noncomputable def scale (u : Int) (r : Row) : Row := ⟨r.heir, u * r.under, r.line⟩
/-- the rows of one taker of n -/
noncomputable def rowsOf (ps : List Per) (d : Int) (rec : Int → List Row) (p n c : Int) : List Row := if livesAt ps d c then [⟨c, n, [p, c]⟩] else (rec c).map (upRow p n)
noncomputable def lineRows (ps : List Per) (d : Int) (rec : Int → List Row) (p : Int) (ts : List Int) : List Row := ts.flatMap (rowsOf ps d rec p ts.length)
noncomputable def rowsP (ps : List Per) (d : Int) : Nat → Int → List Row
  | 0, _ => []
  | f + 1, p => lineRows ps d (rowsP ps d f) p (takersP ps d p)

theorem lineRows_ok {ps : List Per} {d : Int} {rec : Int → List Row} {p : Int} {ts : List Int} {f : Nat} (h : ∀ c ∈ ts, ∀ r ∈ rec c, 1 ≤ r.under ∧ r.line.length ≤ f) : ∀ r ∈ lineRows ps d rec p ts, 1 ≤ r.under ∧ r.line.length ≤ f + 2 := by
  intro r hr
  unfold lineRows at hr
  obtain ⟨c, hc, hr⟩ := List.mem_flatMap.mp hr
  have hn : 1 ≤ ts.length := by
    cases ts with
    | nil => cases hc
    | cons a b => simp
  unfold rowsOf at hr
  split at hr
  · rw [List.mem_singleton.mp hr]
    exact ⟨by show (1 : Int) ≤ ts.length; (first | lia | omega), by simp⟩
  · obtain ⟨r', hr', rfl⟩ := List.mem_map.mp hr
    obtain ⟨h1, h2⟩ := h c hc r' hr'
    refine ⟨?_, by show (p :: r'.line).length ≤ _; rw [List.length_cons]; (first | lia | omega)⟩
    have := Int.mul_le_mul (show (1 : Int) ≤ ts.length by (first | lia | omega)) h1 (by (first | lia | omega)) (by (first | lia | omega))
    show (1 : Int) ≤ ts.length * r'.under
    (first | lia | omega)
theorem rowsP_ok (ps : List Per) (d : Int) : ∀ (f : Nat) (p : Int), ∀ r ∈ rowsP ps d f p, 1 ≤ r.under ∧ r.line.length ≤ 2 * f
  | 0, p => fun r hr => nomatch hr
  | f + 1, p => lineRows_ok fun c _ => rowsP_ok ps d f c

/-- how many rows -/
theorem sum_sorted : ∀ l : List Int, l.Pairwise (· ≤ ·) → (l.map fun x => 2 ^ l.countP fun y => decide (x < y)).sum < 2 ^ l.length
  | [], _ => by simp
  | a :: r, h => by
    rw [List.pairwise_cons] at h
    have ih := sum_sorted r h.2
    have e : ((a :: r).map fun x => 2 ^ (a :: r).countP fun y => decide (x < y)) = 2 ^ ((a :: r).countP fun y => decide (a < y)) :: r.map fun x => 2 ^ r.countP fun y => decide (x < y) := by
      rw [List.map_cons]
      congr 1
      refine List.map_congr_left fun x hx => ?_
      rw [List.countP_cons]
      have : ¬ x < a := by have := h.1 x hx; (first | lia | omega)
      simp [this]
    rw [e, List.sum_cons, List.length_cons, List.countP_cons]
    have h1 : (r.countP fun y => decide (a < y)) ≤ r.length := List.countP_le_length
    have h2 : 2 ^ (r.countP fun y => decide (a < y)) ≤ 2 ^ r.length := Nat.pow_le_pow_right (by (first | lia | omega)) h1
    have h3 : decide (a < a) = false := by simp
    rw [h3]
    simp only [Bool.false_eq_true, if_false, Nat.add_zero]
    rw [Nat.pow_succ]
    (first | lia | omega)
theorem sum_any (l : List Int) : (l.map fun x => 2 ^ l.countP fun y => decide (x < y)).sum < 2 ^ l.length := by
  have hp := List.mergeSort_perm l (fun a b => decide (a ≤ b))
  have hs : (l.mergeSort fun a b => decide (a ≤ b)).Pairwise (· ≤ ·) := by
    have := List.pairwise_mergeSort (le := fun a b : Int => decide (a ≤ b)) (by intro a b c h1 h2; simp at *; (first | lia | omega)) (by intro a b; simp; (first | lia | omega)) l
    exact this.imp fun h => by simpa using h
  have := sum_sorted _ hs
  rw [hp.length_eq] at this
  refine Nat.lt_of_le_of_lt (Nat.le_of_eq ?_) this
  refine ((hp.map _).sum_nat.symm.trans ?_)
  congr 1
  exact List.map_congr_left fun x _ => by rw [hp.countP_eq]
theorem sum_filter_le {α : Type} {P P' : α → Bool} {g f : α → Nat} : ∀ l : List α, (∀ c ∈ l, P c = true → P' c = true ∧ g c ≤ f c) → ((l.filter P).map g).sum ≤ ((l.filter P').map f).sum
  | [], _ => by simp
  | a :: r, h => by
    have ih := sum_filter_le r fun c hc => h c (.tail _ hc)
    by_cases hp : P a = true
    · obtain ⟨h1, h2⟩ := h a (.head _) hp
      rw [List.filter_cons_of_pos hp, List.filter_cons_of_pos h1, List.map_cons, List.map_cons, List.sum_cons, List.sum_cons]
      (first | lia | omega)
    · rw [List.filter_cons_of_neg hp]
      by_cases hp' : P' a = true
      · rw [List.filter_cons_of_pos hp', List.map_cons, List.sum_cons]
        (first | lia | omega)
      · rw [List.filter_cons_of_neg hp']; exact ih
noncomputable def perAt (ps : List Per) (c : Int) : Per := ps.getD c.toNat ⟨0, [], none, none⟩
theorem perAt_eq {ps : List Per} {c : Int} {q : Per} (h : ps[c.toNat]? = some q) : perAt ps c = q := by
  unfold perAt; rw [List.getD_eq_getElem?_getD, h]; rfl
theorem map_perAt (ps : List Per) : (iseq 0 ps.length).map (perAt ps) = ps := by
  apply List.ext_getElem?
  intro i
  unfold iseq
  rw [List.map_map, List.getElem?_map]
  by_cases h : i < ps.length
  · rw [List.getElem?_range (by (first | lia | omega))]
    show some (perAt ps (0 + (i : Int))) = _
    unfold perAt
    rw [List.getD_eq_getElem?_getD]
    have : (0 + (i : Int)).toNat = i := by (first | lia | omega)
    rw [this, List.getElem?_eq_getElem h]; rfl
  · rw [List.getElem?_eq_none (by simp; (first | lia | omega)), List.getElem?_eq_none (by (first | lia | omega))]; rfl
theorem filt_perAt (ps : List Per) (P : Per → Bool) (f : Per → Nat) : (ps.filter P).map f = ((iseq 0 ps.length).filter fun c => P (perAt ps c)).map fun c => f (perAt ps c) := by
  have h : ((((iseq 0 ps.length).map (perAt ps)).filter P).map f) = ((iseq 0 ps.length).filter fun c => P (perAt ps c)).map fun c => f (perAt ps c) := by
    rw [List.filter_map, List.map_map]; rfl
  rw [map_perAt] at h
  exact h
theorem sum_younger (ps : List Per) (b : Int) : ((ps.filter fun q => decide (b < q.born)).map fun q => 2 ^ younger ps q.born).sum < 2 ^ younger ps b := by
  have h := sum_any ((ps.filter fun q => decide (b < q.born)).map (·.born))
  rw [List.length_map, List.map_map] at h
  have e2 : (ps.filter fun q => decide (b < q.born)).length = younger ps b := by unfold younger; rw [List.countP_eq_length_filter]
  rw [e2] at h
  refine Nat.lt_of_le_of_lt (Nat.le_of_eq ?_) h
  congr 1
  refine List.map_congr_left fun q hq => ?_
  have hq : b < q.born := by simpa using (List.mem_filter.mp hq).2
  show 2 ^ younger ps q.born = 2 ^ _
  congr 1
  rw [List.countP_map, List.countP_filter]
  unfold younger
  refine List.countP_congr fun x _ => ?_
  simp only [Function.comp_apply, Bool.and_eq_true, decide_eq_true_eq]
  constructor
  · intro h; exact ⟨h, by (first | lia | omega)⟩
  · intro h; exact h.1
theorem kid_younger {ps : List Per} (hW : WfP ps) {d p c : Int} {q : Per} (hq : ps[p.toNat]? = some q) (hc : childB ps d p c = true) : ∃ q', ps[c.toNat]? = some q' ∧ q.born < q'.born := by
  unfold childB at hc
  split at hc
  · rename_i q' hq'
    simp only [Bool.and_eq_true, decide_eq_true_eq] at hc
    obtain ⟨_, q2, hq2, hlt⟩ := parOn_older hW hq' d hc.2
    rw [hq] at hq2; cases hq2
    exact ⟨q', hq', hlt⟩
  · cases hc
theorem lineRows_len {ps : List Per} (hW : WfP ps) {d : Int} {rec : Int → List Row} {p : Int} {q : Per} (hq : ps[p.toNat]? = some q) {P : Int → Bool} (hP : ∀ c ∈ iseq 0 ps.length, P c = true → childB ps d p c = true) (h : ∀ c q', ps[c.toNat]? = some q' → (rec c).length ≤ 2 ^ younger ps q'.born) :
    (lineRows ps d rec p ((iseq 0 ps.length).filter P)).length < 2 ^ younger ps q.born := by
  unfold lineRows
  rw [List.length_flatMap]
  refine Nat.lt_of_le_of_lt ?_ (sum_younger ps q.born)
  have e : (ps.filter fun x => decide (q.born < x.born)).map (fun x => 2 ^ younger ps x.born) = ((iseq 0 ps.length).filter fun c => decide (q.born < (perAt ps c).born)).map fun c => 2 ^ younger ps (perAt ps c).born := by
    exact filt_perAt ps _ _
  rw [e]
  refine sum_filter_le _ fun c hc hcP => ?_
  obtain ⟨q', hq', hlt⟩ := kid_younger hW hq (hP c hc hcP)
  rw [perAt_eq hq']
  refine ⟨decide_eq_true hlt, ?_⟩
  unfold rowsOf
  split
  · exact Nat.one_le_two_pow
  · rw [List.length_map]; exact h c q' hq'
theorem takers_eq (ps : List Per) (d p : Int) : takersP ps d p = (iseq 0 ps.length).filter fun c => lineB ps d c && childB ps d p c := by
  unfold takersP kidsP; rw [List.filter_filter]
theorem rowsP_len {ps : List Per} (hW : WfP ps) (d : Int) : ∀ (f : Nat) (p : Int) (q : Per), ps[p.toNat]? = some q → (rowsP ps d f p).length ≤ 2 ^ younger ps q.born
  | 0, p, q, _ => Nat.zero_le _
  | f + 1, p, q, hq => by
    unfold rowsP
    rw [takers_eq]
    exact Nat.le_of_lt (lineRows_len hW hq (fun c _ h => by simp only [Bool.and_eq_true] at h; exact h.2) fun c q' hq' => rowsP_len hW d f c q' hq')
theorem younger_self {ps : List Per} {q : Per} (h : q ∈ ps) : younger ps q.born < ps.length := by
  have h1 := younger_lt (b := q.born - 1) (by (first | lia | omega)) h
  have h2 := younger_le ps (q.born - 1)
  (first | lia | omega)
end Mine

end
section
set_option autoImplicit false
set_option linter.unusedVariables false
set_option linter.unusedSimpArgs false
set_option maxRecDepth 100000
namespace Mine
open PySem
/-- a row as a value -/
noncomputable def RowAt (b : Nat) (H : Hp) (r : Row) (v : V) : Prop := ∃ ll, b ≤ ll ∧ v = .tup [.int r.heir, .tup [.int 1, .int r.under], .ref ll] ∧ H[ll]? = some (.list (r.line.map .int))
noncomputable def RowsAt (b : Nat) (H : Hp) (rs : List Row) (vs : List V) : Prop := vs.length = rs.length ∧ ∀ (k : Nat) r v, rs[k]? = some r → vs[k]? = some v → RowAt b H r v
theorem RowsAt.nil (b : Nat) (H : Hp) : RowsAt b H [] [] := ⟨rfl, fun k r v h => nomatch h⟩
theorem RowsAt.imp {b b' : Nat} {H H' : Hp} {rs : List Row} {vs : List V} (h : RowsAt b H rs vs) (f : ∀ (ll : Nat) c, b ≤ ll → H[ll]? = some c → b' ≤ ll ∧ H'[ll]? = some c) : RowsAt b' H' rs vs :=
  ⟨h.1, fun k r v hr hv => by
    obtain ⟨ll, h1, h2, h3⟩ := h.2 k r v hr hv
    obtain ⟨h4, h5⟩ := f ll _ h1 h3
    exact ⟨ll, h4, h2, h5⟩⟩
theorem RowsAt.app {b : Nat} {H : Hp} {rs : List Row} {vs : List V} (t : List Cell) (h : RowsAt b H rs vs) : RowsAt b (H ++ t) rs vs := h.imp fun ll c hb hc => ⟨hb, at_app t hc⟩
theorem RowsAt.set {b l : Nat} {H : Hp} {rs : List Row} {vs : List V} (c : Cell) (h : RowsAt b H rs vs) (hl : l < b) : RowsAt b (H.set l c) rs vs := h.imp fun ll c hb hc => ⟨hb, at_set_ne hc (by (first | lia | omega))⟩
theorem RowsAt.kept {b : Nat} {H H' : Hp} {rs : List Row} {vs : List V} (h : RowsAt b H rs vs) (hF : Kept H.length H H') : RowsAt b H' rs vs := h.imp fun ll c hb hc => ⟨hb, hF.at' hc⟩
theorem RowsAt.low {b b' : Nat} {H : Hp} {rs : List Row} {vs : List V} (h : RowsAt b H rs vs) (hb : b' ≤ b) : RowsAt b' H rs vs := h.imp fun ll c h1 h2 => ⟨by (first | lia | omega), h2⟩
theorem RowsAt.snoc {b : Nat} {H : Hp} {rs : List Row} {vs : List V} {r : Row} {v : V} (h : RowsAt b H rs vs) (hr : RowAt b H r v) : RowsAt b H (rs ++ [r]) (vs ++ [v]) := by
  refine ⟨by simp [h.1], fun k r' v' hr' hv' => ?_⟩
  rcases Nat.lt_or_ge k rs.length with hk | hk
  · rw [List.getElem?_append_left hk] at hr'
    rw [List.getElem?_append_left (by rw [h.1]; exact hk)] at hv'
    exact h.2 k r' v' hr' hv'
  · rw [List.getElem?_append_right hk] at hr'
    rw [List.getElem?_append_right (by rw [h.1]; exact hk), h.1] at hv'
    cases hi : k - rs.length with
    | zero =>
      rw [hi] at hr' hv'
      cases hr'; cases hv'
      exact hr
    | succ i => rw [hi] at hr'; cases hr'
theorem RowsAt.get {b : Nat} {H : Hp} {rs : List Row} {vs : List V} (h : RowsAt b H rs vs) {k : Nat} {v : V} (hv : vs[k]? = some v) : ∃ r, rs[k]? = some r ∧ RowAt b H r v := by
  have hk : k < rs.length := by rw [← h.1]; exact (List.getElem?_eq_some_iff.mp hv).1
  exact ⟨rs[k], List.getElem?_eq_getElem hk, h.2 k _ v (List.getElem?_eq_getElem hk) hv⟩
/-- a list of rows given back -/
noncomputable def RowsPost (H : Hp) (rs : List Row) (v : V) (H' : Hp) : Prop := ∃ lr vs, v = .ref lr ∧ H.length ≤ lr ∧ Kept H.length H H' ∧ H'[lr]? = some (.list vs) ∧ RowsAt H.length H' rs vs
theorem take_flat {α β : Type} (f : α → List β) {l : List α} {k : Nat} {x : α} (h : l[k]? = some x) : (l.take (k + 1)).flatMap f = (l.take k).flatMap f ++ f x := by
  rw [List.take_add_one, h, List.flatMap_append]; simp
theorem take_flat_len {α β : Type} (f : α → List β) {l : List α} {k : Nat} {x : α} (h : l[k]? = some x) : ((l.take k).flatMap f).length + (f x).length ≤ (l.flatMap f).length := by
  have e := take_flat f h
  have e2 : l = l.take (k + 1) ++ l.drop (k + 1) := (List.take_append_drop _ _).symm
  have e3 := congrArg (fun l => (l.flatMap f).length) e2
  simp only [List.flatMap_append, List.length_append] at e3
  rw [e, List.length_append] at e3
  (first | lia | omega)
theorem take_map_one {α β : Type} (f : α → β) {l : List α} {k : Nat} {x : α} (h : l[k]? = some x) : (l.take (k + 1)).map f = (l.take k).map f ++ [f x] := by
  rw [List.take_add_one, h, List.map_append]; rfl
end Mine
namespace Mine.P
open PySem
variable (scr : List Int)

/-- lines_to, if by_lines does as it should below -/
theorem w_lines_to (l : Nat) (d : Int) (ps : List Per) (hW : WfP ps) (hlen : ps.length ≤ 60) (rec : Int → List Row) (N : Nat) (k : Int) (cs : List Int) (hcl : cs.length ≤ 60) (hcs : ∀ c ∈ cs, 0 ≤ c ∧ ∃ q, ps[c.toNat]? = some q)
    (hrec : ∀ c ∈ cs, ∀ r ∈ rec c, 1 ≤ r.under ∧ r.line.length ≤ 1000) (hsz : (lineRows ps d rec k (cs.filter (lineB ps d))).length < 16000000)
    (IH : ∀ c ∈ cs, ∀ H : Hp, H[l]? = some (.list (ps.map perV)) → callW scr pgks pfns (N + 70) i_by_lines [.ref l, .int c, .int d] H (RowsPost H (rec c)))
    (H : Hp) (lc : Nat) (hA : H[l]? = some (.list (ps.map perV))) (hC : H[lc]? = some (.list (cs.map .int))) :
    callW scr pgks pfns (N + 71) i_lines_to [.ref l, .int k, .ref lc, .int d] H (RowsPost H (lineRows ps d rec k (cs.filter (lineB ps d)))) := by
  refine c_lines_to ?_
  unfold pb_lines_to
  refine cut 2 (fun ρ' H' => ∃ lt : Nat, ρ' = [some (.ref l), some (.int k), some (.ref lc), some (.int d), some (.ref lt), some (.ref (lt + 1)), none, none, none, none, none] ∧ H.length ≤ lt ∧ lt + 2 = H'.length ∧ Kept H.length H H' ∧ H'[lt]? = some (.list ((cs.filter (lineB ps d)).map .int)) ∧ H'[lt + 1]? = some (.list [])) ?_ ?_
  · open_line with [itemsOf_lst _ _ hC]
    refine comp_inv (pre := [none]) (fun v => [some v]) (fun j acc H' => Kept H.length H H' ∧ acc = (((cs.take j).filter (lineB ps d)).map .int)) (fun v _ => env_one rfl) (by rw [List.length_map]; (first | lia | omega)) ⟨Kept.refl (Nat.le_refl _), rfl⟩ ?_ ?_
    · rintro j v acc H' hv ⟨hF, rfl⟩
      rw [List.getElem?_map] at hv
      obtain ⟨c, hc, rfl⟩ := Option.map_eq_some_iff.mp hv
      obtain ⟨hc0, q, hq⟩ := hcs c (List.mem_of_getElem? hc)
      have htf := take_filter (lineB ps d) hc
      open_line
      refine call_of (w_line scr l d ps hW hlen 60 (N + 7) c q H' (hF.at' hA) hc0 hq (Nat.le_trans (younger_le _ _) hlen)) ?_
      refine el_1_2 ?_
      intro H₂ b hF2 hb
      have hF12 := hF.tr hF2
      have hst := stands_ref (hF12.at' hC) hC
      have hbl : lineB ps d c = b := by
        cases b with
        | true => exact lineB_iff.mpr (hb.mp rfl)
        | false =>
          cases h : lineB ps d c with
          | false => rfl
          | true => exact (hb.mpr (lineB_iff.mp h)).symm
      rw [hbl] at htf
      open_line
      refine wIf_split ?_ ?_
      · intro h
        open_line
        rw [h, if_pos rfl] at htf
        open_line
        exact ⟨hst, hF12, by rw [htf, List.map_append]; rfl⟩
      · intro h
        open_line
        rw [h] at htf
        open_line
        exact ⟨hst, hF12, by rw [htf]; rfl⟩
    · rintro acc H' _ ⟨hF, rfl⟩
      rw [List.length_map, List.take_length]
      open_line
      refine ⟨H'.length, ?_, hF.2.1, by simp, (hF.tr (Kept.app _ _)).tr (Kept.app _ _), at_app _ (at_new _ _), ?_⟩
      · simp
      · have := at_new (H' ++ [Cell.list ((cs.filter (lineB ps d)).map .int)]) (.list [])
        simpa using this
  · refine el_1_5 ?_
    intro H₁ lt hlt0 hlt1 hF1 hT hR
    simp only [List.drop_succ_cons, List.drop_zero]
    generalize hts : cs.filter (lineB ps d) = ts at hT hsz ⊢
    have htl : ts.length ≤ 60 := by rw [← hts]; exact Nat.le_trans (List.length_filter_le _ _) hcl
    have htm : ∀ c ∈ ts, c ∈ cs := fun c hc => (List.mem_filter.mp (hts ▸ hc)).1
    open_line with [itemsOf_lst _ _ hT]
    refine for_inv (fun j ρ H' => ∃ (a b c e f : Option V) (vs : List V), ρ = [some (.ref l), some (.int k), some (.ref lc), some (.int d), some (.ref lt), some (.ref (lt + 1)), a, b, c, e, f] ∧ Kept (lt + 1) H₁ H' ∧ H'[lt + 1]? = some (.list vs) ∧ RowsAt (lt + 2) H' ((ts.take j).flatMap (rowsOf ps d rec k ts.length)) vs) ⟨_, _, _, _, _, [], rfl, Kept.refl (by (first | lia | omega)), hR, RowsAt.nil _ _⟩ ?_ ?_
    · intro j v hv
      refine el_6_3 ?_
      intro Hj oa ob oc oe of vs hFj hRj hRA
      rw [List.getElem?_map] at hv
      obtain ⟨c, hc, rfl⟩ := Option.map_eq_some_iff.mp hv
      have hcm := htm c (List.mem_of_getElem? hc)
      obtain ⟨hc0, q, hq⟩ := hcs c hcm
      have hjl := (List.getElem?_eq_some_iff.mp hc).1
      have hAj := hFj.at (hF1.at' hA) (by have := at_lt hA; (first | lia | omega))
      have hTj := hFj.at hT (by (first | lia | omega))
      have hlv : livesAt ps d c = livesP q d := by unfold livesAt; rw [hq]
      have htl2 := take_flat_len (rowsOf ps d rec k ts.length) hc
      have hvl : vs.length + (rowsOf ps d rec k ts.length c).length < 16000000 := by
        rw [hRA.1]; unfold lineRows at hsz; (first | lia | omega)
      o_facts bd
      open_line with [WBi_lenL _ _ _ hTj, List.length_map, show pgks[0]? = some (.tup [.int 1, .int 1]) from rfl]
      refine call_of (w_shared scr (N + 68) (ts.length : Int) Hj (by (first | lia | omega)) (by (first | lia | omega))) ?_
      rintro v H' ⟨rfl, rfl⟩
      open_line
      refine call_of (w_lives scr (N + 69) l c d H' ps q hAj hc0 hq) ?_
      rintro v H'' ⟨rfl, rfl⟩
      open_line
      refine wIf_split ?_ ?_
      · intro h
        open_line
        have hro : rowsOf ps d rec k ts.length c = [⟨c, ts.length, [k, c]⟩] := by unfold rowsOf; rw [hlv, h]; rfl
        rw [hro] at hvl
        have hRn := at_app [.list [.int k, .int c]] hRj
        open_line with [meKind_app _ hRj, WMeth_app _ _ _ hRn (by simp at hvl; (first | lia | omega))]
        have hge := hFj.2.1
        first | refine ⟨stands_ref (at_set_ne (at_app _ hTj) (by (first | lia | omega))) hT, in_6_3 rfl ((hFj.trans (Kept.app _ _) (by (first | lia | omega))).trans (Kept.set _ (Nat.le_refl _) (by rw [List.length_append]; (first | lia | omega))) (Nat.le_refl _)) (at_set hRn) ?_⟩ | refine ⟨stands_ref (at_set_ne (at_app _ hTj) (by (first | lia | omega))) hT, _, _, _, _, _, _, rfl, (hFj.trans (Kept.app _ _) (by (first | lia | omega))).trans (Kept.set _ (Nat.le_refl _) (by rw [List.length_append]; (first | lia | omega))) (Nat.le_refl _), at_set hRn, ?_⟩
        rw [take_flat _ hc, hro]
        refine ((hRA.app _).set _ (by (first | lia | omega))).snoc ⟨H''.length, by (first | lia | omega), rfl, ?_⟩
        exact at_set_ne (at_new _ _) (by (first | lia | omega))
      · intro h
        open_line
        have hro : rowsOf ps d rec k ts.length c = (rec c).map (upRow k ts.length) := by unfold rowsOf; rw [hlv, h]; rfl
        rw [hro, List.length_map] at hvl
        open_line
        refine call_of (IH c hcm H'' hAj) ?_
        refine el_2_4 ?_
        intro H₄ lb us hlb hF4 hB hUA
        have hge := hFj.2.1
        have hR4 := hF4.at' hRj
        have hRA4 := hRA.kept hF4
        open_line with [itemsOf_lst _ _ hB]
        refine for_inv (fun i ρ H' => ∃ (a b e : Option V) (ws : List V), ρ = [some (.ref l), some (.int k), some (.ref lc), some (.int d), some (.ref lt), some (.ref (lt + 1)), some (.int c), some (.tup [.int 1, .int ts.length]), a, b, e] ∧ Kept (lt + 1) H₁ H' ∧ H'[lt + 1]? = some (.list ws) ∧ H'[lb]? = some (.list us) ∧ RowsAt (lt + 2) H' (rec c) us ∧ RowsAt (lt + 2) H' ((ts.take j).flatMap (rowsOf ps d rec k ts.length) ++ ((rec c).take i).map (upRow k ts.length)) ws)
          ⟨_, _, _, vs, rfl, hFj.trans hF4 (by (first | lia | omega)), hR4, hB, hUA.low (by (first | lia | omega)), by simp; exact hRA4⟩ ?_ ?_
        · intro i v hv
          refine el_4_5 ?_
          intro Hi ia ib ie ws hFi hRi hBi hUi hWi
          obtain ⟨r, hr, ll, hll, rfl, hLi⟩ := hUi.get hv
          have hil := (List.getElem?_eq_some_iff.mp hr).1
          obtain ⟨hr1, hr2⟩ := hrec c hcm r (List.mem_of_getElem? hr)
          have hgi := hFi.2.1
          have hwl : ws.length < 16000000 := by
            rw [hWi.1, List.length_append, List.length_map, List.length_take, ← hRA.1]; (first | lia | omega)
          o_facts bd
          open_line with [meKind_app _ hRi]
          refine call_of (w_times scr (N + 68) (ts.length : Int) r.under Hi (by (first | lia | omega)) (by (first | lia | omega)) hr1) ?_
          rintro v H' ⟨rfl, rfl⟩
          have hL' := at_app [.list [.int k]] hLi
          have hszl : (V.int k :: r.line.map V.int).length < 16000000 := by rw [List.length_cons, List.length_map]; (first | lia | omega)
          have hRn := at_app [.list (V.int k :: r.line.map V.int)] (at_app [.list [.int k]] hRi)
          open_line with [WBin_cat _ _ (at_new _ _) hL', WAllocL_ok _ _ _ hszl, WMeth_app _ _ _ hRn hwl]
          first | refine ⟨stands_ref (at_set_ne (at_app _ (at_app _ hBi)) (by (first | lia | omega))) hB, in_4_5 rfl (((hFi.trans (Kept.app _ _) (by (first | lia | omega))).trans (Kept.app _ _) (by rw [List.length_append]; (first | lia | omega))).trans (Kept.set _ (Nat.le_refl _) (by rw [List.length_append, List.length_append]; (first | lia | omega))) (Nat.le_refl _)) (at_set hRn) (at_set_ne (at_app _ (at_app _ hBi)) (by (first | lia | omega))) (((hUi.app _).app _).set _ (by (first | lia | omega))) ?_⟩ | refine ⟨stands_ref (at_set_ne (at_app _ (at_app _ hBi)) (by (first | lia | omega))) hB, _, _, _, _, rfl, ((hFi.trans (Kept.app _ _) (by (first | lia | omega))).trans (Kept.app _ _) (by rw [List.length_append]; (first | lia | omega))).trans (Kept.set _ (Nat.le_refl _) (by rw [List.length_append, List.length_append]; (first | lia | omega))) (Nat.le_refl _), at_set hRn, at_set_ne (at_app _ (at_app _ hBi)) (by (first | lia | omega)), ((hUi.app _).app _).set _ (by (first | lia | omega)), ?_⟩
          rw [take_map_one _ hr, ← List.append_assoc]
          refine (((hWi.app _).app _).set _ (by (first | lia | omega))).snoc ⟨(H' ++ [Cell.list [V.int k]]).length, by rw [List.length_append]; (first | lia | omega), rfl, ?_⟩
          exact at_set_ne (at_new _ _) (by rw [List.length_append]; (first | lia | omega))
        · refine el_4_5 ?_
          intro Hi ia ib ie ws hFi hRi hBi hUi hWi
          rw [hUA.1, List.take_length] at hWi
          open_line
          first | refine ⟨stands_ref (hFi.at hT (by (first | lia | omega))) hT, in_6_3 (a5 := ws) rfl hFi hRi ?_⟩ | refine ⟨stands_ref (hFi.at hT (by (first | lia | omega))) hT, _, _, _, _, _, ws, rfl, hFi, hRi, ?_⟩
          rw [take_flat _ hc, hro]; exact hWi
    · refine el_6_3 ?_
      intro H' oa ob oc oe of vs hF' hR' hRA
      rw [List.length_map, List.take_length] at hRA
      open_line
      first | exact in_2_4 (a1 := vs) rfl (by (first | lia | omega)) (hF1.trans hF' (by (first | lia | omega))) hR' (hRA.low (by (first | lia | omega))) | exact ⟨_, vs, rfl, by (first | lia | omega), hF1.trans hF' (by (first | lia | omega)), hR', hRA.low (by (first | lia | omega))⟩

theorem kids_ok {ps : List Per} {d k c : Int} (h : c ∈ kidsP ps d k) : 0 ≤ c ∧ ∃ q, ps[c.toNat]? = some q := by
  obtain ⟨h0, q, hq, _⟩ := child_mem.mp h
  exact ⟨h0, q, hq⟩
theorem kids_len (ps : List Per) (d k : Int) : (kidsP ps d k).length ≤ ps.length := by
  refine Nat.le_trans (List.length_filter_le _ _) ?_
  rw [ints_len]; (first | lia | omega)
theorem pow_small {y : Nat} (h : y ≤ 23) : 2 ^ y < 16000000 := Nat.lt_of_le_of_lt (Nat.pow_le_pow_right (by (first | lia | omega)) h) (by decide)

/-- by_lines, by how many are younger -/
theorem w_by_lines (l : Nat) (d : Int) (ps : List Per) (hW : WfP ps) (hlen : ps.length ≤ 24) : ∀ (r n : Nat) (k : Int) (p : Per) (H : Hp), H[l]? = some (.list (ps.map perV)) → 0 ≤ k → ps[k.toNat]? = some p → younger ps p.born < r → r ≤ 24 →
    callW scr pgks pfns (n + 2 * r + 70) i_by_lines [.ref l, .int k, .int d] H (RowsPost H (rowsP ps d r k)) := by
  intro r
  induction r with
  | zero => intro n k p H hA h0 hp hr; (first | lia | omega)
  | succ r ih =>
    intro n k p H hA h0 hp hr hr24
    rw [show n + 2 * (r + 1) + 70 = (n + 2 * r + 71) + 1 by (first | lia | omega)]
    refine c_by_lines ?_
    unfold pb_by_lines
    open_line
    refine call_of (w_children scr (n + 2 * r + 69) l k d H ps hA (by (first | lia | omega))) ?_
    refine el_1_2 ?_
    intro H₂ lc hF2 hC2
    open_line
    have hy : ∀ c ∈ kidsP ps d k, 0 ≤ c ∧ ∃ q, ps[c.toNat]? = some q ∧ younger ps q.born < r := by
      intro c hc
      obtain ⟨h0, q, hq, _⟩ := child_mem.mp hc
      obtain ⟨q', hq', hlt⟩ := kid_younger hW hp (List.mem_filter.mp hc).2
      rw [hq] at hq'; cases hq'
      have := younger_lt hlt (List.mem_of_getElem? hq)
      exact ⟨h0, q, hq, by (first | lia | omega)⟩
    refine call_of (w_lines_to scr l d ps hW (by (first | lia | omega)) (rowsP ps d r) (n + 2 * r) k (kidsP ps d k) (Nat.le_trans (kids_len _ _ _) (by (first | lia | omega))) (fun c hc => kids_ok hc) ?_ ?_ ?_ H₂ lc (hF2.at' hA) hC2) ?_
    · intro c _ x hx
      have := rowsP_ok ps d r c x hx
      exact ⟨this.1, by (first | lia | omega)⟩
    · have := rowsP_len hW d (r + 1) k p hp
      have h2 := younger_self (List.mem_of_getElem? hp)
      exact Nat.lt_of_le_of_lt this (pow_small (by (first | lia | omega)))
    · intro c hc H' hA'
      obtain ⟨h0, q, hq, hlt⟩ := hy c hc
      exact ih n c q H' hA' h0 hq hlt (by (first | lia | omega))
    · refine el_2_4 ?_
      intro H₃ lr vs hl hF3 hR hRA
      open_line
      have hge := hF2.2.1
      first | exact in_2_4 (a0 := lr) (a1 := vs) rfl (by (first | lia | omega)) (hF2.tr hF3) hR (hRA.low (by (first | lia | omega))) | exact ⟨lr, vs, rfl, by (first | lia | omega), hF2.tr hF3, hR, hRA.low (by (first | lia | omega))⟩
end Mine.P

end
section
set_option autoImplicit false
set_option linter.unusedVariables false
set_option linter.unusedSimpArgs false
set_option maxRecDepth 100000
namespace Mine
open PySem
theorem zip_get : ∀ {vs us : List V} {k : Nat} {v : V}, (zipV vs us)[k]? = some v → ∃ a b, vs[k]? = some a ∧ us[k]? = some b ∧ v = .tup [a, b]
  | [], us, k, v, h => nomatch h
  | a :: r, [], k, v, h => nomatch h
  | a :: r, b :: t, 0, v, h => by cases h; exact ⟨a, b, rfl, rfl, rfl⟩
  | a :: r, b :: t, k + 1, v, h => zip_get (vs := r) (us := t) h
theorem WBi_isList {scr : List Int} {H : Hp} {Q : V → Hp → Prop} {u : DF Q} {l : Nat} {xs : List V} (h : H[l]? = some (.list xs)) : gBi scr .isList [.ref l] H Q u = Q (.bool true) H := by
  show Wp (onL H (.ref l) fun _ => R.ok (V.bool true) H) Q = _
  rw [onL_at h]; rfl
theorem ne_lists {scr : List Int} {H : Hp} {l m : Nat} {vs : List V} (h : H[l]? = some (.list vs)) (h' : H[m]? = some (.list vs)) (hp : ∀ v, v ∈ vs → plain 8 v = true) : cmpV scr .ne (.ref l) (.ref m) H = some false := by
  have := eq_lists (scr := scr) h h' hp
  rw [cmpV] at this
  rw [cmpV, this]; rfl
theorem stands_zip {H₀ H : Hp} {a l m : Nat} {c d e : Cell} (h1 : H[a]? = some c) (h1' : H₀[a]? = some c) (h2 : H[l]? = some d) (h2' : H₀[l]? = some d) (h3 : H[m]? = some e) (h3' : H₀[m]? = some e) : stands (a :: (watch (.ref l) ++ watch (.ref m))) H₀ H = true := by
  simp [stands, watch, h1, h1', h2, h2', h3, h3']
end Mine
namespace Mine.P
open PySem
variable (scr : List Int)

theorem w_rows_same (n lf lu b b' : Nat) (H : Hp) (rs : List Row) (vs us : List V) (hV : H[lf]? = some (.list vs)) (hU : H[lu]? = some (.list us)) (hVA : RowsAt b H rs vs) (hUA : RowsAt b' H rs us) (hsm : ∀ r ∈ rs, r.line.length < 16000000) :
    callW scr pgks pfns (n + 3) i_law_rows_same [.ref lf, .ref lu] H fun v H' => v = .bool true ∧ Kept H.length H H' := by
  refine c_law_rows_same ?_
  unfold pb_law_rows_same
  have hle : vs.length = us.length := hVA.1.trans hUA.1.symm
  have hlne : ((vs.length : Int) == (us.length : Int)) = true := by rw [hle]; exact beq_self_eq_true _
  open_line with [WBi_isList hV, WBi_lenL _ _ _ hV, WBi_lenL _ _ _ hU, hlne, lstOf_lst _ _ hV, lstOf_lst _ _ hU]
  refine ⟨Nat.le_of_eq hle, ?_⟩
  refine for_inv (fun k ρ H' => ∃ a c : Option V, ρ = [some (.ref lf), some (.ref lu), a, c] ∧ Kept (H.length + 1) (H ++ [.hid]) H') ⟨_, _, rfl, Kept.refl (by simp)⟩ ?_ ?_
  · intro k v hv
    refine el_2_1 ?_
    intro Hk oa oc hF
    obtain ⟨x, y, hx, hy, rfl⟩ := zip_get hv
    obtain ⟨r, hr, ll, hll, rfl, hL⟩ := hVA.get hx
    obtain ⟨r', hr', lm, hlm, rfl, hM⟩ := hUA.get hy
    rw [hr] at hr'; cases hr'
    have hF' : Kept (H ++ [Cell.hid]).length (H ++ [Cell.hid]) Hk := by rw [List.length_append]; exact hF
    have hLk := hF'.at' (at_app _ hL)
    have hMk := hF'.at' (at_app _ hM)
    have hVk := hF'.at' (at_app _ hV)
    have hUk := hF'.at' (at_app _ hU)
    have hhid := hF'.at' (at_new H .hid)
    have hszl := hsm r (List.mem_of_getElem? hr)
    o_facts bd
    refine cut 1 (fun ρ' H' => ρ' = [some (.ref lf), some (.ref lu), some (.tup [.int r.heir, .tup [.int 1, .int r.under], .ref ll]), some (.tup [.int r.heir, .tup [.int 1, .int r.under], .ref lm])] ∧ H' = Hk) ?_ ?_
    · o_facts bd
      refine if_cut (fun b H' => b = false ∧ H' = Hk) ?_ (fun H' h => nomatch h.1) ?_
      · open_line with [List.length_cons, List.length_nil]
        refine call_of (w_whole scr (n + 1) r.heir Hk) ?_
        rintro v H' ⟨rfl, rfl⟩
        open_line with [WBi_isList hLk]
        exact ⟨(by trivial), (by trivial)⟩
      · rintro H' ⟨_, rfl⟩
        open_line
        exact ⟨(by trivial), (by trivial)⟩
    rintro ρ' H' ⟨rfl, rfl⟩
    o_facts bd
    refine cut 1 (fun ρ' H₂ => ρ' = [some (.ref lf), some (.ref lu), some (.tup [.int r.heir, .tup [.int 1, .int r.under], .ref ll]), some (.tup [.int r.heir, .tup [.int 1, .int r.under], .ref lm])] ∧ Kept H'.length H' H₂) ?_ ?_
    · o_facts bd
      refine if_cut (fun b H₂ => b = false ∧ Kept H'.length H' H₂) ?_ (fun H' h => nomatch h.1) ?_
      · open_line with [itemsOf_lst _ _ hLk]
        refine comp_filt (fun _ => false) hszl ?_ ?_
        · intro z _ Q hQ
          open_line
          refine call_of (w_whole scr (n + 1) z H') ?_
          rintro v H'' ⟨rfl, rfl⟩
          open_line
          exact hQ
        · have hE := at_new H' (.list ((r.line.filter fun _ => false).map V.int))
          have hnil : (r.line.filter fun _ => false).map V.int = [] := by simp
          have hn2 := cmp_ne_empty (scr := scr) hE (plain_ints _ 8)
          rw [hnil] at hn2 ⊢
          open_line with [hn2, List.isEmpty_nil]
          have hFH := (Kept.app H' [.list []]).tr (Kept.app (H' ++ [.list []]) [.list []])
          refine call_of (w_is_part scr n r.under _) ?_
          rintro v H₃ ⟨rfl, rfl⟩
          open_line
          exact ⟨(by trivial), hFH⟩
      · rintro H₂ ⟨_, hF2⟩
        open_line
        exact ⟨(by trivial), hF2⟩
    rintro ρ' H₃ ⟨rfl, hFH⟩
    o_facts bd
    open_line with [ne_lists (hFH.at' hLk) (hFH.at' hMk) (plain_ints _ 8)]
    have hFa := hF'.tr hFH
    rw [List.length_append] at hFa
    first | exact ⟨stands_zip (hFH.at' hhid) (at_new _ _) (hFH.at' hVk) (at_app _ hV) (hFH.at' hUk) (at_app _ hU), in_2_1 rfl hFa⟩ | exact ⟨stands_zip (hFH.at' hhid) (at_new _ _) (hFH.at' hVk) (at_app _ hV) (hFH.at' hUk) (at_app _ hU), _, _, rfl, hFa⟩
  · refine el_2_1 ?_
    intro H' oa oc hF
    open_line
    have hF' : Kept (H ++ [Cell.hid]).length (H ++ [Cell.hid]) H' := by rw [List.length_append]; exact hF
    exact ⟨(by trivial), (Kept.app _ _).tr hF'⟩

theorem w_day (n l : Nat) (c : Int) (H : Hp) (ps : List Per) (hA : H[l]? = some (.list (ps.map perV))) (hne : 0 < ps.length) : callW scr pgks pfns (n + 1) i_law_day [.ref l, .int c] H fun v H' => (∃ d, v = .int d) ∧ H' = H := by
  refine c_law_day ?_
  unfold pb_law_day
  obtain ⟨p, hp, hp'⟩ := per_at (ps := ps) (k := c / 5 % (ps.length : Int)) (Int.emod_nonneg _ (by (first | lia | omega))) (Int.emod_lt_of_pos _ (by (first | lia | omega)))
  open_line with [WBi_lenL _ _ _ hA, List.length_map, idx_lst _ _ _ hA, hp, perV]
  refine wIf_split ?_ ?_
  · intro _
    open_line
    cases hd : p.died with
    | none =>
      open_line with [diV, show isNoneV V.none = true from rfl]
      exact ⟨⟨_, rfl⟩, (by trivial)⟩
    | some e =>
      open_line with [diV, show isNoneV (V.int e) = false from rfl]
      exact ⟨⟨_, rfl⟩, (by trivial)⟩
  · intro h
    open_line with [h]
    exact ⟨⟨_, rfl⟩, (by trivial)⟩
end Mine.P

end
section
set_option autoImplicit false
set_option linter.unusedVariables false
set_option linter.unusedSimpArgs false
set_option maxRecDepth 100000
namespace Mine.P
open PySem
variable (scr : List Int)

/-- a table of persons, all of whom have a line -/
structure TabOk (ps : List Per) (d : Int) (es : List (Int × V)) : Prop where
  nodup : (ks es).Nodup
  line : ∀ k ∈ ks es, ∃ m, Line ps d m k
theorem TabOk.small {ps : List Per} {d : Int} {es : List (Int × V)} (hW : WfP ps) (hlen : ps.length ≤ 60) (h : TabOk ps d es) : es.length < 16000000 := by
  have := nodup_bound ps.length (ks es) h.nodup fun k hk => by
    obtain ⟨m, hm⟩ := h.line k hk
    obtain ⟨h0, q, hq⟩ := hm.valid hW
    have := (List.getElem?_eq_some_iff.mp hq).1
    (first | lia | omega)
  rw [List.length_map] at this
  (first | lia | omega)
theorem TabOk.put {ps : List Per} {d : Int} {es : List (Int × V)} (h : TabOk ps d es) {k : Int} {v : V} (hk : ∃ m, Line ps d m k) : TabOk ps d (dput es k v) :=
  ⟨nodup_dput h.nodup, fun j hj => (mem_dput.mp hj).elim (h.line j) fun e => e ▸ hk⟩

theorem w_lined (n l : Nat) (d : Int) (H : Hp) (ps : List Per) (hA : H[l]? = some (.list (ps.map perV))) (hW : WfP ps) (hlen : ps.length ≤ 60) : callW scr pgks pfns (n + 2) i_law_lined [.ref l, .int d] H fun v H' =>
    ∃ ld es, v = .ref ld ∧ Kept H.length H H' ∧ H'[ld]? = some (.dict es) ∧ ∀ k, k ∈ ks es ↔ ∃ m, Line ps d m k := by
  refine c_law_lined ?_
  unfold pb_law_lined
  have hlt := at_lt hA
  have hne : l ≠ H.length := by (first | lia | omega)
  refine cut 2 (fun ρ' H' => ∃ o es, ρ' = [some (.ref l), some (.int d), some (.ref H.length), o, none, none] ∧ Kept H.length H H' ∧ H'[H.length]? = some (.dict es) ∧ TabOk ps d es ∧ ∀ k, Line ps d 0 k → k ∈ ks es) ?_ ?_
  · open_line with [WBi_lenL _ _ _ (at_app _ hA), List.length_map, range_ints]
    refine for_inv (fun j ρ H' => ∃ o es, ρ = [some (.ref l), some (.int d), some (.ref H.length), o, none, none] ∧ Kept H.length H H' ∧ H'[H.length]? = some (.dict es) ∧ TabOk ps d es ∧ ∀ k, k < (j : Int) → Line ps d 0 k → k ∈ ks es) ⟨_, [], rfl, Kept.app _ _, at_new _ _, ⟨List.nodup_nil, by simp⟩, fun k hk hl => ?_⟩ ?_ ?_
    · have := (hl.valid hW).1
      (first | lia | omega)
    · intro j v hv
      refine el_2_4 ?_
      intro H' o es hF hD hT hC
      obtain ⟨hj1, rfl, hj2⟩ := iseq_get hv
      have hA' := hF.at' hA
      obtain ⟨p, hp, hp'⟩ := per_at (ps := ps) (k := 0 + (j : Int)) (by (first | lia | omega)) (by (first | lia | omega))
      o_facts bd
      open_line
      refine call_of (w_llives scr n l (0 + (j : Int)) d H' ps p hA' (by (first | lia | omega)) hp') ?_
      rintro v H'' ⟨rfl, rfl⟩
      open_line
      refine wIf_split ?_ ?_
      · intro h
        open_line with [setIdx_dct _ _ _ hD (hT.small hW hlen)]
        first | refine ⟨rfl, in_2_4 rfl (hF.trans (Kept.set _ (Nat.le_refl _) (by have := at_lt hD; (first | lia | omega))) (Nat.le_refl _)) (at_set hD) (hT.put ⟨0, .live (by (first | lia | omega)) hp' h⟩) (fun k hk hl => mem_dput.mpr ?_)⟩ | refine ⟨rfl, _, _, rfl, hF.trans (Kept.set _ (Nat.le_refl _) (by have := at_lt hD; (first | lia | omega))) (Nat.le_refl _), at_set hD, hT.put ⟨0, .live (by (first | lia | omega)) hp' h⟩, fun k hk hl => mem_dput.mpr ?_⟩
        by_cases e : k = 0 + (j : Int)
        · exact .inr e
        · exact .inl (hC k (by (first | lia | omega)) hl)
      · intro h
        open_line
        first | refine ⟨rfl, in_2_4 rfl hF hD hT (fun k hk hl => ?_)⟩ | refine ⟨rfl, _, _, rfl, hF, hD, hT, fun k hk hl => ?_⟩
        by_cases e : k = 0 + (j : Int)
        · exfalso
          subst e
          cases hl with
          | live _ hq hl => rw [hp'] at hq; cases hq; rw [h] at hl; cases hl
        · exact hC k (by (first | lia | omega)) hl
    · refine el_2_4 ?_
      intro H' o es hF hD hT hC
      open_line
      first | refine in_2_4 rfl hF hD hT (fun k hl => hC k ?_ hl) | refine ⟨_, _, rfl, hF, hD, hT, fun k hl => hC k ?_ hl⟩
      obtain ⟨h0, q, hq⟩ := hl.valid hW
      have := (List.getElem?_eq_some_iff.mp hq).1
      rw [List.length_map, ints_len]
      (first | lia | omega)
  · refine el_2_4 ?_
    intro H₁ o es₁ hF1 hD1 hT1 hC1
    simp only [List.drop_succ_cons, List.drop_zero]
    have hA1 := hF1.at' hA
    open_line with [WBi_lenL _ _ _ hA1, List.length_map, range_ints]
    refine for_inv (fun t ρ H' => ∃ o o4 o5 es, ρ = [some (.ref l), some (.int d), some (.ref H.length), o, o4, o5] ∧ Kept H.length H H' ∧ H'[H.length]? = some (.dict es) ∧ TabOk ps d es ∧ ∀ m k, m ≤ t → Line ps d m k → k ∈ ks es) ⟨_, _, _, es₁, rfl, hF1, hD1, hT1, fun m k hm hl => hC1 k (Nat.le_zero.mp hm ▸ hl)⟩ ?_ ?_
    · intro t v hv
      refine el_4_4 ?_
      intro Ht ot o4 o5 es hFt hDt hTt hCt
      obtain ⟨_, rfl, _⟩ := iseq_get hv
      have hAt := hFt.at' hA
      have hszk : (es.map fun p => V.int p.1).length < 16000000 := by rw [List.length_map]; exact hTt.small hW hlen
      o_facts bd
      open_line with [keysOf_dct _ _ hDt, WAllocL_ok _ _ _ hszk, itemsOf_lst _ _ (at_new _ _)]
      have hDn := at_app [.list (es.map fun p => V.int p.1)] hDt
      have hFn : Kept H.length H (Ht ++ [.list (es.map fun p => V.int p.1)]) := hFt.tr (Kept.app _ _)
      have hltD := at_lt hDt
      have hmapk : (es.map fun p => V.int p.1) = (ks es).map .int := by rw [List.map_map]; rfl
      rw [hmapk]
      rw [hmapk] at hDn hFn
      have hSn := at_new Ht (.list ((ks es).map .int))
      refine for_inv (fun j ρ H' => ∃ o o5 es', ρ = [some (.ref l), some (.int d), some (.ref H.length), o, some (.int (0 + (t : Int))), o5] ∧ Kept H.length H H' ∧ H'[H.length]? = some (.dict es') ∧ H'[Ht.length]? = some (.list ((ks es).map .int)) ∧ TabOk ps d es' ∧ (∀ k ∈ ks es, k ∈ ks es') ∧
        ∀ c ∈ (ks es).take j, ∀ q, ps[c.toNat]? = some q → q.born ≤ d → ∀ x ∈ parOn q d, x ∈ ks es') ⟨_, _, es, rfl, hFn, hDn, hSn, hTt, fun k hk => hk, by simp⟩ ?_ ?_
      · intro j v hv
        refine el_3_6 ?_
        intro Hj oj oj5 es' hFj hDj hSj hTj hsub hCj
        rw [List.getElem?_map] at hv
        obtain ⟨c, hc, rfl⟩ := Option.map_eq_some_iff.mp hv
        obtain ⟨mc, hlc⟩ := hTt.line c (List.mem_of_getElem? hc)
        obtain ⟨hc0, p, hp'⟩ := hlc.valid hW
        have hp := per_at' hc0 hp'
        have hAj := hFj.at' hA
        have htk : (ks es).take (j + 1) = (ks es).take j ++ [c] := by rw [List.take_add_one, hc]; rfl
        o_facts bd
        open_line with [idx_lst _ _ _ hAj, hp, perV]
        refine wIf_split ?_ ?_
        · intro hb
          open_line
          have hb : p.born ≤ d := by simpa using hb
          open_line
          refine call_of (w_lparents scr n l c d Hj ps p hAj hc0 hp') ?_
          rintro v H'' ⟨rfl, rfl⟩
          open_line
          refine for_inv (fun i ρ H' => ∃ o5 es₂, ρ = [some (.ref l), some (.int d), some (.ref H.length), some (.int c), some (.int (0 + (t : Int))), o5] ∧ Kept H.length H H' ∧ H'[H.length]? = some (.dict es₂) ∧ H'[Ht.length]? = some (.list ((ks es).map .int)) ∧ TabOk ps d es₂ ∧ (∀ k ∈ ks es', k ∈ ks es₂) ∧ ∀ x ∈ (parOn p d).take i, x ∈ ks es₂) ⟨_, es', rfl, hFj, hDj, hSj, hTj, fun k hk => hk, by simp⟩ ?_ ?_
          · intro i v hv
            refine el_2_6 ?_
            intro Hi oi es₂ hFi hDi hSi hTi hsubi hCi
            rw [List.getElem?_map] at hv
            obtain ⟨x, hx, rfl⟩ := Option.map_eq_some_iff.mp hv
            have hxm := List.mem_of_getElem? hx
            o_facts bd
            open_line with [setIdx_dct _ _ _ hDi (hTi.small hW hlen)]
            first | refine ⟨rfl, in_2_6 rfl (hFi.trans (Kept.set _ (Nat.le_refl _) (by have := at_lt hDi; (first | lia | omega))) (Nat.le_refl _)) (at_set hDi) (at_set_ne hSi (by (first | lia | omega))) (hTi.put ⟨_, .step hc0 hp' hb hxm hlc⟩) (fun k hk => mem_dput.mpr (.inl (hsubi k hk))) (fun y hy => mem_dput.mpr ?_)⟩ | refine ⟨rfl, _, _, rfl, hFi.trans (Kept.set _ (Nat.le_refl _) (by have := at_lt hDi; (first | lia | omega))) (Nat.le_refl _), at_set hDi, at_set_ne hSi (by (first | lia | omega)), hTi.put ⟨_, .step hc0 hp' hb hxm hlc⟩, fun k hk => mem_dput.mpr (.inl (hsubi k hk)), fun y hy => mem_dput.mpr ?_⟩
            rw [List.take_add_one, hx, List.mem_append] at hy
            rcases hy with hy | hy
            · exact .inl (hCi y hy)
            · exact .inr (by simpa using hy)
          · refine el_2_6 ?_
            intro Hi oi es₂ hFi hDi hSi hTi hsubi hCi
            rw [List.length_map, List.take_length] at hCi
            open_line
            first | refine ⟨stands_ref hSi hSn, in_3_6 rfl hFi hDi hSi hTi (fun k hk => hsubi k (hsub k hk)) (fun y hy q hq hqb x hx => ?_)⟩ | refine ⟨stands_ref hSi hSn, _, _, _, rfl, hFi, hDi, hSi, hTi, fun k hk => hsubi k (hsub k hk), fun y hy q hq hqb x hx => ?_⟩
            rw [htk, List.mem_append] at hy
            rcases hy with hy | hy
            · exact hsubi x (hCj y hy q hq hqb x hx)
            · have : y = c := by simpa using hy
              rw [this, hp'] at hq; cases hq
              exact hCi x hx
        · intro hb
          open_line
          have hb : ¬ p.born ≤ d := by simpa using hb
          open_line
          first | refine ⟨stands_ref hSj hSn, in_3_6 rfl hFj hDj hSj hTj hsub (fun y hy q hq hqb x hx => ?_)⟩ | refine ⟨stands_ref hSj hSn, _, _, _, rfl, hFj, hDj, hSj, hTj, hsub, fun y hy q hq hqb x hx => ?_⟩
          rw [htk, List.mem_append] at hy
          rcases hy with hy | hy
          · exact hCj y hy q hq hqb x hx
          · have : y = c := by simpa using hy
            rw [this, hp'] at hq; cases hq
            exact absurd hqb hb
      · refine el_3_6 ?_
        intro Hj oj oj5 es' hFj hDj hSj hTj hsub hCj
        rw [List.length_map, List.take_length] at hCj
        open_line
        first | refine ⟨rfl, in_4_4 rfl hFj hDj hTj (fun m k hm hl => ?_)⟩ | refine ⟨rfl, _, _, _, _, rfl, hFj, hDj, hTj, fun m k hm hl => ?_⟩
        by_cases e : m ≤ t
        · exact hsub k (hCt m k e hl)
        · have : m = t + 1 := by (first | lia | omega)
          subst this
          cases hl with
          | step hc0 hq hb hx hl' => exact hCj _ (hCt t _ (Nat.le_refl _) hl') _ hq hb _ hx
    · refine el_4_4 ?_
      intro H' oz o4 o5 es hF hD hT hC
      open_line
      first | refine in_2_3 (a1 := es) rfl hF hD (fun k => ⟨hT.line k, fun hk => ?_⟩) | refine ⟨_, es, rfl, hF, hD, fun k => ⟨hT.line k, fun hk => ?_⟩⟩
      obtain ⟨m, hm⟩ := hk
      obtain ⟨h0, q, hq⟩ := hm.valid hW
      refine hC m k ?_ hm
      have h1 := hm.rank hW hq
      have h2 := younger_le ps q.born
      rw [List.length_map, ints_len]
      (first | lia | omega)
end Mine.P

end
section
set_option autoImplicit false
set_option linter.unusedVariables false
set_option linter.unusedSimpArgs false
set_option maxRecDepth 100000
namespace Mine.P
open PySem
variable (scr : List Int)

theorem w_lchildren (n l : Nat) (k d : Int) (H : Hp) (ps : List Per) (hA : H[l]? = some (.list (ps.map perV))) (hlen : ps.length ≤ 60) : callW scr pgks pfns (n + 2) i_law_children [.ref l, .int k, .int d] H fun v H' =>
    ∃ lc, v = .ref lc ∧ Kept H.length H H' ∧ H'[lc]? = some (.list (((iseq 0 ps.length).filter (childB ps d k)).map .int)) := by
  refine c_law_children ?_
  unfold pb_law_children
  have hlt := at_lt hA
  open_line with [WBi_lenL _ _ _ (at_app _ hA), List.length_map, range_ints]
  refine for_inv (fun j ρ H' => ∃ o : Option V, ρ = [some (.ref l), some (.int k), some (.int d), some (.ref H.length), o] ∧ Kept H.length H H' ∧ H'[H.length]? = some (.list ((((iseq 0 ps.length).take j).filter (childB ps d k)).map .int))) ⟨_, rfl, Kept.app _ _, at_new _ _⟩ ?_ ?_
  · intro j v hv
    refine el_1_2 ?_
    intro H' o hF hN
    obtain ⟨hj1, rfl, hj2⟩ := iseq_get hv
    have hA' := hF.at' hA
    obtain ⟨p, hp, hp'⟩ := per_at (ps := ps) (k := 0 + (j : Int)) (by (first | lia | omega)) (by (first | lia | omega))
    have htf := take_filter (childB ps d k) hj1
    have hch : childB ps d k (0 + (j : Int)) = (decide (p.born ≤ d) && decide (k ∈ parOn p d)) := by unfold childB; rw [hp']
    rw [hch] at htf
    o_facts bd
    open_line with [idx_lst _ _ _ hA', hp, perV]
    by_cases hb : p.born ≤ d
    · have hb' : decide (p.born ≤ d) = true := by simpa using hb
      rw [hb', Bool.true_and] at htf
      open_line with [hb']
      refine call_of (w_lparents scr n l (0 + (j : Int)) d H' ps p hA' (by (first | lia | omega)) hp') ?_
      rintro v H'' ⟨rfl, rfl⟩
      open_line with [in_tup]
      refine wIf_split ?_ ?_
      · intro h
        open_line
        rw [h, if_pos rfl] at htf
        have hsz : ((((iseq 0 ps.length).take j).filter (childB ps d k)).map V.int).length < 16000000 := by
          rw [List.length_map]
          refine Nat.lt_of_le_of_lt (List.length_filter_le _ _) ?_
          rw [List.length_take, ints_len]; (first | lia | omega)
        open_line with [meKind_app _ hN, WMeth_app _ _ _ hN hsz]
        first | refine ⟨rfl, in_1_2 rfl (hF.trans (Kept.set _ (Nat.le_refl _) (by have := at_lt hN; (first | lia | omega))) (Nat.le_refl _)) ?_⟩ | refine ⟨rfl, _, rfl, hF.trans (Kept.set _ (Nat.le_refl _) (by have := at_lt hN; (first | lia | omega))) (Nat.le_refl _), ?_⟩
        rw [at_set hN, htf, List.map_append]; rfl
      · intro h
        open_line
        rw [h] at htf
        open_line
        first | exact ⟨rfl, in_1_2 rfl hF (by rw [hN, htf]; rfl)⟩ | exact ⟨rfl, _, rfl, hF, by rw [hN, htf]; rfl⟩
    · have hb' : decide (p.born ≤ d) = false := by simpa using hb
      rw [hb'] at htf
      open_line with [hb']
      first | exact ⟨rfl, in_1_2 rfl hF (by rw [hN, htf]; rfl)⟩ | exact ⟨rfl, _, rfl, hF, by rw [hN, htf]; rfl⟩
  · refine el_1_2 ?_
    intro H' o hF hN
    open_line
    first | refine in_1_2 rfl hF ?_ | refine ⟨_, rfl, hF, ?_⟩
    rw [hN, List.length_map, List.take_length]

/-- the keys of the table are those that have a line -/
noncomputable def Lined (ps : List Per) (d : Int) (H : Hp) (ld : Nat) : Prop := ∃ es, H[ld]? = some (.dict es) ∧ ∀ k, k ∈ ks es ↔ ∃ m, Line ps d m k
theorem Lined.kept {ps : List Per} {d : Int} {H H' : Hp} {ld : Nat} (h : Lined ps d H ld) (hF : Kept H.length H H') : Lined ps d H' ld := let ⟨es, h1, h2⟩ := h; ⟨es, hF.at' h1, h2⟩
theorem Lined.at' {ps : List Per} {d : Int} {n : Nat} {H H' : Hp} {ld : Nat} (h : Lined ps d H ld) (hF : Kept n H H') (hl : ld < n) : Lined ps d H' ld := let ⟨es, h1, h2⟩ := h; ⟨es, hF.at h1 hl, h2⟩
theorem Lined.lt {ps : List Per} {d : Int} {H : Hp} {ld : Nat} (h : Lined ps d H ld) : ld < H.length := let ⟨es, h1, _⟩ := h; at_lt h1
theorem Lined.isIn {ps : List Per} {d : Int} {H : Hp} {ld : Nat} (h : Lined ps d H ld) (c : Int) : cmpV scr .isIn (.int c) (.ref ld) H = some (lineB ps d c) := by
  obtain ⟨es, h1, h2⟩ := h
  rw [in_dct _ _ h1, any_ks]
  congr 1
  by_cases hc : c ∈ ks es
  · rw [decide_eq_true hc, lineB_iff.mpr ((h2 c).mp hc)]
  · rw [decide_eq_false hc]
    cases hb : lineB ps d c with
    | false => rfl
    | true => exact absurd ((h2 c).mpr (lineB_iff.mp hb)) hc
/-- _law_shared, if it does as it should below -/
theorem w_lshared1 (l ld : Nat) (d : Int) (ps : List Per) (hW : WfP ps) (hlen : ps.length ≤ 60) (rec : Int → List Row) (N : Nat) (k : Int) (ts : List Int) (htl : ts.length ≤ 60) (hts : ∀ c ∈ ts, 0 ≤ c ∧ ∃ q, ps[c.toNat]? = some q)
    (hrec : ∀ c ∈ ts, ∀ r ∈ rec c, 1 ≤ r.under ∧ r.line.length ≤ 1000) (hsz : (lineRows ps d rec k ts).length < 16000000)
    (IH : ∀ c ∈ ts, ∀ (H : Hp) (lb : Nat) (u : Int), H[l]? = some (.list (ps.map perV)) → Lined ps d H ld → H[lb]? = some (.list ((takersP ps d c).map .int)) → callW scr pgks pfns (N + 2) i_law_shared [.ref l, .ref ld, .int c, .ref lb, .int d, .int u] H (RowsPost H ((rec c).map (scale u))))
    (H : Hp) (lt : Nat) (u : Int) (hA : H[l]? = some (.list (ps.map perV))) (hD : Lined ps d H ld) (hT : H[lt]? = some (.list (ts.map .int))) :
    callW scr pgks pfns (N + 3) i_law_shared [.ref l, .ref ld, .int k, .ref lt, .int d, .int u] H (RowsPost H ((lineRows ps d rec k ts).map (scale u))) := by
  refine c_law_shared ?_
  unfold pb_law_shared
  have hAl := at_lt hA
  have hDl := hD.lt
  have hTl := at_lt hT
  open_line with [itemsOf_lst _ _ (at_app _ hT)]
  have hF0 : Kept H.length H (H ++ [.list []]) := Kept.app _ _
  refine for_inv (fun j ρ H' => ∃ (a b c e f : Option V) (vs : List V), ρ = [some (.ref l), some (.ref ld), some (.int k), some (.ref lt), some (.int d), some (.int u), some (.ref H.length), a, b, c, e, f] ∧ Kept H.length H H' ∧ H'[H.length]? = some (.list vs) ∧ RowsAt (H.length + 1) H' (((ts.take j).flatMap (rowsOf ps d rec k ts.length)).map (scale u)) vs) ⟨_, _, _, _, _, [], rfl, hF0, at_new _ _, RowsAt.nil _ _⟩ ?_ ?_
  · intro j v hv
    refine el_6_3 ?_
    intro Hj oa ob oc oe of vs hFj hRj hRA
    rw [List.getElem?_map] at hv
    obtain ⟨c, hc, rfl⟩ := Option.map_eq_some_iff.mp hv
    have hcm := List.mem_of_getElem? hc
    obtain ⟨hc0, q, hq⟩ := hts c hcm
    have hjl := (List.getElem?_eq_some_iff.mp hc).1
    have hAj := hFj.at' hA
    have hTj := hFj.at' hT
    have hDj := hD.kept hFj
    have hlv : livesAt ps d c = livesP q d := by unfold livesAt; rw [hq]
    have htl2 := take_flat_len (rowsOf ps d rec k ts.length) hc
    have hvl : vs.length + (rowsOf ps d rec k ts.length c).length < 16000000 := by
      rw [hRA.1, List.length_map]; unfold lineRows at hsz; (first | lia | omega)
    have hge := at_lt hRj
    o_facts bd
    open_line
    refine call_of (w_llives scr (N + 1) l c d Hj ps q hAj hc0 hq) ?_
    rintro v H'' ⟨rfl, rfl⟩
    open_line
    refine wIf_split ?_ ?_
    · intro h
      open_line
      have hro : rowsOf ps d rec k ts.length c = [⟨c, ts.length, [k, c]⟩] := by unfold rowsOf; rw [hlv, h]; rfl
      rw [hro] at hvl
      have hRn := at_app [.list [.int k, .int c]] hRj
      open_line with [meKind_app _ hRj, WBi_lenL _ _ _ hTj, List.length_map, WMeth_app _ _ _ hRn (by simp at hvl; (first | lia | omega))]
      first | refine ⟨stands_ref (at_set_ne (at_app _ hTj) (by (first | lia | omega))) (at_app _ hT), in_6_3 rfl ((hFj.tr (Kept.app _ _)).trans (Kept.set _ (Nat.le_refl _) (by rw [List.length_append]; (first | lia | omega))) (Nat.le_refl _)) (at_set hRn) ?_⟩ | refine ⟨stands_ref (at_set_ne (at_app _ hTj) (by (first | lia | omega))) (at_app _ hT), _, _, _, _, _, _, rfl, (hFj.tr (Kept.app _ _)).trans (Kept.set _ (Nat.le_refl _) (by rw [List.length_append]; (first | lia | omega))) (Nat.le_refl _), at_set hRn, ?_⟩
      rw [take_flat _ hc, hro, List.map_append]
      refine ((hRA.app _).set _ (by (first | lia | omega))).snoc ⟨H''.length, by (first | lia | omega), rfl, ?_⟩
      exact at_set_ne (at_new _ _) (by (first | lia | omega))
    · intro h
      open_line
      have hro : rowsOf ps d rec k ts.length c = (rec c).map (upRow k ts.length) := by unfold rowsOf; rw [hlv, h]; rfl
      rw [hro, List.length_map] at hvl
      open_line
      refine call_of (w_lchildren scr N l c d H'' ps hAj hlen) ?_
      refine el_1_2 ?_
      intro H₂ lc hF2 hC2
      have hD2 := hDj.kept hF2
      open_line with [itemsOf_lst _ _ hC2]
      refine comp_filt (lineB ps d) (by rw [show (iseq 0 ps.length).filter (childB ps d c) = kidsP ps d c from rfl]; exact Nat.lt_of_le_of_lt (kids_len _ _ _) (by (first | lia | omega))) ?_ ?_
      · intro y _ Q hQ
        open_line with [hD2.isIn]
        exact wIf_q _ hQ
      · have hF3 := hF2.tr (Kept.app H₂ [.list ((takersP ps d c).map V.int)])
        have hN3 := at_new H₂ (.list ((takersP ps d c).map V.int))
        rw [show ((iseq 0 ps.length).filter (childB ps d c)).filter (lineB ps d) = takersP ps d c from rfl]
        open_line with [WBi_lenL _ _ _ (hF3.at' hTj), List.length_map]
        refine call_of (IH c hcm _ _ (u * ts.length) (hF3.at' hAj) (hDj.kept hF3) hN3) ?_
        refine el_2_4 ?_
        intro H₄ lb us hlb hF4 hB hUA
        have hFj4 := hF3.tr hF4
        have hR4 := hFj4.at' hRj
        have hRA4 := hRA.kept hFj4
        have hlb2 : H''.length < lb := by have := hF3.2.1; rw [List.length_append] at hlb; have := hF2.2.1; simp at hlb; (first | lia | omega)
        open_line with [itemsOf_lst _ _ hB]
        refine for_inv (fun i ρ H' => ∃ (a b e : Option V) (ws : List V), ρ = [some (.ref l), some (.ref ld), some (.int k), some (.ref lt), some (.int d), some (.int u), some (.ref H.length), some (.int c), some (.ref H₂.length), a, b, e] ∧ Kept H.length H H' ∧ H'[H.length]? = some (.list ws) ∧ H'[lb]? = some (.list us) ∧ RowsAt (H.length + 1) H' ((rec c).map (scale (u * ts.length))) us ∧ RowsAt (H.length + 1) H' (((ts.take j).flatMap (rowsOf ps d rec k ts.length)).map (scale u) ++ ((rec c).take i).map fun r => scale u (upRow k ts.length r)) ws)
          ⟨_, _, _, vs, rfl, hFj.tr hFj4, hR4, hB, hUA.low (by have := hF2.2.1; rw [List.length_append]; (first | lia | omega)), by simp; exact hRA4⟩ ?_ ?_
        · intro i v hv
          refine el_4_5 ?_
          intro Hi ia ib ie ws hFi hRi hBi hUi hWi
          obtain ⟨r', hr', ll, hll, rfl, hLi⟩ := hUi.get hv
          rw [List.getElem?_map] at hr'
          obtain ⟨r, hr, rfl⟩ := Option.map_eq_some_iff.mp hr'
          have hil := (List.getElem?_eq_some_iff.mp hr).1
          obtain ⟨hr1, hr2⟩ := hrec c hcm r (List.mem_of_getElem? hr)
          have hgi := at_lt hRi
          have hwl : ws.length < 16000000 := by
            have h1 := hRA.1
            rw [hWi.1, List.length_append, List.length_map (as := List.take i (rec c)), List.length_take, ← h1]; (first | lia | omega)
          have hL' := at_app [.list [.int k]] hLi
          have hszl : (V.int k :: r.line.map V.int).length < 16000000 := by rw [List.length_cons, List.length_map]; (first | lia | omega)
          have hRn := at_app [.list (V.int k :: r.line.map V.int)] (at_app [.list [.int k]] hRi)
          o_facts bd
          open_line with [meKind_app _ hRi, WBin_cat _ _ (at_new _ _) hL', show (scale (u * ts.length) r).line = r.line from rfl, WAllocL_ok _ _ _ hszl, WMeth_app _ _ _ hRn hwl]
          first | refine ⟨stands_ref (at_set_ne (at_app _ (at_app _ hBi)) (by (first | lia | omega))) hB, in_4_5 rfl (((hFi.tr (Kept.app _ _)).tr (Kept.app _ _)).trans (Kept.set _ (Nat.le_refl _) (by rw [List.length_append, List.length_append]; (first | lia | omega))) (Nat.le_refl _)) (at_set hRn) (at_set_ne (at_app _ (at_app _ hBi)) (by (first | lia | omega))) (((hUi.app _).app _).set _ (by (first | lia | omega))) ?_⟩ | refine ⟨stands_ref (at_set_ne (at_app _ (at_app _ hBi)) (by (first | lia | omega))) hB, _, _, _, _, rfl, ((hFi.tr (Kept.app _ _)).tr (Kept.app _ _)).trans (Kept.set _ (Nat.le_refl _) (by rw [List.length_append, List.length_append]; (first | lia | omega))) (Nat.le_refl _), at_set hRn, at_set_ne (at_app _ (at_app _ hBi)) (by (first | lia | omega)), ((hUi.app _).app _).set _ (by (first | lia | omega)), ?_⟩
          rw [take_map_one _ hr, ← List.append_assoc]
          refine (((hWi.app _).app _).set _ (by (first | lia | omega))).snoc ⟨(Hi ++ [Cell.list [V.int k]]).length, by rw [List.length_append]; (first | lia | omega), ?_, ?_⟩
          · show V.tup [.int r.heir, .tup [.int 1, .int (u * ts.length * r.under)], _] = V.tup [.int r.heir, .tup [.int 1, .int (u * (ts.length * r.under))], _]
            rw [Int.mul_assoc]
          · exact at_set_ne (at_new _ _) (by rw [List.length_append]; (first | lia | omega))
        · refine el_4_5 ?_
          intro Hi ia ib ie ws hFi hRi hBi hUi hWi
          rw [hUA.1, List.length_map, List.take_length] at hWi
          open_line
          first | refine ⟨stands_ref (hFi.at' hT) (at_app _ hT), in_6_3 (a5 := ws) rfl hFi hRi ?_⟩ | refine ⟨stands_ref (hFi.at' hT) (at_app _ hT), _, _, _, _, _, ws, rfl, hFi, hRi, ?_⟩
          rw [take_flat _ hc, hro, List.map_append, List.map_map]; exact hWi
  · refine el_6_3 ?_
    intro H' oa ob oc oe of vs hF' hR' hRA
    rw [List.length_map, List.take_length] at hRA
    open_line
    first | exact in_2_4 (a1 := vs) rfl (Nat.le_refl _) hF' hR' (hRA.low (by (first | lia | omega))) | exact ⟨_, vs, rfl, Nat.le_refl _, hF', hR', hRA.low (by (first | lia | omega))⟩

theorem takers_younger {ps : List Per} (hW : WfP ps) {d k : Int} {p : Per} (hp : ps[k.toNat]? = some p) {r : Nat} (hr : younger ps p.born < r + 1) : ∀ c ∈ takersP ps d k, 0 ≤ c ∧ ∃ q, ps[c.toNat]? = some q ∧ younger ps q.born < r := by
  intro c hc
  have hk := (List.mem_filter.mp hc).1
  obtain ⟨h0, q, hq, _⟩ := child_mem.mp hk
  obtain ⟨q', hq', hlt⟩ := kid_younger hW hp (List.mem_filter.mp hk).2
  rw [hq] at hq'; cases hq'
  have := younger_lt hlt (List.mem_of_getElem? hq)
  exact ⟨h0, q, hq, by (first | lia | omega)⟩
theorem takers_len (ps : List Per) (d k : Int) : (takersP ps d k).length ≤ ps.length := Nat.le_trans (List.length_filter_le _ _) (kids_len _ _ _)

/-- _law_shared, by how many are younger -/
theorem w_lshared (l ld : Nat) (d : Int) (ps : List Per) (hW : WfP ps) (hlen : ps.length ≤ 24) : ∀ (r n : Nat) (k : Int) (ts : List Int) (H : Hp) (lt : Nat) (u : Int), ts.length ≤ 60 → (∀ c ∈ ts, 0 ≤ c ∧ ∃ q, ps[c.toNat]? = some q ∧ younger ps q.born < r) → r ≤ 100 → (lineRows ps d (rowsP ps d r) k ts).length < 16000000 →
    H[l]? = some (.list (ps.map perV)) → Lined ps d H ld → H[lt]? = some (.list (ts.map .int)) →
    callW scr pgks pfns (n + r + 3) i_law_shared [.ref l, .ref ld, .int k, .ref lt, .int d, .int u] H (RowsPost H ((lineRows ps d (rowsP ps d r) k ts).map (scale u))) := by
  intro r
  induction r with
  | zero =>
    intro n k ts H lt u htl hts hr hsz hA hD hT
    refine w_lshared1 scr l ld d ps hW (by (first | lia | omega)) (rowsP ps d 0) (n + 0) k ts htl (fun c hc => ?_) (fun c hc x hx => nomatch hx) hsz (fun c hc => ?_) H lt u hA hD hT
    · obtain ⟨h0, q, hq, _⟩ := hts c hc; exact ⟨h0, q, hq⟩
    · obtain ⟨h0, q, hq, hlt⟩ := hts c hc; (first | lia | omega)
  | succ r ih =>
    intro n k ts H lt u htl hts hr hsz hA hD hT
    refine w_lshared1 scr l ld d ps hW (by (first | lia | omega)) (rowsP ps d (r + 1)) (n + (r + 1)) k ts htl (fun c hc => ?_) (fun c hc x hx => ?_) hsz (fun c hc H lb u hA hD hB => ?_) H lt u hA hD hT
    · obtain ⟨h0, q, hq, _⟩ := hts c hc; exact ⟨h0, q, hq⟩
    · have := rowsP_ok ps d (r + 1) c x hx
      exact ⟨this.1, by (first | lia | omega)⟩
    · obtain ⟨h0, q, hq, hlt⟩ := hts c hc
      refine ih n c (takersP ps d c) H lb u (Nat.le_trans (takers_len _ _ _) (by (first | lia | omega))) (takers_younger hW hq hlt) (by (first | lia | omega)) ?_ hA hD hB
      have := rowsP_len hW d (r + 1) c q hq
      have h2 := younger_self (List.mem_of_getElem? hq)
      exact Nat.lt_of_le_of_lt this (pow_small (by (first | lia | omega)))

end Mine.P

end
section
set_option autoImplicit false
set_option linter.unusedVariables false
set_option linter.unusedSimpArgs false
namespace Mine
open PySem
noncomputable def othersP (ps : List Per) (d k p : Int) : List Int := (kidsP ps d p).filter fun c => !(c == k)
noncomputable def otherT (ps : List Per) (d k p : Int) : List Int := (othersP ps d k p).filter (lineB ps d)
noncomputable def parB (ps : List Per) (d k p : Int) : Bool := livesAt ps d p || (othersP ps d k p).any (lineB ps d)
noncomputable def parT (ps : List Per) (d k : Int) (q : Per) : List Int := (parOn q d).filter (parB ps d k)
noncomputable def parRec (ps : List Per) (d k p : Int) : List Row := lineRows ps d (rowsP ps d 24) p (otherT ps d k p)
noncomputable def parRows (ps : List Per) (d k : Int) (q : Per) : List Row := lineRows ps d (parRec ps d k) k (parT ps d k q)
theorem any_filter {α : Type} (p : α → Bool) : ∀ l : List α, l.any p = !(l.filter p).isEmpty
  | [] => rfl
  | a :: r => by
    rw [List.any_cons, any_filter p r]
    cases h : p a with
    | true => rw [List.filter_cons_of_pos h]; rfl
    | false => rw [List.filter_cons_of_neg (by rw [h]; simp)]; rfl
theorem otherT_eq (ps : List Per) (d k p : Int) : otherT ps d k p = (kidsP ps d p).filter fun c => lineB ps d c && !(c == k) := by
  unfold otherT othersP; rw [List.filter_filter]
theorem otherT_eq2 (ps : List Per) (d k p : Int) : otherT ps d k p = (iseq 0 ps.length).filter fun c => (lineB ps d c && !(c == k)) && childB ps d p c := by
  rw [otherT_eq]; unfold kidsP; rw [List.filter_filter]
theorem parRec_len {ps : List Per} (hW : WfP ps) {d k p : Int} {q : Per} (hq : ps[p.toNat]? = some q) : (parRec ps d k p).length < 2 ^ younger ps q.born := by
  unfold parRec
  rw [otherT_eq2]
  exact lineRows_len hW hq (fun c _ h => (Bool.and_eq_true_iff.mp h).2) fun c q' hq' => rowsP_len hW d 24 c q' hq'
theorem parRec_ok (ps : List Per) (d k p : Int) : ∀ r ∈ parRec ps d k p, 1 ≤ r.under ∧ r.line.length ≤ 50 := lineRows_ok fun c _ => rowsP_ok ps d 24 c
theorem parRows_ok (ps : List Per) (d k : Int) (q : Per) : ∀ r ∈ parRows ps d k q, 1 ≤ r.under ∧ r.line.length ≤ 52 := lineRows_ok fun c _ => parRec_ok ps d k c
theorem count_two {q : Per → Bool} {ps : List Per} {i j : Nat} {a b : Per} (hij : i < j) (ha : ps[i]? = some a) (hb : ps[j]? = some b) (qa : q a = true) (qb : q b = true) : 2 ≤ ps.countP q := by
  have e : ps = ps.take j ++ ps.drop j := (List.take_append_drop j ps).symm
  rw [e, List.countP_append]
  have h1 : 0 < (ps.take j).countP q := List.countP_pos_iff.mpr ⟨a, List.mem_iff_getElem?.mpr ⟨i, by rw [List.getElem?_take, if_pos hij]; exact ha⟩, qa⟩
  have h2 : 0 < (ps.drop j).countP q := List.countP_pos_iff.mpr ⟨b, List.mem_iff_getElem?.mpr ⟨0, by rw [List.getElem?_drop]; exact hb⟩, qb⟩
  (first | lia | omega)
theorem younger_two {ps : List Per} {i j : Nat} {a b : Per} (hij : i ≠ j) (ha : ps[i]? = some a) (hb : ps[j]? = some b) (h : a.born ≤ b.born) : younger ps b.born + 2 ≤ ps.length := by
  have h2 : 2 ≤ ps.countP fun q => ¬ decide (b.born < q.born) = true := by
    have qa : (decide (¬ decide (b.born < a.born) = true)) = true := by simp; (first | lia | omega)
    have qb : (decide (¬ decide (b.born < b.born) = true)) = true := by simp
    rcases Nat.lt_or_gt_of_ne hij with hl | hl
    · exact count_two hl ha hb qa qb
    · exact count_two hl hb ha qb qa
  have := List.length_eq_countP_add_countP (fun q : Per => decide (b.born < q.born)) (l := ps)
  unfold younger
  (first | lia | omega)
theorem parOn_nodup {ps : List Per} (hW : WfP ps) {k : Nat} {q : Per} (hq : ps[k]? = some q) (d : Int) : (parOn q d).Nodup := by
  obtain ⟨_, _, w3, _, _, _, w7⟩ := hW k q hq
  unfold parOn
  cases ha : q.ad with
  | none => exact w3
  | some a =>
    obtain ⟨x, ls⟩ := a
    obtain ⟨_, _, _, w, _, _, _⟩ := w7 x ls ha
    dsimp only
    split
    · exact w
    · exact w3
theorem pow_le23 {y : Nat} (h : y ≤ 23) : 2 ^ y ≤ 8388608 := Nat.le_trans (Nat.pow_le_pow_right (by (first | lia | omega)) h) (by decide)
theorem pow_le22 {y : Nat} (h : y ≤ 22) : 2 ^ y ≤ 4194304 := Nat.le_trans (Nat.pow_le_pow_right (by (first | lia | omega)) h) (by decide)
theorem par_valid {ps : List Per} (hW : WfP ps) {k : Nat} {q : Per} (hq : ps[k]? = some q) {d p : Int} (h : p ∈ parOn q d) : 0 ≤ p ∧ ∃ q', ps[p.toNat]? = some q' := by
  obtain ⟨h0, q', hq', _⟩ := parOn_older hW hq d h
  exact ⟨h0, q', hq'⟩
theorem parRows_len {ps : List Per} (hW : WfP ps) (hlen : ps.length ≤ 24) {k : Nat} {q : Per} (hq : ps[k]? = some q) (d i : Int) : (parRows ps d i q).length < 16000000 := by
  unfold parRows lineRows
  rw [List.length_flatMap]
  refine Nat.lt_of_le_of_lt (sum_filter_le (P' := fun _ => true) (f := fun p => 2 ^ younger ps (perAt ps p).born) _ fun c hc _ => ⟨rfl, ?_⟩) ?_
  · obtain ⟨h0, q', hq'⟩ := par_valid hW hq hc
    rw [perAt_eq hq']
    unfold rowsOf
    split
    · exact Nat.one_le_two_pow
    · rw [List.length_map]; exact Nat.le_of_lt (parRec_len hW hq')
  · rw [List.filter_eq_self.mpr (fun _ _ => rfl)]
    have hl := parOn_len hW hq d
    have hn := parOn_nodup hW hq d
    have hv := fun p => par_valid (p := p) (d := d) hW hq
    generalize parOn q d = pl at hl hn hv
    have one : ∀ p ∈ pl, 2 ^ younger ps (perAt ps p).born ≤ 8388608 := fun p hp => by
      obtain ⟨h0, q', hq'⟩ := hv p hp
      rw [perAt_eq hq']
      have := younger_self (List.mem_of_getElem? hq')
      exact pow_le23 (by (first | lia | omega))
    match pl, hl with
    | [], _ => simp
    | [a], _ =>
      have := one a (.head _)
      simp; (first | lia | omega)
    | [a, b], _ =>
      have h1 := one a (.head _)
      have h2 := one b (.tail _ (.head _))
      obtain ⟨a0, qa, hqa⟩ := hv a (.head _)
      obtain ⟨b0, qb, hqb⟩ := hv b (.tail _ (.head _))
      have hab : a ≠ b := by
        intro e; subst e
        simp at hn
      have hne : a.toNat ≠ b.toNat := by (first | lia | omega)
      rw [perAt_eq hqa] at h1
      rw [perAt_eq hqb] at h2
      simp only [List.map_cons, List.map_nil, List.sum_cons, List.sum_nil, perAt_eq hqa, perAt_eq hqb]
      rcases Int.le_total qa.born qb.born with h | h
      · have := younger_two hne hqa hqb h
        have := pow_le22 (y := younger ps qb.born) (by (first | lia | omega))
        (first | lia | omega)
      · have := younger_two hne.symm hqb hqa h
        have := pow_le22 (y := younger ps qa.born) (by (first | lia | omega))
        (first | lia | omega)
    | a :: b :: c :: r, h => simp at h
end Mine

end
section
set_option autoImplicit false
set_option linter.unusedVariables false
set_option linter.unusedSimpArgs false
set_option maxRecDepth 100000
namespace Mine
open PySem
theorem allBools_of : ∀ bs : List Bool, allBools (bs.map .bool) = some bs
  | [] => rfl
  | b :: r => by rw [List.map_cons, allBools, allBools_of r]; rfl
theorem WBi_any {scr : List Int} {H : Hp} {Q : V → Hp → Prop} {u : DF Q} {l : Nat} {bs : List Bool} (h : H[l]? = some (.list (bs.map .bool))) : gBi scr .any [.ref l] H Q u = Q (.bool (bs.any id)) H := by
  show Wp (onL H (.ref l) fun l => onO (allBools l) fun bs => R.ok (V.bool (bs.any id)) H) Q = _
  rw [onL_at h, allBools_of]; rfl
end Mine
namespace Mine.P
open PySem
variable (scr : List Int)

theorem w_others_of (n l : Nat) (p k d : Int) (H : Hp) (ps : List Per) (hA : H[l]? = some (.list (ps.map perV))) (hlen : ps.length ≤ 60) : callW scr pgks pfns (n + 3) i_others_of [.ref l, .int p, .int k, .int d] H fun v H' =>
    ∃ lc, v = .ref lc ∧ Kept H.length H H' ∧ H'[lc]? = some (.list ((othersP ps d k p).map .int)) := by
  refine c_others_of ?_
  unfold pb_others_of
  open_line
  refine call_of (w_children scr n l p d H ps hA hlen) ?_
  refine el_1_2 ?_
  intro H₂ lc hF2 hC2
  open_line with [itemsOf_lst _ _ hC2]
  refine comp_filt (fun c => !(c == k)) (by rw [show (iseq 0 ps.length).filter (childB ps d p) = kidsP ps d p from rfl]; exact Nat.lt_of_le_of_lt (kids_len _ _ _) (by (first | lia | omega))) ?_ ?_
  · intro y _ Q hQ
    open_line
    exact wIf_q _ hQ
  · open_line
    first | exact in_1_2 rfl (hF2.tr (Kept.app _ _)) (at_new _ _) | exact ⟨_, rfl, hF2.tr (Kept.app _ _), at_new _ _⟩

theorem others_ok {ps : List Per} {d k p c : Int} (h : c ∈ othersP ps d k p) : 0 ≤ c ∧ ∃ q, ps[c.toNat]? = some q := kids_ok (List.mem_filter.mp h).1
theorem others_len (ps : List Per) (d k p : Int) : (othersP ps d k p).length ≤ ps.length := Nat.le_trans (List.length_filter_le _ _) (kids_len _ _ _)

theorem w_by_parents (l : Nat) (d : Int) (ps : List Per) (hW : WfP ps) (hlen : ps.length ≤ 24) (n : Nat) (k : Int) (q : Per) (H : Hp) (hA : H[l]? = some (.list (ps.map perV))) (hk0 : 0 ≤ k) (hq : ps[k.toNat]? = some q) :
    callW scr pgks pfns (n + 120) i_by_parents [.ref l, .int k, .int d] H (RowsPost H (parRows ps d k q)) := by
  refine c_by_parents ?_
  unfold pb_by_parents
  have hpv := fun p => par_valid (p := p) (d := d) hW hq
  have hpl := parOn_len hW hq d
  -- the takers
  refine cut 3 (fun ρ' H' => ∃ (a b : Option V) (lr : Nat), ρ' = [some (.ref l), some (.int k), some (.int d), some (.ref H.length), a, b, some (.ref lr), none, none, none, none] ∧ H.length < lr ∧ Kept H.length H H' ∧ H'[H.length]? = some (.list ((parT ps d k q).map .int)) ∧ H'[lr]? = some (.list []) ∧ lr + 1 = H'.length) ?_ ?_
  · refine cut 2 (fun ρ' H' => ∃ a b : Option V, ρ' = [some (.ref l), some (.int k), some (.int d), some (.ref H.length), a, b, none, none, none, none, none] ∧ Kept H.length H H' ∧ H'[H.length]? = some (.list ((parT ps d k q).map .int))) ?_ ?_
    · open_line
      refine call_of (w_parents_on scr (n + 118) l k d _ ps q (at_app _ hA) hk0 hq) ?_
      rintro v H' ⟨rfl, rfl⟩
      open_line
      refine for_inv (fun j ρ H' => ∃ a b : Option V, ρ = [some (.ref l), some (.int k), some (.int d), some (.ref H.length), a, b, none, none, none, none, none] ∧ Kept H.length H H' ∧ H'[H.length]? = some (.list ((((parOn q d).take j).filter (parB ps d k)).map .int))) ⟨_, _, rfl, Kept.app _ _, at_new _ _⟩ ?_ ?_
      · intro j v hv
        refine el_2_2 ?_
        intro Hj oa ob hFj hTj
        rw [List.getElem?_map] at hv
        obtain ⟨p, hp, rfl⟩ := Option.map_eq_some_iff.mp hv
        obtain ⟨hp0, q', hq'⟩ := hpv p (List.mem_of_getElem? hp)
        have htf := take_filter (parB ps d k) hp
        have hlv : livesAt ps d p = livesP q' d := by unfold livesAt; rw [hq']
        have hAj := hFj.at' hA
        have hsz : ((((parOn q d).take j).filter (parB ps d k)).map V.int).length < 16000000 := by
          rw [List.length_map]
          refine Nat.lt_of_le_of_lt (List.length_filter_le _ _) ?_
          rw [List.length_take]; (first | lia | omega)
        o_facts bd
        refine cut 1 (fun ρ' H' => ∃ lo : Nat, ρ' = [some (.ref l), some (.int k), some (.int d), some (.ref H.length), some (.int p), some (.ref lo), none, none, none, none, none] ∧ Kept Hj.length Hj H' ∧ H'[lo]? = some (.list ((othersP ps d k p).map .int))) ?_ ?_
        · open_line
          refine call_of (w_others_of scr (n + 116) l p k d Hj ps hAj (by (first | lia | omega))) ?_
          refine el_1_2 ?_
          intro H₂ lo hF2 hO
          open_line
          first | exact in_1_2 (a0 := lo) rfl hF2 hO | exact ⟨lo, rfl, hF2, hO⟩
        refine el_1_2 ?_
        intro H₂ lo hF2 hO
        o_facts bd
        refine if_cut (fun b H' => b = parB ps d k p ∧ Kept H₂.length H₂ H') ?_ ?_ ?_
        · open_line
          refine call_of (w_lives scr (n + 118) l p d H₂ ps q' (hF2.at' hAj) hp0 hq') ?_
          rintro v H' ⟨rfl, rfl⟩
          open_line
          refine wIf_split ?_ ?_
          · intro h
            open_line
            exact ⟨by unfold parB; rw [hlv, h]; rfl, Kept.refl (Nat.le_refl _)⟩
          · intro h
            open_line
            have hpb : parB ps d k p = ((othersP ps d k p).map (lineB ps d)).any id := by unfold parB; rw [hlv, h, Bool.false_or, List.any_map]; rfl
            open_line with [itemsOf_lst _ _ hO]
            refine comp_inv (pre := [none]) (fun v => [some v]) (fun i acc H₃ => Kept H'.length H' H₃ ∧ acc = (((othersP ps d k p).take i).map (lineB ps d)).map .bool) (fun v _ => env_one rfl) (by rw [List.length_map]; exact Nat.lt_of_le_of_lt (others_len _ _ _ _) (by (first | lia | omega))) ⟨Kept.refl (Nat.le_refl _), rfl⟩ ?_ ?_
            · rintro i v acc H₃ hv ⟨hF3, rfl⟩
              rw [List.getElem?_map] at hv
              obtain ⟨c, hc, rfl⟩ := Option.map_eq_some_iff.mp hv
              obtain ⟨hc0, qc, hqc⟩ := others_ok (List.mem_of_getElem? hc)
              open_line
              refine call_of (w_line scr l d ps hW (by (first | lia | omega)) 60 (n + 56) c qc H₃ (hF3.at' (hF2.at' hAj)) hc0 hqc (Nat.le_trans (younger_le _ _) (by (first | lia | omega)))) ?_
              refine el_1_2 ?_
              intro H₄ b hF4 hb
              have hbl : lineB ps d c = b := by
                cases b with
                | true => exact lineB_iff.mpr (hb.mp rfl)
                | false =>
                  cases h : lineB ps d c with
                  | false => rfl
                  | true => exact (hb.mpr (lineB_iff.mp h)).symm
              open_line
              refine ⟨stands_ref ((hF3.tr hF4).at' hO) hO, hF3.tr hF4, ?_⟩
              rw [take_map_one _ hc, List.map_append, hbl]; rfl
            · rintro acc H₃ _ ⟨hF3, rfl⟩
              rw [List.length_map, List.take_length]
              open_line with [WBi_any (at_new _ _)]
              exact ⟨hpb.symm, hF3.tr (Kept.app _ _)⟩
        · rintro H₃ ⟨hb, hF3⟩
          rw [← hb, if_pos rfl] at htf
          have hF13 := hF2.tr hF3
          have hT3 := hF13.at' hTj
          open_line with [meKind_app _ hT3, WMeth_app _ _ _ hT3 hsz]
          first | refine ⟨rfl, in_2_2 rfl ((hFj.tr hF13).trans (Kept.set _ (Nat.le_refl _) (by have := at_lt hT3; (first | lia | omega))) (Nat.le_refl _)) ?_⟩ | refine ⟨rfl, _, _, rfl, (hFj.tr hF13).trans (Kept.set _ (Nat.le_refl _) (by have := at_lt hT3; (first | lia | omega))) (Nat.le_refl _), ?_⟩
          rw [at_set hT3, htf, List.map_append]; rfl
        · rintro H₃ ⟨hb, hF3⟩
          rw [← hb] at htf
          have hF13 := hF2.tr hF3
          open_line
          first | exact ⟨rfl, in_2_2 rfl (hFj.tr hF13) (by rw [hF13.at' hTj, htf]; rfl)⟩ | exact ⟨rfl, _, _, rfl, hFj.tr hF13, by rw [hF13.at' hTj, htf]; rfl⟩
      · refine el_2_2 ?_
        intro H' oa ob hF' hT'
        rw [List.length_map, List.take_length] at hT'
        open_line
        first | exact in_2_2 rfl hF' hT' | exact ⟨_, _, rfl, hF', hT'⟩
    · refine el_2_2 ?_
      intro H' oa ob hF' hT'
      open_line
      first | exact in_3_5 rfl (at_lt hT') (hF'.tr (Kept.app _ _)) (at_app _ hT') (at_new _ _) (by rw [List.length_append]; rfl) | exact ⟨_, _, _, rfl, at_lt hT', hF'.tr (Kept.app _ _), at_app _ hT', at_new _ _, by rw [List.length_append]; rfl⟩
  -- the rows
  refine el_3_5 ?_
  intro H₁ oa ob lr hlr hF1 hT hR hlr1
  simp only [List.drop_succ_cons, List.drop_zero]
  have hsz := parRows_len hW hlen hq d k
  generalize hts : parT ps d k q = ts at hT
  unfold parRows at hsz ⊢
  rw [hts] at hsz ⊢
  have htl : ts.length ≤ 2 := by rw [← hts]; exact Nat.le_trans (List.length_filter_le _ _) hpl
  have htm : ∀ c ∈ ts, c ∈ parOn q d := fun c hc => (List.mem_filter.mp (hts ▸ hc)).1
  open_line with [itemsOf_lst _ _ hT]
  refine for_inv (fun j ρ H' => ∃ (a o b c e f : Option V) (vs : List V), ρ = [some (.ref l), some (.int k), some (.int d), some (.ref H.length), a, o, some (.ref lr), b, c, e, f] ∧ Kept lr H₁ H' ∧ H'[lr]? = some (.list vs) ∧ RowsAt (lr + 1) H' ((ts.take j).flatMap (rowsOf ps d (parRec ps d k) k ts.length)) vs) ⟨_, _, _, _, _, _, [], rfl, Kept.refl (by (first | lia | omega)), hR, RowsAt.nil _ _⟩ ?_ ?_
  · intro j v hv
    refine el_7_3 ?_
    intro Hj oa oo ob oc oe of vs hFj hRj hRA
    rw [List.getElem?_map] at hv
    obtain ⟨c, hc, rfl⟩ := Option.map_eq_some_iff.mp hv
    have hcm := htm c (List.mem_of_getElem? hc)
    obtain ⟨hc0, q', hq'⟩ := hpv c hcm
    have hjl := (List.getElem?_eq_some_iff.mp hc).1
    have hAj := hFj.at (hF1.at' hA) (by have := at_lt hA; (first | lia | omega))
    have hTj := hFj.at hT (by (first | lia | omega))
    have hlv : livesAt ps d c = livesP q' d := by unfold livesAt; rw [hq']
    have htl2 := take_flat_len (rowsOf ps d (parRec ps d k) k ts.length) hc
    have hvl : vs.length + (rowsOf ps d (parRec ps d k) k ts.length c).length < 16000000 := by
      rw [hRA.1]; unfold lineRows at hsz; (first | lia | omega)
    have hge := hFj.2.1
    o_facts bd
    open_line with [WBi_lenL _ _ _ hTj, List.length_map, show pgks[0]? = some (.tup [.int 1, .int 1]) from rfl]
    refine call_of (w_shared scr (n + 117) (ts.length : Int) Hj (by (first | lia | omega)) (by (first | lia | omega))) ?_
    rintro v H' ⟨rfl, rfl⟩
    open_line
    refine call_of (w_lives scr (n + 118) l c d H' ps q' hAj hc0 hq') ?_
    rintro v H'' ⟨rfl, rfl⟩
    open_line
    refine wIf_split ?_ ?_
    · intro h
      open_line
      have hro : rowsOf ps d (parRec ps d k) k ts.length c = [⟨c, ts.length, [k, c]⟩] := by unfold rowsOf; rw [hlv, h]; rfl
      rw [hro] at hvl
      have hRn := at_app [.list [.int k, .int c]] hRj
      open_line with [meKind_app _ hRj, WMeth_app _ _ _ hRn (by simp at hvl; (first | lia | omega))]
      first | refine ⟨stands_ref (at_set_ne (at_app _ hTj) (by (first | lia | omega))) hT, in_7_3 rfl ((hFj.trans (Kept.app _ _) (by (first | lia | omega))).trans (Kept.set _ (Nat.le_refl _) (by rw [List.length_append]; (first | lia | omega))) (Nat.le_refl _)) (at_set hRn) ?_⟩ | refine ⟨stands_ref (at_set_ne (at_app _ hTj) (by (first | lia | omega))) hT, _, _, _, _, _, _, _, rfl, (hFj.trans (Kept.app _ _) (by (first | lia | omega))).trans (Kept.set _ (Nat.le_refl _) (by rw [List.length_append]; (first | lia | omega))) (Nat.le_refl _), at_set hRn, ?_⟩
      rw [take_flat _ hc, hro]
      refine ((hRA.app _).set _ (by (first | lia | omega))).snoc ⟨H''.length, by (first | lia | omega), rfl, ?_⟩
      exact at_set_ne (at_new _ _) (by have := at_lt hRj; (first | lia | omega))
    · intro h
      open_line
      have hro : rowsOf ps d (parRec ps d k) k ts.length c = (parRec ps d k c).map (upRow k ts.length) := by unfold rowsOf; rw [hlv, h]; rfl
      rw [hro, List.length_map] at hvl
      open_line
      refine call_of (w_others_of scr (n + 116) l c k d H'' ps hAj (by (first | lia | omega))) ?_
      refine el_1_2 ?_
      intro H₃ lo hF3 hO
      open_line
      refine call_of (w_lines_to scr l d ps hW (by (first | lia | omega)) (rowsP ps d 24) (n + 48) c (othersP ps d k c) (Nat.le_trans (others_len _ _ _ _) (by (first | lia | omega))) (fun c hc => others_ok hc) ?_ ?_ ?_ H₃ lo (hF3.at' hAj) hO) ?_
      · intro c _ x hx
        have := rowsP_ok ps d 24 c x hx
        exact ⟨this.1, by (first | lia | omega)⟩
      · have := parRec_len (d := d) (k := k) hW hq'
        have h2 := younger_self (List.mem_of_getElem? hq')
        exact Nat.lt_of_lt_of_le this (Nat.le_of_lt (pow_small (by (first | lia | omega))))
      · intro y hy H' hA'
        obtain ⟨h0, qy, hqy⟩ := others_ok hy
        have h2 := younger_self (List.mem_of_getElem? hqy)
        exact w_by_lines scr l d ps hW hlen 24 n y qy H' hA' h0 hqy (by (first | lia | omega)) (Nat.le_refl _)
      refine el_2_4 ?_
      intro H₄ lb us hlb hF4' hB hUA
      have hF4 := hF3.tr hF4'
      have hge3 := hF3.2.1
      have hR4 := hF4.at' hRj
      have hRA4 := hRA.kept hF4
      have hlrj := at_lt hRj
      replace hUA : RowsAt (lr + 1) H₄ (parRec ps d k c) us := hUA.low (by (first | lia | omega))
      open_line with [itemsOf_lst _ _ hB]
      refine for_inv (fun i ρ H' => ∃ (a b e : Option V) (ws : List V), ρ = [some (.ref l), some (.int k), some (.int d), some (.ref H.length), some (.int c), oo, some (.ref lr), some (.tup [.int 1, .int ts.length]), a, b, e] ∧ Kept lr H₁ H' ∧ H'[lr]? = some (.list ws) ∧ H'[lb]? = some (.list us) ∧ RowsAt (lr + 1) H' (parRec ps d k c) us ∧ RowsAt (lr + 1) H' ((ts.take j).flatMap (rowsOf ps d (parRec ps d k) k ts.length) ++ ((parRec ps d k c).take i).map (upRow k ts.length)) ws)
        ⟨_, _, _, vs, rfl, hFj.trans hF4 (by (first | lia | omega)), hR4, hB, hUA, by simp; exact hRA4⟩ ?_ ?_
      · intro i v hv
        refine el_4_5 ?_
        intro Hi ia ib ie ws hFi hRi hBi hUi hWi
        obtain ⟨r, hr, ll, hll, rfl, hLi⟩ := hUi.get hv
        have hil := (List.getElem?_eq_some_iff.mp hr).1
        obtain ⟨hr1, hr2⟩ := parRec_ok ps d k c r (List.mem_of_getElem? hr)
        have hgi := at_lt hRi
        have hwl : ws.length < 16000000 := by
          rw [hWi.1, List.length_append, List.length_map, List.length_take, ← hRA.1]; (first | lia | omega)
        o_facts bd
        open_line with [meKind_app _ hRi]
        refine call_of (w_times scr (n + 117) (ts.length : Int) r.under Hi (by (first | lia | omega)) (by (first | lia | omega)) hr1) ?_
        rintro v H' ⟨rfl, rfl⟩
        have hL' := at_app [.list [.int k]] hLi
        have hszl : (V.int k :: r.line.map V.int).length < 16000000 := by rw [List.length_cons, List.length_map]; (first | lia | omega)
        have hRn := at_app [.list (V.int k :: r.line.map V.int)] (at_app [.list [.int k]] hRi)
        open_line with [WBin_cat _ _ (at_new _ _) hL', WAllocL_ok _ _ _ hszl, WMeth_app _ _ _ hRn hwl]
        first | refine ⟨stands_ref (at_set_ne (at_app _ (at_app _ hBi)) (by (first | lia | omega))) hB, in_4_5 rfl (((hFi.trans (Kept.app _ _) (by (first | lia | omega))).trans (Kept.app _ _) (by rw [List.length_append]; (first | lia | omega))).trans (Kept.set _ (Nat.le_refl _) (by rw [List.length_append, List.length_append]; (first | lia | omega))) (Nat.le_refl _)) (at_set hRn) (at_set_ne (at_app _ (at_app _ hBi)) (by (first | lia | omega))) (((hUi.app _).app _).set _ (by (first | lia | omega))) ?_⟩ | refine ⟨stands_ref (at_set_ne (at_app _ (at_app _ hBi)) (by (first | lia | omega))) hB, _, _, _, _, rfl, ((hFi.trans (Kept.app _ _) (by (first | lia | omega))).trans (Kept.app _ _) (by rw [List.length_append]; (first | lia | omega))).trans (Kept.set _ (Nat.le_refl _) (by rw [List.length_append, List.length_append]; (first | lia | omega))) (Nat.le_refl _), at_set hRn, at_set_ne (at_app _ (at_app _ hBi)) (by (first | lia | omega)), ((hUi.app _).app _).set _ (by (first | lia | omega)), ?_⟩
        rw [take_map_one _ hr, ← List.append_assoc]
        refine (((hWi.app _).app _).set _ (by (first | lia | omega))).snoc ⟨(H' ++ [Cell.list [V.int k]]).length, by rw [List.length_append]; (first | lia | omega), rfl, ?_⟩
        exact at_set_ne (at_new _ _) (by rw [List.length_append]; (first | lia | omega))
      · refine el_4_5 ?_
        intro Hi ia ib ie ws hFi hRi hBi hUi hWi
        rw [hUA.1, List.take_length] at hWi
        open_line
        first | refine ⟨stands_ref (hFi.at hT (by (first | lia | omega))) hT, in_7_3 (a6 := ws) rfl hFi hRi ?_⟩ | refine ⟨stands_ref (hFi.at hT (by (first | lia | omega))) hT, _, _, _, _, _, _, ws, rfl, hFi, hRi, ?_⟩
        rw [take_flat _ hc, hro]; exact hWi
  · refine el_7_3 ?_
    intro H' oa oo ob oc oe of vs hF' hR' hRA
    rw [List.length_map, List.take_length] at hRA
    open_line
    first | exact in_2_4 (a1 := vs) rfl (by (first | lia | omega)) (hF1.trans hF' (by (first | lia | omega))) hR' (hRA.low (by (first | lia | omega))) | exact ⟨_, vs, rfl, by (first | lia | omega), hF1.trans hF' (by (first | lia | omega)), hR', hRA.low (by (first | lia | omega))⟩
end Mine.P

end
section
set_option autoImplicit false
set_option linter.unusedVariables false
set_option linter.unusedSimpArgs false
set_option maxRecDepth 100000
namespace Mine
open PySem
/-- the takers with their lists of others -/
noncomputable def TakAt (g : Int → List Int) (b : Nat) (H : Hp) (ts : List Int) (us : List V) : Prop := us.length = ts.length ∧ ∀ (k : Nat) p v, ts[k]? = some p → us[k]? = some v → ∃ lo, b ≤ lo ∧ v = .tup [.int p, .ref lo] ∧ H[lo]? = some (.list ((g p).map .int))
theorem TakAt.nil (g : Int → List Int) (b : Nat) (H : Hp) : TakAt g b H [] [] := ⟨rfl, fun k r v h => nomatch h⟩
theorem TakAt.imp {g : Int → List Int} {b : Nat} {H H' : Hp} {ts : List Int} {us : List V} (h : TakAt g b H ts us) (f : ∀ (ll : Nat) c, b ≤ ll → H[ll]? = some c → H'[ll]? = some c) : TakAt g b H' ts us :=
  ⟨h.1, fun k r v hr hv => by
    obtain ⟨ll, h1, h2, h3⟩ := h.2 k r v hr hv
    exact ⟨ll, h1, h2, f ll _ h1 h3⟩⟩
theorem TakAt.app {g : Int → List Int} {b : Nat} {H : Hp} {ts : List Int} {us : List V} (t : List Cell) (h : TakAt g b H ts us) : TakAt g b (H ++ t) ts us := h.imp fun ll c hb hc => at_app t hc
theorem TakAt.set {g : Int → List Int} {b l : Nat} {H : Hp} {ts : List Int} {us : List V} (c : Cell) (h : TakAt g b H ts us) (hl : l < b) : TakAt g b (H.set l c) ts us := h.imp fun ll c hb hc => at_set_ne hc (by (first | lia | omega))
theorem TakAt.kept {g : Int → List Int} {b : Nat} {H H' : Hp} {ts : List Int} {us : List V} (h : TakAt g b H ts us) (hF : Kept H.length H H') : TakAt g b H' ts us := h.imp fun ll c hb hc => hF.at' hc
theorem TakAt.snoc {g : Int → List Int} {b : Nat} {H : Hp} {ts : List Int} {us : List V} {p : Int} {lo : Nat} (h : TakAt g b H ts us) (hb : b ≤ lo) (hlo : H[lo]? = some (.list ((g p).map .int))) : TakAt g b H (ts ++ [p]) (us ++ [.tup [.int p, .ref lo]]) := by
  refine ⟨by simp [h.1], fun k r' v' hr' hv' => ?_⟩
  rcases Nat.lt_or_ge k ts.length with hk | hk
  · rw [List.getElem?_append_left hk] at hr'
    rw [List.getElem?_append_left (by rw [h.1]; exact hk)] at hv'
    exact h.2 k r' v' hr' hv'
  · rw [List.getElem?_append_right hk] at hr'
    rw [List.getElem?_append_right (by rw [h.1]; exact hk), h.1] at hv'
    cases hi : k - ts.length with
    | zero =>
      rw [hi] at hr' hv'
      cases hr'; cases hv'
      first | exact in_2_1 (a0 := lo) (a1 := hb) rfl hlo | exact ⟨lo, hb, rfl, hlo⟩
    | succ i => rw [hi] at hr'; cases hr'
theorem TakAt.get {g : Int → List Int} {b : Nat} {H : Hp} {ts : List Int} {us : List V} (h : TakAt g b H ts us) {k : Nat} {v : V} (hv : us[k]? = some v) : ∃ p lo, ts[k]? = some p ∧ b ≤ lo ∧ v = .tup [.int p, .ref lo] ∧ H[lo]? = some (.list ((g p).map .int)) := by
  have hk : k < ts.length := by rw [← h.1]; exact (List.getElem?_eq_some_iff.mp hv).1
  obtain ⟨lo, h1, h2, h3⟩ := h.2 k _ v (List.getElem?_eq_getElem hk) hv
  exact ⟨ts[k], lo, List.getElem?_eq_getElem hk, h1, h2, h3⟩
end Mine
namespace Mine.P
open PySem
variable (scr : List Int)

theorem other_younger {ps : List Per} {d k p : Int} : ∀ c ∈ otherT ps d k p, 0 ≤ c ∧ ∃ q, ps[c.toNat]? = some q ∧ younger ps q.born < ps.length := by
  intro c hc
  obtain ⟨h0, q, hq⟩ := kids_ok (List.mem_filter.mp (List.mem_filter.mp hc).1).1
  exact ⟨h0, q, hq, younger_self (List.mem_of_getElem? hq)⟩
theorem otherT_len (ps : List Per) (d k p : Int) : (otherT ps d k p).length ≤ ps.length := Nat.le_trans (List.length_filter_le _ _) (Nat.le_trans (List.length_filter_le _ _) (kids_len _ _ _))

theorem w_lby_parents (l : Nat) (d : Int) (ps : List Per) (hW : WfP ps) (hlen : ps.length ≤ 24) (n : Nat) (k : Int) (q : Per) (H : Hp) (hA : H[l]? = some (.list (ps.map perV))) (hk0 : 0 ≤ k) (hq : ps[k.toNat]? = some q) :
    callW scr pgks pfns (n + 28) i_law_by_parents [.ref l, .int k, .int d] H (RowsPost H (parRows ps d k q)) := by
  refine c_law_by_parents ?_
  unfold pb_law_by_parents
  have hpv := fun p => par_valid (p := p) (d := d) hW hq
  have hpl := parOn_len hW hq d
  refine cut 3 (fun ρ' H' => ∃ ld lf : Nat, ρ' = [some (.ref l), some (.int k), some (.int d), some (.ref ld), some (.ref lf), some (.ref (lf + 1)), none, none, none, none, none] ∧ H.length ≤ lf ∧ ld < lf ∧ lf + 2 = H'.length ∧ Kept H.length H H' ∧ Lined ps d H' ld ∧ H'[lf]? = some (.list []) ∧ H'[lf + 1]? = some (.list [])) ?_ ?_
  · open_line
    refine call_of (w_lined scr (n + 25) l d H ps hA hW (by (first | lia | omega))) ?_
    refine el_2_3 ?_
    intro H₁ ld es hF1 hD1 hK
    have hL1 : Lined ps d H₁ ld := ⟨es, hD1, hK⟩
    open_line
    refine ⟨ld, H₁.length, by simp, hF1.2.1, hL1.lt, by simp, (hF1.tr (Kept.app _ _)).tr (Kept.app _ _), (hL1.kept (Kept.app _ _)).kept (Kept.app _ _), at_app _ (at_new _ _), ?_⟩
    have := at_new (H₁ ++ [Cell.list []]) (.list [])
    rwa [List.length_append] at this
  refine el_2_7 ?_
  intro H₁ ld lf hlf0 hldf hlf1 hF1 hL1 hR1 hT1
  have hA1 := hF1.at' hA
  have hAl := at_lt hA
  simp only [List.drop_succ_cons, List.drop_zero]
  -- the takers
  refine cut 1 (fun ρ' H' => ∃ (a b : Option V) (us : List V), ρ' = [some (.ref l), some (.int k), some (.int d), some (.ref ld), some (.ref lf), some (.ref (lf + 1)), a, b, none, none, none] ∧ Kept (lf + 1) H₁ H' ∧ H'[lf + 1]? = some (.list us) ∧ TakAt (otherT ps d k) (lf + 2) H' (parT ps d k q) us) ?_ ?_
  · open_line
    refine call_of (w_lparents scr (n + 26) l k d _ ps q hA1 hk0 hq) ?_
    rintro v H' ⟨rfl, rfl⟩
    open_line
    refine for_inv (fun j ρ Hj => ∃ (a b : Option V) (us : List V), ρ = [some (.ref l), some (.int k), some (.int d), some (.ref ld), some (.ref lf), some (.ref (lf + 1)), a, b, none, none, none] ∧ Kept (lf + 1) H' Hj ∧ Hj[lf + 1]? = some (.list us) ∧ TakAt (otherT ps d k) (lf + 2) Hj (((parOn q d).take j).filter (parB ps d k)) us) ⟨_, _, [], rfl, Kept.refl (by (first | lia | omega)), hT1, TakAt.nil _ _ _⟩ ?_ ?_
    · intro j v hv
      refine el_3_3 ?_
      intro Hj oa ob us hFj hTj hTA
      rw [List.getElem?_map] at hv
      obtain ⟨p, hp, rfl⟩ := Option.map_eq_some_iff.mp hv
      obtain ⟨hp0, q', hq'⟩ := hpv p (List.mem_of_getElem? hp)
      have htf := take_filter (parB ps d k) hp
      have hlv : livesAt ps d p = livesP q' d := by unfold livesAt; rw [hq']
      have hAj := hFj.at hA1 (by (first | lia | omega))
      have hLj := hL1.at' hFj (by (first | lia | omega))
      have hlj := at_lt hTj
      have hsz : us.length < 16000000 := by
        rw [hTA.1]
        refine Nat.lt_of_le_of_lt (List.length_filter_le _ _) ?_
        rw [List.length_take]; (first | lia | omega)
      o_facts bd
      refine cut 1 (fun ρ' H' => ∃ lo : Nat, ρ' = [some (.ref l), some (.int k), some (.int d), some (.ref ld), some (.ref lf), some (.ref (lf + 1)), some (.int p), some (.ref lo), none, none, none] ∧ Kept Hj.length Hj H' ∧ Hj.length ≤ lo ∧ H'[lo]? = some (.list ((otherT ps d k p).map .int))) ?_ ?_
      · open_line
        refine call_of (w_lchildren scr (n + 25) l p d Hj ps hAj (by (first | lia | omega))) ?_
        refine el_1_2 ?_
        intro H₂ lc hF2 hC2
        have hL2 := hLj.kept hF2
        open_line with [itemsOf_lst _ _ hC2]
        refine comp_filt (fun c => lineB ps d c && !(c == k)) (by rw [show (iseq 0 ps.length).filter (childB ps d p) = kidsP ps d p from rfl]; exact Nat.lt_of_le_of_lt (kids_len _ _ _) (by (first | lia | omega))) ?_ ?_
        · intro y _ Q hQ
          cases hb : lineB ps d y with
          | true =>
            rw [hb, Bool.true_and] at hQ
            open_line with [hL2.isIn, hb]
            exact wIf_q _ hQ
          | false =>
            rw [hb, Bool.false_and] at hQ
            open_line with [hL2.isIn, hb]
            exact hQ
        · open_line
          rw [show ((iseq 0 ps.length).filter (childB ps d p)).filter (fun c => lineB ps d c && !(c == k)) = otherT ps d k p from (otherT_eq ps d k p).symm]
          first | exact in_1_3 rfl (hF2.tr (Kept.app _ _)) hF2.2.1 (at_new _ _) | exact ⟨_, rfl, hF2.tr (Kept.app _ _), hF2.2.1, at_new _ _⟩
      refine el_1_3 ?_
      intro H₂ lo hF2 hlo hO
      o_facts bd
      refine if_cut (fun b H' => b = parB ps d k p ∧ Kept H₂.length H₂ H') ?_ ?_ ?_
      · open_line
        refine call_of (w_llives scr (n + 26) l p d H₂ ps q' (hF2.at' hAj) hp0 hq') ?_
        rintro v H' ⟨rfl, rfl⟩
        open_line
        refine wIf_split ?_ ?_
        · intro h
          open_line
          exact ⟨by unfold parB; rw [hlv, h]; rfl, Kept.refl (Nat.le_refl _)⟩
        · intro h
          open_line
          have hpb : parB ps d k p = !(otherT ps d k p).isEmpty := by unfold parB; rw [hlv, h, Bool.false_or, any_filter]; rfl
          have hemp : ((otherT ps d k p).map V.int).isEmpty = (otherT ps d k p).isEmpty := by cases otherT ps d k p <;> rfl
          open_line with [cmp_ne_empty hO (plain_ints _ 8), hemp]
          exact ⟨hpb.symm, Kept.app _ _⟩
      · rintro H₃ ⟨hb, hF3⟩
        rw [← hb, if_pos rfl] at htf
        have hF13 := hF2.tr hF3
        have hT3 := hF13.at' hTj
        open_line with [meKind_app _ hT3, WMeth_app _ _ _ hT3 hsz]
        first | refine ⟨rfl, in_3_3 rfl ((hFj.trans hF13 (by (first | lia | omega))).trans (Kept.set _ (Nat.le_refl _) (by have := at_lt hT3; (first | lia | omega))) (Nat.le_refl _)) (at_set hT3) ?_⟩ | refine ⟨rfl, _, _, _, rfl, (hFj.trans hF13 (by (first | lia | omega))).trans (Kept.set _ (Nat.le_refl _) (by have := at_lt hT3; (first | lia | omega))) (Nat.le_refl _), at_set hT3, ?_⟩
        rw [htf]
        exact ((hTA.kept hF13).set _ (by (first | lia | omega))).snoc (by (first | lia | omega)) (at_set_ne (hF3.at' hO) (by (first | lia | omega)))
      · rintro H₃ ⟨hb, hF3⟩
        rw [← hb] at htf
        have hF13 := hF2.tr hF3
        open_line
        first | refine ⟨rfl, in_3_3 (a2 := us) rfl (hFj.trans hF13 (by (first | lia | omega))) (hF13.at' hTj) ?_⟩ | refine ⟨rfl, _, _, us, rfl, hFj.trans hF13 (by (first | lia | omega)), hF13.at' hTj, ?_⟩
        rw [htf]; exact hTA.kept hF13
    · refine el_3_3 ?_
      intro Hj oa ob us hFj hTj hTA
      rw [List.length_map, List.take_length] at hTA
      open_line
      first | exact in_3_3 (a2 := us) rfl hFj hTj hTA | exact ⟨_, _, us, rfl, hFj, hTj, hTA⟩
  -- the rows
  refine el_3_3 ?_
  intro H₂ oa ob us hF2 hT2 hTA2
  simp only [List.drop_succ_cons, List.drop_zero]
  have hsz := parRows_len hW hlen hq d k
  generalize hts : parT ps d k q = ts at hTA2
  unfold parRows at hsz ⊢
  rw [hts] at hsz ⊢
  have htl : ts.length ≤ 2 := by rw [← hts]; exact Nat.le_trans (List.length_filter_le _ _) hpl
  have htm : ∀ c ∈ ts, c ∈ parOn q d := fun c hc => (List.mem_filter.mp (hts ▸ hc)).1
  have hR2 := hF2.at hR1 (by (first | lia | omega))
  have hA2 := hF2.at hA1 (by (first | lia | omega))
  have hL2 := hL1.at' hF2 (by (first | lia | omega))
  have hl2 := at_lt hT2
  have hF02 : Kept H.length H H₂ := hF1.trans hF2 (by (first | lia | omega))
  have hlen2 : us.length = ts.length := hTA2.1
  open_line with [itemsOf_lst _ _ hT2]
  refine for_inv (fun j ρ H' => ∃ (a o c e f : Option V) (vs : List V), ρ = [some (.ref l), some (.int k), some (.int d), some (.ref ld), some (.ref lf), some (.ref (lf + 1)), a, o, c, e, f] ∧ Kept lf H₂ H' ∧ H'[lf + 1]? = some (.list us) ∧ TakAt (otherT ps d k) (lf + 2) H' ts us ∧ H'[lf]? = some (.list vs) ∧ RowsAt (lf + 1) H' ((ts.take j).flatMap (rowsOf ps d (parRec ps d k) k ts.length)) vs) ⟨_, _, _, _, _, [], rfl, Kept.refl (by (first | lia | omega)), hT2, hTA2, hR2, RowsAt.nil _ _⟩ ?_ ?_
  · intro j v hv
    refine el_6_5 ?_
    intro Hj oa oo oc oe of vs hFj hTj hTA hRj hRA
    obtain ⟨c, lo, hc, hlo, rfl, hO⟩ := hTA.get hv
    have hcm := htm c (List.mem_of_getElem? hc)
    obtain ⟨hc0, q', hq'⟩ := hpv c hcm
    have hjl := (List.getElem?_eq_some_iff.mp hc).1
    have hAj := hFj.at hA2 (by (first | lia | omega))
    have hLj := hL2.at' hFj (by (first | lia | omega))
    have hlv : livesAt ps d c = livesP q' d := by unfold livesAt; rw [hq']
    have htl2 := take_flat_len (rowsOf ps d (parRec ps d k) k ts.length) hc
    have hvl : vs.length + (rowsOf ps d (parRec ps d k) k ts.length c).length < 16000000 := by
      rw [hRA.1]; unfold lineRows at hsz; (first | lia | omega)
    have hlj := at_lt hTj
    o_facts bd
    open_line
    refine call_of (w_llives scr (n + 26) l c d Hj ps q' hAj hc0 hq') ?_
    rintro v H'' ⟨rfl, rfl⟩
    open_line
    refine wIf_split ?_ ?_
    · intro h
      open_line
      have hro : rowsOf ps d (parRec ps d k) k ts.length c = [⟨c, ts.length, [k, c]⟩] := by unfold rowsOf; rw [hlv, h]; rfl
      rw [hro] at hvl
      have hRn := at_app [.list [.int k, .int c]] hRj
      open_line with [meKind_app _ hRj, WBi_lenL _ _ _ hTj, hlen2, WMeth_app _ _ _ hRn (by simp at hvl; (first | lia | omega))]
      first | refine ⟨stands_ref (at_set_ne (at_app _ hTj) (by (first | lia | omega))) hT2, in_6_5 rfl ((hFj.trans (Kept.app _ _) (by (first | lia | omega))).trans (Kept.set _ (Nat.le_refl _) (by rw [List.length_append]; (first | lia | omega))) (Nat.le_refl _)) (at_set_ne (at_app _ hTj) (by (first | lia | omega))) ((hTA.app _).set _ (by (first | lia | omega))) (at_set hRn) ?_⟩ | refine ⟨stands_ref (at_set_ne (at_app _ hTj) (by (first | lia | omega))) hT2, _, _, _, _, _, _, rfl, (hFj.trans (Kept.app _ _) (by (first | lia | omega))).trans (Kept.set _ (Nat.le_refl _) (by rw [List.length_append]; (first | lia | omega))) (Nat.le_refl _), at_set_ne (at_app _ hTj) (by (first | lia | omega)), (hTA.app _).set _ (by (first | lia | omega)), at_set hRn, ?_⟩
      rw [take_flat _ hc, hro]
      refine ((hRA.app _).set _ (by (first | lia | omega))).snoc ⟨H''.length, by (first | lia | omega), rfl, ?_⟩
      exact at_set_ne (at_new _ _) (by (first | lia | omega))
    · intro h
      open_line
      have hro : rowsOf ps d (parRec ps d k) k ts.length c = (parRec ps d k c).map (upRow k ts.length) := by unfold rowsOf; rw [hlv, h]; rfl
      rw [hro, List.length_map] at hvl
      open_line with [WBi_lenL _ _ _ hTj, hlen2]
      refine call_of (w_lshared scr l ld d ps hW hlen 24 n c (otherT ps d k c) H'' lo (ts.length : Int) (Nat.le_trans (otherT_len _ _ _ _) (by (first | lia | omega))) ?_ (by (first | lia | omega)) ?_ hAj hLj hO) ?_
      · intro y hy
        obtain ⟨h0, qy, hqy, hlt⟩ := other_younger y hy
        exact ⟨h0, qy, hqy, by (first | lia | omega)⟩
      · have := parRec_len (d := d) (k := k) hW hq'
        have h2 := younger_self (List.mem_of_getElem? hq')
        exact Nat.lt_of_lt_of_le this (Nat.le_of_lt (pow_small (by (first | lia | omega))))
      refine el_2_4 ?_
      intro H₄ lb ws0 hlb hF4 hB hUA
      have hR4 := hF4.at' hRj
      have hRA4 := hRA.kept hF4
      replace hUA : RowsAt (lf + 1) H₄ ((parRec ps d k c).map (scale ts.length)) ws0 := hUA.low (by (first | lia | omega))
      open_line with [itemsOf_lst _ _ hB]
      refine for_inv (fun i ρ H' => ∃ (a b e : Option V) (ws : List V), ρ = [some (.ref l), some (.int k), some (.int d), some (.ref ld), some (.ref lf), some (.ref (lf + 1)), some (.int c), some (.ref lo), a, b, e] ∧ Kept lf H₂ H' ∧ H'[lf + 1]? = some (.list us) ∧ TakAt (otherT ps d k) (lf + 2) H' ts us ∧ H'[lf]? = some (.list ws) ∧ H'[lb]? = some (.list ws0) ∧ RowsAt (lf + 1) H' ((parRec ps d k c).map (scale ts.length)) ws0 ∧ RowsAt (lf + 1) H' ((ts.take j).flatMap (rowsOf ps d (parRec ps d k) k ts.length) ++ ((parRec ps d k c).take i).map (upRow k ts.length)) ws)
        ⟨_, _, _, vs, rfl, hFj.trans hF4 (by (first | lia | omega)), hF4.at' hTj, hTA.kept hF4, hR4, hB, hUA, by simp; exact hRA4⟩ ?_ ?_
      · intro i v hv
        refine el_4_7 ?_
        intro Hi ia ib ie ws hFi hTi hTAi hRi hBi hUi hWi
        obtain ⟨r', hr', ll, hll, rfl, hLi⟩ := hUi.get hv
        rw [List.getElem?_map] at hr'
        obtain ⟨r, hr, rfl⟩ := Option.map_eq_some_iff.mp hr'
        have hil := (List.getElem?_eq_some_iff.mp hr).1
        obtain ⟨hr1, hr2⟩ := parRec_ok ps d k c r (List.mem_of_getElem? hr)
        have hgi := at_lt hTi
        have hwl : ws.length < 16000000 := by
          rw [hWi.1, List.length_append, List.length_map, List.length_take, ← hRA.1]; (first | lia | omega)
        have hL' := at_app [.list [.int k]] hLi
        have hszl : (V.int k :: r.line.map V.int).length < 16000000 := by rw [List.length_cons, List.length_map]; (first | lia | omega)
        have hRn := at_app [.list (V.int k :: r.line.map V.int)] (at_app [.list [.int k]] hRi)
        o_facts bd
        open_line with [meKind_app _ hRi, WBin_cat _ _ (at_new _ _) hL', show (scale ts.length r).line = r.line from rfl, WAllocL_ok _ _ _ hszl, WMeth_app _ _ _ hRn hwl]
        first | refine ⟨stands_ref (at_set_ne (at_app _ (at_app _ hBi)) (by (first | lia | omega))) hB, in_4_7 rfl (((hFi.trans (Kept.app _ _) (by (first | lia | omega))).trans (Kept.app _ _) (by rw [List.length_append]; (first | lia | omega))).trans (Kept.set _ (Nat.le_refl _) (by rw [List.length_append, List.length_append]; (first | lia | omega))) (Nat.le_refl _)) (at_set_ne (at_app _ (at_app _ hTi)) (by (first | lia | omega))) (((hTAi.app _).app _).set _ (by (first | lia | omega))) (at_set hRn) (at_set_ne (at_app _ (at_app _ hBi)) (by (first | lia | omega))) (((hUi.app _).app _).set _ (by (first | lia | omega))) ?_⟩ | refine ⟨stands_ref (at_set_ne (at_app _ (at_app _ hBi)) (by (first | lia | omega))) hB, _, _, _, _, rfl, ((hFi.trans (Kept.app _ _) (by (first | lia | omega))).trans (Kept.app _ _) (by rw [List.length_append]; (first | lia | omega))).trans (Kept.set _ (Nat.le_refl _) (by rw [List.length_append, List.length_append]; (first | lia | omega))) (Nat.le_refl _), at_set_ne (at_app _ (at_app _ hTi)) (by (first | lia | omega)), ((hTAi.app _).app _).set _ (by (first | lia | omega)), at_set hRn, at_set_ne (at_app _ (at_app _ hBi)) (by (first | lia | omega)), ((hUi.app _).app _).set _ (by (first | lia | omega)), ?_⟩
        rw [take_map_one _ hr, ← List.append_assoc]
        refine (((hWi.app _).app _).set _ (by (first | lia | omega))).snoc ⟨(Hi ++ [Cell.list [V.int k]]).length, by rw [List.length_append]; (first | lia | omega), rfl, ?_⟩
        exact at_set_ne (at_new _ _) (by rw [List.length_append]; (first | lia | omega))
      · refine el_4_7 ?_
        intro Hi ia ib ie ws hFi hTi hTAi hRi hBi hUi hWi
        rw [hUA.1, List.length_map, List.take_length] at hWi
        open_line
        first | refine ⟨stands_ref hTi hT2, in_6_5 (a5 := ws) rfl hFi hTi hTAi hRi ?_⟩ | refine ⟨stands_ref hTi hT2, _, _, _, _, _, ws, rfl, hFi, hTi, hTAi, hRi, ?_⟩
        rw [take_flat _ hc, hro]; exact hWi
  · refine el_6_5 ?_
    intro H' oa oo oc oe of vs hF' hT' hTA' hR' hRA
    rw [hlen2, List.take_length] at hRA
    open_line
    first | exact in_2_4 (a1 := vs) rfl (by (first | lia | omega)) (hF02.trans hF' (by (first | lia | omega))) hR' (hRA.low (by (first | lia | omega))) | exact ⟨_, vs, rfl, by (first | lia | omega), hF02.trans hF' (by (first | lia | omega)), hR', hRA.low (by (first | lia | omega))⟩
end Mine.P

end
section
set_option autoImplicit false
set_option linter.unusedVariables false
set_option linter.unusedSimpArgs false
set_option maxRecDepth 100000
namespace Mine
open PySem
theorem rows_rd {b : Nat} {H : Hp} {rs : List Row} {vs : List V} (scr : List Int) (h : RowsAt b H rs vs) (v : V) (hv : v ∈ vs) : ∃ d, rd scr 9 H v = some d := by
  obtain ⟨k, hk⟩ := List.mem_iff_getElem?.mp hv
  obtain ⟨r, _, ll, _, rfl, hL⟩ := h.get hk
  obtain ⟨ds, hds⟩ := rdL_some (f := rd scr 7 H) (vs := r.line.map .int) fun v hv => by
    obtain ⟨i, _, rfl⟩ := List.mem_map.mp hv
    exact ⟨_, rfl⟩
  have h3 : rd scr 8 H (.ref ll) = some (.list ds) := by
    show (match H[ll]? with | some (.list vs) => (rdL (rd scr 7 H) vs).map PyData.list | _ => none) = _
    rw [hL]
    show (rdL (rd scr 7 H) _).map PyData.list = _
    rw [hds]; rfl
  have h4 : rdL (rd scr 8 H) [.int r.heir, .tup [.int 1, .int r.under], .ref ll] = some [.int r.heir, .tuple [.int 1, .int r.under], .list ds] := by
    rw [rdLc, rdLc, rdLc, h3]; rfl
  exact ⟨_, by rw [rdT, h4]; rfl⟩
theorem ne_empty_rd {scr : List Int} {H : Hp} {l m : Nat} {vs : List V} (h : H[l]? = some (.list vs)) (h' : H[m]? = some (.list [])) (hp : ∀ v, v ∈ vs → ∃ d, rd scr 9 H v = some d) : cmpV scr .ne (.ref l) (.ref m) H = some (!vs.isEmpty) := by
  obtain ⟨ds, h2⟩ := rdL_some (f := rd scr 9 H) hp
  have h1 : rd scr 10 H (.ref l) = some (.list ds) := by
    show (match H[l]? with | some (.list vs) => (rdL (rd scr 9 H) vs).map PyData.list | _ => none) = _
    rw [h]
    show (rdL (rd scr 9 H) vs).map PyData.list = _
    rw [h2]; rfl
  have h3 : rd scr 10 H (.ref m) = some (.list []) := by rw [rdR, h']; rfl
  have hl := rdL_len h2
  rw [cmpV]
  unfold eqV
  rw [h1, h3]
  cases ds with
  | nil => cases vs with
    | nil => rfl
    | cons a b => simp at hl
  | cons d r => cases vs with
    | nil => simp at hl
    | cons a b => rfl
theorem meKind_clr {H : Hp} {l : Nat} {xs : List V} (h : H[l]? = some (.list xs)) : meKind .clear H (.ref l) = true := by simp [meKind, isListB, h]
theorem WMeth_clr {H : Hp} {Q : V → Hp → Prop} {u : DF Q} {l : Nat} {xs : List V} (h : H[l]? = some (.list xs)) : gMeth .clear (.ref l) [] H Q u = Q .none (H.set l (.list [])) := by
  show Wp (onL H (.ref l) fun _ => bi0 [] (.ok .none (H.set l (.list [])))) Q = _
  rw [onL_at h]; rfl
/-- what stands in the heap when the rows due are there -/
structure Due (ps : List Per) (rs : List Row) (H : Hp) (lp lh lu : Nat) : Prop where
  tab : H[0]? = some .tab
  pe : H[lp]? = some (.list (ps.map perV))
  ha : H[lh]? = some (.list (ps.map perV))
  du : ∃ us, H[lu]? = some (.list us) ∧ RowsAt 0 H rs us
theorem Due.kept {ps : List Per} {rs : List Row} {H H' : Hp} {lp lh lu : Nat} (h : Due ps rs H lp lh lu) (hF : Kept H.length H H') : Due ps rs H' lp lh lu :=
  ⟨hF.at' h.tab, hF.at' h.pe, hF.at' h.ha, let ⟨us, h1, h2⟩ := h.du; ⟨us, hF.at' h1, h2.kept hF⟩⟩
end Mine
namespace Mine.P
open PySem
variable (scr : List Int)

theorem small_lines (ps : List Per) (d k : Int) (p : Per) : ∀ r ∈ parRows ps d k p, r.line.length < 16000000 := fun r hr => by
  have := (parRows_ok ps d k p r hr).2
  (first | lia | omega)
/-- both ways, and the rows are the same -/
theorem w_both (n lp lh : Nat) (k d : Int) (H : Hp) (ps : List Per) (hW : WfP ps) (hlen : ps.length ≤ 24) (h0 : 0 ≤ k) (h1 : k < ps.length) (hP : H[lp]? = some (.list (ps.map perV))) (hH : H[lh]? = some (.list (ps.map perV))) (ρ : Env') (e1 e2 e3 e4 e5 : E) (Q : V → Hp → Prop)
    (he1 : ∀ H (Q : V → Hp → Prop), Q (.ref lh) H → WE ⟨scr, pgks, callW scr pgks pfns (n + 120)⟩ e1 ρ H Q) (he2 : ∀ H (Q : V → Hp → Prop), Q (.int k) H → WE ⟨scr, pgks, callW scr pgks pfns (n + 120)⟩ e2 ρ H Q) (he3 : ∀ H (Q : V → Hp → Prop), Q (.int d) H → WE ⟨scr, pgks, callW scr pgks pfns (n + 120)⟩ e3 ρ H Q)
    (he4 : ∀ H (Q : V → Hp → Prop), Q (.ref lp) H → WE ⟨scr, pgks, callW scr pgks pfns (n + 120)⟩ e4 ρ H Q) (hQ : ∀ H', Kept H.length H H' → Q (.bool true) H') :
    WE ⟨scr, pgks, callW scr pgks pfns (n + 120)⟩ (.call i_law_rows_same [.call i_by_parents [e1, e2, e3], .call i_law_by_parents [e4, e2, e3]]) ρ H Q := by
  obtain ⟨p, _, hp⟩ := per_at (ps := ps) (k := k) h0 h1
  have hy := younger_self (List.mem_of_getElem? hp)
  simp only [ed17, ed25, ed24]
  refine he1 _ _ (he2 _ _ (he3 _ _ ?_))
  refine call_of (w_by_parents scr lh d ps hW hlen n k p H hH h0 hp) ?_
  refine el_2_4 ?_
  intro H₁ lf vs _ hF1 hV hVA
  refine he4 _ _ (he2 _ _ (he3 _ _ ?_))
  refine call_of (w_lby_parents scr lp d ps hW hlen (n + 92) k p H₁ (hF1.at' hP) h0 hp) ?_
  refine el_2_4 ?_
  intro H₂ lu us _ hF2 hU hUA
  refine call_of (w_rows_same scr (n + 117) lf lu _ _ H₂ (parRows ps d k p) vs us (hF2.at' hV) hU (hVA.kept hF2) hUA (small_lines ps d k p)) ?_
  rintro v H₃ ⟨rfl, hF3⟩
  exact hQ _ ((hF1.tr hF2).tr hF3)

theorem run_ok (n : Nat) : callW scr pgks pfns (n + 121) i_law [.script] [.tab] fun v H => v = .bool true ∧ H[0]? = some .tab := by
  refine c_law ?_
  unfold pb_law
  refine cutN 2 (fun ρ' H' => ∃ m : Int, ρ' = [some .script, some (.int m), none, none, none, none, none, none, none] ∧ H' = [.tab] ∧ 1 ≤ m ∧ m ≤ 24) ?_ ?_
  · open_line
    refine call_of (w_cell scr (n + 119) 0 _) ?_
    rintro v H' ⟨rfl, rfl⟩
    open_line
    refine call_of (w_cell scr (n + 119) 0 _) ?_
    rintro v H' ⟨rfl, rfl⟩
    open_line
    refine wIf_split ?_ ?_
    · intro _
      open_line
      refine call_of (w_cell scr (n + 119) 0 _) ?_
      rintro v H' ⟨rfl, rfl⟩
      open_line
      first | exact in_1_3 rfl trivial (by (first | lia | omega)) (by (first | lia | omega)) | exact ⟨_, rfl, (by trivial), by (first | lia | omega), by (first | lia | omega)⟩
    · intro _
      open_line
      first | exact in_1_3 rfl trivial (by (first | lia | omega)) (by (first | lia | omega)) | exact ⟨_, rfl, (by trivial), by (first | lia | omega), by (first | lia | omega)⟩
  refine el_1_3 ?_
  intro H' m hrf0 hm0 hm1
  subst hrf0
  o_facts bd
  refine cutN 3 (fun ρ' H' => ∃ (lp lh : Nat) (ps : List Per), ρ' = [some .script, some (.int m), some (.ref lp), some (.ref lh), none, none, none, none, none] ∧ H'[0]? = some .tab ∧ H'[lp]? = some (.list (ps.map perV)) ∧ H'[lh]? = some (.list (ps.map perV)) ∧ (ps.length : Int) = m ∧ WfP ps) ?_ ?_
  · open_line
    refine call_of (w_cell scr (n + 119) 1 _) ?_
    rintro v H' ⟨rfl, rfl⟩
    open_line
    refine call_of (w_people scr (n + 118) (scr.getD 1 0) m [.tab] (by (first | lia | omega)) (by (first | lia | omega))) ?_
    refine el_2_6 ?_
    intro H₁ l1 ps1 _ hF1 hP1 hl1 hW1 hno
    open_line
    refine call_of (w_cell scr (n + 119) 2 _) ?_
    rintro v H' ⟨rfl, rfl⟩
    open_line
    refine call_of (w_adopting scr (n + 118) l1 (scr.getD 2 0) H' ps1 hP1 hW1 hno (by (first | lia | omega))) ?_
    refine el_2_5 ?_
    intro H₂ l2 ps2 _ hF2 hP2 hl2 hW2
    have h0 : H₂[0]? = some .tab := hF2.at' (hF1.at' rfl)
    open_line
    refine call_of (w_tangled scr (n + 119) l2 H₂ ps2 hP2 hW2 (by (first | lia | omega)) h0) ?_
    refine el_1_1 ?_
    intro H₃ b hF3
    have hP3 := hF3.at' hP2
    have h03 := hF3.at' h0
    open_line
    refine wIf_split ?_ ?_
    · intro _
      open_line
      exact ⟨(by trivial), h03⟩
    · intro _
      open_line
      have hsz : (ps2.map perV).length < 16000000 := by rw [List.length_map]; (first | lia | omega)
      open_line with [keysOf_lst _ _ hP3, WAllocL_ok _ _ _ hsz]
      first | exact in_3_5 (a2 := ps2) rfl (at_app _ h03) (at_app _ hP3) (at_new _ _) (by (first | lia | omega)) hW2 | exact ⟨_, _, ps2, rfl, at_app _ h03, at_app _ hP3, at_new _ _, by (first | lia | omega), hW2⟩
  refine el_3_5 ?_
  intro H₁ lp lh ps h0 hP hH hl hW
  have hlen : ps.length ≤ 24 := by (first | lia | omega)
  have hmod : ∀ z : Int, 0 ≤ z % m ∧ z % m < ps.length := fun z => ⟨Int.emod_nonneg _ (by (first | lia | omega)), by rw [hl]; exact Int.emod_lt_of_pos _ (by (first | lia | omega))⟩
  o_facts bd
  refine cut 3 (fun ρ' H' => ∃ d k i : Int, ρ' = [some .script, some (.int m), some (.ref lp), some (.ref lh), some (.int d), some (.int k), some (.int i), none, none] ∧ H' = H₁ ∧ (0 ≤ k ∧ k < ps.length) ∧ (0 ≤ i ∧ i < ps.length)) ?_ ?_
  · open_line
    refine call_of (w_cell scr (n + 119) 4 _) ?_
    rintro v H' ⟨rfl, rfl⟩
    open_line
    refine call_of (w_day scr (n + 119) lp _ H' ps hP (by (first | lia | omega))) ?_
    rintro v H'' ⟨⟨d, rfl⟩, rfl⟩
    open_line
    refine call_of (w_cell scr (n + 119) 3 _) ?_
    rintro v H' ⟨rfl, rfl⟩
    open_line
    refine call_of (w_cell scr (n + 119) 5 _) ?_
    rintro v H' ⟨rfl, rfl⟩
    open_line
    first | exact in_3_3 (a0 := d) rfl trivial (hmod _) (hmod _) | exact ⟨d, _, _, rfl, (by trivial), hmod _, hmod _⟩
  rintro ρ' H' ⟨d, k, i, rfl, rfl, ⟨hk0, hk1⟩, hi0, hi1⟩
  obtain ⟨p, _, hp⟩ := per_at (ps := ps) (k := k) hk0 hk1
  have hy := younger_self (List.mem_of_getElem? hp)
  have hsm := small_lines ps d k p
  o_facts bd
  refine cut 1 (fun ρ' H₂ => ∃ lu, ρ' = [some .script, some (.int m), some (.ref lp), some (.ref lh), some (.int d), some (.int k), some (.int i), some (.ref lu), none] ∧ Due ps (parRows ps d k p) H₂ lp lh lu) ?_ ?_
  · open_line
    refine call_of (w_lby_parents scr lp d ps hW hlen (n + 92) k p H' hP hk0 hp) ?_
    refine el_2_4 ?_
    intro H₂ lu us _ hF2 hU hUA
    open_line
    first | exact in_1_6 (a0 := lu) rfl (hF2.at' h0) (hF2.at' hP) (hF2.at' hH) us hU (hUA.low (by (first | lia | omega))) | exact ⟨lu, rfl, hF2.at' h0, hF2.at' hP, hF2.at' hH, us, hU, hUA.low (by (first | lia | omega))⟩
  refine el_1_1 ?_
  intro H₂ lu hDue
  o_facts bd
  refine cut 1 (fun ρ' H₃ => ∃ lf, ρ' = [some .script, some (.int m), some (.ref lp), some (.ref lh), some (.int d), some (.int k), some (.int i), some (.ref lu), some (.ref lf)] ∧ RowsPost H₂ (parRows ps d k p) (.ref lf) H₃) ?_ ?_
  · open_line
    refine call_of (w_by_parents scr lh d ps hW hlen n k p H₂ hDue.ha hk0 hp) ?_
    rintro v H₃ hR
    obtain ⟨lf, vs, rfl, hr⟩ := id hR
    open_line
    first | exact in_1_1 (a0 := lf) rfl hR | exact ⟨lf, rfl, hR⟩
  refine el_1_1 ?_
  intro H₃ lf hR
  o_facts bd
  refine cutN 3 (fun ρ' H₄ => ρ' = [some .script, some (.int m), some (.ref lp), some (.ref lh), some (.int d), some (.int k), some (.int i), some (.ref lu), some (.ref lf)] ∧ RowsPost H₂ (parRows ps d k p) (.ref lf) H₄) ?_ ?_
  · have same : ∀ H₃ (Q : V → Hp → Prop), RowsPost H₂ (parRows ps d k p) (.ref lf) H₃ → (∀ H₄, RowsPost H₂ (parRows ps d k p) (.ref lf) H₄ → Q (.bool true) H₄) → gCall ⟨scr, pgks, callW scr pgks pfns (n + 120)⟩ i_law_rows_same [.ref lf, .ref lu] H₃ Q .mk := by
      rintro H₃ Q ⟨_, vs, hlf, hl', hF3, hV, hVA⟩ hQ
      cases hlf
      obtain ⟨us, hU, hUA⟩ := (hDue.kept hF3).du
      refine call_of (w_rows_same scr (n + 117) _ lu _ _ H₃ (parRows ps d k p) vs us hV hU hVA hUA hsm) ?_
      rintro v H₄ ⟨rfl, hF4⟩
      exact hQ _ ⟨_, vs, rfl, hl', hF3.tr hF4, hF4.at' hV, hVA.kept hF4⟩
    refine cut 1 (fun ρ' H₄ => ρ' = [some .script, some (.int m), some (.ref lp), some (.ref lh), some (.int d), some (.int k), some (.int i), some (.ref lu), some (.ref lf)] ∧ RowsPost H₂ (parRows ps d k p) (.ref lf) H₄) ?_ ?_
    · open_line
      refine same H₃ _ hR fun H₄ hR4 => ?_
      open_line
      exact ⟨(by trivial), hR4⟩
    rintro ρ' H₄ ⟨rfl, hR4⟩
    o_facts bd
    refine cut 1 (fun ρ' H₄ => ρ' = [some .script, some (.int m), some (.ref lp), some (.ref lh), some (.int d), some (.int k), some (.int i), some (.ref lu), some (.ref lf)] ∧ RowsPost H₂ (parRows ps d k p) (.ref lf) H₄) ?_ ?_
    · o_facts bd
      refine if_cut (fun b H₅ => b = false ∧ RowsPost H₂ (parRows ps d k p) (.ref lf) H₅) ?_ (fun H' h => nomatch h.1) ?_
      · obtain ⟨_, vs, hlf, hl', hF4, hV, hVA⟩ := hR4
        cases hlf
        rw [ed05]
        refine w_both scr n lp lh i d H₄ ps hW hlen hi0 hi1 (hF4.at' hDue.pe) (hF4.at' hDue.ha) _ _ _ _ _ (.var 0) _ ?_ ?_ ?_ ?_ ?_
        · intro H Q h
          open_line
          exact h
        · intro H Q h
          open_line
          exact h
        · intro H Q h
          open_line
          exact h
        · intro H Q h
          open_line
          exact h
        · intro H₅ hF5
          open_line
          first | exact in_3_4 (a0 := trivial) (a2 := vs) rfl hl' (hF4.tr hF5) (hF5.at' hV) (hVA.kept hF5) | exact ⟨(by trivial), _, vs, rfl, hl', hF4.tr hF5, hF5.at' hV, hVA.kept hF5⟩
      · rintro H₅ ⟨_, hR5⟩
        open_line
        exact ⟨(by trivial), hR5⟩
    rintro ρ' H₅ ⟨rfl, hR5⟩
    open_line
    refine same H₅ _ hR5 fun H₆ hR6 => ?_
    open_line
    exact ⟨(by trivial), hR6⟩
  rintro ρ' H₄ ⟨rfl, _, vs, hlf, hlf0, hF4, hV4, hVA4⟩
  cases hlf
  o_facts bd
  refine cut 2 (fun ρ' H₅ => ρ' = [some .script, some (.int m), some (.ref lp), some (.ref lh), some (.int d), some (.int k), some (.int i), some (.ref lu), some (.ref lf)] ∧ Kept H₂.length H₂ H₅) ?_ ?_
  · have fin : ∀ H₅ xs, Kept H₂.length H₂ H₅ → H₅[lf]? = some (.list xs) → Kept H₂.length H₂ (H₅.set lf (.list [])) := fun H₅ xs hF hA => hF.trans (Kept.set _ hlf0 (by have := at_lt hA; (first | lia | omega))) (Nat.le_refl _)
    o_facts bd
    refine if_cut (fun b H₅ => (b = true → vs ≠ []) ∧ H₅ = H₄ ++ [.list []]) ?_ ?_ ?_
    · open_line with [ne_empty_rd (at_app _ hV4) (at_new _ _) (rows_rd _ (hVA4.app _))]
      exact ⟨fun h => by simpa using h, (by trivial)⟩
    · rintro H₅ ⟨hne, rfl⟩
      have hne := hne rfl
      obtain ⟨v, ws, rfl⟩ := List.exists_cons_of_ne_nil hne
      obtain ⟨r, hr, ll, hll, rfl, hL⟩ := (hVA4.app [.list []]).get (k := 0) rfl
      have hV5 := at_app [.list []] hV4
      have hrl := hsm r (List.mem_of_getElem? hr)
      have hF5 : Kept H₂.length H₂ (H₄ ++ [.list []]) := hF4.tr (Kept.app _ _)
      have hF6 : Kept H₂.length H₂ ((H₄ ++ [Cell.list []]).set ll (.list (r.line.map V.int ++ [.int 0]))) := hF5.trans (Kept.set _ hll (by have := at_lt hL; (first | lia | omega))) (Nat.le_refl _)
      open_line with [idx_lst _ _ _ hV5, meKind_app _ hL, WMeth_app _ _ _ hL (by rw [List.length_map]; exact hrl)]
      by_cases e : ll = lf
      · subst e
        open_line with [meKind_clr (at_set hL), WMeth_clr (at_set hL)]
        exact ⟨(by trivial), fin _ _ hF6 (at_set hL)⟩
      · open_line with [meKind_clr (at_set_ne hV5 e), WMeth_clr (at_set_ne hV5 e)]
        exact ⟨(by trivial), fin _ _ hF6 (at_set_ne hV5 e)⟩
    · rintro H₅ ⟨_, rfl⟩
      have hV5 := at_app [.list []] hV4
      open_line with [meKind_clr hV5, WMeth_clr hV5]
      exact ⟨(by trivial), fin _ _ (hF4.tr (Kept.app _ _)) hV5⟩
  rintro ρ' H₅ ⟨rfl, hF5⟩
  have hDue6 := hDue.kept hF5
  o_facts bd
  open_line
  refine call_of (w_by_parents scr lh d ps hW hlen n k p H₅ hDue6.ha hk0 hp) ?_
  refine el_2_4 ?_
  intro H₇ lz zs _ hF7 hZ hZA
  have hDue7 := hDue6.kept hF7
  obtain ⟨us, hU, hUA⟩ := hDue7.du
  open_line
  refine call_of (w_rows_same scr (n + 117) lz lu _ _ H₇ (parRows ps d k p) zs us hZ hU hZA hUA hsm) ?_
  rintro v H₈ ⟨rfl, hF8⟩
  have hDue8 := hDue7.kept hF8
  open_line with [eq_lists hDue8.ha hDue8.pe (fun v hv => by
    obtain ⟨p, _, rfl⟩ := List.mem_map.mp hv
    exact perV_plain p)]
  exact ⟨(by trivial), hDue8.tab⟩
end Mine.P

end
section
set_option autoImplicit false
set_option linter.unusedVariables false
set_option linter.unusedSimpArgs false
set_option maxRecDepth 100000
open PySem PySem.W PyProof.Rows
namespace Mine
theorem goodTrue {c : ClaimW} {cl : Str → Option Addr} {mean : ExcName → Option Value} {args : List WData} {s₁ : Shared} {h' : Heap} {tk : Nat} {cc P : Addr} {ps : Array Value} (hT : s₁.heap.TableAt cc P #[]) (hk : ∀ b o, b ≠ P → s₁.heap.get? b = some o → h'.get? b = some o) (hP : h'.get? P = some (tabObj ps)) (hg : s₁.gens = #[])
    (hn : ∀ cls, c.raises args cls = false) (hp : c.post args (.bool true) args = true) : GoodWG c cl mean args s₁ (.ok (.ret (.bool true))) { s₁ with heap := h', toks := tk } := by
  refine ⟨.inl ⟨_, _, _, rfl, hn, .bool true, hp, fun _ => ⟨.nil, fun _ ha => nomatch ha⟩⟩, ⟨fun b o e => ?_, fun b o e => ?_⟩, rfl, .of_eq hg⟩
  · by_cases hb : b = P
    · subst hb
      have e' := hT.2
      rw [e] at e'; cases e'
      exact .inr (.inl ⟨hT.isCodeTable, rfl, #[], ps, rfl, by rw [Array.empty_append]; exact hP⟩)
    · exact .inl (hk b o hb e)
  · by_cases hb : b = P
    · subst hb; exact ⟨_, hP⟩
    · exact ⟨o, hk b o hb e⟩
/-- a name of the text is a pair of ints, as it was made -/
def pairOk (h : Heap) (name : Str) (ns : List Int) : Bool := h.isNs mainGlobals && (match h.nsMap mainGlobals name with
  | some (.ref a) => (match h.get? a with
    | some ⟨.type n, .none, .seq items _, sl⟩ => n == "tuple" && sl.isEmpty && intsMatch items.toList ns
    | _ => false)
  | _ => false)
def PairAt (h : Heap) (name : Str) (ns : List Int) : Prop := ∃ mg a vs k, h.Ns mainGlobals mg ∧ mg name = some (.ref a) ∧ h.get? a = some (tupObj vs k) ∧ IntsAre vs ns
theorem pairOk_spec {h : Heap} {name : Str} {ns : List Int} (x : pairOk h name ns = true) : PairAt h name ns := by
  obtain ⟨x1, x⟩ := Bool.and_eq_true_iff.mp x
  split at x
  · rename_i a hn
    split at x
    · rename_i n items k sl ho
      simp only [Bool.and_eq_true, beq_iff_eq] at x
      obtain ⟨⟨rfl, hs⟩, hm⟩ := x
      have hs : sl = #[] := by simpa using hs
      subst hs
      exact ⟨_, a, items.toList, k, .of_isNs x1, hn, ho, intsMatch_spec hm⟩
    · cases x
  · cases x
theorem PairAt.keeps {h h' : Heap} {name : Str} {ns : List Int} (x : PairAt h name ns) (k : ∀ b o, h.get? b = some o → h'.get? b = some o) : PairAt h' name ns :=
  let ⟨mg, a, vs, n, ⟨o, es, ep, e, r⟩, h2, h3, h4⟩ := x
  ⟨mg, a, vs, n, ⟨o, es, ep, k _ _ e, r⟩, h2, k _ _ h3, h4⟩
def pairHook : Hook := ⟨Bool, fun s => pairOk s.heap "WHOLE" [1, 1], fun _ => true, fun _ h => PairAt h "WHOLE" [1, 1], fun _ _ x => pairOk_spec x, fun _ _ _ x k => x.keeps k⟩
end Mine
set_option maxHeartbeats 40000000 in
theorem PySem.Challenge.cw_uf020001_05_holds : PySem.Challenge.rw_uf020001_05.Holds := by
  w_on
  refine holds_law (by decide +kernel) fun said => ?_
  o_head Mine.pairHook
  case hw => w_witness2
  intro w s₀ s₁ mg mb G Y fa o pm cd doc dV kV ho hd hcd hD hmg hg args vals as hpre hlay hrd hwl hlo
  refine Ground.open G ?_
  intro T B D TE TW
  wrow_args hpre hlay hrd hwl hlo
  rename_i ns _ _ _ _ _ _ _ scr vs _ hL _ _ _ hI _ hc _
  refine Mine.law_of (K := Mine.P.pK) (fns := Mine.P.pfns) (nss := Mine.P.pnss) (gks := Mine.P.pgks) (N := 121) (lawIdx := Mine.P.i_law) T ?_ ?_ ?_ ?_ ?_ ?_ ?_ hL hI ?_ ?_ ?_ hmg (Mine.P.run_ok _ 0) ?_
  · decide +kernel
  · decide +kernel
  · decide +kernel
  · decide +kernel
  · rfl
  · decide +kernel
  · intro h hk j x hx
    obtain ⟨mg', a, vs, k, h1, h2, h3, h4⟩ := Y
    have e : mg' = mg := h1.eq_nsMap.trans T.g.eq_nsMap.symm
    match j, hx with
    | 0, hx =>
      cases hx
      exact ⟨_, _, rfl, e ▸ h2, .tup (hk _ _ h3 (by simp)) (Mine.ints_rep h4) (by decide) (by simp)⟩
    | j + 1, hx => cases hx
  · (first | lia | omega)
  · (first | lia | omega)
  · rfl
  · intro c P ps h' tk hT hk hP
    exact Mine.goodTrue hT hk hP hg (fun _ => rfl) (by with_unfolding_all rfl)

end
