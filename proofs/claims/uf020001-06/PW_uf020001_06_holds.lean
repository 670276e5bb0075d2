import PyProof.Rows.All
import Wide.All
import Open.Line
import Wide.FinOn
import PyProof.Claim2
import PyProof.P3Statements
import PyProof.Seq
import PyProof.Cells
import PyProof.TupleIter
import PyProof.PlainList
import PyProof.DictRoads
import PyProof.DictKinds
import PyProof.DictIter
import PyProof.DictRoadsH
import PyProof.EqKinds
import PyProof.Methods
import PyProof.NoPylong
import PyProof.CodeObjX
import PyProof.DictTruth
import PyProof.EqAt
import PyProof.DictWalks
import PyProof.ZipIter
import PyProof.Rows.ZipGen
import PyProof.CompFree
import PyProof.SliceSyntax
import PyProof.SliceList
import PyProof.Rows.TupMore
import KE.LcSums
import PyProof.MinMaxWalk
import PyProof.WalkInts
import PyProof.TupleOfSeq
import PyProof.Conv_int_bool
import PyProof.Rows.SortWalk
import PyProof.Rows.CallKwBuiltin
import PyProof.SumAny
import PyProof.DictDisplay
import PyProof.ListRange
import PyProof.ListNew
import PyProof.Rows.TupDisplay
import PyProof.DefMake
import PySem.SetOps
import PyProof.SetKind
import PyProof.IsRules
import PyProof.Rows.SetFrom
import PyProof.Rows.SortRuns
import PyProof.Rows.RuleB_bool
import PyProof.Rows.SortShell
import PyProof.CollectWalk
import PySem.Challenge.RW_uf020001_06
set_option Elab.async false
set_option compiler.extract_closed false
set_option genSizeOfSpec false
set_option genSizeOf false
set_option genInjectivity false
section
set_option autoImplicit false
set_option linter.unusedVariables false
set_option linter.unusedSimpArgs false
namespace Mine
open PySem
/-- a name of the def that holds the lambda, and of no other -/
abbrev mk : Str := "_law_root"

/-- abstract values: tuples by value, lists / tables / exceptions by place -/
inductive V where
  | none
  | bool (b : Bool)
  | int (i : Int)
  | tup (vs : List V)
  | ref (l : Nat)
  | script
  deriving Inhabited

inductive Cell where
  | list (vs : List V)
  | dict (ep : Nat) (es : List (Int × V))
  | dicP (ep : Nat) (es : List ((Int × Bool) × V))
  | tab
  | hid
  deriving Inhabited

noncomputable def isNoneV : V → Bool
  | .none => true
  | _ => false
noncomputable instance : DecidableEq V := fun a b => Classical.propDecidable (a = b)
noncomputable instance : DecidableEq Cell := fun a b => Classical.propDecidable (a = b)

abbrev Hp := List Cell
abbrev Env' := List (Option V)

inductive R (α : Type) where
  | ok (a : α) (h : Hp)
  | stuck

inductive Out where
  | next (ρ : Env') (h : Hp)
  | ret (v : V) (h : Hp)

inductive BOp where | add | sub | mul | fdiv | mod
  deriving DecidableEq
inductive COp where | eq | ne | lt | le | gt | isIn | notIn
inductive Ty where | int | bool | tuple | list

/-- built-ins of the fragment -/
inductive Bi where
  | len | isi (t : Ty) | sumI | sortI | sumL | minL
inductive Me where
  | append | get2 | clear

set_option genSizeOf true in
set_option genSizeOfSpec true in
inductive Tgt where
  | var (i : Nat)
  | tup (ts : List Tgt)

mutual
inductive E where
  | k (v : V)
  | var (i : Nat)
  | bin (op : BOp) (a b : E)
  | neg (a : E)
  | not (a : E)
  | and (es : List E)
  | or (es : List E)
  | cmp (op : COp) (a b : E)
  | isNone (y : Bool) (a : E)
  | tup (es : List E)
  | lst (es : List E)
  | idx (a i : E)
  | slc (a : E) (lo hi : Option E)
  | call (f : Nat) (es : List E)
  | bi (b : Bi) (es : List E)
  | meth (m : Me) (a : E) (es : List E)
  | comp (nl : Nat) (elt : E) (t : Tgt) (it : It) (cs : List E)
  | listOf (e : E)
  | listR (e : E)
  | dct0
  | dctP
  | dct1 (a b : E)
  | dctP1 (a b : E)
  | sortK (a : E) (i : Nat)
  | dctP2 (a b c d : E)
  | sortS (a : E)
inductive It where
  | of (e : E)
  | range (a b : E)
  | enum (e : E)
  | zip (a b : E)
end

inductive S where
  | expr (e : E)
  | asg (t : Tgt) (e : E)
  | setIdx (a i e : E)
  | ret (e : E)
  | ife (c : E) (a b : List S)
  | for (t : Tgt) (it : It) (body : List S)
  | while (c : E) (body : List S)

/-- what a run is in: the script, the text's constants, its own defs, what is done with an exception -/
structure Ctx where
  scr : List Int
  gks : List V
  call : Nat → List V → Hp → (V → Hp → Prop) → (V → Hp → Prop) → Prop
  exc : Env' → V → Hp → Prop
/-- a def: how many names it has, how many of them are parameters, its body -/
structure Fn where
  name : Str
  np : Nat
  nl : Nat
  body : List S
end Mine

end
section
set_option autoImplicit false
set_option linter.unusedVariables false
set_option linter.unusedSimpArgs false
namespace Mine
open PySem

/-! what a part of the text may come to, as predicates -/
noncomputable def wSome {α : Type} (o : Option α) (f : α → Prop) : Prop := match o with | some a => f a | none => False
noncomputable def wIf (t : Bool) (A B : Prop) : Prop := match t with | true => A | false => B
noncomputable def wOk (t : Bool) (A : Prop) : Prop := match t with | true => A | false => False
noncomputable def wInt (x : V) (f : Int → Prop) : Prop := match x with | .int i => f i | _ => False
noncomputable def w1 (vs : List V) (f : V → Prop) : Prop := match vs with | [x] => f x | _ => False
noncomputable def w2 (vs : List V) (f : V → V → Prop) : Prop := match vs with | [x, y] => f x y | _ => False
noncomputable def wNil {α : Type} (l : List α) (A B : Prop) : Prop := match l with | [] => A | _ :: _ => B

noncomputable def szOk {α : Type} (l : List α) : Bool := decide (l.length < 16000000)
noncomputable def mulOk (a b : Int) : Bool := !(decide (Builtin.Int.intBits a > shortFactorBits) && decide (Builtin.Int.intBits b > shortFactorBits) && Builtin.Int.intTooBig (Builtin.Int.intBits a + Builtin.Int.intBits b))

/-- reading a value as plain data, `n` levels -/
noncomputable def rdL (f : V → Option PyData) : List V → Option (List PyData)
  | [] => some []
  | v :: r => match f v, rdL f r with
    | some d, some ds => some (d :: ds)
    | _, _ => none
/-- what a cell is -/
noncomputable def asList : Cell → Option (List V)
  | .list vs => some vs
  | _ => none
noncomputable def asDict : Cell → Option (List (Int × V))
  | .dict _ es => some es
  | _ => none
noncomputable def asDicP : Cell → Option (List ((Int × Bool) × V))
  | .dicP _ es => some es
  | _ => none
noncomputable def cellAt {β : Type} (f : Cell → Option β) (H : Hp) : V → Option β
  | .ref l => H[l]?.bind f
  | _ => none
noncomputable abbrev lstAt (H : Hp) : V → Option (List V) := cellAt asList H
noncomputable abbrev dictAt' (H : Hp) : V → Option (List (Int × V)) := cellAt asDict H
noncomputable abbrev dicPAt (H : Hp) : V → Option (List ((Int × Bool) × V)) := cellAt asDicP H
noncomputable def rd0 : V → Option PyData
  | .none => some .none
  | .bool b => some (.bool b)
  | .int i => some (.int i)
  | _ => none
noncomputable def rd (H : Hp) : Nat → V → Option PyData
  | 0, v => rd0 v
  | n + 1, .tup vs => (rdL (rd H n) vs).map .tuple
  | n + 1, .ref l => (lstAt H (.ref l)).bind fun vs => (rdL (rd H n) vs).map .list
  | _ + 1, v => rd0 v
noncomputable def truthy (H : Hp) : V → Option Bool
  | .none => some false
  | .bool b => some b
  | .int i => some (i != 0)
  | .tup vs => some (!vs.isEmpty)
  | .ref l => (lstAt H (.ref l)).map fun vs => !vs.isEmpty
  | _ => none

/-- the items of a list / a tuple / the script -/
noncomputable def itemsOf (scr : List Int) (H : Hp) : V → Option (List V)
  | .tup vs => some vs
  | .ref l => lstAt H (.ref l)
  | .script => some (scr.map .int)
  | _ => none

section
variable {K : Type} [DecidableEq K]
noncomputable def dget (es : List (K × V)) (k : K) : Option V := (es.find? (fun p => decide (p.1 = k))).map (·.2)
noncomputable def dput (es : List (K × V)) (k : K) (v : V) : List (K × V) := if es.any (fun p => decide (p.1 = k)) then es.map (fun p => if p.1 = k then (p.1, v) else p) else es ++ [(k, v)]
noncomputable def dhas (es : List (K × V)) (k : K) : Bool := es.any fun p => decide (p.1 = k)
end
noncomputable def intOf : V → Option Int
  | .int i => some i
  | _ => none
noncomputable def boolOf : V → Option Bool
  | .bool b => some b
  | _ => none
noncomputable def tupOf : V → Option (List V)
  | .tup vs => some vs
  | _ => none
noncomputable def two {α β : Type} (l : List α) (f : α → α → Option β) : Option β := match l with
  | [a, b] => f a b
  | _ => none
noncomputable def pairOf (x : V) : Option (Int × Bool) := (tupOf x).bind fun vs => two vs fun a b => (intOf a).bind fun i => (boolOf b).map fun b => (i, b)
noncomputable def allInts : List V → Option (List Int)
  | [] => some []
  | v :: r => (intOf v).bind fun i => (allInts r).map (i :: ·)
noncomputable def intsAt (H : Hp) (x : V) : Option (List Int) := (lstAt H x).bind allInts

/-- ints, or lists of ints by their items -/
noncomputable def ltL : List Int → List Int → Bool
  | _, [] => false
  | [], _ :: _ => true
  | a :: r, b :: t => if a = b then ltL r t else decide (a < b)
noncomputable def ltV (x y : V) (H : Hp) : Option Bool := match x, y with
  | .int a, .int b => some (decide (a < b))
  | .ref l, .ref m => (intsAt H (.ref l)).bind fun a => (intsAt H (.ref m)).map fun b => ltL a b
  | _, _ => none
noncomputable def int2 (x y : V) (f : Int → Int → Bool) : Option Bool := (intOf x).bind fun a => (intOf y).map fun b => f a b
/-- how many entries a table has -/
noncomputable def noneIn (H : Hp) (x : V) : Option Bool := match dictAt' H x with
  | some es => some es.isEmpty
  | none => (dicPAt H x).map (·.isEmpty)
noncomputable def eqV (H : Hp) (x y : V) : Option Bool := match noneIn H x with
  | some a => (noneIn H y).bind fun b => if a || b then some (a && b) else none
  | none => (rd H 10 x).bind fun d => (rd H 10 y).map fun e => PyData.eqv d e
noncomputable def inV (scr : List Int) (H : Hp) (x y : V) : Option Bool := match dictAt' H y with
  | some es => (intOf x).map fun k => dhas es k
  | none => match dicPAt H y with
    | some es => (pairOf x).map fun q => dhas es q
    | none => (itemsOf scr H y).bind fun vs => (rdL (rd H 10) vs).bind fun ds => (rd H 10 x).map fun d => ds.any fun e => PyData.eqv e d
noncomputable def cmpV (scr : List Int) (op : COp) (x y : V) (H : Hp) : Option Bool := match op with
  | .eq => eqV H x y
  | .ne => (eqV H x y).map (!·)
  | .lt => ltV x y H
  | .gt => int2 x y fun a b => decide (a > b)
  | .le => int2 x y fun a b => decide (a ≤ b)
  | .isIn => inV scr H x y
  | .notIn => (inV scr H x y).map (!·)

noncomputable def seqAt {α : Type} (l : List α) (k : Int) : Option α :=
  if 0 ≤ k then l[k.toNat]? else if -(l.length : Int) ≤ k then l[(k + l.length).toNat]? else none
noncomputable def idxV (scr : List Int) (x i : V) (H : Hp) : Option V := match i with
  | .int k => match itemsOf scr H x with
    | some vs => seqAt vs k
    | none => (dictAt' H x).bind fun es => dget es k
  | i => (pairOf i).bind fun q => (dicPAt H x).bind fun es => dget es q

noncomputable def sliceEnd (n : Nat) (d : Nat) : Option Int → Nat
  | none => d
  | some k => (max (0 : Int) (min (if k < 0 then k + n else k) n)).toNat
noncomputable def pySlice {α : Type} (l : List α) (lo hi : Option Int) : List α :=
  (l.take (sliceEnd l.length l.length hi)).drop (sliceEnd l.length 0 lo)
/-- None or an int -/
noncomputable def partOf : V → Option (Option Int)
  | .none => some none
  | .int k => if k.natAbs < 2 ^ 60 then some (some k) else none
  | _ => none

mutual
noncomputable def asg : Tgt → V → Env' → Option Env'
  | .var i, v, ρ => if i < ρ.length then some (ρ.set i (some v)) else none
  | .tup ts, .tup vs, ρ => asgs ts vs ρ
  | .tup _, _, _ => none
noncomputable def asgs : List Tgt → List V → Env' → Option Env'
  | [], [], ρ => some ρ
  | t :: ts, v :: vs, ρ => (asg t v ρ).bind (asgs ts vs)
  | _, _, _ => none
end

/-- x[i] = v; a table that is written to may be laid anew -/
noncomputable def WSet (x i v : V) (H : Hp) (k : Hp → Prop) : Prop := match x with
  | .ref l => wSome H[l]? fun c => match c with
    | .list xs => wInt i fun j => (0 ≤ j ∧ j < xs.length) ∧ k (H.set l (.list (xs.set j.toNat v)))
    | .dict _ es => wInt i fun j => wOk (szOk es) (∀ ep, k (H.set l (.dict ep (dput es j v))))
    | .dicP _ es => wSome (pairOf i) fun j => wOk (szOk es) (∀ ep, k (H.set l (.dicP ep (dput es j v))))
    | _ => False
  | _ => False
noncomputable def pairV (q : Int × Bool) : V := .tup [.int q.1, .bool q.2]
/-- the items of a list, a tuple, the script; the keys of a table -/
noncomputable def keysOf (scr : List Int) (H : Hp) (x : V) : Option (List V) := match dictAt' H x with
  | some es => some (es.map fun p => .int p.1)
  | none => match dicPAt H x with
    | some es => some (es.map fun p => pairV p.1)
    | none => itemsOf scr H x

/-- the items of list(x): of a list, of a tuple, the keys of a table of ints -/
noncomputable def copyOf (H : Hp) (x : V) : Option (List V) := match dictAt' H x with
  | some es => some (es.map fun p => .int p.1)
  | none => match tupOf x with
    | some vs => some vs
    | none => lstAt H x

/-- what is watched while a loop goes over it -/
noncomputable def watch : V → List Nat
  | .ref l => [l]
  | _ => []
noncomputable def stands (ws : List Nat) (H₀ H : Hp) : Bool := ws.all fun l => decide (H[l]? = H₀[l]?)

noncomputable def rangeV (a b : Int) : List V := (List.range (b - a).toNat).map fun (i : Nat) => .int (a + (i : Int))
noncomputable def enumV : Nat → List V → List V
  | _, [] => []
  | k, v :: r => .tup [.int k, v] :: enumV (k + 1) r
noncomputable def zipV : List V → List V → List V
  | a :: r, b :: t => .tup [a, b] :: zipV r t
  | _, _ => []
noncomputable def weight : Env' → Nat
  | [] => 1000
  | some (.int i) :: r => i.natAbs + weight r
  | _ :: r => weight r

abbrev PQ := V → Hp → Prop
noncomputable def newL (vs : List V) (H : Hp) (Q : PQ) : Prop := Q (.ref H.length) (H ++ [.list vs])
noncomputable def WAllocL (vs : List V) (H : Hp) (Q : PQ) : Prop := wOk (szOk vs) (newL vs H Q)
noncomputable def binI (op : BOp) (a b : Int) : Option Int := match op with
  | .add => some (a + b)
  | .sub => some (a - b)
  | .mul => if mulOk a b then some (a * b) else none
  | .fdiv => if b = 0 then none else some (a.fdiv b)
  | .mod => if b = 0 then none else some (a.fmod b)
noncomputable def WBin (op : BOp) (x y : V) (H : Hp) (Q : PQ) : Prop := match x with
  | .int a => wInt y fun b => wSome (binI op a b) fun i => Q (.int i) H
  | x => wOk (decide (op = .add)) (wSome (lstAt H x) fun xs => wSome (lstAt H y) fun ys => WAllocL (xs ++ ys) H Q)
noncomputable def isiV (H : Hp) (t : Ty) (x : V) : Option Bool := match x, t with
  | .bool _, .bool => some true
  | .bool _, .int => some true
  | .int _, .int => some true
  | .int _, .bool => some false
  | .tup _, .tuple => some true
  | .ref l, .list => (lstAt H (.ref l)).map fun _ => true
  | _, _ => none
noncomputable def allPairs : List V → Option (List (Int × Bool))
  | [] => some []
  | v :: r => (pairOf v).bind fun q => (allPairs r).map (q :: ·)
/-- sorted(set(x)): the pairs of x, each once, in some order -/
noncomputable def WSortS (x : V) (H : Hp) (Q : PQ) : Prop := wSome ((lstAt H x).bind allPairs) fun qs => (∀ rs : List (Int × Bool), rs.Nodup → (∀ q ∈ rs, q ∈ qs) → rs.length ≤ 60) ∧ ∀ rs : List (Int × Bool), rs.Nodup → (∀ q, q ∈ rs ↔ q ∈ qs) → newL (rs.map pairV) H Q
noncomputable def allLists (H : Hp) : List V → Option (List (List V))
  | [] => some []
  | v :: r => (lstAt H v).bind fun l => (allLists H r).map (l :: ·)
/-- sum(x, []) -/
noncomputable def WSumL (x d : V) (H : Hp) (Q : PQ) : Prop := wSome (lstAt H x) fun us => wSome (allLists H us) fun ll => lstAt H d = some [] ∧ wOk (szOk ll.flatten) (wNil ll (Q d H) (newL ll.flatten H Q))
/-- min(x) of ints, not empty -/
noncomputable def WMin (x : V) (H : Hp) (Q : PQ) : Prop := wSome (intsAt H x) fun is => wSome is.head? fun i => Q (.int (is.tail.foldl min i)) H
noncomputable def WBi (scr : List Int) (b : Bi) (vs : List V) (H : Hp) (Q : PQ) : Prop := match b with
  | .len => w1 vs fun x => wSome (itemsOf scr H x) fun l => Q (.int l.length) H
  | .isi t => w1 vs fun x => wSome (isiV H t x) fun b => Q (.bool b) H
  | .sumI => w1 vs fun x => wSome (intsAt H x) fun is => Q (.int is.sum) H
  | .sortI => w1 vs fun x => wSome (intsAt H x) fun is => is.length < 64 ∧ ∀ js : List Int, js.Perm is → js.Pairwise (· ≤ ·) → newL (js.map .int) H Q
  | .sumL => w2 vs fun x d => WSumL x d H Q
  | .minL => w1 vs fun x => WMin x H Q
/-- the object of a method's call, when it is fetched -/
noncomputable def meKind (m : Me) (H : Hp) (x : V) : Bool := match m with
  | .append => (lstAt H x).isSome
  | .get2 => (dictAt' H x).isSome
  | .clear => (lstAt H x).isSome
noncomputable def setL (x : V) (vs : List V) (H : Hp) (Q : PQ) : Prop := match x with
  | .ref l => Q .none (H.set l (.list vs))
  | _ => False
noncomputable def WMeth (m : Me) (x : V) (vs : List V) (H : Hp) (Q : PQ) : Prop := match m with
  | .append => wSome (lstAt H x) fun xs => w1 vs fun v => wOk (szOk xs) (setL x (xs ++ [v]) H Q)
  | .get2 => wSome (dictAt' H x) fun es => w2 vs fun k d => wInt k fun k => Q ((dget es k).getD d) H
  | .clear => wSome (lstAt H x) fun _ => wNil vs (setL x [] H Q) False
noncomputable def WSlc (scr : List Int) (x lo hi : V) (H : Hp) (Q : PQ) : Prop := wSome (partOf lo) fun l => wSome (partOf hi) fun h => match x with
  | .tup vs => wSome h fun k => wOk (l.isNone && decide (0 ≤ k)) (Q (.tup (vs.take k.toNat)) H)
  | x => wSome (itemsOf scr H x) fun vs => WAllocL (pySlice vs l h) H Q
noncomputable def wRange (x y : V) (f : List V → Prop) : Prop := wInt x fun i => wInt y fun j => (i.natAbs < 2 ^ 60 ∧ j.natAbs < 2 ^ 60) ∧ f (rangeV i j)
noncomputable def wThen (o : Out) (f : Env' → Hp → Prop) (A : Prop) : Prop := match o with | .next ρ H => f ρ H | .ret _ _ => A
noncomputable def retK (Q : PQ) (o : Out) : Prop := match o with | .ret v H => Q v H | .next _ H => Q .none H
/-- what a turn of a loop may come to -/
noncomputable def loopK (K : Out → Prop) (N : Env' → Hp → Prop) (o : Out) : Prop := match o with
  | .next ρ H => N ρ H
  | .ret v H => K (.ret v H)
/-- no exception -/
abbrev Ctx.no (C : Ctx) : Ctx := { C with exc := fun _ _ _ => False }
noncomputable def WCall (C : Ctx) (ρ : Env') (f : Nat) (vs : List V) (H : Hp) (Q : PQ) : Prop := ∃ Q₀ X₀, C.call f vs H Q₀ X₀ ∧ (∀ v H, Q₀ v H → Q v H) ∧ ∀ v H, X₀ v H → C.exc ρ v H
noncomputable def compW (ws : List Nat) (H₀ : Hp) (t : Tgt) (test : Env' → Hp → (Bool → Hp → Prop) → Prop) (elt : Env' → Hp → PQ → Prop) : List V → Env' → Hp → List V → (List V → Hp → Prop) → Prop
  | [], _, H, acc, Q => Q acc H
  | v :: vs, ρ, H, acc, Q => wSome (asg t v ρ) fun ρ' => test ρ' H fun b H₁ =>
      wIf b (elt ρ' H₁ fun y H₂ => stands ws H₀ H₂ = true ∧ compW ws H₀ t test elt vs ρ' H₂ (acc ++ [y]) Q) (stands ws H₀ H₁ = true ∧ compW ws H₀ t test elt vs ρ' H₁ acc Q)
noncomputable def forW (ws : List Nat) (H₀ : Hp) (t : Tgt) (body : Env' → Hp → (Out → Prop) → Prop) : List V → Env' → Hp → (Out → Prop) → Prop
  | [], ρ, H, K => K (.next ρ H)
  | v :: vs, ρ, H, K => wSome (asg t v ρ) fun ρ' => body ρ' H (loopK K fun ρ₁ H₁ => stands ws H₀ H₁ = true ∧ forW ws H₀ t body vs ρ₁ H₁ K)
noncomputable def whileW (test : Env' → Hp → (Bool → Hp → Prop) → Prop) (body : Env' → Hp → (Out → Prop) → Prop) : Nat → Env' → Hp → (Out → Prop) → Prop
  | 0, _, _, _ => False
  | n + 1, ρ, H, K => test ρ H fun b H => wIf b (body ρ H (loopK K fun ρ₁ H₁ => whileW test body n ρ₁ H₁ K)) (K (.next ρ H))

mutual
noncomputable def WE : Ctx → E → Env' → Hp → PQ → Prop
  | _, .k v, _, H, Q => Q v H
  | _, .var i, ρ, H, Q => wSome (ρ[i]?.join) fun v => Q v H
  | C, .bin op a b, ρ, H, Q => WE C a ρ H fun x H => WE C b ρ H fun y H => WBin op x y H Q
  | C, .neg a, ρ, H, Q => WE C a ρ H fun x H => wInt x fun i => Q (.int (-i)) H
  | C, .not a, ρ, H, Q => WE C a ρ H fun x H => wSome (truthy H x) fun b => Q (.bool (!b)) H
  | C, .and es, ρ, H, Q => WAnd C true es ρ H Q
  | C, .or es, ρ, H, Q => WAnd C false es ρ H Q
  | C, .cmp op a b, ρ, H, Q => WE C a ρ H fun x H => WE C b ρ H fun y H => wSome (cmpV C.scr op x y H) fun t => Q (.bool t) H
  | C, .isNone w a, ρ, H, Q => WE C a ρ H fun x H => Q (.bool (isNoneV x == w)) H
  | C, .tup es, ρ, H, Q => WEs C es ρ H fun vs H => Q (.tup vs) H
  | C, .lst es, ρ, H, Q => WEs C es ρ H fun vs H => newL vs H Q
  | C, .idx a i, ρ, H, Q => WE C a ρ H fun x H => WE C i ρ H fun y H => wSome (idxV C.scr x y H) fun v => Q v H
  | C, .slc a lo hi, ρ, H, Q => WE C a ρ H fun x H => WO C lo ρ H fun l H => WO C hi ρ H fun h H => WSlc C.scr x l h H Q
  | C, .call f es, ρ, H, Q => WEs C es ρ H fun vs H => WCall C ρ f vs H Q
  | C, .bi b es, ρ, H, Q => WEs C es ρ H fun vs H => WBi C.scr b vs H Q
  | C, .meth m a es, ρ, H, Q => WE C a ρ H fun x H => wOk (meKind m H x) (WEs C es ρ H fun vs H => WMeth m x vs H Q)
  | C, .comp nl elt t it cs, ρ, H, Q => WIt C it ρ H fun p H => wOk (szOk p.1) (compW p.2 H t (fun ρ H Q => WT C.no cs ρ H Q) (fun ρ H Q => WE C.no elt ρ H Q) p.1 (List.replicate nl none ++ ρ) H [] fun vs H => newL vs H Q)
  | C, .listOf e, ρ, H, Q => WE C e ρ H fun x H => wSome (copyOf H x) fun vs => WAllocL vs H Q
  | C, .listR e, ρ, H, Q => WE C e ρ H fun x H => wInt x fun j => (0 ≤ j ∧ j < 16000000) ∧ newL (rangeV 0 j) H Q
  | _, .dct0, _, H, Q => Q (.ref H.length) (H ++ [.dict 0 []])
  | _, .dctP, _, H, Q => Q (.ref H.length) (H ++ [.dicP 0 []])
  | C, .dctP1 a b, ρ, H, Q => WE C a ρ (H ++ [.dicP 0 []]) fun x H1 => WE C b ρ H1 fun y H2 => wSome (pairOf x) fun k => H2[H.length]? = some (.dicP 0 []) ∧ ∀ ep, Q (.ref H.length) (H2.set H.length (.dicP ep [(k, y)]))
  | C, .dct1 a b, ρ, H, Q => WE C a ρ (H ++ [.dict 0 []]) fun x H1 => WE C b ρ H1 fun y H2 => wInt x fun k => H2[H.length]? = some (.dict 0 []) ∧ ∀ ep, Q (.ref H.length) (H2.set H.length (.dict ep [(k, y)]))
  | C, .sortK a i, ρ, H, Q => WE C a ρ H fun x H => wSome (lstAt H x) fun vs => (vs.length < 64 ∧ H[0]? = some .tab) ∧ (∀ v ∈ vs, wSome (ρ[i]?.join) fun x => wSome (idxV C.scr x v H) fun y => wSome (idxV C.scr y (.int 0) H) fun k => wInt k fun _ => True) ∧ ∀ ws : List V, ws.Perm vs → newL ws H Q
  | C, .dctP2 a b c d, ρ, H, Q => WE C a ρ (H ++ [.dicP 0 []]) fun x H1 => WE C b ρ H1 fun y H2 => WE C c ρ H2 fun x' H3 => WE C d ρ H3 fun y' H4 => H4[H.length]? = some (.dicP 0 []) ∧ wSome (pairOf x) fun k => wSome (pairOf x') fun k' => ∀ ep, Q (.ref H.length) (H4.set H.length (.dicP ep (dput [(k, y)] k' y')))
  | C, .sortS a, ρ, H, Q => WE C a ρ H fun x H => WSortS x H Q
noncomputable def WEs : Ctx → List E → Env' → Hp → (List V → Hp → Prop) → Prop
  | _, [], _, H, Q => Q [] H
  | C, e :: r, ρ, H, Q => WE C e ρ H fun v H => WEs C r ρ H fun vs H => Q (v :: vs) H
noncomputable def WO : Ctx → Option E → Env' → Hp → PQ → Prop
  | _, none, _, H, Q => Q .none H
  | C, some e, ρ, H, Q => WE C e ρ H Q
/-- `and` (w = true), `or` -/
noncomputable def WAnd : Ctx → Bool → List E → Env' → Hp → PQ → Prop
  | _, _, [], _, _, _ => False
  | C, w, e :: r, ρ, H, Q => WE C e ρ H fun x H => wNil r (Q x H) (wSome (truthy H x) fun t => wIf (t == w) (WAnd C w r ρ H Q) (Q x H))
noncomputable def WT : Ctx → List E → Env' → Hp → (Bool → Hp → Prop) → Prop
  | _, [], _, H, Q => Q true H
  | C, e :: r, ρ, H, Q => WE C e ρ H fun x H => wSome (truthy H x) fun t => wIf t (WT C r ρ H Q) (Q false H)
noncomputable def WIt : Ctx → It → Env' → Hp → (List V × List Nat → Hp → Prop) → Prop
  | C, .of e, ρ, H, Q => WE C e ρ H fun x H => wSome (keysOf C.scr H x) fun vs => Q (vs, watch x) H
  | C, .range a b, ρ, H, Q => WE C a ρ H fun x H => WE C b ρ H fun y H => wRange x y fun l => Q (l, []) H
  | C, .enum e, ρ, H, Q => WE C e ρ H fun x H => wSome (lstAt H x) fun vs => Q (enumV 0 vs, watch x) H
  | C, .zip a b, ρ, H, Q => WE C a ρ H fun x H => WE C b ρ H fun y H => wSome (lstAt H x) fun vs => wSome (lstAt H y) fun us => vs.length ≤ us.length ∧ Q (zipV vs us, H.length :: (watch x ++ watch y)) (H ++ [.hid])
end
/-- a test -/
noncomputable def WTr (C : Ctx) (e : E) (ρ : Env') (H : Hp) (Q : Bool → Hp → Prop) : Prop := WE C e ρ H fun x H => wSome (truthy H x) fun t => Q t H
mutual
noncomputable def WS : Ctx → S → Env' → Hp → (Out → Prop) → Prop
  | C, .expr e, ρ, H, K => WE C e ρ H fun _ H => K (.next ρ H)
  | C, .asg t e, ρ, H, K => WE C e ρ H fun v H => wSome (asg t v ρ) fun ρ' => K (.next ρ' H)
  | C, .setIdx a i e, ρ, H, K => WE C e ρ H fun v H => WE C a ρ H fun x H => WE C i ρ H fun k H => WSet x k v H fun H' => K (.next ρ H')
  | C, .ret e, ρ, H, K => WE C e ρ H fun v H => K (.ret v H)
  | C, .ife c a b, ρ, H, K => WTr C c ρ H fun t H => wIf t (WSs C a ρ H K) (WSs C b ρ H K)
  | C, .for t it body, ρ, H, K => WIt C it ρ H fun p H => forW p.2 H t (fun ρ H K => WSs C.no body ρ H K) p.1 ρ H K
  | C, .while c body, ρ, H, K => whileW (fun ρ H Q => WTr C.no c ρ H Q) (fun ρ H K => WSs C.no body ρ H K) (weight ρ) ρ H K
noncomputable def WSs : Ctx → List S → Env' → Hp → (Out → Prop) → Prop
  | _, [], ρ, H, K => K (.next ρ H)
  | C, s :: r, ρ, H, K => WS C s ρ H fun o => wThen o (fun ρ H => WSs C r ρ H K) (K o)
end

/-- what is the same for a whole law -/
structure Prg where
  scr : List Int
  gks : List V
  fns : List Fn
/-- a call with `n` levels of room -/
noncomputable def callX (P : Prg) : Nat → Nat → List V → Hp → PQ → PQ → Prop
  | 0, _, _, _, _, _ => False
  | n + 1, f, vs, H, Q, X => wSome P.fns[f]? fun d => (vs.length = d.np ∧ d.np ≠ 999) ∧ WSs ⟨P.scr, P.gks, callX P n, fun _ _ _ => False⟩ d.body (vs.map some ++ List.replicate d.nl none) H (retK Q)
end Mine

end
section
set_option autoImplicit false
set_option linter.unusedVariables false
set_option linter.unusedSimpArgs false
namespace Mine
open PySem

/-- the text's own names: defs, constants, exception classes -/
structure CK where
  fns : List Str
  gks : List Str
  exs : List Str
  /-- the def that holds the lambda, and the lambda's place -/
  lfn : Str
  ln : Nat
  lm : Nat

noncomputable def isVarK : Option NameKind → Bool
  | some .local => true
  | some .cell => true
  | some .free => true
  | _ => false
noncomputable def isOwnK : Option NameKind → Bool
  | some .local => true
  | some .cell => true
  | _ => false
noncomputable def okVar (ns : List Str) (i : Nat) (x : Str) : Bool := decide (ns.idxOf x = i) && decide (i < ns.length)
noncomputable def okGlob (sc : Scope) (x : Str) : Bool := decide (sc.names.lookup x = some .globalImplicit) && !(x == ("__debug__" : Str))

noncomputable def cOf : V → Option Const
  | .none => some .none
  | .bool b => some (.bool b)
  | .int i => some (.int i)
  | _ => none
noncomputable def opOf : BOp → Operator
  | .add => .Add
  | .sub => .Sub
  | .mul => .Mult
  | .fdiv => .FloorDiv
  | .mod => .Mod
noncomputable def copOf : COp → CmpOp
  | .eq => .Eq
  | .ne => .NotEq
  | .lt => .Lt
  | .le => .LtE
  | .gt => .Gt
  | .isIn => .In
  | .notIn => .NotIn
noncomputable def tyName : Ty → String
  | .int => "int"
  | .bool => "bool"
  | .tuple => "tuple"
  | .list => "list"
/-- built-ins called by their own name with plain arguments -/
noncomputable def biName : Bi → Option (Str × Nat)
  | .len => some ("len", 1)
  | .sumI => some ("sum", 1)
  | .sortI => some ("sorted", 1)
  | .sumL => some ("sum", 2)
  | .minL => some ("min", 1)
  | _ => none
noncomputable def meName : Me → Str × Nat
  | .append => ("append", 1)
  | .get2 => ("get", 2)
  | .clear => ("clear", 0)
noncomputable def isNameE (x : Expr) : Bool := decide (x.ctorIdx = 23)
noncomputable def isTupE (x : Expr) : Bool := decide (x.ctorIdx = 25)

theorem got {c : Prop} [i : Decidable c] {t : c → Bool} (h : (if hc : c then t hc else false) = true) : c :=
  match i, h with
  | .isTrue hc, _ => hc
theorem andk {a b : Bool} {G : Prop} (h : (a && b) = true) (k : a = true → b = true → G) : G := k (Bool.and_eq_true_iff.mp h).1 (Bool.and_eq_true_iff.mp h).2
noncomputable def ifConst (x : Expr) (f : Const → Bool) : Bool := if h : x.ctorIdx = 19 then Expr.Constant.elim (motive_1 := fun _ => Bool) x h (fun c _ _ => f c) else false
theorem ifConst.k {G : Expr → Prop} {x : Expr} {f : Const → Bool} (h : ifConst x f = true) (k : ∀ a0 a1 a2, f a0 = true → G (.Constant a0 a1 a2)) : G x :=
  Expr.Constant.elim (motive_1 := fun x => ifConst x f = true → G x) x (got h) k h
noncomputable def ifName (x : Expr) (f : Str → Bool) : Bool := if h : x.ctorIdx = 23 then Expr.Name.elim (motive_1 := fun _ => Bool) x h (fun y _ => f y) else false
theorem ifName.k {G : Expr → Prop} {x : Expr} {f : Str → Bool} (h : ifName x f = true) (k : ∀ a0 a1, f a0 = true → G (.Name a0 a1)) : G x :=
  Expr.Name.elim (motive_1 := fun x => ifName x f = true → G x) x (got h) k h
noncomputable def ifBin (x : Expr) (f : Expr → Operator → Expr → Bool) : Bool := if h : x.ctorIdx = 2 then Expr.BinOp.elim (motive_1 := fun _ => Bool) x h (fun l o r _ => f l o r) else false
theorem ifBin.k {G : Expr → Prop} {x : Expr} {f : Expr → Operator → Expr → Bool} (h : ifBin x f = true) (k : ∀ a0 a1 a2 a3, f a0 a1 a2 = true → G (.BinOp a0 a1 a2 a3)) : G x :=
  Expr.BinOp.elim (motive_1 := fun x => ifBin x f = true → G x) x (got h) k h
noncomputable def ifUn (x : Expr) (f : UnaryOp → Expr → Bool) : Bool := if h : x.ctorIdx = 3 then Expr.UnaryOp.elim (motive_1 := fun _ => Bool) x h (fun o y _ => f o y) else false
theorem ifUn.k {G : Expr → Prop} {x : Expr} {f : UnaryOp → Expr → Bool} (h : ifUn x f = true) (k : ∀ a0 a1 a2, f a0 a1 = true → G (.UnaryOp a0 a1 a2)) : G x :=
  Expr.UnaryOp.elim (motive_1 := fun x => ifUn x f = true → G x) x (got h) k h
noncomputable def ifBool (x : Expr) (f : BoolOp → List Expr → Bool) : Bool := if h : x.ctorIdx = 0 then Expr.BoolOp.elim (motive_1 := fun _ => Bool) x h (fun o ys _ => f o ys) else false
theorem ifBool.k {G : Expr → Prop} {x : Expr} {f : BoolOp → List Expr → Bool} (h : ifBool x f = true) (k : ∀ a0 a1 a2, f a0 a1 = true → G (.BoolOp a0 a1 a2)) : G x :=
  Expr.BoolOp.elim (motive_1 := fun x => ifBool x f = true → G x) x (got h) k h
noncomputable def ifLam (x : Expr) (f : Arguments → Expr → Scope → Pos → Bool) : Bool := if h : x.ctorIdx = 4 then Expr.Lambda.elim (motive_1 := fun _ => Bool) x h (fun a b c p => f a b c p) else false
theorem ifLam.k {G : Expr → Prop} {x : Expr} {f : Arguments → Expr → Scope → Pos → Bool} (h : ifLam x f = true) (k : ∀ a0 a1 a2 a3, f a0 a1 a2 a3 = true → G (.Lambda a0 a1 a2 a3)) : G x :=
  Expr.Lambda.elim (motive_1 := fun x => ifLam x f = true → G x) x (got h) k h
noncomputable def ifCmp (x : Expr) (f : Expr → List CmpOp → List Expr → Bool) : Bool := if h : x.ctorIdx = 15 then Expr.Compare.elim (motive_1 := fun _ => Bool) x h (fun l os rs _ => f l os rs) else false
theorem ifCmp.k {G : Expr → Prop} {x : Expr} {f : Expr → List CmpOp → List Expr → Bool} (h : ifCmp x f = true) (k : ∀ a0 a1 a2 a3, f a0 a1 a2 = true → G (.Compare a0 a1 a2 a3)) : G x :=
  Expr.Compare.elim (motive_1 := fun x => ifCmp x f = true → G x) x (got h) k h
noncomputable def ifTuple (x : Expr) (f : List Expr → Bool) : Bool := if h : x.ctorIdx = 25 then Expr.Tuple.elim (motive_1 := fun _ => Bool) x h (fun ys _ _ => f ys) else false
theorem ifTuple.k {G : Expr → Prop} {x : Expr} {f : List Expr → Bool} (h : ifTuple x f = true) (k : ∀ a0 a1 a2, f a0 = true → G (.Tuple a0 a1 a2)) : G x :=
  Expr.Tuple.elim (motive_1 := fun x => ifTuple x f = true → G x) x (got h) k h
noncomputable def ifList (x : Expr) (f : List Expr → Bool) : Bool := if h : x.ctorIdx = 24 then Expr.List.elim (motive_1 := fun _ => Bool) x h (fun ys _ => f ys) else false
theorem ifList.k {G : Expr → Prop} {x : Expr} {f : List Expr → Bool} (h : ifList x f = true) (k : ∀ a0 a1, f a0 = true → G (.List a0 a1)) : G x :=
  Expr.List.elim (motive_1 := fun x => ifList x f = true → G x) x (got h) k h
noncomputable def ifSub (x : Expr) (f : Expr → Expr → Bool) : Bool := if h : x.ctorIdx = 21 then Expr.Subscript.elim (motive_1 := fun _ => Bool) x h (fun y z _ => f y z) else false
theorem ifSub.k {G : Expr → Prop} {x : Expr} {f : Expr → Expr → Bool} (h : ifSub x f = true) (k : ∀ a0 a1 a2, f a0 a1 = true → G (.Subscript a0 a1 a2)) : G x :=
  Expr.Subscript.elim (motive_1 := fun x => ifSub x f = true → G x) x (got h) k h
noncomputable def ifSlice (x : Expr) (f : Option Expr → Option Expr → Option Expr → Bool) : Bool := if h : x.ctorIdx = 26 then Expr.Slice.elim (motive_1 := fun _ => Bool) x h (fun l u t _ => f l u t) else false
theorem ifSlice.k {G : Expr → Prop} {x : Expr} {f : Option Expr → Option Expr → Option Expr → Bool} (h : ifSlice x f = true) (k : ∀ a0 a1 a2 a3, f a0 a1 a2 = true → G (.Slice a0 a1 a2 a3)) : G x :=
  Expr.Slice.elim (motive_1 := fun x => ifSlice x f = true → G x) x (got h) k h
noncomputable def ifCall (x : Expr) (f : Expr → List Expr → List Keyword → Pos → Bool) : Bool := if h : x.ctorIdx = 16 then Expr.Call.elim (motive_1 := fun _ => Bool) x h (fun g ys ks p => f g ys ks p) else false
theorem ifCall.k {G : Expr → Prop} {x : Expr} {f : Expr → List Expr → List Keyword → Pos → Bool} (h : ifCall x f = true) (k : ∀ a0 a1 a2 a3, f a0 a1 a2 a3 = true → G (.Call a0 a1 a2 a3)) : G x :=
  Expr.Call.elim (motive_1 := fun x => ifCall x f = true → G x) x (got h) k h
noncomputable def isBaseE (x : Expr) : Bool := decide (x.ctorIdx = 23) || (decide (x.ctorIdx = 21) || ifCall x fun g xs _ _ => isNameE g && !xs.isEmpty)
noncomputable def ifAttr (x : Expr) (f : Expr → Str → Pos → Bool) : Bool := if h : x.ctorIdx = 20 then Expr.Attribute.elim (motive_1 := fun _ => Bool) x h (fun o y p => f o y p) else false
theorem ifAttr.k {G : Expr → Prop} {x : Expr} {f : Expr → Str → Pos → Bool} (h : ifAttr x f = true) (k : ∀ a0 a1 a2, f a0 a1 a2 = true → G (.Attribute a0 a1 a2)) : G x :=
  Expr.Attribute.elim (motive_1 := fun x => ifAttr x f = true → G x) x (got h) k h
noncomputable def ifComp (x : Expr) (f : Expr → List Comprehension → Scope → Bool) : Bool := if h : x.ctorIdx = 8 then Expr.ListComp.elim (motive_1 := fun _ => Bool) x h (fun e gs c _ => f e gs c) else false
theorem ifComp.k {G : Expr → Prop} {x : Expr} {f : Expr → List Comprehension → Scope → Bool} (h : ifComp x f = true) (k : ∀ a0 a1 a2 a3, f a0 a1 a2 = true → G (.ListComp a0 a1 a2 a3)) : G x :=
  Expr.ListComp.elim (motive_1 := fun x => ifComp x f = true → G x) x (got h) k h
noncomputable def isExprS (x : Stmt) (f : Expr → Bool) : Bool := if h : x.ctorIdx = 24 then Stmt.Expr.elim (motive_2 := fun _ => Bool) x h (fun e _ => f e) else false
theorem isExprS.k {G : Stmt → Prop} {x : Stmt} {f : Expr → Bool} (h : isExprS x f = true) (k : ∀ a0 a1, f a0 = true → G (.Expr a0 a1)) : G x :=
  Stmt.Expr.elim (motive_2 := fun x => isExprS x f = true → G x) x (got h) k h
noncomputable def isAssign (x : Stmt) (f : List Expr → Expr → Bool) : Bool := if h : x.ctorIdx = 5 then Stmt.Assign.elim (motive_2 := fun _ => Bool) x h (fun ts e _ => f ts e) else false
theorem isAssign.k {G : Stmt → Prop} {x : Stmt} {f : List Expr → Expr → Bool} (h : isAssign x f = true) (k : ∀ a0 a1 a2, f a0 a1 = true → G (.Assign a0 a1 a2)) : G x :=
  Stmt.Assign.elim (motive_2 := fun x => isAssign x f = true → G x) x (got h) k h
noncomputable def isReturn (x : Stmt) (f : Option Expr → Bool) : Bool := if h : x.ctorIdx = 3 then Stmt.Return.elim (motive_2 := fun _ => Bool) x h (fun e _ => f e) else false
theorem isReturn.k {G : Stmt → Prop} {x : Stmt} {f : Option Expr → Bool} (h : isReturn x f = true) (k : ∀ a0 a1, f a0 = true → G (.Return a0 a1)) : G x :=
  Stmt.Return.elim (motive_2 := fun x => isReturn x f = true → G x) x (got h) k h
noncomputable def isIf (x : Stmt) (f : Expr → List Stmt → List Stmt → Bool) : Bool := if h : x.ctorIdx = 12 then Stmt.If.elim (motive_2 := fun _ => Bool) x h (fun t a b _ => f t a b) else false
theorem isIf.k {G : Stmt → Prop} {x : Stmt} {f : Expr → List Stmt → List Stmt → Bool} (h : isIf x f = true) (k : ∀ a0 a1 a2 a3, f a0 a1 a2 = true → G (.If a0 a1 a2 a3)) : G x :=
  Stmt.If.elim (motive_2 := fun x => isIf x f = true → G x) x (got h) k h
noncomputable def isFor (x : Stmt) (f : Expr → Expr → List Stmt → List Stmt → Bool) : Bool := if h : x.ctorIdx = 9 then Stmt.For.elim (motive_2 := fun _ => Bool) x h (fun t i a b _ => f t i a b) else false
theorem isFor.k {G : Stmt → Prop} {x : Stmt} {f : Expr → Expr → List Stmt → List Stmt → Bool} (h : isFor x f = true) (k : ∀ a0 a1 a2 a3 a4, f a0 a1 a2 a3 = true → G (.For a0 a1 a2 a3 a4)) : G x :=
  Stmt.For.elim (motive_2 := fun x => isFor x f = true → G x) x (got h) k h
noncomputable def isWhile (x : Stmt) (f : Expr → List Stmt → List Stmt → Bool) : Bool := if h : x.ctorIdx = 11 then Stmt.While.elim (motive_2 := fun _ => Bool) x h (fun t a b _ => f t a b) else false
theorem isWhile.k {G : Stmt → Prop} {x : Stmt} {f : Expr → List Stmt → List Stmt → Bool} (h : isWhile x f = true) (k : ∀ a0 a1 a2 a3, f a0 a1 a2 = true → G (.While a0 a1 a2 a3)) : G x :=
  Stmt.While.elim (motive_2 := fun x => isWhile x f = true → G x) x (got h) k h
noncomputable def ifDict (x : Expr) (f : List (Option Expr) → List Expr → Bool) : Bool := if h : x.ctorIdx = 6 then Expr.Dict.elim (motive_1 := fun _ => Bool) x h (fun a b _ => f a b) else false
theorem ifDict.k {G : Expr → Prop} {x : Expr} {f : List (Option Expr) → List Expr → Bool} (h : ifDict x f = true) (k : ∀ a0 a1 a2, f a0 a1 = true → G (.Dict a0 a1 a2)) : G x :=
  Expr.Dict.elim (motive_1 := fun x => ifDict x f = true → G x) x (got h) k h

noncomputable def if1 {α : Type} (l : List α) (f : α → Bool) : Bool := match l with
  | [a] => f a
  | _ => false
noncomputable def if2 {α : Type} (l : List α) (f : α → α → Bool) : Bool := match l with
  | [a, b] => f a b
  | _ => false
noncomputable def ifCons {α : Type} (l : List α) (f : α → List α → Bool) : Bool := match l with
  | a :: r => f a r
  | _ => false
noncomputable def ifSome {α : Type} (l : Option α) (f : α → Bool) : Bool := match l with
  | some a => f a
  | _ => false
theorem if1.k {α : Type} {G : List α → Prop} {l : List α} {f : α → Bool} (h : if1 l f = true) (k : ∀ a, f a = true → G [a]) : G l := by
  rcases l with _ | ⟨a, _ | ⟨b, l⟩⟩
  · exact Bool.noConfusion h
  · exact k a h
  · exact Bool.noConfusion h
theorem if2.k {α : Type} {G : List α → Prop} {l : List α} {f : α → α → Bool} (h : if2 l f = true) (k : ∀ a b, f a b = true → G [a, b]) : G l := by
  rcases l with _ | ⟨a, _ | ⟨b, _ | ⟨c, l⟩⟩⟩
  · exact Bool.noConfusion h
  · exact Bool.noConfusion h
  · exact k a b h
  · exact Bool.noConfusion h
theorem ifCons.k {α : Type} {G : List α → Prop} {l : List α} {f : α → List α → Bool} (h : ifCons l f = true) (k : ∀ a r, f a r = true → G (a :: r)) : G l := by
  cases l
  · exact Bool.noConfusion h
  · exact k _ _ h
theorem ifSome.k {α : Type} {G : Option α → Prop} {l : Option α} {f : α → Bool} (h : ifSome l f = true) (k : ∀ a, f a = true → G (some a)) : G l := by
  cases l
  · exact Bool.noConfusion h
  · exact k _ h
theorem nilk {α : Type} {G : List α → Prop} {l : List α} (h : l.isEmpty = true) (k : G []) : G l := by cases l; exact k; cases h
theorem nonek {α : Type} {G : Option α → Prop} {l : Option α} (h : l.isNone = true) (k : G none) : G l := by cases l; exact k; cases h
noncomputable def isZeroE (a : E) : Bool := if h : a.ctorIdx = 0 then E.k.elim (motive_1 := fun _ => Bool) a h (fun v => decide (intOf v = some 0)) else false
theorem none_some {P : Prop} {α : Type} {x : Option α} {y : α} (h : x = none) (h' : x = some y) : P := by rw [h] at h'; cases h'
theorem intOf.k {v : V} {i : Int} (h : intOf v = some i) (P : V → Prop) (k : P (.int i)) : P v :=
  V.casesOn (motive_1 := fun v => intOf v = some i → P v) v (fun h => none_some rfl h) (fun _ h => none_some rfl h) (fun _ h => Option.some.inj h ▸ k) (fun _ h => none_some rfl h) (fun _ h => none_some rfl h) (fun h => none_some rfl h) h
theorem isZeroE.k {a : E} {G : E → Prop} (h : isZeroE a = true) (k : G (.k (.int 0))) : G a :=
  E.k.elim (motive_1 := fun a => isZeroE a = true → G a) a (got h) (fun v h => intOf.k (of_decide_eq_true h) (fun v => G (.k v)) k) h
noncomputable def ifGen (g : Comprehension) (f : Expr → Expr → List Expr → Bool) : Bool := decide (g.is_async = 0) && f g.target g.iter g.ifs
theorem ifGen.k {G : Comprehension → Prop} {g : Comprehension} {f : Expr → Expr → List Expr → Bool} (h : ifGen g f = true) (k : ∀ tg it ifs, f tg it ifs = true → G ⟨tg, it, ifs, 0⟩) : G g := by
  obtain ⟨tg, it, ifs, a⟩ := g
  refine andk h fun h1 h2 => ?_
  obtain rfl : a = 0 := of_decide_eq_true h1
  exact k tg it ifs h2
noncomputable def ifKw (g : Keyword) (f : Str → Expr → Bool) : Bool := ifSome g.arg fun y => f y g.value
theorem ifKw.k {G : Keyword → Prop} {g : Keyword} {f : Str → Expr → Bool} (h : ifKw g f = true) (k : ∀ y v p, f y v = true → G ⟨some y, v, p⟩) : G g := by
  obtain ⟨n, v, p⟩ := g
  exact ifSome.k (G := fun n => G ⟨n, v, p⟩) h fun y h => k y v p h
mutual
noncomputable def chkT (sc : Scope) (ns : List Str) : Tgt → Expr → Bool
  | .var i, e => ifName e fun x => okVar ns i x && isOwnK (sc.names.lookup x)
  | .tup ts, e => ifTuple e fun es => chkTs sc ns ts es
noncomputable def chkTs (sc : Scope) (ns : List Str) : List Tgt → List Expr → Bool
  | [], es => es.isEmpty
  | t :: ts, es => ifCons es fun e es => chkT sc ns t e && chkTs sc ns ts es
end
noncomputable def nameOf (x : Expr) : List Str := if h : x.ctorIdx = 23 then Expr.Name.elim (motive_1 := fun _ => List Str) x h (fun y _ => [y]) else []
noncomputable def eltsOf (x : Expr) : List Expr := if h : x.ctorIdx = 25 then Expr.Tuple.elim (motive_1 := fun _ => List Expr) x h (fun y _ _ => y) else []
mutual
noncomputable def tNames : Tgt → Expr → List Str
  | .var _, e => nameOf e
  | .tup ts, e => tNamess ts (eltsOf e)
noncomputable def tNamess : List Tgt → List Expr → List Str
  | t :: ts, e :: es => tNames t e ++ tNamess ts es
  | _, _ => []
end
noncomputable def plainParams (a : Arguments) (ps : List Str) : Bool :=
  a.posonlyargs.isEmpty && (a.vararg.isNone && (a.kwonlyargs.isEmpty && (a.kw_defaults.isEmpty && (a.kwarg.isNone && (a.defaults.isEmpty && decide (a.args.map (·.arg) = ps))))))
noncomputable def isCellKB : Option NameKind → Bool
  | some .cell => true
  | some .free => true
  | _ => false
/-- a comprehension's own scope, within the scope around it -/
noncomputable def scIn (out : Scope) (ns : List Str) (loc : List Str) (sc : Scope) : Bool :=
  decide (sc.kind = .function) && (!sc.isGenerator && (!sc.isCoroutine && (decide ((sc.names.map (·.1)).Nodup) &&
  (sc.names.all (fun p => match p.2 with
    | .local => p.1 == (".0" : Str) || loc.contains p.1
    | .cell => false
    | .free => ns.contains p.1 && (!loc.contains p.1 && isCellKB (out.names.lookup p.1))
    | .globalImplicit => true
    | .globalExplicit => false) &&
  (loc.all (fun x => decide (sc.names.lookup x = some .local)) && (!ns.contains (".0" : Str) && (sc.names.lookup mk).isNone))))))
noncomputable def tgOk (it : It) (tg : Expr) : Bool := match it with
  | .enum _ => isTupE tg
  | .zip _ _ => isTupE tg
  | _ => isTupE tg || isNameE tg
noncomputable def chkVar (sc : Scope) (ns : List Str) (i : Nat) (x : Str) : Bool := okVar ns i x && (isVarK (sc.names.lookup x) && (!(x == ("__debug__" : Str)) && !(x == ("__classdict__" : Str))))
/-- lambda k: x[k][0] -/
noncomputable def chkKey (cs : Scope) (ns : List Str) (i : Nat) (b : Expr) : Bool := ifSub b fun y z => ifConst z (fun c => decide (cOf (.int 0) = some c)) && ifSub y fun u v => ifName u (chkVar cs ns (i + 1)) && ifName v (chkVar cs ns 0)
noncomputable def chkLam (K : CK) (sc : Scope) (ns : List Str) (i : Nat) (v : Expr) : Bool := ifLam v fun ps b cs p => decide (p.line = K.ln) && (decide (p.col = K.lm) && if1 ps.args fun q => plainParams ps [q.arg] && (scIn sc ns [q.arg] cs && chkKey cs (q.arg :: ns) i b))
/-- the name of a thing of the text's top or a built-in -/
noncomputable def isGl (sc : Scope) (nm : Str) (g : Expr) : Bool := ifName g fun x => (x == nm) && okGlob sc nm
mutual
noncomputable def chkE (K : CK) (sc : Scope) (ns : List Str) : E → Expr → Bool
  | .k v, x => ifConst x fun c => decide (cOf v = some c)
  | .var i, x => ifName x (chkVar sc ns i)
  | .bin op a b, x => ifBin x fun l o r => decide (o = opOf op) && (chkE K sc ns a l && chkE K sc ns b r)
  | .neg a, x => ifUn x fun o y => decide (o = .USub) && chkE K sc ns a y
  | .not a, x => ifUn x fun o y => decide (o = .Not) && chkE K sc ns a y
  | .and es, x => ifBool x fun o xs => decide (o = .And) && chkEs K sc ns es xs
  | .or es, x => ifBool x fun o xs => decide (o = .Or) && chkEs K sc ns es xs
  | .cmp op a b, x => ifCmp x fun l os rs => if1 os fun o => if1 rs fun r => decide (o = copOf op) && (chkE K sc ns a l && chkE K sc ns b r)
  | .isNone w a, x => ifCmp x fun l os rs => if1 os fun o => decide (o = if w then .Is else .IsNot) && if1 rs fun r => ifConst r fun c => decide (c = .none) && chkE K sc ns a l
  | .tup es, x => ifTuple x fun xs => decide (es.length < 1000) && chkEs K sc ns es xs
  | .lst es, x => ifList x fun xs => decide (es.length < 1000) && chkEs K sc ns es xs
  | .idx a i, x => ifSub x fun v s => chkE K sc ns a v && chkE K sc ns i s
  | .slc a lo hi, x => ifSub x fun v s => ifSlice s fun l u t => t.isNone && (chkE K sc ns a v && (chkO K sc ns lo l && chkO K sc ns hi u))
  | .call f es, x => ifCall x fun g xs kws _ => kws.isEmpty && ifName g fun x => decide (K.fns[f]? = some x) && (okGlob sc x && chkEs K sc ns es xs)
  | .bi b es, x => ifCall x fun g xs kws _ => match b with
      | .isi t => kws.isEmpty && (isGl sc "isinstance" g && if2 xs fun e nm => isGl sc (Str.ofString (tyName t)) nm && chkEs K sc ns es [e])
      | b => kws.isEmpty && ifSome (biName b) fun q => isGl sc q.1 g && (decide (xs.length = q.2) && chkEs K sc ns es xs)
  | .meth m a es, x => ifCall x fun g xs kws pos => kws.isEmpty && ifAttr g fun o y apos => (y == (meName m).1) && (isBaseE o && ((apos.endLine == pos.line) && (decide (xs.length = (meName m).2) && (chkE K sc ns a o && chkEs K sc ns es xs))))
  | .comp nl elt t it cs, x => ifComp x fun e gs cs' => if1 gs fun g => ifGen g fun tg iter ifs =>
    decide ((tNames t tg).length = nl) && (scIn sc ns (tNames t tg) cs' && (chkIt K sc ns it iter && (tgOk it tg && (chkT cs' (tNames t tg ++ ns) t tg && (chkE K cs' (tNames t tg ++ ns) elt e && chkEs K cs' (tNames t tg ++ ns) cs ifs)))))
  | .listOf a, x => ifCall x fun g xs kws _ => kws.isEmpty && (isGl sc "list" g && if1 xs fun e => chkE K sc ns a e)
  | .listR a, x => ifCall x fun g xs kws _ => kws.isEmpty && (isGl sc "list" g && if1 xs fun e => ifCall e fun g xs kws _ => kws.isEmpty && (isGl sc "range" g && if1 xs fun e => chkE K sc ns a e))
  | .dct0, x => ifDict x fun ks vs => ks.isEmpty && vs.isEmpty
  | .dctP, x => ifDict x fun ks vs => ks.isEmpty && vs.isEmpty
  | .dctP1 a b, x => ifDict x fun ks vs => if1 ks fun k => ifSome k fun k => if1 vs fun v => chkE K sc ns a k && chkE K sc ns b v
  | .dct1 a b, x => ifDict x fun ks vs => if1 ks fun k => ifSome k fun k => if1 vs fun v => chkE K sc ns a k && chkE K sc ns b v
  | .sortK a i, x => ifCall x fun g xs kws _ => isGl sc "sorted" g && ((sc.names.lookup mk).isSome && if1 xs fun e => if1 kws fun kw => ifKw kw fun y v => (y == ("key" : Str)) && (chkE K sc ns a e && chkLam K sc ns i v))
  | .dctP2 a b c d, x => ifDict x fun ks vs => if2 ks fun k k' => ifSome k fun k => ifSome k' fun k' => if2 vs fun v v' => chkE K sc ns a k && (chkE K sc ns b v && (chkE K sc ns c k' && chkE K sc ns d v'))
  | .sortS a, x => ifCall x fun g xs kws _ => kws.isEmpty && (isGl sc "sorted" g && if1 xs fun e => ifCall e fun g xs kws _ => kws.isEmpty && (isGl sc "set" g && if1 xs fun e => chkE K sc ns a e))
noncomputable def chkEs (K : CK) (sc : Scope) (ns : List Str) : List E → List Expr → Bool
  | [], xs => xs.isEmpty
  | e :: es, xs => ifCons xs fun x xs => chkE K sc ns e x && chkEs K sc ns es xs
noncomputable def chkO (K : CK) (sc : Scope) (ns : List Str) : Option E → Option Expr → Bool
  | none, x => x.isNone
  | some e, x => ifSome x fun x => chkE K sc ns e x
noncomputable def chkIt (K : CK) (sc : Scope) (ns : List Str) : It → Expr → Bool
  | .range a b, x => ifCall x fun g xs kws _ => kws.isEmpty && (isGl sc "range" g && (if1 xs (fun e => isZeroE a && chkE K sc ns b e) || if2 xs fun e1 e2 => chkE K sc ns a e1 && chkE K sc ns b e2))
  | .enum a, x => ifCall x fun g xs kws _ => kws.isEmpty && (isGl sc "enumerate" g && if1 xs fun e => chkE K sc ns a e)
  | .zip a b, x => ifCall x fun g xs kws _ => kws.isEmpty && (isGl sc "zip" g && if2 xs fun e1 e2 => chkE K sc ns a e1 && chkE K sc ns b e2)
  | .of e, x => chkE K sc ns e x
end
noncomputable def noPair (a b : Expr) : Bool := !(isTupE a && isTupE b)
noncomputable def notComp (x : Expr) : Bool := decide (x.ctorIdx ≠ 8 ∧ x.ctorIdx ≠ 9 ∧ x.ctorIdx ≠ 10)
noncomputable def isCompE (e : E) : Bool := decide (e.ctorIdx = 16)
mutual
noncomputable def chkS (K : CK) (sc : Scope) (ns : List Str) : S → Stmt → Bool
  | .expr e, st => isExprS st fun x => notComp x && chkE K sc ns e x
  | .asg t e, st => isAssign st fun ts x => if1 ts fun tg => chkT sc ns t tg && (chkE K sc ns e x && ((isNameE tg && isCompE e || notComp x) && noPair tg x))
  | .setIdx a i e, st => isAssign st fun ts x => if1 ts fun tg => ifSub tg fun o j => notComp x && (chkE K sc ns a o && (chkE K sc ns i j && chkE K sc ns e x))
  | .ret e, st => isReturn st fun x => ifSome x fun x => chkE K sc ns e x
  | .ife c a b, st => isIf st fun t x y => chkE K sc ns c t && (chkSs K sc ns a x && chkSs K sc ns b y)
  | .for t it body, st => isFor st fun tg iter b o => o.isEmpty && (chkT sc ns t tg && (tgOk it tg && (chkIt K sc ns it iter && chkSs K sc ns body b)))
  | .while c body, st => isWhile st fun t b o => o.isEmpty && (chkE K sc ns c t && chkSs K sc ns body b)
noncomputable def chkSs (K : CK) (sc : Scope) (ns : List Str) : List S → List Stmt → Bool
  | [], ss => ss.isEmpty
  | s :: r, ss => ifCons ss fun x t => chkS K sc ns s x && chkSs K sc ns r t
end
/-- a def of the text, as far as a call reads it -/
structure Def where
  name : Str
  params : Arguments
  body : List Stmt
  scope : Scope
noncomputable def chkFn (K : CK) (d : Def) (ns : List Str) (f : Fn) : Bool :=
  decide (f.name = d.name) && (plainParams d.params (ns.take f.np) && (decide (ns.length = f.np + f.nl) && (decide ns.Nodup &&
  (decide (d.scope.kind = .function) && (!d.scope.isGenerator && (!d.scope.isCoroutine && (decide ((d.scope.names.map (·.1)).Nodup) &&
  (d.scope.names.all (fun p => decide (p.2 = .globalImplicit) || (isOwnK (some p.2) && ns.contains p.1)) &&
  (ns.all (fun x => isOwnK (d.scope.names.lookup x)) &&
  (chkSs K d.scope ns f.body d.body && (!(d.scope.names.lookup mk).isSome || d.name == K.lfn)))))))))))
noncomputable def defOfS (x : Stmt) : Option Def := if h : x.ctorIdx = 0 then Stmt.FunctionDef.elim (motive_2 := fun _ => Option Def) x h (fun n a b _ _ _ sc _ _ _ => some ⟨n, a, b, sc⟩) else none
noncomputable def defsOf (l : List Stmt) : List Def := l.filterMap defOfS
noncomputable def chkAll (K : CK) (ds : List Def) (nss : List (List Str)) (fs : List Fn) : Bool :=
  (List.range fs.length).all fun i => ifSome fs[i]? fun f => ifSome ds[i]? fun d => ifSome nss[i]? fun n => decide (f.np = 999) || chkFn K d n f
end Mine

end
section
set_option autoImplicit false
set_option linter.unusedVariables false
set_option linter.unusedSimpArgs false
namespace Mine
open PySem

abbrev tupObj (xs : List Value) (n : Nat) : Obj := { cls := .type "tuple", data := .seq xs.toArray n }
abbrev lstObj (xs : List Value) (n : Nat) : Obj := { cls := .type "list", data := .seq xs.toArray n }
abbrev tabObj (ps : Array Value) : Obj := { cls := .none, data := .fields ps }

/-- where the cells lie, and the heap -/
structure Ws where
  φ : List Addr
  h : Heap

mutual
/-- the value `x` stands for the abstract value -/
inductive Rep (scr : Addr) (p : Ws) : V → Value → Prop
  | none : Rep scr p .none .none
  | bool (b : Bool) : Rep scr p (.bool b) (.bool b)
  | int (i : Int) (t : Tok) : Rep scr p (.int i) (.int i t)
  | tup {a : Addr} {n : Nat} {vs : List V} {xs : List Value} : p.h.get? a = some (tupObj xs n) → RepL scr p vs xs → vs.length ≤ 16000000 → a ∉ p.φ → Rep scr p (.tup vs) (.ref a)
  | ref {l : Nat} {a : Addr} : p.φ[l]? = some a → Rep scr p (.ref l) (.ref a)
  | script : Rep scr p .script (.ref scr)
inductive RepL (scr : Addr) (p : Ws) : List V → List Value → Prop
  | nil : RepL scr p [] []
  | cons {v : V} {x : Value} {vs : List V} {xs : List Value} : Rep scr p v x → RepL scr p vs xs → RepL scr p (v :: vs) (x :: xs)
end
/-- what a value's standing for something gives -/
noncomputable def Rep.Inv (scr : Addr) (p : Ws) (P : Value → Prop) : V → Prop
  | .none => P .none
  | .bool b => P (.bool b)
  | .int i => ∀ t, P (.int i t)
  | .tup vs => ∀ a n xs, p.h.get? a = some (tupObj xs n) → RepL scr p vs xs → vs.length ≤ 16000000 → a ∉ p.φ → P (.ref a)
  | .ref l => ∀ a, p.φ[l]? = some a → P (.ref a)
  | .script => P (.ref scr)
theorem Rep.inv {scr : Addr} {p : Ws} {v : V} {x : Value} (r : Rep scr p v x) (P : Value → Prop) : Rep.Inv scr p P v → P x :=
  Rep.casesOn (motive_1 := fun v x _ => Rep.Inv scr p P v → P x) r (fun k => k) (fun _ k => k) (fun _ t k => k t) (fun e q z n k => k _ _ _ e q z n) (fun e k => k _ e) (fun k => k)
noncomputable def RepL.Inv (scr : Addr) (p : Ws) (P : List Value → Prop) : List V → Prop
  | [] => P []
  | v :: vs => ∀ x xs, Rep scr p v x → RepL scr p vs xs → P (x :: xs)
theorem RepL.inv {scr : Addr} {p : Ws} {vs : List V} {xs : List Value} (r : RepL scr p vs xs) (P : List Value → Prop) : RepL.Inv scr p P vs → P xs :=
  RepL.casesOn (motive_2 := fun vs xs _ => RepL.Inv scr p P vs → P xs) r (fun k => k) (fun a b k => k _ _ a b)
theorem RepL.ind {scr : Addr} {p : Ws} {M : List V → List Value → Prop} (n : M [] []) (c : ∀ {v x vs xs}, Rep scr p v x → RepL scr p vs xs → M vs xs → M (v :: vs) (x :: xs)) {vs : List V} {xs : List Value} (r : RepL scr p vs xs) : M vs xs :=
  RepL.rec (motive_1 := fun _ _ _ => True) (motive_2 := fun vs xs _ => M vs xs) trivial (fun _ => trivial) (fun _ _ => trivial) (fun _ _ _ _ _ => trivial) (fun _ => trivial) trivial n (fun a b _ m => c a b m) r

/-- frozen things: tuples, code -/
noncomputable def fz (o : Obj) : Bool := match o.data with
  | .seq _ _ => o.cls == .type "tuple"
  | .fields _ => o.cls == .type "code"
  | _ => false
theorem fz_dict {o : Obj} {es : Array DictEntry} {ep : Nat} (h : o.data = .dict es ep) : fz o = false := by unfold fz; rw [h]
theorem fz_cell {o : Obj} {v : Option Value} (h : o.data = .cell v) : fz o = false := by unfold fz; rw [h]
theorem fz_cls {o : Obj} {nm : String} (hc : o.cls = .type nm) (hn : (Value.type nm == .type "tuple") = false) (hn' : (Value.type nm == .type "code") = false) : fz o = false := by
  unfold fz; rw [hc, hn, hn']
  cases o.data <;> rfl
theorem no {P : Prop} {b : Bool} (h : b = true) (h' : b = false) : P := by rw [h] at h'; cases h'

/-- tables: the names of frames -/
noncomputable def isD (o : Obj) : Bool := match o.data with
  | .dict _ _ => true
  | _ => false
theorem fz_isD {o : Obj} (h : fz o = true) : isD o = false := by
  unfold fz at h; unfold isD
  cases e : o.data <;> rw [e] at h <;> first | rfl | cases h
/-- the same, but for the slots of a frame -/
noncomputable def Like (o o' : Obj) : Prop := o' = o ∨ (isD o = true ∧ ∃ sl, o' = { o with slots := sl })
theorem Like.trans {a b c : Obj} (h : Like a b) (k : Like b c) : Like a c :=
  h.elim (fun e => e ▸ k) fun h => h.2.elim fun sl e => k.elim (fun e' => .inr ⟨h.1, sl, e'.trans e⟩) fun k => k.2.elim fun sl' e' => .inr ⟨h.1, sl', by rw [e', e]⟩
theorem Like.eq {o o' : Obj} (h : Like o o') (hd : isD o = false) : o' = o := h.elim id fun h => no h.1 hd
theorem Like.data {o o' : Obj} (h : Like o o') : o'.data = o.data := h.elim (fun e => e ▸ rfl) fun h => h.2.elim fun _ e => e ▸ rfl
theorem Like.isD {o o' : Obj} (h : Like o o') : Mine.isD o' = Mine.isD o := by unfold Mine.isD; rw [h.data]
/-- tuples stay, cells stay at their places -/
structure Kp (p q : Ws) : Prop where
  pre : ∀ (l : Nat) (a : Addr), p.φ[l]? = some a → q.φ[l]? = some a
  fzk : ∀ a o, fz o = true → p.h.get? a = some o → a ∉ p.φ → q.h.get? a = some o ∧ a ∉ q.φ
/-- what may have happened: cells may change and come; else all is as it was, but for the own things -/
structure Stp (own : Addr → Prop) (p q : Ws) : Prop where
  pre : ∀ (l : Nat) (a : Addr), p.φ[l]? = some a → q.φ[l]? = some a
  keep : ∀ a o, p.h.get? a = some o → a ∉ p.φ → (own a → fz o = true) → ∃ o', q.h.get? a = some o' ∧ Like o o'
  fresh : ∀ a, a ∈ q.φ → a ∉ p.φ → p.h.get? a = none
  alive : ∀ a o, p.h.get? a = some o → ∃ o', q.h.get? a = some o' ∧ (a ∉ p.φ → isD o = true → isD o' = true)
abbrev Nope : Addr → Prop := fun _ => False
/-- all else stays -/
noncomputable def Ch (io : Addr → Prop) (h h' : Heap) : Prop := ∀ a o, h.get? a = some o → (io a → fz o = true) → h'.get? a = some o
noncomputable def Ext (h h' : Heap) : Prop := ∀ a o, h.get? a = some o → h'.get? a = some o

section
variable {own own' io : Addr → Prop} {scr : Addr} {p q r : Ws} {h h' : Heap} {a : Addr} {o : Obj}
theorem Ext.push (o : Obj) : Ext h (h.push o) := fun _ _ e => Heap.get?_push_of_some o e
theorem Ext.ch (e : Ext h h') : Ch io h h' := fun a o x _ => e a o x
theorem Ch.but {b : Addr} (e : Heap.ExtBut b h h') (hb : ∀ o, h.get? b = some o → fz o = false) : Ch (· = b) h h' := fun a o x hf => (Classical.em (a = b)).elim (fun e' => no (hf e') (hb o (e' ▸ x))) fun hn => e a o hn x
theorem Stp.refl : Stp own p p := ⟨fun _ _ e => e, fun _ o e _ _ => ⟨o, e, .inl rfl⟩, fun _ h1 h2 => absurd h1 h2, fun _ o e => ⟨o, e, fun _ h => h⟩⟩
theorem Stp.notMem (S : Stp own p q) (ho : p.h.get? a = some o) (ha : a ∉ p.φ) : a ∉ q.φ := fun hm => none_some (S.fresh a hm ha) ho
theorem Stp.dead (S : Stp own p q) (hn : q.h.get? a = none) : p.h.get? a = none := by
  cases e : p.h.get? a with
  | none => rfl
  | some o => exact (S.alive a o e).elim fun _ e' => none_some hn e'.1
theorem Like.fz {o o' : Obj} (h : Like o o') (hf : Mine.fz o = true) : Mine.fz o' = true := (h.eq (fz_isD hf)).symm ▸ hf
/-- what is no frame stays as it is -/
theorem Stp.same (S : Stp own p q) (e : p.h.get? a = some o) (hn : a ∉ p.φ) (h : own a → fz o = true) (hd : isD o = false) : q.h.get? a = some o := (S.keep a o e hn h).elim fun o' x => x.2.eq hd ▸ x.1
theorem Stp.trans (S : Stp own p q) (T : Stp own q r) : Stp own p r :=
  ⟨fun l a e => T.pre l a (S.pre l a e), fun a o e h1 h2 => (S.keep a o e h1 h2).elim fun o1 x => (T.keep a o1 x.1 (S.notMem e h1) fun h => x.2.fz (h2 h)).imp fun o2 y => ⟨y.1, x.2.trans y.2⟩, fun a h1 h2 => (Classical.em (a ∈ q.φ)).elim (fun h => S.fresh a h h2) fun h => S.dead (T.fresh a h1 h),
    fun a o e => (S.alive a o e).elim fun o1 x => (T.alive a o1 x.1).imp fun o2 y => ⟨y.1, fun h1 h2 => y.2 (S.notMem e h1) (x.2 h1 h2)⟩⟩
/-- other own things; those that were not there before don't count -/
theorem Stp.ow (S : Stp own p q) (hs : ∀ a, own a → own' a ∨ p.h.get? a = none) : Stp own' p q :=
  ⟨S.pre, fun a o e h1 h2 => S.keep a o e h1 fun hm => (hs a hm).elim h2 fun hn => none_some hn e, S.fresh, S.alive⟩
theorem Stp.nil (S : Stp Nope p q) : Stp own p q := S.ow fun _ h => h.elim
theorem Stp.ch (S : Stp own p q) (c : Ch io q.h h') (hio : ∀ a, io a → p.h.get? a = none ∨ own a ∧ ∃ o', h'.get? a = some o' ∧ ∀ o, q.h.get? a = some o → isD o = true → isD o' = true) : Stp own p ⟨q.φ, h'⟩ :=
  ⟨S.pre, fun a o e h1 h2 => (S.keep a o e h1 h2).imp fun o1 x => ⟨c a o1 x.1 fun hi => (hio a hi).elim (fun hn => none_some hn e) fun y => x.2.fz (h2 y.1), x.2⟩, S.fresh,
    fun a o e => (S.alive a o e).elim fun o1 x => (Classical.em (io a)).elim (fun hi => (hio a hi).elim (fun hn => none_some hn e) fun y => y.2.imp fun o2 z => ⟨z.1, fun h1 h2 => z.2 o1 x.1 (x.2 h1 h2)⟩) fun hn => ⟨o1, c a o1 x.1 fun hi => absurd hi hn, x.2⟩⟩
theorem Stp.ext (S : Stp own p q) (e : Ext q.h h') : Stp own p ⟨q.φ, h'⟩ := S.ch (io := Nope) e.ch fun _ h => h.elim
/-- a cell changed -/
theorem Stp.cell (S : Stp own p q) (ha : a ∈ q.φ) (e : Heap.ExtBut a q.h h') (ho : h'.get? a = some o) : Stp own p ⟨q.φ, h'⟩ :=
  ⟨S.pre, fun b o' x h1 h2 => (S.keep b o' x h1 h2).imp fun o1 y => ⟨e b o1 (fun e' => none_some (S.fresh b (e' ▸ ha) h1) x) y.1, y.2⟩, S.fresh,
    fun b o' x => (Classical.em (b = a)).elim (fun e' => ⟨o, e' ▸ ho, fun h1 _ => none_some (S.fresh b (e' ▸ ha) h1) x⟩) fun hn => (S.alive b o' x).imp fun o1 y => ⟨e b o1 hn y.1, y.2⟩⟩
/-- one more cell -/
theorem Stp.adopt {D : Addr} (S : Stp own p q) (hD : p.h.get? D = none) : Stp own p ⟨q.φ ++ [D], q.h⟩ :=
  ⟨fun l a e => by rw [List.getElem?_append_left (List.getElem?_eq_some_iff.mp (S.pre l a e)).1]; exact S.pre l a e, S.keep, fun a h1 h2 => (List.mem_append.mp h1).elim (fun h => S.fresh a h h2) fun h => List.mem_singleton.mp h ▸ hD, S.alive⟩
theorem Stp.kp (S : Stp own p q) : Kp p q := ⟨S.pre, fun a o z e hn => ⟨S.same e hn (fun _ => z) (fz_isD z), S.notMem e hn⟩⟩
theorem Ch.kp {φ : List Addr} (c : Ch io h h') : Kp ⟨φ, h⟩ ⟨φ, h'⟩ := ⟨fun _ _ e => e, fun a o z e hn => ⟨c a o e fun _ => z, hn⟩⟩
theorem Kp.refl : Kp p p := ⟨fun _ _ e => e, fun _ _ _ e hn => ⟨e, hn⟩⟩
theorem Kp.trans (S : Kp p q) (T : Kp q r) : Kp p r := ⟨fun l a e => T.pre l a (S.pre l a e), fun a o z e hn => have h := S.fzk a o z e hn; T.fzk a o z h.1 h.2⟩
/-- something that is no tuple becomes a cell -/
theorem Kp.adopt {D : Addr} {φ : List Addr} (hD : ∀ o, h.get? D = some o → fz o = false) : Kp ⟨φ, h⟩ ⟨φ ++ [D], h⟩ :=
  ⟨fun l a e => by rw [List.getElem?_append_left (List.getElem?_eq_some_iff.mp e).1]; exact e, fun a o z e hn => ⟨e, fun hm => (List.mem_append.mp hm).elim hn fun h => no z (hD o (List.mem_singleton.mp h ▸ e))⟩⟩
theorem Rep.kp (K : Kp p q) {v : V} {x : Value} (r : Rep scr p v x) : Rep scr q v x :=
  Rep.rec (motive_1 := fun v x _ => Rep scr q v x) (motive_2 := fun vs xs _ => RepL scr q vs xs) .none .bool .int (fun e _ z hn m => have h := K.fzk _ _ rfl e hn; .tup h.1 m z h.2) (fun e => .ref (K.pre _ _ e)) .script .nil (fun _ _ a b => .cons a b) r
theorem RepL.kp (K : Kp p q) {vs : List V} {xs : List Value} (r : RepL scr p vs xs) : RepL scr q vs xs :=
  RepL.ind (M := fun vs xs => RepL scr q vs xs) .nil (fun a _ m => .cons (a.kp K) m) r
theorem Rep.mono (S : Stp own p q) {v : V} {x : Value} (r : Rep scr p v x) : Rep scr q v x := r.kp S.kp
theorem RepL.mono (S : Stp own p q) {v : List V} {x : List Value} (r : RepL scr p v x) : RepL scr q v x := r.kp S.kp
end

section
variable {scr : Addr} {p : Ws} {vs ws : List V} {xs ys : List Value} {v : V} {x : Value}
theorem RepL.k1 (r : RepL scr p [v] xs) (T : List Value → Prop) (k : ∀ x, Rep scr p v x → T [x]) : T xs := r.inv T fun x _ r1 r2 => r2.inv (fun xs => T (x :: xs)) (k x r1)
theorem RepL.k2 {u : V} (r : RepL scr p [u, v] xs) (T : List Value → Prop) (k : ∀ x y, Rep scr p u x → Rep scr p v y → T [x, y]) : T xs := r.inv T fun x _ r1 r2 => r2.k1 (fun xs => T (x :: xs)) fun y r2 => k x y r1 r2
theorem RepL.length (r : RepL scr p vs xs) : vs.length = xs.length := RepL.ind (M := fun vs xs => vs.length = xs.length) rfl (fun _ _ m => congrArg (· + 1) m) r
theorem RepL.append (r : RepL scr p vs xs) (q : RepL scr p ws ys) : RepL scr p (vs ++ ws) (xs ++ ys) := RepL.ind (M := fun vs xs => RepL scr p (vs ++ ws) (xs ++ ys)) q (fun a _ m => .cons a m) r
theorem RepL.one (r : Rep scr p v x) : RepL scr p [v] [x] := .cons r .nil
theorem RepL.reverse (r : RepL scr p vs xs) : RepL scr p vs.reverse xs.reverse := RepL.ind (M := fun vs xs => RepL scr p vs.reverse xs.reverse) .nil (fun a _ m => by rw [List.reverse_cons, List.reverse_cons]; exact m.append (.one a)) r
theorem RepL.get' (r : RepL scr p vs xs) : ∀ {i : Nat} {v : V}, vs[i]? = some v → ∃ x, xs[i]? = some x ∧ Rep scr p v x :=
  RepL.ind (M := fun vs xs => ∀ {i : Nat} {v : V}, vs[i]? = some v → ∃ x, xs[i]? = some x ∧ Rep scr p v x) (fun e => none_some List.getElem?_nil e) (fun {_ x _ _} a _ m i => match i with | 0 => fun e => ⟨x, rfl, Option.some.inj e ▸ a⟩ | i + 1 => fun e => m (i := i) e) r
theorem RepL.get {P : Prop} {i : Nat} (r : RepL scr p vs xs) (e : vs[i]? = some v) (k : ∀ x, xs[i]? = some x → Rep scr p v x → P) : P := (r.get' e).elim fun x h => k x h.1 h.2
theorem RepL.take (r : RepL scr p vs xs) : ∀ k, RepL scr p (vs.take k) (xs.take k) :=
  RepL.ind (M := fun vs xs => ∀ k, RepL scr p (vs.take k) (xs.take k)) (fun k => by rw [List.take_nil, List.take_nil]; exact .nil) (fun a _ m k => match k with | 0 => .nil | k + 1 => .cons a (m k)) r
theorem RepL.drop (r : RepL scr p vs xs) : ∀ k, RepL scr p (vs.drop k) (xs.drop k) :=
  RepL.ind (M := fun vs xs => ∀ k, RepL scr p (vs.drop k) (xs.drop k)) (fun k => by rw [List.drop_nil, List.drop_nil]; exact .nil) (fun a b m k => match k with | 0 => .cons a b | k + 1 => m k) r
theorem RepL.set (r : RepL scr p vs xs) (q : Rep scr p v x) : ∀ k, RepL scr p (vs.set k v) (xs.set k x) :=
  RepL.ind (M := fun vs xs => ∀ k, RepL scr p (vs.set k v) (xs.set k x)) (fun _ => .nil) (fun a b m k => match k with | 0 => .cons q b | k + 1 => .cons a (m k)) r
end

/-- what stays the same through a whole run: the heap ahead of it, where the script lies, how keys are hashed -/
structure Wo where
  h₀ : Heap
  scr : Addr
  prog : Program
  w : World
  /-- the code of the def that holds the lambda, its table, the lambda's place and name -/
  lc : Addr
  lP : Addr
  ln : Nat
  lm : Nat
  lq : Str
  /-- the exception classes -/
  exc : List Addr

/-- two lists, item by item -/
inductive L2 {α β : Type} (M : α → β → Prop) : List α → List β → Prop
  | nil : L2 M [] []
  | cons {a : α} {b : β} {as : List α} {bs : List β} : M a b → L2 M as bs → L2 M (a :: as) (b :: bs)
section
variable {α β : Type} {M N : α → β → Prop} {as as' : List α} {bs bs' : List β}
theorem L2.imp (h : L2 M as bs) (k : ∀ a b, M a b → N a b) : L2 N as bs := h.rec .nil fun a _ m => .cons (k _ _ a) m
theorem L2.length (h : L2 M as bs) : as.length = bs.length := h.rec rfl fun _ _ m => congrArg (· + 1) m
theorem L2.snoc {a : α} {b : β} (h : L2 M as bs) (q : M a b) : L2 M (as ++ [a]) (bs ++ [b]) := h.rec (.cons q .nil) fun a _ m => .cons a m
theorem L2.map {f : α → α} {g : β → β} (h : L2 M as bs) (k : ∀ a b, M a b → M (f a) (g b)) : L2 M (as.map f) (bs.map g) := h.rec .nil fun a _ m => .cons (k _ _ a) m
theorem L2.any {f : α → Bool} {g : β → Bool} (h : L2 M as bs) (k : ∀ a b, M a b → f a = g b) : as.any f = bs.any g := h.rec rfl fun a _ m => by rw [List.any_cons, List.any_cons, k _ _ a, m]
theorem L2.get (h : L2 M as bs) : ∀ {i : Nat} {a : α} {b : β}, as[i]? = some a → bs[i]? = some b → M a b := by
  induction h with
  | nil => exact fun e _ => none_some List.getElem?_nil e
  | cons q _ m =>
    intro i
    cases i with
    | zero => exact fun e e' => Option.some.inj e ▸ Option.some.inj e' ▸ q
    | succ i => exact fun e e' => m (i := i) e e'
theorem L2.find {f : α → Bool} {g : β → Bool} (h : L2 M as bs) (k : ∀ a b, M a b → f a = g b) : (as.find? f = none ∧ bs.find? g = none) ∨ ∃ a b, as.find? f = some a ∧ bs.find? g = some b ∧ M a b :=
  h.rec (.inl ⟨rfl, rfl⟩) fun {a b _ _} q _ m => by
    rw [List.find?_cons, List.find?_cons, k _ _ q]
    cases g b with
    | true => exact .inr ⟨a, b, rfl, rfl, q⟩
    | false => exact m
end
/-- an entry of a table whose keys are ints; whose keys are pairs -/
noncomputable def KvR (scr : Addr) (p : Ws) (e : Int × V) (kv : Int × Value) : Prop := e.1 = kv.1 ∧ Rep scr p e.2 kv.2
noncomputable def KpR (scr : Addr) (p : Ws) (e : (Int × Bool) × V) (kv : List Int × Addr × Value) : Prop := kv.1 = [e.1.1, if e.1.2 then 1 else 0] ∧ Rep scr p (pairV e.1) (.ref kv.2.1) ∧ Rep scr p e.2 kv.2.2
theorem KvR.kp {scr : Addr} {p q : Ws} (K : Kp p q) (e : Int × V) (kv : Int × Value) (h : KvR scr p e kv) : KvR scr q e kv := ⟨h.1, h.2.kp K⟩
theorem KpR.kp {scr : Addr} {p q : Ws} (K : Kp p q) (e : (Int × Bool) × V) (kv : List Int × Addr × Value) (h : KpR scr p e kv) : KpR scr q e kv := ⟨h.1, h.2.1.kp K, h.2.2.kp K⟩

/-- ints and bools as parts of a key -/
noncomputable def ibIs (k : Int) : Value → Bool
  | .int i _ => i == k
  | .bool b => (if b then (1 : Int) else 0) == k
  | _ => false
end Mine

end
section
set_option autoImplicit false
set_option linter.unusedVariables false
set_option linter.unusedSimpArgs false
namespace Mine
open PySem

section
variable {prog : Program} {w : World} {A : Around} {E : Value → Shared → Prop} {s : Shared}
noncomputable def bI (b : Bool) : Int := if b then 1 else 0
/-- hash of a bool -/
theorem hash_bool {b : Bool} {Q : Int → Shared → Prop} (h : Q (hashInt (bI b)) { s with toks := s.toks + 1 }) : wpAny (model prog w) A (pyHash (.bool b)) Q E s := by
  unfold pyHash
  refine wpAny_bind ?_
  rw [cRoomFor, if_neg (by exact Bool.false_ne_true)]
  refine wpAny_pure ?_
  refine wpAny_bind (wpAny_specialOf (show s.TypeIs (.bool b) "bool" from rfl) F.slot_bool_hash.lookup ?_)
  show wpAny _ _ (if (some (Value.builtin "int.__hash__") == some Value.none) = true then _ else _) Q E s
  rw [if_neg (by rw [beq_builtin_none]; exact Bool.false_ne_true)]
  refine wpAny_bind (wpAny_specialOf (show s.TypeIs (.bool b) "bool" from rfl) F.slot_bool_hash.lookup ?_)
  show wpAny _ _ (callSpecialIfBoundUnlessNone? (.bool b) "__hash__" _ >>= _) Q E s
  refine wpAny_bind (wpAny_callSpecialIfBoundUnlessNone?_slot (show s.TypeIs (.bool b) "bool" from rfl) F.slot_bool_hash
    (wpAny_call_entry F.slot_bool_hash (show s.TypeIs (.bool b) "bool" from rfl) entry_int_hash
      (show wpAny _ _ (do ret (← mkInt (rawHash (bI b)))) _ _ s from wpAny_ret_mkInt ?_) (args_int_hash _)))
  cases b <;> exact wpAny_pure h
theorem ib_shape {k : Int} {v : Value} (h : ibIs k v = true) {P : Value → Prop} (ki : ∀ t, P (.int k t)) (kb : ∀ b, bI b = k → P (.bool b)) : P v := by
  cases v with
  | int i t => obtain rfl := eq_of_beq h; exact ki t
  | bool b => exact kb b (eq_of_beq h)
  | _ => exact Bool.noConfusion h
noncomputable def ibKind (prog : Program) (w : World) : KeyKind prog w Int where
  is := ibIs
  hash := hashInt
  inj := fun v a b h1 h2 => by cases v with
    | int i t => exact (eq_of_beq h1).symm.trans (eq_of_beq h2)
    | bool b => exact (eq_of_beq h1).symm.trans (eq_of_beq h2)
    | _ => exact Bool.noConfusion h1
  byValue := fun k v h => ib_shape (P := fun v => carriedByValue v = true) h (fun _ => rfl) fun _ _ => rfl
  pyHash := fun {A E s k v Q} hv h => ib_shape (P := fun v => wpAny (model prog w) A (PySem.pyHash v) Q E s) hv (fun _ => wpAny_pyHash_int h) fun b e => hash_bool (e ▸ h)
  eqBool := fun {A E s a b u v Q} hu hv h => by
    refine ib_shape (P := fun u => wpAny (model prog w) A (PySem.eqBool u v) Q E s) hu (fun t => ?_) fun c e => ?_
    · refine ib_shape (P := fun v => wpAny (model prog w) A (PySem.eqBool _ v) Q E s) hv (fun t' => SeqAt.EqAt.int_int _ _ _ _ _ _ _ _ h) fun d e' => ?_
      subst e'
      exact SeqAt.EqAt.int_bool _ _ _ _ _ _ _ h
    · subst e
      refine ib_shape (P := fun v => wpAny (model prog w) A (PySem.eqBool _ v) Q E s) hv (fun t' => SeqAt.EqAt.bool_int _ _ _ _ _ _ _ h) fun d e' => ?_
      subst e'
      refine SeqAt.EqAt.bool_bool _ _ _ _ _ _ ?_
      cases c <;> cases d <;> exact h
  «strs» := fun k x t v h => Bool.noConfusion h
/-- pairs of an int and a bool as keys -/
noncomputable abbrev pKind (prog : Program) (w : World) : HeapKind prog w (List Int) := tupleKind (ibKind prog w)
noncomputable def pK (q : Int × Bool) : List Int := [q.1, bI q.2]
theorem pK_inj {q q' : Int × Bool} (h : pK q = pK q') : q = q' := by
  obtain ⟨i, b⟩ := q
  obtain ⟨j, c⟩ := q'
  have h1 : i = j := (List.cons.inj h).1
  have h2 : bI b = bI c := (List.cons.inj (List.cons.inj h).2).1
  clear h
  subst h1
  cases b <;> cases c <;> first | rfl | exact absurd h2 (by decide)
theorem pair_is {scr : Addr} {p : Ws} {q : Int × Bool} {a : Addr} (r : Rep scr p (pairV q) (.ref a)) : (pKind prog w).is p.h (pK q) a := by
  have key : ∀ x, Rep scr p (pairV q) x → x = .ref a → (pKind prog w).is p.h (pK q) a := fun x r => r.inv (fun x => x = .ref a → (pKind prog w).is p.h (pK q) a) fun b n xs e rl _ _ h => by
    cases h
    refine ⟨_, _, n, e, rfl, rfl, ?_⟩
    show ItemsAre (ibKind prog w) (pK q) xs
    exact rl.inv (fun xs => ItemsAre (ibKind prog w) (pK q) xs) fun x xs r1 rl => r1.inv (fun x => ItemsAre (ibKind prog w) (pK q) (x :: xs)) fun t => rl.inv (fun xs => ItemsAre (ibKind prog w) (pK q) (_ :: xs)) fun y ys r2 rl =>
      r2.inv (fun y => ItemsAre (ibKind prog w) (pK q) (_ :: y :: ys)) (rl.inv (fun ys => ItemsAre (ibKind prog w) (pK q) (_ :: _ :: ys)) (.cons (beq_self_eq_true _) (.cons (beq_self_eq_true _) .nil)))
  exact key _ r rfl
end
end Mine

end
section
set_option autoImplicit false
set_option linter.unusedVariables false
set_option linter.unusedSimpArgs false
namespace Mine
open PySem

/-- a code's name -/
inductive CodeNm (h : Heap) (c : Addr) (q : Str) : Prop
  | mk (o : Obj) (vs : Array Value) (t : Tok) : h.get? c = some o → o.cls = .type "code" → o.data = .fields vs → vs[1]? = some (.str q t) → CodeNm h c q
inductive CellAt (W : Wo) (p : Ws) (a : Addr) : Cell → Prop
  | list {vs : List V} {xs : List Value} {n : Nat} : p.h.get? a = some (lstObj xs n) → RepL W.scr p vs xs → vs.length ≤ 16000000 → CellAt W p a (.list vs)
  | dict {es : List (Int × V)} {o : Obj} {en : Array DictEntry} {ep : Nat} {kvs : List (Int × Value)} : p.h.get? a = some o → o.ExactDict → o.data = .dict en ep → KeysOf (intKind W.prog W.w) en → Pairs (intKind W.prog W.w) en.toList kvs → (kvs.map (·.1)).Nodup → L2 (KvR W.scr p) es kvs → (a == sysModules) = false → es.length ≤ 16000000 → CellAt W p a (.dict ep es)
  | dicP {es : List ((Int × Bool) × V)} {o : Obj} {en : Array DictEntry} {ep : Nat} {xs : List (List Int × Addr × Value)} : p.h.get? a = some o → o.ExactDict → o.data = .dict en ep → en.toList = xs.map (entryOfKey (pKind W.prog W.w)) → (xs.map (·.1)).Nodup → L2 (KpR W.scr p) es xs → (a == sysModules) = false → es.length ≤ 16000000 → CellAt W p a (.dicP ep es)
  | hid {x y : Value} : p.h.get? a = some (tupObj [x, y] 0) → CellAt W p a .hid
  | tab0 : a = W.lP → p.h.get? a = some (tabObj #[]) → CellAt W p a .tab
  | tab {c : Addr} : a = W.lP → p.h.get? a = some (tabObj #[rawInt W.ln, rawInt W.lm, .ref c]) → CodeNm p.h c W.lq → c ∉ p.φ → CellAt W p a .tab
/-- what a cell's standing gives -/
noncomputable def CellAt.Inv (W : Wo) (p : Ws) (a : Addr) (G : Prop) : Cell → Prop
  | .list vs => ∀ xs n, p.h.get? a = some (lstObj xs n) → RepL W.scr p vs xs → vs.length ≤ 16000000 → G
  | .dict ep es => ∀ o en kvs, p.h.get? a = some o → o.ExactDict → o.data = .dict en ep → KeysOf (intKind W.prog W.w) en → Pairs (intKind W.prog W.w) en.toList kvs → (kvs.map (·.1)).Nodup → L2 (KvR W.scr p) es kvs → (a == sysModules) = false → es.length ≤ 16000000 → G
  | .dicP ep es => ∀ o en xs, p.h.get? a = some o → o.ExactDict → o.data = .dict en ep → en.toList = xs.map (entryOfKey (pKind W.prog W.w)) → (xs.map (·.1)).Nodup → L2 (KpR W.scr p) es xs → (a == sysModules) = false → es.length ≤ 16000000 → G
  | .hid => ∀ x y, p.h.get? a = some (tupObj [x, y] 0) → G
  | .tab => (a = W.lP → p.h.get? a = some (tabObj #[]) → G) ∧ ∀ c, a = W.lP → p.h.get? a = some (tabObj #[rawInt W.ln, rawInt W.lm, .ref c]) → CodeNm p.h c W.lq → c ∉ p.φ → G
theorem CellAt.inv {W : Wo} {p : Ws} {a : Addr} {c : Cell} (h : CellAt W p a c) (G : Prop) : CellAt.Inv W p a G c → G :=
  h.casesOn (motive := fun c _ => CellAt.Inv W p a G c → G) (fun e r z k => k _ _ e r z) (fun e x1 x2 x3 x4 x5 r z n k => k _ _ _ e x1 x2 x3 x4 x5 r z n) (fun e x1 x2 x3 x4 r z n k => k _ _ _ e x1 x2 x3 x4 r z n) (fun e k => k _ _ e) (fun e0 e k => k.1 e0 e) (fun e0 e z n k => k.2 _ e0 e z n)
structure SR (W : Wo) (p : Ws) (H : Hp) : Prop where
  keep : Ext W.h₀ p.h
  fresh : ∀ a, a ∈ p.φ → W.h₀.get? a = none
  nodup : p.φ.Nodup
  len : p.φ.length = H.length
  cell : ∀ (l : Nat) (c : Cell), H[l]? = some c → ∃ a, p.φ[l]? = some a ∧ CellAt W p a c
/-- apart from the cells and from what was there -/
noncomputable def Ap (W : Wo) (p : Ws) (a : Addr) : Prop := a ∉ p.φ ∧ W.h₀.get? a = none

section
variable {W : Wo} {own io : Addr → Prop} {p q : Ws} {h h' : Heap} {H : Hp} {a : Addr} {c : Cell} {o : Obj} {l : Nat}
theorem CodeNm.kp {c : Addr} {n : Str} (K : Kp p q) (hn : c ∉ p.φ) (x : CodeNm p.h c n) : CodeNm q.h c n ∧ c ∉ q.φ :=
  x.casesOn fun o vs t e hc hd hv => have z := K.fzk c o (by unfold fz; rw [hd, hc]; rfl) e hn; ⟨⟨o, vs, t, z.1, hc, hd, hv⟩, z.2⟩
theorem CellAt.kp (K : Kp p q) (ha : ∀ o, p.h.get? a = some o → q.h.get? a = some o) (r : CellAt W p a c) : CellAt W q a c :=
  CellAt.casesOn (motive := fun c _ => CellAt W q a c) r (fun e r z => .list (ha _ e) (r.kp K) z) (fun e x1 x2 x3 x4 x5 r z n => .dict (ha _ e) x1 x2 x3 x4 x5 (r.imp (KvR.kp K)) z n) (fun e x1 x2 x3 x4 r z n => .dicP (ha _ e) x1 x2 x3 x4 (r.imp (KpR.kp K)) z n)
    (fun e => .hid (ha _ e)) (fun e0 e => .tab0 e0 (ha _ e)) (fun e0 e z n => have z := z.kp K n; .tab e0 (ha _ e) z.1 z.2)
theorem CellAt.obj (r : CellAt W p a c) : ∃ o, p.h.get? a = some o :=
  r.casesOn (fun e _ _ => ⟨_, e⟩) (fun e _ _ _ _ _ _ _ _ => ⟨_, e⟩) (fun e _ _ _ _ _ _ _ => ⟨_, e⟩) (fun e => ⟨_, e⟩) (fun _ e => ⟨_, e⟩) (fun _ e _ _ => ⟨_, e⟩)
theorem SR.at {G : Prop} (R : SR W p H) (e : H[l]? = some c) (k : ∀ a, p.φ[l]? = some a → CellAt W p a c → G) : G := (R.cell l c e).elim fun a h => k a h.1 h.2
theorem SR.obj (R : SR W p H) (ha : a ∈ p.φ) : ∃ o, p.h.get? a = some o :=
  (List.mem_iff_getElem?.mp ha).elim fun l e => R.at (l := l) (List.getElem?_eq_getElem (R.len ▸ (List.getElem?_eq_some_iff.mp e).1)) fun b hb r => Option.some.inj (hb.symm.trans e) ▸ r.obj
/-- all but things apart stays -/
theorem SR.ch (R : SR W ⟨p.φ, h⟩ H) (hio : ∀ a, io a → Ap W p a) (c : Ch io h h') : SR W ⟨p.φ, h'⟩ H :=
  ⟨fun a o e => c a o (R.keep a o e) fun hi => none_some (hio a hi).2 e, R.fresh, R.nodup, R.len, fun l x e => R.at e fun a ha r => ⟨a, ha, r.kp c.kp fun o e => c a o e fun hi => absurd (List.mem_of_getElem? ha) (hio a hi).1⟩⟩
theorem SR.ext (R : SR W ⟨p.φ, h⟩ H) (e : Ext h h') : SR W ⟨p.φ, h'⟩ H := R.ch (io := Nope) (fun _ h => h.elim) e.ch
theorem none_size (h : Heap) {b : Addr} (hb : h.objs.size ≤ b) : h.get? b = none := by
  cases e : h.get? b with
  | none => rfl
  | some o => exact absurd (Heap.lt_size e) (Nat.not_lt.mpr hb)
/-- what is not there yet -/
theorem SR.new (R : SR W p H) (hn : p.h.get? a = none) : Ap W p a :=
  ⟨fun hm => (R.obj hm).elim fun _ e => none_some hn e, by
    cases e : W.h₀.get? a with
    | none => rfl
    | some o => exact none_some hn (R.keep a o e)⟩
theorem nodup_inj {α : Type} {l : List α} (hn : l.Nodup) {i j : Nat} {x : α} (hi : l[i]? = some x) (hj : l[j]? = some x) : i = j := (List.getElem?_inj (List.getElem?_eq_some_iff.mp hi).1 hn).mp (hi.trans hj.symm)
/-- one more cell -/
theorem SR.adopt (R : SR W p H) (hD : Ap W p a) (hf : ∀ o, p.h.get? a = some o → fz o = false) (hc : CellAt W p a c) : SR W ⟨p.φ ++ [a], p.h⟩ (H ++ [c]) := by
  have K : Kp p ⟨p.φ ++ [a], p.h⟩ := Kp.adopt (φ := p.φ) (h := p.h) hf
  refine ⟨R.keep, fun b hb => (List.mem_append.mp hb).elim (R.fresh b) fun h => List.mem_singleton.mp h ▸ hD.2, ?_, by rw [List.length_append, List.length_append, R.len]; rfl, fun l x e => ?_⟩
  · exact List.nodup_append.mpr ⟨R.nodup, List.pairwise_singleton _ _, fun x hx y hy e => hD.1 (List.mem_singleton.mp hy ▸ e ▸ hx)⟩
  · rcases Nat.lt_or_ge l H.length with hl | hl
    · rw [List.getElem?_append_left hl] at e
      exact R.at e fun b hb r => ⟨b, K.pre l b hb, r.kp K fun _ e => e⟩
    · have hl' : l = H.length := Nat.le_antisymm (Nat.lt_succ_iff.mp (by simpa using (List.getElem?_eq_some_iff.mp e).1)) hl
      subst hl'
      rw [List.getElem?_append_right (Nat.le_refl _), Nat.sub_self] at e
      exact ⟨a, by rw [List.getElem?_append_right (Nat.le_of_eq R.len), R.len, Nat.sub_self]; rfl, Option.some.inj e ▸ hc.kp K fun _ e => e⟩
/-- something new is a cell -/
theorem SR.adopt' (R : SR W p H) (e : Ext p.h h') (hn : p.h.get? a = none) (hD : Ap W p a) (hc : CellAt W ⟨p.φ ++ [a], h'⟩ a c) : SR W ⟨p.φ ++ [a], h'⟩ (H ++ [c]) := by
  have K : Kp p ⟨p.φ ++ [a], h'⟩ := ⟨fun l a e => by rw [List.getElem?_append_left (List.getElem?_eq_some_iff.mp e).1]; exact e, fun b o _ x hb => ⟨e b o x, fun hm => (List.mem_append.mp hm).elim hb fun hm => none_some (List.mem_singleton.mp hm ▸ hn) x⟩⟩
  refine ⟨fun b o x => e b o (R.keep b o x), fun b hb => (List.mem_append.mp hb).elim (R.fresh b) fun h => List.mem_singleton.mp h ▸ hD.2, List.nodup_append.mpr ⟨R.nodup, List.pairwise_singleton _ _, fun x hx y hy e => hD.1 (List.mem_singleton.mp hy ▸ e ▸ hx)⟩, by rw [List.length_append, List.length_append, R.len]; rfl, fun l x hx => ?_⟩
  rcases Nat.lt_or_ge l H.length with hl | hl
  · rw [List.getElem?_append_left hl] at hx
    exact R.at hx fun b hb r => ⟨b, K.pre l b hb, r.kp K fun o e' => e b o e'⟩
  · have hl' : l = H.length := Nat.le_antisymm (Nat.lt_succ_iff.mp (by simpa using (List.getElem?_eq_some_iff.mp hx).1)) hl
    subst hl'
    rw [List.getElem?_append_right (Nat.le_refl _), Nat.sub_self] at hx
    exact ⟨a, by rw [List.getElem?_append_right (Nat.le_of_eq R.len), R.len, Nat.sub_self]; rfl, Option.some.inj hx ▸ hc⟩
/-- a cell changed, and things apart -/
theorem SR.setC (R : SR W p H) (ha : p.φ[l]? = some a) (e : ∀ b o, b ≠ a → p.h.get? b = some o → (io b → fz o = true) → h'.get? b = some o) (hio : ∀ b, io b → Ap W p b) (hc : CellAt W ⟨p.φ, h'⟩ a c) : SR W ⟨p.φ, h'⟩ (H.set l c) := by
  have hm := List.mem_of_getElem? ha
  have K : Kp p ⟨p.φ, h'⟩ := ⟨fun _ _ e => e, fun b o z x hn => ⟨e b o (fun e' => hn (e' ▸ hm)) x fun _ => z, hn⟩⟩
  refine ⟨fun b o x => e b o (fun e' => none_some (R.fresh b (e' ▸ hm)) x) (R.keep b o x) fun hi => none_some (hio b hi).2 x, R.fresh, R.nodup, by rw [List.length_set]; exact R.len, fun k x hx => ?_⟩
  by_cases hk : k = l
  · subst hk
    rw [List.getElem?_set_self (R.len ▸ (List.getElem?_eq_some_iff.mp ha).1)] at hx
    exact ⟨a, ha, Option.some.inj hx ▸ hc⟩
  · rw [List.getElem?_set_ne (Ne.symm hk)] at hx
    exact R.at hx fun b hb r => ⟨b, hb, r.kp K fun o y => e b o (fun e' => hk (nodup_inj R.nodup hb (e' ▸ ha))) y fun hi => absurd (List.mem_of_getElem? hb) (hio b hi).1⟩
theorem SR.setA {T : Addr} {d : Cell} (R : SR W p H) (ha : p.φ[l]? = some a) (e : ∀ b o, b ≠ a → p.h.get? b = some o → (io b → fz o = true) → h'.get? b = some o) (hio : ∀ b, io b → Ap W p b) (hT : p.h.get? T = none) (hc : CellAt W ⟨p.φ ++ [T], h'⟩ a c) (hd : CellAt W ⟨p.φ ++ [T], h'⟩ T d) : SR W ⟨p.φ ++ [T], h'⟩ (H.set l c ++ [d]) := by
  have hm := List.mem_of_getElem? ha
  have aT := R.new hT
  have K : Kp p ⟨p.φ ++ [T], h'⟩ := ⟨fun l a e => by rw [List.getElem?_append_left (List.getElem?_eq_some_iff.mp e).1]; exact e, fun b o z x hn => ⟨e b o (fun e' => hn (e' ▸ hm)) x fun _ => z, fun hm => (List.mem_append.mp hm).elim hn fun h => none_some (List.mem_singleton.mp h ▸ hT) x⟩⟩
  refine ⟨fun b o x => e b o (fun e' => none_some (R.fresh b (e' ▸ hm)) x) (R.keep b o x) fun hi => none_some (hio b hi).2 x, fun b hb => (List.mem_append.mp hb).elim (R.fresh b) fun h => List.mem_singleton.mp h ▸ aT.2, List.nodup_append.mpr ⟨R.nodup, List.pairwise_singleton _ _, fun x hx y hy e => aT.1 (List.mem_singleton.mp hy ▸ e ▸ hx)⟩, by rw [List.length_append, List.length_append, List.length_set, R.len]; rfl, fun k x hx => ?_⟩
  rcases Nat.lt_or_ge k H.length with hk | hk
  · rw [List.getElem?_append_left (by rw [List.length_set]; exact hk)] at hx
    by_cases hkl : k = l
    · subst hkl
      rw [List.getElem?_set_self hk] at hx
      exact ⟨a, K.pre _ _ ha, Option.some.inj hx ▸ hc⟩
    · rw [List.getElem?_set_ne (Ne.symm hkl)] at hx
      exact R.at hx fun b hb r => ⟨b, K.pre _ _ hb, r.kp K fun o y => e b o (fun e' => hkl (nodup_inj R.nodup hb (e' ▸ ha))) y fun hi => absurd (List.mem_of_getElem? hb) (hio b hi).1⟩
  · have hk' : k = H.length := Nat.le_antisymm (Nat.lt_succ_iff.mp (by have := (List.getElem?_eq_some_iff.mp hx).1; rw [List.length_append, List.length_set] at this; exact this)) hk
    subst hk'
    rw [List.getElem?_append_right (by rw [List.length_set]; exact Nat.le_refl _), List.length_set, Nat.sub_self] at hx
    exact ⟨T, by rw [List.getElem?_append_right (Nat.le_of_eq R.len), R.len, Nat.sub_self]; rfl, Option.some.inj hx ▸ hd⟩
theorem SR.set (R : SR W p H) (ha : p.φ[l]? = some a) (e : Heap.ExtBut a p.h h') (hc : CellAt W ⟨p.φ, h'⟩ a c) : SR W ⟨p.φ, h'⟩ (H.set l c) := R.setC (io := Nope) ha (fun b o hn x _ => e b o hn x) (fun _ h => h.elim) hc
end
end Mine

end
section
set_option autoImplicit false
set_option linter.unusedVariables false
set_option linter.unusedSimpArgs false
namespace Mine
open PySem PySem.Calls

noncomputable def lk (ns : List Str) (ρ : Env') (x : Str) : Option V := (ρ[ns.idxOf x]?).join
inductive OptRep (scr : Addr) (p : Ws) : Option V → Option Value → Prop
  | none : OptRep scr p none none
  | some {v : V} {x : Value} : Rep scr p v x → OptRep scr p (some v) (some x)
theorem OptRep.kp {scr : Addr} {p q : Ws} (K : Kp p q) {v : Option V} {x : Option Value} (r : OptRep scr p v x) : OptRep scr q v x := r.casesOn (motive := fun v x _ => OptRep scr q v x) .none fun r => .some (r.kp K)
theorem OptRep.inv {scr : Addr} {p : Ws} {v : V} {u : Option V} {x : Option Value} (r : OptRep scr p u x) (e : u = Option.some v) (P : Option Value → Prop) (k : ∀ y, Rep scr p v y → P (Option.some y)) : P x :=
  r.casesOn (motive := fun u x _ => u = Option.some v → P x) (fun e => none_some rfl e) (fun r e => k _ (Option.some.inj e ▸ r)) e
noncomputable def isCellK (k : Option NameKind) : Prop := isCellKB k = true
/-- the frame's own things -/
noncomputable def InF (env : Env) (a : Addr) : Prop := a = env.locals ∨ ∃ x, env.cells.lookup x = some a
/-- what a frame has for good -/
structure Fc (W : Wo) (env : Env) : Prop where
  fn : env.scope.kind = .function
  glob : env.globals = mainGlobals
  blt : env.builtins = builtinsNs
  gen : env.scope.isGenerator = false ∧ env.scope.isCoroutine = false ∧ interactive env = false
  code : (env.kindOf mk).isSome = true → env.code = .ref W.lc ∧ env.qual ++ "<lambda>" = W.lq
  apart : ∀ x y c, env.cells.lookup x = some c → env.cells.lookup y = some c → x = y
  ne : ∀ q, q ∈ env.cells → q.2 ≠ env.locals
structure FR (W : Wo) (env : Env) (ns : List Str) (ρ : Env') (p : Ws) : Prop where
  fc : Fc W env
  len : ρ.length = ns.length
  loc : ∃ m, p.h.Ns env.locals m ∧ ∀ x, x ∈ ns → env.kindOf x = some .local → OptRep W.scr p (lk ns ρ x) (m x)
  cel : ∀ x, x ∈ ns → isCellK (env.kindOf x) → ∃ c v, env.cells.lookup x = some c ∧ p.h.IsCell c v ∧ OptRep W.scr p (lk ns ρ x) v
  ap : ∀ a, InF env a → Ap W p a
  live : ∀ a, InF env a → ∃ o, p.h.get? a = some o
section
variable {W : Wo} {env : Env} {ns : List Str} {ρ : Env'} {own io : Addr → Prop} {p q : Ws} {h h' : Heap}
theorem mem_lookup {α : Type} {x : Str} {c : α} : ∀ {l : List (Str × α)}, l.lookup x = some c → (x, c) ∈ l
  | (y, d) :: r, h => by
    rw [List.lookup_cons] at h
    cases e : x == y with
    | true => rw [e] at h; rw [eq_of_beq e, Option.some.inj h]; exact .head _
    | false => rw [e] at h; exact .tail _ (mem_lookup h)
theorem inF {x : Str} {c : Addr} (h : env.cells.lookup x = some c) : InF env c := .inr ⟨x, h⟩
theorem Ns_at {a : Addr} {m : Str → Option Value} (hn : h.Ns a m) (e : ∀ o, h.get? a = some o → h'.get? a = some o) : h'.Ns a m :=
  hn.imp fun o h => h.imp fun es h => h.imp fun ep h => ⟨e o h.1, h.2⟩
theorem IsCell_at {a : Addr} {v : Option Value} (hn : h.IsCell a v) (e : ∀ o, h.get? a = some o → h'.get? a = some o) : h'.IsCell a v := hn.imp fun o h => ⟨e o h.1, h.2⟩
theorem Ns_like {a : Addr} {m : Str → Option Value} (hn : h.Ns a m) (e : ∀ o, h.get? a = some o → ∃ o', h'.get? a = some o' ∧ Like o o') : h'.Ns a m :=
  hn.elim fun o x => x.elim fun es x => x.elim fun ep x => (e o x.1).elim fun o' y => ⟨o', es, ep, y.1, y.2.data.trans x.2.1, x.2.2⟩
theorem IsCell_like {a : Addr} {v : Option Value} (hn : h.IsCell a v) (e : ∀ o, h.get? a = some o → ∃ o', h'.get? a = some o' ∧ Like o o') : h'.IsCell a v := hn.elim fun o x => (e o x.1).elim fun o' y => ⟨o', y.1, y.2.data.trans x.2⟩
theorem FR.kp (F : FR W env ns ρ p) (K : Kp p q) (hk : ∀ a, InF env a → (∀ o, p.h.get? a = some o → ∃ o', q.h.get? a = some o' ∧ Like o o') ∧ a ∉ q.φ) : FR W env ns ρ q :=
  ⟨F.fc, F.len, F.loc.imp fun m h => ⟨Ns_like h.1 (hk _ (.inl rfl)).1, fun x hx hl => (h.2 x hx hl).kp K⟩, fun x hx hc => (F.cel x hx hc).imp fun c h => h.imp fun v h => ⟨h.1, IsCell_like h.2.1 (hk c (inF h.1)).1, h.2.2.kp K⟩,
    fun a ha => ⟨(hk a ha).2, (F.ap a ha).2⟩, fun a ha => (F.live a ha).elim fun o e => ((hk a ha).1 o e).imp fun _ x => x.1⟩
/-- what others do leaves the frame as it is -/
theorem FR.mono (F : FR W env ns ρ p) (S : Stp own p q) (hn : ∀ a, InF env a → ¬ own a) : FR W env ns ρ q :=
  F.kp S.kp fun a ha => ⟨fun o e => S.keep a o e (F.ap a ha).1 fun ho => absurd ho (hn a ha), (F.live a ha).elim fun o e => S.notMem e (F.ap a ha).1⟩
theorem FR.ch (F : FR W env ns ρ ⟨p.φ, h⟩) (c : Ch io h h') (hn : ∀ a, InF env a → ¬ io a) : FR W env ns ρ ⟨p.φ, h'⟩ :=
  F.kp c.kp fun a ha => ⟨fun o e => ⟨o, c a o e fun ho => absurd ho (hn a ha), .inl rfl⟩, (F.ap a ha).1⟩
end

noncomputable def biTable : List (Str × Value) := [("len", .builtin "len"), ("isinstance", .builtin "isinstance"), ("int", .type "int"), ("bool", .type "bool"), ("tuple", .type "tuple"), ("list", .type "list"),
  ("range", .type "range"), ("enumerate", .type "enumerate"), ("sum", .builtin "sum"), ("sorted", .builtin "sorted"), ("zip", .type "zip"), ("any", .builtin "any"), ("min", .builtin "min"), ("max", .builtin "max"), ("str", .type "str"), ("set", .type "set")]
theorem bi_mem (i : Nat) (h : i < biTable.length) : biTable[i]'h ∈ biTable := List.getElem_mem h

inductive FnAt (W : Wo) (K : CK) (defs : List Def) (mg : Str → Option Value) (f : Nat) (x : Str) : Prop
  | mk (a : Addr) (o : Obj) (d : Def) (pm cd doc : Value) (e1 : defs[f]? = some d) (e2 : d.name = x) (e3 : mg x = some (.ref a)) (e4 : W.h₀.get? a = some o) (e5 : o.data = .func (docDef d.name d.params d.body d.scope pm cd doc)) (e6 : W.h₀.CodeRec cd d.name) (e7 : x = K.lfn → cd = .ref W.lc) : FnAt W K defs mg f x
structure Gl (W : Wo) (prog : Program) (w : World) (K : CK) (defs : List Def) (gkv : List V) (scr : List Int) (mg mb : Str → Option Value) : Prop where
  g : W.h₀.Ns mainGlobals mg
  b : W.h₀.Ns builtinsNs mb
  bi : ∀ p, p ∈ biTable → mg p.1 = none ∧ mb p.1 = some p.2
  fn : ∀ (f : Nat) (x : Str), K.fns[f]? = some x → FnAt W K defs mg f x
  nolimit : W.h₀.NoLimit
  seer : W.h₀.NoSeer
  tree : prog.given.tree = none
  script : ∃ xs : List Value, W.h₀.IsList W.scr xs.toArray ∧ RepL W.scr ⟨[], W.h₀⟩ (scr.map .int) xs
  short : scr.length ≤ 1000
  low : ∃ o, W.h₀.get? cStatics = some o
  same : W.prog = prog ∧ W.w = w
  lam : W.ln = K.ln ∧ W.lm = K.lm ∧ (K.lfn ++ ".<locals>.") ++ "<lambda>" = W.lq
  tab : ∀ (h : Heap) (ps : Array Value), Ext W.h₀ h → h.get? W.lP = some (tabObj ps) → TriplesOk ps.toList → h.IsCode W.lc W.lP ps ∧ h.TableAt W.lc W.lP ps
  bm : ∃ b o, mg "__builtins__" = some (.ref b) ∧ b ≠ builtinsNs ∧ b ≠ W.lP ∧ W.h₀.get? b = some o ∧ o.cls = .type "module" ∧ o.dict = some builtinsNs ∧ o.data = .plain
  gP : mainGlobals ≠ W.lP
structure Room (A : Around) (n : Nat) : Prop where
  depth : A.depth + n + 110 ≤ recursionLimit
  units : A.units + 5 * n + 200 ≤ cLine
  handled : A.handled = none
  frames : ∃ fe outer, A.frames = some (fe :: outer) ∧ fe.scope.isGenerator = false ∧ fe.scope.isCoroutine = false ∧ fe.builtins = builtinsNs ∧ fe.globals = mainGlobals

/-- the frames of the run are there -/
noncomputable def frs (A : Around) : List Env := A.frames.getD []
noncomputable def Frs (W : Wo) (A : Around) (p : Ws) : Prop := ∀ e, e ∈ frs A → e.scope.kind = .function ∧ ∃ L o, e.frame = some L ∧ p.h.get? L = some o ∧ isD o = true ∧ Ap W p L
theorem Frs.stp {W : Wo} {A : Around} {own : Addr → Prop} {p q : Ws} (F : Frs W A p) (S : Stp own p q) : Frs W A q := fun e he =>
  ⟨(F e he).1, (F e he).2.imp fun L x => x.elim fun o x => (S.alive L o x.2.1).imp fun o' y => ⟨x.1, y.1, y.2 x.2.2.2.1 x.2.2.1, S.notMem x.2.1 x.2.2.2.1, x.2.2.2.2⟩⟩
theorem Frs.ch {W : Wo} {A : Around} {io : Addr → Prop} {φ : List Addr} {h h' : Heap} (F : Frs W A ⟨φ, h⟩) (c : Ch io h h') (hn : ∀ a o, io a → h.get? a = some o → isD o = false) : Frs W A ⟨φ, h'⟩ := fun e he =>
  ⟨(F e he).1, (F e he).2.imp fun L x => x.imp fun o x => ⟨x.1, c L o x.2.1 fun hi => no x.2.2.1 (hn L o hi x.2.1), x.2.2⟩⟩
/-- one frame more -/
theorem Frs.deeper {W : Wo} {A A' : Around} {p : Ws} {env' : Env} {L : Addr} (F : Frs W A p) (hA : frs A' = env' :: frs A) (hk : env'.scope.kind = .function) (hf : env'.frame = some L) (hn : ∃ m, p.h.Ns L m) (ha : Ap W p L) : Frs W A' p := fun e he => by
  rw [hA] at he
  exact (List.mem_cons.mp he).elim (fun e' => e' ▸ ⟨hk, L, hn.elim fun m x => x.imp fun o x => x.elim fun es x => x.elim fun ep x => ⟨hf, x.1, by unfold isD; rw [x.2.1], ha⟩⟩) (F e)
theorem frs_deeper {A : Around} {n : Nat} (rm : Room A n) (env' : Env) : frs (A.in1.in1.deeper env') = env' :: frs A := by
  obtain ⟨fe, outer, e, _⟩ := rm.frames
  show (A.frames.map (env' :: ·)).getD [] = env' :: A.frames.getD []
  rw [e]; rfl
/-- what is fixed for a whole law -/
structure Fix where
  prog : Program
  w : World
  W : Wo
  K : CK
  defs : List Def
  scr : List Int
  mg : Str → Option Value
  mb : Str → Option Value
abbrev Fix.M (X : Fix) : Model := model X.prog X.w
noncomputable def Fix.Gl (X : Fix) (C : Ctx) : Prop := Mine.Gl X.W X.prog X.w X.K X.defs C.gks X.scr X.mg X.mb ∧ C.scr = X.scr

abbrev upd (s : Shared) (h : Heap) (tk : Nat) : Shared := { s with heap := h, toks := tk }
/-- a point of the run -/
structure Pt (X : Fix) (n : Nat) where
  A : Around
  φ : List Addr
  H : Hp
  s : Shared
  rm : Room A n
  R : SR X.W ⟨φ, s.heap⟩ H
  fr : Frs X.W A ⟨φ, s.heap⟩
abbrev Pt.w {X : Fix} {n : Nat} (P : Pt X n) : Ws := ⟨P.φ, P.s.heap⟩
/-- a later one -/
structure Nx {X : Fix} {n : Nat} (P : Pt X n) (H : Hp) where
  φ : List Addr
  h : Heap
  tk : Nat
  R : SR X.W ⟨φ, h⟩ H
  S : Stp Nope P.w ⟨φ, h⟩
section
variable {X : Fix} {n : Nat} {P : Pt X n} {H H' : Hp}
abbrev Nx.w (N : Nx P H) : Ws := ⟨N.φ, N.h⟩
abbrev Nx.s (N : Nx P H) : Shared := (upd P.s N.h N.tk)
abbrev Nx.pt (N : Nx P H) : Pt X n := ⟨P.A, N.φ, H, N.s, P.rm, N.R, P.fr.stp N.S⟩
abbrev Nx.then (N : Nx P H) (N' : Nx N.pt H') : Nx P H' := ⟨N'.φ, N'.h, N'.tk, N'.R, N.S.trans N'.S⟩
/-- nothing has happened but tokens -/
abbrev Pt.tick (P : Pt X n) (tk : Nat) : Nx P P.H := ⟨P.φ, P.s.heap, tk, P.R, .refl⟩
/-- nothing but things apart -/
abbrev Pt.ext (P : Pt X n) {h' : Heap} (e : Ext P.s.heap h') (tk : Nat) : Nx P P.H := ⟨P.φ, h', tk, P.R.ext (p := P.w) e, Stp.ext (q := P.w) .refl e⟩
/-- a cell changed -/
abbrev Pt.set (P : Pt X n) {l : Nat} {a : Addr} {c : Cell} {h' : Heap} (ha : P.φ[l]? = some a) (e : Heap.ExtBut a P.s.heap h') (hc : CellAt X.W ⟨P.φ, h'⟩ a c) (tk : Nat) : Nx P (P.H.set l c) :=
  ⟨P.φ, h', tk, SR.set (p := P.w) P.R ha e hc, hc.obj.elim fun _ ho => Stp.cell (q := P.w) .refl (List.mem_of_getElem? ha) e ho⟩
theorem Pt.cellKp (P : Pt X n) {l : Nat} {a : Addr} {h' : Heap} (ha : P.φ[l]? = some a) (e : Heap.ExtBut a P.s.heap h') : Kp P.w ⟨P.φ, h'⟩ := ⟨fun _ _ e => e, fun b o z x hn => ⟨e b o (fun e' => hn (e' ▸ List.mem_of_getElem? ha)) x, hn⟩⟩
end
/-- what is done with a value -/
noncomputable def Kn {X : Fix} {n : Nat} (P : Pt X n) (post : PQ) (Q : Value → Shared → Prop) : Prop := ∀ v H, post v H → ∀ (N : Nx P H) x, Rep X.W.scr N.w v x → Q x N.s
noncomputable def KnL {X : Fix} {n : Nat} (P : Pt X n) (m : Nat) (post : List V → Hp → Prop) (Q : List Value → Shared → Prop) : Prop := ∀ v H, post v H → v.length = m → ∀ (N : Nx P H) x, RepL X.W.scr N.w v x → Q x N.s
/-- what is done with a value's truth -/
noncomputable def KnT {X : Fix} {n : Nat} (P : Pt X n) (post : PQ) (Q : Bool → Shared → Prop) : Prop := ∀ v H, post v H → wSome (truthy H v) fun b => ∀ (N : Nx P H), Q b N.s
theorem wSome.i {α : Type} {o : Option α} {f : α → Prop} {a : α} (e : o = some a) (h : f a) : wSome o f := by rw [e]; exact h
theorem wSome.m {α : Type} {o : Option α} {f g : α → Prop} (h : wSome o f) (k : ∀ a, f a → g a) : wSome o g := by
  cases o
  · exact h
  · exact k _ h
theorem wSome.at {α : Type} {o : Option α} {f : α → Prop} {a : α} (e : o = some a) (h : wSome o f) : f a := by rw [e] at h; exact h
noncomputable def KnB {X : Fix} {n : Nat} (P : Pt X n) (post : Bool → Hp → Prop) (Q : Bool → Shared → Prop) : Prop := ∀ v H, post v H → ∀ (N : Nx P H), Q v N.s
section
variable {X : Fix} {n : Nat} {P : Pt X n} {H : Hp} {Q : Value → Shared → Prop}
theorem Kn.nx {post : PQ} (k : Kn P post Q) (N : Nx P H) : Kn N.pt post Q := fun v H' p N' x r => k v H' p (N.then N') x r
theorem KnL.nx {m : Nat} {post : List V → Hp → Prop} {Q : List Value → Shared → Prop} (k : KnL P m post Q) (N : Nx P H) : KnL N.pt m post Q := fun v H' p hl N' x r => k v H' p hl (N.then N') x r
theorem KnT.nx {post : PQ} {Q : Bool → Shared → Prop} (k : KnT P post Q) (N : Nx P H) : KnT N.pt post Q := fun v H' p => (k v H' p).m fun b h N' => h (N.then N')
theorem KnB.nx {post : Bool → Hp → Prop} {Q : Bool → Shared → Prop} (k : KnB P post Q) (N : Nx P H) : KnB N.pt post Q := fun v H' p N' => k v H' p (N.then N')
theorem Kn.false (Ex : Value → Shared → Prop) : Kn P (fun _ _ => False) Ex := fun _ _ h => h.elim
/-- a value that is there -/
theorem Kn.now {post : PQ} {v : V} {x : Value} (k : Kn P post Q) (p : post v P.H) (r : Rep X.W.scr P.w v x) (tk : Nat) : Q x (upd P.s P.s.heap tk) := k v P.H p (P.tick tk) x r
theorem Kn.list {post : PQ} {vs : List V} {xs : List Value} {h' : Heap} {c : Nat} (k : Kn P post Q) (e : Ext P.s.heap h') (D : Addr) (hD : P.s.heap.get? D = none) (hg : h'.get? D = some (lstObj xs c)) (r : RepL X.W.scr P.w vs xs) (hz : vs.length ≤ 16000000) (p : newL vs P.H post) (tk : Nat) : Q (.ref D) (upd P.s h' tk) :=
  have K := (Stp.ext (own := Nope) (p := P.w) (q := P.w) .refl e)
  have fr := P.R.new (a := D) hD
  have fr' : Ap X.W ⟨P.φ, h'⟩ D := fr
  k _ _ p ⟨P.φ ++ [D], h', tk, SR.adopt (p := ⟨P.φ, h'⟩) (c := .list vs) (P.R.ext (p := P.w) e) fr' (fun o x => by rw [hg] at x; cases x; exact fz_cls (nm := "list") rfl rfl rfl) (.list hg (r.mono K) hz), K.adopt hD⟩ _
    (.ref (by rw [← P.R.len, List.getElem?_append_right (Nat.le_refl _), Nat.sub_self]; rfl))
end
noncomputable def kEq (a b : Option NameKind) : Prop := a = b ∨ (isCellK a ∧ isCellK b)
noncomputable def Kinds (sc : Scope) (env : Env) : Prop := ∀ x, kEq (sc.names.lookup x) (env.kindOf x)
/-- a point of the run in a frame -/
structure Fp (X : Fix) (n : Nat) (sc : Scope) (ns : List Str) extends Pt X n where
  env : Env
  ρ : Env'
  kd : Kinds sc env
  F : FR X.W env ns ρ ⟨φ, s.heap⟩
  hf : ∃ fe, (frs A).head? = some fe ∧ fe.frame = env.frame
abbrev Fp.to {X : Fix} {n : Nat} {sc : Scope} {ns : List Str} (P : Fp X n sc ns) {H : Hp} (N : Nx P.toPt H) : Fp X n sc ns := ⟨N.pt, P.env, P.ρ, P.kd, P.F.mono N.S fun _ _ h => h, P.hf⟩
noncomputable def EvS (X : Fix) (C : Ctx) (n : Nat) (sc : Scope) (ns : List Str) (c : E) (e : Expr) : Prop :=
  ∀ (P : Fp X n sc ns) (post : PQ) (Q Ex : Value → Shared → Prop), WE C c P.ρ P.H post → Kn P.toPt post Q → Kn P.toPt (C.exc P.ρ) Ex → wpAny X.M P.A (eval e P.env) Q Ex P.s
noncomputable def TrS (X : Fix) (C : Ctx) (n : Nat) (sc : Scope) (ns : List Str) (c : E) (e : Expr) : Prop :=
  ∀ (P : Fp X n sc ns) (post : PQ) (Q : Bool → Shared → Prop) (Ex : Value → Shared → Prop), WE C c P.ρ P.H post → KnT P.toPt post Q → Kn P.toPt (C.exc P.ρ) Ex → wpAny X.M P.A (isTrue e P.env (eval e P.env)) Q Ex P.s
/-- calls of the text's own defs come back as is said -/
noncomputable def Fix.CallOk (X : Fix) (C : Ctx) (n : Nat) : Prop :=
  ∀ (P : Pt X n) (f : Nat) (x : Str) (a : Addr) (vs : List V) (xs : List Value) (post post' : PQ) (Q Ex : Value → Shared → Prop),
    X.K.fns[f]? = some x → X.mg x = some (.ref a) → RepL X.W.scr P.w vs xs → C.call f vs P.H post post' → Kn P post Q → Kn P post' Ex → wpAny X.M P.A (call (.ref a) xs) Q Ex P.s
end Mine

end
section
set_option autoImplicit false
set_option linter.unusedVariables false
set_option linter.unusedSimpArgs false
namespace Mine
open PySem PySem.Calls PyProof.Rows

section
variable {α : Type} {G : Prop} {H : Hp} {x : V} {vs : List V}
theorem wSome.k {o : Option α} {f : α → Prop} (h : wSome o f) (k : ∀ a, o = some a → f a → G) : G := by
  cases o
  · exact h.elim
  · exact k _ rfl h
theorem wOk.k {t : Bool} {A : Prop} (h : wOk t A) (k : t = true → A → G) : G := by
  cases t
  · exact h.elim
  · exact k rfl h
theorem wInt.k {f : Int → Prop} (h : wInt x f) (P : V → Prop) (k : ∀ i, f i → P (.int i)) : P x :=
  V.casesOn (motive_1 := fun x => wInt x f → P x) x (fun h => h.elim) (fun _ h => h.elim) (fun i h => k i h) (fun _ h => h.elim) (fun _ h => h.elim) (fun h => h.elim) h
theorem w1.k {f : V → Prop} (h : w1 vs f) (P : List V → Prop) (k : ∀ x, f x → P [x]) : P vs := by
  rcases vs with _ | ⟨a, _ | ⟨b, l⟩⟩ <;> first | exact k _ h | exact h.elim
theorem w2.k {f : V → V → Prop} (h : w2 vs f) (P : List V → Prop) (k : ∀ x y, f x y → P [x, y]) : P vs := by
  rcases vs with _ | ⟨a, _ | ⟨b, _ | ⟨c, l⟩⟩⟩ <;> first | exact k _ _ h | exact h.elim
theorem bindk {β : Type} {o : Option α} {f : α → Option β} {b : β} (h : o.bind f = some b) (k : ∀ a, o = some a → f a = some b → G) : G := by
  cases o
  · cases h
  · exact k _ rfl h
theorem mapk {β : Type} {o : Option α} {f : α → β} (P : β → Prop) {b : β} (h : o.map f = some b) (k : ∀ a, o = some a → P (f a)) : P b := by
  cases o
  · cases h
  · exact Option.some.inj h ▸ k _ rfl
theorem ifk {c : Prop} [Decidable c] {a b : α} (h : (if c then some a else none) = some b) (P : α → Prop) (k : c → P a) : P b := by
  by_cases hc : c
  · rw [if_pos hc] at h; exact Option.some.inj h ▸ k hc
  · rw [if_neg hc] at h; cases h
theorem nifk {c : Prop} [Decidable c] {a b : α} (h : (if c then none else some a) = some b) (P : α → Prop) (k : ¬ c → P a) : P b := by
  by_cases hc : c
  · rw [if_pos hc] at h; cases h
  · rw [if_neg hc] at h; exact Option.some.inj h ▸ k hc
theorem cellAt.k {β : Type} {f : Cell → Option β} {b : β} (h : cellAt f H x = some b) (P : V → Prop) (k : ∀ l c, H[l]? = some c → f c = some b → P (.ref l)) : P x :=
  V.casesOn (motive_1 := fun x => cellAt f H x = some b → P x) x (fun h => none_some rfl h) (fun _ h => none_some rfl h) (fun _ h => none_some rfl h) (fun _ h => none_some rfl h) (fun l h => bindk h fun c e h => k l c e h) (fun h => none_some rfl h) h
theorem asList.k {c : Cell} (P : Cell → Prop) (h : asList c = some vs) (k : P (.list vs)) : P c :=
  c.casesOn (motive := fun c => asList c = some vs → P c) (fun _ h => Option.some.inj h ▸ k) (fun _ _ h => none_some rfl h) (fun _ _ h => none_some rfl h) (fun h => none_some rfl h) (fun h => none_some rfl h) h
theorem asDict.k {c : Cell} {es : List (Int × V)} (P : Cell → Prop) (h : asDict c = some es) (k : ∀ ep, P (.dict ep es)) : P c :=
  c.casesOn (motive := fun c => asDict c = some es → P c) (fun _ h => none_some rfl h) (fun ep _ h => Option.some.inj h ▸ k ep) (fun _ _ h => none_some rfl h) (fun h => none_some rfl h) (fun h => none_some rfl h) h
theorem asDicP.k {c : Cell} {es : List ((Int × Bool) × V)} (P : Cell → Prop) (h : asDicP c = some es) (k : ∀ ep, P (.dicP ep es)) : P c :=
  c.casesOn (motive := fun c => asDicP c = some es → P c) (fun _ h => none_some rfl h) (fun _ _ h => none_some rfl h) (fun ep _ h => Option.some.inj h ▸ k ep) (fun h => none_some rfl h) (fun h => none_some rfl h) h
theorem boolOf.k {b : Bool} (h : boolOf x = some b) (P : V → Prop) (k : P (.bool b)) : P x :=
  V.casesOn (motive_1 := fun x => boolOf x = some b → P x) x (fun h => none_some rfl h) (fun _ h => Option.some.inj h ▸ k) (fun _ h => none_some rfl h) (fun _ h => none_some rfl h) (fun _ h => none_some rfl h) (fun h => none_some rfl h) h
theorem tupOf.k (h : tupOf x = some vs) (P : V → Prop) (k : P (.tup vs)) : P x :=
  V.casesOn (motive_1 := fun x => tupOf x = some vs → P x) x (fun h => none_some rfl h) (fun _ h => none_some rfl h) (fun _ h => none_some rfl h) (fun _ h => Option.some.inj h ▸ k) (fun _ h => none_some rfl h) (fun h => none_some rfl h) h
theorem two.k {α β : Type} {l : List α} {f : α → α → Option β} {b : β} (h : two l f = some b) (P : List α → Prop) (k : ∀ a c, f a c = some b → P [a, c]) : P l :=
  match l, h with
  | [], h => none_some rfl h
  | [_], h => none_some rfl h
  | [a, c], h => k a c h
  | _ :: _ :: _ :: _, h => none_some rfl h
theorem pairOf.k {q : Int × Bool} (h : pairOf x = some q) (P : V → Prop) (k : P (pairV q)) : P x :=
  bindk h fun vs e h => tupOf.k e P (two.k h (fun vs => P (.tup vs)) fun a b h => bindk h fun i e h => intOf.k e (fun a => P (.tup [a, b])) (mapk (fun q => P (pairV q) → P (.tup [.int i, b])) h (fun c e k => boolOf.k e (fun b => P (.tup [.int i, b])) k) k))
end

section
variable {X : Fix} {C : Ctx} {n : Nat} {P : Pt X n} {Ex : Value → Shared → Prop} {v u : V} {x y : Value} {vs : List V} {l : Nat}
/-- a cell's object -/
theorem Pt.cell {c : Cell} (r : Rep X.W.scr P.w (.ref l) x) (e : P.H[l]? = some c) (T : Value → Prop) (k : ∀ a, P.φ[l]? = some a → CellAt X.W P.w a c → T (.ref a)) : T x :=
  r.inv T fun a ha => P.R.at e fun b hb h => by rw [ha] at hb; cases hb; exact k a ha h
theorem Pt.list (r : Rep X.W.scr P.w (.ref l) x) (e : P.H[l]? = some (.list vs)) (T : Value → Prop) (k : ∀ a xs n, P.φ[l]? = some a → P.s.heap.get? a = some (lstObj xs n) → RepL X.W.scr P.w vs xs → vs.length ≤ 16000000 → T (.ref a)) : T x :=
  P.cell r e T fun a ha h => h.inv _ fun xs n h1 h2 h3 => k a xs n ha h1 h2 h3
theorem lst (r : Rep X.W.scr P.w v x) (e : lstAt P.H v = some vs) (T : Value → Prop) (k : ∀ l a xs n, v = .ref l → P.H[l]? = some (.list vs) → P.φ[l]? = some a → P.s.heap.get? a = some (lstObj xs n) → RepL X.W.scr P.w vs xs → vs.length ≤ 16000000 → T (.ref a)) : T x :=
  cellAt.k e (fun u => v = u → T x) (fun l c hl hc => asList.k (fun c => P.H[l]? = some c → v = .ref l → T x) hc (fun hl ev =>  P.list (ev ▸ r) hl T fun a xs n h1 h2 h3 h4 => k l a xs n ev hl h1 h2 h3 h4) hl) rfl
theorem isTup_of {h : Heap} {a : Addr} {xs : List Value} {n : Nat} (e : h.get? a = some (tupObj xs n)) : IsTup h a xs.toArray := ⟨_, e, rfl, n, rfl⟩
theorem isList_of {h : Heap} {a : Addr} {xs : List Value} {n : Nat} (e : h.get? a = some (lstObj xs n)) : h.IsList a xs.toArray := ⟨_, e, rfl, n, rfl⟩
theorem small {xs : List Value} {p : Ws} (r : RepL X.W.scr p vs xs) (hz : vs.length ≤ 16000000) : (xs.toArray.size : Int) < 2 ^ 63 := by
  rw [List.size_toArray, ← r.length]; (first | lia | omega)
theorem Gl.kp (G : X.Gl C) (P : Pt X n) : Kp ⟨[], X.W.h₀⟩ P.w := ⟨fun l a e => none_some List.getElem?_nil e, fun a o _ e _ => ⟨P.R.keep a o e, fun hm => none_some (P.R.fresh a hm) e⟩⟩
theorem Gl.scr (G : X.Gl C) (P : Pt X n) {T : Prop} (k : ∀ xs : List Value, P.s.heap.IsList X.W.scr xs.toArray → RepL X.W.scr P.w (C.scr.map .int) xs → C.scr.length ≤ 1000 → T) : T :=
  G.1.script.elim fun xs h => k xs (h.1.imp fun o h => ⟨P.R.keep _ _ h.1, h.2⟩) (G.2 ▸ h.2.kp (Gl.kp G P)) (G.2 ▸ G.1.short)
/-- the items of a tuple, a list, the script -/
theorem items (G : X.Gl C) (r : Rep X.W.scr P.w v x) (e : itemsOf C.scr P.H v = some vs) (T : Value → Prop)
    (kt : v = .tup vs → ∀ a xs n, P.s.heap.get? a = some (tupObj xs n) → RepL X.W.scr P.w vs xs → vs.length ≤ 16000000 → a ∉ P.φ → T (.ref a)) (kl : ∀ a xs, P.s.heap.IsList a xs.toArray → RepL X.W.scr P.w vs xs → vs.length ≤ 16000000 → T (.ref a)) : T x := by
  cases v with
  | tup us => cases e; exact r.inv T fun a n xs h1 h2 h3 h4 => kt rfl a xs n h1 h2 h3 h4
  | ref l => exact lst r e T fun _ a xs n _ _ _ h1 h2 h3 => kl a xs (isList_of h1) h2 h3
  | script => cases e; exact r.inv T (Gl.scr G P fun xs h1 h2 h3 => kl _ xs h1 h2 (by rw [List.length_map]; (first | lia | omega)))
  | _ => cases e
theorem empty_eq {p : Ws} {xs : List Value} (r : RepL X.W.scr p vs xs) : xs.toArray.isEmpty = vs.isEmpty := RepL.ind (M := fun vs xs => xs.toArray.isEmpty = vs.isEmpty) rfl (fun _ _ _ => rfl) r
/-- truth of a value -/
theorem truthy_snd {b : Bool} {Q : Bool → Shared → Prop} (r : Rep X.W.scr P.w v x) (e : truthy P.H v = some b) (k : ∀ tk, Q b (upd P.s P.s.heap tk)) : wpAny X.M P.A (PySem.truthy x) Q Ex P.s := by
  cases v with
  | none => cases e; exact r.inv (fun x => wpAny X.M P.A (PySem.truthy x) Q Ex P.s) (truthy_none (k _))
  | bool b' => cases e; exact r.inv (fun x => wpAny X.M P.A (PySem.truthy x) Q Ex P.s) (wpAny_truthy_bool (k _))
  | int i => cases e; exact r.inv (fun x => wpAny X.M P.A (PySem.truthy x) Q Ex P.s) fun t => truthy_int (k _)
  | tup vs => cases e; exact r.inv (fun x => wpAny X.M P.A (PySem.truthy x) Q Ex P.s) fun a n xs h1 h2 h3 _ => truthy_tuple (isTup_of h1) (small h2 h3) (empty_eq h2 ▸ k _)
  | ref l => exact mapk (fun b => (∀ tk, Q b (upd P.s P.s.heap tk)) → wpAny X.M P.A (PySem.truthy x) Q Ex P.s) e (fun vs e k => lst r e (fun x => wpAny X.M P.A (PySem.truthy x) Q Ex P.s) fun _ a xs n _ _ _ h1 h2 h3 => wpAny_truthy_list (isList_of h1) (small h2 h3) (empty_eq h2 ▸ k _)) k
  | _ => cases e
theorem pylong (G : X.Gl C) (P : Pt X n) : PylongRoom X.M P.A P.s :=
  P.rm.frames.elim fun fe h => h.elim fun outer h => PylongRoom.of (G.1.nolimit.keeps P.R.keep) (by have := P.rm.depth; show P.A.depth + 100 < _; (first | lia | omega)) (SeerAt.of (G.1.seer.keeps P.R.keep) G.1.tree h.1 h.2.1 h.2.2.1 h.2.2.2.1 h.2.2.2.2)
theorem binI_snd {op : BOp} {a b i : Int} {t t' : Tok} {Q : Value → Shared → Prop} (G : X.Gl C) (P : Pt X n) (e : binI op a b = some i) (k : ∀ tk t, Q (.int i t) (upd P.s P.s.heap tk)) : wpAny X.M P.A (binaryOp (opOf op) (.int a t) (.int b t')) Q Ex P.s := by
  cases op with
  | add => cases e; exact add_int (k _ _)
  | sub => cases e; exact sub_int (k _ _)
  | mul => exact ifk e (fun i => (∀ tk t, Q (.int i t) (upd P.s P.s.heap tk)) → _) (fun hm k => mul_int (k _ _) fun hc => by unfold mulOk at hm; rw [hc] at hm; cases hm) k
  | fdiv => exact nifk e (fun i => (∀ tk t, Q (.int i t) (upd P.s P.s.heap tk)) → _) (fun hb k => floordiv_int hb (k _ _) (.inr (pylong G P))) k
  | mod => exact nifk e (fun i => (∀ tk t, Q (.int i t) (upd P.s P.s.heap tk)) → _) (fun hb k => mod_int' hb (k _ _)) k
theorem binop_snd {op : BOp} {post : PQ} {Q : Value → Shared → Prop} (G : X.Gl C) (P : Pt X n) (r1 : Rep X.W.scr P.w v x) (r2 : Rep X.W.scr P.w u y) (p : WBin op v u P.H post) (k : Kn P post Q) : wpAny X.M P.A (binaryOp (opOf op) x y) Q Ex P.s := by
  have key : wOk (decide (op = .add)) (wSome (lstAt P.H v) fun xs => wSome (lstAt P.H u) fun ys => WAllocL (xs ++ ys) P.H post) → wpAny X.M P.A (binaryOp (opOf op) x y) Q Ex P.s := fun p => wOk.k p fun h p => by
    obtain rfl := of_decide_eq_true h
    refine wSome.k p fun xs e1 p => wSome.k p fun ys e2 p => wOk.k p fun hz p => ?_
    refine lst r1 e1 (fun x => wpAny X.M P.A (binaryOp .Add x y) Q Ex P.s) fun _ a xa ka _ _ _ q1 q2 q3 => lst r2 e2 (fun y => wpAny X.M P.A (binaryOp .Add _ y) Q Ex P.s) fun _ b xb kb _ _ _ t1 t2 t3 => ?_
    have hl : (xs ++ ys).length < 16000000 := of_decide_eq_true hz
    refine PySem.P.add_list (items := xa.toArray) (items2 := xb.toArray) q1 t1 ?_ (by rw [List.size_toArray, List.size_toArray, ← q2.length, ← t2.length, ← List.length_append]; unfold sizeLine; (first | lia | omega))
    rw [List.append_toArray]
    exact k.list (.push _) _ (none_size _ (Nat.le_refl _)) (Heap.get?_push_size _ rfl) (q2.append t2) (Nat.le_of_lt hl) p _
  cases v with
  | int a => exact wInt.k p (fun u => Rep X.W.scr P.w u y → _) (fun b p r2 => wSome.k p fun i e p => r1.inv (fun x => wpAny X.M P.A (binaryOp (opOf op) x y) Q Ex P.s) fun t => r2.inv (fun y => wpAny X.M P.A (binaryOp (opOf op) _ y) Q Ex P.s) fun t' => binI_snd G P e fun tk t => k.now p (.int _ _) tk) r2
  | _ => exact key p
end
end Mine

end
section
set_option autoImplicit false
set_option linter.unusedVariables false
set_option linter.unusedSimpArgs false
namespace Mine
open PySem PySem.Calls PyProof.Rows

inductive RdOk (h : Heap) (m : Nat) (d : PyData) (x : Value) : Prop
  | mk (as : List Addr) (r : Reads h x d as) (c : d.canLay0 = true) (l : d.depth ≤ m) : RdOk h m d x
inductive RdsOk (h : Heap) (m : Nat) (ds : List PyData) (xs : List Value) : Prop
  | mk (as : List Addr) (r : ReadsAll h xs ds as) (c : PyData.canLayAll0 ds = true) (l : PyData.depthAll ds ≤ m) : RdsOk h m ds xs
theorem canAll_cons (d : PyData) (ds : List PyData) : PyData.canLayAll0 (d :: ds) = (d.canLay0 && PyData.canLayAll0 ds) := rfl
theorem depAll_cons (d : PyData) (ds : List PyData) : PyData.depthAll (d :: ds) = max d.depth (PyData.depthAll ds) := rfl

section
variable {X : Fix} {C : Ctx} {n : Nat} {P : Pt X n} {Ex : Value → Shared → Prop} {v u : V} {x y : Value} {vs : List V} {l m : Nat}
theorem rdL_snd {h : Heap} {p : Ws} {f : V → Option PyData} (hf : ∀ v d x, f v = some d → Rep X.W.scr p v x → RdOk h m d x) {xs : List Value} (r : RepL X.W.scr p vs xs) : ∀ ds, rdL f vs = some ds → RdsOk h m ds xs :=
  RepL.ind (M := fun vs xs => ∀ ds, rdL f vs = some ds → RdsOk h m ds xs) (fun ds e => Option.some.inj e ▸ ⟨_, .nil, rfl, Nat.zero_le _⟩) (fun {v x vs xs} r1 _ ih ds e => by
    unfold rdL at e
    cases e1 : f v with
    | none => rw [e1] at e; cases e
    | some d =>
      cases e2 : rdL f vs with
      | none => rw [e1, e2] at e; cases e
      | some ds' =>
        rw [e1, e2] at e
        cases e
        exact (hf v d x e1 r1).casesOn fun as q1 q2 q3 => (ih ds' e2).casesOn fun bs t1 t2 t3 => ⟨_, .cons q1 t1, by rw [canAll_cons, q2, t2]; rfl, by rw [depAll_cons]; exact Nat.max_le.mpr ⟨q3, t3⟩⟩) r
theorem rd0_snd {d : PyData} (e : rd0 v = some d) (r : Rep X.W.scr P.w v x) : RdOk P.s.heap m d x :=
  V.casesOn (motive_1 := fun v => rd0 v = some d → Rep X.W.scr P.w v x → RdOk P.s.heap m d x) v (fun e r => r.inv _ (Option.some.inj e ▸ ⟨_, .none, rfl, Nat.zero_le _⟩)) (fun _ e r => r.inv _ (Option.some.inj e ▸ ⟨_, .bool _, rfl, Nat.zero_le _⟩)) (fun _ e r => r.inv _ fun t => Option.some.inj e ▸ ⟨_, .int _ _, rfl, Nat.zero_le _⟩)
    (fun _ e => none_some rfl e) (fun _ e => none_some rfl e) (fun e => none_some rfl e) e r
theorem rd_snd (P : Pt X n) (m : Nat) : ∀ (v : V) (d : PyData) (x : Value), rd P.H m v = some d → Rep X.W.scr P.w v x → RdOk P.s.heap m d x := by
  induction m with
  | zero => exact fun v d x e r => rd0_snd e r
  | succ m ih =>
    intro v d x e r
    cases v with
    | tup vs => exact mapk (fun d => RdOk P.s.heap (m + 1) d x) e fun ds e1 => r.inv (fun x => RdOk P.s.heap (m + 1) (.tuple ds) x) fun a n xs h1 h2 _ _ => (rdL_snd ih h2 ds e1).casesOn fun as q1 q2 q3 => ⟨_, reads_tuple_at h1 rfl rfl q1, q2, Nat.succ_le_succ q3⟩
    | ref l => exact bindk e fun vs e0 e => mapk (fun d => RdOk P.s.heap (m + 1) d x) e fun ds e1 => lst r e0 (fun x => RdOk P.s.heap (m + 1) (.list ds) x) fun _ a xs n _ _ _ h1 h2 _ => (rdL_snd ih h2 ds e1).casesOn fun as q1 q2 q3 => ⟨_, reads_list_at h1 rfl rfl q1, q2, Nat.succ_le_succ q3⟩
    | script => cases e
    | _ => exact rd0_snd e r
theorem shaped_of {d : PyData} (h1 : d.canLay0 = true) (h2 : d.depth ≤ 10) : SeqAt.shaped d = true := by
  unfold SeqAt.shaped; rw [h1, Bool.true_and]; exact decide_eq_true (by (first | lia | omega))
theorem units_of (P : Pt X n) : P.A.units + 64 < cLine := by have := P.rm.units; (first | lia | omega)
theorem not_in {x y : Value} {Q : Value → Shared → Prop} (h : wpAny X.M P.A (compareOp .In x y) (fun r s' => ∃ b, r = .bool b ∧ Q (.bool (!b)) s') Ex P.s) : wpAny X.M P.A (compareOp .NotIn x y) Q Ex P.s := by
  intro Γ p hΓ
  have := h Γ p hΓ
  change Sem.wp _ _ (contains y x >>= fun b => pure (Value.bool b)) _ _ _ _ at this
  show Sem.wp _ _ (contains y x >>= fun b => pure (Value.bool (!b))) _ _ _ _
  rw [Sem.wp_bind'] at this ⊢
  refine Sem.wp_mono _ _ _ (fun b p' s' h' => ?_) (fun _ _ _ h' => h') _ _ this
  rw [Sem.wp_pure'] at h' ⊢
  exact h'.elim fun b' h' => by cases h'.1; exact h'.2
/-- a table's own object -/
theorem dct (r : Rep X.W.scr P.w v x) {es : List (Int × V)} (G : X.Gl C) (e : dictAt' P.H v = some es) (T : Value → Prop) (k : ∀ l ep a kvs, v = .ref l → P.H[l]? = some (.dict ep es) → P.φ[l]? = some a → P.s.heap.DictOf (intKind X.prog X.w) a kvs → L2 (KvR X.W.scr P.w) es kvs → (a == sysModules) = false → es.length ≤ 16000000 → T (.ref a)) : T x :=
  cellAt.k e (fun u => v = u → T x) (fun l c hl hc => asDict.k (fun c => P.H[l]? = some c → v = .ref l → T x) hc (fun ep hl ev => P.cell (ev ▸ r) hl T fun a ha h => h.inv _ fun o en kvs x0 x1 x2 x3 x4 x5 r z n => k l ep a kvs ev hl ha (by rw [G.1.same.1, G.1.same.2] at x3 x4; exact ⟨o, en, ep, x0, x1, x2, x3, x4, x5⟩) r z n) hl) rfl
theorem dctP (r : Rep X.W.scr P.w v x) {es : List ((Int × Bool) × V)} (G : X.Gl C) (e : dicPAt P.H v = some es) (T : Value → Prop) (k : ∀ l ep a kvs, v = .ref l → P.H[l]? = some (.dicP ep es) → P.φ[l]? = some a → P.s.heap.DictOfH (pKind X.prog X.w) a kvs → L2 (KpR X.W.scr P.w) es kvs → (a == sysModules) = false → es.length ≤ 16000000 → T (.ref a)) : T x :=
  cellAt.k e (fun u => v = u → T x) (fun l c hl hc => asDicP.k (fun c => P.H[l]? = some c → v = .ref l → T x) hc (fun ep hl ev => P.cell (ev ▸ r) hl T fun a ha h => h.inv _ fun o en kvs x0 x1 x2 x3 x4 r z n => k l ep a kvs ev hl ha (by
    rw [G.1.same.1, G.1.same.2] at x3
    refine ⟨o, en, ep, x0, x1, x2, x3, ?_, x4⟩
    clear x3 x4 n
    exact r.rec (motive := fun _ kvs _ => ∀ q : List Int × Addr × Value, q ∈ kvs → (pKind X.prog X.w).is P.s.heap q.1 q.2.1) (fun q hq => nomatch hq) fun {a b _ _} m _ ih q hq => (List.mem_cons.mp hq).elim (fun e => by subst e; rw [m.1]; exact pair_is m.2.1) (ih q)) r z n) hl) rfl
theorem dget_kv {es : List (Int × V)} {kvs : List (Int × Value)} {p : Ws} (h : L2 (KvR X.W.scr p) es kvs) (k : Int) : (dget es k = none ∧ valueAt kvs k = none) ∨ ∃ v x, dget es k = some v ∧ valueAt kvs k = some x ∧ Rep X.W.scr p v x :=
  (h.find (f := fun q => decide (q.1 = k)) (g := fun q => decide (q.1 = k)) fun a b m => by rw [m.1]).imp (fun h => ⟨congrArg _ h.1, congrArg _ h.2⟩) fun ⟨a, b, h1, h2, m⟩ => ⟨a.2, b.2, congrArg _ h1, congrArg _ h2, m.2⟩
theorem dget_kp {es : List ((Int × Bool) × V)} {kvs : List (List Int × Addr × Value)} {p : Ws} (h : L2 (KpR X.W.scr p) es kvs) (k : Int × Bool) : (dget es k = none ∧ atKey kvs (pK k) = none) ∨ ∃ v a x, dget es k = some v ∧ atKey kvs (pK k) = some (a, x) ∧ Rep X.W.scr p v x :=
  (h.find (f := fun q => decide (q.1 = k)) (g := fun q => decide (q.1 = pK k)) fun a b m => by rw [m.1]; exact decide_eq_decide.mpr ⟨fun e => e ▸ rfl, pK_inj⟩).imp (fun h => ⟨congrArg _ h.1, congrArg _ h.2⟩) fun ⟨a, b, h1, h2, m⟩ => ⟨a.2, b.2.1, b.2.2, congrArg _ h1, congrArg _ h2, m.2.2⟩
theorem dhas_eq {K : Type} [DecidableEq K] (es : List (K × V)) (k : K) : dhas es k = (dget es k).isSome := by
  unfold dhas dget
  rw [Option.isSome_map, List.isSome_find?]
end
end Mine

end
section
set_option autoImplicit false
set_option linter.unusedVariables false
set_option linter.unusedSimpArgs false
namespace Mine
open PySem PySem.Calls PyProof.Rows

section
variable {prog : Program} {w : World} {A : Around} {E : Value → Shared → Prop} {s : Shared} {a b : Addr} {oa ob : Obj} {es es' : Array DictEntry} {ep ep' : Nat}
theorem beq_t (b : Bool) : (b == true) = b := by cases b <;> rfl
theorem beq_f (b : Bool) : (b == false) = !b := by cases b <;> rfl
/-- two tables, one of them empty -/
theorem samePairs0 {nm : String} {Q : Bool → Shared → Prop} (ha : (a == sysModules) = false) (hb : (b == sysModules) = false) (hoa : s.heap.get? a = some oa) (hda : oa.data = .dict es ep) (hob : s.heap.get? b = some ob) (hdb : ob.data = .dict es' ep')
    (h0 : es.size = 0 ∨ es'.size = 0) (h : Q (es.size == es'.size) s) : wpAny (model prog w) A (Builtin.Dict.samePairs nm a b) Q E s := by
  unfold Builtin.Dict.samePairs Builtin.Dict.showsAll
  rw [if_neg (show ¬ (a == sysModules) = true by rw [ha]; exact Bool.false_ne_true), if_neg (show ¬ (b == sysModules) = true by rw [hb]; exact Bool.false_ne_true)]
  refine wpAny_bind (wpAny_pure (wpAny_bind (wpAny_pure ?_)))
  refine wpAny_bind (wpAny_dictEntries hoa hda ?_)
  dsimp only
  refine wpAny_bind (wpAny_dictEntries hob hdb ?_)
  by_cases hsz : es.size = es'.size
  · rw [if_neg (by rw [hsz, bne_self_eq_false]; exact Bool.false_ne_true)]
    have hz : es.size = 0 := h0.elim id fun h => hsz.trans h
    rw [← hsz, beq_self_eq_true] at h
    refine wpAny_bind (wpAny_dictEpoch hoa hda ?_)
    rw [hz, Std.Legacy.Range.forIn_eq_forIn_range']
    exact wpAny_bind (wpAny_pure (wpAny_pure h))
  · rw [if_pos (bne_iff_ne.mpr hsz)]
    rw [beq_eq_false_iff_ne.mpr hsz] at h
    exact wpAny_bind (wpAny_rule (wpAny_pure h))
theorem eqD {Q : Value → Shared → Prop} (ta : s.TypeIs (.ref a) "dict") (tb : s.TypeIs (.ref b) "dict") (ha : (a == sysModules) = false) (hb : (b == sysModules) = false) (hoa : s.heap.get? a = some oa) (hda : oa.data = .dict es ep) (hob : s.heap.get? b = some ob) (hdb : ob.data = .dict es' ep')
    (h0 : es.size = 0 ∨ es'.size = 0) (hu : A.units < cLine) :
    (Q (.bool (es.size == es'.size)) s → wpAny (model prog w) A (compareOp .Eq (.ref a) (.ref b)) Q E s) ∧ (Q (.bool (!(es.size == es'.size))) s → wpAny (model prog w) A (compareOp .NotEq (.ref a) (.ref b)) Q E s) := by
  refine ⟨fun h => wpAny_richCompare_same_room (op := .Eq) ta tb PySem.F.slot_dict_eq (wpAny_call_entry PySem.F.slot_dict_eq ta PySem.F.entry_dict_eq ?_ (PySem.F.args_dict_eq_2 _ _)) hu, fun h => wpAny_richCompare_same_room (op := .NotEq) ta tb PySem.F.slot_dict_ne (wpAny_call_entry PySem.F.slot_dict_ne ta PySem.F.entry_dict_ne ?_ (PySem.F.args_dict_ne_2 _ _)) hu⟩
  · show wpAny _ _ (Builtin.Dict.dictSlotArgs "__eq__" ⟨[.ref a, .ref b], []⟩ >>= _) _ _ s
    refine wpAny_bind (wpAny_bind (wpAny_notOrdered_dict ta (wpAny_pure (wpAny_bind (wpAny_isInstance (T := "dict") tb PySem.F.sub_dict_dict ?_)))))
    show wpAny _ _ (Builtin.Dict.addrOf (.ref a) >>= _) _ _ s
    exact wpAny_bind (wpAny_pure (wpAny_bind (wpAny_pure (wpAny_bind (samePairs0 ha hb hoa hda hob hdb h0 (wpAny_pure ⟨_, rfl, nofun, by rw [beq_t]; exact h⟩))))))
  · show wpAny _ _ (Builtin.Dict.dictSlotArgs "__ne__" ⟨[.ref a, .ref b], []⟩ >>= _) _ _ s
    refine wpAny_bind (wpAny_bind (wpAny_notOrdered_dict ta (wpAny_pure (wpAny_bind (wpAny_isInstance (T := "dict") tb PySem.F.sub_dict_dict ?_)))))
    show wpAny _ _ (Builtin.Dict.addrOf (.ref a) >>= _) _ _ s
    exact wpAny_bind (wpAny_pure (wpAny_bind (wpAny_pure (wpAny_bind (samePairs0 ha hb hoa hda hob hdb h0 (wpAny_pure ⟨_, rfl, nofun, by rw [beq_f]; exact h⟩))))))
open AutoSeq1 (wpAny_loadPart') in
open MeetsSeq MeetsSeq3 in
/-- lists of ints by their items -/
theorem lt_loop (l b : Addr) (ns ms : List Int) (ts us : Nat → Tok) (n n2 : Nat) (items items2 : Array Value) (h1 : ∀ j : Nat, items[j]? = ns[j]?.map fun i => .int i (ts j)) (h2 : ∀ j : Nat, items2[j]? = ms[j]?.map fun i => .int i (us j)) (k : Nat) :
    ∀ i : Nat, ns.length - i = k → Meets (Builtin.«list.__eq__.loop» ⟨[.ref l, .ref b, rawInt i, rawInt 0], []⟩)
      (fun A R s => s.heap.get? l = some { cls := .type "list", dict := none, data := .seq items n, slots := #[] } ∧ s.heap.get? b = some { cls := .type "list", dict := none, data := .seq items2 n2, slots := #[] } ∧ i ≤ ns.length ∧ i ≤ ms.length ∧ items.size = ns.length ∧ items2.size = ms.length ∧
        R (.ok (.ret (.bool (ltL (ns.drop i) (ms.drop i))))) s) := by
  induction k with
  | zero =>
    intro i hk prog w A R s h
    obtain ⟨hp, g, d, tk, os⟩ := s; obtain ⟨hl, hb, hin, him, hs1, hs2, h⟩ := h
    wp_walk using wpAny_loadPart' hl, wpAny_loadPart' hb
    have hi1 : items[((i : Nat) : Int).toNat]? = none := by rw [Int.toNat_natCast, h1, List.getElem?_eq_none (by (first | lia | omega))]; rfl
    rw [hi1]
    wp_walk using wpAny_loadPart' hl, wpAny_loadPart' hb
    show R (.ok (.ret (.bool (decide (items.size < items2.size))))) _
    have hd : ns.drop i = [] := List.drop_eq_nil_iff.mpr (by (first | lia | omega))
    rw [hd] at h
    have e : ltL [] (ms.drop i) = decide (items.size < items2.size) := by
      cases hm : ms.drop i with
      | nil => exact (decide_eq_false (by have := List.drop_eq_nil_iff.mp hm; (first | lia | omega))).symm
      | cons x r => exact (decide_eq_true (by have := congrArg List.length hm; rw [List.length_drop, List.length_cons] at this; (first | lia | omega))).symm
    rw [← e]; exact h
  | succ k ih =>
    intro i hk prog w A R s h
    obtain ⟨hp, g, d, tk, os⟩ := s; obtain ⟨hl, hb, hin, him, hs1, hs2, h⟩ := h
    wp_walk using wpAny_loadPart' hl, wpAny_loadPart' hb
    have hlt : i < ns.length := by (first | lia | omega)
    have hi1 : items[((i : Nat) : Int).toNat]? = some (.int ns[i] (ts i)) := by rw [Int.toNat_natCast, h1, List.getElem?_eq_getElem hlt]; rfl
    have hd1 : ns.drop i = ns[i] :: ns.drop (i + 1) := List.drop_eq_getElem_cons hlt
    rw [hi1]
    rcases Nat.lt_or_ge i ms.length with hlt2 | hge
    · have hi2 : items2[((i : Nat) : Int).toNat]? = some (.int ms[i] (us i)) := by rw [Int.toNat_natCast, h2, List.getElem?_eq_getElem hlt2]; rfl
      have hd2 : ms.drop i = ms[i] :: ms.drop (i + 1) := List.drop_eq_getElem_cons hlt2
      have hc : ((i : Int) + 1) = ((i + 1 : Nat) : Int) := by push_cast; rfl
      rw [hd1, hd2] at h
      rw [hi2]
      refine wpAny_bind (SeqAt.EqAt.int_int _ _ _ _ prog w _ _ ?_)
      by_cases e : ns[i] = ms[i]
      · rw [beq_iff_eq.mpr e]
        wp_walk
        rw [hc]
        have e' : ltL (ns[i] :: ns.drop (i + 1)) (ms[i] :: ms.drop (i + 1)) = ltL (ns.drop (i + 1)) (ms.drop (i + 1)) := if_pos e
        rw [e'] at h
        exact ⟨plainId_quiet plain_eq_loop _, codeAny_builtin entry_eq_loop (by
          rw [Around.under_plainId plain_eq_loop _]
          exact ih (i + 1) (by (first | lia | omega)) prog w A R _ ⟨hl, hb, hlt, hlt2, hs1, hs2, h⟩)⟩
      · rw [beq_eq_false_iff_ne.mpr e]
        wp_walk using wpAny_loadPart' hl, wpAny_loadPart' hb
        rw [hi1, hi2]
        have e' : ltL (ns[i] :: ns.drop (i + 1)) (ms[i] :: ms.drop (i + 1)) = decide (ns[i] < ms[i]) := if_neg e
        rw [e'] at h
        exact wpAny_bind (PyProof.Rows.lt_int (wpAny_pure h))
    · have hi2 : items2[((i : Nat) : Int).toNat]? = none := by rw [Int.toNat_natCast, h2, List.getElem?_eq_none hge]; rfl
      rw [hi2]
      wp_walk using wpAny_loadPart' hl, wpAny_loadPart' hb
      show R (.ok (.ret (.bool (decide (items.size < items2.size))))) _
      have hd : ms.drop i = [] := List.drop_eq_nil_iff.mpr hge
      rw [hd] at h
      have e : ltL (ns.drop i) [] = decide (items.size < items2.size) := by
        rw [decide_eq_false (by (first | lia | omega))]
        cases ns.drop i <;> rfl
      rw [← e]; exact h
open AutoSeq1 (wpAny_loadPart') in
open MeetsSeq MeetsSeq3 in
theorem lt_meets (l b : Addr) (ns ms : List Int) (ts us : Nat → Tok) (n n2 : Nat) (items items2 : Array Value) (h1 : ∀ j : Nat, items[j]? = ns[j]?.map fun i => .int i (ts j)) (h2 : ∀ j : Nat, items2[j]? = ms[j]?.map fun i => .int i (us j)) (z1 : items.size = ns.length) (z2 : items2.size = ms.length) :
    Meets (Builtin.«list.__lt__» ⟨[.ref l, .ref b], []⟩) (fun A R s => s.heap.get? l = some { cls := .type "list", dict := none, data := .seq items n, slots := #[] } ∧ s.heap.get? b = some { cls := .type "list", dict := none, data := .seq items2 n2, slots := #[] } ∧ R (.ok (.ret (.bool (ltL ns ms)))) s) := by
  intro prog w A R s h
  obtain ⟨hp, g, d, tk, os⟩ := s; obtain ⟨hl, hb, h⟩ := h
  have f3 := AutoSeq1.sub_list_list
  wp_walk using wpAny_loadPart' hl, wpAny_loadPart' hb
  exact ⟨plainId_quiet plain_eq_loop _, codeAny_builtin entry_eq_loop (by
    rw [Around.under_plainId plain_eq_loop _]
    exact lt_loop l b ns ms ts us n n2 items items2 h1 h2 _ 0 rfl prog w A R _ ⟨hl, hb, Nat.zero_le _, Nat.zero_le _, z1, z2, h⟩)⟩
end
end Mine

end
section
set_option autoImplicit false
set_option linter.unusedVariables false
set_option linter.unusedSimpArgs false
namespace Mine
open PySem PySem.Calls PyProof.Rows

section
variable {X : Fix} {C : Ctx} {n : Nat} {P : Pt X n} {Ex : Value → Shared → Prop} {v u : V} {x y : Value} {vs : List V} {l m : Nat} {Q : Value → Shared → Prop} {b : Bool}
/-- the items of a list of ints -/
theorem ints_at {p : Ws} {xs : List Value} (r : RepL X.W.scr p vs xs) : ∀ is, allInts vs = some is → is.length = xs.length ∧ ∃ ts : Nat → Tok, ∀ j : Nat, xs.toArray[j]? = is[j]?.map fun i => .int i (ts j) :=
  RepL.ind (M := fun vs xs => ∀ is, allInts vs = some is → is.length = xs.length ∧ ∃ ts : Nat → Tok, ∀ j : Nat, xs.toArray[j]? = is[j]?.map fun i => .int i (ts j)) (fun is e => Option.some.inj e ▸ ⟨rfl, fun _ => 0, fun j => rfl⟩) (fun {v x vs xs} r1 _ ih is e => bindk e fun i ei e => mapk (fun is => is.length = (x :: xs).length ∧ ∃ ts : Nat → Tok, ∀ j : Nat, (x :: xs).toArray[j]? = is[j]?.map fun i => .int i (ts j)) e fun js ej =>
    intOf.k ei (fun v => Rep X.W.scr p v x → _) (fun r1 => r1.inv (fun x => (i :: js).length = (x :: xs).length ∧ ∃ ts : Nat → Tok, ∀ j : Nat, (x :: xs).toArray[j]? = (i :: js)[j]?.map fun i => .int i (ts j)) fun t => have h := ih js ej; ⟨congrArg (· + 1) h.1, h.2.elim fun ts h => ⟨fun j => match j with | 0 => t | j + 1 => ts j, fun j => match j with
      | 0 => rfl
      | j + 1 => by rw [List.getElem?_toArray, List.getElem?_cons_succ, List.getElem?_cons_succ, ← h j, List.getElem?_toArray]⟩⟩) r1) r
theorem lt_lists {a c : Addr} {xs ys : List Value} {us : List V} {ka kc : Nat} {is js : List Int} (h1 : P.s.heap.get? a = some (lstObj xs ka)) (h2 : P.s.heap.get? c = some (lstObj ys kc)) (r1 : RepL X.W.scr P.w vs xs) (r2 : RepL X.W.scr P.w us ys) (e1 : allInts vs = some is) (e2 : allInts us = some js) (k : Q (.bool (ltL is js)) P.s) : wpAny X.M P.A (compareOp .Lt (.ref a) (.ref c)) Q Ex P.s :=
  have q1 := ints_at r1 is e1
  have q2 := ints_at r2 js e2
  q1.2.elim fun ts h1' => q2.2.elim fun ts' h2' => wpAny_richCompare_same_room (op := .Lt) (isList_of h1).typeIs (isList_of h2).typeIs PySem.F.slot_list_lt
    (call_meets PySem.F.slot_list_lt (isList_of h1).typeIs PySem.F.entry_list_lt (PySem.F.args_list_lt_2 _ _) (lt_meets a c is js ts ts' ka kc _ _ h1' h2' q1.1.symm q2.1.symm) ⟨h1, h2, nofun, k⟩) (by have := P.rm.units; (first | lia | omega))
/-- a table that may be empty -/
theorem noneIn.k (r : Rep X.W.scr P.w v x) (e : noneIn P.H v = some b) (T : Value → Prop) (k : ∀ a o en ep, P.s.heap.get? a = some o → o.cls = .type "dict" → o.data = .dict en ep → b = decide (en.size = 0) → (a == sysModules) = false → T (.ref a)) : T x := by
  have sz : ∀ {α β : Type} {as : List α} {bs : List β} {M : α → β → Prop} {en : Array DictEntry}, L2 M as bs → en.toList.length = bs.length → as.isEmpty = decide (en.size = 0) := fun {α β as bs M en} h e => by
    rw [← Array.length_toList, e, ← h.length]
    cases as <;> rfl
  unfold noneIn at e
  cases ed : dictAt' P.H v with
  | some es =>
    rw [ed] at e
    exact cellAt.k ed (fun u => v = u → T x) (fun l c hl hc => asDict.k (fun c => P.H[l]? = some c → v = .ref l → T x) hc (fun ep hl ev => P.cell (ev ▸ r) hl T fun a ha h => h.inv _ fun o en kvs x0 x1 x2 x3 x4 x5 r z n => k a o en ep x0 x1.1 x2 (Option.some.inj e ▸ sz r x4.length) z) hl) rfl
  | none =>
    rw [ed] at e
    exact mapk (fun b => (∀ a o en ep, P.s.heap.get? a = some o → o.cls = .type "dict" → o.data = .dict en ep → b = decide (en.size = 0) → (a == sysModules) = false → T (.ref a)) → T x) e (fun es ed k => cellAt.k ed (fun u => v = u → T x) (fun l c hl hc => asDicP.k (fun c => P.H[l]? = some c → v = .ref l → T x) hc (fun ep hl ev => P.cell (ev ▸ r) hl T fun a ha h => h.inv _ fun o en kvs x0 x1 x2 x3 x4 r z n => k a o en ep x0 x1.1 x2 (sz r (by rw [x3, List.length_map])) z) hl) rfl) k
/-- == and != -/
theorem eq_snd (r1 : Rep X.W.scr P.w v x) (r2 : Rep X.W.scr P.w u y) (e : eqV P.H v u = some b) : (Q (.bool b) P.s → wpAny X.M P.A (compareOp .Eq x y) Q Ex P.s) ∧ (Q (.bool (!b)) P.s → wpAny X.M P.A (compareOp .NotEq x y) Q Ex P.s) := by
  unfold eqV at e
  cases eN : noneIn P.H v with
  | some c =>
    rw [eN] at e
    refine bindk e fun d ed e => ifk e (fun b => (Q (.bool b) P.s → wpAny X.M P.A (compareOp .Eq x y) Q Ex P.s) ∧ (Q (.bool (!b)) P.s → wpAny X.M P.A (compareOp .NotEq x y) Q Ex P.s)) fun hcd => ?_
    refine noneIn.k r1 eN (fun x => (Q (.bool (c && d)) P.s → wpAny X.M P.A (compareOp .Eq x y) Q Ex P.s) ∧ (Q (.bool (!(c && d))) P.s → wpAny X.M P.A (compareOp .NotEq x y) Q Ex P.s)) fun a o en ep a1 a2 a3 a4 a5 => noneIn.k r2 ed (fun y => (Q (.bool (c && d)) P.s → wpAny X.M P.A (compareOp .Eq _ y) Q Ex P.s) ∧ (Q (.bool (!(c && d))) P.s → wpAny X.M P.A (compareOp .NotEq _ y) Q Ex P.s)) fun a' o' en' ep' b1 b2 b3 b4 b5 => ?_
    subst a4 b4
    have h0 : en.size = 0 ∨ en'.size = 0 := (Bool.or_eq_true_iff.mp hcd).imp of_decide_eq_true of_decide_eq_true
    have hb : (decide (en.size = 0) && decide (en'.size = 0)) = (en.size == en'.size) := by
      rcases h0 with h | h <;> rw [h] <;> cases en.size <;> cases en'.size <;> rfl
    rw [hb]
    exact eqD ⟨o, a1, a2⟩ ⟨o', b1, b2⟩ a5 b5 a1 a3 b1 b3 h0 (by have := P.rm.units; (first | lia | omega))
  | none =>
    rw [eN] at e
    exact bindk e fun d e1 e => mapk (fun b => (Q (.bool b) P.s → wpAny X.M P.A (compareOp .Eq x y) Q Ex P.s) ∧ (Q (.bool (!b)) P.s → wpAny X.M P.A (compareOp .NotEq x y) Q Ex P.s)) e fun d' e2 => (rd_snd P 10 v d x e1 r1).casesOn fun as q1 q2 q3 => (rd_snd P 10 u d' y e2 r2).casesOn fun bs p1 p2 p3 => ⟨eq_dataH q1 p1 (shaped_of q2 q3) (shaped_of p2 p3) (units_of P), ne_dataH q1 p1 (shaped_of q2 q3) (shaped_of p2 p3) (units_of P)⟩
/-- in -/
theorem in_snd (G : X.Gl C) (r1 : Rep X.W.scr P.w v x) (r2 : Rep X.W.scr P.w u y) (e : inV C.scr P.H v u = some b) (k : ∀ tk, Q (.bool b) (upd P.s P.s.heap tk)) : wpAny X.M P.A (compareOp .In x y) Q Ex P.s := by
  unfold inV at e
  cases ed : dictAt' P.H u with
  | some es =>
    rw [ed] at e
    exact mapk (fun b => (∀ tk, Q (.bool b) (upd P.s P.s.heap tk)) → _) e (fun i ei k => intOf.k ei (fun v => Rep X.W.scr P.w v x → _) (fun r1 => r1.inv (fun x => wpAny X.M P.A (compareOp .In x y) Q Ex P.s) fun t => dct r2 G ed (fun y => wpAny X.M P.A (compareOp .In _ y) Q Ex P.s) fun _ _ a kvs _ _ _ h2 h3 h1 h4 =>
      wpAny_in_of (knd := intKind X.prog X.w) (k := i) (beq_self_eq_true i) h1 h2.mapOf (by
        have h := dhas_eq es i
        rcases dget_kv h3 i with ⟨w1, w2⟩ | ⟨_, _, w1, w2, _⟩ <;> rw [w1] at h <;> rw [w2] <;> exact h ▸ k _)) r1) k
  | none =>
    rw [ed] at e
    cases ep : dicPAt P.H u with
    | some es =>
      rw [ep] at e
      exact mapk (fun b => (∀ tk, Q (.bool b) (upd P.s P.s.heap tk)) → _) e (fun i ei k => pairOf.k ei (fun v => Rep X.W.scr P.w v x → _) (fun r1 => dctP r2 G ep (fun y => wpAny X.M P.A (compareOp .In _ y) Q Ex P.s) fun _ _ a kvs _ _ _ h2 h3 h1 h4 => r1.inv (fun x => Rep X.W.scr P.w (pairV i) x → wpAny X.M P.A (compareOp .In x _) Q Ex P.s) (fun c n xs _ _ _ _ r1 =>
        wpAny_in_heap (knd := pKind X.prog X.w) (k := pK i) (by show P.A.units + 1 < cLine; have := P.rm.units; (first | lia | omega)) (pair_is r1) h1 h2 (by
          have h := dhas_eq es i
          rcases dget_kp h3 i with ⟨w1, w2⟩ | ⟨_, _, _, w1, w2, _⟩ <;> rw [w1] at h <;> rw [w2] <;> exact h ▸ k _)) r1) r1) k
    | none =>
      rw [ep] at e
      refine bindk e fun vs ev e => bindk e fun ds eds e => mapk (fun b => (∀ tk, Q (.bool b) (upd P.s P.s.heap tk)) → _) e (fun d e2 k => (rd_snd P 10 v d x e2 r1).casesOn fun bs p1 p2 p3 => ?_) k
      have hu : ∀ {m : Nat}, P.A.units + 1 + min m d.depth < cLine := by have := units_of P; (first | lia | omega)
      exact items G r2 ev (fun y => wpAny X.M P.A (compareOp .In x y) Q Ex P.s) (fun _ a xs n h1 h2 _ _ => (rdL_snd (rd_snd P 10) h2 ds eds).casesOn fun as q1 q2 q3 => SeqAt.in_tuple_reads (reads_tuple_at h1 rfl rfl q1) p1 q2 p2 hu (k _)) fun a xs h1 h2 _ => (rdL_snd (rd_snd P 10) h2 ds eds).casesOn fun as q1 q2 q3 => h1.elim fun o h1 => h1.2.2.elim fun n hd => SeqAt.in_list_reads (reads_list_at h1.1 h1.2.1 hd q1) p1 q2 p2 hu (k _)
theorem int2.k {f : Int → Int → Bool} (e : int2 v u f = some b) (r1 : Rep X.W.scr P.w v x) (r2 : Rep X.W.scr P.w u y) (T : Value → Value → Bool → Prop) (k : ∀ i j t t', T (.int i t) (.int j t') (f i j)) : T x y b :=
  bindk e fun i ei e => mapk (fun b => T x y b) e fun j ej => intOf.k ei (fun v => Rep X.W.scr P.w v x → _) (fun r1 => intOf.k ej (fun u => Rep X.W.scr P.w u y → _) (fun r2 => r1.inv (fun x => T x y _) fun t => r2.inv (fun y => T _ y _) fun t' => k i j t t') r2) r1
theorem cmp_snd {op : COp} (G : X.Gl C) (r1 : Rep X.W.scr P.w v x) (r2 : Rep X.W.scr P.w u y) (e : cmpV C.scr op v u P.H = some b) (k : ∀ tk, Q (.bool b) (upd P.s P.s.heap tk)) : wpAny X.M P.A (compareOp (copOf op) x y) Q Ex P.s := by
  cases op with
  | eq => exact (eq_snd r1 r2 e).1 (k _)
  | ne => exact mapk (fun b => (∀ tk, Q (.bool b) (upd P.s P.s.heap tk)) → _) e (fun c e k => (eq_snd r1 r2 e).2 (k _)) k
  | isIn => exact in_snd G r1 r2 e k
  | notIn => exact mapk (fun b => (∀ tk, Q (.bool b) (upd P.s P.s.heap tk)) → _) e (fun c e k => not_in (in_snd G r1 r2 e fun tk => ⟨_, rfl, k tk⟩)) k
  | le => exact int2.k e r1 r2 (fun x y b => (∀ tk, Q (.bool b) (upd P.s P.s.heap tk)) → wpAny X.M P.A (compareOp .LtE x y) Q Ex P.s) (fun _ _ _ _ k => le_int (k _)) k
  | gt => exact int2.k e r1 r2 (fun x y b => (∀ tk, Q (.bool b) (upd P.s P.s.heap tk)) → wpAny X.M P.A (compareOp .Gt x y) Q Ex P.s) (fun _ _ _ _ k => gt_int (k _)) k
  | lt =>
    change ltV v u P.H = some b at e
    unfold ltV at e
    split at e
    · cases e; exact r1.inv (fun x => wpAny X.M P.A (compareOp .Lt x y) Q Ex P.s) fun t => r2.inv (fun y => wpAny X.M P.A (compareOp .Lt _ y) Q Ex P.s) fun t' => lt_int (k _)
    · exact bindk e fun is e1 e => mapk (fun b => (∀ tk, Q (.bool b) (upd P.s P.s.heap tk)) → _) e (fun js e2 k => bindk e1 fun vs e3 e1 => bindk e2 fun us e4 e2 => lst r1 e3 (fun x => wpAny X.M P.A (compareOp .Lt x y) Q Ex P.s) fun _ a xs n _ _ _ h1 h2 _ => lst r2 e4 (fun y => wpAny X.M P.A (compareOp .Lt _ y) Q Ex P.s) fun _ c ys n' _ _ _ q1 q2 _ => lt_lists h1 q1 h2 q2 e1 e2 (k _)) k
    · cases e
end
end Mine

end
section
set_option autoImplicit false
set_option linter.unusedVariables false
set_option linter.unusedSimpArgs false
namespace Mine
open PySem PySem.Calls PyProof.Rows

section
variable {X : Fix} {C : Ctx} {n : Nat} {sc : Scope} {ns : List Str} {P : Fp X n sc ns} {Q Ex : Value → Shared → Prop} {x : Str} {pos : Pos}
theorem cellOf_lookup {k : Option NameKind} (h : isCellK k) {G : Prop} (kc : k = some .cell → G) (kf : k = some .free → G) : G := by
  cases k with
  | none => cases h
  | some k => cases k <;> first | cases h; done | exact kc rfl | exact kf rfl
theorem okVar.k {i : Nat} {G : Prop} (h : okVar ns i x = true) (k : ns.idxOf x = i → x ∈ ns → G) : G := andk h fun h1 h2 => by
  have h1 := of_decide_eq_true h1
  exact k h1 (List.idxOf_lt_length_iff.mp (h1 ▸ of_decide_eq_true h2))
theorem var_snd {i : Nat} (h : chkVar sc ns i x = true) : EvS X C n sc ns (.var i) (.Name x pos) := fun P post Q Ex p k kx =>
  andk h fun h1 h => andk h fun h2 h => andk h fun h3 h4 => okVar.k h1 fun hi hx => wSome.k p fun v hv p => by
    rw [← hi] at hv
    refine wpAny_Name ?_ (Bool.not_eq_true' _ ▸ h3)
    have key : P.env.kindOf x = some .local ∨ isCellK (P.env.kindOf x) := by
      rcases P.kd x with e | ⟨_, e⟩
      · rw [← e]
        revert h2
        cases sc.names.lookup x with
        | none => exact fun h => Bool.noConfusion h
        | some k => cases k <;> first | exact fun h => Bool.noConfusion h | exact fun _ => .inl rfl | exact fun _ => .inr rfl
      · exact .inr e
    rcases key with hk | hk
    · exact P.F.loc.elim fun m h => (h.2 x hx hk).inv hv (fun y => m x = y → _) (fun y r e => wpAny_loadName_local P.F.fc.fn hk h.1 e (k.now p r _)) rfl
    · exact (P.F.cel x hx hk).elim fun c h => h.elim fun y h => h.2.2.inv hv (fun y => P.s.heap.IsCell c y → _) (fun y r e => cellOf_lookup hk (fun hk => wpAny_loadName_cell P.F.fc.fn hk h.1 e (k.now p r _)) fun hk => wpAny_loadName_free P.F.fc.fn hk h.1 e (k.now p r _) (Bool.not_eq_true' _ ▸ h4)) h.2.1
theorem Kinds.glob {env : Env} (kd : Kinds sc env) {G : Prop} (h : okGlob sc x = true) (k : env.kindOf x = some .globalImplicit → (x == ("__debug__" : Str)) = false → G) : G := andk h fun h1 h2 => by
  have h1 := of_decide_eq_true h1
  rcases kd x with e | ⟨e, _⟩
  · exact k (e ▸ h1) (Bool.not_eq_true' _ ▸ h2)
  · rw [h1] at e; cases e
/-- a name of the text's top -/
theorem glob_top (G : X.Gl C) (P : Fp X n sc ns) {y : Value} (e : X.mg x = some y) (h : okGlob sc x = true) (hQ : Q y P.s) : wpAny X.M P.A (eval (.Name x pos) P.env) Q Ex P.s :=
  P.kd.glob h fun k1 k2 => Name_function_global P.F.fc.fn k1 (loadGlobal_global (by rw [P.F.fc.glob]; exact G.1.g.keeps P.R.keep) e hQ) k2
theorem glob_bi (G : X.Gl C) (P : Fp X n sc ns) {y : Value} (e : (x, y) ∈ biTable) (h : okGlob sc x = true) (hQ : Q y P.s) : wpAny X.M P.A (eval (.Name x pos) P.env) Q Ex P.s :=
  P.kd.glob h fun k1 k2 => have e := G.1.bi _ e; Name_function_global P.F.fc.fn k1 (loadGlobal_builtin (by rw [P.F.fc.glob]; exact G.1.g.keeps P.R.keep) e.1 (by rw [P.F.fc.blt]; exact G.1.b.keeps P.R.keep) e.2 hQ) k2
end

section
variable {X : Fix} {C : Ctx} {n : Nat} {P : Pt X n} {Ex Q : Value → Shared → Prop} {v u : V} {x y : Value} {vs : List V}
theorem seqAt.k {xs : List Value} {p : Ws} {k : Int} {G : Prop} (r : RepL X.W.scr p vs xs) (e : seqAt vs k = some v)
    (kk : ∀ j z, seqIndex? k xs.length = some j → xs[j]? = some z → Rep X.W.scr p v z → ((0 ≤ k ∧ j = k.toNat) ∨ (k < 0 ∧ -(xs.length : Int) ≤ k ∧ j = (k + xs.length).toNat)) → G) : G := by
  have hl := r.length
  unfold seqAt at e
  by_cases h0 : 0 ≤ k
  · rw [if_pos h0] at e
    refine r.get e fun z hz rz => kk k.toNat z ?_ hz rz (.inl ⟨h0, rfl⟩)
    have hlt := (List.getElem?_eq_some_iff.mp hz).1
    unfold seqIndex?
    rw [if_neg (Int.not_lt.mpr h0), if_pos (by rw [decide_eq_true h0, decide_eq_true (by (first | lia | omega))]; rfl)]
  · rw [if_neg h0] at e
    have h1 : k < 0 := Int.not_le.mp h0
    rw [hl] at e
    by_cases h2 : -(xs.length : Int) ≤ k
    · rw [if_pos h2] at e
      refine r.get e fun z hz rz => kk _ z ?_ hz rz (.inr ⟨h1, h2, rfl⟩)
      unfold seqIndex?
      rw [if_pos h1, if_pos (by rw [decide_eq_true (by (first | lia | omega)), decide_eq_true (by (first | lia | omega))]; rfl)]
    · rw [if_neg h2] at e; cases e
/-- a subscript that is no slice -/
noncomputable def notSlice (e : Expr) : Bool := decide (e.ctorIdx ≠ 26)
theorem subscripted_plain {e : Expr} (h : notSlice e = true) (o i : Value) : subscripted e false o i = operate [o, i] (getItem o i) := by
  cases e <;> first | rfl | cases h
theorem idx_snd {i : V} {value slice : Expr} (G : X.Gl C) (P : Pt X n) (hs : notSlice slice = true) (r1 : Rep X.W.scr P.w v x) (r2 : Rep X.W.scr P.w i y) (e : idxV C.scr v i P.H = some u) (k : ∀ tk z, Rep X.W.scr P.w u z → Q z (upd P.s P.s.heap tk)) : wpAny X.M P.A (subscriptTail value slice x y) Q Ex P.s := by
  have two : (pairOf i).bind (fun q => (dicPAt P.H v).bind fun es => dget es q) = some u → wpAny X.M P.A (subscriptTail value slice x y) Q Ex P.s := fun e =>
    bindk e fun q eq e => bindk e fun es ees e => pairOf.k eq (fun i => Rep X.W.scr P.w i y → _) (fun r2 => r2.inv (fun y => Rep X.W.scr P.w (pairV q) y → wpAny X.M P.A (subscriptTail value slice x y) Q Ex P.s) (fun a n xs _ _ _ _ r2 => dctP r1 G ees (fun x => wpAny X.M P.A (subscriptTail value slice x _) Q Ex P.s) fun _ _ d kvs _ _ _ h2 h3 _ _ =>
      tail_any h2.typeIs PySem.slot_dict_getitem.lookup (by
        rcases dget_kp h3 q with ⟨w1, _⟩ | ⟨_, _, _, w1, w2, w3⟩
        · exact none_some w1 e
        · rw [w1] at e; cases e
          exact wpAny_getItem_heap (knd := pKind X.prog X.w) (k := pK q) (by show P.A.units + 1 < cLine; have := P.rm.units; (first | lia | omega)) (pair_is r2) h2 w2 (k _ _ w3)) (subscripted_plain hs _ _)) r2) r2
  cases i with
  | int j =>
    refine r2.inv (fun y => wpAny X.M P.A (subscriptTail value slice x y) Q Ex P.s) fun t => ?_
    change (match itemsOf C.scr P.H v with | some vs => seqAt vs j | none => (dictAt' P.H v).bind fun es => dget es j) = some u at e
    cases hi : itemsOf C.scr P.H v with
    | some vs =>
      rw [hi] at e
      have bd : ∀ {m : Nat} {l : List Value}, vs.length = l.length → vs.length ≤ 16000000 → m < l.length → (0 ≤ j ∧ m = j.toNat) ∨ (j < 0 ∧ -(l.length : Int) ≤ j ∧ m = (j + l.length).toNat) → -(2 : Int) ^ 63 ≤ j ∧ j < 2 ^ 63 := by (first | lia | omega)
      refine items G r1 hi (fun x => wpAny X.M P.A (subscriptTail value slice x _) Q Ex P.s) (fun _ a xs n h1 h2 h3 _ => seqAt.k h2 e fun m z q1 q2 q3 q4 => ?_) fun a xs h1 h2 h3 => seqAt.k h2 e fun m z q1 q2 q3 q4 => ?_
      · have b := bd h2.length h3 (List.getElem?_eq_some_iff.mp q2).1 q4
        exact item_tupleT (isTup_of h1) b.1 b.2 q1 q2 (k _ z q3) (subscripted_plain hs _ _)
      · have b := bd h2.length h3 (List.getElem?_eq_some_iff.mp q2).1 q4
        refine tail_any h1.typeIs PySem.slot_list_getitem.lookup ?_ (subscripted_plain hs _ _)
        rcases q4 with ⟨q4, rfl⟩ | ⟨q4, q5, rfl⟩
        · exact wpAny_getItem_list h1 q4 b.2 (by rw [List.getElem?_toArray]; exact q2) (k _ z q3)
        · exact wpAny_getItem_list_neg h1 q4 q5 b.1 (by rw [List.getElem?_toArray]; exact q2) (k _ z q3)
    | none =>
      rw [hi] at e
      exact bindk e fun es ees e => dct r1 G ees (fun x => wpAny X.M P.A (subscriptTail value slice x _) Q Ex P.s) fun _ _ d kvs _ _ _ h2 h3 _ _ => tail_any h2.typeIs PySem.slot_dict_getitem.lookup (by
        rcases dget_kv h3 j with ⟨w1, _⟩ | ⟨_, _, w1, w2, w3⟩
        · exact none_some w1 e
        · rw [w1] at e; cases e
          exact wpAny_getItem_of (knd := intKind X.prog X.w) (k := j) (beq_self_eq_true j) h2.mapOf w2 (k _ _ w3)) (subscripted_plain hs _ _)
  | _ => exact two e
end
end Mine

end
section
set_option autoImplicit false
set_option linter.unusedVariables false
set_option linter.unusedSimpArgs false
namespace Mine
open PySem PySem.Calls PyProof.Rows

noncomputable def bop (w : Bool) : BoolOp := if w then .And else .Or
section
variable {X : Fix} {C : Ctx} {n : Nat} {sc : Scope} {ns : List Str} {A : Around} {env : Env} {s : Shared} {Ex : Value → Shared → Prop}
theorem boolOp_w {w : Bool} {e₁ e₂ : Expr} {rest : List Expr} {pos : Pos} {Q : Value → Shared → Prop} (h : wpAny X.M A (eval e₁ env) (fun v s₁ => wpAny X.M A (PySem.truthy v) (fun c s₂ => wIf (c == w) (wpAny X.M A (eval (.BoolOp (bop w) (e₂ :: rest) pos) env) Q Ex s₂) (Q v s₂)) Ex s₁) Ex s) :
    wpAny X.M A (eval (.BoolOp (bop w) (e₁ :: e₂ :: rest) pos) env) Q Ex s := by
  cases w
  · exact BoolOp_or (wpAny_mono h (fun v s₁ h => wpAny_mono h (fun c s₂ h => by cases c <;> exact h) fun _ _ h => h) fun _ _ h => h)
  · exact BoolOp_and (wpAny_mono h (fun v s₁ h => wpAny_mono h (fun c s₂ h => by cases c <;> exact h) fun _ _ h => h) fun _ _ h => h)
theorem allTrue_w {w : Bool} {e : Expr} {rest : List Expr} {Q : Bool → Shared → Prop} (h : wpAny X.M A (isTrue e env (eval e env)) (fun c s₁ => wIf (c == w) (wpAny X.M A (allTrue (bop w) rest env) Q Ex s₁) (Q c s₁)) Ex s) : wpAny X.M A (allTrue (bop w) (e :: rest) env) Q Ex s := by
  cases w
  · exact wpAny_allTrue_Or_cons (wpAny_mono h (fun c s₂ h => by cases c <;> exact h) fun _ _ h => h)
  · exact wpAny_allTrue_And_cons (wpAny_mono h (fun c s₂ h => by cases c <;> exact h) fun _ _ h => h)
theorem allTrue_nil {w : Bool} {Q : Bool → Shared → Prop} (h : Q w s) : wpAny X.M A (allTrue (bop w) [] env) Q Ex s := by
  cases w <;> exact wpAny_pure h

/-- a list of expressions: as arguments, as the parts of `and`, `or`, as the tests of a comprehension -/
structure LsS (X : Fix) (C : Ctx) (n : Nat) (sc : Scope) (ns : List Str) (cs : List E) (es : List Expr) : Prop where
  len : cs.length = es.length
  spl : ∀ (P : Fp X n sc ns) (post : List V → Hp → Prop) (Q : List Value → Shared → Prop) (Ex : Value → Shared → Prop) (pos : Pos), WEs C cs P.ρ P.H post → KnL P.toPt cs.length post Q → Kn P.toPt (C.exc P.ρ) Ex → wpAny X.M P.A (spliced (backTo pos (starEach es P.env))) Q Ex P.s
  plain : ∀ (env : Env) (pos : Pos), (backTo pos (starEach es env)).any (·.1) = false
  get : ∀ (i : Nat) c e, cs[i]? = some c → es[i]? = some e → EvS X C n sc ns c e ∧ TrS X C n sc ns c e
  bo : ∀ (w : Bool) (P : Fp X n sc ns) (post : PQ) (Q Ex : Value → Shared → Prop) (pos : Pos), WAnd C w cs P.ρ P.H post → Kn P.toPt post Q → Kn P.toPt (C.exc P.ρ) Ex → wpAny X.M P.A (eval (.BoolOp (bop w) es pos) P.env) Q Ex P.s
  boT : ∀ (w : Bool) (P : Fp X n sc ns) (post : PQ) (Q : Bool → Shared → Prop) (Ex : Value → Shared → Prop), WAnd C w cs P.ρ P.H post → KnT P.toPt post Q → Kn P.toPt (C.exc P.ρ) Ex → wpAny X.M P.A (allTrue (bop w) es P.env) Q Ex P.s
  tst : ∀ (P : Fp X n sc ns) (post : Bool → Hp → Prop) (Q : Bool → Shared → Prop) (Ex : Value → Shared → Prop), WT C cs P.ρ P.H post → KnB P.toPt post Q → Kn P.toPt (C.exc P.ρ) Ex →
    wpAny X.M P.A (forIn es true fun c r => if r = true then do let ok ← isTrue c P.env (eval c P.env); pure (ForInStep.yield ok) else pure (ForInStep.yield r)) Q Ex P.s

theorem tests_false {es : List Expr} {Q : Bool → Shared → Prop} (h : Q false s) :
    wpAny X.M A (forIn es false fun c r => if r = true then do let ok ← isTrue c env (eval c env); pure (ForInStep.yield ok) else pure (ForInStep.yield r)) Q Ex s := by
  induction es with
  | nil => exact wpAny_pure h
  | cons e r ih => rw [List.forIn_cons]; exact wpAny_bind (wpAny_pure ih)
theorem notStarred {c : E} {e : Expr} (h : chkE X.K sc ns c e = true) (env : Env) (rest : List Expr) : starEach (e :: rest) env = (false, eval e env) :: starEach rest env := by
  cases e <;> first | rfl | skip
  exfalso
  cases c <;> exact Bool.noConfusion h
theorem LsS.nil : LsS X C n sc ns [] [] where
  len := rfl
  spl := fun P post Q Ex pos p k kx => wpAny_items_nil (k _ _ p rfl (P.tick _) _ .nil)
  plain := fun _ _ => rfl
  get := fun i c e h => none_some List.getElem?_nil h
  bo := fun w P post Q Ex pos p => p.elim
  boT := fun w P post Q Ex p => p.elim
  tst := fun P post Q Ex p k kx => wpAny_pure (k _ _ p (P.tick _))
theorem LsS.cons {c : E} {cs : List E} {e : Expr} {es : List Expr} (h0 : chkE X.K sc ns c e = true) (he : EvS X C n sc ns c e ∧ TrS X C n sc ns c e) (hs : LsS X C n sc ns cs es) : LsS X C n sc ns (c :: cs) (e :: es) where
  len := congrArg (· + 1) hs.len
  spl := fun P post Q Ex pos p k kx => wpAny_items_cons (he.1 P _ _ Ex p (fun v H1 p1 N x r => hs.spl (P.to N) _ _ Ex pos p1 (fun vs H2 p2 hl N2 xs r2 => k _ _ p2 (congrArg (· + 1) hl) (N.then N2) _ (.cons (r.mono N2.S) r2)) (kx.nx N)) kx) (notStarred h0 P.env es)
  get := fun i c' e' h1 h2 => by
    cases i with
    | zero => cases h1; cases h2; exact he
    | succ i => exact hs.get i c' e' h1 h2
  plain := fun env pos => by
    rw [notStarred h0 env es]
    exact hs.plain env pos
  bo := fun w P post Q Ex pos p k kx => by
    cases cs with
    | nil =>
      cases es with
      | nil => exact BoolOp_one (he.1 P _ _ Ex p k kx)
      | cons _ _ => cases hs.len
    | cons c2 cs =>
      cases es with
      | nil => cases hs.len
      | cons e2 es =>
        refine boolOp_w (he.1 P _ _ Ex p (fun v H1 p1 N x r => wSome.k p1 fun b hb p1 => truthy_snd (P := N.pt) r hb fun tk => ?_) kx)
        cases hw : b == w with
        | true => rw [hw] at p1; exact hs.bo w (P.to (N.then (N.pt.tick tk))) _ _ Ex pos p1 (k.nx _) (kx.nx _)
        | false => rw [hw] at p1; exact k _ _ p1 (N.then (N.pt.tick tk)) _ r
  boT := fun w P post Q Ex p k kx => by
    refine allTrue_w ?_
    cases cs with
    | nil =>
      cases es with
      | cons _ _ => cases hs.len
      | nil =>
        refine he.2 P _ _ Ex p (fun v H1 p1 => (k v H1 p1).m fun b h N => ?_) kx
        cases hw : b == w with
        | true => exact allTrue_nil (eq_of_beq hw ▸ h N)
        | false => exact h N
    | cons c2 cs =>
      refine he.2 P _ _ Ex p (fun v H1 p1 => wSome.k p1 fun b hb p1 => .i hb fun N => ?_) kx
      cases hw : b == w with
      | true => rw [hw] at p1; exact hs.boT w (P.to N) _ _ Ex p1 (k.nx N) (kx.nx N)
      | false => rw [hw] at p1; exact wSome.at hb (k v H1 p1) N
  tst := fun P post Q Ex p k kx => by
    rw [List.forIn_cons]
    refine wpAny_bind (wpAny_bind (he.2 P _ _ Ex p (fun v H1 p1 => p1.m fun b p1 N => wpAny_pure ?_) kx))
    cases b with
    | true => exact hs.tst (P.to N) _ _ Ex p1 (k.nx N) (kx.nx N)
    | false => exact tests_false (k _ _ p1 N)
end
end Mine

end
section
set_option autoImplicit false
set_option linter.unusedVariables false
set_option linter.unusedSimpArgs false
namespace Mine
open PySem PySem.Calls PyProof.Rows

section
variable {X : Fix} {C : Ctx} {n : Nat} {sc : Scope} {ns : List Str} {a b c : E} {l r r' : Expr} {pos : Pos}
/-- the value and its truth -/
noncomputable def EvT (X : Fix) (C : Ctx) (n : Nat) (sc : Scope) (ns : List Str) (c : E) (e : Expr) : Prop := EvS X C n sc ns c e ∧ TrS X C n sc ns c e
/-- tests of a plain kind: the value, then its truth -/
noncomputable def plainTest (e : Expr) : Bool := decide (e.ctorIdx ≠ 3 ∧ e.ctorIdx ≠ 0 ∧ e.ctorIdx ≠ 5 ∧ e.ctorIdx ≠ 15)
theorem isTrue_plainTest {e : Expr} {env : Env} (h : plainTest e = true) (whole : Sem Value) : isTrue e env whole = (do let v ← whole; standAt e.pos; holding [v] (PySem.truthy v)) := by
  cases e <;> first | rfl | cases h
theorem EvS.t {e : Expr} (ev : EvS X C n sc ns c e) (he : ∀ env, isTrue e env (eval e env) = (do let v ← eval e env; standAt e.pos; holding [v] (PySem.truthy v))) : EvT X C n sc ns c e :=
  ⟨ev, fun P post Q Ex p k kx => wpAny_isTrue_value (ev P _ _ Ex p (fun v H1 p1 N x r => wSome.k (k v H1 p1) fun b hb h => truthy_snd (P := N.pt) r hb fun tk => h (N.then (N.pt.tick tk))) kx) (he _)⟩
/-- two parts one after the other -/
theorem ev2 (ha : EvS X C n sc ns a l) (hb : EvS X C n sc ns b r) (P : Fp X n sc ns) {post : V → V → Hp → Prop} {Q : Value → Value → Shared → Prop} {Ex : Value → Shared → Prop} (p : WE C a P.ρ P.H fun x H => WE C b P.ρ H fun y H => post x y H)
    (k : ∀ v u H, post v u H → ∀ (N : Nx P.toPt H) x y, Rep X.W.scr N.w v x → Rep X.W.scr N.w u y → Q x y N.s) (kx : Kn P.toPt (C.exc P.ρ) Ex) : wpAny X.M P.A (eval l P.env) (fun x s₁ => wpAny X.M P.A (eval r P.env) (fun y s₂ => Q x y s₂) Ex s₁) Ex P.s :=
  ha P _ _ Ex p (fun v H1 p1 N x r1 => hb (P.to N) _ _ Ex p1 (fun u H2 p2 N2 y r2 => k v u H2 p2 (N.then N2) x y (r1.mono N2.S) r2) (kx.nx N)) kx
theorem k_snd {v : V} {c : Const} {k : Nat} (h : cOf v = some c) : EvS X C n sc ns (.k v) (.Constant c k pos) := fun P post Q Ex p k kx =>
  V.casesOn (motive_1 := fun v => cOf v = some c → post v P.H → wpAny X.M P.A (eval (.Constant c _ pos) P.env) Q Ex P.s) v (fun h p => Option.some.inj h ▸ wpAny_Constant_none (k.now p .none _)) (fun _ h p => Option.some.inj h ▸ wpAny_Constant_bool (k.now p (.bool _) _)) (fun _ h p => Option.some.inj h ▸ wpAny_Constant_int (k.now p (.int _ _) _))
    (fun _ h => none_some rfl h) (fun _ h => none_some rfl h) (fun h => none_some rfl h) h p
theorem bin_snd {op : BOp} (G : X.Gl C) (ha : EvS X C n sc ns a l) (hb : EvS X C n sc ns b r) : EvS X C n sc ns (.bin op a b) (.BinOp l (opOf op) r pos) := fun P post Q Ex p k kx =>
  wpAny_BinOp (ev2 ha hb P p (fun v u H q N x y r1 r2 => binop_snd G N.pt r1 r2 q (k.nx N)) kx)
theorem neg_snd (ha : EvS X C n sc ns a l) : EvS X C n sc ns (.neg a) (.UnaryOp .USub l pos) := fun P post Q Ex p k kx =>
  wpAny_UnaryOp (ha P _ _ Ex p (fun v H1 p1 N x r => wInt.k p1 (fun v => Rep X.W.scr N.w v x → _) (fun i p1 r => r.inv (fun x => wpAny X.M P.A (unaryOp .USub x) Q Ex N.s) fun t => neg_int (k _ _ p1 (N.then (N.pt.tick _)) _ (.int _ _))) r) kx)
theorem not_snd (ha : EvT X C n sc ns a l) : EvT X C n sc ns (.not a) (.UnaryOp .Not l pos) :=
  ⟨fun P post Q Ex p k kx => wpAny_UnaryOp (ha.1 P _ _ Ex p (fun v H1 p1 N x r => wSome.k p1 fun b hb p1 => not_of (truthy_snd (P := N.pt) r hb fun tk => k _ _ p1 (N.then (N.pt.tick tk)) _ (.bool _))) kx),
   fun P post Q Ex p k kx => wpAny_isTrue_Not (ha.2 P _ _ Ex p (fun v H1 p1 => p1.m fun b p1 => k _ _ p1) kx)⟩
theorem bool_snd {w : Bool} {cs : List E} {es : List Expr} (h : LsS X C n sc ns cs es) (hw : ∀ ρ H post, WE C c ρ H post → WAnd C w cs ρ H post) : EvT X C n sc ns c (.BoolOp (bop w) es pos) :=
  ⟨fun P post Q Ex p k kx => h.bo w P post Q Ex pos (hw _ _ _ p) k kx, fun P post Q Ex p k kx => wpAny_isTrue_BoolOp (h.boT w P post Q Ex (hw _ _ _ p) k kx)⟩
theorem noMarks {c : E} {e : Expr} (h : chkE X.K sc ns c e = true) (o : CmpOp) : behindInMarks o e = false := by
  cases e <;> first | rfl | skip
  exfalso
  cases c <;> exact Bool.noConfusion h
theorem cmpE_snd {op : COp} (G : X.Gl C) (h0 : chkE X.K sc ns b r = true) (ha : EvS X C n sc ns a l) (hb : EvS X C n sc ns b r) : EvT X C n sc ns (.cmp op a b) (.Compare l [copOf op] [r] pos) :=
  ⟨fun P post Q Ex p k kx => wpAny_Compare1 (ev2 ha hb P p (fun v u H q N x y r1 r2 => wSome.k q fun t ht q => cmp_snd (P := N.pt) G r1 r2 ht fun tk => k _ _ q (N.then (N.pt.tick tk)) _ (.bool _)) kx) (noMarks h0 _),
   fun P post Q Ex p k kx => wpAny_isTrue_Compare1 (ev2 ha hb P p (fun v u H q N x y r1 r2 => wSome.k q fun t ht q => cmp_snd (P := N.pt) G r1 r2 ht fun tk => wpAny_truthy_bool (k _ _ q (N.then (N.pt.tick tk)))) kx) (noMarks h0 _)⟩
theorem none_key {p : Ws} {v : V} {x : Value} (r : Rep X.W.scr p v x) : plainIs x .none = true ∧ (x == Value.none) = isNoneV v :=
  r.casesOn (motive_1 := fun v x _ => plainIs x .none = true ∧ (x == Value.none) = isNoneV v) ⟨rfl, rfl⟩ (fun _ => ⟨rfl, rfl⟩) (fun _ _ => ⟨rfl, rfl⟩) (fun _ _ _ _ => ⟨rfl, rfl⟩) (fun _ => ⟨rfl, rfl⟩) ⟨rfl, rfl⟩
theorem is_none {P : Pt X n} {w : Bool} {v : V} {x : Value} {Q Ex : Value → Shared → Prop} (r : Rep X.W.scr P.w v x) (h : Q (.bool (isNoneV v == w)) P.s) : wpAny X.M P.A (compareOp (if w then .Is else .IsNot) x .none) Q Ex P.s := by
  rw [← (none_key r).2] at h
  cases w
  · rw [beq_f] at h; exact wpAny_isNot_plain (none_key r).1 h
  · rw [beq_t] at h; exact wpAny_is_plain (none_key r).1 h
theorem isNone_snd {w : Bool} {k : Nat} {kp : Pos} (ha : EvS X C n sc ns a l) : EvT X C n sc ns (.isNone w a) (.Compare l [if w then .Is else .IsNot] [.Constant .none k kp] pos) :=
  ⟨fun P post Q Ex p k kx => wpAny_Compare1 (ha P _ _ Ex p (fun v H1 p1 N x r1 => wpAny_Constant_none (is_none (P := N.pt) r1 (k _ _ p1 N _ (.bool _)))) kx) rfl,
   fun P post Q Ex p k kx => wpAny_isTrue_Compare1 (ha P _ _ Ex p (fun v H1 p1 N x r1 => wpAny_Constant_none (is_none (P := N.pt) r1 (wpAny_truthy_bool (k _ _ p1 N)))) kx) rfl⟩
theorem size_of {cs : List E} {vs : List V} {xs : List Value} {p : Ws} (hc : cs.length < 1000) (hl : vs.length = cs.length) (r : RepL X.W.scr p vs xs) : xs.length ≤ sizeLine ∧ vs.length ≤ 16000000 := by
  rw [← r.length, hl]; unfold sizeLine; (first | lia | omega)
theorem tup_snd {cs : List E} {es : List Expr} {k : Nat} (hc : cs.length < 1000) (h : LsS X C n sc ns cs es) : EvS X C n sc ns (.tup cs) (.Tuple es k pos) := fun P post Q Ex p k kx =>
  wpAny_Tuple_spliced (h.spl P _ _ Ex pos p (fun vs H1 p1 hl N xs r => have z := size_of hc hl r; ⟨z.1, k _ _ p1 (N.then (N.pt.ext (.push _) N.tk)) _ (.tup (n := 0) (Heap.get?_push_size _ rfl) (r.mono (Stp.ext (own := Nope) (p := N.w) (q := N.w) .refl (.push _))) z.2 (N.R.new (none_size _ (Nat.le_refl _))).1)⟩) kx)
theorem lst_snd {cs : List E} {es : List Expr} (hc : cs.length < 1000) (h : LsS X C n sc ns cs es) : EvS X C n sc ns (.lst cs) (.List es pos) := fun P post Q Ex p k kx =>
  wpAny_List_spliced (h.spl P _ _ Ex pos p (fun vs H1 p1 hl N xs r => have z := size_of hc hl r; ⟨z.1, Kn.list (P := N.pt) (k.nx N) (.push _) _ (none_size _ (Nat.le_refl _)) (Heap.get?_push_size _ rfl) r z.2 p1 _⟩) kx)
theorem notSlice_of {c : E} {e : Expr} (h : chkE X.K sc ns c e = true) : notSlice e = true := by
  cases e <;> first | rfl | skip
  exfalso
  cases c <;> exact Bool.noConfusion h
theorem idxE_snd (G : X.Gl C) (h0 : chkE X.K sc ns b r = true) (ha : EvS X C n sc ns a l) (hb : EvS X C n sc ns b r) : EvS X C n sc ns (.idx a b) (.Subscript l r pos) := fun P post Q Ex p k kx =>
  Subscript_ (ev2 ha hb P p (fun v u H q N x y r1 r2 => wSome.k q fun w hw q => idx_snd G N.pt (notSlice_of h0) r1 r2 hw fun tk z rz => k _ _ q (N.then (N.pt.tick tk)) _ rz) kx)
theorem evalArgs_of {A : Around} {s : Shared} {Ex : Value → Shared → Prop} {f : Value} {args : List (Bool × Sem Value)} {Q : Args → Shared → Prop} (hp : args.any (·.1) = false) (h : wpAny X.M A (spliced args) (fun vs s' => Q ⟨vs, []⟩ s') Ex s) : wpAny X.M A (evalArgs f true args []) Q Ex s := by
  cases args with
  | nil =>
    show wpAny X.M A (spliced [] >>= _) Q Ex s
    exact wpAny_bind (wpAny_mono h (fun vs s' h' => wpAny_bind (wpAny_pure (wpAny_holding (wpAny_bind (wpAny_pure (wpAny_bind (wpAny_pure (wpAny_pure h')))))))) fun _ _ x => x)
  | cons a r =>
    obtain ⟨b, t⟩ := a
    cases b with
    | false => exact Calls.evalArgs_plain h
    | true => cases hp
theorem call_snd {f : Nat} {x : Str} {cs : List E} {es : List Expr} {np : Pos} (G : X.Gl C) (hc : X.CallOk C n) (h1 : X.K.fns[f]? = some x) (h2 : okGlob sc x = true) (h : LsS X C n sc ns cs es) : EvS X C n sc ns (.call f cs) (.Call (.Name x np) es [] pos) := fun P post Q Ex p k kx =>
  (G.1.fn f x h1).casesOn fun a o d pm cd doc e1 e2 e3 e4 e5 _ _ => wpAny_Call_NameR (glob_top G P e3 h2 (Calls.callWith_function (o := o) (evalArgs_of (h.plain P.env pos) (h.spl P _ _ Ex pos p (fun vs H1 p1 _ N xs r => ⟨⟨N.R.keep _ _ e4, e5⟩, p1.elim fun Q₀ p1 => p1.elim fun X₀ p1 =>
    hc N.pt f x a vs xs Q₀ X₀ Q Ex h1 e3 r p1.1 (fun v H q N2 y r => k _ _ (p1.2.1 v H q) (N.then N2) y r) fun v H q N2 y r => kx _ _ (p1.2.2 v H q) (N.then N2) y r⟩) kx))))
end
end Mine

end
section
set_option autoImplicit false
set_option linter.unusedVariables false
set_option linter.unusedSimpArgs false
namespace Mine
open PySem PySem.Calls PyProof.Rows

/-- a later point of the same frame: the frame's own things may have changed -/
structure Sx {X : Fix} {n : Nat} {sc : Scope} {ns : List Str} (P : Fp X n sc ns) (own : Addr → Prop) (ρ : Env') (H : Hp) where
  φ : List Addr
  h : Heap
  tk : Nat
  R : SR X.W ⟨φ, h⟩ H
  F : FR X.W P.env ns ρ ⟨φ, h⟩
  S : Stp own P.w ⟨φ, h⟩
section
variable {X : Fix} {n : Nat} {sc : Scope} {ns : List Str} {P : Fp X n sc ns} {own : Addr → Prop} {ρ ρ' : Env'} {H H' : Hp}
abbrev Sx.w (N : Sx P own ρ H) : Ws := ⟨N.φ, N.h⟩
abbrev Sx.s (N : Sx P own ρ H) : Shared := (upd P.s N.h N.tk)
abbrev Sx.fp (N : Sx P own ρ H) : Fp X n sc ns := ⟨⟨P.A, N.φ, H, N.s, P.rm, N.R, P.fr.stp N.S⟩, P.env, ρ, P.kd, N.F, P.hf⟩
abbrev Sx.then (N : Sx P own ρ H) (N' : Sx N.fp own ρ' H') : Sx P own ρ' H' := ⟨N'.φ, N'.h, N'.tk, N'.R, N'.F, N.S.trans N'.S⟩
abbrev Nx.sx (N : Nx P.toPt H) : Sx P own P.ρ H := ⟨N.φ, N.h, N.tk, N.R, P.F.mono N.S fun _ _ h => h, N.S.nil⟩
end
/-- what a statement may change of the frame -/
noncomputable def OwnV (env : Env) (own : Addr → Prop) (x : Str) : Prop := (env.kindOf x = some .local ∧ own env.locals) ∨ (env.kindOf x = some .cell ∧ ∀ c, env.cells.lookup x = some c → own c)
section
variable {X : Fix} {C : Ctx} {n : Nat} {sc : Scope} {ns : List Str} {own : Addr → Prop} {Ex : Value → Shared → Prop}
theorem lk_set {i : Nat} {x z : Str} {v : Option V} {ρ : Env'} (hx : x ∈ ns) (hz : z ∈ ns) (hi : ns.idxOf x = i) (hl : i < ρ.length) : lk ns (ρ.set i v) z = if z = x then v else lk ns ρ z := by
  unfold lk
  by_cases e : z = x
  · rw [if_pos e, e, hi, List.getElem?_set_self hl]; rfl
  · rw [if_neg e, List.getElem?_set_ne fun e' => e ?_]
    have h1 := List.idxOf_lt_length_of_mem hx
    have h2 := List.idxOf_lt_length_of_mem hz
    rw [← hi] at e'
    have e1 : ns[ns.idxOf x]? = some x := by rw [List.getElem?_eq_getElem h1, List.getElem_idxOf]
    have e2 : ns[ns.idxOf z]? = some z := by rw [List.getElem?_eq_getElem h2, List.getElem_idxOf]
    rw [e'] at e1
    exact Option.some.inj (e2.symm.trans e1)
theorem isD_dict {o : Obj} {es : Array DictEntry} {ep : Nat} (h : o.data = .dict es ep) : isD o = true := by unfold isD; rw [h]
theorem isD_fields {o : Obj} {vs : Array Value} (h : o.data = .fields vs) : isD o = false := by unfold isD; rw [h]
theorem isD_cell {o : Obj} {v : Option Value} (h : o.data = .cell v) : isD o = false := by unfold isD; rw [h]
/-- a name is stored -/
theorem store_snd {P : Fp X n sc ns} {x : Str} {i : Nat} {v : V} {y : Value} {Q : Unit → Shared → Prop} (hi : ns.idxOf x = i) (hx : x ∈ ns) (ho : OwnV P.env own x) (r : Rep X.W.scr P.w v y) (k : ∀ N : Sx P own (P.ρ.set i (some v)) P.H, Q () N.s) : wpAny X.M P.A (bindName P.env x y) Q Ex P.s := by
  have hil : i < P.ρ.length := by rw [P.F.len, ← hi]; exact List.idxOf_lt_length_of_mem hx
  have hlk : ∀ z, z ∈ ns → lk ns (P.ρ.set i (some v)) z = if z = x then some v else lk ns P.ρ z := fun z hz => lk_set hx hz hi hil
  -- one of the frame's own things changes
  have key : ∀ (a : Addr) (h' : Heap) (tk : Nat), InF P.env a → own a → Heap.ExtBut a P.s.heap h' → (∀ o, P.s.heap.get? a = some o → fz o = false) → (∃ o', h'.get? a = some o' ∧ ∀ o, P.s.heap.get? a = some o → isD o = true → isD o' = true) →
      (∀ (S : Stp own P.w ⟨P.φ, h'⟩) (keep : ∀ b, b ≠ a → ∀ o, P.s.heap.get? b = some o → h'.get? b = some o), (∃ m, h'.Ns P.env.locals m ∧ ∀ z, z ∈ ns → P.env.kindOf z = some .local → OptRep X.W.scr ⟨P.φ, h'⟩ (lk ns (P.ρ.set i (some v)) z) (m z)) ∧
        ∀ z, z ∈ ns → isCellK (P.env.kindOf z) → ∃ c v', P.env.cells.lookup z = some c ∧ h'.IsCell c v' ∧ OptRep X.W.scr ⟨P.φ, h'⟩ (lk ns (P.ρ.set i (some v)) z) v') → Q () (upd P.s h' tk) := fun a h' tk ha hoa he hf hl hF =>
    have c : Ch (· = a) P.s.heap h' := .but he hf
    have S : Stp own P.w ⟨P.φ, h'⟩ := Stp.ch (io := (· = a)) (q := P.w) .refl c fun b hb => .inr (hb ▸ ⟨hoa, hl⟩)
    have q := hF S fun b hb o e => he b o hb e
    k ⟨P.φ, h', tk, P.R.ch (p := P.w) (io := (· = a)) (fun b hb => hb ▸ P.F.ap a ha) c, ⟨P.F.fc, by rw [List.length_set]; exact P.F.len, q.1, q.2, P.F.ap, fun b hb => (P.F.live b hb).elim fun o e => (S.alive b o e).imp fun _ x => x.1⟩, S⟩
  unfold bindName
  refine wpAny_bind (wpAny_holding (wpAny_point (wpAny_bind ?_)))
  rcases ho with ⟨hk, hL⟩ | ⟨hk, hc⟩
  · refine P.F.loc.elim fun m hm => wpAny_storeName_local hk hm.1 (fun h' hn hs => wpAny_point ?_) (by rw [P.F.fc.fn]; rfl)
    refine key P.env.locals h' _ (.inl rfl) hL hs.extBut (fun o e => hm.1.elim fun o' q => q.elim fun _ q => q.elim fun _ q => by rw [q.1] at e; cases e; exact fz_dict q.2.1) (hn.imp fun o q => q.elim fun _ q => q.elim fun _ q => ⟨q.1, fun _ _ _ => isD_dict q.2.1⟩) fun S keep => ⟨⟨_, hn, fun z hz hkz => ?_⟩, fun z hz hkz => ?_⟩
    · rw [hlk z hz]
      by_cases e : z = x
      · rw [if_pos e, if_pos e]; exact .some (r.mono S)
      · rw [if_neg e, if_neg e]; exact (hm.2 z hz hkz).kp S.kp
    · refine (P.F.cel z hz hkz).imp fun c q => q.imp fun v' q => ⟨q.1, IsCell_at q.2.1 (keep c (P.F.fc.ne _ (mem_lookup q.1))), ?_⟩
      rw [hlk z hz, if_neg fun e => by rw [e, hk] at hkz; cases hkz]
      exact q.2.2.kp S.kp
  · refine (P.F.cel x hx (by rw [hk]; rfl)).elim fun c q => q.elim fun v' q => wpAny_storeName_cell P.F.fc.fn hk q.1 q.2.1 fun h' hn hs => wpAny_point ?_
    refine key c h' _ (inF q.1) (hc c q.1) hs.extBut (fun o e => q.2.1.elim fun o' q => by rw [q.1] at e; cases e; exact fz_cell q.2) (hn.imp fun o x => ⟨x.1, fun o' e hd => q.2.1.elim fun o2 y => by rw [y.1] at e; cases e; exact no hd (isD_cell y.2)⟩) fun S keep => ⟨P.F.loc.imp fun m hm => ⟨Ns_at hm.1 (keep _ (P.F.fc.ne _ (mem_lookup q.1)).symm), fun z hz hkz => ?_⟩, fun z hz hkz => ?_⟩
    · rw [hlk z hz, if_neg fun e => by rw [e, hk] at hkz; cases hkz]
      exact (hm.2 z hz hkz).kp S.kp
    · rw [hlk z hz]
      by_cases e : z = x
      · rw [if_pos e, e]; exact ⟨c, some y, q.1, hn, .some (r.mono S)⟩
      · rw [if_neg e]
        exact (P.F.cel z hz hkz).imp fun c' q' => q'.imp fun v2 q' => ⟨q'.1, IsCell_at q'.2.1 (keep c' fun e' => e (P.F.fc.apart z x c (e' ▸ q'.1) q.1)), q'.2.2.kp S.kp⟩
noncomputable def OwnN (env : Env) (own : Addr → Prop) (xs : List Str) : Prop := ∀ x, x ∈ xs → OwnV env own x
theorem extNew {h h' : Heap} (he : Heap.ExtBut h.objs.size h h') : Ext h h' := fun a o e => he a o (fun e' => none_some (none_size h (Nat.le_of_eq e'.symm)) e) e
theorem each_cons {t : Tgt} {e : Expr} {env : Env} (h : chkT sc ns t e = true) (es : List Expr) : assignEach (e :: es) env = (false, assign e env) :: assignEach es env := by
  cases t with
  | var i => exact ifName.k (G := fun e => assignEach (e :: es) env = (false, assign e env) :: assignEach es env) h fun _ _ _ => rfl
  | tup ts => exact ifTuple.k (G := fun e => assignEach (e :: es) env = (false, assign e env) :: assignEach es env) h fun _ _ _ _ => rfl
theorem asgs_shape : ∀ {ts : List Tgt} {es : List Expr} {vs : List V} {ρ ρ' : Env'}, chkTs sc ns ts es = true → asgs ts vs ρ = some ρ' → ∀ env, (assignEach es env).length = vs.length ∧ (assignEach es env).findIdx? (·.1) = none
  | [], es, [], _, _, h, _, env => nilk (G := fun es => (assignEach es env).length = 0 ∧ (assignEach es env).findIdx? (·.1) = none) h ⟨rfl, rfl⟩
  | [], es, _ :: _, _, _, h, ea, env => none_some rfl ea
  | _ :: _, es, [], _, _, h, ea, env => none_some rfl ea
  | t :: ts, es, v :: vs, ρ, ρ', h, ea, env => ifCons.k (G := fun es => (assignEach es env).length = vs.length + 1 ∧ (assignEach es env).findIdx? (·.1) = none) h fun e es h => andk h fun h1 h2 => bindk ea fun ρ1 e1 e2 => by
    have q := asgs_shape h2 e2 env
    rw [each_cons h1 es]
    exact ⟨congrArg (· + 1) q.1, by rw [List.findIdx?_cons, q.2]; rfl⟩
mutual
theorem asg_snd : ∀ (t : Tgt) (e : Expr) (P : Fp X n sc ns) (v : V) (y : Value) (ρ' : Env') (Q : Unit → Shared → Prop) (Ex : Value → Shared → Prop), chkT sc ns t e = true → OwnN P.env own (tNames t e) → Rep X.W.scr P.w v y → asg t v P.ρ = some ρ' → (∀ N : Sx P own ρ' P.H, Q () N.s) → wpAny X.M P.A (assign e P.env y) Q Ex P.s
  | .var i, e, P, v, y, ρ', Q, Ex, h, ho, r, ea, k => ifName.k (G := fun e => OwnN P.env own (tNames (.var i) e) → wpAny X.M P.A (assign e P.env y) Q Ex P.s) h (fun x pos h ho => andk h fun h1 _ => okVar.k h1 fun hi hx => ifk ea (fun ρ' => (∀ N : Sx P own ρ' P.H, Q () N.s) → _) (fun _ k => by
      rw [PySem.assign_Name]
      exact wpAny_bind (wpAny_standAt (store_snd hi hx (ho x (List.mem_singleton.mpr rfl)) r k))) k) ho
  | .tup ts, e, P, v, y, ρ', Q, Ex, h, ho, r, ea, k => ifTuple.k (G := fun e => OwnN P.env own (tNames (.tup ts) e) → wpAny X.M P.A (assign e P.env y) Q Ex P.s) h (fun es j pos h ho => by
      have hv : ∃ vs, v = .tup vs := by cases v <;> first | cases ea; done | exact ⟨_, rfl⟩
      obtain ⟨vs, rfl⟩ := hv
      change asgs ts vs P.ρ = some ρ' at ea
      have q := asgs_shape h ea P.env
      exact r.inv (fun y => wpAny X.M P.A (assign (.Tuple es j pos) P.env y) Q Ex P.s) fun a m xs h1 h2 _ _ => wpAny_assign_Tuple P.rm.handled ⟨_, h1, rfl, m, rfl⟩ (by rw [q.1, List.size_toArray, h2.length]) q.2 fun h' he =>
        asgs_snd ts es (P.to (P.toPt.ext (extNew he) P.s.toks)) vs xs ρ' Q Ex h ho (h2.mono (P.toPt.ext (extNew he) P.s.toks).S) ea fun N => k ((P.toPt.ext (extNew he) P.s.toks).sx.then N)) ho
theorem asgs_snd : ∀ (ts : List Tgt) (es : List Expr) (P : Fp X n sc ns) (vs : List V) (ys : List Value) (ρ' : Env') (Q : Unit → Shared → Prop) (Ex : Value → Shared → Prop), chkTs sc ns ts es = true → OwnN P.env own (tNamess ts es) → RepL X.W.scr P.w vs ys → asgs ts vs P.ρ = some ρ' → (∀ N : Sx P own ρ' P.H, Q () N.s) → wpAny X.M P.A (assignInOrder ((assignEach es P.env).map (·.2)) ys) Q Ex P.s
  | [], es, P, vs, ys, ρ', Q, Ex, h, ho, r, ea, k => nilk (G := fun es => wpAny X.M P.A (assignInOrder ((assignEach es P.env).map (·.2)) ys) Q Ex P.s) h (by
      cases vs with
      | nil => cases ea; exact r.inv (fun ys => wpAny X.M P.A (assignInOrder [] ys) Q Ex P.s) (wpAny_pure (k (P.toPt.tick _).sx))
      | cons _ _ => cases ea)
  | t :: ts, es, P, vs, ys, ρ', Q, Ex, h, ho, r, ea, k => ifCons.k (G := fun es => OwnN P.env own (tNamess (t :: ts) es) → wpAny X.M P.A (assignInOrder ((assignEach es P.env).map (·.2)) ys) Q Ex P.s) h (fun e es h ho => andk h fun h1 h2 => by
      cases vs with
      | nil => cases ea
      | cons v vs =>
        rw [each_cons h1 es]
        exact bindk ea fun ρ1 e1 e2 => r.inv (fun ys => wpAny X.M P.A (assignInOrder (((false, assign e P.env) :: assignEach es P.env).map (·.2)) ys) Q Ex P.s) fun y ys r1 r2 => wpAny_assignInOrder_more (asg_snd t e P v y ρ1 _ Ex h1 (fun x hx => ho x (List.mem_append.mpr (.inl hx))) r1 e1 fun N =>
          asgs_snd ts es N.fp vs ys ρ' Q Ex h2 (fun x hx => ho x (List.mem_append.mpr (.inr hx))) (r2.mono N.S) e2 fun N' => k (N.then N'))) ho
end
end
end Mine

end
section
set_option autoImplicit false
set_option linter.unusedVariables false
set_option linter.unusedSimpArgs false
namespace Mine
open PySem PySem.Calls PyProof.Rows

/-- what is done behind a statement -/
structure KO {X : Fix} {n : Nat} {sc : Scope} {ns : List Str} (P : Fp X n sc ns) (own : Addr → Prop) (K : Out → Prop) (Q : Flow → Shared → Prop) : Prop where
  next : ∀ ρ H, K (.next ρ H) → ∀ N : Sx P own ρ H, Q .next N.s
  ret : ∀ v H, K (.ret v H) → ∀ (φ : List Addr) (h : Heap) (tk : Nat), SR X.W ⟨φ, h⟩ H → Stp own P.w ⟨φ, h⟩ → ∀ x, Rep X.W.scr ⟨φ, h⟩ v x → Q (.ret x) (upd P.s h tk)
noncomputable def KX {X : Fix} {n : Nat} {sc : Scope} {ns : List Str} (P : Fp X n sc ns) (own : Addr → Prop) (exc : Env' → V → Hp → Prop) (Ex : Value → Shared → Prop) : Prop := ∀ ρ v H, exc ρ v H → ∀ (N : Sx P own ρ H) x, Rep X.W.scr N.w v x → Ex x N.s
noncomputable def OwnF (env : Env) (own : Addr → Prop) (ns : List Str) : Prop := OwnN env own ns ∧ ∀ a, own a → InF env a
section
variable {X : Fix} {C : Ctx} {n : Nat} {sc : Scope} {ns : List Str} {P : Fp X n sc ns} {own : Addr → Prop} {K : Out → Prop} {Q : Flow → Shared → Prop} {Ex : Value → Shared → Prop} {ρ : Env'} {H : Hp}
theorem KO.nx (k : KO P own K Q) (N : Sx P own ρ H) : KO N.fp own K Q := ⟨fun ρ' H' p N' => k.next ρ' H' p (N.then N'), fun v H' p φ h tk R S x r => k.ret v H' p φ h tk R (N.S.trans S) x r⟩
theorem KX.nx {exc : Env' → V → Hp → Prop} (k : KX P own exc Ex) (N : Sx P own ρ H) : KX N.fp own exc Ex := fun ρ' v H' p N' x r => k ρ' v H' p (N.then N') x r
theorem KX.kn {exc : Env' → V → Hp → Prop} (k : KX P own exc Ex) : Kn P.toPt (exc P.ρ) Ex := fun v H p N x r => k P.ρ v H p N.sx x r
theorem KX.no : KX P own (fun _ _ _ => False) Ex := fun _ _ _ h => h.elim
/-- the body of a loop, or of a def: a list of statements -/
noncomputable def SsS (X : Fix) (C : Ctx) (n : Nat) (sc : Scope) (ns : List Str) (cs : List S) (ss : List Stmt) : Prop :=
  ∀ (P : Fp X n sc ns) (own : Addr → Prop) (K : Out → Prop) (Q : Flow → Shared → Prop) (Ex : Value → Shared → Prop), OwnF P.env own ns → WSs C cs P.ρ P.H K → KO P own K Q → KX P own C.exc Ex → wpAny X.M P.A (execs ss P.env) Q Ex P.s
noncomputable def SS (X : Fix) (C : Ctx) (n : Nat) (sc : Scope) (ns : List Str) (c : S) (st : Stmt) : Prop :=
  ∀ (P : Fp X n sc ns) (own : Addr → Prop) (K : Out → Prop) (Q : Flow → Shared → Prop) (Ex : Value → Shared → Prop), OwnF P.env own ns → WS C c P.ρ P.H K → KO P own K Q → KX P own C.exc Ex → wpAny X.M P.A (exec st P.env) Q Ex P.s
mutual
theorem tNames_sub : ∀ (t : Tgt) (e : Expr), chkT sc ns t e = true → ∀ x, x ∈ tNames t e → x ∈ ns
  | .var i, e, h => ifName.k (G := fun e => ∀ x, x ∈ tNames (.var i) e → x ∈ ns) h fun y p h x hx => andk h fun h1 _ => okVar.k h1 fun _ hy => List.mem_singleton.mp hx ▸ hy
  | .tup ts, e, h => ifTuple.k (G := fun e => ∀ x, x ∈ tNames (.tup ts) e → x ∈ ns) h fun es _ _ h x hx => tNamess_sub ts es h x hx
theorem tNamess_sub : ∀ (ts : List Tgt) (es : List Expr), chkTs sc ns ts es = true → ∀ x, x ∈ tNamess ts es → x ∈ ns
  | [], es, h, x, hx => nomatch hx
  | t :: ts, es, h, x, hx => ifCons.k (G := fun es => x ∈ tNamess (t :: ts) es → x ∈ ns) h (fun e es h hx => andk h fun h1 h2 => (List.mem_append.mp hx).elim (tNames_sub t e h1 x) (tNamess_sub ts es h2 x)) hx
end
theorem noSwap {x : Expr} {o : Option Expr} {env : Env} (h : notComp x = true) (line : Nat) : swapsWith x o line env = pure false := by
  cases x <;> first | rfl | cases h
theorem expr_snd {e : E} {x : Expr} {pos : Pos} (hn : notComp x = true) (he : EvS X C n sc ns e x) : SS X C n sc ns (.expr e) (.Expr x pos) := fun P own K Q Ex ho p k kx =>
  wpAny_Expr_any (he P _ _ Ex p (fun v H1 p1 N x r => k.next _ _ p1 N.sx) kx.kn) P.F.fc.gen.2.2 (noSwap hn _)
/-- an assignment whose value is laid by -/
theorem asg_at {t : Tgt} {e : E} {tg x : Expr} {pos : Pos} (hsw : swapsWithSole [tg] x pos.line P.env = pure false) (ht : chkT sc ns t tg = true) (hx : noPair tg x = true) (he : EvS X C n sc ns e x) (ho : OwnF P.env own ns) (p : WS C (.asg t e) P.ρ P.H K) (k : KO P own K Q) (kx : KX P own C.exc Ex) : wpAny X.M P.A (exec (.Assign [tg] x pos) P.env) Q Ex P.s := by
  refine wpAny_Assign_stores (he P _ _ Ex p (fun v H1 p1 N y r => wSome.k p1 fun ρ' ha p1 => ?_) kx.kn) hsw ?_
  · rw [each_cons ht []]
    exact asg_snd (own := own) t tg (P.to N) v y ρ' _ _ ht (fun z hz => ho.1 z (tNames_sub t tg ht z hz)) r ha fun N' => k.next _ _ p1 (N.sx.then N')
  · cases t with
    | var i => exact ifName.k (G := fun tg => swappedStores [tg] x P.env = pure none) ht fun _ _ _ => rfl
    | tup ts => exact ifTuple.k (G := fun tg => noPair tg x = true → swappedStores [tg] x P.env = pure none) ht (fun _ _ _ _ hx => by cases x <;> first | rfl | cases hx) hx
/-- an assignment whose value is no comprehension -/
theorem asgS_snd {t : Tgt} {e : E} {tg x : Expr} {pos : Pos} (hn : notComp x = true) (ht : chkT sc ns t tg = true) (hx : noPair tg x = true) (he : EvS X C n sc ns e x) : SS X C n sc ns (.asg t e) (.Assign [tg] x pos) := fun P own K Q Ex ho p k kx => asg_at (noSwap hn _) ht hx he ho p k kx
theorem ret_snd {e : E} {x : Expr} {pos : Pos} (he : EvS X C n sc ns e x) : SS X C n sc ns (.ret e) (.Return (some x) pos) := fun P own K Q Ex ho p k kx =>
  wpAny_Return_some (he P _ _ Ex p (fun v H1 p1 N x r => k.ret _ _ p1 _ _ _ N.R N.S.nil _ r) kx.kn)
theorem if_snd {c : E} {a b : List S} {t : Expr} {x y : List Stmt} {pos : Pos} (hc : TrS X C n sc ns c t) (ha : SsS X C n sc ns a x) (hb : SsS X C n sc ns b y) : SS X C n sc ns (.ife c a b) (.If t x y pos) := fun P own K Q Ex ho p k kx =>
  wpAny_If (hc P _ _ Ex p (fun v H1 p1 => p1.m fun t p1 N => by
    cases t
    · exact hb N.sx.fp own K Q Ex ho p1 (k.nx N.sx) (kx.nx N.sx)
    · exact ha N.sx.fp own K Q Ex ho p1 (k.nx N.sx) (kx.nx N.sx)) kx.kn)
/-- what holds between two turns of a while loop -/
inductive WTurn (P : Fp X n sc ns) (C : Ctx) (own : Addr → Prop) (c : E) (b : List S) (K : Out → Prop) (k : Nat) (s : Shared) : Prop
  | mk (ρ : Env') (H : Hp) (N : Sx P own ρ H) (e : s = N.s) (p : whileW (fun ρ H Q => WTr C.no c ρ H Q) (fun ρ H K => WSs C.no b ρ H K) k ρ H K) : WTurn P C own c b K k s
theorem while_snd {c : E} {b : List S} {t : Expr} {y : List Stmt} {pos : Pos} (hc : TrS X C.no n sc ns c t) (hb : SsS X C.no n sc ns b y) : SS X C n sc ns (.while c b) (.While t y [] pos) := fun P own K Q Ex ho p k kx => by
  refine wpAny_While (codeAny_whileLoop (WTurn P C own c b K) (fun j s' w => w.casesOn fun ρ H N e p' => ?_) _ ⟨P.ρ, P.H, (P.toPt.tick P.s.toks).sx, rfl, p⟩)
  subst e
  cases j with
  | zero => exact p'.elim
  | succ j =>
    refine hc N.fp _ _ _ p' (fun v H1 p1 => p1.m fun b' p1 N1 => ?_) (.false _)
    cases b' with
    | false => exact wpAny_execs_nil (k.next _ _ p1 (N.then N1.sx))
    | true => exact hb (N.then N1.sx).fp own _ _ _ ho p1 ⟨fun ρ' H' p2 N2 => ⟨j, Nat.lt_succ_self _, ρ', H', (N.then N1.sx).then N2, rfl, p2⟩, fun v H' p2 φ h tk R S x r => k.ret v H' p2 φ h tk R ((N.then N1.sx).S.trans S) x r⟩ .no
theorem ss_nil : SsS X C n sc ns [] [] := fun P own K Q Ex ho p k kx => wpAny_execs_nil (k.next _ _ p (P.toPt.tick P.s.toks).sx)
theorem ss_cons {c : S} {cs : List S} {st : Stmt} {ss : List Stmt} (h1 : SS X C n sc ns c st) (h2 : SsS X C n sc ns cs ss) : SsS X C n sc ns (c :: cs) (st :: ss) := fun P own K Q Ex ho p k kx =>
  wpAny_execs_cons (h1 P own _ _ Ex ho p ⟨fun ρ' H' p1 N => h2 N.fp own K Q Ex ho p1 (k.nx N) (kx.nx N), fun v H' p1 φ h tk R S x r => k.ret v H' p1 φ h tk R S x r⟩ kx)

theorem setAt_own {prog : Program} {w : World} {A : Around} {E : Value → Shared → Prop} {s : Shared} {l : Addr} {xs : List Value} {n : Nat} {k : Int} {t : Tok} {v : Value} {Q : Unit → Shared → Prop} (ho : s.heap.get? l = some (lstObj xs n)) (h0 : 0 ≤ k) (hfit : k < 2 ^ 63) (hn : k < xs.length)
    (hQ : Q () { s with heap := s.heap.update l (Obj.mapSeq (·.setIfInBounds k.toNat v)) }) : wpAny (model prog w) A (setItem (.ref l) (.int k t) v) Q E s := by
  have hl : s.heap.IsList l xs.toArray := isList_of ho
  unfold setItem
  refine wpAny_holding (wpAny_bind (wpAny_sequenceKey hl.typeIs (by decide) (wpAny_bind (wpAny_callSpecial?_slot (name := Str.ofString "__setitem__") hl.typeIs PySem.slot_list_setitem
    (wpAny_call_entry PySem.slot_list_setitem hl.typeIs PySem.entry_list_setitem ?_ (PySem.args_list_setitem _ _ _))))))
  show wpAny _ _ (Builtin.List.listSubscript? (.int k t) >>= _) _ _ s
  refine wpAny_bind (wpAny_listSubscript_int (fitsIndex_of h0 hfit) ?_)
  clear hfit
  obtain ⟨j, rfl⟩ := Int.eq_ofNat_of_zero_le h0
  have hj : j < xs.toArray.size := by rw [List.size_toArray]; (first | lia | omega)
  show wpAny _ _ ((seqItemAt l j >>= fun r => pure (r.map (j, ·))) >>= _) _ _ s
  refine wpAny_bind (wpAny_bind (wpAny_seqItemAt ho rfl (wpAny_pure ?_)))
  rw [Array.getElem?_eq_getElem hj]
  show wpAny _ _ (setSeqItemAt l j v >>= _) _ _ s
  refine wpAny_bind (wpAny_setSeqItemAt ho rfl ?_)
  first
    | exact wpAny_bind (wpAny_pure (wpAny_pure ⟨.none, rfl, wpAny_pure hQ⟩))
    | exact wpAny_pure ⟨.none, rfl, wpAny_pure hQ⟩
theorem dput_len {K : Type} [DecidableEq K] (es : List (K × V)) (k : K) (v : V) : (dput es k v).length ≤ es.length + 1 := by
  unfold dput
  split
  · rw [List.length_map]; (first | lia | omega)
  · rw [List.length_append]; exact Nat.le_refl _
theorem kv_put {es : List (Int × V)} {kvs : List (Int × Value)} {p : Ws} {v : V} {x : Value} (h : L2 (KvR X.W.scr p) es kvs) (r : Rep X.W.scr p v x) (k : Int) : L2 (KvR X.W.scr p) (dput es k v) (stored kvs k x) := by
  unfold dput stored
  rw [h.any (f := fun q => decide (q.1 = k)) (g := fun q => decide (q.1 = k)) fun a b m => by rw [m.1]]
  split
  · exact h.map fun a b m => by
      by_cases e : a.1 = k
      · rw [if_pos e, if_pos (m.1 ▸ e)]; exact ⟨m.1, r⟩
      · rw [if_neg e, if_neg (m.1 ▸ e)]; exact m
  · exact h.snoc ⟨rfl, r⟩
theorem kp_put {es : List ((Int × Bool) × V)} {kvs : List (List Int × Addr × Value)} {p : Ws} {v : V} {x : Value} {a : Addr} {k : Int × Bool} (h : L2 (KpR X.W.scr p) es kvs) (r : Rep X.W.scr p v x) (rk : Rep X.W.scr p (pairV k) (.ref a)) : L2 (KpR X.W.scr p) (dput es k v) (storedH kvs (pK k) a x) := by
  unfold dput storedH
  have e : es.any (fun q => decide (q.1 = k)) = (atKey kvs (pK k)).isSome := by
    rw [show es.any (fun q => decide (q.1 = k)) = dhas es k from rfl, dhas_eq]
    rcases dget_kp h k with ⟨w1, w2⟩ | ⟨_, _, _, w1, w2, _⟩ <;> rw [w1, w2] <;> rfl
  rw [e]
  split
  · exact h.map fun a b m => by
      unfold putAt
      by_cases e : a.1 = k
      · rw [if_pos e, if_pos (by rw [m.1, ← e]; rfl)]; exact ⟨m.1, m.2.1, r⟩
      · rw [if_neg e, if_neg fun e' => e (pK_inj (m.1.symm.trans e'))]; exact m
  · exact h.snoc ⟨rfl, rk, r⟩
theorem setL_snd {P : Pt X n} {l : Nat} {xs : List V} {i v : V} {z kz y : Value} {k : Hp → Prop} {Q : Unit → Shared → Prop} (r2 : Rep X.W.scr P.w (.ref l) z) (r3 : Rep X.W.scr P.w i kz) (rv : Rep X.W.scr P.w v y) (hl : P.H[l]? = some (.list xs)) (p : wInt i fun j => (0 ≤ j ∧ j < xs.length) ∧ k (P.H.set l (.list (xs.set j.toNat v)))) (fin : ∀ H, k H → ∀ N : Nx P H, Q () N.s) : wpAny X.M P.A (setItem z kz y) Q Ex P.s :=
  wInt.k p (fun i => Rep X.W.scr P.w i kz → _) (fun j p r3 => r3.inv (fun kz => wpAny X.M P.A (setItem z kz y) Q Ex P.s) fun t => P.list r2 hl (fun z => wpAny X.M P.A (setItem z _ y) Q Ex P.s) fun ad ys m had q1 q2 q3 =>
    setAt_own q1 p.1.1 (by (first | lia | omega)) (by rw [← q2.length]; exact p.1.2) (
      have he := (Heap.SameBut.update P.s.heap ad (Obj.mapSeq (·.setIfInBounds j.toNat y))).extBut
      fin _ p.2 (P.set had he (.list (n := m) (by rw [Heap.get?_update_self _ q1 rfl]; simp [Obj.mapSeq]) ((q2.set rv j.toNat).kp (P.cellKp had he)) (by rw [List.length_set]; exact q3)) P.s.toks))) r3
theorem setD_snd {P : Pt X n} {l ep : Nat} {es : List (Int × V)} {i v : V} {z kz y : Value} {k : Hp → Prop} {Q : Unit → Shared → Prop} (G : X.Gl C) (r2 : Rep X.W.scr P.w (.ref l) z) (r3 : Rep X.W.scr P.w i kz) (rv : Rep X.W.scr P.w v y) (hl : P.H[l]? = some (.dict ep es)) (p : wInt i fun j => wOk (szOk es) (∀ ep, k (P.H.set l (.dict ep (dput es j v))))) (fin : ∀ H, k H → ∀ N : Nx P H, Q () N.s) : wpAny X.M P.A (setItem z kz y) Q Ex P.s :=
  wInt.k p (fun i => Rep X.W.scr P.w i kz → _) (fun j p r3 => wOk.k p fun hz p => r3.inv (fun kz => wpAny X.M P.A (setItem z kz y) Q Ex P.s) fun t => P.cell r2 hl (fun z => wpAny X.M P.A (setItem z _ y) Q Ex P.s) fun ad had hc => hc.inv _ fun o' en kvs x0 x1 x2 x3 x4 x5 q z m => by
    have hz : es.length < 16000000 := of_decide_eq_true hz
    rw [G.1.same.1, G.1.same.2] at x3 x4
    refine wpAny_setItem_pairs (knd := intKind X.prog X.w) (k := j) (beq_self_eq_true j) ⟨o', en, ep, x0, x1, x2, x3, x4, x5⟩ (fun h4 hm4 hs4 => ?_) (by rw [← q.length]; unfold sizeLine; (first | lia | omega))
    exact hm4.elim fun o4 w => w.elim fun en4 w => w.elim fun ep4 w => fin _ (p ep4) (P.set had hs4.extBut (.dict w.1 w.2.1 w.2.2.1 (by rw [G.1.same.1, G.1.same.2]; exact w.2.2.2.1) (by rw [G.1.same.1, G.1.same.2]; exact w.2.2.2.2.1) w.2.2.2.2.2 ((kv_put q rv j).imp (KvR.kp (P.cellKp had hs4.extBut))) z (Nat.le_trans (dput_len es j v) hz)) _)) r3
theorem setP_snd {P : Pt X n} {l ep : Nat} {es : List ((Int × Bool) × V)} {i v : V} {z kz y : Value} {k : Hp → Prop} {Q : Unit → Shared → Prop} (G : X.Gl C) (r2 : Rep X.W.scr P.w (.ref l) z) (r3 : Rep X.W.scr P.w i kz) (rv : Rep X.W.scr P.w v y) (hl : P.H[l]? = some (.dicP ep es)) (p : wSome (pairOf i) fun j => wOk (szOk es) (∀ ep, k (P.H.set l (.dicP ep (dput es j v))))) (fin : ∀ H, k H → ∀ N : Nx P H, Q () N.s) : wpAny X.M P.A (setItem z kz y) Q Ex P.s :=
  wSome.k p fun j ej p => pairOf.k ej (fun i => Rep X.W.scr P.w i kz → _) (fun r3 => wOk.k p fun hz p => r3.inv (fun kz => Rep X.W.scr P.w (pairV j) kz → wpAny X.M P.A (setItem z kz y) Q Ex P.s) (fun ka _ _ _ _ _ _ r3 => dctP r2 G (show (P.H[l]?).bind asDicP = some es by rw [hl]; rfl) (fun z => wpAny X.M P.A (setItem z _ y) Q Ex P.s) fun l' ep' ad kvs el _ had hD q z hle => by
    have hz : es.length < 16000000 := of_decide_eq_true hz
    cases el
    refine wpAny_setItem_heap (knd := pKind X.prog X.w) (k := pK j) (by show P.A.units + 1 < cLine; have := P.rm.units; (first | lia | omega)) (pair_is r3) hD (fun h4 hm4 hs4 => ?_) (by rw [← q.length]; unfold sizeLine; (first | lia | omega))
    exact hm4.elim fun o4 w => w.elim fun en4 w => w.elim fun ep4 w => fin _ (p ep4) (P.set had hs4.extBut (.dicP w.1 w.2.1 w.2.2.1 (by rw [G.1.same.1, G.1.same.2]; exact w.2.2.2.1) w.2.2.2.2.2 ((kp_put q rv r3).imp (KpR.kp (P.cellKp had hs4.extBut))) z (Nat.le_trans (dput_len es j v) hz)) _)) r3) r3
theorem setIdx_snd {a i e : E} {o j x : Expr} {sp pos : Pos} (G : X.Gl C) (hn : notComp x = true) (ha : EvS X C n sc ns a o) (hi : EvS X C n sc ns i j) (he : EvS X C n sc ns e x) : SS X C n sc ns (.setIdx a i e) (.Assign [.Subscript o j sp] x pos) := fun P own K Q Ex ho p k kx => by
  refine wpAny_Assign_Subscript (he P _ _ Ex p (fun v H1 p1 N y r => ev2 ha hi (P.to N) p1 (fun u w H2 p2 N2 z kz r2 r3 => ?_) (kx.kn.nx N)) kx.kn) (noSwap hn _)
  have fin : ∀ H3, K (.next P.ρ H3) → ∀ N3 : Nx N2.pt H3, Q .next N3.s := fun H3 p3 N3 => k.next _ _ p3 (N.then (N2.then N3)).sx
  cases u with
  | ref l =>
    refine wSome.k p2 fun c hl p2 => ?_
    cases c with
    | list xs => exact setL_snd (P := N2.pt) r2 r3 (r.mono N2.S) hl p2 fin
    | dict ep es => exact setD_snd (P := N2.pt) G r2 r3 (r.mono N2.S) hl p2 fin
    | dicP ep es => exact setP_snd (P := N2.pt) G r2 r3 (r.mono N2.S) hl p2 fin
    | _ => exact p2.elim
  | _ => exact p2.elim
end
end Mine

end
section
set_option autoImplicit false
set_option linter.unusedVariables false
set_option linter.unusedSimpArgs false
namespace Mine
open PySem PySem.Calls PyProof.Rows

noncomputable def pairGivers : List String := ["enumerate", "zip", "dict_itemiterator", "dict_reverseitemiterator", "odict_iterator", "itertools.zip_longest", "itertools.pairwise"]
/-- an iterator over the items `vs`, at its place -/
structure Itr (X : Fix) (n : Nat) (tg : Expr) (w₀ : Ws) (H₀ : Hp) (ws : List Nat) (vs : List V) (I : Addr) (io : Addr → Prop) (St : Nat → Heap → Prop) : Prop where
  keep : ∀ i h h', St i h → (∀ a, io a → ∀ o, h.get? a = some o → h'.get? a = some o) → St i h'
  live : ∀ i h, St i h → ∀ a, io a → ∃ o, h.get? a = some o ∧ isD o = false
  item : ∀ (P : Pt X n) (i : Nat) (v : V) (Q : Value → Shared → Prop) (Ex Ex' : Value → Shared → Prop), Kp w₀ P.w → stands ws H₀ P.H = true → St i P.s.heap → (∀ a, io a → Ap X.W P.w a) → vs[i]? = some v →
    (∀ h' tk y, SR X.W ⟨P.φ, h'⟩ P.H → Stp io P.w ⟨P.φ, h'⟩ → St (i + 1) h' → Rep X.W.scr ⟨P.φ, h'⟩ v y → Q y (upd P.s h' tk)) →
    wpAny X.M P.A (pyNext (.ref I)) (fun r s₁ => wSome r fun y => wpAny X.M P.A (letOwnedTupleGo tg (.ref I) y) (fun _ s₂ => Q y s₂) Ex' s₁) Ex P.s
  done : ∀ (P : Pt X n) (i : Nat) (Q : Option Value → Shared → Prop) (Ex : Value → Shared → Prop), Kp w₀ P.w → stands ws H₀ P.H = true → St i P.s.heap → (∀ a, io a → Ap X.W P.w a) → vs[i]? = none →
    (∀ h' tk, Ch io P.s.heap h' → Q none (upd P.s h' tk)) → wpAny X.M P.A (pyNext (.ref I)) Q Ex P.s
  self : ∀ (A : Around) (s : Shared) (Q Ex : Value → Shared → Prop), St 0 s.heap → Q (.ref I) s → wpAny X.M A (pyIter (.ref I)) Q Ex s
theorem liv_nd {io : Addr → Prop} {St : Nat → Heap → Prop} {i : Nat} {h : Heap} {a : Addr} {o : Obj} (lv : ∀ i h, St i h → ∀ a, io a → ∃ o, h.get? a = some o ∧ isD o = false) (st : St i h) (ha : io a) (e : h.get? a = some o) : isD o = false := (lv i h st a ha).elim fun o' x => by rw [x.1] at e; cases e; exact x.2
theorem Itr.from {X : Fix} {n : Nat} {tg : Expr} {w₀ w₁ : Ws} {H₀ : Hp} {ws : List Nat} {vs : List V} {I : Addr} {io : Addr → Prop} {St : Nat → Heap → Prop} (h : Itr X n tg w₀ H₀ ws vs I io St) (K : Kp w₀ w₁) : Itr X n tg w₁ H₀ ws vs I io St :=
  ⟨h.keep, h.live, fun P i v Q Ex Ex' kp => h.item P i v Q Ex Ex' (K.trans kp), fun P i Q Ex kp => h.done P i Q Ex (K.trans kp), h.self⟩
section
variable {X : Fix} {C : Ctx} {n : Nat} {tg : Expr} {w₀ : Ws} {H₀ : Hp} {ws : List Nat} {vs : List V} {I a : Addr}
theorem letOwned_plain {A : Around} {s : Shared} {Ex : Value → Shared → Prop} {y : Value} {o : Obj} {nm : String} {Q : Unit → Shared → Prop} (ho : s.heap.get? I = some o) (hc : o.cls = .type nm) (hn : pairGivers.contains nm = false) (hQ : Q () s) : wpAny X.M A (letOwnedTupleGo tg (.ref I) y) Q Ex s := by
  have key : ∀ a, wpAny X.M A (do
    let o ← load I
    match o.cls, o.data with
    | .type n, .fields vs =>
      if pairGivers.contains n && vs[0]? == some (rawInt a) then
        rule "for.unpacks-the-owned-tuple"
        updateField I 0 .none
    | _, _ => pure ()) Q Ex s := by
    intro a
    refine wpAny_bind (wpAny_load ho ?_)
    rw [hc]
    cases o.data with
    | fields vs =>
      show wpAny X.M A (if (pairGivers.contains nm && vs[0]? == some (rawInt a)) = true then _ else _) Q Ex s
      rw [hn, Bool.false_and, if_neg Bool.false_ne_true]
      exact wpAny_pure hQ
    | _ => exact wpAny_pure hQ
  unfold letOwnedTupleGo
  cases tg <;> first | exact wpAny_pure hQ | (cases y <;> first | exact wpAny_pure hQ | exact key _)
/-- an iterator that is one object of a plain kind -/
theorem itr1 {nm : String} {St : Nat → Heap → Prop} (hnm : (pairGivers.contains nm || (Value.type nm == .type "tuple") || (Value.type nm == .type "code")) = false) (hst : ∀ i h, St i h → ∃ o, h.get? I = some o ∧ o.cls = .type nm ∧ isD o = false) (keep : ∀ i h h', St i h → (∀ o, h.get? I = some o → h'.get? I = some o) → St i h')
    (next : ∀ (P : Pt X n) (i : Nat) (v : V) (Q : Option Value → Shared → Prop) (Ex : Value → Shared → Prop), Kp w₀ P.w → stands ws H₀ P.H = true → St i P.s.heap → vs[i]? = some v → (∀ h' tk y, St (i + 1) h' → Heap.ExtBut I P.s.heap h' → Rep X.W.scr P.w v y → Q (some y) (upd P.s h' tk)) → wpAny X.M P.A (pyNext (.ref I)) Q Ex P.s)
    (stop : ∀ (P : Pt X n) (i : Nat) (Q : Option Value → Shared → Prop) (Ex : Value → Shared → Prop), Kp w₀ P.w → stands ws H₀ P.H = true → St i P.s.heap → vs[i]? = none → (∀ h', Heap.ExtBut I P.s.heap h' → Q none { P.s with heap := h' }) → wpAny X.M P.A (pyNext (.ref I)) Q Ex P.s)
    (self : ∀ (A : Around) (s : Shared) (Q Ex : Value → Shared → Prop), St 0 s.heap → Q (.ref I) s → wpAny X.M A (pyIter (.ref I)) Q Ex s) : Itr X n tg w₀ H₀ ws vs I (· = I) St :=
  have h1 := Bool.or_eq_false_iff.mp hnm
  have h2 := Bool.or_eq_false_iff.mp h1.1
  have fz1 : ∀ {i h}, St i h → ∀ o, h.get? I = some o → fz o = false := fun st o e => (hst _ _ st).elim fun o' q => by rw [e] at q; cases q.1; exact fz_cls q.2.1 h2.2 h1.2
  { keep := fun i h h' st hk => keep i h h' st (hk I rfl)
    live := fun i h st a ha => (hst i h st).imp fun o q => ⟨ha ▸ q.1, q.2.2⟩
    item := fun P i v Q Ex Ex' kp hw st hio hv k => next P i v _ Ex kp hw st hv fun h' tk y st' he r =>
      have c : Ch (· = I) P.s.heap h' := .but he (fz1 st)
      (hst _ _ st').elim fun o q => letOwned_plain (s := (upd P.s h' tk)) q.1 q.2.1 h2.1 (k h' tk y (P.R.ch (p := P.w) hio c) (Stp.ch (io := (· = I)) (q := P.w) .refl c fun b hb => .inr ⟨hb, o, hb ▸ q.1, fun o1 e1 hd => (hst _ _ st).elim fun o2 y => by rw [hb] at e1; rw [y.1] at e1; cases e1; exact no hd y.2.2⟩) st' (r.kp c.kp))
    done := fun P i Q Ex kp hw st hio hv k => stop P i Q Ex kp hw st hv fun h' he => k h' P.s.toks (.but he (fz1 st))
    self := self }
/-- where the items of a list are found as long as the list stands -/
noncomputable def SrcL (X : Fix) (n : Nat) (w₀ : Ws) (H₀ : Hp) (ws : List Nat) (vs : List V) (a : Addr) : Prop :=
  ∀ (P : Pt X n), Kp w₀ P.w → stands ws H₀ P.H = true → ∃ xs, P.s.heap.IsList a xs.toArray ∧ RepL X.W.scr P.w vs xs
theorem stands_get {H : Hp} {l : Nat} (h : stands ws H₀ H = true) (hl : l ∈ ws) : H[l]? = H₀[l]? := of_decide_eq_true (List.all_eq_true.mp h l hl)
theorem stands_self (ws : List Nat) (H : Hp) : stands ws H H = true := List.all_eq_true.mpr fun _ _ => decide_eq_true rfl
theorem srcL_ref {l : Nat} (hl : w₀.φ[l]? = some a) (e : H₀[l]? = some (.list vs)) (hw : l ∈ ws) : SrcL X n w₀ H₀ ws vs a := fun P kp hs =>
  P.R.at ((stands_get hs hw).trans e) fun b hb hc => hc.inv _ fun xs m h1 h2 _ => by
    rw [kp.pre l a hl] at hb; cases hb
    exact ⟨xs, isList_of h1, h2⟩
theorem srcL_script (G : X.Gl C) : SrcL X n w₀ H₀ ws (C.scr.map .int) X.W.scr := fun P _ _ => Gl.scr G P fun xs h1 h2 _ => ⟨xs, h1, h2⟩
theorem arr_get (xs : List Value) (i : Nat) : xs.toArray[i]? = xs[i]? := List.getElem?_toArray ..
theorem none_of {p : Ws} {xs : List Value} {i : Nat} (r : RepL X.W.scr p vs xs) (h : vs[i]? = none) : xs.toArray[i]? = none := by
  rw [arr_get]; exact List.getElem?_eq_none (r.length ▸ List.getElem?_eq_none_iff.mp h)
theorem itr_list (hsrc : SrcL X n w₀ H₀ ws vs a) : Itr X n tg w₀ H₀ ws vs I (· = I) (fun i h => h.IsListIter I a i) :=
  itr1 (nm := "list_iterator") rfl (fun i h st => st.imp fun o q => ⟨q.1, q.2.1, isD_fields q.2.2⟩) (fun i h h' st hk => st.imp fun o q => ⟨hk o q.1, q.2⟩)
    (fun P i v Q Ex kp hw st hv k => (hsrc P kp hw).elim fun xs h => h.2.get hv fun y hy r => wpAny_pyNext_list_item st h.1 (by rw [arr_get]; exact hy) fun h' hit hs => k h' P.s.toks y hit hs.extBut r)
    (fun P i Q Ex kp hw st hv k => (hsrc P kp hw).elim fun xs h => wpAny_pyNext_list_end P.rm.handled st h.1 (none_of h.2 hv) k) fun A s Q Ex st h => wpAny_pyIter_listiter st h
theorem itr_tuple {xs : List Value} {m : Nat} (e0 : w₀.h.get? a = some (tupObj xs m)) (hna : a ∉ w₀.φ) (r0 : RepL X.W.scr w₀ vs xs) : Itr X n tg w₀ H₀ ws vs I (· = I) (fun i h => h.IsTupleIter I a i) :=
  itr1 (nm := "tuple_iterator") rfl (fun i h st => st.imp fun o q => ⟨q.1, q.2.1, isD_fields q.2.2⟩) (fun i h h' st hk => st.imp fun o q => ⟨hk o q.1, q.2⟩)
    (fun P i v Q Ex kp hw st hv k => (r0.kp kp).get hv fun y hy r => wpAny_pyNext_tuple_item st ⟨_, (kp.fzk _ _ rfl e0 hna).1, rfl, m, rfl⟩ (by rw [arr_get]; exact hy) fun h' hit hs => k h' P.s.toks y hit hs.extBut r)
    (fun P i Q Ex kp hw st hv k => wpAny_pyNext_tuple_end P.rm.handled st ⟨_, (kp.fzk _ _ rfl e0 hna).1, rfl, m, rfl⟩ (none_of (r0.kp kp) hv) k) fun A s Q Ex st h => wpAny_pyIter_tupleiter st h
theorem rangeV_get {i : Nat} {x y : Int} : (rangeV x y)[i]? = if i < (y - x).toNat then some (.int (x + i)) else none := by
  unfold rangeV
  rw [List.getElem?_map]
  by_cases h : i < (y - x).toNat
  · rw [if_pos h, List.getElem?_range h]; rfl
  · rw [if_neg h, List.getElem?_eq_none (by rw [List.length_range]; exact Nat.not_lt.mp h)]; rfl
theorem itr_range {x y : Int} : Itr X n tg w₀ H₀ ws (rangeV x y) I (· = I) (fun i h => IsRangeIter h I (x + i) (((y - x).toNat : Int) - i) 1) :=
  itr1 (nm := "range_iterator") rfl (fun i h st => ⟨_, st, rfl, rfl⟩) (fun i h h' st hk => hk _ st)
    (fun P i v Q Ex kp hw st hv k => ifk (rangeV_get ▸ hv) (fun v => (∀ h' tk y', IsRangeIter h' I (x + ((i + 1 : Nat) : Int)) (((y - x).toNat : Int) - ((i + 1 : Nat) : Int)) 1 → Heap.ExtBut I P.s.heap h' → Rep X.W.scr P.w v y' → Q (some y') (upd P.s h' tk)) → _) (fun hi k => wpAny_pyNext_range_item st (by (first | lia | omega)) fun h' hit hs => k h' _ _ (by
      have e1 : x + ((i + 1 : Nat) : Int) = x + i + 1 := by (first | lia | omega)
      have e2 : (((y - x).toNat : Int) - ((i + 1 : Nat) : Int)) = ((y - x).toNat : Int) - i - 1 := by (first | lia | omega)
      rw [e1, e2]; exact hit) hs.extBut (.int _ _)) k)
    (fun P i Q Ex kp hw st hv k => wpAny_pyNext_range_end P.rm.handled st (by
      rw [rangeV_get] at hv
      by_cases h : i < (y - x).toNat
      · rw [if_pos h] at hv; cases hv
      · (first | lia | omega)) k) fun A s Q Ex st h => wpAny_pyIter_rangeiter st h
end
end Mine

end
section
set_option autoImplicit false
set_option linter.unusedVariables false
set_option linter.unusedSimpArgs false
namespace Mine
open PySem PySem.Calls PyProof.Rows

section
variable {prog : Program} {w : World} {A : Around} {E : Value → Shared → Prop} {s : Shared} {it d : Addr} {i ep : Nat} {od : Obj} {es : Array DictEntry}
/-- iter(d), next of it: whatever the keys are -/
theorem pyIter_keys {Q : Value → Shared → Prop} (hd : (d == sysModules) = false) (hod : s.heap.get? d = some od) (hcd : od.cls = .type "dict") (hdd : od.data = .dict es ep)
    (hQ : Q (.ref s.heap.objs.size) { s with heap := s.heap.push { cls := .type "dict_keyiterator", data := .fields #[.ref d, .int 0 0, .int es.size 0, .int ep 0] } }) : wpAny (model prog w) A (pyIter (.ref d)) Q E s := by
  have hT : s.TypeIs (.ref d) "dict" := ⟨od, hod, hcd⟩
  refine wpAny_pyIter_slot hT F.slot_dict_iter (wpAny_call_entry F.slot_dict_iter hT F.entry_dict_iter ?_ (F.args_dict_iter_1 _))
  unfold Builtin.«dict.__iter__»
  refine wpAny_bind (wpAny_bind (wpAny_notOrdered_dict hT (wpAny_pure ?_)))
  show wpAny _ _ (Builtin.Dict.showsAll d >>= _) _ _ s
  unfold Builtin.Dict.showsAll
  rw [if_neg (by rw [hd]; exact Bool.false_ne_true)]
  exact wpAny_bind (wpAny_pure (wpAny_bind (wpAny_dictEntries hod hdd (wpAny_bind (wpAny_dictEpoch hod hdd (wpAny_bind (wpAny_newObj_type (wpAny_pure ⟨_, rfl, "dict_keyiterator", _, ⟨_, Heap.get?_push_size _ rfl, rfl⟩, F.slot_dict_keyiterator_next.lookup, hQ⟩))))))))
theorem pyNext_keys {Q : Option Value → Shared → Prop} (hh : A.handled = none) (hit : s.heap.IsKeyIter it d i es.size ep) (hod : s.heap.get? d = some od) (hdd : od.data = .dict es ep)
    (hQ : ∀ (hlt : i < es.size) h', h'.IsKeyIter it d (i + 1) es.size ep → Heap.SameBut it s.heap h' → Q (some es[i].key) { s with heap := h' }) (hE : es.size ≤ i → ∀ h', Heap.ExtBut it s.heap h' → Q none { s with heap := h' }) : wpAny (model prog w) A (pyNext (.ref it)) Q E s := by
  obtain ⟨o, ho, hc, hd⟩ := id hit
  unfold pyNext
  refine wpAny_bind (wpAny_attempt (wpAny_callSpecial?_slot (name := Str.ofString "__next__") hit.typeIs F.slot_dict_keyiterator_next
    (wpAny_call_entry F.slot_dict_keyiterator_next hit.typeIs F.entry_dict_keyiterator_next ?_ (F.args_dict_keyiterator_next_1 _))))
  refine wpAny_bind (wpAny_pure ?_)
  refine wpAny_bind ?_
  refine wpAny_bind ?_
  first | refine wpAny_bind (wpAny_typeNameOfWhole_keyiter hit.typeIs (wpAny_pure ?_)) | refine wpAny_bind (wpAny_typeNameOf_keyiter hit.typeIs (wpAny_pure ?_))
  refine wpAny_bind (wpAny_fieldsOf ho hd ?_)
  show wpAny _ _ (if (Value.ref d == Value.none) = true then _ else _) _ _ s
  rw [if_neg (show ¬ ((Value.ref d == Value.none) = true) from Bool.false_ne_true)]
  refine wpAny_bind (wpAny_pure ?_)
  refine wpAny_bind (wpAny_dictEntries hod hdd ?_)
  rw [if_neg (by rw [bne_self_eq_false]; exact Bool.false_ne_true)]
  refine wpAny_bind (wpAny_pure ?_)
  refine wpAny_bind (wpAny_dictEpoch hod hdd ?_)
  rw [if_neg (by rw [bne_self_eq_false]; exact Bool.false_ne_true)]
  refine wpAny_pure ?_
  dsimp only
  rcases Nat.lt_or_ge i es.size with hlt | hge
  · rw [if_neg (show ¬ ((i : Int) < 0) from Int.not_lt.mpr (Int.natCast_nonneg i)), Int.toNat_natCast, Array.getElem?_eq_getElem hlt]
    refine wpAny_bind ?_
    first | refine wpAny_bind (wpAny_typeNameOfWhole_keyiter hit.typeIs (wpAny_pure ?_)) | refine wpAny_bind (wpAny_typeNameOf_keyiter hit.typeIs (wpAny_pure ?_))
    refine wpAny_bind (wpAny_isOneOf_keyiter hit.typeIs ?_)
    show wpAny _ _ (setField (.ref it) 1 (rawInt ((i : Int) + 1)) >>= _) _ _ s
    refine wpAny_bind (wpAny_setField ho hd (Nat.lt_of_sub_pos (by exact Nat.zero_lt_succ _)) ?_)
    have hit' : (s.heap.update it (Obj.mapFields (·.setIfInBounds 1 (rawInt ((i : Int) + 1))))).IsKeyIter it d (i + 1) es.size ep :=
      ⟨_, Heap.get?_update_self _ ho (Obj.isFreed_of_fields (Obj.data_mapFields hd _)), (Obj.cls_mapFields ..).trans hc, by rw [Obj.data_mapFields hd]; rfl⟩
    refine wpAny_bind (wpAny_holding ?_)
    refine wpAny_bind (wpAny_isOneOf_keyiter (s := { s with heap := s.heap.update it (Obj.mapFields (·.setIfInBounds 1 (rawInt ((i : Int) + 1)))) }) hit'.typeIs ?_)
    show wpAny _ _ (pure es[i].key) _ _ _
    exact wpAny_pure (wpAny_pure ⟨_, rfl, wpAny_pure (hQ hlt _ hit' (Heap.SameBut.update ..))⟩)
  · rw [if_neg (show ¬ ((i : Int) < 0) from Int.not_lt.mpr (Int.natCast_nonneg i)), Int.toNat_natCast, Array.getElem?_eq_none hge]
    refine wpAny_bind ?_
    first | refine wpAny_bind (wpAny_typeNameOfWhole_keyiter hit.typeIs (wpAny_pure ?_)) | refine wpAny_bind (wpAny_typeNameOf_keyiter hit.typeIs (wpAny_pure ?_))
    show wpAny _ _ (setField (.ref it) 0 .none >>= _) _ _ s
    refine wpAny_bind (wpAny_setField ho hd (Nat.lt_of_sub_pos (by exact Nat.zero_lt_succ _)) ?_)
    show wpAny _ _ (newExc (.type "StopIteration") [] >>= _) _ _ _
    refine wpAny_bind (wpAny_bind (wpAny_newObj_type ?_ (by size_fits)))
    refine wpAny_bind (m := firstArgMember _ _) (wpAny_of_eq (a := Value.none) (by first | rfl | (simp only [firstArgMember]; rfl)) ?_)
    refine wpAny_newObj_type ?_ (by size_fits)
    refine wpAny_bind (wpAny_handled ?_)
    rw [show A.in1.handled = none from hh]
    refine wpAny_bind (wpAny_pure (wpAny_throw ?_))
    refine wpAny_bind (wpAny_isInstance (T := "StopIteration") (b := true) ⟨_, Heap.get?_push_size _ rfl, rfl⟩ isSubtype_stop ?_)
    exact wpAny_pure (hE hge _ (((Heap.SameBut.update ..).extBut.push _).push _))
end
section
variable {X : Fix} {C : Ctx} {n : Nat} {tg : Expr} {w₀ : Ws} {H₀ : Hp} {ws : List Nat} {vs : List V} {I a : Addr}
/-- where a table's keys are found as long as it stands -/
noncomputable def SrcD (X : Fix) (n : Nat) (w₀ : Ws) (H₀ : Hp) (ws : List Nat) (vs : List V) (a : Addr) (m ep : Nat) : Prop :=
  ∀ (P : Pt X n), Kp w₀ P.w → stands ws H₀ P.H = true → ∃ o en, P.s.heap.get? a = some o ∧ o.data = .dict en ep ∧ en.size = m ∧ vs.length = m ∧ ∀ i v, vs[i]? = some v → ∃ h : i < en.size, Rep X.W.scr P.w v en[i].key
theorem itr_dict {m ep : Nat} (hsrc : SrcD X n w₀ H₀ ws vs a m ep) : Itr X n tg w₀ H₀ ws vs I (· = I) (fun i h => h.IsKeyIter I a i m ep) :=
  itr1 (nm := "dict_keyiterator") rfl (fun i h st => st.imp fun o q => ⟨q.1, q.2.1, isD_fields q.2.2⟩) (fun i h h' st hk => st.imp fun o q => ⟨hk o q.1, q.2⟩)
    (fun P i v Q Ex kp hw st hv k => (hsrc P kp hw).elim fun o h => h.elim fun en h => (h.2.2.2.2 i v hv).elim fun hl r => pyNext_keys P.rm.handled (h.2.2.1 ▸ st) h.1 h.2.1 (fun _ h' hit hs => k h' P.s.toks _ (h.2.2.1 ▸ hit) hs.extBut r) fun hg => absurd hl (Nat.not_lt.mpr hg))
    (fun P i Q Ex kp hw st hv k => (hsrc P kp hw).elim fun o h => h.elim fun en h => pyNext_keys P.rm.handled (h.2.2.1 ▸ st) h.1 h.2.1 (fun hl => absurd hl (Nat.not_lt.mpr (by rw [h.2.2.1, ← h.2.2.2.1]; exact List.getElem?_eq_none_iff.mp hv))) fun _ => k) fun A s Q Ex st h => wpAny_pyIter_keyiter st h
end
end Mine

end
section
set_option autoImplicit false
set_option linter.unusedVariables false
set_option linter.unusedSimpArgs false
namespace Mine
open PySem PySem.Calls PyProof.Rows

/-- what is done with an iterator -/
noncomputable def KnI {X : Fix} {n : Nat} (P : Pt X n) (tg : Expr) (post : List V × List Nat → Hp → Prop) (Q : Value → Shared → Prop) : Prop :=
  ∀ p H, post p H → ∀ (N : Nx P H) I io St, Itr X n tg N.w H p.2 p.1 I io St → St 0 N.h → (∀ a, io a → Ap X.W N.w a ∧ P.s.heap.get? a = none) → Q (.ref I) N.s
noncomputable def ItS (X : Fix) (C : Ctx) (n : Nat) (sc : Scope) (ns : List Str) (it : It) (e : Expr) : Prop :=
  (∀ env x, foldedSetIterable e env x = pure x) ∧ ∀ (P : Fp X n sc ns) (tg : Expr) (post : List V × List Nat → Hp → Prop) (Q Ex : Value → Shared → Prop), tgOk it tg = true → WIt C it P.ρ P.H post → KnI P.toPt tg post Q → Kn P.toPt (C.exc P.ρ) Ex → wpAny X.M P.A (eval e P.env) (fun x s₁ => wpAny X.M P.A (pyIter x) Q Ex s₁) Ex P.s
section
variable {X : Fix} {C : Ctx} {n : Nat} {sc : Scope} {ns : List Str} {tg : Expr} {Q Ex : Value → Shared → Prop} {post : List V × List Nat → Hp → Prop} {P : Pt X n} {H : Hp}
theorem KnI.nx (k : KnI P tg post Q) (N : Nx P H) : KnI N.pt tg post Q := fun p H' q N' I io St it st hio => k p H' q (N.then N') I io St it st fun a ha => have h := hio a ha; ⟨h.1, N.S.dead h.2⟩
/-- a new iterator that is one object -/
theorem newIt (k : KnI P tg post Q) {vs : List V} {ws : List Nat} (o : Obj) {St : Nat → Heap → Prop} (p : post (vs, ws) P.H) (it : Itr X n tg (P.ext (.push o) P.s.toks).w P.H ws vs P.s.heap.objs.size (· = P.s.heap.objs.size) St) (st : St 0 (P.s.heap.push o)) : Q (.ref P.s.heap.objs.size) { P.s with heap := P.s.heap.push o } :=
  k _ _ p (P.ext (.push o) P.s.toks) _ _ _ it st fun a ha => by
    subst ha
    have hn := none_size P.s.heap (Nat.le_refl _)
    exact ⟨P.R.new (p := P.w) hn, hn⟩
theorem srcD_ref {w₀ : Ws} {H₀ : Hp} {ws : List Nat} {l ep : Nat} {es : List (Int × V)} {a : Addr} (hl : w₀.φ[l]? = some a) (e : H₀[l]? = some (.dict ep es)) (hw : l ∈ ws) : SrcD X n w₀ H₀ ws (es.map fun p => .int p.1) a es.length ep := fun P kp hs =>
  P.R.at ((stands_get hs hw).trans e) fun b hb hc => hc.inv _ fun o en kvs x0 x1 x2 x3 x4 x5 q z m => by
    rw [kp.pre l a hl] at hb; cases hb
    have hz : en.size = es.length := by rw [q.length, ← x4.length, Array.length_toList]
    refine ⟨o, en, x0, x2, hz, List.length_map _, fun i v hv => ?_⟩
    rw [List.getElem?_map] at hv
    refine mapk (fun v => ∃ h : i < en.size, Rep X.W.scr P.w v en[i].key) hv fun e' he => ?_
    have hi := (List.getElem?_eq_some_iff.mp he).1
    have hi' : i < en.size := hz ▸ hi
    have hk : i < kvs.length := q.length ▸ hi
    refine ⟨hi', ?_⟩
    have h1 := (x4.get? (e := en[i]) (k := (kvs[i]).1) (v := (kvs[i]).2) (by rw [Array.getElem?_toList, Array.getElem?_eq_getElem hi']) (List.getElem?_eq_getElem hk)).1
    have h2 : e'.1 = (kvs[i]).1 := (q.get he (List.getElem?_eq_getElem hk)).1
    obtain ⟨t, ht⟩ := Value.isInt_shape h1
    rw [ht, ← h2]; exact .int _ _
theorem srcP_ref {w₀ : Ws} {H₀ : Hp} {ws : List Nat} {l ep : Nat} {es : List ((Int × Bool) × V)} {a : Addr} (hl : w₀.φ[l]? = some a) (e : H₀[l]? = some (.dicP ep es)) (hw : l ∈ ws) : SrcD X n w₀ H₀ ws (es.map fun p => pairV p.1) a es.length ep := fun P kp hs =>
  P.R.at ((stands_get hs hw).trans e) fun b hb hc => hc.inv _ fun o en kvs x0 x1 x2 x3 x4 q z m => by
    rw [kp.pre l a hl] at hb; cases hb
    have hz : en.size = es.length := by rw [q.length, ← Array.length_toList, x3, List.length_map]
    refine ⟨o, en, x0, x2, hz, List.length_map _, fun i v hv => ?_⟩
    rw [List.getElem?_map] at hv
    refine mapk (fun v => ∃ h : i < en.size, Rep X.W.scr P.w v en[i].key) hv fun e' he => ?_
    have hi := (List.getElem?_eq_some_iff.mp he).1
    have hi' : i < en.size := hz ▸ hi
    have hk : i < kvs.length := q.length ▸ hi
    refine ⟨hi', ?_⟩
    have h1 := entry_at (knd := pKind X.W.prog X.W.w) x3 i
    rw [Array.getElem?_eq_getElem hi', List.getElem?_eq_getElem hk] at h1
    rw [Option.some.inj h1]
    exact (q.get he (List.getElem?_eq_getElem hk)).2.1
theorem iter_of {v : V} {x : Value} {us : List V} (G : X.Gl C) (r : Rep X.W.scr P.w v x) (e : keysOf C.scr P.H v = some us) (k : KnI P tg post Q) (p : post (us, watch v) P.H) : wpAny X.M P.A (pyIter x) Q Ex P.s := by
  unfold keysOf at e
  cases ed : dictAt' P.H v with
  | some es =>
    rw [ed] at e; cases e
    exact dct r G ed (fun x => wpAny X.M P.A (pyIter x) Q Ex P.s) fun l ep a kvs ev hl ha _ _ hs _ => by
      subst ev
      refine P.R.at hl fun b hb hc => hc.inv _ fun o en kvs x0 x1 x2 x3 x4 x5 q z m => ?_
      rw [ha] at hb; cases hb
      have hz : en.size = es.length := by rw [q.length, ← x4.length, Array.length_toList]
      exact pyIter_keys hs x0 x1.1 x2 (newIt k _ p (itr_dict (srcD_ref (l := l) (ep := ep) ha hl (.head _))) ⟨_, Heap.get?_push_size _ rfl, rfl, by rw [hz]; rfl⟩)
  | none =>
    rw [ed] at e
    cases eP : dicPAt P.H v with
    | some es =>
      rw [eP] at e; cases e
      exact dctP r G eP (fun x => wpAny X.M P.A (pyIter x) Q Ex P.s) fun l ep a kvs ev hl ha _ _ hs _ => by
        subst ev
        refine P.R.at hl fun b hb hc => hc.inv _ fun o en kvs x0 x1 x2 x3 x4 q z m => ?_
        rw [ha] at hb; cases hb
        have hz : en.size = es.length := by rw [q.length, ← Array.length_toList, x3, List.length_map]
        exact pyIter_keys hs x0 x1.1 x2 (newIt k _ p (itr_dict (srcP_ref (l := l) (ep := ep) ha hl (.head _))) ⟨_, Heap.get?_push_size _ rfl, rfl, by rw [hz]; rfl⟩)
    | none =>
      rw [eP] at e
      cases v with
      | tup us' => cases e; exact r.inv (fun x => wpAny X.M P.A (pyIter x) Q Ex P.s) fun a m xs h1 h2 _ h4 => wpAny_pyIter_tuple ⟨_, h1, rfl, m, rfl⟩ (newIt k _ p (itr_tuple (Heap.get?_push_of_some _ h1) h4 (h2.mono (P.ext (.push _) P.s.toks).S)) ⟨_, Heap.get?_push_size _ rfl, rfl, rfl⟩)
      | ref l =>
        exact lst r e (fun x => wpAny X.M P.A (pyIter x) Q Ex P.s) fun l' a xs m ev hl ha h1 h2 _ => by
          cases ev
          exact wpAny_pyIter_list (isList_of h1) (newIt k _ p (itr_list (srcL_ref (l := l) ha hl (.head _))) ⟨_, Heap.get?_push_size _ rfl, rfl, rfl⟩)
      | script => cases e; exact r.inv (fun x => wpAny X.M P.A (pyIter x) Q Ex P.s) (Gl.scr G P fun xs h1 h2 _ => wpAny_pyIter_list h1 (newIt k _ p (itr_list (srcL_script G)) ⟨_, Heap.get?_push_size _ rfl, rfl, rfl⟩))
      | _ => cases e
theorem notSet_of {c : E} {e : Expr} (h : chkE X.K sc ns c e = true) (env : Env) (x : Value) : foldedSetIterable e env x = pure x := by
  cases e <;> first | rfl | skip
  exfalso
  cases c <;> exact Bool.noConfusion h
theorem of_its {c : E} {e : Expr} (G : X.Gl C) (h0 : chkE X.K sc ns c e = true) (he : EvS X C n sc ns c e) : ItS X C n sc ns (.of c) e :=
  ⟨notSet_of h0, fun P tg post Q Ex _ p k kx => he P _ _ Ex p (fun v H1 p1 N x r => wSome.k p1 fun us hi p1 => iter_of (P := N.pt) G r hi (k.nx N) p1) kx⟩
theorem iter_range {x y : Int} {r : Addr} {t u w : Tok} (k : KnI P tg post Q) (hr : IsRange P.s.heap r x y 1 t u w) (hx : x.natAbs < 2 ^ 60 ∧ y.natAbs < 2 ^ 60) (p : post (rangeV x y, []) P.H) : wpAny X.M P.A (pyIter (.ref r)) Q Ex P.s := by
  refine wpAny_pyIter_range hr (small_one (by (first | lia | omega)) (by (first | lia | omega)) (by (first | lia | omega)) (by (first | lia | omega))) (newIt k _ p (itr_range (x := x) (y := y)) ?_)
  have e1 : x + ((0 : Nat) : Int) = x := by (first | lia | omega)
  have e2 : (((y - x).toNat : Int) - ((0 : Nat) : Int)) = Builtin.Range.rangeSize x y 1 := by rw [rangeSize_one]; split <;> (first | lia | omega)
  show IsRangeIter _ _ (x + ((0 : Nat) : Int)) (((y - x).toNat : Int) - ((0 : Nat) : Int)) 1
  rw [e1, e2]
  exact Heap.get?_push_size _ rfl
/-- a built-in class called by its name with the arguments `es` -/
theorem callT {P : Fp X n sc ns} {g : Expr} {nm : Str} {y : Value} {cs : List E} {es : List Expr} {pos : Pos} {post : List V → Hp → Prop} (G : X.Gl C) (hg : isGl sc nm g = true) (hm : (nm, y) ∈ biTable) (hy : ∃ T, y = .type T) (h : LsS X C n sc ns cs es) (p : WEs C cs P.ρ P.H post) (k : KnL P.toPt cs.length post fun xs s₁ => wpAny X.M P.A (call y xs) Q Ex s₁) (kx : Kn P.toPt (C.exc P.ρ) Ex) : wpAny X.M P.A (eval (.Call g es [] pos) P.env) Q Ex P.s :=
  ifName.k (G := fun g => wpAny X.M P.A (eval (.Call g es [] pos) P.env) Q Ex P.s) hg fun x np hg => andk hg fun e ho => by
    obtain rfl := eq_of_beq e
    obtain ⟨T, rfl⟩ := hy
    exact wpAny_Call_NameR (glob_bi G P hm ho (PySem.callWith_type (h.plain P.env pos) (evalArgs_of (h.plain P.env pos) (h.spl P _ _ Ex pos p k kx))))
theorem range1_its {b : E} {g e : Expr} {pos : Pos} (G : X.Gl C) (hg : isGl sc "range" g = true) (h : LsS X C n sc ns [b] [e]) : ItS X C n sc ns (.range (.k (.int 0)) b) (.Call g [e] [] pos) :=
  ⟨fun _ _ => rfl, fun P tg post Q Ex _ p k kx => callT (post := fun vs H => w1 vs fun y => wInt y fun j => ((0 : Int).natAbs < 2 ^ 60 ∧ j.natAbs < 2 ^ 60) ∧ post (rangeV 0 j, []) H) G hg (bi_mem 6 (by decide)) ⟨_, rfl⟩ h p (fun vs H1 p1 _ N xs r => w1.k p1 (fun vs => RepL X.W.scr N.w vs xs → _) (fun v p1 r => wInt.k p1 (fun v => RepL X.W.scr N.w [v] xs → _) (fun j p1 r =>
    r.k1 (fun xs => wpAny X.M P.A (call (.type "range") xs) (fun x s₁ => wpAny X.M P.A (pyIter x) Q Ex s₁) Ex N.s) fun x r => r.inv (fun x => wpAny X.M P.A (call (.type "range") [x]) (fun x s₁ => wpAny X.M P.A (pyIter x) Q Ex s₁) Ex N.s) fun t => call_range_1 (iter_range (P := (N.pt.ext (.push _) _).pt) ((k.nx N).nx (N.pt.ext (.push _) _)) (IsRange.new _ _ _ _ _ _ _) p1.1 p1.2)) r) r) kx⟩
theorem range2_its {a b : E} {g e e' : Expr} {pos : Pos} (G : X.Gl C) (hg : isGl sc "range" g = true) (h : LsS X C n sc ns [a, b] [e, e']) : ItS X C n sc ns (.range a b) (.Call g [e, e'] [] pos) :=
  ⟨fun _ _ => rfl, fun P tg post Q Ex _ p k kx => callT (post := fun vs H => w2 vs fun x y => wRange x y fun l => post (l, []) H) G hg (bi_mem 6 (by decide)) ⟨_, rfl⟩ h p (fun vs H1 p1 _ N xs r => w2.k p1 (fun vs => RepL X.W.scr N.w vs xs → _) (fun u v p1 r => wInt.k p1 (fun u => RepL X.W.scr N.w [u, v] xs → _) (fun i p1 r => wInt.k p1 (fun v => RepL X.W.scr N.w [.int i, v] xs → _) (fun j p1 r =>
    r.k2 (fun xs => wpAny X.M P.A (call (.type "range") xs) (fun x s₁ => wpAny X.M P.A (pyIter x) Q Ex s₁) Ex N.s) fun x y r1 r2 => r1.inv (fun x => wpAny X.M P.A (call (.type "range") [x, y]) (fun x s₁ => wpAny X.M P.A (pyIter x) Q Ex s₁) Ex N.s) fun t => r2.inv (fun y => wpAny X.M P.A (call (.type "range") [_, y]) (fun x s₁ => wpAny X.M P.A (pyIter x) Q Ex s₁) Ex N.s) fun t' => call_range_2 (iter_range (P := (N.pt.ext (.push _) _).pt) ((k.nx N).nx (N.pt.ext (.push _) _)) (IsRange.new _ _ _ _ _ _ _) p1.1 p1.2)) r) r) r) kx⟩
end
end Mine

end
section
set_option autoImplicit false
set_option linter.unusedVariables false
set_option linter.unusedSimpArgs false
namespace Mine
open PySem PySem.Calls PyProof.Rows

theorem Ch.but2 {h h' : Heap} {a b : Addr} (k : ∀ c o, c ≠ a → c ≠ b → h.get? c = some o → h'.get? c = some o) (fa : ∀ o, h.get? a = some o → fz o = false) (fb : ∀ o, h.get? b = some o → fz o = false) : Ch (fun c => c = a ∨ c = b) h h' := fun c o e hf =>
  (Classical.em (c = a)).elim (fun e' => no (hf (.inl e')) (fa o (e' ▸ e))) fun ha => (Classical.em (c = b)).elim (fun e' => no (hf (.inr e')) (fb o (e' ▸ e))) fun hb => k c o ha hb e
section
variable {X : Fix} {C : Ctx} {n : Nat} {sc : Scope} {ns : List Str} {tg : Expr} {w₀ : Ws} {H₀ : Hp} {ws : List Nat} {vs : List V} {a e it : Addr}
theorem enumV_get : ∀ {us : List V} {k i : Nat}, (enumV k us)[i]? = us[i]?.map fun u => .tup [.int ((k + i : Nat) : Int), u]
  | [], k, i => rfl
  | u :: us, k, 0 => rfl
  | u :: us, k, i + 1 => by
    rw [enumV, List.getElem?_cons_succ, List.getElem?_cons_succ, enumV_get, Nat.add_right_comm]; rfl
theorem itr_enum (htg : isTupE tg = true) (hsrc : SrcL X n w₀ H₀ ws vs a) (hne : e ≠ it) : Itr X n tg w₀ H₀ ws (enumV 0 vs) e (fun c => c = e ∨ c = it) (fun i h => (∃ old, IsEnum h e it i old) ∧ h.IsListIter it a i) where
  keep := fun i h h' st hk => ⟨st.1.imp fun old q => hk e (.inl rfl) _ q, st.2.imp fun o q => ⟨hk it (.inr rfl) o q.1, q.2⟩⟩
  live := fun i h st b hb => hb.elim (fun hb => st.1.elim fun old q => ⟨_, hb ▸ q, rfl⟩) fun hb => st.2.imp fun o q => ⟨hb ▸ q.1, isD_fields q.2.2⟩
  item := fun P i v Q Ex Ex' kp hw st hio hv k => (hsrc P kp hw).elim fun xs hx => mapk (fun v => (∀ h' tk y, SR X.W ⟨P.φ, h'⟩ P.H → Stp (fun c => c = e ∨ c = it) P.w ⟨P.φ, h'⟩ → ((∃ old, IsEnum h' e it ((i + 1 : Nat) : Int) old) ∧ h'.IsListIter it a (i + 1)) → Rep X.W.scr ⟨P.φ, h'⟩ v y → Q y (upd P.s h' tk)) → _) (enumV_get ▸ hv) (fun u hu k => hx.2.get hu fun y hy ry => st.1.elim fun old e1 => st.2.elim fun o q => by
    refine wpAny_pyNext_enum_item e1 st.2 hx.1 (by rw [arr_get]; exact hy) hne fun h' q1 q2 q3 q4 q5 => ?_
    refine Expr.Tuple.elim (motive_1 := fun tg => wpAny X.M P.A (letOwnedTupleGo tg (.ref e) (.ref P.s.heap.objs.size)) (fun _ s₂ => Q (.ref P.s.heap.objs.size) s₂) Ex' (upd P.s h' (P.s.toks + 1))) tg (of_decide_eq_true htg) fun _ _ _ => ?_
    refine wpAny_letOwnedTupleGo_enum (s := upd P.s h' (P.s.toks + 1)) q1 fun h2 w1 w2 => ?_
    replace w2 : Heap.SameBut e h' h2 := w2
    have hs : P.s.heap.objs.size ≠ e := fun e' => none_some (none_size P.s.heap (Nat.le_of_eq e')) e1
    have keep : ∀ b o, b ≠ e → b ≠ it → P.s.heap.get? b = some o → h2.get? b = some o := fun b o n1 n2 x => w2.extBut b o n1 (q5 b o n1 n2 x)
    have c : Ch (fun c => c = e ∨ c = it) P.s.heap h2 := .but2 keep (fun o x => by rw [e1] at x; cases x; exact fz_cls (nm := "enumerate") rfl rfl rfl) (fun o' x => by rw [q.1] at x; cases x; exact fz_cls q.2.1 rfl rfl)
    refine q2.elim fun o' q2 => ?_
    have hit : h2.get? it = some o' := w2.extBut _ _ hne.symm q2.1
    have S : Stp (fun c => c = e ∨ c = it) P.w ⟨P.φ, h2⟩ := Stp.ch (io := fun c => c = e ∨ c = it) (q := P.w) .refl c fun b hb => .inr ⟨hb, hb.elim (fun hb => ⟨_, hb ▸ w1, fun o1 x hd => by rw [hb] at x; rw [e1] at x; cases x; cases hd⟩) fun hb => ⟨_, hb ▸ hit, fun o1 x hd => by rw [hb] at x; rw [q.1] at x; cases x; exact no hd (isD_fields q.2.2)⟩⟩
    have hc : ((i + 1 : Nat) : Int) = (i : Int) + 1 := rfl
    have h0 : ((0 + i : Nat) : Int) = (i : Int) := by rw [Nat.zero_add]
    exact k h2 _ _ (P.R.ch (p := P.w) hio c) S ⟨⟨y, w1⟩, o', hit, q2.2⟩ (.tup (w2.extBut _ _ hs q3) (.cons (h0 ▸ .int _ _) (.cons (ry.mono S) .nil)) (Nat.le_of_ble_eq_true rfl) (P.R.new (p := P.w) (none_size _ (Nat.le_refl _))).1)) k
  done := fun P i Q Ex kp hw st hio hv k => (hsrc P kp hw).elim fun xs hx => st.1.elim fun old e1 => st.2.elim fun o q => wpAny_pyNext_enum_end P.rm.handled e1 st.2 hx.1 (none_of hx.2 (Option.map_eq_none_iff.mp (enumV_get ▸ hv))) fun h' he =>
    k h' P.s.toks (.but2 (fun c o _ hc x => he c o hc x) (fun o x => by rw [e1] at x; cases x; exact fz_cls (nm := "enumerate") rfl rfl rfl) (fun o' x => by rw [q.1] at x; cases x; exact fz_cls q.2.1 rfl rfl))
  self := fun A s Q Ex st h => st.1.elim fun old e1 => wpAny_pyIter_enum e1 h
theorem enum_its {c : E} {g x : Expr} {pos : Pos} (G : X.Gl C) (hg : isGl sc "enumerate" g = true) (h : LsS X C n sc ns [c] [x]) : ItS X C n sc ns (.enum c) (.Call g [x] [] pos) :=
  ⟨fun _ _ => rfl, fun P tg post Q Ex htg p k kx => callT (post := fun vs H => w1 vs fun y => wSome (lstAt H y) fun us => post (enumV 0 us, watch y) H) G hg (bi_mem 7 (by decide)) ⟨_, rfl⟩ h p (fun vs H1 p1 _ N xs r => w1.k p1 (fun vs => RepL X.W.scr N.w vs xs → _) (fun v p1 r => wSome.k p1 fun us hl p1 => r.k1 (fun xs => wpAny X.M P.A (call (.type "enumerate") xs) (fun x s₁ => wpAny X.M P.A (pyIter x) Q Ex s₁) Ex N.s) fun y r =>
    lst (P := N.pt) r hl (fun y => wpAny X.M P.A (call (.type "enumerate") [y]) (fun x s₁ => wpAny X.M P.A (pyIter x) Q Ex s₁) Ex N.s) fun l a xs m ev hl' ha h1 h2 _ => by
      subst ev
      refine call_enumerate_list (s := N.s) (isList_of h1) fun h2 w1 w2 w3 w4 => wpAny_pyIter_enum (s := upd P.s h2 N.tk) w1 ?_
      have fr : ∀ b, N.h.objs.size ≤ b → Ap X.W (N.pt.ext (h' := h2) w4 N.tk).w b ∧ P.s.heap.get? b = none := fun b hb => have hn := none_size N.h hb; ⟨N.R.new (p := N.w) hn, N.S.dead hn⟩
      exact k _ _ p1 (N.then (N.pt.ext w4 N.tk)) _ _ _ (itr_enum htg (srcL_ref ha hl' (.head _)) (Nat.succ_ne_self _)) ⟨⟨.none, w1⟩, w2⟩ fun b hb => hb.elim (fun hb => fr b (hb ▸ Nat.le_succ _)) fun hb => fr b (Nat.le_of_eq hb.symm)) r) kx⟩
end
end Mine

end
section
set_option autoImplicit false
set_option linter.unusedVariables false
set_option linter.unusedSimpArgs false
namespace Mine
open PySem PySem.Calls PyProof.Rows

theorem zipV_get : ∀ {us vs : List V} {i : Nat} {v : V}, (zipV us vs)[i]? = some v → ∃ u w, us[i]? = some u ∧ vs[i]? = some w ∧ v = .tup [u, w]
  | [], _, i, v, h => none_some List.getElem?_nil h
  | _ :: _, [], i, v, h => none_some List.getElem?_nil h
  | a :: r, b :: t, 0, v, h => ⟨a, b, rfl, rfl, (Option.some.inj h).symm⟩
  | a :: r, b :: t, i + 1, v, h => zipV_get (us := r) (vs := t) (i := i) h
theorem zipV_end : ∀ {us vs : List V} {i : Nat}, us.length ≤ vs.length → (zipV us vs)[i]? = none → us[i]? = none
  | [], _, i, _, _ => rfl
  | a :: r, [], i, hl, h => absurd hl (Nat.not_succ_le_zero _)
  | a :: r, b :: t, 0, _, h => none_some h rfl
  | a :: r, b :: t, i + 1, hl, h => zipV_end (us := r) (vs := t) (i := i) (Nat.le_of_succ_le_succ hl) h

section
variable {prog : Program} {w : World} {A : Around} {E : Value → Shared → Prop} {s : Shared}
/-- zip asked once more when its first list is at its end -/
theorem zipEnd {z TI TO i1 i2 l1 l2 : Addr} {k : Nat} {xs : Array Value} {Q : Option Value → Shared → Prop} (hh : A.handled = none) (D : ZipApart z TI TO i1 i2 l1 l2)
    (hz : IsZip s.heap z TI TO .none) (hTI : IsPair s.heap TI (.ref i1) (.ref i2)) (h1 : s.heap.IsListIter i1 l1 k) (hl1 : s.heap.IsList l1 xs) (hx : xs[k]? = none)
    (hQ : ∀ h', (∀ c o, c ≠ z → c ≠ i1 → s.heap.get? c = some o → h'.get? c = some o) → Q none { s with heap := h' }) : wpAny (model prog w) A (pyNext (.ref z)) Q E s := by
  have hT : s.TypeIs (.ref z) "zip" := ⟨_, hz, rfl⟩
  unfold pyNext
  refine wpAny_bind (wpAny_attempt (wpAny_callSpecial?_slot (name := Str.ofString "__next__") hT PySem.F.slot_zip_next (wpAny_call_entry PySem.F.slot_zip_next hT PySem.F.entry_zip_next ?_ (PySem.F.args_zip_next_1 _))))
  show wpAny _ _ (field (.ref z) 2 >>= _) _ _ _
  refine wpAny_bind (wpAny_field hz rfl (x := .bool false) rfl ?_)
  show wpAny _ _ (field (.ref z) 3 >>= _) _ _ _
  refine wpAny_bind (wpAny_field hz rfl (x := .ref TI) rfl ?_)
  refine wpAny_bind (wpAny_seqItems hTI rfl ?_)
  show wpAny _ _ (Builtin.SmallTypes.ownedTupleIsFree (.ref z) >>= _) _ _ _
  refine wpAny_bind (wpAny_bind (wpAny_field hz rfl (x := .none) rfl (wpAny_pure ?_)))
  simp only [if_true]
  refine wpAny_bind (wpAny_rule ?_)
  refine wpAny_bind (wpAny_field hz rfl (x := .ref TO) rfl ?_)
  refine wpAny_bind (wpAny_setField_rec hz (by exact Nat.zero_lt_succ _) fun g1 hz1 hs1 => ?_)
  replace hz1 : IsZip g1 z TI TO .ellipsis := hz1
  refine wpAny_bind ?_
  simp only [List.zipIdx_cons, List.zipIdx_nil, List.forIn_cons, List.forIn_nil]
  refine wpAny_bind (wpAny_bind (wpAny_onRaise ?_))
  show wpAny _ _ (Builtin.SmallTypes.nextOf (.ref i1) >>= _) _ _ _
  refine wpAny_bind (wpAny_nextOf_list_end hh (h1.extBut hs1.extBut D.i1z) (hl1.extBut hs1.extBut D.l1z) hx fun g2 e hs2 he => he.elim fun oe he => ?_)
  have hz2 : IsZip g2 z TI TO .ellipsis := hs2 _ _ D.i1z.symm hz1
  have hez : e ≠ z := fun x => by subst x; rw [hz2] at he; cases he.1; simp at he
  refine wpAny_setField_rec hz2 (by exact Nat.zero_lt_succ _) fun g3 _ hs3 => ?_
  refine wpAny_bind (wpAny_isInstance (T := "StopIteration") (b := true) ⟨oe, hs3.extBut _ _ hez he.1, he.2⟩ isSubtype_stop ?_)
  exact wpAny_pure (hQ _ fun c o c1 c3 x => hs3.extBut _ _ c1 (hs2 _ _ c3 (hs1.extBut _ _ c1 x)))
end
section
variable {X : Fix} {C : Ctx} {n : Nat} {sc : Scope} {ns : List Str} {tg : Expr} {w₀ : Ws} {H₀ : Hp} {ws : List Nat} {us vs : List V}
theorem Heap.IsListIter.at {h h' : Heap} {a l : Addr} {i : Nat} (x : h.IsListIter a l i) (k : ∀ o, h.get? a = some o → h'.get? a = some o) : h'.IsListIter a l i := x.imp fun o q => ⟨k o q.1, q.2⟩
theorem iter_fz {h : Heap} {a l : Addr} {i : Nat} (x : h.IsListIter a l i) (o : Obj) (e : h.get? a = some o) : fz o = false := x.elim fun o' q => by rw [q.1] at e; cases e; exact fz_cls q.2.1 rfl rfl
theorem set_self {H : Hp} {l : Nat} {c : Cell} (e : H[l]? = some c) : H.set l c = H := by
  have h := List.getElem?_eq_some_iff.mp e
  rw [← h.2]; exact List.set_getElem_self h.1
inductive ZIo (z TI i1 i2 : Addr) (c : Addr) : Prop
  | z (e : c = z) : ZIo z TI i1 i2 c
  | i1 (e : c = i1) : ZIo z TI i1 i2 c
  | i2 (e : c = i2) : ZIo z TI i1 i2 c
  | t (e : c = TI) : ZIo z TI i1 i2 c
theorem itr_zip {z TI TO i1 i2 l1 l2 : Addr} {lz : Nat} (htg : isTupE tg = true) (D : ZipApart z TI TO i1 i2 l1 l2) (hle : us.length ≤ vs.length) (hs1 : SrcL X n w₀ H₀ ws us l1) (hs2 : SrcL X n w₀ H₀ ws vs l2) (hz0 : w₀.φ[lz]? = some TO) (hH : H₀[lz]? = some .hid) (hlz : lz ∈ ws) :
    Itr X n tg w₀ H₀ ws (zipV us vs) z (ZIo z TI i1 i2) (fun i h => IsZip h z TI TO .none ∧ IsPair h TI (.ref i1) (.ref i2) ∧ h.IsListIter i1 l1 i ∧ h.IsListIter i2 l2 i) where
  keep := fun i h h' st hk => ⟨hk z (.z rfl) _ st.1, hk TI (.t rfl) _ st.2.1, Heap.IsListIter.at st.2.2.1 (hk i1 (.i1 rfl)), Heap.IsListIter.at st.2.2.2 (hk i2 (.i2 rfl))⟩
  live := fun i h st b hb => hb.casesOn (fun e => ⟨_, e ▸ st.1, rfl⟩) (fun e => st.2.2.1.imp fun o q => ⟨e ▸ q.1, isD_fields q.2.2⟩) (fun e => st.2.2.2.imp fun o q => ⟨e ▸ q.1, isD_fields q.2.2⟩) (fun e => ⟨_, e ▸ st.2.1, rfl⟩)
  item := fun P i v Q Ex Ex' kp hw st hio hv k => (hs1 P kp hw).elim fun xs a => (hs2 P kp hw).elim fun ys b => (zipV_get hv).elim fun u h => h.elim fun t h => a.2.get h.1 fun x hx rx => b.2.get h.2.1 fun y hy ry => by
    have eH := (stands_get hw hlz).trans hH
    have eφ := kp.pre lz TO hz0
    refine P.R.at eH fun c hc hcell => hcell.inv _ fun p1 p2 hTO => ?_
    rw [eφ] at hc; cases hc
    refine wpAny_pyNext_zip_item (a := p1) (b := p2) D st.1 st.2.1 hTO st.2.2.1 st.2.2.2 a.1 b.1 (by rw [arr_get]; exact hx) (by rw [arr_get]; exact hy) fun h' q1 q2 q3 q4 q5 q6 q7 => ?_
    refine Expr.Tuple.elim (motive_1 := fun tg => wpAny X.M P.A (letOwnedTupleGo tg (.ref z) (.ref P.s.heap.objs.size)) (fun _ s₂ => Q (.ref P.s.heap.objs.size) s₂) Ex' (upd P.s h' P.s.toks)) tg (of_decide_eq_true htg) fun _ _ _ => ?_
    refine wpAny_letOwnedTupleGo_zip (s := upd P.s h' P.s.toks) q1 fun h2 w1 w2 => ?_
    replace w2 : Heap.SameBut z h' h2 := w2
    have keep : ∀ c o, c ≠ TO → P.s.heap.get? c = some o → (ZIo z TI i1 i2 c → fz o = true) → h2.get? c = some o := fun c o n2 e hf =>
      have n1 : c ≠ z := fun e' => no (hf (.z e')) (by rw [e', st.1] at e; cases e; exact fz_cls (nm := "zip") rfl rfl rfl)
      w2.extBut c o n1 (q7 c o n1 n2 (fun e' => no (hf (.i1 e')) (iter_fz st.2.2.1 o (e' ▸ e))) (fun e' => no (hf (.i2 e')) (iter_fz st.2.2.2 o (e' ▸ e))) e)
    have hTO2 : h2.get? TO = some (tupObj [x, y] 0) := w2.extBut _ _ D.TOz q2
    have g1 : h2.IsListIter i1 l1 (i + 1) := q3.extBut w2.extBut D.i1z
    have g2 : h2.IsListIter i2 l2 (i + 1) := q4.extBut w2.extBut D.i2z
    have gT : h2.get? TI = some _ := keep TI _ D.TITO st.2.1 fun _ => rfl
    have zd : ∀ {c o}, ZIo z TI i1 i2 c → P.s.heap.get? c = some o → isD o = false := fun hz e => hz.casesOn (fun e' => by rw [e', st.1] at e; cases e; rfl) (fun e' => st.2.2.1.elim fun o2 q => by rw [e', q.1] at e; cases e; exact isD_fields q.2.2) (fun e' => st.2.2.2.elim fun o2 q => by rw [e', q.1] at e; cases e; exact isD_fields q.2.2) (fun e' => by rw [e', st.2.1] at e; cases e; rfl)
    have S : Stp (ZIo z TI i1 i2) P.w ⟨P.φ, h2⟩ := ⟨fun _ _ e => e, fun c o e hn hf => ⟨o, keep c o (fun e' => hn (e' ▸ List.mem_of_getElem? eφ)) e hf, .inl rfl⟩, fun _ m1 m2 => absurd m1 m2, fun c o e => (Classical.em (c = TO)).elim (fun e' => ⟨_, e' ▸ hTO2, fun hn => absurd (e' ▸ List.mem_of_getElem? eφ) hn⟩) fun n2 =>
      (Classical.em (ZIo z TI i1 i2 c)).elim (fun hz => (show ∃ o', h2.get? c = some o' from hz.casesOn (fun e => ⟨_, e ▸ w1⟩) (fun e => g1.imp fun o q => e ▸ q.1) (fun e => g2.imp fun o q => e ▸ q.1) (fun e => ⟨_, e ▸ gT⟩)).imp fun o' x => ⟨x, fun _ hd => no hd (zd hz e)⟩) fun hz => ⟨o, keep c o n2 e fun h => absurd h hz, fun _ h => h⟩⟩
    have R2 : SR X.W ⟨P.φ, h2⟩ P.H := set_self eH ▸ SR.setC (p := P.w) P.R eφ keep hio (.hid hTO2)
    rw [h.2.2] at k
    exact k h2 P.s.toks _ R2 S ⟨w1, gT, g1, g2⟩ (.tup (w2.extBut _ _ (fun e' => none_some (none_size P.s.heap (Nat.le_of_eq e')) st.1) q5) (.cons (rx.mono S) (.cons (ry.mono S) .nil)) (Nat.le_of_ble_eq_true rfl) (P.R.new (p := P.w) (none_size _ (Nat.le_refl _))).1)
  done := fun P i Q Ex kp hw st hio hv k => (hs1 P kp hw).elim fun xs a => zipEnd P.rm.handled D st.1 st.2.1 st.2.2.1 a.1 (none_of a.2 (zipV_end hle hv)) fun h' hk =>
    k h' P.s.toks fun c o e hf => hk c o (fun e' => no (hf (.z e')) (by rw [e', st.1] at e; cases e; exact fz_cls (nm := "zip") rfl rfl rfl)) (fun e' => no (hf (.i1 e')) (iter_fz st.2.2.1 o (e' ▸ e))) e
  self := fun A s Q Ex st h => wpAny_pyIter_zip st.1 h
theorem srcL_app {P : Pt X n} {l : Nat} {w₁ : Ws} {a : Addr} {ws : List Nat} (ha : P.φ[l]? = some a) (e : P.H[l]? = some (.list us)) (kp : Kp P.w w₁) (hw : l ∈ ws) (c : Cell) : SrcL X n w₁ (P.H ++ [c]) ws us a :=
  srcL_ref (kp.pre l a ha) (by rw [List.getElem?_append_left (List.getElem?_eq_some_iff.mp e).1]; exact e) hw
theorem zip_its {c d : E} {g e f : Expr} {pos : Pos} (G : X.Gl C) (hg : isGl sc "zip" g = true) (h : LsS X C n sc ns [c, d] [e, f]) : ItS X C n sc ns (.zip c d) (.Call g [e, f] [] pos) :=
  ⟨fun _ _ => rfl, fun P tg post Q Ex htg p k kx => callT (post := fun vs H => w2 vs fun x y => wSome (lstAt H x) fun vs => wSome (lstAt H y) fun us => vs.length ≤ us.length ∧ post (zipV vs us, H.length :: (watch x ++ watch y)) (H ++ [Cell.hid])) G hg (bi_mem 10 (by decide)) ⟨_, rfl⟩ h p (fun vs H1 p1 _ N xs r => w2.k p1 (fun vs => RepL X.W.scr N.w vs xs → _) (fun u v p1 r => wSome.k p1 fun us hl1 p1 => wSome.k p1 fun vs hl2 p1 => r.k2 (fun xs => wpAny X.M P.A (call (.type "zip") xs) (fun x s₁ => wpAny X.M P.A (pyIter x) Q Ex s₁) Ex N.s) fun x y r1 r2 =>
    lst (P := N.pt) r1 hl1 (fun x => wpAny X.M P.A (call (.type "zip") [x, y]) (fun x s₁ => wpAny X.M P.A (pyIter x) Q Ex s₁) Ex N.s) fun l a xs m ev hm1 ha h1 q1 _ => lst (P := N.pt) r2 hl2 (fun y => wpAny X.M P.A (call (.type "zip") [_, y]) (fun x s₁ => wpAny X.M P.A (pyIter x) Q Ex s₁) Ex N.s) fun l' b ys m' ev' hm2 hb h2 q2 _ => by
      subst ev ev'
      refine call_zip_2 (s := N.s) (isList_of h1) (isList_of h2) fun h' z1 z2 z3 z4 z5 z6 z7 => wpAny_pyIter_zip (s := upd P.s h' N.tk) z1 ?_
      have fr : ∀ b, N.h.objs.size ≤ b → Ap X.W ⟨N.φ, h'⟩ b ∧ N.h.get? b = none := fun b hb => have hn := none_size N.h hb; ⟨N.R.new (p := N.w) hn, hn⟩
      have hT := fr (N.h.objs.size + 3) (Nat.le_add_right _ _)
      have K : Kp N.w ⟨N.φ ++ [N.h.objs.size + 3], h'⟩ := ⟨fun l a e => by rw [List.getElem?_append_left (List.getElem?_eq_some_iff.mp e).1]; exact e, fun a o _ e hn => ⟨z7 a o e, fun hm => (List.mem_append.mp hm).elim hn fun hm => none_some (List.mem_singleton.mp hm ▸ hT.2) e⟩⟩
      have R3 : SR X.W ⟨N.φ ++ [N.h.objs.size + 3], h'⟩ (H1 ++ [.hid]) := SR.adopt' (p := N.w) N.R z7 hT.2 hT.1 (.hid z3)
      refine k _ _ p1.2 ⟨N.φ ++ [N.h.objs.size + 3], h', N.tk, R3, Stp.adopt (q := ⟨N.φ, h'⟩) (N.S.ext z7) (N.S.dead hT.2)⟩ (N.h.objs.size + 4) _ _ (itr_zip (lz := H1.length) htg (zipApart_new (Heap.lt_size h1) (Heap.lt_size h2)) p1.1 (srcL_app (P := N.pt) ha hm1 K (.tail _ (.head _)) _) (srcL_app (P := N.pt) hb hm2 K (.tail _ (.tail _ (.head _))) _) ?_ ?_ (.head _)) ⟨z1, z2, z4, z5⟩ fun c hc => ?_
      · show (N.φ ++ [N.h.objs.size + 3])[H1.length]? = _
        rw [← N.R.len, List.getElem?_append_right (Nat.le_refl _), Nat.sub_self]; rfl
      · rw [List.getElem?_append_right (Nat.le_refl _), Nat.sub_self]; rfl
      · have key : ∀ c, N.h.objs.size ≤ c → c ≠ N.h.objs.size + 3 → Ap X.W ⟨N.φ ++ [N.h.objs.size + 3], h'⟩ c ∧ P.s.heap.get? c = none := fun c hc hne => have q := fr c hc; ⟨⟨fun hm => (List.mem_append.mp hm).elim q.1.1 fun h => hne (List.mem_singleton.mp h), q.1.2⟩, N.S.dead q.2⟩
        have ne : ∀ {a : Nat}, a ≠ 3 → N.h.objs.size + a ≠ N.h.objs.size + 3 := fun h e => h (Nat.add_left_cancel e)
        exact hc.casesOn (fun e => e ▸ key _ (Nat.le_add_right _ _) (ne (by decide))) (fun e => e ▸ key _ (Nat.le_refl _) (ne (a := 0) (by decide))) (fun e => e ▸ key _ (Nat.le_add_right _ _) (ne (by decide))) (fun e => e ▸ key _ (Nat.le_add_right _ _) (ne (by decide)))) r) kx⟩
end
end Mine

end
section
set_option autoImplicit false
set_option linter.unusedVariables false
set_option linter.unusedSimpArgs false
namespace Mine
open PySem PySem.Calls PyProof.Rows

section
variable {prog : Program} {w : World} {A : Around} {R : Result → Shared → Prop} {s : Shared}
/-- a for loop, what it unpacks let go -/
theorem forLoop_any {target : Expr} {it : Value} {body : List Stmt} {env : Env} (I : Nat → Shared → Prop)
    (turn : ∀ n s, I n s → wpAny (model prog w) A (pyNext it) (fun r s₁ => r = none ∧ R (.ok .next) s₁) (notedBy (model prog w) A env fun e s' => R (.error e) s') s ∨ wpAny (model prog w) A (pyNext it) (fun r s₁ => wSome r fun v =>
        wpAny (model prog w) A (letOwnedTupleGo target it v) (fun _ s₁ => wpAny (model prog w) A (assign target env v) (fun _ s₂ => wpAny (model prog w) A (execs body env) (fun f s₃ => match f with
          | .next | .cont => ∃ m, m < n ∧ I m s₃
          | .brk => R (.ok .next) s₃
          | .ret v => R (.ok (.ret v)) s₃) (notedBy (model prog w) A env fun e s' => R (.error e) s') s₂) (notedBy (model prog w) A env fun e s' => R (.error e) s') s₁) (notedBy (model prog w) A env fun e s' => R (.error e) s') s₁)
      (notedBy (model prog w) A env fun e s' => R (.error e) s') s)
    (n : Nat) (h : I n s) : codeAny (model prog w) A (.forLoop target it body [] env) R s := by
  refine codeAny_loop' rfl I (fun n s hI => ?_) n h
  show wpAny _ _ ((forTurn target it body [] env).onRaise (fun x => do noteFrame x env; theTreesLotGoes x)) _ _ s
  refine wpAny_noted ?_
  simp only [forTurn]
  refine wpAny_bind (wpAny_standAt (wpAny_bind (wpAny_onRaise ((turn n s hI).elim (fun ht => wpAny_mono ht (fun r s₁ h₁ => ?_) fun _ _ h' => wpAny_standAt h') fun ht => wpAny_mono ht (fun r s₁ h₁ => ?_) fun _ _ h' => wpAny_standAt h'))))
  · rw [h₁.1]; exact wpAny_pure (.inr ⟨rfl, codeAny_block (wpAny_execs_nil h₁.2)⟩)
  · refine wSome.k h₁ fun v e h₁ => ?_
    subst e
    refine wpAny_bind (wpAny_mono h₁ (fun _ s₂ h₂ => wpAny_bind (wpAny_mono h₂ (fun _ s₂ h₂ => wpAny_bind (wpAny_mono h₂ (fun f s₃ h₃ => ?_) fun _ _ h' => h')) fun _ _ h' => h')) fun _ _ h' => h')
    cases f with
    | next => exact wpAny_pure (.inl ⟨rfl, h₃⟩)
    | cont => exact wpAny_pure (.inl ⟨rfl, h₃⟩)
    | brk => exact wpAny_pure h₃
    | ret v => exact wpAny_pure h₃
end
section
variable {X : Fix} {C : Ctx} {n : Nat} {sc : Scope} {ns : List Str} {tg : Expr} {own io : Addr → Prop} {St : Nat → Heap → Prop} {ρ : Env'} {H : Hp}
theorem Sx.ch {P : Fp X n sc ns} {h' : Heap} (N : Sx P own ρ H) (c : Ch io N.h h') (hio : ∀ a, io a → Ap X.W N.w a) (hnew : ∀ a, io a → P.s.heap.get? a = none) (tk : Nat) : ∃ N' : Sx P own ρ H, N'.φ = N.φ ∧ N'.h = h' ∧ N'.tk = tk :=
  ⟨⟨N.φ, h', tk, N.R.ch (p := N.w) hio c, N.F.ch (p := N.w) c fun a ha hi => (P.F.live a ha).elim fun o e => none_some (hnew a hi) e, Stp.ch (q := N.w) N.S c fun a hi => .inl (hnew a hi)⟩, rfl, rfl, rfl⟩
/-- the things of an iterator have changed -/
abbrev Sx.byIt {P : Fp X n sc ns} {h' : Heap} (N : Sx P own ρ H) (R : SR X.W ⟨N.φ, h'⟩ H) (S : Stp io N.w ⟨N.φ, h'⟩) (hnew : ∀ a, io a → P.s.heap.get? a = none) (tk : Nat) : Sx P own ρ H :=
  ⟨N.φ, h', tk, R, N.F.mono S fun a ha hi => (P.F.live a ha).elim fun o e => none_some (hnew a hi) e, Stp.ow (own := fun a => own a ∨ io a) ((N.S.ow fun _ h => .inl (.inl h)).trans (S.ow fun _ h => .inl (.inr h))) fun a h => h.imp id fun hi => hnew a hi⟩
/-- what holds between two turns of a for loop -/
inductive FTurn (P : Fp X n sc ns) (C : Ctx) (own : Addr → Prop) (w₀ : Ws) (H₀ : Hp) (ws : List Nat) (vs : List V) (io : Addr → Prop) (St : Nat → Heap → Prop) (t : Tgt) (body : List S) (K : Out → Prop) (j : Nat) (s : Shared) : Prop
  | mk (i : Nat) (ρ : Env') (H : Hp) (N : Sx P own ρ H) (e : s = N.s) (ej : j = (vs.drop i).length + 1) (kp : Kp w₀ N.w) (hw : stands ws H₀ H = true) (st : St i N.h) (hio : ∀ a, io a → Ap X.W N.w a) (p : forW ws H₀ t (fun ρ H K => WSs C.no body ρ H K) (vs.drop i) ρ H K) : FTurn P C own w₀ H₀ ws vs io St t body K j s
theorem drop_cons {α : Type} {l : List α} {i : Nat} {a : α} (h : l[i]? = some a) : l.drop i = a :: l.drop (i + 1) := by
  have h := List.getElem?_eq_some_iff.mp h
  rw [List.drop_eq_getElem_cons h.1, h.2]
theorem for_snd {t : Tgt} {it : It} {iter : Expr} {body : List S} {bs : List Stmt} {pos : Pos} (ht : chkT sc ns t tg = true) (htg : tgOk it tg = true) (hit : ItS X C n sc ns it iter) (hb : SsS X C.no n sc ns body bs) : SS X C n sc ns (.for t it body) (.For tg iter bs [] pos) := fun P own K Q Ex ho p k kx => by
  refine wpAny_For (hit.2 P tg _ _ Ex htg p (fun q H1 p1 N0 I io St it1 st1 hio => ?_) kx.kn) (hit.1 P.env)
  have hnew : ∀ a, io a → P.s.heap.get? a = none := fun a ha => (hio a ha).2
  have hown : ∀ {a : Addr} {G : Prop}, io a → own a → G := fun ha hoa => (P.F.live _ (ho.2 _ hoa)).elim fun o e => none_some (hnew _ ha) e
  refine forLoop_any (FTurn P C own N0.w H1 q.2 q.1 io St t body K) (fun j s' w => w.casesOn fun i ρ H N e ej kp hw st hio' p' => ?_) (q.1.length + 1) ⟨0, P.ρ, H1, N0.sx, rfl, by rw [List.drop_zero], .refl, stands_self _ _, st1, fun a ha => (hio a ha).1, by rw [List.drop_zero]; exact p1⟩
  subst e ej
  cases hv : q.1[i]? with
  | none =>
    refine .inl (it1.done N.fp.toPt i _ _ kp hw st hio' hv fun h2 tk2 c => ⟨rfl, ?_⟩)
    rw [List.drop_eq_nil_iff.mpr (List.getElem?_eq_none_iff.mp hv)] at p'
    exact (N.ch c hio' hnew tk2).elim fun N' e => by have := k.next _ _ p' N'; rw [show N'.s = upd P.s N'.h N'.tk from rfl, e.2.1, e.2.2] at this; exact this
  | some v =>
    have hd := drop_cons hv
    rw [hd] at p'
    refine wSome.k p' fun ρ2 ha p' => ?_
    refine .inr (it1.item N.fp.toPt i v _ _ _ kp hw st hio' hv fun h2 tk2 y R2 S2 st2 r2 => ?_)
    exact asg_snd (own := own) t tg (N.byIt R2 S2 hnew tk2).fp v y ρ2 _ _ ht (fun x hx => ho.1 x (tNames_sub t tg ht x hx)) r2 ha fun N3 => hb ((N.byIt R2 S2 hnew tk2).then N3).fp own _ _ _ ho p' ⟨fun ρ4 H4 p4 N4 => by
        have hk : ∀ a, io a → ∀ o, h2.get? a = some o → N4.h.get? a = some o := fun a ha o e => have nd := liv_nd it1.live st2 ha e; N4.S.same (N3.S.same e (hio' a ha).1 (fun h => hown ha h) nd) (N3.S.notMem e (hio' a ha).1) (fun h => hown ha h) nd
        exact ⟨(q.1.drop (i + 1)).length + 1, by rw [hd]; exact Nat.lt_succ_self _, i + 1, ρ4, H4, ((N.byIt R2 S2 hnew tk2).then N3).then N4, rfl, rfl, (kp.trans S2.kp).trans (N3.S.kp.trans N4.S.kp), p4.1, it1.keep _ _ _ st2 hk, fun a ha => ⟨(it1.live _ _ st2 a ha).elim fun o e => (N3.S.trans N4.S).notMem e.1 (hio' a ha).1, (hio' a ha).2⟩, p4.2⟩,
        fun v4 H4 p4 φ h tk R S x r => k.ret v4 H4 p4 φ h tk R (((N.byIt R2 S2 hnew tk2).then N3).S.trans S) x r⟩ .no
end
end Mine

end
section
set_option autoImplicit false
set_option linter.unusedVariables false
set_option linter.unusedSimpArgs false
namespace Mine
open PySem PySem.Calls PyProof.Rows

/-- the cells that a scope within takes from around -/
theorem clos_go {env : Env} {G : Prop} : ∀ (names : List (Str × NameKind)) (acc : List (Str × Addr)), (∀ p, p ∈ acc → env.cells.lookup p.1 = some p.2) → (∀ p, p ∈ names → p.2 = .free → ∃ c, env.cells.lookup p.1 = some c) →
    (∀ cl : List (Str × Addr), (forIn names acc fun (x : Str × NameKind) (cs : List (Str × Addr)) => if (x.2 == NameKind.free) = true then (do let c ← cellOf env x.1; pure (ForInStep.yield ((x.1, c) :: cs))) else pure (ForInStep.yield cs) : Sem (List (Str × Addr))) = pure cl →
      (∀ p, p ∈ cl → env.cells.lookup p.1 = some p.2) → (∀ p, p ∈ acc → p ∈ cl) → (∀ x, (x, NameKind.free) ∈ names → ∃ c, (x, c) ∈ cl) → G) → G
  | [], acc, h, _, k => k acc rfl h (fun _ h => h) fun _ h => nomatch h
  | (x, j) :: r, acc, h, hn, k => by
    by_cases hk : (j == NameKind.free) = true
    · obtain rfl := eq_of_beq hk
      exact (hn (x, .free) (.head _) rfl).elim fun c hc => clos_go r ((x, c) :: acc) (fun p hp => (List.mem_cons.mp hp).elim (fun e => e ▸ hc) (h p)) (fun p hp => hn p (.tail _ hp)) fun cl e h1 h2 h3 => k cl (by
        rw [List.forIn_cons, if_pos hk, show cellOf env (x, NameKind.free).1 = pure c by unfold cellOf; rw [hc]]
        exact e) h1 (fun p hp => h2 p (.tail _ hp)) fun y hy => (List.mem_cons.mp hy).elim (fun e => ⟨c, h2 _ (by rw [(Prod.mk.inj e).1]; exact .head _)⟩) (h3 y)
    · exact clos_go r acc h (fun p hp => hn p (.tail _ hp)) fun cl e h1 h2 h3 => k cl (by rw [List.forIn_cons, if_neg hk]; exact e) h1 h2 fun y hy => (List.mem_cons.mp hy).elim (fun e => absurd (beq_iff_eq.mpr (Prod.mk.inj e).2.symm) hk) (h3 y)
theorem mem_isLookup {α : Type} {x : Str} {c : α} : ∀ {l : List (Str × α)}, (x, c) ∈ l → ∃ d, l.lookup x = some d
  | (y, e) :: r, h => by
    rw [List.lookup_cons]
    cases hb : x == y with
    | true => exact ⟨_, rfl⟩
    | false => exact (List.mem_cons.mp h).elim (fun h => by rw [(Prod.mk.inj h).1, beq_self_eq_true] at hb; cases hb) mem_isLookup
theorem lookup_nodup {x : Str} {k : NameKind} : ∀ {l : List (Str × NameKind)}, (l.map (·.1)).Nodup → (x, k) ∈ l → l.lookup x = some k
  | (y, j) :: r, hn, h => by
    rw [List.lookup_cons]
    have hn := List.nodup_cons.mp hn
    cases hb : x == y with
    | true => exact (List.mem_cons.mp h).elim (fun e => by rw [(Prod.mk.inj e).2]) fun h => absurd (List.mem_map.mpr ⟨(x, k), h, eq_of_beq hb⟩) hn.1
    | false => exact (List.mem_cons.mp h).elim (fun e => by rw [(Prod.mk.inj e).1, beq_self_eq_true] at hb; cases hb) (lookup_nodup hn.2)

/-- a comprehension's own names: what one of them may be -/
noncomputable def nmOk (out : Scope) (ns loc : List Str) (x : Str) : NameKind → Prop
  | .local => x = (".0" : Str) ∨ x ∈ loc
  | .cell => False
  | .free => x ∈ ns ∧ x ∉ loc ∧ isCellK (out.names.lookup x)
  | .globalImplicit => True
  | .globalExplicit => False
structure CompSc (sc : Scope) (ns loc : List Str) (cs : Scope) : Prop where
  kind : cs.kind = .function
  gen : cs.isGenerator = false ∧ cs.isCoroutine = false
  nodup : (cs.names.map (·.1)).Nodup
  all : ∀ p, p ∈ cs.names → nmOk sc ns loc p.1 p.2
  loc_ : ∀ x, x ∈ loc → cs.names.lookup x = some .local
  dot : (".0" : Str) ∉ ns
  mk_ : cs.names.lookup mk = none
theorem notk {b : Bool} (h : (!b) = true) : b = false := by cases b <;> first | rfl | cases h
theorem not_mem {x : Str} {l : List Str} (h : (!l.contains x) = true) : x ∉ l := fun hm => by rw [List.contains_iff_mem.mpr hm] at h; cases h
theorem nmOk.of {sc : Scope} {ns loc : List Str} {p : Str × NameKind} (h : (match p.2 with
    | .local => p.1 == (".0" : Str) || loc.contains p.1
    | .cell => false
    | .free => ns.contains p.1 && (!loc.contains p.1 && isCellKB (sc.names.lookup p.1))
    | .globalImplicit => true
    | .globalExplicit => false) = true) : nmOk sc ns loc p.1 p.2 := by
  cases p with
  | mk x k =>
    cases k with
    | «local» => exact (Bool.or_eq_true_iff.mp h).imp eq_of_beq List.contains_iff_mem.mp
    | free => exact andk h fun a b => andk b fun b c => ⟨List.contains_iff_mem.mp a, not_mem b, c⟩
    | globalImplicit => trivial
    | _ => cases h
theorem scIn.sc {sc cs : Scope} {ns loc : List Str} (h : scIn sc ns loc cs = true) : CompSc sc ns loc cs :=
  andk h fun h1 h => andk h fun h2 h => andk h fun h3 h => andk h fun h4 h => andk h fun h5 h => andk h fun h6 h => andk h fun h7 h8 =>
    ⟨of_decide_eq_true h1, ⟨notk h2, notk h3⟩, of_decide_eq_true h4, fun p hp => nmOk.of (List.all_eq_true.mp h5 p hp), fun x hx => of_decide_eq_true (List.all_eq_true.mp h6 x hx), not_mem h7, Option.isNone_iff_eq_none.mp h8⟩

section
variable {X : Fix} {n : Nat} {sc cs : Scope} {ns loc : List Str} {env : Env} {h' : Heap} {cl : List (Str × Addr)} {D : Addr}
theorem relabel_k {x : Str} (G : Option NameKind → Option NameKind → Prop) (h1 : ∀ k, G k k) (h2 : G (some .free) (some .cell)) : G (cs.names.lookup x) ((relabel cs env).names.lookup x) := by
  unfold relabel
  show G (cs.names.lookup x) ((cs.names.map _).lookup x)
  induction cs.names with
  | nil => exact h1 _
  | cons p r ih =>
    obtain ⟨y, k⟩ := p
    rw [List.map_cons]
    show G _ (((if (k == NameKind.free && env.scope.kind == .function && env.kindOf y == some .cell) = true then (y, NameKind.cell) else (y, k)) :: _).lookup x)
    by_cases hc : (k == NameKind.free && env.scope.kind == .function && env.kindOf y == some .cell) = true
    · rw [if_pos hc, List.lookup_cons, List.lookup_cons]
      cases hx : x == y with
      | true => exact andk hc fun a _ => andk a fun a _ => by rw [eq_of_beq a]; exact h2
      | false => exact ih
    · rw [if_neg hc, List.lookup_cons, List.lookup_cons]
      cases hx : x == y with
      | true => exact h1 _
      | false => exact ih
theorem comp_kinds : Kinds cs (compEnvC cs cl D env) := fun x => relabel_k (env := env) (fun a b => kEq a b) (fun _ => .inl rfl) (.inr ⟨rfl, rfl⟩)
theorem kd_cell (P : Fp X n sc ns) {x : Str} (h : isCellK (sc.names.lookup x)) : isCellK (P.env.kindOf x) := (P.kd x).elim (fun e => e ▸ h) fun e => e.2
/-- what a name is, and what it was ahead of the relabelling -/
theorem relabel_is {x : Str} {k : NameKind} (h : (relabel cs env).names.lookup x = some k) : cs.names.lookup x = some k ∨ (k = .cell ∧ cs.names.lookup x = some .free) :=
  relabel_k (cs := cs) (env := env) (x := x) (fun a b => b = some k → a = some k ∨ (k = .cell ∧ a = some .free)) (fun _ h => .inl h) (fun h => .inr ⟨(Option.some.inj h).symm, rfl⟩) h
theorem CompSc.nm (c : CompSc sc ns loc cs) {x : Str} {k : NameKind} (h : cs.names.lookup x = some k) : nmOk sc ns loc x k := c.all _ (mem_lookup h)
/-- what a frame within another one has for good -/
theorem CompSc.fc {env' : Env} (P : Fp X n sc ns) (hk : env'.scope.kind = .function) (hg : env'.scope.isGenerator = false ∧ env'.scope.isCoroutine = false) (h1 : env'.globals = mainGlobals) (h2 : env'.builtins = builtinsNs) (hm : env'.kindOf Mine.mk = none) (hcl : ∀ p, p ∈ env'.cells → P.env.cells.lookup p.1 = some p.2) (hC : P.s.heap.get? env'.locals = none) : Fc X.W env' :=
  ⟨hk, h1, h2, ⟨hg.1, hg.2, by unfold interactive; rw [hk]; rfl⟩, fun h => (by rw [hm] at h; cases h),
    fun x y c h1 h2 => P.F.fc.apart x y c (hcl _ (mem_lookup h1)) (hcl _ (mem_lookup h2)), fun q hq e => (P.F.live _ (inF (hcl q hq))).elim fun o e' => none_some (e ▸ hC) e'⟩
theorem lk_in {x : Str} {ρl ρ : Env'} (hl : ρl.length = loc.length) (hx : x ∈ loc) : lk (loc ++ ns) (ρl ++ ρ) x = lk loc ρl x := by
  unfold lk
  rw [List.idxOf_append, if_pos hx, List.getElem?_append_left (by rw [hl]; exact List.idxOf_lt_length_of_mem hx)]
theorem lk_out {x : Str} {ρl ρ : Env'} (hl : ρl.length = loc.length) (hx : x ∉ loc) : lk (loc ++ ns) (ρl ++ ρ) x = lk ns ρ x := by
  unfold lk
  rw [List.idxOf_append, if_neg hx, List.getElem?_append_right (by rw [hl]; exact Nat.le_add_left _ _), hl, Nat.add_sub_cancel]
theorem lk_none {x : Str} : lk loc (List.replicate loc.length none) x = none := by
  unfold lk
  rw [List.getElem?_replicate]
  split <;> rfl
/-- a frame within another one -/
theorem CompSc.fr {env' : Env} {ρl : Env'} {m : Str → Option Value} (c : CompSc sc ns loc cs) (P : Fp X n sc ns) (fc : Fc X.W env') (hk : ∀ x k, env'.kindOf x = some k → cs.names.lookup x = some k ∨ (k = .cell ∧ cs.names.lookup x = some .free)) (hcl : ∀ p, p ∈ env'.cells → P.env.cells.lookup p.1 = some p.2) (hcf : ∀ x, (x, NameKind.free) ∈ cs.names → ∃ c, (x, c) ∈ env'.cells) (hC : P.s.heap.get? env'.locals = none) (e : Ext P.s.heap h') (hn : h'.Ns env'.locals m)
    (hl : ρl.length = loc.length) (hm : ∀ x, x ∈ loc → OptRep X.W.scr ⟨P.φ, h'⟩ (lk loc ρl x) (m x)) : FR X.W env' (loc ++ ns) (ρl ++ P.ρ) ⟨P.φ, h'⟩ :=
  ⟨fc, by rw [List.length_append, List.length_append, hl, P.F.len],
    ⟨_, hn, fun x hx h => (hk x _ h).elim (fun h => (Classical.em (x ∈ loc)).elim (fun hx => by rw [lk_in hl hx]; exact hm x hx) fun hx' => ((c.nm h).elim (fun e => absurd (e ▸ (List.mem_append.mp hx).resolve_left hx') c.dot) fun hl => absurd hl hx')) fun h => nomatch h.1⟩,
    fun x hx h => by
      have hf : cs.names.lookup x = some .free := by
        cases ek : env'.kindOf x with
        | none => rw [ek] at h; cases h
        | some k =>
          rw [ek] at h
          exact (hk x k ek).elim (fun e => by
            cases k with
            | free => exact e
            | cell => exact (c.nm e).elim
            | _ => cases h) fun e => e.2
      have q := c.nm hf
      exact (hcf x (mem_lookup hf)).elim fun d hd => (mem_isLookup hd).elim fun d hd => (P.F.cel x q.1 (kd_cell P q.2.2)).elim fun c1 w => w.elim fun v w => by
        have := hcl _ (mem_lookup hd)
        rw [show P.env.cells.lookup x = some d from this] at w
        cases w.1
        exact ⟨d, v, hd, IsCell_at w.2.1 (e _), by rw [lk_out hl q.2.1]; exact w.2.2.kp (P.toPt.ext e 0).S.kp⟩,
    fun a ha => ha.elim (fun ea => (by rw [ea]; exact P.R.new (p := P.w) hC)) fun w => w.elim fun y hy => P.F.ap _ (inF (hcl _ (mem_lookup hy))),
    fun a ha => ha.elim (fun ea => by rw [ea]; exact hn.imp fun o w => w.elim fun _ w => w.elim fun _ w => w.1) fun w => w.elim fun y hy => (P.F.live _ (inF (hcl _ (mem_lookup hy)))).imp fun o x => e _ _ x⟩
/-- the frame of a comprehension -/
theorem CompSc.frame (c : CompSc sc ns loc cs) (P : Fp X n sc ns) (hcl : ∀ p, p ∈ cl → P.env.cells.lookup p.1 = some p.2) (hcf : ∀ x, (x, NameKind.free) ∈ cs.names → ∃ c, (x, c) ∈ cl) (hC : P.s.heap.get? D = none) (e : Ext P.s.heap h') (hn : h'.Ns D (fun _ => none)) : FR X.W (compEnvC cs cl D P.env) (loc ++ ns) (List.replicate loc.length none ++ P.ρ) ⟨P.φ, h'⟩ :=
  c.fr P (CompSc.fc P c.kind c.gen P.F.fc.glob P.F.fc.blt (relabel_k (cs := cs) (env := P.env) (x := Mine.mk) (fun a b => a = none → b = none) (fun k e => e) (fun e => nomatch e) c.mk_) hcl hC) (fun x k h => relabel_is (cs := cs) (env := P.env) h) hcl hcf hC e hn List.length_replicate fun x hx => by rw [lk_none]; exact .none
end

section
variable {prog : Program} {w : World} {A : Around} {R : Result → Shared → Prop} {s : Shared}
/-- a list comprehension's turns, what it unpacks let go -/
theorem compLoop_any {elt target iter : Expr} {ifs : List Expr} {scope : Scope} {pos : Pos} {it acc : Value} {env : Env} (I : Nat → Shared → Prop)
    (turn : ∀ n s, I n s → ∀ Ex : Value → Shared → Prop, wpAny (model prog w) A (pyNext it) (fun r s₁ => r = none ∧ R (.ok .next) s₁) Ex s ∨ wpAny (model prog w) A (pyNext it) (fun r s₁ => wSome r fun v =>
        wpAny (model prog w) A (letOwnedTupleGo target it v) (fun _ s₀ => wpAny (model prog w) A (assign target env v) (fun _ s₂ =>
          wpAny (model prog w) A (forIn ifs true fun c r => if r = true then do let ok ← isTrue c env (eval c env); pure (ForInStep.yield ok) else pure (ForInStep.yield r)) (fun ok s₃ =>
            wIf ok (wpAny (model prog w) A (eval elt env) (fun x s₄ => wpAny (model prog w) A (call (.builtin "list.append") [acc, x]) (fun _ s₅ => ∃ m, m < n ∧ I m s₅) Ex s₄) Ex s₃) (∃ m, m < n ∧ I m s₃)) Ex s₂) Ex s₀) Ex s₁) Ex s)
    (n : Nat) (h : I n s) : codeAny (model prog w) A (.compLoop (.ListComp elt [⟨target, iter, ifs, 0⟩] scope pos) 0 it acc env) R s := by
  refine codeAny_loop rfl I (fun n s hI => ?_) n h
  show wpAny _ A ((compTurn (.ListComp elt [⟨target, iter, ifs, 0⟩] scope pos) 0 it acc env).onRaise (fun x => do noteFrame x env; theTreesLotGoes x)) _ _ s
  refine wpAny_noted ?_
  rw [compTurn_list]
  refine wpAny_bind (wpAny_standAt (wpAny_bind ((turn n s hI _).elim (fun ht => wpAny_mono ht (fun r s₁ h₁ => ?_) fun _ _ h' => h') fun ht => wpAny_mono ht (fun r s₁ h₁ => ?_) fun _ _ h' => h')))
  · rw [h₁.1]; exact wpAny_pure h₁.2
  · refine wSome.k h₁ fun v e h₁ => ?_
    subst e
    refine wpAny_bind (wpAny_mono h₁ (fun _ s₀ h₀ => wpAny_bind (wpAny_mono h₀ (fun _ s₂ h₂ => wpAny_bind (wpAny_mono h₂ (fun ok s₃ h₃ => ?_) fun _ _ h' => h')) fun _ _ h' => h')) fun _ _ h' => h')
    cases ok with
    | false => exact wpAny_pure ⟨rfl, h₃⟩
    | true => exact wpAny_bind (wpAny_bind (wpAny_mono h₃ (fun x s₄ h₄ => wpAny_bind (wpAny_mono h₄ (fun _ s₅ h₅ => wpAny_pure (wpAny_pure ⟨rfl, h₅⟩)) fun _ _ h' => h')) fun _ _ h' => h'))
end
end Mine

end
section
set_option autoImplicit false
set_option linter.unusedVariables false
set_option linter.unusedSimpArgs false
namespace Mine
open PySem PySem.Calls PyProof.Rows

section
variable {X : Fix} {C : Ctx} {n : Nat} {sc : Scope} {ns : List Str} {io own : Addr → Prop} {St : Nat → Heap → Prop} {w₀ : Ws} {D : Addr} {i : Nat} {acc : List V} {ρ ρ' : Env'} {H H' : Hp}
/-- a point between two turns of a comprehension whose frame is that of `P`, begun at `P₀` -/
structure Cx (P₀ : Pt X n) (P : Fp X n sc ns) (D : Addr) (io : Addr → Prop) (St : Nat → Heap → Prop) (i : Nat) (acc : List V) (ρ : Env') (H : Hp) where
  φ : List Addr
  h : Heap
  tk : Nat
  ys : List Value
  k : Nat
  R : SR X.W ⟨φ, h⟩ H
  F : FR X.W P.env ns ρ ⟨φ, h⟩
  S : Stp Nope P₀.w ⟨φ, h⟩
  kp : Kp P.w ⟨φ, h⟩
  st : St i h
  hio : ∀ a, io a → Ap X.W ⟨φ, h⟩ a
  aD : Ap X.W ⟨φ, h⟩ D
  hD : h.get? D = some (lstObj ys k)
  ra : RepL X.W.scr ⟨φ, h⟩ acc ys
  fr : Frs X.W P.A ⟨φ, h⟩
/-- the things of a comprehension: not there at its start, none of them the frame's but its names -/
structure Cn (P₀ : Pt X n) (P : Fp X n sc ns) (D : Addr) (io : Addr → Prop) : Prop where
  new : ∀ a, a = P.env.locals ∨ a = D ∨ io a → P₀.s.heap.get? a = none
  ne : ∀ a, InF P.env a → a ≠ D ∧ ¬ io a
  D : ¬ io D
variable {P₀ : Pt X n} {P : Fp X n sc ns}
abbrev Cx.w (c : Cx P₀ P D io St i acc ρ H) : Ws := ⟨c.φ, c.h⟩
abbrev Cx.s (c : Cx P₀ P D io St i acc ρ H) : Shared := upd P.s c.h c.tk
abbrev Cx.fp (c : Cx P₀ P D io St i acc ρ H) : Fp X n sc ns := ⟨⟨P.A, c.φ, H, c.s, P.rm, c.R, c.fr⟩, P.env, ρ, P.kd, c.F, P.hf⟩
theorem Stp.late {p q r : Ws} (S : Stp Nope p q) (T : Stp own q r) (h : ∀ a, own a → p.h.get? a = none) : Stp Nope p r := Stp.ow (S.nil.trans T) fun a ha => .inr (h a ha)
/-- the list and the iterator are not touched -/
abbrev Cx.step (c : Cx P₀ P D io St i acc ρ H) (z : Cn P₀ P D io) (it : ∀ i h h', St i h → (∀ a, io a → ∀ o, h.get? a = some o → h'.get? a = some o) → St i h') (lv : ∀ i h, St i h → ∀ a, io a → ∃ o, h.get? a = some o ∧ isD o = false) (N : Sx c.fp (· = P.env.locals) ρ' H') : Cx P₀ P D io St i acc ρ' H' :=
  have hl : ∀ {a}, InF P.env a → a = D ∨ io a → False := fun ha h => h.elim (z.ne _ ha).1 (z.ne _ ha).2
  { φ := N.φ, h := N.h, tk := N.tk, ys := c.ys, k := c.k, R := N.R, F := N.F, S := c.S.late N.S fun a ha => z.new a (.inl ha), kp := c.kp.trans N.S.kp
    st := it _ _ _ c.st fun a ha o e => N.S.same e (c.hio a ha).1 (fun ho => (hl (.inl ho) (.inr ha)).elim) (liv_nd lv c.st ha e)
    hio := fun a ha => ⟨(lv _ _ c.st a ha).elim fun o e => N.S.notMem e.1 (c.hio a ha).1, (c.hio a ha).2⟩
    aD := ⟨N.S.notMem c.hD c.aD.1, c.aD.2⟩
    hD := N.S.same c.hD c.aD.1 (fun ho => (hl (.inl ho) (.inl rfl)).elim) rfl
    ra := c.ra.mono N.S, fr := c.fr.stp N.S }
/-- the next item -/
abbrev Cx.item {h' : Heap} (c : Cx P₀ P D io St i acc ρ H) (z : Cn P₀ P D io) (R : SR X.W ⟨c.φ, h'⟩ H) (S : Stp io c.w ⟨c.φ, h'⟩) (st : St (i + 1) h') (tk : Nat) : Cx P₀ P D io St (i + 1) acc ρ H :=
  { φ := c.φ, h := h', tk := tk, ys := c.ys, k := c.k, R := R, F := c.F.mono S fun a ha => (z.ne a ha).2, S := c.S.late S fun a ha => z.new a (.inr (.inr ha)), kp := c.kp.trans S.kp, st := st, hio := c.hio, aD := c.aD, hD := S.same c.hD c.aD.1 (fun ho => absurd ho z.D) rfl, ra := c.ra.mono S, fr := c.fr.stp S }
/-- one more -/
abbrev Cx.app {h' : Heap} {v : V} {x : Value} {k : Nat} (c : Cx P₀ P D io St i acc ρ H) (z : Cn P₀ P D io) (it : ∀ i h h', St i h → (∀ a, io a → ∀ o, h.get? a = some o → h'.get? a = some o) → St i h') (r : Rep X.W.scr c.w v x) (hD : h'.get? D = some (lstObj (c.ys ++ [x]) k)) (e : Heap.ExtBut D c.h h') (tk : Nat) : Cx P₀ P D io St i (acc ++ [v]) ρ H :=
  have hc : Ch (· = D) c.h h' := .but e fun o e' => by rw [c.hD] at e'; cases e'; exact fz_cls (nm := "list") rfl rfl rfl
  { φ := c.φ, h := h', tk := tk, ys := c.ys ++ [x], k := k, R := c.R.ch (p := c.w) (io := (· = D)) (fun a ha => ha ▸ c.aD) hc, F := c.F.ch (p := c.w) hc fun a ha e => (z.ne a ha).1 e, S := Stp.ch (q := c.w) c.S hc fun a ha => .inl (z.new a (.inr (.inl ha))), kp := c.kp.trans hc.kp
    st := it _ _ _ c.st fun a ha o e' => e a o (fun e => z.D (e ▸ ha)) e', hio := c.hio, aD := c.aD, hD := hD, ra := (c.ra.append (.one r)).kp hc.kp, fr := c.fr.ch hc fun a o ha e => by rw [ha, c.hD] at e; cases e; rfl }

theorem app_snd {v : V} {x : Value} {Q Ex : Value → Shared → Prop} (c : Cx P₀ P D io St i acc ρ H) (z : Cn P₀ P D io) (it : ∀ i h h', St i h → (∀ a, io a → ∀ o, h.get? a = some o → h'.get? a = some o) → St i h') (r : Rep X.W.scr c.w v x) (hz : acc.length ≤ sizeLine) (k : ∀ c' : Cx P₀ P D io St i (acc ++ [v]) ρ H, Q .none c'.s) : wpAny X.M P.A (call (.builtin "list.append") [.ref D, x]) Q Ex c.s :=
  wpAny_list_append_plain (items := c.ys.toArray) ⟨c.k, c.hD⟩ (fun h6 hp6 hs6 => hp6.elim fun k6 hD6 => k (c.app z it r (k := k6) (by rw [hD6, List.push_toArray]) hs6.extBut c.tk)) (by rw [List.size_toArray, ← c.ra.length]; exact hz)
/-- what holds between two turns -/
inductive CTurn (P₀ : Pt X n) (P : Fp X n sc ns) (C : Ctx) (H₀ : Hp) (ws : List Nat) (us : List V) (QQ : List V → Hp → Prop) (D : Addr) (io : Addr → Prop) (St : Nat → Heap → Prop) (t : Tgt) (cs : List E) (elt : E) (j : Nat) (s' : Shared) : Prop
  | mk (i : Nat) (ρ : Env') (H : Hp) (acc : List V) (c : Cx P₀ P D io St i acc ρ H) (e : s' = c.s) (ej : j = (us.drop i).length + 1) (hw : stands ws H₀ H = true) (hal : acc.length + (us.drop i).length ≤ us.length) (p : compW ws H₀ t (fun ρ H Q => WT C.no cs ρ H Q) (fun ρ H Q => WE C.no elt ρ H Q) (us.drop i) ρ H acc QQ) : CTurn P₀ P C H₀ ws us QQ D io St t cs elt j s'
theorem compTurns {elt : E} {t : Tgt} {cs : List E} {e tg iter : Expr} {ifs : List Expr} {sc' : Scope} {pos : Pos} {H₀ : Hp} {ws : List Nat} {us : List V} {QQ : List V → Hp → Prop} {I : Addr} {RR : Result → Shared → Prop} (z : Cn P₀ P D io)
    (hown : OwnN P.env (· = P.env.locals) (tNames t tg)) (ht : chkT sc ns t tg = true) (helt : EvS X C.no n sc ns elt e) (hifs : LsS X C.no n sc ns cs ifs) (it : Itr X n tg P.w H₀ ws us I io St) (c0 : Cx P₀ P D io St 0 [] P.ρ P.H) (e0 : c0.s = P.s) (hw : stands ws H₀ P.H = true) (hlen : us.length < 16000000)
    (p : compW ws H₀ t (fun ρ H Q => WT C.no cs ρ H Q) (fun ρ H Q => WE C.no elt ρ H Q) us P.ρ P.H [] QQ)
    (fin : ∀ vs H φ h tk ρ ys k, QQ vs H → vs.length < 16000000 → SR X.W ⟨φ, h⟩ H → Stp Nope P₀.w ⟨φ, h⟩ → FR X.W P.env ns ρ ⟨φ, h⟩ → h.get? D = some (lstObj ys k) → RepL X.W.scr ⟨φ, h⟩ vs ys → D ∉ φ → RR (.ok .next) (upd P.s h tk)) :
    codeAny X.M P.A (.compLoop (.ListComp e [⟨tg, iter, ifs, 0⟩] sc' pos) 0 (.ref I) (.ref D) P.env) RR P.s := by
  refine compLoop_any (CTurn P₀ P C H₀ ws us QQ D io St t cs elt) (fun j s' w Ex => w.casesOn fun i ρ H acc c e ej hw hal p' => ?_) (us.length + 1) ⟨0, P.ρ, P.H, [], c0, e0.symm, by rw [List.drop_zero], hw, by rw [List.drop_zero]; exact Nat.le_of_eq (Nat.zero_add _), by rw [List.drop_zero]; exact p⟩
  subst e ej
  cases hv : us[i]? with
  | none =>
    refine .inl (it.done c.fp.toPt i _ _ c.kp hw c.st c.hio hv fun h2 tk2 ch => ⟨rfl, ?_⟩)
    rw [List.drop_eq_nil_iff.mpr (List.getElem?_eq_none_iff.mp hv)] at p' hal
    exact fin acc H c.φ h2 tk2 ρ c.ys c.k p' (Nat.lt_of_le_of_lt hal hlen) (c.R.ch (p := c.w) c.hio ch) (Stp.ch (q := c.w) c.S ch fun a ha => .inl (z.new a (.inr (.inr ha)))) (c.F.ch (p := c.w) ch fun a ha => (z.ne a ha).2) (ch _ _ c.hD fun ho => absurd ho z.D) (c.ra.kp ch.kp) c.aD.1
  | some v =>
    have hd := drop_cons hv
    rw [hd] at p' hal
    refine wSome.k p' fun ρ2 ha p' => ?_
    refine .inr (it.item c.fp.toPt i v _ _ _ c.kp hw c.st c.hio hv fun h2 tk2 y R2 S2 st2 r2 => ?_)
    refine asg_snd t tg (c.item z R2 S2 st2 tk2).fp v y ρ2 _ _ ht hown r2 ha fun N3 => ?_
    have lt : (us.drop (i + 1)).length + 1 < (us.drop i).length + 1 := by rw [hd]; exact Nat.lt_succ_self _
    exact hifs.tst ((c.item z R2 S2 st2 tk2).step z it.keep it.live N3).fp _ _ _ p' (fun b H4 p4 N4 => by
      cases b with
      | false => exact ⟨_, lt, i + 1, ρ2, H4, acc, ((c.item z R2 S2 st2 tk2).step z it.keep it.live N3).step z it.keep it.live N4.sx, rfl, rfl, p4.1, Nat.le_of_succ_le hal, p4.2⟩
      | true =>
        refine helt (((c.item z R2 S2 st2 tk2).step z it.keep it.live N3).step z it.keep it.live N4.sx).fp _ _ _ p4 (fun y5 H5 p5 N5 x5 r5 => ?_) (.false _)
        exact app_snd ((((c.item z R2 S2 st2 tk2).step z it.keep it.live N3).step z it.keep it.live N4.sx).step z it.keep it.live N5.sx) z it.keep r5 (Nat.le_trans (Nat.le_of_lt (Nat.lt_of_le_of_lt (Nat.le_trans (Nat.le_add_right _ _) hal) hlen)) (by decide)) fun c' => ⟨_, lt, i + 1, ρ2, H5, acc ++ [y5], c', rfl, rfl, p5.1, by rw [List.length_append, Nat.add_assoc, Nat.add_comm [y5].length]; exact hal, p5.2⟩) (.false _)
end
section
variable {X : Fix} {C : Ctx} {n : Nat} {sc cs' : Scope} {ns loc : List Str} {Ex : Value → Shared → Prop} {elt : E} {t : Tgt} {it : It} {cs : List E} {e tg iter : Expr} {ifs : List Expr}
/-- all that is said of a comprehension's text -/
structure CompOk (X : Fix) (C : Ctx) (n : Nat) (sc : Scope) (ns : List Str) (cs' : Scope) (loc : List Str) (elt : E) (t : Tgt) (it : It) (cs : List E) (e tg iter : Expr) (ifs : List Expr) : Prop where
  c : CompSc sc ns loc cs'
  hl : tNames t tg = loc
  ht : chkT cs' (loc ++ ns) t tg = true
  hg : tgOk it tg = true
  hi : ItS X C n sc ns it iter
  he : EvS X C.no n cs' (loc ++ ns) elt e
  hs : LsS X C.no n cs' (loc ++ ns) cs ifs
/-- the loop of a comprehension, its list at `D` and its names at `B` -/
theorem comp_loop {pos : Pos} {QQ : List V → Hp → Prop} {H1 : Hp} {q : List V × List Nat} {I D B : Addr} {io : Addr → Prop} {St : Nat → Heap → Prop} {h₂ : Heap} {cl : List (Str × Addr)} {RR : Result → Shared → Prop} (k : CompOk X C n sc ns cs' loc elt t it cs e tg iter ifs) (P : Fp X n sc ns) (N : Nx P.toPt H1)
    (hcl : ∀ p, p ∈ cl → P.env.cells.lookup p.1 = some p.2) (hcf : ∀ x, (x, NameKind.free) ∈ cs'.names → ∃ c, (x, c) ∈ cl) (it1 : Itr X n tg N.w H1 q.2 q.1 I io St) (st1 : St 0 N.h) (hio : ∀ a, io a → Ap X.W N.w a ∧ P.s.heap.get? a = none)
    (hD : N.h.get? D = none) (hB : N.h.get? B = none) (hBD : B ≠ D) (old : Ext N.h h₂) (gD : h₂.get? D = some (lstObj [] 0)) (hns : h₂.Ns B fun _ => none) (hz : szOk q.1 = true)
    (p1 : compW q.2 H1 t (fun ρ H Q => WT C.no cs ρ H Q) (fun ρ H Q => WE C.no elt ρ H Q) q.1 (List.replicate loc.length none ++ P.ρ) H1 [] QQ)
    (fin : ∀ vs H φ h tk ys j m, QQ vs H → vs.length < 16000000 → SR X.W ⟨φ, h⟩ H → Stp Nope P.w ⟨φ, h⟩ → h.get? D = some (lstObj ys j) → RepL X.W.scr ⟨φ, h⟩ vs ys → D ∉ φ → Ap X.W ⟨φ, h⟩ B → h.Ns B m → RR (.ok .next) (upd P.s h tk)) :
    codeAny X.M P.A (.compStart (.ListComp e [⟨tg, iter, ifs, 0⟩] cs' pos) 0 (.ref I) (.ref D) (compEnvC cs' cl B P.env)) RR (upd P.s h₂ N.tk) := by
  have lv : ∀ {a}, io a → N.h.get? a = none → False := fun ha hn => (it1.live _ _ st1 _ ha).elim fun o e => none_some hn e.1
  have st2 := it1.keep _ _ _ st1 fun a _ o e => old a o e
  have F := k.c.frame (cl := cl) (P.to N) hcl hcf hB old hns
  have S : Stp Nope P.w ⟨N.φ, h₂⟩ := Stp.ext (q := N.w) N.S old
  have R := SR.ext (p := N.w) N.R old
  have aD : Ap X.W ⟨N.φ, h₂⟩ D := N.R.new (p := N.w) hD
  have loop := compTurns (iter := iter) (sc' := cs') (pos := pos) (P₀ := P.toPt) (P := ⟨⟨P.A, N.φ, H1, upd P.s h₂ N.tk, P.rm, R, P.fr.stp S⟩, compEnvC cs' cl B P.env, List.replicate loc.length none ++ P.ρ, comp_kinds, F, P.hf⟩) (D := D) (RR := RR)
    ⟨fun a ha => ha.elim (fun e => N.S.dead (e ▸ hB)) fun ha => ha.elim (fun e => N.S.dead (e ▸ hD)) fun ha => (hio a ha).2, fun a ha => ha.elim (fun e => ⟨fun e' => hBD (e.symm.trans e'), fun h => lv h (e ▸ hB)⟩) fun w => w.elim fun y hy => (P.F.live _ (inF (hcl _ (mem_lookup hy)))).elim fun o x => ⟨fun e => none_some (N.S.dead (e ▸ hD)) x, fun h => none_some (hio _ h).2 x⟩, fun h => lv h hD⟩
    (fun x hx => .inl ⟨lookup_relabel_local (k.c.loc_ x (k.hl ▸ hx)), rfl⟩) k.ht k.he k.hs (it1.from (Stp.ext (own := Nope) (p := N.w) (q := N.w) .refl old).kp) ⟨N.φ, h₂, N.tk, [], 0, R, F, S, .refl, st2, fun a ha => (hio a ha).1, aD, gD, .nil, P.fr.stp S⟩ rfl (stands_self _ _) (of_decide_eq_true hz) p1
    fun vs H φ h tk ρ ys j q hl R S F hD r hn => F.loc.elim fun m hm => fin vs H φ h tk ys j m q hl R S hD r hn (F.ap _ (.inl rfl)) hm.1
  exact codeAny_compStart_list loop (it1.self P.A _ _ _ st2 loop)
theorem comp_core {pos p0 : Pos} {use : Option (Value → Sem Unit)} {Q : Value → Shared → Prop} {QQ : List V → Hp → Prop} (k : CompOk X C n sc ns cs' loc elt t it cs e tg iter ifs) (P : Fp X n sc ns)
    (p : WIt C it P.ρ P.H fun p H => wOk (szOk p.1) (compW p.2 H t (fun ρ H Q => WT C.no cs ρ H Q) (fun ρ H Q => WE C.no elt ρ H Q) p.1 (List.replicate loc.length none ++ P.ρ) H [] QQ)) (kx : Kn P.toPt (C.exc P.ρ) Ex)
    (fin : ∀ vs H φ h tk D B ys j m, QQ vs H → vs.length < 16000000 → SR X.W ⟨φ, h⟩ H → Stp Nope P.w ⟨φ, h⟩ → h.get? D = some (lstObj ys j) → RepL X.W.scr ⟨φ, h⟩ vs ys → D ∉ φ → P.s.heap.get? D = none → Ap X.W ⟨φ, h⟩ B → P.s.heap.get? B = none → B ≠ D → h.Ns B m → compPost X.M P.A Ex use Q (.ref D) B (.ok .next) (upd P.s h tk)) :
    wpAny X.M P.A (comprehension (.ListComp e [⟨tg, iter, ifs, 0⟩] cs' pos) cs' P.env p0 (newList []) false (eval iter P.env) use) Q Ex P.s := by
  refine clos_go (env := P.env) cs'.names [] (fun _ h => nomatch h) (fun q hq hk => ?_) fun cl hcl hcl1 _ hcl2 => ?_
  · have := k.c.all q hq
    rw [hk] at this
    exact (P.F.cel _ this.1 (kd_cell P this.2.2)).imp fun c w => w.elim fun _ w => w.1
  refine wpAny_comprehension_free (cl := cl) rfl (k.hi.1 P.env) (by unfold closureFor; rw [bind_pure]; exact hcl) k.c.kind (fun x hx hl => lookup_nodup k.c.nodup (by rw [← hl]; exact hx)) (k.hi.2 P tg _ _ Ex k.hg p (fun q H1 p1 N I io St it1 st1 hio => wOk.k p1 fun hz p1 => ?_) kx)
  refine wpAny_newObj_type (wpAny_newFunctionEnv (fun x hx hk => by have := k.c.all x hx; rw [hk] at this; exact this) (fun y hy => nomatch hy) (fun h₂ hns hsb => ?_) k.c.kind)
  have sz : (N.h.push { cls := .type "list", data := .seq #[] }).objs.size = N.h.objs.size + 1 := Heap.size_push _ _
  have old2 : Ext (N.h.push { cls := .type "list", data := .seq #[] }) h₂ := fun a o e => hsb.extBut a o (Nat.ne_of_lt (Heap.lt_size e)) (Heap.get?_push_of_some _ e)
  have hD := none_size N.h (Nat.le_refl N.h.objs.size)
  have hB : N.h.get? (N.h.push { cls := .type "list", data := .seq #[] }).objs.size = none := none_size N.h (by rw [sz]; exact Nat.le_succ _)
  have hBD : (N.h.push { cls := .type "list", data := .seq #[] }).objs.size ≠ N.h.objs.size := by rw [sz]; exact Nat.succ_ne_self _
  exact comp_loop (D := N.h.objs.size) k P N hcl1 hcl2 it1 st1 hio hD hB hBD (fun a o e => old2 a o (Heap.get?_push_of_some _ e)) (old2 _ _ (Heap.get?_push_size _ rfl)) hns hz p1 fun vs H φ h tk ys j m q hl R S hg r hn aB hm => fin vs H φ h tk _ _ ys j m q hl R S hg r hn (N.S.dead hD) aB (N.S.dead hB) hBD hm
/-- a list becomes a cell -/
abbrev Pt.adoptL {P : Pt X n} {H : Hp} {φ : List Addr} {h : Heap} {D : Addr} {ys : List Value} {j : Nat} {vs : List V} (R : SR X.W ⟨φ, h⟩ H) (S : Stp Nope P.w ⟨φ, h⟩) (hg : h.get? D = some (lstObj ys j)) (r : RepL X.W.scr ⟨φ, h⟩ vs ys) (hn : D ∉ φ) (hD : P.s.heap.get? D = none) (hl : vs.length < 16000000) (tk : Nat) : Nx P (H ++ [.list vs]) :=
  ⟨φ ++ [D], h, tk, SR.adopt (p := ⟨φ, h⟩) R ⟨hn, (P.R.new (p := P.w) hD).2⟩ (fun o x => by rw [hg] at x; cases x; exact fz_cls (nm := "list") rfl rfl rfl) (.list hg r (Nat.le_of_lt hl)), Stp.adopt (q := ⟨φ, h⟩) S hD⟩
theorem rep_new {H : Hp} {φ : List Addr} {h : Heap} {D : Addr} (R : SR X.W ⟨φ, h⟩ H) : Rep X.W.scr ⟨φ ++ [D], h⟩ (.ref H.length) (.ref D) := .ref (by rw [← R.len, List.getElem?_append_right (Nat.le_refl _), Nat.sub_self]; rfl)
theorem ch_ns {h h' : Heap} {B : Addr} {m : Str → Option Value} (hm : h.Ns B m) (e : Heap.SameBut B h h') : Ch (· = B) h h' := .but e.extBut fun o x => hm.elim fun o' w => w.elim fun _ w => w.elim fun _ w => by rw [w.1] at x; cases x; exact fz_dict w.2.1
theorem comp_snd {pos : Pos} (k : CompOk X C n sc ns cs' loc elt t it cs e tg iter ifs) : EvS X C n sc ns (.comp loc.length elt t it cs) (.ListComp e [⟨tg, iter, ifs, 0⟩] cs' pos) := fun P post Q Ex p kq kx => by
  rw [eval_ListComp]
  exact comp_core k P p kx fun vs H φ h tk D B ys j m q hl R S hg r hn hD aB hB hBD hm => ⟨m, hm, fun h3 hs3 =>
    have c : Ch (· = B) h h3 := ch_ns hm hs3
    have R3 := SR.ch (p := ⟨φ, h⟩) (io := (· = B)) R (fun a ha => ha ▸ aB) c
    kq _ _ q (Pt.adoptL R3 (Stp.ch (q := ⟨φ, h⟩) S c fun a ha => .inl (ha ▸ hB)) (c _ _ hg fun e => absurd e.symm hBD) (r.kp c.kp) hn hD hl tk) _ (rep_new R3)⟩
theorem asgComp_snd {u : Tgt} {y : Str} {py cpos pos : Pos} (k : CompOk X C n sc ns cs' loc elt t it cs e tg iter ifs) (hu : chkT sc ns u (.Name y py) = true) : SS X C n sc ns (.asg u (.comp loc.length elt t it cs)) (.Assign [.Name y py] (.ListComp e [⟨tg, iter, ifs, 0⟩] cs' cpos) pos) := fun P own K Q Ex ho p kq kx => by
  have hsw : ∃ b, swapsWith (.ListComp e [⟨tg, iter, ifs, 0⟩] cs' cpos) (some (.Name y py)) pos.line P.env = pure b := ⟨_, rfl⟩
  obtain ⟨b, hsw⟩ := hsw
  cases b with
  | false => exact asg_at hsw hu rfl (comp_snd k) ho p kq kx
  | true =>
    rw [exec_Assign_Name_used _ _ _ _ hsw]
    refine wpAny_bind (wpAny_standAt (wpAny_bind ?_))
    show wpAny _ P.A (do let _ ← comprehension (.ListComp e [⟨tg, iter, ifs, 0⟩] cs' cpos) cs' P.env _ (newList []) false (eval iter P.env) (some (assign (.Name y py) P.env))) _ _ P.s
    refine wpAny_bind (wpAny_mono (Q := fun _ s' => Q .next s') ?_ (fun _ s' hq => wpAny_pure (wpAny_pure hq)) fun _ _ e => e)
    exact comp_core k P p kx.kn fun vs H φ h tk D B ys j m q hl R S hg r hn hD aB hB hBD hm => wSome.k q fun ρ' ha q => by
      refine asg_snd (own := own) u (.Name y py) (P.to (Pt.adoptL R S hg r hn hD hl tk)) (.ref H.length) (.ref D) ρ' _ _ hu (fun x hx => ho.1 x (tNames_sub u _ hu x hx)) (rep_new R) ha fun N => ?_
      have aB' : B ∉ φ ++ [D] := fun hm => (List.mem_append.mp hm).elim aB.1 fun h => hBD (List.mem_singleton.mp h)
      have hm4 : N.h.Ns B m := Ns_like hm fun o e => N.S.keep _ _ e aB' fun h => (P.F.live _ (ho.2 _ h)).elim fun o e => none_some hB e
      have aB4 : Ap X.W N.w B := ⟨hm.elim fun o w => w.elim fun _ w => w.elim fun _ w => N.S.notMem w.1 aB', aB.2⟩
      exact ⟨m, hm4, fun h5 hs5 => (Sx.ch ((Nx.sx (P := P) (Pt.adoptL R S hg r hn hD hl tk)).then N) (ch_ns hm4 hs5) (fun a ha => ha ▸ aB4) (fun a ha => ha ▸ hB) N.tk).elim fun N' e => by
        have := kq.next _ _ q N'
        rw [show N'.s = upd P.s N'.h N'.tk from rfl, e.2.1, e.2.2] at this
        exact this⟩
end
end Mine

end
section
set_option autoImplicit false
set_option linter.unusedVariables false
set_option linter.unusedSimpArgs false
namespace Mine
open PySem PySem.Calls PyProof.Rows

theorem slice_bounds (lo hi : Option Int) (n : Nat) : sliceBounds lo hi none n = (((sliceEnd n 0 lo : Nat) : Int), ((sliceEnd n n hi : Nat) : Int), 1) := by
  have key : ∀ (k : Option Int) (d : Nat), (match k with | none => (d : Int) | some i => if (1 : Int) > 0 then max 0 (min (if i < 0 then i + n else i) n) else max (-1) (min (if i < 0 then i + n else i) ((n : Int) - 1))) = ((sliceEnd n d k : Nat) : Int) := fun k d => by
    cases k with
    | none => rfl
    | some k => exact (Int.toNat_of_nonneg (Int.le_max_left _ _)).symm
  exact Prod.ext (key lo 0) (Prod.ext (key hi n) rfl)
theorem slicePick_eq (xs : List Value) (lo hi : Option Int) : slicePick xs.toArray lo hi none = (pySlice xs lo hi).toArray := by
  unfold slicePick pySlice
  rw [List.size_toArray, slice_bounds]
  show ((sliceRange _ _ 1).filterMap _).toArray = _
  rw [sliceRange_one, pick_run, List.drop_take]
section
variable {X : Fix} {C : Ctx} {n : Nat} {sc : Scope} {ns : List Str} {A : Around} {Ex : Value → Shared → Prop} {s : Shared}
theorem RepL.slice {scr : Addr} {p : Ws} {vs : List V} {xs : List Value} (r : RepL scr p vs xs) (lo hi : Option Int) : RepL scr p (pySlice vs lo hi) (pySlice xs lo hi) := by
  unfold pySlice
  rw [r.length]
  exact (r.take _).drop _
theorem slicePart_of {v : Value} {k : Option Int} {Q : Option Int → Shared → Prop} (hv : IsPart v k) (h : Q k s) : wpAny X.M A (Builtin.Slice.slicePartIndex v) Q Ex s := by
  cases hv with
  | none => exact slicePart_none h
  | int i t => exact slicePart_int h
/-- t[:b] of a tuple -/
theorem getItem_tuple_to {t sl : Addr} {xs : List Value} {b : Nat} {u : Tok} {Q : Value → Shared → Prop} (ht : IsTup s.heap t xs.toArray) (hs : s.heap.IsSliceOf sl .none (.int b u) .none) (hz : xs.length ≤ sizeLine)
    (h : b < xs.length → Q (.ref s.heap.objs.size) { s with heap := s.heap.push (tupObj (xs.take b) 0) }) (h' : xs.length ≤ b → Q (.ref t) s) : wpAny X.M A (getItem (.ref t) (.ref sl)) Q Ex s := by
  have hsz : sizeOk (.seq (xs.take b).toArray) := by
    show (xs.take b).toArray.size ≤ sizeLine
    rw [List.size_toArray, List.length_take]; (first | lia | omega)
  obtain ⟨os, hos, hcs, hds⟩ := id hs
  have hTs : s.TypeIs (.ref sl) "slice" := ⟨os, hos, hcs⟩
  unfold getItem
  try with_reducible refine wpAny_holding ?_
  first | refine wpAny_bind (wpAny_pure ?_) | skip
  refine wpAny_bind (wpAny_sequenceKey ht.typeIs (by decide) (wpAny_bind (wpAny_callSpecial?_slot (name := Str.ofString "__getitem__") ht.typeIs slot_tuple_getitem
    (wpAny_call_entry slot_tuple_getitem ht.typeIs entry_tuple_getitem ?_ (args_tuple_getitem _ _)))))
  show wpAny _ _ (Builtin.Tuple.tupleItemsOf (.ref t) >>= _) _ _ s
  refine wpAny_bind (tupleItemsOf_ ht (wpAny_bind (wpAny_typeOf hTs ?_)))
  rw [if_pos (by decide)]
  refine wpAny_bind ?_
  unfold Builtin.Slice.sliceApplied Builtin.Slice.sliceFields
  refine wpAny_bind (wpAny_bind (wpAny_field hos hds (x := .none) rfl (wpAny_bind (wpAny_field hos hds (x := .int b u) rfl (wpAny_bind (wpAny_field hos hds (x := .none) rfl (wpAny_pure (wpAny_bind (slicePart_none ?_)))))))))
  show wpAny _ _ (if ((1 : Int) == 0) = true then _ else _) _ _ s
  rw [if_neg (by decide)]
  refine wpAny_bind (slicePart_none (wpAny_bind (slicePart_int (wpAny_bind (wpAny_pure ?_)))))
  obtain ⟨m, hm⟩ : ∃ m, m = min b xs.length := ⟨_, rfl⟩
  have e1 : Builtin.Slice.sliceAdjust none (some (b : Int)) 1 ((xs.toArray.size : Nat) : Int) = (0, (m : Int)) := by
    show ((0 : Int), (if (b : Int) < 0 then max ((b : Int) + (xs.toArray.size : Nat)) 0 else min (b : Int) (xs.toArray.size : Nat))) = _
    rw [List.size_toArray, if_neg (by (first | lia | omega))]
    exact Prod.ext rfl (show min (b : Int) xs.length = m by (first | lia | omega))
  have e2 : Builtin.Slice.slicePlaces 0 (m : Int) 1 = m := by
    show ((if (0 : Int) < m then ((m : Int) - 0 - 1) / 1 + 1 else 0) : Int).toNat = m
    rw [Int.ediv_one]; split <;> (first | lia | omega)
  show wpAny _ _ (match Builtin.Slice.sliceAdjust none (some (b : Int)) 1 ((xs.toArray.size : Nat) : Int) with | (lo, hi) => pure (lo, (1 : Int), Builtin.Slice.slicePlaces lo hi 1)) _ _ s
  rw [e1]
  show wpAny _ _ (pure ((0 : Int), (1 : Int), Builtin.Slice.slicePlaces (0 : Int) (m : Int) 1)) _ _ s
  rw [e2]
  refine wpAny_pure ?_
  have hpick : ((List.range m).filterMap fun (k : Nat) => xs.toArray[((0 : Int) + (k : Int) * 1).toNat]?).toArray = (xs.take m).toArray := by
    have e : (fun (k : Nat) => xs.toArray[((0 : Int) + (k : Int) * 1).toNat]?) = (fun x => xs.toArray[x]?) ∘ fun k => 0 + k := funext fun k => by
      show xs.toArray[((0 : Int) + (k : Int) * 1).toNat]? = xs.toArray[0 + k]?
      rw [show ((0 : Int) + (k : Int) * 1).toNat = 0 + k by (first | lia | omega)]
    rw [e, ← List.filterMap_map, pick_run]
    rfl
  show wpAny _ _ (if ((0 : Int) == 0 && (1 : Int) == 1 && m == xs.toArray.size) = true then _ else _) _ _ s
  by_cases hb : b < xs.length
  · have hmb : m = b := by (first | lia | omega)
    subst hmb
    rw [if_neg fun e => absurd (eq_of_beq (Bool.and_eq_true_iff.mp e).2) (by rw [List.size_toArray]; exact Nat.ne_of_lt hb), hpick]
    have h := h hb
    first
      | exact wpAny_bind (m := Builtin.Tuple.tupleExact _) (wpAny_newObj_type (wpAny_pure ⟨_, rfl, wpAny_pure h⟩) hsz)
      | exact wpAny_bind (m := Builtin.Tuple.tupleExact _) (wpAny_newObj_type (wpAny_bind (wpAny_pure (wpAny_pure ⟨_, rfl, wpAny_pure h⟩))) hsz)
      | exact wpAny_bind (wpAny_bind (m := Builtin.Tuple.tupleExact _) (wpAny_newObj_type (wpAny_pure (wpAny_pure ⟨_, rfl, wpAny_pure h⟩)) hsz))
      | exact wpAny_bind (wpAny_bind (m := Builtin.Tuple.tupleExact _) (wpAny_newObj_type (wpAny_pure ⟨_, rfl, wpAny_pure h⟩) hsz))
  · have h := h' (Nat.le_of_not_lt hb)
    have hc : ((0 : Int) == 0 && (1 : Int) == 1 && m == xs.toArray.size) = true := by
      rw [List.size_toArray, show m = xs.length by (first | lia | omega), beq_self_eq_true, beq_self_eq_true, beq_self_eq_true]; rfl
    rw [if_pos hc]
    unfold Builtin.Tuple.tupleIsExact
    refine wpAny_bind (wpAny_bind (wpAny_typeOf ht.typeIs (wpAny_pure ?_)))
    rw [if_pos (by decide)]
    exact wpAny_bind (wpAny_rule (wpAny_pure ⟨_, rfl, wpAny_pure h⟩))
/-- a part of a slice -/
noncomputable def PaS (X : Fix) (C : Ctx) (n : Nat) (sc : Scope) (ns : List Str) (c : Option E) (e : Option Expr) : Prop :=
  ∀ (P : Fp X n sc ns) (post : PQ) (Q Ex : Value → Shared → Prop), WO C c P.ρ P.H post → Kn P.toPt post Q → Kn P.toPt (C.exc P.ρ) Ex → wpAny X.M P.A (evalPart e P.env) Q Ex P.s
theorem pa_none : PaS X C n sc ns none none := fun P post Q Ex p k kx => by rw [evalPart_none]; exact wpAny_pure (k.now p .none P.s.toks)
theorem pa_some {c : E} {e : Expr} (h : EvS X C n sc ns c e) : PaS X C n sc ns (some c) (some e) := fun P post Q Ex p k kx => by rw [evalPart_some]; exact h P post Q Ex p k kx
theorem partOf_spec {v : V} {x : Value} {k : Option Int} {scr : Addr} {p : Ws} (r : Rep scr p v x) (e : partOf v = some k) : IsPart x k := by
  cases v with
  | none => cases e; exact r.inv (fun x => IsPart x _) .none
  | int i => exact ifk e (fun k => IsPart x k) fun _ => r.inv (fun x => IsPart x _) fun t => .int _ _
  | _ => cases e
theorem part_none {v : V} {x : Value} {k : Option Int} {scr : Addr} {p : Ws} (r : Rep scr p v x) (e : partOf v = some k) (h : k.isNone = true) : x = .none := (partOf_spec r e).casesOn (motive := fun x k _ => k.isNone = true → x = .none) (fun _ => rfl) (fun _ _ h => nomatch h) h
theorem RepL.takeOk {vs : List V} {k : Nat} (hz : vs.length ≤ 16000000) : (vs.take k).length ≤ 16000000 := by rw [List.length_take]; (first | lia | omega)
/-- what a slice picks; `P` is the point where the slice has been made -/
theorem slcL_at {P : Pt X n} {us : List V} {xs : List Value} {ad sa : Addr} {v sl : Expr} {z w : Value} {l h : Option Int} {post : PQ} {Q : Value → Shared → Prop} {ops : Value → Value → List Value} (hs : ∀ o i, subscripted sl false o i = operate (ops o i) (getItem o i)) (q : P.s.heap.IsSliceOf sa z w .none) (q1 : IsPart z l) (q2 : IsPart w h) (hL : P.s.heap.IsList ad xs.toArray) (r : RepL X.W.scr P.w us xs) (hz : us.length ≤ 16000000) (p : WAllocL (pySlice us l h) P.H post) (k : Kn P post Q) :
    wpAny X.M P.A (subscriptTail v sl (.ref ad) (.ref sa)) Q Ex P.s := wOk.k p fun hz2 p =>
  tail_any hL.typeIs PySem.slot_list_getitem.lookup (wpAny_getItem_list_slice hL q q1 q2 .none (fun e => nomatch e) (by
    rw [slicePick_eq]
    exact Kn.list k (.push _) _ (none_size _ (Nat.le_refl _)) (Heap.get?_push_size _ rfl) (r.slice l h) (Nat.le_of_lt (of_decide_eq_true hz2)) p P.s.toks) (by rw [List.size_toArray, ← r.length]; unfold sizeLine; (first | lia | omega))) (hs _ _)
theorem slcT_at {P : Pt X n} {us : List V} {sa : Addr} {v sl : Expr} {y z w : Value} {l h : Option Int} {post : PQ} {Q : Value → Shared → Prop} {ops : Value → Value → List Value} (hs : ∀ o i, subscripted sl false o i = operate (ops o i) (getItem o i)) (q : P.s.heap.IsSliceOf sa z w .none) (q1 : IsPart z l) (q2 : IsPart w h) (r : Rep X.W.scr P.w (.tup us) y) (p : wSome h fun k => wOk (l.isNone && decide (0 ≤ k)) (post (.tup (us.take k.toNat)) P.H)) (k : Kn P post Q) :
    wpAny X.M P.A (subscriptTail v sl y (.ref sa)) Q Ex P.s := by
  refine wSome.k p fun j ej p1 => wOk.k p1 fun hj p2 => andk hj fun hl hj => ?_
  have hj1 := of_decide_eq_true hj
  clear p p1 hj
  subst ej
  obtain ⟨m, rfl⟩ := Int.eq_ofNat_of_zero_le hj1
  cases q1 with
  | int i t => cases hl
  | none =>
    cases q2 with
    | int i t =>
      exact r.inv (fun y => wpAny X.M P.A (subscriptTail v sl y (.ref sa)) Q Ex P.s) fun a n' xs h1 h2 h3 h4 =>
        tail_any (isTup_of h1).typeIs slot_tuple_getitem.lookup (getItem_tuple_to (isTup_of h1) q (by rw [← h2.length]; unfold sizeLine; (first | lia | omega))
          (fun _ => k _ _ p2 (P.ext (.push _) P.s.toks) _ (.tup (n := 0) (Heap.get?_push_size _ rfl) ((h2.take m).mono (P.ext (.push _) P.s.toks).S) (RepL.takeOk h3) (P.R.new (p := P.w) (none_size _ (Nat.le_refl _))).1)) fun hb => by
            rw [show us.take ((m : Nat) : Int).toNat = us from List.take_of_length_le (by rw [h2.length]; exact hb)] at p2
            exact k.now p2 (.tup (n := n') h1 h2 h3 h4) P.s.toks) (hs _ _)
theorem slc_at {P : Pt X n} {a lv hv : V} {sa : Addr} {v sl : Expr} {y z w : Value} {post : PQ} {Q : Value → Shared → Prop} (G : X.Gl C) {ops : Value → Value → List Value} (hs : ∀ o i, subscripted sl false o i = operate (ops o i) (getItem o i)) (q : P.s.heap.IsSliceOf sa z w .none) (ra : Rep X.W.scr P.w a y) (rl : Rep X.W.scr P.w lv z) (rh : Rep X.W.scr P.w hv w) (p : WSlc C.scr a lv hv P.H post) (k : Kn P post Q) :
    wpAny X.M P.A (subscriptTail v sl y (.ref sa)) Q Ex P.s := by
  refine wSome.k p fun l el p => wSome.k p fun h eh p => ?_
  have q1 := partOf_spec rl el
  have q2 := partOf_spec rh eh
  cases a with
  | tup us => exact slcT_at hs q q1 q2 ra p k
  | ref li => exact wSome.k p fun us hi p => lst ra hi (fun y => wpAny X.M P.A (subscriptTail v sl y (.ref sa)) Q Ex P.s) fun _ a xs n' _ _ _ h1 h2 h3 => slcL_at hs q q1 q2 (isList_of h1) h2 h3 p k
  | script => exact wSome.k p fun us hi p => items G ra hi (fun y => wpAny X.M P.A (subscriptTail v sl y (.ref sa)) Q Ex P.s) (fun e => nomatch e) fun a xs h1 h2 h3 => slcL_at hs q q1 q2 h1 h2 h3 p k
  | _ => exact p.elim
theorem slc_snd {a : E} {lo hi : Option E} {v : Expr} {l u : Option Expr} {p0 pos : Pos} (G : X.Gl C) (ha : EvS X C n sc ns a v) (hl : PaS X C n sc ns lo l) (hu : PaS X C n sc ns hi u) : EvS X C n sc ns (.slc a lo hi) (.Subscript v (.Slice l u none p0) pos) := fun P post Q Ex p k kx =>
  Subscript_ (ha P _ _ Ex p (fun x H1 p1 N y r => wpAny_Slice (hl (P.to N) _ _ Ex p1 (fun lv H2 p2 N2 z r2 => hu ((P.to N).to N2) _ _ Ex p2 (fun hv H3 p3 N3 w r3 => by
    rw [evalPart_none]
    exact wpAny_pure (slc_at (P := (N3.pt.ext (.push _) N3.tk).pt) G (fun _ _ => rfl) (Heap.IsSliceOf.new N3.h z w .none) ((r.mono (N2.then N3).S).mono (N3.pt.ext (.push _) N3.tk).S) ((r2.mono N3.S).mono (N3.pt.ext (.push _) N3.tk).S) (r3.mono (N3.pt.ext (.push _) N3.tk).S) p3 (((k.nx N).nx (N2.then N3)).nx _))) ((kx.nx N).nx N2)) (kx.nx N))) kx)
end
end Mine

end
section
set_option autoImplicit false
set_option linter.unusedVariables false
set_option linter.unusedSimpArgs false
namespace Mine
open PySem PySem.Calls PyProof.Rows

section
variable {X : Fix} {C : Ctx} {n : Nat} {sc : Scope} {ns : List Str} {Q Ex : Value → Shared → Prop} {P : Pt X n} {post : PQ} {v : V} {x : Value}
theorem base_of {o : Expr} (h : isBaseE o = true) (x : Str) (env : Env) : attributeBase o x env (eval o env) = eval o env := by
  rcases Bool.or_eq_true_iff.mp h with h | h
  · exact Expr.Name.elim (motive_1 := fun o => attributeBase o x env (eval o env) = eval o env) o (of_decide_eq_true h) fun _ _ => rfl
  · rcases Bool.or_eq_true_iff.mp h with h | h
    · exact Expr.Subscript.elim (motive_1 := fun o => attributeBase o x env (eval o env) = eval o env) o (of_decide_eq_true h) fun _ _ _ => rfl
    · exact ifCall.k (G := fun o => attributeBase o x env (eval o env) = eval o env) h fun g xs ks p h => andk h fun h1 h2 => by
        cases xs with
        | nil => cases h2
        | cons a r => exact Expr.Name.elim (motive_1 := fun g => attributeBase (.Call g (a :: r) ks p) x env (eval (.Call g (a :: r) ks p) env) = eval (.Call g (a :: r) ks p) env) g (of_decide_eq_true h1) fun _ _ => rfl
theorem few_of {es : List Expr} {cs : List E} {pos : Pos} (h : LsS X C n sc ns cs es) (hl : es.length < 20) (env : Env) : ((backTo pos (starEach es env)).all (fun x => !x.1) && (backToKw pos (keywordEach [] env)).all (fun x => x.1.isSome)
      && decide (es.length + ([] : List Keyword).length + (if ([] : List Keyword).isEmpty then 0 else 1) < 30)) = true := by
  have h2 : (backTo pos (starEach es env)).all (fun x => !x.1) = true := List.all_eq_true.mpr fun x hx => by
    have := List.any_eq_false.mp (h.plain env pos) x hx
    cases e : x.1
    · rfl
    · exact absurd e this
  rw [h2]
  exact decide_eq_true (show es.length + 0 + 0 < 30 by (first | lia | omega))
/-- what is said of a method: its object, its doing -/
structure MeOk (X : Fix) (n : Nat) (m : Me) (T id : String) : Prop where
  pa : PlainAttrs T
  slot : Slot T (meName m).1 id
  ty : typeOf (.builtin id) = pure (.type "method_descriptor")
  few : (meName m).2 < 20
  kind : ∀ (P : Pt X n) (v : V) (x : Value), Rep X.W.scr P.w v x → meKind m P.H v = true → P.s.TypeIs x T ∧ ∀ a, x = .ref a → ∃ ob, P.s.heap.get? a = some ob ∧ ob.dict = none
  run : ∀ (P : Pt X n) (v : V) (x : Value) (us : List V) (zs : List Value) (post : PQ) (Q Ex : Value → Shared → Prop), Rep X.W.scr P.w v x → RepL X.W.scr P.w us zs → WMeth m v us P.H post → Kn P post Q → wpAny X.M P.A (call (.builtin id) (x :: zs)) Q Ex P.s
theorem meth_snd {m : Me} {T id : String} {a : E} {o : Expr} {cs : List E} {es : List Expr} {ap pos : Pos} (M : MeOk X n m T id) (ho : isBaseE o = true) (hline : (ap.endLine == pos.line) = true) (hl : es.length = (meName m).2) (ha : EvS X C n sc ns a o) (h : LsS X C n sc ns cs es) : EvS X C n sc ns (.meth m a cs) (.Call (.Attribute o (meName m).1 ap) es [] pos) := fun P post Q Ex p k kx =>
  wpAny_Call_method (base_of ho _ P.env) (few_of h (hl ▸ M.few) P.env) hline M.pa M.slot M.ty (ha P _ _ Ex p (fun v H1 p1 N x r => wOk.k p1 fun hk p1 =>
    have q := M.kind N.pt v x r hk
    ⟨q.1, q.2, Calls.callWith_builtin (h.plain P.env pos) (evalArgs_of (h.plain P.env pos) (h.spl (P.to N) _ _ Ex pos p1 (fun us H2 p2 _ N2 zs r2 => M.run N2.pt v x us zs post Q Ex (r.mono N2.S) r2 p2 ((k.nx N).nx N2)) (kx.nx N)))⟩) kx)
/-- a list written to -/
theorem Kn.setL {l : Nat} {a : Addr} {vs : List V} {ys : List Value} {j : Nat} {h' : Heap} (k : Kn P post Q) (ha : P.φ[l]? = some a) (he : Heap.ExtBut a P.s.heap h') (hg : h'.get? a = some (lstObj ys j)) (r : RepL X.W.scr P.w vs ys) (hz : vs.length ≤ 16000000) (p : setL (.ref l) vs P.H post) (tk : Nat) : Q .none (upd P.s h' tk) :=
  k _ _ p (P.set ha he (.list hg (r.kp (P.cellKp ha he)) hz) tk) _ .none
theorem kind_list (P : Pt X n) (v : V) (x : Value) (r : Rep X.W.scr P.w v x) (h : (lstAt P.H v).isSome = true) : P.s.TypeIs x "list" ∧ ∀ a, x = .ref a → ∃ ob, P.s.heap.get? a = some ob ∧ ob.dict = none :=
  (Option.isSome_iff_exists.mp h).elim fun vs e => lst r e (fun x => P.s.TypeIs x "list" ∧ ∀ a, x = .ref a → ∃ ob, P.s.heap.get? a = some ob ∧ ob.dict = none) fun _ a xs m _ _ _ h1 _ _ => ⟨(isList_of h1).typeIs, fun b e => Value.ref.inj e ▸ ⟨_, h1, rfl⟩⟩
theorem append_ok : MeOk X n .append "list" "list.append" where
  pa := PySem.F.plainAttrs_list
  slot := PySem.F.slot_list_append
  ty := PySem.F.type_list_append
  few := by decide
  kind := kind_list
  run := fun P v x us zs post Q Ex r rz p k => wSome.k p fun xs e p => w1.k p (fun us => RepL X.W.scr P.w us zs → _) (fun u p rz => wOk.k p fun hz p => rz.k1 (fun zs => wpAny X.M P.A (call (.builtin "list.append") (x :: zs)) Q Ex P.s) fun z rz => lst r e (fun x => wpAny X.M P.A (call (.builtin "list.append") [x, z]) Q Ex P.s) fun l a ys m ev _ ha h1 h2 h3 =>
    wpAny_list_append_plain (items := ys.toArray) ⟨m, h1⟩ (fun h' hp hs => hp.elim fun j hj => k.setL (l := l) (vs := xs ++ [u]) ha hs.extBut (by rw [hj, List.push_toArray]) (h2.append (.one rz)) (by rw [List.length_append]; exact of_decide_eq_true hz) (ev ▸ p) P.s.toks) (by rw [List.size_toArray, ← h2.length]; unfold sizeLine; (first | lia | omega))) rz
theorem clear_ok : MeOk X n .clear "list" "list.clear" where
  pa := PySem.F.plainAttrs_list
  slot := PySem.F.slot_list_clear
  ty := PySem.F.type_list_clear
  few := by decide
  kind := kind_list
  run := fun P v x us zs post Q Ex r rz p k => wSome.k p fun xs e p => by
    cases us with
    | cons _ _ => exact p.elim
    | nil =>
      exact rz.inv (fun zs => wpAny X.M P.A (call (.builtin "list.clear") (x :: zs)) Q Ex P.s) (lst r e (fun x => wpAny X.M P.A (call (.builtin "list.clear") [x]) Q Ex P.s) fun l a ys m ev _ ha h1 h2 h3 =>
        call_meets PySem.F.slot_list_clear ⟨_, h1, rfl⟩ PySem.F.entry_list_clear (PySem.F.args_list_clear_1 _) (PySem.AutoSeq1.list_clear_list_0 a ys.toArray m (by rw [List.size_toArray, ← h2.length]; unfold sizeLine; (first | lia | omega))) ⟨h1, k.setL (l := l) (vs := []) ha (Heap.SameBut.update ..).extBut (get?_update_seq h1 fun _ => #[]) .nil (Nat.zero_le _) (ev ▸ p) _⟩)
theorem get2_ok (G : X.Gl C) : MeOk X n .get2 "dict" "dict.get" where
  pa := PySem.F.plainAttrs_dict
  slot := PySem.F.slot_dict_get
  ty := PySem.F.type_dict_get
  few := by decide
  kind := fun P v x r h => (Option.isSome_iff_exists.mp h).elim fun es e => dct r G e (fun x => P.s.TypeIs x "dict" ∧ ∀ a, x = .ref a → ∃ ob, P.s.heap.get? a = some ob ∧ ob.dict = none) fun _ _ a kvs _ _ _ h1 _ _ _ => ⟨h1.typeIs, fun b e => Value.ref.inj e ▸ h1.elim fun o w => w.elim fun _ w => w.elim fun _ w => ⟨o, w.1, w.2.1.2.1⟩⟩
  run := fun P v x us zs post Q Ex r rz p k => wSome.k p fun es e p => w2.k p (fun us => RepL X.W.scr P.w us zs → _) (fun u d p rz => rz.k2 (fun zs => wpAny X.M P.A (call (.builtin "dict.get") (x :: zs)) Q Ex P.s) fun y z ry rz => wInt.k p (fun u => Rep X.W.scr P.w u y → _) (fun j p ry => ry.inv (fun y => wpAny X.M P.A (call (.builtin "dict.get") [x, y, z]) Q Ex P.s) fun t => dct r G e (fun x => wpAny X.M P.A (call (.builtin "dict.get") [x, _, z]) Q Ex P.s) fun _ _ a kvs _ _ _ h1 h2 hs _ =>
    call_meetsIn PySem.F.slot_dict_get h1.typeIs PySem.F.entry_dict_get (PySem.F.args_dict_get_3 _ _ _) (meets_dict_get_default (intKind X.prog X.w) a (k := j) (key := .int j t) (beq_self_eq_true j) hs _) ⟨_, h1.mapOf, by
      rcases dget_kv h2 j with ⟨w1, w2⟩ | ⟨vv, xx, w1, w2, w3⟩
      · rw [w2]; rw [w1] at p; exact k.now p rz _
      · rw [w2]; rw [w1] at p; exact k.now p w3 _⟩) ry) rz
end
end Mine

end
section
set_option autoImplicit false
set_option linter.unusedVariables false
set_option linter.unusedSimpArgs false
namespace Mine
open PySem PySem.Calls PyProof.Rows

section
variable {X : Fix} {C : Ctx} {n : Nat} {sc : Scope} {ns : List Str} {Q Ex : Value → Shared → Prop} {P : Pt X n} {post : PQ} {v : V} {x : Value}
theorem allInts_map : ∀ {vs : List V} {is : List Int}, allInts vs = some is → vs = is.map .int
  | [], is, h => Option.some.inj h ▸ rfl
  | v :: r, is, h => bindk h fun i h1 h => by
    cases v with
    | int j => exact mapk (fun is => V.int j :: r = is.map .int) h fun js e => by rw [List.map_cons, ← allInts_map e, Option.some.inj h1]
    | _ => cases h1
theorem intsAre_of {scr : Addr} {p : Ws} : ∀ {is : List Int} {xs : List Value}, RepL scr p (is.map .int) xs → IntsAre xs is
  | [], xs, r => r.inv (fun xs => IntsAre xs []) .nil
  | i :: is, xs, r => r.inv (fun xs => IntsAre xs (i :: is)) fun x xs r1 r2 => r1.inv (fun x => IntsAre (x :: xs) (i :: is)) fun t => .cons _ _ (intsAre_of r2)
/-- a list of ints -/
theorem intL {is : List Int} (r : Rep X.W.scr P.w v x) (e : intsAt P.H v = some is) (T : Value → Prop) (k : ∀ a xs, P.s.heap.IsList a xs.toArray → IntsAre xs is → T (.ref a)) : T x :=
  bindk e fun vs h1 h2 => lst r h1 T fun _ a xs m _ _ _ g1 g2 _ => k a xs (isList_of g1) (intsAre_of (by rw [← allInts_map h2]; exact g2))
theorem Kn.later {x : Value} {h' : Heap} (k : Kn P post Q) (p : post v P.H) (r : Rep X.W.scr P.w v x) (e : Ext P.s.heap h') (tk : Nat) : Q x (upd P.s h' tk) := k _ _ p (P.ext e tk) _ (r.mono (P.ext e tk).S)
theorem len_snd (G : X.Gl C) (r : Rep X.W.scr P.w v x) (p : wSome (itemsOf C.scr P.H v) fun l => post (.int l.length) P.H) (k : Kn P post Q) : wpAny X.M P.A (call (.builtin "len") [x]) Q Ex P.s :=
  wSome.k p fun l e p => items G r e (fun x => wpAny X.M P.A (call (.builtin "len") [x]) Q Ex P.s) (fun _ a xs m h1 h2 h3 _ => PyProof.Rows.len_tuple (isTup_of h1) (small h2 h3) (k.now (v := .int l.length) p (by rw [List.size_toArray, ← h2.length]; exact .int _ _) _)) fun a xs h1 h2 h3 => call_len_list h1 (small h2 h3) (k.now (v := .int l.length) p (by rw [List.size_toArray, ← h2.length]; exact .int _ _) _)
theorem isi_snd {t : Ty} (r : Rep X.W.scr P.w v x) (p : wSome (isiV P.H t v) fun b => post (.bool b) P.H) (k : Kn P post Q) : wpAny X.M P.A (call (.builtin "isinstance") [x, .type (tyName t)]) Q Ex P.s := by
  refine wSome.k p fun b e p => ?_
  have fin : ∀ tk, Q (.bool b) (upd P.s P.s.heap tk) := fun tk => k.now p (.bool _) tk
  cases v with
  | bool c =>
    refine r.inv (fun x => wpAny X.M P.A (call (.builtin "isinstance") [x, .type (tyName t)]) Q Ex P.s) ?_
    cases t with
    | bool => cases e; exact IsiPair.bool_bool (fin _)
    | int => cases e; exact IsiPair.bool_int (fin _)
    | _ => cases e
  | int i =>
    refine r.inv (fun x => wpAny X.M P.A (call (.builtin "isinstance") [x, .type (tyName t)]) Q Ex P.s) fun tk => ?_
    cases t with
    | bool => cases e; exact IsiPair.int_bool (fin _)
    | int => cases e; exact IsiPair.int_int (fin _)
    | _ => cases e
  | tup vs =>
    cases t with
    | tuple => cases e; exact r.inv (fun x => wpAny X.M P.A (call (.builtin "isinstance") [x, .type "tuple"]) Q Ex P.s) fun a m xs h1 _ _ _ => IsiPair.tuple_tuple h1 rfl (fin _)
    | _ => cases e
  | ref l =>
    cases t with
    | list => exact mapk (fun b => (∀ tk, Q (.bool b) (upd P.s P.s.heap tk)) → _) e (fun vs e fin => lst r e (fun x => wpAny X.M P.A (call (.builtin "isinstance") [x, .type "list"]) Q Ex P.s) fun _ a xs m _ _ _ h1 _ _ => IsiPair.list_list h1 rfl (fin _)) fin
    | _ => cases e
  | _ => cases e
theorem sumI_snd (r : Rep X.W.scr P.w v x) (p : wSome (intsAt P.H v) fun is => post (.int is.sum) P.H) (k : Kn P post Q) : wpAny X.M P.A (call (.builtin "sum") [x]) Q Ex P.s :=
  wSome.k p fun is e p => intL r e (fun x => wpAny X.M P.A (call (.builtin "sum") [x]) Q Ex P.s) fun a xs h1 hI => hI.allInts.items.elim fun zs hx => sum_intListG P.rm.handled (hx ▸ h1) fun h' tk t' hk => by
    have e1 : is = zs.toList.map (·.1) := by
      rw [← nums_intItems, ← hx]
      exact (show numsOf xs.toArray.toList = is from hI.numsOf).symm
    rw [preSum_eq, List.take_of_length_le (by rw [List.length_map, Array.length_toList]; exact Nat.le_refl _), ← e1]
    exact k.later p (.int _ _) hk tk
theorem repInts {p : Ws} {scr : Addr} : ∀ {xs : List Value} {is : List Int}, IntsAre xs is → RepL scr p (is.map .int) xs
  | _, _, .nil => .nil
  | _, _, .cons _ _ h => .cons (.int _ _) (repInts h)
theorem sortI_snd (r : Rep X.W.scr P.w v x) (p : wSome (intsAt P.H v) fun is => is.length < 64 ∧ ∀ js : List Int, js.Perm is → js.Pairwise (· ≤ ·) → newL (js.map .int) P.H post) (k : Kn P post Q) : wpAny X.M P.A (call (.builtin "sorted") [x]) Q Ex P.s :=
  wSome.k p fun is e p => intL r e (fun x => wpAny X.M P.A (call (.builtin "sorted") [x]) Q Ex P.s) fun a xs h1 hI => sorted_ints h1 hI (by rw [hI.length]; exact p.1) fun out js q1 q2 q3 => (sortedAll_at P.s.heap xs out).elim fun c he => Kn.list k (fun b o x => sortedAll_old x) _ (none_size _ (Nat.le_succ _)) he (repInts q1) (by rw [List.length_map, q2.length_eq]; exact Nat.le_trans (Nat.le_of_lt p.1) (by decide)) (p.2 js q2 q3) P.s.toks
end
end Mine

end
section
set_option autoImplicit false
set_option linter.unusedVariables false
set_option linter.unusedSimpArgs false
namespace Mine
open PySem PySem.Calls PyProof.Rows

section
variable {prog : Program} {w : World} {A : Around} {E : Value → Shared → Prop} {s : Shared} {R : Result → Shared → Prop} {kw : List (Str × Value)}
theorem min_name : (toString "min" ++ toString ".loop" : String) = "min.loop" := by decide
theorem lt_rc {i j : Int} {t u : Tok} {Q : Value → Shared → Prop} (h : Q (.bool (decide (i < j))) s) : wpAny (model prog w) A (richCompare .Lt (.int i t) (.int j u)) Q E s :=
  richCompare_gives (op := .Lt) (typeIs_int s _ t) (typeIs_int s _ u) PySem.F.slot_int_lt PySem.F.entry_int_lt (PySem.F.args_int_lt_2 _ _) (gives_int_lt _ _ t u) (fun x => nomatch x) h
theorem upd_ne {h : Heap} {a b : Addr} {o : Obj} {f : Obj → Obj} (hn : b ≠ a) (e : h.get? b = some o) : (h.update a f).get? b = some o := (Heap.get?_update_other _ _ (Ne.symm hn)).trans e
/-- min of a list of ints: the turns; all but the iterator and the store stays -/
theorem min_turns {I S a : Addr} {vs : Array Value} (hh : A.handled = none) (haI : a ≠ I) (hSI : S ≠ I) (hSa : S ≠ a) {xs : List Value} {is : List Int} (hI : IntsAre xs is) : ∀ (j : Nat) (s : Shared) (m : Int) (t : Tok) (c : Nat), vs.toList.drop j = xs → s.heap.IsListIter I a j → s.heap.IsList a vs →
    s.heap.get? S = some { cls := .type "list", dict := none, data := .seq #[.int m t, .int m t] c, slots := #[] } →
    (∀ t' h' tk, (∀ b o, b ≠ I → b ≠ S → s.heap.get? b = some o → h'.get? b = some o) → R (.ok (.ret (.int (is.foldl min m) t'))) { s with heap := h', toks := tk }) →
    codeAny (model prog w) A (.builtin "min.loop" ⟨[.ref I, .none, .ref S], kw⟩) R s := by
  induction hI with
  | nil =>
    intro j s m t c hd hit hl hS hR
    refine codeAny_builtin PySem.F.entry_min_loop ?_
    rw [Around.under_plainId PySem.F.plain_min_loop _]
    show wpAny _ A.in1 (seqItems? (.ref S) >>= _) _ _ s
    refine wpAny_bind (wpAny_seqItems hS rfl ?_)
    show wpAny _ A.in1 (tryCatch (pyNext (.ref I)) _ >>= _) _ _ s
    refine wpAny_bind (wpAny_tryCatch (wpAny_pyNext_list_end hh hit hl (by rw [← Array.getElem?_toList]; exact List.getElem?_eq_none_iff.mpr (List.drop_eq_nil_iff.mp hd)) fun h' he => ?_))
    show wpAny _ A.in1 (updateSeq S (fun _ => #[]) >>= _) _ _ _
    exact wpAny_bind (wpAny_updateSeq (he S _ hSI hS) rfl (wpAny_bind (wpAny_letGo (wpAny_pure (hR t _ s.toks fun b o hI hS e => upd_ne hS (he b o hI e))))))
  | cons i u h ih =>
    intro j s m t c hd hit hl hS hR
    have hx : vs[j]? = some (.int i u) := by rw [← Array.getElem?_toList, ← List.head?_drop, hd]; rfl
    have hd' := (List.tail_drop (l := vs.toList) (i := j)).symm.trans (congrArg List.tail hd)
    refine codeAny_builtin PySem.F.entry_min_loop ?_
    rw [Around.under_plainId PySem.F.plain_min_loop _]
    show wpAny _ A.in1 (seqItems? (.ref S) >>= _) _ _ s
    refine wpAny_bind (wpAny_seqItems hS rfl ?_)
    show wpAny _ A.in1 (tryCatch (pyNext (.ref I)) _ >>= _) _ _ s
    refine wpAny_bind (wpAny_tryCatch (wpAny_pyNext_list_item hit hl hx fun h' hit' hs' => ?_))
    have hS' := hs'.extBut S _ hSI hS
    have hl' := hl.extBut hs'.extBut haI
    show wpAny _ A.in1 (tryCatch (holding [Value.int i u, Value.int i u] (richCompare .Lt (Value.int i u) (Value.int m t) >>= _)) _ >>= _) _ _ _
    refine wpAny_bind (wpAny_tryCatch (wpAny_holding (wpAny_bind (lt_rc (wpAny_bind (wpAny_holding (wpAny_truthy_bool (wpAny_bind (wpAny_letGo (wpAny_pure ?_))))))))))
    by_cases hb : i < m
    · rw [decide_eq_true hb]
      refine wpAny_bind (wpAny_updateSeq hS' rfl (wpAny_bind (wpAny_letGo ?_)))
      rw [min_name]
      exact wpAny_pure ⟨plainId_quiet PySem.F.plain_min_loop _, ih (j + 1) _ i u _ hd' (hit'.at fun o e => upd_ne hSI.symm e) (hl'.at fun o e => upd_ne hSa.symm e) (Heap.get?_update_self _ hS' rfl) fun t' h'' tk hk => by
        have := hR t' h'' tk fun b o hI hS e => hk b o hI hS (upd_ne hS (hs'.extBut b o hI e))
        rw [List.foldl_cons, Int.min_eq_right (Int.le_of_lt hb)] at this
        exact this⟩
    · rw [decide_eq_false hb]
      refine wpAny_bind (wpAny_letGo ?_)
      rw [min_name]
      exact wpAny_pure ⟨plainId_quiet PySem.F.plain_min_loop _, ih (j + 1) _ m t c hd' hit' hl' hS' fun t' h'' tk hk => by
        have := hR t' h'' tk fun b o hI hS e => hk b o hI hS (hs'.extBut b o hI e)
        rw [List.foldl_cons, Int.min_eq_left (Int.not_lt.mp hb)] at this
        exact this⟩
/-- a call of a built-in with keywords -/
theorem call_tree_kw {id : String} {b : Builtin} {args : List Value} {Q : Value → Shared → Prop} (hk : builtinKind id = none) (hp : plainId id = true) (hb : entryFor table id = some b) (ha : argsOk id ⟨args, kw⟩)
    (hc : wpAny (model prog w) A.in1 (b ⟨args, kw⟩) (fun fin s' => match fin with
      | .done f => (match (Except.ok f : Result) with | .ok (.ret v) => Q v s' | .ok _ => False | .error e => E e s')
      | .again c' => c'.quiet = true ∧ codeAny (model prog w) A c' (fun r s' => match r with | .ok (.ret v) => Q v s' | .ok _ => False | .error e => E e s') s') E s) :
    wpAny (model prog w) A (call (.builtin id) args kw) Q E s := by
  refine wpAny_call (codeAny_call_builtin hp hb ?_)
  simp only [checkBuiltinCall, hk]
  cases hsig : Manifest.signature? id with
  | none => exact wpAny_pure hc
  | some sig =>
    have ha' : Bind.checkArgs id sig ⟨args, kw⟩ = pure () := by simpa only [argsOk, hsig] using ha
    simp only [ha']
    exact wpAny_pure hc
end
end Mine

end
section
set_option autoImplicit false
set_option linter.unusedVariables false
set_option linter.unusedSimpArgs false
set_option maxRecDepth 100000
namespace Mine
open PySem PySem.Calls PyProof.Rows

section
variable {prog : Program} {w : World} {A : Around} {E : Value → Shared → Prop} {s : Shared} {R : Result → Shared → Prop}
abbrev LL := Addr × List Value × Nat
noncomputable def flat (ls : List LL) : List Value := (ls.map fun p => p.2.1).flatten
/-- sum of lists: the turns -/
theorem sum_turns {h₀ : Heap} {I S a : Addr} {vs : Array Value} (hh : A.handled = none) (nI : h₀.get? I = none) (nS : h₀.get? S = none) (hSI : S ≠ I) (hl : h₀.IsList a vs) : ∀ (ls : List LL) (j : Nat) (s : Shared) (T : Addr) (acc : List Value) (m c : Nat),
    vs.toList.drop j = ls.map (fun p => Value.ref p.1) → (∀ p ∈ ls, h₀.get? p.1 = some (lstObj p.2.1 p.2.2)) → (acc ++ flat ls).length ≤ 16000000 → s.heap.IsListIter I a j → Ext h₀ s.heap → T ≠ I → T ≠ S → s.heap.get? T = some (lstObj acc m) →
    s.heap.get? S = some { cls := .type "list", dict := none, data := .seq #[.ref T] c, slots := #[] } →
    (∀ h' tk T' m', Ext h₀ h' → (ls = [] ∧ T' = T ∨ ls ≠ [] ∧ h₀.get? T' = none) → h'.get? T' = some (lstObj (acc ++ flat ls) m') → R (.ok (.ret (.ref T'))) { s with heap := h', toks := tk }) →
    codeAny (model prog w) A (.builtin "sum.loop" ⟨[.ref I, .ref S, rawInt 2, rawInt 0], []⟩) R s
  | [], j, s, T, acc, m, c, hd, hls, hz, hit, he, hTI, hTS, hT, hS, hR => by
    refine codeAny_builtin PySem.F.entry_sum_loop ?_
    rw [Around.under_plainId PySem.F.plain_sum_loop _]
    show wpAny _ A.in1 (seqItems? (.ref S) >>= _) _ _ s
    refine wpAny_bind (wpAny_seqItems hS rfl ?_)
    show wpAny _ A.in1 (tryCatch (pyNext (.ref I)) _ >>= _) _ _ s
    refine wpAny_bind (wpAny_tryCatch (wpAny_pyNext_list_end hh hit (hl.at fun o e => he _ _ e) (by rw [← Array.getElem?_toList]; exact List.getElem?_eq_none_iff.mpr (List.drop_eq_nil_iff.mp hd)) fun h' hb => ?_))
    exact wpAny_pure (hR h' s.toks T m (fun b o e => hb b o (fun x => none_some (x ▸ nI) e) (he b o e)) (.inl ⟨rfl, rfl⟩) (by rw [show acc ++ flat [] = acc from List.append_nil _]; exact hb T _ hTI hT))
  | p :: ls, j, s, T, acc, m, c, hd, hls, hz, hit, he, hTI, hTS, hT, hS, hR => by
    have hx : vs[j]? = some (.ref p.1) := by rw [← Array.getElem?_toList, ← List.head?_drop, hd]; rfl
    have hd' : vs.toList.drop (j + 1) = ls.map (fun p => Value.ref p.1) := (List.tail_drop (l := vs.toList) (i := j)).symm.trans (congrArg List.tail hd)
    have hfl : acc ++ flat (p :: ls) = acc ++ p.2.1 ++ flat ls := (List.append_assoc _ _ _).symm
    rw [hfl] at hz hR
    have hz1 : (acc ++ p.2.1).length ≤ 16000000 := Nat.le_trans (by rw [List.length_append (as := acc ++ p.2.1)]; exact Nat.le_add_right _ _) hz
    refine codeAny_builtin PySem.F.entry_sum_loop ?_
    rw [Around.under_plainId PySem.F.plain_sum_loop _]
    show wpAny _ A.in1 (seqItems? (.ref S) >>= _) _ _ s
    refine wpAny_bind (wpAny_seqItems hS rfl ?_)
    show wpAny _ A.in1 (tryCatch (pyNext (.ref I)) _ >>= _) _ _ s
    refine wpAny_bind (wpAny_tryCatch (wpAny_pyNext_list_item hit (hl.at fun o e => he _ _ e) hx fun h1 hit1 hs1 => ?_))
    have he1 : Ext h₀ h1 := fun b o e => hs1.extBut b o (fun x => none_some (x ▸ nI) e) (he b o e)
    have hT1 := hs1.extBut T _ hTI hT
    have hS1 := hs1.extBut S _ hSI hS
    show wpAny _ A.in1 ((holding [Value.ref p.1] (binaryOp .Add (.ref T) (.ref p.1))).attempt >>= _) _ _ _
    refine wpAny_bind (wpAny_attempt (wpAny_holding (PySem.P.add_list hT1 (he1 _ _ (hls p (.head _))) ?_ (by rw [List.size_toArray, List.size_toArray, ← List.length_append]; unfold sizeLine; (first | lia | omega)))))
    rw [List.append_toArray]
    have hS2 : (h1.push (lstObj (acc ++ p.2.1) 0)).get? S = some { cls := .type "list", dict := none, data := .seq #[.ref T] c, slots := #[] } := Heap.get?_push_of_some _ hS1
    show wpAny _ A.in1 (updateSeq S (fun _ => #[.ref h1.objs.size]) >>= _) _ _ { s with heap := h1.push (lstObj (acc ++ p.2.1) 0) }
    refine wpAny_bind (wpAny_updateSeq hS2 rfl ?_)
    have hS3 := Heap.get?_update_self (Obj.mapSeq fun _ => #[Value.ref h1.objs.size]) hS2 rfl
    refine wpAny_bind (wpAny_letGo ?_)
    have hTS' : h1.objs.size ≠ S := Nat.ne_of_gt (Heap.lt_size hS1)
    have hTI' : h1.objs.size ≠ I := fun x => (hit1).elim fun o e => Nat.lt_irrefl _ (x ▸ Heap.lt_size e.1)
    have up : ∀ b o, b ≠ S → h1.get? b = some o → (((h1.push (lstObj (acc ++ p.2.1) 0)).update S (Obj.mapSeq fun _ => #[Value.ref h1.objs.size])).update S (Obj.mapSeq fun _ => #[Value.ref h1.objs.size])).get? b = some o := fun b o hb e => upd_ne hb (upd_ne hb (Heap.get?_push_of_some _ e))
    refine wpAny_bind (wpAny_updateSeq hS3 rfl (wpAny_pure ⟨plainId_quiet PySem.F.plain_sum_loop _, sum_turns hh nI nS hSI hl ls (j + 1) _ h1.objs.size (acc ++ p.2.1) 0 _ hd' (fun q hq => hls q (.tail _ hq)) hz (hit1.at fun o e => up _ _ hSI.symm e) (fun b o e => up b o (fun x => none_some (x ▸ nS) e) (he1 b o e)) hTI' hTS' (upd_ne hTS' (upd_ne hTS' (Heap.get?_push_size _ rfl))) (Heap.get?_update_self _ hS3 rfl) fun h' tk T' m' e1 e2 e3 => ?_⟩))
    refine hR h' tk T' m' e1 (.inr ⟨(fun x => nomatch x), ?_⟩) e3
    rcases e2 with ⟨_, rfl⟩ | ⟨_, e2⟩
    · cases e : h₀.get? h1.objs.size with
      | none => rfl
      | some o => exact absurd (Heap.lt_size (he1 _ _ e)) (Nat.lt_irrefl _)
    · exact e2
theorem args_sum2 (a b : Value) : argsOk "sum" ⟨[a, b], []⟩ := by unfold argsOk; kernel_rfl
theorem no_str : isSubtype (.type "list") (.type "str") = pure false := by rw [isSubtype_type]; kernel_rfl
theorem no_bytes : isSubtype (.type "list") (.type "bytes") = pure false := by rw [isSubtype_type]; kernel_rfl
theorem no_bya : isSubtype (.type "list") (.type "bytearray") = pure false := by rw [isSubtype_type]; kernel_rfl
theorem sum_call {Q : Value → Shared → Prop} {l d : Addr} {c : Nat} {ls : List LL} (hh : A.handled = none) (hl : s.heap.IsList l (ls.map fun p => Value.ref p.1).toArray) (hls : ∀ p ∈ ls, s.heap.get? p.1 = some (lstObj p.2.1 p.2.2)) (hd : s.heap.get? d = some (lstObj [] c)) (hz : (flat ls).length ≤ 16000000)
    (hQ : ∀ h' tk T' m', Ext s.heap h' → (ls = [] ∧ T' = d ∨ ls ≠ [] ∧ s.heap.get? T' = none) → h'.get? T' = some (lstObj (flat ls) m') → Q (.ref T') { s with heap := h', toks := tk }) :
    wpAny (model prog w) A (call (.builtin "sum") [.ref l, .ref d]) Q E s := by
  have hlt : l < s.heap.objs.size := hl.elim fun _ e => Heap.lt_size e.1
  have hdt : d < s.heap.objs.size := Heap.lt_size hd
  refine call_function_tree PySem.F.kind_sum PySem.F.plain_sum PySem.F.entry_sum (args_sum2 _ _) ?_
  unfold Builtin.«sum»
  simp only [List.length_cons, List.length_nil]
  rw [if_neg (by decide)]
  refine wpAny_bind (wpAny_of_eq (show Builtin.Builtins.bindParams "sum" ["start"] 0 ⟨[.ref d], []⟩ = pure [some (.ref d)] from rfl) ?_)
  refine wpAny_bind (wpAny_pyIter_list hl ?_)
  refine wpAny_bind (wpAny_pure ?_)
  have hT : Shared.TypeIs { s with heap := s.heap.push { cls := .type "list_iterator", data := .fields #[.ref l, .int 0 0] } } (.ref d) "list" := ⟨_, Heap.get?_push_of_some _ hd, rfl⟩
  simp only [List.forIn_cons, List.forIn_nil]
  refine wpAny_bind (wpAny_bind (wpAny_bind (wpAny_isInstance (b := false) hT no_str ?_)))
  simp only [Bool.false_eq_true, if_false]
  refine wpAny_pure (wpAny_bind (wpAny_bind (wpAny_isInstance (b := false) hT no_bytes ?_)))
  simp only [Bool.false_eq_true, if_false]
  refine wpAny_pure (wpAny_bind (wpAny_bind (wpAny_isInstance (b := false) hT no_bya ?_)))
  simp only [Bool.false_eq_true, if_false]
  refine wpAny_pure (wpAny_pure ?_)
  refine wpAny_bind (wpAny_newObj_type ?_)
  have e1 : (s.heap.push { cls := .type "list_iterator", data := .fields #[.ref l, .int 0 0] }).objs.size = s.heap.objs.size + 1 := Heap.size_push ..
  exact wpAny_pure ⟨plainId_quiet PySem.F.plain_sum_loop _, sum_turns (h₀ := s.heap) (I := s.heap.objs.size) (S := (s.heap.push { cls := .type "list_iterator", data := .fields #[.ref l, .int 0 0] }).objs.size) hh (none_size _ (Nat.le_refl _)) (none_size _ (by rw [e1]; exact Nat.le_succ _)) (by rw [e1]; exact Nat.succ_ne_self _) hl ls 0 _ d [] c 0 rfl hls hz
    ⟨_, Heap.get?_push_of_some _ (Heap.get?_push_size _ rfl), rfl, rfl⟩ (fun b o e => Heap.get?_push_of_some _ (Heap.get?_push_of_some _ e)) (Nat.ne_of_lt hdt) (by rw [e1]; exact Nat.ne_of_lt (Nat.lt_succ_of_lt hdt)) (Heap.get?_push_of_some _ (Heap.get?_push_of_some _ hd)) (Heap.get?_push_size _ rfl) fun h' tk T' m' e1 e2 e3 => hQ h' tk T' m' e1 e2 e3⟩
end
section
variable {X : Fix} {C : Ctx} {n : Nat} {sc : Scope} {ns : List Str} {Q Ex : Value → Shared → Prop} {P : Pt X n} {post : PQ} {u v : V} {x y : Value}
theorem lists_of : ∀ {us : List V} {ll : List (List V)} {xs : List Value}, allLists P.H us = some ll → RepL X.W.scr P.w us xs → ∃ ls : List LL, xs = ls.map (fun p => .ref p.1) ∧ (∀ p ∈ ls, P.s.heap.get? p.1 = some (lstObj p.2.1 p.2.2)) ∧ RepL X.W.scr P.w ll.flatten (flat ls) ∧ ll.length = ls.length
  | [], ll, xs, h, r => by
    cases h
    exact r.inv (fun xs => ∃ ls : List LL, xs = ls.map (fun p => .ref p.1) ∧ (∀ p ∈ ls, P.s.heap.get? p.1 = some (lstObj p.2.1 p.2.2)) ∧ RepL X.W.scr P.w (List.flatten []) (flat ls) ∧ 0 = ls.length) ⟨[], rfl, fun p hp => (nomatch hp), .nil, rfl⟩
  | v :: us, ll, xs, h, r => bindk h fun l e h => mapk (fun ll => ∃ ls : List LL, xs = ls.map (fun p => .ref p.1) ∧ (∀ p ∈ ls, P.s.heap.get? p.1 = some (lstObj p.2.1 p.2.2)) ∧ RepL X.W.scr P.w ll.flatten (flat ls) ∧ ll.length = ls.length) h fun ll e2 =>
    r.inv (fun xs => ∃ ls : List LL, xs = ls.map (fun p => .ref p.1) ∧ (∀ p ∈ ls, P.s.heap.get? p.1 = some (lstObj p.2.1 p.2.2)) ∧ RepL X.W.scr P.w (l :: ll).flatten (flat ls) ∧ (l :: ll).length = ls.length) fun x xs rx r => by
      obtain ⟨ls, rfl, h1, h2, h3⟩ := lists_of e2 r
      exact lst rx e (fun x => ∃ ls' : List LL, x :: ls.map (fun p => .ref p.1) = ls'.map (fun p => .ref p.1) ∧ (∀ p ∈ ls', P.s.heap.get? p.1 = some (lstObj p.2.1 p.2.2)) ∧ RepL X.W.scr P.w (l :: ll).flatten (flat ls') ∧ (l :: ll).length = ls'.length) fun _ a ys m _ _ _ q1 q2 _ =>
        ⟨(a, ys, m) :: ls, rfl, fun p hp => (List.mem_cons.mp hp).elim (fun e => by rw [e]; exact q1) (h1 p), q2.append h2, congrArg (· + 1) h3⟩
theorem sumL_snd (r1 : Rep X.W.scr P.w v x) (r2 : Rep X.W.scr P.w u y) (p : WSumL v u P.H post) (k : Kn P post Q) : wpAny X.M P.A (call (.builtin "sum") [x, y]) Q Ex P.s :=
  wSome.k p fun us e p => wSome.k p fun ll e2 p => lst r1 e (fun x => wpAny X.M P.A (call (.builtin "sum") [x, y]) Q Ex P.s) fun _ a xs m _ _ _ q1 q2 _ => by
    obtain ⟨ls, rfl, h1, h2, h3⟩ := lists_of e2 q2
    refine lst r2 p.1 (fun y => Rep X.W.scr P.w u y → wpAny X.M P.A (call (.builtin "sum") [.ref a, y]) Q Ex P.s) (fun _ d ys c _ _ _ t1 t2 _ r2 => ?_) r2
    have ey : ys = [] := List.eq_nil_of_length_eq_zero t2.length.symm
    subst ey
    refine wOk.k p.2 fun hz p => ?_
    have hz : ll.flatten.length < 16000000 := of_decide_eq_true hz
    refine sum_call P.rm.handled (isList_of q1) h1 t1 (by rw [← h2.length]; exact Nat.le_of_lt hz) fun h' tk T' m' w1 w2 w3 => ?_
    cases ll with
    | nil =>
      have : ls = [] := List.eq_nil_of_length_eq_zero h3.symm
      rcases w2 with ⟨_, rfl⟩ | ⟨w2, _⟩
      · exact k.later p r2 w1 tk
      · exact absurd this w2
    | cons l ll =>
      rcases w2 with ⟨w2, _⟩ | ⟨_, w2⟩
      · rw [w2] at h3; cases h3
      · exact k.list w1 T' w2 w3 h2 (Nat.le_of_lt hz) p tk
end
end Mine

end
section
set_option autoImplicit false
set_option linter.unusedVariables false
set_option linter.unusedSimpArgs false
namespace Mine
open PySem PySem.Calls PyProof.Rows

section
variable {prog : Program} {w : World} {A : Around} {E : Value → Shared → Prop} {s : Shared} {R : Result → Shared → Prop}
theorem min_call1 {Q : Value → Shared → Prop} {l : Addr} {xs : List Value} {i : Int} {is : List Int} {u : Tok} (hh : A.handled = none) (hl : s.heap.IsList l (.int i u :: xs).toArray) (hI : IntsAre xs is)
    (hQ : ∀ t h' tk, (∀ b o, s.heap.get? b = some o → h'.get? b = some o) → Q (.int (is.foldl min i) t) { s with heap := h', toks := tk }) :
    wpAny (model prog w) A (call (.builtin "min") [.ref l]) Q E s := by
  have hlt : l < s.heap.objs.size := hl.elim fun _ e => Heap.lt_size e.1
  refine call_tree_kw PySem.F.kind_min PySem.F.plain_min PySem.F.entry_min (by unfold argsOk; rfl) ?_
  show wpAny _ A.in1 (Builtin.Builtins.bindParams "min" ["key", "default"] 0 ⟨[], []⟩ >>= _) _ _ s
  refine wpAny_bind (wpAny_of_eq (show Builtin.Builtins.bindParams "min" ["key", "default"] 0 ⟨[], []⟩ = pure [none, none] from rfl) (wpAny_bind (wpAny_pure (wpAny_bind (wpAny_pyIter_list hl (wpAny_bind (wpAny_newObj_type ?_)))))))
  rw [min_name]
  have e1 : (s.heap.push { cls := .type "list_iterator", data := .fields #[.ref l, .int 0 0] }).objs.size = s.heap.objs.size + 1 := Heap.size_push ..
  refine wpAny_pure ⟨plainId_quiet PySem.F.plain_min_loop _, codeAny_builtin PySem.F.entry_min_loop ?_⟩
  rw [Around.under_plainId PySem.F.plain_min_loop _]
  generalize hS : (s.heap.push { cls := .type "list_iterator", data := .fields #[.ref l, .int 0 0] }).objs.size = S at *
  have hS0 : ((s.heap.push { cls := .type "list_iterator", data := .fields #[.ref l, .int 0 0] }).push { cls := .type "list", data := .seq #[] }).get? S = some { cls := .type "list", dict := none, data := .seq #[] 0, slots := #[] } := by rw [← hS]; exact Heap.get?_push_size _ rfl
  show wpAny _ A.in1 (seqItems? (.ref S) >>= _) _ _ _
  refine wpAny_bind (wpAny_seqItems hS0 rfl ?_)
  show wpAny _ A.in1 (tryCatch (pyNext (.ref s.heap.objs.size)) _ >>= _) _ _ _
  have hSI : S ≠ s.heap.objs.size := by rw [e1]; exact Nat.succ_ne_self _
  have hSl : S ≠ l := by rw [e1]; exact Nat.ne_of_gt (Nat.lt_succ_of_lt hlt)
  refine wpAny_bind (wpAny_tryCatch (wpAny_pyNext_list_item ⟨_, Heap.get?_push_of_some _ (Heap.get?_push_size _ rfl), rfl, rfl⟩ ((hl.push _).push _) (x := .int i u) rfl fun h' hit' hs' => ?_))
  have hS' := hs'.extBut S _ hSI hS0
  show wpAny _ A.in1 (updateSeq S (fun _ => #[.int i u, .int i u]) >>= _) _ _ _
  refine wpAny_bind (wpAny_updateSeq hS' rfl ?_)
  rw [min_name]
  exact wpAny_pure ⟨plainId_quiet PySem.F.plain_min_loop _, min_turns hh (Nat.ne_of_lt hlt) hSI hSl hI 1 _ i u _ rfl (hit'.at fun o e => upd_ne hSI.symm e) ((((hl.push _).push _).extBut hs'.extBut (Nat.ne_of_lt hlt)).at fun o e => upd_ne hSl.symm e) (Heap.get?_update_self _ hS' rfl) fun t' h'' tk hk => hQ t' h'' tk fun b o e =>
    have hb := Heap.lt_size e
    hk b o (Nat.ne_of_lt hb) (by rw [e1]; exact Nat.ne_of_lt (Nat.lt_succ_of_lt hb)) (upd_ne (by rw [e1]; exact Nat.ne_of_lt (Nat.lt_succ_of_lt hb)) (hs'.extBut b o (Nat.ne_of_lt hb) (Heap.get?_push_of_some _ (Heap.get?_push_of_some _ e))))⟩
end
section
variable {X : Fix} {C : Ctx} {n : Nat} {Q Ex : Value → Shared → Prop} {P : Pt X n} {post : PQ} {v : V} {x : Value}
theorem min_snd (r : Rep X.W.scr P.w v x) (p : WMin v P.H post) (k : Kn P post Q) : wpAny X.M P.A (call (.builtin "min") [x]) Q Ex P.s :=
  wSome.k p fun is e p => intL r e (fun x => wpAny X.M P.A (call (.builtin "min") [x]) Q Ex P.s) fun a xs h1 hI => by
    cases hI with
    | nil => exact p.elim
    | cons i u h => exact min_call1 P.rm.handled h1 h fun t h' tk hk => k.later p (.int _ _) hk tk
end
end Mine

end
section
set_option autoImplicit false
set_option linter.unusedVariables false
set_option linter.unusedSimpArgs false
namespace Mine
open PySem PySem.Calls PyProof.Rows

section
variable {X : Fix} {C : Ctx} {n : Nat} {sc : Scope} {ns : List Str} {cs : List E} {es : List Expr} {g : Expr} {pos : Pos}
/-- a built-in of one argument -/
theorem call1 {T : Value → List Value → Prop} {post : List V → Hp → Prop} {P : Fp X n sc ns} {Q Ex : Value → Shared → Prop} {nm : Str} {y : Value} (G : X.Gl C) (hg : isGl sc nm g = true) (hm : (nm, y) ∈ biTable) (hy : (∃ T, y = .type T) ∨ ∃ T, y = .builtin T) (h : LsS X C n sc ns cs es) (p : WEs C cs P.ρ P.H post) (k : KnL P.toPt cs.length post fun xs s₁ => wpAny X.M P.A (call y xs) Q Ex s₁) (kx : Kn P.toPt (C.exc P.ρ) Ex) : wpAny X.M P.A (eval (.Call g es [] pos) P.env) Q Ex P.s :=
  hy.elim (fun hy => callT G hg hm hy h p k kx) fun hy => ifName.k (G := fun g => wpAny X.M P.A (eval (.Call g es [] pos) P.env) Q Ex P.s) hg fun x np hg => andk hg fun e ho => by
    obtain rfl := eq_of_beq e
    obtain ⟨T, rfl⟩ := hy
    exact wpAny_Call_NameR (glob_bi G P hm ho (Calls.callWith_builtin (h.plain P.env pos) (evalArgs_of (h.plain P.env pos) (h.spl P _ _ Ex pos p k kx))))
/-- the built-ins that are called by their arguments alone -/
theorem bi_run {b : Bi} {q : Str × Nat} (hb : biName b = some q) (G : X.Gl C) {T : Prop} (k : ∀ y, (q.1, y) ∈ biTable → ((∃ T, y = .type T) ∨ ∃ T, y = .builtin T) →
    (∀ (P : Pt X n) (vs : List V) (xs : List Value) (post : PQ) (Q Ex : Value → Shared → Prop), RepL X.W.scr P.w vs xs → WBi C.scr b vs P.H post → Kn P post Q → wpAny X.M P.A (call y xs) Q Ex P.s) → T) : T := by
  have one : ∀ {y : Value} {f : Hp → V → PQ → Prop}, (∀ (P : Pt X n) (v : V) (x : Value) (post : PQ) (Q Ex : Value → Shared → Prop), Rep X.W.scr P.w v x → f P.H v post → Kn P post Q → wpAny X.M P.A (call y [x]) Q Ex P.s) →
      ∀ (P : Pt X n) (vs : List V) (xs : List Value) (post : PQ) (Q Ex : Value → Shared → Prop), RepL X.W.scr P.w vs xs → w1 vs (fun v => f P.H v post) → Kn P post Q → wpAny X.M P.A (call y xs) Q Ex P.s := fun h P vs xs post Q Ex r p k =>
    w1.k p (fun vs => RepL X.W.scr P.w vs xs → _) (fun v p r => r.k1 (fun xs => wpAny X.M P.A (call _ xs) Q Ex P.s) fun x r => h P v x post Q Ex r p k) r
  cases b with
  | len => cases hb; exact k _ (bi_mem 0 (by decide)) (.inr ⟨_, rfl⟩) (one (f := fun H v post => wSome (itemsOf C.scr H v) fun l => post (.int l.length) H) fun P v x post Q Ex r p k => len_snd G r p k)
  | sumI => cases hb; exact k _ (bi_mem 8 (by decide)) (.inr ⟨_, rfl⟩) (one (f := fun H v post => wSome (intsAt H v) fun is => post (.int is.sum) H) fun P v x post Q Ex r p k => sumI_snd r p k)
  | sortI => cases hb; exact k _ (bi_mem 9 (by decide)) (.inr ⟨_, rfl⟩) (one (f := fun H v post => wSome (intsAt H v) fun is => is.length < 64 ∧ ∀ js : List Int, js.Perm is → js.Pairwise (· ≤ ·) → newL (js.map .int) H post) fun P v x post Q Ex r p k => sortI_snd r p k)
  | sumL => cases hb; exact k _ (bi_mem 8 (by decide)) (.inr ⟨_, rfl⟩) fun P vs xs post Q Ex r p k => w2.k p (fun vs => RepL X.W.scr P.w vs xs → _) (fun u v p r => r.k2 (fun xs => wpAny X.M P.A (call _ xs) Q Ex P.s) fun x y rx ry => sumL_snd rx ry p k) r
  | minL => cases hb; exact k _ (bi_mem 12 (by decide)) (.inr ⟨_, rfl⟩) (one (f := fun H v post => WMin v H post) fun P v x post Q Ex r p k => min_snd r p k)
  | _ => cases hb
theorem bi_snd {b : Bi} {q : Str × Nat} (G : X.Gl C) (hb : biName b = some q) (hg : isGl sc q.1 g = true) (h : LsS X C n sc ns cs es) : EvS X C n sc ns (.bi b cs) (.Call g es [] pos) := fun P post Q Ex p k kx =>
  bi_run hb G fun y hm hy run => call1 (T := fun _ _ => True) G hg hm hy h p (fun vs H1 p1 _ N xs r => run N.pt vs xs post Q Ex r p1 (k.nx N)) kx
theorem ty_mem (t : Ty) : (Str.ofString (tyName t), Value.type (tyName t)) ∈ biTable := by
  cases t
  · exact bi_mem 2 (by decide)
  · exact bi_mem 3 (by decide)
  · exact bi_mem 4 (by decide)
  · exact bi_mem 5 (by decide)
/-- isinstance(x, T) -/
theorem isiE_snd {t : Ty} {e nm : Expr} {c : E} (G : X.Gl C) (hg : isGl sc "isinstance" g = true) (hn : isGl sc (Str.ofString (tyName t)) nm = true) (h0 : chkE X.K sc ns c e = true) (he : EvS X C n sc ns c e) : EvS X C n sc ns (.bi (.isi t) [c]) (.Call g [e, nm] [] pos) := fun P post Q Ex p k kx =>
  ifName.k (G := fun g => wpAny X.M P.A (eval (.Call g [e, nm] [] pos) P.env) Q Ex P.s) hg fun x np hg => andk hg fun e1 ho => ifName.k (G := fun nm => wpAny X.M P.A (eval (.Call _ [e, nm] [] pos) P.env) Q Ex P.s) hn fun y yp hn => andk hn fun e2 ho2 => by
    obtain rfl := eq_of_beq e1
    obtain rfl := eq_of_beq e2
    have hpl : (backTo pos (starEach [e, .Name (Str.ofString (tyName t)) yp] P.env)).any (·.1) = false := by rw [notStarred h0 P.env]; rfl
    refine wpAny_Call_NameR (glob_bi G P (bi_mem 1 (by decide)) ho (Calls.callWith_builtin hpl (evalArgs_of hpl (wpAny_items_cons (he P _ _ Ex p (fun v H1 p1 N x r => ?_) kx) (notStarred h0 P.env _)))))
    exact wpAny_items_cons (glob_bi G (P.to N) (y := .type (tyName t)) (ty_mem t) ho2 (wpAny_items_nil (isi_snd (P := N.pt) r p1 (k.nx N)))) rfl
end
end Mine

end
section
set_option autoImplicit false
set_option linter.unusedVariables false
set_option linter.unusedSimpArgs false
set_option maxRecDepth 100000
namespace Mine
open PySem PySem.Calls PyProof.Rows

section
variable {prog : Program} {w : World} {A : Around} {E : Value → Shared → Prop} {s : Shared} {d : Addr} {kvs : List (Int × Value)} {ep : Nat}
/-- a table asked for its length as a hint: nothing happens -/
theorem dHint {Q : Bool → Shared → Prop} (hT : s.TypeIs (.ref d) "dict") (h : Q false s) : wpAny (model prog w) A (Builtin.List.listLengthHint (.ref d)) Q E s := by
  unfold Builtin.List.listLengthHint
  refine wpAny_bind (wpAny_specialOf hT PySem.F.slot_dict_len.lookup ?_)
  generalize hid : ("dict.__len__" : String) = id0
  wp_delta
  rw [show splitId id0 = some ("dict", "__len__") from by subst hid; decide +kernel]
  subst hid
  refine wpAny_bind (wpAny_isInstance (T := "dict") (b := true) hT (by rw [isSubtype_type]; kernel_rfl) ?_)
  refine wpAny_ite_split (fun hab => absurd hab (by decide)) (fun _ => ?_)
  refine wpAny_ite_split (fun _ => ?_) (fun hab => absurd (by decide +kernel) hab)
  exact wpAny_bind (wpAny_typeOf hT (wpAny_pure h))

/-- what list(d) leaves: the keys in a new list -/
abbrev KeyAt (kvs : List (Int × Value)) (i : Nat) (v : Value) : Prop := ∃ k x, kvs[i]? = some (k, x) ∧ (intKind prog w).is k v = true
/-- the keys go to the list at `S` -/
theorem dFill {R : Result → Shared → Prop} {S : Addr} {c₀ : Nat} (hh : A.handled = none) (lo : (d == sysModules) = false) (hD : s.heap.DictAt (intKind prog w) d kvs ep) (hSd : S ≠ d) (hn : kvs.length ≤ sizeLine)
    (hS : s.heap.get? S = some { cls := .type "list", data := .seq #[] c₀ })
    (hR : ∀ h' tk acc c', (∀ b o, b ≠ S → s.heap.get? b = some o → h'.get? b = some o) → h'.get? S = some { cls := .type "list", dict := none, data := .seq acc c', slots := #[] } → ItemsOf (KeyAt (prog := prog) (w := w) kvs) acc kvs.length → R (.ok (.ret .none)) { s with heap := h', toks := tk }) :
    wpAny (model prog w) A.in1 (Builtin.List.listExtendWith (.ref S) (.ref d) .none)
      (fun fin s' => match fin with | .done f => R (.ok f) s' | .again c' => c'.quiet = true ∧ codeAny (model prog w) A c' R s') (fun e s' => R (.error e) s') s := by
  have hT : s.TypeIs (.ref d) "dict" := hD.dictOf.typeIs
  have hSI : S ≠ s.heap.objs.size := Nat.ne_of_lt (Heap.lt_size hS)
  have hSf : S ∉ [s.heap.objs.size, d] := by
    intro hm
    rcases List.mem_cons.mp hm with e | hm
    · exact hSI e
    · exact hSd (List.mem_singleton.mp hm)
  have W := Walks.dictKeys (prog := prog) (w := w) (A := A.in1) (knd := intKind prog w) hh s.heap.objs.size d (Nat.ne_of_lt hD.lt_size) kvs ep
  have go : ∀ (h : Heap) (c₁ tk : Nat), h.IsKeyIter s.heap.objs.size d 0 kvs.length ep → h.DictAt (intKind prog w) d kvs ep → (∀ b o, b ≠ S → s.heap.get? b = some o → h.get? b = some o) → h.get? S = some { cls := .type "list", data := .seq #[] c₁ } →
      codeAny (model prog w) A (.builtin "list.extend.loop" ⟨[.ref S, .ref s.heap.objs.size, .none], []⟩) R { s with heap := h, toks := tk } := by
    intro h c₁ tk i1 i2 hk hS₁
    refine codeAny_extend_loopS W.toS hn S hSf .none kvs.length 0 _ #[] c₁ rfl (Nat.zero_le _) ⟨i1, i2⟩ hS₁ (ItemsOf.nil _) fun s' acc c' hm hS' hacc => ?_
    rw [Moved.eq_with hm]
    refine hR s'.heap s'.toks acc c' (fun b o hb e => hm.heap b o (fun hmem => ?_) (hk b o hb e)) hS' hacc
    rcases List.mem_cons.mp hmem with e' | hmem
    · exact hb e'
    · rw [List.mem_singleton.mp hmem] at e
      exact absurd (Heap.lt_size e) (Nat.lt_irrefl _)
  unfold Builtin.List.listExtendWith
  refine wpAny_bind (wpAny_typeOf (T := "dict") hT ?_)
  have h1 : Builtin.List.listSameRef (.ref S) (.ref d) = false := by simp [Builtin.List.listSameRef, hSd]
  simp only [h1, show (Value.type "dict" == Value.type "list") = false from by decide, show (Value.type "dict" == Value.type "tuple") = false from by decide, Bool.or_false, Bool.false_eq_true, if_false]
  refine wpAny_bind (wpAny_pyIter_dict lo hD ?_)
  have hS₁ := Heap.get?_push_of_some { cls := .type "dict_keyiterator", data := .fields #[.ref d, .int 0 0, .int kvs.length 0, .int ep 0] } hS
  have i1 : (s.heap.push { cls := .type "dict_keyiterator", data := .fields #[.ref d, .int 0 0, .int kvs.length 0, .int ep 0] }).IsKeyIter s.heap.objs.size d 0 kvs.length ep := ⟨_, Heap.get?_push_size _ rfl, rfl, rfl⟩
  have i2 := hD.push { cls := .type "dict_keyiterator", data := .fields #[.ref d, .int 0 0, .int kvs.length 0, .int ep 0] }
  refine wpAny_bind (wpAny_holding (dHint i2.dictOf.typeIs ?_))
  refine wpAny_ite_split (fun _ => ?_) (fun _ => wpAny_pure ⟨plainId_quiet PySem.F.plain_extend_loop _, go _ c₀ _ i1 i2 (fun b o _ e => Heap.get?_push_of_some _ e) hS₁⟩)
  refine wpAny_bind (wpAny_rule (wpAny_bind ?_))
  show wpAny _ _ (updateSeq S (·.push .none) >>= fun _ => updateSeq S (·.pop)) _ _ _
  refine wpAny_bind (wpAny_updateSeq hS₁ rfl ?_)
  have hS₂ := Heap.get?_update_self (Obj.mapSeq (·.push Value.none)) hS₁ rfl
  refine wpAny_updateSeq (hz := by seq_fits) hS₂ rfl ?_
  have hS₃ := Heap.get?_update_self (Obj.mapSeq (·.pop)) hS₂ rfl
  have oth : ∀ b o, b ≠ S → (s.heap.push { cls := .type "dict_keyiterator", data := .fields #[.ref d, .int 0 0, .int kvs.length 0, .int ep 0] }).get? b = some o → (((s.heap.push { cls := .type "dict_keyiterator", data := .fields #[.ref d, .int 0 0, .int kvs.length 0, .int ep 0] }).update S (Obj.mapSeq (·.push Value.none))).update S (Obj.mapSeq (·.pop))).get? b = some o :=
    fun b o hb e => (Heap.get?_update_other _ _ (Ne.symm hb)).trans ((Heap.get?_update_other _ _ (Ne.symm hb)).trans e)
  exact wpAny_pure ⟨plainId_quiet PySem.F.plain_extend_loop _, go _ _ _ (i1.at fun o e => oth _ o hSI.symm e) (i2.at' fun o e => oth _ o hSd.symm e) (fun b o hb e => oth b o hb (Heap.get?_push_of_some _ e)) hS₃⟩

/-- list(d) of a table -/
theorem dList {Q : Value → Shared → Prop} (hh : A.handled = none) (lo : (d == sysModules) = false) (hD : s.heap.DictAt (intKind prog w) d kvs ep) (hn : kvs.length ≤ sizeLine)
    (hQ : ∀ h' tk acc c', (∀ b o, s.heap.get? b = some o → h'.get? b = some o) → h'.get? s.heap.objs.size = some { cls := .type "list", dict := none, data := .seq acc c', slots := #[] } → ItemsOf (KeyAt (prog := prog) (w := w) kvs) acc kvs.length → Q (.ref s.heap.objs.size) { s with heap := h', toks := tk }) :
    wpAny (model prog w) A (call (.type "list") [.ref d]) Q E s := by
  refine callType_codes (Q₁ := fun obj s₁ => obj = .ref s.heap.objs.size ∧ s₁ = { s with heap := s.heap.push { cls := .type "list", data := .seq #[] } }) PySem.F.called_list (PySem.F.typeCall_list_1 _) PySem.F.entry_list_init
    (code_list_new _ ⟨rfl, rfl⟩) fun obj s₁ h₁ => ?_
  obtain ⟨rfl, rfl⟩ := h₁
  have hS : (s.heap.push { cls := .type "list", data := .seq #[] }).get? s.heap.objs.size = some { cls := .type "list", data := .seq #[] } := Heap.get?_push_size _ rfl
  have hSd : s.heap.objs.size ≠ d := Nat.ne_of_gt hD.lt_size
  refine ⟨⟨_, hS, rfl⟩, PySem.F.args_list_init_2 _ _, ?_⟩
  show wpAny _ _ (do let old ← Builtin.List.listItems (.ref s.heap.objs.size); Builtin.List.listUpdate (.ref s.heap.objs.size) (fun _ => #[]); letGo old.toList.reverse; Builtin.List.listExtendWith (.ref s.heap.objs.size) (.ref d) .none) _ _ _
  refine wpAny_bind ?_
  unfold Builtin.List.listItems
  refine wpAny_bind (wpAny_seqItems hS rfl (wpAny_pure ?_))
  show wpAny _ _ (updateSeq s.heap.objs.size (fun _ => #[]) >>= fun _ => letGo (#[] : Array Value).toList.reverse >>= fun _ => Builtin.List.listExtendWith (.ref s.heap.objs.size) (.ref d) .none) _ _ _
  refine wpAny_bind (wpAny_updateSeq hS rfl ?_)
  have hS₂ := Heap.get?_update_self (Obj.mapSeq (fun _ => (#[] : Array Value))) hS rfl
  have oth : ∀ b o, b ≠ s.heap.objs.size → (s.heap.push { cls := .type "list", data := .seq #[] }).get? b = some o → ((s.heap.push { cls := .type "list", data := .seq #[] }).update s.heap.objs.size (Obj.mapSeq (fun _ => (#[] : Array Value)))).get? b = some o :=
    fun b o hb e => (Heap.get?_update_other _ _ (Ne.symm hb)).trans e
  refine wpAny_bind (wpAny_letGo ?_)
  refine dFill (A := A.in1) hh lo ((hD.push _).at' fun o e => oth _ o hSd.symm e) hSd hn hS₂ fun h' tk acc c' hk hS' hacc => ?_
  exact ⟨rfl, hQ h' tk acc c' (fun b o e => hk b o (Nat.ne_of_lt (Heap.lt_size e)) (oth b o (Nat.ne_of_lt (Heap.lt_size e)) (Heap.get?_push_of_some _ e))) hS' hacc⟩
end
section
variable {X : Fix} {C : Ctx} {n : Nat} {sc : Scope} {ns : List Str} {Q Ex : Value → Shared → Prop} {P : Pt X n} {post : PQ} {H : Hp}
theorem low_of (G : X.Gl C) (P : Pt X n) : (P.s.heap.objs.size == sysModules) = false :=
  G.1.low.elim fun o ho => beq_eq_false_iff_ne.mpr fun e => absurd (Heap.lt_size (P.R.keep _ _ ho)) (by rw [e]; decide)
theorem size_none (P : Pt X n) : P.s.heap.get? P.s.heap.objs.size = none := none_size _ (Nat.le_refl _)
theorem dict_fz {h : Heap} {D : Addr} {o o' : Obj} {en : Array DictEntry} {ep : Nat} (e : h.get? D = some o) (hd : o.data = .dict en ep) (e' : h.get? D = some o') : fz o' = false := by rw [e] at e'; cases e'; exact fz_dict hd
abbrev dctObj : Obj := { cls := .type "dict", data := .dict #[] }
/-- a new table -/
abbrev Pt.newD (P : Pt X n) {c : Cell} (hc : CellAt X.W ⟨P.φ, P.s.heap.push dctObj⟩ P.s.heap.objs.size c) : Nx P (P.H ++ [c]) :=
  ⟨P.φ ++ [P.s.heap.objs.size], P.s.heap.push dctObj, P.s.toks, SR.adopt (p := ⟨P.φ, P.s.heap.push dctObj⟩) (SR.ext (p := P.w) P.R (.push _)) (P.R.new (p := P.w) (size_none P)) (fun o e => dict_fz (Heap.get?_push_size _ rfl) rfl e) hc, Stp.adopt (q := ⟨P.φ, P.s.heap.push dctObj⟩) (Stp.ext (q := P.w) .refl (.push _)) (size_none P)⟩
theorem Pt.newD_at (P : Pt X n) : (P.φ ++ [P.s.heap.objs.size])[P.H.length]? = some P.s.heap.objs.size := by rw [← P.R.len, List.getElem?_append_right (Nat.le_refl _), Nat.sub_self]; rfl
theorem cell_d0 (G : X.Gl C) (P : Pt X n) : CellAt X.W ⟨P.φ, P.s.heap.push dctObj⟩ P.s.heap.objs.size (.dict 0 []) := .dict (kvs := []) (en := #[]) (Heap.get?_push_size _ rfl) ⟨rfl, rfl, rfl⟩ rfl (fun e he => absurd he (Array.not_mem_empty e)) .nil .nil .nil (low_of G P) (Nat.zero_le _)
theorem cell_p0 (G : X.Gl C) (P : Pt X n) : CellAt X.W ⟨P.φ, P.s.heap.push dctObj⟩ P.s.heap.objs.size (.dicP 0 []) := .dicP (xs := []) (en := #[]) (Heap.get?_push_size _ rfl) ⟨rfl, rfl, rfl⟩ rfl rfl .nil .nil (low_of G P) (Nat.zero_le _)
theorem dct0_snd {pos : Pos} (G : X.Gl C) : EvS X C n sc ns .dct0 (.Dict [] [] pos) := fun P post Q Ex p k kx => wpAny_Dict_empty (k _ _ p (P.toPt.newD (cell_d0 G P.toPt)) _ (.ref P.toPt.newD_at))
theorem dctP_snd {pos : Pos} (G : X.Gl C) : EvS X C n sc ns .dctP (.Dict [] [] pos) := fun P post Q Ex p k kx => wpAny_Dict_empty (k _ _ p (P.toPt.newD (cell_p0 G P.toPt)) _ (.ref P.toPt.newD_at))
/-- a table of one entry: key and value, the table being there -/
theorem disp1 {c d : E} {k v : Expr} {pos : Pos} {post : V → V → Hp → Prop} (P : Fp X n sc ns) {ce : Cell} (hc : CellAt X.W ⟨P.φ, P.s.heap.push dctObj⟩ P.s.heap.objs.size ce) (hk : EvS X C n sc ns c k) (hv : EvS X C n sc ns d v) (p : WE C c P.ρ (P.H ++ [ce]) fun x H => WE C d P.ρ H fun y H => post x y H)
    (kn : ∀ u w H, post u w H → ∀ (N : Nx P.toPt H) x y, N.φ[P.H.length]? = some P.s.heap.objs.size → Rep X.W.scr N.w u x → Rep X.W.scr N.w w y → wpAny X.M P.A (dictSet P.s.heap.objs.size x y) (fun _ s₂ => Q (.ref P.s.heap.objs.size) s₂) Ex N.s) (kx : Kn P.toPt (C.exc P.ρ) Ex) : wpAny X.M P.A (eval (.Dict [some k] [v] pos) P.env) Q Ex P.s :=
  wpAny_Dict_any rfl rfl (fun e => nomatch e) (show (1 : Nat) ≤ 15 by decide) (pairTrees_cons_walk (ev2 hk hv (P.to (P.toPt.newD hc)) p (fun u w H q N x y r1 r2 => pairTrees_nil_walk (wpAny_bind (wpAny_bind (wpAny_mono (kn u w H q ((P.toPt.newD hc).then N) x y (N.S.pre _ _ P.toPt.newD_at) r1 r2) (fun _ s₂ h => wpAny_pure (wpAny_pure h)) fun _ _ h => h)))) (kx.nx _)))
theorem dct1_snd {c d : E} {k v : Expr} {pos : Pos} (G : X.Gl C) (hk : EvS X C n sc ns c k) (hv : EvS X C n sc ns d v) : EvS X C n sc ns (.dct1 c d) (.Dict [some k] [v] pos) := fun P post Q Ex p kn kx =>
  disp1 P (cell_d0 G P.toPt) hk hv p (fun u w H q N x y hφ r1 r2 => wInt.k q (fun u => Rep X.W.scr N.w u x → _) (fun j q r1 => r1.inv (fun x => wpAny X.M P.A (dictSet P.s.heap.objs.size x y) (fun _ s₂ => Q (.ref P.s.heap.objs.size) s₂) Ex N.s) fun t => N.R.at q.1 fun a ha hc => hc.inv _ fun o en kvs x0 x1 x2 x3 x4 x5 q' z m => by
    rw [show N.φ[P.H.length]? = some a from ha] at hφ
    cases hφ
    cases q'
    rw [G.1.same.1, G.1.same.2] at x3 x4
    refine wpAny_dictSet_pairs (knd := intKind X.prog X.w) (k := j) (kvs := []) (beq_self_eq_true j) ⟨o, en, 0, x0, x1, x2, x3, x4, x5⟩ (fun h3 hm hs => hm.elim fun o3 w3 => w3.elim fun en w3 => w3.elim fun ep w3 => ?_) (Nat.zero_le _)
    exact kn _ _ (q.2 ep) (N.then (N.pt.set ha hs.extBut (.dict w3.1 w3.2.1 w3.2.2.1 (by rw [G.1.same.1, G.1.same.2]; exact w3.2.2.2.1) (by rw [G.1.same.1, G.1.same.2]; exact w3.2.2.2.2.1) w3.2.2.2.2.2 (.cons ⟨rfl, r2.kp (N.pt.cellKp ha hs.extBut)⟩ .nil) z (show (1 : Nat) ≤ 16000000 by decide)) _)) _ (.ref ha)) r1) kx
theorem dctP1_snd {c d : E} {k v : Expr} {pos : Pos} (G : X.Gl C) (hk : EvS X C n sc ns c k) (hv : EvS X C n sc ns d v) : EvS X C n sc ns (.dctP1 c d) (.Dict [some k] [v] pos) := fun P post Q Ex p kn kx =>
  disp1 P (cell_p0 G P.toPt) hk hv p (fun u w H q N x y hφ r1 r2 => wSome.k q fun j ej q => pairOf.k ej (fun u => Rep X.W.scr N.w u x → _) (fun r1 => r1.inv (fun x => Rep X.W.scr N.w (pairV j) x → wpAny X.M P.A (dictSet P.s.heap.objs.size x y) (fun _ s₂ => Q (.ref P.s.heap.objs.size) s₂) Ex N.s) (fun ka _ _ _ _ _ _ r1 => N.R.at q.1 fun a ha hc => hc.inv _ fun o en kvs x0 x1 x2 x3 x4 q' z m => by
    rw [show N.φ[P.H.length]? = some a from ha] at hφ
    cases hφ
    cases q'
    rw [G.1.same.1, G.1.same.2] at x3
    refine wpAny_dictSet_heap (knd := pKind X.prog X.w) (k := pK j) (xs := []) (by show P.A.units < cLine; have := P.rm.units; (first | lia | omega)) (pair_is r1) ⟨o, en, 0, x0, x1, x2, x3, (fun q hq => nomatch hq), x4⟩ (fun h3 hm hs => hm.elim fun o3 w3 => w3.elim fun en w3 => w3.elim fun ep w3 => ?_) (Nat.zero_le _)
    have K := N.pt.cellKp ha hs.extBut
    exact kn _ _ (q.2 ep) (N.then (N.pt.set ha hs.extBut (.dicP w3.1 w3.2.1 w3.2.2.1 (by rw [G.1.same.1, G.1.same.2]; exact w3.2.2.2.1) w3.2.2.2.2.2 (.cons ⟨rfl, r1.kp K, r2.kp K⟩ .nil) z (show (1 : Nat) ≤ 16000000 by decide)) _)) _ (.ref ha)) r1) r1) kx
end
end Mine

end
section
set_option autoImplicit false
set_option linter.unusedVariables false
set_option linter.unusedSimpArgs false
namespace Mine
open PySem PySem.Calls PyProof.Rows

section
variable {X : Fix} {C : Ctx} {n : Nat} {sc : Scope} {ns : List Str} {Q Ex : Value → Shared → Prop} {P : Pt X n} {post : PQ} {H : Hp}
theorem repL_of {scr : Addr} {p : Ws} : ∀ {vs : List V} {xs : List Value}, vs.length = xs.length → (∀ (j : Nat) v x, vs[j]? = some v → xs[j]? = some x → Rep scr p v x) → RepL scr p vs xs
  | [], [], _, _ => .nil
  | [], _ :: _, h, _ => nomatch h
  | _ :: _, [], h, _ => nomatch h
  | v :: vs, x :: xs, h, k => .cons (k 0 v x rfl rfl) (repL_of (Nat.succ.inj h) fun j v x h1 h2 => k (j + 1) v x h1 h2)
theorem keys_rep {p : Ws} {es : List (Int × V)} {kvs : List (Int × Value)} {acc : Array Value} (q : L2 (KvR X.W.scr p) es kvs) (h : ItemsOf (KeyAt (prog := X.prog) (w := X.w) kvs) acc kvs.length) : RepL X.W.scr p (es.map fun p => .int p.1) acc.toList :=
  repL_of (by rw [List.length_map, q.length, Array.length_toList]; exact h.1.symm) fun j v x h1 h2 => by
    rw [List.getElem?_map] at h1
    refine mapk (fun v => Rep X.W.scr p v x) h1 fun e he => ?_
    exact (h.2 j x (by rw [← Array.getElem?_toList]; exact h2)).elim fun k w => w.elim fun y w => by
      obtain ⟨t, rfl⟩ := Value.isInt_shape w.2
      rw [(q.get he w.1).1]
      exact .int _ _
/-- list(x) of a list, a tuple, a table -/
theorem copy_at {v : V} {x : Value} {us : List V} (G : X.Gl C) (r : Rep X.W.scr P.w v x) (e : copyOf P.H v = some us) (k : Kn P post Q) (p : WAllocL us P.H post) : wpAny X.M P.A (call (.type "list") [x]) Q Ex P.s := by
  refine wOk.k p fun hz p => ?_
  have hz := Nat.le_of_lt (of_decide_eq_true hz)
  have seq : ∀ {a xs T o c}, T = "list" ∨ T = "tuple" → P.s.heap.get? a = some o → o.cls = .type T → o.data = .seq (List.toArray xs) c → RepL X.W.scr P.w us xs → wpAny X.M P.A (call (.type "list") [.ref a]) Q Ex P.s := fun t1 t2 t3 t4 r =>
    call_list_seq _ t1 t2 t3 t4 (fun h2 c' w1 w2 => k.list w1 _ (size_none P) w2 r hz p P.s.toks) (by rw [List.size_toArray, ← r.length]; unfold sizeLine; (first | lia | omega))
  unfold copyOf at e
  cases ed : dictAt' P.H v with
  | some es =>
    rw [ed] at e; cases e
    exact dct r G ed (fun x => wpAny X.M P.A (call (.type "list") [x]) Q Ex P.s) fun l ep a kvs ev hl ha hD q hs hn => hD.dictAt.elim fun epc hat =>
      dList P.rm.handled hs hat (by rw [← q.length]; unfold sizeLine; (first | lia | omega)) fun h2 tk2 acc c' w1 w2 w3 => k.list (xs := acc.toList) w1 _ (size_none P) (by rw [w2]) (keys_rep q w3) hz p tk2
  | none =>
    rw [ed] at e
    cases et : tupOf v with
    | some vs => rw [et] at e; cases e; exact tupOf.k et (fun v => Rep X.W.scr P.w v x → _) (fun r => r.inv (fun x => wpAny X.M P.A (call (.type "list") [x]) Q Ex P.s) fun a m xs h1 h2 _ _ => seq (.inr rfl) h1 rfl rfl h2) r
    | none => rw [et] at e; exact lst r e (fun x => wpAny X.M P.A (call (.type "list") [x]) Q Ex P.s) fun _ a xs m _ _ _ h1 h2 _ => seq (.inl rfl) h1 rfl rfl h2
theorem listOf_snd {a : E} {g e : Expr} {pos : Pos} (G : X.Gl C) (hg : isGl sc "list" g = true) (h : LsS X C n sc ns [a] [e]) : EvS X C n sc ns (.listOf a) (.Call g [e] [] pos) := fun P post Q Ex p k kx =>
  callT (post := fun vs H => w1 vs fun x => wSome (copyOf H x) fun vs => WAllocL vs H post) G hg (bi_mem 5 (by decide)) ⟨_, rfl⟩ h p (fun vs H1 p1 _ N xs r => w1.k p1 (fun vs => RepL X.W.scr N.w vs xs → _) (fun v p1 r => r.k1 (fun xs => wpAny X.M P.A (call (.type "list") xs) Q Ex N.s) fun x r => wSome.k p1 fun us e p1 => copy_at (P := N.pt) G r e (k.nx N) p1) r) kx
theorem range_rep {scr : Addr} {p : Ws} {m : Nat} {acc : Array Value} {y : Int} (hm : (y - 0).toNat = m) (h : ItemsOf (fun i v => ∃ t, v = Value.int (0 + i * 1) t) acc m) : RepL scr p (rangeV 0 y) acc.toList :=
  repL_of (by unfold rangeV; rw [List.length_map, List.length_range, Array.length_toList, hm]; exact h.1.symm) fun j v x h1 h2 => by
    unfold rangeV at h1
    rw [List.getElem?_map] at h1
    refine mapk (fun v => Rep scr p v x) h1 fun i hi => ?_
    have hi := List.getElem?_eq_some_iff.mp hi
    have hj : j = i := by rw [← hi.2, List.getElem_range]
    exact (h.2 j x (by rw [← Array.getElem?_toList]; exact h2)).elim fun t e => by rw [e, hj, Int.mul_one]; exact .int _ _
theorem listR_snd {b : E} {g g' e : Expr} {rpos pos : Pos} (G : X.Gl C) (hg : isGl sc "list" g = true) (hg' : isGl sc "range" g' = true) (h : LsS X C n sc ns [b] [e]) : EvS X C n sc ns (.listR b) (.Call g [.Call g' [e] [] rpos] [] pos) := fun P post Q Ex p k kx =>
  ifName.k (G := fun g => wpAny X.M P.A (eval (.Call g [.Call g' [e] [] rpos] [] pos) P.env) Q Ex P.s) hg fun x np hg => andk hg fun e1 ho => by
    obtain rfl := eq_of_beq e1
    refine wpAny_Call_NameR (glob_bi G P (bi_mem 5 (by decide)) ho (PySem.callWith_type rfl (evalArgs_of rfl (wpAny_items_cons ?_ rfl))))
    exact callT (post := fun vs H => w1 vs fun y => wInt y fun j => (0 ≤ j ∧ j < 16000000) ∧ newL (rangeV 0 j) H post) G hg' (bi_mem 6 (by decide)) ⟨_, rfl⟩ h p (fun vs H1 p1 _ N xs r => w1.k p1 (fun vs => RepL X.W.scr N.w vs xs → _) (fun v p1 r => wInt.k p1 (fun v => RepL X.W.scr N.w [v] xs → _) (fun j p1 r => r.k1 (fun xs => wpAny X.M P.A (call (.type "range") xs) _ Ex N.s) fun x r => r.inv (fun x => wpAny X.M P.A (call (.type "range") [x]) _ Ex N.s) fun t => call_range_1 (wpAny_items_nil (
      call_list_range (n := (j - 0).toNat) P.rm.handled (IsRange.new _ _ _ _ _ _ _) (small_one (by (first | lia | omega)) (by (first | lia | omega)) (by (first | lia | omega)) (by (first | lia | omega))) (by rw [rangeSize_one]; split <;> (first | lia | omega)) (by (first | lia | omega)) fun h2 tk2 acc c' w1 w2 w3 =>
        Kn.list (P := (N.pt.ext (.push _) _).pt) (xs := acc.toList) ((k.nx N).nx (N.pt.ext (.push _) _)) w1 _ (none_size _ (Nat.le_refl _)) (by rw [w2]) (range_rep rfl w3) (by unfold rangeV; rw [List.length_map, List.length_range]; (first | lia | omega)) p1.2 tk2))) r) r) kx
end
end Mine

end
section
set_option autoImplicit false
set_option linter.unusedVariables false
set_option linter.unusedSimpArgs false
set_option maxRecDepth 100000
namespace Mine
open PySem PySem.Calls PyProof.Rows

/-- sorting a list by a key, as the model does it: the end, the sort itself, the whole -/
def kTail (a : Addr) (before : Nat) (st : Value) (z : SortSt) : Sem PySem.Fin := do
  let sorted := (arrOf z).map (·.2)
  Builtin.List.listUpdate st fun _ => #[]
  letGo ((arrOf z).map (·.1)).toList (failedOf z).toList
  let touched := (← seqEpoch a) != before
  Builtin.List.listUpdate (.ref a) fun _ => sorted
  if let some e := failedOf z then rule "list.sort.comparison-raised"; throw e
  if touched then rule "list.sort.modified"; raiseError "ValueError" "list modified during sort"
  ret .none
def kMid (a : Addr) (items : Array Value) (before : Nat) (st : Value) (keys : Array Value) : Sem PySem.Fin := do
  let kind ← if items.size < 2 then pure general' else keyKind' keys
  let ((), z) ← (if items.size < 2 then pure () else sortRuns').run (SortSt.mk' kind (keys.zip items) #[] 7 none)
  kTail a before st z
def kRest (a : Addr) (f : Value) (items : Array Value) (before : Nat) (st : Value) : Sem PySem.Fin := do
  rule "list.sort.key"
  for x in items do
    match ← (call f [x]).attempt with
    | .ok k => Builtin.List.listUpdate st (·.push k)
    | .error e =>
      rule "list.sort.key-raised"
      let made ← Builtin.List.listItems st
      Builtin.List.listUpdate st fun _ => #[]
      letGo made.toList.reverse [e]
      Builtin.List.listUpdate (.ref a) fun _ => items; throw e
  let keys ← Builtin.List.listItems st
  kMid a items before st keys
theorem keyTree (a q : Addr) : Builtin.«list.sort» ⟨[.ref a], [(Str.ofString "key", .ref q)]⟩ = (do
    let items ← Builtin.List.listItems (.ref a)
    Builtin.List.listUpdate (.ref a) fun _ => #[]
    let before ← seqEpoch a
    let held ← newTuple items.toList
    let keyStore ← newList []
    holding [held, keyStore] (kRest a (.ref q) items before keyStore)) := rfl

section
variable {M : Model} {A : Around} {E : Value → Shared → Prop}
theorem foldI {body : Value → PUnit → Sem (ForInStep PUnit)} {Q : PUnit → Shared → Prop} (I : List Value → Shared → Prop) (step : ∀ x r s', I (x :: r) s' → wpAny M A (body x ⟨⟩) (fun y s'' => y = .yield ⟨⟩ ∧ I r s'') E s')
    (fin : ∀ s', I [] s' → Q ⟨⟩ s') : ∀ (vs : List Value) (s : Shared), I vs s → wpAny M A (forIn vs PUnit.unit body) Q E s
  | [], s, h => by rw [List.forIn_nil]; exact wpAny_pure (fin s h)
  | x :: r, s, h => by
    rw [List.forIn_cons]
    refine wpAny_bind (wpAny_mono (step x r s h) (fun y s' hy => ?_) fun _ _ e => e)
    obtain ⟨rfl, hI⟩ := hy
    exact foldI I step fin r s' hI
end
theorem IntsAre.snoc {n : Int} {t : Tok} : ∀ {vs : List Value} {ns : List Int}, IntsAre vs ns → IntsAre (vs ++ [.int n t]) (ns ++ [n])
  | _, _, .nil => .cons n t .nil
  | _, _, .cons n' t' h => .cons n' t' (IntsAre.snoc h)
theorem IntsAre.isInt : ∀ {vs : List Value} {ns : List Int}, IntsAre vs ns → ∀ v ∈ vs, ∃ n t, v = .int n t
  | _, _, .nil, v, h => nomatch h
  | _, _, .cons n t r, v, h => by
    rcases List.mem_cons.mp h with rfl | h
    · exact ⟨n, t, rfl⟩
    · exact IntsAre.isInt r v h
theorem kind_of {keys : Array Value} {kz : List Int} (hk : IntsAre keys.toList kz) (h2 : 2 ≤ keys.size) : keyKind' keys = pure oneType' := by
  have hl : 2 ≤ keys.toList.length := by rw [Array.length_toList]; exact h2
  obtain ⟨l⟩ := keys
  match l, hl, hk with
  | a :: b :: r, _, hk => exact keyKind_ints hk

section
variable {prog : Program} {w : World} {A : Around} {E : Value → Shared → Prop} {s : Shared}
theorem list_at {h : Heap} {a : Addr} {xs : Array Value} {n : Nat} {o : Obj} (e : h.get? a = some (seqObj "list" xs n)) (e' : h.get? a = some o) : fz o = false := by
  rw [e] at e'; cases e'; exact fz_cls (nm := "list") rfl rfl rfl
abbrev D2 (D kS : Addr) (a : Addr) : Prop := a = D ∨ a = kS
theorem zip_list (keys : Array Value) (vs : List Value) : (keys.zip vs.toArray).toList = keys.toList.zip vs := by obtain ⟨l⟩ := keys; simp
theorem kTail_ok {D kS : Addr} {vs : List Value} {keys : Array Value} {e e1 : Nat} {P : PySem.Fin → Shared → Prop} {z : SortSt} (hne : kS ≠ D) (nk : s.heap.get? kS = some (seqObj "list" keys e)) (na : s.heap.get? D = some (seqObj "list" #[] e1))
    (hsz : keys.size = vs.length) (h64 : vs.length < 64) (hp : (arrOf z).Perm (keys.zip vs.toArray)) (hf : failedOf z = none)
    (h : ∀ h' (out : List Value) c, Ch (D2 D kS) s.heap h' → h'.get? D = some (lstObj out c) → out.Perm vs → P (.done (.ret .none)) { s with heap := h' }) :
    wpAny (model prog w) A (kTail D e1 (.ref kS) z) P E s := by
  have hzs : (keys.zip vs.toArray).size = vs.length := by rw [Array.size_zip, hsz, List.size_toArray, Nat.min_self]
  have hzz : (arrOf z).size = vs.length := by rw [hp.size_eq, hzs]
  generalize hout : (arrOf z).map (·.2) = out
  have hos : out.size = vs.length := by rw [← hout, Array.size_map, hzz]
  have hop : out.toList.Perm vs := by
    have hl2 := (Array.perm_iff_toList_perm.mp hp).map (·.2)
    rw [zip_list, List.map_snd_zip (Nat.le_of_eq (hsz.symm.trans (Array.length_toList ..).symm))] at hl2
    rw [← hout, Array.toList_map]; exact hl2
  have s1 := Heap.SameBut.update s.heap kS (Obj.mapSeq fun _ => (#[] : Array Value))
  have na1 : (s.heap.update kS (Obj.mapSeq fun _ => (#[] : Array Value))).get? D = some (seqObj "list" #[] e1) := (s1.2 D hne.symm).trans na
  have s2 := Heap.SameBut.update (s.heap.update kS (Obj.mapSeq fun _ => (#[] : Array Value))) D (Obj.mapSeq fun _ => out)
  have hc2 := get?_update_seq na1 fun _ => out
  unfold kTail
  rw [hf]
  refine wpAny_bind (listUpdate_at nk rfl ?_ (by rw [hsz, sizeLine_eq]; (first | lia | omega)) (Nat.zero_le _))
  refine wpAny_bind (wpAny_letGo ?_)
  refine wpAny_bind (seqEpoch_at na1 rfl ?_)
  rw [hout]
  refine wpAny_bind (listUpdate_at na1 rfl ?_ (Nat.zero_le _) (Nat.le_trans (Nat.le_of_eq hos) (by rw [sizeLine_eq]; (first | lia | omega))))
  simp only [bne_self_eq_false, Bool.false_eq_true, if_false]
  refine wpAny_pure (h _ out.toList _ (fun b o eb hb => ?_) (by rw [hc2]) hop)
  by_cases e1 : b = D
  · exact no (hb (.inl e1)) (list_at (e1 ▸ na) eb)
  · by_cases e2 : b = kS
    · exact no (hb (.inr e2)) (list_at (e2 ▸ nk) eb)
    · exact (s2.2 b e1).trans ((s1.2 b e2).trans eb)
theorem kMid_ok {D kS : Addr} {vs : List Value} {keys : Array Value} {kz : List Int} {e e1 : Nat} {P : PySem.Fin → Shared → Prop} (hne : kS ≠ D) (nk : s.heap.get? kS = some (seqObj "list" keys e)) (na : s.heap.get? D = some (seqObj "list" #[] e1))
    (hk : IntsAre keys.toList kz) (hlen : kz.length = vs.length) (h64 : vs.length < 64)
    (h : ∀ h' (out : List Value) c, Ch (D2 D kS) s.heap h' → h'.get? D = some (lstObj out c) → out.Perm vs → P (.done (.ret .none)) { s with heap := h' }) :
    wpAny (model prog w) A (kMid D vs.toArray e1 (.ref kS) keys) P E s := by
  have hsz : keys.size = vs.length := by
    have h1 := hk.length
    rw [Array.length_toList] at h1
    (first | lia | omega)
  have hzs : (keys.zip vs.toArray).size = vs.length := by rw [Array.size_zip, hsz, List.size_toArray, Nat.min_self]
  unfold kMid
  by_cases h2 : vs.toArray.size < 2
  · rw [if_pos h2, if_pos h2]
    refine wpAny_bind (wpAny_pure ?_)
    dsimp only
    rw [StateT.run_pure]
    refine wpAny_bind (wpAny_pure ?_)
    exact kTail_ok (z := SortSt.mk' general' (keys.zip vs.toArray) #[] 7 none) hne nk na hsz h64 (Array.Perm.refl _) rfl h
  · rw [if_neg h2, if_neg h2]
    rw [List.size_toArray] at h2
    rw [kind_of hk (by rw [hsz]; (first | lia | omega))]
    refine wpAny_bind (wpAny_pure ?_)
    refine wpAny_bind (wpAny_mono (wpS_sortRuns (a₀ := keys.zip vs.toArray) (st := SortSt.mk' oneType' (keys.zip vs.toArray) #[] 7 none)
      (Q := fun _ z => (arrOf z).Perm (keys.zip vs.toArray) ∧ failedOf z = none) (fun p hp => ?_) ⟨Array.Perm.refl _, rfl, rfl, rfl⟩ (by rw [hzs]; (first | lia | omega)) (by rw [hzs]; exact h64) fun z a1 a2 a3 => ⟨a1, a2⟩) ?_ fun _ _ e => e)
    · rw [zip_list] at hp
      obtain ⟨x, y⟩ := p
      exact IntsAre.isInt hk _ (List.of_mem_zip hp).1
    · rintro ⟨⟨⟩, z⟩ s' ⟨rfl, hp, hf⟩
      exact kTail_ok hne nk na hsz h64 hp hf h
end
end Mine

end
section
set_option autoImplicit false
set_option linter.unusedVariables false
set_option linter.unusedSimpArgs false
set_option maxRecDepth 100000
namespace Mine
open PySem PySem.Calls PyProof.Rows

section
variable {prog : Program} {w : World} {A : Around} {E : Value → Shared → Prop} {s : Shared}
/-- what a key's call comes to -/
noncomputable def KeyEnd (J : Heap → Prop) (io : Addr → Prop) (s : Shared) (h : Heap) (r : Value) (s' : Shared) : Prop :=
  ∃ h' tk k t, s' = { s with heap := h', toks := tk } ∧ r = .int k t ∧ J h' ∧ ∀ a, io a → ∀ o, isD o = false → h.get? a = some o → h'.get? a = some o

theorem kRest_ok (J : Heap → Prop) {D kS : Addr} {f : Value} {vs : List Value} {e1 : Nat} {P : PySem.Fin → Shared → Prop} (hne : kS ≠ D) (nk : s.heap.get? kS = some (seqObj "list" #[] 0)) (na : s.heap.get? D = some (seqObj "list" #[] e1)) (h64 : vs.length < 64) (hJ : J s.heap)
    (stab : ∀ h h', J h → Ch (D2 D kS) h h' → J h')
    (turn : ∀ h tk v, v ∈ vs → J h → wpAny (model prog w) A (call f [v]) (KeyEnd J (D2 D kS) s h) (fun _ _ => False) { s with heap := h, toks := tk })
    (h : ∀ h' tk (out : List Value) c, J h' → h'.get? D = some (lstObj out c) → out.Perm vs → P (.done (.ret .none)) { s with heap := h', toks := tk }) :
    wpAny (model prog w) A (kRest D f vs.toArray e1 (.ref kS)) P E s := by
  unfold kRest
  refine wpAny_bind (wpAny_rule ?_)
  rw [List.forIn_toArray]
  refine wpAny_bind (foldI (fun r s' => ∃ h tk kA e kz, s' = { s with heap := h, toks := tk } ∧ J h ∧ h.get? kS = some (seqObj "list" kA e) ∧ h.get? D = some (seqObj "list" #[] e1) ∧ IntsAre kA.toList kz ∧ kz.length + r.length = vs.length ∧ ∀ v ∈ r, v ∈ vs)
    ?step ?done vs s ⟨s.heap, s.toks, #[], 0, [], rfl, hJ, nk, na, .nil, by simp, fun v hv => hv⟩)
  case step =>
    rintro x r s' ⟨h, tk, kA, e, kz, rfl, hJ, nk, na, hk, hl, hr⟩
    have hz : kA.size ≤ vs.length := by
      have h1 := hk.length
      rw [Array.length_toList] at h1
      (first | lia | omega)
    refine wpAny_bind (wpAny_attempt (wpAny_mono (turn h tk x (hr x (.head _)) hJ) (fun v s'' he => ?_) fun _ _ hF => hF.elim))
    obtain ⟨g, tk2, k, t, rfl, rfl, hJ2, hkeep⟩ := he
    have nk2 := hkeep kS (.inr rfl) _ rfl nk
    have na2 := hkeep D (.inl rfl) _ rfl na
    have s1 := Heap.SameBut.update g kS (Obj.mapSeq (·.push (.int k t)))
    have hc2 := get?_update_seq nk2 (·.push (.int k t))
    have ea : (kA.push (Value.int k t)).toList = kA.toList ++ [Value.int k t] := by simp
    refine wpAny_bind (listUpdate_at nk2 rfl ?_ (by rw [sizeLine_eq]; (first | lia | omega)) (Nat.le_trans (Nat.le_of_eq (Array.size_push ..)) (by rw [sizeLine_eq]; (first | lia | omega))))
    refine wpAny_pure ⟨rfl, _, _, kA.push (.int k t), _, kz ++ [k], rfl, stab _ _ hJ2 (fun b o eb hb => (Classical.em (b = kS)).elim (fun e' => no (hb (.inr e')) (list_at (e' ▸ nk2) eb)) fun e' => (s1.2 b e').trans eb), hc2, (s1.2 D hne.symm).trans na2, by rw [ea]; exact IntsAre.snoc hk, ?_, fun v hv => hr v (.tail _ hv)⟩
    · rw [List.length_append, List.length_singleton]
      rw [List.length_cons] at hl
      (first | lia | omega)
  case done =>
    rintro s' ⟨h0, tk, kA, e, kz, rfl, hJ, nk, na, hk, hl, _⟩
    refine wpAny_bind (listItems_at nk rfl ?_)
    refine kMid_ok hne nk na hk (by simpa using hl) h64 fun h' out c hF hD hp => ?_
    exact h h' tk out c (stab _ _ hJ hF) hD hp

theorem argsSorted (a v : Value) : argsOk "sorted" ⟨[a], [(Str.ofString "key", v)]⟩ := by unfold argsOk; kernel_rfl
theorem argsSort (a v : Value) : argsOk "list.sort" ⟨[a], [(Str.ofString "key", v)]⟩ := by unfold argsOk; kernel_rfl
/-- sorted(l, key=f): some order of the items -/
theorem keySorted (J : Heap → Prop) {l q : Addr} {vs : List Value} {Q : Value → Shared → Prop} (hl : s.heap.IsList l vs.toArray) (h64 : vs.length < 64) (hJ : J s.heap)
    (stab : ∀ h h', J h → Ch (D2 (s.heap.objs.size + 1) (s.heap.objs.size + 3)) h h' → J h')
    (turn : ∀ h tk v, v ∈ vs → J h → wpAny (model prog w) A.in1.in1 (call (.ref q) [v]) (KeyEnd J (D2 (s.heap.objs.size + 1) (s.heap.objs.size + 3)) s h) (fun _ _ => False) { s with heap := h, toks := tk })
    (h : ∀ h' tk (out : List Value) c, J h' → h'.get? (s.heap.objs.size + 1) = some (lstObj out c) → out.Perm vs → Q (.ref (s.heap.objs.size + 1)) { s with heap := h', toks := tk }) :
    wpAny (model prog w) A (call (.builtin "sorted") [.ref l] [(Str.ofString "key", .ref q)]) Q E s := by
  refine call_function_entry_kw kind_sorted plain_sorted entry_sorted (argsSorted _ _) ?_
  unfold Builtin.«sorted»
  refine wpAny_bind (m := checkCount "sorted" 1 1 _) (wpAny_pure ?_)
  refine wpAny_bind (collect_list hl ?_ (by rw [sizeLine_eq]; (first | lia | omega)))
  refine wpAny_bind (wpAny_newList ?_ (by rw [sizeLine_eq]; (first | lia | omega)))
  have hsz : ((s.heap.push (seqObj "list" #[] 0)).update s.heap.objs.size (Obj.mapSeq (· ++ vs.toArray))).objs.size = s.heap.objs.size + 1 := by
    rw [Heap.size_update, size_push']
  generalize hg : (s.heap.push (seqObj "list" #[] 0)).update s.heap.objs.size (Obj.mapSeq (· ++ vs.toArray)) = g at hsz
  have keep1 : ∀ b o, s.heap.get? b = some o → g.get? b = some o := fun b o e => by
    have hlt := Heap.lt_size e
    rw [← hg, Heap.get?_update_ne _ _ _ _ (Nat.ne_of_lt hlt), Heap.get?_push_ne _ _ _ (Nat.ne_of_lt hlt)]
    exact e
  clear hg
  have hoL : (g.push (seqObj "list" vs.toArray 0)).get? (s.heap.objs.size + 1) = some (seqObj "list" vs.toArray 0) := by
    rw [← hsz]; exact Heap.get?_push_size _ rfl
  show wpAny _ _ _ _ _ { s with heap := g.push (seqObj "list" vs.toArray 0) }
  rw [hsz]
  refine wpAny_bind (wpAny_holding (wpAny_call_entry_kw slot_list_sort ⟨_, hoL, rfl⟩ entry_list_sort ?body (argsSort _ _)))
  case body =>
    show wpAny (model prog w) A.in1.in1 (Builtin.«list.sort» ⟨[.ref (s.heap.objs.size + 1)], [(Str.ofString "key", .ref q)]⟩) _ _ _
    rw [keyTree]
    have hgs : (g.push (seqObj "list" vs.toArray 0)).objs.size = s.heap.objs.size + 2 := by rw [size_push', hsz]
    generalize hg2 : g.push (seqObj "list" vs.toArray 0) = g2 at hoL hgs
    have keep2 : ∀ b o, s.heap.get? b = some o → g2.get? b = some o := fun b o e => by rw [← hg2]; exact Heap.get?_push_of_some _ (keep1 b o e)
    clear hg2
    have s1 := Heap.SameBut.update g2 (s.heap.objs.size + 1) (Obj.mapSeq fun _ => (#[] : Array Value))
    have ho1 := get?_update_seq hoL fun _ => (#[] : Array Value)
    have hus : (g2.update (s.heap.objs.size + 1) (Obj.mapSeq fun _ => (#[] : Array Value))).objs.size = s.heap.objs.size + 2 := by rw [Heap.size_update, hgs]
    generalize hg3 : g2.update (s.heap.objs.size + 1) (Obj.mapSeq fun _ => (#[] : Array Value)) = g3 at s1 ho1 hus
    have hk3 : (g3.push (seqObj "tuple" vs.toArray 0)).objs.size = s.heap.objs.size + 3 := by rw [size_push', hus]
    refine wpAny_bind (listItems_at hoL rfl ?_)
    refine wpAny_bind (listUpdate_at hoL rfl ?_ (by rw [List.size_toArray, sizeLine_eq]; (first | lia | omega)) (Nat.zero_le _))
    show wpAny _ _ _ _ _ { s with heap := g2.update (s.heap.objs.size + 1) (Obj.mapSeq fun _ => (#[] : Array Value)) }
    rw [hg3]
    refine wpAny_bind (seqEpoch_at ho1 rfl ?_)
    refine wpAny_bind (wpAny_newTuple ?_ (by show vs.length ≤ _; rw [sizeLine_eq]; (first | lia | omega)))
    refine wpAny_bind (wpAny_newList ?_ (Nat.zero_le _))
    refine wpAny_holding ?_
    show wpAny _ _ (kRest _ _ _ _ (.ref (g3.push (seqObj "tuple" vs.toArray 0)).objs.size)) _ _ { s with heap := (g3.push (seqObj "tuple" vs.toArray 0)).push (seqObj "list" #[] 0) }
    have nk := Heap.get?_push_size (g3.push (seqObj "tuple" vs.toArray 0)) (o := seqObj "list" #[] 0) rfl
    rw [hk3] at nk ⊢
    refine kRest_ok (s := { s with heap := (g3.push (seqObj "tuple" vs.toArray 0)).push (seqObj "list" #[] 0) }) (kS := s.heap.objs.size + 3) (D := s.heap.objs.size + 1) J (fun e => absurd (Nat.add_left_cancel e) (by decide)) nk (Heap.get?_push_of_some _ (Heap.get?_push_of_some _ ho1)) h64 (stab _ _ hJ fun b o eb hb => ?_) stab turn fun h' tk out c hJ' hD hp => ⟨_, rfl, ?_⟩
    · exact Heap.get?_push_of_some _ (Heap.get?_push_of_some _ ((s1.2 b fun e => absurd (Heap.lt_size eb) (by rw [e]; exact Nat.not_lt.mpr (Nat.le_succ _))).trans (keep2 b o eb)))
    · exact wpAny_pure ⟨_, rfl, h h' tk out c hJ' hD hp⟩
end
end Mine

end
section
set_option autoImplicit false
set_option linter.unusedVariables false
set_option linter.unusedSimpArgs false
namespace Mine
open PySem PySem.Calls PyProof.Rows

theorem lookup_zip {α : Type} : ∀ {ps : List Str} {xs : List α} {i : Nat} {x : Str} {v : α}, ps.Nodup → ps[i]? = some x → xs[i]? = some v → (ps.zip xs).lookup x = some v
  | [], _, i, x, v, _, h, _ => none_some List.getElem?_nil h
  | p :: ps, [], i, x, v, _, _, h => none_some List.getElem?_nil h
  | p :: ps, y :: xs, 0, x, v, _, h1, h2 => by rw [List.zip_cons_cons, ← Option.some.inj h1, List.lookup_cons_self]; exact h2
  | p :: ps, y :: xs, i + 1, x, v, hn, h1, h2 => by
    have hn := List.nodup_cons.mp hn
    rw [List.zip_cons_cons, List.lookup_cons, show (x == p) = false from beq_eq_false_iff_ne.mpr fun e => hn.1 (e ▸ List.mem_of_getElem? h1)]
    exact lookup_zip (i := i) hn.2 h1 h2
theorem filterMap_zip {α : Type} : ∀ {ps : List Str} {xs : List α} {f : Str → Option α}, ps.length = xs.length → (∀ (i : Nat) (x : Str) (v : α), ps[i]? = some x → xs[i]? = some v → f x = some v) → ps.filterMap (fun n => (f n).map (n, ·)) = ps.zip xs
  | [], [], _, _, _ => rfl
  | [], _ :: _, _, h, _ => nomatch h
  | _ :: _, [], _, h, _ => nomatch h
  | p :: ps, x :: xs, f, h, hf => by
    rw [List.filterMap_cons, hf 0 p x rfl rfl]
    exact congrArg ((p, x) :: ·) (filterMap_zip (Nat.succ.inj h) fun i y v h1 h2 => hf (i + 1) y v h1 h2)
theorem no_miss {α : Type} {ps : List Str} {xs : List α} (hn : ps.Nodup) (hl : ps.length = xs.length) : ((ps.filter fun n => ((ps.zip xs).lookup n).isNone).isEmpty) = true := by
  rw [List.isEmpty_iff, List.filter_eq_nil_iff]
  intro x hx h
  obtain ⟨i, hi, rfl⟩ := List.getElem_of_mem hx
  rw [lookup_zip hn (List.getElem?_eq_getElem hi) (List.getElem?_eq_getElem (hl ▸ hi))] at h
  cases h
noncomputable abbrev plainArgs (ar : List Arg) : Arguments := ⟨[], ar, none, [], [], none, []⟩
theorem plain_is {a : Arguments} {ps : List Str} (h : plainParams a ps = true) (G : Arguments → Prop) (k : ∀ ar : List Arg, ar.map (·.arg) = ps → G (plainArgs ar)) : G a :=
  have key : ∀ po ar va ko kd kw df, (po.isEmpty && (va.isNone && (ko.isEmpty && (kd.isEmpty && (kw.isNone && (df.isEmpty && decide (ar.map Arg.arg = ps))))))) = true → G ⟨po, ar, va, ko, kd, kw, df⟩ := fun po ar va ko kd kw df h =>
    andk h fun h1 h => andk h fun h2 h => andk h fun h3 h => andk h fun h4 h => andk h fun h5 h => andk h fun h6 h => nilk (G := fun po => G ⟨po, ar, va, ko, kd, kw, df⟩) h1 (nonek (G := fun va => G ⟨[], ar, va, ko, kd, kw, df⟩) h2 (nilk (G := fun ko => G ⟨[], ar, none, ko, kd, kw, df⟩) h3 (nilk (G := fun kd => G ⟨[], ar, none, [], kd, kw, df⟩) h4 (nonek (G := fun kw => G ⟨[], ar, none, [], [], kw, df⟩) h5 (nilk (G := fun df => G ⟨[], ar, none, [], [], none, df⟩) h6 (k ar (of_decide_eq_true h)))))))
  by cases a; exact key _ _ _ _ _ _ _ h
theorem bindArgs_eq {fd : FuncData} {ar : List Arg} {xs : List Value} (hd : fd.defaults = .none) (hp : fd.params = plainArgs ar) (hn : (ar.map (·.arg)).Nodup) (hl : (ar.map (·.arg)).length = xs.length) : bindArgs fd ⟨xs, []⟩ = pure ((ar.map (·.arg)).zip xs) := by
  obtain ⟨a1, a2, a3, a4, a5, a6, a7, a8, a9, a10, a11, a12, a13, a14, a15⟩ := fd
  cases hd; cases hp
  have hD : (([] : List Value).drop (0 - (ar.map Arg.arg).length)) = [] := List.drop_nil
  generalize hD0 : (([] : List Value).drop (0 - (ar.map Arg.arg).length)) = D at hD
  change (if (decide (xs.length > (ar.map Arg.arg).length) && true) = true then _ else (if (!((((ar.map Arg.arg).take ((ar.map Arg.arg).length - (([] : List Value).drop (0 - (ar.map Arg.arg).length)).length)).filter fun n => (((ar.map Arg.arg).zip xs).lookup n).isNone).isEmpty)) = true then _ else (forIn (((ar.map Arg.arg).drop ((ar.map Arg.arg).length - (([] : List Value).drop (0 - (ar.map Arg.arg).length)).length)).zip (([] : List Value).drop (0 - (ar.map Arg.arg).length))) ((ar.map Arg.arg).zip xs) _ >>= _ : Sem _))) = _
  rw [if_neg (fun e => absurd (of_decide_eq_true (Bool.and_eq_true_iff.mp e).1) (by rw [hl]; exact Nat.lt_irrefl _)), hD0, hD, List.zip_nil_right, List.forIn_nil]
  rw [show (ar.map Arg.arg).length - ([] : List Value).length = (ar.map Arg.arg).length from rfl, List.take_length, if_neg (by rw [no_miss hn hl]; exact Bool.false_ne_true)]
  exact congrArg (pure (f := Sem)) ((congrArg (List.filterMap _) (List.append_nil _)).trans (filterMap_zip hl fun i x v h1 h2 => lookup_zip hn h1 h2))
end Mine

end
section
set_option autoImplicit false
set_option linter.unusedVariables false
set_option linter.unusedSimpArgs false
set_option maxRecDepth 100000
namespace Mine
open PySem PySem.Calls PyProof.Rows

/-- the function that a lambda gives -/
abbrev lamFn (qual : Str) (params : Arguments) (body : Expr) (scope : Scope) (cl : List (Str × Addr)) (pm ct : Value) (c : Addr) : FuncData :=
  { name := "<lambda>", qualname := qual, params, body := .expr body, scope, globals := mainGlobals, closure := cl, defaults := .none, kwdefaults := .none, doc := .none, pyModule := pm, annotations := none, code := .ref c, closureTuple := ct, builtins := builtinsNs }
abbrev lamObj (qual : Str) (params : Arguments) (body : Expr) (scope : Scope) (cl : List (Str × Addr)) (pm ct : Value) (c : Addr) : Obj :=
  { cls := .type "function", data := .func (lamFn qual params body scope cl pm ct c) }

section
variable {X : Fix} {C : Ctx} {n : Nat} {Q Ex : Value → Shared → Prop} {P : Pt X n} {sc cs : Scope} {ns : List Str} {env : Env}
/-- the lambda's code: made the first time, found later -/
theorem lam_code {pos : Pos} {fl : Nat} {name : Str} {ps : Arguments} {fb : FuncBody} (G : X.Gl C) (hc : env.code = .ref X.W.lc) (h0 : P.H[0]? = some .tab) (hl : pos.line = X.W.ln) (hm : pos.col = X.W.lm)
    (hQ : ∀ c h' tk, SR X.W ⟨P.φ, h'⟩ P.H → Stp Nope P.w ⟨P.φ, h'⟩ → CodeNm h' c X.W.lq → c ∉ P.φ → Q (.ref c) (upd P.s h' tk)) : wpAny X.M P.A (functionCode env pos fl name X.W.lq ps cs fb) Q Ex P.s :=
  P.R.at h0 fun a ha hcell => hcell.inv _ ⟨fun ea e => by
    subst ea
    have k := G.1.tab P.s.heap #[] P.R.keep e trivial
    refine wpAny_functionCodeX hc k.1 k.2 rfl fun c h' tk hx hge hlt _ hrec htb hP' => ?_
    have etab : h'.get? X.W.lP = some (tabObj #[rawInt X.W.ln, rawInt X.W.lm, .ref c]) := by rw [← hl, ← hm]; exact htb.2
    have nm : CodeNm h' c X.W.lq := by
      obtain ⟨P', _, _, ⟨oc, vs, g1, g2, g3, _⟩, _⟩ := hP'
      obtain ⟨c2, o2, vs2, t2, e2, g4, g5, g6⟩ := hrec
      cases e2
      rw [g1] at g4; cases g4
      rw [g3] at g5; cases g5
      exact ⟨oc, vs, t2, g1, g2, g3, g6⟩
    have hn : c ∉ P.φ := (P.R.new (p := P.w) (none_size _ hge)).1
    have R := SR.set (p := P.w) (c := .tab) P.R ha hx (.tab rfl etab nm hn)
    rw [show P.H.set 0 .tab = P.H from by cases e : P.H with | nil => rw [e] at h0; cases h0 | cons c r => rw [e] at h0; cases h0; rfl] at R
    exact hQ c h' tk R (Stp.cell (q := P.w) .refl (List.mem_of_getElem? ha) hx etab) nm hn,
  fun c ea e nm hn => by
    subst ea
    have k := G.1.tab P.s.heap #[rawInt X.W.ln, rawInt X.W.lm, .ref c] P.R.keep e trivial
    refine wpAny_functionCode_hit (c' := .ref c) hc k.1 ?_ (hQ c P.s.heap P.s.toks P.R .refl nm hn)
    show codeAmong pos [rawInt X.W.ln, rawInt X.W.lm, .ref c] = _
    rw [← hl, ← hm]
    simp [codeAmong, rawInt]⟩
end
section
variable {X : Fix} {C : Ctx} {n : Nat} {Q Ex : Value → Shared → Prop} {sc cs : Scope} {ns : List Str}
/-- what stands by while the items are sorted -/
inductive LamJ (P : Fp X n sc ns) (ps : Arguments) (b : Expr) (cs : Scope) (cl : List (Str × Addr)) (f : Addr) (h : Heap) : Prop
  | mk (c : Addr) (pm ct : Value) (R : SR X.W ⟨P.φ, h⟩ P.H) (S : Stp Nope P.w ⟨P.φ, h⟩) (ho : h.get? f = some (lamObj X.W.lq ps b cs cl pm ct c)) (hf : f ∉ P.φ) (nm : CodeNm h c X.W.lq) (hc : c ∉ P.φ) : LamJ P ps b cs cl f h
theorem lam_end {P : Fp X n sc ns} {ps : Arguments} {b : Expr} {cl : List (Str × Addr)} {pm ct : Value} {h1 h2 : Heap} {c : Addr} {tk : Nat} (hQ : ∀ f h' tk, P.s.heap.get? f = none → LamJ P ps b cs cl f h' → Q (.ref f) (upd P.s h' tk)) (e : Ext P.s.heap h1) (R : SR X.W ⟨P.φ, h2⟩ P.H) (S : Stp Nope ⟨P.φ, h1⟩ ⟨P.φ, h2⟩) (nm : CodeNm h2 c X.W.lq) (hc : c ∉ P.φ) : Q (.ref h2.objs.size) (upd P.s (h2.push (lamObj X.W.lq ps b cs cl pm ct c)) tk) :=
  have S2 : Stp Nope P.w ⟨P.φ, h2⟩ := (Stp.ext (q := P.w) .refl e).trans S
  have e2 : Ext h2 (h2.push (lamObj X.W.lq ps b cs cl pm ct c)) := .push _
  have S3 : Stp Nope ⟨P.φ, h2⟩ ⟨P.φ, h2.push (lamObj X.W.lq ps b cs cl pm ct c)⟩ := Stp.ext (q := ⟨P.φ, h2⟩) .refl e2
  hQ _ _ tk (S2.dead (none_size _ (Nat.le_refl _))) ⟨c, pm, ct, SR.ext (p := ⟨P.φ, h2⟩) R e2, S2.trans S3, Heap.get?_push_size _ rfl, (SR.new (p := ⟨P.φ, h2⟩) R (none_size _ (Nat.le_refl _))).1, (nm.kp (p := ⟨P.φ, h2⟩) S3.kp hc).1, hc⟩
theorem lam_eval {pos : Pos} {ps : Arguments} {b : Expr} {cl : List (Str × Addr)} (G : X.Gl C) (P : Fp X n sc ns) (hmk : (P.env.kindOf mk).isSome = true) (h0 : P.H[0]? = some .tab) (hl : pos.line = X.W.ln) (hm : pos.col = X.W.lm)
    (hcl : closureFor cs P.env = pure cl) (hdef : defaultsOf ps P.env = ([], [])) (hQ : ∀ f h' tk, P.s.heap.get? f = none → LamJ P ps b cs cl f h' → Q (.ref f) (upd P.s h' tk)) : wpAny X.M P.A (eval (.Lambda ps b cs pos) P.env) Q Ex P.s := by
  have q := P.F.fc.code hmk
  rw [arm_eval_Lambda, hdef]
  show wpAny X.M P.A (do let dv ← evalAll []; let kdv ← holding dv (evalAllOpt []); makeFunction "<lambda>" (P.env.qual ++ "<lambda>") ps (.expr b) cs P.env dv kdv [] pos pos.line) Q Ex P.s
  refine wpAny_bind (wpAny_pure (wpAny_bind (wpAny_holding (wpAny_pure ?_))))
  rw [makeFunction_eq, q.2]
  simp only [List.zip_nil_right, List.filterMap_nil, List.isEmpty_nil, if_true, pure_bind]
  unfold makeTail
  rw [hcl, P.F.fc.glob]
  refine wpAny_bind (wpAny_pure ?_)
  obtain ⟨bm, ob, b1, b2, b3, b4, b5, b6, b7⟩ := G.1.bm
  cases cl with
  | nil =>
    simp only [List.isEmpty_nil, if_true]
    refine wpAny_bind (wpAny_pure (wpAny_bind (lam_code (P := P.toPt) G q.1 h0 hl hm fun c h2 tk R2 S2 nm hn => ?_)))
    refine wpAny_bind (wpAny_builtinsFor (G.1.g.keeps R2.keep) b1 b2 (R2.keep _ _ b4) b5 b6 b7 (wpAny_bind (wpAny_nsGet (G.1.g.keeps R2.keep) ?_)))
    exact wpAny_bind (wpAny_pure (wpAny_newObj_type (lam_end hQ (fun _ _ e => e) R2 S2 nm hn) (by size_fits)))
  | cons q' r =>
    simp only [List.isEmpty_cons, Bool.false_eq_true, if_false]
    refine wpAny_bind (wpAny_newTextTuple (wpAny_bind (lam_code (P := (P.toPt.ext (.push _) P.s.toks).pt) G q.1 h0 hl hm fun c h2 tk R2 S2 nm hn => ?_)))
    refine wpAny_bind (wpAny_builtinsFor (G.1.g.keeps R2.keep) b1 b2 (R2.keep _ _ b4) b5 b6 b7 (wpAny_bind (wpAny_nsGet (G.1.g.keeps R2.keep) ?_)))
    exact wpAny_bind (wpAny_pure (wpAny_newObj_type (lam_end hQ (.push _) R2 S2 nm hn) (by size_fits)))
end
end Mine

end
section
set_option autoImplicit false
set_option linter.unusedVariables false
set_option linter.unusedSimpArgs false
set_option maxRecDepth 100000
namespace Mine
open PySem PySem.Calls PyProof.Rows

theorem RepL.perm {scr : Addr} {p : Ws} {xs out : List Value} (hp : out.Perm xs) : ∀ {vs : List V} {G : Prop}, RepL scr p vs xs → (∀ ws : List V, ws.Perm vs → RepL scr p ws out → G) → G := by
  induction hp with
  | nil => exact fun r k => k _ (.refl _) r
  | cons x _ ih =>
    intro vs G r k
    cases r with
    | cons r1 r2 => exact ih r2 fun ws h1 h2 => k _ (h1.cons _) (.cons r1 h2)
  | swap x y l =>
    intro vs G r k
    cases r with
    | cons r1 r2 =>
      cases r2 with
      | cons r2 r3 => exact k _ (.swap _ _ _) (.cons r2 (.cons r1 r3))
  | trans _ _ ih1 ih2 => exact fun r k => ih2 r fun ws h1 h2 => ih1 h2 fun us h3 h4 => k us (h3.trans h1) h4
theorem RepL.mem {scr : Addr} {p : Ws} {y : Value} {vs : List V} {xs : List Value} (r : RepL scr p vs xs) (hm : y ∈ xs) : ∃ v, v ∈ vs ∧ Rep scr p v y :=
  RepL.ind (M := fun vs xs => y ∈ xs → ∃ v, v ∈ vs ∧ Rep scr p v y) (fun h => nomatch h) (fun r1 _ m h => (List.mem_cons.mp h).elim (fun e => ⟨_, .head _, e ▸ r1⟩) fun h => (m h).imp fun v q => ⟨.tail _ q.1, q.2⟩) r hm

noncomputable def keyE (i : Nat) : E := .idx (.idx (.var (i + 1)) (.var 0)) (.k (.int 0))
section
variable {X : Fix} {C : Ctx} {n : Nat} {sc cs : Scope} {ns : List Str} {Q Ex : Value → Shared → Prop}
theorem key_snd {i : Nat} {b : Expr} (G : X.Gl C) (h : chkKey cs ns i b = true) : EvS X C n cs ns (keyE i) b :=
  ifSub.k (G := fun b => EvS X C n cs ns (keyE i) b) h fun y z p h => andk h fun h1 h2 => ifSub.k (G := fun y => EvS X C n cs ns (keyE i) (.Subscript y z p)) h2 fun u w p2 h2 => andk h2 fun g1 g2 =>
    idxE_snd G (b := .k (.int 0)) h1 (idxE_snd G (b := .var 0) g2 (ifName.k (G := fun u => EvS X C n cs ns (.var (i + 1)) u) g1 fun x p h => var_snd h) (ifName.k (G := fun w => EvS X C n cs ns (.var 0) w) g2 fun x p h => var_snd h))
      (ifConst.k (G := fun z => EvS X C n cs ns (.k (.int 0)) z) h1 fun c k p h => k_snd (of_decide_eq_true h))
theorem key_wp {i : Nat} {ρ : Env'} {H : Hp} {v : V} (h : wSome (ρ[i]?.join) fun x => wSome (idxV C.scr x v H) fun y => wSome (idxV C.scr y (.int 0) H) fun k => wInt k fun _ => True) : WE C.no (keyE i) (some v :: ρ) H fun k H' => wInt k fun _ => H' = H :=
  show wSome (ρ[i]?.join) fun x => wSome (idxV C.scr x v H) fun y => wSome (idxV C.scr y (.int 0) H) fun k => wInt k fun _ => H = H from h.m fun x h => h.m fun y h => h.m fun k h => wInt.k h (fun k => wInt k fun _ => H = H) fun _ _ => rfl
theorem Nx.same {P : Pt X n} (N : Nx P P.H) : N.φ = P.φ := List.ext_getElem? fun i => by
  cases e : P.φ[i]? with
  | some a => exact N.S.pre i a e
  | none => exact List.getElem?_eq_none_iff.mpr (by rw [show N.φ.length = P.φ.length from N.R.len.trans P.R.len.symm]; exact List.getElem?_eq_none_iff.mp e)
theorem roomIn {A : Around} {env' : Env} (rm : Room A n) (h1 : env'.scope.isGenerator = false) (h2 : env'.scope.isCoroutine = false) (h3 : env'.builtins = builtinsNs) (h4 : env'.globals = mainGlobals) (hn : 0 < n) : Room (A.in1.in1.deeper env') 0 := by
  obtain ⟨fe, outer, e, _⟩ := rm.frames
  refine ⟨?_, ?_, rm.handled, env', fe :: outer, ?_, h1, h2, h3, h4⟩
  · have := rm.depth; show A.depth + 1 + 0 + 110 ≤ _; (first | lia | omega)
  · have := rm.units; show A.units + 1 + 1 + 3 + 5 * 0 + 200 ≤ _; (first | lia | omega)
  · show A.frames.map (env' :: ·) = _; rw [e]; rfl
theorem LamJ.kp {P : Fp X n sc ns} {ps : Arguments} {b : Expr} {cl : List (Str × Addr)} {f : Addr} {h h' : Heap} (J : LamJ P ps b cs cl f h) (R : SR X.W ⟨P.φ, h'⟩ P.H) (S : Stp Nope P.w ⟨P.φ, h'⟩) (K : Kp ⟨P.φ, h⟩ ⟨P.φ, h'⟩) (hf : ∀ o, h.get? f = some o → h'.get? f = some o) : LamJ P ps b cs cl f h' :=
  J.casesOn fun c pm ct _ _ ho hf' nm hc => ⟨c, pm, ct, R, S, hf _ ho, hf', (nm.kp (p := ⟨P.φ, h⟩) K hc).1, hc⟩
/-- the lambda called -/
theorem lam_call {P : Fp X n sc ns} {f : Addr} {p : Str} {ps : Arguments} {b : Expr} {cl : List (Str × Addr)} {v : V} {y : Value} {i tk : Nat} {h : Heap} {io : Addr → Prop} (G : X.Gl C) (hn : 0 < n) (hsc : CompSc sc ns [p] cs) (hps : plainParams ps [p] = true) (hcl : ∀ q, q ∈ cl → P.env.cells.lookup q.1 = some q.2) (hcf : ∀ x, (x, NameKind.free) ∈ cs.names → ∃ c, (x, c) ∈ cl)
    (J : LamJ P ps b cs cl f h) (rv : Rep X.W.scr ⟨P.φ, h⟩ v y) (hb : EvS X C.no 0 cs (p :: ns) (keyE i) b) (hkb : WE C.no (keyE i) (some v :: P.ρ) P.H fun k H' => wInt k fun _ => H' = P.H) (hio : ∀ a, io a → a ∉ P.φ) :
    wpAny X.M P.A.in1.in1 (call (.ref f) [y]) (KeyEnd (LamJ P ps b cs cl f) io P.s h) (fun _ _ => False) (upd P.s h tk) := by
  refine plain_is hps (fun ps => LamJ P ps b cs cl f h → wpAny X.M P.A.in1.in1 (call (.ref f) [y]) (KeyEnd (LamJ P ps b cs cl f) io P.s h) (fun _ _ => False) (upd P.s h tk)) (fun ar har J => ?_) J
  refine J.casesOn fun c pm ct R S ho hf nm hc => nm.casesOn fun oc vs t e1 e2 e3 e4 => ?_
  refine wpAny_call (codeAny_of_tree ?_)
  show wpAny _ _ (callAny (.ref f) ⟨[y], []⟩) _ _ (upd P.s h tk)
  simp only [callAny]
  refine wpAny_bind (wpAny_load ho ?_)
  simp only [callFunction, hsc.gen.1, hsc.gen.2]
  refine wpAny_bind (m := field (.ref c) 1) (wpAny_field e1 e3 e4 (wpAny_bind (wpAny_pure ?_)))
  rw [bindArgs_eq (fd := lamFn X.W.lq (plainArgs ar) b cs cl pm ct c) (ar := ar) (xs := [y]) rfl rfl (by rw [har]; exact List.pairwise_singleton _ _) (by rw [har]; rfl), har]
  refine wpAny_bind (wpAny_pure (wpAny_bind (wpAny_newFunctionEnv (fun x hx hk => by have := hsc.all x hx; rw [hk] at this; exact this) (fun x hx => List.mem_singleton.mp hx ▸ hsc.loc_ p (.head _)) (fun h1 hns hsb => ?_) hsc.kind)))
  have keep : Ext h h1 := fun a o e => hsb.extBut a o (Nat.ne_of_lt (Heap.lt_size e)) (Heap.get?_push_of_some _ e)
  have hD := none_size h (Nat.le_refl _)
  have R1 : SR X.W ⟨P.φ, h1⟩ P.H := SR.ext (p := ⟨P.φ, h⟩) R keep
  refine wpAny_bind (wpAny_enterFrame ((G.1.nolimit).keeps R1.keep) (by have := P.rm.depth; show P.A.depth < _; (first | lia | omega)) (wpAny_pure ⟨rfl, ?_⟩))
  have F1 := hsc.fr (env' := newEnv cs h.objs.size mainGlobals cl (X.W.lq ++ ".<locals>.") (some f) (.ref c) none builtinsNs) (ρl := [some v]) (P.to (H := P.H) ⟨P.φ, h, tk, R, S⟩)
    (CompSc.fc (P.to (H := P.H) ⟨P.φ, h, tk, R, S⟩) hsc.kind hsc.gen rfl rfl hsc.mk_ hcl hD) (fun x k h => .inl h) hcl hcf hD keep hns rfl fun x hx => by
      rw [List.mem_singleton.mp hx, show lk [p] [some v] p = some v by unfold lk; rw [List.idxOf_cons_self]; rfl]
      show OptRep X.W.scr ⟨P.φ, h1⟩ (some v) (List.lookup p [(p, y)])
      rw [List.lookup_cons_self]
      exact .some (rv.kp (Stp.ext (own := Nope) (p := ⟨P.φ, h⟩) (q := ⟨P.φ, h⟩) .refl keep).kp)
  have S1' : Stp Nope P.w ⟨P.φ, h1⟩ := S.trans (Stp.ext (q := ⟨P.φ, h⟩) .refl keep)
  have fr1 := (P.fr.stp S1').deeper (frs_deeper P.rm (newEnv cs h.objs.size mainGlobals cl (X.W.lq ++ ".<locals>.") (some f) (.ref c) none builtinsNs)) hsc.kind rfl ⟨_, hns⟩ (SR.new (p := ⟨P.φ, h⟩) R hD)
  refine codeAny_of_tree ?_
  show wpAny _ (P.A.in1.in1.deeper _) (do point; ret (← (eval b _).onRaise (leaving _))) _ _ _
  refine wpAny_bind (wpAny_point (wpAny_bind (wpAny_onRaise ?_)))
  refine wpAny_mono (hb ⟨⟨P.A.in1.in1.deeper _, P.φ, P.H, upd P.s h1 (tk + 1), roomIn P.rm hsc.gen.1 hsc.gen.2 rfl rfl hn, R1, fr1⟩, newEnv cs h.objs.size mainGlobals cl (X.W.lq ++ ".<locals>.") (some f) (.ref c) none builtinsNs, some v :: P.ρ, fun x => .inl rfl, F1, ⟨_, by rw [frs_deeper P.rm]; rfl, rfl⟩⟩ _ (KeyEnd (LamJ P (plainArgs ar) b cs cl f) io P.s h) (fun _ _ => False) hkb (fun k H' hk N x r => ?_) (.false _)) (fun r s' hr => wpAny_pure hr) (fun _ _ hF => hF.elim)
  refine wInt.k hk (fun k => Rep X.W.scr N.w k x → _) (fun j e r => r.inv (fun x => KeyEnd (LamJ P (plainArgs ar) b cs cl f) io P.s h x N.s) fun t => ?_) r
  subst e
  have S1 : Stp Nope ⟨P.φ, h⟩ ⟨N.φ, N.h⟩ := (Stp.ext (own := Nope) (p := ⟨P.φ, h⟩) (q := ⟨P.φ, h⟩) .refl keep).trans N.S
  have R2 : SR X.W ⟨N.φ, N.h⟩ P.H := N.R
  rw [Nx.same (P := ⟨_, P.φ, P.H, _, _, R1, _⟩) N] at S1 R2
  exact ⟨N.h, N.tk, j, t, rfl, rfl, J.kp R2 (S.trans S1) S1.kp fun o e => S1.same e hf (fun h => h.elim) (by rw [ho] at e; cases e; rfl), fun a ha o hd e => S1.same e (hio a ha) (fun h => h.elim) hd⟩
theorem def_plain {ps : Arguments} {p : Str} (env : Env) (h : plainParams ps [p] = true) : defaultsOf ps env = ([], []) := plain_is h (fun ps => defaultsOf ps env = ([], [])) fun _ _ => rfl
/-- sorted(l, key=lambda): any order -/
theorem sort_at {P : Fp X n sc ns} {p : Str} {ps : Arguments} {b : Expr} {cl : List (Str × Addr)} {i : Nat} {l : V} {x : Value} {us : List V} {f : Addr} {post : PQ} (G : X.Gl C) (hn : 0 < n) (hsc : CompSc sc ns [p] cs) (hps : plainParams ps [p] = true) (hb : EvS X C.no 0 cs (p :: ns) (keyE i) b) (hcl : ∀ q, q ∈ cl → P.env.cells.lookup q.1 = some q.2) (hcf : ∀ x, (x, NameKind.free) ∈ cs.names → ∃ c, (x, c) ∈ cl)
    (rl : Rep X.W.scr P.w l x) (hus : lstAt P.H l = some us) (h64 : us.length < 64) (hk : ∀ v ∈ us, wSome (P.ρ[i]?.join) fun x => wSome (idxV C.scr x v P.H) fun y => wSome (idxV C.scr y (.int 0) P.H) fun k => wInt k fun _ => True) (pp : ∀ ws : List V, ws.Perm us → newL ws P.H post) (k : Kn P.toPt post Q) (J : LamJ P ps b cs cl f P.s.heap) : wpAny X.M P.A (call (.builtin "sorted") [x] [(Str.ofString "key", .ref f)]) Q Ex P.s := by
  have far : ∀ a, D2 (P.s.heap.objs.size + 1) (P.s.heap.objs.size + 3) a → P.s.heap.get? a = none := fun a ha => ha.elim (fun e => e ▸ none_size _ (Nat.le_add_right _ _)) fun e => e ▸ none_size _ (Nat.le_add_right _ _)
  have ap : ∀ a, D2 (P.s.heap.objs.size + 1) (P.s.heap.objs.size + 3) a → Ap X.W P.w a := fun a ha => P.R.new (p := P.w) (far a ha)
  refine lst (P := P.toPt) rl hus (fun x => wpAny X.M P.A (call (.builtin "sorted") [x] [(Str.ofString "key", .ref f)]) Q Ex P.s) fun _ ad xs m _ _ _ h1 h2 _ => ?_
  refine keySorted (vs := xs) (LamJ P ps b cs cl f) (isList_of h1) (by rw [← h2.length]; exact h64) J (fun g g' j ch => j.casesOn fun c pm ct R' S' ho' hf' nm' hc' => j.kp (SR.ch (p := ⟨P.φ, g⟩) R' ap ch) (Stp.ch (q := ⟨P.φ, g⟩) S' ch fun a ha => .inl (far a ha)) ch.kp fun o e => ch f o e fun ha => J.casesOn fun _ _ _ _ _ ho _ _ _ => none_some (far f ha) ho) (fun g tk3 y hy j => ?_) fun g tk3 out c' j hD hp => ?_
  · exact (h2.mem hy).elim fun v q => j.casesOn fun c pm ct R' S' ho' hf' nm' hc' => lam_call G hn hsc hps hcl hcf j (q.2.mono S') hb (key_wp (hk v q.1)) fun a ha => (ap a ha).1
  · refine h2.perm hp fun ws hw rw' => ?_
    exact j.casesOn fun c pm ct R' S' ho' hf' nm' hc' => k _ _ (pp ws hw) (Pt.adoptL R' S' hD (rw'.mono S') (ap _ (.inl rfl)).1 (far _ (.inl rfl)) (by rw [hw.length_eq]; exact Nat.lt_trans h64 (by decide)) tk3) _ (rep_new R')
theorem sortK_snd {a : E} {i : Nat} {g e v : Expr} {kp pos : Pos} (G : X.Gl C) (hn : 0 < n) (hg : isGl sc "sorted" g = true) (hm : (sc.names.lookup mk).isSome = true) (h0 : chkE X.K sc ns a e = true) (ha : EvS X C n sc ns a e) (hv : chkLam X.K sc ns i v = true) : EvS X C n sc ns (.sortK a i) (.Call g [e] [⟨some "key", v, kp⟩] pos) := fun P post Q Ex p k kx =>
  ifName.k (G := fun g => wpAny X.M P.A (eval (.Call g [e] [⟨some "key", v, kp⟩] pos) P.env) Q Ex P.s) hg fun x np hg => andk hg fun e1 ho => ifLam.k (G := fun v => wpAny X.M P.A (eval (.Call (.Name x np) [e] [⟨some "key", v, kp⟩] pos) P.env) Q Ex P.s) hv fun ps b cs lp hv => andk hv fun hl hv => andk hv fun hc hv => if1.k (G := fun _ => _) hv fun q hv => andk hv fun hps hv => andk hv fun hsc hkey => by
    obtain rfl := eq_of_beq e1
    have hsc := scIn.sc hsc
    obtain ⟨y, hy⟩ : ∃ y, backTo pos (starEach [e] P.env) = [(false, y)] := ⟨_, by rw [notStarred h0 P.env]; rfl⟩
    show wpAny X.M P.A (do callWith pos (← eval (.Name "sorted" np) P.env) [] (backTo pos (starEach [e] P.env)) (backToKw pos (keywordEach [⟨some "key", .Lambda ps b cs lp, kp⟩] P.env))) Q Ex P.s
    refine wpAny_bind (glob_bi G P (y := .builtin "sorted") (bi_mem 9 (by decide)) ho (callWith_builtin_kwB (by rw [hy]; rfl) rfl ?_))
    rw [hy]
    refine evalArgs_kwB rfl ?_
    rw [← hy]
    refine clos_go (env := P.env) cs.names [] (fun _ h => nomatch h) (fun q hq hk => by have := hsc.all q hq; rw [hk] at this; exact (P.F.cel _ this.1 (kd_cell P this.2.2)).imp fun c w => w.elim fun _ w => w.1) fun cl hcl hcl1 _ hcl2 => ?_
    refine wpAny_items_cons (ha P _ _ Ex p (fun u H1 p1 N x r => wpAny_items_nil (wSome.k p1 fun us eu p1 => ?_)) kx) (notStarred h0 P.env _)
    refine kws_cons (lam_eval G (P.to N) ((P.kd mk).elim (fun e => e ▸ hm) fun e => by cases ek : P.env.kindOf mk with | none => rw [ek] at e; cases e.2 | some _ => rfl) p1.1.2 (by rw [G.1.lam.1]; exact of_decide_eq_true hl) (by rw [G.1.lam.2.1]; exact of_decide_eq_true hc) (by unfold closureFor; rw [bind_pure]; exact hcl) (def_plain _ hps) fun f h' tk hf J => kws_nil (J.casesOn fun c pm ct R S ho hfn nm hc => ?_))
    exact sort_at (P := (P.to N).to ⟨N.φ, h', tk, R, S⟩) G hn hsc hps (key_snd (C := C.no) G hkey) hcl1 hcl2 (r.mono S) eu p1.1.1 p1.2.1 p1.2.2 ((k.nx N).nx ⟨N.φ, h', tk, R, S⟩) ⟨c, pm, ct, R, .refl, ho, hfn, nm, hc⟩
end
end Mine

end
section
set_option autoImplicit false
set_option linter.unusedVariables false
set_option linter.unusedSimpArgs false
set_option maxRecDepth 100000
/-! the path of a search through a set's table -/
namespace Mine.T
open PySem PySem.SetTable

def adv (m : Nat) (p : Probe) : Probe := if p.more > 0 then { p with j := p.j + 1, more := p.more - 1 } else { p with j := (leap m p.i p.perturb).1, more := runEnd m (leap m p.i p.perturb).1 - (leap m p.i p.perturb).1, i := (leap m p.i p.perturb).1, perturb := (leap m p.i p.perturb).2 }
theorem advance_eq (t : SetTable) (p : Probe) : t.advance p = adv t.mask p := rfl
/-- the n-th place that a search comes to -/
def pth (m : Nat) : Nat → Probe → Probe
  | 0, p => p
  | n + 1, p => pth m n (adv m p)
theorem pth_succ (m : Nat) : ∀ (n : Nat) (p : Probe), pth m (n + 1) p = adv m (pth m n p)
  | 0, p => rfl
  | n + 1, p => pth_succ m n (adv m p)
theorem pth_add (m : Nat) : ∀ (a b : Nat) (p : Probe), pth m (a + b) p = pth m b (pth m a p)
  | 0, b, p => by rw [Nat.zero_add]; rfl
  | a + 1, b, p => by rw [Nat.succ_add]; exact pth_add m a b (adv m p)
/-- the masks in use -/
def MaskOk (m : Nat) : Prop := m = 7 ∨ m = 31 ∨ m = 127
def lcg (m i : Nat) : Nat := (i * 5 + 1) % (m + 1)
def itf (m : Nat) : Nat → Nat → Nat
  | 0, i => i
  | c + 1, i => itf m c (lcg m i)
theorem itf_add (m : Nat) : ∀ (a b i : Nat), itf m (a + b) i = itf m b (itf m a i)
  | 0, b, i => by rw [Nat.zero_add]; rfl
  | a + 1, b, i => by rw [Nat.succ_add]; exact itf_add m a b (lcg m i)
def orb (m : Nat) : List Nat := (List.range (m + 1)).map fun c => itf m c 0
theorem orb_all {m : Nat} (h : MaskOk m) : ((List.range (m + 1)).all fun j => (List.range (m + 1)).any fun c => itf m c 0 == j) = true ∧ itf m (m + 1) 0 = 0 := by
  rcases h with h | h | h <;> subst h
  · decide +kernel
  · decide +kernel
  · decide +kernel
theorem orb_at {m : Nat} (h : MaskOk m) {j : Nat} (hj : j ≤ m) : ∃ c, c ≤ m ∧ itf m c 0 = j := by
  have h1 := List.all_eq_true.mp (orb_all h).1 j (List.mem_range.mpr (Nat.lt_succ_of_le hj))
  obtain ⟨c, hc, e⟩ := List.any_eq_true.mp h1
  exact ⟨c, Nat.le_of_lt_succ (List.mem_range.mp hc), eq_of_beq e⟩
theorem cycle {m : Nat} (h : MaskOk m) {i j : Nat} (hi : i ≤ m) (hj : j ≤ m) : ∃ c, c ≤ m ∧ itf m c i = j := by
  obtain ⟨a, ha, ea⟩ := orb_at h hi
  obtain ⟨b, hb, eb⟩ := orb_at h hj
  rcases Nat.le_total a b with hab | hab
  · refine ⟨b - a, by (first | lia | omega), ?_⟩
    rw [← ea, ← itf_add, show a + (b - a) = b by (first | lia | omega), eb]
  · by_cases hba : a = b
    · exact ⟨0, Nat.zero_le _, by rw [← ea, hba, eb]; rfl⟩
    · refine ⟨m + 1 - (a - b), by (first | lia | omega), ?_⟩
      rw [← ea, ← itf_add, show a + (m + 1 - (a - b)) = m + 1 + b by (first | lia | omega), itf_add, (orb_all h).2, eb]
/-- a place at the head of a run, and where the next one is -/
theorem to_leap (m : Nat) : ∀ (k : Nat) (p : Probe), p.more = k → ∃ n, n ≤ k + 1 ∧ (pth m n p).j = (leap m p.i p.perturb).1 ∧ (pth m n p).i = (leap m p.i p.perturb).1 ∧ (pth m n p).perturb = (leap m p.i p.perturb).2 ∧ (pth m n p).more = runEnd m (leap m p.i p.perturb).1 - (leap m p.i p.perturb).1
  | 0, p, h => by
    refine ⟨1, Nat.le_refl _, ?_⟩
    show (adv m p).j = _ ∧ (adv m p).i = _ ∧ (adv m p).perturb = _ ∧ (adv m p).more = _
    unfold adv
    rw [if_neg (by rw [h]; exact Nat.lt_irrefl 0)]
    exact ⟨rfl, rfl, rfl, rfl⟩
  | k + 1, p, h => by
    have e : adv m p = { p with j := p.j + 1, more := p.more - 1 } := if_pos (by rw [h]; exact Nat.succ_pos k)
    obtain ⟨n, hn, h1, h2, h3, h4⟩ := to_leap m k (adv m p) (by rw [e]; show p.more - 1 = k; (first | lia | omega))
    rw [e] at h1 h2 h3 h4
    refine ⟨n + 1, by (first | lia | omega), ?_⟩
    show (pth m n (adv m p)).j = _ ∧ (pth m n (adv m p)).i = _ ∧ (pth m n (adv m p)).perturb = _ ∧ (pth m n (adv m p)).more = _
    rw [e]
    exact ⟨h1, h2, h3, h4⟩
theorem run_le (m i : Nat) : runEnd m i - i ≤ 9 := by unfold runEnd; split <;> (first | lia | omega)
/-- k leaps on -/
def lp (m : Nat) : Nat → Nat × Nat → Nat × Nat
  | 0, x => x
  | k + 1, x => lp m k (leap m x.1 x.2)
theorem to_leaps (m : Nat) : ∀ (k : Nat) (p : Probe), p.more ≤ 9 → ∃ n, n ≤ 10 * k ∧ ((pth m n p).i, (pth m n p).perturb) = lp m k (p.i, p.perturb) ∧ (pth m n p).more ≤ 9 ∧ (0 < k → (pth m n p).j = (pth m n p).i)
  | 0, p, h => ⟨0, Nat.zero_le _, rfl, h, fun h => absurd h (Nat.lt_irrefl 0)⟩
  | k + 1, p, h => by
    obtain ⟨n, hn, h1, h2, h3, h4⟩ := to_leap m p.more p rfl
    obtain ⟨n', hn', g1, g2, g3⟩ := to_leaps m k (pth m n p) (by rw [h4]; exact run_le _ _)
    refine ⟨n + n', by (first | lia | omega), ?_, ?_, fun _ => ?_⟩
    · rw [pth_add, g1, h2, h3]; rfl
    · rw [pth_add]; exact g2
    · rw [pth_add]
      cases k with
      | zero =>
        have : n' = 0 := by (first | lia | omega)
        rw [this]
        show (pth m n p).j = (pth m n p).i
        rw [h1, h2]
      | succ k => exact g3 (Nat.succ_pos k)
theorem lp_pert (m : Nat) : ∀ (k : Nat) (x : Nat × Nat), x.2 < 32 ^ k → (lp m k x).2 = 0
  | 0, x, h => by show x.2 = 0; rw [Nat.pow_zero] at h; (first | lia | omega)
  | k + 1, x, h => lp_pert m k _ (by show x.2 / 32 < 32 ^ k; rw [Nat.pow_succ] at h; (first | lia | omega))
theorem lp_add (m : Nat) : ∀ (a b : Nat) (x : Nat × Nat), lp m (a + b) x = lp m b (lp m a x)
  | 0, b, x => by rw [Nat.zero_add]; rfl
  | a + 1, b, x => by rw [Nat.succ_add]; exact lp_add m a b _
theorem lp_zero (m : Nat) : ∀ (k i : Nat), lp m k (i, 0) = (itf m k i, 0)
  | 0, i => rfl
  | k + 1, i => by
    have e : leap m i 0 = (lcg m i, 0) := by unfold leap lcg; rw [Nat.zero_div, Nat.add_zero]
    show lp m k (leap m i 0) = _
    rw [e]; exact lp_zero m k (lcg m i)
theorem lp_le (m : Nat) : ∀ (k : Nat) (x : Nat × Nat), x.1 ≤ m → (lp m k x).1 ≤ m
  | 0, x, h => h
  | k + 1, x, h => lp_le m k _ (Nat.le_of_lt_succ (Nat.mod_lt _ (Nat.succ_pos m)))
/-- a search comes to every place -/
theorem covers {m : Nat} (h : MaskOk m) {p : Probe} (hi : p.i ≤ m) (hm : p.more ≤ 9) (hp : p.perturb < 2 ^ 64) {j : Nat} (hj : j ≤ m) : ∃ n, n < 10 * turns m ∧ (pth m n p).j = j := by
  have h13 : (lp m 13 (p.i, p.perturb)).2 = 0 := lp_pert m 13 _ (Nat.lt_of_lt_of_le hp (by decide))
  obtain ⟨c, hc, ec⟩ := cycle h (lp_le m 13 (p.i, p.perturb) hi) hj
  obtain ⟨n, hn, h1, _, h3⟩ := to_leaps m (13 + c) p hm
  refine ⟨n, Nat.lt_of_le_of_lt hn (by unfold turns; (first | lia | omega)), ?_⟩
  rw [h3 (by (first | lia | omega))]
  have e : lp m (13 + c) (p.i, p.perturb) = (j, 0) := by
    rw [lp_add, show lp m 13 (p.i, p.perturb) = ((lp m 13 (p.i, p.perturb)).1, 0) from Prod.ext rfl h13, lp_zero, ec]
  rw [e] at h1
  exact congrArg Prod.fst h1
end Mine.T

end
section
set_option autoImplicit false
set_option linter.unusedVariables false
set_option linter.unusedSimpArgs false
set_option maxRecDepth 100000
namespace Mine.T
open PySem PySem.SetTable

/-- rising -/
abbrev Ris (xs : Array Nat) : Prop := ∀ (i k u v : Nat), i < k → xs[i]? = some u → xs[k]? = some v → u < v
theorem get_lt {α : Type} {xs : Array α} {i : Nat} {v : α} (h : xs[i]? = some v) : i < xs.size := (Array.getElem?_eq_some_iff.mp h).1
theorem go_spec {xs : Array Nat} (hr : Ris xs) (j : Nat) : ∀ (fuel lo hi : Nat), hi - lo ≤ fuel → lo ≤ hi → hi ≤ xs.size → (∀ i v, xs[i]? = some v → i < lo → v < j) → (∀ i v, xs[i]? = some v → hi ≤ i → j ≤ v) →
    (below.go xs j fuel lo hi ≤ xs.size ∧ (∀ i v, xs[i]? = some v → i < below.go xs j fuel lo hi → v < j) ∧ ∀ i v, xs[i]? = some v → below.go xs j fuel lo hi ≤ i → j ≤ v)
  | 0, lo, hi, hf, hl, hs, h1, h2 => by
    have : hi = lo := by (first | lia | omega)
    subst this
    exact ⟨hs, h1, h2⟩
  | fuel + 1, lo, hi, hf, hl, hs, h1, h2 => by
    show ((if lo < hi then if xs.getD ((lo + hi) / 2) j < j then below.go xs j fuel ((lo + hi) / 2 + 1) hi else below.go xs j fuel lo ((lo + hi) / 2) else lo) ≤ xs.size ∧ (∀ i v, xs[i]? = some v → i < (if lo < hi then if xs.getD ((lo + hi) / 2) j < j then below.go xs j fuel ((lo + hi) / 2 + 1) hi else below.go xs j fuel lo ((lo + hi) / 2) else lo) → v < j) ∧ ∀ i v, xs[i]? = some v → (if lo < hi then if xs.getD ((lo + hi) / 2) j < j then below.go xs j fuel ((lo + hi) / 2 + 1) hi else below.go xs j fuel lo ((lo + hi) / 2) else lo) ≤ i → j ≤ v)
    by_cases hlt : lo < hi
    · rw [if_pos hlt]
      have hm : (lo + hi) / 2 < xs.size := by (first | lia | omega)
      have em : xs[(lo + hi) / 2]? = some xs[(lo + hi) / 2] := Array.getElem?_eq_getElem hm
      have eg : xs.getD ((lo + hi) / 2) j = xs[(lo + hi) / 2] := by rw [Array.getD_eq_getD_getElem?, em]; rfl
      rw [eg]
      by_cases hj : xs[(lo + hi) / 2] < j
      · rw [if_pos hj]
        refine go_spec hr j fuel _ hi (by (first | lia | omega)) (by (first | lia | omega)) hs (fun i v hv hi' => ?_) h2
        rcases Nat.lt_or_ge i ((lo + hi) / 2) with h | h
        · exact Nat.lt_trans (hr i _ v _ h hv em) hj
        · have : i = (lo + hi) / 2 := by (first | lia | omega)
          rw [this, em] at hv
          cases hv; exact hj
      · rw [if_neg hj]
        refine go_spec hr j fuel lo _ (by (first | lia | omega)) (by (first | lia | omega)) (by (first | lia | omega)) h1 (fun i v hv hi' => ?_)
        rcases Nat.lt_or_ge ((lo + hi) / 2) i with h | h
        · exact Nat.le_of_lt (Nat.lt_of_le_of_lt (Nat.not_lt.mp hj) (hr _ i _ v h em hv))
        · have : i = (lo + hi) / 2 := by (first | lia | omega)
          rw [this, em] at hv
          cases hv; exact Nat.not_lt.mp hj
    · rw [if_neg hlt]
      have : hi = lo := by (first | lia | omega)
      subst this
      exact ⟨hs, h1, h2⟩
theorem below_spec {xs : Array Nat} (hr : Ris xs) (j : Nat) : below xs j ≤ xs.size ∧ (∀ i v, xs[i]? = some v → i < below xs j → v < j) ∧ ∀ i v, xs[i]? = some v → below xs j ≤ i → j ≤ v :=
  go_spec hr j xs.size 0 xs.size (by (first | lia | omega)) (Nat.zero_le _) (Nat.le_refl _) (fun i v _ h => absurd h (Nat.not_lt_zero i)) (fun i v hv h => absurd (get_lt hv) (Nat.not_lt.mpr h))
theorem below_at {xs : Array Nat} (hr : Ris xs) {i j : Nat} (h : xs[i]? = some j) : below xs j = i := by
  obtain ⟨h0, h1, h2⟩ := below_spec hr j
  have hge : below xs j ≤ i := Nat.not_lt.mp fun hl => Nat.lt_irrefl j (h1 i j h hl)
  rcases Nat.lt_or_ge (below xs j) i with hl | hl
  · have hb : below xs j < xs.size := Nat.lt_trans hl (get_lt h)
    have eb : xs[below xs j]? = some xs[below xs j] := Array.getElem?_eq_getElem hb
    exact absurd (hr _ i _ j hl eb h) (Nat.not_lt.mpr (h2 _ _ eb (Nat.le_refl _)))
  · (first | lia | omega)
/-- a table without dummies -/
theorem slot_at {t : SetTable} (hr : Ris t.place) (hd : t.dummies = #[]) (j : Nat) : (∃ i : Nat, t.place[i]? = some j ∧ t.slot j = .live i) ∨ ((∀ i : Nat, t.place[i]? ≠ some j) ∧ t.slot j = .empty) := by
  have e : t.slot j = if (t.place[below t.place j]? == some j) = true then .live (below t.place j) else if has t.dummies j = true then .dummy else .empty := rfl
  rw [e]
  by_cases h : t.place[below t.place j]? = some j
  · exact .inl ⟨_, h, if_pos (by rw [h]; exact beq_self_eq_true _)⟩
  · refine .inr ⟨fun i hi => h (by rw [below_at hr hi]; exact hi), ?_⟩
    rw [if_neg fun q => h (eq_of_beq q), hd]
    exact if_neg (by rw [show has #[] j = false from rfl]; decide)
/-! putting one in -/
theorem ins_size {α : Type} {xs : Array α} {p : Nat} (hp : p ≤ xs.size) (x : α) : (insertAt xs p x).size = xs.size + 1 := by
  unfold insertAt
  rw [Array.size_append, Array.size_push, Array.size_extract, Array.size_extract]
  (first | lia | omega)
theorem ins_get {α : Type} {xs : Array α} {p : Nat} (hp : p ≤ xs.size) (x : α) (i : Nat) : (insertAt xs p x)[i]? = if i < p then xs[i]? else if i = p then some x else xs[i - 1]? := by
  unfold insertAt
  have hs : ((xs.extract 0 p).push x).size = p + 1 := by rw [Array.size_push, Array.size_extract]; (first | lia | omega)
  rcases Nat.lt_trichotomy i p with h | h | h
  · rw [if_pos h, Array.getElem?_append_left (by rw [hs]; (first | lia | omega)), Array.getElem?_push, if_neg (by rw [Array.size_extract]; (first | lia | omega)), Array.getElem?_extract, if_pos (by (first | lia | omega)), Nat.zero_add]
  · subst h
    rw [if_neg (Nat.lt_irrefl _), if_pos rfl, Array.getElem?_append_left (by rw [hs]; (first | lia | omega)), Array.getElem?_push, if_pos (by rw [Array.size_extract]; (first | lia | omega))]
  · rw [if_neg (by (first | lia | omega)), if_neg (by (first | lia | omega)), Array.getElem?_append_right (by rw [hs]; (first | lia | omega)), hs, Array.getElem?_extract]
    by_cases hi : i - 1 < xs.size
    · rw [if_pos (by (first | lia | omega)), show p + (i - (p + 1)) = i - 1 by (first | lia | omega)]
    · rw [if_neg (by (first | lia | omega)), Array.getElem?_eq_none (by (first | lia | omega))]
theorem ins_ris {xs : Array Nat} (hr : Ris xs) {j : Nat} (hj : ∀ i : Nat, xs[i]? ≠ some j) : Ris (insertAt xs (below xs j) j) := by
  obtain ⟨h0, h1, h2⟩ := below_spec hr j
  have h3 : ∀ i v, xs[i]? = some v → below xs j ≤ i → j < v := fun i v hv hi => Nat.lt_of_le_of_ne (h2 i v hv hi) fun e => hj i (e ▸ hv)
  intro i k u v hik hu hv
  rw [ins_get h0] at hu hv
  by_cases hi : i < below xs j
  · rw [if_pos hi] at hu
    by_cases hk : k < below xs j
    · rw [if_pos hk] at hv; exact hr i k u v hik hu hv
    · rw [if_neg hk] at hv
      by_cases he : k = below xs j
      · rw [if_pos he] at hv; cases hv; exact h1 i u hu hi
      · rw [if_neg he] at hv
        exact Nat.lt_trans (h1 i u hu hi) (h3 (k - 1) v hv (by (first | lia | omega)))
  · rw [if_neg hi] at hu
    rw [if_neg (by (first | lia | omega)), if_neg (by (first | lia | omega))] at hv
    by_cases he : i = below xs j
    · rw [if_pos he] at hu; cases hu; exact h3 (k - 1) v hv (by (first | lia | omega))
    · rw [if_neg he] at hu
      exact hr (i - 1) (k - 1) u v (by (first | lia | omega)) hu hv
end Mine.T

end
section
set_option autoImplicit false
set_option linter.unusedVariables false
set_option linter.unusedSimpArgs false
set_option maxRecDepth 100000
namespace Mine.T
open PySem PySem.SetTable

abbrev start (m : Nat) (h : Int) : Probe := { j := bits h % (m + 1), more := runEnd m (bits h % (m + 1)) - bits h % (m + 1), i := bits h % (m + 1), perturb := bits h, dummy := none }
theorem start_eq (t : SetTable) (h : Int) : t.probeStart h = start t.mask h := rfl
theorem bits_lt (h : Int) : bits h < 2 ^ 64 := by
  unfold bits
  have h1 := Int.emod_lt_of_pos h (show (0 : Int) < 2 ^ 64 by decide)
  have h2 := Int.emod_nonneg h (show (2 ^ 64 : Int) ≠ 0 by decide)
  (first | lia | omega)
/-- what a search keeps: the place lies in the table -/
structure Std (m : Nat) (p : Probe) : Prop where
  i : p.i ≤ m
  more : p.more ≤ 9
  pert : p.perturb < 2 ^ 64
  dummy : p.dummy = none
  j : p.j + p.more ≤ m
theorem run_in {m i : Nat} (h : i ≤ m) : i + (runEnd m i - i) ≤ m := by unfold runEnd; split <;> (first | lia | omega)
theorem start_std (m : Nat) (h : Int) : Std m (start m h) := ⟨Nat.le_of_lt_succ (Nat.mod_lt _ (Nat.succ_pos m)), run_le _ _, bits_lt h, rfl, run_in (Nat.le_of_lt_succ (Nat.mod_lt _ (Nat.succ_pos m)))⟩
theorem Std.adv {m : Nat} {p : Probe} (h : Std m p) : Std m (adv m p) := by
  unfold T.adv
  split
  · rename_i hm
    exact ⟨h.i, Nat.le_trans (Nat.sub_le _ _) h.more, h.pert, h.dummy, by have := h.j; show p.j + 1 + (p.more - 1) ≤ m; (first | lia | omega)⟩
  · exact ⟨Nat.le_of_lt_succ (Nat.mod_lt _ (Nat.succ_pos m)), run_le _ _, Nat.lt_of_le_of_lt (Nat.div_le_self _ _) h.pert, h.dummy, run_in (Nat.le_of_lt_succ (Nat.mod_lt _ (Nat.succ_pos m)))⟩
theorem Std.pth {m : Nat} : ∀ (n : Nat) {p : Probe}, Std m p → Std m (pth m n p)
  | 0, _, h => h
  | n + 1, _, h => Std.pth n h.adv
/-- the slot j is taken -/
def Occ (t : SetTable) (j : Nat) : Prop := ∃ i : Nat, t.place[i]? = some j
/-- what a search through the table comes to first: an empty slot, or one of that hash -/
inductive Meets (t : SetTable) (hashAt : Nat → Int) (h : Int) (p : Probe) (r : Option Met) : Prop
  | empty (n : Nat) (e : r = some (.empty (pth t.mask n p).j none)) (no : ¬ Occ t (pth t.mask n p).j) (before : ∀ k, k < n → ∃ i, t.place[i]? = some (pth t.mask k p).j ∧ hashAt i ≠ h)
  | cand (n i : Nat) (e : r = some (.candidate (pth t.mask n p).j i (pth t.mask (n + 1) p))) (at' : t.place[i]? = some (pth t.mask n p).j) (hh : hashAt i = h) (before : ∀ k, k < n → ∃ i, t.place[i]? = some (pth t.mask k p).j ∧ hashAt i ≠ h)
theorem Meets.later {t : SetTable} {hashAt : Nat → Int} {h : Int} {p : Probe} {r : Option Met} (m : Meets t hashAt h (adv t.mask p) r) {i : Nat} (hi : t.place[i]? = some p.j) (hh : hashAt i ≠ h) : Meets t hashAt h p r := by
  have before : ∀ n, (∀ k, k < n → ∃ i, t.place[i]? = some (pth t.mask k (adv t.mask p)).j ∧ hashAt i ≠ h) → ∀ k, k < n + 1 → ∃ i, t.place[i]? = some (pth t.mask k p).j ∧ hashAt i ≠ h := fun n hb k hk => by
    cases k with
    | zero => exact ⟨i, hi, hh⟩
    | succ k => exact hb k (Nat.lt_of_succ_lt_succ hk)
  cases m with
  | empty n e no b => exact .empty (n + 1) e no (before n b)
  | cand n i e a hh b => exact .cand (n + 1) i e a hh (before n b)
theorem go_meets {t : SetTable} (hr : Ris t.place) (hd : t.dummies = #[]) (hashAt : Nat → Int) (h : Int) : ∀ (fuel : Nat) (p : Probe), p.dummy = none → (∃ n, n < fuel ∧ ¬ Occ t (pth t.mask n p).j) → Meets t hashAt h p (probe.go t hashAt h fuel p)
  | 0, p, _, hn => by obtain ⟨n, hn, _⟩ := hn; exact absurd hn (Nat.not_lt_zero n)
  | fuel + 1, p, hp, hn => by
    have e : probe.go t hashAt h (fuel + 1) p = match t.slot p.j with
      | .empty => some (.empty p.j p.dummy)
      | .dummy => probe.go t hashAt h fuel (t.advance { p with dummy := some p.j })
      | .live i => if hashAt i == h then some (.candidate p.j i (t.advance p)) else probe.go t hashAt h fuel (t.advance p) := rfl
    rw [e]
    rcases slot_at hr hd p.j with ⟨i, hi, hs⟩ | ⟨hno, hs⟩
    · rw [hs]
      show Meets t hashAt h p (if (hashAt i == h) = true then some (.candidate p.j i (t.advance p)) else probe.go t hashAt h fuel (t.advance p))
      by_cases hh : hashAt i = h
      · rw [if_pos (by rw [hh]; exact beq_self_eq_true h)]
        exact .cand 0 i rfl hi hh fun k hk => absurd hk (Nat.not_lt_zero k)
      · rw [if_neg fun q => hh (eq_of_beq q), advance_eq]
        refine (go_meets hr hd hashAt h fuel (adv t.mask p) ?_ ?_).later hi hh
        · unfold adv; split <;> exact hp
        · obtain ⟨n, hn, ho⟩ := hn
          cases n with
          | zero => exact absurd ⟨i, hi⟩ ho
          | succ n => exact ⟨n, Nat.lt_of_succ_lt_succ hn, ho⟩
    · rw [hs]
      exact .empty 0 (by rw [← hp]; rfl) (fun ⟨i, hi⟩ => hno i hi) fun k hk => absurd hk (Nat.not_lt_zero k)
theorem sub_len {α : Type} [DecidableEq α] : ∀ {l m : List α}, l.Nodup → (∀ x ∈ l, x ∈ m) → l.length ≤ m.length
  | [], _, _, _ => Nat.zero_le _
  | a :: r, m, hn, hs => by
    have hn := List.nodup_cons.mp hn
    have ih := sub_len (m := m.erase a) hn.2 fun x hx => (List.mem_erase_of_ne fun e : x = a => hn.1 (e ▸ hx)).mpr (hs x (.tail _ hx))
    rw [List.length_erase_of_mem (hs a List.mem_cons_self)] at ih
    have : 0 < m.length := List.length_pos_of_mem (hs a List.mem_cons_self)
    rw [List.length_cons]
    (first | lia | omega)
/-- a table that is not full has an empty slot -/
theorem some_empty {t : SetTable} (h : t.place.size ≤ t.mask) : ∃ j, j ≤ t.mask ∧ ¬ Occ t j := by
  refine Classical.byContradiction fun hno => ?_
  have all : ∀ j, j ∈ List.range (t.mask + 1) → j ∈ t.place.toList := fun j hj => by
    have : Occ t j := Classical.byContradiction fun q => hno ⟨j, Nat.le_of_lt_succ (List.mem_range.mp hj), q⟩
    obtain ⟨i, hi⟩ := this
    exact Array.mem_toList_iff.mpr (Array.mem_of_getElem? hi)
  have := sub_len List.nodup_range all
  rw [List.length_range, Array.length_toList] at this
  (first | lia | omega)
theorem probe_meets {t : SetTable} (hm : MaskOk t.mask) (hr : Ris t.place) (hd : t.dummies = #[]) (hs : t.place.size ≤ t.mask) (hashAt : Nat → Int) (h : Int) {p : Probe} (hp : Std t.mask p) : Meets t hashAt h p (t.probe hashAt h p) := by
  obtain ⟨j, hj, ho⟩ := some_empty hs
  obtain ⟨n, hn, e⟩ := covers hm hp.i hp.more hp.pert hj
  exact go_meets hr hd hashAt h _ p hp.dummy ⟨n, hn, by rw [e]; exact ho⟩
end Mine.T

end
section
set_option autoImplicit false
set_option linter.unusedVariables false
set_option linter.unusedSimpArgs false
set_option maxRecDepth 100000
namespace Mine.T
open PySem PySem.SetTable

/-- one of the hash h, put at j, is found again -/
def Reach (t : SetTable) (h : Int) (j : Nat) : Prop := ∃ n, (pth t.mask n (start t.mask h)).j = j ∧ ∀ k, k < n → Occ t (pth t.mask k (start t.mask h)).j
structure TOk (t : SetTable) (es : Array (Int × Value)) : Prop where
  mask : MaskOk t.mask
  dum : t.dummies = #[]
  ris : Ris t.place
  size : t.place.size = es.size
  room : t.place.size ≤ t.mask
  reach : ∀ (i j : Nat) (h : Int) (x : Value), t.place[i]? = some j → es[i]? = some (h, x) → Reach t h j
theorem put_ok {t : SetTable} {es : Array (Int × Value)} (T : TOk t es) {h : Int} {x : Value} {j n : Nat} (hj : (pth t.mask n (start t.mask h)).j = j) (no : ¬ Occ t j) (before : ∀ k, k < n → Occ t (pth t.mask k (start t.mask h)).j) (room : t.place.size + 1 ≤ t.mask) :
    TOk (t.put j).1 (insertAt es (t.put j).2 (h, x)) := by
  have hb := (below_spec T.ris j).1
  have e1 : (t.put j).1.place = insertAt t.place (below t.place j) j := rfl
  have e2 : (t.put j).2 = below t.place j := rfl
  have e3 : (t.put j).1.mask = t.mask := rfl
  have e4 : (t.put j).1.dummies = #[] := by
    show (if has t.dummies j then eraseAt t.dummies (below t.dummies j) else t.dummies) = #[]
    rw [T.dum]; rfl
  have up : ∀ {k}, Occ t k → Occ (t.put j).1 k := fun {k} ⟨i, hi⟩ => by
    rcases Nat.lt_or_ge i (below t.place j) with hl | hl
    · exact ⟨i, by rw [e1, ins_get hb, if_pos hl]; exact hi⟩
    · exact ⟨i + 1, by rw [e1, ins_get hb, if_neg (by (first | lia | omega)), if_neg (by (first | lia | omega))]; exact hi⟩
  refine ⟨T.mask, e4, ins_ris T.ris fun i hi => no ⟨i, hi⟩, ?_, ?_, fun i j' h' x' hp he => ?_⟩
  · rw [e1, e2, ins_size hb, ins_size (by rw [← T.size]; exact hb), T.size]
  · rw [e1, ins_size hb]; exact room
  · rw [e1, ins_get hb] at hp
    rw [e2, ins_get (by rw [← T.size]; exact hb)] at he
    have old : ∀ i, t.place[i]? = some j' → es[i]? = some (h', x') → Reach (t.put j).1 h' j' := fun i h1 h2 => by
      obtain ⟨n, hn, hb⟩ := T.reach i j' h' x' h1 h2
      exact ⟨n, hn, fun k hk => up (hb k hk)⟩
    by_cases hl : i < below t.place j
    · rw [if_pos hl] at hp he; exact old i hp he
    · rw [if_neg hl] at hp he
      by_cases hi : i = below t.place j
      · rw [if_pos hi] at hp he
        cases hp; cases he
        exact ⟨n, hj, fun k hk => up (before k hk)⟩
      · rw [if_neg hi] at hp he; exact old _ hp he
/-! laying anew -/
/-- the slot j has no owner yet -/
def Fre (owner : Array (Option Nat)) (j : Nat) : Prop := (owner.getD j (some 0)).isNone = true
theorem run_pth (m : Nat) : ∀ (k : Nat) (p : Probe), k ≤ p.more → pth m k p = { p with j := p.j + k, more := p.more - k }
  | 0, p, _ => rfl
  | k + 1, p, h => by
    have e : adv m p = { p with j := p.j + 1, more := p.more - 1 } := if_pos (by (first | lia | omega))
    show pth m k (adv m p) = _
    rw [e, run_pth m k _ (by show k ≤ p.more - 1; (first | lia | omega))]
    show ({ p with j := p.j + 1 + k, more := p.more - 1 - k } : Probe) = _
    rw [show p.j + 1 + k = p.j + (k + 1) by (first | lia | omega), show p.more - 1 - k = p.more - (k + 1) by (first | lia | omega)]
abbrev head (m i perturb : Nat) : Probe := { j := i, more := runEnd m i - i, i, perturb, dummy := none }
theorem head_leap (m i perturb : Nat) : pth m (runEnd m i - i + 1) (head m i perturb) = head m (leap m i perturb).1 (leap m i perturb).2 := by
  rw [pth_succ, run_pth m (runEnd m i - i) (head m i perturb) (Nat.le_refl _)]
  exact if_neg (by show ¬ (runEnd m i - i - (runEnd m i - i) > 0); (first | lia | omega))
theorem free_eq (m : Nat) (owner : Array (Option Nat)) (fuel i perturb : Nat) : layClean.free m owner (fuel + 1) i perturb = match (List.range (runEnd m i + 1 - i)).find? fun k => (owner.getD (i + k) (some 0)).isNone with
      | some k => some (i + k)
      | none => layClean.free m owner fuel (leap m i perturb).1 (leap m i perturb).2 := rfl
theorem run_len (m i : Nat) : runEnd m i + 1 - i = runEnd m i - i + 1 := by unfold runEnd; split <;> (first | lia | omega)
theorem free_some {m : Nat} {owner : Array (Option Nat)} {j : Nat} : ∀ (fuel i perturb : Nat), layClean.free m owner fuel i perturb = some j → ∃ n, (pth m n (head m i perturb)).j = j ∧ Fre owner j ∧ ∀ k, k < n → ¬ Fre owner (pth m k (head m i perturb)).j
  | 0, i, perturb, h => nomatch h
  | fuel + 1, i, perturb, h => by
    rw [free_eq, run_len] at h
    have runj : ∀ k, k ≤ runEnd m i - i → (pth m k (head m i perturb)).j = i + k := fun k hk => by rw [run_pth m k _ hk]
    cases hf : (List.range (runEnd m i - i + 1)).find? fun k => (owner.getD (i + k) (some 0)).isNone with
    | some k =>
      rw [hf] at h
      cases h
      have hk : k ≤ runEnd m i - i := Nat.le_of_lt_succ (List.mem_range.mp (List.mem_of_find?_eq_some hf))
      refine ⟨k, runj k hk, List.find?_some (p := fun k => (owner.getD (i + k) (some 0)).isNone) hf, fun k' hk' => ?_⟩
      rw [runj k' (by (first | lia | omega))]
      obtain ⟨as, bs, e, hb⟩ := List.find?_eq_some_iff_append.mp hf |>.2
      intro hF
      have hlen : as.length = k := by
        have h1 := congrArg (fun l => l[as.length]?) e
        simp only [List.getElem?_append_right (Nat.le_refl _), Nat.sub_self, List.getElem?_cons_zero] at h1
        rw [List.getElem?_range (by
          have := congrArg List.length e
          rw [List.length_range, List.length_append, List.length_cons] at this
          (first | lia | omega))] at h1
        exact Option.some.inj h1
      have hm : k' ∈ as := by
        have h1 := congrArg (fun l => l[k']?) e
        simp only [List.getElem?_append_left (show k' < as.length by (first | lia | omega))] at h1
        rw [List.getElem?_range (by (first | lia | omega))] at h1
        exact List.mem_of_getElem? h1.symm
      have := hb k' hm
      unfold Fre at hF
      rw [hF] at this
      exact absurd this (by decide)
    | none =>
      rw [hf] at h
      obtain ⟨n, hn, hF, hb⟩ := free_some fuel _ _ h
      have hno := List.find?_eq_none.mp hf
      refine ⟨runEnd m i - i + 1 + n, by rw [pth_add, head_leap]; exact hn, hF, fun k hk => ?_⟩
      by_cases hl : k < runEnd m i - i + 1
      · rw [runj k (by (first | lia | omega))]
        exact fun hF => hno k (List.mem_range.mpr hl) hF
      · have := hb (k - (runEnd m i - i + 1)) (by (first | lia | omega))
        rw [← head_leap, ← pth_add, show runEnd m i - i + 1 + (k - (runEnd m i - i + 1)) = k by (first | lia | omega)] at this
        exact this
theorem free_none {m : Nat} {owner : Array (Option Nat)} : ∀ (fuel i perturb : Nat), layClean.free m owner fuel i perturb = none → ∀ k, k < fuel → ¬ Fre owner (lp m k (i, perturb)).1
  | 0, i, perturb, _ => fun k hk => absurd hk (Nat.not_lt_zero k)
  | fuel + 1, i, perturb, h => by
    rw [free_eq, run_len] at h
    cases hf : (List.range (runEnd m i - i + 1)).find? fun k => (owner.getD (i + k) (some 0)).isNone with
    | some k => rw [hf] at h; cases h
    | none =>
      rw [hf] at h
      intro k hk
      cases k with
      | zero => exact fun hF => List.find?_eq_none.mp hf 0 (List.mem_range.mpr (Nat.succ_pos _)) (by rw [Nat.add_zero]; exact hF)
      | succ k => exact free_none fuel _ _ h k (Nat.lt_of_succ_lt_succ hk)
end Mine.T

end
section
set_option autoImplicit false
set_option linter.unusedVariables false
set_option linter.unusedSimpArgs false
set_option maxRecDepth 100000
namespace Mine.T
open PySem PySem.SetTable

/-- the owners of the slots after those of hs have been laid -/
structure Own (m : Nat) (hs : List Int) (owner : Array (Option Nat)) : Prop where
  size : owner.size = m + 1
  inj : ∀ (j j' k : Nat), owner[j]? = some (some k) → owner[j']? = some (some k) → j = j'
  lt : ∀ (j k : Nat), owner[j]? = some (some k) → k < hs.length
  all : ∀ (k : Nat) (h : Int), hs[k]? = some h → ∃ j n, owner[j]? = some (some k) ∧ (pth m n (start m h)).j = j ∧ ∀ n', n' < n → ¬ Fre owner (pth m n' (start m h)).j
theorem fre_iff {owner : Array (Option Nat)} {j : Nat} : Fre owner j ↔ owner[j]? = some none := by
  unfold Fre
  rw [Array.getD_eq_getD_getElem?]
  cases h : owner[j]? with
  | none => exact ⟨fun q => (nomatch q), fun q => (nomatch q)⟩
  | some o =>
    cases o with
    | none => exact ⟨fun _ => rfl, fun _ => rfl⟩
    | some k => exact ⟨fun q => (nomatch q), fun q => (nomatch q)⟩
theorem own_free {m : Nat} {hs : List Int} {owner : Array (Option Nat)} (O : Own m hs owner) (h : hs.length ≤ m) : ∃ j, j ≤ m ∧ Fre owner j := by
  refine Classical.byContradiction fun hno => ?_
  have occ : ∀ j, j < m + 1 → ∃ k, owner[j]? = some (some k) := fun j hj => by
    have hj' : j < owner.size := by rw [O.size]; exact hj
    cases ho : owner[j] with
    | none => exact absurd ⟨j, Nat.le_of_lt_succ hj, fre_iff.mpr (by rw [Array.getElem?_eq_getElem hj', ho])⟩ hno
    | some k => exact ⟨k, by rw [Array.getElem?_eq_getElem hj', ho]⟩
  have hl : ((List.range (m + 1)).map fun j => ((owner[j]?).getD none).getD 0).Nodup := by
    refine List.pairwise_map.mpr (List.nodup_range.imp_of_mem fun {a b} ha hb hab e => hab ?_)
    obtain ⟨k, hk⟩ := occ a (List.mem_range.mp ha)
    obtain ⟨k', hk'⟩ := occ b (List.mem_range.mp hb)
    rw [hk, hk'] at e
    have e : k = k' := e
    exact O.inj a b k hk (e ▸ hk')
  have := sub_len (m := List.range hs.length) hl fun x hx => by
    obtain ⟨j, hj, rfl⟩ := List.mem_map.mp hx
    obtain ⟨k, hk⟩ := occ j (List.mem_range.mp hj)
    rw [hk]
    exact List.mem_range.mpr (O.lt j k hk)
  rw [List.length_map, List.length_range, List.length_range] at this
  (first | lia | omega)
def layStep (m : Nat) (acc : Option (Array (Option Nat) × Nat)) (h : Int) : Option (Array (Option Nat) × Nat) := do
  let (owner, k) ← acc
  let j ← layClean.free m owner (turns m) (bits h % (m + 1)) (bits h)
  pure (owner.setIfInBounds j (some k), k + 1)
theorem lay_one {m : Nat} (hm : MaskOk m) {hs : List Int} {owner : Array (Option Nat)} (O : Own m hs owner) (hl : hs.length ≤ m) (h : Int) : ∃ owner', layStep m (some (owner, hs.length)) h = some (owner', hs.length + 1) ∧ Own m (hs ++ [h]) owner' := by
  cases hf : layClean.free m owner (turns m) (bits h % (m + 1)) (bits h) with
  | none =>
    obtain ⟨j, hj, hF⟩ := own_free O hl
    have S := start_std m h
    have h13 : (lp m 13 (bits h % (m + 1), bits h)).2 = 0 := lp_pert m 13 _ (Nat.lt_of_lt_of_le S.pert (by decide))
    obtain ⟨c, hc, ec⟩ := cycle hm (lp_le m 13 (bits h % (m + 1), bits h) S.i) hj
    have := free_none _ _ _ hf (13 + c) (by unfold turns; (first | lia | omega))
    rw [lp_add, show lp m 13 (bits h % (m + 1), bits h) = ((lp m 13 (bits h % (m + 1), bits h)).1, 0) from Prod.ext rfl h13, lp_zero, ec] at this
    exact absurd hF this
  | some j =>
    obtain ⟨n, hn, hF, hb⟩ := free_some _ _ _ hf
    have hj := fre_iff.mp hF
    have hjs : j < owner.size := get_lt hj
    refine ⟨owner.setIfInBounds j (some hs.length), by unfold layStep; rw [show (some (owner, hs.length) >>= fun x => layClean.free m x.1 (turns m) (bits h % (m + 1)) (bits h) >>= fun j => pure (x.1.setIfInBounds j (some x.2), x.2 + 1)) = (layClean.free m owner (turns m) (bits h % (m + 1)) (bits h) >>= fun j => pure (owner.setIfInBounds j (some hs.length), hs.length + 1)) from rfl, hf]; rfl, ?_⟩
    have get : ∀ i, (owner.setIfInBounds j (some hs.length))[i]? = if j = i then some (some hs.length) else owner[i]? := fun i => by
      rw [Array.getElem?_setIfInBounds]
      by_cases e : j = i
      · rw [if_pos e, if_pos e, if_pos hjs]
      · rw [if_neg e, if_neg e]
    have notF : ∀ i, ¬ Fre owner i → ¬ Fre (owner.setIfInBounds j (some hs.length)) i := fun i hi q => hi (fre_iff.mpr (by
      have q := fre_iff.mp q
      rw [get] at q
      split at q
      · cases q
      · exact q))
    refine ⟨by rw [Array.size_setIfInBounds]; exact O.size, fun a b k ha hb' => ?_, fun a k ha => ?_, fun k h' hk => ?_⟩
    · rw [get] at ha hb'
      split at ha
      · rename_i e1
        split at hb'
        · rename_i e2; rw [← e1, ← e2]
        · cases ha; exact absurd (O.lt b _ hb') (Nat.lt_irrefl _)
      · split at hb'
        · cases hb'; exact absurd (O.lt a _ ha) (Nat.lt_irrefl _)
        · exact O.inj a b k ha hb'
    · rw [get] at ha
      rw [List.length_append, List.length_singleton]
      split at ha
      · cases ha; exact Nat.lt_succ_self _
      · exact Nat.lt_succ_of_lt (O.lt a k ha)
    · rcases Nat.lt_or_ge k hs.length with hkl | hkl
      · rw [List.getElem?_append_left hkl] at hk
        obtain ⟨j', n', h1, h2, h3⟩ := O.all k h' hk
        refine ⟨j', n', ?_, h2, fun i hi => notF _ (h3 i hi)⟩
        rw [get, if_neg fun e => ?_]
        · exact h1
        · rw [← e, hj] at h1; cases h1
      · have : k = hs.length := by
          have := (List.getElem?_eq_some_iff.mp hk).1
          rw [List.length_append, List.length_singleton] at this
          (first | lia | omega)
        subst this
        rw [List.getElem?_append_right (Nat.le_refl _), Nat.sub_self] at hk
        cases hk
        refine ⟨j, n, by rw [get, if_pos rfl], hn, fun i hi => notF _ (hb i hi)⟩
theorem lay_all {m : Nat} (hm : MaskOk m) : ∀ (rest hs : List Int) (owner : Array (Option Nat)), Own m hs owner → hs.length + rest.length ≤ m → ∃ owner', rest.foldl (layStep m) (some (owner, hs.length)) = some (owner', hs.length + rest.length) ∧ Own m (hs ++ rest) owner'
  | [], hs, owner, O, _ => ⟨owner, rfl, by rw [List.append_nil]; exact O⟩
  | h :: rest, hs, owner, O, hl => by
    rw [List.length_cons] at hl
    obtain ⟨o1, e1, O1⟩ := lay_one hm O (by (first | lia | omega)) h
    obtain ⟨o2, e2, O2⟩ := lay_all hm rest (hs ++ [h]) o1 O1 (by rw [List.length_append, List.length_singleton]; (first | lia | omega))
    refine ⟨o2, ?_, by rw [List.append_assoc] at O2; exact O2⟩
    rw [List.foldl_cons, e1]
    rw [List.length_append, List.length_singleton] at e2
    rw [e2, List.length_cons]
    exact congrArg (fun n => some (o2, n)) (by (first | lia | omega))
theorem own_nil (m : Nat) : Own m [] (Array.replicate (m + 1) none) := by
  have no : ∀ (j k : Nat), (Array.replicate (m + 1) (none : Option Nat))[j]? ≠ some (some k) := fun j k h => by
    rw [Array.getElem?_replicate] at h
    split at h <;> cases h
  exact ⟨Array.size_replicate, fun j j' k h => absurd h (no j k), fun j k h => absurd h (no j k), fun k h hk => nomatch hk⟩
theorem layClean_ok {m : Nat} (hm : MaskOk m) (hs : Array Int) (hl : hs.size ≤ m) : ∃ owner, layClean m hs = some owner ∧ Own m hs.toList owner := by
  obtain ⟨o, e, O⟩ := lay_all hm hs.toList [] _ (own_nil m) (by rw [List.length_nil, Nat.zero_add, Array.length_toList]; exact hl)
  refine ⟨o, ?_, O⟩
  have e' : layClean m hs = (hs.foldl (layStep m) (some (Array.replicate (m + 1) none, 0))).map (·.1) := rfl
  rw [e', ← Array.foldl_toList]
  rw [List.length_nil] at e
  rw [e]; rfl
end Mine.T

end
section
set_option autoImplicit false
set_option linter.unusedVariables false
set_option linter.unusedSimpArgs false
set_option maxRecDepth 100000
namespace Mine.T
open PySem PySem.SetTable

theorem fm_get {α β : Type} {f : α → Option β} : ∀ {l : List α}, (∀ a ∈ l, ∃ b, f a = some b) → ∀ i : Nat, (l.filterMap f)[i]? = (l[i]?).bind f
  | [], _, i => rfl
  | a :: r, h, i => by
    obtain ⟨b, hb⟩ := h a List.mem_cons_self
    rw [List.filterMap_cons_some hb]
    cases i with
    | zero => exact hb.symm
    | succ i => exact fm_get (fun a ha => h a (.tail _ ha)) i
theorem fm_len {α β : Type} {f : α → Option β} : ∀ {l : List α}, (∀ a ∈ l, ∃ b, f a = some b) → (l.filterMap f).length = l.length
  | [], _ => rfl
  | a :: r, h => by
    obtain ⟨b, hb⟩ := h a List.mem_cons_self
    rw [List.filterMap_cons_some hb, List.length_cons, List.length_cons, fm_len fun a ha => h a (.tail _ ha)]
abbrev liveOf (m : Nat) (owner : Array (Option Nat)) : List (Nat × Nat) := (List.range (m + 1)).filterMap fun j => (owner.getD j none).map (j, ·)
theorem live_mem {m : Nat} {owner : Array (Option Nat)} (hs : owner.size = m + 1) {p : Nat × Nat} : p ∈ liveOf m owner ↔ owner[p.1]? = some (some p.2) := by
  rw [List.mem_filterMap]
  constructor
  · rintro ⟨j, hj, e⟩
    rw [Array.getD_eq_getD_getElem?] at e
    cases ho : owner[j]? with
    | none => rw [ho] at e; cases e
    | some o =>
      rw [ho] at e
      cases o with
      | none => cases e
      | some k => cases e; exact ho
  · intro h
    refine ⟨p.1, List.mem_range.mpr (by rw [← hs]; exact get_lt h), ?_⟩
    rw [Array.getD_eq_getD_getElem?, h]; rfl
theorem live_ris (m : Nat) (owner : Array (Option Nat)) : (liveOf m owner).Pairwise fun a b => a.1 < b.1 := by
  refine List.Pairwise.filterMap _ (fun a b hab x hx y hy => ?_) List.pairwise_lt_range
  cases ha : owner.getD a none with
  | none => rw [ha] at hx; cases hx
  | some u =>
    rw [ha] at hx; cases hx
    cases hb : owner.getD b none with
    | none => rw [hb] at hy; cases hy
    | some v => rw [hb] at hy; cases hy; exact hab
theorem ris_of {l : List Nat} (h : l.Pairwise (· < ·)) : Ris l.toArray := fun i k u v hik hu hv => by
  rw [List.getElem?_toArray] at hu hv
  obtain ⟨h1, e1⟩ := List.getElem?_eq_some_iff.mp hu
  obtain ⟨h2, e2⟩ := List.getElem?_eq_some_iff.mp hv
  rw [← e1, ← e2]
  exact List.pairwise_iff_getElem.mp h i k h1 h2 hik
theorem order_perm {α : Type} {es : Array α} {order : List Nat} (hn : order.Nodup) (h : ∀ k, k ∈ order ↔ k < es.size) : (order.filterMap (es[·]?)).Perm es.toList := by
  have p : order.Perm (List.range es.size) := (List.perm_ext_iff_of_nodup hn List.nodup_range).mpr fun k => (h k).trans List.mem_range.symm
  refine (p.filterMap _).trans (List.Perm.of_eq ?_)
  have e : (List.range es.size).map (fun i => es[i]?) = es.toList.map some := by
    apply List.ext_getElem?
    intro i
    rw [List.getElem?_map, List.getElem?_map]
    by_cases hi : i < es.size
    · rw [List.getElem?_range hi, Array.getElem?_toList, Array.getElem?_eq_getElem hi]; exact congrArg some (Array.getElem?_eq_getElem hi)
    · rw [List.getElem?_eq_none (by rw [List.length_range]; (first | lia | omega)), List.getElem?_eq_none (by rw [Array.length_toList]; (first | lia | omega))]; rfl
  have e2 := congrArg (List.filterMap id) e
  rw [List.filterMap_map, List.filterMap_map] at e2
  exact e2.trans List.filterMap_some
theorem laid_ok {m f mv : Nat} {led plain : Bool} (hm : MaskOk m) {es : Array (Int × Value)} (hl : es.size ≤ m) : ∃ t order, laid m f mv led plain (es.map (·.1)) = some (t, order) ∧ t.mask = m ∧ t.led = led ∧ t.plain = plain ∧ TOk t (order.filterMap (es[·]?)) ∧ (order.filterMap (es[·]?)).toList.Perm es.toList := by
  obtain ⟨owner, eo, O⟩ := layClean_ok hm (es.map (·.1)) (by rw [Array.size_map]; exact hl)
  have hlen : (es.map (·.1)).toList.length = es.size := by rw [Array.length_toList, Array.size_map]
  refine ⟨{ mask := m, place := ((liveOf m owner).map (·.1)).toArray, dummies := #[], finger := f, led, moves := mv, plain }, ((liveOf m owner).map (·.2)).toArray, by unfold laid; rw [eo]; rfl, rfl, rfl, rfl, ?_⟩
  have lt : ∀ p ∈ liveOf m owner, p.2 < es.size := fun p hp => by rw [← hlen]; exact O.lt p.1 p.2 ((live_mem O.size).mp hp)
  have some_ : ∀ k ∈ (liveOf m owner).map (·.2), ∃ b, (fun x => es[x]?) k = some b := fun k hk => by
    obtain ⟨p, hp, rfl⟩ := List.mem_map.mp hk
    exact ⟨es[p.2]'(lt p hp), Array.getElem?_eq_getElem (lt p hp)⟩
  have e' : (((liveOf m owner).map (·.2)).toArray.filterMap (es[·]?)).toList = ((liveOf m owner).map (·.2)).filterMap (es[·]?) := by rw [Array.toList_filterMap]
  have nd : ((liveOf m owner).map (·.2)).Nodup := List.pairwise_map.mpr ((live_ris m owner).imp_of_mem fun {a b} ha hb hab e => by
    have h1 := (live_mem O.size).mp ha
    have h2 := (live_mem O.size).mp hb
    rw [e] at h1
    exact absurd (O.inj _ _ _ h1 h2) (Nat.ne_of_lt hab))
  have all : ∀ k, k < es.size → k ∈ (liveOf m owner).map (·.2) := fun k hk => by
    obtain ⟨j, n, h1, _⟩ := O.all k _ (List.getElem?_eq_getElem (by rw [hlen]; exact hk))
    exact List.mem_map.mpr ⟨(j, k), (live_mem O.size).mpr h1, rfl⟩
  have hll : (liveOf m owner).length = es.size := by
    have h1 := sub_len (m := List.range es.size) nd fun k hk => by
      obtain ⟨p, hp, rfl⟩ := List.mem_map.mp hk
      exact List.mem_range.mpr (lt p hp)
    have h2 := sub_len (m := (liveOf m owner).map (·.2)) (List.nodup_range (n := es.size)) fun k hk => all k (List.mem_range.mp hk)
    rw [List.length_map, List.length_range] at h1 h2
    (first | lia | omega)
  have hsz : (((liveOf m owner).map (·.2)).toArray.filterMap (es[·]?)).size = es.size := by
    rw [← Array.length_toList, e', fm_len some_, List.length_map, hll]
  have occ : ∀ j, ¬ Fre owner j → j ≤ m → Occ { mask := m, place := ((liveOf m owner).map (·.1)).toArray, dummies := #[], finger := f, led, moves := mv, plain } j := fun j hF hj => by
    have hj' : j < owner.size := by rw [O.size]; exact Nat.lt_succ_of_le hj
    cases ho : owner[j] with
    | none => exact absurd (fre_iff.mpr (by rw [Array.getElem?_eq_getElem hj', ho])) hF
    | some k =>
      have hm : (j, k) ∈ liveOf m owner := (live_mem O.size).mpr (by rw [Array.getElem?_eq_getElem hj', ho])
      obtain ⟨i, hi⟩ := List.getElem?_of_mem hm
      exact ⟨i, by rw [List.getElem?_toArray, List.getElem?_map, hi]; rfl⟩
  refine ⟨⟨hm, rfl, ris_of (List.pairwise_map.mpr (live_ris m owner)), ?_, ?_, fun i j h x hp he => ?_⟩, by rw [e']; exact order_perm nd fun k => ⟨fun hk => (List.mem_map.mp hk).elim fun p hp => hp.2 ▸ lt p hp.1, all k⟩⟩
  · show ((liveOf m owner).map (·.1)).toArray.size = _
    rw [hsz, List.size_toArray, List.length_map, hll]
  · show ((liveOf m owner).map (·.1)).toArray.size ≤ m
    rw [List.size_toArray, List.length_map, hll]; exact hl
  · have hp : ((liveOf m owner).map (·.1)).toArray[i]? = some j := hp
    rw [List.getElem?_toArray, List.getElem?_map] at hp
    rw [← Array.getElem?_toList, e', fm_get some_, List.getElem?_map] at he
    obtain ⟨p, hpi, rfl⟩ := Option.map_eq_some_iff.mp hp
    rw [hpi] at he
    have he : es[p.2]? = some (h, x) := he
    have ho := (live_mem O.size).mp (List.mem_of_getElem? hpi)
    obtain ⟨j', n, h1, h2, h3⟩ := O.all p.2 h (by rw [Array.getElem?_toList, Array.getElem?_map, he]; rfl)
    have : j' = p.1 := O.inj _ _ _ h1 ho
    refine ⟨n, h2.trans this, fun k hk => occ _ (h3 k hk) ?_⟩
    exact Nat.le_trans (Nat.le_add_right _ _) ((start_std m h).pth k).j
end Mine.T

end
section
set_option autoImplicit false
set_option linter.unusedVariables false
set_option linter.unusedSimpArgs false
set_option maxRecDepth 100000
namespace Mine.T
open PySem PySem.SetTable
theorem for_yield {f : Value → Option Bool × Unit → Sem (ForInStep (Option Bool × Unit))} : ∀ l : List Value, (∀ x ∈ l, f x (none, ()) = pure (.yield (none, ()))) → forIn l (none, ()) f = pure (none, ())
  | [], _ => rfl
  | x :: r, h => by
    rw [List.forIn_cons, h x List.mem_cons_self]
    exact for_yield r fun y hy => h y (.tail _ hy)
section
variable {prog : Program} {w : World} {A : Around} {E : Value → Shared → Prop} {s : Shared}
theorem items_all {P : Value → Prop} (hi : ∀ i t, P (.int i t)) (hb : ∀ b, P (.bool b)) {ks : List Int} {vs : List Value} (h : ItemsAre (ibKind prog w) ks vs) : ∀ v ∈ vs, P v := by
  induction h with
  | nil => exact fun v hv => nomatch hv
  | @cons k v ks vs h1 _ ih =>
    intro u hu
    rcases List.mem_cons.mp hu with e | hu
    · subst e; exact ib_shape (P := P) h1 (fun t => hi k t) fun b _ => hb b
    · exact ih u hu
theorem hbv {ks : List Int} {a : Addr} {Q : Bool → Shared → Prop} (hk : IsTupleKey (ibKind prog w) s.heap ks a) (h : Q true s) : wpAny (model prog w) A (hashByValue 8 (.ref a)) Q E s := by
  obtain ⟨o, items, n, ho, hc, hd, hi⟩ := hk
  unfold hashByValue
  refine wpAny_bind (wpAny_specialOf ⟨o, ho, hc⟩ F.slot_tuple_hash.lookup ?_)
  refine wpAny_bind (wpAny_seqItems ho hd ?_)
  show wpAny _ _ (forIn items (none, ()) _ >>= _) Q E s
  rw [← Array.forIn_toList, for_yield _ (items_all (P := fun x => (do let l ← hashByValue 7 x; if (!l) = true then pure (ForInStep.done (some false, ())) else pure (ForInStep.yield (none, ())) : Sem (ForInStep (Option Bool × Unit))) = pure (.yield (none, ()))) (fun _ _ => rfl) (fun _ => rfl) hi)]
  exact wpAny_bind (wpAny_pure (wpAny_pure h))
theorem oacs {ks : List Int} {a : Addr} {Q : Bool → Shared → Prop} (hk : IsTupleKey (ibKind prog w) s.heap ks a) (h : Q false s) : wpAny (model prog w) A (ofAClassStatement 8 (.ref a)) Q E s := by
  obtain ⟨o, items, n, ho, hc, hd, hi⟩ := hk
  unfold ofAClassStatement
  refine wpAny_bind (wpAny_typeOf ⟨o, ho, hc⟩ ?_)
  dsimp only
  rw [if_pos (beq_self_eq_true _)]
  refine wpAny_bind (wpAny_pure ?_)
  refine wpAny_bind (wpAny_seqItems ho hd ?_)
  show wpAny _ _ (forIn items (none, ()) _ >>= _) Q E s
  rw [← Array.forIn_toList, for_yield _ (items_all (P := fun x => (do let l ← ofAClassStatement 7 x; if l = true then pure (ForInStep.done (some true, ())) else pure (ForInStep.yield (none, ())) : Sem (ForInStep (Option Bool × Unit))) = pure (.yield (none, ()))) (fun _ _ => rfl) (fun _ => rfl) hi)]
  exact wpAny_bind (wpAny_pure (wpAny_pure h))
end
end Mine.T

end
section
set_option autoImplicit false
set_option linter.unusedVariables false
set_option linter.unusedSimpArgs false
set_option maxRecDepth 100000
namespace Mine.T
open PySem PySem.SetTable
section
variable {prog : Program} {w : World} {A : Around} {E : Value → Shared → Prop} {s : Shared}
theorem for_wp {f : Value → Option Bool × Unit → Sem (ForInStep (Option Bool × Unit))} {Q : Option Bool × Unit → Shared → Prop} : ∀ l : List Value, (∀ x ∈ l, ∀ R : ForInStep (Option Bool × Unit) → Shared → Prop, R (.yield (none, ())) s → wpAny (model prog w) A (f x (none, ())) R E s) → Q (none, ()) s → wpAny (model prog w) A (forIn l (none, ()) f) Q E s
  | [], _, q => wpAny_pure q
  | x :: r, h, q => by
    rw [List.forIn_cons]
    exact wpAny_bind (h x List.mem_cons_self _ (for_wp r (fun y hy => h y (.tail _ hy)) q))
/-- keys in a heap -/
abbrev IsP (prog : Program) (w : World) (h : Heap) (k : List Int) (a : Addr) : Prop := IsTupleKey (ibKind prog w) h k a
theorem seen {k : List Int} {a : Addr} {l : List Value} {Q : Bool → Shared → Prop} (hk : IsP prog w s.heap k a) (hl : ∀ y ∈ l, ∃ k b, y = .ref b ∧ IsP prog w s.heap k b) (h : Q false s) : wpAny (model prog w) A (searchCouldBeSeen (.ref a) l) Q E s := by
  unfold searchCouldBeSeen
  refine wpAny_bind (for_wp l (fun y hy R hR => ?_) (wpAny_pure h))
  obtain ⟨k', b, rfl, hb⟩ := hl y hy
  dsimp only
  split
  · exact wpAny_pure hR
  · refine wpAny_bind ((pKind prog w).quiet (k := k) hk ?_)
    rw [if_neg (by decide)]
    refine wpAny_bind ((pKind prog w).quiet (k := k') hb ?_)
    rw [if_neg (by decide)]
    refine wpAny_bind (oacs hk ?_)
    rw [if_neg (by decide)]
    refine wpAny_bind (oacs hb ?_)
    rw [if_neg (by decide)]
    exact wpAny_pure hR
end
end Mine.T

end
section
set_option autoImplicit false
set_option linter.unusedVariables false
set_option linter.unusedSimpArgs false
set_option maxRecDepth 100000
namespace Mine.T
open PySem PySem.SetTable
theorem ris_inj {xs : Array Nat} (hr : Ris xs) {i k v : Nat} (h1 : xs[i]? = some v) (h2 : xs[k]? = some v) : i = k := by
  rcases Nat.lt_trichotomy i k with h | h | h
  · exact absurd (hr i k v v h h1 h2) (Nat.lt_irrefl v)
  · exact h
  · exact absurd (hr k i v v h h2 h1) (Nat.lt_irrefl v)
section
variable {prog : Program} {w : World} {A : Around} {E : Value → Shared → Prop} {s : Shared} {S : Addr} {o : Obj} {es : Array (Int × Value)} {ep : Nat} {t : SetTable}
noncomputable def hP (prog : Program) (w : World) (k : List Int) : Int := (pKind prog w).hash k
/-- an entry of a set -/
def Ent (prog : Program) (w : World) (h : Heap) (k : List Int) (e : Int × Value) : Prop := ∃ a, e = (hP prog w k, .ref a) ∧ IsP prog w h k a
theorem Ent.inj {h : Heap} {k k' : List Int} {e : Int × Value} (x : Ent prog w h k e) (y : Ent prog w h k' e) : k = k' := by
  obtain ⟨a, rfl, ha⟩ := x
  obtain ⟨b, e, hb⟩ := y
  have e2 : a = b := Value.ref.inj (congrArg Prod.snd e)
  subst e2
  exact IsTupleKey.inj ha hb
def Pass (prog : Program) (w : World) (h : Heap) (t : SetTable) (es : Array (Int × Value)) (k : List Int) (n : Nat) : Prop := ∀ m, m < n → ∃ i : Nat, t.place[i]? = some (pth t.mask m (start t.mask (hP prog w k))).j ∧ ∀ e, es[i]? = some e → ¬ Ent prog w h k e
theorem fits_of (T : TOk t es) : t.fits es.size = true := by
  unfold SetTable.fits SetTable.fill
  rw [T.dum, T.size]
  have := T.room
  rw [T.size] at this
  rw [Bool.and_eq_true]
  exact ⟨beq_self_eq_true _, decide_eq_true (by show es.size + 0 ≤ t.mask; (first | lia | omega))⟩
theorem search_ok (ho : s.heap.get? S = some o) (hd : o.data = .set es ep t) (T : TOk t es) (hent : ∀ (i : Nat) e, es[i]? = some e → ∃ k, Ent prog w s.heap k e) (hroom : (pKind prog w).room A) {k : List Int} {a : Addr} (hk : IsP prog w s.heap k a) {Q : SetFound → Shared → Prop}
    (q1 : ∀ (i : Nat) e, es[i]? = some e → Ent prog w s.heap k e → ∀ r, Q (.there r) s)
    (q2 : ∀ n, ¬ Occ t (pth t.mask n (start t.mask (hP prog w k))).j → (∀ m, m < n → Occ t (pth t.mask m (start t.mask (hP prog w k))).j) → (∀ (i : Nat) e, es[i]? = some e → ¬ Ent prog w s.heap k e) → Q (.free (pth t.mask n (start t.mask (hP prog w k))).j false) s) {N : Nat} (hN : ¬ Occ t (pth t.mask N (start t.mask (hP prog w k))).j) :
    ∀ (fuel n : Nat) (st : Option Probe), st.getD (t.probeStart (hP prog w k)) = pth t.mask n (start t.mask (hP prog w k)) → Pass prog w s.heap t es k n → N < n + fuel → wpAny (model prog w) A (setSearchFrom S (.ref a) (hP prog w k) true fuel st) Q E s
  | 0, n, st, hst, hp, hf => by
    obtain ⟨i, hi, _⟩ := hp N hf
    exact absurd ⟨i, hi⟩ hN
  | fuel + 1, n, st, hst, hp, hf => by
    unfold setSearchFrom
    refine wpAny_bind (wpAny_setState_of ho hd (fits_of T) ?_)
    dsimp only
    rw [if_neg (by
      unfold SetTable.gaveWay
      rcases T.mask with e | e | e <;> rw [e] <;> decide)]
    have M := probe_meets T.mask T.ris T.dum T.room (fun i => (es[i]?.map (·.1)).getD 0) (hP prog w k) (p := st.getD (t.probeStart (hP prog w k))) (by rw [hst]; exact (start_std _ _).pth n)
    have hes : ∀ {i j : Nat}, t.place[i]? = some j → ∃ e, es[i]? = some e := fun {i j} hi => ⟨es[i]'(by rw [← T.size]; exact get_lt hi), Array.getElem?_eq_getElem _⟩
    have later : ∀ n', (∀ m, m < n' → ∃ i, t.place[i]? = some (pth t.mask m (pth t.mask n (start t.mask (hP prog w k)))).j ∧ (es[i]?.map fun x : Int × Value => x.1).getD 0 ≠ hP prog w k) → Pass prog w s.heap t es k (n + n') := fun n' hb m hm => by
      rcases Nat.lt_or_ge m n with hl | hl
      · exact hp m hl
      · obtain ⟨i, hi, hh⟩ := hb (m - n) (by (first | lia | omega))
        rw [← pth_add, show n + (m - n) = m by (first | lia | omega)] at hi
        refine ⟨i, hi, fun e he ⟨a', e1, _⟩ => hh ?_⟩
        rw [he, e1]; rfl
    generalize hr : t.probe _ (hP prog w k) (st.getD (t.probeStart (hP prog w k))) = r
    have M : Meets t (fun i => (es[i]?.map (·.1)).getD 0) (hP prog w k) (pth t.mask n (start t.mask (hP prog w k))) r := by
      rw [← hr]
      rw [hst] at M ⊢
      exact M
    cases M with
    | empty n' e no before =>
      have P' := later n' before
      subst e
      rw [← pth_add] at no ⊢
      refine wpAny_pure (q2 (n + n') no (fun m hm => (P' m hm).elim fun i hi => ⟨i, hi.1⟩) fun i e he hE => ?_)
      obtain ⟨j, hj⟩ : ∃ j, t.place[i]? = some j := ⟨t.place[i]'(by rw [T.size]; exact get_lt he), Array.getElem?_eq_getElem _⟩
      obtain ⟨b, eb, hb⟩ := hE
      obtain ⟨m, hm, hbf⟩ := T.reach i j _ _ hj (eb ▸ he)
      rcases Nat.lt_trichotomy m (n + n') with hl | hl | hl
      · obtain ⟨i', hi', hno⟩ := P' m hl
        rw [hm] at hi'
        have := ris_inj T.ris hi' hj
        subst this
        exact hno e he ⟨b, eb, hb⟩
      · rw [← hl, hm] at no
        exact no ⟨i, hj⟩
      · exact no (hbf _ hl)
    | cand n' i e at' hh before =>
      have P' := later n' before
      subst e
      obtain ⟨e, he⟩ := hes at'
      obtain ⟨k', hE⟩ := hent i e he
      obtain ⟨b, rfl, hb⟩ := hE
      have cont : wpAny (model prog w) A (do
          let equal ← holding [Value.ref b] (eqBool (.ref b) (.ref a))
          let __x ← setState S
          if (true && equal) = true then pure (SetFound.there none)
            else match __x.2.snd.sameMemory t.moves t.mask with
              | some same => match if same = true then __x.2.snd.slot (pth t.mask n' (pth t.mask n (start t.mask (hP prog w k)))).j else Slot.empty with
                | Slot.live i' => match __x.fst[i']? with
                  | some (fst, y') => do
                    let __do_lift ← isSame y' (.ref b)
                    let still ← pure (if __do_lift = true then some i' else none)
                    match still with
                      | none => do
                        rule "set.search.anew"
                        setSearchFrom S (Value.ref a) (hP prog w k) true fuel none
                      | some i' => if equal = true then pure (SetFound.there (some i')) else setSearchFrom S (Value.ref a) (hP prog w k) true fuel (some (pth t.mask (n' + 1) (pth t.mask n (start t.mask (hP prog w k)))))
                  | none => do
                    let still ← pure none
                    match still with
                      | none => do
                        rule "set.search.anew"
                        setSearchFrom S (Value.ref a) (hP prog w k) true fuel none
                      | some i' => if equal = true then pure (SetFound.there (some i')) else setSearchFrom S (Value.ref a) (hP prog w k) true fuel (some (pth t.mask (n' + 1) (pth t.mask n (start t.mask (hP prog w k)))))
                | x => do
                  let still ← pure none
                  match still with
                    | none => do
                      rule "set.search.anew"
                      setSearchFrom S (Value.ref a) (hP prog w k) true fuel none
                    | some i' => if equal = true then pure (SetFound.there (some i')) else setSearchFrom S (Value.ref a) (hP prog w k) true fuel (some (pth t.mask (n' + 1) (pth t.mask n (start t.mask (hP prog w k)))))
              | x => unsupported "set.changed-during-lookup:is-the-new-block-at-the-old-address") Q E s := by
        refine wpAny_bind (wpAny_holding ((pKind prog w).eqBool hroom hb hk ?_))
        refine wpAny_bind (wpAny_setState_of ho hd (fits_of T) ?_)
        by_cases hkk : k' = k
        · subst hkk
          rw [decide_eq_true rfl]
          exact wpAny_pure (q1 i _ he ⟨b, rfl, hb⟩ _)
        · rw [decide_eq_false hkk]
          dsimp only
          rw [if_neg (by decide), show t.sameMemory t.moves t.mask = some true from if_pos (beq_self_eq_true _)]
          dsimp only
          rw [if_pos rfl]
          rcases slot_at T.ris T.dum (pth t.mask n' (pth t.mask n (start t.mask (hP prog w k)))).j with ⟨i0, h0, hs⟩ | ⟨h0, _⟩
          · have := ris_inj T.ris h0 at'
            subst this
            rw [hs]
            dsimp only
            rw [he]
            dsimp only
            refine wpAny_bind (wpAny_isSame_ref_self ?_)
            refine wpAny_bind (wpAny_pure ?_)
            show wpAny _ _ (setSearchFrom S (.ref a) (hP prog w k) true fuel (some (pth t.mask (n' + 1) (pth t.mask n (start t.mask (hP prog w k)))))) Q E s
            refine search_ok ho hd T hent hroom hk q1 q2 hN fuel (n + (n' + 1)) _ (pth_add t.mask n (n' + 1) (start t.mask (hP prog w k))).symm (fun m hm => ?_) (by (first | lia | omega))
            rcases Nat.lt_or_ge m (n + n') with hl | hl
            · exact P' m hl
            · have : m = n + n' := by (first | lia | omega)
              subst this
              refine ⟨i0, by rw [pth_add]; exact at', fun e' he' hE' => hkk ?_⟩
              rw [he] at he'
              cases he'
              exact Ent.inj ⟨b, rfl, hb⟩ hE'
          · exact absurd at' (h0 i)
      dsimp only
      rw [he]
      split
      · refine wpAny_bind (seen hk (fun y hy => ?_) ?_)
        · obtain ⟨e', he', rfl⟩ := List.mem_map.mp hy
          have hm := (Array.mem_filter.mp (Array.mem_toList_iff.mp he')).1
          obtain ⟨i', hi'⟩ := Array.getElem?_of_mem hm
          obtain ⟨k'', b', eb, hb'⟩ := hent i' e' hi'
          exact ⟨k'', b', by rw [eb], hb'⟩
        · exact cont
      · exact cont
end
end Mine.T

end
section
set_option autoImplicit false
set_option linter.unusedVariables false
set_option linter.unusedSimpArgs false
set_option maxRecDepth 100000
namespace Mine.T
open PySem PySem.SetTable
theorem ins_perm {α : Type} {xs : Array α} {p : Nat} (hp : p ≤ xs.size) (x : α) : (insertAt xs p x).toList.Perm (xs.toList ++ [x]) := by
  unfold insertAt
  rw [Array.toList_append, Array.toList_push, Array.toList_extract, Array.toList_extract]
  have e1 : xs.toList.extract 0 p = xs.toList.take p := rfl
  have e2 : xs.toList.extract p xs.size = xs.toList.drop p := by
    show (xs.toList.drop p).take (xs.size - p) = _
    exact List.take_of_length_le (by rw [List.length_drop, Array.length_toList]; exact Nat.le_refl _)
  rw [e1, e2, List.append_assoc]
  refine (List.perm_append_comm.append_left _).trans ?_
  rw [← List.append_assoc, List.take_append_drop]
end Mine.T

end
section
set_option autoImplicit false
set_option linter.unusedVariables false
set_option linter.unusedSimpArgs false
set_option maxRecDepth 100000
namespace Mine.T
open PySem PySem.SetTable
section
variable {prog : Program} {w : World} {A : Around} {E : Value → Shared → Prop} {s : Shared} {S : Addr}
noncomputable abbrev ent (prog : Program) (w : World) (p : List Int × Addr) : Int × Value := (hP prog w p.1, .ref p.2)
/-- a set of pairs -/
structure SPo (prog : Program) (w : World) (h : Heap) (es : Array (Int × Value)) (t : SetTable) (kl : List (List Int × Addr)) : Prop where
  ok : TOk t es
  plain : t.plain = true
  led : t.led = !w.params.followText "set-order"
  small : es.size * 5 < t.mask * 3
  perm : es.toList.Perm (kl.map (ent prog w))
  keys : ∀ p ∈ kl, IsP prog w h p.1 p.2
  nd : (kl.map (·.1)).Nodup
def SP (prog : Program) (w : World) (h : Heap) (S : Addr) (kl : List (List Int × Addr)) : Prop := ∃ o es ep t, h.get? S = some o ∧ o.ExactSet ∧ o.data = .set es ep t ∧ SPo prog w h es t kl
theorem IsP.same {h h' : Heap} {k : List Int} {a : Addr} {o : Obj} {es : Array (Int × Value)} {ep : Nat} {t : SetTable} (x : IsP prog w h k a) (ho : h.get? S = some o) (hd : o.data = .set es ep t) (sb : Heap.SameBut S h h') : IsP prog w h' k a := by
  obtain ⟨o', items, n, ho', hc, hd', hi⟩ := x
  have hne : a ≠ S := by
    rintro rfl
    rw [ho] at ho'; cases ho'
    rw [hd] at hd'; cases hd'
  exact ⟨o', items, n, (sb.2 a hne).trans ho', hc, hd', hi⟩
theorem Ent.of {h : Heap} {kl : List (List Int × Addr)} {es : Array (Int × Value)} {t : SetTable} (X : SPo prog w h es t kl) {i : Nat} {e : Int × Value} (he : es[i]? = some e) : ∃ p ∈ kl, e = ent prog w p ∧ Ent prog w h p.1 e := by
  have : e ∈ es.toList := Array.mem_toList_iff.mpr (Array.mem_of_getElem? he)
  obtain ⟨p, hp, rfl⟩ := List.mem_map.mp (X.perm.mem_iff.mp this)
  exact ⟨p, hp, rfl, p.2, rfl, X.keys p hp⟩
theorem SPo.len {h : Heap} {kl : List (List Int × Addr)} {es : Array (Int × Value)} {t : SetTable} (X : SPo prog w h es t kl) : es.size = kl.length := by
  rw [← Array.length_toList, X.perm.length_eq, List.length_map]
theorem put_set {h : Heap} {o : Obj} {es es' : Array (Int × Value)} {ep : Nat} {t t' : SetTable} {kl' : List (List Int × Addr)} (ho : h.get? S = some o) (hx : o.ExactSet) (hd : o.data = .set es ep t) (X : SPo prog w h es' t' kl') : SP prog w (h.update S (Obj.putSet es' t')) S kl' := by
  have hg : (h.update S (Obj.putSet es' t')).get? S = some { o with data := .set es' (ep + 1) t' } := by
    have := Heap.get?_update_self (Obj.putSet es' t') ho (by rw [putSet_of es' t' hd]; rfl)
    rw [putSet_of es' t' hd] at this; exact this
  exact ⟨_, es', ep + 1, t', hg, hx, rfl, X.ok, X.plain, X.led, X.small, X.perm, fun p hp => (X.keys p hp).same ho hd (Heap.SameBut.update ..), X.nd⟩
theorem add_ok {kl : List (List Int × Addr)} (sp : SP prog w s.heap S kl) (hroom : (pKind prog w).room A) {k : List Int} {a : Addr} (hk : IsP prog w s.heap k a) (hlen : kl.length ≤ 60) {Q : Bool → Shared → Prop}
    (q : ∀ b h' tk, s.toks ≤ tk → Heap.SameBut S s.heap h' → SP prog w h' S (if k ∈ kl.map (·.1) then kl else kl ++ [(k, a)]) → Q b { s with heap := h', toks := tk }) : wpAny (model prog w) A (setAdd S (.ref a)) Q E s := by
  obtain ⟨o, es, ep, t, ho, hx, hd, X⟩ := sp
  unfold setAdd
  refine wpAny_holding (wpAny_bind ((pKind prog w).pyHash hroom hk ?_))
  generalize hs' : ({ s with toks := s.toks + (pKind prog w).draws k } : Shared) = s'
  have ho' : s'.heap.get? S = some o := by rw [← hs']; exact ho
  show wpAny _ _ (setAddHashed S (.ref a) (hP prog w k)) Q E s'
  unfold setAddHashed setAddHashedIn
  refine wpAny_holding (wpAny_bind (wpAny_setState_of ho' hd (fits_of X.ok) ?_))
  dsimp only
  rw [if_neg (show ¬ byScan (.ref a) es = true from Bool.false_ne_true)]
  obtain ⟨j, hj, hno⟩ := some_empty X.ok.room
  have st := start_std t.mask (hP prog w k)
  obtain ⟨N, hN, eN⟩ := covers X.ok.mask st.i st.more st.pert hj
  have hN' : ¬ Occ t (pth t.mask N (start t.mask (hP prog w k))).j := by rw [eN]; exact hno
  have hheap : s'.heap = s.heap := by rw [← hs']
  have hk' : IsP prog w s'.heap k a := by rw [hheap]; exact hk
  have hturn : N < 0 + 100000 := Nat.lt_of_lt_of_le hN (by
    unfold turns
    rcases X.ok.mask with e | e | e <;> rw [e] <;> decide)
  refine wpAny_bind (search_ok (Q := _) ho' hd X.ok (fun i e he => (Ent.of X he).elim fun p hp => ⟨p.1, by rw [hheap]; exact hp.2.2⟩) hroom hk' (fun i e he hE r => ?_) (fun n hno hb hnot => ?_) hN' 100000 0 none rfl (fun m hm => absurd hm (Nat.not_lt_zero m)) hturn)
  · obtain ⟨p, hp, _, hE'⟩ := Ent.of X he
    rw [hheap] at hE
    have e1 := hE.inj hE'
    have q := q false s.heap (s.toks + (pKind prog w).draws k) (Nat.le_add_right _ _) (Heap.SameBut.refl _ _)
    rw [if_pos (List.mem_map.mpr ⟨p, hp, e1.symm⟩)] at q
    rw [← hs']
    exact wpAny_pure (q ⟨o, es, ep, t, ho, hx, hd, X⟩)
  · have hnk : k ∉ kl.map (·.1) := fun hm => by
      obtain ⟨p, hp, rfl⟩ := List.mem_map.mp hm
      have : ent prog w p ∈ es.toList := X.perm.mem_iff.mpr (List.mem_map.mpr ⟨p, hp, rfl⟩)
      obtain ⟨i, hi⟩ := Array.getElem?_of_mem (Array.mem_toList_iff.mp this)
      exact hnot i _ hi ⟨p.2, rfl, by rw [hheap]; exact X.keys p hp⟩
    rw [if_neg hnk] at q
    generalize hj' : (pth t.mask n (start t.mask (hP prog w k))).j = j' at hno
    have room : t.place.size + 1 ≤ t.mask := by
      have := X.small
      rw [X.ok.size]
      rcases X.ok.mask with e | e | e <;> rw [e] at this ⊢ <;> (first | lia | omega)
    have T' : TOk (t.put j').1 (insertAt es (t.put j').2 (hP prog w k, .ref a)) := put_ok X.ok hj' hno hb room
    have hbl : (t.put j').2 ≤ es.size := by rw [← X.ok.size]; exact (below_spec X.ok.ris j').1
    have hsz := ins_size hbl ((hP prog w k, .ref a) : Int × Value)
    have hperm : (insertAt es (t.put j').2 (hP prog w k, .ref a)).toList.Perm ((kl ++ [(k, a)]).map (ent prog w)) := by
      rw [List.map_append]
      exact (ins_perm hbl _).trans (X.perm.append_right _)
    have hkeys : ∀ p ∈ kl ++ [(k, a)], IsP prog w s'.heap p.1 p.2 := fun p hp => (List.mem_append.mp hp).elim (fun h => by rw [hheap]; exact X.keys p h) fun h => by rw [List.mem_singleton.mp h]; exact hk'
    have hnd : ((kl ++ [(k, a)]).map (·.1)).Nodup := by
      rw [List.map_append]
      exact List.nodup_append.mpr ⟨X.nd, List.nodup_cons.mpr ⟨List.not_mem_nil, List.nodup_nil⟩, fun x hx y hy e => hnk (by
        have e : x = k := e.trans (List.mem_singleton.mp hy)
        exact e ▸ hx)⟩
    refine wpAny_bind (wpAny_setState_of ho' hd (fits_of X.ok) ?_)
    dsimp only
    have hpl : (t.put j').1.plain = true := X.plain
    rw [if_pos hpl]
    refine wpAny_bind (hbv hk' ?_)
    rw [if_pos rfl]
    have hes := X.len
    refine wpAny_bind (wpAny_storeSet_of ho' hd ?_ (by rw [hsz, hes, sizeLine_eq]; (first | lia | omega)))
    have hg : (s'.heap.update S (Obj.putSet (insertAt es (t.put j').2 (hP prog w k, .ref a)) (t.put j').1)).get? S = some { o with data := .set (insertAt es (t.put j').2 (hP prog w k, .ref a)) (ep + 1) (t.put j').1 } := by
      have := Heap.get?_update_self (Obj.putSet (insertAt es (t.put j').2 (hP prog w k, .ref a)) (t.put j').1) ho' (by rw [putSet_of _ _ hd]; rfl)
      rw [putSet_of _ _ hd] at this; exact this
    have sb1 := Heap.SameBut.update s'.heap S (Obj.putSet (insertAt es (t.put j').2 (hP prog w k, .ref a)) (t.put j').1)
    have hmask : (t.put j').1.mask = t.mask := rfl
    have hfill : (t.put j').1.fill = es.size + 1 := by
      unfold SetTable.fill
      rw [T'.dum, T'.size, hsz]; rfl
    cases hfull : (!false && (t.put j').1.tooFull) with
    | false =>
      rw [if_neg (by decide)]
      have hsm : (insertAt es (t.put j').2 (hP prog w k, .ref a)).size * 5 < (t.put j').1.mask * 3 := by
        have h1 : decide ((t.put j').1.fill * 5 ≥ (t.put j').1.mask * 3) = false := hfull
        rw [hfill] at h1
        rw [hsz]
        exact Nat.not_le.mp (of_decide_eq_false h1)
      have z := q true _ s'.toks (by rw [← hs']; exact Nat.le_add_right _ _) (hheap ▸ sb1) ⟨_, _, ep + 1, _, hg, hx, rfl, T', hpl, X.led, hsm, hperm, fun p hp => (hkeys p hp).same ho' hd sb1, hnd⟩
      rw [← hs'] at z ⊢
      exact wpAny_pure z
    | true =>
      rw [if_pos rfl]
      have h1 : decide ((t.put j').1.fill * 5 ≥ (t.put j').1.mask * 3) = true := hfull
      rw [hfill, hmask] at h1
      have h1 := of_decide_eq_true h1
      have hsm := X.small
      have big : ∃ m', sizeAbove (grown (es.size + 1)) = m' + 1 ∧ MaskOk m' ∧ (es.size + 1) * 5 < m' * 3 := by
        rcases X.ok.mask with e | e | e <;> rw [e] at h1 hsm
        · have : es.size = 4 := by (first | lia | omega)
          rw [this]; exact ⟨31, by decide +kernel, .inr (.inl rfl), by decide⟩
        · have : es.size = 18 := by (first | lia | omega)
          rw [this]; exact ⟨127, by decide +kernel, .inr (.inr rfl), by decide⟩
        · (first | lia | omega)
      obtain ⟨m', em, hm', hsm'⟩ := big
      obtain ⟨t2, order, el, e1, e2, e3, T2, hp2⟩ := laid_ok (f := (t.put j').1.finger) (mv := (t.put j').1.movedTo m') (led := (t.put j').1.led) (plain := (t.put j').1.plain) hm' (es := insertAt es (t.put j').2 (hP prog w k, .ref a)) (by rw [hsz]; (first | lia | omega))
      unfold setRelay
      refine wpAny_bind (wpAny_bind (wpAny_setState_of hg rfl (fits_of T') ?_))
      dsimp only
      rw [if_neg (by rw [em, sizeLine_eq]; rcases hm' with e | e | e <;> rw [e] <;> decide)]
      have er : (t.put j').1.relaid ((insertAt es (t.put j').2 (hP prog w k, .ref a)).map (·.1)) (grown (es.size + 1)) = some (t2, order) := by
        unfold SetTable.relaid
        rw [em]
        exact el
      rw [er]
      generalize hes1 : insertAt es (t.put j').2 (hP prog w k, .ref a) = es1 at *
      refine wpAny_bind ?_
      show wpAny _ _ (if ((order.filterMap (es1[·]?)).size != es1.size) = true then _ else pure (order.filterMap (es1[·]?), t2)) _ _ _
      generalize hes2 : order.filterMap (es1[·]?) = es2 at *
      have hsz2 : es2.size = es1.size := by rw [← Array.length_toList, hp2.length_eq, Array.length_toList]
      rw [if_neg (by rw [hsz2, bne_self_eq_false]; exact Bool.false_ne_true)]
      refine wpAny_pure ?_
      refine wpAny_storeSet_of hg rfl ?_ (by rw [hsz2, hsz, hes, sizeLine_eq]; (first | lia | omega))
      have sb2 := Heap.SameBut.update (s'.heap.update S (Obj.putSet es1 (t.put j').1)) S (Obj.putSet es2 t2)
      have z := q true _ s'.toks (by rw [← hs']; exact Nat.le_add_right _ _) (hheap ▸ sb1.trans sb2) (put_set hg hx rfl ⟨T2, e3.trans hpl, e2.trans X.led, by rw [hsz2, hsz, e1]; exact hsm', hp2.trans hperm, fun p hp => (hkeys p hp).same ho' hd sb1, hnd⟩)
      rw [← hs'] at z ⊢
      exact wpAny_pure z
end
end Mine.T

end
section
set_option autoImplicit false
set_option linter.unusedVariables false
set_option linter.unusedSimpArgs false
set_option maxRecDepth 100000
namespace Mine.T
open PySem PySem.SetTable PySem.Spec PyProof.Rows
section
variable {prog : Program} {w : World} {A : Around} {R : Result → Shared → Prop} {I : Addr} {fp wr : List Addr} {G : Array GenState → Array GenState → Prop} {n : Nat} {P : Nat → Value → Prop} {St : Nat → Shared → Prop}
/-- those met first -/
noncomputable def met (kv : Nat → List Int × Addr) : Nat → List (List Int × Addr)
  | 0 => []
  | i + 1 => if (kv i).1 ∈ (met kv i).map (·.1) then met kv i else met kv i ++ [kv i]
theorem IsP.at {h h' : Heap} {k : List Int} {a : Addr} (x : IsP prog w h k a) (e : ∀ o, h.get? a = some o → h'.get? a = some o) : IsP prog w h' k a := by
  obtain ⟨o, items, n, ho, r⟩ := x
  exact ⟨o, items, n, e o ho, r⟩
theorem loop_ok (W : WalksS prog w A.in1 I fp wr G n P St) (S : Addr) (hSf : S ∉ fp) (hroom : (pKind prog w).room A.in1) (kv : Nat → List Int × Addr) (hval : ∀ i v, P i v → v = .ref (kv i).2) (hne : ∀ i, i < n → (kv i).2 ≠ S ∧ (kv i).2 ∉ wr) (hlen : ∀ i, i ≤ n → (met kv i).length ≤ 60) :
    ∀ (k i : Nat) (s : Shared), n - i = k → i ≤ n → St i s → SP prog w s.heap S (met kv i) → (∀ i, i < n → IsP prog w s.heap (kv i).1 (kv i).2) → (∀ p ∈ met kv i, p.2 ≠ S ∧ p.2 ∉ wr) →
      (∀ s', Moved (S :: wr) G s s' → SP prog w s'.heap S (met kv n) → R (.ok (.ret .none)) s') →
      codeAny (model prog w) A (.builtin "set.update.loop" ⟨[.ref S, .ref I], []⟩) R s := by
  have hSw : S ∉ wr := fun h => hSf (W.sub _ h)
  have hsub : ∀ b ∈ wr, b ∈ S :: wr := fun b hb => List.mem_cons_of_mem _ hb
  have keep : ∀ {i : Nat} {s s' : Shared}, Moved wr G s s' → SP prog w s.heap S (met kv i) → (∀ p ∈ met kv i, p.2 ≠ S ∧ p.2 ∉ wr) → SP prog w s'.heap S (met kv i) := fun {i s s'} hm hS hq => by
    obtain ⟨o, es, ep, t, ho, hx, hd, X⟩ := hS
    exact ⟨o, es, ep, t, hm.heap S _ hSw ho, hx, hd, X.ok, X.plain, X.led, X.small, X.perm, fun p hp => (X.keys p hp).at fun o e => hm.heap _ _ (hq p hp).2 e, X.nd⟩
  intro k
  induction k with
  | zero =>
    intro i s hk hi hst hS hkeys hq hR
    have hin : i = n := by (first | lia | omega)
    subst hin
    refine codeAny_builtin PyProof.Rows.F.entry_set_update_loop ?_
    rw [Around.under_plainId PyProof.Rows.F.plain_set_update_loop _]
    show wpAny _ A.in1 (pyNext (.ref I) >>= _) _ _ s
    refine wpAny_bind (W.done s _ _ hst fun s' hm => ?_)
    show wpAny _ A.in1 (ret Value.none) _ _ s'
    exact wpAny_pure (hR s' (hm.mono hsub) (keep hm hS hq))
  | succ k ih =>
    intro i s hk hi hst hS hkeys hq hR
    have hlt : i < n := by (first | lia | omega)
    refine codeAny_builtin PyProof.Rows.F.entry_set_update_loop ?_
    rw [Around.under_plainId PyProof.Rows.F.plain_set_update_loop _]
    show wpAny _ A.in1 (pyNext (.ref I) >>= _) _ _ s
    refine wpAny_bind (W.item i s _ _ hlt hst fun v s' hP hst' hm => ?_)
    obtain rfl := hval i v hP
    show wpAny _ A.in1 (holding [Value.ref (kv i).2] (setAdd S (.ref (kv i).2)) >>= _) _ _ s'
    refine wpAny_bind (wpAny_holding ?_)
    have hk' : ∀ j, j < n → IsP prog w s'.heap (kv j).1 (kv j).2 := fun j hj => (hkeys j hj).at fun o e => hm.heap _ _ (hne j hj).2 e
    refine add_ok (keep hm hS hq) hroom (hk' i hlt) (hlen i hi) fun b h' tk htk sb hS2 => ?_
    refine wpAny_pure ⟨plainId_quiet PyProof.Rows.F.plain_set_update_loop _, ih (i + 1) _ (by (first | lia | omega)) hlt (W.frame _ s' _ _ hst' htk fun b hb o e => ?_) hS2 (fun j hj => (hk' j hj).at fun o e => (sb.2 _ (hne j hj).1).trans e) ?_ fun s'' hm'' hS'' => ?_⟩
    · rw [sb.2 b (fun h : b = S => hSf (by rw [← h]; exact hb))]; exact e
    · intro p hp
      unfold met at hp
      split at hp
      · exact hq p hp
      · rcases List.mem_append.mp hp with hp | hp
        · exact hq p hp
        · rw [List.mem_singleton.mp hp]; exact hne i hlt
    · refine hR s'' (Moved.trans W.gtrans ((hm.mono hsub).then_heap htk fun b o hb e => ?_) hm'') hS''
      rw [sb.2 b (fun h : b = S => hb (by rw [h]; exact List.mem_cons_self))]; exact e
end
end Mine.T

end
section
set_option autoImplicit false
set_option linter.unusedVariables false
set_option linter.unusedSimpArgs false
set_option maxRecDepth 100000
namespace Mine.T
open PySem PySem.SetTable PySem.Spec PyProof.Rows
section
variable {prog : Program} {w : World} {A : Around} {E : Value → Shared → Prop} {s : Shared}
theorem sp_fresh {h : Heap} {S : Addr} {led : Bool} (hl : led = !w.params.followText "set-order") (e : h.get? S = some { cls := .type "set", dict := none, data := .set #[] 0 (.fresh 0 0 led) }) : SP prog w h S [] :=
  ⟨_, #[], 0, .fresh 0 0 led, e, ⟨rfl, rfl, rfl⟩, rfl, ⟨.inl rfl, rfl, fun i k u v _ h => by simp [SetTable.fresh] at h, rfl, Nat.zero_le _, fun i j h x hp => by simp [SetTable.fresh] at hp⟩, rfl, hl, by show 0 * 5 < 7 * 3; decide, List.Perm.refl _, fun p hp => (nomatch hp), List.nodup_nil⟩
theorem set_new (a : Value) {Q₁ : Value → Shared → Prop}
    (h : Q₁ (.ref s.heap.objs.size) { s with heap := s.heap.push { cls := .type "set", dict := none, data := .set #[] 0 (.fresh 0 0 (!w.params.followText "set-order")) } }) :
    codeAny (model prog w) A (.call (.builtin "set.__new__") ⟨[.type "set", a], []⟩) (wants Q₁ E) s := by
  refine codeAny_of_tree (wpAny_bind (wpAny_of_eq (F.newCall_set_1 a) (wpAny_pure ⟨plainId_quiet F.plain_set_new _, codeAny_builtin F.entry_set_new ?_⟩)))
  rw [Around.under_plainId F.plain_set_new _]
  unfold Builtin.«set.__new__» Builtin.Frozenset.newClass
  have hsub := sub_set_self
  obtain ⟨hp, g, d, tk, os⟩ := s
  dsimp only
  wp_walk
  refine wpAny_askSetting (wpAny_pure (wpAny_bind ?_))
  exact wpAny_alloc (wpAny_pure (wpAny_pure h))
set_option maxHeartbeats 3200000 in
theorem call_set {l : Addr} {items : Array Value} {kv : Nat → List Int × Addr} {Q : Value → Shared → Prop} (hh : A.handled = none) (hroom : ∀ B : Around, B.units ≤ A.units + 20 → (pKind prog w).room B) (hl : s.heap.IsList l items) (hi : ∀ (i : Nat) (v : Value), items[i]? = some v → v = Value.ref (kv i).2) (hk : ∀ i, i < items.size → IsP prog w s.heap (kv i).1 (kv i).2) (hlen : ∀ i, i ≤ items.size → (met kv i).length ≤ 60)
    (h : ∀ (h' : Heap) (tk : Nat), s.toks ≤ tk → SP prog w h' s.heap.objs.size (met kv items.size) → (∀ b o, b < s.heap.objs.size → s.heap.get? b = some o → h'.get? b = some o) → Q (.ref s.heap.objs.size) { s with heap := h', toks := tk }) : wpAny (model prog w) A (call (.type "set") [.ref l]) Q E s := by
  obtain ⟨c, tl, hmro⟩ := F.called_set.mro
  have hmade := F.called_set.made
  have hsub := F.called_set.sub
  refine wpAny_call (codeAny_of_tree ?_)
  show wpAny _ _ (callAny (.type "set") _) _ _ _
  refine wpAny_pure ⟨Code.quiet_builtin _ (by decide +kernel), codeAny_builtin F.entry_type_call ?_⟩
  rw [Around.under_plain (weight_type_call_type "set" [.ref l] []) rfl]
  have h1 := F.called_set.notType
  have h2 := F.called_set.canCreate
  have hct := F.typeCall_set_1 (.ref l)
  repeat (any_goals (first | assumption | wp_step))
  refine codeAny_mono (set_new (.ref l) (E := E) (Q₁ := fun obj s₁ => ∃ led : Bool, led = (!w.params.followText "set-order") ∧ obj = .ref s.heap.objs.size ∧ s₁ = { s with heap := s.heap.push { cls := .type "set", dict := none, data := .set #[] 0 (.fresh 0 0 led) } }) ⟨_, rfl, rfl, rfl⟩) fun r s₁ hr => ?_
  cases r with
  | error e => exact hr
  | ok fl =>
    cases fl with
    | ret obj =>
      obtain ⟨led, hled, rfl, rfl⟩ := hr
      have hS : (s.heap.push { cls := .type "set", dict := none, data := .set #[] 0 (.fresh 0 0 led) }).get? s.heap.objs.size = some { cls := .type "set", dict := none, data := .set #[] 0 (.fresh 0 0 led) } := Heap.get?_push_size _ rfl
      have hT : Shared.TypeIs { s with heap := s.heap.push { cls := .type "set", dict := none, data := .set #[] 0 (.fresh 0 0 led) } } (.ref s.heap.objs.size) "set" := ⟨_, hS, rfl⟩
      have hli := F.called_set.init.lookup
      have hbi := F.called_set.init.bind (.ref s.heap.objs.size)
      repeat (any_goals (first | assumption | wp_step))
      refine codeAny_mono (codeAny_call_builtin (R := wants (fun r s₂ => r = .none ∧ ∃ h' tk, s₂ = { s with heap := h', toks := tk } ∧ s.toks ≤ tk ∧ SP prog w h' s.heap.objs.size (met kv items.size) ∧ (∀ b o, b < s.heap.objs.size → s.heap.get? b = some o → h'.get? b = some o)) E) F.called_set.init.plain F.entry_set_init (check_set_init_1 hT ?_)) fun r₂ s₂ hr₂ => ?_
      · obtain ⟨ol, hol, hcl, nl, hdl⟩ := hl
        obtain ⟨ocls, odict, odata, oslots⟩ := ol
        simp only at hcl hdl
        subst hcl; subst hdl
        have hol' : (s.heap.push { cls := .type "set", dict := none, data := .set #[] 0 (.fresh 0 0 led) }).get? l = some { cls := .type "list", dict := odict, data := .seq items nl, slots := oslots } := Heap.get?_push_of_some _ hol
        have hsls := F.sub_list_set
        have hslf := F.sub_list_frozenset
        have hne : (Value.type "list" == Value.type "dict") = false := by decide
        have hl1 : (s.heap.push { cls := .type "set", dict := none, data := .set #[] 0 (.fresh 0 0 led) }).IsList l items := ⟨_, hol', rfl, nl, rfl⟩
        unfold Builtin.«set.__init__» noKeywords Builtin.Frozenset.updateFrom
        generalize hPI : pyIter = PI
        wp_walk
        subst hPI
        refine wpAny_pyIter_list hl1 ?_
        refine wpAny_bind (wpAny_runValue ?_)
        have hlS : l < s.heap.objs.size := Heap.lt_size hol
        have hh3 : A.in1.in1.in1.handled = none := by simp [hh]
        have hneI : l ≠ (s.heap.push { cls := .type "set", dict := none, data := .set #[] 0 (.fresh 0 0 led) }).objs.size := by
          rw [Heap.size_push]; exact Nat.ne_of_lt (Nat.lt_succ_of_lt hlS)
        have hSf : s.heap.objs.size ∉ [(s.heap.push { cls := .type "set", dict := none, data := .set #[] 0 (.fresh 0 0 led) }).objs.size, l] := by
          rw [Heap.size_push]; simp only [List.mem_cons, List.mem_singleton, List.not_mem_nil, or_false, not_or]
          exact ⟨Nat.ne_of_lt (Nat.lt_succ_self _), Nat.ne_of_gt hlS⟩
        have hlt : ∀ i, i < items.size → (kv i).2 < s.heap.objs.size := fun i hi' => by
          obtain ⟨o, _, _, ho, _⟩ := hk i hi'
          exact Heap.lt_size ho
        refine loop_ok ((Walks.list hh3 _ l hneI items).toS) s.heap.objs.size hSf (hroom _ ?hu) kv hi (fun i hi' => ?hne) hlen (items.size - 0) 0 _ (by (first | lia | omega)) (Nat.zero_le _) ⟨⟨_, Heap.get?_push_size _ rfl, rfl, rfl⟩, (hl1.push _)⟩ ?hS0 (fun i hi' => (hk i hi').at fun o e => Heap.get?_push_of_some _ (Heap.get?_push_of_some _ e)) (fun p hp => nomatch hp) ?hR
        case hu => show A.units + 1 + 1 + 1 ≤ A.units + 20; (first | lia | omega)
        case hne =>
          refine ⟨Nat.ne_of_lt (hlt i hi'), fun hm => ?_⟩
          have h3 := hlt i hi'
          rw [List.mem_singleton.mp hm, Heap.size_push] at h3
          exact absurd h3 (Nat.not_lt.mpr (Nat.le_succ _))
        case hS0 =>
          exact sp_fresh (led := led) hled (Heap.get?_push_of_some _ hS)
        case hR =>
          intro s' hm hS'
          obtain ⟨h', g', d', tk', os'⟩ := s'
          have eg : g' = s.gens := hm.gens
          have ed : d' = s.drawn := hm.drawn
          have eo : os' = s.os := hm.os
          subst eg; subst ed; subst eo
          show wpAny _ _ _ _ _ _
          refine wpAny_pure ?_
          show wpAny _ _ (ret Value.none) _ _ _
          refine wpAny_pure ⟨rfl, h', tk', rfl, hm.toks, hS', fun b o hb e => ?_⟩
          have hb1 : b ≠ s.heap.objs.size := Nat.ne_of_lt hb
          have hb2 : b ≠ (s.heap.push { cls := .type "set", dict := none, data := .set #[] 0 (.fresh 0 0 led) }).objs.size := by
            rw [Heap.size_push]; exact Nat.ne_of_lt (Nat.lt_succ_of_lt hb)
          exact hm.heap b o (by simp only [List.mem_cons, List.mem_singleton, List.not_mem_nil, or_false, not_or]; exact ⟨hb1, hb2⟩) (Heap.get?_push_of_some _ (Heap.get?_push_of_some _ e))
      · cases r₂ with
        | error e => exact hr₂
        | ok fl₂ =>
          cases fl₂ with
          | ret r =>
            obtain ⟨rfl, h', tk, rfl, htk, hS', hk'⟩ := hr₂
            repeat (any_goals (first | assumption | wp_step))
            exact h _ _ htk hS' hk'
          | _ => exact hr₂.elim
    | _ => exact hr.elim
end
end Mine.T

end
section
set_option autoImplicit false
set_option linter.unusedVariables false
set_option linter.unusedSimpArgs false
set_option maxRecDepth 100000
/-! sorting by any comparison: a permutation comes out -/
namespace Mine.T
open PySem PyProof.Rows
section
variable {prog : Program} {w : World} {A : Around} {E : Value → Shared → Prop} {s : Shared} {a₀ : Array Keyed} {kd : SortKind}
structure PB (kd : SortKind) (a₀ : Array Keyed) (st : SortSt) : Prop where
  perm : (arrOf st).Perm a₀
  kind : kindOf st = kd
  failed : failedOf st = none
  pend : pendingOf st = #[]
theorem PB.setArr {st : SortSt} (h : PB kd a₀ st) {xs : Array Keyed} (hp : xs.Perm (arrOf st)) : PB kd a₀ (setArr st xs) := ⟨hp.trans h.perm, h.kind, h.failed, h.pend⟩
/-- two of the items can be compared -/
def Cmps (prog : Program) (w : World) (A : Around) (E : Value → Shared → Prop) (s : Shared) (kd : SortKind) (a₀ : Array Keyed) : Prop := ∀ st, PB kd a₀ st → ∀ i j, i < a₀.size → j < a₀.size → ∀ Q : Option Bool → SortSt → Prop, (∀ b, Q (some b) st) → wpS (model prog w) A E s (ltAt' i j) Q st
theorem asc_p (C : Cmps prog w A E s kd a₀) {st : SortSt} {a nrem : Nat} {Q : AscSt → SortSt → Prop} (hn : nrem ≤ a₀.size) (ha : 1 ≤ a) (han : a ≤ nrem) (hB : PB kd a₀ st) (h : ∀ n, a ≤ n → n ≤ nrem → Q (none, n) st) : wpS (model prog w) A E s (ascLoop a nrem) Q st := by
  unfold ascLoop
  refine wpS_forRange (I := fun x c st' => st' = st ∧ c = (none, x)) ?step ?fin ⟨rfl, rfl⟩
  case fin =>
    rintro c st' ⟨rfl, rfl⟩
    rw [show max a nrem = nrem by (first | lia | omega)]
    exact h nrem han (Nat.le_refl _)
  case step =>
    rintro x c st' hax hxn ⟨rfl, rfl⟩
    refine wpS_bind (C _ hB _ _ (by show x < _; (first | lia | omega)) (by show x - 1 < _; (first | lia | omega)) _ fun b => ?_)
    cases b with
    | true => exact wpS_pure (h x hax (by (first | lia | omega)))
    | false => exact wpS_pure ⟨rfl, rfl⟩
theorem tail_p (C : Cmps prog w A E s kd a₀) {st : SortSt} {n nrem : Nat} {Q : Option Nat → SortSt → Prop} (hn : nrem ≤ a₀.size) (h1 : 1 ≤ n) (h2 : n ≤ nrem) (hB : PB kd a₀ st) (h : ∀ m st', PB kd a₀ st' → m ≤ nrem → Q (some m) st') : wpS (model prog w) A E s (tail3 n nrem) Q st := by
  unfold tail3
  have hB' := hB.setArr (mirror_perm (arrOf st) 0 n ((n - 0) / 2))
  exact wpS_bind (wpS_reverse (wpS_bind (asc_p C hn h1 h2 hB' fun m hm1 hm2 => wpS_pure (h m _ hB' hm2))))
theorem desc_p (C : Cmps prog w A E s kd a₀) {st : SortSt} {n nrem : Nat} {Q : DescSt → SortSt → Prop} (hn : nrem ≤ a₀.size) (h1 : 1 ≤ n) (h2 : n ≤ nrem) (hB : PB kd a₀ st) (h : ∀ m q st', PB kd a₀ st' → 1 ≤ m → m ≤ nrem → Q (none, m, q) st') : wpS (model prog w) A E s (descLoop n nrem) Q st := by
  unfold descLoop
  refine wpS_forRange (I := fun x c st' => PB kd a₀ st' ∧ ∃ q, c = (none, x, q)) ?step ?fin ⟨hB, 0, rfl⟩
  case fin =>
    rintro c st' ⟨hB', q, rfl⟩
    rw [show max n nrem = nrem by (first | lia | omega)]
    exact h nrem q st' hB' (by (first | lia | omega)) (Nat.le_refl _)
  case step =>
    rintro x c st' hax hxn ⟨hB', q, rfl⟩
    refine wpS_bind (C _ hB' _ _ (by show x < _; (first | lia | omega)) (by show x - 1 < _; (first | lia | omega)) _ fun b => ?_)
    cases b with
    | true =>
      show wpS _ _ _ _ (if q > 0 then _ else _) _ _
      split
      · exact wpS_bind (wpS_reverse (wpS_pure ⟨hB'.setArr (mirror_perm _ _ _ _), 0, rfl⟩))
      · exact wpS_pure ⟨hB', 0, rfl⟩
    | false =>
      refine wpS_bind (C _ hB' _ _ (by show x - 1 < _; (first | lia | omega)) (by show x < _; (first | lia | omega)) _ fun b => ?_)
      cases b with
      | true => exact wpS_pure (h x q st' hB' (by (first | lia | omega)) (by (first | lia | omega)))
      | false => exact wpS_pure ⟨hB', q + 1, rfl⟩
theorem part_p (C : Cmps prog w A E s kd a₀) {st : SortSt} {n nrem : Nat} {Q : Option Nat → SortSt → Prop} (hn : nrem ≤ a₀.size) (h1 : 1 ≤ n) (h2 : n < nrem) (hB : PB kd a₀ st) (h : ∀ m st', PB kd a₀ st' → m ≤ nrem → Q (some m) st') : wpS (model prog w) A E s (descPart n nrem) Q st := by
  unfold descPart
  refine wpS_bind (wpS_lift (wpAny_rule ⟨rfl, ?_⟩))
  refine wpS_bind (desc_p C hn (by (first | lia | omega)) h2 hB fun m q st' hB' hm1 hm2 => ?_)
  show wpS _ _ _ _ (if q > 0 then _ else _) _ _
  split
  · exact wpS_bind (wpS_reverse (tail_p C hn hm1 hm2 (hB'.setArr (mirror_perm _ _ _ _)) h))
  · exact tail_p C hn hm1 hm2 hB' h
theorem run_p (C : Cmps prog w A E s kd a₀) {st : SortSt} {nrem : Nat} {Q : Option Nat → SortSt → Prop} (hn : nrem ≤ a₀.size) (h1 : 1 ≤ nrem) (hB : PB kd a₀ st) (h : ∀ m st', PB kd a₀ st' → m ≤ nrem → Q (some m) st') : wpS (model prog w) A E s (countRun' 0 nrem) Q st := by
  rw [countRun0_eq]
  refine wpS_bind (asc_p C hn (Nat.le_refl _) h1 hB fun n hn1 hn2 => ?_)
  show wpS _ _ _ _ (if (n == nrem) = true then _ else _) _ _
  split
  · exact wpS_pure (h n st hB hn2)
  · rename_i hne
    have hlt : n < nrem := Nat.lt_of_le_of_ne hn2 fun e => hne (beq_iff_eq.mpr e)
    split
    · refine wpS_bind (C _ hB _ _ (by (first | lia | omega)) (by show n - 1 < _; (first | lia | omega)) _ fun b => ?_)
      cases b with
      | true => exact wpS_pure (h n st hB hn2)
      | false => exact wpS_bind (wpS_reverse (part_p C hn hn1 hlt (hB.setArr (mirror_perm _ _ _ _)) h))
    · exact part_p C hn hn1 hlt hB h
theorem bin_p (C : Cmps prog w A E s kd a₀) {st : SortSt} {n ok : Nat} {Q : Bool → SortSt → Prop} (hn : n ≤ a₀.size) (hB : PB kd a₀ st) (h : ∀ st', PB kd a₀ st' → Q true st') : wpS (model prog w) A E s (binarySort' 0 n ok) Q st := by
  rw [binarySort'_eq]
  simp only [Nat.zero_add]
  refine wpS_bind (wpS_mono (wpS_forRange (I := fun k c st' => c = (none, ()) ∧ PB kd a₀ st') (Q := fun c st' => c = (none, ()) ∧ PB kd a₀ st') ?step (fun _ _ h => h) ⟨rfl, hB⟩) ?post)
  case post =>
    rintro c st' ⟨rfl, hB'⟩
    exact wpS_pure (h st' hB')
  case step =>
    rintro k c st' hak hkn ⟨rfl, hB'⟩
    refine wpS_bind (wpS_mono (wpS_forRange (I := fun x c st'' => st'' = st' ∧ ∃ l r, c = (none, l, r) ∧ r ≤ k) (Q := fun c st'' => st'' = st' ∧ ∃ l r, c = (none, l, r)) ?istep ?ifin ⟨rfl, 0, k, rfl, Nat.le_refl _⟩) ?ipost)
    case ifin =>
      rintro c st'' ⟨rfl, l, r, rfl, _⟩
      exact ⟨rfl, l, r, rfl⟩
    case istep =>
      rintro x c st'' _ hxk ⟨rfl, l, r, rfl, hr⟩
      dsimp only
      by_cases hge : l ≥ r
      · rw [if_pos hge]
        exact wpS_pure ⟨rfl, l, r, rfl⟩
      · rw [if_neg hge]
        refine wpS_bind (C _ hB' _ _ (by (first | lia | omega)) (by (first | lia | omega)) _ fun b => ?_)
        cases b with
        | true => exact wpS_pure ⟨rfl, l, (l + r) / 2, rfl, by (first | lia | omega)⟩
        | false => exact wpS_pure ⟨rfl, (l + r) / 2 + 1, r, rfl, hr⟩
    case ipost =>
      rintro c st'' ⟨rfl, l, r, rfl⟩
      show wpS _ _ _ _ (do moveDown' k l; pure (ForInStep.yield (none, ()))) _ _
      rw [moveDown'_eq]
      exact wpS_bind (wpS_modify (wpS_pure ⟨rfl, hB'.setArr (bubble_perm _ _ _)⟩))
end
end Mine.T

end
section
set_option autoImplicit false
set_option linter.unusedVariables false
set_option linter.unusedSimpArgs false
set_option maxRecDepth 100000
namespace Mine.T
open PySem PyProof.Rows
section
variable {prog : Program} {w : World} {A : Around} {E : Value → Shared → Prop} {s : Shared} {a₀ : Array Keyed} {kd : SortKind}
def PD (a₀ : Array Keyed) (st : SortSt) : Prop := (arrOf st).Perm a₀ ∧ failedOf st = none ∧ pendingOf st = #[(0, a₀.size, 0)]
theorem PB.done {st : SortSt} (h : PB kd a₀ st) : PD a₀ (setPending st ((pendingOf st).push (0, a₀.size, 0))) := ⟨h.perm, h.failed, by show (pendingOf st).push _ = _; rw [h.pend]; rfl⟩
theorem runs_p (C : Cmps prog w A E s kd a₀) {st : SortSt} {Q : Unit → SortSt → Prop} (hB : PB kd a₀ st) (h2 : 2 ≤ a₀.size) (h64 : a₀.size < 64) (h : ∀ st', (arrOf st').Perm a₀ → failedOf st' = none → Q () st') : wpS (model prog w) A E s sortRuns' Q st := by
  rw [sortRuns'_eq]
  refine wpS_bind (wpS_get ?_)
  dsimp only
  have hmr : minRun' a₀.size a₀.size 0 = a₀.size := by
    obtain ⟨f, hf⟩ : ∃ f, a₀.size = f + 1 := ⟨a₀.size - 1, by (first | lia | omega)⟩
    have : minRun' (f + 1) a₀.size 0 = a₀.size := by rw [minRun'_succ, if_pos h64]; rfl
    rwa [← hf] at this
  simp only [hB.perm.size_eq, hmr]
  refine wpS_bind (wpS_mono (wpS_forRange (I := fun x c st' => (x = 0 ∧ c = (none, 0) ∧ PB kd a₀ st') ∨ (1 ≤ x ∧ c = (none, a₀.size) ∧ PD a₀ st')) (Q := fun c st' => c = (none, a₀.size) ∧ PD a₀ st') ?step ?fin (.inl ⟨rfl, rfl, hB⟩)) ?post)
  case fin =>
    rintro c st' (⟨hx, _, _⟩ | ⟨_, hc, hD⟩)
    · (first | lia | omega)
    · exact ⟨hc, hD⟩
  case step =>
    rintro x c st' _ hx (⟨rfl, rfl, hB'⟩ | ⟨hx1, rfl, hD⟩)
    · dsimp only
      rw [if_neg (by (first | lia | omega))]
      simp only [Nat.sub_zero, Nat.min_self, Nat.zero_add]
      refine wpS_bind (run_p C (Nat.le_refl _) (by (first | lia | omega)) hB' fun m st2 hB2 hm2 => ?_)
      dsimp only
      by_cases hlt : m < a₀.size
      · rw [if_pos hlt]
        refine wpS_bind (wpS_lift (wpAny_rule ⟨rfl, ?_⟩))
        refine wpS_bind (bin_p C (Nat.le_refl _) hB2 fun st3 hB3 => ?_)
        simp only [Bool.not_true, Bool.false_eq_true, if_false]
        refine wpS_bind (wpS_get ?_)
        rw [show (pendingOf st3).back? = none by rw [hB3.pend]; rfl]
        exact wpS_bind (wpS_modify (wpS_pure (.inr ⟨by (first | lia | omega), rfl, hB3.done⟩)))
      · rw [if_neg hlt]
        have hm : m = a₀.size := by (first | lia | omega)
        subst hm
        refine wpS_bind (wpS_get ?_)
        rw [show (pendingOf st2).back? = none by rw [hB2.pend]; rfl]
        exact wpS_bind (wpS_modify (wpS_pure (.inr ⟨by (first | lia | omega), rfl, hB2.done⟩)))
    · dsimp only
      rw [if_pos (Nat.le_refl _)]
      exact wpS_pure ⟨rfl, hD⟩
  case post =>
    rintro c st' ⟨rfl, hD⟩
    dsimp only
    refine wpS_bind (wpS_mono (wpS_forRange (I := fun _ c st'' => st'' = st' ∧ c = (none, ())) (Q := fun c st'' => st'' = st' ∧ c = (none, ())) ?_ (fun _ _ hh => hh) ⟨rfl, rfl⟩) ?_)
    · rintro x c st'' _ _ ⟨rfl, rfl⟩
      refine wpS_bind (wpS_get ?_)
      rw [if_pos (by rw [hD.2.2]; exact Nat.le_refl 1)]
      exact wpS_pure ⟨rfl, rfl⟩
    · rintro c st'' ⟨rfl, rfl⟩
      exact wpS_pure (h _ hD.1 hD.2.1)
end
end Mine.T

end
section
set_option autoImplicit false
set_option linter.unusedVariables false
set_option linter.unusedSimpArgs false
set_option maxRecDepth 100000
namespace Mine.T
open PySem PyProof.Rows
/-- a pair of an int and a bool in a heap -/
def PP (h : Heap) (v : Value) : Prop := ∃ (a : Addr) (i : Int) (t : Tok) (b : Bool) (n : Nat), v = .ref a ∧ h.get? a = some (tupObj [.int i t, .bool b] n)
section
variable {prog : Program} {w : World} {A : Around} {E : Value → Shared → Prop} {s : Shared}
theorem mapM_wp {α β : Type} {f : α → Sem β} {P : α → β → Prop} {Q : List β → Shared → Prop} : ∀ l : List α, (∀ x ∈ l, ∀ R : β → Shared → Prop, (∀ y, P x y → R y s) → wpAny (model prog w) A (f x) R E s) → (∀ ys : List β, ys.length = l.length → (∀ (i : Nat) x y, l[i]? = some x → ys[i]? = some y → P x y) → Q ys s) → wpAny (model prog w) A (l.mapM f) Q E s
  | [], _, q => by rw [List.mapM_nil]; exact wpAny_pure (q [] rfl fun i x y h => nomatch h)
  | x :: r, h, q => by
    rw [List.mapM_cons]
    refine wpAny_bind (h x List.mem_cons_self _ fun y hy => wpAny_bind (mapM_wp r (fun z hz => h z (.tail _ hz)) fun ys hl hys => wpAny_pure (q (y :: ys) (congrArg Nat.succ hl) fun i u v hu hv => ?_)))
    cases i with
    | zero => cases hu; cases hv; exact hy
    | succ i => exact hys i u v hu hv
theorem first_p {v : Value} (hv : PP s.heap v) {R : Option Value → Shared → Prop} (h : ∀ i t, R (some (.int i t)) s) : wpAny (model prog w) A (firstOfTuple' v) R E s := by
  obtain ⟨a, i, t, b, n, rfl, ho⟩ := hv
  show wpAny _ _ (do
    if (← typeOf (.ref a)) != .type "tuple" then return none
    return (← Builtin.List.listItems (.ref a))[0]?) R E s
  refine wpAny_bind (wpAny_typeOf ⟨_, ho, rfl⟩ ?_)
  rw [if_neg (by decide)]
  exact wpAny_bind (listItems_at ho rfl (wpAny_pure (h i t)))
theorem ints_of : ∀ {vs : List Value}, (∀ v ∈ vs, ∃ i t, v = .int i t) → ∃ ns, IntsAre vs ns
  | [], _ => ⟨[], .nil⟩
  | v :: r, h => by
    obtain ⟨i, t, rfl⟩ := h v List.mem_cons_self
    obtain ⟨ns, hn⟩ := ints_of fun v hv => h v (.tail _ hv)
    exact ⟨i :: ns, .cons i t hn⟩
theorem kind_p {keys : List Value} (hk : ∀ v ∈ keys, PP s.heap v) {R : SortKind → Shared → Prop} (h : ∀ b, R (tuples' b) s) : wpAny (model prog w) A (keyKind' keys.toArray) R E s := by
  rw [keyKind'_eq, List.mapM_toArray]
  refine wpAny_bind (wpAny_map (mapM_wp (P := fun _ y => ∃ i t, y = some (.int i t)) keys (fun v hv R hR => first_p (hk v hv) fun i t => hR _ ⟨i, t, rfl⟩) fun ys hl hys => ?_))
  have hall : ∀ y ∈ ys, ∃ i t, y = some (Value.int i t) := fun y hy => by
    obtain ⟨i, hi⟩ := List.getElem?_of_mem hy
    have hil : i < keys.length := by rw [← hl]; exact (List.getElem?_eq_some_iff.mp hi).1
    exact hys i _ y (List.getElem?_eq_getElem hil) hi
  rw [if_pos (by
    rw [List.all_toArray, List.all_eq_true]
    intro y hy
    obtain ⟨i, t, rfl⟩ := hall y hy
    rfl)]
  refine wpAny_bind (wpAny_rule ?_)
  have hI : ∃ ns, IntsAre (ys.filterMap id) ns := ints_of fun v hv => by
    obtain ⟨y, hy, e⟩ := List.mem_filterMap.mp hv
    obtain ⟨i, t, rfl⟩ := hall y hy
    cases e; exact ⟨i, t, rfl⟩
  obtain ⟨ns, hI⟩ := hI
  rw [List.filterMap_toArray, oneTypeOnly'_eq, List.mapM_toArray, mapM_typeOf_ints hI]
  simp only [map_pure, pure_bind]
  split
  · exact wpAny_pure (h _)
  · exact wpAny_pure (h _)
theorem one_int {f : Bool} {i j : Int} {t u : Tok} {R : Bool → Shared → Prop} (h : ∀ b, R b s) : wpAny (model prog w) A (oneLt' f (.int i t) (.int j u)) R E s := by
  cases f with
  | true => exact oneLt_int (h _)
  | false =>
    rw [oneLt'_eq]
    show wpAny _ _ (richCompare .Lt (.int i t) (.int j u) >>= truthOfDropped) R E s
    exact wpAny_bind (wpAny_lt_int (wpAny_truthy_bool (h _)))
theorem one_bool {b d : Bool} {R : Bool → Shared → Prop} (h : ∀ b, R b s) : wpAny (model prog w) A (oneLt' false (.bool b) (.bool d)) R E s := by
  rw [oneLt'_eq]
  show wpAny _ _ (richCompare .Lt (.bool b) (.bool d) >>= truthOfDropped) R E s
  exact wpAny_bind (lt_bool (wpAny_truthy_bool (h _)))
theorem keyLt_tuples (f : Bool) (x y : Value) : keyLt' (tuples' f) x y = (do
    let xs ← Builtin.List.listItems x; let ys ← Builtin.List.listItems y
    for ((p, q), i) in (xs.toList.zip ys.toList).zipIdx do
      if !(← eqBool p q) then return ← oneLt' (f && i == 0) p q
    return xs.size < ys.size) := rfl
theorem cmp_p {f : Bool} {x y : Value} (hx : PP s.heap x) (hy : PP s.heap y) {R : Bool → Shared → Prop} (h : ∀ b, R b s) : wpAny (model prog w) A (keyLt' (tuples' f) x y) R E s := by
  obtain ⟨a, i, t, b, n, rfl, ho⟩ := hx
  obtain ⟨c, j, u, d, m, rfl, ho'⟩ := hy
  rw [keyLt_tuples]
  refine wpAny_bind (listItems_at ho rfl (wpAny_bind (listItems_at ho' rfl ?_)))
  have e : ((#[Value.int i t, Value.bool b].toList.zip #[Value.int j u, Value.bool d].toList).zipIdx) = [((Value.int i t, Value.int j u), 0), ((Value.bool b, Value.bool d), 1)] := rfl
  show wpAny _ _ (forIn [((Value.int i t, Value.int j u), 0), ((Value.bool b, Value.bool d), 1)] _ _ >>= _) R E s
  rw [List.forIn_cons]
  refine wpAny_bind (wpAny_bind (wpAny_bind ((ibKind prog w).eqBool (a := i) (b := j) (beq_self_eq_true i) (beq_self_eq_true j) ?_)))
  cases decide (i = j) with
  | false => exact wpAny_bind (one_int fun b => wpAny_pure (wpAny_pure (wpAny_pure (h b))))
  | true =>
    refine wpAny_pure ?_
    show wpAny _ _ (forIn [((Value.bool b, Value.bool d), 1)] _ _) _ E s
    rw [List.forIn_cons]
    refine wpAny_bind (wpAny_bind ((ibKind prog w).eqBool (a := bI b) (b := bI d) (beq_self_eq_true _) (beq_self_eq_true _) ?_))
    cases decide (bI b = bI d) with
    | false =>
      show wpAny _ _ (oneLt' (f && false) (.bool b) (.bool d) >>= _) _ E s
      rw [Bool.and_false]
      exact wpAny_bind (one_bool fun b => wpAny_pure (wpAny_pure (wpAny_pure (h b))))
    | true => exact wpAny_pure (wpAny_pure (wpAny_pure (h _)))
theorem cmps_p {f : Bool} {a₀ : Array Keyed} (hk : ∀ p ∈ a₀.toList, PP s.heap p.1) : Cmps prog w A E s (tuples' f) a₀ := fun st hB i j hi hj Q hQ => by
  have at' : ∀ i, i < a₀.size → ∃ p, (arrOf st)[i]? = some p ∧ PP s.heap p.1 := fun i hi => by
    have hi' : i < (arrOf st).size := by rw [hB.perm.size_eq]; exact hi
    refine ⟨(arrOf st)[i], Array.getElem?_eq_getElem hi', hk _ ?_⟩
    exact (Array.perm_iff_toList_perm.mp hB.perm).mem_iff.mp (Array.mem_toList_iff.mpr (Array.getElem_mem hi'))
  obtain ⟨p, e1, h1⟩ := at' i hi
  obtain ⟨q, e2, h2⟩ := at' j hj
  rw [ltAt'_eq]
  refine wpS_bind (wpS_get ?_)
  show wpS _ _ _ _ (do let x ← elem' (arrOf st) i; let y ← elem' (arrOf st) j; lt' x y) Q st
  rw [elem'_eq, elem'_eq, e1, e2]
  refine wpS_bind (wpS_pure (wpS_bind (wpS_pure ?_)))
  rw [lt'_eq]
  refine wpS_bind (wpS_get ?_)
  rw [hB.kind]
  exact wpS_bind (wpS_lift (wpAny_attempt (cmp_p h1 h2 fun b => ⟨rfl, wpS_pure (hQ b)⟩)))
end
end Mine.T

end
section
set_option autoImplicit false
set_option linter.unusedVariables false
set_option linter.unusedSimpArgs false
set_option maxRecDepth 100000
namespace Mine.T
open PySem PyProof.Rows
section
variable {prog : Program} {w : World} {A : Around} {E : Value → Shared → Prop} {s : Shared}
theorem PP.keep {h h' : Heap} {v : Value} (x : PP h v) (k : ∀ a o, h.get? a = some o → o.cls = .type "tuple" → h'.get? a = some o) : PP h' v := by
  obtain ⟨a, i, t, b, n, e, ho⟩ := x
  exact ⟨a, i, t, b, n, e, k a _ ho rfl⟩
theorem zip_perm {vs : List Value} {xs : Array Keyed} (hp : xs.Perm (vs.toArray.zip vs.toArray)) : (xs.map (·.2)).toList.Perm vs := by
  rw [Array.toList_map]
  refine ((Array.perm_iff_toList_perm.mp hp).map _).trans (List.Perm.of_eq ?_)
  rw [Array.toList_zip]
  exact List.map_snd_zip (Nat.le_refl _)
theorem sort_p {a : Addr} {vs : List Value} {n : Nat} {P : Fin → Shared → Prop} (ho : s.heap.get? a = some (seqObj "list" vs.toArray n)) (hv : ∀ v ∈ vs, PP s.heap v) (h64 : vs.length < 64)
    (h : ∀ out : Array Value, out.toList.Perm vs → P (.done (.ret .none)) { s with heap := sortedHeap s.heap a vs out }) : wpAny (model prog w) A (Builtin.«list.sort» ⟨[.ref a], []⟩) P E s := by
  rw [list_sort_plain]
  have ha : a < s.heap.objs.size := Heap.lt_size ho
  refine wpAny_bind (listItems_at ho rfl ?_)
  refine wpAny_bind (listUpdate_at ho rfl ?_)
  obtain ⟨e1, ho1⟩ : ∃ e1, (s.heap.update a (Obj.mapSeq fun _ => #[])).get? a = some (seqObj "list" #[] e1) := ⟨_, get?_update_seq ho (fun _ => #[])⟩
  refine wpAny_bind (seqEpoch_at ho1 rfl ?_)
  refine wpAny_bind (wpAny_newTuple ?_)
  refine wpAny_bind (wpAny_newList ?_)
  refine wpAny_holding ?_
  have keep : ∀ b o, s.heap.get? b = some o → b ≠ a → (((s.heap.update a (Obj.mapSeq fun _ => #[])).push (seqObj "tuple" vs.toArray 0)).push (seqObj "list" #[] 0)).get? b = some o := fun b o e hb =>
    Heap.get?_push_of_some _ (Heap.get?_push_of_some _ (((Heap.SameBut.update s.heap a (Obj.mapSeq fun _ => #[])).2 b hb).trans e))
  have ho6 : (((s.heap.update a (Obj.mapSeq fun _ => #[])).push (seqObj "tuple" vs.toArray 0)).push (seqObj "list" #[] 0)).get? a = some (seqObj "list" #[] e1) := Heap.get?_push_of_some _ (Heap.get?_push_of_some _ ho1)
  show wpAny (model prog w) A _ P E { s with heap := ((s.heap.update a (Obj.mapSeq fun _ => #[])).push (seqObj "tuple" vs.toArray 0)).push (seqObj "list" #[] 0) }
  have hv6 : ∀ v ∈ vs, PP (((s.heap.update a (Obj.mapSeq fun _ => #[])).push (seqObj "tuple" vs.toArray 0)).push (seqObj "list" #[] 0)) v := fun v hm => (hv v hm).keep fun b o e hc => keep b o e fun q => by
    subst q
    rw [ho] at e; cases e
    exact absurd (show Value.type "list" = Value.type "tuple" from hc) (by decide)
  dsimp only
  have hsz : vs.toArray.size = vs.length := List.size_toArray
  have hz : (vs.toArray.zip vs.toArray).size = vs.length := by rw [Array.size_zip, Nat.min_self, hsz]
  by_cases h2 : vs.toArray.size < 2
  · rw [if_pos h2, if_pos h2]
    refine wpAny_bind (wpAny_pure ?_)
    rw [StateT.run_pure]
    refine wpAny_bind (wpAny_pure ?_)
    dsimp only
    refine wpAny_bind (seqEpoch_at ho6 rfl ?_)
    refine wpAny_bind (listUpdate_at ho6 rfl ?_ (hsz2 := by rw [Array.size_map]; show (vs.toArray.zip vs.toArray).size ≤ _; rw [hz, sizeLine_eq]; (first | lia | omega)))
    simp only [bne_self_eq_false, Bool.false_eq_true, if_false]
    exact wpAny_pure (h _ (zip_perm (Array.Perm.refl _)))
  · rw [if_neg h2, if_neg h2]
    refine wpAny_bind (kind_p hv6 fun f => ?_)
    refine wpAny_bind (wpAny_mono (runs_p (kd := tuples' f) (a₀ := vs.toArray.zip vs.toArray) (st := SortSt.mk' (tuples' f) (vs.toArray.zip vs.toArray) #[] 7 none) (Q := fun _ st' => (arrOf st').Perm (vs.toArray.zip vs.toArray) ∧ failedOf st' = none)
      (cmps_p fun p hp => hv6 _ ?_) ⟨Array.Perm.refl _, rfl, rfl, rfl⟩ (by rw [hz]; (first | lia | omega)) (by rw [hz]; exact h64) fun st' a1 a2 => ⟨a1, a2⟩) ?_ fun _ _ e => e)
    · rw [Array.toList_zip] at hp
      exact (List.of_mem_zip hp).1
    · rintro ⟨⟨⟩, st'⟩ s' ⟨rfl, hp, hf⟩
      dsimp only
      refine wpAny_bind (seqEpoch_at ho6 rfl ?_)
      refine wpAny_bind (listUpdate_at ho6 rfl ?_ (hsz2 := by refine Nat.le_trans (Nat.le_of_eq ((Array.size_map ..).trans (hp.size_eq.trans hz))) ?_; rw [sizeLine_eq]; (first | lia | omega)))
      rw [hf]
      simp only [bne_self_eq_false, Bool.false_eq_true, if_false]
      exact wpAny_pure (h _ (zip_perm hp))
end
end Mine.T

end
section
set_option autoImplicit false
set_option linter.unusedVariables false
set_option linter.unusedSimpArgs false
set_option maxRecDepth 100000
namespace Mine.T
open PySem PySem.SetTable PyProof.Rows
theorem erase_perm {α : Type} : ∀ {l : List α} {i : Nat} (h : i < l.length), (l[i] :: l.eraseIdx i).Perm l
  | x :: l, 0, h => .refl _
  | x :: l, i + 1, h => (List.Perm.swap _ _ _).trans ((erase_perm (l := l) (i := i) (Nat.lt_of_succ_lt_succ h)).cons x)
theorem pick_go {α : Type} (next : Nat → Nat) : ∀ (fuel k : Nat) (left : List α) (out : Array α), left.length ≤ fuel → (pickOrder.go next fuel k left out).toList.Perm (out.toList ++ left)
  | 0, k, left, out, h => by
    cases left with
    | nil => rw [List.append_nil]; exact .refl _
    | cons x l => exact absurd h (Nat.not_succ_le_zero _)
  | fuel + 1, k, left, out, h => by
    have e : pickOrder.go next (fuel + 1) k left out = match left[next k % left.length]? with
      | some x => pickOrder.go next fuel (k + 1) (left.eraseIdx (next k % left.length)) (out.push x)
      | none => out := rfl
    rw [e]
    cases left with
    | nil => rw [List.append_nil]; exact .refl _
    | cons x l =>
      have hlt : next k % (x :: l).length < (x :: l).length := Nat.mod_lt _ (Nat.succ_pos _)
      rw [List.getElem?_eq_getElem hlt]
      refine (pick_go next fuel (k + 1) _ _ (by rw [List.length_eraseIdx, if_pos hlt]; exact Nat.pred_le_pred h)).trans ?_
      rw [Array.toList_push, List.append_assoc]
      exact (erase_perm hlt).append_left _
theorem pick_perm {α : Type} (next : Nat → Nat) (xs : Array α) : (pickOrder next xs).toList.Perm xs.toList := pick_go next _ 0 _ #[] (Nat.le_refl _)
/-- the order of a walk -/
def ord (w : World) (S : Addr) (ep : Nat) (es : Array (Int × Value)) : Array (Int × Value) := if w.params.followText "set-order" = true then pickOrder (w.params.setOrder S ep) es else es
theorem ord_perm (w : World) (S : Addr) (ep : Nat) (es : Array (Int × Value)) : (ord w S ep es).toList.Perm es.toList := by
  unfold ord
  split
  · exact pick_perm _ _
  · exact .refl _
theorem ord_size (w : World) (S : Addr) (ep : Nat) (es : Array (Int × Value)) : (ord w S ep es).size = es.size := by
  rw [← Array.length_toList, (ord_perm w S ep es).length_eq, Array.length_toList]
/-- the slot where the i-th is looked for -/
def sl (t : SetTable) : Nat → Nat
  | 0 => 0
  | i + 1 => (t.place[i]?.map (· + 1)).getD 0
theorem below_sl {t : SetTable} (hr : Ris t.place) {i : Nat} (hi : i ≤ t.place.size) : below t.place (sl t i) = i := by
  obtain ⟨h0, h1, h2⟩ := below_spec hr (sl t i)
  cases i with
  | zero =>
    rcases Nat.eq_zero_or_pos (below t.place (sl t 0)) with h | h
    · exact h
    · exact absurd (h1 0 _ (Array.getElem?_eq_getElem (Nat.lt_of_lt_of_le h h0)) h) (Nat.not_lt_zero _)
  | succ i =>
    have ei : t.place[i]? = some t.place[i] := Array.getElem?_eq_getElem hi
    have es : sl t (i + 1) = t.place[i] + 1 := by show (t.place[i]?.map (· + 1)).getD 0 = _; rw [ei]; rfl
    rw [es] at h0 h1 h2 ⊢
    rcases Nat.lt_trichotomy (below t.place (t.place[i] + 1)) (i + 1) with h | h | h
    · exact absurd (h2 i _ ei (Nat.le_of_lt_succ h)) (Nat.not_le.mpr (Nat.lt_succ_self _))
    · exact h
    · have e2 : t.place[i + 1]? = some t.place[i + 1] := Array.getElem?_eq_getElem (Nat.lt_of_lt_of_le h h0)
      exact absurd (hr i (i + 1) _ _ (Nat.lt_succ_self i) ei e2) (Nat.not_lt.mpr (Nat.le_of_lt_succ (h1 _ _ e2 h)))
section
variable {prog : Program} {w : World} {A : Around} {E : Value → Shared → Prop} {s : Shared} {S : Addr}
theorem wpn {α : Type} {M : Model} {c : Prop} [Decidable c] {x y : Sem α} {Q : α → Shared → Prop} (hc : ¬ c) (h : wpAny M A y Q E s) : wpAny M A (if c then x else y) Q E s := by rw [if_neg hc]; exact h
theorem wpp {α : Type} {M : Model} {c : Prop} [Decidable c] {x y : Sem α} {Q : α → Shared → Prop} (hc : c) (h : wpAny M A x Q E s) : wpAny M A (if c then x else y) Q E s := by rw [if_pos hc]; exact h
theorem setWalk_text {o : Obj} {es : Array (Int × Value)} {ep : Nat} {t : SetTable} {Q : Array (Int × Value) → Shared → Prop} (ho : s.heap.get? S = some o) (hd : o.data = .set es ep t) (X : TOk t es) (ht : w.params.followText "set-order" = true) (q : Q (pickOrder (w.params.setOrder S ep) es) s) : wpAny (model prog w) A (setWalk S) Q E s := by
  unfold setWalk
  refine wpAny_bind (wpAny_setState_of ho hd (fits_of X) ?_)
  refine wpAny_bind (wpAny_bind (wpAny_askSetting (wpAny_pure ?_)))
  exact wpp ht (wpAny_bind (wpAny_askSetting (wpAny_pure q)))
theorem setNext_at {o : Obj} {es : Array (Int × Value)} {ep : Nat} {t : SetTable} {i slot : Nat} {Q : Option (Value × Nat) → Shared → Prop} (ho : s.heap.get? S = some o) (hd : o.data = .set es ep t) (X : TOk t es) (hp : t.plain = true) (hl : t.led = !w.params.followText "set-order") (hi : i ≤ es.size) (hs : w.params.followText "set-order" = false → slot = sl t i)
    (q : ∀ slot', (w.params.followText "set-order" = false → i < es.size → slot' = sl t (i + 1)) → Q ((ord w S ep es)[i]?.map fun e => (e.2, slot')) s) : wpAny (model prog w) A (setNext S slot i ep) Q E s := by
  unfold setNext
  refine wpAny_bind (wpAny_setState_of ho hd (fits_of X) ?_)
  refine wpAny_bind (wpAny_bind (wpAny_askSetting (wpAny_pure ?_)))
  cases ht : w.params.followText "set-order" with
  | true =>
    refine wpp ht (wpn (by rw [bne_self_eq_false]; exact Bool.false_ne_true) (wpAny_bind (setWalk_text ho hd X ht (wpAny_pure ?_))))
    have z := q slot fun h => absurd (ht.symm.trans h) (by decide)
    unfold ord at z
    rw [if_pos ht] at z
    exact z
  | false =>
    refine wpn (by show ¬ w.params.followText "set-order" = true; rw [ht]; exact Bool.false_ne_true) (wpn ?_ (wpAny_bind (wpAny_of_eq (a := ()) ?_ ?_)))
    · show ¬ (!t.plain && decide (es.size > 1)) = true
      rw [hp]; exact Bool.false_ne_true
    · show (if (!t.led && !es.isEmpty) = true then _ else _) = _
      rw [hl, ht]; rfl
    · rw [hs ht]
      refine wpAny_pure ?_
      show Q (match es[below t.place (sl t i)]?, t.place[below t.place (sl t i)]? with
        | some (_, x), some j => some (x, j + 1)
        | _, _ => none) s
      rw [below_sl X.ris (by rw [X.size]; exact hi)]
      have e1 : ord w S ep es = es := by unfold ord; rw [ht]; rfl
      rw [e1] at q
      rcases Nat.lt_or_ge i es.size with hlt | hge
      · have ep : t.place[i]? = some (t.place[i]'(by rw [X.size]; exact hlt)) := Array.getElem?_eq_getElem _
        have z := q (sl t (i + 1)) fun _ _ => rfl
        rw [Array.getElem?_eq_getElem hlt] at z ⊢
        rw [show sl t (i + 1) = (t.place[i]'(by rw [X.size]; exact hlt)) + 1 by show (t.place[i]?.map (· + 1)).getD 0 = _; rw [ep]; rfl] at z
        rw [ep]
        exact z
      · have z := q 0 fun _ h => absurd h (Nat.not_lt.mpr hge)
        rw [Array.getElem?_eq_none hge] at z ⊢
        exact z
end
end Mine.T

end
section
set_option autoImplicit false
set_option linter.unusedVariables false
set_option linter.unusedSimpArgs false
set_option maxRecDepth 100000
namespace Mine.T
open PySem PySem.SetTable PyProof.Rows
theorem slot_set_iter : Slot "set" "__iter__" "set.__iter__" :=
  .of (owner := "set") (n := "__iter__") (by rw [typeLookup_type, builtinLookup_eq_fast]; kernel_rfl) (by decide +kernel) (by decide +kernel) (by decide +kernel)
    (by first | exact .inl (by decide +kernel) | exact .inr (by decide +kernel)) (by rw [isSubtype_type]; kernel_rfl)
theorem entry_set_iter : entryFor table "set.__iter__" = some Builtin.«frozenset.__iter__» := entryFor_alias (id' := "frozenset.__iter__") (by kernel_rfl) rfl (by decide +kernel) (by kernel_rfl)
theorem args_set_iter (a : Value) : argsOk "set.__iter__" ⟨[a], []⟩ := by unfold argsOk; kernel_rfl
theorem slot_setit_next : Slot "set_iterator" "__next__" "set_iterator.__next__" :=
  .of (owner := "set_iterator") (n := "__next__") (by rw [typeLookup_type, builtinLookup_eq_fast]; kernel_rfl) (by decide +kernel) (by decide +kernel) (by decide +kernel)
    (by first | exact .inl (by decide +kernel) | exact .inr (by decide +kernel)) (by rw [isSubtype_type]; kernel_rfl)
theorem entry_setit_next : entryFor table "set_iterator.__next__" = some Builtin.«set_iterator.__next__» := entryFor_of_fast (by kernel_rfl)
theorem args_setit_next (a : Value) : argsOk "set_iterator.__next__" ⟨[a], []⟩ := by unfold argsOk; kernel_rfl
theorem slot_setit_iter : Slot "set_iterator" "__iter__" "set_iterator.__iter__" :=
  .of (owner := "set_iterator") (n := "__iter__") (by rw [typeLookup_type, builtinLookup_eq_fast]; kernel_rfl) (by decide +kernel) (by decide +kernel) (by decide +kernel)
    (by first | exact .inl (by decide +kernel) | exact .inr (by decide +kernel)) (by rw [isSubtype_type]; kernel_rfl)
theorem entry_setit_iter : entryFor table "set_iterator.__iter__" = some Builtin.«dict_keyiterator.__iter__» := entryFor_alias (id' := "dict_keyiterator.__iter__") (by kernel_rfl) rfl (by decide +kernel) (by kernel_rfl)
theorem args_setit_iter (a : Value) : argsOk "set_iterator.__iter__" ⟨[a], []⟩ := by unfold argsOk; kernel_rfl
def IsSetIt (h : Heap) (I S : Addr) (slot i n ep : Nat) : Prop := ∃ o, h.get? I = some o ∧ o.cls = .type "set_iterator" ∧ o.data = .fields #[rawInt slot, rawInt i, .ref S, rawInt n, rawInt ep]
section
variable {prog : Program} {w : World} {A : Around} {E : Value → Shared → Prop} {s : Shared} {S I : Addr} {o : Obj} {es : Array (Int × Value)} {ep : Nat} {t : SetTable}
structure WSt (w : World) (S : Addr) (o : Obj) (es : Array (Int × Value)) (ep : Nat) (t : SetTable) (I : Addr) (i : Nat) (s : Shared) : Prop where
  set : s.heap.get? S = some o
  it : ∃ slot, (w.params.followText "set-order" = false → slot = sl t i) ∧ IsSetIt s.heap I S slot i es.size ep
theorem pyIter_set {Q : Value → Shared → Prop} (hc : o.cls = .type "set") (ho : s.heap.get? S = some o) (hd : o.data = .set es ep t) (X : TOk t es) (hp : t.plain = true)
    (q : Q (.ref s.heap.objs.size) { s with heap := s.heap.push { cls := .type "set_iterator", data := .fields #[rawInt 0, rawInt 0, .ref S, rawInt es.size, rawInt ep] } }) : wpAny (model prog w) A (pyIter (.ref S)) Q E s := by
  refine wpAny_pyIter_slot (T := "set") ⟨o, ho, hc⟩ slot_set_iter (wpAny_call_entry slot_set_iter ⟨o, ho, hc⟩ entry_set_iter ?_ (args_set_iter _))
  unfold Builtin.«frozenset.__iter__»
  refine wpAny_bind (m := Builtin.Frozenset.slot0 "__iter__" _) (wpAny_pure (a := S) ?_)
  refine wpAny_bind (m := Builtin.Frozenset.sizeOf S) (wpAny_bind (wpAny_setEntries_of ho hd (fits_of X) (wpAny_pure ?_)))
  unfold setDrawn
  refine wpAny_bind (wpAny_bind (wpAny_setState_of ho hd (fits_of X) (wpAny_bind (wpAny_bind (wpAny_askSetting (wpAny_pure (wpAny_pure ?_)))))))
  dsimp only
  refine wpn ?_ (wpAny_bind (wpAny_pure ?_))
  · show ¬ (!w.params.followText "set-order" && (!t.plain && decide (es.size > 1))) = true
    rw [hp]; cases w.params.followText "set-order" <;> exact Bool.false_ne_true
  refine wpAny_bind (m := setEpoch S) (wpAny_bind (wpAny_setState_of ho hd (fits_of X) (wpAny_pure ?_)))
  exact wpAny_bind (wpAny_newObj_type (wpAny_pure ⟨_, rfl, "set_iterator", _, ⟨_, Heap.get?_push_size _ rfl, rfl⟩, slot_setit_next.lookup, q⟩))
theorem walks_set (hh : A.handled = none) (hne : S ≠ I) (hd : o.data = .set es ep t) (X : TOk t es) (hp : t.plain = true) (hl : t.led = !w.params.followText "set-order") :
    WalksS prog w A I [I, S] [I] (fun a b => b = a) es.size (fun i v => ∃ e, (ord w S ep es)[i]? = some e ∧ v = e.2) (WSt w S o es ep t I) where
  sub := fun b hb => by rw [List.mem_singleton.mp hb]; exact List.mem_cons_self
  grefl := fun _ => rfl
  gtrans := fun _ _ _ a b => b.trans a
  frame := fun i s h' tk st _ hk => by
    obtain ⟨hS, slot, hs, o', ho', r⟩ := st
    exact ⟨hk S (List.mem_cons_of_mem _ List.mem_cons_self) _ hS, slot, hs, o', hk I List.mem_cons_self _ ho', r⟩
  item := fun i s Q E hi st hQ => by
    obtain ⟨hS, slot, hs, o', ho', hc', hd'⟩ := st
    unfold pyNext
    refine wpAny_bind (wpAny_attempt (wpAny_callSpecial?_slot (name := Str.ofString "__next__") ⟨o', ho', hc'⟩ slot_setit_next (wpAny_call_entry slot_setit_next ⟨o', ho', hc'⟩ entry_setit_next ?_ (args_setit_next _))))
    unfold Builtin.«set_iterator.__next__»
    refine wpAny_bind (m := slotArgs "__next__" 0 _) (wpAny_pure ?_)
    refine wpAny_bind (wpAny_fieldsOf ho' hd' ?_)
    refine wpAny_bind (wpAny_setEntries_of hS hd (fits_of X) ?_)
    refine wpn (by rw [bne_self_eq_false]; exact Bool.false_ne_true) ?_
    show wpAny _ _ (setNext S slot i ep >>= _) _ _ s
    refine wpAny_bind (setNext_at hS hd X hp hl (Nat.le_of_lt hi) hs fun slot' hs' => ?_)
    have hi' : i < (ord w S ep es).size := by rw [ord_size]; exact hi
    rw [Array.getElem?_eq_getElem hi']
    refine wpAny_bind (wpAny_setField ho' hd' (by simp) ?_)
    have g1 := Heap.get?_update_self (Obj.mapFields (·.setIfInBounds 0 (rawInt slot'))) ho' (Obj.isFreed_of_fields (Obj.data_mapFields hd' _))
    refine wpAny_bind (wpAny_setField g1 (Obj.data_mapFields hd' _) (by simp) ?_)
    have g2 := Heap.get?_update_self (Obj.mapFields (·.setIfInBounds 1 (rawInt (i + 1)))) g1 (Obj.isFreed_of_fields (Obj.data_mapFields (Obj.data_mapFields hd' _) _))
    have sb := (Heap.SameBut.update s.heap I (Obj.mapFields (·.setIfInBounds 0 (rawInt slot')))).trans (Heap.SameBut.update _ I (Obj.mapFields (·.setIfInBounds 1 (rawInt (i + 1)))))
    refine wpAny_pure ⟨_, rfl, wpAny_pure (hQ _ _ ⟨_, Array.getElem?_eq_getElem hi', rfl⟩ ⟨(sb.2 S hne).trans hS, slot', fun h => hs' h hi, _, g2, ((Obj.cls_mapFields ..).trans (Obj.cls_mapFields ..)).trans hc', ?_⟩ ⟨fun b o hb e => (sb.2 b fun h => hb (List.mem_singleton.mpr h)).trans e, rfl, rfl, rfl, Nat.le_refl _⟩)⟩
    rw [Obj.data_mapFields (Obj.data_mapFields hd' _)]
    rfl
  done := fun s Q E st hQ => by
    obtain ⟨hS, slot, hs, o', ho', hc', hd'⟩ := st
    unfold pyNext
    refine wpAny_bind (wpAny_attempt (wpAny_callSpecial?_slot (name := Str.ofString "__next__") ⟨o', ho', hc'⟩ slot_setit_next (wpAny_call_entry slot_setit_next ⟨o', ho', hc'⟩ entry_setit_next ?_ (args_setit_next _))))
    unfold Builtin.«set_iterator.__next__»
    refine wpAny_bind (m := slotArgs "__next__" 0 _) (wpAny_pure ?_)
    refine wpAny_bind (wpAny_fieldsOf ho' hd' ?_)
    refine wpAny_bind (wpAny_setEntries_of hS hd (fits_of X) ?_)
    refine wpn (by rw [bne_self_eq_false]; exact Bool.false_ne_true) ?_
    show wpAny _ _ (setNext S slot es.size ep >>= _) _ _ s
    refine wpAny_bind (setNext_at hS hd X hp hl (Nat.le_refl _) hs fun slot' hs' => ?_)
    rw [Array.getElem?_eq_none (by rw [ord_size]; exact Nat.le_refl _)]
    refine wpAny_bind (wpAny_setField ho' hd' (by simp) ?_)
    refine wpAny_bind ?_
    simp only [newExc, newTuple]
    refine wpAny_bind (wpAny_newObj_type ?_ (by size_fits))
    refine wpAny_bind (m := firstArgMember _ _) (wpAny_of_eq (a := Value.none) (by first | rfl | (simp only [firstArgMember]; rfl)) ?_)
    refine wpAny_newObj_type ?_ (by size_fits)
    simp only [raiseNew]
    refine wpAny_bind (wpAny_handled ?_)
    rw [show A.in1.handled = none from hh]
    refine wpAny_bind (wpAny_pure (wpAny_throw ?_))
    refine wpAny_bind (wpAny_isInstance (T := "StopIteration") (b := true) ⟨_, Heap.get?_push_size _ rfl, rfl⟩ isSubtype_stop ?_)
    exact wpAny_pure (hQ _ ⟨fun b o hb e => Heap.get?_push_of_some _ (Heap.get?_push_of_some _ (((Heap.SameBut.update ..).2 b fun h => hb (List.mem_singleton.mpr h)).trans e)), rfl, rfl, rfl, Nat.le_refl _⟩)
  self := fun i s Q E st hQ => by
    obtain ⟨hS, slot, hs, o', ho', hc', hd'⟩ := st
    refine wpAny_pyIter_slot (T := "set_iterator") ⟨o', ho', hc'⟩ slot_setit_iter (wpAny_call_entry slot_setit_iter ⟨o', ho', hc'⟩ entry_setit_iter ?_ (args_setit_iter _))
    show wpAny _ _ (ret (.ref I)) _ _ s
    exact wpAny_pure ⟨_, rfl, "set_iterator", _, ⟨o', ho', hc'⟩, slot_setit_next.lookup, hQ⟩
end
end Mine.T

end
section
set_option autoImplicit false
set_option linter.unusedVariables false
set_option linter.unusedSimpArgs false
set_option maxRecDepth 100000
namespace Mine.T
open PySem PySem.SetTable PyProof.Rows
theorem set_len : typeLookup (.type "set") "__len__" = pure (some (.builtin "set.__len__")) := by rw [typeLookup_type, builtinLookup_eq_fast]; kernel_rfl
theorem items_eq {w : World} {S : Addr} {ep : Nat} {es : Array (Int × Value)} {acc : Array Value} (h : ItemsOf (fun i v => ∃ e, (ord w S ep es)[i]? = some e ∧ v = e.2) acc es.size) : acc.toList = (ord w S ep es).toList.map (·.2) := by
  refine List.ext_getElem? fun i => ?_
  rw [List.getElem?_map, Array.getElem?_toList, Array.getElem?_toList]
  rcases Nat.lt_or_ge i acc.size with hi | hi
  · rw [Array.getElem?_eq_getElem hi]
    obtain ⟨e, he, hv⟩ := h.2 i _ (Array.getElem?_eq_getElem hi)
    rw [he, hv]; rfl
  · rw [Array.getElem?_eq_none hi, Array.getElem?_eq_none (by rw [ord_size, ← h.1]; exact hi)]; rfl
section
variable {prog : Program} {w : World} {A : Around} {E : Value → Shared → Prop} {s : Shared} {S I : Addr} {o : Obj} {es : Array (Int × Value)} {ep : Nat} {t : SetTable}
theorem hint_set {M : Model} {Q : Bool → Shared → Prop} (hT : s.TypeIs (.ref S) "set") (q : Q false s) : wpAny M A (Builtin.List.listLengthHint (.ref S)) Q E s := by
  unfold Builtin.List.listLengthHint
  refine wpAny_bind (wpAny_specialOf hT set_len ?_)
  (generalize hid : ("set.__len__" : String) = id0; (fail_if_success (clear hid id0)); wp_delta; rw [show splitId id0 = some ("set", "__len__") from by subst hid; decide +kernel]; subst hid)
  refine wpAny_bind (wpAny_isInstance (b := true) hT (by rw [isSubtype_type]; kernel_rfl) ?_)
  refine wpAny_bind (wpAny_typeOf hT ?_)
  exact wpAny_pure q
theorem collect_set {Q : List Value → Shared → Prop} (hh : A.handled = none) (hc : o.cls = .type "set") (ho : s.heap.get? S = some o) (hd : o.data = .set es ep t) (X : TOk t es) (hp : t.plain = true) (hl : t.led = !w.params.followText "set-order") (hn : es.size ≤ sizeLine)
    (q : ∀ (h' : Heap) (tk : Nat), s.toks ≤ tk → (∀ b o, s.heap.get? b = some o → h'.get? b = some o) → Q ((ord w S ep es).toList.map (·.2)) { s with heap := h', toks := tk }) : wpAny (model prog w) A (collect (.ref S)) Q E s := by
  have hS : S < s.heap.objs.size := Heap.lt_size ho
  unfold collect
  refine wpAny_bind (wpAny_runValue (codeAny_builtin F.entry_proto_collect ?_))
  rw [Around.under_plainId F.plain_proto_collect _]
  show wpAny _ A.in1 (newList [] >>= fun l => again (.builtin "list.__iadd__" ⟨[l, .ref S], []⟩)) _ _ s
  refine wpAny_bind (wpAny_newList ?_)
  refine wpAny_pure ⟨plainId_quiet F.plain_list_iadd _, codeAny_builtin F.entry_list_iadd ?_⟩
  rw [Around.under_plainId F.plain_list_iadd _]
  show wpAny _ A.in1 (Builtin.List.listExtendWith (.ref s.heap.objs.size) (.ref S) (.ref s.heap.objs.size)) _ _ { s with heap := s.heap.push (seqObj "list" #[] 0) }
  unfold Builtin.List.listExtendWith
  have ho1 : (s.heap.push (seqObj "list" #[] 0)).get? S = some o := Heap.get?_push_of_some _ ho
  have hl1 : (s.heap.push (seqObj "list" #[] 0)).get? s.heap.objs.size = some (seqObj "list" #[] 0) := Heap.get?_push_size _ rfl
  refine wpAny_bind (wpAny_typeOf (T := "set") ⟨o, ho1, hc⟩ ?_)
  have h1 : Builtin.List.listSameRef (.ref s.heap.objs.size) (.ref S) = false := beq_false_of_ne (Nat.ne_of_gt hS)
  refine wpn (by rw [h1]; decide) ?_
  refine wpAny_bind (pyIter_set hc ho1 hd X hp ?_)
  generalize hI : (s.heap.push (seqObj "list" #[] 0)).objs.size = I
  have hI' : I = s.heap.objs.size + 1 := by rw [← hI, Heap.size_push]
  have ho2 : ((s.heap.push (seqObj "list" #[] 0)).push { cls := .type "set_iterator", data := .fields #[rawInt 0, rawInt 0, .ref S, rawInt es.size, rawInt ep] }).get? S = some o := Heap.get?_push_of_some _ ho1
  have hl2 : ((s.heap.push (seqObj "list" #[] 0)).push { cls := .type "set_iterator", data := .fields #[rawInt 0, rawInt 0, .ref S, rawInt es.size, rawInt ep] }).get? s.heap.objs.size = some (seqObj "list" #[] 0) := Heap.get?_push_of_some _ hl1
  have hi2 : ((s.heap.push (seqObj "list" #[] 0)).push { cls := .type "set_iterator", data := .fields #[rawInt 0, rawInt 0, .ref S, rawInt es.size, rawInt ep] }).get? I = some { cls := .type "set_iterator", data := .fields #[rawInt 0, rawInt 0, .ref S, rawInt es.size, rawInt ep] } := by rw [← hI]; exact Heap.get?_push_size _ rfl
  have k2 : ∀ b o, s.heap.get? b = some o → ((s.heap.push (seqObj "list" #[] 0)).push { cls := .type "set_iterator", data := .fields #[rawInt 0, rawInt 0, .ref S, rawInt es.size, rawInt ep] }).get? b = some o := fun b o e => Heap.get?_push_of_some _ (Heap.get?_push_of_some _ e)
  generalize ((s.heap.push (seqObj "list" #[] 0)).push { cls := .type "set_iterator", data := .fields #[rawInt 0, rawInt 0, .ref S, rawInt es.size, rawInt ep] }) = h2 at *
  refine wpAny_bind (wpAny_holding (hint_set ⟨o, ho2, hc⟩ ?_))
  refine wpp (by kernel_rfl) (wpAny_bind (wpAny_rule ?_))
  unfold Builtin.List.listTouch
  refine wpAny_bind (wpAny_bind (listUpdate_at hl2 rfl ?_ (Nat.zero_le _) (by show (1 : Nat) ≤ _; exact Nat.succ_le_succ (Nat.zero_le _))))
  have hl3 := get?_update_seq hl2 (·.push .none)
  refine listUpdate_at hl3 rfl ?_ (by show (1 : Nat) ≤ _; rw [sizeLine_eq]; decide) (Nat.zero_le _)
  have hl4 := get?_update_seq hl3 (·.pop)
  have sb := (Heap.SameBut.update h2 s.heap.objs.size (Obj.mapSeq (·.push .none))).trans (Heap.SameBut.update _ s.heap.objs.size (Obj.mapSeq (·.pop)))
  have hIne : I ≠ s.heap.objs.size := by rw [hI']; exact Nat.succ_ne_self _
  refine wpAny_pure ⟨plainId_quiet F.plain_extend_loop _, codeAny_extend_loopS (walks_set (A := A.in1) (I := I) hh (by rw [hI']; exact Nat.ne_of_lt (Nat.lt_succ_of_lt hS)) hd X hp hl) hn s.heap.objs.size ?_ _ _ 0 _ _ _ rfl (Nat.zero_le _) ⟨(sb.2 S (Nat.ne_of_lt hS)).trans ho2, 0, fun _ => rfl, _, (sb.2 I hIne).trans hi2, rfl, rfl⟩ hl4 (ItemsOf.nil _) fun s' acc' c' hm hS' hacc => ?_⟩
  · simp only [List.mem_cons, List.not_mem_nil, or_false, not_or]
    exact ⟨fun h => hIne h.symm, Nat.ne_of_gt hS⟩
  · show wpAny _ A (load s.heap.objs.size >>= _) _ _ s'
    refine wpAny_bind (wpAny_load hS' ?_)
    obtain ⟨h', g', d', tk', os'⟩ := s'
    have eg : g' = s.gens := hm.gens
    have ed : d' = s.drawn := hm.drawn
    have eo : os' = s.os := hm.os
    subst eg; subst ed; subst eo
    refine wpAny_pure ?_
    show Q acc'.toList _
    rw [items_eq hacc]
    refine q h' tk' hm.toks fun b o e => ?_
    have hb : b < s.heap.objs.size := Heap.lt_size e
    refine hm.heap b o ?_ ((sb.2 b (Nat.ne_of_lt hb)).trans (k2 b o e))
    simp only [List.mem_cons, List.not_mem_nil, or_false, not_or]
    exact ⟨Nat.ne_of_lt hb, by rw [hI']; exact Nat.ne_of_lt (Nat.lt_succ_of_lt hb)⟩
end
end Mine.T

end
section
set_option autoImplicit false
set_option linter.unusedVariables false
set_option linter.unusedSimpArgs false
set_option maxRecDepth 100000
namespace Mine.T
open PySem PySem.SetTable PyProof.Rows
theorem sh_get {h : Heap} {a : Addr} {vs : List Value} {n : Nat} (out : Array Value) (ho : h.get? a = some (seqObj "list" vs.toArray n)) : ∃ m, (sortedHeap h a vs out).get? a = some (seqObj "list" out m) :=
  ⟨_, get?_update_seq (Heap.get?_push_of_some _ (Heap.get?_push_of_some _ (get?_update_seq ho (fun _ => #[])))) (fun _ => out)⟩
theorem sh_keep {h : Heap} {a b : Addr} {vs : List Value} {out : Array Value} {o : Obj} (hb : b ≠ a) (e : h.get? b = some o) : (sortedHeap h a vs out).get? b = some o :=
  ((Heap.SameBut.update _ a (Obj.mapSeq fun _ => out)).2 b hb).trans (Heap.get?_push_of_some _ (Heap.get?_push_of_some _ (((Heap.SameBut.update h a (Obj.mapSeq fun _ => #[])).2 b hb).trans e)))
section
variable {prog : Program} {w : World} {A : Around} {E : Value → Shared → Prop} {s : Shared} {S : Addr}
theorem sorted_set {kl : List (List Int × Addr)} {Q : Value → Shared → Prop} (hh : A.handled = none) (sp : SP prog w s.heap S kl) (hk : ∀ p ∈ kl, PP s.heap (.ref p.2)) (h64 : kl.length < 64)
    (q : ∀ (h' : Heap) (tk : Nat) (L : Addr) (out : List Value) (n : Nat), s.toks ≤ tk → (∀ b o, s.heap.get? b = some o → h'.get? b = some o) → out.Perm (kl.map fun p => Value.ref p.2) → s.heap.get? L = none → h'.get? L = some (seqObj "list" out.toArray n) → Q (.ref L) { s with heap := h', toks := tk }) : wpAny (model prog w) A (call (.builtin "sorted") [.ref S]) Q E s := by
  obtain ⟨o, es, ep, t, ho, hx, hd, X⟩ := sp
  refine Calls.call_function_entry kind_sorted plain_sorted entry_sorted (args_sorted1 _) ?_
  unfold Builtin.«sorted»
  refine wpAny_bind (m := checkCount "sorted" 1 1 _) (wpAny_pure ?_)
  refine wpAny_bind (collect_set hh hx.1 ho hd X.ok X.plain X.led (by rw [X.len, sizeLine_eq]; (first | lia | omega)) fun h1 tk htk k1 => ?_)
  have hperm : ((ord w S ep es).toList.map (·.2)).Perm (kl.map fun p => Value.ref p.2) := by
    have h1 := ((ord_perm w S ep es).trans X.perm).map (·.2)
    rw [List.map_map] at h1
    exact h1
  generalize (ord w S ep es).toList.map (·.2) = vs at *
  refine wpAny_bind (wpAny_newList ?_ (by rw [hperm.length_eq, List.length_map, sizeLine_eq]; (first | lia | omega)))
  have hoL : (h1.push (seqObj "list" vs.toArray 0)).get? h1.objs.size = some (seqObj "list" vs.toArray 0) := Heap.get?_push_size _ rfl
  show wpAny _ _ _ _ _ { s with heap := h1.push (seqObj "list" vs.toArray 0), toks := tk }
  have hv : ∀ v ∈ vs, PP (h1.push (seqObj "list" vs.toArray 0)) v := fun v hm => by
    obtain ⟨p, hp, rfl⟩ := List.mem_map.mp (hperm.mem_iff.mp hm)
    exact (hk p hp).keep fun b o e _ => Heap.get?_push_of_some _ (k1 b o e)
  refine wpAny_bind (wpAny_holding (wpAny_call_entry slot_list_sort ⟨_, hoL, rfl⟩ entry_list_sort (sort_p hoL hv (by rw [hperm.length_eq, List.length_map]; exact h64) fun out a1 => ⟨_, rfl, ?_⟩) (args_list_sort _)))
  obtain ⟨m, hm⟩ := sh_get out hoL
  refine wpAny_pure ⟨_, rfl, q _ tk _ out.toList m htk (fun b o e => sh_keep (Nat.ne_of_lt (Heap.lt_size (k1 b o e))) (Heap.get?_push_of_some _ (k1 b o e))) (a1.trans hperm) ?_ hm⟩
  cases e : s.heap.get? h1.objs.size with
  | none => rfl
  | some o => exact absurd (Heap.lt_size (k1 _ o e)) (Nat.lt_irrefl _)
end
end Mine.T

end
section
set_option autoImplicit false
set_option linter.unusedVariables false
set_option linter.unusedSimpArgs false
set_option maxRecDepth 100000
namespace Mine.T
open PySem PySem.SetTable PyProof.Rows
theorem perm_map {α β : Type} {f : α → β} {out m : List β} (h : out.Perm m) : ∀ {l : List α}, m = l.map f → ∃ l' : List α, l'.Perm l ∧ out = l'.map f := by
  induction h with
  | nil => exact fun {l} e => ⟨[], by rw [List.map_eq_nil_iff.mp e.symm], rfl⟩
  | @cons x l1 l2 _ ih =>
    intro l e
    cases l with
    | nil => cases e
    | cons a l =>
      obtain ⟨e1, e2⟩ := List.cons.inj e
      obtain ⟨l', hp, he⟩ := ih e2
      exact ⟨a :: l', hp.cons a, by rw [List.map_cons, ← he, e1]⟩
  | swap x y l1 =>
    intro l e
    match l, e with
    | a :: b :: l, e =>
      obtain ⟨e1, e2⟩ := List.cons.inj e
      obtain ⟨e2, e3⟩ := List.cons.inj e2
      exact ⟨b :: a :: l, .swap _ _ _, by rw [List.map_cons, List.map_cons, ← e1, ← e2, ← e3]⟩
  | trans _ _ ih1 ih2 =>
    intro l e
    obtain ⟨l2, p2, e2⟩ := ih2 e
    obtain ⟨l1, p1, e1⟩ := ih1 e2
    exact ⟨l1, p1.trans p2, e1⟩
theorem met_mem (kv : Nat → List Int × Addr) : ∀ {n : Nat} {p : List Int × Addr}, p ∈ met kv n → ∃ i, i < n ∧ p = kv i
  | 0, p, h => nomatch h
  | n + 1, p, h => by
    unfold met at h
    split at h
    · exact (met_mem kv h).imp fun i x => ⟨Nat.lt_succ_of_lt x.1, x.2⟩
    · rcases List.mem_append.mp h with h | h
      · exact (met_mem kv h).imp fun i x => ⟨Nat.lt_succ_of_lt x.1, x.2⟩
      · exact ⟨n, Nat.lt_succ_self n, List.mem_singleton.mp h⟩
theorem met_key (kv : Nat → List Int × Addr) : ∀ {n i : Nat}, i < n → (kv i).1 ∈ (met kv n).map (·.1)
  | n + 1, i, h => by
    unfold met
    rcases Nat.lt_or_eq_of_le (Nat.le_of_lt_succ h) with h | rfl
    · split
      · exact met_key kv h
      · rw [List.map_append]; exact List.mem_append_left _ (met_key kv h)
    · split
      · assumption
      · rw [List.map_append]; exact List.mem_append_right _ List.mem_cons_self
theorem met_nd (kv : Nat → List Int × Addr) : ∀ n, ((met kv n).map (·.1)).Nodup
  | 0 => List.nodup_nil
  | n + 1 => by
    unfold met
    split
    · exact met_nd kv n
    · next hn =>
      rw [List.map_append]
      exact List.nodup_append.mpr ⟨met_nd kv n, List.nodup_cons.mpr ⟨List.not_mem_nil, List.nodup_nil⟩, fun x hx y hy e => hn (by
        have e : x = (kv n).1 := e.trans (List.mem_singleton.mp hy)
        exact e ▸ hx)⟩
/-- the pair of a key -/
noncomputable def un (k : List Int) : Int × Bool := (k.headD 0, decide (k.getLastD 0 = 1))
theorem un_pK (q : Int × Bool) : un (pK q) = q := by
  obtain ⟨i, b⟩ := q
  cases b <;> exact Prod.ext rfl rfl
section
variable {prog : Program} {w : World} {A : Around} {E : Value → Shared → Prop} {s : Shared}
theorem sort_set {l : Addr} {xs : List Value} {qs : List (Int × Bool)} {Q : Value → Shared → Prop} (hh : A.handled = none) (hroom : ∀ B : Around, B.units ≤ A.units + 20 → (pKind prog w).room B) (hl : s.heap.IsList l xs.toArray) (hn : xs.length = qs.length)
    (hr : ∀ (i : Nat) (q : Int × Bool), qs[i]? = some q → ∃ a : Addr, xs[i]? = some (.ref a) ∧ IsP prog w s.heap (pK q) a ∧ PP s.heap (.ref a)) (h60 : ∀ rs : List (Int × Bool), rs.Nodup → (∀ q ∈ rs, q ∈ qs) → rs.length ≤ 60)
    (q : ∀ (h' : Heap) (tk : Nat) (L : Addr) (rs : List (Int × Bool)) (out : List Value) (n : Nat), s.toks ≤ tk → (∀ b o, s.heap.get? b = some o → h'.get? b = some o) → rs.Nodup → (∀ q, q ∈ rs ↔ q ∈ qs) → out.length = rs.length → (∀ (i : Nat) (q : Int × Bool), rs[i]? = some q → ∃ j : Nat, qs[j]? = some q ∧ out[i]? = xs[j]?) → s.heap.get? L = none → h'.get? L = some (seqObj "list" out.toArray n) → Q (.ref L) { s with heap := h', toks := tk }) :
    wpAny (model prog w) A (call (.type "set") [.ref l]) (fun v s₁ => wpAny (model prog w) A (call (.builtin "sorted") [v]) Q E s₁) E s := by
  have ht : ∀ i : Nat, i < qs.length → ∃ a : Addr, xs[i]? = some (.ref a) ∧ IsP prog w s.heap (pK (qs.getD i (0, false))) a ∧ PP s.heap (.ref a) := fun i hi => by
    have e : qs[i]? = some (qs.getD i (0, false)) := by rw [List.getD_eq_getElem?_getD, List.getElem?_eq_getElem hi]; rfl
    exact hr i _ e
  obtain ⟨ad, had⟩ := Classical.skolem.mp fun i : Nat => show ∃ a : Addr, i < qs.length → xs[i]? = some (.ref a) ∧ IsP prog w s.heap (pK (qs.getD i (0, false))) a ∧ PP s.heap (.ref a) from
    (Nat.lt_or_ge i qs.length).elim (fun h => (ht i h).imp fun a x _ => x) fun h => ⟨0, fun h' => absurd h' (Nat.not_lt.mpr h)⟩
  generalize hkv : (fun i => (pK (qs.getD i (0, false)), ad i) : Nat → List Int × Addr) = kv
  have ekv : ∀ i, kv i = (pK (qs.getD i (0, false)), ad i) := fun i => by rw [← hkv]
  have hsz : xs.toArray.size = qs.length := by rw [List.size_toArray, hn]
  -- the pairs of those met
  have hmem : ∀ {n : Nat} {p}, n ≤ qs.length → p ∈ met kv n → ∃ i : Nat, i < qs.length ∧ p = kv i ∧ qs[i]? = some (un p.1) := fun {n p} hn hp => by
    obtain ⟨i, hi, rfl⟩ := met_mem kv hp
    have hi' := Nat.lt_of_lt_of_le hi hn
    refine ⟨i, hi', rfl, ?_⟩
    rw [ekv, un_pK, List.getD_eq_getElem?_getD, List.getElem?_eq_getElem hi']; rfl
  have hnd : ∀ {n : Nat} {kl : List (List Int × Addr)}, n ≤ qs.length → kl.Perm (met kv n) → (kl.map fun p => un p.1).Nodup := fun {n kl} hn hp => by
    have h1 := (hp.map (·.1)).nodup_iff.mpr (met_nd kv n)
    rw [show (kl.map fun p => un p.1) = (kl.map (·.1)).map un by rw [List.map_map]; rfl]
    refine List.Pairwise.map _ (fun a b h => h) (List.Pairwise.imp_of_mem (fun {a b} ha hb hne e => ?_) h1)
    obtain ⟨p, hp', rfl⟩ := List.mem_map.mp ha
    obtain ⟨p2, hp2, rfl⟩ := List.mem_map.mp hb
    obtain ⟨i, hi, e1, _⟩ := hmem hn (hp.mem_iff.mp hp')
    obtain ⟨j, hj, e2, _⟩ := hmem hn (hp.mem_iff.mp hp2)
    rw [e1, e2, ekv, ekv] at e hne
    simp only [un_pK] at e
    exact hne (by show pK _ = pK _; rw [e])
  have hlen : ∀ i, i ≤ xs.toArray.size → (met kv i).length ≤ 60 := fun i hi => by
    have := h60 ((met kv i).map fun p => un p.1) (hnd (hsz ▸ hi) (.refl _)) fun q hq => by
      obtain ⟨p, hp, rfl⟩ := List.mem_map.mp hq
      obtain ⟨j, _, _, e⟩ := hmem (hsz ▸ hi) hp
      exact List.mem_of_getElem? e
    rw [List.length_map] at this
    exact this
  refine call_set (kv := kv) hh hroom hl (fun i v e => ?_) (fun i hi => ?_) hlen fun h' tk htk sp keep => ?_
  · have hi : i < qs.length := by rw [← hsz]; exact (Array.getElem?_eq_some_iff.mp e).1
    rw [List.getElem?_toArray, (had i hi).1] at e
    rw [ekv]
    exact (Option.some.inj e).symm
  · rw [ekv]; exact (had i (hsz ▸ hi)).2.1
  · rw [hsz] at sp
    have k0 : ∀ b o, s.heap.get? b = some o → h'.get? b = some o := fun b o e => keep b o (Heap.lt_size e) e
    refine sorted_set hh sp (fun p hp => ?_) (Nat.lt_of_le_of_lt (hsz ▸ hlen _ (Nat.le_refl _)) (by decide)) fun h2 tk2 L out n htk2 k2 hperm hL hg => ?_
    · obtain ⟨i, hi, rfl, _⟩ := hmem (Nat.le_refl _) hp
      rw [ekv]
      exact (had i hi).2.2.keep fun b o e _ => k0 b o e
    · obtain ⟨kl, hp, rfl⟩ := perm_map hperm rfl
      have hk : ∀ p ∈ kl, ∃ i : Nat, i < qs.length ∧ p = kv i ∧ qs[i]? = some (un p.1) := fun p hp' => hmem (Nat.le_refl _) (hp.mem_iff.mp hp')
      refine q h2 tk2 L (kl.map fun p => un p.1) _ n (Nat.le_trans htk htk2) (fun b o e => k2 b o (k0 b o e)) (hnd (Nat.le_refl _) hp) (fun q => ⟨fun hq => ?_, fun hq => ?_⟩) (by rw [List.length_map, List.length_map]) (fun i q e => ?_) ?_ hg
      · obtain ⟨p, hp', rfl⟩ := List.mem_map.mp hq
        obtain ⟨i, _, _, e⟩ := hk p hp'
        exact List.mem_of_getElem? e
      · obtain ⟨i, hi, e⟩ := List.getElem_of_mem hq
        have h1 := met_key kv hi
        rw [ekv] at h1
        obtain ⟨p, hp', e'⟩ := List.mem_map.mp h1
        refine List.mem_map.mpr ⟨p, hp.mem_iff.mpr hp', ?_⟩
        show un p.1 = q
        rw [e', un_pK, List.getD_eq_getElem?_getD, List.getElem?_eq_getElem hi]
        exact e
      · rw [List.getElem?_map] at e
        obtain ⟨p, ep, rfl⟩ := Option.map_eq_some_iff.mp e
        obtain ⟨j, hj, ej, eq⟩ := hk p (List.mem_of_getElem? ep)
        refine ⟨j, eq, ?_⟩
        rw [List.getElem?_map, ep, (had j hj).1, ej, ekv]; rfl
      · cases e : s.heap.get? L with
        | none => rfl
        | some o => rw [show h'.get? L = some o from k0 L o e] at hL; cases hL
end
end Mine.T

end
section
set_option autoImplicit false
set_option linter.unusedVariables false
set_option linter.unusedSimpArgs false
namespace Mine
open PySem PySem.Calls PyProof.Rows

theorem allPairs_map : ∀ {vs : List V} {qs : List (Int × Bool)}, allPairs vs = some qs → vs = qs.map pairV
  | [], qs, h => Option.some.inj h ▸ rfl
  | v :: r, qs, h => bindk h fun i h1 h => pairOf.k h1 (fun v => v :: r = qs.map pairV) (mapk (fun qs => pairV i :: r = qs.map pairV) h fun js e => by rw [List.map_cons, ← allPairs_map e])
section
variable {X : Fix} {C : Ctx} {n : Nat} {sc : Scope} {ns : List Str} {Q Ex : Value → Shared → Prop} {P : Pt X n} {post : PQ} {v : V} {x : Value}
theorem pair_ref {scr : Addr} {p : Ws} {q : Int × Bool} {x : Value} (r : Rep scr p (pairV q) x) : ∃ a, x = .ref a ∧ Rep scr p (pairV q) (.ref a) ∧ T.PP p.h (.ref a) :=
  r.inv (fun x => Rep scr p (pairV q) x → ∃ a, x = .ref a ∧ Rep scr p (pairV q) (.ref a) ∧ T.PP p.h (.ref a)) (fun a n xs h1 rl _ _ r => ⟨a, rfl, r,
    rl.inv (fun xs => p.h.get? a = some (tupObj xs n) → T.PP p.h (.ref a)) (fun y ys r1 rl => r1.inv (fun y => p.h.get? a = some (tupObj (y :: ys) n) → T.PP p.h (.ref a)) fun t => rl.inv (fun ys => p.h.get? a = some (tupObj (_ :: ys) n) → T.PP p.h (.ref a)) fun z zs r2 rl => r2.inv (fun z => p.h.get? a = some (tupObj (_ :: z :: zs) n) → T.PP p.h (.ref a)) (rl.inv (fun zs => p.h.get? a = some (tupObj (_ :: _ :: zs) n) → T.PP p.h (.ref a)) fun h => ⟨a, _, t, _, n, rfl, h⟩)) h1⟩) r
theorem sortS_call (r : Rep X.W.scr P.w v x) (p : WSortS v P.H post) (k : Kn P post Q) : wpAny X.M P.A (call (.type "set") [x]) (fun y s₁ => wpAny X.M P.A (call (.builtin "sorted") [y]) Q Ex s₁) Ex P.s :=
  wSome.k p fun qs e p => bindk e fun vs e1 e2 => lst r e1 (fun x => wpAny X.M P.A (call (.type "set") [x]) (fun y s₁ => wpAny X.M P.A (call (.builtin "sorted") [y]) Q Ex s₁) Ex P.s) fun l a xs m _ _ _ h1 h2 _ => by
    rw [allPairs_map e2] at h2
    have at_ : ∀ {i : Nat} {q : Int × Bool}, qs[i]? = some q → ∃ b, xs[i]? = some (.ref b) ∧ Rep X.W.scr P.w (pairV q) (.ref b) ∧ T.PP P.s.heap (.ref b) := fun {i q} e => h2.get (i := i) (v := pairV q) (by rw [List.getElem?_map, e]; rfl) fun y hy ry => by
      obtain ⟨b, rfl, r1, r2⟩ := pair_ref ry
      exact ⟨b, hy, r1, r2⟩
    refine T.sort_set P.rm.handled (fun B hB => ?_) (isList_of h1) (by rw [← h2.length, List.length_map]) (fun i q e => (at_ e).imp fun b x => ⟨x.1, pair_is (prog := X.prog) (w := X.w) (p := P.w) x.2.1, x.2.2⟩) p.1 fun h' tk L rs out c htk keep nd mem hlen hout hL hg => ?_
    · show B.units < cLine
      have := P.rm.units
      (first | lia | omega)
    · refine Kn.list k keep L hL hg (vs := rs.map pairV) (repL_of (by rw [List.length_map, hlen]) fun j v y e1 e2 => ?_) ?_ (p.2 rs nd mem) tk
      · rw [List.getElem?_map] at e1
        refine mapk (fun v => Rep X.W.scr P.w v y) e1 fun q eq => ?_
        obtain ⟨i, ei, eo⟩ := hout j q eq
        obtain ⟨b, hb, r1, _⟩ := at_ ei
        rw [e2, hb] at eo
        exact Option.some.inj eo ▸ r1
      · rw [List.length_map]
        exact Nat.le_trans (p.1 rs nd fun q hq => (mem q).mp hq) (by decide)
theorem sortS_snd {a : E} {g g' e : Expr} {rpos pos : Pos} (G : X.Gl C) (hg : isGl sc "sorted" g = true) (hg' : isGl sc "set" g' = true) (h : LsS X C n sc ns [a] [e]) : EvS X C n sc ns (.sortS a) (.Call g [.Call g' [e] [] rpos] [] pos) := fun P post Q Ex p k kx =>
  ifName.k (G := fun g => wpAny X.M P.A (eval (.Call g [.Call g' [e] [] rpos] [] pos) P.env) Q Ex P.s) hg fun x np hg => andk hg fun e1 ho => by
    obtain rfl := eq_of_beq e1
    refine wpAny_Call_NameR (glob_bi G P (y := .builtin "sorted") (bi_mem 9 (by decide)) ho (Calls.callWith_builtin rfl (evalArgs_of rfl (wpAny_items_cons ?_ rfl))))
    exact callT (post := fun vs H => w1 vs fun y => WSortS y H post) G hg' (bi_mem 15 (by decide)) ⟨_, rfl⟩ h p (fun vs H1 p1 _ N xs r => w1.k p1 (fun vs => RepL X.W.scr N.w vs xs → _) (fun v p1 r => r.k1 (fun xs => wpAny X.M P.A (call (.type "set") xs) _ Ex N.s) fun x r => wpAny_mono (sortS_call (P := N.pt) r p1 (k.nx N)) (fun _ _ h => wpAny_items_nil h) fun _ _ h => h) r) kx
end
end Mine

end
section
set_option autoImplicit false
set_option linter.unusedVariables false
set_option linter.unusedSimpArgs false
namespace Mine
open PySem PySem.Calls PyProof.Rows

section
variable {X : Fix} {C : Ctx} {n : Nat} {sc : Scope} {ns : List Str} {Q Ex : Value → Shared → Prop} {post : PQ}
/-- an entry put into a table of pairs -/
theorem dsetP_snd {P : Pt X n} {l ep : Nat} {D : Addr} {es : List ((Int × Bool) × V)} {i v : V} {kz y : Value} {k : Hp → Prop} {Q : Unit → Shared → Prop} (G : X.Gl C) (hD : P.φ[l]? = some D) (r3 : Rep X.W.scr P.w i kz) (rv : Rep X.W.scr P.w v y) (hl : P.H[l]? = some (.dicP ep es)) (p : wSome (pairOf i) fun j => wOk (szOk es) (∀ ep, k (P.H.set l (.dicP ep (dput es j v))))) (fin : ∀ H, k H → ∀ N : Nx P H, N.φ[l]? = some D → Q () N.s) : wpAny X.M P.A (dictSet D kz y) Q Ex P.s :=
  wSome.k p fun j ej p => pairOf.k ej (fun i => Rep X.W.scr P.w i kz → _) (fun r3 => wOk.k p fun hz p => r3.inv (fun kz => Rep X.W.scr P.w (pairV j) kz → wpAny X.M P.A (dictSet D kz y) Q Ex P.s) (fun ka _ _ _ _ _ _ r3 => dctP (.ref hD) G (show (P.H[l]?).bind asDicP = some es by rw [hl]; rfl) (fun z => z = .ref D → wpAny X.M P.A (dictSet D _ y) Q Ex P.s) (fun l' ep' ad kvs el _ had hDo q z hle ez => by
    have hz : es.length < 16000000 := of_decide_eq_true hz
    cases el
    cases ez
    refine wpAny_dictSet_heap (knd := pKind X.prog X.w) (k := pK j) (by show P.A.units < cLine; have := P.rm.units; (first | lia | omega)) (pair_is r3) hDo (fun h4 hm4 hs4 => ?_) (by rw [← q.length]; unfold sizeLine; (first | lia | omega))
    exact hm4.elim fun o4 w => w.elim fun en4 w => w.elim fun ep4 w => fin _ (p ep4) (P.set had hs4.extBut (.dicP w.1 w.2.1 w.2.2.1 (by rw [G.1.same.1, G.1.same.2]; exact w.2.2.2.1) w.2.2.2.2.2 ((kp_put q rv r3).imp (KpR.kp (P.cellKp had hs4.extBut))) z (Nat.le_trans (dput_len es j v) hz)) _) had) rfl) r3) r3
/-- {k: v, k': v'}, the keys pairs -/
noncomputable def WDsp2 (C : Ctx) (a b c d : E) (ρ : Env') (H : Hp) (Q : PQ) : Prop := WE C a ρ (H ++ [.dicP 0 []]) fun x H1 => WE C b ρ H1 fun y H2 => WE C c ρ H2 fun x' H3 => WE C d ρ H3 fun y' H4 => H4[H.length]? = some (.dicP 0 []) ∧ wSome (pairOf x) fun k => wSome (pairOf x') fun k' => ∀ ep, Q (.ref H.length) (H4.set H.length (.dicP ep (dput [(k, y)] k' y')))
theorem dsp2_snd {a b c d : E} {k1 v1 k2 v2 : Expr} {pos : Pos} (G : X.Gl C) (h1 : EvS X C n sc ns a k1) (h2 : EvS X C n sc ns b v1) (h3 : EvS X C n sc ns c k2) (h4 : EvS X C n sc ns d v2) (P : Fp X n sc ns) (p : WDsp2 C a b c d P.ρ P.H post) (kn : Kn P.toPt post Q) (kx : Kn P.toPt (C.exc P.ρ) Ex) : wpAny X.M P.A (eval (.Dict [some k1, some k2] [v1, v2] pos) P.env) Q Ex P.s :=
  wpAny_Dict_any rfl rfl (fun e => nomatch e) (show (2 : Nat) ≤ 15 by decide) (pairTrees_cons_walk (ev2 h1 h2 (P.to (P.toPt.newD (cell_p0 G P.toPt))) p (fun u w H q N x y r1 r2 => pairTrees_cons_walk (ev2 h3 h4 ((P.to (P.toPt.newD (cell_p0 G P.toPt))).to N) q (fun u' w' H' q' N' x' y' r1' r2' => pairTrees_nil_walk (by
    have hφ : N'.φ[P.H.length]? = some P.s.heap.objs.size := N'.S.pre _ _ (N.S.pre _ _ P.toPt.newD_at)
    refine wSome.k q'.2 fun k ek q2 => wSome.k q2 fun k' ek' q2 => wpAny_bind (wpAny_bind (dsetP_snd (P := N'.pt) (i := u) (v := w) (k := fun H => ∃ ep, H = H'.set P.H.length (.dicP ep [(k, w)])) G hφ (r1.mono N'.S) (r2.mono N'.S) q'.1 ?_ fun H5 e5 N5 hφ5 => wpAny_pure (wpAny_bind (wpAny_bind ?_))))
    · rw [ek]; exact fun ep => ⟨ep, rfl⟩
    · obtain ⟨ep, rfl⟩ := e5
      refine dsetP_snd (P := N5.pt) (i := u') (v := w') (ep := ep) (es := [(k, w)]) (k := fun H => ∃ ep, H = H'.set P.H.length (.dicP ep (dput [(k, w)] k' w'))) G hφ5 (r1'.mono N5.S) (r2'.mono N5.S) (List.getElem?_set_self (List.getElem?_eq_some_iff.mp q'.1).1) ?_ fun H6 e6 N6 hφ6 => ?_
      · rw [ek']; exact fun ep => ⟨ep, by rw [List.set_set]⟩
      · obtain ⟨ep6, rfl⟩ := e6
        exact wpAny_pure (wpAny_pure (kn _ _ (q2 ep6) ((P.toPt.newD (cell_p0 G P.toPt)).then (N.then (N'.then (N5.then N6)))) _ (.ref hφ6))))) ((kx.nx _).nx _))) (kx.nx _)))
end
end Mine

end
section
set_option autoImplicit false
set_option linter.unusedVariables false
set_option linter.unusedSimpArgs false
namespace Mine
open PySem PySem.Calls PyProof.Rows

section
variable (X : Fix) (n : Nat)
/-- what is shown of an expression, of an iterable, of a list of expressions, of a part of a slice -/
noncomputable def RE (c : E) : Prop := ∀ (C : Ctx) (sc : Scope) (ns : List Str) (e : Expr), X.Gl C → X.CallOk C n → chkE X.K sc ns c e = true → EvT X C n sc ns c e
noncomputable def RIt (c : It) : Prop := ∀ (C : Ctx) (sc : Scope) (ns : List Str) (e : Expr), X.Gl C → X.CallOk C n → chkIt X.K sc ns c e = true → ItS X C n sc ns c e
noncomputable def REs (c : List E) : Prop := ∀ (C : Ctx) (sc : Scope) (ns : List Str) (e : List Expr), X.Gl C → X.CallOk C n → chkEs X.K sc ns c e = true → LsS X C n sc ns c e
noncomputable def RO (c : Option E) : Prop := ∀ (C : Ctx) (sc : Scope) (ns : List Str) (e : Option Expr), X.Gl C → X.CallOk C n → chkO X.K sc ns c e = true → PaS X C n sc ns c e
end
section
variable {X : Fix} {n : Nat} {a b c : E} {es : List E}
theorem s_k {v : V} : RE X n (.k v) := fun C sc ns e G hc h => ifConst.k (G := fun e => EvT X C n sc ns _ e) h fun c k p h => (k_snd (of_decide_eq_true h)).t fun _ => rfl
theorem s_var {i : Nat} : RE X n (.var i) := fun C sc ns e G hc h => ifName.k (G := fun e => EvT X C n sc ns _ e) h fun x p h => (var_snd h).t fun _ => rfl
theorem s_bin {op : BOp} (ra : RE X n a) (rb : RE X n b) : RE X n (.bin op a b) := fun C sc ns e G hc h => ifBin.k (G := fun e => EvT X C n sc ns _ e) h fun l o r p h => andk h fun h1 h => andk h fun h2 h3 => of_decide_eq_true h1 ▸ (bin_snd G (ra C sc ns l G hc h2).1 (rb C sc ns r G hc h3).1).t fun _ => rfl
theorem s_neg (ra : RE X n a) : RE X n (.neg a) := fun C sc ns e G hc h => ifUn.k (G := fun e => EvT X C n sc ns _ e) h fun o y p h => andk h fun h1 h => of_decide_eq_true h1 ▸ (neg_snd (ra C sc ns y G hc h).1).t fun _ => rfl
theorem s_not (ra : RE X n a) : RE X n (.not a) := fun C sc ns e G hc h => ifUn.k (G := fun e => EvT X C n sc ns _ e) h fun o y p h => andk h fun h1 h => of_decide_eq_true h1 ▸ not_snd (ra C sc ns y G hc h)
theorem s_and (r : REs X n es) : RE X n (.and es) := fun C sc ns e G hc h => ifBool.k (G := fun e => EvT X C n sc ns _ e) h fun o xs p h => andk h fun h1 h => of_decide_eq_true h1 ▸ bool_snd (w := true) (r C sc ns xs G hc h) fun _ _ _ p => p
theorem s_or (r : REs X n es) : RE X n (.or es) := fun C sc ns e G hc h => ifBool.k (G := fun e => EvT X C n sc ns _ e) h fun o xs p h => andk h fun h1 h => of_decide_eq_true h1 ▸ bool_snd (w := false) (r C sc ns xs G hc h) fun _ _ _ p => p
theorem s_cmp {op : COp} (ra : RE X n a) (rb : RE X n b) : RE X n (.cmp op a b) := fun C sc ns e G hc h => ifCmp.k (G := fun e => EvT X C n sc ns _ e) h fun l os rs p h => if1.k (G := fun os => EvT X C n sc ns _ (.Compare l os rs p)) h fun o h => if1.k (G := fun rs => EvT X C n sc ns _ (.Compare l [o] rs p)) h fun r h => andk h fun h1 h => andk h fun h2 h3 => of_decide_eq_true h1 ▸ cmpE_snd G h3 (ra C sc ns l G hc h2).1 (rb C sc ns r G hc h3).1
theorem s_isNone {w : Bool} (ra : RE X n a) : RE X n (.isNone w a) := fun C sc ns e G hc h => ifCmp.k (G := fun e => EvT X C n sc ns _ e) h fun l os rs p h => if1.k (G := fun os => EvT X C n sc ns _ (.Compare l os rs p)) h fun o h => andk h fun h1 h => if1.k (G := fun rs => EvT X C n sc ns _ (.Compare l [o] rs p)) h fun r h => ifConst.k (G := fun r => EvT X C n sc ns _ (.Compare l [o] [r] p)) h fun c k kp h => andk h fun h2 h => of_decide_eq_true h1 ▸ of_decide_eq_true h2 ▸ isNone_snd (ra C sc ns l G hc h).1
theorem s_tup (r : REs X n es) : RE X n (.tup es) := fun C sc ns e G hc h => ifTuple.k (G := fun e => EvT X C n sc ns _ e) h fun xs k p h => andk h fun h1 h => (tup_snd (of_decide_eq_true h1) (r C sc ns xs G hc h)).t fun _ => rfl
theorem s_lst (r : REs X n es) : RE X n (.lst es) := fun C sc ns e G hc h => ifList.k (G := fun e => EvT X C n sc ns _ e) h fun xs p h => andk h fun h1 h => (lst_snd (of_decide_eq_true h1) (r C sc ns xs G hc h)).t fun _ => rfl
theorem s_idx (ra : RE X n a) (rb : RE X n b) : RE X n (.idx a b) := fun C sc ns e G hc h => ifSub.k (G := fun e => EvT X C n sc ns _ e) h fun v s p h => andk h fun h1 h2 => (idxE_snd G h2 (ra C sc ns v G hc h1).1 (rb C sc ns s G hc h2).1).t fun _ => rfl
theorem s_slc {lo hi : Option E} (ra : RE X n a) (rl : RO X n lo) (rh : RO X n hi) : RE X n (.slc a lo hi) := fun C sc ns e G hc h => ifSub.k (G := fun e => EvT X C n sc ns _ e) h fun v s p h => ifSlice.k (G := fun s => EvT X C n sc ns _ (.Subscript v s p)) h fun l u t sp h => andk h fun h0 h => andk h fun h1 h => andk h fun h2 h3 => nonek (G := fun t => EvT X C n sc ns _ (.Subscript v (.Slice l u t sp) p)) h0 ((slc_snd G (ra C sc ns v G hc h1).1 (rl C sc ns l G hc h2) (rh C sc ns u G hc h3)).t fun _ => rfl)
theorem s_call {f : Nat} (r : REs X n es) : RE X n (.call f es) := fun C sc ns e G hc h => ifCall.k (G := fun e => EvT X C n sc ns _ e) h fun g xs kws p h => andk h fun h0 h => nilk (G := fun kws => EvT X C n sc ns _ (.Call g xs kws p)) h0 (ifName.k (G := fun g => EvT X C n sc ns _ (.Call g xs [] p)) h fun x np h => andk h fun h1 h => andk h fun h2 h3 => (call_snd G hc (of_decide_eq_true h1) h2 (r C sc ns xs G hc h3)).t fun _ => rfl)
theorem s_dct0 : RE X n .dct0 := fun C sc ns e G hc h => ifDict.k (G := fun e => EvT X C n sc ns _ e) h fun ks vs p h => andk h fun h1 h2 => nilk (G := fun ks => EvT X C n sc ns _ (.Dict ks vs p)) h1 (nilk (G := fun vs => EvT X C n sc ns _ (.Dict [] vs p)) h2 ((dct0_snd G).t fun _ => rfl))
theorem s_dctP : RE X n .dctP := fun C sc ns e G hc h => ifDict.k (G := fun e => EvT X C n sc ns _ e) h fun ks vs p h => andk h fun h1 h2 => nilk (G := fun ks => EvT X C n sc ns _ (.Dict ks vs p)) h1 (nilk (G := fun vs => EvT X C n sc ns _ (.Dict [] vs p)) h2 ((dctP_snd G).t fun _ => rfl))
theorem s_dct1 (ra : RE X n a) (rb : RE X n b) : RE X n (.dct1 a b) := fun C sc ns e G hc h => ifDict.k (G := fun e => EvT X C n sc ns _ e) h fun ks vs p h => if1.k (G := fun ks => EvT X C n sc ns _ (.Dict ks vs p)) h fun k h => ifSome.k (G := fun k => EvT X C n sc ns _ (.Dict [k] vs p)) h fun k h => if1.k (G := fun vs => EvT X C n sc ns _ (.Dict [some k] vs p)) h fun v h => andk h fun h1 h2 => (dct1_snd G (ra C sc ns k G hc h1).1 (rb C sc ns v G hc h2).1).t fun _ => rfl
theorem s_dctP1 (ra : RE X n a) (rb : RE X n b) : RE X n (.dctP1 a b) := fun C sc ns e G hc h => ifDict.k (G := fun e => EvT X C n sc ns _ e) h fun ks vs p h => if1.k (G := fun ks => EvT X C n sc ns _ (.Dict ks vs p)) h fun k h => ifSome.k (G := fun k => EvT X C n sc ns _ (.Dict [k] vs p)) h fun k h => if1.k (G := fun vs => EvT X C n sc ns _ (.Dict [some k] vs p)) h fun v h => andk h fun h1 h2 => (dctP1_snd G (ra C sc ns k G hc h1).1 (rb C sc ns v G hc h2).1).t fun _ => rfl
theorem ls1 {C : Ctx} {sc : Scope} {ns : List Str} {e : Expr} (ra : RE X n a) (G : X.Gl C) (hc : X.CallOk C n) (h : chkE X.K sc ns a e = true) : LsS X C n sc ns [a] [e] := .cons h (ra C sc ns e G hc h) .nil
theorem s_listOf (ra : RE X n a) : RE X n (.listOf a) := fun C sc ns e G hc h => ifCall.k (G := fun e => EvT X C n sc ns _ e) h fun g xs kws p h => andk h fun h0 h => nilk (G := fun kws => EvT X C n sc ns _ (.Call g xs kws p)) h0 (andk h fun h1 h => if1.k (G := fun xs => EvT X C n sc ns _ (.Call g xs [] p)) h fun e h => (listOf_snd G h1 (ls1 ra G hc h)).t fun _ => rfl)
theorem s_listR (ra : RE X n a) : RE X n (.listR a) := fun C sc ns e G hc h => ifCall.k (G := fun e => EvT X C n sc ns _ e) h fun g xs kws p h => andk h fun h0 h => nilk (G := fun kws => EvT X C n sc ns _ (.Call g xs kws p)) h0 (andk h fun h1 h => if1.k (G := fun xs => EvT X C n sc ns _ (.Call g xs [] p)) h fun e h => ifCall.k (G := fun e => EvT X C n sc ns _ (.Call g [e] [] p)) h fun g' xs' kws' p' h => andk h fun h2 h => nilk (G := fun kws => EvT X C n sc ns _ (.Call g [.Call g' xs' kws p'] [] p)) h2 (andk h fun h3 h => if1.k (G := fun xs => EvT X C n sc ns _ (.Call g [.Call g' xs [] p'] [] p)) h fun e h => (listR_snd G h1 h3 (ls1 ra G hc h)).t fun _ => rfl))
theorem s_dctP2 {d : E} (ra : RE X n a) (rb : RE X n b) (rc : RE X n c) (rd : RE X n d) : RE X n (.dctP2 a b c d) := fun C sc ns e G hc h => ifDict.k (G := fun e => EvT X C n sc ns _ e) h fun ks vs p h => if2.k (G := fun ks => EvT X C n sc ns _ (.Dict ks vs p)) h fun k k' h => ifSome.k (G := fun k => EvT X C n sc ns _ (.Dict [k, k'] vs p)) h fun k h => ifSome.k (G := fun k' => EvT X C n sc ns _ (.Dict [some k, k'] vs p)) h fun k' h => if2.k (G := fun vs => EvT X C n sc ns _ (.Dict [some k, some k'] vs p)) h fun v v' h => andk h fun h1 h => andk h fun h2 h => andk h fun h3 h4 => EvS.t (fun P post Q Ex p kn kx => dsp2_snd G (ra C sc ns k G hc h1).1 (rb C sc ns v G hc h2).1 (rc C sc ns k' G hc h3).1 (rd C sc ns v' G hc h4).1 P p kn kx) fun _ => rfl
theorem s_sortS (ra : RE X n a) : RE X n (.sortS a) := fun C sc ns e G hc h => ifCall.k (G := fun e => EvT X C n sc ns _ e) h fun g xs kws p h => andk h fun h0 h => nilk (G := fun kws => EvT X C n sc ns _ (.Call g xs kws p)) h0 (andk h fun h1 h => if1.k (G := fun xs => EvT X C n sc ns _ (.Call g xs [] p)) h fun e h => ifCall.k (G := fun e => EvT X C n sc ns _ (.Call g [e] [] p)) h fun g' xs' kws' p' h => andk h fun h2 h => nilk (G := fun kws => EvT X C n sc ns _ (.Call g [.Call g' xs' kws p'] [] p)) h2 (andk h fun h3 h => if1.k (G := fun xs => EvT X C n sc ns _ (.Call g [.Call g' xs [] p'] [] p)) h fun e h => (sortS_snd G h1 h3 (ls1 ra G hc h)).t fun _ => rfl))
theorem s_meth {m : Me} (ra : RE X n a) (r : REs X n es) : RE X n (.meth m a es) := fun C sc ns e G hc h => ifCall.k (G := fun e => EvT X C n sc ns _ e) h fun g xs kws p h => andk h fun h0 h => nilk (G := fun kws => EvT X C n sc ns _ (.Call g xs kws p)) h0 (ifAttr.k (G := fun g => EvT X C n sc ns _ (.Call g xs [] p)) h fun o y ap h => andk h fun h1 h => andk h fun h2 h => andk h fun h3 h => andk h fun h4 h => andk h fun h5 h6 => by
  obtain rfl := eq_of_beq h1
  have key : ∀ {T id : String}, MeOk X n m T id → EvT X C n sc ns (.meth m a es) (.Call (.Attribute o (meName m).1 ap) xs [] p) := fun M => (meth_snd M h2 h3 (of_decide_eq_true h4) (ra C sc ns o G hc h5).1 (r C sc ns xs G hc h6)).t fun _ => rfl
  cases m with
  | append => exact key append_ok
  | get2 => exact key (get2_ok G)
  | clear => exact key clear_ok)
end
end Mine

end
section
set_option autoImplicit false
set_option linter.unusedVariables false
set_option linter.unusedSimpArgs false
namespace Mine
open PySem PySem.Calls PyProof.Rows

section
variable {X : Fix} {n : Nat} {a b c : E} {es : List E}
theorem len_Es {K : CK} {sc : Scope} {ns : List Str} : ∀ {es : List E} {xs : List Expr}, chkEs K sc ns es xs = true → es.length = xs.length
  | [], xs, h => nilk (G := fun xs => 0 = xs.length) h rfl
  | _ :: es, xs, h => ifCons.k (G := fun xs => es.length + 1 = xs.length) h fun x xs h => andk h fun _ h => congrArg (· + 1) (len_Es h)
theorem one_of {K : CK} {sc : Scope} {ns : List Str} {x : Expr} (h : chkEs K sc ns es [x] = true) (G : List E → Prop) (k : ∀ a, chkE K sc ns a x = true → G [a]) : G es := by
  cases es with
  | nil => cases h
  | cons a r =>
    refine andk (show (chkE K sc ns a x && chkEs K sc ns r []) = true from h) fun h1 h2 => ?_
    cases r with
    | nil => exact k a h1
    | cons _ _ => cases h2
theorem s_bi {bi : Bi} (r : REs X n es) : RE X n (.bi bi es) := fun C sc ns e G hc h => ifCall.k (G := fun e => EvT X C n sc ns (.bi bi es) e) h fun g xs kws p h => by
  have plain : (kws.isEmpty && ifSome (biName bi) fun q => isGl sc q.1 g && (decide (xs.length = q.2) && chkEs X.K sc ns es xs)) = true → EvT X C n sc ns (.bi bi es) (.Call g xs kws p) := fun h => andk h fun h0 h => nilk (G := fun kws => EvT X C n sc ns (.bi bi es) (.Call g xs kws p)) h0 (by
    cases hb : biName bi with
    | none => rw [hb] at h; cases h
    | some q =>
      rw [hb] at h
      exact andk (show (isGl sc q.1 g && (decide (xs.length = q.2) && chkEs X.K sc ns es xs)) = true from h) fun h1 h => andk h fun h2 h3 => (bi_snd G hb h1 (r C sc ns xs G hc h3)).t fun _ => rfl)
  cases bi with
  | isi t =>
    refine andk (show (kws.isEmpty && (isGl sc "isinstance" g && if2 xs fun e nm => isGl sc (Str.ofString (tyName t)) nm && chkEs X.K sc ns es [e])) = true from h) fun h0 h => nilk (G := fun kws => EvT X C n sc ns (.bi (.isi t) es) (.Call g xs kws p)) h0 (andk h fun h1 h => if2.k (G := fun xs => EvT X C n sc ns (.bi (.isi t) es) (.Call g xs [] p)) h fun e nm h => andk h fun h2 h3 => ?_)
    have rs := r C sc ns [e] G hc h3
    exact one_of h3 (fun es => LsS X C n sc ns es [e] → EvT X C n sc ns (.bi (.isi t) es) (.Call g [e, nm] [] p)) (fun a h4 rs => (isiE_snd G h1 h2 h4 (rs.get 0 a e rfl rfl).1).t fun _ => rfl) rs
  | _ => exact plain h
theorem s_compOk {C : Ctx} {sc : Scope} {ns : List Str} {elt : E} {t : Tgt} {it : It} {cs' : Scope} {e tg iter : Expr} {ifs : List Expr} (re : RE X n elt) (ri : RIt X n it) (r : REs X n es) (G : X.Gl C) (hc : X.CallOk C n)
    (h : (scIn sc ns (tNames t tg) cs' && (chkIt X.K sc ns it iter && (tgOk it tg && (chkT cs' (tNames t tg ++ ns) t tg && (chkE X.K cs' (tNames t tg ++ ns) elt e && chkEs X.K cs' (tNames t tg ++ ns) es ifs))))) = true) : CompOk X C n sc ns cs' (tNames t tg) elt t it es e tg iter ifs :=
  andk h fun h1 h => andk h fun h2 h => andk h fun h3 h => andk h fun h4 h => andk h fun h5 h6 => ⟨scIn.sc h1, rfl, h4, h3, ri C sc ns iter G hc h2, (re C.no _ _ e G hc h5).1, r C.no _ _ ifs G hc h6⟩
theorem s_comp {nl : Nat} {elt : E} {t : Tgt} {it : It} (re : RE X n elt) (ri : RIt X n it) (r : REs X n es) : RE X n (.comp nl elt t it es) := fun C sc ns e G hc h => ifComp.k (G := fun e => EvT X C n sc ns (.comp nl elt t it es) e) h fun e gs cs' p h => if1.k (G := fun gs => EvT X C n sc ns (.comp nl elt t it es) (.ListComp e gs cs' p)) h fun g h => ifGen.k (G := fun g => EvT X C n sc ns (.comp nl elt t it es) (.ListComp e [g] cs' p)) h fun tg iter ifs h => andk h fun h1 h => of_decide_eq_true h1 ▸ (comp_snd (s_compOk re ri r G hc h)).t fun _ => rfl
theorem s_sortK {i : Nat} (hn : 0 < n) (ra : RE X n a) : RE X n (.sortK a i) := fun C sc ns e G hc h => ifCall.k (G := fun e => EvT X C n sc ns (.sortK a i) e) h fun g xs kws p h => andk h fun h1 h => andk h fun h2 h => if1.k (G := fun xs => EvT X C n sc ns (.sortK a i) (.Call g xs kws p)) h fun e h => if1.k (G := fun kws => EvT X C n sc ns (.sortK a i) (.Call g [e] kws p)) h fun kw h => ifKw.k (G := fun kw => EvT X C n sc ns (.sortK a i) (.Call g [e] [kw] p)) h fun y v kp h => andk h fun h3 h => andk h fun h4 h5 => by
  obtain rfl := eq_of_beq h3
  exact (sortK_snd G hn h1 h2 h4 (ra C sc ns e G hc h4).1 h5).t fun _ => rfl
theorem i_of (ra : RE X n a) : RIt X n (.of a) := fun C sc ns e G hc h => of_its G h (ra C sc ns e G hc h).1
theorem ls2 {C : Ctx} {sc : Scope} {ns : List Str} {e f : Expr} (ra : RE X n a) (rb : RE X n b) (G : X.Gl C) (hc : X.CallOk C n) (h : chkE X.K sc ns a e = true) (h' : chkE X.K sc ns b f = true) : LsS X C n sc ns [a, b] [e, f] := .cons h (ra C sc ns e G hc h) (ls1 rb G hc h')
theorem i_range (ra : RE X n a) (rb : RE X n b) : RIt X n (.range a b) := fun C sc ns e G hc h => ifCall.k (G := fun e => ItS X C n sc ns (.range a b) e) h fun g xs kws p h => andk h fun h0 h => nilk (G := fun kws => ItS X C n sc ns (.range a b) (.Call g xs kws p)) h0 (andk h fun h1 h => (Bool.or_eq_true_iff.mp h).elim
  (fun h => if1.k (G := fun xs => ItS X C n sc ns (.range a b) (.Call g xs [] p)) h fun e h => andk h fun h2 h3 => isZeroE.k (G := fun a => ItS X C n sc ns (.range a b) (.Call g [e] [] p)) h2 (range1_its G h1 (ls1 rb G hc h3)))
  fun h => if2.k (G := fun xs => ItS X C n sc ns (.range a b) (.Call g xs [] p)) h fun e f h => andk h fun h2 h3 => range2_its G h1 (ls2 ra rb G hc h2 h3))
theorem i_enum (ra : RE X n a) : RIt X n (.enum a) := fun C sc ns e G hc h => ifCall.k (G := fun e => ItS X C n sc ns (.enum a) e) h fun g xs kws p h => andk h fun h0 h => nilk (G := fun kws => ItS X C n sc ns (.enum a) (.Call g xs kws p)) h0 (andk h fun h1 h => if1.k (G := fun xs => ItS X C n sc ns (.enum a) (.Call g xs [] p)) h fun e h => enum_its G h1 (ls1 ra G hc h))
theorem i_zip (ra : RE X n a) (rb : RE X n b) : RIt X n (.zip a b) := fun C sc ns e G hc h => ifCall.k (G := fun e => ItS X C n sc ns (.zip a b) e) h fun g xs kws p h => andk h fun h0 h => nilk (G := fun kws => ItS X C n sc ns (.zip a b) (.Call g xs kws p)) h0 (andk h fun h1 h => if2.k (G := fun xs => ItS X C n sc ns (.zip a b) (.Call g xs [] p)) h fun e f h => andk h fun h2 h3 => zip_its G h1 (ls2 ra rb G hc h2 h3))
theorem l_nil : REs X n [] := fun C sc ns e G hc h => nilk (G := fun e => LsS X C n sc ns [] e) h .nil
theorem l_cons (ra : RE X n a) (r : REs X n es) : REs X n (a :: es) := fun C sc ns e G hc h => ifCons.k (G := fun e => LsS X C n sc ns (a :: es) e) h fun x xs h => andk h fun h1 h2 => .cons h1 (ra C sc ns x G hc h1) (r C sc ns xs G hc h2)
theorem o_none : RO X n none := fun C sc ns e G hc h => nonek (G := fun e => PaS X C n sc ns none e) h pa_none
theorem o_some (ra : RE X n a) : RO X n (some a) := fun C sc ns e G hc h => ifSome.k (G := fun e => PaS X C n sc ns (some a) e) h fun x h => pa_some (ra C sc ns x G hc h).1
theorem sndE (hn : 0 < n) (c : E) : RE X n c :=
  E.rec (motive_1 := RE X n) (motive_2 := RIt X n) (motive_3 := REs X n) (motive_4 := RO X n) (fun _ => s_k) (fun _ => s_var) (fun _ _ _ ra rb => s_bin ra rb) (fun _ ra => s_neg ra) (fun _ ra => s_not ra) (fun _ r => s_and r) (fun _ r => s_or r) (fun _ _ _ ra rb => s_cmp ra rb) (fun _ _ ra => s_isNone ra) (fun _ r => s_tup r) (fun _ r => s_lst r) (fun _ _ ra rb => s_idx ra rb)
    (fun _ _ _ ra rl rh => s_slc ra rl rh) (fun _ _ r => s_call r) (fun _ _ r => s_bi r) (fun _ _ _ ra r => s_meth ra r) (fun _ _ _ _ _ re ri r => s_comp re ri r) (fun _ ra => s_listOf ra) (fun _ ra => s_listR ra) s_dct0 s_dctP (fun _ _ ra rb => s_dct1 ra rb) (fun _ _ ra rb => s_dctP1 ra rb) (fun _ _ ra => s_sortK hn ra) (fun _ _ _ _ ra rb rc rd => s_dctP2 ra rb rc rd) (fun _ ra => s_sortS ra) (fun _ ra => i_of ra) (fun _ _ ra rb => i_range ra rb) (fun _ ra => i_enum ra) (fun _ _ ra rb => i_zip ra rb) l_nil (fun _ _ ra r => l_cons ra r) o_none (fun _ ra => o_some ra) c
end
end Mine

end
section
set_option autoImplicit false
set_option linter.unusedVariables false
set_option linter.unusedSimpArgs false
namespace Mine
open PySem PySem.Calls PyProof.Rows

section
variable (X : Fix) (n : Nat)
noncomputable def RS (c : S) : Prop := ∀ (C : Ctx) (sc : Scope) (ns : List Str) (e : Stmt), X.Gl C → X.CallOk C n → chkS X.K sc ns c e = true → SS X C n sc ns c e
noncomputable def RSs (c : List S) : Prop := ∀ (C : Ctx) (sc : Scope) (ns : List Str) (e : List Stmt), X.Gl C → X.CallOk C n → chkSs X.K sc ns c e = true → SsS X C n sc ns c e
end
section
variable {X : Fix} {n : Nat} {e a i : E} {es : List E} {b b' : List S}
theorem sndIt (hn : 0 < n) (c : It) : RIt X n c :=
  It.casesOn (motive_2 := RIt X n) c (fun a => i_of (sndE hn a)) (fun a b => i_range (sndE hn a) (sndE hn b)) (fun a => i_enum (sndE hn a)) (fun a b => i_zip (sndE hn a) (sndE hn b))
theorem sndEs (hn : 0 < n) : ∀ es : List E, REs X n es
  | [] => l_nil
  | a :: es => l_cons (sndE hn a) (sndEs hn es)
theorem t_expr (hn : 0 < n) : RS X n (.expr e) := fun C sc ns st G hc h => isExprS.k (G := fun st => SS X C n sc ns (.expr e) st) h fun x p h => andk h fun h1 h2 => expr_snd h1 (sndE hn e C sc ns x G hc h2).1
theorem t_setIdx (hn : 0 < n) : RS X n (.setIdx a i e) := fun C sc ns st G hc h => isAssign.k (G := fun st => SS X C n sc ns (.setIdx a i e) st) h fun ts x p h => if1.k (G := fun ts => SS X C n sc ns (.setIdx a i e) (.Assign ts x p)) h fun tg h => ifSub.k (G := fun tg => SS X C n sc ns (.setIdx a i e) (.Assign [tg] x p)) h fun o j sp h => andk h fun h1 h => andk h fun h2 h => andk h fun h3 h4 => setIdx_snd G h1 (sndE hn a C sc ns o G hc h2).1 (sndE hn i C sc ns j G hc h3).1 (sndE hn e C sc ns x G hc h4).1
theorem t_ret (hn : 0 < n) : RS X n (.ret e) := fun C sc ns st G hc h => isReturn.k (G := fun st => SS X C n sc ns (.ret e) st) h fun x p h => ifSome.k (G := fun x => SS X C n sc ns (.ret e) (.Return x p)) h fun x h => ret_snd (sndE hn e C sc ns x G hc h).1
theorem t_ife (hn : 0 < n) (ra : RSs X n b) (rb : RSs X n b') : RS X n (.ife e b b') := fun C sc ns st G hc h => isIf.k (G := fun st => SS X C n sc ns (.ife e b b') st) h fun t x y p h => andk h fun h1 h => andk h fun h2 h3 => if_snd (sndE hn e C sc ns t G hc h1).2 (ra C sc ns x G hc h2) (rb C sc ns y G hc h3)
theorem t_for {t : Tgt} {it : It} (hn : 0 < n) (rb : RSs X n b) : RS X n (.for t it b) := fun C sc ns st G hc h => isFor.k (G := fun st => SS X C n sc ns (.for t it b) st) h fun tg iter bs o p h => andk h fun h0 h => nilk (G := fun o => SS X C n sc ns (.for t it b) (.For tg iter bs o p)) h0 (andk h fun h1 h => andk h fun h2 h => andk h fun h3 h4 => for_snd h1 h2 (sndIt hn it C sc ns iter G hc h3) (rb C.no sc ns bs G hc h4))
theorem t_while (hn : 0 < n) (rb : RSs X n b) : RS X n (.while e b) := fun C sc ns st G hc h => isWhile.k (G := fun st => SS X C n sc ns (.while e b) st) h fun t bs o p h => andk h fun h0 h => nilk (G := fun o => SS X C n sc ns (.while e b) (.While t bs o p)) h0 (andk h fun h1 h2 => while_snd (sndE hn e C.no sc ns t G hc h1).2 (rb C.no sc ns bs G hc h2))
theorem t_asgComp {u : Tgt} {nl : Nat} {elt : E} {t : Tgt} {it : It} (hn : 0 < n) {C : Ctx} {sc : Scope} {ns : List Str} {tg x : Expr} {p : Pos} (G : X.Gl C) (hc : X.CallOk C n) (h1 : chkT sc ns u tg = true) (h2 : chkE X.K sc ns (.comp nl elt t it es) x = true) (h3 : isNameE tg = true) : SS X C n sc ns (.asg u (.comp nl elt t it es)) (.Assign [tg] x p) :=
  Expr.Name.elim (motive_1 := fun tg => chkT sc ns u tg = true → SS X C n sc ns (.asg u (.comp nl elt t it es)) (.Assign [tg] x p)) tg (of_decide_eq_true h3) (fun y py h1 => ifComp.k (G := fun x => SS X C n sc ns (.asg u (.comp nl elt t it es)) (.Assign [.Name y py] x p)) h2 fun e gs cs' cp h => if1.k (G := fun gs => SS X C n sc ns (.asg u (.comp nl elt t it es)) (.Assign [.Name y py] (.ListComp e gs cs' cp) p)) h fun g h => ifGen.k (G := fun g => SS X C n sc ns (.asg u (.comp nl elt t it es)) (.Assign [.Name y py] (.ListComp e [g] cs' cp) p)) h fun tg iter ifs h => andk h fun h4 h => of_decide_eq_true h4 ▸ asgComp_snd (s_compOk (sndE hn elt) (sndIt hn it) (sndEs hn es) G hc h) h1) h1
theorem t_asg {t : Tgt} (hn : 0 < n) : RS X n (.asg t e) := fun C sc ns st G hc h => isAssign.k (G := fun st => SS X C n sc ns (.asg t e) st) h fun ts x p h => if1.k (G := fun ts => SS X C n sc ns (.asg t e) (.Assign ts x p)) h fun tg h => andk h fun h1 h => andk h fun h2 h => andk h fun h3 h4 => (Bool.or_eq_true_iff.mp h3).elim (fun h3 => andk h3 fun h5 h6 => E.comp.elim (motive_1 := fun e => chkE X.K sc ns e x = true → SS X C n sc ns (.asg t e) (.Assign [tg] x p)) e (of_decide_eq_true h6) (fun nl elt t' it cs h2 => t_asgComp hn G hc h1 h2 h5) h2) fun h3 => asgS_snd h3 h1 h4 (sndE hn e C sc ns x G hc h2).1
theorem q_nil : RSs X n [] := fun C sc ns e G hc h => nilk (G := fun e => SsS X C n sc ns [] e) h ss_nil
theorem q_cons {c : S} (r : RS X n c) (rs : RSs X n b) : RSs X n (c :: b) := fun C sc ns e G hc h => ifCons.k (G := fun e => SsS X C n sc ns (c :: b) e) h fun x xs h => andk h fun h1 h2 => ss_cons (r C sc ns x G hc h1) (rs C sc ns xs G hc h2)
theorem sndSs (hn : 0 < n) (b : List S) : RSs X n b :=
  S.rec_1 (motive_1 := RS X n) (motive_2 := RSs X n) (fun _ => t_expr hn) (fun _ _ => t_asg hn) (fun _ _ _ => t_setIdx hn) (fun _ => t_ret hn) (fun _ _ _ ra rb => t_ife hn ra rb) (fun _ _ _ rb => t_for hn rb) (fun _ _ rb => t_while hn rb) q_nil (fun _ _ r rs => q_cons r rs) b
end
end Mine

end
section
set_option autoImplicit false
set_option linter.unusedVariables false
set_option linter.unusedSimpArgs false
namespace Mine
open PySem PySem.Calls PyProof.Rows

theorem cellsFrom_some {x : Str} : ∀ {names : List (Str × NameKind)} {k : Nat} {acc : List (Str × Addr)}, names.lookup x = some .cell ∨ (∃ c, acc.lookup x = some c) → ∃ c, (cellsFrom k names acc).lookup x = some c
  | [], _, _, h => h.elim (fun e => nomatch e) id
  | (y, kd) :: r, k, acc, h => by
    rw [List.lookup_cons] at h
    by_cases hk : (kd == NameKind.cell) = true
    · rw [show cellsFrom k ((y, kd) :: r) acc = cellsFrom (k + 1) r ((y, k) :: acc) from if_pos hk]
      refine cellsFrom_some ?_
      rw [List.lookup_cons]
      cases hy : x == y with
      | true => exact .inr ⟨_, rfl⟩
      | false => rw [hy] at h; exact h
    · rw [show cellsFrom k ((y, kd) :: r) acc = cellsFrom k r acc from if_neg hk]
      refine cellsFrom_some (h.elim (fun h => ?_) .inr)
      cases hy : x == y with
      | true => rw [hy] at h; exact absurd (by rw [Option.some.inj h]; rfl) hk
      | false => rw [hy] at h; exact .inl h
theorem lookup_none {α : Type} {x : Str} {l : List (Str × α)} (h : x ∉ l.map (·.1)) : l.lookup x = none := by
  cases e : l.lookup x with
  | none => rfl
  | some v => exact absurd (List.mem_map.mpr ⟨_, mem_lookup e, rfl⟩) h
theorem bindL_lk {kf : Str → Option NameKind} {x : Str} (hk : kf x = some .local) : ∀ {bs : List (Str × Value)} {m : Str → Option Value}, (bs.map (·.1)).Nodup → PySem.bindL kf bs m x = (bs.lookup x).or (m x)
  | [], m, _ => rfl
  | (y, v) :: r, m, hn => by
    have hn := List.nodup_cons.mp hn
    show PySem.bindL kf r (if kf y = some .local then fun z => if z = y then some v else m z else m) x = _
    rw [bindL_lk hk hn.2, List.lookup_cons]
    by_cases e : x = y
    · rw [e] at hk ⊢
      rw [lookup_none hn.1, if_pos hk, if_pos rfl, beq_self_eq_true]; rfl
    · rw [beq_eq_false_iff_ne.mpr e]
      split
      · exact congrArg _ (if_neg e)
      · rfl
theorem bindC_lk {kf : Str → Option NameKind} {x : Str} (hk : kf x = some .cell) : ∀ {bs : List (Str × Value)} {m : Str → Option Value}, (bs.map (·.1)).Nodup → PySem.bindC kf bs m x = (bs.lookup x).or (m x)
  | [], m, _ => rfl
  | (y, v) :: r, m, hn => by
    have hn := List.nodup_cons.mp hn
    show PySem.bindC kf r (if kf y = some .local then m else fun z => if z = y then some v else m z) x = _
    rw [bindC_lk hk hn.2, List.lookup_cons]
    by_cases e : x = y
    · rw [e] at hk ⊢
      rw [lookup_none hn.1, if_neg (by rw [hk]; exact fun h => nomatch h), if_pos rfl, beq_self_eq_true]; rfl
    · rw [beq_eq_false_iff_ne.mpr e]
      split
      · rfl
      · exact congrArg _ (if_neg e)
/-- the arguments stand in the slots of the parameters -/
theorem arg_rep {scr : Addr} {p : Ws} {x : Str} : ∀ {ps : List Str} {vs : List V} {xs : List Value}, ps.length = vs.length → RepL scr p vs xs → OptRep scr p (lk ps (vs.map some) x) ((ps.zip xs).lookup x)
  | [], vs, xs, hl, r => by
    cases vs with
    | nil => exact .none
    | cons _ _ => cases hl
  | q :: ps, vs, xs, hl, r => by
    cases vs with
    | nil => cases hl
    | cons v vs =>
      refine r.inv (fun xs => OptRep scr p (lk (q :: ps) ((v :: vs).map some) x) (((q :: ps).zip xs).lookup x)) fun y ys r1 r2 => ?_
      show OptRep scr p (lk (q :: ps) ((v :: vs).map some) x) (List.lookup x ((q, y) :: ps.zip ys))
      rw [List.lookup_cons]
      unfold lk
      by_cases e : x = q
      · rw [e, List.idxOf_cons_self, beq_self_eq_true]; exact .some r1
      · rw [beq_eq_false_iff_ne.mpr e, List.idxOf_cons, beq_eq_false_iff_ne.mpr (Ne.symm e)]
        exact arg_rep (Nat.succ.inj hl) r2
theorem args_rep {scr : Addr} {p : Ws} {ns : List Str} {np nl : Nat} {vs : List V} {xs : List Value} (hlen : ns.length = np + nl) (hv : vs.length = np) (r : RepL scr p vs xs) (x : Str) : OptRep scr p (lk ns (vs.map some ++ List.replicate nl none) x) (((ns.take np).zip xs).lookup x) := by
  have hl : (ns.take np).length = vs.length := by rw [List.length_take, hv, hlen]; exact Nat.min_eq_left (Nat.le_add_right _ _)
  have e := List.take_append_drop np ns
  have h0 : ∀ y, lk ns (vs.map some ++ List.replicate nl none) y = lk (ns.take np ++ ns.drop np) (vs.map some ++ List.replicate nl none) y := fun y => by rw [e]
  rw [h0]
  by_cases hx : x ∈ ns.take np
  · rw [lk_in (by rw [List.length_map, hl]) hx]; exact arg_rep hl r
  · rw [lk_out (by rw [List.length_map, hl]) hx, show nl = (ns.drop np).length by rw [List.length_drop, hlen, Nat.add_sub_cancel_left], lk_none, lookup_none fun hm => hx ?_]
    · exact .none
    · rw [List.map_fst_zip (by rw [hl, r.length]; exact Nat.le_refl _)] at hm; exact hm
/-- room at a caller that may have no frame -/
structure RoomC (A : Around) (n : Nat) : Prop where
  depth : A.depth + n + 110 ≤ recursionLimit
  units : A.units + 5 * n + 200 ≤ cLine
  handled : A.handled = none
  frames : ∃ l, A.frames = some l
theorem Room.toC {A : Around} {n : Nat} (rm : Room A n) : RoomC A n := ⟨rm.depth, rm.units, rm.handled, rm.frames.elim fun fe h => h.elim fun l h => ⟨_, h.1⟩⟩
theorem RoomC.deeper {A : Around} {n : Nat} {env : Env} (rm : RoomC A (n + 1)) (h1 : env.scope.isGenerator = false) (h2 : env.scope.isCoroutine = false) (h3 : env.builtins = builtinsNs) (h4 : env.globals = mainGlobals) : Room (A.deeper env) n := by
  obtain ⟨l, e⟩ := rm.frames
  refine ⟨?_, ?_, rm.handled, env, l, ?_, h1, h2, h3, h4⟩
  · have := rm.depth; show A.depth + 1 + n + 110 ≤ _; (first | lia | omega)
  · have := rm.units; show A.units + 3 + 5 * n + 200 ≤ _; (first | lia | omega)
  · show A.frames.map (env :: ·) = _; rw [e]; rfl
theorem RoomC.frs {A : Around} {n : Nat} (rm : RoomC A n) (env : Env) : frs (A.deeper env) = env :: frs A := by
  obtain ⟨l, e⟩ := rm.frames
  show (A.frames.map (env :: ·)).getD [] = env :: A.frames.getD []
  rw [e]; rfl
end Mine

end
section
set_option autoImplicit false
set_option linter.unusedVariables false
set_option linter.unusedSimpArgs false
namespace Mine
open PySem PySem.Calls PyProof.Rows

section
variable {X : Fix} {φ : List Addr} {H : Hp} {s : Shared}
/-- what is done behind a call -/
noncomputable def KnC (X : Fix) (φ : List Addr) (s : Shared) (post : PQ) (Q : Value → Shared → Prop) : Prop := ∀ v H', post v H' → ∀ φ' h' tk x, SR X.W ⟨φ', h'⟩ H' → Stp Nope ⟨φ, s.heap⟩ ⟨φ', h'⟩ → Rep X.W.scr ⟨φ', h'⟩ v x → Q x (upd s h' tk)
/-- what a def's names are -/
structure FnOk (K : CK) (d : Def) (ns : List Str) (f : Fn) : Prop where
  par : plainParams d.params (ns.take f.np) = true
  len : ns.length = f.np + f.nl
  nd : ns.Nodup
  kind : d.scope.kind = .function
  gen : d.scope.isGenerator = false ∧ d.scope.isCoroutine = false
  own : ∀ x, x ∈ ns → d.scope.names.lookup x = some .local ∨ d.scope.names.lookup x = some .cell
  body : chkSs K d.scope ns f.body d.body = true
  lam : (d.scope.names.lookup mk).isSome = true → d.name = K.lfn
theorem isOwnK.k {k : Option NameKind} (h : isOwnK k = true) : k = some .local ∨ k = some .cell := by
  cases k with
  | none => cases h
  | some k => cases k <;> first | exact .inl rfl | exact .inr rfl | cases h
theorem fn_ok {K : CK} {d : Def} {ns : List Str} {f : Fn} (h : chkFn K d ns f = true) : FnOk K d ns f :=
  andk h fun _ h => andk h fun h2 h => andk h fun h3 h => andk h fun h4 h => andk h fun h5 h => andk h fun h6 h => andk h fun h7 h => andk h fun _ h => andk h fun _ h => andk h fun h10 h => andk h fun h11 h12 =>
    ⟨h2, of_decide_eq_true h3, of_decide_eq_true h4, of_decide_eq_true h5, ⟨notk h6, notk h7⟩, fun x hx => isOwnK.k (List.all_eq_true.mp h10 x hx), h11, fun hm => (Bool.or_eq_true_iff.mp h12).elim (fun h => by rw [hm] at h; cases h) eq_of_beq⟩
/-- the frame of a call -/
theorem fn_frame {d : Def} {ns : List Str} {f : Fn} {env : Env} {vs : List V} {xs : List Value} {s₁ : Shared} (o : FnOk X.K d ns f) (R : SR X.W ⟨φ, s.heap⟩ H) (r : RepL X.W.scr ⟨φ, s.heap⟩ vs xs) (hv : vs.length = f.np) (eL : env.locals = s.heap.objs.size) (eS : env.scope = d.scope) (eG : env.globals = mainGlobals) (eB : env.builtins = builtinsNs) (eC : ∀ x, d.scope.names.lookup x = some .cell → ∃ c, env.cells.lookup x = some c) (ec : (env.kindOf mk).isSome = true → env.code = .ref X.W.lc ∧ env.qual ++ "<lambda>" = X.W.lq)
    (hin : InCallC s env.locals (PySem.bindL env.kindOf ((ns.take f.np).zip xs) fun _ => none) env.cells (PySem.bindC env.kindOf ((ns.take f.np).zip xs) fun _ => none) s₁) : FR X.W env ns (vs.map some ++ List.replicate f.nl none) ⟨φ, s₁.heap⟩ := by
  have keep : Ext s.heap s₁.heap := hin.toInCall.keep
  have S0 : Stp Nope ⟨φ, s.heap⟩ ⟨φ, s₁.heap⟩ := Stp.ext (q := ⟨φ, s.heap⟩) .refl keep
  have eK : ∀ x, env.kindOf x = d.scope.names.lookup x := fun x => by unfold Env.kindOf; rw [eS]
  have hnz : (((ns.take f.np).zip xs).map (·.1)).Nodup := by
    rw [List.map_fst_zip (by rw [List.length_take, ← r.length, hv]; exact Nat.min_le_left _ _)]
    exact o.nd.sublist (List.take_sublist _ _)
  have rep := args_rep o.len hv (r.mono S0)
  have ap : ∀ c, s.heap.objs.size ≤ c → Ap X.W ⟨φ, s₁.heap⟩ c := fun c hc => SR.new (p := ⟨φ, s.heap⟩) R (none_size _ hc)
  have abv : ∀ {x c}, env.cells.lookup x = some c → s.heap.objs.size ≤ c := fun h => Nat.le_of_lt (eL ▸ hin.above _ _ (mem_lookup h))
  refine ⟨⟨by rw [eS]; exact o.kind, eG, eB, ⟨by rw [eS]; exact o.gen.1, by rw [eS]; exact o.gen.2, by unfold interactive; rw [eS, o.kind]; rfl⟩, ec, fun x y c h1 h2 => name_of_addr hin.apart (mem_lookup h1) (mem_lookup h2), fun q hq e => absurd (hin.above q.1 q.2 hq) (by rw [e]; exact Nat.lt_irrefl _)⟩, by rw [List.length_append, List.length_map, List.length_replicate, hv, o.len], ⟨_, hin.toInCall.ns, fun x hx hk => ?_⟩, fun x hx hk => ?_, fun a ha => ha.elim (fun e => ap a (by rw [e, eL]; exact Nat.le_refl _)) fun w => w.elim fun x hx => ap a (abv hx), fun a ha => ha.elim (fun e => e ▸ hin.toInCall.ns.imp fun o w => w.elim fun _ w => w.elim fun _ w => w.1) fun w => w.elim fun x hx => (hin.cell x a hx).imp fun o w => w.1⟩
  · rw [bindL_lk hk hnz, Option.or_none]; exact rep x
  · have hk' : env.kindOf x = some .cell := (o.own x hx).elim (fun h => by rw [eK, h] at hk; cases hk) fun h => (eK x).trans h
    exact (eC x ((eK x).symm.trans hk')).elim fun c hc => ⟨c, _, hc, hin.cell x c hc, by rw [bindC_lk hk' hnz, Option.or_none]; exact rep x⟩
/-- a def of the text, called -/
theorem fn_snd {C' : Ctx} {n : Nat} {f : Fn} {d : Def} {ns : List Str} {A : Around} {a : Addr} {o : Obj} {pm cd doc : Value} {vs : List V} {xs : List Value} {post : PQ} {Q Ex : Value → Shared → Prop} (G : X.Gl C') (hc : X.CallOk C' n) (hn : 0 < n) (rm : RoomC A (n + 1)) (R : SR X.W ⟨φ, s.heap⟩ H) (fr : Frs X.W A ⟨φ, s.heap⟩)
    (ok : FnOk X.K d ns f) (ho : X.W.h₀.get? a = some o) (hd : o.data = .func (docDef d.name d.params d.body d.scope pm cd doc)) (hcd : X.W.h₀.CodeRec cd d.name) (hlc : d.name = X.K.lfn → cd = .ref X.W.lc) (r : RepL X.W.scr ⟨φ, s.heap⟩ vs xs) (hv : vs.length = f.np)
    (p : WSs C' f.body (vs.map some ++ List.replicate f.nl none) H (retK post)) (hx : ∀ ρ v H, C'.exc ρ v H → False) (kq : KnC X φ s post Q) : wpAny X.M A (call (.ref a) xs) Q Ex s := by
  obtain ⟨ar, hp, har⟩ : ∃ ar, d.params = plainArgs ar ∧ ar.map (·.arg) = ns.take f.np := plain_is ok.par (fun q => ∃ ar, q = plainArgs ar ∧ ar.map (·.arg) = ns.take f.np) fun ar e => ⟨ar, rfl, e⟩
  have hb := bindArgs_eq (fd := docDef d.name d.params d.body d.scope pm cd doc) (ar := ar) (xs := xs) rfl hp (by rw [har]; exact ok.nd.sublist (List.take_sublist _ _)) (by rw [har, List.length_take, ← r.length, hv, ok.len]; exact Nat.min_eq_left (Nat.le_add_right _ _))
  rw [har] at hb
  refine wpAny_call (codeAny_call_cells (by have := rm.depth; (first | lia | omega)) (R.keep _ _ ho) hd (G.1.nolimit.keeps R.keep) (hcd.keeps R.keep) rfl hb rfl (fun x hx => (ok.own _ (List.mem_of_mem_take (List.of_mem_zip hx).1)).imp id fun h => ⟨h, (cellsFrom_some (.inl h)).elim fun c e => by rw [e]; rfl⟩) (fun s₁ hin => ?_) ok.gen.2 ok.gen.1 ok.kind)
  have hkd : Kinds d.scope (callEnvC (docDef d.name d.params d.body d.scope pm cd doc) s.heap.objs.size a) := fun x => .inl rfl
  have hF := fn_frame (env := callEnvC (docDef d.name d.params d.body d.scope pm cd doc) s.heap.objs.size a) ok R r hv rfl rfl rfl rfl (fun x h => cellsFrom_some (.inl h)) (fun hm => ⟨hlc (ok.lam hm), by rw [← G.1.lam.2.2, ← ok.lam hm]; rfl⟩) hin
  have abv : ∀ b, InF (callEnvC (docDef d.name d.params d.body d.scope pm cd doc) s.heap.objs.size a) b → s.heap.get? b = none := fun b hb => none_size _ (hb.elim (fun e => Nat.le_of_eq e.symm) fun w => w.elim fun x h => Nat.le_of_lt (hin.above _ _ (mem_lookup h)))
  have hown : OwnF (callEnvC (docDef d.name d.params d.body d.scope pm cd doc) s.heap.objs.size a) (InF (callEnvC (docDef d.name d.params d.body d.scope pm cd doc) s.heap.objs.size a)) ns := ⟨fun x hx => (ok.own x hx).imp (fun h => ⟨h, .inl rfl⟩) fun h => ⟨h, fun c hc => .inr ⟨x, hc⟩⟩, fun _ h => h⟩
  have rm' := rm.deeper (env := callEnvC (docDef d.name d.params d.body d.scope pm cd doc) s.heap.objs.size a) ok.gen.1 ok.gen.2 rfl rfl
  have hfr := rm.frs (callEnvC (docDef d.name d.params d.body d.scope pm cd doc) s.heap.objs.size a)
  have keep : Ext s.heap s₁.heap := hin.toInCall.keep
  have hns : ∃ m, s₁.heap.Ns s.heap.objs.size m := ⟨_, hin.toInCall.ns⟩
  obtain ⟨h₁, tk₁, hs₁⟩ := hin.toInCall.same
  have hL : (callEnvC (docDef d.name d.params d.body d.scope pm cd doc) s.heap.objs.size a).frame = some s.heap.objs.size := rfl
  clear hb hin
  generalize callEnvC (docDef d.name d.params d.body d.scope pm cd doc) s.heap.objs.size a = env at *
  subst hs₁
  have S0 : Stp Nope ⟨φ, s.heap⟩ ⟨φ, h₁⟩ := Stp.ext (q := ⟨φ, s.heap⟩) .refl keep
  have fr1 := (fr.stp S0).deeper hfr hF.fc.fn hL hns (SR.new (p := ⟨φ, s.heap⟩) R (none_size _ (Nat.le_refl _)))
  refine wpAny_mono (sndSs hn f.body C' d.scope ns d.body G hc ok.body ⟨⟨A.deeper env, φ, H, upd s h₁ tk₁, rm', SR.ext (p := ⟨φ, s.heap⟩) R keep, fr1⟩, env, _, hkd, hF, ⟨env, by rw [hfr]; rfl, rfl⟩⟩ (InF env) (retK post) (fun fl s' => Q (match fl with | .ret v => v | _ => .none) s') (fun e s' => wpAny X.M (A.deeper env) (leaving env e) (fun _ s'' => Ex e s'') (fun e' s'' => Ex e' s'') s') hown p
    ⟨fun ρ H p N => kq _ _ p N.φ N.h N.tk _ N.R (S0.late N.S abv) .none, fun v H p φ' h' tk R' S' x r' => kq _ _ p φ' h' tk x R' (S0.late S' abv) r'⟩ fun ρ v H' pe N x r' => (hx ρ v H' pe).elim) (fun fl s' q => by cases fl <;> exact q) (fun e s' q => q)
end
theorem Room.less {A : Around} {n m : Nat} (rm : Room A n) (h : m ≤ n) : Room A m := ⟨by have := rm.depth; (first | lia | omega), by have := rm.units; (first | lia | omega), rm.handled, rm.frames⟩
theorem Kn.less {X : Fix} {n m : Nat} {P : Pt X n} {post : PQ} {Q : Value → Shared → Prop} (k : Kn P post Q) (rm : Room P.A m) : Kn (X := X) (n := m) ⟨P.A, P.φ, P.H, P.s, rm, P.R, P.fr⟩ post Q := fun v H p N x r => k v H p ⟨N.φ, N.h, N.tk, N.R, N.S⟩ x r
theorem CallOk.more {X : Fix} {C : Ctx} {n m : Nat} (hc : X.CallOk C n) (h : n ≤ m) : X.CallOk C m := fun P f x a vs xs post post' Q Ex h1 h2 r p k kx => hc ⟨P.A, P.φ, P.H, P.s, P.rm.less h, P.R, P.fr⟩ f x a vs xs post post' Q Ex h1 h2 r p (k.less _) (kx.less _)
theorem chkAll_get {K : CK} {ds : List Def} {nss : List (List Str)} {fs : List Fn} {i : Nat} {f : Fn} {d : Def} (h : chkAll K ds nss fs = true) (hf : fs[i]? = some f) (hd : ds[i]? = some d) (hn : f.np ≠ 999) : ∃ ns, FnOk K d ns f := by
  have hi := (List.getElem?_eq_some_iff.mp hf).1
  have h := List.all_eq_true.mp h i (List.mem_range.mpr hi)
  rw [hf, hd] at h
  refine ifSome.k (G := fun _ => ∃ ns, FnOk K d ns f) (l := nss[i]?) h fun ns h => ⟨ns, fn_ok ((Bool.or_eq_true_iff.mp h).resolve_left fun h => hn (of_decide_eq_true h))⟩
/-- calls, whatever room is left -/
theorem callOk {X : Fix} {Pr : Prg} {nss : List (List Str)} (hck : chkAll X.K X.defs nss Pr.fns = true) (G : ∀ n e, X.Gl ⟨Pr.scr, Pr.gks, callX Pr n, e⟩) : ∀ n e, X.CallOk ⟨Pr.scr, Pr.gks, callX Pr n, e⟩ (2 * n)
  | 0, e => fun P f x a vs xs post post' Q Ex h1 h2 r p => p.elim
  | n + 1, e => fun P f x a vs xs post post' Q Ex h1 h2 r p k kx => ((G n e).1.fn f x h1).casesOn fun a' o d pm cd doc e1 e2 e3 e4 e5 e6 e7 => by
    rw [h2] at e3; cases e3
    refine wSome.k p fun fn hf p => (chkAll_get hck hf e1 p.1.2).elim fun ns ok => ?_
    exact fn_snd (n := 2 * n + 1) (G n _) (CallOk.more (callOk hck G n _) (Nat.le_succ _)) (Nat.succ_pos _) P.rm.toC P.R P.fr ok e4 e5 e6 (fun h => e7 (e2.symm.trans h)) r p.1.1 p.2 (fun _ _ _ h => h) (fun v H p φ h tk x R S r => k v H p ⟨φ, h, tk, R, S⟩ x r)
end Mine

end
section
set_option autoImplicit false
set_option linter.unusedVariables false
set_option linter.unusedSimpArgs false
namespace Mine
open PySem PySem.Calls PyProof.Rows PySem.W

noncomputable def defQ (d : DefRec) : Def := ⟨d.name, d.params, d.body, d.scope⟩
noncomputable def defsQ (q : Program) : List Def := (recsOf q).map defQ

/-- the names of the built-ins are the built-ins' own -/
noncomputable def biFree (q : Program) (loose : List Str) : Bool := biTable.all fun p => !startupNames.contains p.1 && !loose.contains p.1 && !((recsOf q).map (·.name)).contains p.1 && !((litsOf q).map (·.1)).contains p.1 && !((clssOf q loose).map (·.name)).contains p.1 &&
  !(p.1 == ("__name__" : Str)) && decide (bootBuiltins p.1 = some p.2)

/-- what is not the table stays when the table is hidden -/
theorem hid_get {h : Heap} {P b : Addr} {o : Obj} (hP : h.get? P = some (tabObj #[])) (e : h.get? b = some o) (hn : o ≠ tabObj #[]) : (h.hide P).get? b = some o := by
  rw [Heap.hide_ne h fun q => hn ?_]
  · exact e
  · rw [q, hP] at e; exact (Option.some.inj e).symm
theorem hid_ns {h : Heap} {P a : Addr} {m : Str → Option Value} (hP : h.get? P = some (tabObj #[])) (x : h.Ns a m) : (h.hide P).Ns a m :=
  let ⟨o, es, ep, e, hd, r⟩ := x; ⟨o, es, ep, hid_get hP e (fun q => by rw [q] at hd; cases hd), hd, r⟩
theorem hid_code {h : Heap} {P : Addr} {cd : Value} {q : Str} (hP : h.get? P = some (tabObj #[])) (x : h.CodeRec cd q) : (h.hide P).CodeRec cd q := by
  obtain ⟨c, o, vs, t, e1, e2, e3, e4⟩ := x
  refine ⟨c, o, vs, t, e1, hid_get hP e2 (fun q => ?_), e3, e4⟩
  rw [q] at e3; cases e3; cases e4

/-- a whole law, by the interpreter's answer -/
theorem law_of {q prog : Program} {loose : List Str} {mean : ExcName → Option Value} {mg mb : Str → Option Value} {w : World} {s₁ : Shared} {K : CK} {fns : List Fn} {nss : List (List Str)} {gks : List V} {scr : Addr} {vs : List Value} {ns : List Int} {fa : Addr} {N lawIdx : Nat} {Q Ex : Value → Shared → Prop}
    (T : Top q loose mean mg mb s₁.heap) (hK : K.fns = (defsQ q).map (·.name)) (hck : chkAll K (defsQ q) nss fns = true) (hbi : biFree q loose = true) (himp : importsNone q = true) (htree : prog.given.tree = none)
    (hlfn : ((recsOf q).map (·.name)).contains K.lfn = true)
    (hL : s₁.heap.IsList scr vs.toArray) (hI : IntsAre vs ns) (hlen : ns.length ≤ 63) (hN : N ≤ 280) (hlaw : K.fns[lawIdx]? = some (Str.ofString "law")) (hfa : mg "law" = some (.ref fa))
    (hrun : callX ⟨ns, gks, fns⟩ N lawIdx [.script] [.tab] (fun v H => v = .bool true ∧ H[0]? = some .tab) fun _ _ => False)
    (hQ : ∀ c P ps h' tk, s₁.heap.TableAt c P #[] → (∀ b o, b ≠ P → s₁.heap.get? b = some o → h'.get? b = some o) → h'.get? P = some (tabObj ps) → Q (.bool true) { s₁ with heap := h', toks := tk }) : wpAny (model prog w) callerA (call (.ref fa) [.ref scr]) Q Ex s₁ := by
  obtain ⟨lr, hlr, hlrn⟩ := List.mem_map.mp (List.contains_iff_mem.mp hlfn)
  obtain ⟨la, lo, lfd, lc, lP, t1, t2, t3, t4, t5, t6⟩ := T.tab lr hlr
  have hP : s₁.heap.get? lP = some (tabObj #[]) := t6.2
  have up : ∀ {b : Addr} {o : Obj}, (s₁.heap.hide lP).get? b = some o → s₁.heap.get? b = some o := fun e => Heap.of_hide e
  let W : Wo := ⟨s₁.heap.hide lP, scr, prog, w, lc, lP, K.ln, K.lm, (K.lfn ++ ".<locals>.") ++ "<lambda>", []⟩
  let X : Fix := ⟨prog, w, W, K, defsQ q, ns, mg, mb⟩
  have hbi' := List.all_eq_true.mp hbi
  have G : ∀ n e, X.Gl ⟨ns, gks, callX ⟨ns, gks, fns⟩ n, e⟩ := by
    intro n e0
    refine ⟨⟨hid_ns hP T.g, hid_ns hP T.b, fun p hp => ?_, fun f x hx => ?_, ?_, ?_, htree, ⟨vs, ?_, repInts hI⟩, by show ns.length ≤ 1000; (first | lia | omega), ?_, ⟨rfl, rfl⟩, ⟨rfl, rfl, rfl⟩, ?_, ?_, ?_⟩, rfl⟩
    · have h := hbi' p hp
      simp only [Bool.and_eq_true, Bool.not_eq_true', decide_eq_true_eq] at h
      obtain ⟨⟨⟨⟨⟨⟨h1, h2⟩, h3⟩, h4⟩, h5⟩, h6⟩, h7⟩ := h
      have nc : ∀ {l : List Str} {x : Str}, l.contains x = false → x ∉ l := fun h hm => by rw [List.contains_iff_mem.mpr hm] at h; cases h
      exact ⟨T.free p.1 (nc h1) (nc h2) (nc h3) (nc h4) (nc h5), (T.builtins p.1 (fun e => by rw [e] at h6; simp at h6)).trans h7⟩
    · have hx' : ((defsQ q).map (·.name))[f]? = some x := by rw [← hK]; exact hx
      rw [List.getElem?_map] at hx'
      obtain ⟨d, hd, rfl⟩ := Option.map_eq_some_iff.mp hx'
      have hd' := hd
      unfold defsQ at hd'
      rw [List.getElem?_map] at hd'
      obtain ⟨r, hr, rfl⟩ := Option.map_eq_some_iff.mp hd'
      obtain ⟨a, o, pm, cd, doc, h1, h2, h3, h4⟩ := T.fn r (List.mem_of_getElem? hr)
      refine ⟨a, o, defQ r, pm, cd, doc, hd, rfl, h1, hid_get hP h2 (fun q => by rw [q] at h3; cases h3), h3, hid_code hP h4, fun he => ?_⟩
      have he' : r.name = lr.name := Eq.trans he hlrn.symm
      rw [he', t1] at h1; cases h1
      rw [t2] at h2; cases h2
      rw [t3] at h3; cases h3
      exact t4
    · obtain ⟨mc, h1, h2⟩ := T.nolimit; exact ⟨mc, hid_ns hP h1, h2⟩
    · have Z := T.seer himp
      refine ⟨?_, ?_, ?_, ?_⟩
      · obtain ⟨mc, a, b⟩ := Z.statics; exact ⟨mc, hid_ns hP a, b⟩
      · obtain ⟨mc, a, b⟩ := Z.mods; exact ⟨mc, hid_ns hP a, b⟩
      · obtain ⟨mc, a, b⟩ := Z.imp; exact ⟨mc, hid_ns hP a, b⟩
      · obtain ⟨mg', bm, ob, a, b, c, d, e⟩ := Z.main
        exact ⟨mg', bm, ob, hid_ns hP a, b, hid_get hP c (fun q => by rw [q] at d; cases d), d, e⟩
    · obtain ⟨o, e, hc, r⟩ := hL
      exact ⟨o, hid_get hP e (fun q => by rw [q] at hc; cases hc), hc, r⟩
    · obtain ⟨mc, h1, _⟩ := T.nodigits
      obtain ⟨o, _, _, ho, _⟩ := hid_ns hP h1
      exact ⟨o, ho⟩
    · intro h ps hk hps htr
      obtain ⟨o', vs', file, tf, flags, tg, inF, text, tt, op, f1, f2, f3, f4, f5, f6, f7, _, _, _, f11⟩ := t5
      obtain ⟨⟨o, vs2, g1, g2, g3, g4⟩, _⟩ := t6
      have hc' : h.get? lc = some o := hk _ _ (hid_get hP g1 fun q => by rw [q] at g2; cases g2)
      rw [g1] at f1; cases f1
      rw [g3] at f2; cases f2
      exact ⟨⟨_, _, file, tf, flags, tg, inF, text, tt, _, hc', g3, f3, f4, f5, f6, f7, hps, rfl, htr, f11⟩, ⟨_, _, hc', g2, g3, g4⟩, hps⟩
    · obtain ⟨bm, ob, b1, b2, b3, b4, b5, b6⟩ := T.bmain
      refine ⟨bm, ob, b1, b2, fun e => ?_, hid_get hP b3 (fun q => by rw [q] at b4; cases b4), b4, b5, b6⟩
      have e : bm = lP := e
      rw [e, hP] at b3; cases b3; cases b4
    · intro e
      have e : mainGlobals = lP := e
      obtain ⟨o, es, ep, h1, h2, _⟩ := T.g
      rw [e, hP] at h1; cases h1; cases h2
  have R0 : SR W ⟨[lP], s₁.heap⟩ [.tab] := by
    refine ⟨fun _ _ e => up e, fun a ha => ?_, by simp, rfl, fun l c e => ?_⟩
    · rw [List.mem_singleton.mp ha]; exact Heap.hide_self _ _
    · cases l with
      | zero => cases e; exact ⟨lP, rfl, .tab0 rfl hP⟩
      | succ l => cases e
  cases N with
  | zero => cases hrun
  | succ n =>
    refine ((G n fun _ _ _ => False).1.fn lawIdx "law" hlaw).casesOn fun a' o d pm cd doc e1 e2 e3 e4 e5 e6 e7 => ?_
    change mg _ = _ at e3
    rw [hfa] at e3; cases e3
    refine wSome.k hrun fun fn hf hr => (chkAll_get hck hf e1 hr.1.2).elim fun nn ok => ?_
    have rm : RoomC callerA (2 * n + 1 + 1) := ⟨by show 1 + 300 + (2 * n + 1 + 1) + 110 ≤ 1000; (first | lia | omega), by show 4 + 5 * (2 * n + 1 + 1) + 200 ≤ 9900; (first | lia | omega), rfl, _, rfl⟩
    refine fn_snd (X := X) (n := 2 * n + 1) (G n _) (CallOk.more (callOk (X := X) (Pr := ⟨ns, gks, fns⟩) hck G n _) (Nat.le_succ _)) (Nat.succ_pos _) rm R0 (fun e he => nomatch he) ok e4 e5 e6 (fun h => e7 (e2.symm.trans h)) (.cons .script .nil) hr.1.1 hr.2 (fun _ _ _ h => h) (fun v H p φ' h' tk x R1 S1 r1 => ?_)
    obtain ⟨rfl, h0⟩ := p
    have keep : ∀ b o, b ≠ lP → s₁.heap.get? b = some o → h'.get? b = some o := fun b o hb e => R1.keep b o ((Heap.hide_ne _ hb).trans e)
    exact r1.inv (fun x => Q x (upd s₁ h' tk)) (R1.at h0 fun a ha hcell => hcell.inv _ ⟨fun ea e => hQ lc lP _ h' tk t6 keep (by rw [ea] at e; exact e), fun c ea e _ _ => hQ lc lP _ h' tk t6 keep (by rw [ea] at e; exact e)⟩)
end Mine

end
section
set_option autoImplicit false
set_option linter.unusedVariables false
set_option linter.unusedSimpArgs false
set_option maxRecDepth 100000
namespace Mine.P
open PySem
abbrev i_lives : Nat := 0
abbrev i_parents_on : Nat := 1
abbrev i_children_on : Nat := 2
abbrev i_steps_from : Nat := 3
abbrev i_further : Nat := 4
abbrev i_nearest : Nat := 5
abbrev i_law_cell_at : Nat := 6
abbrev i_law_whole : Nat := 7
abbrev i_law_stream : Nat := 8
abbrev i_law_some : Nat := 9
abbrev i_law_people : Nat := 10
abbrev i_law_adopting : Nat := 11
abbrev i_law_lives : Nat := 12
abbrev i_law_parents : Nat := 13
abbrev i_law_children : Nat := 14
abbrev i_law_lined : Nat := 15
abbrev i_law_ahead : Nat := 16
abbrev i_law_back : Nat := 17
abbrev i_law_way : Nat := 18
abbrev i_law_due : Nat := 19
abbrev i_law_same : Nat := 20
abbrev i_law_tangled : Nat := 21
abbrev i_law_simple : Nat := 22
abbrev i_law : Nat := 23
noncomputable def pn_lives : List Str := ["people", "person", "day", "born", "parents", "adopted", "died"]
noncomputable def pb_lives : List S :=
  [.asg (.tup [(.var 3), (.var 4), (.var 5), (.var 6)]) (.idx (.var 0) (.var 1)),
   .ret (.and [(.cmp .le (.var 3) (.var 2)), (.or [(.isNone true (.var 6)), (.cmp .lt (.var 2) (.var 6))])])]
noncomputable def pn_parents_on : List Str := ["people", "person", "day", "born", "parents", "adopted", "died"]
noncomputable def pb_parents_on : List S :=
  [.asg (.tup [(.var 3), (.var 4), (.var 5), (.var 6)]) (.idx (.var 0) (.var 1)),
   .ife (.and [(.isNone false (.var 5)), (.cmp .le (.idx (.var 5) (.k (.int 0))) (.var 2))])
    [.ret (.idx (.var 5) (.k (.int 1)))]
    [],
   .ret (.var 4)]
noncomputable def pn_children_on : List Str := ["people", "person", "day", "found", "child"]
noncomputable def pb_children_on : List S :=
  [.asg (.var 3) (.lst []),
   .for (.var 4) (.range (.k (.int 0)) (.bi .len [(.var 0)]))
    [.ife (.and [(.cmp .le (.idx (.idx (.var 0) (.var 4)) (.k (.int 0))) (.var 2)), (.cmp .isIn (.var 1) (.call i_parents_on [(.var 0), (.var 4), (.var 2)]))])
      [.expr (.meth .append (.var 3) [(.var 4)])]
      []],
   .ret (.var 3)]
noncomputable def pn_steps_from : List Str := ["people", "state", "day", "person", "down", "found"]
noncomputable def pb_steps_from : List S :=
  [.asg (.tup [(.var 3), (.var 4)]) (.var 1),
   .asg (.var 5) (.comp 1 (.tup [(.var 0), (.k (.bool true))]) (.var 0) (.of (.call i_children_on [(.var 0), (.var 3), (.var 2)])) []),
   .ife (.not (.var 4))
    [.asg (.var 5) (.bin .add (.var 5) (.comp 1 (.tup [(.var 0), (.k (.bool false))]) (.var 0) (.of (.call i_parents_on [(.var 0), (.var 3), (.var 2)])) []))]
    [],
   .ret (.var 5)]
noncomputable def pn_further : List Str := ["people", "known", "ways", "day", "found", "state", "other", "way"]
noncomputable def pb_further : List S :=
  [.asg (.var 4) .dctP,
   .for (.var 5) (.of (.var 2))
    [.for (.var 6) (.of (.call i_steps_from [(.var 0), (.var 5), (.var 3)]))
      [.asg (.var 7) (.bin .add (.idx (.var 2) (.var 5)) (.lst [(.idx (.var 6) (.k (.int 0)))])),
       .ife (.and [(.cmp .notIn (.var 6) (.var 1)), (.or [(.cmp .notIn (.var 6) (.var 4)), (.cmp .lt (.var 7) (.idx (.var 4) (.var 6)))])])
        [.setIdx (.var 4) (.var 6) (.var 7)]
        []]],
   .ret (.var 4)]
noncomputable def pn_nearest : List Str := ["people", "person", "day", "ways", "known", "heirs", "state", "heir"]
noncomputable def pb_nearest : List S :=
  [.asg (.var 3) (.dctP1 (.tup [(.var 1), (.k (.bool false))]) (.lst [(.var 1)])),
   .asg (.var 4) .dctP,
   .asg (.var 5) .dct0,
   .while (.and [(.cmp .eq (.var 5) .dct0), (.cmp .ne (.var 3) .dct0)])
    [.for (.var 6) (.of (.var 3))
      [.setIdx (.var 4) (.var 6) (.k (.bool true))],
     .asg (.var 3) (.call i_further [(.var 0), (.var 4), (.var 3), (.var 2)]),
     .for (.var 6) (.of (.var 3))
      [.asg (.var 7) (.idx (.var 6) (.k (.int 0))),
       .ife (.and [(.cmp .ne (.var 7) (.var 1)), (.call i_lives [(.var 0), (.var 7), (.var 2)]), (.or [(.cmp .notIn (.var 7) (.var 5)), (.cmp .lt (.idx (.var 3) (.var 6)) (.idx (.var 5) (.var 7)))])])
        [.setIdx (.var 5) (.var 7) (.idx (.var 3) (.var 6))]
        []]],
   .ret (.comp 1 (.tup [(.var 0), (.idx (.var 6) (.var 0))]) (.var 0) (.of (.bi .sortI [(.listOf (.var 5))])) [])]
noncomputable def pn_law_cell_at : List Str := ["_law_script", "_law_k"]
noncomputable def pb_law_cell_at : List S :=
  [.ife (.cmp .lt (.var 1) (.bi .len [(.var 0)]))
    [.ret (.idx (.var 0) (.var 1))]
    [],
   .ret (.k (.int 0))]
noncomputable def pn_law_whole : List Str := ["_law_found"]
noncomputable def pb_law_whole : List S :=
  [.ret (.and [(.bi (.isi .int) [(.var 0)]), (.not (.bi (.isi .bool) [(.var 0)]))])]
noncomputable def pn_law_stream : List Str := ["_law_cell", "_law_many", "_law_found", "_law_number", "_law_k"]
noncomputable def pb_law_stream : List S :=
  [.asg (.var 2) (.lst []),
   .asg (.var 3) (.bin .mod (.var 0) (.k (.int 2147483647))),
   .for (.var 4) (.range (.k (.int 0)) (.var 1))
    [.asg (.var 3) (.bin .mod (.bin .add (.bin .add (.bin .mul (.var 3) (.k (.int 48271))) (.k (.int 11))) (.var 4)) (.k (.int 2147483647))),
     .expr (.meth .append (.var 2) [(.var 3)])],
   .ret (.var 2)]
noncomputable def pn_law_some : List Str := ["_law_elders", "_law_y", "_law_fewest", "_law_one", "_law_other"]
noncomputable def pb_law_some : List S :=
  [.ife (.or [(.cmp .eq (.var 0) (.lst [])), (.and [(.cmp .eq (.var 2) (.k (.int 0))), (.cmp .eq (.bin .mod (.bin .fdiv (.var 1) (.k (.int 7))) (.k (.int 5))) (.k (.int 0)))])])
    [.ret (.tup [])]
    [],
   .asg (.var 3) (.idx (.var 0) (.bin .mod (.var 1) (.bi .len [(.var 0)]))),
   .asg (.var 4) (.idx (.var 0) (.bin .mod (.bin .fdiv (.var 1) (.k (.int 60))) (.bi .len [(.var 0)]))),
   .ife (.or [(.cmp .eq (.var 3) (.var 4)), (.cmp .eq (.bin .mod (.bin .fdiv (.var 1) (.k (.int 3))) (.k (.int 4))) (.k (.int 0)))])
    [.ret (.tup [(.var 3)])]
    [],
   .ret (.tup [(.var 3), (.var 4)])]
noncomputable def pn_law_people : List Str := ["_law_cell", "_law_many", "_law_people_here", "_law_scale", "_law_house", "_law_k", "_law_x", "_law_born", "_law_elders", "_law_parents_here", "_law_died"]
noncomputable def pb_law_people : List S :=
  [.asg (.var 2) (.lst []),
   .asg (.var 3) (.idx (.lst [(.k (.int 1)), (.k (.int 1)), (.k (.int 1)), (.k (.int 600))]) (.bin .mod (.var 0) (.k (.int 4)))),
   .asg (.var 4) (.lst [(.tup []), (.tup []), (.tup [(.k (.int 1)), (.k (.int 0))]), (.tup [(.k (.int 1)), (.k (.int 0))]), (.tup [(.k (.int 2))]), (.tup [(.k (.int 3))]), (.tup []), (.tup [(.k (.int 5))]), (.tup [(.k (.int 3))]), (.tup [(.k (.int 1))]), (.tup []), (.tup [(.k (.int 2))])]),
   .for (.tup [(.var 5), (.var 6)]) (.enum (.call i_law_stream [(.bin .fdiv (.var 0) (.k (.int 4))), (.var 1)]))
    [.asg (.var 7) (.bin .mul (.bin .add (.bin .mul (.k (.int 5)) (.bin .fdiv (.var 5) (.k (.int 3)))) (.bin .mod (.var 6) (.k (.int 11)))) (.var 3)),
     .asg (.var 8) (.comp 1 (.var 0) (.var 0) (.range (.k (.int 0)) (.var 5)) [(.cmp .lt (.idx (.idx (.var 3) (.var 0)) (.k (.int 0))) (.var 8))]),
     .asg (.var 9) (.call i_law_some [(.slc (.var 8) (some (.neg (.k (.int 7)))) none), (.bin .fdiv (.var 6) (.k (.int 11))), (.k (.int 0))]),
     .ife (.and [(.cmp .gt (.var 5) (.k (.int 0))), (.cmp .eq (.bin .mod (.bin .fdiv (.var 6) (.k (.int 13))) (.k (.int 3))) (.k (.int 0))), (.cmp .eq (.comp 1 (.var 0) (.var 0) (.of (.idx (.idx (.var 2) (.bin .sub (.var 5) (.k (.int 1)))) (.k (.int 1)))) [(.cmp .notIn (.var 0) (.var 9))]) (.lst []))])
      [.asg (.var 9) (.idx (.idx (.var 2) (.bin .sub (.var 5) (.k (.int 1)))) (.k (.int 1)))]
      [],
     .ife (.and [(.cmp .eq (.bin .mod (.bin .fdiv (.var 0) (.k (.int 4))) (.k (.int 3))) (.k (.int 0))), (.cmp .lt (.var 5) (.k (.int 12)))])
      [.asg (.var 7) (.bin .mul (.bin .add (.bin .mul (.k (.int 12)) (.bin .fdiv (.var 5) (.k (.int 2)))) (.bin .mod (.var 6) (.k (.int 11)))) (.var 3)),
       .asg (.var 9) (.idx (.var 4) (.var 5))]
      [],
     .asg (.var 10) (.k .none),
     .ife (.cmp .gt (.bin .mod (.bin .fdiv (.var 6) (.k (.int 500))) (.idx (.lst [(.k (.int 4)), (.k (.int 9))]) (.bin .mod (.bin .fdiv (.var 0) (.k (.int 12))) (.k (.int 2))))) (.k (.int 0)))
      [.asg (.var 10) (.bin .add (.var 7) (.bin .mul (.bin .mod (.bin .fdiv (.var 6) (.k (.int 1500))) (.k (.int 40))) (.var 3)))]
      [],
     .expr (.meth .append (.var 2) [(.tup [(.var 7), (.var 9), (.k .none), (.var 10)])])],
   .ret (.var 2)]
noncomputable def pn_law_adopting : List Str := ["_law_people_here", "_law_cell", "_law_found", "_law_k", "_law_x", "_law_born", "_law_parents_here", "_law_adopted", "_law_died", "_law_elders", "_law_day"]
noncomputable def pb_law_adopting : List S :=
  [.asg (.var 2) (.listOf (.var 0)),
   .for (.tup [(.var 3), (.var 4)]) (.enum (.call i_law_stream [(.var 1), (.bi .len [(.var 0)])]))
    [.asg (.tup [(.var 5), (.var 6), (.var 7), (.var 8)]) (.idx (.var 0) (.var 3)),
     .asg (.var 9) (.comp 1 (.var 0) (.var 0) (.range (.k (.int 0)) (.bi .len [(.var 0)])) [(.cmp .lt (.idx (.idx (.var 1) (.var 0)) (.k (.int 0))) (.var 6))]),
     .asg (.var 10) (.bin .add (.var 5) (.bin .mod (.var 4) (.k (.int 30)))),
     .ife (.and [(.cmp .eq (.bin .mod (.bin .fdiv (.var 4) (.k (.int 30))) (.k (.int 4))) (.k (.int 0))), (.cmp .ne (.var 9) (.lst [])), (.or [(.isNone true (.var 8)), (.cmp .lt (.var 10) (.var 8))])])
      [.setIdx (.var 2) (.var 3) (.tup [(.var 5), (.var 6), (.tup [(.var 10), (.call i_law_some [(.var 9), (.bin .fdiv (.var 4) (.k (.int 120))), (.k (.int 1))])]), (.var 8)])]
      []],
   .ret (.var 2)]
noncomputable def pn_law_lives : List Str := ["_law_people_here", "_law_person", "_law_day"]
noncomputable def pb_law_lives : List S :=
  [.ife (.cmp .lt (.var 2) (.idx (.idx (.var 0) (.var 1)) (.k (.int 0))))
    [.ret (.k (.bool false))]
    [],
   .ret (.or [(.isNone true (.idx (.idx (.var 0) (.var 1)) (.k (.int 3)))), (.cmp .gt (.idx (.idx (.var 0) (.var 1)) (.k (.int 3))) (.var 2))])]
noncomputable def pn_law_parents : List Str := ["_law_people_here", "_law_person", "_law_day"]
noncomputable def pb_law_parents : List S :=
  [.ife (.and [(.isNone false (.idx (.idx (.var 0) (.var 1)) (.k (.int 2)))), (.cmp .le (.idx (.idx (.idx (.var 0) (.var 1)) (.k (.int 2))) (.k (.int 0))) (.var 2))])
    [.ret (.idx (.idx (.idx (.var 0) (.var 1)) (.k (.int 2))) (.k (.int 1)))]
    [],
   .ret (.idx (.idx (.var 0) (.var 1)) (.k (.int 1)))]
noncomputable def pn_law_children : List Str := ["_law_people_here", "_law_person", "_law_day", "_law_found", "_law_one"]
noncomputable def pb_law_children : List S :=
  [.asg (.var 3) (.lst []),
   .for (.var 4) (.range (.k (.int 0)) (.bi .len [(.var 0)]))
    [.ife (.and [(.cmp .le (.idx (.idx (.var 0) (.var 4)) (.k (.int 0))) (.var 2)), (.cmp .isIn (.var 1) (.call i_law_parents [(.var 0), (.var 4), (.var 2)]))])
      [.expr (.meth .append (.var 3) [(.var 4)])]
      []],
   .ret (.var 3)]
noncomputable def pn_law_ahead : List Str := ["_law_people_here", "_law_day", "_law_found", "_law_one", "_law_below"]
noncomputable def pb_law_ahead : List S :=
  [.asg (.var 2) .dctP,
   .for (.var 3) (.range (.k (.int 0)) (.bi .len [(.var 0)]))
    [.asg (.var 4) (.comp 1 (.tup [(.var 0), (.k (.bool true))]) (.var 0) (.of (.call i_law_children [(.var 0), (.var 3), (.var 1)])) []),
     .setIdx (.var 2) (.tup [(.var 3), (.k (.bool true))]) (.var 4),
     .setIdx (.var 2) (.tup [(.var 3), (.k (.bool false))]) (.bin .add (.var 4) (.comp 1 (.tup [(.var 0), (.k (.bool false))]) (.var 0) (.of (.call i_law_parents [(.var 0), (.var 3), (.var 1)])) []))],
   .ret (.var 2)]
noncomputable def pn_law_back : List Str := ["_law_ahead_here", "_law_heir", "_law_steps", "_law_back_here", "_law_turn", "_law_more", "_law_state"]
noncomputable def pb_law_back : List S :=
  [.asg (.var 3) (.lst [(.dctP2 (.tup [(.var 1), (.k (.bool true))]) (.k (.bool true)) (.tup [(.var 1), (.k (.bool false))]) (.k (.bool true)))]),
   .for (.var 4) (.range (.k (.int 0)) (.var 2))
    [.asg (.var 5) .dctP,
     .for (.var 6) (.of (.var 0))
      [.ife (.cmp .ne (.comp 1 (.var 0) (.var 0) (.of (.idx (.var 0) (.var 6))) [(.cmp .isIn (.var 0) (.idx (.var 4) (.var 5)))]) (.lst []))
        [.setIdx (.var 5) (.var 6) (.k (.bool true))]
        []],
     .expr (.meth .append (.var 3) [(.var 5)])],
   .ret (.var 3)]
noncomputable def pn_law_way : List Str := ["_law_ahead_here", "_law_person", "_law_steps", "_law_heir", "_law_back_here", "_law_way_here", "_law_states", "_law_turn", "_law_more", "_law_fit"]
noncomputable def pb_law_way : List S :=
  [.asg (.var 4) (.call i_law_back [(.var 0), (.var 3), (.var 2)]),
   .asg (.var 5) (.lst [(.var 1)]),
   .asg (.var 6) (.lst [(.tup [(.var 1), (.k (.bool false))])]),
   .for (.var 7) (.range (.k (.int 0)) (.var 2))
    [.asg (.var 8) (.bi .sumL [(.comp 1 (.idx (.var 1) (.var 0)) (.var 0) (.of (.var 6)) []), (.lst [])]),
     .asg (.var 9) (.comp 1 (.var 0) (.var 0) (.of (.var 8)) [(.cmp .isIn (.var 0) (.idx (.var 5) (.bin .sub (.bin .sub (.var 3) (.var 8)) (.k (.int 1)))))]),
     .expr (.meth .append (.var 5) [(.bi .minL [(.comp 1 (.idx (.var 0) (.k (.int 0))) (.var 0) (.of (.var 9)) [])])]),
     .asg (.var 6) (.sortS (.comp 1 (.var 0) (.var 0) (.of (.var 9)) [(.cmp .eq (.idx (.var 0) (.k (.int 0))) (.idx (.var 6) (.neg (.k (.int 1)))))]))],
   .ret (.var 5)]
noncomputable def pn_law_due : List Str := ["_law_people_here", "_law_person", "_law_day", "_law_ahead_here", "_law_states", "_law_steps", "_law_heirs", "_law_one", "_law_falls"]
noncomputable def pb_law_due : List S :=
  [.asg (.var 3) (.call i_law_ahead [(.var 0), (.var 2)]),
   .asg (.var 4) (.lst [(.tup [(.var 1), (.k (.bool false))])]),
   .for (.var 5) (.range (.k (.int 1)) (.bin .add (.bin .mul (.k (.int 2)) (.bi .len [(.var 0)])) (.k (.int 1))))
    [.asg (.var 4) (.sortS (.bi .sumL [(.comp 1 (.idx (.var 4) (.var 0)) (.var 0) (.of (.var 4)) []), (.lst [])])),
     .asg (.var 6) (.lst []),
     .for (.tup [(.var 7), (.var 8)]) (.of (.var 4))
      [.ife (.and [(.cmp .ne (.var 7) (.var 1)), (.cmp .notIn (.var 7) (.var 6)), (.call i_law_lives [(.var 0), (.var 7), (.var 2)])])
        [.expr (.meth .append (.var 6) [(.var 7)])]
        []],
     .ife (.cmp .ne (.var 6) (.lst []))
      [.ret (.comp 1 (.tup [(.var 0), (.call i_law_way [(.var 4), (.var 2), (.var 6), (.var 0)])]) (.var 0) (.of (.bi .sortI [(.var 6)])) [])]
      []],
   .ret (.lst [])]
noncomputable def pn_law_same : List Str := ["_law_found", "_law_due_here", "_law_row", "_law_other"]
noncomputable def pb_law_same : List S :=
  [.ife (.or [(.not (.bi (.isi .list) [(.var 0)])), (.cmp .ne (.bi .len [(.var 0)]) (.bi .len [(.var 1)]))])
    [.ret (.k (.bool false))]
    [],
   .for (.tup [(.var 2), (.var 3)]) (.zip (.var 0) (.var 1))
    [.ife (.or [(.not (.bi (.isi .tuple) [(.var 2)])), (.cmp .ne (.bi .len [(.var 2)]) (.k (.int 2))), (.not (.call i_law_whole [(.idx (.var 2) (.k (.int 0)))])), (.not (.bi (.isi .list) [(.idx (.var 2) (.k (.int 1)))]))])
      [.ret (.k (.bool false))]
      [],
     .ife (.or [(.cmp .ne (.comp 1 (.var 0) (.var 0) (.of (.idx (.var 2) (.k (.int 1)))) [(.not (.call i_law_whole [(.var 0)]))]) (.lst [])), (.cmp .ne (.var 2) (.var 3))])
      [.ret (.k (.bool false))]
      []],
   .ret (.k (.bool true))]
noncomputable def pn_law_tangled : List Str := ["_law_people_here", "_law_root", "_law_ways", "_law_one", "_law_above"]
noncomputable def pb_law_tangled : List S :=
  [.for (.var 1) (.range (.k (.int 0)) (.bi .len [(.var 0)]))
    [.asg (.var 2) (.dct1 (.var 1) (.k (.int 1))),
     .for (.var 3) (.of (.sortK (.listR (.bi .len [(.var 0)])) 0))
      [.asg (.var 4) (.listOf (.idx (.idx (.var 0) (.var 3)) (.k (.int 1)))),
       .ife (.isNone false (.idx (.idx (.var 0) (.var 3)) (.k (.int 2))))
        [.asg (.var 4) (.bin .add (.var 4) (.comp 1 (.var 0) (.var 0) (.of (.idx (.idx (.idx (.var 0) (.var 3)) (.k (.int 2))) (.k (.int 1)))) [(.cmp .notIn (.var 0) (.var 5))]))]
        [],
       .setIdx (.var 2) (.var 3) (.bin .add (.meth .get2 (.var 2) [(.var 3), (.k (.int 0))]) (.bi .sumI [(.comp 1 (.meth .get2 (.var 3) [(.var 0), (.k (.int 0))]) (.var 0) (.of (.var 4)) [])])),
       .ife (.cmp .gt (.idx (.var 2) (.var 3)) (.k (.int 40)))
        [.ret (.k (.bool true))]
        []]],
   .ret (.k (.bool false))]
noncomputable def pn_law_simple : List Str := ["_law_people_here"]
noncomputable def pb_law_simple : List S :=
  [.ret (.comp 1 (.tup [(.idx (.var 0) (.k (.int 0))), (.slc (.idx (.var 0) (.k (.int 1))) none (some (.k (.int 1)))), (.k .none), (.idx (.var 0) (.k (.int 3)))]) (.var 0) (.of (.var 0)) [])]
noncomputable def pn_law : List Str := ["_law_script", "_law_many", "_law_people_here", "_law_handed", "_law_one", "_law_other", "_law_day", "_law_due_here", "_law_found", "_law_x"]
noncomputable def pb_law : List S :=
  [.asg (.var 1) (.bin .add (.k (.int 1)) (.bin .mod (.call i_law_cell_at [(.var 0), (.k (.int 0))]) (.k (.int 12)))),
   .ife (.cmp .eq (.bin .mod (.bin .fdiv (.call i_law_cell_at [(.var 0), (.k (.int 0))]) (.k (.int 12))) (.k (.int 6))) (.k (.int 1)))
    [.asg (.var 1) (.bin .add (.k (.int 1)) (.bin .mod (.bin .fdiv (.call i_law_cell_at [(.var 0), (.k (.int 0))]) (.k (.int 72))) (.k (.int 20))))]
    [],
   .asg (.var 2) (.call i_law_adopting [(.call i_law_people [(.call i_law_cell_at [(.var 0), (.k (.int 1))]), (.var 1)]), (.call i_law_cell_at [(.var 0), (.k (.int 2))])]),
   .ife (.call i_law_tangled [(.var 2)])
    [.asg (.var 2) (.call i_law_simple [(.var 2)])]
    [],
   .asg (.var 3) (.listOf (.var 2)),
   .asg (.var 4) (.bin .mod (.call i_law_cell_at [(.var 0), (.k (.int 3))]) (.var 1)),
   .asg (.var 5) (.bin .mod (.call i_law_cell_at [(.var 0), (.k (.int 5))]) (.var 1)),
   .asg (.var 6) (.bin .add (.idx (.idx (.var 2) (.var 4)) (.k (.int 0))) (.bin .mod (.bin .fdiv (.call i_law_cell_at [(.var 0), (.k (.int 4))]) (.k (.int 3))) (.k (.int 200)))),
   .ife (.and [(.cmp .gt (.bin .mod (.call i_law_cell_at [(.var 0), (.k (.int 4))]) (.k (.int 3))) (.k (.int 0))), (.isNone false (.idx (.idx (.var 2) (.var 4)) (.k (.int 3))))])
    [.asg (.var 6) (.idx (.idx (.var 2) (.var 4)) (.k (.int 3)))]
    [],
   .asg (.var 7) (.call i_law_due [(.var 2), (.var 4), (.var 6)]),
   .asg (.var 8) (.call i_nearest [(.var 3), (.var 4), (.var 6)]),
   .ife (.not (.call i_law_same [(.var 8), (.var 7)]))
    [.ret (.k (.bool false))]
    [],
   .ife (.or [(.not (.call i_law_same [(.call i_nearest [(.var 3), (.var 5), (.var 6)]), (.call i_law_due [(.var 2), (.var 5), (.var 6)])])), (.not (.call i_law_same [(.var 8), (.var 7)]))])
    [.ret (.k (.bool false))]
    [],
   .ife (.cmp .ne (.var 8) (.lst []))
    [.expr (.meth .append (.idx (.idx (.var 8) (.k (.int 0))) (.k (.int 1))) [(.k (.int 0))])]
    [],
   .expr (.meth .clear (.var 8) []),
   .for (.var 9) (.of (.call i_law_stream [(.call i_law_cell_at [(.var 0), (.k (.int 5))]), (.k (.int 3))]))
    [.ife (.not (.call i_law_same [(.call i_nearest [(.var 3), (.bin .mod (.var 9) (.var 1)), (.var 6)]), (.call i_law_due [(.var 2), (.bin .mod (.var 9) (.var 1)), (.var 6)])]))
      [.ret (.k (.bool false))]
      []],
   .ret (.and [(.call i_law_same [(.call i_nearest [(.var 3), (.var 4), (.var 6)]), (.var 7)]), (.cmp .eq (.var 3) (.var 2))])]
noncomputable def pfns : List Fn := [
  ⟨"lives", 3, 4, pb_lives⟩,
  ⟨"parents_on", 3, 4, pb_parents_on⟩,
  ⟨"children_on", 3, 2, pb_children_on⟩,
  ⟨"steps_from", 3, 3, pb_steps_from⟩,
  ⟨"further", 4, 4, pb_further⟩,
  ⟨"nearest", 3, 5, pb_nearest⟩,
  ⟨"_law_cell_at", 2, 0, pb_law_cell_at⟩,
  ⟨"_law_whole", 1, 0, pb_law_whole⟩,
  ⟨"_law_stream", 2, 3, pb_law_stream⟩,
  ⟨"_law_some", 3, 2, pb_law_some⟩,
  ⟨"_law_people", 2, 9, pb_law_people⟩,
  ⟨"_law_adopting", 2, 9, pb_law_adopting⟩,
  ⟨"_law_lives", 3, 0, pb_law_lives⟩,
  ⟨"_law_parents", 3, 0, pb_law_parents⟩,
  ⟨"_law_children", 3, 2, pb_law_children⟩,
  ⟨"_law_lined", 999, 0, []⟩,
  ⟨"_law_ahead", 2, 3, pb_law_ahead⟩,
  ⟨"_law_back", 3, 4, pb_law_back⟩,
  ⟨"_law_way", 4, 6, pb_law_way⟩,
  ⟨"_law_due", 3, 6, pb_law_due⟩,
  ⟨"_law_same", 2, 2, pb_law_same⟩,
  ⟨"_law_tangled", 1, 4, pb_law_tangled⟩,
  ⟨"_law_simple", 1, 0, pb_law_simple⟩,
  ⟨"law", 1, 9, pb_law⟩]
noncomputable def pnss : List (List Str) := [pn_lives, pn_parents_on, pn_children_on, pn_steps_from, pn_further, pn_nearest, pn_law_cell_at, pn_law_whole, pn_law_stream, pn_law_some, pn_law_people, pn_law_adopting, pn_law_lives, pn_law_parents, pn_law_children, [], pn_law_ahead, pn_law_back, pn_law_way, pn_law_due, pn_law_same, pn_law_tangled, pn_law_simple, pn_law]
noncomputable def pnames : List Str := [Str.ofString "lives", Str.ofString "parents_on", Str.ofString "children_on", Str.ofString "steps_from", Str.ofString "further", Str.ofString "nearest", Str.ofString "_law_cell_at", Str.ofString "_law_whole", Str.ofString "_law_stream", Str.ofString "_law_some", Str.ofString "_law_people", Str.ofString "_law_adopting", Str.ofString "_law_lives", Str.ofString "_law_parents", Str.ofString "_law_children", Str.ofString "_law_lined", Str.ofString "_law_ahead", Str.ofString "_law_back", Str.ofString "_law_way", Str.ofString "_law_due", Str.ofString "_law_same", Str.ofString "_law_tangled", Str.ofString "_law_simple", Str.ofString "law"]
noncomputable def pK : CK := ⟨pnames, [], [], "_law_tangled", 168, 71⟩
noncomputable def pgks : List V := []
theorem c_lives {scr : List Int} {n : Nat} {x0 x1 x2 : V} {H : Hp} {Q X : V → Hp → Prop} (h : WSs ⟨scr, pgks, callX ⟨scr, pgks, pfns⟩ n, fun _ _ _ => False⟩ pb_lives [some x0, some x1, some x2, none, none, none, none] H (retK Q)) : callX ⟨scr, pgks, pfns⟩ (n + 1) i_lives [x0, x1, x2] H Q X := ⟨⟨rfl, by decide⟩, h⟩
theorem c_parents_on {scr : List Int} {n : Nat} {x0 x1 x2 : V} {H : Hp} {Q X : V → Hp → Prop} (h : WSs ⟨scr, pgks, callX ⟨scr, pgks, pfns⟩ n, fun _ _ _ => False⟩ pb_parents_on [some x0, some x1, some x2, none, none, none, none] H (retK Q)) : callX ⟨scr, pgks, pfns⟩ (n + 1) i_parents_on [x0, x1, x2] H Q X := ⟨⟨rfl, by decide⟩, h⟩
theorem c_children_on {scr : List Int} {n : Nat} {x0 x1 x2 : V} {H : Hp} {Q X : V → Hp → Prop} (h : WSs ⟨scr, pgks, callX ⟨scr, pgks, pfns⟩ n, fun _ _ _ => False⟩ pb_children_on [some x0, some x1, some x2, none, none] H (retK Q)) : callX ⟨scr, pgks, pfns⟩ (n + 1) i_children_on [x0, x1, x2] H Q X := ⟨⟨rfl, by decide⟩, h⟩
theorem c_steps_from {scr : List Int} {n : Nat} {x0 x1 x2 : V} {H : Hp} {Q X : V → Hp → Prop} (h : WSs ⟨scr, pgks, callX ⟨scr, pgks, pfns⟩ n, fun _ _ _ => False⟩ pb_steps_from [some x0, some x1, some x2, none, none, none] H (retK Q)) : callX ⟨scr, pgks, pfns⟩ (n + 1) i_steps_from [x0, x1, x2] H Q X := ⟨⟨rfl, by decide⟩, h⟩
theorem c_further {scr : List Int} {n : Nat} {x0 x1 x2 x3 : V} {H : Hp} {Q X : V → Hp → Prop} (h : WSs ⟨scr, pgks, callX ⟨scr, pgks, pfns⟩ n, fun _ _ _ => False⟩ pb_further [some x0, some x1, some x2, some x3, none, none, none, none] H (retK Q)) : callX ⟨scr, pgks, pfns⟩ (n + 1) i_further [x0, x1, x2, x3] H Q X := ⟨⟨rfl, by decide⟩, h⟩
theorem c_nearest {scr : List Int} {n : Nat} {x0 x1 x2 : V} {H : Hp} {Q X : V → Hp → Prop} (h : WSs ⟨scr, pgks, callX ⟨scr, pgks, pfns⟩ n, fun _ _ _ => False⟩ pb_nearest [some x0, some x1, some x2, none, none, none, none, none] H (retK Q)) : callX ⟨scr, pgks, pfns⟩ (n + 1) i_nearest [x0, x1, x2] H Q X := ⟨⟨rfl, by decide⟩, h⟩
theorem c_law_cell_at {scr : List Int} {n : Nat} {x0 x1 : V} {H : Hp} {Q X : V → Hp → Prop} (h : WSs ⟨scr, pgks, callX ⟨scr, pgks, pfns⟩ n, fun _ _ _ => False⟩ pb_law_cell_at [some x0, some x1] H (retK Q)) : callX ⟨scr, pgks, pfns⟩ (n + 1) i_law_cell_at [x0, x1] H Q X := ⟨⟨rfl, by decide⟩, h⟩
theorem c_law_whole {scr : List Int} {n : Nat} {x0 : V} {H : Hp} {Q X : V → Hp → Prop} (h : WSs ⟨scr, pgks, callX ⟨scr, pgks, pfns⟩ n, fun _ _ _ => False⟩ pb_law_whole [some x0] H (retK Q)) : callX ⟨scr, pgks, pfns⟩ (n + 1) i_law_whole [x0] H Q X := ⟨⟨rfl, by decide⟩, h⟩
theorem c_law_stream {scr : List Int} {n : Nat} {x0 x1 : V} {H : Hp} {Q X : V → Hp → Prop} (h : WSs ⟨scr, pgks, callX ⟨scr, pgks, pfns⟩ n, fun _ _ _ => False⟩ pb_law_stream [some x0, some x1, none, none, none] H (retK Q)) : callX ⟨scr, pgks, pfns⟩ (n + 1) i_law_stream [x0, x1] H Q X := ⟨⟨rfl, by decide⟩, h⟩
theorem c_law_some {scr : List Int} {n : Nat} {x0 x1 x2 : V} {H : Hp} {Q X : V → Hp → Prop} (h : WSs ⟨scr, pgks, callX ⟨scr, pgks, pfns⟩ n, fun _ _ _ => False⟩ pb_law_some [some x0, some x1, some x2, none, none] H (retK Q)) : callX ⟨scr, pgks, pfns⟩ (n + 1) i_law_some [x0, x1, x2] H Q X := ⟨⟨rfl, by decide⟩, h⟩
theorem c_law_people {scr : List Int} {n : Nat} {x0 x1 : V} {H : Hp} {Q X : V → Hp → Prop} (h : WSs ⟨scr, pgks, callX ⟨scr, pgks, pfns⟩ n, fun _ _ _ => False⟩ pb_law_people [some x0, some x1, none, none, none, none, none, none, none, none, none] H (retK Q)) : callX ⟨scr, pgks, pfns⟩ (n + 1) i_law_people [x0, x1] H Q X := ⟨⟨rfl, by decide⟩, h⟩
theorem c_law_adopting {scr : List Int} {n : Nat} {x0 x1 : V} {H : Hp} {Q X : V → Hp → Prop} (h : WSs ⟨scr, pgks, callX ⟨scr, pgks, pfns⟩ n, fun _ _ _ => False⟩ pb_law_adopting [some x0, some x1, none, none, none, none, none, none, none, none, none] H (retK Q)) : callX ⟨scr, pgks, pfns⟩ (n + 1) i_law_adopting [x0, x1] H Q X := ⟨⟨rfl, by decide⟩, h⟩
theorem c_law_lives {scr : List Int} {n : Nat} {x0 x1 x2 : V} {H : Hp} {Q X : V → Hp → Prop} (h : WSs ⟨scr, pgks, callX ⟨scr, pgks, pfns⟩ n, fun _ _ _ => False⟩ pb_law_lives [some x0, some x1, some x2] H (retK Q)) : callX ⟨scr, pgks, pfns⟩ (n + 1) i_law_lives [x0, x1, x2] H Q X := ⟨⟨rfl, by decide⟩, h⟩
theorem c_law_parents {scr : List Int} {n : Nat} {x0 x1 x2 : V} {H : Hp} {Q X : V → Hp → Prop} (h : WSs ⟨scr, pgks, callX ⟨scr, pgks, pfns⟩ n, fun _ _ _ => False⟩ pb_law_parents [some x0, some x1, some x2] H (retK Q)) : callX ⟨scr, pgks, pfns⟩ (n + 1) i_law_parents [x0, x1, x2] H Q X := ⟨⟨rfl, by decide⟩, h⟩
theorem c_law_children {scr : List Int} {n : Nat} {x0 x1 x2 : V} {H : Hp} {Q X : V → Hp → Prop} (h : WSs ⟨scr, pgks, callX ⟨scr, pgks, pfns⟩ n, fun _ _ _ => False⟩ pb_law_children [some x0, some x1, some x2, none, none] H (retK Q)) : callX ⟨scr, pgks, pfns⟩ (n + 1) i_law_children [x0, x1, x2] H Q X := ⟨⟨rfl, by decide⟩, h⟩
theorem c_law_ahead {scr : List Int} {n : Nat} {x0 x1 : V} {H : Hp} {Q X : V → Hp → Prop} (h : WSs ⟨scr, pgks, callX ⟨scr, pgks, pfns⟩ n, fun _ _ _ => False⟩ pb_law_ahead [some x0, some x1, none, none, none] H (retK Q)) : callX ⟨scr, pgks, pfns⟩ (n + 1) i_law_ahead [x0, x1] H Q X := ⟨⟨rfl, by decide⟩, h⟩
theorem c_law_back {scr : List Int} {n : Nat} {x0 x1 x2 : V} {H : Hp} {Q X : V → Hp → Prop} (h : WSs ⟨scr, pgks, callX ⟨scr, pgks, pfns⟩ n, fun _ _ _ => False⟩ pb_law_back [some x0, some x1, some x2, none, none, none, none] H (retK Q)) : callX ⟨scr, pgks, pfns⟩ (n + 1) i_law_back [x0, x1, x2] H Q X := ⟨⟨rfl, by decide⟩, h⟩
theorem c_law_way {scr : List Int} {n : Nat} {x0 x1 x2 x3 : V} {H : Hp} {Q X : V → Hp → Prop} (h : WSs ⟨scr, pgks, callX ⟨scr, pgks, pfns⟩ n, fun _ _ _ => False⟩ pb_law_way [some x0, some x1, some x2, some x3, none, none, none, none, none, none] H (retK Q)) : callX ⟨scr, pgks, pfns⟩ (n + 1) i_law_way [x0, x1, x2, x3] H Q X := ⟨⟨rfl, by decide⟩, h⟩
theorem c_law_due {scr : List Int} {n : Nat} {x0 x1 x2 : V} {H : Hp} {Q X : V → Hp → Prop} (h : WSs ⟨scr, pgks, callX ⟨scr, pgks, pfns⟩ n, fun _ _ _ => False⟩ pb_law_due [some x0, some x1, some x2, none, none, none, none, none, none] H (retK Q)) : callX ⟨scr, pgks, pfns⟩ (n + 1) i_law_due [x0, x1, x2] H Q X := ⟨⟨rfl, by decide⟩, h⟩
theorem c_law_same {scr : List Int} {n : Nat} {x0 x1 : V} {H : Hp} {Q X : V → Hp → Prop} (h : WSs ⟨scr, pgks, callX ⟨scr, pgks, pfns⟩ n, fun _ _ _ => False⟩ pb_law_same [some x0, some x1, none, none] H (retK Q)) : callX ⟨scr, pgks, pfns⟩ (n + 1) i_law_same [x0, x1] H Q X := ⟨⟨rfl, by decide⟩, h⟩
theorem c_law_tangled {scr : List Int} {n : Nat} {x0 : V} {H : Hp} {Q X : V → Hp → Prop} (h : WSs ⟨scr, pgks, callX ⟨scr, pgks, pfns⟩ n, fun _ _ _ => False⟩ pb_law_tangled [some x0, none, none, none, none] H (retK Q)) : callX ⟨scr, pgks, pfns⟩ (n + 1) i_law_tangled [x0] H Q X := ⟨⟨rfl, by decide⟩, h⟩
theorem c_law_simple {scr : List Int} {n : Nat} {x0 : V} {H : Hp} {Q X : V → Hp → Prop} (h : WSs ⟨scr, pgks, callX ⟨scr, pgks, pfns⟩ n, fun _ _ _ => False⟩ pb_law_simple [some x0] H (retK Q)) : callX ⟨scr, pgks, pfns⟩ (n + 1) i_law_simple [x0] H Q X := ⟨⟨rfl, by decide⟩, h⟩
theorem c_law {scr : List Int} {n : Nat} {x0 : V} {H : Hp} {Q X : V → Hp → Prop} (h : WSs ⟨scr, pgks, callX ⟨scr, pgks, pfns⟩ n, fun _ _ _ => False⟩ pb_law [some x0, none, none, none, none, none, none, none, none, none] H (retK Q)) : callX ⟨scr, pgks, pfns⟩ (n + 1) i_law [x0] H Q X := ⟨⟨rfl, by decide⟩, h⟩
end Mine.P

end
section
set_option autoImplicit false
set_option linter.unusedVariables false
set_option linter.unusedSimpArgs false
namespace Mine.L

theorem some_i {α : Type} {o : Option α} {f : α → Prop} {a : α} (e : o = some a) (h : f a) : wSome o f := by rw [e]; exact h
theorem some_m {α : Type} {o : Option α} {f g : α → Prop} (h : wSome o f) (k : ∀ a, f a → g a) : wSome o g := by
  cases o
  · exact h
  · exact k _ h
section
variable {ws : List Nat} {H₀ : Hp} {t : Tgt} {K : Out → Prop}
/-- a for loop by what holds ahead of the items that are left; the body against any continuation -/
theorem for_inv {body : Env' → Hp → (Out → Prop) → Prop} (I : List V → Env' → Hp → Prop) (step : ∀ v vs ρ H, I (v :: vs) ρ H → wSome (asg t v ρ) fun ρ' => ∀ N : Env' → Hp → Prop, (∀ ρ₁ H₁, stands ws H₀ H₁ = true → I vs ρ₁ H₁ → N ρ₁ H₁) → body ρ' H (loopK K N)) (fin : ∀ ρ H, I [] ρ H → K (.next ρ H)) : ∀ vs ρ H, I vs ρ H → forW ws H₀ t body vs ρ H K
  | [], ρ, H, h => fin ρ H h
  | v :: vs, ρ, H, h => some_m (step v vs ρ H h) fun ρ' hb => hb _ fun ρ₁ H₁ hs hi => ⟨hs, for_inv I step fin vs ρ₁ H₁ hi⟩
/-- a while loop by a number that falls -/
theorem while_inv {test : Env' → Hp → (Bool → Hp → Prop) → Prop} {body : Env' → Hp → (Out → Prop) → Prop} (I : Nat → Env' → Hp → Prop) (step : ∀ n ρ H, I n ρ H → ∀ T : Bool → Hp → Prop, (∀ H', (∀ N : Env' → Hp → Prop, (∀ m ρ₁ H₁, m < n → I m ρ₁ H₁ → N ρ₁ H₁) → body ρ H' (loopK K N)) → T true H') → (∀ H', K (.next ρ H') → T false H') → test ρ H T) : ∀ k n ρ H, n < k → I n ρ H → whileW test body k ρ H K
  | 0, n, ρ, H, hk, h => absurd hk (Nat.not_lt_zero _)
  | k + 1, n, ρ, H, hk, h => step n ρ H h _ (fun H' hb => hb _ fun m ρ₁ H₁ hm hi => while_inv I step k m ρ₁ H₁ (Nat.lt_of_lt_of_le hm (Nat.le_of_lt_succ hk)) hi) (fun H' hk => hk)
end
end Mine.L

end
section
set_option autoImplicit false
set_option linter.unusedVariables false
set_option linter.unusedSimpArgs false
set_option maxRecDepth 100000
namespace Mine.L
open Mine.P
theorem if_i {t : Bool} {A B : Prop} (h1 : t = true → A) (h2 : t = false → B) : wIf t A B := by
  cases t
  · exact h2 rfl
  · exact h1 rfl
section
variable {scr : List Int} {n : Nat} {H : Hp} {Q X : PQ}
theorem w_cell {k : Nat} (q : Q (.int (scr.getD k 0)) H) : callX ⟨scr, pgks, pfns⟩ (n + 1) i_law_cell_at [.script, .int k] H Q X := c_law_cell_at (by
  show wIf (decide ((k : Int) < ((scr.map V.int).length : Int))) _ _
  refine if_i (fun h => ?_) fun h => ?_
  · have hk : k < scr.length := by have := of_decide_eq_true h; rw [List.length_map] at this; exact Int.ofNat_lt.mp this
    show wSome (seqAt (scr.map V.int) (k : Int)) _
    refine some_i (a := .int (scr.getD k 0)) ?_ q
    rw [show seqAt (scr.map V.int) (k : Int) = (scr.map V.int)[k]? from if_pos (Int.natCast_nonneg k), List.getElem?_map, List.getElem?_eq_getElem hk, List.getD_eq_getElem?_getD, List.getElem?_eq_getElem hk]; rfl
  · have hk : ¬ k < scr.length := fun hk => absurd (of_decide_eq_false h) (not_not_intro (by rw [List.length_map]; exact Int.ofNat_lt.mpr hk))
    rw [List.getD_eq_getElem?_getD, List.getElem?_eq_none_iff.mpr (Nat.le_of_not_lt hk)] at q
    exact q)
end
end Mine.L

end
section
set_option autoImplicit false
set_option linter.unusedVariables false
set_option linter.unusedSimpArgs false
set_option maxRecDepth 100000
namespace Mine.L
open Mine.P

/-- a person's number -/
abbrev nv (k : Nat) : V := .int (k : Int)
abbrev nvs (l : List Nat) : List V := l.map nv
structure Per where
  born : Int
  par : List Nat
  ad : Option (Int × List Nat)
  died : Option Int
noncomputable def diV : Option Int → V
  | none => .none
  | some d => .int d
noncomputable def adV : Option (Int × List Nat) → V
  | none => .none
  | some a => .tup [.int a.1, .tup (nvs a.2)]
noncomputable def perV (p : Per) : V := .tup [.int p.born, .tup (nvs p.par), adV p.ad, diV p.died]
noncomputable def before (d : Int) : Option Int → Bool
  | none => true
  | some e => decide (d < e)
noncomputable def livesP (p : Per) (d : Int) : Bool := decide (p.born ≤ d) && before d p.died
noncomputable def parOn (p : Per) (d : Int) : List Nat := match p.ad with
  | none => p.par
  | some a => if a.1 ≤ d then a.2 else p.par

/-- the old cells stay -/
def Ext (H H' : Hp) : Prop := ∀ (l : Nat) (c : Cell), H[l]? = some c → H'[l]? = some c
theorem Ext.refl (H : Hp) : Ext H H := fun _ _ h => h
theorem Ext.trans {H H₁ H₂ : Hp} (a : Ext H H₁) (b : Ext H₁ H₂) : Ext H H₂ := fun l c h => b l c (a l c h)
theorem at_lt {H : Hp} {l : Nat} {c : Cell} (h : H[l]? = some c) : l < H.length := (List.getElem?_eq_some_iff.mp h).1
theorem at_app {H : Hp} {l : Nat} {c : Cell} (t : List Cell) (h : H[l]? = some c) : (H ++ t)[l]? = some c := (List.getElem?_append_left (at_lt h)).trans h
theorem Ext.app (H t : Hp) : Ext H (H ++ t) := fun l c h => at_app t h
theorem at_new (H : Hp) (c : Cell) : (H ++ [c])[H.length]? = some c := List.getElem?_concat_length
theorem at_set {H : Hp} {l : Nat} {c : Cell} (h : H[l]? = some c) (c' : Cell) : (H.set l c')[l]? = some c' := List.getElem?_set_self (at_lt h)
theorem at_ne {H : Hp} {l m : Nat} {c : Cell} (h : H[l]? = some c) (c' : Cell) (hn : m ≠ l) : (H.set m c')[l]? = some c := (List.getElem?_set_ne hn).trans h
theorem Ext.set {H H' : Hp} (h : Ext H H') {r : Nat} (hr : H.length ≤ r) (c : Cell) : Ext H (H'.set r c) := fun l c' e => at_ne (h l c' e) c fun q => absurd (at_lt e) (Nat.not_lt.mpr (q ▸ hr))
theorem Ext.len {H H' : Hp} (h : Ext H H') : H.length ≤ H'.length := by
  cases e : H.length with
  | zero => exact Nat.zero_le _
  | succ k => exact at_lt (h k _ (List.getElem?_eq_getElem (by rw [e]; exact Nat.lt_succ_self k)))

section
variable {scr : List Int} {n : Nat} {H : Hp} {Q X : PQ} {l k : Nat} {vs : List V}
theorem call_i {P : Prg} {ρ : Env'} {f : Nat} {as : List V} {e : Env' → V → Hp → Prop} (h : callX P n f as H Q (e ρ)) : WCall ⟨P.scr, P.gks, callX P n, e⟩ ρ f as H Q := ⟨Q, e ρ, h, fun _ _ h => h, fun _ _ h => h⟩
theorem lst_at (h : H[l]? = some (.list vs)) : lstAt H (.ref l) = some vs := congrArg (Option.bind · asList) h
theorem keys_at (h : H[l]? = some (.list vs)) : keysOf scr H (.ref l) = some vs := by
  show (match H[l]?.bind asDict with | some es => _ | none => _) = _
  rw [h]
  show (match H[l]?.bind asDicP with | some es => _ | none => itemsOf scr H (.ref l)) = _
  rw [h]
  exact lst_at h
theorem seq_at {α : Type} {l : List α} {a : α} (h : l[k]? = some a) : seqAt l (k : Int) = some a := (if_pos (Int.natCast_nonneg k)).trans h
theorem idx_at {v : V} (h : H[l]? = some (.list vs)) (hv : vs[k]? = some v) : idxV scr (.ref l) (nv k) H = some v := by
  show (match lstAt H (.ref l) with | some vs => seqAt vs (k : Int) | none => _) = _
  rw [lst_at h]; exact seq_at hv
theorem idx_per {ps : List Per} {p : Per} (h : H[l]? = some (.list (ps.map perV))) (hv : ps[k]? = some p) : idxV scr (.ref l) (nv k) H = some (perV p) := idx_at h (by rw [List.getElem?_map, hv]; rfl)
theorem if_c {c : Prop} [Decidable c] {A B : Prop} (h1 : c → A) (h2 : ¬ c → B) : wIf (decide c) A B := if_i (fun h => h1 (of_decide_eq_true h)) fun h => h2 (of_decide_eq_false h)
theorem if_t {t : Bool} {A B : Prop} (h1 : t = true → A) (h2 : t = false → B) : wIf (t == true) A B := by
  cases t
  · exact h2 rfl
  · exact h1 rfl
theorem if_f {t : Bool} {A B : Prop} (h1 : t = false → A) (h2 : t = true → B) : wIf (t == false) A B := by
  cases t
  · exact h1 rfl
  · exact h2 rfl

theorem w_lives {d : Int} {ps : List Per} {p : Per} (hA : H[l]? = some (.list (ps.map perV))) (hp : ps[k]? = some p) (q : Q (.bool (livesP p d)) H) : callX ⟨scr, pgks, pfns⟩ (n + 1) i_lives [.ref l, nv k, .int d] H Q X := c_lives (by
  apply some_i (idx_per hA hp)
  show wIf (decide (p.born ≤ d) == true) _ _
  refine if_t (fun h => ?_) fun h => ?_
  · have q : Q (.bool (decide (p.born ≤ d) && before d p.died)) H := q
    rw [h] at q
    cases hd : p.died with
    | none => rw [hd] at q; exact q
    | some e => rw [hd] at q; exact q
  · have q : Q (.bool (decide (p.born ≤ d) && before d p.died)) H := q
    rw [h] at q
    show Q (.bool (decide (p.born ≤ d))) H
    rw [h]; exact q)
end
end Mine.L

end
section
set_option autoImplicit false
set_option linter.unusedVariables false
set_option linter.unusedSimpArgs false
set_option maxRecDepth 100000
namespace Mine.L
open Mine.P PySem

section
variable {ws : List Nat} {H₀ : Hp} {t : Tgt} {K : Out → Prop} {α : Type} {g : α → V}
theorem for_as {body : Env' → Hp → (Out → Prop) → Prop} (I : List α → Env' → Hp → Prop) (step : ∀ a as ρ H, I (a :: as) ρ H → wSome (asg t (g a) ρ) fun ρ' => ∀ N : Env' → Hp → Prop, (∀ ρ₁ H₁, stands ws H₀ H₁ = true → I as ρ₁ H₁ → N ρ₁ H₁) → body ρ' H (loopK K N)) (fin : ∀ ρ H, I [] ρ H → K (.next ρ H)) : ∀ as ρ H, I as ρ H → forW ws H₀ t body (as.map g) ρ H K
  | [], ρ, H, h => fin ρ H h
  | a :: as, ρ, H, h => some_m (step a as ρ H h) fun ρ' hb => hb _ fun ρ₁ H₁ hs hi => ⟨hs, for_as I step fin as ρ₁ H₁ hi⟩
end
section
variable {scr : List Int} {n : Nat} {H : Hp} {Q X : PQ} {l k : Nat} {vs : List V}
theorem ok_i {t : Bool} {A : Prop} (e : t = true) (h : A) : wOk t A := by rw [e]; exact h
theorem sz_i {α : Type} {l : List α} (h : l.length < 16000000) : szOk l = true := decide_eq_true h
theorem me_i {A : Prop} (h : H[l]? = some (.list vs)) (a : A) : wOk (meKind .append H (.ref l)) A := ok_i (congrArg Option.isSome (lst_at h)) a
theorem app_i {v : V} (h : H[l]? = some (.list vs)) (hs : vs.length < 16000000) (q : Q .none (H.set l (.list (vs ++ [v])))) : WMeth .append (.ref l) [v] H Q := some_i (lst_at h) (ok_i (sz_i hs) q)
theorem range_n {m : Nat} {f : List V → Prop} (h : m < 1000000) (k : f ((List.range m).map nv)) : wRange (.int 0) (.int m) f := by
  refine ⟨⟨by decide, Nat.lt_trans (show (m : Int).natAbs < 1000000 from h) (by decide)⟩, ?_⟩
  have e : rangeV 0 m = (List.range m).map nv := by
    unfold rangeV
    rw [Int.sub_zero]
    exact List.map_congr_left fun i _ => congrArg V.int (Int.zero_add _)
  rw [e]; exact k
theorem stands1 {H' : Hp} {c : Cell} (h : H[l]? = some c) (h' : H'[l]? = some c) : stands [l] H H' = true := by
  show (decide (H'[l]? = H[l]?) && true) = true
  rw [h, h', decide_eq_true rfl]; rfl
theorem rd_int (i : Int) : ∀ m, rd H m (.int i) = some (.int i)
  | 0 => rfl
  | _ + 1 => rfl
theorem rdL_nv (m : Nat) : ∀ ls : List Nat, rdL (rd H m) (nvs ls) = some (ls.map fun i => .int i)
  | [] => rfl
  | a :: r => by
    show (match rd H m (nv a), rdL (rd H m) (nvs r) with | some d, some ds => some (d :: ds) | _, _ => none) = _
    rw [rd_int, rdL_nv m r]; rfl
theorem any_nv (k : Nat) : ∀ ls : List Nat, ((ls.map fun i : Nat => PyData.int i).any fun e => PyData.eqv e (.int k)) = decide (k ∈ ls)
  | [] => rfl
  | a :: r => by
    rw [List.map_cons, List.any_cons, any_nv k r]
    show (((a : Int) == (k : Int)) || decide (k ∈ r)) = _
    by_cases h : k = a
    · rw [h, beq_self_eq_true]; exact (decide_eq_true (List.mem_cons_self)).symm
    · rw [show ((a : Int) == (k : Int)) = false from beq_eq_false_iff_ne.mpr fun e => h (Int.ofNat.inj e).symm, Bool.false_or]
      exact decide_eq_decide.mpr ⟨fun m => .tail _ m, fun m => (List.mem_cons.mp m).resolve_left h⟩
theorem in_tup {ls : List Nat} : inV scr H (nv k) (.tup (nvs ls)) = some (decide (k ∈ ls)) := by
  show ((rdL (rd H 10) (nvs ls)).bind fun ds => some (ds.any fun e => PyData.eqv e (.int k))) = _
  rw [rdL_nv]
  exact congrArg some (any_nv k ls)
theorem in_at {ls : List Nat} (h : H[l]? = some (.list (nvs ls))) : inV scr H (nv k) (.ref l) = some (decide (k ∈ ls)) := by
  show (match H[l]?.bind asDict with | some es => _ | none => _) = _
  rw [h]
  show (match H[l]?.bind asDicP with | some es => _ | none => (lstAt H (.ref l)).bind _) = _
  rw [h, lst_at h]
  exact in_tup (scr := scr) (ls := ls)
theorem app_lt {α : Type} {acc : List α} {a : α} {r tot : List α} {B : Nat} (e : acc ++ (a :: r) = tot) (h : tot.length ≤ B) : acc.length < B := by
  rw [← e, List.length_append, List.length_cons] at h; (first | lia | omega)
theorem snoc_eq {α : Type} {acc : List α} {a : α} {r tot : List α} (e : acc ++ (a :: r) = tot) : (acc ++ [a]) ++ r = tot := by rw [List.append_assoc]; exact e

theorem w_parents {d : Int} {ps : List Per} {p : Per} (hA : H[l]? = some (.list (ps.map perV))) (hp : ps[k]? = some p) (q : Q (.tup (nvs (parOn p d))) H) : callX ⟨scr, pgks, pfns⟩ (n + 1) i_parents_on [.ref l, nv k, .int d] H Q X := c_parents_on (by
  apply some_i (idx_per hA hp)
  have q : Q (.tup (nvs (match p.ad with | none => p.par | some a => if a.1 ≤ d then a.2 else p.par))) H := q
  unfold perV
  cases ha : p.ad with
  | none => rw [ha] at q; exact q
  | some a =>
    rw [ha] at q
    show wIf (decide (a.1 ≤ d)) _ _
    exact if_c (fun h => by rw [show (match (some a : Option (Int × List Nat)) with | none => p.par | some a => if a.1 ≤ d then a.2 else p.par) = a.2 from if_pos h] at q; exact q) fun h => by rw [show (match (some a : Option (Int × List Nat)) with | none => p.par | some a => if a.1 ≤ d then a.2 else p.par) = p.par from if_neg h] at q; exact q)

/-- c is a child of k -/
noncomputable def chB (ps : List Per) (d : Int) (k c : Nat) : Bool := match ps[c]? with
  | some q => decide (q.born ≤ d) && decide (k ∈ parOn q d)
  | none => false
noncomputable def kids (ps : List Per) (d : Int) (k : Nat) : List Nat := (List.range ps.length).filter (chB ps d k)
inductive ChI (ps : List Per) (d : Int) (k l : Nat) (H : Hp) (as : List Nat) (ρ : Env') (H' : Hp) : Prop
  | mk (acc : List Nat) (o : Option V) (e : ρ = [some (.ref l), some (nv k), some (.int d), some (.ref H.length), o]) (x : Ext H H') (a : H'[H.length]? = some (.list (nvs acc))) (t : acc ++ as.filter (chB ps d k) = kids ps d k) (b : ∀ c ∈ as, c < ps.length)
theorem nvs_snoc (l : List Nat) (c : Nat) : nvs l ++ [nv c] = nvs (l ++ [c]) := (List.map_append (l₁ := l) (l₂ := [c])).symm
theorem at_of {α : Type} {l : List α} {k : Nat} (h : k < l.length) : ∃ a, l[k]? = some a := ⟨_, List.getElem?_eq_getElem h⟩
theorem kids_len (ps : List Per) (d : Int) (k : Nat) : (kids ps d k).length ≤ ps.length := Nat.le_trans (List.length_filter_le _ _) (Nat.le_of_eq List.length_range)
/-- the children, by the def f of the parents -/
abbrev kidsB (f : Nat) : List S :=
  [.asg (.var 3) (.lst []),
   .for (.var 4) (.range (.k (.int 0)) (.bi .len [(.var 0)]))
    [.ife (.and [(.cmp .le (.idx (.idx (.var 0) (.var 4)) (.k (.int 0))) (.var 2)), (.cmp .isIn (.var 1) (.call f [(.var 0), (.var 4), (.var 2)]))])
      [.expr (.meth .append (.var 3) [(.var 4)])]
      []],
   .ret (.var 3)]
theorem w_kids {f : Nat} {d : Int} {ps : List Per} (hf : ∀ {H : Hp} {Q X : PQ} {c : Nat} {p : Per}, H[l]? = some (.list (ps.map perV)) → ps[c]? = some p → Q (.tup (nvs (parOn p d))) H → callX ⟨scr, pgks, pfns⟩ (n + 1) f [.ref l, nv c, .int d] H Q X) (hA : H[l]? = some (.list (ps.map perV))) (hl : ps.length ≤ 20) (q : ∀ lc H', H.length ≤ lc → Ext H H' → H'[lc]? = some (.list (nvs (kids ps d k))) → Q (.ref lc) H') : WSs ⟨scr, pgks, callX ⟨scr, pgks, pfns⟩ (n + 1), fun _ _ _ => False⟩ (kidsB f) [some (.ref l), some (nv k), some (.int d), none, none] H (retK Q) := by
  apply some_i (lst_at (at_app [.list []] hA))
  rw [List.length_map]
  refine range_n (Nat.lt_of_le_of_lt hl (by decide)) (for_as (ChI ps d k l H) (fun c as ρ H' h => ?_) (fun ρ H' h => ?_) _ _ _ ⟨[], none, rfl, Ext.app _ _, at_new _ _, rfl, fun c hc => List.mem_range.mp hc⟩)
  · refine h.casesOn fun acc o e x a t b => ?_
    subst e
    refine fun N hN => ?_
    refine (at_of (b c List.mem_cons_self)).elim fun p hc => ?_
    apply some_i (idx_per (x l _ hA) hc)
    have ht : acc ++ (if chB ps d k c then c :: as.filter (chB ps d k) else as.filter (chB ps d k)) = kids ps d k := by rw [← List.filter_cons]; exact t
    rw [show chB ps d k c = (decide (p.born ≤ d) && decide (k ∈ parOn p d)) by unfold chB; rw [hc]] at ht
    have no : ∀ o, (decide (p.born ≤ d) && decide (k ∈ parOn p d)) = false → N [some (.ref l), some (nv k), some (.int d), some (.ref H.length), o] H' := fun o e => hN _ _ rfl ⟨acc, o, rfl, x, a, by rw [e] at ht; exact ht, fun c hc => b c (.tail _ hc)⟩
    show wIf (decide (p.born ≤ d) == true) _ _
    refine if_t (fun h1 => ?_) fun h1 => ?_
    · refine call_i (hf (x l _ hA) hc ?_)
      apply some_i (in_tup (scr := scr))
      refine if_i (fun h2 => ?_) fun h2 => no _ (by rw [h2, Bool.and_false])
      rw [h1, h2] at ht
      exact me_i a (app_i a (by rw [List.length_map]; exact app_lt ht (Nat.le_trans (kids_len ps d k) (Nat.le_trans hl (by decide)))) (hN _ _ rfl ⟨acc ++ [c], _, rfl, x.set (Nat.le_refl _) _, by rw [← nvs_snoc]; exact at_set a _, snoc_eq ht, fun c hc => b c (.tail _ hc)⟩))
    · show wIf (decide (p.born ≤ d)) _ _
      exact if_i (fun h2 => absurd (h1.symm.trans h2) Bool.false_ne_true) fun _ => no _ (by rw [h1, Bool.false_and])
  · refine h.casesOn fun acc o e x a t b => ?_
    subst e
    rw [List.filter_nil, List.append_nil] at t
    exact q _ _ (Nat.le_refl _) x (t ▸ a)
theorem w_children {d : Int} {ps : List Per} (hA : H[l]? = some (.list (ps.map perV))) (hl : ps.length ≤ 20) (q : ∀ lc H', H.length ≤ lc → Ext H H' → H'[lc]? = some (.list (nvs (kids ps d k))) → Q (.ref lc) H') : callX ⟨scr, pgks, pfns⟩ (n + 2) i_children_on [.ref l, nv k, .int d] H Q X := c_children_on (w_kids (fun a b q => w_parents a b q) hA hl q)
end
end Mine.L

end
section
set_option autoImplicit false
set_option linter.unusedVariables false
set_option linter.unusedSimpArgs false
set_option maxRecDepth 100000
namespace Mine.L
open Mine.P PySem

/-- one of the roll, born ahead of the day b -/
def Older (ps : List Per) (b : Int) (j : Nat) : Prop := ∃ q, ps[j]? = some q ∧ q.born < b
inductive WfOne (ps : List Per) (p : Per) : Prop
  | mk (a : ∀ j ∈ p.par, Older ps p.born j) (b : ∀ x, p.ad = some x → ∀ j ∈ x.2, Older ps p.born j) (c : p.par.length ≤ 2) (d : ∀ x, p.ad = some x → x.2.length ≤ 2)
def WfP (ps : List Per) : Prop := ∀ (k : Nat) p, ps[k]? = some p → WfOne ps p
theorem par_all {ps : List Per} {p : Per} {P : List Nat → Prop} (h1 : P p.par) (h2 : ∀ x, p.ad = some x → P x.2) (d : Int) : P (parOn p d) := by
  unfold parOn
  cases h : p.ad with
  | none => exact h1
  | some a =>
    show P (if a.1 ≤ d then a.2 else p.par)
    split
    · exact h2 a h
    · exact h1
theorem par_older {ps : List Per} (hW : WfP ps) {k : Nat} {p : Per} (hp : ps[k]? = some p) (d : Int) : ∀ j ∈ parOn p d, Older ps p.born j := (hW k p hp).casesOn fun a b _ _ => par_all (ps := ps) (P := fun l => ∀ j ∈ l, Older ps p.born j) a b d
theorem par_len {ps : List Per} (hW : WfP ps) {k : Nat} {p : Per} (hp : ps[k]? = some p) (d : Int) : (parOn p d).length ≤ 2 := (hW k p hp).casesOn fun _ _ a b => par_all (ps := ps) (P := fun l => l.length ≤ 2) a b d
noncomputable def lv (ps : List Per) (d : Int) (k : Nat) : Bool := match ps[k]? with
  | some p => livesP p d
  | none => false
theorem lv_at {ps : List Per} {d : Int} {k : Nat} {p : Per} (h : ps[k]? = some p) : lv ps d k = livesP p d := by unfold lv; rw [h]
section
variable {scr : List Int} {Q X : PQ} {l : Nat}
end
end Mine.L

end
section
set_option autoImplicit false
set_option linter.unusedVariables false
set_option linter.unusedSimpArgs false
set_option maxRecDepth 100000
namespace Mine.L
open Mine.P PySem

/-- a part as a value -/
noncomputable def rv (x : Rat) : V := .tup [.int x.num, .int (x.den : Int)]
/-- how big its numbers are -/
def Sm (b : Nat) (x : Rat) : Prop := x.num.natAbs < 2 ^ b ∧ x.den < 2 ^ b
theorem Sm.nrm {b : Nat} {a : Int} {d : Nat} (hd : d ≠ 0) (ha : a.natAbs < 2 ^ b) (h : d < 2 ^ b) : Sm b (Rat.normalize a d hd) := by
  rw [Rat.normalize_eq]
  exact ⟨Nat.lt_of_le_of_lt (Int.natAbs_ediv_le_natAbs _ _) ha, Nat.lt_of_le_of_lt (Nat.div_le_self _ _) h⟩
theorem lt_pow {a b i j : Nat} (ha : a < 2 ^ i) (hb : b < 2 ^ j) : a * b < 2 ^ (i + j) := by
  rw [Nat.pow_add]
  exact Nat.mul_lt_mul_of_lt_of_le ha (Nat.le_of_lt hb) (Nat.two_pow_pos j)
theorem Sm.le {b c : Nat} {x : Rat} (h : Sm b x) (e : b ≤ c) : Sm c x := ⟨Nat.lt_of_lt_of_le h.1 (Nat.pow_le_pow_right (by decide) e), Nat.lt_of_lt_of_le h.2 (Nat.pow_le_pow_right (by decide) e)⟩
theorem Sm.mul {i j : Nat} {x y : Rat} (hx : Sm i x) (hy : Sm j y) : Sm (i + j) (x * y) := by
  rw [Rat.mul_def]
  exact Sm.nrm _ (by rw [Int.natAbs_mul]; exact lt_pow hx.1 hy.1) (lt_pow hx.2 hy.2)
theorem two_lt {a b i : Nat} (ha : a < 2 ^ i) (hb : b < 2 ^ i) : a + b < 2 ^ (i + 1) := by rw [Nat.pow_succ, Nat.mul_two]; exact Nat.add_lt_add ha hb
theorem Sm.sub {i j : Nat} {x y : Rat} (hx : Sm i x) (hy : Sm j y) : Sm (i + j + 1) (x - y) := by
  rw [Rat.sub_def]
  refine Sm.nrm _ (Nat.lt_of_le_of_lt (Int.natAbs_sub_le _ _) ?_) (Nat.lt_of_lt_of_le (lt_pow hx.2 hy.2) (Nat.pow_le_pow_right (by decide) (Nat.le_succ _)))
  rw [Int.natAbs_mul, Int.natAbs_mul]
  exact two_lt (lt_pow hx.1 hy.2) (by rw [Nat.add_comm]; exact lt_pow hy.1 hx.2)
theorem bits_le {a : Int} {i : Nat} (h : a.natAbs < 2 ^ i) : Builtin.Int.intBits a ≤ i := by
  unfold Builtin.Int.intBits
  split
  · exact Nat.zero_le _
  · rename_i h0
    exact (Nat.log2_lt fun e => h0 (by rw [Int.natAbs_eq_zero.mp e]; rfl)).mpr h
theorem mul_i {a b : Int} {i j : Nat} (ha : a.natAbs < 2 ^ i) (hb : b.natAbs < 2 ^ j) (h : i + j ≤ 1000000) : binI .mul a b = some (a * b) := by
  refine if_pos ?_
  have e : Builtin.Int.intTooBig (Builtin.Int.intBits a + Builtin.Int.intBits b) = false := decide_eq_false fun q => absurd (Nat.le_trans (Nat.add_le_add (bits_le ha) (bits_le hb)) h) (Nat.not_le.mpr (Nat.lt_of_le_of_lt (by decide : 1000000 ≤ bitsLine) (Int.ofNat_lt.mp q)))
  unfold mulOk
  rw [e, Bool.and_false]; rfl
section
variable {scr : List Int} {n : Nat} {H : Hp} {Q X : PQ} {a : Int} {d : Nat}
section
variable {x y : Rat} {i j : Nat} (hx : Sm i x) (hy : Sm j y) (h : i + j ≤ 1000000)
include hx hy h
end
end
end Mine.L

end
section
set_option autoImplicit false
set_option linter.unusedVariables false
set_option linter.unusedSimpArgs false
set_option maxRecDepth 100000
namespace Mine.L
open Mine.P PySem

/-- all cells but r stay -/
def ExtB (r : Nat) (H H' : Hp) : Prop := ∀ (l : Nat) (c : Cell), l ≠ r → H[l]? = some c → H'[l]? = some c
theorem ExtB.refl (r : Nat) (H : Hp) : ExtB r H H := fun _ _ _ h => h
theorem ExtB.trans {r : Nat} {H H₁ H₂ : Hp} (a : ExtB r H H₁) (b : ExtB r H₁ H₂) : ExtB r H H₂ := fun l c n h => b l c n (a l c n h)
theorem Ext.b {H H' : Hp} (h : Ext H H') (r : Nat) : ExtB r H H' := fun l c _ e => h l c e
theorem ExtB.app (r : Nat) (H t : Hp) : ExtB r H (H ++ t) := (Ext.app H t).b r
theorem ExtB.set (r : Nat) (H : Hp) (c : Cell) : ExtB r H (H.set r c) := fun l c' n h => at_ne h c fun e => n e.symm
theorem ExtB.ext {r : Nat} {H H₁ H' : Hp} (h : ExtB r H₁ H') (x : Ext H H₁) (hr : H.length ≤ r) : Ext H H' := fun l c e => h l c (fun q => absurd (at_lt e) (Nat.not_lt.mpr (q ▸ hr))) (x l c e)
theorem ExtB.len {r : Nat} {H H' : Hp} {c : Cell} (h : ExtB r H H') (hr : H'[r]? = some c) : H.length ≤ H'.length := by
  cases e : H.length with
  | zero => exact Nat.zero_le _
  | succ k =>
    by_cases hk : k = r
    · exact hk ▸ at_lt hr
    · exact at_lt (h k _ hk (List.getElem?_eq_getElem (by rw [e]; exact Nat.lt_succ_self k)))

inductive All2 {α β : Type} (R : α → β → Prop) : List α → List β → Prop
  | nil : All2 R [] []
  | cons {a : α} {v : β} {as : List α} {vs : List β} : R a v → All2 R as vs → All2 R (a :: as) (v :: vs)
theorem All2.imp {α β : Type} {R R' : α → β → Prop} {as : List α} {vs : List β} (h : All2 R as vs) (f : ∀ a v, R a v → R' a v) : All2 R' as vs := h.rec (motive := fun as vs _ => All2 R' as vs) .nil fun r _ ih => .cons (f _ _ r) ih
theorem All2.snoc {α β : Type} {R : α → β → Prop} {as : List α} {vs : List β} (h : All2 R as vs) {a : α} {v : β} (r : R a v) : All2 R (as ++ [a]) (vs ++ [v]) := h.rec (motive := fun as vs _ => All2 R (as ++ [a]) (vs ++ [v])) (.cons r .nil) fun r _ ih => .cons r ih
theorem All2.len {α β : Type} {R : α → β → Prop} {as : List α} {vs : List β} (h : All2 R as vs) : vs.length = as.length := by
  induction h with
  | nil => rfl
  | cons _ _ ih => exact congrArg Nat.succ ih
section
variable {ws : List Nat} {H₀ : Hp} {t : Tgt} {K : Out → Prop} {α : Type} {R : α → V → Prop}
theorem for_a2 {body : Env' → Hp → (Out → Prop) → Prop} (I : List α → Env' → Hp → Prop) (step : ∀ a v as ρ H, R a v → I (a :: as) ρ H → wSome (asg t v ρ) fun ρ' => ∀ N : Env' → Hp → Prop, (∀ ρ₁ H₁, stands ws H₀ H₁ = true → I as ρ₁ H₁ → N ρ₁ H₁) → body ρ' H (loopK K N)) (fin : ∀ ρ H, I [] ρ H → K (.next ρ H)) {as : List α} {vs : List V} (h : All2 R as vs) : ∀ ρ H, I as ρ H → forW ws H₀ t body vs ρ H K :=
  h.rec (motive := fun as vs _ => ∀ ρ H, I as ρ H → forW ws H₀ t body vs ρ H K) fin fun r _ ih ρ H h => some_m (step _ _ _ ρ H r h) fun ρ' hb => hb _ fun ρ₁ H₁ hs hi => ⟨hs, ih ρ₁ H₁ hi⟩
end

structure Row where
  heir : Nat
  share : Rat
  line : List Nat
noncomputable def up (k : Nat) (s : Rat) (r : Row) : Row := ⟨r.heir, s * r.share, k :: r.line⟩
end Mine.L

end
section
set_option autoImplicit false
set_option linter.unusedVariables false
set_option linter.unusedSimpArgs false
set_option maxRecDepth 100000
namespace Mine.L
open Mine.P PySem
section
variable {scr : List Int} {n : Nat} {l lc k : Nat} {H : Hp} {Q X : PQ}
theorem add_i {a b : Nat} {xs ys : List V} (ha : H[a]? = some (.list xs)) (hb : H[b]? = some (.list ys)) (hs : (xs ++ ys).length < 16000000) (q : Q (.ref H.length) (H ++ [.list (xs ++ ys)])) : WBin .add (.ref a) (.ref b) H Q := by
  refine ok_i (t := decide (BOp.add = BOp.add)) (decide_eq_true rfl) (some_i (lst_at ha) ?_)
  exact some_i (lst_at hb) (ok_i (sz_i hs) q)
end
end Mine.L

end
section
set_option autoImplicit false
set_option linter.unusedVariables false
set_option linter.unusedSimpArgs false
set_option maxRecDepth 100000
namespace Mine.L
open Mine.P PySem

noncomputable def neB (k c : Nat) : Bool := !((c : Int) == (k : Int))
section
variable {scr : List Int} {n : Nat} {l k : Nat} {H : Hp} {Q X : PQ}
end
end Mine.L

end
section
set_option autoImplicit false
set_option linter.unusedVariables false
set_option linter.unusedSimpArgs false
set_option maxRecDepth 100000
namespace Mine.L
open Mine.P PySem

theorem if_tt {t : Bool} {A B : Prop} (h : t = true) (a : A) : wIf t A B := by rw [h]; exact a
theorem if_ff {t : Bool} {A B : Prop} (h : t = false) (b : B) : wIf t A B := by rw [h]; exact b
section
variable {scr : List Int} {n : Nat} {l k : Nat} {H : Hp} {Q X : PQ}
end
end Mine.L

end
section
set_option autoImplicit false
set_option linter.unusedVariables false
set_option linter.unusedSimpArgs false
set_option maxRecDepth 100000
namespace Mine.L
open Mine.P PySem

theorem Perm_sorted {l m : List Int} (h : l.Perm m) (a : l.Pairwise (· ≤ ·)) (b : m.Pairwise (· ≤ ·)) : l = m := h.eq_of_pairwise (fun x y _ _ h1 h2 => Int.le_antisymm h1 h2) a b
/-! tables: their keys by an injection, their values by a relation -/
section
variable {A B K : Type} [DecidableEq A] [DecidableEq K]
noncomputable def aget (ws : List (A × B)) (a : A) : Option B := (ws.find? fun p => decide (p.1 = a)).map (·.2)
noncomputable def aput (ws : List (A × B)) (a : A) (b : B) : List (A × B) := if ws.any (fun p => decide (p.1 = a)) then ws.map (fun p => if p.1 = a then (p.1, b) else p) else ws ++ [(a, b)]
noncomputable def ahas (ws : List (A × B)) (a : A) : Bool := ws.any fun p => decide (p.1 = a)
def DcAt (f : A → K) (S : B → V → Prop) : List (A × B) → List (K × V) → Prop := All2 fun w e => e.1 = f w.1 ∧ S w.2 e.2
variable {f : A → K} (hf : ∀ a b, f a = f b → a = b) {S : B → V → Prop} {ws : List (A × B)} {es : List (K × V)}
include hf
theorem key_dec {a b : A} {k : K} (e : k = f b) : decide (k = f a) = decide (b = a) := decide_eq_decide.mpr ⟨fun h => hf _ _ (e ▸ h), fun h => e.trans (congrArg f h)⟩
theorem DcAt.has (h : DcAt f S ws es) (a : A) : dhas es (f a) = ahas ws a := h.rec (motive := fun ws es _ => dhas es (f a) = ahas ws a) rfl fun r _ ih => by
  show (decide (_ = f a) || dhas _ (f a)) = (decide (_ = a) || ahas _ a)
  rw [ih, key_dec hf r.1]
theorem DcAt.get (h : DcAt f S ws es) (a : A) : ahas ws a = true → ∃ b v, aget ws a = some b ∧ dget es (f a) = some v ∧ S b v := h.rec (motive := fun ws es _ => ahas ws a = true → ∃ b v, aget ws a = some b ∧ dget es (f a) = some v ∧ S b v) (fun h => absurd h Bool.false_ne_true) fun {w e ws es} r _ ih h => by
  unfold aget dget
  rw [List.find?_cons, List.find?_cons, key_dec hf r.1]
  cases hd : decide (w.1 = a) with
  | true => exact ⟨w.2, e.2, rfl, rfl, r.2⟩
  | false =>
    refine ih ?_
    have h : (decide (w.1 = a) || ahas ws a) = true := h
    rw [hd] at h; exact h
theorem DcAt.put (h : DcAt f S ws es) {a : A} {b : B} {v : V} (r : S b v) : DcAt f S (aput ws a b) (dput es (f a) v) := by
  unfold aput dput
  rw [show (es.any fun p => decide (p.1 = f a)) = _ from DcAt.has hf h a]
  cases ha : ahas ws a with
  | false =>
    rw [show (ws.any fun p => decide (p.1 = a)) = false from ha]
    exact All2.snoc h ⟨rfl, r⟩
  | true =>
    rw [show (ws.any fun p => decide (p.1 = a)) = true from ha]
    refine h.rec (motive := fun ws es _ => DcAt f S (ws.map fun p : A × B => if p.1 = a then (p.1, b) else p) (es.map fun p : K × V => if p.1 = f a then (p.1, v) else p)) .nil fun {w e ws es} r' _ ih => .cons ?_ ih
    show (if e.1 = f a then (e.1, v) else e).1 = f (if w.1 = a then (w.1, b) else w).1 ∧ S (if w.1 = a then (w.1, b) else w).2 (if e.1 = f a then (e.1, v) else e).2
    by_cases hd : w.1 = a
    · rw [if_pos hd, if_pos (by rw [r'.1, hd])]; exact ⟨r'.1, r⟩
    · rw [if_neg hd, if_neg fun q => hd (hf _ _ (r'.1 ▸ q))]; exact r'
omit hf
theorem ahas_iff {a : A} : ahas ws a = true ↔ a ∈ ws.map (·.1) := by
  unfold ahas
  rw [List.any_eq_true, List.mem_map]
  exact ⟨fun ⟨p, h1, h2⟩ => ⟨p, h1, of_decide_eq_true h2⟩, fun ⟨p, h1, h2⟩ => ⟨p, h1, decide_eq_true h2⟩⟩
theorem aput_keys (a : A) (b : B) : (aput ws a b).map (·.1) = if ahas ws a then ws.map (·.1) else ws.map (·.1) ++ [a] := by
  unfold aput
  show (if ahas ws a = true then _ else _ : List (A × B)).map _ = _
  split
  · rw [List.map_map]
    exact List.map_congr_left fun p _ => by show (if p.1 = a then (p.1, b) else p).1 = p.1; split <;> rfl
  · rw [List.map_append]; rfl
theorem aput_mem {a : A} {b : B} {p : A × B} (h : p ∈ aput ws a b) : p ∈ ws ∨ p = (a, b) := by
  unfold aput at h
  split at h
  · obtain ⟨q, hq, e⟩ := List.mem_map.mp h
    split at e
    · rename_i h1; exact .inr (by rw [← e, h1])
    · exact .inl (e ▸ hq)
  · rcases List.mem_append.mp h with h | h
    · exact .inl h
    · exact .inr (List.mem_singleton.mp h)
omit [DecidableEq A] [DecidableEq K] in
theorem DcAt.keys {g : K → V} (h : DcAt f S ws es) : es.map (fun p => g p.1) = (ws.map (·.1)).map fun a => g (f a) := h.rec (motive := fun ws es _ => es.map (fun p => g p.1) = (ws.map (·.1)).map fun a => g (f a)) rfl fun r _ ih => by
  rw [List.map_cons, List.map_cons, List.map_cons, ih, r.1]
omit [DecidableEq A] [DecidableEq K] in
theorem DcAt.imp {S' : B → V → Prop} (h : DcAt f S ws es) (k : ∀ b v, S b v → S' b v) : DcAt f S' ws es := All2.imp h fun _ _ r => ⟨r.1, k _ _ r.2⟩
end
theorem nodup_bound : ∀ (n : Nat) (l : List Nat), l.Nodup → (∀ k ∈ l, k < n) → l.length ≤ n
  | 0, l, _, h => by
    cases l with
    | nil => exact Nat.le_refl 0
    | cons a r => exact absurd (h a List.mem_cons_self) (Nat.not_lt_zero a)
  | n + 1, l, hn, h => by
    have ih := nodup_bound n (l.erase n) (hn.erase _) fun k hk => Nat.lt_of_le_of_ne (Nat.le_of_lt_succ (h k ((hn.mem_erase_iff).mp hk).2)) ((hn.mem_erase_iff).mp hk).1
    rw [List.length_erase] at ih
    split at ih <;> (first | lia | omega)
end Mine.L

end
section
set_option autoImplicit false
set_option linter.unusedVariables false
set_option linter.unusedSimpArgs false
set_option maxRecDepth 100000
namespace Mine.L
open Mine.P PySem

abbrev St := Nat × Bool
/-- a state as a value, as a key -/
abbrev sv (s : St) : V := .tup [nv s.1, .bool s.2]
abbrev kz (s : St) : Int × Bool := ((s.1 : Int), s.2)
theorem kz_inj (a b : St) (h : kz a = kz b) : a = b := Prod.ext (Int.ofNat.inj (congrArg (fun p : Int × Bool => p.1) h)) (congrArg (fun p : Int × Bool => p.2) h)
noncomputable def stepsP (ps : List Per) (d : Int) (p : Per) (k : Nat) (down : Bool) : List St := (kids ps d k).map (fun c => (c, true)) ++ (if down then [] else (parOn p d).map fun c => (c, false))
section
variable {scr : List Int} {n : Nat} {l k : Nat} {H : Hp} {Q X : PQ}
theorem comp_pf {α : Type} {g : α → V} {ws : List Nat} {test : Env' → Hp → (Bool → Hp → Prop) → Prop} {elt : Env' → Hp → PQ → Prop} {Q : List V → Hp → Prop} {ρ₀ : Env'} {P : α → Bool} {F : α → V} : ∀ (as : List α) (o : Option V) (acc : List V), (∀ a, a ∈ as → ∀ T : Bool → Hp → Prop, T (P a) H → test (some (g a) :: ρ₀) H T) → (∀ a, a ∈ as → P a = true → ∀ N : PQ, N (F a) H → elt (some (g a) :: ρ₀) H N) → Q (acc ++ (as.filter P).map F) H → compW ws H (.var 0) test elt (as.map g) (o :: ρ₀) H acc Q
  | [], o, acc, _, _, q => by rw [List.filter_nil, List.map_nil, List.append_nil] at q; exact q
  | a :: as, o, acc, ht, he, q => by
    have st : stands ws H H = true := List.all_eq_true.mpr fun l _ => decide_eq_true rfl
    refine some_i (a := some (g a) :: ρ₀) rfl (ht a List.mem_cons_self _ ?_)
    rw [List.filter_cons] at q
    have go : ∀ acc', Q (acc' ++ (as.filter P).map F) H → compW ws H (.var 0) test elt (as.map g) (some (g a) :: ρ₀) H acc' Q := fun acc' => comp_pf as _ acc' (fun a ha => ht a (.tail _ ha)) fun a ha => he a (.tail _ ha)
    cases hp : P a with
    | true =>
      rw [hp] at q
      exact he a List.mem_cons_self hp _ ⟨st, go _ (by rw [List.append_assoc]; exact q)⟩
    | false =>
      rw [hp] at q
      exact ⟨st, go _ q⟩
theorem filter_true {α : Type} (l : List α) : l.filter (fun _ => true) = l := List.filter_eq_self.mpr fun _ _ => rfl
theorem w_steps {d : Int} {ps : List Per} (hW : WfP ps) (hl : ps.length ≤ 20) {p : Per} (hp : ps[k]? = some p) (down : Bool) (hA : H[l]? = some (.list (ps.map perV))) (q : ∀ lc H', H.length ≤ lc → Ext H H' → H'[lc]? = some (.list ((stepsP ps d p k down).map sv)) → Q (.ref lc) H') : callX ⟨scr, pgks, pfns⟩ (n + 3) i_steps_from [.ref l, sv (k, down), .int d] H Q X := c_steps_from (by
  have hk := Nat.lt_of_le_of_lt (Nat.le_trans (kids_len ps d k) hl) (show 20 < 16000000 by decide)
  refine call_i (w_children (n := n) hA hl fun lc H₁ hb x hc => ?_)
  apply some_i (keys_at (scr := scr) hc)
  refine ok_i (sz_i (by rw [List.length_map]; exact hk)) (comp_pf (P := fun _ => true) (F := fun c => sv (c, true)) _ _ _ (fun a _ T h => h) (fun a _ _ N h => h) ?_)
  rw [filter_true]
  have a1 := at_new H₁ (.list ((kids ps d k).map fun c => sv (c, true)))
  have h1 := Nat.le_trans hb (Nat.le_of_lt (at_lt hc))
  cases down with
  | true => exact q _ _ h1 (x.trans (Ext.app _ _)) (by unfold stepsP; rw [List.map_append, List.map_map]; show _ = some (Cell.list (_ ++ [])); rw [List.append_nil]; exact a1)
  | false =>
    refine call_i (w_parents (at_app _ (x _ _ hA)) hp ?_)
    have h2 := par_len hW hp d
    refine ok_i (sz_i (by rw [List.length_map]; exact Nat.lt_of_le_of_lt h2 (by decide))) (comp_pf (P := fun _ => true) (F := fun c => sv (c, false)) _ _ _ (fun a _ T h => h) (fun a _ _ N h => h) ?_)
    rw [filter_true]
    refine add_i (at_app _ a1) (at_new _ _) (by rw [List.length_append, List.nil_append, List.length_map, List.length_map]; exact Nat.lt_of_le_of_lt (Nat.add_le_add (Nat.le_trans (kids_len ps d k) hl) h2) (by decide)) ?_
    exact q _ _ (Nat.le_trans h1 (by rw [List.length_append, List.length_append, Nat.add_assoc]; exact Nat.le_add_right _ _)) ((x.trans (Ext.app _ _)).trans ((Ext.app _ _).trans (Ext.app _ _))) (by rw [at_new]; unfold stepsP; rw [List.map_append, List.map_map]; show _ = some (Cell.list (_ ++ ((parOn p d).map fun c => (c, false)).map sv)); rw [List.map_map]; rfl))
end
end Mine.L

end
section
set_option autoImplicit false
set_option linter.unusedVariables false
set_option linter.unusedSimpArgs false
set_option maxRecDepth 100000
namespace Mine.L
open Mine.P PySem

abbrev Ways := List (St × List Nat)
abbrev Kn := List (St × Unit)
/-- a line as a value, at b or behind -/
inductive LnAt (b : Nat) (H : Hp) (w : List Nat) (v : V) : Prop
  | mk (l : Nat) (hb : b ≤ l) (e : v = .ref l) (a : H[l]? = some (.list (nvs w)))
theorem LnAt.ext {b : Nat} {H H' : Hp} {w : List Nat} {v : V} (h : LnAt b H w v) (x : Ext H H') : LnAt b H' w v := h.casesOn fun l hb e a => ⟨l, hb, e, x _ _ a⟩
theorem LnAt.set {b lf : Nat} {H H' : Hp} {w : List Nat} {v : V} {c : Cell} (h : LnAt b H w v) (hf : H[lf]? = some c) (hc : ∀ vs, c ≠ .list vs) (x : ExtB lf H H') : LnAt b H' w v := h.casesOn fun l hb e a => ⟨l, hb, e, x l _ (fun q => hc _ (by rw [← q] at hf; exact Option.some.inj (hf.symm.trans a))) a⟩
noncomputable def ltW (a b : List Nat) : Bool := ltL (a.map fun i : Nat => (i : Int)) (b.map fun i : Nat => (i : Int))
noncomputable def getW (ws : Ways) (s : St) : List Nat := (aget ws s).getD []
noncomputable def stp (kn : Kn) (way : List Nat) (found : Ways) (o : St) : Ways := if !ahas kn o && (!ahas found o || ltW (way ++ [o.1]) (getW found o)) then aput found o (way ++ [o.1]) else found
noncomputable def stepsAt (ps : List Per) (d : Int) (s : St) : List St := match ps[s.1]? with
  | some p => stepsP ps d p s.1 s.2
  | none => []
noncomputable def furtherP (ps : List Per) (d : Int) (kn : Kn) (ws : Ways) (found : Ways) (s : St) : Ways := (stepsAt ps d s).foldl (stp kn (getW ws s)) found
/-- states of people, no two alike; ways of at most L steps -/
inductive WOk (n L : Nat) (ks : List St) (ws : Ways) : Prop
  | mk (nd : (ks ++ ws.map (·.1)).Nodup) (rg : ∀ e ∈ ws, e.1.1 < n) (ln : ∀ e ∈ ws, e.2.length ≤ L)
theorem enc_inj {a b : St} (e : 2 * a.1 + a.2.toNat = 2 * b.1 + b.2.toNat) : a = b := by
  have h1 := Bool.toNat_le a.2
  have h2 := Bool.toNat_le b.2
  refine Prod.ext (by (first | lia | omega)) ?_
  have e2 : a.2.toNat = b.2.toNat := by (first | lia | omega)
  revert e2
  cases a.2 <;> cases b.2 <;> first | (intro; rfl) | (intro h; cases h)
theorem keys_bound {n : Nat} {l : List St} (h : l.Nodup) (hr : ∀ s ∈ l, s.1 < n) : l.length ≤ 2 * n := by
  have h' : (l.map fun s : St => 2 * s.1 + s.2.toNat).Nodup := List.Pairwise.map _ (fun a b hab e => hab (enc_inj e)) h
  have := nodup_bound (2 * n) _ h' fun k hk => by
    obtain ⟨s, hs, rfl⟩ := List.mem_map.mp hk
    have := hr s hs
    have := Bool.toNat_le s.2
    (first | lia | omega)
  rw [List.length_map] at this; exact this
theorem WOk.len {n L : Nat} {ks : List St} {ws : Ways} (h : WOk n L ks ws) : ws.length ≤ 2 * n := h.casesOn fun nd rg _ => by
  rw [← List.length_map (f := (·.1))]
  exact keys_bound (List.nodup_append.mp nd).2.1 fun s hs => (List.mem_map.mp hs).elim fun e he => he.2 ▸ rg e he.1
theorem WOk.put {n L : Nat} {ks : List St} {ws : Ways} (h : WOk n L ks ws) {s : St} {w : List Nat} (hk : s ∉ ks) (hn : s.1 < n) (hw : w.length ≤ L) : WOk n L ks (aput ws s w) := h.casesOn fun nd rg ln => by
  refine ⟨?_, fun e he => (aput_mem he).elim (rg e) fun q => by rw [q]; exact hn, fun e he => (aput_mem he).elim (ln e) fun q => by rw [q]; exact hw⟩
  rw [aput_keys]
  split
  · exact nd
  · rename_i hs
    have hs : s ∉ ws.map (·.1) := fun m => hs (ahas_iff.mpr m)
    rw [← List.append_assoc]
    exact List.nodup_append.mpr ⟨nd, List.nodup_cons.mpr ⟨List.not_mem_nil, List.nodup_nil⟩, fun a ha b hb e => by
      rw [List.mem_singleton.mp hb] at e
      exact (List.mem_append.mp (e ▸ ha)).elim hk hs⟩
section
variable {scr : List Int} {n : Nat} {l k : Nat} {H : Hp} {Q X : PQ}
theorem idx_dp {lw ew : Nat} {es : List ((Int × Bool) × V)} {s : St} {v : V} (h : H[lw]? = some (.dicP ew es)) (e : dget es (kz s) = some v) : idxV scr (.ref lw) (sv s) H = some v := by
  show ((H[lw]?.bind asDicP).bind fun es => dget es (kz s)) = _
  rw [h]; exact e
theorem notin_dp {lw ew : Nat} {es : List ((Int × Bool) × V)} {s : St} (h : H[lw]? = some (.dicP ew es)) : cmpV scr .notIn (sv s) (.ref lw) H = some (!dhas es (kz s)) := by
  show Option.map _ (match H[lw]?.bind asDict with | some es => _ | none => _) = _
  rw [h]
  show Option.map _ (match H[lw]?.bind asDicP with | some es => _ | none => _) = _
  rw [h]; rfl
theorem all_nv : ∀ l : List Nat, allInts (nvs l) = some (l.map fun i : Nat => (i : Int))
  | [] => rfl
  | a :: r => by
    show ((allInts (nvs r)).map ((a : Int) :: ·)) = _
    rw [all_nv r]; rfl
theorem lt_at {a b : Nat} {x y : List Nat} (ha : H[a]? = some (.list (nvs x))) (hb : H[b]? = some (.list (nvs y))) : cmpV scr .lt (.ref a) (.ref b) H = some (ltW x y) := by
  show (((lstAt H (.ref a)).bind allInts).bind fun p => ((lstAt H (.ref b)).bind allInts).map fun q => ltL p q) = _
  rw [lst_at ha, lst_at hb]
  show ((allInts (nvs x)).bind fun p => (allInts (nvs y)).map fun q => ltL p q) = _
  rw [all_nv, all_nv]; rfl
theorem set_dp {lf ef : Nat} {fs : List ((Int × Bool) × V)} {s : St} {v : V} {k : Hp → Prop} (h : H[lf]? = some (.dicP ef fs)) (hs : fs.length < 16000000) (q : ∀ ep, k (H.set lf (.dicP ep (dput fs (kz s) v)))) : WSet (.ref lf) (sv s) v H k := some_i h (ok_i (sz_i hs) q)
theorem keys_dp {lw ew : Nat} {es : List ((Int × Bool) × V)} (h : H[lw]? = some (.dicP ew es)) : keysOf scr H (.ref lw) = some (es.map fun p => pairV p.1) := by
  show (match H[lw]?.bind asDict with | some es => _ | none => _) = _
  rw [h]
  show (match H[lw]?.bind asDicP with | some es => _ | none => _) = _
  rw [h]; rfl
end
end Mine.L

end
section
set_option autoImplicit false
set_option linter.unusedVariables false
set_option linter.unusedSimpArgs false
set_option maxRecDepth 100000
namespace Mine.L
open Mine.P PySem
/-- between two turns of further -/
inductive FuI (ps : List Per) (F : Ways → St → Ways) (tot : Ways) (ks : List St) (L b lf : Nat) (x0 x1 x2 x3 : V) (H₁ : Hp) (ss as : List St) (ρ : Env') (H' : Hp) : Prop
  | mk (o5 o6 o7 : Option V) (ef : Nat) (fs : List ((Int × Bool) × V)) (found : Ways) (e : ρ = [some x0, some x1, some x2, some x3, some (.ref lf), o5, o6, o7]) (x : ExtB lf H₁ H') (a : H'[lf]? = some (.dicP ef fs)) (dc : DcAt kz (LnAt b H') found fs) (ok : WOk ps.length L ks found) (t : as.foldl F found = tot) (b : ∀ s ∈ as, s ∈ ss)
inductive FvI (ps : List Per) (F : Ways → St → Ways) (tot : Ways) (ks : List St) (L b lf : Nat) (x0 x1 x2 x3 x5 : V) (H₁ : Hp) (as : List St) (ρ : Env') (H' : Hp) : Prop
  | mk (o6 o7 : Option V) (ef : Nat) (fs : List ((Int × Bool) × V)) (found : Ways) (e : ρ = [some x0, some x1, some x2, some x3, some (.ref lf), some x5, o6, o7]) (x : ExtB lf H₁ H') (a : H'[lf]? = some (.dicP ef fs)) (dc : DcAt kz (LnAt b H') found fs) (ok : WOk ps.length L ks found) (t : as.foldl F found = tot) (b : ∀ o ∈ as, o.1 < ps.length)
section
variable {scr : List Int} {n : Nat} {l k : Nat} {H : Hp} {Q X : PQ}
theorem steps_in {ps : List Per} (hW : WfP ps) {d : Int} {p : Per} {k : Nat} (hp : ps[k]? = some p) {down : Bool} : ∀ o ∈ stepsP ps d p k down, o.1 < ps.length := by
  intro o ho
  rcases List.mem_append.mp ho with h | h
  · obtain ⟨c, hc, rfl⟩ := List.mem_map.mp h
    exact List.mem_range.mp (List.mem_filter.mp hc).1
  · cases down with
    | true => cases h
    | false =>
      obtain ⟨c, hc, rfl⟩ := List.mem_map.mp (show o ∈ (parOn p d).map fun c => (c, false) from h)
      exact (par_older hW hp d c hc).elim fun q hq => (List.getElem?_eq_some_iff.mp hq.1).1
theorem w_further {d : Int} {ps : List Per} (hW : WfP ps) (hl : ps.length ≤ 20) {kn : Kn} {ws : Ways} {ks es : List ((Int × Bool) × V)} {ek ew lk lw b L : Nat} (hL : L ≤ 1000) (hA : H[l]? = some (.list (ps.map perV))) (hK : H[lk]? = some (.dicP ek ks)) (dk : DcAt kz (fun (_ : Unit) _ => True) kn ks) (hY : H[lw]? = some (.dicP ew es)) (dw : DcAt kz (LnAt b H) ws es) (hb : b ≤ H.length) (nd : (kn.map (·.1)).Nodup) (rg : ∀ e ∈ ws, e.1.1 < ps.length) (ln : ∀ s, (getW ws s).length ≤ L)
    (q : ∀ lf ef fs H', Ext H H' → H.length ≤ lf → H'[lf]? = some (.dicP ef fs) → DcAt kz (LnAt b H') ((ws.map (·.1)).foldl (furtherP ps d kn ws) []) fs → WOk ps.length (L + 1) (kn.map (·.1)) ((ws.map (·.1)).foldl (furtherP ps d kn ws) []) → Q (.ref lf) H') : callX ⟨scr, pgks, pfns⟩ (n + 4) i_further [.ref l, .ref lk, .ref lw, .int d] H Q X := c_further (by
  have hlt : ∀ {m c}, H[m]? = some c → m ≠ H.length := fun h => Nat.ne_of_lt (at_lt h)
  have hY1 := at_app [.dicP 0 []] hY
  apply some_i (keys_dp (scr := scr) hY1)
  rw [dw.keys]
  refine for_as (FuI ps (furtherP ps d kn ws) ((ws.map (·.1)).foldl (furtherP ps d kn ws) []) (kn.map (·.1)) (L + 1) b H.length (.ref l) (.ref lk) (.ref lw) (.int d) (H ++ [.dicP 0 []]) (ws.map (·.1))) (fun s as ρ H' h => ?_) (fun ρ H' h => ?_) _ _ _ ⟨none, none, none, 0, [], [], rfl, ExtB.refl _ _, at_new _ _, .nil, ⟨by rw [List.map_nil, List.append_nil]; exact nd, fun _ h => (nomatch h), fun _ h => (nomatch h)⟩, rfl, fun s h => h⟩
  · refine h.casesOn fun o5 o6 o7 ef fs found e x a dc ok t bs => ?_
    subst e
    refine fun N hN => ?_
    have x' : Ext H H' := x.ext (Ext.app _ _) (Nat.le_refl _)
    refine (List.mem_map.mp (bs s List.mem_cons_self)).elim fun e he => (at_of (he.2 ▸ rg e he.1 : s.1 < ps.length)).elim fun p hp => ?_
    refine call_i (w_steps (n := n) hW hl hp s.2 (x' _ _ hA) fun lc H₂ hb₂ x₂ hc => ?_)
    refine (dw.get kz_inj s (ahas_iff.mpr (bs s List.mem_cons_self))).elim fun w hw => hw.elim fun wv hw => ?_
    apply some_i (keys_at (scr := scr) hc)
    have hlf : H.length < lc := Nat.lt_of_lt_of_le (at_lt a) hb₂
    refine for_as (FvI ps (stp kn (getW ws s)) (furtherP ps d kn ws found s) (kn.map (·.1)) (L + 1) b H.length (.ref l) (.ref lk) (.ref lw) (.int d) (sv s) H₂) (fun o os ρ H₃ h => ?_) (fun ρ H₃ h => ?_) _ _ _ ⟨o6, o7, ef, fs, found, rfl, ExtB.refl _ _, x₂ _ _ a, dc.imp fun _ _ h => h.ext x₂, ok, by unfold furtherP stepsAt; rw [hp], steps_in hW hp⟩
    · refine h.casesOn fun o6 o7 ef fs found e x₃ a dc ok t bo => ?_
      subst e
      refine fun N' hN' => ?_
      have x₄ : Ext H H₃ := x₃.ext (x'.trans x₂) (Nat.le_refl _)
      refine hw.2.2.casesOn fun lv hbv ev av => ?_
      subst ev
      have gw : getW ws s = w := by unfold getW; rw [hw.1]; rfl
      have hwl := ln s
      rw [gw] at hwl t
      have ho := bo o List.mem_cons_self
      have bo' : ∀ o ∈ os, o.1 < ps.length := fun o h => bo o (.tail _ h)
      apply some_i (idx_dp (scr := scr) (x₄ _ _ hY) hw.2.1)
      refine add_i (at_app _ (x₄ _ _ av)) (at_new _ _) (by rw [List.length_append, List.length_map]; exact Nat.lt_of_le_of_lt (Nat.add_le_add_right (Nat.le_trans hwl hL) _) (show 1000 + 1 < 16000000 by decide)) ?_
      have am := at_new (H₃ ++ [Cell.list [nv o.1]]) (.list (nvs w ++ [nv o.1]))
      rw [nvs_snoc w o.1] at am ⊢
      generalize hm : (H₃ ++ [Cell.list [nv o.1]]).length = m at *
      have hbm : b ≤ m := by rw [← hm]; exact Nat.le_trans (Nat.le_trans hb x₄.len) (by rw [List.length_append]; exact Nat.le_add_right _ _)
      have x₅ : Ext H₃ (H₃ ++ [Cell.list [nv o.1]] ++ [Cell.list (nvs (w ++ [o.1]))]) := (Ext.app _ _).trans (Ext.app _ _)
      generalize H₃ ++ [Cell.list [nv o.1]] ++ [Cell.list (nvs (w ++ [o.1]))] = H₄ at *
      have a₄ := x₅ _ _ a
      have dc₄ : DcAt kz (LnAt b H₄) found fs := dc.imp fun _ _ h => h.ext x₅
      rw [List.foldl_cons] at t
      have yes : (!ahas kn o && (!ahas found o || ltW (w ++ [o.1]) (getW found o))) = true → WSet (.ref H.length) (sv o) (.ref m) H₄ (fun H' => N' [some (.ref l), some (.ref lk), some (.ref lw), some (.int d), some (.ref H.length), some (sv s), some (sv o), some (.ref m)] H') := fun hc' => by
        refine set_dp a₄ (by rw [All2.len dc₄]; exact Nat.lt_of_le_of_lt (Nat.le_trans ok.len (Nat.mul_le_mul_left 2 hl)) (by decide)) fun ep => ?_
        have x₆ := ExtB.set H.length H₄ (.dicP ep (dput fs (kz o) (.ref m)))
        refine hN' _ _ (stands1 hc (((x₃.trans (x₅.b _)).trans x₆) _ _ (Nat.ne_of_gt hlf) hc)) ⟨_, _, ep, _, aput found o (w ++ [o.1]), rfl, (x₃.trans (x₅.b _)).trans x₆, at_set a₄ _, ?_, ok.put ?_ ho (by rw [List.length_append]; exact Nat.succ_le_succ hwl), ?_, bo'⟩
        · exact DcAt.put kz_inj (dc₄.imp fun _ _ h => h.set a₄ (fun vs h => nomatch h) x₆) ((LnAt.mk m hbm rfl am : LnAt b H₄ (w ++ [o.1]) (.ref m)).set a₄ (fun vs h => nomatch h) x₆)
        · exact fun hm => absurd (ahas_iff.mpr hm) (by rw [Bool.not_eq_true]; exact (Bool.not_eq_true' _).mp (Bool.and_eq_true_iff.mp hc').1)
        · rw [show stp kn w found o = aput found o (w ++ [o.1]) from if_pos hc'] at t; rw [gw]; exact t
      have no : (!ahas kn o && (!ahas found o || ltW (w ++ [o.1]) (getW found o))) = false → N' [some (.ref l), some (.ref lk), some (.ref lw), some (.int d), some (.ref H.length), some (sv s), some (sv o), some (.ref m)] H₄ := fun hc' =>
        hN' _ _ (stands1 hc ((x₃.trans (x₅.b _)) _ _ (Nat.ne_of_gt hlf) hc)) ⟨_, _, ef, fs, found, rfl, x₃.trans (x₅.b _), a₄, dc₄, ok, by rw [show stp kn w found o = found from if_neg (by rw [hc']; decide)] at t; rw [gw]; exact t, bo'⟩
      apply some_i (notin_dp (scr := scr) (s := o) (x₅ _ _ (x₄ _ _ hK)))
      rw [dk.has kz_inj]
      refine if_t (fun h1 => ?_) fun h1 => if_ff h1 (no (by rw [h1]; rfl))
      rw [h1, Bool.true_and] at yes no
      apply some_i (notin_dp (scr := scr) (s := o) a₄)
      rw [dc₄.has kz_inj]
      refine if_f (fun h2 => ?_) fun h2 => if_tt h2 (yes (by rw [h2]; rfl))
      rw [h2, Bool.false_or] at yes no
      refine (dc₄.get kz_inj o (Bool.not_eq_false' .. |>.mp h2)).elim fun w' hw' => hw'.elim fun wv' hw' => ?_
      have gw' : getW found o = w' := by unfold getW; rw [hw'.1]; rfl
      rw [gw'] at yes no
      apply some_i (idx_dp (scr := scr) a₄ hw'.2.1)
      refine hw'.2.2.casesOn fun lv' _ ev' av' => ?_
      subst ev'
      apply some_i (lt_at (scr := scr) am av')
      exact if_i yes no
    · refine h.casesOn fun o6 o7 ef fs found' e x₃ a dc ok t' bo => ?_
      subst e
      rw [List.foldl_nil] at t'
      subst t'
      have x₄ := (x₂.b H.length).trans x₃
      exact hN _ _ (stands1 hY1 ((x.trans x₄) _ _ (hlt hY) hY1)) ⟨_, _, _, ef, fs, _, rfl, x.trans x₄, a, dc, ok, t, fun s hs => bs s (.tail _ hs)⟩
  · refine h.casesOn fun o5 o6 o7 ef fs found e x a dc ok t bs => ?_
    subst e
    rw [List.foldl_nil] at t
    subst t
    exact q _ ef fs _ (x.ext (Ext.app _ _) (Nat.le_refl _)) (Nat.le_refl _) a dc ok)
end
end Mine.L

end
section
set_option autoImplicit false
set_option linter.unusedVariables false
set_option linter.unusedSimpArgs false
set_option maxRecDepth 100000
namespace Mine.L
open Mine.P PySem

abbrev Hr := List (Nat × List Nat)
abbrev hz (k : Nat) : Int := (k : Int)
theorem hz_inj (a b : Nat) (h : hz a = hz b) : a = b := Int.ofNat.inj h
noncomputable def getH (hp : Hr) (h : Nat) : List Nat := (aget hp h).getD []
noncomputable def heirStep (ps : List Per) (d : Int) (k : Nat) (ws : Ways) (hp : Hr) (s : St) : Hr := if neB k s.1 && (lv ps d s.1 && (!ahas hp s.1 || ltW (getW ws s) (getH hp s.1))) then aput hp s.1 (getW ws s) else hp
noncomputable def knAll (kn : Kn) (ws : Ways) : Kn := kn ++ ws.map fun e => (e.1, ())
noncomputable def waysAll (ps : List Per) (d : Int) (kn : Kn) (ws : Ways) : Ways := (ws.map (·.1)).foldl (furtherP ps d kn ws) []
noncomputable def nearP (ps : List Per) (d : Int) (k : Nat) : Nat → Kn → Ways → Hr → Hr
  | 0, _, _, h => h
  | f + 1, kn, ws, h => if h.isEmpty && !ws.isEmpty then nearP ps d k f (knAll kn ws) (waysAll ps d (knAll kn ws) ws) (((waysAll ps d (knAll kn ws) ws).map (·.1)).foldl (heirStep ps d k (waysAll ps d (knAll kn ws) ws)) h) else h
noncomputable def srt (l : List Nat) : List Nat := l.mergeSort fun a b => decide (a ≤ b)
/-- who is nearest, and by which line -/
noncomputable def nearL (ps : List Per) (d : Int) (k : Nat) : List (Nat × List Nat) := (srt ((nearP ps d k 41 [] [((k, false), [k])] []).map (·.1))).map fun h => (h, getH (nearP ps d k 41 [] [((k, false), [k])] []) h)
inductive NrAt (b : Nat) (H : Hp) (p : Nat × List Nat) (v : V) : Prop
  | mk (l : Nat) (hb : b ≤ l) (e : v = .tup [nv p.1, .ref l]) (a : H[l]? = some (.list (nvs p.2)))
theorem srt_eq {l : List Nat} {js : List Int} (h : js.Perm (l.map hz)) (hs : js.Pairwise (· ≤ ·)) : js = (srt l).map hz := Perm_sorted (h.trans ((List.mergeSort_perm l _).map hz).symm) hs (by
  have := List.pairwise_mergeSort (le := fun a b : Nat => decide (a ≤ b)) (fun a b c h1 h2 => decide_eq_true (Nat.le_trans (of_decide_eq_true h1) (of_decide_eq_true h2))) (fun a b => by rw [Bool.or_eq_true]; exact (Nat.le_total a b).imp (fun h => decide_eq_true h) fun h => decide_eq_true h) l
  exact List.Pairwise.map _ (fun a b h => Int.ofNat_le.mpr (of_decide_eq_true h)) this)
inductive HOk (n : Nat) (hp : Hr) : Prop
  | mk (nd : (hp.map (·.1)).Nodup) (rg : ∀ h ∈ hp.map (·.1), h < n) (ln : ∀ e ∈ hp, e.2.length ≤ 42)
theorem HOk.len {n : Nat} {hp : Hr} (h : HOk n hp) : hp.length ≤ n := h.casesOn fun nd rg _ => by rw [← List.length_map (f := (·.1))]; exact nodup_bound n _ nd rg
theorem HOk.put {n : Nat} {hp : Hr} (h : HOk n hp) {k : Nat} {w : List Nat} (hk : k < n) (hw : w.length ≤ 42) : HOk n (aput hp k w) := h.casesOn fun nd rg ln => by
  refine ⟨?_, ?_, fun e he => (aput_mem he).elim (ln e) fun q => by rw [q]; exact hw⟩ <;> rw [aput_keys] <;> split
  · exact nd
  · rename_i hs
    exact List.nodup_append.mpr ⟨nd, List.nodup_cons.mpr ⟨List.not_mem_nil, List.nodup_nil⟩, fun a ha b hb e => by
      rw [List.mem_singleton.mp hb] at e
      exact hs (ahas_iff.mpr (e ▸ ha))⟩
  · exact rg
  · intro h hh
    exact (List.mem_append.mp hh).elim (rg h) fun q => by rw [List.mem_singleton.mp q]; exact hk
section
variable {scr : List Int} {n : Nat} {l k : Nat} {H : Hp} {Q X : PQ}
theorem idx_di {lw ew : Nat} {es : List (Int × V)} {s : Nat} {v : V} (h : H[lw]? = some (.dict ew es)) (e : dget es (hz s) = some v) : idxV scr (.ref lw) (nv s) H = some v := by
  show (match H[lw]?.bind asList with | some vs => seqAt vs (s : Int) | none => (H[lw]?.bind asDict).bind fun es => dget es (hz s)) = _
  rw [h]; exact e
theorem notin_di {lw ew : Nat} {es : List (Int × V)} {s : Nat} (h : H[lw]? = some (.dict ew es)) : cmpV scr .notIn (nv s) (.ref lw) H = some (!dhas es (hz s)) := by
  show Option.map _ (match H[lw]?.bind asDict with | some es => _ | none => _) = _
  rw [h]; rfl
theorem set_di {lf ef : Nat} {fs : List (Int × V)} {s : Nat} {v : V} {k : Hp → Prop} (h : H[lf]? = some (.dict ef fs)) (hs : fs.length < 16000000) (q : ∀ ep, k (H.set lf (.dict ep (dput fs (hz s) v)))) : WSet (.ref lf) (nv s) v H k := some_i h (ok_i (sz_i hs) q)
theorem eq0 {a b ea : Nat} {es : List (Int × V)} (h : H[a]? = some (.dict ea es)) (h' : H[b]? = some (.dict 0 [])) : cmpV scr .eq (.ref a) (.ref b) H = some es.isEmpty := by
  show eqV H (.ref a) (.ref b) = _
  have e1 : noneIn H (.ref a) = some es.isEmpty := by
    show (match H[a]?.bind asDict with | some es => some es.isEmpty | none => _) = _
    rw [h]; rfl
  have e2 : noneIn H (.ref b) = some true := by
    show (match H[b]?.bind asDict with | some es => some es.isEmpty | none => _) = _
    rw [h']; rfl
  unfold eqV
  rw [e1, e2]
  show (if (es.isEmpty || true) = true then some (es.isEmpty && true) else none) = _
  rw [Bool.or_true, Bool.and_true]; rfl
theorem ne0 {a b ea : Nat} {es : List ((Int × Bool) × V)} (h : H[a]? = some (.dicP ea es)) (h' : H[b]? = some (.dict 0 [])) : cmpV scr .ne (.ref a) (.ref b) H = some (!es.isEmpty) := by
  show (eqV H (.ref a) (.ref b)).map _ = _
  have e1 : noneIn H (.ref a) = some es.isEmpty := by
    show (match H[a]?.bind asDict with | some es => _ | none => (H[a]?.bind asDicP).map List.isEmpty) = _
    rw [h]; rfl
  have e2 : noneIn H (.ref b) = some true := by
    show (match H[b]?.bind asDict with | some es => some es.isEmpty | none => _) = _
    rw [h']; rfl
  unfold eqV
  rw [e1, e2]
  show (if (es.isEmpty || true) = true then some (es.isEmpty && true) else none).map _ = _
  rw [Bool.or_true, Bool.and_true]; rfl
theorem copy_di {a ea : Nat} {es : List (Int × V)} (h : H[a]? = some (.dict ea es)) : copyOf H (.ref a) = some (es.map fun p => .int p.1) := by
  show (match H[a]?.bind asDict with | some es => _ | none => _) = _
  rw [h]; rfl
theorem ints_at {a : Nat} {ls : List Nat} (h : H[a]? = some (.list (nvs ls))) : intsAt H (.ref a) = some (ls.map hz) := by
  show (lstAt H (.ref a)).bind allInts = _
  rw [lst_at h]; exact all_nv ls
theorem all2_nil {α β : Type} {R : α → β → Prop} {as : List α} {bs : List β} (h : All2 R as bs) : bs.isEmpty = as.isEmpty := h.casesOn rfl fun _ _ => rfl
theorem aput_new {A B : Type} [DecidableEq A] {ws : List (A × B)} {a : A} {b : B} (h : ahas ws a = false) : aput ws a b = ws ++ [(a, b)] := if_neg (by rw [show (ws.any fun p => decide (p.1 = a)) = false from h]; decide)
end
end Mine.L

end
section
set_option autoImplicit false
set_option linter.unusedVariables false
set_option linter.unusedSimpArgs false
set_option maxRecDepth 100000
namespace Mine.L
open Mine.P PySem
/-- between two turns of nearest -/
inductive NeI (ps : List Per) (d : Int) (k l : Nat) (tot : Hr) (H : Hp) (f : Nat) (ρ : Env') (H' : Hp) : Prop
  | mk (o6 o7 : Option V) (lw lk lh ew ek eh : Nat) (es ks : List ((Int × Bool) × V)) (hs : List (Int × V)) (kn : Kn) (ws : Ways) (hp : Hr) (L : Nat)
    (e : ρ = [some (.ref l), some (nv k), some (.int d), some (.ref lw), some (.ref lk), some (.ref lh), o6, o7])
    (x : Ext H H') (bk : H.length ≤ lk) (bh : H.length ≤ lh) (ne : lw ≠ lk)
    (aw : H'[lw]? = some (.dicP ew es)) (ak : H'[lk]? = some (.dicP ek ks)) (ah : H'[lh]? = some (.dict eh hs))
    (dw : DcAt kz (LnAt H.length H') ws es) (dk : DcAt kz (fun (_ : Unit) _ => True) kn ks) (dh : DcAt hz (LnAt H.length H') hp hs)
    (ok : WOk ps.length L (kn.map (·.1)) ws) (kr : ∀ s ∈ kn.map (·.1), s.1 < ps.length) (oh : HOk ps.length hp)
    (hf : 2 * ps.length < f + kn.length) (hL : L + f = 42) (t : nearP ps d k f kn ws hp = tot)
inductive KnI (tot : Kn) (lk : Nat) (x0 x1 x2 x3 x5 x7 : Option V) (H₁ : Hp) (as : List St) (ρ : Env') (H' : Hp) : Prop
  | mk (o6 : Option V) (ek : Nat) (ks : List ((Int × Bool) × V)) (kd : Kn) (e : ρ = [x0, x1, x2, x3, some (.ref lk), x5, o6, x7]) (x : ExtB lk H₁ H') (a : H'[lk]? = some (.dicP ek ks)) (dk : DcAt kz (fun (_ : Unit) _ => True) kd ks) (t : kd ++ as.map (fun s => (s, ())) = tot)
inductive HeI (ps : List Per) (F : Hr → St → Hr) (tot : Hr) (b lh : Nat) (x0 x1 x2 x3 x4 : Option V) (H₁ : Hp) (ss as : List St) (ρ : Env') (H' : Hp) : Prop
  | mk (o6 o7 : Option V) (eh : Nat) (hs : List (Int × V)) (hp : Hr) (e : ρ = [x0, x1, x2, x3, x4, some (.ref lh), o6, o7]) (x : ExtB lh H₁ H') (a : H'[lh]? = some (.dict eh hs)) (dh : DcAt hz (LnAt b H') hp hs) (oh : HOk ps.length hp) (t : as.foldl F hp = tot) (b : ∀ s ∈ as, s ∈ ss)
theorem getW_len {ws : Ways} {L : Nat} (h : ∀ e ∈ ws, e.2.length ≤ L) (s : St) : (getW ws s).length ≤ L := by
  unfold getW aget
  cases hf : ws.find? fun p => decide (p.1 = s) with
  | none => exact Nat.zero_le _
  | some e => exact h e (List.mem_of_find?_eq_some hf)
theorem knAll_keys (kn : Kn) (ws : Ways) : (knAll kn ws).map (·.1) = kn.map (·.1) ++ ws.map (·.1) := by
  unfold knAll; rw [List.map_append, List.map_map]; rfl
theorem all2_map {α β γ : Type} {R : β → γ → Prop} {f : α → β} {g : α → γ} : ∀ l : List α, (∀ a ∈ l, R (f a) (g a)) → All2 R (l.map f) (l.map g)
  | [], _ => .nil
  | a :: r, h => .cons (h a List.mem_cons_self) (all2_map r fun a ha => h a (.tail _ ha))
def NearK (H : Hp) (ns : List (Nat × List Nat)) (Q : PQ) : Prop := ∀ lr vs H', ns.length ≤ 20 → (∀ e ∈ ns, e.2.length ≤ 42) → H.length ≤ lr → Ext H H' → H'[lr]? = some (.list vs) → All2 (NrAt H.length H') ns vs → Q (.ref lr) H'
section
variable {scr : List Int} {n : Nat} {l k : Nat} {H : Hp} {Q X : PQ}
theorem w_nearest {d : Int} {ps : List Per} (hW : WfP ps) (hl : ps.length ≤ 20) {p : Per} (hp : ps[k]? = some p) (hA : H[l]? = some (.list (ps.map perV))) (q : NearK H (nearL ps d k) Q) : callX ⟨scr, pgks, pfns⟩ (n + 5) i_nearest [.ref l, nv k, .int d] H Q X := c_nearest (by
  have hkn := (List.getElem?_eq_some_iff.mp hp).1
  refine And.intro (at_app _ (at_new _ _)) fun ep => ?_
  generalize hH2 : (H ++ [Cell.dicP 0 []] ++ [Cell.list [nv k]]).set H.length (.dicP ep [(kz (k, false), .ref (H ++ [Cell.dicP 0 []]).length)]) = H₂
  have x₂ : Ext H H₂ := by rw [← hH2]; exact ((Ext.app _ _).trans (Ext.app _ _)).set (Nat.le_refl _) _
  have a₂ : H₂[H.length]? = some (.dicP ep [(kz (k, false), .ref (H ++ [Cell.dicP 0 []]).length)]) := by rw [← hH2]; exact at_set (at_app _ (at_new _ _)) _
  have hn1 : H.length < (H ++ [Cell.dicP 0 []]).length := by rw [List.length_append]; exact Nat.lt_succ_self _
  have b₂ : H₂[(H ++ [Cell.dicP 0 []]).length]? = some (.list (nvs [k])) := by rw [← hH2]; exact at_ne (at_new _ _) _ (Nat.ne_of_lt hn1)
  have len₂ := at_lt a₂
  have x₃ : Ext H₂ (H₂ ++ [Cell.dicP 0 []] ++ [Cell.dict 0 []]) := (Ext.app _ _).trans (Ext.app _ _)
  refine while_inv (NeI ps d k l (nearP ps d k 41 [] [((k, false), [k])] []) H) (fun f ρ H' h T ht hfa => ?_) _ 41 _ _ (show 41 < (k : Int).natAbs + (d.natAbs + 1000) by (first | lia | omega)) ⟨none, none, H.length, H₂.length, (H₂ ++ [Cell.dicP 0 []]).length, ep, 0, 0, _, [], [], [], [((k, false), [k])], [], 1, rfl, x₂.trans x₃, Nat.le_of_lt len₂, Nat.le_trans (Nat.le_of_lt len₂) (by rw [List.length_append]; exact Nat.le_add_right _ _), Nat.ne_of_lt len₂, x₃ _ _ a₂, at_app _ (at_new _ _), at_new _ _, .cons ⟨rfl, ⟨_, Nat.le_of_lt hn1, rfl, x₃ _ _ b₂⟩⟩ .nil, .nil, .nil, ⟨List.nodup_cons.mpr ⟨List.not_mem_nil, List.nodup_nil⟩, fun e he => by rw [List.mem_singleton.mp he]; exact hkn, fun e he => by rw [List.mem_singleton.mp he]; exact Nat.le_refl 1⟩, fun s h => (nomatch h), ⟨List.nodup_nil, fun s h => (nomatch h), fun s h => (nomatch h)⟩, by show 2 * ps.length < 41 + 0; (first | lia | omega), rfl, rfl⟩
  refine h.casesOn fun o6 o7 lw lk lh ew ek eh es ks hs kn ws hp L e x bk bh ne aw ak ah dw dk dh ok kr oh hf hL t => ?_
  subst e
  have done : hp = nearP ps d k 41 [] [((k, false), [k])] [] → ∀ H'', Ext H' H'' → WSs ⟨scr, pgks, callX ⟨scr, pgks, pfns⟩ (n + 4), fun _ _ _ => False⟩ (pb_nearest.drop 4) [some (.ref l), some (nv k), some (.int d), some (.ref lw), some (.ref lk), some (.ref lh), o6, o7] H'' (retK Q) := fun ht' H'' x'' => by
    have ah'' := x'' _ _ ah
    have hlen : (hp.map (·.1)).length ≤ 20 := by rw [List.length_map]; exact Nat.le_trans oh.len hl
    apply some_i (copy_di ah'')
    rw [dh.keys (g := V.int)]
    refine ok_i (sz_i (by rw [List.length_map]; exact Nat.lt_of_le_of_lt hlen (by decide))) ?_
    apply some_i (ints_at (ls := hp.map (·.1)) (at_new _ _))
    refine And.intro (by rw [List.length_map]; exact Nat.lt_of_le_of_lt hlen (by decide)) fun js hj hs' => ?_
    rw [srt_eq hj hs']
    apply some_i (keys_at (scr := scr) (at_new _ _))
    have hsl : (srt (hp.map (·.1))).length ≤ 20 := Nat.le_trans (Nat.le_of_eq (List.mergeSort_perm _ _).length_eq) hlen
    refine ok_i (sz_i (by rw [List.length_map, List.length_map]; exact Nat.lt_of_le_of_lt hsl (by decide))) ?_
    show compW _ _ _ _ _ (((srt (hp.map (·.1))).map hz).map V.int) _ _ _ _
    rw [List.map_map]
    have get : ∀ h ∈ srt (hp.map (·.1)), ∃ v, dget hs (hz h) = some v ∧ LnAt H.length H' (getH hp h) v := fun h hh => (dh.get hz_inj h (ahas_iff.mpr ((List.mergeSort_perm _ _).mem_iff.mp hh))).elim fun w hw => hw.elim fun v hv => ⟨v, hv.2.1, by unfold getH; rw [hv.1]; exact hv.2.2⟩
    refine comp_pf (P := fun _ => true) (F := fun h => .tup [nv h, (dget hs (hz h)).getD .none]) _ _ _ (fun a _ T h => h) (fun h hh _ N hN => (get h hh).elim fun v hv => ?_) ?_
    · refine some_i (idx_di (scr := scr) (at_app _ (at_app _ ah'')) hv.1) ?_
      rw [hv.1] at hN
      exact hN
    · rw [filter_true]
      have xx : ∀ a b c : List Cell, Ext H' (H'' ++ a ++ b ++ c) := fun a b c => x''.trans ((Ext.app H'' a).trans ((Ext.app _ b).trans (Ext.app _ c)))
      have hlr : ∀ a b : List Cell, H.length ≤ (H'' ++ a ++ b).length := fun a b => ((x.trans x'').trans ((Ext.app H'' a).trans (Ext.app _ b))).len
      have hnl : nearL ps d k = (srt (hp.map (·.1))).map fun h => (h, getH hp h) := by unfold nearL; rw [← ht']
      rw [hnl] at q
      refine q _ _ _ (by rw [List.length_map]; exact hsl) (fun e he => (List.mem_map.mp he).elim fun h hh => hh.2 ▸ ?_) (hlr _ _) (x.trans (xx _ _ _)) (at_new _ _) ?_
      · show (getH hp h).length ≤ 42
        unfold getH aget
        cases hf : hp.find? fun p => decide (p.1 = h) with
        | none => exact Nat.zero_le _
        | some e => exact oh.casesOn fun _ _ ln => ln e (List.mem_of_find?_eq_some hf)
      · exact all2_map _ fun h hh => (get h hh).elim fun v hv => hv.2.casesOn fun lv hb ev av => ⟨lv, hb, by rw [hv.1, ev]; rfl, xx _ _ _ _ _ av⟩
  cases f with
  | zero => exact absurd (keys_bound (ok.casesOn fun nd _ _ => (List.nodup_append.mp nd).1) kr) (by rw [List.length_map]; (first | lia | omega))
  | succ f =>
    have t' : (if hp.isEmpty && !ws.isEmpty then nearP ps d k f (knAll kn ws) (waysAll ps d (knAll kn ws) ws) (((waysAll ps d (knAll kn ws) ws).map (·.1)).foldl (heirStep ps d k (waysAll ps d (knAll kn ws) ws)) hp) else hp) = _ := t
    apply some_i (eq0 (scr := scr) (at_app [.dict 0 []] ah) (at_new H' (.dict 0 [])))
    rw [all2_nil dh]
    refine if_t (fun h1 => ?_) fun h1 => ?_
    · apply some_i (ne0 (scr := scr) (at_app _ (at_app [.dict 0 []] aw)) (at_new _ _))
      rw [all2_nil dw]
      rw [h1, Bool.true_and] at t'
      show T (!ws.isEmpty) _
      cases hw : !ws.isEmpty with
      | false =>
        rw [hw] at t'
        exact hfa _ (done t' _ ((Ext.app _ _).trans (Ext.app _ _)))
      | true =>
        rw [hw] at t'
        refine ht _ fun N hN => ?_
        have xb : Ext H' (H' ++ [Cell.dict 0 []] ++ [Cell.dict 0 []]) := (Ext.app _ _).trans (Ext.app _ _)
        generalize H' ++ [Cell.dict 0 []] ++ [Cell.dict 0 []] = Hb at xb ⊢
        have aw2 := xb _ _ aw
        have nd2 : ((knAll kn ws).map (·.1)).Nodup := by rw [knAll_keys]; exact ok.casesOn fun nd _ _ => nd
        have rg2 : ∀ s ∈ (knAll kn ws).map (·.1), s.1 < ps.length := by
          rw [knAll_keys]
          exact fun s hs => (List.mem_append.mp hs).elim (kr s) fun h => (List.mem_map.mp h).elim fun e he => he.2 ▸ ok.casesOn fun _ rg _ => rg e he.1
        have len2 : (knAll kn ws).length ≤ 40 := by rw [← List.length_map (f := (·.1))]; exact Nat.le_trans (keys_bound nd2 rg2) (Nat.mul_le_mul_left 2 hl)
        have nkh : lh ≠ lk := fun e => by rw [e, ak] at ah; cases ah
        apply some_i (keys_dp (scr := scr) aw2)
        rw [dw.keys]
        refine for_as (KnI (knAll kn ws) lk (some (.ref l)) (some (nv k)) (some (.int d)) (some (.ref lw)) (some (.ref lh)) o7 Hb) (fun s as ρ H₃ h => ?_) (fun ρ H₃ h => ?_) _ _ _ ⟨o6, ek, ks, kn, rfl, ExtB.refl _ _, xb _ _ ak, dk, by unfold knAll; rw [List.map_map]; rfl⟩
        · refine h.casesOn fun o6 ek ks kd e x3 a dk t => ?_
          subst e
          refine fun N' hN' => ?_
          have hs : ahas kd s = false := by
            cases h : ahas kd s with
            | false => rfl
            | true =>
              rw [← t, List.map_append] at nd2
              exact absurd rfl ((List.nodup_append.mp nd2).2.2 s (ahas_iff.mp h) s List.mem_cons_self)
          exact set_dp a (by rw [All2.len dk]; exact app_lt t (Nat.le_trans len2 (by decide))) fun ep => hN' _ _ (stands1 aw2 ((x3.trans (ExtB.set _ _ _)) _ _ ne aw2)) ⟨_, ep, _, kd ++ [(s, ())], rfl, x3.trans (ExtB.set _ _ _), at_set a _, by rw [← aput_new hs]; exact DcAt.put kz_inj dk trivial, snoc_eq t⟩
        · refine h.casesOn fun o6 ek ks kd e x3 a dk t => ?_
          subst e
          rw [List.map_nil, List.append_nil] at t
          subst t
          have xH3 : Ext H H₃ := x3.ext (x.trans xb) bk
          have up : ∀ {w v}, LnAt H.length H' w v → LnAt H.length H₃ w v := fun h => (h.ext xb).set (xb _ _ ak) (fun vs h => nomatch h) x3
          refine ok.casesOn fun nd rg ln => ?_
          refine call_i (w_further (n := n) hW hl (L := L) (Nat.le_trans (Nat.le_trans (Nat.le_add_right L _) (Nat.le_of_eq hL)) (by decide)) (xH3 _ _ hA) a dk (x3 _ _ ne aw2) (dw.imp fun _ _ h => up h) xH3.len nd2 rg (getW_len ln) fun lf ef fs H₄ x₄ blf af df okf => ?_)
          generalize hWd : (List.map (·.1) ws).foldl (furtherP ps d (knAll kn ws) ws) [] = W at df okf
          rw [show waysAll ps d (knAll kn ws) ws = W from hWd] at t'
          have x4H := xH3.trans x₄
          apply some_i (keys_dp (scr := scr) af)
          rw [df.keys]
          have klt := Nat.lt_of_lt_of_le (at_lt a) blf
          refine for_as (HeI ps (heirStep ps d k W) ((W.map (·.1)).foldl (heirStep ps d k W) hp) H.length lh (some (.ref l)) (some (nv k)) (some (.int d)) (some (.ref lf)) (some (.ref lk)) H₄ (W.map (·.1))) (fun s as ρ H₅ h => ?_) (fun ρ H₅ h => ?_) _ _ _ ⟨o6, o7, eh, hs, hp, rfl, ExtB.refl _ _, x₄ _ _ (x3 _ _ nkh (xb _ _ ah)), dh.imp fun _ _ h => (up h).ext x₄, oh, rfl, fun s h => h⟩
          · refine h.casesOn fun o6 o7 eh hs hp e x5 ah5 dh5 oh t bs => ?_
            subst e
            refine fun N' hN' => ?_
            have hs1 : s.1 < ps.length := (List.mem_map.mp (bs s List.mem_cons_self)).elim fun e he => he.2 ▸ okf.casesOn fun _ rg _ => rg e he.1
            refine (at_of hs1).elim fun p' hp' => ?_
            have x5H : Ext H H₅ := x5.ext x4H bh
            have nfh : lf ≠ lh := fun e => by rw [e, x₄ _ _ (x3 _ _ nkh (xb _ _ ah))] at af; cases af
            have af5 := x5 _ _ nfh af
            have st : ∀ c, stands [lf] H₄ (H₅.set lh c) = true := fun c => stands1 af ((x5.trans (ExtB.set _ _ c)) _ _ nfh af)
            refine (df.get kz_inj s (ahas_iff.mpr (bs s List.mem_cons_self))).elim fun w hw => hw.elim fun wv hw => ?_
            have gw : getW W s = w := by unfold getW; rw [hw.1]; rfl
            have lw5 : LnAt H.length H₅ w wv := hw.2.2.set (x₄ _ _ (x3 _ _ nkh (xb _ _ ah))) (fun vs h => nomatch h) x5
            rw [List.foldl_cons] at t
            have bs' : ∀ s ∈ as, s ∈ W.map (·.1) := fun s h => bs s (.tail _ h)
            have yes : (neB k s.1 && (livesP p' d && (!ahas hp s.1 || ltW w (getH hp s.1)))) = true → wSome (idxV scr (.ref lf) (sv s) H₅) fun v => WSet (.ref lh) (nv s.1) v H₅ fun H' => N' [some (.ref l), some (nv k), some (.int d), some (.ref lf), some (.ref lk), some (.ref lh), some (sv s), some (nv s.1)] H' := fun hc => by
              refine some_i (idx_dp af5 hw.2.1) (set_di ah5 (by rw [All2.len dh5]; exact Nat.lt_of_le_of_lt (Nat.le_trans oh.len hl) (by decide)) fun ep => ?_)
              have x6 := ExtB.set lh H₅ (.dict ep (dput hs (hz s.1) wv))
              refine hN' _ _ (st _) ⟨_, _, ep, _, aput hp s.1 w, rfl, x5.trans x6, at_set ah5 _, DcAt.put hz_inj (dh5.imp fun _ _ h => h.set ah5 (fun vs h => nomatch h) x6) (lw5.set ah5 (fun vs h => nomatch h) x6), oh.put hs1 (by rw [← gw]; exact getW_len (okf.casesOn fun _ _ ln => fun e he => Nat.le_trans (ln e he) (by (first | lia | omega))) s), ?_, bs'⟩
              rw [show heirStep ps d k W hp s = aput hp s.1 w by unfold heirStep; rw [gw, lv_at hp', if_pos hc]] at t
              exact t
            have no : (neB k s.1 && (livesP p' d && (!ahas hp s.1 || ltW w (getH hp s.1)))) = false → N' [some (.ref l), some (nv k), some (.int d), some (.ref lf), some (.ref lk), some (.ref lh), some (sv s), some (nv s.1)] H₅ := fun hc => by
              refine hN' _ _ (stands1 af af5) ⟨_, _, eh, hs, hp, rfl, x5, ah5, dh5, oh, ?_, bs'⟩
              rw [show heirStep ps d k W hp s = hp by unfold heirStep; rw [gw, lv_at hp', if_neg (by rw [hc]; decide)]] at t
              exact t
            show wIf (neB k s.1 == true) _ _
            refine if_t (fun h1 => ?_) fun h1 => if_ff h1 (no (by rw [h1]; rfl))
            rw [h1, Bool.true_and] at yes no
            refine call_i (w_lives (x5H _ _ hA) hp' ?_)
            show wIf (livesP p' d == true) _ _
            refine if_t (fun h2 => ?_) fun h2 => if_ff h2 (no (by rw [h2]; rfl))
            rw [h2, Bool.true_and] at yes no
            apply some_i (notin_di (scr := scr) (s := s.1) ah5)
            rw [dh5.has hz_inj]
            refine if_f (fun h3 => ?_) fun h3 => if_tt h3 (yes (by rw [h3]; rfl))
            rw [h3, Bool.false_or] at yes no
            refine (dh5.get hz_inj s.1 (Bool.not_eq_false' .. |>.mp h3)).elim fun w' hw' => hw'.elim fun wv' hw' => ?_
            have gw' : getH hp s.1 = w' := by unfold getH; rw [hw'.1]; rfl
            rw [gw'] at yes no
            apply some_i (idx_dp (scr := scr) af5 hw.2.1)
            apply some_i (idx_di (scr := scr) ah5 hw'.2.1)
            refine lw5.casesOn fun la _ ea aa => ?_
            refine hw'.2.2.casesOn fun lb _ eb ab => ?_
            rw [ea, eb]
            apply some_i (lt_at (scr := scr) aa ab)
            exact if_i yes no
          · refine h.casesOn fun o6 o7 eh hs hp e x5 ah5 dh5 oh t bs => ?_
            subst e
            rw [List.foldl_nil] at t
            rw [← t] at t'
            have lkh : lk ≠ lh := fun e => nkh e.symm
            have a5 := x5 _ _ lkh (x₄ _ _ a)
            have nfh : lf ≠ lh := fun e => by rw [e, x₄ _ _ (x3 _ _ nkh (xb _ _ ah))] at af; cases af
            exact hN f _ _ (Nat.lt_succ_self f) ⟨o6, o7, lf, lk, lh, ef, _, eh, fs, _, hs, knAll kn ws, W, hp, L + 1, rfl, x5.ext x4H bh, bk, bh, Nat.ne_of_gt klt, x5 _ _ nfh af, a5, ah5, df.imp fun _ _ h => h.set (x₄ _ _ (x3 _ _ nkh (xb _ _ ah))) (fun vs h => nomatch h) x5, dk, dh5, okf, rg2, oh, by
              have : 1 ≤ ws.length := by
                cases ws with
                | nil => cases hw
                | cons a r => exact Nat.le_add_left _ _
              unfold knAll
              rw [List.length_append, List.length_map]
              (first | lia | omega), by (first | lia | omega), t'⟩
    · rw [h1, Bool.false_and] at t'
      show T hp.isEmpty _
      rw [h1]
      exact hfa _ (done t' _ (Ext.app _ _)))
end
end Mine.L

end
section
set_option autoImplicit false
set_option linter.unusedVariables false
set_option linter.unusedSimpArgs false
set_option maxRecDepth 100000
namespace Mine.L
open Mine.P PySem
/-! the order of ways -/
theorem lt_cons {a b : Nat} {r t : List Nat} : ltW (a :: r) (b :: t) = true ↔ a < b ∨ (a = b ∧ ltW r t = true) := by
  show (if (a : Int) = b then ltW r t else decide ((a : Int) < b)) = true ↔ _
  split
  · rename_i h
    have h := Int.ofNat.inj h
    exact ⟨fun q => .inr ⟨h, q⟩, fun q => q.elim (fun q => absurd h (Nat.ne_of_lt q)) fun q => q.2⟩
  · rename_i h
    exact ⟨fun q => .inl (Int.ofNat_lt.mp (of_decide_eq_true q)), fun q => q.elim (fun q => decide_eq_true (Int.ofNat_lt.mpr q)) fun q => absurd (congrArg Int.ofNat q.1) h⟩
theorem lt_irr : ∀ a : List Nat, ¬ ltW a a = true
  | [] => Bool.false_ne_true
  | a :: r => fun h => (lt_cons.mp h).elim (Nat.lt_irrefl a) fun h => lt_irr r h.2
theorem lt_tr : ∀ {a b c : List Nat}, ltW a b = true → ltW b c = true → ltW a c = true
  | [], [], _, h, _ => absurd h Bool.false_ne_true
  | _ :: _, [], _, h, _ => absurd h Bool.false_ne_true
  | _, _ :: _, [], _, h => absurd h Bool.false_ne_true
  | [], _ :: _, _ :: _, _, _ => rfl
  | _ :: _, _ :: _, _ :: _, h, h' => lt_cons.mpr ((lt_cons.mp h).elim (fun h => (lt_cons.mp h').elim (fun h' => .inl (Nat.lt_trans h h')) fun h' => .inl (h'.1 ▸ h)) fun h => (lt_cons.mp h').elim (fun h' => .inl (h.1 ▸ h')) fun h' => .inr ⟨h.1.trans h'.1, lt_tr h.2 h'.2⟩)
theorem lt_tot : ∀ a b : List Nat, ltW a b = true ∨ a = b ∨ ltW b a = true
  | [], [] => .inr (.inl rfl)
  | [], _ :: _ => .inl rfl
  | _ :: _, [] => .inr (.inr rfl)
  | a :: r, b :: t => (Nat.lt_trichotomy a b).elim (fun h => .inl (lt_cons.mpr (.inl h))) fun h => h.elim (fun h => (lt_tot r t).elim (fun q => .inl (lt_cons.mpr (.inr ⟨h, q⟩))) fun q => .inr (q.elim (fun q => .inl (by rw [h, q])) fun q => .inr (lt_cons.mpr (.inr ⟨h.symm, q⟩)))) fun h => .inr (.inr (lt_cons.mpr (.inl h)))
theorem lt_snoc (x y : Nat) : ∀ {a b : List Nat}, a.length = b.length → ltW a b = true → ltW (a ++ [x]) (b ++ [y]) = true
  | [], [], _, h => absurd h Bool.false_ne_true
  | _ :: _, [], e, _ => nomatch e
  | [], _ :: _, e, _ => nomatch e
  | _ :: _, _ :: _, e, h => lt_cons.mpr ((lt_cons.mp h).imp id fun h => ⟨h.1, lt_snoc x y (Nat.succ.inj e) h.2⟩)
theorem lt_last {x y : Nat} : ∀ {a : List Nat}, ltW (a ++ [x]) (a ++ [y]) = true → x < y
  | [], h => (lt_cons.mp h).elim id fun h => absurd h.2 Bool.false_ne_true
  | _ :: _, h => (lt_cons.mp h).elim (fun h => absurd h (Nat.lt_irrefl _)) fun h => lt_last h.2

/-! walks -/
section
variable (F : St → List St) (s0 : St)
/-- w: whom a walk of n steps to t meets -/
def Wk : Nat → List Nat → St → Prop
  | 0, w, t => w = [s0.1] ∧ t = s0
  | n + 1, w, t => ∃ s w0, Wk n w0 s ∧ t ∈ F s ∧ w = w0 ++ [t.1]
def Rc (n : Nat) (t : St) : Prop := ∃ w, Wk F s0 n w t
/-- reached in fewer steps -/
def Bf (n : Nat) (t : St) : Prop := ∃ m, m < n ∧ Rc F s0 m t
/-- the least way of n steps to t -/
def LW (n : Nat) (t : St) (w : List Nat) : Prop := Wk F s0 n w t ∧ ∀ w', Wk F s0 n w' t → ¬ ltW w' w = true
/-- the least way of n steps to one, falling or not -/
def LH (n : Nat) (h : Nat) (w : List Nat) : Prop := (∃ b, Wk F s0 n w (h, b)) ∧ ∀ b w', Wk F s0 n w' (h, b) → ¬ ltW w' w = true
end
section
variable {F : St → List St} {s0 : St}
theorem Wk.len : ∀ {n : Nat} {w : List Nat} {t : St}, Wk F s0 n w t → w.length = n + 1
  | 0, _, _, h => by rw [h.1]; rfl
  | n + 1, _, _, h => h.elim fun s h => h.elim fun w0 h => by rw [h.2.2, List.length_append, h.1.len]; rfl
theorem Rc.step {n : Nat} {s t : St} (h : Rc F s0 n s) (ht : t ∈ F s) : Rc F s0 (n + 1) t := h.elim fun w h => ⟨w ++ [t.1], s, w, h, ht, rfl⟩
theorem Bf.step {n : Nat} {s t : St} (h : Bf F s0 n s) (ht : t ∈ F s) : Bf F s0 (n + 1) t := h.elim fun m h => ⟨m + 1, Nat.succ_lt_succ h.1, h.2.step ht⟩
theorem Bf.succ {n : Nat} {s : St} : Bf F s0 (n + 1) s ↔ Bf F s0 n s ∨ Rc F s0 n s := ⟨fun h => h.elim fun m h => (Nat.lt_or_eq_of_le (Nat.le_of_lt_succ h.1)).elim (fun q => .inl ⟨m, q, h.2⟩) fun q => .inr (q ▸ h.2), fun h => h.elim (fun h => h.elim fun m h => ⟨m, Nat.lt_succ_of_lt h.1, h.2⟩) fun h => ⟨n, Nat.lt_succ_self n, h⟩⟩
theorem Rc.range {N : Nat} (h0 : s0.1 < N) (hF : ∀ s t, t ∈ F s → t.1 < N) : ∀ {n : Nat} {t : St}, Rc F s0 n t → t.1 < N
  | 0, _, h => h.elim fun w h => h.2 ▸ h0
  | n + 1, _, h => h.elim fun w h => h.elim fun s h => h.elim fun w0 h => hF s _ h.2.1
/-- the least way, by the one ahead -/
theorem le_snoc {n : Nat} {a g m : List Nat} {x : Nat} (e : a.length = g.length) (h1 : ¬ ltW a g = true) (h2 : ¬ ltW (g ++ [x]) m = true) : ¬ ltW (a ++ [x]) m = true := fun q => (lt_tot a g).elim h1 fun h => h.elim (fun h => h2 (h ▸ q)) fun h => h2 (lt_tr (lt_snoc x x e.symm h) q)
end

/-! tables of the least -/
section
variable {A : Type} [DecidableEq A]
theorem aput_mem' {B : Type} {f : List (A × B)} {a : A} {b : B} {p : A × B} (h : p ∈ aput f a b) : (p ∈ f ∧ p.1 ≠ a) ∨ p = (a, b) := by
  unfold aput at h
  split at h
  · obtain ⟨q, hq, e⟩ := List.mem_map.mp h
    split at e
    · rename_i h1; exact .inr (by rw [← e, h1])
    · rename_i h1; exact .inl (e ▸ ⟨hq, h1⟩)
  · rename_i hn
    exact (List.mem_append.mp h).imp (fun h => ⟨h, fun e => hn (List.any_eq_true.mpr ⟨p, h, decide_eq_true e⟩)⟩) List.mem_singleton.mp
theorem aget_mem {B : Type} {f : List (A × B)} {a : A} (h : a ∈ f.map (·.1)) : ∃ b, aget f a = some b ∧ (a, b) ∈ f := by
  unfold aget
  cases hf : f.find? fun p => decide (p.1 = a) with
  | none => exact (List.mem_map.mp h).elim fun p hp => absurd (decide_eq_true hp.2) (List.find?_eq_none.mp hf p hp.1)
  | some p =>
    have h2 := List.find?_some hf
    have e : (a, p.2) = p := Prod.ext (of_decide_eq_true h2).symm rfl
    exact ⟨p.2, rfl, by rw [e]; exact List.mem_of_find?_eq_some hf⟩
omit [DecidableEq A] in
theorem uniq {B : Type} : ∀ {f : List (A × B)} {e e' : A × B}, (f.map (·.1)).Nodup → e ∈ f → e' ∈ f → e.1 = e'.1 → e = e'
  | p :: f, e, e', hn, h, h', he => by
    have hn := List.nodup_cons.mp hn
    rcases List.mem_cons.mp h with q | q <;> rcases List.mem_cons.mp h' with q' | q'
    · rw [q, q']
    · exact absurd (List.mem_map.mpr ⟨e', q', by rw [← he, q]⟩) hn.1
    · exact absurd (List.mem_map.mpr ⟨e, q, by rw [he, q']⟩) hn.1
    · exact uniq hn.2 q q' he
noncomputable def put1 (P : Bool) (f : List (A × List Nat)) (a : A) (b : List Nat) : List (A × List Nat) := if P && (!ahas f a || ltW b ((aget f a).getD [])) then aput f a b else f
/-- of each key the least that C allows -/
inductive Best (C : A → List Nat → Prop) (f : List (A × List Nat)) : Prop
  | mk (nd : (f.map (·.1)).Nodup) (has : ∀ a, a ∈ f.map (·.1) ↔ ∃ b, C a b) (get : ∀ e ∈ f, C e.1 e.2 ∧ ∀ b, C e.1 b → ¬ ltW b e.2 = true)
omit [DecidableEq A] in
theorem Best.congr {C C' : A → List Nat → Prop} {f : List (A × List Nat)} (h : Best C f) (e : ∀ a b, C a b ↔ C' a b) : Best C' f := by
  have : C = C' := funext fun a => funext fun b => propext (e a b)
  rw [← this]; exact h
theorem Best.one {C : A → List Nat → Prop} {f : List (A × List Nat)} (h : Best C f) (P : Bool) (a : A) (b : List Nat) : Best (fun a' b' => C a' b' ∨ (P = true ∧ a' = a ∧ b' = b)) (put1 P f a b) := by
  unfold put1
  cases P with
  | false => exact h.congr fun a b => ⟨.inl, fun h => h.elim id fun h => absurd h.1 Bool.false_ne_true⟩
  | true =>
    refine h.casesOn fun nd has get => ?_
    rw [Bool.true_and]
    cases ha : ahas f a with
    | false =>
      have hn : a ∉ f.map (·.1) := fun m => by rw [ahas_iff.mpr m] at ha; cases ha
      refine ⟨?_, fun a' => ?_, fun e he => (aput_mem' he).elim (fun he => ⟨.inl (get e he.1).1, fun b' hb => hb.elim ((get e he.1).2 b') fun hb => absurd hb.2.1 he.2⟩) fun he => ?_⟩
      · show ((aput f a b).map (·.1)).Nodup
        rw [aput_keys, ha]
        exact List.nodup_append.mpr ⟨nd, List.nodup_cons.mpr ⟨List.not_mem_nil, List.nodup_nil⟩, fun x hx y hy e => hn (by rw [List.mem_singleton.mp hy] at e; exact e ▸ hx)⟩
      · show a' ∈ (aput f a b).map (·.1) ↔ _
        rw [aput_keys, ha]
        exact ⟨fun h => (List.mem_append.mp h).elim (fun h => ((has a').mp h).elim fun b h => ⟨b, .inl h⟩) fun h => ⟨b, .inr ⟨rfl, List.mem_singleton.mp h, rfl⟩⟩, fun h => List.mem_append.mpr (h.elim fun b h => h.elim (fun h => .inl ((has a').mpr ⟨b, h⟩)) fun h => .inr (List.mem_singleton.mpr h.2.1))⟩
      · rw [he]
        exact ⟨.inr ⟨rfl, rfl, rfl⟩, fun b' hb => hb.elim (fun hb => absurd ((has a).mpr ⟨b', hb⟩) hn) fun hb => by rw [hb.2.2]; exact lt_irr b⟩
    | true =>
      refine (aget_mem (ahas_iff.mp ha)).elim fun m hm => ?_
      rw [hm.1]
      show Best _ (if ltW b m = true then _ else _)
      split
      · rename_i hlt
        refine ⟨?_, fun a' => ?_, fun e he => (aput_mem' he).elim (fun he => ⟨.inl (get e he.1).1, fun b' hb => hb.elim ((get e he.1).2 b') fun hb => absurd hb.2.1 he.2⟩) fun he => ?_⟩
        · rw [aput_keys, ha]; exact nd
        · rw [aput_keys, ha]
          exact ⟨fun h => ((has a').mp h).elim fun b h => ⟨b, .inl h⟩, fun h => h.elim fun b h => h.elim (fun h => (has a').mpr ⟨b, h⟩) fun h => by rw [h.2.1]; exact ahas_iff.mp ha⟩
        · rw [he]
          exact ⟨.inr ⟨rfl, rfl, rfl⟩, fun b' hb => hb.elim (fun hb q => (get _ hm.2).2 b' hb (lt_tr q hlt)) fun hb => by rw [hb.2.2]; exact lt_irr b⟩
      · rename_i hlt
        refine ⟨nd, fun a' => ⟨fun h => ((has a').mp h).elim fun b h => ⟨b, .inl h⟩, fun h => h.elim fun b h => h.elim (fun h => (has a').mpr ⟨b, h⟩) fun h => by rw [h.2.1]; exact ahas_iff.mp ha⟩, fun e he => ⟨.inl (get e he).1, fun b' hb => hb.elim ((get e he).2 b') fun hb => ?_⟩⟩
        rw [hb.2.2, uniq nd he hm.2 hb.2.1]; exact hlt
omit [DecidableEq A] in
theorem Best.fold {ι : Type} {D : ι → A → List Nat → Prop} {g : List (A × List Nat) → ι → List (A × List Nat)} (h : ∀ i C f, Best C f → Best (fun a b => C a b ∨ D i a b) (g f i)) : ∀ (is : List ι) (C : A → List Nat → Prop) (f : List (A × List Nat)), Best C f → Best (fun a b => C a b ∨ ∃ i, i ∈ is ∧ D i a b) (is.foldl g f)
  | [], C, f, hf => hf.congr fun a b => ⟨.inl, fun h => h.elim id fun h => h.elim fun i h => nomatch h.1⟩
  | i :: is, C, f, hf => (Best.fold h is _ _ (h i C f hf)).congr fun a b => ⟨fun q => q.elim (fun q => q.imp id fun q => ⟨i, List.mem_cons_self, q⟩) fun q => .inr (q.elim fun j q => ⟨j, .tail _ q.1, q.2⟩), fun q => q.elim (fun q => .inl (.inl q)) fun q => q.elim fun j q => (List.mem_cons.mp q.1).elim (fun e => .inl (.inr (e ▸ q.2))) fun m => .inr ⟨j, m, q.2⟩⟩
omit [DecidableEq A] in
theorem Best.nil : Best (fun (_ : A) _ => False) [] := ⟨List.nodup_nil, fun a => ⟨fun h => (nomatch h), fun h => h.elim fun _ h => h.elim⟩, fun e he => nomatch he⟩
end
end Mine.L

end
section
set_option autoImplicit false
set_option linter.unusedVariables false
set_option linter.unusedSimpArgs false
set_option maxRecDepth 100000
namespace Mine.L
open Mine.P PySem
theorem getW_mem {ws : Ways} {s : St} (h : s ∈ ws.map (·.1)) : (s, getW ws s) ∈ ws := (aget_mem h).elim fun b hb => by unfold getW; rw [hb.1]; exact hb.2
theorem getH_mem {hp : Hr} {s : Nat} (h : s ∈ hp.map (·.1)) : (s, getH hp s) ∈ hp := (aget_mem h).elim fun b hb => by unfold getH; rw [hb.1]; exact hb.2
theorem steps_at {ps : List Per} (hW : WfP ps) {d : Int} (s o : St) (h : o ∈ stepsAt ps d s) : o.1 < ps.length := by
  unfold stepsAt at h
  cases hp : ps[s.1]? with
  | none => rw [hp] at h; cases h
  | some p => rw [hp] at h; exact steps_in hW hp o h
section
variable {ps : List Per} {d : Int} {k : Nat}
/-- the ways after n turns -/
inductive Inv (F : St → List St) (s0 : St) (n : Nat) (kn : Kn) (ws : Ways) : Prop
  | mk (kd : (kn.map (·.1)).Nodup) (k1 : ∀ s, s ∈ kn.map (·.1) ↔ Bf F s0 n s) (w1 : ∀ s, s ∈ ws.map (·.1) ↔ Rc F s0 n s ∧ ¬ Bf F s0 n s) (wd : (ws.map (·.1)).Nodup) (w2 : ∀ e ∈ ws, LW F s0 n e.1 e.2) (ln : n ≤ kn.length)
theorem further_best (kn : Kn) (ws : Ways) : Best (fun o b => False ∨ ∃ s, s ∈ ws.map (·.1) ∧ ∃ o', o' ∈ stepsAt ps d s ∧ (!ahas kn o') = true ∧ o = o' ∧ b = getW ws s ++ [o'.1]) (waysAll ps d kn ws) := 
  Best.fold (D := fun s o b => ∃ o', o' ∈ stepsAt ps d s ∧ (!ahas kn o') = true ∧ o = o' ∧ b = getW ws s ++ [o'.1]) (fun s C f hf => Best.fold (D := fun o' o b => (!ahas kn o') = true ∧ o = o' ∧ b = getW ws s ++ [o'.1]) (fun o' C f hf => hf.one (!ahas kn o') o' (getW ws s ++ [o'.1])) (stepsAt ps d s) C f hf) _ _ _ Best.nil
theorem Inv.step {n : Nat} {kn : Kn} {ws : Ways} {s0 : St} (h : Inv (stepsAt ps d) s0 n kn ws) (he : ws ≠ []) : Inv (stepsAt ps d) s0 (n + 1) (knAll kn ws) (waysAll ps d (knAll kn ws) ws) := h.casesOn fun kd k1 w1 wd w2 ln => by
  have k1' : ∀ s, s ∈ (knAll kn ws).map (·.1) ↔ Bf (stepsAt ps d) s0 (n + 1) s := fun s => by
    rw [knAll_keys, List.mem_append, k1, w1, Bf.succ]
    exact ⟨fun h => h.imp id fun h => h.1, fun h => (Classical.em (Bf (stepsAt ps d) s0 n s)).elim .inl fun q => h.imp id fun h => ⟨h, q⟩⟩
  have na : ∀ s, (!ahas (knAll kn ws) s) = true ↔ ¬ Bf (stepsAt ps d) s0 (n + 1) s := fun s => by
    rw [Bool.not_eq_true', ← k1' s, ← ahas_iff, Bool.not_eq_true]
  have gw : ∀ s, s ∈ ws.map (·.1) → LW (stepsAt ps d) s0 n s (getW ws s) := fun s hs => w2 _ (getW_mem hs)
  have pre : ∀ {s o : St} {w0 : List Nat}, Wk (stepsAt ps d) s0 n w0 s → o ∈ stepsAt ps d s → ¬ Bf (stepsAt ps d) s0 (n + 1) o → s ∈ ws.map (·.1) := fun {s o w0} h1 h2 h3 => (w1 s).mpr ⟨⟨w0, h1⟩, fun q => h3 (q.step h2)⟩
  refine (further_best (ps := ps) (d := d) (knAll kn ws) ws).casesOn fun nd has get => ⟨?_, k1', fun o => ?_, nd, fun e he => ?_, ?_⟩
  · rw [knAll_keys]
    exact List.nodup_append.mpr ⟨kd, wd, fun a ha b hb e => ((w1 b).mp hb).2 (e ▸ (k1 a).mp ha)⟩
  · rw [has o]
    constructor
    · rintro ⟨b, h | ⟨s, hs, o', ho, hn, rfl, hb⟩⟩
      · exact h.elim
      · exact ⟨Rc.step ⟨_, (gw s hs).1⟩ ho, (na o).mp hn⟩
    · rintro ⟨⟨w, s, w0, h1, h2, h3⟩, hn⟩
      exact ⟨_, .inr ⟨s, pre h1 h2 hn, o, h2, (na o).mpr hn, rfl, rfl⟩⟩
  · have hg := get e he
    rcases hg.1 with h | ⟨s, hs, o', ho, hn, e1, e2⟩
    · exact h.elim
    · refine ⟨⟨s, _, (gw s hs).1, e1 ▸ ho, by rw [e1]; exact e2⟩, ?_⟩
      rintro w' ⟨s', w0, h1, h2, rfl⟩
      rw [← e1] at hn
      have hs' := pre h1 h2 ((na _).mp hn)
      exact le_snoc (n := n) (by rw [h1.len, (gw s' hs').1.len]) ((gw s' hs').2 w0 h1) (hg.2 _ (.inr ⟨s', hs', e.1, h2, hn, rfl, rfl⟩))
  · unfold knAll
    rw [List.length_append, List.length_map]
    exact Nat.add_le_add ln (List.length_pos_iff.mpr he)
/-- who may be an heir -/
noncomputable def hr (ps : List Per) (d : Int) (k h : Nat) : Bool := neB k h && lv ps d h
def Near (ps : List Per) (d : Int) (k n : Nat) : Prop := ∃ h b, hr ps d k h = true ∧ Rc (stepsAt ps d) (k, false) n (h, b)
/-- the heirs after n steps -/
inductive Hrs (ps : List Per) (d : Int) (k n : Nat) (hp : Hr) : Prop
  | mk (nd : (hp.map (·.1)).Nodup) (has : ∀ h, h ∈ hp.map (·.1) ↔ hr ps d k h = true ∧ ∃ b, Rc (stepsAt ps d) (k, false) n (h, b)) (get : ∀ h ∈ hp.map (·.1), LH (stepsAt ps d) (k, false) n h (getH hp h))
theorem heirs_ok {n : Nat} {kn : Kn} {ws : Ways} (h : Inv (stepsAt ps d) (k, false) n kn ws) (hN : ∀ m, m < n → ¬ Near ps d k m) : Hrs ps d k n ((ws.map (·.1)).foldl (heirStep ps d k ws) []) := h.casesOn fun kd k1 w1 wd w2 ln => by
  have hb : Best (fun a b => False ∨ ∃ s, s ∈ ws.map (·.1) ∧ hr ps d k s.1 = true ∧ a = s.1 ∧ b = getW ws s) ((ws.map (·.1)).foldl (heirStep ps d k ws) []) := Best.fold (D := fun (s : St) a b => hr ps d k s.1 = true ∧ a = s.1 ∧ b = getW ws s) (fun s C f hf => by
    have := hf.one (hr ps d k s.1) s.1 (getW ws s)
    unfold put1 hr at this
    rw [Bool.and_assoc] at this
    exact this) _ _ _ Best.nil
  have pre : ∀ {h : Nat} {b : Bool}, hr ps d k h = true → Rc (stepsAt ps d) (k, false) n (h, b) → (h, b) ∈ ws.map (·.1) := fun {h b} h1 h2 => (w1 _).mpr ⟨h2, fun q => q.elim fun m q => hN m q.1 ⟨h, b, h1, q.2⟩⟩
  refine hb.casesOn fun nd has get => ⟨nd, fun a => ?_, fun a ha => ?_⟩
  · rw [has a]
    constructor
    · rintro ⟨b, h | ⟨s, hs, hr, rfl, hb⟩⟩
      · exact h.elim
      · exact ⟨hr, s.2, ((w1 s).mp hs).1⟩
    · rintro ⟨h1, b, h2⟩
      exact ⟨_, .inr ⟨(a, b), pre h1 h2, h1, rfl, rfl⟩⟩
  · have hg := get _ (getH_mem ha)
    rcases hg.1 with h | ⟨s, hs, hr, e1, e2⟩
    · exact h.elim
    · have e1 : a = s.1 := e1
      have e2 : getH _ a = getW ws s := e2
      refine ⟨⟨s.2, ?_⟩, fun b w' hw' q => ?_⟩
      · rw [e2, e1]; exact (w2 _ (getW_mem hs)).1
      · have hm := pre (e1 ▸ hr) ⟨w', hw'⟩
        have g1 := hg.2 _ (.inr ⟨(a, b), hm, e1 ▸ hr, rfl, rfl⟩)
        have g2 := (w2 _ (getW_mem hm)).2 w' hw'
        exact (lt_tot w' (getW ws (a, b))).elim g2 fun h => h.elim (fun h => g1 (h ▸ q)) fun h => g1 (lt_tr h q)
/-- what nearest finds -/
def Found (ps : List Per) (d : Int) (k : Nat) (hp : Hr) : Prop := (hp = [] ∧ ∀ n, ¬ Near ps d k n) ∨ ∃ n, n ≤ 2 * ps.length ∧ (∀ m, m < n → ¬ Near ps d k m) ∧ hp ≠ [] ∧ Hrs ps d k n hp
theorem near_ok (hW : WfP ps) (hk : k < ps.length) : ∀ (f n : Nat) (kn : Kn) (ws : Ways), Inv (stepsAt ps d) (k, false) n kn ws → (∀ m, m < n + 1 → ¬ Near ps d k m) → 2 * ps.length < f + kn.length → Found ps d k (nearP ps d k f kn ws [])
  | 0, n, kn, ws, h, hN, hf => h.casesOn fun kd k1 w1 wd w2 ln => by
    have := keys_bound kd fun s hs => ((k1 s).mp hs).elim fun m hm => hm.2.range hk (steps_at hW)
    rw [List.length_map] at this
    (first | lia | omega)
  | f + 1, n, kn, ws, h, hN, hf => by
    cases hw : ws with
    | nil =>
      subst hw
      refine .inl ⟨rfl, fun m ⟨a, b, h1, h2⟩ => ?_⟩
      have all : ∀ m s, Rc (stepsAt ps d) (k, false) m s → Bf (stepsAt ps d) (k, false) n s := h.casesOn fun kd k1 w1 wd w2 ln m => by
        have no : ∀ s, Bf (stepsAt ps d) (k, false) (n + 1) s → Bf (stepsAt ps d) (k, false) n s := fun s hs => (Bf.succ.mp hs).elim id fun q => Classical.byContradiction fun q' => nomatch (w1 s).mpr ⟨q, q'⟩
        induction m with
        | zero => exact fun s hs => no s ⟨0, Nat.succ_pos n, hs⟩
        | succ m ih => exact fun s ⟨w, u, w0, q1, q2, _⟩ => no s ((ih u ⟨w0, q1⟩).step q2)
      exact (all m _ h2).elim fun m' hm => hN m' (Nat.lt_succ_of_lt hm.1) ⟨a, b, h1, hm.2⟩
    | cons e r =>
      rw [← hw]
      have hne : ws ≠ [] := fun q => by rw [q] at hw; cases hw
      have hi := h.step hne
      have hh := heirs_ok hi hN
      show Found ps d k (if ([] : Hr).isEmpty && !ws.isEmpty then _ else _)
      rw [if_pos (show (([] : Hr).isEmpty && !ws.isEmpty) = true by rw [hw]; rfl)]
      have hlen : n + 1 ≤ (knAll kn ws).length := hi.casesOn fun _ _ _ _ _ ln => ln
      have hlen2 : kn.length + 1 ≤ (knAll kn ws).length := by
        unfold knAll
        rw [List.length_append, List.length_map, hw, List.length_cons]; (first | lia | omega)
      generalize (List.map (·.1) (waysAll ps d (knAll kn ws) ws)).foldl (heirStep ps d k (waysAll ps d (knAll kn ws) ws)) [] = hp at hh
      cases hp with
      | nil =>
        refine near_ok hW hk f (n + 1) _ _ hi (fun m hm => (Nat.lt_or_eq_of_le (Nat.le_of_lt_succ hm)).elim (hN m) fun q => ?_) (by (first | lia | omega))
        rw [q]
        rintro ⟨a, b, h1, h2⟩
        exact hh.casesOn fun _ has _ => nomatch (has a).mpr ⟨h1, b, h2⟩
      | cons x y =>
        refine .inr ⟨n + 1, ?_, hN, ?_, ?_⟩
        · refine hi.casesOn fun kd k1 _ _ _ _ => ?_
          have := keys_bound kd fun s hs => ((k1 s).mp hs).elim fun m hm => hm.2.range hk (steps_at hW)
          rw [List.length_map] at this
          (first | lia | omega)
        · cases f <;> exact fun q => nomatch q
        · cases f <;> exact hh
theorem near_found (hW : WfP ps) (hl : ps.length ≤ 20) (hk : k < ps.length) : Found ps d k (nearP ps d k 41 [] [((k, false), [k])] []) := by
  refine near_ok hW hk 41 0 [] _ ⟨List.nodup_nil, fun s => ⟨fun h => (nomatch h), fun h => h.elim fun m h => absurd h.1 (Nat.not_lt_zero m)⟩, fun s => ⟨fun h => ⟨⟨[k], rfl, List.mem_singleton.mp h⟩, fun h => h.elim fun m h => absurd h.1 (Nat.not_lt_zero m)⟩, fun h => h.1.elim fun w h => List.mem_singleton.mpr h.2⟩, List.nodup_cons.mpr ⟨List.not_mem_nil, List.nodup_nil⟩, fun e he => ?_, Nat.le_refl 0⟩ (fun m hm => ?_) (by show 2 * ps.length < 41 + 0; (first | lia | omega))
  · rw [List.mem_singleton.mp he]
    exact ⟨⟨rfl, rfl⟩, fun w' hw' => by rw [hw'.1]; exact lt_irr _⟩
  · rw [Nat.lt_one_iff.mp hm]
    rintro ⟨a, b, h1, w, h2⟩
    have : a = k := congrArg Prod.fst h2.2
    rw [this] at h1
    unfold hr neB at h1
    rw [beq_self_eq_true] at h1
    cases h1
end
end Mine.L

end
section
set_option autoImplicit false
set_option linter.unusedVariables false
set_option linter.unusedSimpArgs false
set_option maxRecDepth 100000
namespace Mine.L
open Mine.P PySem
structure Wed where
  a : Nat
  b : Nat
  day : Int
structure Will where
  who : Nat
  day : Int
  gifts : List (Nat × Rat)
noncomputable def wedV (w : Wed) : V := .tup [nv w.a, nv w.b, .int w.day]
noncomputable def giftV (g : Nat × Rat) : V := .tup [nv g.1, rv g.2]
noncomputable def giftsV (gs : List (Nat × Rat)) : V := .tup (gs.map giftV)
noncomputable def willV (w : Will) : V := .tup [nv w.who, .int w.day, giftsV w.gifts]
/-- the couples are of the roll -/
def WedOk (n : Nat) (ms : List Wed) : Prop := ∀ w ∈ ms, w.a < n ∧ w.b < n
section
variable {scr : List Int} {n : Nat} {l lm lw k : Nat} {H : Hp} {Q X : PQ}
theorem w_llives {d : Int} {ps : List Per} {p : Per} (hA : H[l]? = some (.list (ps.map perV))) (hp : ps[k]? = some p) (q : Q (.bool (livesP p d)) H) : callX ⟨scr, pgks, pfns⟩ (n + 1) i_law_lives [.ref l, nv k, .int d] H Q X := c_law_lives (by
  have q : Q (.bool (decide (p.born ≤ d) && before d p.died)) H := q
  apply some_i (idx_per (scr := scr) hA hp)
  show wIf (decide (d < p.born)) _ _
  refine if_c (fun h => ?_) fun h => ?_
  · rw [decide_eq_false (Int.not_le.mpr h)] at q; exact q
  · rw [decide_eq_true (Int.not_lt.mp h), Bool.true_and] at q
    apply some_i (idx_per (scr := scr) hA hp)
    unfold perV
    cases hd : p.died with
    | none => rw [hd] at q; exact q
    | some e =>
      rw [hd] at q
      apply some_i (idx_per (scr := scr) hA hp)
      unfold perV
      rw [hd]
      exact q)
end
end Mine.L

end
section
set_option autoImplicit false
set_option linter.unusedVariables false
set_option linter.unusedSimpArgs false
set_option maxRecDepth 100000
namespace Mine.L
open Mine.P PySem
def GiftsOk (n : Nat) (gs : List (Nat × Rat)) : Prop := ∀ g ∈ gs, g.1 < n ∧ Sm 10 g.2
theorem Sm.add {i j : Nat} {x y : Rat} (hx : Sm i x) (hy : Sm j y) : Sm (i + j + 1) (x + y) := by
  rw [Rat.add_def]
  refine Sm.nrm _ (Nat.lt_of_le_of_lt (Int.natAbs_add_le _ _) ?_) (Nat.lt_of_lt_of_le (lt_pow hx.2 hy.2) (Nat.pow_le_pow_right (by decide) (Nat.le_succ _)))
  rw [Int.natAbs_mul, Int.natAbs_mul]
  exact two_lt (lt_pow hx.1 hy.2) (by rw [Nat.add_comm]; exact lt_pow hy.1 hx.2)
section
variable {scr : List Int} {n : Nat} {l k : Nat} {H : Hp} {Q X : PQ}
end
end Mine.L

end
section
set_option autoImplicit false
set_option linter.unusedVariables false
set_option linter.unusedSimpArgs false
set_option maxRecDepth 100000
namespace Mine.L
open Mine.P PySem
/-! reading rows as plain data -/
section
variable {scr : List Int} {n : Nat} {l k : Nat} {H : Hp} {Q X : PQ}
theorem rd_list {m : Nat} {vs : List V} {ds : List PyData} (h : H[l]? = some (.list vs)) (e : rdL (rd H m) vs = some ds) : rd H (m + 1) (.ref l) = some (.list ds) := by
  show ((lstAt H (.ref l)).bind fun vs => (rdL (rd H m) vs).map PyData.list) = _
  rw [lst_at h]
  show (rdL (rd H m) vs).map PyData.list = _
  rw [e]; rfl
theorem none_list {vs : List V} (h : H[l]? = some (.list vs)) : noneIn H (.ref l) = none := by
  show (match H[l]?.bind asDict with | some es => some es.isEmpty | none => (H[l]?.bind asDicP).map List.isEmpty) = _
  rw [h]; rfl
/-- a list against [] -/
theorem eq_nil {m : Nat} {vs : List V} {ds : List PyData} (h : H[l]? = some (.list vs)) (e : rdL (rd H 9) vs = some ds) (h' : H[m]? = some (.list [])) : cmpV scr .eq (.ref l) (.ref m) H = some ds.isEmpty := by
  show eqV H (.ref l) (.ref m) = _
  unfold eqV
  rw [none_list h, rd_list h e, rd_list h' (rfl : rdL (rd H 9) [] = some [])]
  cases ds <;> rfl
theorem ne_nil {m : Nat} {vs : List V} {ds : List PyData} (h : H[l]? = some (.list vs)) (e : rdL (rd H 9) vs = some ds) (h' : H[m]? = some (.list [])) : cmpV scr .ne (.ref l) (.ref m) H = some (!ds.isEmpty) := congrArg (Option.map (!·)) (eq_nil (scr := scr) h e h')
end
section
variable {ws : List Nat} {H₀ : Hp} {t : Tgt} {α : Type} {R : α → V → Prop}
theorem comp_a2 {test : Env' → Hp → (Bool → Hp → Prop) → Prop} {elt : Env' → Hp → PQ → Prop} {Q : List V → Hp → Prop} (I : List α → List V → Env' → Hp → Prop) (step : ∀ a v as acc ρ H, R a v → I (a :: as) acc ρ H → wSome (asg t v ρ) fun ρ' => ∀ N : List V → Hp → Prop, (∀ acc' H', stands ws H₀ H' = true → I as acc' ρ' H' → N acc' H') → test ρ' H fun b H₁ => wIf b (elt ρ' H₁ fun y H₂ => N (acc ++ [y]) H₂) (N acc H₁)) (fin : ∀ acc ρ H, I [] acc ρ H → Q acc H) {as : List α} {vs : List V} (h : All2 R as vs) : ∀ acc ρ H, I as acc ρ H → compW ws H₀ t test elt vs ρ H acc Q :=
  h.rec (motive := fun as vs _ => ∀ acc ρ H, I as acc ρ H → compW ws H₀ t test elt vs ρ H acc Q) fin fun r _ ih acc ρ H h => some_m (step _ _ _ acc ρ H r h) fun ρ' hb => hb (fun acc' H' => stands ws H₀ H' = true ∧ compW ws H₀ t test elt _ ρ' H' acc' Q) fun acc' H' hs hi => ⟨hs, ih acc' ρ' H' hi⟩
end
end Mine.L

end
section
set_option autoImplicit false
set_option linter.unusedVariables false
set_option linter.unusedSimpArgs false
set_option maxRecDepth 100000
namespace Mine.L
open Mine.P PySem
/-- a roll: the people, the marriages, the wills -/
structure Roll where
  ps : List Per
  ms : List Wed
  ws : List Will
inductive RollOk (r : Roll) : Prop
  | mk (wf : WfP r.ps) (len : r.ps.length ≤ 20) (wed : WedOk r.ps.length r.ms) (gifts : ∀ w ∈ r.ws, GiftsOk r.ps.length w.gifts ∧ w.gifts.length ≤ 10)
/-- a roll at three places -/
inductive RollAt (H : Hp) (r : Roll) (l lm lw : Nat) : Prop
  | mk (ap : H[l]? = some (.list (r.ps.map perV))) (am : H[lm]? = some (.list (r.ms.map wedV))) (aw : H[lw]? = some (.list (r.ws.map willV)))
section
variable {scr : List Int} {n : Nat} {l lm lw k : Nat} {H : Hp} {Q X : PQ}
end
end Mine.L

end
section
set_option autoImplicit false
set_option linter.unusedVariables false
set_option linter.unusedSimpArgs false
set_option maxRecDepth 100000
namespace Mine.L
open Mine.P PySem
section
variable {C : Ctx} {ρ ρ' : Env'} {H : Hp} {Q : PQ} {K : Out → Prop} {r : List S} {t : Tgt} {e a i : E} {v x y : V}
theorem ss_asg (h : WE C e ρ H fun v H => wSome (asg t v ρ) fun ρ' => WSs C r ρ' H K) : WSs C (.asg t e :: r) ρ H K := h
theorem we_var {j : Nat} (h : ρ[j]?.join = some v) (q : Q v H) : WE C (.var j) ρ H Q := some_i h q
theorem we_lst0 (q : Q (.ref H.length) (H ++ [.list []])) : WE C (.lst []) ρ H Q := q
theorem we_bin {op : BOp} (h : WE C a ρ H fun x H => WE C i ρ H fun y H => WBin op x y H Q) : WE C (.bin op a i) ρ H Q := h
theorem wb_int {op : BOp} {p q z : Int} (h : binI op p q = some z) (k : Q (.int z) H) : WBin op (.int p) (.int q) H Q := some_i h k
theorem ss_for {it : It} {b : List S} (h : WIt C it ρ H fun p H => forW p.2 H t (fun ρ H K => WSs C.no b ρ H K) p.1 ρ H fun o => wThen o (fun ρ H => WSs C r ρ H K) (K o)) : WSs C (.for t it b :: r) ρ H K := h
theorem wi_range {R : List V × List Nat → Hp → Prop} (h : WE C a ρ H fun x H => WE C i ρ H fun y H => wRange x y fun l => R (l, []) H) : WIt C (.range a i) ρ H R := h
theorem we_k (q : Q v H) : WE C (.k v) ρ H Q := q
end
section
variable {scr : List Int} {n : Nat} {l lm lw k : Nat} {H : Hp} {Q X : PQ}
end
end Mine.L

end
section
set_option autoImplicit false
set_option linter.unusedVariables false
set_option linter.unusedSimpArgs false
set_option maxRecDepth 100000
namespace Mine.L
open Mine.P PySem
theorem RollAt.ext {H H' : Hp} {r : Roll} {l lm lw : Nat} (h : RollAt H r l lm lw) (x : Ext H H') : RollAt H' r l lm lw := h.casesOn fun a b c => ⟨x _ _ a, x _ _ b, x _ _ c⟩
section
variable {scr : List Int} {n : Nat} {l lm lw l' lm' lw' k : Nat} {H : Hp} {Q X : PQ}
end
end Mine.L

end
section
set_option autoImplicit false
set_option linter.unusedVariables false
set_option linter.unusedSimpArgs false
set_option maxRecDepth 100000
namespace Mine.L
open Mine.P PySem
inductive StI (c : Int) (m : Nat) (H : Hp) (as : List Nat) (ρ : Env') (H' : Hp) : Prop
  | mk (acc : List Int) (x : Int) (o : Option V) (e : ρ = [some (.int c), some (nv m), some (.ref H.length), some (.int x), o]) (ext : Ext H H') (a : H'[H.length]? = some (.list (acc.map V.int))) (len : acc.length + as.length = m) (hx : 0 ≤ x ∧ x < 2147483647) (ok : ∀ x ∈ acc, 0 ≤ x ∧ x < 2147483647)
section
variable {scr : List Int} {n : Nat} {l k : Nat} {H : Hp} {Q X : PQ}
theorem fmod_lt (a : Int) {b : Int} (h : 0 < b) : 0 ≤ a.fmod b ∧ a.fmod b < b := by
  rw [Int.fmod_eq_emod_of_nonneg a (Int.le_of_lt h)]
  exact ⟨Int.emod_nonneg a (Int.ne_of_gt h), Int.emod_lt_of_pos a h⟩
theorem abs_lt {x : Int} {b : Nat} (h : 0 ≤ x ∧ x < b) : x.natAbs < b := by (first | lia | omega)
theorem mod_i {a b : Int} (h : b ≠ 0) : binI .mod a b = some (a.fmod b) := if_neg h
/-- the random numbers -/
def StreamK (H : Hp) (m : Nat) (Q : PQ) : Prop := ∀ (ls : Nat) (H' : Hp) (xs : List Int), xs.length = m → (∀ x ∈ xs, 0 ≤ x ∧ x < 2147483647) → H.length ≤ ls → Ext H H' → H'[ls]? = some (.list (xs.map V.int)) → Q (.ref ls) H'
theorem w_stream {c : Int} {m : Nat} (hm : m ≤ 1000) (q : StreamK H m Q) : callX ⟨scr, pgks, pfns⟩ (n + 1) i_law_stream [.int c, nv m] H Q X := c_law_stream (by
  unfold pb_law_stream
  refine ss_asg (we_lst0 (some_i rfl ?_))
  refine ss_asg (we_bin (we_var rfl (we_k (wb_int (mod_i (b := 2147483647) (by decide)) (some_i rfl ?_)))))
  refine ss_for (wi_range (we_k (we_var rfl (range_n (Nat.lt_of_le_of_lt hm (by decide)) ?_))))
  refine for_as (StI c m H) (fun k as ρ H' h => ?_) (fun ρ H' h => ?_) _ _ _ ⟨[], _, none, rfl, Ext.app _ _, at_new _ _, by rw [List.length_range]; exact Nat.zero_add m, fmod_lt c (by decide), fun _ h => nomatch h⟩
  · refine h.casesOn fun acc x o e ext a len hx ok => ?_
    subst e
    refine fun N hN => ?_
    apply some_i (mul_i (i := 31) (j := 16) (a := x) (b := 48271) (abs_lt ⟨hx.1, Int.lt_trans hx.2 (by decide)⟩) (by decide) (by decide))
    have hy := fmod_lt (x * 48271 + 11 + (k : Int)) (b := 2147483647) (by decide)
    rw [List.length_cons] at len
    exact me_i a (app_i a (by rw [List.length_map]; (first | lia | omega)) (hN _ _ rfl ⟨acc ++ [(x * 48271 + 11 + (k : Int)).fmod 2147483647], _, _, rfl, ext.set (Nat.le_refl _) _, by rw [List.map_append]; exact at_set a _, by rw [List.length_append, ← len]; exact (Nat.add_assoc _ 1 _).trans (by rw [Nat.add_comm 1]), hy, fun y hy' => (List.mem_append.mp hy').elim (ok y) fun h => by rw [List.mem_singleton.mp h]; exact hy⟩))
  · refine h.casesOn fun acc x o e ext a len hx ok => ?_
    subst e
    exact q _ _ acc len ok (Nat.le_refl _) ext a)
theorem pick {es : List Nat} (he : es ≠ []) (h : H[l]? = some (.list (nvs es))) (y : Int) : ∃ j, j ∈ es ∧ idxV scr (.ref l) (.int (y.fmod es.length)) H = some (nv j) := by
  have hl : 0 < es.length := List.length_pos_iff.mpr he
  have hm := fmod_lt y (Int.ofNat_lt.mpr hl)
  have hi : (y.fmod es.length).toNat < es.length := by (first | lia | omega)
  refine ⟨es[(y.fmod es.length).toNat], List.getElem_mem hi, ?_⟩
  have := idx_at (scr := scr) (k := (y.fmod es.length).toNat) (v := nv es[(y.fmod es.length).toNat]) h (by rw [List.getElem?_map, List.getElem?_eq_getElem hi]; rfl)
  rw [nv, Int.toNat_of_nonneg hm.1] at this
  exact this
theorem len_ne {es : List Nat} (he : es ≠ []) : (es.length : Int) ≠ 0 := fun h => he (List.eq_nil_of_length_eq_zero (Int.ofNat.inj h))
theorem w_some {y f : Int} {es : List Nat} (hE : H[l]? = some (.list (nvs es))) (q : ∀ al H', (∀ j ∈ al, j ∈ es) → al.length ≤ 2 → Ext H H' → Q (.tup (nvs al)) H') : callX ⟨scr, pgks, pfns⟩ (n + 1) i_law_some [.ref l, .int y, .int f] H Q X := c_law_some (by
  have x := Ext.app H [.list []]
  have r0 : Q (.tup []) (H ++ [.list []]) := q [] _ (fun _ h => nomatch h) (by decide) x
  apply some_i (eq_nil (scr := scr) (at_app _ hE) (rdL_nv _ _) (at_new _ _))
  rw [List.isEmpty_map]
  refine if_f (fun h0 => ?_) fun h0 => if_tt h0 r0
  have he : es ≠ [] := fun e => by rw [e] at h0; cases h0
  have key : WSs ⟨scr, pgks, callX ⟨scr, pgks, pfns⟩ n, fun _ _ _ => False⟩ (pb_law_some.drop 1) [some (.ref l), some (.int y), some (.int f), none, none] (H ++ [.list []]) (retK Q) := by
    have hE' := x _ _ hE
    generalize H ++ [.list []] = H₁ at x hE' r0
    apply some_i (lst_at hE')
    rw [List.length_map]
    apply some_i (mod_i (len_ne he))
    refine (pick (scr := scr) he hE' y).elim fun j hj => ?_
    apply some_i hj.2
    apply some_i (lst_at hE')
    rw [List.length_map]
    apply some_i (mod_i (len_ne he))
    refine (pick (scr := scr) he hE' (y.fdiv 60)).elim fun j' hj' => ?_
    apply some_i hj'.2
    have r1 : Q (.tup (nvs [j])) H₁ := q [j] _ (fun i h => by rw [List.mem_singleton.mp h]; exact hj.1) (show 1 ≤ 2 by decide) x
    have r2 : Q (.tup (nvs [j, j'])) H₁ := q [j, j'] _ (fun i h => (List.mem_cons.mp h).elim (fun e => e ▸ hj.1) fun h => by rw [List.mem_singleton.mp h]; exact hj'.1) (show 2 ≤ 2 by decide) x
    show wIf (((j : Int) == (j' : Int)) == false) _ _
    refine if_f (fun h1 => ?_) fun h1 => if_tt h1 r1
    show wIf ((y.fdiv 3).fmod 4 == 0) _ _
    exact if_i (fun _ => r1) fun _ => r2
  show wIf ((f == 0) == true) _ _
  refine if_t (fun h => ?_) fun h => if_ff h key
  show wIf ((y.fdiv 7).fmod 5 == 0) _ _
  exact if_i (fun _ => r0) fun _ => key)
end
end Mine.L

end
section
set_option autoImplicit false
set_option linter.unusedVariables false
set_option linter.unusedSimpArgs false
set_option maxRecDepth 100000
namespace Mine.L
open Mine.P PySem
abbrev pe1 : S := .asg (.var 7) (.bin .mul (.bin .add (.bin .mul (.k (.int 5)) (.bin .fdiv (.var 5) (.k (.int 3)))) (.bin .mod (.var 6) (.k (.int 11)))) (.var 3))
abbrev pe2 : S := .asg (.var 8) (.comp 1 (.var 0) (.var 0) (.range (.k (.int 0)) (.var 5)) [(.cmp .lt (.idx (.idx (.var 3) (.var 0)) (.k (.int 0))) (.var 8))])
abbrev pe3 : S := .asg (.var 9) (.call i_law_some [(.slc (.var 8) (some (.neg (.k (.int 7)))) none), (.bin .fdiv (.var 6) (.k (.int 11))), (.k (.int 0))])
abbrev pe4 : S := .ife (.and [(.cmp .gt (.var 5) (.k (.int 0))), (.cmp .eq (.bin .mod (.bin .fdiv (.var 6) (.k (.int 13))) (.k (.int 3))) (.k (.int 0))), (.cmp .eq (.comp 1 (.var 0) (.var 0) (.of (.idx (.idx (.var 2) (.bin .sub (.var 5) (.k (.int 1)))) (.k (.int 1)))) [(.cmp .notIn (.var 0) (.var 9))]) (.lst []))])
      [.asg (.var 9) (.idx (.idx (.var 2) (.bin .sub (.var 5) (.k (.int 1)))) (.k (.int 1)))]
      []
abbrev pe5 : S := .ife (.and [(.cmp .eq (.bin .mod (.bin .fdiv (.var 0) (.k (.int 4))) (.k (.int 3))) (.k (.int 0))), (.cmp .lt (.var 5) (.k (.int 12)))])
      [.asg (.var 7) (.bin .mul (.bin .add (.bin .mul (.k (.int 12)) (.bin .fdiv (.var 5) (.k (.int 2)))) (.bin .mod (.var 6) (.k (.int 11)))) (.var 3)),
       .asg (.var 9) (.idx (.var 4) (.var 5))]
      []
abbrev pe6 : S := .asg (.var 10) (.k .none)
abbrev pe7 : S := .ife (.cmp .gt (.bin .mod (.bin .fdiv (.var 6) (.k (.int 500))) (.idx (.lst [(.k (.int 4)), (.k (.int 9))]) (.bin .mod (.bin .fdiv (.var 0) (.k (.int 12))) (.k (.int 2))))) (.k (.int 0)))
      [.asg (.var 10) (.bin .add (.var 7) (.bin .mul (.bin .mod (.bin .fdiv (.var 6) (.k (.int 1500))) (.k (.int 40))) (.var 3)))]
      []
abbrev pe8 : S := .expr (.meth .append (.var 2) [(.tup [(.var 7), (.var 9), (.k .none), (.var 10)])])
noncomputable def houseL : List (List Nat) := [[], [], [1, 0], [1, 0], [2], [3], [], [5], [3], [1], [], [2]]
noncomputable def houseV : List V := houseL.map fun l => .tup (nvs l)
section
variable {scr : List Int} {n : Nat} {c x sc b : Int} {m k lp lh : Nat} {H : Hp} {K : Out → Prop} {rest : List S} {ps : List Per} {e : Env' → V → Hp → Prop} {o7 o8 o9 o10 : Option V}
/-- the frame of people -/
abbrev peR (c : Int) (m lp : Nat) (sc : Int) (lh k : Nat) (x : Int) (o7 o8 o9 o10 : Option V) : Env' := [some (.int c), some (nv m), some (.ref lp), some (.int sc), some (.ref lh), some (nv k), some (.int x), o7, o8, o9, o10]
noncomputable abbrev pC (scr : List Int) (n : Nat) (e : Env' → V → Hp → Prop) : Ctx := ⟨scr, pgks, callX ⟨scr, pgks, pfns⟩ n, e⟩
theorem fdiv_nat (k : Nat) (d : Nat) : Int.fdiv (k : Int) (d : Int) = ((k / d : Nat) : Int) := by rw [Int.fdiv_eq_ediv_of_nonneg _ (Int.natCast_nonneg d)]; rfl
theorem fdiv_i {a b : Int} (h : b ≠ 0) : binI .fdiv a b = some (a.fdiv b) := if_neg h
theorem p1 (hk : k < 20) (hsc : sc = 1 ∨ sc = 600) (h : ∀ b, WSs (pC scr n e) rest (peR c m lp sc lh k x (some (.int b)) o8 o9 o10) H K) : WSs (pC scr n e) (pe1 :: rest) (peR c m lp sc lh k x o7 o8 o9 o10) H K := by
  have h11 := fmod_lt x (b := 11) (by decide)
  have h3 : Int.fdiv (k : Int) 3 = _ := fdiv_nat k 3
  refine ss_asg (we_bin (we_bin (we_bin (we_k (we_bin (we_var rfl (we_k ?_)))))))
  refine wb_int (fdiv_i (by decide)) (wb_int (mul_i (i := 3) (j := 10) (by decide) (abs_lt ?_) (by decide)) ?_)
  · rw [h3]; (first | lia | omega)
  refine we_bin (we_var rfl (we_k ?_))
  refine wb_int (mod_i (by decide)) (wb_int rfl (we_var rfl (wb_int (mul_i (i := 10) (j := 10) (abs_lt ?_) ?_ (by decide)) (some_i rfl (h _)))))
  · rw [h3]; (first | lia | omega)
  · rcases hsc with e | e <;> rw [e] <;> decide
end
end Mine.L

end
section
set_option autoImplicit false
set_option linter.unusedVariables false
set_option linter.unusedSimpArgs false
set_option maxRecDepth 100000
namespace Mine.L
open Mine.P PySem
theorem wif_T {t : Bool} {H : Hp} {T : Bool → Hp → Prop} (h : T t H) : wIf t (T true H) (T false H) := by
  cases t <;> exact h
section
variable {C : Ctx} {ρ : Env'} {H : Hp} {Q : PQ} {a i : E}
theorem we_comp {nl : Nat} {elt : E} {t : Tgt} {it : It} {cs : List E} (h : WIt C it ρ H fun p H => wOk (szOk p.1) (compW p.2 H t (fun ρ H Q => WT C.no cs ρ H Q) (fun ρ H Q => WE C.no elt ρ H Q) p.1 (List.replicate nl none ++ ρ) H [] fun vs H => newL vs H Q)) : WE C (.comp nl elt t it cs) ρ H Q := h
end
theorem slice_nv (es : List Nat) (lo hi : Option Int) : pySlice (nvs es) lo hi = nvs (pySlice es lo hi) := by
  unfold pySlice
  rw [List.length_map, nvs, ← List.map_take, ← List.map_drop]
theorem slice_mem {es : List Nat} {lo hi : Option Int} {j : Nat} (h : j ∈ pySlice es lo hi) : j ∈ es := List.mem_of_mem_take (List.mem_of_mem_drop h)
theorem slice_len (es : List Nat) (lo hi : Option Int) : (pySlice es lo hi).length ≤ es.length := by
  unfold pySlice
  rw [List.length_drop, List.length_take]
  exact Nat.le_trans (Nat.sub_le _ _) (Nat.min_le_right _ _)
section
variable {scr : List Int} {n : Nat} {c x sc b : Int} {m k lp lh le : Nat} {H : Hp} {K : Out → Prop} {rest : List S} {ps : List Per} {es : List Nat} {e : Env' → V → Hp → Prop} {o7 o8 o9 o10 : Option V}
theorem notin_at {l : Nat} {ls : List Nat} (h : H[l]? = some (.list (nvs ls))) : cmpV scr .notIn (nv k) (.ref l) H = some (!decide (k ∈ ls)) := congrArg (Option.map (!·)) (in_at (scr := scr) h)
theorem idx_per' {l : Nat} {p : Per} {i : Int} (hi : i = (k : Int)) (h : H[l]? = some (.list (ps.map perV))) (hv : ps[k]? = some p) : idxV scr (.ref l) (.int i) H = some (perV p) := hi ▸ idx_per h hv
noncomputable def olderB (ps : List Per) (b : Int) (j : Nat) : Bool := (ps[j]?).elim false fun p => decide (p.born < b)
theorem older_of {j : Nat} (h : olderB ps b j = true) : Older ps b j := by
  unfold olderB at h
  cases hp : ps[j]? with
  | none => rw [hp] at h; cases h
  | some p => rw [hp] at h; exact ⟨p, hp, of_decide_eq_true h⟩
theorem p2 (hk : k < 20) (hl : ps.length = k) (hA : H[lp]? = some (.list (ps.map perV))) (h : ∀ es le H', (∀ j ∈ es, Older ps b j) → es.length ≤ 20 → Ext H H' → H'[le]? = some (.list (nvs es)) → WSs (pC scr n e) rest (peR c m lp sc lh k x (some (.int b)) (some (.ref le)) o9 o10) H' K) : WSs (pC scr n e) (pe2 :: rest) (peR c m lp sc lh k x (some (.int b)) o8 o9 o10) H K := by
  refine ss_asg (we_comp (wi_range (we_k (we_var rfl (range_n (Nat.lt_trans hk (by decide)) (ok_i (sz_i ?_) ?_))))))
  · rw [List.length_map, List.length_range]; exact Nat.lt_trans hk (by decide)
  refine comp_pf (P := olderB ps b) (F := nv) _ _ _ (fun j hj T hT => ?_) (fun j _ _ N hN => hN) (some_i rfl (h _ _ _ (fun j hj => older_of (List.mem_filter.mp hj).2) ?_ (Ext.app _ _) (at_new _ _)))
  · have hj := List.mem_range.mp hj
    rw [← hl] at hj
    refine (at_of hj).elim fun p hp => ?_
    apply some_i (idx_per (scr := scr) hA hp)
    unfold olderB at hT
    rw [hp] at hT
    exact wif_T (T := T) hT
  · exact Nat.le_trans (List.length_filter_le _ _) (Nat.le_trans (Nat.le_of_eq List.length_range) (Nat.le_of_lt hk))
theorem p3 (hE : H[le]? = some (.list (nvs es))) (hes : es.length ≤ 20) (h : ∀ al H', (∀ j ∈ al, j ∈ es) → al.length ≤ 2 → Ext H H' → WSs (pC scr (n + 1) e) rest (peR c m lp sc lh k x o7 (some (.ref le)) (some (.tup (nvs al))) o10) H' K) : WSs (pC scr (n + 1) e) (pe3 :: rest) (peR c m lp sc lh k x o7 (some (.ref le)) o9 o10) H K := by
  apply some_i (lst_at hE)
  refine ok_i (sz_i ?_) ?_
  · rw [slice_nv, List.length_map]; exact Nat.lt_of_le_of_lt (Nat.le_trans (slice_len _ _ _) hes) (by decide)
  rw [slice_nv]
  exact call_i (w_some (at_new _ _) fun al H' hal h2 x => h al H' (fun j hj => slice_mem (hal j hj)) h2 ((Ext.app _ _).trans x))
theorem p4 {al : List Nat} (hl : ps.length = k) (hA : H[lp]? = some (.list (ps.map perV))) (hE : H[le]? = some (.list (nvs es))) (hp2 : ∀ p ∈ ps, p.par.length ≤ 2) (hal : ∀ j ∈ al, j ∈ es) (ha2 : al.length ≤ 2) (h : ∀ al H', (∀ j ∈ al, j ∈ es) → al.length ≤ 2 → Ext H H' → WSs (pC scr n e) rest (peR c m lp sc lh k x o7 (some (.ref le)) (some (.tup (nvs al))) o10) H' K) : WSs (pC scr n e) (pe4 :: rest) (peR c m lp sc lh k x o7 (some (.ref le)) (some (.tup (nvs al))) o10) H K := by
  have no := h al H hal ha2 (Ext.refl H)
  show wIf (decide ((k : Int) > 0) == true) _ _
  refine if_t (fun h1 => ?_) fun h1 => if_ff h1 no
  show wIf (((x.fdiv 13).fmod 3 == 0) == true) _ _
  refine if_t (fun h2 => ?_) fun h2 => if_ff h2 no
  have hk0 : 0 < k := Int.ofNat_lt.mp (of_decide_eq_true h1)
  have hi : (k : Int) - 1 = ((k - 1 : Nat) : Int) := by (first | lia | omega)
  refine (at_of (show k - 1 < ps.length by (first | lia | omega))).elim fun p hp => ?_
  have h2 := hp2 p (List.mem_of_getElem? hp)
  apply some_i (idx_per' (scr := scr) hi hA hp)
  refine ok_i (sz_i (by rw [List.length_map]; exact Nat.lt_of_le_of_lt h2 (by decide))) ?_
  refine comp_pf (P := fun j => !decide (j ∈ es)) (F := nv) _ _ _ (fun j hj T hT => ?_) (fun j _ _ N hN => hN) ?_
  · apply some_i (notin_at (scr := scr) hE)
    exact wif_T (T := T) hT
  · apply some_i (eq_nil (scr := scr) (at_app _ (at_new _ _)) (rdL_nv _ _) (at_new _ _))
    rw [List.isEmpty_map]
    have xx : ∀ a b : List Cell, Ext H (H ++ a ++ b) := fun a b => (Ext.app _ _).trans (Ext.app _ _)
    refine if_i (fun h3 => ?_) fun h3 => h al _ hal ha2 (xx _ _)
    apply some_i (idx_per' (scr := scr) hi (xx _ _ _ _ hA) hp)
    refine h p.par _ (fun j hj => ?_) h2 (xx _ _)
    have := List.filter_eq_nil_iff.mp (List.isEmpty_iff.mp h3) j hj
    exact Decidable.not_not.mp fun hn => this (by rw [decide_eq_false hn]; rfl)
end
end Mine.L

end
section
set_option autoImplicit false
set_option linter.unusedVariables false
set_option linter.unusedSimpArgs false
set_option maxRecDepth 100000
namespace Mine.L
open Mine.P PySem
/-- in a house of four ages: when one is born -/
def HouseI (sc : Int) (i : Nat) (b : Int) : Prop := 12 * ((i / 2 : Nat) : Int) * sc ≤ b ∧ b ≤ (12 * ((i / 2 : Nat) : Int) + 10) * sc
theorem house_lt {sc : Int} (hsc : sc = 1 ∨ sc = 600) {i j : Nat} (h : j / 2 < i / 2) {b b' : Int} (hi : HouseI sc i b) (hj : HouseI sc j b') : b' < b := by
  unfold HouseI at hi hj
  rcases hsc with e | e <;> subst e <;> (first | lia | omega)
theorem house_par : ∀ {k : Nat}, k < 12 → ∃ ls, houseL[k]? = some ls ∧ ls.length ≤ 2 ∧ ∀ j ∈ ls, j < k ∧ j / 2 < k / 2 := by decide +kernel
section
variable {scr : List Int} {n : Nat} {c x sc b : Int} {m k lp lh le : Nat} {H : Hp} {K : Out → Prop} {rest : List S} {ps : List Per} {es : List Nat} {e : Env' → V → Hp → Prop} {o7 o8 o9 o10 : Option V}
theorem p5 {al : List Nat} (hk : k < 20) (hsc : sc = 1 ∨ sc = 600) (hl : ps.length = k) (hH : H[lh]? = some (.list houseV)) (hal : ∀ j ∈ al, Older ps b j) (ha2 : al.length ≤ 2) (hI : ((c.fdiv 4).fmod 3 == 0) = true → ∀ i p, i < 12 → ps[i]? = some p → HouseI sc i p.born)
    (h : ∀ b al, (∀ j ∈ al, Older ps b j) → al.length ≤ 2 → (((c.fdiv 4).fmod 3 == 0) = true → k < 12 → HouseI sc k b) → WSs (pC scr n e) rest (peR c m lp sc lh k x (some (.int b)) o8 (some (.tup (nvs al))) o10) H K) : WSs (pC scr n e) (pe5 :: rest) (peR c m lp sc lh k x (some (.int b)) o8 (some (.tup (nvs al))) o10) H K := by
  show wIf (((c.fdiv 4).fmod 3 == 0) == true) _ _
  refine if_t (fun h1 => ?_) fun h1 => if_ff h1 (h b al hal ha2 fun q => absurd (h1.symm.trans q) (by decide))
  show wIf (decide ((k : Int) < 12)) _ _
  refine if_i (fun hk => ?_) fun hk => h b al hal ha2 fun _ q => absurd (show (k : Int) < 12 by (first | lia | omega)) (of_decide_eq_false hk)
  have hk : k < 12 := by have := of_decide_eq_true hk; (first | lia | omega)
  have h11 := fmod_lt x (b := 11) (by decide)
  have h3 : Int.fdiv (k : Int) 2 = _ := fdiv_nat k 2
  have hk2 : k / 2 < 6 := by (first | lia | omega)
  refine (house_par hk).elim fun ls hls => ?_
  have hsb : sc.natAbs < 2 ^ 10 := by rcases hsc with e | e <;> rw [e] <;> decide
  refine ss_asg (we_bin (we_bin (we_bin (we_k (we_bin (we_var rfl (we_k ?_)))))))
  refine wb_int (fdiv_i (by decide)) (wb_int (mul_i (i := 4) (j := 10) (by decide) (abs_lt ?_) (by decide)) ?_)
  · rw [h3]; (first | lia | omega)
  refine we_bin (we_var rfl (we_k ?_))
  refine wb_int (mod_i (by decide)) (wb_int rfl (we_var rfl (wb_int (mul_i (i := 10) (j := 10) (abs_lt ?_) hsb (by decide)) (some_i rfl ?_))))
  · rw [h3]; (first | lia | omega)
  apply some_i (idx_at (scr := scr) (v := .tup (nvs ls)) hH (by unfold houseV; rw [List.getElem?_map, hls.1]; rfl))
  have hb : HouseI sc k ((12 * Int.fdiv (k : Int) 2 + x.fmod 11) * sc) := by
    rw [h3]
    unfold HouseI
    rcases hsc with e | e <;> subst e <;> (first | lia | omega)
  refine h _ ls (fun j hj => ?_) hls.2.1 fun _ _ => hb
  have hj := hls.2.2 j hj
  refine (at_of (show j < ps.length by (first | lia | omega))).elim fun p hp => ⟨p, hp, house_lt hsc hj.2 hb (hI h1 j p (by (first | lia | omega)) hp)⟩
theorem p7 (hsc : sc = 1 ∨ sc = 600) (h : ∀ (di : Option Int) H', Ext H H' → WSs (pC scr n e) rest (peR c m lp sc lh k x (some (.int b)) o8 o9 (some (diV di))) H' K) : WSs (pC scr n e) (pe6 :: pe7 :: rest) (peR c m lp sc lh k x (some (.int b)) o8 o9 o10) H K := by
  have h2 := fmod_lt (c.fdiv 12) (b := 2) (by decide)
  have h40 := fmod_lt (x.fdiv 1500) (b := 40) (by decide)
  have h40' : ((x.fdiv 1500).fmod 40).natAbs < 2 ^ 10 := by (first | lia | omega)
  have hsb : sc.natAbs < 2 ^ 10 := by rcases hsc with e | e <;> rw [e] <;> decide
  have hs : ∃ z : Int, idxV scr (.ref H.length) (.int ((c.fdiv 12).fmod 2)) (H ++ [.list [.int 4, .int 9]]) = some (.int z) ∧ z ≠ 0 := by
    have : (c.fdiv 12).fmod 2 = ((0 : Nat) : Int) ∨ (c.fdiv 12).fmod 2 = ((1 : Nat) : Int) := by (first | lia | omega)
    rcases this with h | h <;> rw [h]
    · exact ⟨4, idx_at (at_new _ _) rfl, by decide⟩
    · exact ⟨9, idx_at (at_new _ _) rfl, by decide⟩
  refine hs.elim fun z hz => ?_
  apply some_i hz.1
  apply some_i (mod_i hz.2)
  show wIf (decide ((x.fdiv 500).fmod z > 0)) _ _
  refine if_i (fun _ => ?_) fun _ => h none _ (Ext.app _ _)
  refine ss_asg (we_bin (we_var rfl (we_bin (we_bin (we_bin (we_var rfl (we_k ?_)))))))
  refine wb_int (fdiv_i (by decide)) (we_k (wb_int (mod_i (by decide)) (we_var rfl (wb_int (mul_i (i := 10) (j := 10) h40' hsb (by decide)) (wb_int rfl (some_i rfl ?_))))))
  exact h (some _) _ (Ext.app _ _)
theorem p8 {al : List Nat} {di : Option Int} (hl : ps.length ≤ 20) (hA : H[lp]? = some (.list (ps.map perV))) (h : ∀ H', ExtB lp H H' → H'[lp]? = some (.list ((ps ++ [(⟨b, al, none, di⟩ : Per)]).map perV)) → K (.next (peR c m lp sc lh k x (some (.int b)) o8 (some (.tup (nvs al))) (some (diV di))) H')) : WSs (pC scr n e) [pe8] (peR c m lp sc lh k x (some (.int b)) o8 (some (.tup (nvs al))) (some (diV di))) H K :=
  me_i hA (app_i hA (by rw [List.length_map]; exact Nat.lt_of_le_of_lt hl (by decide)) (h _ (ExtB.set _ _ _) (by rw [List.map_append]; exact at_set hA _)))
end
end Mine.L

end
section
set_option autoImplicit false
set_option linter.unusedVariables false
set_option linter.unusedSimpArgs false
set_option maxRecDepth 100000
namespace Mine.L
open Mine.P PySem
noncomputable def en : Nat → List Int → List (Nat × Int)
  | _, [] => []
  | k, x :: r => (k, x) :: en (k + 1) r
abbrev enV (p : Nat × Int) : V := .tup [nv p.1, .int p.2]
theorem enum_en : ∀ (k : Nat) (xs : List Int), enumV k (xs.map V.int) = (en k xs).map enV
  | _, [] => rfl
  | k, x :: r => congrArg (enV (k, x) :: ·) (enum_en (k + 1) r)
theorem Older.app {ps : List Per} {b : Int} {j : Nat} (t : List Per) (h : Older ps b j) : Older (ps ++ t) b j := h.elim fun q hq => ⟨q, by rw [List.getElem?_append_left (List.getElem?_eq_some_iff.mp hq.1).1]; exact hq.1, hq.2⟩
theorem WfOne.app {ps : List Per} {p : Per} (t : List Per) (h : WfOne ps p) : WfOne (ps ++ t) p := h.casesOn fun a b c d => ⟨fun j hj => (a j hj).app t, fun x hx j hj => (b x hx j hj).app t, c, d⟩
theorem snoc_all {α : Type} {ps : List α} {p : α} {P : Nat → α → Prop} (h : ∀ (i : Nat) q, ps[i]? = some q → P i q) (hp : P ps.length p) : ∀ (i : Nat) q, (ps ++ [p])[i]? = some q → P i q := by
  intro i q hq
  rcases Nat.lt_trichotomy i ps.length with hi | hi | hi
  · rw [List.getElem?_append_left hi] at hq; exact h i q hq
  · subst hi
    rw [List.getElem?_concat_length] at hq
    cases hq; exact hp
  · rw [List.getElem?_eq_none (by rw [List.length_append]; exact hi)] at hq; cases hq
inductive PeI (c : Int) (m lp : Nat) (sc : Int) (lh : Nat) (H₁ : Hp) (as : List (Nat × Int)) (ρ : Env') (H' : Hp) : Prop
  | mk (o5 o6 o7 o8 o9 o10 : Option V) (xs : List Int) (ps : List Per) (e : ρ = [some (.int c), some (nv m), some (.ref lp), some (.int sc), some (.ref lh), o5, o6, o7, o8, o9, o10]) (x : ExtB lp H₁ H') (a : H'[lp]? = some (.list (ps.map perV))) (ea : as = en ps.length xs) (len : ps.length + xs.length = m) (wf : WfP ps) (hI : ((c.fdiv 4).fmod 3 == 0) = true → ∀ (i : Nat) p, i < 12 → ps[i]? = some p → HouseI sc i p.born)
section
variable {scr : List Int} {n : Nat} {c : Int} {m : Nat} {H : Hp} {Q X : PQ}
theorem scale_of (c : Int) : ∃ sc : Int, idxV scr (.ref (H ++ [Cell.list []]).length) (.int (c.fmod 4)) (H ++ [Cell.list []] ++ [.list [.int 1, .int 1, .int 1, .int 600]]) = some (.int sc) ∧ (sc = 1 ∨ sc = 600) := by
  have h4 := fmod_lt c (b := 4) (by decide)
  have : c.fmod 4 = ((0 : Nat) : Int) ∨ c.fmod 4 = ((1 : Nat) : Int) ∨ c.fmod 4 = ((2 : Nat) : Int) ∨ c.fmod 4 = ((3 : Nat) : Int) := by (first | lia | omega)
  rcases this with h | h | h | h <;> rw [h]
  · exact ⟨1, idx_at (at_new _ _) rfl, .inl rfl⟩
  · exact ⟨1, idx_at (at_new _ _) rfl, .inl rfl⟩
  · exact ⟨1, idx_at (at_new _ _) rfl, .inl rfl⟩
  · exact ⟨600, idx_at (at_new _ _) rfl, .inr rfl⟩
theorem w_people (hm : m ≤ 20) (q : ∀ lp H' ps, ps.length = m → WfP ps → Ext H H' → H.length ≤ lp → H'[lp]? = some (.list (ps.map perV)) → Q (.ref lp) H') : callX ⟨scr, pgks, pfns⟩ (n + 2) i_law_people [.int c, nv m] H Q X := c_law_people (by
  refine (scale_of (scr := scr) (H := H) c).elim fun sc hsc => ?_
  apply some_i hsc.1
  have hsc := hsc.2
  refine call_i (w_stream (n := n) (Nat.le_trans hm (by decide)) fun ls H₂ xs hxl hxr hls x₂ ax => ?_)
  have a0 := at_app [Cell.list houseV] (at_app [.list [.int 1, .int 1, .int 1, .int 600]] (at_new H (.list [])))
  have hh := at_new (H ++ [Cell.list []] ++ [.list [.int 1, .int 1, .int 1, .int 600]]) (.list houseV)
  have l1 : H.length < (H ++ [Cell.list []] ++ [Cell.list [.int 1, .int 1, .int 1, .int 600]]).length := at_lt (at_app _ (at_new _ _))
  have l2 : H.length < ls := Nat.lt_of_lt_of_le (at_lt a0) hls
  apply some_i (lst_at ax)
  rw [enum_en]
  refine for_as (PeI c m H.length sc (H ++ [Cell.list []] ++ [Cell.list [.int 1, .int 1, .int 1, .int 600]]).length H₂) (fun kx as ρ H' h => ?_) (fun ρ H' h => ?_) _ _ _ ⟨none, none, none, none, none, none, xs, [], rfl, ExtB.refl _ _, x₂ _ _ a0, rfl, by rw [List.length_nil, Nat.zero_add]; exact hxl, fun k p h => (nomatch h), fun _ i p _ h => (nomatch h)⟩
  · refine h.casesOn fun o5 o6 o7 o8 o9 o10 xs' ps e x a ea len wf hI => ?_
    subst e
    cases xs' with
    | nil => cases ea
    | cons xx xs' =>
      have ek : kx = (ps.length, xx) := (List.cons.inj ea).1
      have eas : as = en (ps.length + 1) xs' := (List.cons.inj ea).2
      subst ek
      rw [List.length_cons] at len
      have hk : ps.length < 20 := by (first | lia | omega)
      refine fun N hN => ?_
      have st : ∀ {H''}, ExtB H.length H₂ H'' → stands [ls] H₂ H'' = true := fun x => stands1 ax (x _ _ (Nat.ne_of_gt l2) ax)
      refine p1 hk hsc fun b => p2 hk rfl a fun es le H₃ hes he12 x₃ hle => p3 (n := n) hle he12 fun al H₄ hal ha2 x₄ => p4 rfl ((x₃.trans x₄) _ _ a) (x₄ _ _ hle) (fun p hp => (List.getElem?_of_mem hp).elim fun i hi => (wf i p hi).casesOn fun _ _ c _ => c) hal ha2 fun al H₅ hal ha2 x₅ => ?_
      have xh := (x₃.trans x₄).trans x₅
      refine p5 hk hsc rfl (xh _ _ (x _ _ (Nat.ne_of_gt l1) (x₂ _ _ hh))) (fun j hj => hes j (hal j hj)) ha2 hI fun b al hal ha2 hb => p7 hsc fun di H₆ x₆ => p8 (Nat.le_of_lt hk) ((xh.trans x₆) _ _ a) fun H₇ x₇ a₇ => ?_
      have x8 := x.trans (((xh.trans x₆).b _).trans x₇)
      exact hN _ _ (st x8) ⟨_, _, _, _, _, _, xs', ps ++ [(⟨b, al, none, di⟩ : Per)], rfl, x8, a₇, by rw [List.length_append]; exact eas, by rw [List.length_append, ← len]; exact (Nat.add_assoc _ 1 _).trans (by rw [Nat.add_comm 1]), snoc_all (P := fun _ (p : Per) => WfOne (ps ++ [(⟨b, al, none, di⟩ : Per)]) p) (fun i q hq => (wf i q hq).app _) ⟨fun j hj => (hal j hj).app _, fun x hx => (by cases hx), ha2, fun x hx => (by cases hx)⟩, fun h i p hi hp => snoc_all (P := fun i (p : Per) => i < 12 → HouseI sc i p.born) (fun i p hp hi => hI h i p hi hp) (hb h) i p hp hi⟩
  · refine h.casesOn fun o5 o6 o7 o8 o9 o10 xs' ps e x a ea len wf hI => ?_
    subst e
    cases xs' with
    | nil => exact q _ _ ps len wf (x.ext (((Ext.app _ _).trans ((Ext.app _ _).trans (Ext.app _ _))).trans x₂) (Nat.le_refl _)) (Nat.le_refl _) a
    | cons _ _ => cases ea)
end
end Mine.L

end
section
set_option autoImplicit false
set_option linter.unusedVariables false
set_option linter.unusedSimpArgs false
set_option maxRecDepth 100000
namespace Mine.L
open Mine.P PySem
/-- the same people, some of them adopted -/
def Adopted (ps ps' : List Per) : Prop := ps'.length = ps.length ∧ ∀ (i : Nat) p', ps'[i]? = some p' → WfOne ps p' ∧ ∃ p, ps[i]? = some p ∧ p'.born = p.born
theorem Adopted.wf {ps ps' : List Per} (h : Adopted ps ps') : WfP ps' := by
  have up : ∀ {b j}, Older ps b j → Older ps' b j := fun {b j} ho => ho.elim fun q hq => (at_of (show j < ps'.length by rw [h.1]; exact (List.getElem?_eq_some_iff.mp hq.1).1)).elim fun p' hp' => (h.2 j p' hp').2.elim fun p hp => by
    rw [hp.1] at hq
    exact ⟨p', hp', by rw [hp.2]; cases hq.1; exact hq.2⟩
  exact fun k p' hp' => (h.2 k p' hp').1.casesOn fun a b c d => ⟨fun j hj => up (a j hj), fun x hx j hj => up (b x hx j hj), c, d⟩
inductive AdI (ps : List Per) (c : Int) (l la : Nat) (H₁ : Hp) (as : List (Nat × Int)) (ρ : Env') (H' : Hp) : Prop
  | mk (o3 o4 o5 o6 o7 o8 o9 o10 : Option V) (k : Nat) (xs : List Int) (ps' : List Per) (e : ρ = [some (.ref l), some (.int c), some (.ref la), o3, o4, o5, o6, o7, o8, o9, o10]) (x : ExtB la H₁ H') (a : H'[la]? = some (.list (ps'.map perV))) (ea : as = en k xs) (len : k + xs.length = ps.length) (ad : Adopted ps ps')
section
variable {scr : List Int} {n : Nat} {c : Int} {l : Nat} {H : Hp} {Q X : PQ}
theorem copy_at {vs : List V} (h : H[l]? = some (.list vs)) : copyOf H (.ref l) = some vs := by
  show (match H[l]?.bind asDict with | some es => _ | none => lstAt H (.ref l)) = _
  rw [h]; exact lst_at h
theorem set_at {vs : List V} {k : Nat} {v : V} {K : Hp → Prop} (h : H[l]? = some (.list vs)) (hk : k < vs.length) (q : K (H.set l (.list (vs.set k v)))) : WSet (.ref l) (nv k) v H K := some_i h (And.intro ⟨Int.natCast_nonneg k, Int.ofNat_lt.mpr hk⟩ q)
theorem w_adopting {ps : List Per} (hA : H[l]? = some (.list (ps.map perV))) (hW : WfP ps) (hl : ps.length ≤ 20) (q : ∀ la H' ps', ps'.length = ps.length → WfP ps' → Ext H H' → H.length ≤ la → H'[la]? = some (.list (ps'.map perV)) → Q (.ref la) H') : callX ⟨scr, pgks, pfns⟩ (n + 2) i_law_adopting [.ref l, .int c] H Q X := c_law_adopting (by
  apply some_i (copy_at hA)
  refine ok_i (sz_i (by rw [List.length_map]; exact Nat.lt_of_le_of_lt hl (by decide))) ?_
  apply some_i (lst_at (at_app _ hA))
  rw [List.length_map]
  refine call_i (w_stream (n := n) (Nat.le_trans hl (by decide)) fun ls H₂ xs hxl hxr hls x₂ ax => ?_)
  have a0 := at_new H (.list (ps.map perV))
  have l2 : H.length < ls := Nat.lt_of_lt_of_le (at_lt a0) hls
  apply some_i (lst_at ax)
  rw [enum_en]
  refine for_as (AdI ps c l H.length H₂) (fun kx as ρ H' h => ?_) (fun ρ H' h => ?_) _ _ _ ⟨none, none, none, none, none, none, none, none, 0, xs, ps, rfl, ExtB.refl _ _, x₂ _ _ a0, rfl, by rw [Nat.zero_add]; exact hxl, rfl, fun i p hp => ⟨hW i p hp, p, hp, rfl⟩⟩
  · refine h.casesOn fun o3 o4 o5 o6 o7 o8 o9 o10 k xs' ps' e x a ea len ad => ?_
    subst e
    cases xs' with
    | nil => cases ea
    | cons xx xs' =>
      have ek : kx = (k, xx) := (List.cons.inj ea).1
      have eas : as = en (k + 1) xs' := (List.cons.inj ea).2
      subst ek
      rw [List.length_cons] at len
      have hk : k < ps.length := by (first | lia | omega)
      refine fun N hN => ?_
      have xH : Ext H H' := x.ext ((Ext.app _ _).trans x₂) (Nat.le_refl _)
      have st : ∀ {H''}, ExtB H.length H₂ H'' → stands [ls] H₂ H'' = true := fun x => stands1 ax (x _ _ (Nat.ne_of_gt l2) ax)
      refine (at_of hk).elim fun p hp => ?_
      have hA' := xH _ _ hA
      apply some_i (idx_per (scr := scr) hA' hp)
      apply some_i (lst_at hA')
      rw [List.length_map]
      refine range_n (Nat.lt_of_le_of_lt hl (by decide)) (ok_i (sz_i (by rw [List.length_map, List.length_range]; exact Nat.lt_of_le_of_lt hl (by decide))) ?_)
      refine comp_pf (P := olderB ps p.born) (F := nv) _ _ _ (fun j hj T hT => ?_) (fun j _ _ N hN => hN) ?_
      · refine (at_of (List.mem_range.mp hj)).elim fun pj hpj => ?_
        apply some_i (idx_per (scr := scr) hA' hpj)
        unfold olderB at hT
        rw [hpj] at hT
        exact wif_T (T := T) hT
      · have hes : ∀ j ∈ (List.range ps.length).filter (olderB ps p.born), Older ps p.born j := fun j hj => older_of (List.mem_filter.mp hj).2
        have ae := at_new H' (.list (nvs ((List.range ps.length).filter (olderB ps p.born))))
        generalize (List.range ps.length).filter (olderB ps p.born) = es at hes ae
        have no : ∀ {H''} {o3 o4 o5 o6 o7 o8 o9 o10}, Ext H' H'' → N [some (.ref l), some (.int c), some (.ref H.length), o3, o4, o5, o6, o7, o8, o9, o10] H'' := fun x' => hN _ _ (st (x.trans (x'.b _))) ⟨_, _, _, _, _, _, _, _, k + 1, xs', ps', rfl, x.trans (x'.b _), x' _ _ a, eas, by (first | lia | omega), ad⟩
        have fin : ∀ {al H₃} {o3 o4 o5 o6 o7 o8 o9 o10}, (∀ j ∈ al, j ∈ es) → al.length ≤ 2 → Ext H' H₃ → WSet (.ref H.length) (nv k) (.tup [.int p.born, .tup (nvs p.par), .tup [.int (p.born + xx.fmod 30), .tup (nvs al)], diV p.died]) H₃ (fun H₄ => N [some (.ref l), some (.int c), some (.ref H.length), o3, o4, o5, o6, o7, o8, o9, o10] H₄) := fun {al H₃ _ _ _ _ _ _ _ _} hal h2 x₃ => by
          have hk' : k < ps'.length := by rw [ad.1]; exact hk
          refine set_at (x₃ _ _ a) (by rw [List.length_map]; exact hk') ?_
          have x4 := x.trans ((x₃.b _).trans (ExtB.set H.length H₃ (.list ((ps'.map perV).set k (.tup [.int p.born, .tup (nvs p.par), .tup [.int (p.born + xx.fmod 30), .tup (nvs al)], diV p.died])))))
          refine hN _ _ (st x4) ⟨_, _, _, _, _, _, _, _, k + 1, xs', ps'.set k ⟨p.born, p.par, some (p.born + xx.fmod 30, al), p.died⟩, rfl, x4, ?_, eas, by (first | lia | omega), by rw [List.length_set]; exact ad.1, fun i p' hp' => ?_⟩
          · rw [List.map_set]; exact at_set (x₃ _ _ a) _
          · by_cases hik : k = i
            · subst hik
              rw [List.getElem?_set_self hk'] at hp'
              cases hp'
              exact ⟨(hW k p hp).casesOn fun a' b' c' d' => ⟨a', fun y hy j hj => by cases hy; exact hes j (hal j hj), c', fun y hy => by cases hy; exact h2⟩, p, hp, rfl⟩
            · rw [List.getElem?_set_ne hik] at hp'
              exact ad.2 i p' hp'
        show wIf (((xx.fdiv 30).fmod 4 == 0) == true) _ _
        refine if_t (fun h1 => ?_) fun h1 => if_ff h1 (no (Ext.app _ _))
        apply some_i (ne_nil (scr := scr) (at_app _ ae) (rdL_nv _ _) (at_new _ _))
        rw [List.isEmpty_map]
        have xx2 : ∀ a b : List Cell, Ext H' (H' ++ a ++ b) := fun a b => (Ext.app _ _).trans (Ext.app _ _)
        refine if_t (fun h2 => ?_) fun h2 => if_ff h2 (no (xx2 _ _))
        have sm : ∀ (al : List Nat) (H₃ : Hp), (∀ j ∈ al, j ∈ es) → al.length ≤ 2 → Ext (H' ++ [.list (nvs es)] ++ [.list []]) H₃ → _ := fun al H₃ hal h2 x₃ => fin (o3 := some (nv k)) (o4 := some (.int xx)) (o5 := some (.int p.born)) (o6 := some (.tup (nvs p.par))) (o7 := some (adV p.ad)) (o8 := some (diV p.died)) (o9 := some (.ref H'.length)) (o10 := some (.int (p.born + xx.fmod 30))) hal h2 ((xx2 _ _).trans x₃)
        have no2 := no (o3 := some (nv k)) (o4 := some (.int xx)) (o5 := some (.int p.born)) (o6 := some (.tup (nvs p.par))) (o7 := some (adV p.ad)) (o8 := some (diV p.died)) (o9 := some (.ref H'.length)) (o10 := some (.int (p.born + xx.fmod 30))) (xx2 [.list (nvs es)] [.list []])
        revert sm no2
        cases hd : p.died with
        | none => exact fun sm _ => call_i (w_some (at_app _ ae) sm)
        | some e =>
          intro sm no2
          show wIf (decide (p.born + xx.fmod 30 < e)) _ _
          exact if_i (fun _ => call_i (w_some (at_app _ ae) sm)) fun _ => no2
  · refine h.casesOn fun o3 o4 o5 o6 o7 o8 o9 o10 k xs' ps' e x a ea len ad => ?_
    subst e
    exact q _ _ ps' ad.1 ad.wf (x.ext ((Ext.app _ _).trans x₂) (Nat.le_refl _)) (Nat.le_refl _) a)
end
end Mine.L

end
section
set_option autoImplicit false
set_option linter.unusedVariables false
set_option linter.unusedSimpArgs false
set_option maxRecDepth 100000
namespace Mine.L
open Mine.P PySem
section
variable {scr : List Int} {n : Nat} {c : Int} {l : Nat} {H : Hp} {Q X : PQ}
theorem all_ints : ∀ {vs : List V}, (∀ v ∈ vs, ∃ i, v = .int i) → ∃ is, allInts vs = some is
  | [], _ => ⟨[], rfl⟩
  | v :: r, h => (h v List.mem_cons_self).elim fun i hi => (all_ints fun v hv => h v (.tail _ hv)).elim fun is his => ⟨i :: is, by
      rw [hi]
      show (allInts r).map (i :: ·) = _
      rw [his]; rfl⟩
end
end Mine.L

end
section
set_option autoImplicit false
set_option linter.unusedVariables false
set_option linter.unusedSimpArgs false
set_option maxRecDepth 100000
namespace Mine.L
open Mine.P PySem
abbrev Cn := List (Nat × Int)
abbrev IsI (i : Int) (v : V) : Prop := v = .int i
theorem all2_right {α β : Type} {R : α → β → Prop} {as : List α} {bs : List β} (h : All2 R as bs) : ∀ b ∈ bs, ∃ a, R a b := h.rec (motive := fun as bs _ => ∀ b ∈ bs, ∃ a, R a b) (fun _ h => nomatch h) fun r _ ih b hb => (List.mem_cons.mp hb).elim (fun e => ⟨_, e ▸ r⟩) (ih b)
theorem cn_get {ws : Cn} {es : List (Int × V)} (h : DcAt hz IsI ws es) (k : Int) : ∃ i, (dget es k).getD (.int 0) = .int i := by
  unfold dget
  cases hf : es.find? fun p => decide (p.1 = k) with
  | none => exact ⟨0, rfl⟩
  | some e => exact (all2_right h e (List.mem_of_find?_eq_some hf)).elim fun a ha => ⟨a.2, ha.2⟩
theorem aput_len {A B : Type} [DecidableEq A] {ws : List (A × B)} {a : A} {b : B} : (aput ws a b).length ≤ ws.length + 1 := by
  unfold aput
  split
  · rw [List.length_map]; exact Nat.le_succ _
  · rw [List.length_append]; exact Nat.le_refl _
theorem aput_has {A B : Type} [DecidableEq A] {ws : List (A × B)} {a : A} {b : B} : ahas (aput ws a b) a = true := by
  rw [ahas_iff, aput_keys]
  split
  · rename_i h; exact ahas_iff.mp h
  · exact List.mem_append_right _ List.mem_cons_self
abbrev ta1 : S := .asg (.var 4) (.listOf (.idx (.idx (.var 0) (.var 3)) (.k (.int 1))))
abbrev ta2 : S := .ife (.isNone false (.idx (.idx (.var 0) (.var 3)) (.k (.int 2))))
        [.asg (.var 4) (.bin .add (.var 4) (.comp 1 (.var 0) (.var 0) (.of (.idx (.idx (.idx (.var 0) (.var 3)) (.k (.int 2))) (.k (.int 1)))) [(.cmp .notIn (.var 0) (.var 5))]))]
        []
abbrev ta3 : S := .setIdx (.var 2) (.var 3) (.bin .add (.meth .get2 (.var 2) [(.var 3), (.k (.int 0))]) (.bi .sumI [(.comp 1 (.meth .get2 (.var 3) [(.var 0), (.k (.int 0))]) (.var 0) (.of (.var 4)) [])]))
abbrev ta4 : S := .ife (.cmp .gt (.idx (.var 2) (.var 3)) (.k (.int 40)))
        [.ret (.k (.bool true))]
        []
abbrev taR (l : Nat) (o1 : Option V) (lw : Nat) (j : Nat) (o4 : Option V) : Env' := [some (.ref l), o1, some (.ref lw), some (nv j), o4]
section
variable {scr : List Int} {n : Nat} {l lw la j : Nat} {H : Hp} {K : Out → Prop} {rest : List S} {ps : List Per} {e : Env' → V → Hp → Prop} {o1 o4 : Option V} {ws : Cn} {es : List (Int × V)} {ep : Nat} {as : List Nat}
theorem t1 {p : Per} (hW : WfP ps) (hA : H[l]? = some (.list (ps.map perV))) (hp : ps[j]? = some p) (h : ∀ as la H', as.length ≤ 10 → Ext H H' → H'[la]? = some (.list (nvs as)) → WSs (pC scr n e) rest (taR l o1 lw j (some (.ref la))) H' K) : WSs (pC scr n e) (ta1 :: ta2 :: rest) (taR l o1 lw j o4) H K := by
  have h2 : p.par.length ≤ 2 := (hW j p hp).casesOn fun _ _ c _ => c
  have a1 := at_new H (.list (nvs p.par))
  have hA' := at_app [.list (nvs p.par)] hA
  refine ss_asg ?_
  apply some_i (idx_per (scr := scr) hA hp)
  refine ok_i (sz_i (show (nvs p.par).length < 16000000 by rw [List.length_map]; exact Nat.lt_of_le_of_lt h2 (by decide))) ?_
  apply some_i (idx_per (scr := scr) hA' hp)
  have h := h
  have no := h p.par _ _ (Nat.le_trans h2 (by decide)) (Ext.app _ _) a1
  unfold perV
  cases ha : p.ad with
  | none => exact no
  | some y =>
    have hy2 : y.2.length ≤ 2 := (hW j p hp).casesOn fun _ _ _ d => d y ha
    refine ss_asg (we_bin (we_var rfl (we_comp ?_)))
    apply some_i (idx_per (scr := scr) hA' hp)
    unfold perV
    rw [ha]
    refine ok_i (sz_i (show (nvs y.2).length < 16000000 by rw [List.length_map]; exact Nat.lt_of_le_of_lt hy2 (by decide))) ?_
    refine comp_pf (g := nv) (P := fun i => !decide (i ∈ p.par)) (F := nv) y.2 _ _ (fun i _ T hT => ?_) (fun i _ _ N hN => hN) ?_
    · apply some_i (notin_at (scr := scr) a1)
      exact wif_T (T := T) hT
    · have h3 := List.length_filter_le (fun i => !decide (i ∈ p.par)) y.2
      refine add_i (at_app _ a1) (at_new _ _) (by rw [List.nil_append, List.length_append, List.length_map, List.length_map]; (first | lia | omega)) (some_i rfl ?_)
      refine h (p.par ++ y.2.filter fun i => !decide (i ∈ p.par)) _ _ (by rw [List.length_append]; (first | lia | omega)) ((Ext.app _ _).trans ((Ext.app _ _).trans (Ext.app _ _))) ?_
      rw [at_new, List.nil_append]
      exact congrArg (fun l => some (Cell.list l)) (List.map_append (f := nv) (l₁ := p.par)).symm
theorem mk_i {A : Prop} (h : H[lw]? = some (.dict ep es)) (a : A) : wOk (meKind .get2 H (.ref lw)) A := ok_i (by show (H[lw]?.bind asDict).isSome = true; rw [h]; rfl) a
theorem we_get {C : Ctx} {ρ : Env'} {a b k : Nat} {Q : PQ} (ha : ρ[a]?.join = some (.ref lw)) (hb : ρ[b]?.join = some (nv k)) (h : H[lw]? = some (.dict ep es)) (q : Q ((dget es (hz k)).getD (.int 0)) H) : WE C (.meth .get2 (.var a) [.var b, .k (.int 0)]) ρ H Q := by
  have e : dictAt' H (.ref lw) = some es := by show H[lw]?.bind asDict = _; rw [h]; rfl
  refine some_i ha (mk_i h ?_)
  refine some_i hb ?_
  exact some_i e q
theorem ss_set {C : Ctx} {ρ : Env'} {a i e : E} {r : List S} (h : WE C e ρ H fun v H => WE C a ρ H fun x H => WE C i ρ H fun k H => WSet x k v H fun H' => WSs C r ρ H' K) : WSs C (.setIdx a i e :: r) ρ H K := h
theorem t3 (hw : H[lw]? = some (.dict ep es)) (dc : DcAt hz IsI ws es) (hl : ws.length ≤ 1000) (ha : H[la]? = some (.list (nvs as))) (hal : as.length ≤ 10) (h1 : ∀ i ep H', ExtB lw H H' → ∀ es', H'[lw]? = some (.dict ep es') → DcAt hz IsI (aput ws j i) es' → K (.next (taR l o1 lw j (some (.ref la))) H')) (h2 : ∀ H', ExtB lw H H' → K (.ret (.bool true) H')) : WSs (pC scr n e) [ta3, ta4] (taR l o1 lw j (some (.ref la))) H K := by
  refine (cn_get dc (hz j)).elim fun i hi => ?_
  refine ss_set (we_bin (we_get (k := j) rfl rfl hw ?_))
  rw [hi]
  apply some_i (keys_at (scr := scr) ha)
  refine ok_i (sz_i (by rw [List.length_map]; exact Nat.lt_of_le_of_lt hal (by decide))) ?_
  refine comp_pf (P := fun _ => true) (F := fun k => (dget es (hz k)).getD (.int 0)) _ _ _ (fun i _ T hT => hT) (fun k _ _ N hN => we_get (k := k) rfl rfl hw hN) ?_
  rw [filter_true]
  refine (all_ints (vs := as.map fun k => (dget es (hz k)).getD (.int 0)) fun v hv => (List.mem_map.mp hv).elim fun k hk => hk.2 ▸ cn_get dc (hz k)).elim fun is his => ?_
  have e : intsAt (H ++ [.list ([] ++ as.map fun k => (dget es (hz k)).getD (.int 0))]) (.ref H.length) = some is := by
    show (lstAt _ (.ref H.length)).bind allInts = _
    rw [lst_at (at_new _ _)]; exact his
  apply some_i e
  refine wb_int rfl (we_var rfl (we_var rfl ?_))
  refine set_di (at_app _ hw) (by rw [All2.len dc]; exact Nat.lt_of_le_of_lt hl (by decide)) fun ep' => ?_
  have dc' : DcAt hz IsI (aput ws j (i + is.sum)) (dput es (hz j) (.int (i + is.sum))) := DcAt.put hz_inj dc rfl
  have a' := at_set (at_app [.list ([] ++ as.map fun k => (dget es (hz k)).getD (.int 0))] hw) (.dict ep' (dput es (hz j) (.int (i + is.sum))))
  refine (dc'.get hz_inj j aput_has).elim fun z hz' => hz'.elim fun v hv => ?_
  apply some_i (idx_di (scr := scr) a' hv.2.1)
  rw [hv.2.2]
  have xx := (ExtB.app lw H [.list ([] ++ as.map fun k => (dget es (hz k)).getD (.int 0))]).trans (ExtB.set lw _ (.dict ep' (dput es (hz j) (.int (i + is.sum)))))
  show wIf (decide (z > 40)) _ _
  exact if_i (fun _ => h2 _ xx) fun _ => h1 _ _ _ xx _ a' dc'
end
end Mine.L

end
section
set_option autoImplicit false
set_option linter.unusedVariables false
set_option linter.unusedSimpArgs false
set_option maxRecDepth 100000
namespace Mine.L
open Mine.P PySem
/-- a list of states as a value, at b or behind -/
inductive SlAt (b : Nat) (H : Hp) (ss : List St) (v : V) : Prop
  | mk (l : Nat) (hb : b ≤ l) (e : v = .ref l) (a : H[l]? = some (.list (ss.map sv)))
theorem SlAt.ext {b : Nat} {H H' : Hp} {ss : List St} {v : V} (h : SlAt b H ss v) (x : Ext H H') : SlAt b H' ss v := h.casesOn fun l hb e a => ⟨l, hb, e, x _ _ a⟩
theorem SlAt.set {b lf : Nat} {H H' : Hp} {ss : List St} {v : V} {c : Cell} (h : SlAt b H ss v) (hf : H[lf]? = some c) (hc : ∀ vs, c ≠ .list vs) (x : ExtB lf H H') : SlAt b H' ss v := h.casesOn fun l hb e a => ⟨l, hb, e, x l _ (fun q => hc _ (by rw [← q] at hf; exact Option.some.inj (hf.symm.trans a))) a⟩
abbrev Ah := List (St × List St)
/-- the steps ahead of each state, as a table -/
inductive AhAt (ps : List Per) (d : Int) (b : Nat) (H : Hp) (la : Nat) : Prop
  | mk (ea : Nat) (es : List ((Int × Bool) × V)) (ws : Ah) (a : H[la]? = some (.dicP ea es)) (dc : DcAt kz (SlAt b H) ws es) (all : ∀ s : St, s.1 < ps.length → s ∈ ws.map (·.1)) (ok : ∀ e ∈ ws, e.2 = stepsAt ps d e.1 ∧ e.1.1 < ps.length) (len : ws.length ≤ 40)
theorem AhAt.ext {ps : List Per} {d : Int} {b : Nat} {H H' : Hp} {la : Nat} (h : AhAt ps d b H la) (x : Ext H H') : AhAt ps d b H' la := h.casesOn fun ea es ws a dc all ok len => ⟨ea, es, ws, x _ _ a, dc.imp fun _ _ h => h.ext x, all, ok, len⟩
theorem AhAt.get {ps : List Per} {d : Int} {b : Nat} {H : Hp} {la : Nat} {scr : List Int} (h : AhAt ps d b H la) {s : St} (hs : s.1 < ps.length) : ∃ v, idxV scr (.ref la) (sv s) H = some v ∧ SlAt b H (stepsAt ps d s) v := h.casesOn fun ea es ws a dc all ok len => (dc.get kz_inj s (ahas_iff.mpr (all s hs))).elim fun ss h => h.elim fun v h => ⟨v, idx_dp a h.2.1, (aget_mem (all s hs)).elim fun b hb => by
  rw [h.1] at hb
  have := (ok _ hb.2).1
  rw [← Option.some.inj hb.1] at this
  rw [← (this : ss = stepsAt ps d s)]
  exact h.2.2⟩
inductive AhI (ps : List Per) (d : Int) (l lf : Nat) (H : Hp) (as : List Nat) (ρ : Env') (H' : Hp) : Prop
  | mk (o3 o4 : Option V) (ef : Nat) (es : List ((Int × Bool) × V)) (ws : Ah) (e : ρ = [some (.ref l), some (.int d), some (.ref lf), o3, o4]) (x : Ext H H') (a : H'[lf]? = some (.dicP ef es)) (dc : DcAt kz (SlAt lf H') ws es) (all : ∀ s : St, s.1 < ps.length → s.1 ∈ as ∨ s ∈ ws.map (·.1)) (ok : ∀ e ∈ ws, e.2 = stepsAt ps d e.1 ∧ e.1.1 < ps.length) (len : ws.length + 2 * as.length ≤ 40) (rg : ∀ c ∈ as, c < ps.length)
theorem aput_key {A B : Type} [DecidableEq A] {f : List (A × B)} {a c : A} {b : B} (h : c = a ∨ c ∈ f.map (·.1)) : c ∈ (aput f a b).map (·.1) := by
  rw [aput_keys]
  split
  · rename_i ha
    exact h.elim (fun e => e ▸ ahas_iff.mp ha) id
  · exact List.mem_append.mpr (h.elim (fun e => .inr (List.mem_singleton.mpr e)) .inl)
theorem aput_le {A B : Type} [DecidableEq A] {ws : List (A × B)} {a : A} {b : B} : (aput ws a b).length ≤ ws.length + 1 := by
  unfold aput
  split
  · rw [List.length_map]; exact Nat.le_succ _
  · rw [List.length_append]; exact Nat.le_refl _
section
variable {scr : List Int} {n : Nat} {l k : Nat} {H : Hp} {Q X : PQ}
theorem new_i {vs : List V} (h : Q (.ref H.length) (H ++ [.list vs])) : newL vs H Q := h
theorem we_st {C : Ctx} {ρ : Env'} {j c : Nat} {b : Bool} (hv : ρ[j]?.join = some (nv c)) (h : Q (sv (c, b)) H) : WE C (.tup [.var j, .k (.bool b)]) ρ H Q := some_i hv h
theorem w_lparents {d : Int} {ps : List Per} {p : Per} (hA : H[l]? = some (.list (ps.map perV))) (hp : ps[k]? = some p) (q : Q (.tup (nvs (parOn p d))) H) : callX ⟨scr, pgks, pfns⟩ (n + 1) i_law_parents [.ref l, nv k, .int d] H Q X := c_law_parents (by
  have q : Q (.tup (nvs (match p.ad with | none => p.par | some a => if a.1 ≤ d then a.2 else p.par))) H := q
  have ix := idx_per (scr := scr) hA hp
  unfold perV at ix
  apply some_i ix
  cases ha : p.ad with
  | none =>
    rw [ha] at q ix
    apply some_i ix
    exact q
  | some a =>
    rw [ha] at q ix
    apply some_i ix
    show wIf (decide (a.1 ≤ d)) _ _
    refine if_c (fun h => ?_) fun h => ?_
    · rw [show (match (some a : Option (Int × List Nat)) with | none => p.par | some a => if a.1 ≤ d then a.2 else p.par) = a.2 from if_pos h] at q
      apply some_i ix
      exact q
    · rw [show (match (some a : Option (Int × List Nat)) with | none => p.par | some a => if a.1 ≤ d then a.2 else p.par) = p.par from if_neg h] at q
      apply some_i ix
      exact q)
theorem w_lchildren {d : Int} {ps : List Per} (hA : H[l]? = some (.list (ps.map perV))) (hl : ps.length ≤ 20) (q : ∀ lc H', H.length ≤ lc → Ext H H' → H'[lc]? = some (.list (nvs (kids ps d k))) → Q (.ref lc) H') : callX ⟨scr, pgks, pfns⟩ (n + 2) i_law_children [.ref l, nv k, .int d] H Q X := c_law_children (w_kids (fun a b q => w_lparents a b q) hA hl q)
abbrev ah1 : S := .asg (.var 4) (.comp 1 (.tup [(.var 0), (.k (.bool true))]) (.var 0) (.of (.call i_law_children [(.var 0), (.var 3), (.var 1)])) [])
abbrev ah2 : S := .setIdx (.var 2) (.tup [(.var 3), (.k (.bool true))]) (.var 4)
abbrev ah3 : S := .setIdx (.var 2) (.tup [(.var 3), (.k (.bool false))]) (.bin .add (.var 4) (.comp 1 (.tup [(.var 0), (.k (.bool false))]) (.var 0) (.of (.call i_law_parents [(.var 0), (.var 3), (.var 1)])) []))
section
variable {K : Out → Prop} {rest : List S} {e : Env' → V → Hp → Prop} {d : Int} {ps : List Per} {c lf m : Nat} {o4 : Option V}
theorem ah1_i (hl : ps.length ≤ 20) (hA : H[l]? = some (.list (ps.map perV))) (h : ∀ m H', Ext H H' → H.length ≤ m → H'[m]? = some (.list (((kids ps d c).map fun c => (c, true)).map sv)) → WSs (pC scr (n + 2) e) rest [some (.ref l), some (.int d), some (.ref lf), some (nv c), some (.ref m)] H' K) : WSs (pC scr (n + 2) e) (ah1 :: rest) [some (.ref l), some (.int d), some (.ref lf), some (nv c), o4] H K := by
  have hk := Nat.lt_of_le_of_lt (Nat.le_trans (kids_len ps d c) hl) (show 20 < 16000000 by decide)
  refine ss_asg (we_comp ?_)
  refine call_i (w_lchildren (n := n) hA hl fun lc H₁ hb x1 ac => ?_)
  apply some_i (keys_at (scr := scr) ac)
  refine ok_i (sz_i (by rw [List.length_map]; exact hk)) (comp_pf (P := fun _ => true) (F := fun c => sv (c, true)) _ _ _ (fun a _ T h => h) (fun a _ _ N h => h) (new_i (some_i rfl (h _ _ (x1.trans (Ext.app _ _)) x1.len ?_))))
  rw [filter_true, at_new, List.map_map]; rfl
theorem ah2_i {es : List ((Int × Bool) × V)} {ep : Nat} (hL : H[lf]? = some (.dicP ep es)) (hs : es.length < 16000000) (h : ∀ ep, WSs (pC scr n e) rest [some (.ref l), some (.int d), some (.ref lf), some (nv c), some (.ref m)] (H.set lf (.dicP ep (dput es (kz (c, true)) (.ref m)))) K) : WSs (pC scr n e) (ah2 :: rest) [some (.ref l), some (.int d), some (.ref lf), some (nv c), some (.ref m)] H K :=
  ss_set (we_var rfl (we_var rfl (we_st (c := c) rfl (set_dp hL hs h))))
theorem ah3_i {es : List ((Int × Bool) × V)} {ep : Nat} {p : Per} {us : List St} {mm : Nat} (hW : WfP ps) (hA : H[l]? = some (.list (ps.map perV))) (hp : ps[c]? = some p) (hM : H[mm]? = some (.list (us.map sv))) (hu : us.length ≤ 20) (hL : H[lf]? = some (.dicP ep es)) (hs : es.length < 16000000) (h : ∀ ep m H', Ext H H' → H.length ≤ m → H'[m]? = some (.list ((us ++ (parOn p d).map fun c => (c, false)).map sv)) → WSs (pC scr (n + 1) e) rest [some (.ref l), some (.int d), some (.ref lf), some (nv c), some (.ref mm)] (H'.set lf (.dicP ep (dput es (kz (c, false)) (.ref m)))) K) : WSs (pC scr (n + 1) e) (ah3 :: rest) [some (.ref l), some (.int d), some (.ref lf), some (nv c), some (.ref mm)] H K := by
  have h2 := par_len hW hp d
  refine ss_set (we_bin (we_var rfl (we_comp ?_)))
  refine call_i (w_lparents hA hp ?_)
  refine ok_i (sz_i (by rw [List.length_map]; exact Nat.lt_of_le_of_lt h2 (by decide))) (comp_pf (P := fun _ => true) (F := fun c => sv (c, false)) _ _ _ (fun a _ T h => h) (fun a _ _ N h => h) ?_)
  rw [filter_true]
  refine new_i (add_i (at_app _ hM) (at_new _ _) (by rw [List.length_append, List.nil_append, List.length_map, List.length_map]; exact Nat.lt_of_le_of_lt (Nat.add_le_add hu h2) (by decide)) ?_)
  refine we_var rfl (we_st (c := c) rfl (set_dp (at_app _ (at_app _ hL)) hs fun ep => h ep _ _ ((Ext.app _ _).trans (Ext.app _ _)) (by rw [List.length_append]; exact Nat.le_add_right _ _) ?_))
  rw [at_new, List.map_append, List.map_map]; rfl
end
theorem w_lahead {d : Int} {ps : List Per} (hW : WfP ps) (hl : ps.length ≤ 20) (hA : H[l]? = some (.list (ps.map perV))) (q : ∀ la H', H.length ≤ la → Ext H H' → AhAt ps d H.length H' la → Q (.ref la) H') : callX ⟨scr, pgks, pfns⟩ (n + 3) i_law_ahead [.ref l, .int d] H Q X := c_law_ahead (by
  apply some_i (lst_at (at_app [.dicP 0 []] hA))
  rw [List.length_map]
  refine range_n (Nat.lt_of_le_of_lt hl (by decide)) (for_as (AhI ps d l H.length H) (fun c as ρ H' h => ?_) (fun ρ H' h => ?_) _ _ _ ⟨none, none, 0, [], [], rfl, Ext.app _ _, at_new _ _, .nil, fun s hs => .inl (List.mem_range.mpr hs), fun e he => (nomatch he), by rw [List.length_range]; show 0 + 2 * ps.length ≤ 40; (first | lia | omega), fun c hc => List.mem_range.mp hc⟩)
  · refine h.casesOn fun o3 o4 ef es ws e x a dc all ok len rg => ?_
    subst e
    refine fun N hN => ?_
    rw [List.length_cons] at len
    have hc := rg c List.mem_cons_self
    refine (at_of hc).elim fun p hp => ?_
    refine ah1_i (n := n) hl (x _ _ hA) fun m H₂ x2 bm a1 => ?_
    have b0 : H.length < m := Nat.lt_of_lt_of_le (at_lt a) bm
    have hkl := dc.imp fun _ _ h => h.ext x2
    refine ah2_i (x2 _ _ a) (by rw [All2.len dc]; (first | lia | omega)) fun ep => ?_
    have s1 : stepsAt ps d (c, true) = (kids ps d c).map fun c => (c, true) := by unfold stepsAt; rw [show ps[(c, true).1]? = some p from hp]; exact List.append_nil _
    have s2 : stepsAt ps d (c, false) = (kids ps d c).map (fun c => (c, true)) ++ (parOn p d).map fun c => (c, false) := by unfold stepsAt; rw [show ps[(c, false).1]? = some p from hp]; rfl
    have v1 : SlAt H.length H₂ (stepsAt ps d (c, true)) (.ref m) := ⟨_, Nat.le_of_lt b0, rfl, by rw [s1]; exact a1⟩
    have x3 := ExtB.set H.length H₂ (.dicP ep (dput es (kz (c, true)) (.ref m)))
    have a3 := at_set (x2 _ _ a) (.dicP ep (dput es (kz (c, true)) (.ref m)))
    have d1 : DcAt kz (SlAt H.length (H₂.set H.length (.dicP ep (dput es (kz (c, true)) (.ref m))))) (aput ws (c, true) (stepsAt ps d (c, true))) (dput es (kz (c, true)) (.ref m)) := DcAt.put kz_inj (hkl.imp fun _ _ h => h.set (x2 _ _ a) (fun vs h => nomatch h) x3) (v1.set (x2 _ _ a) (fun vs h => nomatch h) x3)
    have a1' := x3 _ _ (Nat.ne_of_gt b0) a1
    have xH : Ext H (H₂.set H.length (.dicP ep (dput es (kz (c, true)) (.ref m)))) := x3.ext (x.trans x2) (Nat.le_refl _)
    generalize H₂.set H.length (.dicP ep (dput es (kz (c, true)) (.ref m))) = H₃ at x3 a3 d1 a1' xH ⊢
    have len1 := aput_le (ws := ws) (a := (c, true)) (b := stepsAt ps d (c, true))
    refine ah3_i (n := n + 1) hW (xH _ _ hA) hp a1' (by rw [List.length_map]; exact Nat.le_trans (kids_len ps d c) hl) a3 (by rw [All2.len d1]; (first | lia | omega)) fun ep' m' H₄ x4 bm' a4 => ?_
    have v2 : SlAt H.length H₄ (stepsAt ps d (c, false)) (.ref m') := ⟨_, Nat.le_trans xH.len bm', rfl, by rw [s2]; exact a4⟩
    have a3' := x4 _ _ a3
    have x5 := ExtB.set H.length H₄ (.dicP ep' (dput (dput es (kz (c, true)) (.ref m)) (kz (c, false)) (.ref m')))
    have len2 := aput_le (ws := aput ws (c, true) (stepsAt ps d (c, true))) (a := (c, false)) (b := stepsAt ps d (c, false))
    refine hN _ _ rfl ⟨_, _, ep', _, _, rfl, x5.ext (xH.trans x4) (Nat.le_refl _), at_set a3' _, DcAt.put kz_inj ((d1.imp fun _ _ h => h.ext x4).imp fun _ _ h => h.set a3' (fun vs h => nomatch h) x5) (v2.set a3' (fun vs h => nomatch h) x5), fun s hs => ?_, fun e he => ?_, by (first | lia | omega), fun c hc => rg c (.tail _ hc)⟩
    · rcases all s hs with h | h
      · rcases List.mem_cons.mp h with h | h
        · obtain ⟨c', bb⟩ := s
          subst h
          cases bb
          · exact .inr (aput_key (.inl rfl))
          · exact .inr (aput_key (.inr (aput_key (.inl rfl))))
        · exact .inl h
      · exact .inr (aput_key (.inr (aput_key (.inr h))))
    · exact (aput_mem he).elim (fun h => (aput_mem h).elim (ok e) fun h => by rw [h]; exact ⟨rfl, hc⟩) fun h => by rw [h]; exact ⟨rfl, hc⟩
  · refine h.casesOn fun o3 o4 ef es ws e x a dc all ok len rg => ?_
    subst e
    exact q _ _ (Nat.le_refl _) x ⟨ef, es, ws, a, dc, fun s hs => (all s hs).elim (fun h => nomatch h) id, ok, by (first | lia | omega)⟩)
end
end Mine.L

end
section
set_option autoImplicit false
set_option linter.unusedVariables false
set_option linter.unusedSimpArgs false
set_option maxRecDepth 100000
namespace Mine.L
open Mine.P PySem
section
variable {C : Ctx} {ρ ρ' : Env'} {H : Hp} {Q : PQ} {K : Out → Prop} {r : List S} {t : Tgt} {e a i : E} {v x y : V}
theorem ss_ife {b c : List S} (h : WTr C e ρ H fun t H => wIf t (WSs C b ρ H fun o => wThen o (fun ρ H => WSs C r ρ H K) (K o)) (WSs C c ρ H fun o => wThen o (fun ρ H => WSs C r ρ H K) (K o))) : WSs C (.ife e b c :: r) ρ H K := h
theorem tr_cmp {op : COp} {R : Bool → Hp → Prop} (h : WE C a ρ H fun x H => WE C i ρ H fun y H => wSome (cmpV C.scr op x y H) fun t => R t H) : WTr C (.cmp op a i) ρ H R := h
theorem wi_of {R : List V × List Nat → Hp → Prop} (h : WE C e ρ H fun x H => wSome (keysOf C.scr H x) fun vs => R (vs, watch x) H) : WIt C (.of e) ρ H R := h
theorem we_idx (h : WE C a ρ H fun x H => WE C i ρ H fun y H => wSome (idxV C.scr x y H) fun v => Q v H) : WE C (.idx a i) ρ H Q := h
theorem wt_cmp {op : COp} {R : Bool → Hp → Prop} (h : WE C a ρ H fun x H => WE C i ρ H fun y H => wSome (cmpV C.scr op x y H) fun t => wIf t (R true H) (R false H)) : WT C [.cmp op a i] ρ H R := h
theorem we_dctP (q : Q (.ref H.length) (H ++ [.dicP 0 []])) : WE C .dctP ρ H Q := q
theorem ss_nil (h : K (.next ρ H)) : WSs C [] ρ H K := h
theorem ss_expr (h : WE C e ρ H fun _ H => WSs C r ρ H K) : WSs C (.expr e :: r) ρ H K := h
theorem ss_app {l j m : Nat} {vs : List V} (hj : ρ[j]?.join = some (.ref l)) (hm : ρ[m]?.join = some v) (h : H[l]? = some (.list vs)) (hs : vs.length < 16000000) (k : WSs C r ρ (H.set l (.list (vs ++ [v]))) K) : WSs C (.expr (.meth .append (.var j) [.var m]) :: r) ρ H K := some_i hj (me_i h (some_i hm (app_i h hs k)))
end
/-! who can still come to h -/
def Bk (F : St → List St) (h : Nat) : Nat → St → Prop
  | 0, s => s.1 = h
  | m + 1, s => ∃ u, u ∈ F s ∧ Bk F h m u
abbrev TT (_ : Unit) (_ : V) : Prop := True
/-- those who come to h in m steps, as a table -/
inductive BkAt (F : St → List St) (h : Nat) (H : Hp) (m : Nat) (v : V) : Prop
  | mk (l ep : Nat) (es : List ((Int × Bool) × V)) (ts : Kn) (e : v = .ref l) (a : H[l]? = some (.dicP ep es)) (dc : DcAt kz TT ts es) (ok : ∀ s, s ∈ ts.map (·.1) ↔ Bk F h m s)
theorem BkAt.ext {F : St → List St} {h : Nat} {H H' : Hp} {m : Nat} {v : V} (b : BkAt F h H m v) (x : Ext H H') : BkAt F h H' m v := b.casesOn fun l ep es ts e a dc ok => ⟨l, ep, es, ts, e, x _ _ a, dc, ok⟩
theorem BkAt.set {F : St → List St} {h lb : Nat} {H H' : Hp} {m : Nat} {v : V} {vs : List V} (b : BkAt F h H m v) (hb : H[lb]? = some (.list vs)) (x : ExtB lb H H') : BkAt F h H' m v := b.casesOn fun l ep es ts e a dc ok => ⟨l, ep, es, ts, e, x _ _ (fun q => by rw [q, hb] at a; cases a) a, dc, ok⟩
theorem steps_len {ps : List Per} (hW : WfP ps) (hl : ps.length ≤ 20) {d : Int} (s : St) : (stepsAt ps d s).length ≤ 22 := by
  unfold stepsAt
  cases hp : ps[s.1]? with
  | none => exact Nat.zero_le _
  | some p =>
    have h1 := kids_len ps d s.1
    have h2 := par_len hW hp d
    show ((kids ps d s.1).map (fun c => (c, true)) ++ (if s.2 then [] else (parOn p d).map fun c => (c, false))).length ≤ 22
    rw [List.length_append, List.length_map]
    split
    · rw [List.length_nil]; (first | lia | omega)
    · rw [List.length_map]; (first | lia | omega)
noncomputable def stD (s : St) : PyData := .tuple [.int s.1, .bool s.2]
theorem rdL_sv {H : Hp} : ∀ ss : List St, rdL (rd H 9) (ss.map sv) = some (ss.map stD)
  | [] => rfl
  | s :: r => by
    show (match rd H 9 (sv s), rdL (rd H 9) (r.map sv) with | some d, some ds => some (d :: ds) | _, _ => none) = _
    rw [rdL_sv r]; rfl
section
variable {scr : List Int} {n : Nat} {H : Hp} {Q X : PQ} {K : Out → Prop} {rest : List S} {e : Env' → V → Hp → Prop} {d : Int} {ps : List Per} {la lb lf lp h i m b : Nat} {o4 : Option V} {s : St} {x1 x2 x4 : V}
theorem in_dp {lw ew : Nat} {es : List ((Int × Bool) × V)} {s : St} (h : H[lw]? = some (.dicP ew es)) : cmpV scr .isIn (sv s) (.ref lw) H = some (dhas es (kz s)) := by
  show (match H[lw]?.bind asDict with | some es => _ | none => _) = _
  rw [h]
  show (match H[lw]?.bind asDicP with | some es => _ | none => _) = _
  rw [h]; rfl
abbrev bk2 : S := .ife (.cmp .ne (.comp 1 (.var 0) (.var 0) (.of (.idx (.var 0) (.var 6))) [(.cmp .isIn (.var 0) (.idx (.var 4) (.var 5)))]) (.lst []))
        [.setIdx (.var 5) (.var 6) (.k (.bool true))]
        []
/-- a turn of back over the states -/
theorem bk2_i {vs : List V} {ts : Kn} {es fs : List ((Int × Bool) × V)} {ep ef : Nat} (hW : WfP ps) (hl : ps.length ≤ 20) (hA : AhAt ps d b H la) (hs : s.1 < ps.length) (hL : H[lb]? = some (.list vs)) (hi : vs[i]? = some (.ref lp)) (hP : H[lp]? = some (.dicP ep es)) (dc : DcAt kz TT ts es) (hF : H[lf]? = some (.dicP ef fs)) (hz : fs.length < 16000000)
    (h1 : (∃ u, u ∈ stepsAt ps d s ∧ u ∈ ts.map (·.1)) → ∀ ef H', Ext H H' → WSs (pC scr n e) rest [some (.ref la), some x1, some x2, some (.ref lb), some (nv i), some (.ref lf), some (sv s)] (H'.set lf (.dicP ef (dput fs (kz s) (.bool true)))) K)
    (h2 : (¬ ∃ u, u ∈ stepsAt ps d s ∧ u ∈ ts.map (·.1)) → ∀ H', Ext H H' → WSs (pC scr n e) rest [some (.ref la), some x1, some x2, some (.ref lb), some (nv i), some (.ref lf), some (sv s)] H' K) : WSs (pC scr n e) (bk2 :: rest) [some (.ref la), some x1, some x2, some (.ref lb), some (nv i), some (.ref lf), some (sv s)] H K := by
  refine (hA.get (scr := scr) hs).elim fun v hv => hv.2.casesOn fun lv _ ev av => ?_
  have hv := hv.1
  rw [ev] at hv
  refine ss_ife (tr_cmp (we_comp (wi_of (we_idx (we_var rfl (we_var rfl (some_i hv (some_i (keys_at av) (ok_i (sz_i ?_) ?_)))))))))
  · rw [List.length_map]; exact Nat.lt_of_le_of_lt (steps_len hW hl s) (by decide)
  refine comp_pf (P := fun u => ahas ts u) (F := sv) _ _ _ (fun u _ T hT => ?_) (fun u _ _ N hN => hN) (new_i (we_lst0 ?_))
  · refine wt_cmp (we_var rfl (we_idx (we_var rfl (we_var rfl (some_i (idx_at hL hi) (some_i (in_dp hP) ?_))))))
    rw [dc.has kz_inj]
    exact wif_T (T := T) hT
  · refine some_i (ne_nil (at_app _ (at_new _ _)) (rdL_sv ((stepsAt ps d s).filter fun u => ahas ts u)) (at_new _ _)) ?_
    rw [List.isEmpty_map]
    have xx : ∀ a b : List Cell, Ext H (H ++ a ++ b) := fun a b => (Ext.app _ _).trans (Ext.app _ _)
    refine if_i (fun hc => ?_) fun hc => ?_
    · refine ss_set (we_k (we_var rfl (we_var rfl (set_dp (xx _ _ _ _ hF) hz fun ep => h1 ?_ ep _ (xx _ _)))))
      cases hf : (stepsAt ps d s).filter fun u => ahas ts u with
      | nil => rw [hf] at hc; cases hc
      | cons u r =>
        have hu : u ∈ (stepsAt ps d s).filter fun u => ahas ts u := by rw [hf]; exact List.mem_cons_self
        exact ⟨u, (List.mem_filter.mp hu).1, ahas_iff.mp (List.mem_filter.mp hu).2⟩
    · refine ss_nil (h2 (fun q => q.elim fun u hu => ?_) _ (xx _ _))
      have hu : u ∈ (stepsAt ps d s).filter fun u => ahas ts u := List.mem_filter.mpr ⟨hu.1, ahas_iff.mpr hu.2⟩
      cases hf : (stepsAt ps d s).filter fun u => ahas ts u with
      | nil => rw [hf] at hu; cases hu
      | cons u r => rw [hf] at hc; cases hc
inductive BjI (ps : List Per) (d : Int) (h i la : Nat) (x1 x2 : V) (lb lf : Nat) (H₁ : Hp) (as : List St) (ρ : Env') (H' : Hp) : Prop
  | mk (o6 : Option V) (ef : Nat) (fs : List ((Int × Bool) × V)) (ts : Kn) (e : ρ = [some (.ref la), some x1, some x2, some (.ref lb), some (nv i), some (.ref lf), o6]) (x : Ext H₁ H') (a : H'[lf]? = some (.dicP ef fs)) (dc : DcAt kz TT ts fs) (o1 : ∀ s, s ∈ ts.map (·.1) → Bk (stepsAt ps d) h (i + 1) s) (o2 : ∀ s, Bk (stepsAt ps d) h (i + 1) s → s ∈ as ∨ s ∈ ts.map (·.1)) (len : ts.length + as.length ≤ 40) (rg : ∀ s ∈ as, s.1 < ps.length)
abbrev bk1 : S := .asg (.var 5) .dctP
abbrev bk3 : S := .for (.var 6) (.of (.var 0)) [bk2]
abbrev bk4 : S := .expr (.meth .append (.var 3) [(.var 5)])
theorem bk_i {vs : List V} {o5 o6 : Option V} (hW : WfP ps) (hl : ps.length ≤ 20) (hA : AhAt ps d b H la) (hL : H[lb]? = some (.list vs)) (hz : vs.length < 16000000) {v : V} (hi : vs[i]? = some v) (hv : BkAt (stepsAt ps d) h H i v)
    (q : ∀ o6 lf H', ExtB lb H H' → H'[lb]? = some (.list (vs ++ [.ref lf])) → BkAt (stepsAt ps d) h H' (i + 1) (.ref lf) → K (.next [some (.ref la), some x1, some x2, some (.ref lb), some (nv i), some (.ref lf), o6] H')) : WSs (pC scr n e) [bk1, bk3, bk4] [some (.ref la), some x1, some x2, some (.ref lb), some (nv i), o5, o6] H K := by
  refine ss_asg (we_dctP (some_i (a := [some (.ref la), some x1, some x2, some (.ref lb), some (nv i), some (.ref H.length), o6]) rfl ?_))
  have x0 := Ext.app H [Cell.dicP 0 []]
  have hA0 := hA.ext x0
  refine hA.casesOn fun ea es ws aa da all ok len => ?_
  refine ss_for (wi_of (we_var rfl (some_i (keys_dp (x0 _ _ aa)) ?_)))
  rw [da.keys]
  have hstep : ∀ s, Bk (stepsAt ps d) h (i + 1) s → s ∈ ws.map (·.1) := fun s hs => all s (hs.elim fun u hu => by
    by_cases q : s.1 < ps.length
    · exact q
    · have hu := hu.1
      unfold stepsAt at hu
      rw [List.getElem?_eq_none (Nat.le_of_not_lt q)] at hu
      cases hu)
  refine for_as (BjI ps d h i la x1 x2 lb H.length H) (fun s as ρ H' hI => ?_) (fun ρ H' hI => ?_) _ _ _ ⟨o6, 0, [], [], rfl, x0, at_new _ _, .nil, fun s hs => (nomatch hs), fun s hs => .inl (hstep s hs), by rw [List.length_map]; show 0 + ws.length ≤ 40; (first | lia | omega), fun s hs => (List.mem_map.mp hs).elim fun e he => he.2 ▸ (ok e he.1).2⟩
  · refine hI.casesOn fun o6 ef fs ts e x a dc o1 o2 len rg => ?_
    subst e
    refine some_i rfl fun N hN => ?_
    rw [List.length_cons] at len
    refine hv.casesOn fun lp ep es' ts' ev ap dp okp => ?_
    rw [ev] at hi
    have st : ∀ {H₂}, Ext H H₂ → stands [la] (H ++ [Cell.dicP 0 []]) H₂ = true := fun x => stands1 (x0 _ _ aa) (x _ _ aa)
    have iff1 : (∃ u, u ∈ stepsAt ps d s ∧ u ∈ ts'.map (·.1)) ↔ Bk (stepsAt ps d) h (i + 1) s := ⟨fun q => q.elim fun u hu => ⟨u, hu.1, (okp u).mp hu.2⟩, fun q => q.elim fun u hu => ⟨u, hu.1, (okp u).mpr hu.2⟩⟩
    refine bk2_i hW hl (hA.ext x) (rg s List.mem_cons_self) (x _ _ hL) hi (x _ _ ap) dp a (by rw [All2.len dc]; (first | lia | omega)) (fun hc ef' H₂ x2 => ss_nil ?_) fun hc H₂ x2 => ss_nil ?_
    · have xx : Ext H (H₂.set H.length (.dicP ef' (dput fs (kz s) (.bool true)))) := (x.trans x2).set (Nat.le_refl _) _
      have la := aput_le (ws := ts) (a := s) (b := ())
      refine hN _ _ (st xx) ⟨_, ef', _, aput ts s (), rfl, xx, at_set (x2 _ _ a) _, DcAt.put kz_inj dc trivial, fun u hu => (List.mem_map.mp hu).elim fun p hp => ?_, fun u hu => ?_, by (first | lia | omega), fun s hs => rg s (.tail _ hs)⟩
      · rw [← hp.2]
        exact (aput_mem hp.1).elim (fun q => o1 _ (List.mem_map.mpr ⟨p, q, rfl⟩)) fun q => by rw [q]; exact iff1.mp hc
      · exact (o2 u hu).elim (fun q => (List.mem_cons.mp q).elim (fun q => .inr (aput_key (.inl q))) .inl) fun q => .inr (aput_key (.inr q))
    · exact hN _ _ (st (x.trans x2)) ⟨_, ef, fs, ts, rfl, x.trans x2, x2 _ _ a, dc, o1, fun u hu => (o2 u hu).elim (fun q => (List.mem_cons.mp q).elim (fun q => absurd (iff1.mpr (q ▸ hu)) hc) .inl) .inr, by (first | lia | omega), fun s hs => rg s (.tail _ hs)⟩
  · refine hI.casesOn fun o6 ef fs ts e x a dc o1 o2 len rg => ?_
    subst e
    refine ss_app rfl rfl (x _ _ hL) hz (ss_nil ?_)
    have hne : H.length ≠ lb := Nat.ne_of_gt (at_lt hL)
    have x3 := ExtB.set lb H' (.list (vs ++ [.ref H.length]))
    exact q _ _ _ ((x.b lb).trans x3) (at_set (x _ _ hL) _) ⟨_, ef, fs, ts, rfl, x3 _ _ hne a, dc, fun s => ⟨o1 s, fun hs => (o2 s hs).elim (fun q => nomatch q) id⟩⟩
end
end Mine.L

end
section
set_option autoImplicit false
set_option linter.unusedVariables false
set_option linter.unusedSimpArgs false
set_option maxRecDepth 100000
namespace Mine.L
open Mine.P PySem
theorem range_r (m : Nat) : (List.range m).map nv = (List.range' 0 m).map nv := by rw [List.range_eq_range']
inductive BoI (F : St → List St) (h m la lb : Nat) (x1 x2 : V) (H : Hp) (as : List Nat) (ρ : Env') (H' : Hp) : Prop
  | mk (o4 o5 o6 : Option V) (i k : Nat) (vs : List V) (e : ρ = [some (.ref la), some x1, some x2, some (.ref lb), o4, o5, o6]) (ea : as = List.range' i k) (ik : i + k = m) (x : Ext H H') (a : H'[lb]? = some (.list vs)) (len : vs.length = i + 1) (ok : ∀ j, j ≤ i → ∃ v, vs[j]? = some v ∧ BkAt F h H' j v)
/-- the tables of back -/
def BksAt (F : St → List St) (h m : Nat) (H : Hp) (lb : Nat) : Prop := ∃ vs, H[lb]? = some (.list vs) ∧ ∀ j, j ≤ m → ∃ v, vs[j]? = some v ∧ BkAt F h H j v
section
variable {scr : List Int} {n : Nat} {H : Hp} {Q X : PQ} {d : Int} {ps : List Per} {la h m b : Nat}
theorem we_bk0 {C : Ctx} {ρ : Env'} {j : Nat} (hv : ρ[j]?.join = some (nv h)) (q : ∀ ep, Q (.ref H.length) ((H ++ [Cell.dicP 0 []]).set H.length (.dicP ep (dput [(kz (h, true), .bool true)] (kz (h, false)) (.bool true))))) : WE C (.dctP2 (.tup [(.var j), (.k (.bool true))]) (.k (.bool true)) (.tup [(.var j), (.k (.bool false))]) (.k (.bool true))) ρ H Q := some_i hv (some_i hv ⟨at_new _ _, q⟩)
theorem we_lst1 {C : Ctx} {ρ : Env'} {e : E} (h : WE C e ρ H fun v H => Q (.ref H.length) (H ++ [.list [v]])) : WE C (.lst [e]) ρ H Q := h
theorem w_lback (hW : WfP ps) (hl : ps.length ≤ 20) (hm : m ≤ 1000) (hA : AhAt ps d b H la) (q : ∀ lb H', Ext H H' → BksAt (stepsAt ps d) h m H' lb → Q (.ref lb) H') : callX ⟨scr, pgks, pfns⟩ (n + 1) i_law_back [.ref la, nv h, nv m] H Q X := c_law_back (by
  unfold pb_law_back
  refine ss_asg (we_lst1 (we_bk0 (h := h) rfl fun ep => some_i rfl ?_))
  have x1 : Ext H ((H ++ [Cell.dicP 0 []]).set H.length (.dicP ep (dput [(kz (h, true), .bool true)] (kz (h, false)) (.bool true)))) := (Ext.app _ _).set (Nat.le_refl _) _
  have a1 := at_set (at_new H (.dicP 0 [])) (.dicP ep (dput [(kz (h, true), .bool true)] (kz (h, false)) (.bool true)))
  generalize (H ++ [Cell.dicP 0 []]).set H.length (.dicP ep (dput [(kz (h, true), .bool true)] (kz (h, false)) (.bool true))) = H₁ at x1 a1 ⊢
  have a2 := at_new H₁ (.list [.ref H.length])
  have x2 := Ext.app H₁ [.list [.ref H.length]]
  refine ss_for (wi_range (we_k (we_var rfl (range_n (Nat.lt_of_le_of_lt hm (by decide)) ?_))))
  rw [range_r]
  refine for_as (BoI (stepsAt ps d) h m la H₁.length (nv h) (nv m) H) (fun c as ρ H' hI => ?_) (fun ρ H' hI => ?_) _ _ _ ⟨none, none, none, 0, m, _, rfl, rfl, Nat.zero_add m, x1.trans x2, a2, rfl, fun j hj => ?_⟩
  · refine hI.casesOn fun o4 o5 o6 i k vs e ea ik x a len ok => ?_
    subst e
    cases k with
    | zero => cases ea
    | succ k =>
      have ec : c = i := (List.cons.inj ea).1
      have eas : as = List.range' (i + 1) k := (List.cons.inj ea).2
      subst ec
      refine some_i rfl fun N hN => ?_
      refine (ok c (Nat.le_refl _)).elim fun v hv => ?_
      refine bk_i hW hl (hA.ext x) a (by (first | lia | omega)) hv.1 hv.2 fun o6 lf H₂ x3 a3 b3 => hN _ _ rfl ⟨_, _, _, c + 1, k, _, rfl, eas, by (first | lia | omega), x3.ext x x1.len, a3, by rw [List.length_append, len]; rfl, fun j hj => ?_⟩
      rcases Nat.lt_or_eq_of_le hj with hj | hj
      · refine (ok j (Nat.le_of_lt_succ hj)).elim fun v hv => ⟨v, ?_, hv.2.set a x3⟩
        rw [List.getElem?_append_left (by (first | lia | omega))]; exact hv.1
      · rw [hj]
        exact ⟨_, by rw [← len]; exact List.getElem?_concat_length, b3⟩
  · refine hI.casesOn fun o4 o5 o6 i k vs e ea ik x a len ok => ?_
    subst e
    cases k with
    | zero => 
      have : i = m := ik
      subst this
      exact q _ _ x ⟨vs, a, ok⟩
    | succ k => cases ea
  · rw [Nat.le_zero.mp hj]
    refine ⟨_, rfl, H.length, ep, _, aput [((h, true), ())] (h, false) (), rfl, x2 _ _ a1, DcAt.put kz_inj (.cons ⟨rfl, trivial⟩ .nil) trivial, fun s => ?_⟩
    constructor
    · intro hs
      obtain ⟨p, hp, e⟩ := List.mem_map.mp hs
      rw [← e]
      exact (aput_mem hp).elim (fun q => by rw [List.mem_singleton.mp q]; rfl) fun q => by rw [q]; rfl
    · intro hs
      obtain ⟨c, bb⟩ := s
      have hs : c = h := hs
      subst hs
      cases bb
      · exact aput_key (.inl rfl)
      · exact aput_key (.inr List.mem_cons_self))
/-! sums and sets of states -/
theorem all_lists {b : Nat} : ∀ {sss : List (List St)} {vs : List V}, All2 (SlAt b H) sss vs → allLists H vs = some (sss.map fun ss => ss.map sv)
  | _, _, .nil => rfl
  | _, _, .cons (a := ss) (v := v) (as := sss) (vs := vs) r h => r.casesOn fun l _ e a => by
    show ((lstAt H v).bind fun l => (allLists H vs).map (l :: ·)) = _
    rw [e, lst_at a, all_lists h]; rfl
theorem sum_i {b l : Nat} {us : List St} {F : St → List St} {vs : List V} {l0 : Nat} (h : H[l]? = some (.list vs)) (r : All2 (SlAt b H) (us.map F) vs) (h0 : H[l0]? = some (.list [])) (hz : (us.flatMap F).length < 16000000) (q : ∀ l' H', Ext H H' → H'[l']? = some (.list ((us.flatMap F).map sv)) → Q (.ref l') H') : WSumL (.ref l) (.ref l0) H Q := by
  have ef : ∀ us : List St, ((us.map F).map fun ss => ss.map sv).flatten = (us.flatMap F).map sv := fun us => by
    induction us with
    | nil => rfl
    | cons u us ih => rw [List.map_cons, List.map_cons, List.flatten_cons, ih, List.flatMap_cons, List.map_append]
  refine some_i (lst_at h) (some_i (all_lists r) ⟨lst_at h0, ok_i (sz_i (by rw [ef, List.length_map]; exact hz)) ?_⟩)
  have ef := ef us
  cases us with
  | nil => exact q _ _ (Ext.refl _) h0
  | cons u us => exact new_i (q _ _ (Ext.app _ _) (by rw [ef]; exact at_new _ _))
theorem all_pairs : ∀ us : List St, allPairs (us.map sv) = some (us.map kz)
  | [] => rfl
  | u :: us => by
    show ((allPairs (us.map sv)).map (kz u :: ·)) = _
    rw [all_pairs us]; rfl
theorem sortS_i {l : Nat} {us : List St} (h : H[l]? = some (.list (us.map sv))) (hr : ∀ s ∈ us, s.1 < 20) (q : ∀ ss : List St, ss.Nodup → (∀ s, s ∈ ss ↔ s ∈ us) → Q (.ref H.length) (H ++ [.list (ss.map sv)])) : WSortS (.ref l) H Q := by
  have bk : ∀ {rs : List (Int × Bool)}, (∀ q ∈ rs, q ∈ us.map kz) → ∃ ss : List St, rs = ss.map kz := fun {rs} => by
    induction rs with
    | nil => exact fun _ => ⟨[], rfl⟩
    | cons r rs ih => exact fun hr => (ih fun q hq => hr q (.tail _ hq)).elim fun ss hs => (List.mem_map.mp (hr r List.mem_cons_self)).elim fun u hu => ⟨u :: ss, by rw [hs, ← hu.2]; rfl⟩
  have nd : ∀ {ss : List St}, (ss.map kz).Nodup → ss.Nodup := fun h => (List.pairwise_map.mp h).imp fun hn e => hn (congrArg kz e)
  have mm : ∀ {ss : List St} {s : St}, kz s ∈ ss.map kz → s ∈ ss := fun h => (List.mem_map.mp h).elim fun u hu => kz_inj _ _ hu.2 ▸ hu.1
  refine some_i (show (lstAt H (.ref l)).bind allPairs = some (us.map kz) by rw [lst_at h]; exact all_pairs us) ⟨fun rs hn hm => (bk hm).elim fun ss hs => ?_, fun rs hn hm => (bk fun q hq => (hm q).mp hq).elim fun ss hs => ?_⟩
  · rw [hs] at hn hm ⊢
    rw [List.length_map]
    exact Nat.le_trans (keys_bound (n := 20) (nd hn) fun s hs => hr s (mm (hm _ (List.mem_map.mpr ⟨s, hs, rfl⟩)))) (by decide)
  · rw [hs] at hn hm ⊢
    rw [List.map_map]
    exact new_i (q ss (nd hn) fun s => ⟨fun m => mm ((hm _).mp (List.mem_map.mpr ⟨s, m, rfl⟩)), fun m => mm ((hm _).mpr (List.mem_map.mpr ⟨s, m, rfl⟩))⟩)
theorem fold_min : ∀ (l : List Int) (a : Int), l.foldl min a ∈ a :: l ∧ ∀ b ∈ a :: l, l.foldl min a ≤ b
  | [], a => ⟨List.mem_cons_self, fun b hb => Int.le_of_eq (List.mem_singleton.mp hb).symm⟩
  | c :: l, a => by
    have ih := fold_min l (min a c)
    refine ⟨(List.mem_cons.mp ih.1).elim (fun e => ?_) fun m => .tail _ (.tail _ m), fun b hb => ?_⟩
    · show l.foldl min (min a c) ∈ _
      rw [e, Int.min_def]
      split
      · exact List.mem_cons_self
      · exact .tail _ List.mem_cons_self
    · show l.foldl min (min a c) ≤ b
      have h0 := ih.2 _ List.mem_cons_self
      rcases List.mem_cons.mp hb with e | hb
      · rw [e]; exact Int.le_trans h0 (Int.min_le_left _ _)
      · rcases List.mem_cons.mp hb with e | hb
        · rw [e]; exact Int.le_trans h0 (Int.min_le_right _ _)
        · exact ih.2 b (.tail _ hb)
theorem min_i {l : Nat} {us : List Nat} (h : H[l]? = some (.list (nvs us))) (hu : us ≠ []) (q : ∀ x, x ∈ us → (∀ y ∈ us, x ≤ y) → Q (nv x) H) : WMin (.ref l) H Q := by
  cases us with
  | nil => exact absurd rfl hu
  | cons u us =>
    refine some_i (ints_at h) (some_i (a := (u : Int)) rfl ?_)
    have hf := fold_min (us.map hz) u
    obtain ⟨x, hx, e⟩ := List.mem_map.mp (show (us.map hz).foldl min (u : Int) ∈ (u :: us).map hz from hf.1)
    show Q (.int ((us.map hz).foldl min (u : Int))) H
    rw [← e]
    refine q x hx fun y hy => ?_
    have := hf.2 (hz y) (show hz y ∈ (u :: us).map hz from List.mem_map.mpr ⟨y, hy, rfl⟩)
    rw [← e] at this
    exact Int.ofNat_le.mp this
end
end Mine.L

end
section
set_option autoImplicit false
set_option linter.unusedVariables false
set_option linter.unusedSimpArgs false
set_option maxRecDepth 100000
namespace Mine.L
open Mine.P PySem
theorem fm_len {F : St → List St} (h : ∀ s, (F s).length ≤ 22) : ∀ us : List St, (us.flatMap F).length ≤ 22 * us.length
  | [] => Nat.le_refl 0
  | u :: us => by
    rw [List.flatMap_cons, List.length_append, List.length_cons]
    have := fm_len h us
    have := h u
    (first | lia | omega)
theorem BksAt.ext {F : St → List St} {h m : Nat} {H H' : Hp} {lb : Nat} (b : BksAt F h m H lb) (x : Ext H H') : BksAt F h m H' lb := b.elim fun vs hv => ⟨vs, x _ _ hv.1, fun j hj => (hv.2 j hj).elim fun v hv => ⟨v, hv.1, hv.2.ext x⟩⟩
theorem seq_last {α : Type} {l : List α} {a : α} : seqAt (l ++ [a]) (-1) = some a := by
  unfold seqAt
  rw [if_neg (by decide), if_pos (by rw [List.length_append]; show -((l.length + 1 : Nat) : Int) ≤ -1; (first | lia | omega)), List.length_append]
  rw [show ((-1 : Int) + ((l.length + [a].length : Nat) : Int)).toNat = l.length by show ((-1 : Int) + ((l.length + 1 : Nat) : Int)).toNat = l.length; (first | lia | omega)]
  exact List.getElem?_concat_length
abbrev wy1 : S := .asg (.var 8) (.bi .sumL [(.comp 1 (.idx (.var 1) (.var 0)) (.var 0) (.of (.var 6)) []), (.lst [])])
abbrev wy2 : S := .asg (.var 9) (.comp 1 (.var 0) (.var 0) (.of (.var 8)) [(.cmp .isIn (.var 0) (.idx (.var 5) (.bin .sub (.bin .sub (.var 3) (.var 8)) (.k (.int 1)))))])
abbrev wy3 : S := .expr (.meth .append (.var 5) [(.bi .minL [(.comp 1 (.idx (.var 0) (.k (.int 0))) (.var 0) (.of (.var 9)) [])])])
abbrev wy4 : S := .asg (.var 6) (.sortS (.comp 1 (.var 0) (.var 0) (.of (.var 9)) [(.cmp .eq (.idx (.var 0) (.k (.int 0))) (.idx (.var 6) (.neg (.k (.int 1)))))]))
section
variable {scr : List Int} {n : Nat} {H : Hp} {Q X : PQ} {K : Out → Prop} {rest : List S} {e : Env' → V → Hp → Prop} {d : Int} {ps : List Per} {la lb lw ls lu lf h i m b k N : Nat} {o8 o9 : Option V} {ss us fs : List St} {w : List Nat}
theorem we_app {C : Ctx} {ρ : Env'} {a : E} {j l : Nat} {vs : List V} (hj : ρ[j]?.join = some (.ref l)) (hl : H[l]? = some (.list vs)) (h : WE C a ρ H fun v H => WMeth .append (.ref l) [v] H Q) : WE C (.meth .append (.var j) [a]) ρ H Q := some_i hj (me_i hl h)
theorem we_sumL {C : Ctx} {ρ : Env'} {a b : E} (h : WE C a ρ H fun x H => WE C b ρ H fun y H => WSumL x y H Q) : WE C (.bi .sumL [a, b]) ρ H Q := h
theorem we_minL {C : Ctx} {ρ : Env'} {a : E} (h : WE C a ρ H fun x H => WMin x H Q) : WE C (.bi .minL [a]) ρ H Q := h
theorem we_sortS {C : Ctx} {ρ : Env'} {a : E} (h : WE C a ρ H fun x H => WSortS x H Q) : WE C (.sortS a) ρ H Q := h
theorem we_neg {C : Ctx} {ρ : Env'} {i : Int} (h : Q (.int (-i)) H) : WE C (.neg (.k (.int i))) ρ H Q := h
/-- the steps ahead of some states, together -/
theorem we_sum {C : Ctx} {ρ : Env'} {ja js : Nat} (hW : WfP ps) (hl : ps.length ≤ 20) (hA : AhAt ps d b H la) (ha : ρ[ja]?.join = some (.ref la)) (hj : ρ[js]?.join = some (.ref ls)) (hS : H[ls]? = some (.list (ss.map sv))) (hn : ss.Nodup) (hr : ∀ s ∈ ss, s.1 < ps.length) (q : ∀ l' H', Ext H H' → (ss.flatMap (stepsAt ps d)).length ≤ 1000 → H'[l']? = some (.list ((ss.flatMap (stepsAt ps d)).map sv)) → Q (.ref l') H') : WE C (.bi .sumL [(.comp 1 (.idx (.var (ja + 1)) (.var 0)) (.var 0) (.of (.var js)) []), (.lst [])]) ρ H Q := by
  have hsl : ss.length ≤ 40 := Nat.le_trans (keys_bound hn hr) (Nat.mul_le_mul_left 2 hl)
  have hfl : (ss.flatMap (stepsAt ps d)).length ≤ 1000 := by
    have := fm_len (steps_len hW hl (d := d)) ss
    (first | lia | omega)
  refine we_sumL (we_comp (wi_of (we_var hj (some_i (keys_at hS) (ok_i (sz_i (by rw [List.length_map]; (first | lia | omega))) ?_)))))
  refine comp_pf (P := fun _ => true) (F := fun s => (idxV C.scr (.ref la) (sv s) H).getD .none) _ _ _ (fun a _ T h => h) (fun s hs _ M hM => ?_) (new_i (we_lst0 ?_))
  · refine (hA.get (scr := C.scr) (hr s hs)).elim fun v hv => we_idx (we_var ha (we_var rfl (some_i hv.1 ?_)))
    rw [hv.1] at hM; exact hM
  · rw [filter_true]
    have xx : ∀ a b : List Cell, Ext H (H ++ a ++ b) := fun a b => (Ext.app _ _).trans (Ext.app _ _)
    refine sum_i (b := b) (us := ss) (F := stepsAt ps d) (at_app _ (at_new _ _)) (all2_map ss fun s hs => ?_) (at_new _ _) (by (first | lia | omega)) fun l' H' x a => q l' H' ((xx _ _).trans x) hfl a
    refine (hA.get (scr := C.scr) (hr s hs)).elim fun v hv => ?_
    rw [hv.1]
    exact hv.2.ext (xx _ _)
abbrev wyR (la k N h lb lw ls i : Nat) (o8 o9 : Option V) : Env' := [some (.ref la), some (nv k), some (nv N), some (nv h), some (.ref lb), some (.ref lw), some (.ref ls), some (nv i), o8, o9]
theorem wy2_i (hU : H[lu]? = some (.list (us.map sv))) (hz : us.length ≤ 1000) (hB : BksAt (stepsAt ps d) h N H lb) (hN : i + (m + 1) = N) (q : ∀ (fs : List St) lf H', Ext H H' → H.length ≤ lf → H'[lf]? = some (.list (fs.map sv)) → fs.length ≤ 1000 → (∀ u, u ∈ fs ↔ u ∈ us ∧ Bk (stepsAt ps d) h m u) → WSs (pC scr n e) rest (wyR la k N h lb lw ls i (some (.ref lu)) (some (.ref lf))) H' K) : WSs (pC scr n e) (wy2 :: rest) (wyR la k N h lb lw ls i (some (.ref lu)) o9) H K := by
  refine hB.elim fun vs hv => (hv.2 m (by (first | lia | omega))).elim fun v hm => hm.2.casesOn fun lp ep es ts ev ap dc ok => ?_
  have hm := hm.1
  rw [ev] at hm
  refine ss_asg (we_comp (wi_of (we_var rfl (some_i (keys_at hU) (ok_i (sz_i (by rw [List.length_map]; (first | lia | omega))) ?_)))))
  refine comp_pf (P := fun u => ahas ts u) (F := sv) _ _ _ (fun u _ T hT => ?_) (fun u _ _ M hM => hM) (new_i (some_i rfl (q (us.filter fun u => ahas ts u) _ _ (Ext.app _ _) (Nat.le_refl _) (at_new _ _) (Nat.le_trans (List.length_filter_le _ _) hz) fun u => ?_)))
  · refine wt_cmp (we_var rfl (we_idx (we_var rfl (we_bin (we_bin (we_var rfl (we_var rfl (wb_int rfl (we_k (wb_int rfl (some_i (a := .ref lp) ?_ (some_i (in_dp ap) ?_))))))))))))
    · rw [show (N : Int) - (i : Int) - 1 = ((m : Nat) : Int) by (first | lia | omega)]
      exact idx_at hv.1 hm
    · rw [dc.has kz_inj]
      exact wif_T (T := T) hT
  · rw [List.mem_filter, ahas_iff, ok]
theorem wy3_i (hF : H[lf]? = some (.list (fs.map sv))) (hz : fs.length ≤ 1000) (hne : fs ≠ []) (hw : H[lw]? = some (.list (nvs w))) (hwl : w.length ≤ 1000) (q : ∀ x H', (∃ u, u ∈ fs ∧ u.1 = x) → (∀ u ∈ fs, x ≤ u.1) → Ext H H' → WSs (pC scr n e) rest (wyR la k N h lb lw ls i o8 (some (.ref lf))) (H'.set lw (.list (nvs (w ++ [x])))) K) : WSs (pC scr n e) (wy3 :: rest) (wyR la k N h lb lw ls i o8 (some (.ref lf))) H K := by
  refine ss_expr (we_app (l := lw) rfl hw ?_)
  refine we_minL (we_comp (wi_of (we_var rfl (some_i (keys_at hF) (ok_i (sz_i (by rw [List.length_map]; (first | lia | omega))) ?_)))))
  refine comp_pf (P := fun _ => true) (F := fun u : St => nv u.1) _ _ _ (fun a _ T h => h) (fun u _ _ M hM => we_idx (we_var rfl (we_k (some_i rfl hM)))) (new_i ?_)
  rw [filter_true]
  refine min_i (us := fs.map (·.1)) (by rw [at_new, nvs, List.map_map]; rfl) (fun q => hne (List.map_eq_nil_iff.mp q)) fun x hx hm => ?_
  refine app_i (at_app _ hw) (by rw [List.length_map]; (first | lia | omega)) ?_
  rw [nvs_snoc]
  exact q x _ (List.mem_map.mp hx) (fun u hu => hm _ (List.mem_map.mpr ⟨u, hu, rfl⟩)) (Ext.app _ _)
theorem wy4_i {x : Nat} (hF : H[lf]? = some (.list (fs.map sv))) (hz : fs.length ≤ 1000) (hr : ∀ u ∈ fs, u.1 < 20) (hw : H[lw]? = some (.list (nvs (w ++ [x])))) (q : ∀ (ss : List St) ls H', Ext H H' → H'[ls]? = some (.list (ss.map sv)) → ss.Nodup → (∀ u, u ∈ ss ↔ u ∈ fs ∧ u.1 = x) → WSs (pC scr n e) rest (wyR la k N h lb lw ls i o8 (some (.ref lf))) H' K) : WSs (pC scr n e) (wy4 :: rest) (wyR la k N h lb lw ls i o8 (some (.ref lf))) H K := by
  refine ss_asg (we_sortS (we_comp (wi_of (we_var rfl (some_i (keys_at hF) (ok_i (sz_i (by rw [List.length_map]; (first | lia | omega))) ?_))))))
  refine comp_pf (P := fun u => ((u.1 : Int) == (x : Int))) (F := sv) _ _ _ (fun u _ T hT => ?_) (fun u _ _ M hM => hM) (new_i (sortS_i (at_new _ _) (fun u hu => hr u (List.mem_filter.mp hu).1) fun ss hn hm => some_i rfl (q ss _ _ ((Ext.app _ _).trans (Ext.app _ _)) (at_new _ _) hn fun u => ?_)))
  · refine wt_cmp (we_idx (we_var rfl (we_k (some_i (a := nv u.1) rfl (we_idx (we_var rfl (we_neg (some_i (a := nv x) ?_ ?_))))))))
    · show (match lstAt H (.ref lw) with | some vs => seqAt vs (-1) | none => _) = _
      rw [lst_at hw, ← nvs_snoc]
      exact seq_last
    · show wIf ((u.1 : Int) == (x : Int)) _ _
      exact wif_T (T := T) hT
  · rw [hm, List.mem_filter, beq_iff_eq]
    exact ⟨fun h => ⟨h.1, Int.ofNat.inj h.2⟩, fun h => ⟨h.1, congrArg Int.ofNat h.2⟩⟩
/-- a turn of way -/
theorem wy_i (hW : WfP ps) (hl : ps.length ≤ 20) (hA : AhAt ps d b H la) (hB : BksAt (stepsAt ps d) h N H lb) (hN : i + (m + 1) = N) (hw : H[lw]? = some (.list (nvs w))) (hwl : w.length ≤ 1000) (hS : H[ls]? = some (.list (ss.map sv))) (hn : ss.Nodup) (hr : ∀ s ∈ ss, s.1 < ps.length ∧ Bk (stepsAt ps d) h (m + 1) s) (hne : ss ≠ [])
    (q : ∀ x (ss' : List St) ls' o8 o9 H', (∃ s, s ∈ ss ∧ ∃ u, u ∈ stepsAt ps d s ∧ Bk (stepsAt ps d) h m u ∧ u.1 = x) → (∀ s ∈ ss, ∀ u ∈ stepsAt ps d s, Bk (stepsAt ps d) h m u → x ≤ u.1) → ss'.Nodup → (∀ u, u ∈ ss' ↔ ∃ s, s ∈ ss ∧ u ∈ stepsAt ps d s ∧ Bk (stepsAt ps d) h m u ∧ u.1 = x) → ExtB lw H H' → H'[lw]? = some (.list (nvs (w ++ [x]))) → H'[ls']? = some (.list (ss'.map sv)) → K (.next (wyR la k N h lb lw ls' i o8 o9) H')) : WSs (pC scr n e) [wy1, wy2, wy3, wy4] (wyR la k N h lb lw ls i o8 o9) H K := by
  refine ss_asg (we_sum (ja := 0) hW hl hA rfl rfl hS hn (fun s hs => (hr s hs).1) fun lu H₁ x1 hz a1 => some_i rfl ?_)
  refine wy2_i a1 hz (hB.ext x1) hN fun fs lf H₂ x2 bl a2 hz2 hfs => ?_
  have mem : ∀ u, u ∈ fs ↔ ∃ s, s ∈ ss ∧ u ∈ stepsAt ps d s ∧ Bk (stepsAt ps d) h m u := fun u => by
    rw [hfs, List.mem_flatMap]
    exact ⟨fun h => h.1.elim fun s hs => ⟨s, hs.1, hs.2, h.2⟩, fun h => h.elim fun s hs => ⟨⟨s, hs.1, hs.2.1⟩, hs.2.2⟩⟩
  have fne : fs ≠ [] := fun e0 => by
    cases hss : ss with
    | nil => exact hne hss
    | cons s r =>
      have hs : s ∈ ss := by rw [hss]; exact List.mem_cons_self
      obtain ⟨u, hu⟩ := (hr s hs).2
      have := (mem u).mpr ⟨s, hs, hu.1, hu.2⟩
      rw [e0] at this; cases this
  have x12 := x1.trans x2
  refine wy3_i a2 hz2 fne (x12 _ _ hw) hwl fun x H₃ hx hle x3 => ?_
  have ha3 := at_set (x3 _ _ (x12 _ _ hw)) (.list (nvs (w ++ [x])))
  have xb : ExtB lw H (H₃.set lw (.list (nvs (w ++ [x])))) := (((x12.trans x3).b lw).trans (ExtB.set _ _ _))
  have hf3 : lf ≠ lw → (H₃.set lw (.list (nvs (w ++ [x]))))[lf]? = some (.list (fs.map sv)) := fun hne => at_ne (x3 _ _ a2) _ fun q => hne q.symm
  have hne2 : lf ≠ lw := Nat.ne_of_gt (Nat.lt_of_lt_of_le (at_lt (x1 _ _ hw)) bl)
  refine wy4_i (hf3 hne2) hz2 (fun u hu => ((mem u).mp hu).elim fun s hs => Nat.lt_of_lt_of_le (steps_at hW s u hs.2.1) hl) ha3 fun ss' ls' H₄ x4 a4 nd4 hm4 => ss_nil ?_
  refine q x ss' ls' _ _ _ (hx.elim fun u hu => ((mem u).mp hu.1).elim fun s hs => ⟨s, hs.1, u, hs.2.1, hs.2.2, hu.2⟩) (fun s hs u hu hb => hle u ((mem u).mpr ⟨s, hs, hu, hb⟩)) nd4 (fun u => ?_) (xb.trans (x4.b lw)) (x4 _ _ ha3) a4
  rw [hm4, mem]
  exact ⟨fun h => h.1.elim fun s hs => ⟨s, hs.1, hs.2.1, hs.2.2, h.2⟩, fun h => h.elim fun s hs => ⟨⟨s, hs.1, hs.2.1, hs.2.2.1⟩, hs.2.2.2⟩⟩
end
end Mine.L

end
section
set_option autoImplicit false
set_option linter.unusedVariables false
set_option linter.unusedSimpArgs false
set_option maxRecDepth 100000
namespace Mine.L
open Mine.P PySem
section
variable {F : St → List St} {s0 : St} {h i m x : Nat} {w : List Nat} {ss ss' : List St}
/-- some states of walks that meet w, all that can still come to h; no walk that can is less -/
inductive Gd (F : St → List St) (s0 : St) (h i m : Nat) (w : List Nat) (ss : List St) : Prop
  | mk (nd : ss.Nodup) (ok : ∀ s, s ∈ ss ↔ Wk F s0 i w s ∧ Bk F h m s) (mn : ∀ w' s, Wk F s0 i w' s → Bk F h m s → ¬ ltW w' w = true) (ne : ss ≠ [])
theorem Gd.step (g : Gd F s0 h i (m + 1) w ss) (hx : ∃ s, s ∈ ss ∧ ∃ u, u ∈ F s ∧ Bk F h m u ∧ u.1 = x) (hle : ∀ s ∈ ss, ∀ u ∈ F s, Bk F h m u → x ≤ u.1) (hn : ss'.Nodup) (hs : ∀ u, u ∈ ss' ↔ ∃ s, s ∈ ss ∧ u ∈ F s ∧ Bk F h m u ∧ u.1 = x) : Gd F s0 h (i + 1) m (w ++ [x]) ss' := g.casesOn fun nd ok mn ne => by
  refine ⟨hn, fun u => ?_, ?_, ?_⟩
  · rw [hs u]
    constructor
    · rintro ⟨s, h1, h2, h3, h4⟩
      exact ⟨⟨s, w, ((ok s).mp h1).1, h2, by rw [h4]⟩, h3⟩
    · rintro ⟨⟨s, w0, h1, h2, h3⟩, h4⟩
      have e := List.append_inj' h3 rfl
      rw [← e.1] at h1
      exact ⟨s, (ok s).mpr ⟨h1, u, h2, h4⟩, h2, h4, (List.cons.inj e.2).1.symm⟩
  · rintro w' u ⟨s, w0, h1, h2, rfl⟩ h4 q
    have hb : Bk F h (m + 1) s := ⟨u, h2, h4⟩
    have m1 := mn w0 s h1 hb
    obtain ⟨s1, hs1, _⟩ := hx
    have hlen : w.length = w0.length := by rw [((ok s1).mp hs1).1.len, h1.len]
    rcases lt_tot w0 w with a | a | a
    · exact m1 a
    · rw [a] at q h1
      exact absurd (hle s ((ok s).mpr ⟨h1, hb⟩) u h2 h4) (Nat.not_le.mpr (lt_last q))
    · exact lt_irr _ (lt_tr q (lt_snoc x u.1 hlen a))
  · obtain ⟨s, h1, u, h2, h3, h4⟩ := hx
    intro e
    have := (hs u).mpr ⟨s, h1, h2, h3, h4⟩
    rw [e] at this; cases this
theorem bk_wk : ∀ {i m : Nat} {w : List Nat} {s : St}, Wk F s0 i w s → Bk F h m s → Bk F h (i + m) s0
  | 0, m, w, s, hw, hb => by rw [Nat.zero_add, ← hw.2]; exact hb
  | i + 1, m, w, s, hw, hb => hw.elim fun u hw => hw.elim fun w0 hw => by
    have := bk_wk (m := m + 1) hw.1 ⟨s, hw.2.1, hb⟩
    rw [show i + 1 + m = i + (m + 1) by (first | lia | omega)]; exact this
theorem Gd.start {N : Nat} {g : List Nat} (hg : LH F s0 N h g) : Gd F s0 h 0 N [s0.1] [s0] := by
  have hb : Bk F h N s0 := hg.1.elim fun b hb => bk_wk (m := 0) hb rfl
  refine ⟨List.nodup_cons.mpr ⟨List.not_mem_nil, List.nodup_nil⟩, fun s => ?_, fun w' s hw _ => by rw [hw.1]; exact lt_irr _, fun q => nomatch q⟩
  rw [List.mem_singleton]
  exact ⟨fun e => ⟨⟨rfl, e⟩, e ▸ hb⟩, fun h => h.1.2⟩
theorem Gd.done {N : Nat} {g : List Nat} (hg : LH F s0 N h g) (q : Gd F s0 h N 0 w ss) : w = g := q.casesOn fun nd ok mn ne => by
  cases hss : ss with
  | nil => exact absurd hss ne
  | cons s r =>
    have hs := (ok s).mp (by rw [hss]; exact List.mem_cons_self)
    obtain ⟨s1, s2⟩ := s
    have e : s1 = h := hs.2
    subst e
    obtain ⟨b, hb⟩ := hg.1
    rcases lt_tot w g with a | a | a
    · exact absurd a (hg.2 s2 w hs.1)
    · exact a
    · exact absurd a (mn g _ hb rfl)
end
inductive WyI (ps : List Per) (d : Int) (k N h la lb lw : Nat) (H₁ : Hp) (as : List Nat) (ρ : Env') (H' : Hp) : Prop
  | mk (o7 o8 o9 : Option V) (i m ls : Nat) (w : List Nat) (ss : List St) (e : ρ = [some (.ref la), some (nv k), some (nv N), some (nv h), some (.ref lb), some (.ref lw), some (.ref ls), o7, o8, o9]) (ea : as = List.range' i m) (ik : i + m = N) (x : Ext H₁ H') (aw : H'[lw]? = some (.list (nvs w))) (wl : w.length = i + 1) (a : H'[ls]? = some (.list (ss.map sv))) (g : Gd (stepsAt ps d) (k, false) h i m w ss)
section
variable {scr : List Int} {n : Nat} {H : Hp} {Q X : PQ} {d : Int} {ps : List Per} {la h k b N : Nat}
theorem w_lway (hW : WfP ps) (hl : ps.length ≤ 20) (hk : k < ps.length) (hm : N ≤ 100) (hA : AhAt ps d b H la) {g : List Nat} (hg : LH (stepsAt ps d) (k, false) N h g) (q : ∀ lw H', H.length ≤ lw → Ext H H' → H'[lw]? = some (.list (nvs g)) → Q (.ref lw) H') : callX ⟨scr, pgks, pfns⟩ (n + 2) i_law_way [.ref la, nv k, nv N, nv h] H Q X := c_law_way (by
  unfold pb_law_way
  refine ss_asg (call_i (w_lback (n := n) (h := h) hW hl (Nat.le_trans hm (by decide)) hA fun lb H₁ x1 hB => some_i rfl ?_))
  refine ss_asg (we_lst1 (we_var rfl (some_i rfl ?_)))
  refine ss_asg (we_lst1 (we_st (c := k) rfl (some_i rfl ?_)))
  have a1 := at_new H₁ (.list (nvs [k]))
  have a2 := at_new (H₁ ++ [.list (nvs [k])]) (.list ([(k, false)].map sv))
  have x2 := Ext.app (H₁ ++ [.list (nvs [k])]) [.list ([(k, false)].map sv)]
  refine ss_for (wi_range (we_k (we_var rfl (range_n (Nat.lt_of_le_of_lt hm (by decide)) ?_))))
  rw [range_r]
  refine for_as (WyI ps d k N h la lb H₁.length H₁) (fun c as ρ H' hI => ?_) (fun ρ H' hI => ?_) _ _ _ ⟨none, none, none, 0, N, _, [k], [(k, false)], rfl, rfl, Nat.zero_add N, (Ext.app _ _).trans x2, x2 _ _ a1, rfl, a2, Gd.start hg⟩
  · refine hI.casesOn fun o7 o8 o9 i m ls w ss e ea ik x aw wl a gd => ?_
    subst e
    cases m with
    | zero => cases ea
    | succ m =>
      have ec : c = i := (List.cons.inj ea).1
      have eas : as = List.range' (i + 1) m := (List.cons.inj ea).2
      subst ec
      refine some_i rfl fun M hM => ?_
      refine gd.casesOn fun nd ok mn ne => ?_
      refine wy_i hW hl (hA.ext (x1.trans x)) (hB.ext x) ik aw (by (first | lia | omega)) a nd (fun s hs => ⟨Rc.range (s0 := (k, false)) hk (steps_at hW) ⟨w, ((ok s).mp hs).1⟩, ((ok s).mp hs).2⟩) ne fun y ss' ls' o8 o9 H₂ hx hle nd' hs' xb aw' a' => ?_
      exact hM _ _ rfl ⟨_, _, _, c + 1, m, ls', w ++ [y], ss', rfl, eas, by (first | lia | omega), xb.ext x (Nat.le_refl _), aw', by rw [List.length_append, wl]; rfl, a', gd.step hx hle nd' hs'⟩
  · refine hI.casesOn fun o7 o8 o9 i m ls w ss e ea ik x aw wl a gd => ?_
    subst e
    cases m with
    | zero =>
      have : i = N := ik
      subst this
      rw [gd.done hg] at aw
      exact q _ _ x1.len (x1.trans x) aw
    | succ m => cases ea)
end
end Mine.L

end
section
set_option autoImplicit false
set_option linter.unusedVariables false
set_option linter.unusedSimpArgs false
set_option maxRecDepth 100000
namespace Mine.L
open Mine.P PySem
abbrev du1 : S := .asg (.var 4) (.sortS (.bi .sumL [(.comp 1 (.idx (.var 4) (.var 0)) (.var 0) (.of (.var 4)) []), (.lst [])]))
abbrev du2 : S := .asg (.var 6) (.lst [])
abbrev du5 : S := .ife (.and [(.cmp .ne (.var 7) (.var 1)), (.cmp .notIn (.var 7) (.var 6)), (.call i_law_lives [(.var 0), (.var 7), (.var 2)])])
        [.expr (.meth .append (.var 6) [(.var 7)])]
        []
abbrev du3 : S := .for (.tup [(.var 7), (.var 8)]) (.of (.var 4)) [du5]
abbrev du4 : S := .ife (.cmp .ne (.var 6) (.lst []))
      [.ret (.comp 1 (.tup [(.var 0), (.call i_law_way [(.var 4), (.var 2), (.var 6), (.var 0)])]) (.var 0) (.of (.bi .sortI [(.var 6)])) [])]
      []
abbrev duR (l k : Nat) (d : Int) (la ls n : Nat) (o6 o7 o8 : Option V) : Env' := [some (.ref l), some (nv k), some (.int d), some (.ref la), some (.ref ls), some (nv n), o6, o7, o8]
def DueK (H : Hp) (ns : List (Nat × List Nat)) (Q : PQ) : Prop := ∀ lr vs H', H.length ≤ lr → Ext H H' → H'[lr]? = some (.list vs) → All2 (NrAt H.length H') ns vs → Q (.ref lr) H'
/-- the heirs seen so far -/
inductive DhI (ps : List Per) (d : Int) (k N l la ls lh : Nat) (H₁ : Hp) (as : List St) (ρ : Env') (H' : Hp) : Prop
  | mk (o7 o8 : Option V) (hs : List Nat) (e : ρ = duR l k d la ls N (some (.ref lh)) o7 o8) (x : Ext H₁ H') (a : H'[lh]? = some (.list (nvs hs))) (nd : hs.Nodup) (o1 : ∀ h ∈ hs, hr ps d k h = true ∧ ∃ b, Rc (stepsAt ps d) (k, false) N (h, b)) (o2 : ∀ s, Rc (stepsAt ps d) (k, false) N s → s ∈ as ∨ (hr ps d k s.1 = true → s.1 ∈ hs)) (o3 : ∀ s ∈ as, Rc (stepsAt ps d) (k, false) N s)
/-- the rows made so far -/
inductive CwI (g : Nat → List Nat) (tot : List Nat) (b : Nat) (ρ₀ : Env') (H₁ : Hp) (as : List Nat) (acc : List V) (ρ : Env') (H' : Hp) : Prop
  | mk (o : Option V) (dn : List Nat) (e : ρ = o :: ρ₀) (x : Ext H₁ H') (t : dn ++ as = tot) (r : All2 (NrAt b H') (dn.map fun h => (h, g h)) acc)
theorem NrAt.ext {b : Nat} {H H' : Hp} {p : Nat × List Nat} {v : V} (h : NrAt b H p v) (x : Ext H H') : NrAt b H' p v := h.casesOn fun l hb e a => ⟨l, hb, e, x _ _ a⟩
section
variable {scr : List Int} {n : Nat} {H : Hp} {Q X : PQ} {K : Out → Prop} {rest : List S} {e : Env' → V → Hp → Prop} {d : Int} {ps : List Per} {l la ls lh k N b c : Nat} {o7 o8 o6 : Option V} {ss : List St} {hs : List Nat}
theorem du1_i (hW : WfP ps) (hl : ps.length ≤ 20) (hA : AhAt ps d b H la) (hS : H[ls]? = some (.list (ss.map sv))) (hn : ss.Nodup) (hr : ∀ s ∈ ss, s.1 < ps.length) (q : ∀ (ss' : List St) ls' H', Ext H H' → H'[ls']? = some (.list (ss'.map sv)) → ss'.Nodup → (∀ u, u ∈ ss' ↔ ∃ s, s ∈ ss ∧ u ∈ stepsAt ps d s) → WSs (pC scr n e) rest (duR l k d la ls' N o6 o7 o8) H' K) : WSs (pC scr n e) (du1 :: rest) (duR l k d la ls N o6 o7 o8) H K := by
  refine ss_asg (we_sortS (we_sum (ja := 3) hW hl hA rfl rfl hS hn hr fun lu H₁ x1 hz a1 => sortS_i a1 (fun u hu => ?_) fun ss' nd hm => some_i rfl (q ss' _ _ (x1.trans (Ext.app _ _)) (at_new _ _) nd fun u => ?_)))
  · exact (List.mem_flatMap.mp hu).elim fun s hs => Nat.lt_of_lt_of_le (steps_at hW s u hs.2) hl
  · rw [hm, List.mem_flatMap]
theorem du5_i {p : Per} (hP : H[l]? = some (.list (ps.map perV))) (hp : ps[c]? = some p) (hL : H[lh]? = some (.list (nvs hs))) (hz : hs.length < 1000) (h1 : hr ps d k c = true → c ∉ hs → WSs (pC scr (n + 1) e) rest (duR l k d la ls N (some (.ref lh)) (some (nv c)) o8) (H.set lh (.list (nvs (hs ++ [c])))) K) (h2 : (hr ps d k c = true → c ∈ hs) → WSs (pC scr (n + 1) e) rest (duR l k d la ls N (some (.ref lh)) (some (nv c)) o8) H K) : WSs (pC scr (n + 1) e) (du5 :: rest) (duR l k d la ls N (some (.ref lh)) (some (nv c)) o8) H K := by
  have ehr : hr ps d k c = (neB k c && livesP p d) := by unfold hr; rw [lv_at hp]
  rw [ehr] at h1 h2
  refine ss_ife ?_
  show wIf (neB k c == true) _ _
  refine if_t (fun q1 => ?_) fun q1 => if_ff q1 (ss_nil (h2 fun q => by rw [q1] at q; cases q))
  rw [q1, Bool.true_and] at h1 h2
  refine some_i (notin_at hL) ?_
  refine if_t (fun q2 => ?_) fun q2 => if_ff q2 (ss_nil (h2 fun _ => of_decide_eq_true ((Bool.not_eq_false' ..).mp q2)))
  have q2 : c ∉ hs := of_decide_eq_false ((Bool.not_eq_true' _).mp q2)
  refine call_i (w_llives hP hp ?_)
  refine if_i (fun q3 => ?_) fun q3 => ss_nil (h2 fun q => by rw [q3] at q; cases q)
  refine ss_app rfl rfl hL (by rw [List.length_map]; (first | lia | omega)) (ss_nil ?_)
  rw [nvs_snoc]
  exact h1 q3 q2
theorem we_sortI {C : Ctx} {ρ : Env'} {j : Nat} {ks : List Nat} (hj : ρ[j]?.join = some (.ref lh)) (hL : H[lh]? = some (.list (nvs hs))) (hp : hs.Perm ks) (hl : hs.length < 64) (q : Q (.ref H.length) (H ++ [.list (nvs (srt ks))])) : WE C (.bi .sortI [.var j]) ρ H Q := by
  refine some_i hj (some_i (ints_at hL) ⟨by rw [List.length_map]; exact hl, fun js h1 h2 => new_i ?_⟩)
  rw [srt_eq (h1.trans (hp.map hz)) h2, List.map_map]
  exact q
theorem we_row {C : Ctx} {ρ : Env'} {f i1 i2 i3 : Nat} {v0 v1 v2 v3 : V} (e0 : ρ[0]?.join = some v0) (e1 : ρ[i1]?.join = some v1) (e2 : ρ[i2]?.join = some v2) (e3 : ρ[i3]?.join = some v3) (h : WCall C ρ f [v1, v2, v3, v0] H fun v H => Q (.tup [v0, v]) H) : WE C (.tup [.var 0, .call f [.var i1, .var i2, .var i3, .var 0]]) ρ H Q := some_i e0 (some_i e1 (some_i e2 (some_i e3 (some_i e0 h))))
theorem wt_nil {C : Ctx} {ρ : Env'} {R : Bool → Hp → Prop} (h : R true H) : WT C [] ρ H R := h
theorem ss_ret {C : Ctx} {ρ : Env'} {a : E} (h : WE C a ρ H fun v H => K (.ret v H)) : WSs C (.ret a :: rest) ρ H K := h
theorem du4_i {ks : List Nat} {g : Nat → List Nat} (hW : WfP ps) (hl : ps.length ≤ 20) (hk : k < ps.length) (hm : N ≤ 100) (hA : AhAt ps d b H la) (hL : H[lh]? = some (.list (nvs hs))) (hp : hs ≠ [] → hs.Perm ks ∧ ∀ h ∈ ks, LH (stepsAt ps d) (k, false) N h (g h)) (hz : hs.length < 64) {b' : Nat} (hb : b' ≤ H.length) (q1 : ∀ lr vs H', H.length ≤ lr → Ext H H' → H'[lr]? = some (.list vs) → All2 (NrAt b' H') ((srt ks).map fun h => (h, g h)) vs → K (.ret (.ref lr) H')) (q2 : hs = [] → ∀ H', Ext H H' → WSs (pC scr (n + 2) e) rest (duR l k d la ls N (some (.ref lh)) o7 o8) H' K) : WSs (pC scr (n + 2) e) (du4 :: rest) (duR l k d la ls N (some (.ref lh)) o7 o8) H K := by
  refine ss_ife (tr_cmp (we_var rfl (we_lst0 (some_i (ne_nil (at_app _ hL) (rdL_nv _ _) (at_new _ _)) ?_))))
  rw [List.isEmpty_map]
  have x1 := Ext.app H [Cell.list []]
  refine if_i (fun hc => ?_) fun hc => ss_nil (q2 (List.isEmpty_iff.mp ((Bool.not_eq_false' ..).mp hc)) _ x1)
  have hne : hs ≠ [] := fun q => by rw [q] at hc; cases hc
  refine ss_ret (we_comp (wi_of (we_sortI rfl (x1 _ _ hL) (hp hne).1 hz (some_i (keys_at (at_new _ _)) ?_))))
  have hsl : (srt ks).length < 64 := Nat.lt_of_le_of_lt (Nat.le_of_eq ((List.mergeSort_perm ks _).length_eq.trans (hp hne).1.length_eq.symm)) hz
  refine ok_i (sz_i (by rw [List.length_map]; (first | lia | omega))) ?_
  have x2 := x1.trans (Ext.app (H ++ [Cell.list []]) [.list (nvs (srt ks))])
  have a2 := at_new (H ++ [Cell.list []]) (.list (nvs (srt ks)))
  generalize H ++ [Cell.list []] ++ [Cell.list (nvs (srt ks))] = H₂ at x2 a2 ⊢
  generalize (H ++ [Cell.list []]).length = m at a2 ⊢
  refine comp_a2 (R := fun h v => v = nv h) (CwI g (srt ks) b' (duR l k d la ls N (some (.ref lh)) o7 o8) H₂) (fun h v as acc ρ H' hv hI => ?_) (fun acc ρ H' hI => ?_) (all2_map (f := id) (g := nv) (srt ks) fun h _ => rfl |> fun (r : nv h = nv h) => r) _ _ _ ?_
  · refine hI.casesOn fun o dn e x t r => ?_
    subst e
    rw [hv]
    refine some_i rfl fun M hM => ?_
    have hmem : h ∈ ks := (List.mergeSort_perm ks _).mem_iff.mp (show h ∈ srt ks by rw [← t]; exact List.mem_append_right _ List.mem_cons_self)
    refine wt_nil (if_tt rfl ?_)
    refine we_row (v0 := nv h) (v1 := .ref la) (v2 := nv k) (v3 := nv N) rfl rfl rfl rfl (call_i (w_lway (n := n) hW hl hk hm (hA.ext (x2.trans x)) ((hp hne).2 h hmem) fun lw H₃ hbw x3 aw => ?_))
    exact hM _ _ (stands1 a2 ((x.trans x3) _ _ a2)) ⟨_, dn ++ [h], rfl, x.trans x3, snoc_eq t, by
      rw [List.map_append]
      exact All2.snoc (r.imp fun _ _ h => h.ext x3) ⟨lw, Nat.le_trans (Nat.le_trans hb (x2.trans x).len) hbw, rfl, aw⟩⟩
  · refine hI.casesOn fun o dn e x t r => ?_
    rw [List.append_nil] at t
    subst t
    exact new_i (q1 _ _ _ (x2.trans x).len ((x2.trans x).trans (Ext.app _ _)) (at_new _ _) (r.imp fun _ _ h => h.ext (Ext.app _ _)))
  · exact ⟨none, [], rfl, Ext.refl _, by rw [List.map_id]; rfl, .nil⟩
end
end Mine.L

end
section
set_option autoImplicit false
set_option linter.unusedVariables false
set_option linter.unusedSimpArgs false
set_option maxRecDepth 100000
namespace Mine.L
open Mine.P PySem
/-- between two turns of due -/
inductive DuI (ps : List Per) (d : Int) (k l la M : Nat) (H₁ : Hp) (as : List Nat) (ρ : Env') (H' : Hp) : Prop
  | mk (o5 o6 o7 o8 : Option V) (i m ls : Nat) (ss : List St) (e : ρ = [some (.ref l), some (nv k), some (.int d), some (.ref la), some (.ref ls), o5, o6, o7, o8]) (ea : as = List.range' (i + 1) m) (ik : i + m = M) (x : Ext H₁ H') (a : H'[ls]? = some (.list (ss.map sv))) (nd : ss.Nodup) (ok : ∀ s, s ∈ ss ↔ Rc (stepsAt ps d) (k, false) i s) (no : ∀ j, j ≤ i → ¬ Near ps d k j)
theorem range_1 {m : Nat} {f : List V → Prop} (h : m < 1000000) (k : f ((List.range' 1 m).map nv)) : wRange (.int 1) (.int ((m : Int) + 1)) f := by
  refine ⟨⟨by decide, Nat.lt_trans (show ((m : Int) + 1).natAbs < 1000001 by (first | lia | omega)) (by decide)⟩, ?_⟩
  have e : rangeV 1 ((m : Int) + 1) = (List.range' 1 m).map nv := by
    unfold rangeV
    rw [show ((m : Int) + 1 - 1).toNat = m by (first | lia | omega), List.range'_eq_map_range, List.map_map]
    rfl
  rw [e]; exact k
section
variable {scr : List Int} {n : Nat} {H : Hp} {Q X : PQ} {K : Out → Prop} {rest : List S} {e : Env' → V → Hp → Prop} {d : Int} {ps : List Per} {l la ls lh k N b c : Nat} {o7 o8 o6 : Option V} {ss : List St}
theorem we_len {C : Ctx} {ρ : Env'} {j l : Nat} {vs : List V} (hj : ρ[j]?.join = some (.ref l)) (h : H[l]? = some (.list vs)) (q : Q (.int vs.length) H) : WE C (.bi .len [.var j]) ρ H Q := some_i hj (some_i (lst_at h) q)
theorem du3_i (hW : WfP ps) (hl : ps.length ≤ 20) (hk : k < ps.length) (hP : H[l]? = some (.list (ps.map perV))) (hS : H[ls]? = some (.list (ss.map sv))) (ok : ∀ s, s ∈ ss ↔ Rc (stepsAt ps d) (k, false) N s) (q : ∀ (hs : List Nat) lh o7 o8 H', Ext H H' → H'[lh]? = some (.list (nvs hs)) → hs.Nodup → hs.length ≤ 20 → (∀ h, h ∈ hs ↔ hr ps d k h = true ∧ ∃ b, Rc (stepsAt ps d) (k, false) N (h, b)) → WSs (pC scr (n + 1) e) rest (duR l k d la ls N (some (.ref lh)) o7 o8) H' K) : WSs (pC scr (n + 1) e) (du2 :: du3 :: rest) (duR l k d la ls N o6 o7 o8) H K := by
  refine ss_asg (we_lst0 (some_i (a := duR l k d la ls N (some (.ref H.length)) o7 o8) rfl ?_))
  have x0 := Ext.app H [Cell.list []]
  have rg : ∀ s, Rc (stepsAt ps d) (k, false) N s → s.1 < ps.length := fun s hs => hs.range hk (steps_at hW)
  refine ss_for (wi_of (we_var rfl (some_i (keys_at (x0 _ _ hS)) ?_)))
  have len : ∀ {hs : List Nat}, hs.Nodup → (∀ h ∈ hs, hr ps d k h = true ∧ ∃ b, Rc (stepsAt ps d) (k, false) N (h, b)) → hs.length ≤ 20 := fun nd o1 => Nat.le_trans (nodup_bound _ _ nd fun h hh => (o1 h hh).2.elim fun b hb => rg _ hb) hl
  refine for_as (DhI ps d k N l la ls H.length H) (fun s as ρ H' hI => ?_) (fun ρ H' hI => ?_) _ _ _ ⟨o7, o8, [], rfl, x0, at_new _ _, List.nodup_nil, fun h hh => (nomatch hh), fun s hs => .inl ((ok s).mpr hs), fun s hs => (ok s).mp hs⟩
  · refine hI.casesOn fun o7 o8 hs e x a nd o1 o2 o3 => ?_
    subst e
    refine some_i (a := duR l k d la ls N (some (.ref H.length)) (some (nv s.1)) (some (.bool s.2))) rfl fun M hM => ?_
    have hs1 := o3 s List.mem_cons_self
    refine (at_of (rg s hs1)).elim fun p hp => ?_
    have hlen := len nd o1
    have st : ∀ {H₂}, Ext H H₂ → stands [ls] (H ++ [Cell.list []]) H₂ = true := fun x => stands1 (x0 _ _ hS) (x _ _ hS)
    refine du5_i (n := n) (x _ _ hP) hp a (by (first | lia | omega)) (fun h1 h2 => ss_nil ?_) fun h2 => ss_nil ?_
    · have x1 : Ext H (H'.set H.length (.list (nvs (hs ++ [s.1])))) := x.set (Nat.le_refl _) _
      refine hM _ _ (st x1) ⟨_, _, hs ++ [s.1], rfl, x1, at_set a _, List.nodup_append.mpr ⟨nd, List.nodup_cons.mpr ⟨List.not_mem_nil, List.nodup_nil⟩, fun y hy z hz e => h2 (by rw [List.mem_singleton.mp hz] at e; exact e ▸ hy)⟩, fun h hh => (List.mem_append.mp hh).elim (o1 h) fun q => by rw [List.mem_singleton.mp q]; exact ⟨h1, s.2, hs1⟩, fun u hu => (o2 u hu).elim (fun q => (List.mem_cons.mp q).elim (fun q => .inr fun _ => by rw [q]; exact List.mem_append_right _ List.mem_cons_self) .inl) fun q => .inr fun h => List.mem_append_left _ (q h), fun u hu => o3 u (.tail _ hu)⟩
    · exact hM _ _ (st x) ⟨_, _, hs, rfl, x, a, nd, o1, fun u hu => (o2 u hu).elim (fun q => (List.mem_cons.mp q).elim (fun q => .inr fun h => by rw [q] at h ⊢; exact h2 h) .inl) .inr, fun u hu => o3 u (.tail _ hu)⟩
  · refine hI.casesOn fun o7 o8 hs e x a nd o1 o2 o3 => ?_
    subst e
    exact q hs _ _ _ _ x a nd (len nd o1) fun h => ⟨o1 h, fun hh => hh.2.elim fun b hb => (o2 _ hb).elim (fun q => nomatch q) fun q => q hh.1⟩
theorem w_ldue (hW : WfP ps) (hl : ps.length ≤ 20) (hk : k < ps.length) (hP : H[l]? = some (.list (ps.map perV))) (q : DueK H (nearL ps d k) Q) : callX ⟨scr, pgks, pfns⟩ (n + 4) i_law_due [.ref l, nv k, .int d] H Q X := c_law_due (by
  unfold pb_law_due
  refine ss_asg (call_i (w_lahead (n := n) hW hl hP fun la H₁ bla x1 hA => some_i rfl ?_))
  refine ss_asg (we_lst1 (we_st (c := k) rfl (some_i rfl ?_)))
  have hf := near_found (d := d) hW hl hk
  have hnl : nearL ps d k = (srt ((nearP ps d k 41 [] [((k, false), [k])] []).map (·.1))).map fun h => (h, getH (nearP ps d k 41 [] [((k, false), [k])] []) h) := rfl
  generalize nearP ps d k 41 [] [((k, false), [k])] [] = hp at hf hnl
  rw [hnl] at q
  have a2 := at_new H₁ (.list ([(k, false)].map sv))
  have x2 := Ext.app H₁ [.list ([(k, false)].map sv)]
  refine ss_for (wi_range (we_k (we_bin (we_bin (we_k (we_len rfl (x2 _ _ (x1 _ _ hP)) ?_))))))
  rw [List.length_map]
  refine wb_int (mul_i (i := 2) (j := 10) (by decide) (show (ps.length : Int).natAbs < 2 ^ 10 by (first | lia | omega)) (by decide)) (we_k (wb_int rfl ?_))
  show wRange (.int 1) (.int (((2 * ps.length : Nat) : Int) + 1)) _
  refine range_1 (by (first | lia | omega)) ?_
  refine for_as (DuI ps d k l la (2 * ps.length) H₁) (fun c as ρ H' hI => ?_) (fun ρ H' hI => ?_) _ _ _ ⟨none, none, none, none, 0, 2 * ps.length, _, [(k, false)], rfl, rfl, Nat.zero_add _, x2, a2, List.nodup_cons.mpr ⟨List.not_mem_nil, List.nodup_nil⟩, fun s => ?_, fun j hj => ?_⟩
  · refine hI.casesOn fun o5 o6 o7 o8 i m ls ss e ea ik x a nd ok no => ?_
    subst e
    cases m with
    | zero => cases ea
    | succ m =>
      have ec : c = i + 1 := (List.cons.inj ea).1
      have eas : as = List.range' (i + 1 + 1) m := (List.cons.inj ea).2
      subst ec
      refine some_i (a := duR l k d la ls (i + 1) o6 o7 o8) rfl fun M hM => ?_
      have xH := x1.trans x
      refine du1_i hW hl (hA.ext x) a nd (fun s hs => ((ok s).mp hs).range hk (steps_at hW)) fun ss' ls' H₂ x3 a3 nd3 ok3 => ?_
      have ok3 : ∀ s, s ∈ ss' ↔ Rc (stepsAt ps d) (k, false) (i + 1) s := fun s => by
        rw [ok3]
        exact ⟨fun h => h.elim fun u hu => ((ok u).mp hu.1).step hu.2, fun h => h.elim fun w h => h.elim fun u h => h.elim fun w0 h => ⟨u, (ok u).mpr ⟨w0, h.1⟩, h.2.1⟩⟩
      refine du3_i (n := n + 2) hW hl hk ((xH.trans x3) _ _ hP) a3 ok3 fun hs lh o7 o8 H₃ x4 a4 nd4 hlen mem => ?_
      have x34 := x3.trans x4
      have here : hs ≠ [] → hp ≠ [] ∧ Hrs ps d k (i + 1) hp := fun hne => by
        have hn : Near ps d k (i + 1) := by
          cases hs with
          | nil => exact absurd rfl hne
          | cons h r => exact ((mem h).mp List.mem_cons_self).2.elim fun b hb => ⟨h, b, ((mem h).mp List.mem_cons_self).1, hb⟩
        rcases hf with hf | ⟨n0, hle, hmin, hne0, hrs⟩
        · exact absurd hn (hf.2 _)
        · have : n0 = i + 1 := by
            rcases Nat.lt_trichotomy n0 (i + 1) with g | g | g
            · refine absurd ?_ (no n0 (Nat.le_of_lt_succ g))
              cases hp with
              | nil => exact absurd rfl hne0
              | cons h r => exact hrs.casesOn fun _ has _ => ((has h.1).mp List.mem_cons_self).2.elim fun b hb => ⟨h.1, b, ((has h.1).mp List.mem_cons_self).1, hb⟩
            · exact g
            · exact absurd hn (hmin _ g)
          subst this
          exact ⟨hne0, hrs⟩
      refine du4_i (n := n + 1) (ks := hp.map (·.1)) (g := getH hp) hW hl hk (by (first | lia | omega)) (hA.ext (x.trans x34)) a4 (fun hne => (here hne).2.casesOn fun nd has get => ⟨(List.perm_ext_iff_of_nodup nd4 nd).mpr fun h => (mem h).trans (has h).symm, get⟩) (by (first | lia | omega)) (b' := H.length) (xH.trans x34).len (fun lr vs H₄ hb x5 a5 r5 => q lr vs H₄ (Nat.le_trans (xH.trans x34).len hb) ((xH.trans x34).trans x5) a5 r5) fun h0 H₄ x5 => ss_nil ?_
      refine hM _ _ rfl ⟨_, _, _, _, i + 1, m, ls', ss', rfl, eas, by (first | lia | omega), x.trans (x34.trans x5), (x4.trans x5) _ _ a3, nd3, ok3, fun j hj => (Nat.lt_or_eq_of_le hj).elim (fun hj => no j (Nat.le_of_lt_succ hj)) fun e => ?_⟩
      rw [e]
      rintro ⟨h, b, h1, h2⟩
      have := (mem h).mpr ⟨h1, b, h2⟩
      rw [h0] at this; cases this
  · refine hI.casesOn fun o5 o6 o7 o8 i m ls ss e ea ik x a nd ok no => ?_
    subst e
    cases m with
    | zero =>
      have h0 : hp = [] := by
        rcases hf with hf | ⟨n0, hle, hmin, hne0, hrs⟩
        · exact hf.1
        · refine absurd ?_ (no n0 (by (first | lia | omega)))
          cases hp with
          | nil => exact absurd rfl hne0
          | cons h r => exact hrs.casesOn fun _ has _ => ((has h.1).mp List.mem_cons_self).2.elim fun b hb => ⟨h.1, b, ((has h.1).mp List.mem_cons_self).1, hb⟩
      subst h0
      refine ss_ret (we_lst0 (q _ _ _ (x1.trans x).len ((x1.trans x).trans (Ext.app _ _)) (at_new _ _) ?_))
      rw [show srt (List.map (fun x : Nat × List Nat => x.1) []) = [] from List.mergeSort_nil]
      exact .nil
    | succ m => cases ea
  · rw [List.mem_singleton]
    exact ⟨fun e => ⟨[k], rfl, e⟩, fun h => h.elim fun w h => h.2⟩
  · rw [Nat.le_zero.mp hj]
    rintro ⟨a, b, h1, w, h2⟩
    have : a = k := congrArg Prod.fst h2.2
    rw [this] at h1
    unfold hr neB at h1
    rw [beq_self_eq_true] at h1
    cases h1)
end
end Mine.L

end
section
set_option autoImplicit false
set_option linter.unusedVariables false
set_option linter.unusedSimpArgs false
set_option maxRecDepth 100000
namespace Mine.L
open Mine.P PySem
theorem rdL_ok {f : V → Option PyData} {v : V} {r : List V} {d : PyData} {ds : List PyData} (h : f v = some d) (hr : rdL f r = some ds) : rdL f (v :: r) = some (d :: ds) := by
  show (match f v, rdL f r with | some d, some ds => some (d :: ds) | _, _ => none) = _
  rw [h, hr]
theorem eqvAll_map {α : Type} {d : α → PyData} (h : ∀ a, PyData.eqv (d a) (d a) = true) : ∀ l : List α, PyData.eqvAll (l.map d) (l.map d) = true
  | [] => rfl
  | a :: r => by
    show (PyData.eqv (d a) (d a) && PyData.eqvAll (r.map d) (r.map d)) = true
    rw [h a, eqvAll_map h r]; rfl
theorem eqv_int (i : Int) : PyData.eqv (.int i) (.int i) = true := beq_self_eq_true i
noncomputable def inD (i : Nat) : PyData := .int i
noncomputable def rowD (p : Nat × List Nat) : PyData := .tuple [inD p.1, .list (p.2.map inD)]
theorem eqv_row (p : Nat × List Nat) : PyData.eqv (rowD p) (rowD p) = true := by
  show (PyData.eqv (.int p.1) (.int p.1) && (PyData.eqvAll (p.2.map inD) (p.2.map inD) && true)) = true
  rw [eqv_int, eqvAll_map (d := inD) (fun i => eqv_int i)]; rfl
section
variable {scr : List Int} {n : Nat} {l k : Nat} {H : Hp} {Q X : PQ}
theorem rd_row {b m : Nat} {p : Nat × List Nat} {v : V} (h : NrAt b H p v) : rd H (m + 2) v = some (rowD p) := h.casesOn fun l _ e a => by
  rw [e]
  exact congrArg (Option.map PyData.tuple) (rdL_ok (rd_int _ _) (rdL_ok (rd_list a (rdL_nv m p.2)) rfl))
theorem rdL_rows {b : Nat} {ns : List (Nat × List Nat)} {vs : List V} (h : All2 (NrAt b H) ns vs) : rdL (rd H 9) vs = some (ns.map rowD) := h.rec (motive := fun ns vs _ => rdL (rd H 9) vs = some (ns.map rowD)) rfl fun r _ ih => rdL_ok (rd_row r) ih
theorem w_whole {i : Int} (q : Q (.bool true) H) : callX ⟨scr, pgks, pfns⟩ (n + 1) i_law_whole [.int i] H Q X := c_law_whole q
/-- two rows side by side -/
def TwoAt (b b' : Nat) (H : Hp) (p : Nat × List Nat) (z : V) : Prop := ∃ v u, z = .tup [v, u] ∧ NrAt b H p v ∧ NrAt b' H p u
theorem zip_all2 {b b' : Nat} {ns : List (Nat × List Nat)} {vs : List V} (h : All2 (NrAt b H) ns vs) : ∀ {us : List V}, All2 (NrAt b' H) ns us → All2 (TwoAt b b' H) ns (zipV vs us) := h.rec (motive := fun ns vs _ => ∀ {us : List V}, All2 (NrAt b' H) ns us → All2 (TwoAt b b' H) ns (zipV vs us)) (fun _ => .nil) fun {a v as vs} r _ ih us h' => by
  cases h' with
  | cons r' h' => exact .cons ⟨v, _, rfl, r, r'⟩ (ih h')
inductive SmI (x0 x1 : V) (H : Hp) (as : List (Nat × List Nat)) (ρ : Env') (H' : Hp) : Prop
  | mk (o2 o3 : Option V) (e : ρ = [some x0, some x1, o2, o3]) (x : Ext H H') (ok : ∀ r ∈ as, r.2.length ≤ 42)
theorem stands3 {H' : Hp} {a b c : Nat} {ca cb cc : Cell} (ha : H[a]? = some ca) (hb : H[b]? = some cb) (hc : H[c]? = some cc) (x : Ext H H') : stands [a, b, c] H H' = true := by
  show (decide (H'[a]? = H[a]?) && (decide (H'[b]? = H[b]?) && (decide (H'[c]? = H[c]?) && true))) = true
  rw [ha, hb, hc, x _ _ ha, x _ _ hb, x _ _ hc, decide_eq_true rfl, decide_eq_true rfl, decide_eq_true rfl]; rfl
abbrev sm1 : S := .ife (.or [(.not (.bi (.isi .tuple) [(.var 2)])), (.cmp .ne (.bi .len [(.var 2)]) (.k (.int 2))), (.not (.call i_law_whole [(.idx (.var 2) (.k (.int 0)))])), (.not (.bi (.isi .list) [(.idx (.var 2) (.k (.int 1)))]))])
      [.ret (.k (.bool false))]
      []
abbrev sm2 : S := .ife (.or [(.cmp .ne (.comp 1 (.var 0) (.var 0) (.of (.idx (.var 2) (.k (.int 1)))) [(.not (.call i_law_whole [(.var 0)]))]) (.lst [])), (.cmp .ne (.var 2) (.var 3))])
      [.ret (.k (.bool false))]
      []
variable {K : Out → Prop} {rest : List S} {e : Env' → V → Hp → Prop} {x0 x1 : V}
theorem sm1_i {p : Nat × List Nat} {u : V} {lw : Nat} (a : H[lw]? = some (.list (nvs p.2))) (h : WSs (pC scr (n + 1) e) rest [some x0, some x1, some (.tup [nv p.1, .ref lw]), some u] H K) : WSs (pC scr (n + 1) e) (sm1 :: rest) [some x0, some x1, some (.tup [nv p.1, .ref lw]), some u] H K := by
  refine ss_ife ?_
  refine call_i (w_whole ?_)
  apply some_i (show isiV H .list (.ref lw) = some true from congrArg (Option.map fun _ => true) (lst_at a))
  exact h
theorem sm2_i {p : Nat × List Nat} {b' lw : Nat} {u : V} (hz : p.2.length ≤ 42) (a : H[lw]? = some (.list (nvs p.2))) (hu : NrAt b' H p u) (h : ∀ H', Ext H H' → WSs (pC scr (n + 1) e) rest [some x0, some x1, some (.tup [nv p.1, .ref lw]), some u] H' K) : WSs (pC scr (n + 1) e) (sm2 :: rest) [some x0, some x1, some (.tup [nv p.1, .ref lw]), some u] H K := by
  refine ss_ife ?_
  apply some_i (keys_at (scr := scr) a)
  refine ok_i (sz_i (by rw [List.length_map]; exact Nat.lt_of_le_of_lt hz (by decide))) ?_
  refine comp_pf (P := fun _ => false) (F := fun _ => V.none) _ _ _ (fun a _ T hT => call_i (w_whole hT)) (fun a _ hf => nomatch hf) ?_
  have e0 : p.2.filter (fun _ => false) = [] := List.filter_eq_nil_iff.mpr fun _ _ h => nomatch h
  rw [e0]
  apply some_i (ne_nil (scr := scr) (ds := []) (at_app _ (at_new _ _)) rfl (at_new _ _))
  have x3 : Ext H (H ++ [Cell.list []] ++ [Cell.list []]) := (Ext.app _ _).trans (Ext.app _ _)
  have dv : NrAt 0 (H ++ [Cell.list []] ++ [Cell.list []]) p (.tup [nv p.1, .ref lw]) := ⟨lw, Nat.zero_le _, rfl, x3 _ _ a⟩
  have en : cmpV scr .ne (.tup [nv p.1, .ref lw]) u (H ++ [Cell.list []] ++ [Cell.list []]) = some false := by
    show Option.map _ ((rd _ 10 _).bind fun d => (rd _ 10 _).map fun e => PyData.eqv d e) = _
    rw [rd_row dv, rd_row (hu.ext x3)]
    show some (!PyData.eqv (rowD p) (rowD p)) = _
    rw [eqv_row]; rfl
  apply some_i en
  exact h _ x3
theorem w_lsame {b lr b' ls : Nat} {ns : List (Nat × List Nat)} {vs us : List V} (h1 : H[lr]? = some (.list vs)) (r1 : All2 (NrAt b H) ns vs) (h2 : H[ls]? = some (.list us)) (r2 : All2 (NrAt b' H) ns us) (ok : ∀ r ∈ ns, r.2.length ≤ 42) (q : ∀ H', Ext H H' → Q (.bool true) H') : callX ⟨scr, pgks, pfns⟩ (n + 2) i_law_same [.ref lr, .ref ls] H Q X := c_law_same (by
  apply some_i (show isiV H .list (.ref lr) = some true from congrArg (Option.map fun _ => true) (lst_at h1))
  apply some_i (lst_at h1)
  apply some_i (lst_at h2)
  show wIf (!((vs.length : Int) == (us.length : Int))) _ _
  rw [r1.len, r2.len]
  refine if_ff (by rw [beq_self_eq_true]; rfl) ?_
  apply some_i (lst_at h1)
  apply some_i (lst_at h2)
  refine And.intro (Nat.le_of_eq (r1.len.trans r2.len.symm)) ?_
  refine for_a2 (SmI (.ref lr) (.ref ls) (H ++ [.hid])) (fun r z as ρ H' hz h => ?_) (fun ρ H' h => ?_) (zip_all2 r1 r2) _ _ ⟨none, none, rfl, Ext.refl _, ok⟩
  · refine hz.elim fun v hz => hz.elim fun u hz => ?_
    refine h.casesOn fun o2 o3 e x ok => ?_
    subst e
    have xh := (Ext.app H [.hid]).trans x
    refine hz.2.1.casesOn fun ll hb ev av => ?_
    rw [hz.1, ev]
    refine some_i (a := [some (.ref lr), some (.ref ls), some (.tup [nv r.1, .ref ll]), some u]) rfl fun N hN => ?_
    exact sm1_i (n := n) (xh _ _ av) (sm2_i (n := n) (ok r List.mem_cons_self) (xh _ _ av) (hz.2.2.ext xh) fun H₂ x2 => ss_nil (hN _ _ (stands3 (at_new H .hid) (at_app _ h1) (at_app _ h2) (x.trans x2)) ⟨_, _, rfl, x.trans x2, fun r h => ok r (.tail _ h)⟩))
  · refine h.casesOn fun o2 o3 e x ok => ?_
    subst e
    exact q _ ((Ext.app _ _).trans x))
end
/-! people, simple and compared -/
noncomputable def smpP (p : Per) : Per := ⟨p.born, p.par.take 1, none, p.died⟩
theorem smp_wf {ps : List Per} (hW : WfP ps) : WfP (ps.map smpP) := fun k p' hp => by
  rw [List.getElem?_map] at hp
  cases hq : ps[k]? with
  | none => rw [hq] at hp; cases hp
  | some p =>
    rw [hq] at hp
    cases hp
    exact (hW k p hq).casesOn fun a b c d => ⟨fun j hj => (a j (List.mem_of_mem_take hj)).elim fun q hq => ⟨smpP q, by rw [List.getElem?_map, hq.1]; rfl, hq.2⟩, fun x hx => (by cases hx), Nat.le_trans (List.length_take_le _ _) (by decide), fun x hx => by cases hx⟩
noncomputable def diD : Option Int → PyData
  | none => .none
  | some d => .int d
noncomputable def ntD (l : List Nat) : PyData := .tuple (l.map inD)
noncomputable def adD : Option (Int × List Nat) → PyData
  | none => .none
  | some a => .tuple [.int a.1, ntD a.2]
noncomputable def perD (p : Per) : PyData := .tuple [.int p.born, ntD p.par, adD p.ad, diD p.died]
theorem eqv_nt (l : List Nat) : PyData.eqv (ntD l) (ntD l) = true := eqvAll_map (d := inD) (fun i => eqv_int i) l
theorem eqv_per (p : Per) : PyData.eqv (perD p) (perD p) = true := by
  show (PyData.eqv (.int p.born) (.int p.born) && (PyData.eqv (ntD p.par) (ntD p.par) && (PyData.eqv (adD p.ad) (adD p.ad) && (PyData.eqv (diD p.died) (diD p.died) && true)))) = true
  have h1 : PyData.eqv (adD p.ad) (adD p.ad) = true := by
    cases p.ad with
    | none => rfl
    | some a =>
      show (PyData.eqv (.int a.1) (.int a.1) && (PyData.eqv (ntD a.2) (ntD a.2) && true)) = true
      rw [eqv_int, eqv_nt]; rfl
  have h2 : PyData.eqv (diD p.died) (diD p.died) = true := by
    cases p.died with
    | none => rfl
    | some a => exact eqv_int a
  rw [eqv_int, eqv_nt, h1, h2]; rfl
section
variable {scr : List Int} {n : Nat} {l l' : Nat} {H : Hp} {Q X : PQ} {ps : List Per}
theorem rd_nt (ls : List Nat) (m : Nat) : rd H (m + 1) (.tup (nvs ls)) = some (ntD ls) := congrArg (Option.map PyData.tuple) (rdL_nv m ls)
theorem rd_per (p : Per) : rd H 9 (perV p) = some (perD p) := by
  refine congrArg (Option.map PyData.tuple) (rdL_ok (rd_int _ _) (rdL_ok (rd_nt _ _) (rdL_ok (d := adD p.ad) ?_ (rdL_ok (d := diD p.died) ?_ rfl))))
  · cases p.ad with
    | none => rfl
    | some a => exact congrArg (Option.map PyData.tuple) (rdL_ok (rd_int _ _) (rdL_ok (rd_nt _ _) rfl))
  · cases p.died <;> rfl
theorem rdL_per : ∀ ps : List Per, rdL (rd H 9) (ps.map perV) = some (ps.map perD)
  | [] => rfl
  | p :: r => rdL_ok (rd_per p) (rdL_per r)
theorem eq_people (h : H[l]? = some (.list (ps.map perV))) (h' : H[l']? = some (.list (ps.map perV))) : cmpV scr .eq (.ref l) (.ref l') H = some true := by
  show eqV H (.ref l) (.ref l') = _
  unfold eqV
  rw [none_list h, rd_list h (rdL_per ps), rd_list h' (rdL_per ps)]
  show some (PyData.eqvAll (ps.map perD) (ps.map perD)) = _
  rw [eqvAll_map eqv_per]
theorem slc_1 {vs : List V} (q : Q (.tup (vs.take 1)) H) : WSlc scr (.tup vs) .none (.int 1) H Q := by
  refine some_i (o := partOf .none) (a := none) rfl (some_i (o := partOf (.int 1)) (a := some 1) ?_ q)
  show (if (1 : Int).natAbs < 2 ^ 60 then some (some (1 : Int)) else none) = _
  exact if_pos (by decide)
theorem we_slc1 {C : Ctx} {ρ : Env'} {a : E} {vs : List V} (ha : ∀ R : PQ, R (.tup vs) H → WE C a ρ H R) (q : Q (.tup (vs.take 1)) H) : WE C (.slc a none (some (.k (.int 1)))) ρ H Q := ha _ (slc_1 (scr := C.scr) q)
theorem w_lsimple (hl : ps.length ≤ 20) (hA : H[l]? = some (.list (ps.map perV))) (q : Q (.ref H.length) (H ++ [.list ((ps.map smpP).map perV)])) : callX ⟨scr, pgks, pfns⟩ (n + 1) i_law_simple [.ref l] H Q X := c_law_simple (by
  refine ss_ret (we_comp (wi_of (we_var rfl (some_i (keys_at hA) (ok_i (sz_i (by rw [List.length_map]; (first | lia | omega))) ?_)))))
  refine comp_pf (P := fun _ => true) (F := fun p => perV (smpP p)) _ _ _ (fun a _ T h => h) (fun p _ _ N hN => ?_) (new_i ?_)
  · refine we_slc1 (fun R h => h) ?_
    rw [← List.map_take]
    exact hN
  · rw [filter_true]
    rw [List.map_map] at q
    exact q)
end
end Mine.L

end
section
set_option autoImplicit false
set_option linter.unusedVariables false
set_option linter.unusedSimpArgs false
set_option maxRecDepth 100000
namespace Mine.L
open Mine.P PySem
inductive TaI (l : Nat) (N : Nat) (H : Hp) (as : List Nat) (ρ : Env') (H' : Hp) : Prop
  | mk (o1 o2 o3 o4 : Option V) (e : ρ = [some (.ref l), o1, o2, o3, o4]) (x : Ext H H')
inductive TbI (l : Nat) (o1 : Option V) (lw N : Nat) (H₁ : Hp) (vs : List V) (ρ : Env') (H' : Hp) : Prop
  | mk (o3 o4 : Option V) (ep : Nat) (es : List (Int × V)) (ws : Cn) (e : ρ = [some (.ref l), o1, some (.ref lw), o3, o4]) (x : ExtB lw H₁ H') (a : H'[lw]? = some (.dict ep es)) (dc : DcAt hz IsI ws es) (len : ws.length + vs.length ≤ 100) (ok : ∀ v ∈ vs, ∃ j, j < N ∧ v = nv j)
section
variable {scr : List Int} {n : Nat} {l : Nat} {H : Hp} {Q X : PQ}
theorem range_nv (m : Nat) : rangeV 0 (m : Int) = (List.range m).map nv := by
  unfold rangeV
  rw [Int.sub_zero]
  exact List.map_congr_left fun i _ => congrArg V.int (Int.zero_add _)
theorem w_tangled {ps : List Per} (hW : WfP ps) (hl : ps.length ≤ 20) (h0 : H[0]? = some .tab) (hA : H[l]? = some (.list (ps.map perV))) (q : ∀ b H', Ext H H' → Q (.bool b) H') : callX ⟨scr, pgks, pfns⟩ (n + 1) i_law_tangled [.ref l] H Q X := c_law_tangled (by
  apply some_i (lst_at hA)
  rw [List.length_map]
  refine range_n (Nat.lt_of_le_of_lt hl (by decide)) (for_as (TaI l ps.length H) (fun r as ρ H' h => ?_) (fun ρ H' h => ?_) _ _ _ ⟨none, none, none, none, rfl, Ext.refl _⟩)
  · refine h.casesOn fun o1 o2 o3 o4 e x => ?_
    subst e
    refine fun N hN => ?_
    refine And.intro (at_new H' (.dict 0 [])) fun ep => ?_
    have x1 : Ext H' ((H' ++ [Cell.dict 0 []]).set H'.length (.dict ep [((r : Int), .int 1)])) := (Ext.app _ _).set (Nat.le_refl _) _
    have a1 := at_set (at_new H' (.dict 0 [])) (.dict ep [((r : Int), .int 1)])
    generalize (H' ++ [Cell.dict 0 []]).set H'.length (.dict ep [((r : Int), .int 1)]) = H₁ at x1 a1 ⊢
    have hA1 := (x.trans x1) _ _ hA
    apply some_i (lst_at hA1)
    rw [List.length_map]
    refine And.intro ⟨Int.natCast_nonneg _, by (first | lia | omega)⟩ ?_
    rw [range_nv]
    apply some_i (lst_at (at_new H₁ (.list ((List.range ps.length).map nv))))
    refine And.intro ⟨by rw [List.length_map, List.length_range]; exact Nat.lt_of_le_of_lt hl (by decide), at_app _ ((x.trans x1) _ _ h0)⟩ (And.intro (fun v hv => ?_) fun us hp => ?_)
    · refine (List.mem_map.mp hv).elim fun j hj => ?_
      rw [← hj.2]
      refine (at_of (List.mem_range.mp hj.1)).elim fun p hp => ?_
      apply some_i (idx_per (scr := scr) (at_app _ hA1) hp)
      trivial
    · have ok : ∀ v ∈ us, ∃ j, j < ps.length ∧ v = nv j := fun v hv => (List.mem_map.mp (hp.mem_iff.mp hv)).elim fun j hj => ⟨j, List.mem_range.mp hj.1, hj.2.symm⟩
      have hul : us.length ≤ 20 := by rw [hp.length_eq, List.length_map, List.length_range]; exact hl
      have au := at_new (H₁ ++ [.list ((List.range ps.length).map nv)]) (.list us)
      have x2 : Ext H₁ (H₁ ++ [.list ((List.range ps.length).map nv)] ++ [.list us]) := (Ext.app _ _).trans (Ext.app _ _)
      have l1 := at_lt (at_app [Cell.list ((List.range ps.length).map nv)] a1)
      generalize H₁ ++ [Cell.list ((List.range ps.length).map nv)] = H₂ at au x2 l1
      apply some_i (keys_at (scr := scr) au)
      refine for_inv (TbI l (some (nv r)) H'.length ps.length (H₂ ++ [.list us])) (fun v vs ρ H₃ h => ?_) (fun ρ H₃ h => ?_) us _ _ ⟨o3, o4, ep, _, [(r, 1)], rfl, ExtB.refl _ _, x2 _ _ a1, .cons ⟨rfl, rfl⟩ .nil, by show 1 + us.length ≤ 100; (first | lia | omega), ok⟩
      · refine h.casesOn fun o3 o4 ep es ws e x3 a3 dc len ok => ?_
        subst e
        refine (ok v List.mem_cons_self).elim fun j hj => ?_
        rw [hj.2]
        refine fun N' hN' => ?_
        refine (at_of hj.1).elim fun p hp => ?_
        rw [List.length_cons] at len
        have xb : Ext H (H₂ ++ [.list us]) := (x.trans x1).trans x2
        have hl' : H.length ≤ H'.length := x.len
        have x3H : Ext H H₃ := x3.ext xb hl'
        refine t1 (scr := scr) hW (x3H _ _ hA) hp fun as la H₄ has x4 al => ?_
        have a4 := x4 _ _ a3
        refine t3 a4 dc (by (first | lia | omega)) al has (fun i ep' H₅ x5 es' a5 dc5 => ?_) fun H₅ x5 => ?_
        · have x6 := x3.trans ((x4.b _).trans x5)
          exact hN' _ _ (stands1 au (x6 _ _ (Nat.ne_of_gt l1) au)) ⟨_, _, ep', es', _, rfl, x6, a5, dc5, by have := aput_len (ws := ws) (a := j) (b := i); (first | lia | omega), fun v hv => ok v (.tail _ hv)⟩
        · exact q _ _ ((x3.trans ((x4.b _).trans x5)).ext xb hl')
      · refine h.casesOn fun o3 o4 ep es ws e x3 a3 dc len ok => ?_
        subst e
        exact hN _ _ rfl ⟨_, _, _, _, rfl, x3.ext ((x.trans x1).trans x2) x.len⟩
  · refine h.casesOn fun o1 o2 o3 o4 e x => ?_
    subst e
    exact q _ _ x)
end
end Mine.L

end
section
set_option autoImplicit false
set_option linter.unusedVariables false
set_option linter.unusedSimpArgs false
set_option maxRecDepth 100000
namespace Mine.L
open Mine.P PySem
abbrev la0 : S := .asg (.var 1) (.bin .add (.k (.int 1)) (.bin .mod (.call i_law_cell_at [(.var 0), (.k (.int 0))]) (.k (.int 12))))
abbrev la1 : S := .ife (.cmp .eq (.bin .mod (.bin .fdiv (.call i_law_cell_at [(.var 0), (.k (.int 0))]) (.k (.int 12))) (.k (.int 6))) (.k (.int 1)))
    [.asg (.var 1) (.bin .add (.k (.int 1)) (.bin .mod (.bin .fdiv (.call i_law_cell_at [(.var 0), (.k (.int 0))]) (.k (.int 72))) (.k (.int 20))))]
    []
abbrev la2 : S := .asg (.var 2) (.call i_law_adopting [(.call i_law_people [(.call i_law_cell_at [(.var 0), (.k (.int 1))]), (.var 1)]), (.call i_law_cell_at [(.var 0), (.k (.int 2))])])
abbrev la3 : S := .ife (.call i_law_tangled [(.var 2)])
    [.asg (.var 2) (.call i_law_simple [(.var 2)])]
    []
abbrev la4 : S := .asg (.var 3) (.listOf (.var 2))
abbrev la5 : S := .asg (.var 4) (.bin .mod (.call i_law_cell_at [(.var 0), (.k (.int 3))]) (.var 1))
abbrev la6 : S := .asg (.var 5) (.bin .mod (.call i_law_cell_at [(.var 0), (.k (.int 5))]) (.var 1))
abbrev la7 : S := .asg (.var 6) (.bin .add (.idx (.idx (.var 2) (.var 4)) (.k (.int 0))) (.bin .mod (.bin .fdiv (.call i_law_cell_at [(.var 0), (.k (.int 4))]) (.k (.int 3))) (.k (.int 200))))
abbrev la8 : S := .ife (.and [(.cmp .gt (.bin .mod (.call i_law_cell_at [(.var 0), (.k (.int 4))]) (.k (.int 3))) (.k (.int 0))), (.isNone false (.idx (.idx (.var 2) (.var 4)) (.k (.int 3))))])
    [.asg (.var 6) (.idx (.idx (.var 2) (.var 4)) (.k (.int 3)))]
    []
abbrev laS (A : E) : E := .call i_law_same [(.call i_nearest [(.var 3), A, (.var 6)]), (.call i_law_due [(.var 2), A, (.var 6)])]
abbrev laT : E := .call i_law_same [(.var 8), (.var 7)]
abbrev la9 : S := .asg (.var 7) (.call i_law_due [(.var 2), (.var 4), (.var 6)])
abbrev la10 : S := .asg (.var 8) (.call i_nearest [(.var 3), (.var 4), (.var 6)])
abbrev la11 : S := .ife (.not laT) [.ret (.k (.bool false))] []
abbrev la12 : S := .ife (.or [(.not (laS (.var 5))), (.not laT)]) [.ret (.k (.bool false))] []
abbrev la13 : S := .ife (.cmp .ne (.var 8) (.lst []))
    [.expr (.meth .append (.idx (.idx (.var 8) (.k (.int 0))) (.k (.int 1))) [(.k (.int 0))])]
    []
abbrev la14 : S := .expr (.meth .clear (.var 8) [])
abbrev la16 : S := .ife (.not (laS (.bin .mod (.var 9) (.var 1)))) [.ret (.k (.bool false))] []
abbrev la15 : S := .for (.var 9) (.of (.call i_law_stream [(.call i_law_cell_at [(.var 0), (.k (.int 5))]), (.k (.int 3))])) [la16]
abbrev la17 : S := .ret (.and [(.call i_law_same [(.call i_nearest [(.var 3), (.var 4), (.var 6)]), (.var 7)]), (.cmp .eq (.var 3) (.var 2))])
theorem law_is : pb_law = [la0, la1, la2, la3, la4, la5, la6, la7, la8, la9, la10, la11, la12, la13, la14, la15, la17] := rfl
section
variable {scr : List Int} {n : Nat} {H : Hp} {Q X : PQ} {K : Out → Prop} {rest : List S} {e : Env' → V → Hp → Prop} {o1 o2 o3 o4 o5 o6 o7 o8 o9 : Option V} {ps : List Per} {l l' m a a' : Nat} {d : Int}
abbrev lwR (o1 o2 o3 o4 o5 o6 o7 o8 o9 : Option V) : Env' := [some .script, o1, o2, o3, o4, o5, o6, o7, o8, o9]
theorem we_cell {ρ : Env'} {k : Nat} (h0 : ρ[0]?.join = some .script) (q : ∀ c : Int, Q (.int c) H) : WE (pC scr (n + 1) e) (.call i_law_cell_at [.var 0, .k (.int (k : Int))]) ρ H Q := some_i h0 (call_i (w_cell (k := k) (q _)))
theorem mod_nat (c : Int) {k : Nat} (h : 0 < k) : ∃ m : Nat, c.fmod (k : Int) = (m : Int) ∧ m < k := by
  have := fmod_lt c (Int.ofNat_lt.mpr h)
  exact ⟨(c.fmod k).toNat, by (first | lia | omega), by (first | lia | omega)⟩
theorem l01 (h : ∀ m : Nat, 0 < m → m ≤ 20 → WSs (pC scr (n + 1) e) rest (lwR (some (nv m)) o2 o3 o4 o5 o6 o7 o8 o9) H K) : WSs (pC scr (n + 1) e) (la0 :: la1 :: rest) (lwR o1 o2 o3 o4 o5 o6 o7 o8 o9) H K := by
  refine ss_asg (we_bin (we_k (we_bin (we_cell (k := 0) rfl fun c => we_k ?_))))
  refine (mod_nat c (k := 12) (by decide)).elim fun r hr => ?_
  refine wb_int ((mod_i (b := 12) (by decide)).trans (congrArg some hr.1)) (wb_int rfl (some_i (a := lwR (some (nv (1 + r))) o2 o3 o4 o5 o6 o7 o8 o9) ?_ ?_))
  · rfl
  refine ss_ife (tr_cmp (we_bin (we_bin (we_cell (k := 0) rfl fun c => we_k (wb_int (fdiv_i (b := 12) (by decide)) (we_k (wb_int (mod_i (b := 6) (by decide)) (we_k (some_i (a := ((c.fdiv 12).fmod 6 == 1)) rfl ?_)))))))))
  refine if_i (fun _ => ?_) fun _ => ss_nil (h _ (by (first | lia | omega)) (by (first | lia | omega)))
  refine ss_asg (we_bin (we_k (we_bin (we_bin (we_cell (k := 0) rfl fun c => we_k (wb_int (fdiv_i (b := 72) (by decide)) (we_k ?_)))))))
  refine (mod_nat (c.fdiv 72) (k := 20) (by decide)).elim fun r hr => ?_
  refine wb_int ((mod_i (b := 20) (by decide)).trans (congrArg some hr.1)) (wb_int rfl (some_i (a := lwR (some (nv (1 + r))) o2 o3 o4 o5 o6 o7 o8 o9) ?_ (ss_nil (h _ (by (first | lia | omega)) (by (first | lia | omega))))))
  rfl
theorem l2 (hm : m ≤ 20) (h : ∀ l H' ps, ps.length = m → WfP ps → Ext H H' → H'[l]? = some (.list (ps.map perV)) → WSs (pC scr (n + 2) e) rest (lwR (some (nv m)) (some (.ref l)) o3 o4 o5 o6 o7 o8 o9) H' K) : WSs (pC scr (n + 2) e) (la2 :: rest) (lwR (some (nv m)) o2 o3 o4 o5 o6 o7 o8 o9) H K := by
  refine ss_asg (call_i (w_cell (k := 1) ?_))
  refine call_i (w_people (n := n) hm fun lp H₁ ps hl hW x₁ _ a₁ => ?_)
  refine call_i (w_cell (k := 2) ?_)
  refine call_i (w_adopting (n := n) a₁ hW (hl ▸ hm) fun la H₂ ps' hl' hW' x₂ _ a₂ => ?_)
  exact h la H₂ ps' (hl'.trans hl) hW' (x₁.trans x₂) a₂
theorem l3 (hW : WfP ps) (hl : ps.length ≤ 20) (h0 : H[0]? = some .tab) (hA : H[l]? = some (.list (ps.map perV))) (h : ∀ l H' ps', ps'.length = ps.length → WfP ps' → Ext H H' → H'[l]? = some (.list (ps'.map perV)) → WSs (pC scr (n + 1) e) rest (lwR o1 (some (.ref l)) o3 o4 o5 o6 o7 o8 o9) H' K) : WSs (pC scr (n + 1) e) (la3 :: rest) (lwR o1 (some (.ref l)) o3 o4 o5 o6 o7 o8 o9) H K := by
  refine ss_ife (call_i (w_tangled (n := n) hW hl h0 hA fun b H₁ x1 => ?_))
  show wIf b _ _
  refine if_i (fun _ => ?_) fun _ => ss_nil (h l H₁ ps rfl hW x1 (x1 _ _ hA))
  refine ss_asg (call_i (w_lsimple (n := n) hl (x1 _ _ hA) (some_i rfl (ss_nil (h _ _ (ps.map smpP) (List.length_map ..) (smp_wf hW) (x1.trans (Ext.app _ _)) (at_new _ _))))))
theorem we_listOf {C : Ctx} {ρ : Env'} {j : Nat} {vs : List V} (hv : ρ[j]?.join = some (.ref l)) (h : H[l]? = some (.list vs)) (hz : vs.length < 16000000) (q : Q (.ref H.length) (H ++ [.list vs])) : WE C (.listOf (.var j)) ρ H Q := some_i hv (some_i (copy_at h) (ok_i (sz_i hz) q))
theorem l4 (hl : ps.length ≤ 20) (hA : H[l]? = some (.list (ps.map perV))) (h : ∀ l' H', Ext H H' → H'[l']? = some (.list (ps.map perV)) → WSs (pC scr n e) rest (lwR o1 (some (.ref l)) (some (.ref l')) o4 o5 o6 o7 o8 o9) H' K) : WSs (pC scr n e) (la4 :: rest) (lwR o1 (some (.ref l)) o3 o4 o5 o6 o7 o8 o9) H K := by
  exact ss_asg (we_listOf rfl hA (by rw [List.length_map]; (first | lia | omega)) (some_i rfl (h _ _ (Ext.app _ _) (at_new _ _))))
theorem we_mod {ρ : Env'} {k : Nat} (h0 : ρ[0]?.join = some .script) (h1 : ρ[1]?.join = some (nv m)) (hm : 0 < m) (q : ∀ a : Nat, a < m → Q (nv a) H) : WE (pC scr (n + 1) e) (.bin .mod (.call i_law_cell_at [.var 0, .k (.int (k : Int))]) (.var 1)) ρ H Q :=
  we_bin (we_cell (k := k) h0 fun c => we_var h1 ((mod_nat c hm).elim fun r hr => wb_int ((mod_i (by (first | lia | omega))).trans (congrArg some hr.1)) (q r hr.2)))
theorem l56 (hm : 0 < m) (h : ∀ a b : Nat, a < m → b < m → WSs (pC scr (n + 1) e) rest (lwR (some (nv m)) o2 o3 (some (nv a)) (some (nv b)) o6 o7 o8 o9) H K) : WSs (pC scr (n + 1) e) (la5 :: la6 :: rest) (lwR (some (nv m)) o2 o3 o4 o5 o6 o7 o8 o9) H K :=
  ss_asg (we_mod (k := 3) rfl rfl hm fun a ha => some_i rfl (ss_asg (we_mod (k := 5) rfl rfl hm fun b hb => some_i rfl (h a b ha hb))))
theorem l78 {p : Per} (hA : H[l]? = some (.list (ps.map perV))) (hp : ps[a]? = some p) (h : ∀ d : Int, WSs (pC scr (n + 1) e) rest (lwR o1 (some (.ref l)) o3 (some (nv a)) o5 (some (.int d)) o7 o8 o9) H K) : WSs (pC scr (n + 1) e) (la7 :: la8 :: rest) (lwR o1 (some (.ref l)) o3 (some (nv a)) o5 o6 o7 o8 o9) H K := by
  have ix := idx_per (scr := scr) hA hp
  unfold perV at ix
  refine ss_asg (we_bin (we_idx (we_idx (we_var rfl (we_var rfl (some_i ix (we_k (some_i (a := .int p.born) rfl (we_bin (we_bin (we_cell (k := 4) rfl fun c => we_k (wb_int (fdiv_i (b := 3) (by decide)) (we_k (wb_int (mod_i (b := 200) (by decide)) (wb_int rfl (some_i rfl ?_))))))))))))))))
  have no := h (p.born + (c.fdiv 3).fmod 200)
  refine ss_ife ?_
  refine call_i (w_cell (k := 4) ?_)
  generalize scr.getD 4 0 = c
  show wIf (decide (c.fmod 3 > 0) == true) _ _
  refine if_t (fun h1 => ?_) fun h1 => if_ff h1 (ss_nil no)
  apply some_i ix
  cases hd : p.died with
  | none => exact no
  | some d' =>
    rw [hd] at ix
    refine ss_asg (we_idx (we_idx (we_var rfl (we_var rfl (some_i ix (we_k (some_i (a := .int d') rfl (some_i rfl (ss_nil (h _))))))))))

/-! what is asked -/
theorem we_call2 {C : Ctx} {ρ : Env'} {f : Nat} {x y : E} (h : WE C x ρ H fun u H => WE C y ρ H fun v H => WCall C ρ f [u, v] H Q) : WE C (.call f [x, y]) ρ H Q := h
theorem we_call3 {C : Ctx} {ρ : Env'} {f : Nat} {x y z : E} (h : WE C x ρ H fun u H => WE C y ρ H fun v H => WE C z ρ H fun w H => WCall C ρ f [u, v, w] H Q) : WE C (.call f [x, y, z]) ρ H Q := h
/-- what nearest finds is what is due -/
theorem we_same {ρ : Env'} {A : E} (hW : WfP ps) (hl : ps.length ≤ 20) (ha : a < ps.length) (hA : H[l]? = some (.list (ps.map perV))) (hB : H[l']? = some (.list (ps.map perV))) (e2 : ρ[2]?.join = some (.ref l)) (e3 : ρ[3]?.join = some (.ref l')) (e6 : ρ[6]?.join = some (.int d)) (eA : ∀ (H : Hp) (R : PQ), R (nv a) H → WE (pC scr (n + 5) e) A ρ H R) (q : ∀ H', Ext H H' → Q (.bool true) H') : WE (pC scr (n + 5) e) (laS A) ρ H Q := by
  refine (at_of ha).elim fun p hp => ?_
  refine we_call2 (we_call3 (we_var e3 (eA _ _ (we_var e6 (call_i (w_nearest (n := n) hW hl hp hB fun lr vs H₁ _ ok _ x1 a1 r1 => ?_))))))
  refine we_call3 (we_var e2 (eA _ _ (we_var e6 (call_i (w_ldue (n := n + 1) hW hl ha (x1 _ _ hA) fun ls us H₂ _ x2 a2 r2 => ?_)))))
  exact call_i (w_lsame (n := n + 3) (x2 _ _ a1) (r1.imp fun _ _ h => h.ext x2) a2 r2 ok fun H₃ x3 => q _ ((x1.trans x2).trans x3))
theorem tr_not {C : Ctx} {ρ : Env'} {E : E} {R : Bool → Hp → Prop} (h : WE C E ρ H fun x H => wSome (truthy H x) fun b => R (!b) H) : WTr C (.not E) ρ H R := by
  refine h
end
end Mine.L

end
section
set_option autoImplicit false
set_option linter.unusedVariables false
set_option linter.unusedSimpArgs false
set_option maxRecDepth 100000
namespace Mine.L
open Mine.P PySem
inductive LfI (ρ₀ : Option V → Env') (H : Hp) (as : List Int) (ρ : Env') (H' : Hp) : Prop
  | mk (o9 : Option V) (e : ρ = ρ₀ o9) (x : Ext H H')
section
variable {C : Ctx} {ρ : Env'} {H : Hp} {Q : PQ} {E1 E2 : E} {R : Bool → Hp → Prop}
theorem tr_or_not (h : WE C E1 ρ H fun x H => wSome (truthy H x) fun b => wIf ((!b) == false) (WTr C E2 ρ H R) (R (!b) H)) : WTr C (.or [.not E1, E2]) ρ H R := h
theorem we_and2 (h : WE C E1 ρ H fun x H => wSome (truthy H x) fun t => wIf (t == true) (WE C E2 ρ H Q) (Q x H)) : WE C (.and [E1, E2]) ρ H Q := h
theorem we_cmp {op : COp} (h : WE C E1 ρ H fun x H => WE C E2 ρ H fun y H => wSome (cmpV C.scr op x y H) fun t => Q (.bool t) H) : WE C (.cmp op E1 E2) ρ H Q := h
theorem we_appk {v : V} {l : Nat} {vs : List V} (ha : ∀ R : PQ, R (.ref l) H → WE C E1 ρ H R) (hl : H[l]? = some (.list vs)) (hs : vs.length < 16000000) (q : Q .none (H.set l (.list (vs ++ [v])))) : WE C (.meth .append E1 [.k v]) ρ H Q := ha _ (me_i hl (app_i hl hs q))
theorem we_clr {j l : Nat} {vs : List V} (hj : ρ[j]?.join = some (.ref l)) (hl : H[l]? = some (.list vs)) (q : Q .none (H.set l (.list []))) : WE C (.meth .clear (.var j) []) ρ H Q := some_i hj (ok_i (t := meKind .clear H (.ref l)) (congrArg Option.isSome (lst_at hl)) (show WMeth .clear (.ref l) [] H Q from some_i (lst_at hl) q))
end
section
variable {scr : List Int} {n : Nat} {H H₁ : Hp} {Q X : PQ} {K : Out → Prop} {rest : List S} {e : Env' → V → Hp → Prop} {o1 o2 o3 o4 o5 o6 o7 o8 o9 : Option V} {ps : List Per} {l l' m a a' ls lr b b' : Nat} {d : Int} {ns : List (Nat × List Nat)} {us vs : List V}
theorem l910 (hW : WfP ps) (hl : ps.length ≤ 20) (ha : a < ps.length) (hA : H[l]? = some (.list (ps.map perV))) (hB : H[l']? = some (.list (ps.map perV))) (h : ∀ ls us H₁ lr vs H₂, Ext H H₁ → H₁[ls]? = some (.list us) → All2 (NrAt H.length H₁) (nearL ps d a) us → Ext H₁ H₂ → H₁.length ≤ lr → H₂[lr]? = some (.list vs) → All2 (NrAt H₁.length H₂) (nearL ps d a) vs → (∀ r ∈ nearL ps d a, r.2.length ≤ 42) → WSs (pC scr (n + 5) e) rest (lwR o1 (some (.ref l)) (some (.ref l')) (some (nv a)) o5 (some (.int d)) (some (.ref ls)) (some (.ref lr)) o9) H₂ K) : WSs (pC scr (n + 5) e) (la9 :: la10 :: rest) (lwR o1 (some (.ref l)) (some (.ref l')) (some (nv a)) o5 (some (.int d)) o7 o8 o9) H K := by
  refine (at_of ha).elim fun p hp => ?_
  refine ss_asg (we_call3 (we_var rfl (we_var rfl (we_var rfl (call_i (w_ldue (n := n + 1) hW hl ha hA fun ls us H₁ _ x1 a1 r1 => some_i rfl ?_))))))
  exact ss_asg (we_call3 (we_var rfl (we_var rfl (we_var rfl (call_i (w_nearest (n := n) hW hl hp (x1 _ _ hB) fun lr vs H₂ _ ok b2 x2 a2 r2 => some_i rfl (h ls us H₁ lr vs H₂ x1 a1 r1 x2 b2 a2 r2 ok)))))))
theorem we_T {ρ : Env'} (e7 : ρ[7]?.join = some (.ref ls)) (e8 : ρ[8]?.join = some (.ref lr)) (a1 : H[ls]? = some (.list us)) (r1 : All2 (NrAt b H) ns us) (a2 : H[lr]? = some (.list vs)) (r2 : All2 (NrAt b' H) ns vs) (ok : ∀ r ∈ ns, r.2.length ≤ 42) (q : ∀ H', Ext H H' → Q (.bool true) H') : WE (pC scr (n + 5) e) laT ρ H Q :=
  we_call2 (we_var e8 (we_var e7 (call_i (w_lsame (n := n + 3) a2 r2 a1 r1 ok q))))
theorem l11 {ρ : Env'} (e7 : ρ[7]?.join = some (.ref ls)) (e8 : ρ[8]?.join = some (.ref lr)) (a1 : H[ls]? = some (.list us)) (r1 : All2 (NrAt b H) ns us) (a2 : H[lr]? = some (.list vs)) (r2 : All2 (NrAt b' H) ns vs) (ok : ∀ r ∈ ns, r.2.length ≤ 42) (q : ∀ H', Ext H H' → WSs (pC scr (n + 5) e) rest ρ H' K) : WSs (pC scr (n + 5) e) (la11 :: rest) ρ H K :=
  ss_ife (tr_not (we_T (n := n) e7 e8 a1 r1 a2 r2 ok fun H' x => some_i rfl (if_ff rfl (ss_nil (q H' x)))))
theorem l12 {ρ : Env'} (hW : WfP ps) (hl : ps.length ≤ 20) (ha : a < ps.length) (hA : H[l]? = some (.list (ps.map perV))) (hB : H[l']? = some (.list (ps.map perV))) (e2 : ρ[2]?.join = some (.ref l)) (e3 : ρ[3]?.join = some (.ref l')) (e5 : ρ[5]?.join = some (nv a)) (e6 : ρ[6]?.join = some (.int d)) (e7 : ρ[7]?.join = some (.ref ls)) (e8 : ρ[8]?.join = some (.ref lr)) (a1 : H[ls]? = some (.list us)) (r1 : All2 (NrAt b H) ns us) (a2 : H[lr]? = some (.list vs)) (r2 : All2 (NrAt b' H) ns vs) (ok : ∀ r ∈ ns, r.2.length ≤ 42) (q : ∀ H', Ext H H' → WSs (pC scr (n + 5) e) rest ρ H' K) : WSs (pC scr (n + 5) e) (la12 :: rest) ρ H K :=
  ss_ife (tr_or_not (we_same (n := n) hW hl ha hA hB e2 e3 e6 (fun H R h => we_var e5 h) fun H₁ x1 => some_i rfl (if_tt rfl (tr_not (we_T (n := n) e7 e8 (x1 _ _ a1) (r1.imp fun _ _ h => h.ext x1) (x1 _ _ a2) (r2.imp fun _ _ h => h.ext x1) ok fun H₂ x2 => some_i rfl (if_ff rfl (ss_nil (q H₂ (x1.trans x2)))))))))
/-- what was found is changed -/
theorem l134 {ρ : Env'} (e8 : ρ[8]?.join = some (.ref lr)) (x : Ext H₁ H) (hb : H₁.length ≤ lr) (a2 : H[lr]? = some (.list vs)) (r2 : All2 (NrAt H₁.length H) ns vs) (ok : ∀ r ∈ ns, r.2.length ≤ 42) (q : ∀ H', Ext H₁ H' → WSs (pC scr n e) rest ρ H' K) : WSs (pC scr n e) (la13 :: la14 :: rest) ρ H K := by
  have x1 := Ext.app H [Cell.list []]
  have clr : ∀ {H'}, Ext H₁ H' → ∀ {vs}, H'[lr]? = some (.list vs) → WSs (pC scr n e) (la14 :: rest) ρ H' K := fun x' _ a' => ss_expr (we_clr e8 a' (q _ (x'.set hb _)))
  refine ss_ife (tr_cmp (we_var e8 (we_lst0 (some_i (ne_nil (x1 _ _ a2) (rdL_rows (r2.imp fun _ _ h => h.ext x1)) (at_new _ _)) ?_))))
  rw [List.isEmpty_map]
  cases r2 with
  | nil => exact if_ff rfl (ss_nil (clr (x.trans x1) (x1 _ _ a2)))
  | cons r rs =>
    rename_i p v ns vs
    refine if_tt rfl ?_
    refine r.casesOn fun lw hbw ev aw => ?_
    subst ev
    have hne : lw ≠ lr := fun q => by
      rw [q, a2] at aw
      have e := Option.some.inj (congrArg (Option.bind · asList) aw)
      cases hp : p.2 with
      | nil => rw [hp] at e; cases e
      | cons y z => rw [hp] at e; cases (List.cons.inj e).1
    have hz := ok p List.mem_cons_self
    refine ss_expr (we_appk (l := lw) (fun R h => we_idx (we_idx (we_var e8 (we_k (some_i (idx_at (k := 0) (x1 _ _ a2) rfl) (we_k (some_i rfl h))))))) (x1 _ _ aw) (by rw [List.length_map]; (first | lia | omega)) (ss_nil (clr ((x.trans x1).set hbw _) (at_ne (x1 _ _ a2) _ hne))))
theorem l15 (hW : WfP ps) (hl : ps.length ≤ 20) (hm : m = ps.length) (h0 : 0 < m) (hA : H[l]? = some (.list (ps.map perV))) (hB : H[l']? = some (.list (ps.map perV))) (q : ∀ o9 H', Ext H H' → WSs (pC scr (n + 5) e) rest (lwR (some (nv m)) (some (.ref l)) (some (.ref l')) o4 o5 (some (.int d)) o7 o8 o9) H' K) : WSs (pC scr (n + 5) e) (la15 :: rest) (lwR (some (nv m)) (some (.ref l)) (some (.ref l')) o4 o5 (some (.int d)) o7 o8 o9) H K := by
  refine ss_for (wi_of (we_call2 (we_cell (k := 5) rfl fun c => we_k (call_i (w_stream (n := n + 4) (m := 3) (by decide) fun ls H₁ xs _ hxr _ x1 ax => some_i (keys_at ax) ?_)))))
  refine for_as (g := V.int) (LfI (lwR (some (nv m)) (some (.ref l)) (some (.ref l')) o4 o5 (some (.int d)) o7 o8) H₁) (fun c as ρ H' hI => ?_) (fun ρ H' hI => ?_) _ _ _ ⟨o9, rfl, Ext.refl _⟩
  · refine hI.casesOn fun o9 e x => ?_
    subst e
    refine some_i (a := lwR (some (nv m)) (some (.ref l)) (some (.ref l')) o4 o5 (some (.int d)) o7 o8 (some (.int c))) rfl fun N hN => ?_
    refine (mod_nat c h0).elim fun r hr => ?_
    exact ss_ife (tr_not (we_same (n := n) (a := r) hW hl (hm ▸ hr.2) ((x1.trans x) _ _ hA) ((x1.trans x) _ _ hB) rfl rfl rfl (fun H R h => we_bin (we_var rfl (we_var rfl (wb_int ((mod_i (by (first | lia | omega))).trans (congrArg some hr.1)) h)))) fun H₂ x2 => some_i rfl (if_ff rfl (ss_nil (hN _ _ (stands1 ax ((x.trans x2) _ _ ax)) ⟨_, rfl, x.trans x2⟩)))))
  · refine hI.casesOn fun o9 e x => ?_
    subst e
    exact q _ _ (x1.trans x)
theorem l17 (hW : WfP ps) (hl : ps.length ≤ 20) (ha : a < ps.length) (hA : H[l]? = some (.list (ps.map perV))) (hB : H[l']? = some (.list (ps.map perV))) (a1 : H[ls]? = some (.list us)) (r1 : All2 (NrAt b H) (nearL ps d a) us) (q : ∀ H', Ext H H' → K (.ret (.bool true) H')) : WSs (pC scr (n + 5) e) [la17] (lwR o1 (some (.ref l)) (some (.ref l')) (some (nv a)) o5 (some (.int d)) (some (.ref ls)) o8 o9) H K := by
  refine (at_of ha).elim fun p hp => ?_
  refine ss_ret (we_and2 (we_call2 (we_call3 (we_var rfl (we_var rfl (we_var rfl (call_i (w_nearest (n := n) hW hl hp hB fun lr vs H₁ _ ok _ x1 a2 r2 => we_var rfl (call_i (w_lsame (n := n + 3) a2 r2 (x1 _ _ a1) (r1.imp fun _ _ h => h.ext x1) ok fun H₂ x2 => some_i rfl (if_tt rfl ?_)))))))))))
  have x3 := x1.trans x2
  exact we_cmp (we_var rfl (we_var rfl (some_i (eq_people (x3 _ _ hB) (x3 _ _ hA)) (q _ x3))))
theorem w_law : callX ⟨scr, pgks, pfns⟩ (n + 6) i_law [.script] [.tab] (fun v H => v = .bool true ∧ H[0]? = some .tab) X := c_law (by
  rw [law_is]
  have t0 : ([Cell.tab] : Hp)[0]? = some .tab := rfl
  refine l01 (n := n + 4) fun m h0 hm => l2 (n := n + 3) hm fun l H₁ ps hlp hW x1 a1 => ?_
  refine l3 (n := n + 4) hW (by (first | lia | omega)) (x1 _ _ t0) a1 fun l H₂ ps hlp' hW x2 a2 => ?_
  have hlp : ps.length = m := hlp'.trans hlp
  have hl : ps.length ≤ 20 := by (first | lia | omega)
  have x2 := x1.trans x2
  refine l4 hl a2 fun l' H₃ x3 b3 => ?_
  have a3 := x3 _ _ a2
  have x3 := x2.trans x3
  refine l56 (n := n + 4) h0 fun a a' ha ha' => ?_
  rw [← hlp] at ha ha'
  refine (at_of ha).elim fun p hp => l78 (n := n + 4) a3 hp fun d => ?_
  refine l910 (n := n) hW hl ha a3 b3 fun ls us H₄ lr vs H₅ x4 a4 r4 x5 b5 a5 r5 ok => ?_
  refine l11 (n := n) rfl rfl (x5 _ _ a4) (r4.imp fun _ _ h => h.ext x5) a5 r5 ok fun H₆ x6 => ?_
  have x56 := x5.trans x6
  have x46 := x4.trans x56
  refine l12 (n := n) hW hl ha' (x46 _ _ a3) (x46 _ _ b3) rfl rfl rfl rfl rfl rfl (x56 _ _ a4) (r4.imp fun _ _ h => h.ext x56) (x6 _ _ a5) (r5.imp fun _ _ h => h.ext x6) ok fun H₇ x7 => ?_
  have x67 := x6.trans x7
  refine l134 rfl (x5.trans x67) b5 (x67 _ _ a5) (r5.imp fun _ _ h => h.ext x67) ok fun H₈ x8 => ?_
  have x48 := x4.trans x8
  refine l15 (n := n) hW hl hlp.symm h0 (x48 _ _ a3) (x48 _ _ b3) fun o9 H₉ x9 => ?_
  have x49 := x48.trans x9
  exact l17 (n := n) hW hl ha (x49 _ _ a3) (x49 _ _ b3) ((x8.trans x9) _ _ a4) (r4.imp fun _ _ h => h.ext (x8.trans x9)) fun H' x10 => ⟨rfl, ((x3.trans x49).trans x10) _ _ t0⟩)
end
end Mine.L

end
section
set_option autoImplicit false
set_option linter.unusedVariables false
set_option linter.unusedSimpArgs false
set_option maxRecDepth 100000
open PySem PySem.W PyProof.Rows
namespace Mine
theorem goodTrue {c : ClaimW} {cl : Str → Option Addr} {mean : ExcName → Option Value} {args : List WData} {s₁ : Shared} {h' : Heap} {tk : Nat} {cc P : Addr} {ps : Array Value} (hT : s₁.heap.TableAt cc P #[]) (hk : ∀ b o, b ≠ P → s₁.heap.get? b = some o → h'.get? b = some o) (hP : h'.get? P = some (tabObj ps)) (hg : s₁.gens = #[])
    (hn : ∀ cls, c.raises args cls = false) (hp : c.post args (.bool true) args = true) : GoodWG c cl mean args s₁ (.ok (.ret (.bool true))) { s₁ with heap := h', toks := tk } := by
  refine ⟨.inl ⟨_, _, _, rfl, hn, .bool true, hp, fun _ => ⟨.nil, fun _ ha => nomatch ha⟩⟩, ⟨fun b o e => ?_, fun b o e => ?_⟩, rfl, .of_eq hg⟩
  · by_cases hb : b = P
    · subst hb
      have e' := hT.2
      rw [e] at e'; cases e'
      exact .inr (.inl ⟨hT.isCodeTable, rfl, #[], ps, rfl, by rw [Array.empty_append]; exact hP⟩)
    · exact .inl (hk b o hb e)
  · by_cases hb : b = P
    · subst hb; exact ⟨_, hP⟩
    · exact ⟨o, hk b o hb e⟩
end Mine
set_option maxHeartbeats 40000000 in
theorem PySem.Challenge.cw_uf020001_06_holds : PySem.Challenge.rw_uf020001_06.Holds := by
  w_on
  refine holds_law (by decide +kernel) fun said => ?_
  o_head Hook.none
  case hw => w_witness2
  intro w s₀ s₁ mg mb G Y fa o pm cd doc dV kV ho hd hcd hD hmg hg args vals as hpre hlay hrd hwl hlo
  refine Ground.open G ?_
  intro T B D TE TW
  wrow_args hpre hlay hrd hwl hlo
  rename_i ns _ _ _ _ _ _ _ scr vs _ hL _ _ _ hI _ hc _
  refine Mine.law_of (K := Mine.P.pK) (fns := Mine.P.pfns) (nss := Mine.P.pnss) (gks := Mine.P.pgks) (N := 6) (lawIdx := Mine.P.i_law) T ?_ ?_ ?_ ?_ ?_ ?_ hL hI ?_ ?_ ?_ hmg (Mine.L.w_law (n := 0)) ?_
  · decide +kernel
  · decide +kernel
  · decide +kernel
  · decide +kernel
  · rfl
  · decide +kernel
  · omega
  · omega
  · rfl
  · intro c P ps h' tk hT hk hP
    exact Mine.goodTrue hT hk hP hg (fun _ => rfl) (by with_unfolding_all rfl)

end
