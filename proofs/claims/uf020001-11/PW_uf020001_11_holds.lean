import PyProof.Rows.All
import Open.Line
import Open.Boot
import Open.Tree
import PyProof.Claim2
import PyProof.P3Statements
import PyProof.Methods
import PyProof.NoPylong
import PyProof.CodeObjX
import PyProof.Ends
import PyProof.Rows.TupIn
import PyProof.Rows.Own
import PyProof.Rows.PlainObj
import PyProof.Seq
import PyProof.Cells
import PyProof.TupleIter
import PyProof.PlainList
import PyProof.DictRoads
import PyProof.DictKinds
import PyProof.DictIter
import PyProof.DictRoadsH
import PyProof.EqKinds
import PyProof.DictTruth
import PyProof.ListMulRoad
import PyProof.EqAt
import PyProof.DictWalks
import PyProof.RaisesMany
import PyProof.RulesTry
import PyProof.RulesAs
import PyProof.CompFree
import PyProof.SliceSyntax
import PyProof.SliceList
import PyProof.Rows.TupMore
import KE.LcSums
import PyProof.MinMaxWalk
import PyProof.WalkInts
import PyProof.TupleOfSeq
import PyProof.Conv_int_bool
import PyProof.Rows.SortWalk
import PyProof.Rows.CallKwBuiltin
import PyProof.Rows.SetFrom
import PyProof.SetRoads
import PyProof.IsiNone
import PyProof.DictDisplay
import PyProof.ListRange
import PyProof.ListNew
import PyProof.Rows.TupDisplay
import PyProof.ObjNew
import PyProof.InstLoad
import PyProof.AssignAttr
import PyProof.Rows.PlainNoArg
import PyProof.Rows.Catch
import PyProof.ExcClass2
import PyProof.ExcAttrAll.ValueError
import PyProof.Rows.RuleN_isinstance
import PyProof.Rows.PlainStore
import PyProof.Rows.Nodes
import PySem.Challenge.RW_uf020001_11
set_option Elab.async false
set_option compiler.extract_closed false
set_option genSizeOfSpec false
set_option genSizeOf false
set_option genInjectivity false
set_option linter.defProp false
set_option autoImplicit false
set_option linter.unusedVariables false
set_option linter.unusedSimpArgs false
set_option maxRecDepth 100000
set_option tactic.hygienic false
open List(replicate map_map nodup_nil filter_cons all_cons length_nil map_nil all_append nodup_append getElem?_set_ne countP_cons nil_append Pairwise not_mem_nil size_toArray length_take foldl_cons sum_cons append_eq_nil_iff cons_ne_nil length_append any_cons drop_eq_nil_iff getElem?_toArray length_pos_iff map_id length_map getElem?_nil getElem_mem drop_zero any_eq_false getD_eq_getElem?_getD filter_eq_nil_iff contains_cons filter_nil map_eq_nil_iff map_append find?_cons length_drop forIn_cons ext_getElem? contains_iff_mem isEmpty_iff ne_nil_of_mem flatMap_cons foldl_nil getElem?_of_mem mem_map any_eq_true drop_nil flatMap_nil map_set countP range')
open Nat(not_lt lt_trans zero_add le_succ add_comm lt_succ_self le_trans sub_self le_succ_of_le le_add_left le_of_lt_succ min_le_right add_right_comm not_lt_zero lt_succ_of_le pow_le_pow_right le_refl min_eq_left succ_pos add_assoc one_mul zero_mul lt_or_ge mul_comm)
open PySem.Heap(ExtBut SameBut Ns)
open Int(ofNat gcd ofNat_le le_of_lt toNat_natCast ne_of_gt lt_of_le_of_lt not_le natAbs_mul toNat_lt)
open Bool(or_eq_true_iff not_eq_true' beq_comm toNat_le)
open Array(length_toList getElem?_toList)
open Option(isSome_iff_exists or_none isSome)
open Classical(byContradiction propDecidable)
namespace Mine
open PySem PySem.Calls PyProof.Rows PyProof
def eJ:=@Bool.and_eq_true_iff
def dA:=@Option.some.inj
def cf:=@of_decide_eq_true
def tx:=@List.getElem?_append_left
def dZ:=@List.getElem?_eq_some_iff
def qM:=@Bool.or_eq_false_iff
def mQ:=@Heap.get?_push_of_some
def cF:=@List.mem_append
def cI:=@List.mem_singleton
def bU:=@congrArg
def aY:=@wpAny_bind
def bG:=@if_neg
def gq:=@Bool.false_ne_true
def bS:=@wpAny_pure
def g9:=@List.cons.inj
def gr:=@beq_self_eq_true
def fL:=@List.getElem?_eq_getElem
def iz:=@List.mem_of_getElem?
def nB:=@Heap.lt_size
def bX:=@length_append
def qN:=@List.getElem?_append_right
def cg:=@le_refl
def iX:=@Nat.le_of_eq
def kG:=@List.length_set
def sd:=@List.getElem?_set_self
def mR:=@List.lookup_cons
def aR:=@le_trans
def mS:=@Nat.add_le_add_right
def lD:=@Nat.add_le_add_left
def qO:=@Nat.mul_le_mul_left
def gE:=@wpAny_mono
def bL:=@if_pos
def jX:=@size_toArray
def aS:=@length_map
def se:=@wpAny_truthy_bool
def il:=@Heap.get?_push_size
def cO:=@Nat.le_of_lt
def gu:=@Nat.zero_le
def lE:=@Nat.succ_le_succ
def cH:=@List.mem_cons
def nC:=@decide_eq_decide
def pO:=@beq_eq_false_iff_ne
def nD:=@wpAny_loadPart'
def qP:=@List.getElem?_eq_none
def gv:=@decide_eq_false
def c9:=@decide_eq_true
def iY:=@List.length_cons
def bM:=@Nat.lt_of_le_of_lt
def jY:=@or_eq_true_iff
def jj:=@not_eq_true'
def fh:=@Nat.lt_of_lt_of_le
def sf:=@wpAny_items_cons
def pP:=@Nat.le_of_succ_le
def wx:=@Array.getElem?_eq_getElem
def iA:=@List.all_eq_true
def qQ:=@List.getElem?_eq_none_iff
def g5:=@List.getElem?_map
def kH:=@List.length_range
def jk:=@Int.ofNat_lt
def pQ:=@wpAny_newObj_type
def kJ:=@Int.natCast_nonneg
def sg:=@Heap.get?_update_self
def u2:=@Heap.get?_update_other
def fM:=@Nat.le_add_right
def lF:=@List.nodup_cons
def fj:=@mem_map
def jF:=@List.map_cons
def eO:=@Nat.ne_of_lt
def nE:=@any_eq_true
def tA:=@PySem.F.plain_min_loop
def fE:=@Nat.ne_of_gt
def dO:=@List.append_nil
def u3:=@builtinLookup_eq_fast
def mT:=@wpAny_loadPart_at
def tB:=@wpAny_isSubtype_exc
def jl:=@List.mem_range
def cJ:=@List.mem_cons_self
def nF:=@List.append_assoc
def gx:=@map_append
def ma:=@List.length_filter_le
def lG:=@List.mem_filter
def jG:=@Nat.add_le_add
def mU:=@Rat.normalize_eq_mkRat
def tC:=@List.eq_nil_of_length_eq_zero
def iB:=@Bool.not_eq_false'
def mV:=@List.isEmpty_map
end Mine
namespace Mine
open PySem
inductive V where
 |none
 |bool (b:Bool)
 |int (i:Int)
 |str (s:Str)
 |aC (vs:List V)
 |ref (l:Nat)
 |fu
 deriving Inhabited
inductive bt where
 |list (vs:List V)
 |dict (ep:Nat) (es:List (Int×V))
 |c6 (ep:Nat) (es:List ((Int×Bool)×V))
 |exc (k:Nat)
 |obj (t:Nat)
 |ci (fs:List (Option V))
 deriving Inhabited
noncomputable def wy:V->Bool
 |.none=>true
 |_=>false
noncomputable instance:DecidableEq V:=λa b=>propDecidable (a=b)
noncomputable instance:DecidableEq bt:=λa b=>propDecidable (a=b)
abbrev Hp:=List bt
abbrev bB:=List (Option V)
inductive Out where
 |next (ρ:bB) (h:Hp)
 |ret (v:V) (h:Hp)
inductive oE where|add|sub|mul|fdiv|mod|pow
 deriving DecidableEq
inductive nG where|eq|ne|lt|le|gt|ge|jZ|jH
inductive Ty where|int|bool|list
inductive Bi where
 |len|lH (t:Ty)|any|max2|min2|pR|tupleOf|yG|oF|md
inductive Me where
 |append|count|index
set_option genSizeOf true in
set_option genSizeOfSpec true in
inductive dq where
 |J (i:Nat)
 |aC (ts:List dq)
mutual
inductive E where
 |k (v:V)
 |J (i:Nat)
 |gk (j:Nat)
 |bin (op:oE) (a b:E)
 |neg (a:E)
 |not (a:E)
 |and (es:List E)
 |or (es:List E)
 |cmp (op:nG) (a b:E)
 |jm (op qR:nG) (a b c:E)
 |isNone (y:Bool) (a:E)
 |aC (es:List E)
 |bH (es:List E)
 |aP (a i:E)
 |iN (a:E) (lo hi:Option E)
 |call (f:Nat) (es:List E)
 |bi (b:Bi) (es:List E)
 |d8 (m:Me) (a:E) (es:List E)
 |comp (nl:Nat) (elt:E) (t:dq) (it:It) (cs:List E)
 |listOf (e:E)
 |qS
 |oG
 |wz (a b:E)
 |br (c a b:E)
 |attr (a:E) (i:Nat)
 |dJ (f:Nat) (a:E) (es:List E)
 |new (f:Nat)
 |mW (k:Option Nat) (a:E)
inductive It where
 |of (e:E)
 |range (a b:E)
 |nH (e:E)
end
noncomputable abbrev kI(i:Int):E:=.k (.int i)
noncomputable abbrev iI(j:Nat)(i:Int):E:=.aP (.J j) (.k (.int i))
inductive S where
 |expr (e:E)
 |aN (t:dq) (e:E)
 |kK (a i e:E)
 |setAttr (a:E) (i:Nat) (e:E)
 |ret (e:E)
 |br (c:E) (a b:List S)
 |for (t:dq) (it:It) (body:List S)
 |while (c:E) (body:List S)
 |raise (k:Nat) (w:Str)
 |jI (r:Option dq) (e:E) (k i:Nat) (h:E)
abbrev PQ:=V->Hp->Prop
structure Ct where
 call:Nat->List V->Hp->PQ->PQ->Prop
 exc:PQ
structure Fn where
 name:Str
 np:Nat
 nl:Nat
 body:List S
structure CK where
 nI:List (Bool×Str)
 yH:List Str
 sh:List Str
 cls:Str
 ci:List Str
structure Sn where
 sc:Scope
 ns:List Str
 hd:Bool
namespace P
noncomputable def ET:List S:=
 [.aN (.aC [.J 3,.J 4,.J 5,.J 6]) (.aP (.J 0) (.J 1)),
  .ret (.and [(.cmp .le (.J 3) (.J 2)),(.or [(.isNone true (.J 6)),(.cmp .lt (.J 2) (.J 6))])])]
noncomputable def EU:List S:=
 [.aN (.aC [.J 3,.J 4,.J 5,.J 6]) (.aP (.J 0) (.J 1)),
  .br (.and [(.isNone false (.J 5)),(.cmp .le (iI 5 0) (.J 2))])
  [.ret (iI 5 1)]
  [],
  .ret (.J 4)]
noncomputable def EV:List S:=
 [.aN (.J 3) (.bH []),
  .for (.J 4) (.range (kI 0) (.bi .len [.J 0]))
  [.br (.and [(.cmp .le (.aP (.aP (.J 0) (.J 4)) (kI 0)) (.J 2)),(.cmp .jZ (.J 1) (.call 1 [.J 0,.J 4,.J 2]))])
   [.expr (.d8 .append (.J 3) [.J 4])]
   []],
  .ret (.J 3)]
noncomputable def EW:List S:=
 [.br (.call 0 [.J 0,.J 1,.J 2])
  [.ret (.k (.bool true))]
  [],
  .for (.J 3) (.of (.call 2 [.J 0,.J 1,.J 2]))
  [.br (.call 3 [.J 0,.J 3,.J 2])
   [.ret (.k (.bool true))]
   []],
  .ret (.k (.bool false))]
noncomputable def EX:List S:=
 [.aN (.aC [.J 3,.J 4]) (.J 1),
  .aN (.J 5) (.comp 1 (.aC [.J 0,(.k (.bool true))]) (.J 0) (.of (.call 2 [.J 0,.J 3,.J 2])) []),
  .br (.not (.J 4))
  [.aN (.J 5) (.bin .add (.J 5) (.comp 1 (.aC [.J 0,(.k (.bool false))]) (.J 0) (.of (.call 1 [.J 0,.J 3,.J 2])) []))]
  [],
  .ret (.J 5)]
noncomputable def EY:List S:=
 [.aN (.J 4) .oG,
  .for (.J 5) (.of (.J 2))
  [.for (.J 6) (.of (.call 4 [.J 0,.J 5,.J 3]))
   [.aN (.J 7) (.bin .add (.aP (.J 2) (.J 5)) (.bH [(iI 6 0)])),
    .br (.and [(.cmp .jH (.J 6) (.J 1)),(.or [(.cmp .jH (.J 6) (.J 4)),(.cmp .lt (.J 7) (.aP (.J 4) (.J 6)))])])
    [.kK (.J 4) (.J 6) (.J 7)]
    []]],
  .ret (.J 4)]
noncomputable def yI:List S:=
 [.aN (.J 3) (.wz (.aC [.J 1,(.k (.bool false))]) (.bH [.J 1])),
  .aN (.J 4) .oG,
  .aN (.J 5) .qS,
  .while (.and [(.cmp .eq (.J 5) .qS),(.cmp .ne (.J 3) .qS)])
  [.for (.J 6) (.of (.J 3))
   [.kK (.J 4) (.J 6) (.k (.bool true))],
   .aN (.J 3) (.call 5 [.J 0,.J 4,.J 3,.J 2]),
   .for (.J 6) (.of (.J 3))
   [.aN (.J 7) (iI 6 0),
    .br (.and [(.cmp .ne (.J 7) (.J 1)),(.call 0 [.J 0,.J 7,.J 2]),(.or [(.cmp .jH (.J 7) (.J 5)),(.cmp .lt (.aP (.J 3) (.J 6)) (.aP (.J 5) (.J 7)))])])
    [.kK (.J 5) (.J 7) (.aP (.J 3) (.J 6))]
    []]],
  .ret (.comp 1 (.aC [.J 0,(.aP (.J 6) (.J 0))]) (.J 0) (.of (.bi .yG [(.listOf (.J 5))])) [])]
noncomputable def Be:List S:=
 [.aN (.J 2) (.J 0),
  .aN (.J 3) (.J 1),
  .while (.cmp .gt (.J 3) (kI 0))
  [.aN (.J 4) (.bin .mod (.J 2) (.J 3)),
   .aN (.J 2) (.J 3),
   .aN (.J 3) (.J 4)],
  .ret (.aC [(.bin .fdiv (.J 0) (.J 2)),(.bin .fdiv (.J 1) (.J 2))])]
noncomputable def EZ:List S:=
 [.ret (.call 7 [(.bin .add (.bin .mul (iI 0 0) (iI 1 1)) (.bin .mul (iI 1 0) (iI 0 1))),(.bin .mul (iI 0 1) (iI 1 1))])]
noncomputable def E0:List S:=
 [.ret (.call 7 [(.bin .sub (.bin .mul (iI 0 0) (iI 1 1)) (.bin .mul (iI 1 0) (iI 0 1))),(.bin .mul (iI 0 1) (iI 1 1))])]
noncomputable def E3:List S:=
 [.ret (.call 7 [(.bin .mul (iI 0 0) (iI 1 0)),(.bin .mul (iI 0 1) (iI 1 1))])]
noncomputable def E4:List S:=
 [.ret (.call 7 [(iI 0 0),(.bin .mul (iI 0 1) (.J 1))])]
noncomputable def E5:List S:=
 [.aN (.J 4) (.comp 1 (.J 0) (.J 0) (.of (.J 2)) [(.call 3 [.J 1,.J 0,.J 4])]),
  .aN (.J 5) (.bH []),
  .for (.J 6) (.of (.J 4))
  [.aN (.J 7) (.call 11 [(.gk 0),(.bi .len [.J 4])]),
   .br (.call 0 [.J 0,.J 6,.J 3])
   [.expr (.d8 .append (.J 5) [(.aC [.J 6,.J 7,(.bH [.J 1,.J 6])])])]
   [.for (.aC [.J 8,.J 9,.J 10]) (.of (.call 13 [.J 0,.J 6,.J 3]))
    [.expr (.d8 .append (.J 5) [(.aC [.J 8,(.call 10 [.J 7,.J 9]),(.bin .add (.bH [.J 1]) (.J 10))])])]]],
  .ret (.J 5)]
noncomputable def E6:List S:=
 [.ret (.call 12 [.J 0,.J 1,(.call 2 [.J 0,.J 1,.J 2]),.J 2])]
noncomputable def E7:List S:=
 [.ret (.comp 1 (.J 0) (.J 0) (.of (.call 2 [.J 0,.J 1,.J 3])) [(.cmp .ne (.J 0) (.J 3))])]
noncomputable def E8:List S:=
 [.aN (.J 3) (.bH []),
  .for (.J 4) (.of (.call 1 [.J 0,.J 1,.J 2]))
  [.aN (.J 5) (.call 14 [.J 0,.J 4,.J 1,.J 2]),
   .br (.or [(.call 0 [.J 0,.J 4,.J 2]),(.bi .any [(.comp 1 (.call 3 [.J 1,.J 0,.J 3]) (.J 0) (.of (.J 5)) [])])])
   [.expr (.d8 .append (.J 3) [.J 4])]
   []],
  .aN (.J 6) (.bH []),
  .for (.J 4) (.of (.J 3))
  [.aN (.J 7) (.call 11 [(.gk 0),(.bi .len [.J 3])]),
   .br (.call 0 [.J 0,.J 4,.J 2])
   [.expr (.d8 .append (.J 6) [(.aC [.J 4,.J 7,(.bH [.J 1,.J 4])])])]
   [.for (.aC [.J 8,.J 9,.J 10]) (.of (.call 12 [.J 0,.J 4,(.call 14 [.J 0,.J 4,.J 1,.J 2]),.J 2]))
    [.expr (.d8 .append (.J 6) [(.aC [.J 8,(.call 10 [.J 7,.J 9]),(.bin .add (.bH [.J 1]) (.J 10))])])]]],
  .ret (.J 6)]
noncomputable def E9:List S:=
 [.for (.aC [.J 3,.J 4,.J 5]) (.of (iI 0 1))
  [.br (.and [(.cmp .le (.J 5) (.J 2)),(.cmp .eq (.J 3) (.J 1)),(.call 0 [(iI 0 0),.J 4,.J 2])])
   [.ret (.J 4)]
   [],
   .br (.and [(.cmp .le (.J 5) (.J 2)),(.cmp .eq (.J 4) (.J 1)),(.call 0 [(iI 0 0),.J 3,.J 2])])
   [.ret (.J 3)]
   []],
  .ret (.k .none)]
noncomputable def Fa:List S:=
 [.aN (.J 3) (.neg (kI 1)),
  .aN (.J 4) (.aC []),
  .for (.aC [.J 5,.J 6,.J 7]) (.of (iI 0 2))
  [.br (.and [(.cmp .eq (.J 5) (.J 1)),(.jm .le .le (.J 3) (.J 6) (.J 2))])
   [.aN (.J 3) (.J 6),
    .aN (.J 4) (.J 7)]
   []],
  .ret (.J 4)]
noncomputable def Fb:List S:=
 [.aN (.J 4) (.bH []),
  .aN (.J 5) (.gk 1),
  .for (.aC [.J 6,.J 7]) (.of (.J 2))
  [.br (.call 0 [.J 0,.J 6,.J 3])
   [.expr (.d8 .append (.J 4) [(.aC [.J 6,.J 7,(.k (.str "will")),(.bH [.J 1,.J 6])])]),
    .aN (.J 5) (.call 8 [.J 5,.J 7])]
   [.br (.bi .any [(.comp 1 (.call 3 [.J 1,.J 0,.J 4]) (.J 0) (.of (.call 2 [.J 0,.J 6,.J 3])) [])])
    [.for (.aC [.J 8,.J 9,.J 10]) (.of (.call 13 [.J 0,.J 6,.J 3]))
     [.expr (.d8 .append (.J 4) [(.aC [.J 8,(.call 10 [.J 7,.J 9]),(.k (.str "will")),(.bin .add (.bH [.J 1]) (.J 10))])])],
     .aN (.J 5) (.call 8 [.J 5,.J 7])]
    []]],
  .ret (.aC [.J 4,.J 5])]
noncomputable def Fd:List S:=
 [.aN (.J 3) (.call 13 [.J 0,.J 1,.J 2]),
  .br (.cmp .ne (.J 3) (.bH []))
  [.ret (.aC [(.k (.str "line")),.J 3])]
  [],
  .aN (.J 3) (.call 15 [.J 0,.J 1,.J 2]),
  .br (.cmp .ne (.J 3) (.bH []))
  [.ret (.aC [(.k (.str "parents")),.J 3])]
  [],
  .aN (.J 4) (.call 6 [.J 0,.J 1,.J 2]),
  .ret (.aC [(.k (.str "degree")),(.comp 2 (.aC [.J 0,(.call 11 [(.gk 0),(.bi .len [.J 6])]),.J 1]) (.aC [.J 0,.J 1]) (.of (.J 4)) [])])]
noncomputable def Fe:List S:=
 [.br (.cmp .eq (.J 1) (.bH []))
  [.ret (.gk 0)]
  [],
  .br (.cmp .eq (.J 0) (.k (.str "line")))
  [.ret (.call 7 [(kI 1),(kI 4)])]
  [],
  .br (.cmp .eq (.J 0) (.k (.str "parents")))
  [.ret (.call 7 [(kI 1),(kI 2)])]
  [],
  .ret (.call 7 [(kI 3),(kI 4)])]
noncomputable def Bf:List S:=
 [.aN (.J 2) (iI 0 0),
  .aN (.J 3) (.aP (.aP (.J 2) (.J 1)) (kI 3)),
  .br (.isNone true (.J 3))
  [.raise 7 "a person who is not dead"]
  [],
  .aN (.aC [.J 4,.J 5]) (.call 18 [.J 2,.J 1,(.call 17 [.J 0,.J 1,.J 3]),.J 3]),
  .aN (.J 6) (.call 9 [(.gk 0),.J 5]),
  .br (.cmp .eq (.J 6) (.gk 1))
  [.ret (.J 4)]
  [],
  .aN (.aC [.J 7,.J 8]) (.call 19 [.J 2,.J 1,.J 3]),
  .aN (.J 9) (.call 16 [.J 0,.J 1,.J 3]),
  .br (.and [(.isNone true (.J 9)),(.cmp .eq (.J 8) (.bH []))])
  [.ret (.bin .add (.J 4) (.bH [(.aC [(.k .none),.J 6,(.k (.str "town")),(.bH [.J 1])])]))]
  [],
  .br (.isNone false (.J 9))
  [.aN (.J 10) (.call 10 [.J 6,(.call 20 [.J 7,.J 8])]),
   .expr (.d8 .append (.J 4) [(.aC [.J 9,.J 10,(.k (.str "spouse")),(.bH [.J 1,.J 9])])]),
   .aN (.J 6) (.call 9 [.J 6,.J 10])]
  [],
  .for (.aC [.J 11,.J 12,.J 13]) (.of (.J 8))
  [.expr (.d8 .append (.J 4) [(.aC [.J 11,(.call 10 [.J 6,.J 12]),.J 7,.J 13])])],
  .ret (.J 4)]
noncomputable def Ff:List S:=
 [.ret (.and [(.bi (.lH .int) [.J 0]),(.not (.bi (.lH .bool) [.J 0])),(.jm .le .le (.J 1) (.J 0) (.J 2))])]
noncomputable def Fg:List S:=
 [.br (.not (.call 22 [.J 0,(kI 0),(.gk 2)]))
  [.raise 1 "no day"]
  []]
noncomputable def Fh:List S:=
 [.ret (.cmp .ne (.bi .md [.J 0]) (.bi .len [.J 0]))]
noncomputable def Bg:List S:=
 [.ret (.comp 4 (.aC [.J 0,.J 1,.J 2,(.listOf (.J 3))]) (.aC [.J 0,.J 1,.J 2,.J 3]) (.of (.J 0)) [])]
noncomputable def Fi:List S:=
 [.br (.cmp .lt (.J 1) (.bi .len [.J 0]))
  [.ret (.aP (.J 0) (.J 1))]
  [],
  .ret (kI 0)]
noncomputable def Fj:List S:=
 [.ret (.and [(.bi (.lH .int) [.J 0]),(.not (.bi (.lH .bool) [.J 0]))])]
noncomputable def Bh:List S:=
 [.aN (.J 2) (.bH []),
  .aN (.J 3) (.bin .mod (.J 0) (kI 2147483647)),
  .for (.J 4) (.range (kI 0) (.J 1))
  [.aN (.J 3) (.bin .mod (.bin .add (.bin .add (.bin .mul (.J 3) (kI 48271)) (kI 11)) (.J 4)) (kI 2147483647)),
   .expr (.d8 .append (.J 2) [.J 3])],
  .ret (.J 2)]
noncomputable def Bj:List S:=
 [.br (.or [(.cmp .eq (.J 0) (.bH [])),(.and [(.cmp .eq (.J 2) (kI 0)),(.cmp .eq (.bin .mod (.bin .fdiv (.J 1) (kI 7)) (kI 5)) (kI 0))])])
  [.ret (.aC [])]
  [],
  .aN (.J 3) (.aP (.J 0) (.bin .mod (.J 1) (.bi .len [.J 0]))),
  .aN (.J 4) (.aP (.J 0) (.bin .mod (.bin .fdiv (.J 1) (kI 60)) (.bi .len [.J 0]))),
  .br (.or [(.cmp .eq (.J 3) (.J 4)),(.cmp .eq (.bin .mod (.bin .fdiv (.J 1) (kI 3)) (kI 4)) (kI 0))])
  [.ret (.aC [.J 3])]
  [],
  .ret (.aC [.J 3,.J 4])]
noncomputable def Fk:List S:=
 [.aN (.J 2) (.bH []),
  .aN (.J 3) (.aP (.bH [(kI 1),(kI 1),(kI 1),(kI 600)]) (.bin .mod (.J 0) (kI 4))),
  .aN (.J 4) (.bH [(.aC []),(.aC []),(.aC [(kI 1),(kI 0)]),(.aC [(kI 1),(kI 0)]),(.aC [(kI 2)]),(.aC [(kI 3)]),(.aC []),(.aC [(kI 5)]),(.aC [(kI 3)]),(.aC [(kI 1)]),(.aC []),(.aC [(kI 2)])]),
  .for (.aC [.J 5,.J 6]) (.nH (.call 28 [(.bin .fdiv (.J 0) (kI 4)),.J 1]))
  [.aN (.J 7) (.bin .mul (.bin .add (.bin .mul (kI 5) (.bin .fdiv (.J 5) (kI 3))) (.bin .mod (.J 6) (kI 11))) (.J 3)),
   .aN (.J 8) (.comp 1 (.J 0) (.J 0) (.range (kI 0) (.J 5)) [(.cmp .lt (.aP (.aP (.J 3) (.J 0)) (kI 0)) (.J 8))]),
   .aN (.J 9) (.call 29 [(.iN (.J 8) (some (.neg (kI 7))) none),(.bin .fdiv (.J 6) (kI 11)),(kI 0)]),
   .br (.and [(.cmp .gt (.J 5) (kI 0)),(.cmp .eq (.bin .mod (.bin .fdiv (.J 6) (kI 13)) (kI 3)) (kI 0)),(.cmp .eq (.comp 1 (.J 0) (.J 0) (.of (.aP (.aP (.J 2) (.bin .sub (.J 5) (kI 1))) (kI 1))) [(.cmp .jH (.J 0) (.J 9))]) (.bH []))])
   [.aN (.J 9) (.aP (.aP (.J 2) (.bin .sub (.J 5) (kI 1))) (kI 1))]
   [],
   .br (.and [(.cmp .eq (.bin .mod (.bin .fdiv (.J 0) (kI 4)) (kI 3)) (kI 0)),(.cmp .lt (.J 5) (kI 12))])
   [.aN (.J 7) (.bin .mul (.bin .add (.bin .mul (kI 12) (.bin .fdiv (.J 5) (kI 2))) (.bin .mod (.J 6) (kI 11))) (.J 3)),
    .aN (.J 9) (.aP (.J 4) (.J 5))]
   [],
   .aN (.J 10) (.k .none),
   .br (.cmp .gt (.bin .mod (.bin .fdiv (.J 6) (kI 500)) (.aP (.bH [(kI 4),(kI 9)]) (.bin .mod (.bin .fdiv (.J 0) (kI 12)) (kI 2)))) (kI 0))
   [.aN (.J 10) (.bin .add (.J 7) (.bin .mul (.bin .mod (.bin .fdiv (.J 6) (kI 1500)) (kI 40)) (.J 3)))]
   [],
   .expr (.d8 .append (.J 2) [(.aC [.J 7,.J 9,(.k .none),.J 10])])],
  .ret (.J 2)]
noncomputable def Fl:List S:=
 [.aN (.J 2) (.listOf (.J 0)),
  .for (.aC [.J 3,.J 4]) (.nH (.call 28 [.J 1,(.bi .len [.J 0])]))
  [.aN (.aC [.J 5,.J 6,.J 7,.J 8]) (.aP (.J 0) (.J 3)),
   .aN (.J 9) (.comp 1 (.J 0) (.J 0) (.range (kI 0) (.bi .len [.J 0])) [(.cmp .lt (.aP (.aP (.J 1) (.J 0)) (kI 0)) (.J 6))]),
   .aN (.J 10) (.bin .add (.J 5) (.bin .mod (.J 4) (kI 30))),
   .br (.and [(.cmp .eq (.bin .mod (.bin .fdiv (.J 4) (kI 30)) (kI 4)) (kI 0)),(.cmp .ne (.J 9) (.bH [])),(.or [(.isNone true (.J 8)),(.cmp .lt (.J 10) (.J 8))])])
   [.kK (.J 2) (.J 3) (.aC [.J 5,.J 6,(.aC [.J 10,(.call 29 [.J 9,(.bin .fdiv (.J 4) (kI 120)),(kI 1)])]),.J 8])]
   []],
  .ret (.J 2)]
noncomputable def Fm:List S:=
 [.br (.cmp .lt (.J 2) (.aP (.aP (.J 0) (.J 1)) (kI 0)))
  [.ret (.k (.bool false))]
  [],
  .ret (.or [(.isNone true (.aP (.aP (.J 0) (.J 1)) (kI 3))),(.cmp .gt (.aP (.aP (.J 0) (.J 1)) (kI 3)) (.J 2))])]
noncomputable def Bk:List S:=
 [.aN (.J 2) (.comp 1 (.aP (.aP (.J 1) (.J 0)) (kI 3)) (.J 0) (.of (.iN (.J 1) none (some (kI 2)))) [(.isNone false (.aP (.aP (.J 1) (.J 0)) (kI 3)))]),
  .ret (.bi .pR [.J 2,(.bin .pow (kI 10) (kI 9))])]
noncomputable def Fo:List S:=
 [.ret (.and [(.cmp .gt (.call 36 [.J 0,.J 1]) (iI 2 2)),(.cmp .gt (.call 36 [.J 0,.J 2]) (iI 1 2))])]
noncomputable def Fq:List S:=
 [.aN (.J 3) (.bH []),
  .for (.J 4) (.of (.call 28 [.J 1,.J 2]))
  [.aN (.J 5) (.bin .mod (.J 4) (.bi .len [.J 0])),
   .aN (.J 6) (.bin .mod (.bin .fdiv (.J 4) (kI 60)) (.bi .len [.J 0])),
   .aN (.J 7) (.bin .add (.bi .max2 [(.aP (.aP (.J 0) (.J 5)) (kI 0)),(.aP (.aP (.J 0) (.J 6)) (kI 0))]) (.bin .mod (.bin .fdiv (.J 4) (kI 3600)) (kI 40))),
   .aN (.J 8) (.aC [.J 5,.J 6,.J 7]),
   .aN (.J 9) (.and [(.cmp .ne (.J 5) (.J 6)),(.call 32 [.J 0,.J 5,.J 7]),(.call 32 [.J 0,.J 6,.J 7])]),
   .for (.J 10) (.of (.J 3))
   [.br (.or [(.cmp .jZ (.J 5) (.iN (.J 10) none (some (kI 2)))),(.cmp .jZ (.J 6) (.iN (.J 10) none (some (kI 2))))])
    [.aN (.J 9) (.and [.J 9,(.not (.call 37 [.J 0,.J 8,.J 10]))])]
    []],
   .br (.J 9)
   [.expr (.d8 .append (.J 3) [.J 8])]
   []],
  .ret (.J 3)]
noncomputable def Fs:List S:=
 [.aN (.J 3) (.bH []),
  .for (.J 4) (.range (kI 0) (.bin .add (kI 1) (.bin .mod (.J 2) (.aP (.bH [(kI 3),(kI 3),(kI 10)]) (.bin .mod (.bin .fdiv (.J 2) (kI 30)) (kI 3))))))
  [.aN (.J 5) (.bin .mod (.bin .add (.bin .fdiv (.J 2) (kI 90)) (.bin .mul (.J 4) (.bin .add (kI 1) (.bin .mod (.bin .fdiv (.J 2) (kI 540)) (kI 7))))) (.bi .len [.J 0])),
   .br (.and [(.cmp .ne (.J 5) (.J 1)),(.cmp .jH (.J 5) (.J 3))])
   [.expr (.d8 .append (.J 3) [.J 5])]
   []],
  .aN (.J 6) (.bin .add (kI 1) (.bin .mod (.bin .fdiv (.J 2) (kI 3780)) (kI 3))),
  .aN (.J 7) (.aP (.bH [(.bin .mod (.bin .fdiv (.J 2) (kI 11340)) (kI 4)),(.bin .mod (.bin .fdiv (.J 2) (kI 11340)) (kI 900))]) (.bin .mod (.bin .fdiv (.J 2) (kI 7)) (kI 2))),
  .ret (.comp 1 (.aC [.J 0,.J 7,(.bin .add (.bin .mul (.J 7) (.bi .len [.J 4])) (.J 8))]) (.J 0) (.of (.J 3)) [])]
noncomputable def Ft:List S:=
 [.aN (.J 3) (.bH []),
  .for (.J 4) (.of (.call 28 [.J 1,.J 2]))
  [.aN (.J 5) (.bin .mod (.J 4) (.bi .len [.J 0])),
   .aN (.J 6) (.bin .add (.aP (.aP (.J 0) (.J 5)) (kI 0)) (.bin .mod (.bin .fdiv (.J 4) (kI 60)) (kI 30))),
   .aN (.J 7) (.call 39 [.J 0,.J 5,(.bin .fdiv (.J 4) (kI 1800))]),
   .br (.and [(.cmp .ne (.J 7) (.bH [])),(.or [(.isNone true (.aP (.aP (.J 0) (.J 5)) (kI 3))),(.cmp .le (.J 6) (.aP (.aP (.J 0) (.J 5)) (kI 3)))])])
   [.expr (.d8 .append (.J 3) [(.aC [.J 5,.J 6,(.bi .tupleOf [(.comp 3 (.aC [.J 0,(.call 41 [.J 1,.J 2])]) (.aC [.J 0,.J 1,.J 2]) (.of (.J 7)) [])])])])]
   []],
  .ret (.J 3)]
noncomputable def Fu:List S:=
 [.aN (.J 2) (.J 0),
  .aN (.J 3) (.J 1),
  .while (.cmp .gt (.J 3) (kI 0))
  [.aN (.J 4) (.bin .mod (.J 2) (.J 3)),
   .aN (.J 2) (.J 3),
   .aN (.J 3) (.J 4)],
  .ret (.aC [(.bin .fdiv (.J 0) (.J 2)),(.bin .fdiv (.J 1) (.J 2))])]
noncomputable def Fv:List S:=
 [.aN (.J 2) (.bin .add (kI 1) (.bin .mod (.call 26 [.J 0,(kI 0)]) (.J 1))),
  .aN (.J 3) (.call 31 [(.call 30 [(.call 26 [.J 0,(kI 1)]),.J 2]),(.call 26 [.J 0,(kI 2)])]),
  .aN (.J 4) (.call 38 [.J 3,(.call 26 [.J 0,(kI 3)]),(.bin .mod (.bin .fdiv (.call 26 [.J 0,(kI 0)]) (kI 12)) (kI 13))]),
  .ret (.aC [.J 3,.J 4,(.call 40 [.J 3,(.call 26 [.J 0,(kI 4)]),(.bin .mod (.bin .fdiv (.call 26 [.J 0,(kI 0)]) (kI 156)) (kI 9))])])]
noncomputable def Bm:List S:=
 [.aN (.J 1) (.bH [(.mW (some 0) (.J 0)),(.mW (some 1) (.J 0)),(.mW (some 2) (.J 0)),(.mW (some 3) (.J 0))]),
  .aN (.J 1) (.bin .add (.J 1) (.bH [(.mW (some 4) (.J 0)),(.mW (some 5) (.J 0)),(.mW (some 6) (.J 0)),(.mW (some 7) (.J 0))])),
  .br (.or [(.cmp .ne (.d8 .count (.J 1) [(.k (.bool true))]) (kI 1)),(.not (.mW none (.J 0)))])
  [.ret (.k (.str "unlike"))]
  [],
  .ret (.aP (.bH [(.k (.str "person")),(.k (.str "day")),(.k (.str "parents")),(.k (.str "match")),(.k (.str "will")),(.k (.str "again")),(.k (.str "full")),(.k (.str "dead"))]) (.d8 .index (.J 1) [(.k (.bool true))]))]
noncomputable def Fw:List S:=
 [.br (.cmp .eq (iI 1 0) (.k (.str "born")))
  [.ret (.dJ 67 (.J 0) [(iI 1 1),(iI 1 2)])]
  [],
  .br (.cmp .eq (iI 1 0) (.k (.str "adopted")))
  [.ret (.dJ 68 (.J 0) [(iI 1 1),(iI 1 2),(iI 1 3)])]
  [],
  .br (.cmp .eq (iI 1 0) (.k (.str "married")))
  [.ret (.dJ 70 (.J 0) [(iI 1 1),(iI 1 2),(iI 1 3)])]
  [],
  .br (.cmp .eq (iI 1 0) (.k (.str "died")))
  [.ret (.dJ 71 (.J 0) [(iI 1 1),(iI 1 2)])]
  [],
  .ret (.dJ 73 (.J 0) [(iI 1 1),(iI 1 2),(iI 1 3)])]
noncomputable def Fx:List S:=
 [.jI (some (.J 2)) (.call 46 [.J 0,.J 1]) 8 3 (.aC [(.call 45 [.J 3]),(.k .none)]),
  .ret (.aC [(.k (.str "")),.J 2])]
noncomputable def Fy:List S:=
 [.ret (.and [(.call 27 [.J 1]),(.jm .le .lt (kI 0) (.J 1) (.bi .len [.J 0]))])]
noncomputable def Fz:List S:=
 [.br (.cmp .eq (iI 0 0) (.k (.str "married")))
  [.ret (.bH [(iI 0 1),(iI 0 2)])]
  [],
  .br (.cmp .eq (iI 0 0) (.k (.str "died")))
  [.ret (.bH [(iI 0 1)])]
  [],
  .ret (.bin .add (.bH [(iI 0 1)]) (.comp 1 (iI 0 0) (.J 0) (.of (iI 0 3)) []))]
noncomputable def FA:List S:=
 [.br (.cmp .eq (iI 0 0) (.k (.str "married")))
  [.ret (iI 0 3)]
  [],
  .ret (iI 0 2)]
noncomputable def FC:List S:=
 [.aN (.J 3) (.comp 1 (.J 0) (.J 0) (.of (iI 0 2)) [(.and [(.cmp .eq (iI 0 0) (.J 2)),(.cmp .gt (iI 0 1) (.J 3))])]),
  .aN (.J 4) (.comp 1 (.J 0) (.J 0) (.of (iI 0 1)) [(.and [(.cmp .jZ (.J 2) (.iN (.J 0) none (some (kI 2)))),(.cmp .ge (iI 0 2) (.J 3))])]),
  .aN (.J 5) (.aP (.aP (iI 0 0) (.J 1)) (kI 2)),
  .ret (.or [(.cmp .lt (.J 2) (.aP (.aP (iI 0 0) (.J 1)) (kI 0))),(.cmp .ne (.J 3) (.bH [])),(.cmp .ne (.J 4) (.bH [])),(.and [(.isNone false (.J 5)),(.cmp .ge (iI 5 0) (.J 2))])])]
noncomputable def yJ:List S:=
 [.aN (.J 2) (.aC [(kI 0),(kI 1)]),
  .br (.or [(.not (.jm .le .le (kI 1) (.bi .len [.J 1]) (kI 10))),(.cmp .ne (.bi .md [(.bin .add (.comp 1 (iI 0 0) (.J 0) (.of (.J 1)) []) (.bH [.J 0]))]) (.bin .add (.bi .len [.J 1]) (kI 1)))])
  [.ret (.k (.bool true))]
  [],
  .for (.aC [.J 3,.J 4,.J 5]) (.of (.J 1))
  [.br (.or [(.not (.call 27 [.J 4])),(.not (.call 27 [.J 5])),(.not (.jm .le .le (kI 1) (.J 4) (kI 1000))),(.not (.jm .le .le (kI 1) (.J 5) (kI 1000)))])
   [.ret (.k (.bool true))]
   [],
   .aN (.J 2) (.call 41 [(.bin .add (.bin .mul (iI 2 0) (.J 5)) (.bin .mul (.J 4) (iI 2 1))),(.bin .mul (iI 2 1) (.J 5))])],
  .ret (.cmp .gt (iI 2 0) (iI 2 1))]
noncomputable def Bo:List S:=
 [.br (.or [(.cmp .eq (.J 1) (.J 2)),(.not (.call 32 [(iI 0 0),.J 1,.J 3])),(.not (.call 32 [(iI 0 0),.J 2,.J 3]))])
  [.ret (.k (.str "match"))]
  [],
  .for (.J 4) (.of (iI 0 1))
  [.br (.or [(.cmp .jZ (.J 1) (.iN (.J 4) none (some (kI 2)))),(.cmp .jZ (.J 2) (.iN (.J 4) none (some (kI 2))))])
   [.br (.call 37 [(iI 0 0),(.aC [.J 1,.J 2,.J 3]),.J 4])
    [.ret (.k (.str "again"))]
    []]
   []],
  .ret (.k (.str ""))]
noncomputable def u4:List S:=
 [.aN (.J 2) (iI 0 0),
  .aN (.J 3) (.call 50 [.J 1]),
  .br (.cmp .ne (.comp 1 (.J 0) (.J 0) (.of (.call 49 [.J 1])) [(.not (.call 48 [.J 3,.J 0]))]) (.bH []))
  [.ret (.k (.str "person"))]
  [],
  .br (.or [(.not (.call 27 [.J 3])),(.not (.jm .le .le (kI 0) (.J 3) (kI 100000)))])
  [.ret (.k (.str "day"))]
  [],
  .br (.cmp .eq (iI 1 0) (.k (.str "married")))
  [.ret (.call 53 [.J 0,(iI 1 1),(iI 1 2),.J 3])]
  [],
  .aN (.J 4) (.aP (.aP (.J 2) (iI 1 1)) (kI 3)),
  .br (.and [(.cmp .eq (iI 1 0) (.k (.str "died"))),(.isNone false (.J 4))])
  [.ret (.k (.str "again"))]
  [],
  .br (.cmp .eq (iI 1 0) (.k (.str "died")))
  [.ret (.aP (.bH [(.k (.str "")),(.k (.str "day"))]) (.bi .oF [(.call 51 [.J 0,(iI 1 1),.J 3])]))]
  [],
  .br (.or [(.cmp .lt (.J 3) (.aP (.aP (.J 2) (iI 1 1)) (kI 0))),(.and [(.isNone false (.J 4)),(.cmp .gt (.J 3) (.J 4))])])
  [.ret (.k (.str "day"))]
  [],
  .ret (.aP (.bH [(.k (.str "")),(.k (.str "will"))]) (.bi .oF [(.call 52 [(iI 1 1),(iI 1 3)])]))]
noncomputable def Bp:List S:=
 [.aN (.J 2) (.listOf (iI 0 0)),
  .aN (.J 3) (.listOf (iI 0 1)),
  .aN (.J 4) (.listOf (iI 0 2)),
  .br (.cmp .eq (iI 1 0) (.k (.str "born")))
  [.expr (.d8 .append (.J 2) [(.aC [(iI 1 1),(.bi .tupleOf [(iI 1 2)]),(.k .none),(.k .none)])])]
  [.br (.cmp .eq (iI 1 0) (.k (.str "married")))
   [.expr (.d8 .append (.J 3) [(.aC [(iI 1 1),(iI 1 2),(iI 1 3)])])]
   [.br (.cmp .eq (iI 1 0) (.k (.str "will")))
    [.aN (.J 5) (.comp 3 (.aC [.J 0,(.call 41 [.J 1,.J 2])]) (.aC [.J 0,.J 1,.J 2]) (.of (iI 1 3)) []),
     .expr (.d8 .append (.J 4) [(.aC [(iI 1 1),(iI 1 2),(.bi .tupleOf [.J 5])])])]
    [.aN (.aC [.J 6,.J 7,.J 8,.J 9]) (.aP (.J 2) (iI 1 1)),
     .br (.cmp .eq (iI 1 0) (.k (.str "died")))
     [.aN (.J 9) (iI 1 2)]
     [.aN (.J 8) (.aC [(iI 1 2),(.bi .tupleOf [(iI 1 3)])])],
     .kK (.J 2) (iI 1 1) (.aC [.J 6,.J 7,.J 8,.J 9])]]],
  .ret (.aC [.J 2,.J 3,.J 4])]
noncomputable def tD:List S:=
 [.aN (.J 1) (iI 0 0),
  .aN (.J 2) (.comp 1 (.aC [(.k (.str "born")),(iI 0 0),(.listOf (iI 0 1))]) (.J 0) (.of (.J 1)) []),
  .aN (.J 2) (.bin .add (.J 2) (.comp 1 (.aC [(.k (.str "died")),.J 0,(.aP (.aP (.J 2) (.J 0)) (kI 3))]) (.J 0) (.range (kI 0) (.bi .len [.J 1])) [(.isNone false (.aP (.aP (.J 2) (.J 0)) (kI 3)))])),
  .for (.J 3) (.range (kI 0) (.bi .len [.J 1]))
  [.br (.isNone false (.aP (.aP (.J 1) (.J 3)) (kI 2)))
   [.expr (.d8 .append (.J 2) [(.aC [(.k (.str "adopted")),.J 3,(.aP (.aP (.aP (.J 1) (.J 3)) (kI 2)) (kI 0)),(.listOf (.aP (.aP (.aP (.J 1) (.J 3)) (kI 2)) (kI 1)))])])]
   []],
  .aN (.J 2) (.bin .add (.J 2) (.comp 3 (.aC [(.k (.str "married")),.J 0,.J 1,.J 2]) (.aC [.J 0,.J 1,.J 2]) (.of (iI 0 1)) [])),
  .for (.aC [.J 4,.J 5,.J 6]) (.of (iI 0 2))
  [.expr (.d8 .append (.J 2) [(.aC [(.k (.str "will")),.J 4,.J 5,(.comp 2 (.aC [.J 0,(iI 1 0),(iI 1 1)]) (.aC [.J 0,.J 1]) (.of (.J 6)) [])])])],
  .ret (.J 2)]
noncomputable def FD:List S:=
 [.br (.cmp .gt (.bin .mod (.J 0) (kI 6)) (kI 0))
  [.ret (.J 1)]
  [],
  .ret (.aP (.J 2) (.bin .mod (.bin .fdiv (.J 0) (kI 6)) (.bi .len [.J 2])))]
noncomputable def wA:List S:=
 [.br (.cmp .eq (.bin .mod (.J 0) (kI 7)) (kI 0))
  [.ret (.bin .add (.J 1) (.iN (.J 1) none (some (kI 1))))]
  [],
  .br (.cmp .eq (.bin .mod (.J 0) (kI 7)) (kI 1))
  [.ret (.comp 3 (.aC [.J 0,.J 1,(.aP (.bH [(kI 0),(kI 1001),(.k (.bool true)),(.k .none),(kI 1)]) (.bin .mod (.bin .fdiv (.J 3) (kI 7)) (kI 5)))]) (.aC [.J 0,.J 1,.J 2]) (.of (.J 1)) [])]
  [],
  .br (.cmp .eq (.bin .mod (.J 0) (kI 7)) (kI 2))
  [.ret (.comp 3 (.aC [.J 0,(.aP (.bH [(kI 0),(kI 1001),(.k (.bool true)),(.k (.str "1")),(kI 1000)]) (.bin .mod (.bin .fdiv (.J 3) (kI 7)) (kI 5))),.J 2]) (.aC [.J 0,.J 1,.J 2]) (.of (.J 1)) [])]
  [],
  .br (.or [(.cmp .eq (.bin .mod (.J 0) (kI 7)) (kI 3)),(.cmp .gt (.J 2) (kI 20))])
  [.ret (.comp 1 (.aC [(.bin .mod (.bin .mul (.J 0) (kI 7)) (.J 3)),(kI 1),(kI 20)]) (.J 0) (.range (kI 1) (.bin .add (kI 10) (.bin .mod (.bin .fdiv (.J 0) (kI 7)) (kI 3)))) [])]
  [],
  .br (.and [(.cmp .eq (.bin .mod (.J 0) (kI 7)) (kI 6)),(.cmp .ne (.J 1) (.bH []))])
  [.ret (.bin .add (.bH [(.aC [(.aP (iI 1 0) (kI 0)),(.bi .min2 [(kI 1000),(.bin .add (.aP (iI 1 0) (kI 1)) (kI 1))]),(.aP (iI 1 0) (kI 2))])]) (.iN (.J 1) (some (kI 1)) none))]
  [],
  .br (.cmp .eq (.bin .mod (.J 0) (kI 7)) (kI 5))
  [.ret (.bin .add (.J 1) (.bH [(.aC [(.aP (.bH [.J 2,(.neg (kI 1)),(.k .none),(.k (.bool true))]) (.bin .mod (.bin .fdiv (.J 0) (kI 7)) (kI 4))),(kI 1),(kI 999)])]))]
  [],
  .ret (.aP (.bH [.J 1,(.bH [])]) (.bi .oF [(.cmp .eq (.bin .mod (.J 0) (kI 7)) (kI 4))]))]
noncomputable def Bq:List S:=
 [.aN (.J 1) (.bin .add (.comp 1 (iI 0 0) (.J 0) (.of (iI 0 0)) []) (.comp 1 (iI 0 3) (.J 0) (.of (iI 0 0)) [(.isNone false (iI 0 3))])),
  .ret (.bin .add (.bin .add (.J 1) (.comp 1 (iI 0 2) (.J 0) (.of (iI 0 1)) [])) (.comp 1 (iI 0 1) (.J 0) (.of (iI 0 2)) []))]
noncomputable def lI:List S:=
 [.aN (.J 2) (iI 0 0),
  .aN (.J 3) (.call 28 [.J 1,(kI 7)]),
  .aN (.J 4) (.bin .mod (iI 3 0) (.bi .len [.J 2])),
  .aN (.J 5) (.bin .mod (iI 3 1) (.bi .len [.J 2])),
  .aN (.J 6) (.call 59 [.J 0]),
  .aN (.J 7) (.bin .sub (.bin .add (.aP (.J 6) (.bin .mod (iI 3 2) (.bi .len [.J 6]))) (.bin .mod (iI 3 3) (kI 3))) (kI 1)),
  .br (.cmp .eq (.bin .mod (.bin .fdiv (iI 3 3) (kI 3)) (kI 3)) (kI 0))
  [.aN (.J 7) (.bin .add (.aP (.aP (.J 2) (.J 4)) (kI 0)) (.bin .mod (iI 3 4) (kI 40)))]
  [],
  .br (.and [(.cmp .eq (.bin .mod (.bin .fdiv (iI 3 3) (kI 9)) (kI 4)) (kI 0)),(.cmp .ne (iI 0 2) (.bH []))])
  [.aN (.J 4) (.aP (.aP (iI 0 2) (.bin .mod (iI 3 5) (.bi .len [(iI 0 2)]))) (kI 0)),
   .aN (.J 7) (.bin .sub (.bin .add (.aP (.aP (iI 0 2) (.bin .mod (iI 3 5) (.bi .len [(iI 0 2)]))) (kI 1)) (.bin .mod (iI 3 3) (kI 3))) (kI 1))]
  [],
  .aN (.J 8) (.call 39 [.J 2,.J 4,(iI 3 5)]),
  .aN (.J 9) (.bH [(.neg (kI 1)),(.bi .len [.J 2]),(.k (.bool true)),(.k (.bool false)),(.k .none),(.k (.str "0"))]),
  .br (.cmp .eq (.bin .mod (.J 1) (kI 2)) (kI 1))
  [.aN (.J 4) (.call 57 [(iI 3 6),.J 4,.J 9]),
   .aN (.J 5) (.call 57 [(.bin .fdiv (iI 3 6) (kI 36)),.J 5,.J 9]),
   .aN (.J 7) (.call 57 [(.bin .fdiv (iI 3 6) (kI 1296)),.J 7,(.bH [(.neg (kI 1)),(kI 100001),(.k (.bool true)),(.k .none),(.k (.str "5")),(.bin .pow (kI 10) (kI 20)),(kI 100000),(kI 0)])]),
   .aN (.J 8) (.call 58 [(.bin .fdiv (iI 3 4) (kI 40)),.J 8,(.bi .len [.J 2])])]
  [],
  .br (.and [(.cmp .eq (.bin .mod (.bin .fdiv (.J 1) (kI 2)) (kI 3)) (kI 0)),(.cmp .eq (.bin .mod (.bin .fdiv (iI 3 4) (kI 7)) (kI 2)) (kI 0)),(.cmp .ne (iI 0 1) (.bH []))])
  [.aN (.aC [.J 10,.J 4,.J 11]) (.aP (iI 0 1) (.bin .mod (.bin .fdiv (iI 3 4) (kI 14)) (.bi .len [(iI 0 1)]))),
   .aN (.J 7) (.bin .sub (.bin .add (.or [(.aP (.aP (.J 2) (.J 10)) (kI 3)),.J 11]) (.bin .mod (.bin .fdiv (iI 3 4) (kI 400)) (kI 3))) (kI 1))]
  [],
  .br (.cmp .eq (.bin .mod (.bin .fdiv (.J 1) (kI 2)) (kI 3)) (kI 0))
  [.ret (.aC [(.k (.str "married")),.J 4,.J 5,.J 7])]
  [],
  .br (.cmp .eq (.bin .mod (.bin .fdiv (.J 1) (kI 2)) (kI 3)) (kI 1))
  [.ret (.aC [(.k (.str "died")),.J 4,.J 7])]
  [],
  .ret (.aC [(.k (.str "will")),.J 4,.J 7,.J 8])]
noncomputable def Br:List S:=
 [.jI none (.aP (.bH [(.k (.str "")),(.k (.str "rows"))]) (.bi .oF [(.cmp .ne (.dJ 77 (.J 0) [.J 1]) (.bH []))])) 8 2 (.call 45 [.J 2])]
noncomputable def Bs:List S:=
 [.aN (.J 1) (.call 43 [.J 0,(kI 8)]),
  .br (.cmp .eq (.bin .mod (.bin .fdiv (.call 26 [.J 0,(kI 0)]) (kI 7)) (kI 4)) (kI 3))
  [.aN (.J 1) (.aC [(.comp 1 (.aC [.J 0,(.aC []),(.k .none),(.k .none)]) (.J 0) (.range (kI 0) (kI 60)) []),(.bH []),(.bH [])])]
  [],
  .aN (.J 2) (.new 63),
  .for (.J 3) (.of (.call 56 [.J 1]))
  [.br (.cmp .ne (.aP (.call 47 [.J 2,.J 3]) (kI 0)) (.k (.str "")))
   [.ret (.k (.bool false))]
   []],
  .for (.aC [.J 4,.J 5]) (.nH (.call 28 [(.call 26 [.J 0,(kI 11)]),(kI 10)]))
  [.aN (.J 3) (.call 60 [.J 1,(.bin .add (.call 26 [.J 0,(.bin .add (kI 5) (.bin .mod (.J 4) (kI 5)))]) (.J 5))]),
   .aN (.J 6) (.comp 1 (.br (.bi (.lH .list) [.J 0]) (.listOf (.J 0)) (.J 0)) (.J 0) (.of (.J 3)) []),
   .aN (.J 7) (.call 54 [.J 1,.J 3]),
   .aN (.aC [.J 8,.J 9]) (.call 47 [.J 2,.J 3]),
   .br (.or [(.cmp .ne (.J 8) (.J 7)),(.isNone false (.J 9)),(.cmp .ne (.listOf (.J 3)) (.J 6))])
   [.ret (.k (.bool false))]
   [],
   .br (.cmp .eq (.J 7) (.k (.str "")))
   [.aN (.J 1) (.call 55 [.J 1,.J 3])]
   [],
   .br (.cmp .ne (.dJ 75 (.J 2) []) (.J 1))
   [.ret (.k (.bool false))]
   []],
  .aN (.J 10) (.call 26 [.J 0,(kI 10)]),
  .aN (.J 11) (.bi .len [(iI 1 0)]),
  .aN (.J 12) (.bin .mod (.bin .fdiv (.J 10) (kI 7)) (kI 100000)),
  .br (.cmp .lt (.J 11) (kI 60))
  [.aN (.J 13) (.aC [(.k (.str "died")),.J 11,(.bin .add (.J 12) (kI 1))]),
   .br (.or [(.cmp .ne (.aP (.call 47 [.J 2,.J 13]) (kI 0)) (.k (.str "person"))),(.cmp .ne (.dJ 67 (.J 2) [.J 12,(.bH [])]) (.J 11)),(.cmp .ne (.aP (.call 47 [.J 2,.J 13]) (kI 0)) (.k (.str "")))])
   [.ret (.k (.bool false))]
   [],
   .aN (.J 1) (.call 55 [(.call 55 [.J 1,(.aC [(.k (.str "born")),.J 12,(.bH [])])]),(.aC [(.k (.str "died")),.J 11,(.bin .add (.J 12) (kI 1))])]),
   .br (.cmp .ne (.dJ 75 (.J 2) []) (.J 1))
   [.ret (.k (.bool false))]
   []]
  [],
  .aN (.J 14) (.call 57 [.J 10,(.bin .mod (.bin .fdiv (.J 10) (kI 36)) (.bi .len [(iI 1 0)])),(.bH [(.neg (kI 1)),(.bi .len [(iI 1 0)]),(.k (.bool true)),(.k (.bool false)),(.k .none),(.k (.str "0"))])]),
  .br (.not (.call 48 [(iI 1 0),.J 14]))
  [.ret (.cmp .eq (.call 61 [.J 2,.J 14]) (.k (.str "person")))]
  [],
  .ret (.cmp .eq (.call 61 [.J 2,.J 14]) (.aP (.bH [(.k (.str "rows")),(.k (.str "dead"))]) (.bi .oF [(.isNone true (.aP (.aP (iI 1 0) (.J 14)) (kI 3)))])))]
noncomputable def Bt:List S:=
 [.setAttr (.J 0) 0 (.bH []),
  .setAttr (.J 0) 1 (.bH []),
  .setAttr (.J 0) 2 (.bH []),
  .setAttr (.J 0) 3 .qS,
  .setAttr (.J 0) 4 (.bH [])]
noncomputable def FE:List S:=
 [.br (.not (.call 22 [.J 1,(kI 0),(.bin .sub (.bi .len [(.attr (.J 0) 0)]) (kI 1))]))
  [.raise 0 "no person"]
  []]
noncomputable def FF:List S:=
 [.kK (.attr (.J 0) 0) (.J 1) (.J 2)]
noncomputable def FG:List S:=
 [.setAttr (.J 0) 4 (.bH []),
  .aN (.J 1) .qS,
  .for (.J 2) (.of (.dJ 76 (.J 0) []))
  [.aN (.J 3) (.call 21 [(.aC [(.attr (.J 0) 0),(.attr (.J 0) 1),(.attr (.J 0) 2)]),.J 2]),
   .br (.or [(.cmp .jH (.J 2) (.attr (.J 0) 3)),(.cmp .ne (.aP (.attr (.J 0) 3) (.J 2)) (.J 3))])
   [.expr (.d8 .append (.attr (.J 0) 4) [.J 2])]
   [],
   .kK (.J 1) (.J 2) (.J 3)],
  .setAttr (.J 0) 3 (.J 1)]
noncomputable def yK:List S:=
 [.for (.J 3) (.of (.J 2))
  [.expr (.dJ 64 (.J 0) [.J 3])],
  .expr (.call 23 [.J 1]),
  .br (.or [(.cmp .gt (.bi .len [.J 2]) (kI 2)),(.call 24 [.J 2])])
  [.raise 2 "more than two, or like ones"]
  [],
  .for (.J 3) (.of (.J 2))
  [.br (.cmp .ge (.aP (.aP (.attr (.J 0) 0) (.J 3)) (kI 0)) (.J 1))
   [.raise 2 "one was born on that day or later"]
   []],
  .br (.cmp .ge (.bi .len [(.attr (.J 0) 0)]) (.gk 3))
  [.raise 6 "no more persons"]
  [],
  .expr (.d8 .append (.attr (.J 0) 0) [(.aC [.J 1,(.bi .tupleOf [.J 2]),(.k .none),(.k .none)])]),
  .expr (.dJ 66 (.J 0) []),
  .ret (.bin .sub (.bi .len [(.attr (.J 0) 0)]) (kI 1))]
noncomputable def u5:List S:=
 [.expr (.dJ 64 (.J 0) [.J 1]),
  .for (.J 4) (.of (.J 3))
  [.expr (.dJ 64 (.J 0) [.J 4])],
  .expr (.call 23 [.J 2]),
  .aN (.aC [.J 5,.J 6,.J 7,.J 8]) (.aP (.attr (.J 0) 0) (.J 1)),
  .br (.or [(.cmp .lt (.J 2) (.J 5)),(.and [(.isNone false (.J 8)),(.cmp .ge (.J 2) (.J 8))])])
  [.raise 1 "the child does not live then"]
  [],
  .br (.or [(.not (.jm .le .le (kI 1) (.bi .len [.J 3]) (kI 2))),(.call 24 [.J 3])])
  [.raise 2 "none, more than two, or like ones"]
  [],
  .for (.J 4) (.of (.J 3))
  [.br (.cmp .ge (.aP (.aP (.attr (.J 0) 0) (.J 4)) (kI 0)) (.J 5))
   [.raise 2 "one was born not earlier than the child"]
   []],
  .br (.isNone false (.J 7))
  [.raise 5 "adopted already"]
  [],
  .expr (.dJ 65 (.J 0) [.J 1,(.aC [.J 5,.J 6,(.aC [.J 2,(.bi .tupleOf [.J 3])]),.J 8])]),
  .expr (.dJ 66 (.J 0) [])]
noncomputable def Bu:List S:=
 [.aN (.J 3) (.comp 1 (.aP (.aP (.attr (.J 1) 0) (.J 0)) (kI 3)) (.J 0) (.of (.aC [.J 1,.J 2])) [(.isNone false (.aP (.aP (.attr (.J 1) 0) (.J 0)) (kI 3)))]),
  .ret (.bi .pR [.J 3,(.bin .add (.gk 2) (kI 1))])]
noncomputable def si:List S:=
 [.expr (.dJ 64 (.J 0) [.J 1]),
  .expr (.dJ 64 (.J 0) [.J 2]),
  .expr (.call 23 [.J 3]),
  .br (.or [(.cmp .eq (.J 1) (.J 2)),(.not (.call 0 [(.attr (.J 0) 0),.J 1,.J 3])),(.not (.call 0 [(.attr (.J 0) 0),.J 2,.J 3]))])
  [.raise 3 "one person, or one who does not live then"]
  [],
  .for (.aC [.J 4,.J 5,.J 6]) (.of (.attr (.J 0) 1))
  [.br (.or [(.cmp .jZ (.J 4) (.aC [.J 1,.J 2])),(.cmp .jZ (.J 5) (.aC [.J 1,.J 2]))])
   [.br (.and [(.cmp .gt (.dJ 69 (.J 0) [.J 4,.J 5]) (.J 3)),(.cmp .gt (.dJ 69 (.J 0) [.J 1,.J 2]) (.J 6))])
    [.raise 5 "another marriage meets it"]
    []]
   []],
  .expr (.d8 .append (.attr (.J 0) 1) [(.aC [.J 1,.J 2,.J 3])]),
  .expr (.dJ 66 (.J 0) [])]
noncomputable def qT:List S:=
 [.expr (.dJ 64 (.J 0) [.J 1]),
  .expr (.call 23 [.J 2]),
  .aN (.aC [.J 3,.J 4,.J 5,.J 6]) (.aP (.attr (.J 0) 0) (.J 1)),
  .br (.isNone false (.J 6))
  [.raise 5 "dead already"]
  [],
  .br (.or [(.cmp .lt (.J 2) (.J 3)),(.and [(.isNone false (.J 5)),(.cmp .le (.J 2) (iI 5 0))])])
  [.raise 1 "earlier than the birth, or not later than the adoption"]
  [],
  .for (.aC [.J 7,.J 8,.J 9]) (.of (.attr (.J 0) 2))
  [.br (.and [(.cmp .eq (.J 7) (.J 1)),(.cmp .lt (.J 2) (.J 8))])
   [.raise 1 "earlier than a will"]
   []],
  .for (.aC [.J 7,.J 10,.J 11]) (.of (.attr (.J 0) 1))
  [.br (.and [(.cmp .jZ (.J 1) (.aC [.J 7,.J 10])),(.cmp .le (.J 2) (.J 11))])
   [.raise 1 "not later than a marriage"]
   []],
  .expr (.dJ 65 (.J 0) [.J 1,(.aC [.J 3,.J 4,.J 5,.J 2])]),
  .expr (.dJ 66 (.J 0) [])]
noncomputable def yL:List S:=
 [.br (.not (.jm .le .le (kI 1) (.bi .len [.J 2]) (.gk 4)))
  [.raise 4 "no gifts, or too many"]
  [],
  .aN (.J 3) (.comp 1 (iI 0 0) (.J 0) (.of (.J 2)) []),
  .br (.or [(.call 24 [.J 3]),(.cmp .jZ (.J 1) (.J 3))])
  [.raise 4 "one named twice, or the one whose will it is"]
  [],
  .aN (.J 4) (.bH []),
  .aN (.J 5) (.gk 1),
  .for (.aC [.J 6,.J 7,.J 8]) (.of (.J 2))
  [.br (.or [(.not (.call 22 [.J 7,(kI 1),(.gk 5)])),(.not (.call 22 [.J 8,(kI 1),(.gk 5)]))])
   [.raise 4 "no numbers of a part"]
   [],
   .expr (.d8 .append (.J 4) [(.aC [.J 6,(.call 7 [.J 7,.J 8])])]),
   .aN (.J 5) (.call 8 [.J 5,(.call 7 [.J 7,.J 8])])],
  .br (.cmp .gt (iI 5 0) (iI 5 1))
  [.raise 4 "more than the whole"]
  [],
  .ret (.bi .tupleOf [.J 4])]
noncomputable def u6:List S:=
 [.expr (.dJ 64 (.J 0) [.J 1]),
  .for (.J 4) (.of (.J 3))
  [.expr (.dJ 64 (.J 0) [(iI 4 0)])],
  .expr (.call 23 [.J 2]),
  .aN (.aC [.J 5,.J 6,.J 7,.J 8]) (.aP (.attr (.J 0) 0) (.J 1)),
  .br (.or [(.cmp .lt (.J 2) (.J 5)),(.and [(.isNone false (.J 8)),(.cmp .gt (.J 2) (.J 8))])])
  [.raise 1 "earlier than the birth, or later than the death"]
  [],
  .expr (.d8 .append (.attr (.J 0) 2) [(.aC [.J 1,.J 2,(.dJ 72 (.J 0) [.J 1,.J 3])])]),
  .expr (.dJ 66 (.J 0) [])]
noncomputable def FH:List S:=
 [.ret (.aC [(.listOf (.attr (.J 0) 0)),(.listOf (.attr (.J 0) 1)),(.listOf (.attr (.J 0) 2))])]
noncomputable def FI:List S:=
 [.ret (.comp 1 (.J 0) (.J 0) (.range (kI 0) (.bi .len [(.attr (.J 0) 0)])) [(.isNone false (.aP (.aP (.attr (.J 1) 0) (.J 0)) (kI 3)))])]
noncomputable def FJ:List S:=
 [.expr (.dJ 64 (.J 0) [.J 1]),
  .br (.cmp .jH (.J 1) (.attr (.J 0) 3))
  [.raise 7 "a person who is not dead"]
  [],
  .ret (.call 25 [(.aP (.attr (.J 0) 3) (.J 1))])]
end P
open P
noncomputable def yM:List Fn:=[
 ⟨"lives",3,4,ET⟩,
 ⟨"parents_on",3,4,EU⟩,
 ⟨"children_on",3,2,EV⟩,
 ⟨"has_line",3,1,EW⟩,
 ⟨"steps_from",3,3,EX⟩,
 ⟨"further",4,4,EY⟩,
 ⟨"nearest",3,5,yI⟩,
 ⟨"part",2,3,Be⟩,
 ⟨"added",2,0,EZ⟩,
 ⟨"less",2,0,E0⟩,
 ⟨"times",2,0,E3⟩,
 ⟨"shared",2,0,E4⟩,
 ⟨"lines_to",4,7,E5⟩,
 ⟨"by_lines",3,0,E6⟩,
 ⟨"others_of",4,0,E7⟩,
 ⟨"by_parents",3,8,E8⟩,
 ⟨"spouse_on",3,3,E9⟩,
 ⟨"will_on",3,5,Fa⟩,
 ⟨"given",4,7,Fb⟩,
 ⟨"kin_of",3,2,Fd⟩,
 ⟨"spouse_part",2,0,Fe⟩,
 ⟨"dealt",2,12,Bf⟩,
 ⟨"is_whole",3,0,Ff⟩,
 ⟨"need_day",1,0,Fg⟩,
 ⟨"are_alike",1,0,Fh⟩,
 ⟨"copied",1,0,Bg⟩,
 ⟨"_law_cell_at",2,0,Fi⟩,
 ⟨"_law_whole",1,0,Fj⟩,
 ⟨"_law_stream",2,3,Bh⟩,
 ⟨"_law_some",3,2,Bj⟩,
 ⟨"_law_people",2,9,Fk⟩,
 ⟨"_law_adopting",2,9,Fl⟩,
 ⟨"_law_lives",3,0,Fm⟩,
 ⟨"_law_parents",999,0,[]⟩,
 ⟨"_law_children",999,0,[]⟩,
 ⟨"_law_lined",999,0,[]⟩,
 ⟨"_law_ends",2,1,Bk⟩,
 ⟨"_law_meets",3,0,Fo⟩,
 ⟨"_law_weddings",3,8,Fq⟩,
 ⟨"_law_gifts",3,5,Fs⟩,
 ⟨"_law_wills",3,5,Ft⟩,
 ⟨"_law_lowest",2,3,Fu⟩,
 ⟨"_law_is_part",999,0,[]⟩,
 ⟨"_law_roll",2,3,Fv⟩,
 ⟨"_law_dead",999,0,[]⟩,
 ⟨"_law_class",1,1,Bm⟩,
 ⟨"_law_called",2,0,Fw⟩,
 ⟨"_law_tell",2,2,Fx⟩,
 ⟨"_law_is_one",2,0,Fy⟩,
 ⟨"_law_all_named",1,0,Fz⟩,
 ⟨"_law_day_of",1,0,FA⟩,
 ⟨"_law_late",3,3,FC⟩,
 ⟨"_law_bad_gifts",2,4,yJ⟩,
 ⟨"_law_wed_due",4,1,Bo⟩,
 ⟨"_law_due",2,3,u4⟩,
 ⟨"_law_done",2,8,Bp⟩,
 ⟨"_law_deeds",1,6,tD⟩,
 ⟨"_law_odd",3,0,FD⟩,
 ⟨"_law_odd_gifts",3,0,wA⟩,
 ⟨"_law_days",1,1,Bq⟩,
 ⟨"_law_deed_by",2,10,lI⟩,
 ⟨"_law_deal_told",2,1,Br⟩,
 ⟨"law",1,14,Bs⟩,
 ⟨"__init__",1,0,Bt⟩,
 ⟨"need_person",2,0,FE⟩,
 ⟨"put",3,0,FF⟩,
 ⟨"told",1,3,FG⟩,
 ⟨"born",3,1,yK⟩,
 ⟨"adopted",4,5,u5⟩,
 ⟨"end_of",3,1,Bu⟩,
 ⟨"married",4,3,si⟩,
 ⟨"died",3,9,qT⟩,
 ⟨"need_gifts",3,6,yL⟩,
 ⟨"will",4,5,u6⟩,
 ⟨"anew",999,0,[]⟩,
 ⟨"roll",1,0,FH⟩,
 ⟨"dead",1,0,FI⟩,
 ⟨"deal",2,0,FJ⟩]
noncomputable def Bv:List (List Str):=["people","person","day","born","parents","adopted","died"]::["people","person","day","born","parents","adopted","died"]::["people","person","day","found","child"]::["people","person","day","child"]::["people","state","day","person","down","found"]::["people","known","ways","day","found","state","other","way"]::["people","person","day","ways","known","heirs","state","heir"]::["over","under","one","other","rest"]::["one","other"]::["one","other"]::["one","other"]::["one","many"]::["people","person","children","day","takers","rows","child","share","heir","piece","line"]::["people","person","day"]::["people","parent","person","day"]::["people","person","day","takers","parent","others","rows","share","heir","piece","line"]::["roll","person","day","one","other","begun"]::["roll","person","day","latest","found","one","told","gifts"]::["people","person","gifts","day","rows","total","named","piece","heir","share","line"]::["people","person","day","rows","near"]::["how","kin"]::["roll","person","people","day","rows","total","rest","how","kin","spouse","piece","heir","share","line"]::["thing","low","high"]::["day"]::["persons"]::["rows"]::["_law_script","_law_k"]::["_law_found"]::["_law_cell","_law_many","_law_found","_law_number","_law_k"]::["_law_elders","_law_y","_law_fewest","_law_one","_law_other"]::["_law_cell","_law_many","_law_people_here","_law_scale","_law_house","_law_k","_law_x","_law_born","_law_elders","_law_parents_here","_law_died"]::["_law_people_here","_law_cell","_law_found","_law_k","_law_x","_law_born","_law_parents_here","_law_adopted","_law_died","_law_elders","_law_day"]::["_law_people_here","_law_person","_law_day"]::[]::[]::[]::["_law_people_here","_law_marriage","_law_ends_here"]::["_law_people_here","_law_one","_law_other"]::["_law_people_here","_law_cell","_law_many","_law_found","_law_x","_law_one","_law_other","_law_day","_law_new","_law_fits","_law_marriage"]::["_law_people_here","_law_person","_law_x","_law_named","_law_k","_law_one","_law_over","_law_more"]::["_law_people_here","_law_cell","_law_many","_law_found","_law_x","_law_person","_law_day","_law_gifts_here"]::["_law_over","_law_under","_law_a","_law_b","_law_c"]::[]::["_law_script","_law_most","_law_many","_law_people_here","_law_weddings_here"]::[]::["_law_e","_law_told"]::["_law_book","_law_deed"]::["_law_book","_law_deed","_law_found","_law_e"]::["_law_people_here","_law_one"]::["_law_deed"]::["_law_deed"]::["_law_roll_here","_law_person","_law_day","_law_late_here","_law_met","_law_adopted"]::["_law_person","_law_gifts_here","_law_total","_law_named","_law_over","_law_under"]::["_law_roll_here","_law_one","_law_other","_law_day","_law_marriage"]::["_law_roll_here","_law_deed","_law_people_here","_law_day","_law_died"]::["_law_roll_here","_law_deed","_law_people_here","_law_weddings_here","_law_wills_here","_law_gifts_here","_law_born","_law_parents_here","_law_adopted","_law_died"]::["_law_roll_here","_law_people_here","_law_deeds_here","_law_k","_law_one","_law_day","_law_gifts_here"]::["_law_x","_law_good","_law_odd_here"]::["_law_x","_law_gifts_here","_law_many"]::["_law_roll_here","_law_days_here"]::["_law_roll_here","_law_cell","_law_people_here","_law_xs","_law_one","_law_other","_law_days_here","_law_day","_law_gifts_here","_law_strange","_law_mate","_law_begun"]::["_law_book","_law_one","_law_e"]::["_law_script","_law_roll_here","_law_book","_law_deed","_law_k","_law_x","_law_handed","_law_due_here","_law_told","_law_found","_law_cell","_law_fresh","_law_day","_law_late_here","_law_one"]::["self"]::["self","person"]::["self","person","row"]::["self","deals","person","rows"]::["self","day","parents","parent"]::["self","child","day","parents","parent","born","first","own","died"]::["self","one","other","ends"]::["self","one","other","day","first","second","begun"]::["self","person","day","born","parents","own","dead","one","told","gifts","other","begun"]::["self","person","gifts","named","found","total","one","over","under"]::["self","person","day","gifts","gift","born","parents","own","died"]::[]::["self"]::["self"]::["self","person"]::[]
noncomputable def LP:List (Bool×Str):=[(false,Str.ofString "lives"),(false,Str.ofString "parents_on"),(false,Str.ofString "children_on"),(false,Str.ofString "has_line"),(false,Str.ofString "steps_from"),(false,Str.ofString "further"),(false,Str.ofString "nearest"),(false,Str.ofString "part"),(false,Str.ofString "added"),(false,Str.ofString "less"),(false,Str.ofString "times"),(false,Str.ofString "shared"),(false,Str.ofString "lines_to"),(false,Str.ofString "by_lines"),(false,Str.ofString "others_of"),(false,Str.ofString "by_parents"),(false,Str.ofString "spouse_on"),(false,Str.ofString "will_on"),(false,Str.ofString "given"),(false,Str.ofString "kin_of"),(false,Str.ofString "spouse_part"),(false,Str.ofString "dealt"),(false,Str.ofString "is_whole"),(false,Str.ofString "need_day"),(false,Str.ofString "are_alike"),(false,Str.ofString "copied"),(false,Str.ofString "_law_cell_at"),(false,Str.ofString "_law_whole"),(false,Str.ofString "_law_stream"),(false,Str.ofString "_law_some"),(false,Str.ofString "_law_people"),(false,Str.ofString "_law_adopting"),(false,Str.ofString "_law_lives"),(false,Str.ofString "_law_parents"),(false,Str.ofString "_law_children"),(false,Str.ofString "_law_lined"),(false,Str.ofString "_law_ends"),(false,Str.ofString "_law_meets"),(false,Str.ofString "_law_weddings"),(false,Str.ofString "_law_gifts"),(false,Str.ofString "_law_wills"),(false,Str.ofString "_law_lowest"),(false,Str.ofString "_law_is_part"),(false,Str.ofString "_law_roll"),(false,Str.ofString "_law_dead"),(false,Str.ofString "_law_class"),(false,Str.ofString "_law_called"),(false,Str.ofString "_law_tell"),(false,Str.ofString "_law_is_one"),(false,Str.ofString "_law_all_named"),(false,Str.ofString "_law_day_of"),(false,Str.ofString "_law_late"),(false,Str.ofString "_law_bad_gifts"),(false,Str.ofString "_law_wed_due"),(false,Str.ofString "_law_due"),(false,Str.ofString "_law_done"),(false,Str.ofString "_law_deeds"),(false,Str.ofString "_law_odd"),(false,Str.ofString "_law_odd_gifts"),(false,Str.ofString "_law_days"),(false,Str.ofString "_law_deed_by"),(false,Str.ofString "_law_deal_told"),(false,Str.ofString "law"),(true,Str.ofString "__init__"),(true,Str.ofString "need_person"),(true,Str.ofString "put"),(true,Str.ofString "told"),(true,Str.ofString "born"),(true,Str.ofString "adopted"),(true,Str.ofString "end_of"),(true,Str.ofString "married"),(true,Str.ofString "died"),(true,Str.ofString "need_gifts"),(true,Str.ofString "will"),(true,Str.ofString "anew"),(true,Str.ofString "roll"),(true,Str.ofString "dead"),(true,Str.ofString "deal")]
noncomputable def gK:CK:=⟨LP,["WHOLE","NOTHING","MOST_DAY","MOST_PEOPLE","MOST_GIFTS","MOST_NUMBER"],["NoPerson","NoDay","NoParents","NoMatch","NoWill","Again","Full","NotDead","EstateError"],"Book",["people","marriages","wills","deals","fresh"]⟩
noncomputable def wB:List V:=[(.aC [(.int 1),(.int 1)]),(.aC [(.int 0),(.int 1)]),(.int 100000),(.int 60),(.int 10),(.int 1000)]
noncomputable def hJ(j k:Nat):Bool:=j==k||k==8
noncomputable def u7:List Nat:=[45]
noncomputable def intOf:V->Option Int
 |.int i=>some i
 |_=>none
noncomputable def LQ:Option NameKind->Bool
 |some .local=>true
 |some .cell=>true
 |some .free=>true
 |_=>false
noncomputable def u9:Option NameKind->Bool
 |some .local=>true
 |some .cell=>true
 |_=>false
noncomputable def nJ(ns:List Str)(i:Nat)(x:Str):Bool:=decide (ns.idxOf x=i)&&decide (i<ns.length)
noncomputable def oH(σ:Sn)(x:Str):Bool:=decide (σ.sc.names.lookup x=some .globalImplicit)&&!(x==("__debug__":Str))
noncomputable def Bw:V->Option Const
 |.none=>some .none
 |.bool b=>some (.bool b)
 |.int i=>some (.int i)
 |.str s=>some (.str s)
 |_=>none
noncomputable def sj:oE->Operator
 |.add=>.Add
 |.sub=>.Sub
 |.mul=>.Mult
 |.fdiv=>.FloorDiv
 |.mod=>.Mod
 |.pow=>.Pow
noncomputable def tE:nG->CmpOp
 |.eq=>.Eq
 |.ne=>.NotEq
 |.lt=>.Lt
 |.le=>.LtE
 |.gt=>.Gt
 |.ge=>.GtE
 |.jZ=>.In
 |.jH=>.NotIn
noncomputable def kL:Ty->String
 |.int=>"int"
 |.bool=>"bool"
 |.list=>"list"
noncomputable def wC:Bi->Option (Str×Nat)
 |.len=>some ("len",1)
 |.any=>some ("any",1)
 |.max2=>some ("max",2)
 |.min2=>some ("min",2)
 |.tupleOf=>some ("tuple",1)
 |.yG=>some ("sorted",1)
 |.oF=>some ("int",1)
 |_=>none
noncomputable def vb:Me->Str×Nat
 |.append=>("append",1)
 |.count=>("count",1)
 |.index=>("index",1)
noncomputable def wD(x:Expr):Bool:=decide (x.ctorIdx=23)
noncomputable def wF(x:Expr):Bool:=decide (x.ctorIdx=25)
theorem got{c:Prop}[i:Decidable c]{t:c->Bool}(h:(if hc:c then t hc else false)=true):c:=
 match i,h with
 |.isTrue hc,_=>hc
theorem aV{a b:Bool}{G:Prop}(h:(a&&b)=true)(k:a=true->b=true->G):G:=k (eJ.mp h).1 (eJ.mp h).2
noncomputable def qU(x:Expr)(f:Const->Bool):Bool:=if h:x.ctorIdx=19 then Expr.Constant.elim (motive_1:=λZ=>Bool) x h (λc Z Z=>f c) else false
theorem qU.k{G:Expr->Prop}{x:Expr}{f:Const->Bool}(h:qU x f=true)(k:∀a0 a1 a2,f a0=true->G (.Constant a0 a1 a2)):G x:=
 Expr.Constant.elim (motive_1:=λx=>qU x f=true->G x) x (got h) k h
noncomputable def gc(x:Expr)(f:Str->Bool):Bool:=if h:x.ctorIdx=23 then Expr.Name.elim (motive_1:=λZ=>Bool) x h (λy Z=>f y) else false
theorem gc.k{G:Expr->Prop}{x:Expr}{f:Str->Bool}(h:gc x f=true)(k:∀a0 a1,f a0=true->G (.Name a0 a1)):G x:=
 Expr.Name.elim (motive_1:=λx=>gc x f=true->G x) x (got h) k h
noncomputable def wG(x:Expr)(f:Expr->Operator->Expr->Bool):Bool:=if h:x.ctorIdx=2 then Expr.BinOp.elim (motive_1:=λZ=>Bool) x h (λl o r Z=>f l o r) else false
theorem wG.k{G:Expr->Prop}{x:Expr}{f:Expr->Operator->Expr->Bool}(h:wG x f=true)(k:∀a0 a1 a2 a3,f a0 a1 a2=true->G (.BinOp a0 a1 a2 a3)):G x:=
 Expr.BinOp.elim (motive_1:=λx=>wG x f=true->G x) x (got h) k h
noncomputable def tF(x:Expr)(f:UnaryOp->Expr->Bool):Bool:=if h:x.ctorIdx=3 then Expr.UnaryOp.elim (motive_1:=λZ=>Bool) x h (λo y Z=>f o y) else false
theorem tF.k{G:Expr->Prop}{x:Expr}{f:UnaryOp->Expr->Bool}(h:tF x f=true)(k:∀a0 a1 a2,f a0 a1=true->G (.UnaryOp a0 a1 a2)):G x:=
 Expr.UnaryOp.elim (motive_1:=λx=>tF x f=true->G x) x (got h) k h
noncomputable def tG(x:Expr)(f:BoolOp->List Expr->Bool):Bool:=if h:x.ctorIdx=0 then Expr.BoolOp.elim (motive_1:=λZ=>Bool) x h (λo ys Z=>f o ys) else false
theorem tG.k{G:Expr->Prop}{x:Expr}{f:BoolOp->List Expr->Bool}(h:tG x f=true)(k:∀a0 a1 a2,f a0 a1=true->G (.BoolOp a0 a1 a2)):G x:=
 Expr.BoolOp.elim (motive_1:=λx=>tG x f=true->G x) x (got h) k h
noncomputable def qV(x:Expr)(f:Expr->List CmpOp->List Expr->Bool):Bool:=if h:x.ctorIdx=15 then Expr.Compare.elim (motive_1:=λZ=>Bool) x h (λl os rs Z=>f l os rs) else false
theorem qV.k{G:Expr->Prop}{x:Expr}{f:Expr->List CmpOp->List Expr->Bool}(h:qV x f=true)(k:∀a0 a1 a2 a3,f a0 a1 a2=true->G (.Compare a0 a1 a2 a3)):G x:=
 Expr.Compare.elim (motive_1:=λx=>qV x f=true->G x) x (got h) k h
noncomputable def oI(x:Expr)(f:List Expr->Bool):Bool:=if h:x.ctorIdx=25 then Expr.Tuple.elim (motive_1:=λZ=>Bool) x h (λys Z Z=>f ys) else false
theorem oI.k{G:Expr->Prop}{x:Expr}{f:List Expr->Bool}(h:oI x f=true)(k:∀a0 a1 a2,f a0=true->G (.Tuple a0 a1 a2)):G x:=
 Expr.Tuple.elim (motive_1:=λx=>oI x f=true->G x) x (got h) k h
noncomputable def wH(x:Expr)(f:List Expr->Bool):Bool:=if h:x.ctorIdx=24 then Expr.List.elim (motive_1:=λZ=>Bool) x h (λys Z=>f ys) else false
theorem wH.k{G:Expr->Prop}{x:Expr}{f:List Expr->Bool}(h:wH x f=true)(k:∀a0 a1,f a0=true->G (.List a0 a1)):G x:=
 Expr.List.elim (motive_1:=λx=>wH x f=true->G x) x (got h) k h
noncomputable def qW(x:Expr)(f:Expr->Expr->Bool):Bool:=if h:x.ctorIdx=21 then Expr.Subscript.elim (motive_1:=λZ=>Bool) x h (λy z Z=>f y z) else false
theorem qW.k{G:Expr->Prop}{x:Expr}{f:Expr->Expr->Bool}(h:qW x f=true)(k:∀a0 a1 a2,f a0 a1=true->G (.Subscript a0 a1 a2)):G x:=
 Expr.Subscript.elim (motive_1:=λx=>qW x f=true->G x) x (got h) k h
noncomputable def wI(x:Expr)(f:Option Expr->Option Expr->Option Expr->Bool):Bool:=if h:x.ctorIdx=26 then Expr.Slice.elim (motive_1:=λZ=>Bool) x h (λl u t Z=>f l u t) else false
theorem wI.k{G:Expr->Prop}{x:Expr}{f:Option Expr->Option Expr->Option Expr->Bool}(h:wI x f=true)(k:∀a0 a1 a2 a3,f a0 a1 a2=true->G (.Slice a0 a1 a2 a3)):G x:=
 Expr.Slice.elim (motive_1:=λx=>wI x f=true->G x) x (got h) k h
noncomputable def gR(x:Expr)(f:Expr->List Expr->List Keyword->Pos->Bool):Bool:=if h:x.ctorIdx=16 then Expr.Call.elim (motive_1:=λZ=>Bool) x h (λg ys ks p=>f g ys ks p) else false
theorem gR.k{G:Expr->Prop}{x:Expr}{f:Expr->List Expr->List Keyword->Pos->Bool}(h:gR x f=true)(k:∀a0 a1 a2 a3,f a0 a1 a2 a3=true->G (.Call a0 a1 a2 a3)):G x:=
 Expr.Call.elim (motive_1:=λx=>gR x f=true->G x) x (got h) k h
noncomputable def tH(x:Expr):Bool:=decide (x.ctorIdx≠16)
noncomputable def oJ(x:Expr)(f:Expr->Str->Pos->Bool):Bool:=if h:x.ctorIdx=20 then Expr.Attribute.elim (motive_1:=λZ=>Bool) x h (λo y p=>f o y p) else false
theorem oJ.k{G:Expr->Prop}{x:Expr}{f:Expr->Str->Pos->Bool}(h:oJ x f=true)(k:∀a0 a1 a2,f a0 a1 a2=true->G (.Attribute a0 a1 a2)):G x:=
 Expr.Attribute.elim (motive_1:=λx=>oJ x f=true->G x) x (got h) k h
noncomputable def vc(x:Expr)(f:Expr->List Comprehension->Scope->Bool):Bool:=if h:x.ctorIdx=8 then Expr.ListComp.elim (motive_1:=λZ=>Bool) x h (λe gs c Z=>f e gs c) else false
theorem vc.k{G:Expr->Prop}{x:Expr}{f:Expr->List Comprehension->Scope->Bool}(h:vc x f=true)(k:∀a0 a1 a2 a3,f a0 a1 a2=true->G (.ListComp a0 a1 a2 a3)):G x:=
 Expr.ListComp.elim (motive_1:=λx=>vc x f=true->G x) x (got h) k h
noncomputable def wJ(x:Expr)(f:Expr->Expr->Expr->Bool):Bool:=if h:x.ctorIdx=5 then Expr.IfExp.elim (motive_1:=λZ=>Bool) x h (λc a b Z=>f c a b) else false
theorem wJ.k{G:Expr->Prop}{x:Expr}{f:Expr->Expr->Expr->Bool}(h:wJ x f=true)(k:∀a0 a1 a2 a3,f a0 a1 a2=true->G (.IfExp a0 a1 a2 a3)):G x:=
 Expr.IfExp.elim (motive_1:=λx=>wJ x f=true->G x) x (got h) k h
noncomputable def wK(x:Stmt)(f:Option Expr->Option Expr->Bool):Bool:=if h:x.ctorIdx=16 then Stmt.Raise.elim (motive_2:=λZ=>Bool) x h (λe c Z=>f e c) else false
theorem wK.k{G:Stmt->Prop}{x:Stmt}{f:Option Expr->Option Expr->Bool}(h:wK x f=true)(k:∀a0 a1 a2,f a0 a1=true->G (.Raise a0 a1 a2)):G x:=
 Stmt.Raise.elim (motive_2:=λx=>wK x f=true->G x) x (got h) k h
noncomputable def wL(x:Stmt)(f:List Stmt->List ExceptHandler->List Stmt->List Stmt->Bool):Bool:=if h:x.ctorIdx=17 then Stmt.Try.elim (motive_2:=λZ=>Bool) x h (λa b c d Z=>f a b c d) else false
theorem wL.k{G:Stmt->Prop}{x:Stmt}{f:List Stmt->List ExceptHandler->List Stmt->List Stmt->Bool}(h:wL x f=true)(k:∀a0 a1 a2 a3 a4,f a0 a1 a2 a3=true->G (.Try a0 a1 a2 a3 a4)):G x:=
 Stmt.Try.elim (motive_2:=λx=>wL x f=true->G x) x (got h) k h
noncomputable def wM(x:Stmt)(f:Expr->Bool):Bool:=if h:x.ctorIdx=24 then Stmt.Expr.elim (motive_2:=λZ=>Bool) x h (λe Z=>f e) else false
theorem wM.k{G:Stmt->Prop}{x:Stmt}{f:Expr->Bool}(h:wM x f=true)(k:∀a0 a1,f a0=true->G (.Expr a0 a1)):G x:=
 Stmt.Expr.elim (motive_2:=λx=>wM x f=true->G x) x (got h) k h
noncomputable def oK(x:Stmt)(f:List Expr->Expr->Bool):Bool:=if h:x.ctorIdx=5 then Stmt.Assign.elim (motive_2:=λZ=>Bool) x h (λts e Z=>f ts e) else false
theorem oK.k{G:Stmt->Prop}{x:Stmt}{f:List Expr->Expr->Bool}(h:oK x f=true)(k:∀a0 a1 a2,f a0 a1=true->G (.Assign a0 a1 a2)):G x:=
 Stmt.Assign.elim (motive_2:=λx=>oK x f=true->G x) x (got h) k h
noncomputable def qX(x:Stmt)(f:Option Expr->Bool):Bool:=if h:x.ctorIdx=3 then Stmt.Return.elim (motive_2:=λZ=>Bool) x h (λe Z=>f e) else false
theorem qX.k{G:Stmt->Prop}{x:Stmt}{f:Option Expr->Bool}(h:qX x f=true)(k:∀a0 a1,f a0=true->G (.Return a0 a1)):G x:=
 Stmt.Return.elim (motive_2:=λx=>qX x f=true->G x) x (got h) k h
noncomputable def wN(x:Stmt)(f:Expr->List Stmt->List Stmt->Bool):Bool:=if h:x.ctorIdx=12 then Stmt.If.elim (motive_2:=λZ=>Bool) x h (λt a b Z=>f t a b) else false
theorem wN.k{G:Stmt->Prop}{x:Stmt}{f:Expr->List Stmt->List Stmt->Bool}(h:wN x f=true)(k:∀a0 a1 a2 a3,f a0 a1 a2=true->G (.If a0 a1 a2 a3)):G x:=
 Stmt.If.elim (motive_2:=λx=>wN x f=true->G x) x (got h) k h
noncomputable def wO(x:Stmt)(f:Expr->Expr->List Stmt->List Stmt->Bool):Bool:=if h:x.ctorIdx=9 then Stmt.For.elim (motive_2:=λZ=>Bool) x h (λt i a b Z=>f t i a b) else false
theorem wO.k{G:Stmt->Prop}{x:Stmt}{f:Expr->Expr->List Stmt->List Stmt->Bool}(h:wO x f=true)(k:∀a0 a1 a2 a3 a4,f a0 a1 a2 a3=true->G (.For a0 a1 a2 a3 a4)):G x:=
 Stmt.For.elim (motive_2:=λx=>wO x f=true->G x) x (got h) k h
noncomputable def wQ(x:Stmt)(f:Expr->List Stmt->List Stmt->Bool):Bool:=if h:x.ctorIdx=11 then Stmt.While.elim (motive_2:=λZ=>Bool) x h (λt a b Z=>f t a b) else false
theorem wQ.k{G:Stmt->Prop}{x:Stmt}{f:Expr->List Stmt->List Stmt->Bool}(h:wQ x f=true)(k:∀a0 a1 a2 a3,f a0 a1 a2=true->G (.While a0 a1 a2 a3)):G x:=
 Stmt.While.elim (motive_2:=λx=>wQ x f=true->G x) x (got h) k h
noncomputable def qY(x:Expr)(f:List (Option Expr)->List Expr->Bool):Bool:=if h:x.ctorIdx=6 then Expr.Dict.elim (motive_1:=λZ=>Bool) x h (λa b Z=>f a b) else false
theorem qY.k{G:Expr->Prop}{x:Expr}{f:List (Option Expr)->List Expr->Bool}(h:qY x f=true)(k:∀a0 a1 a2,f a0 a1=true->G (.Dict a0 a1 a2)):G x:=
 Expr.Dict.elim (motive_1:=λx=>qY x f=true->G x) x (got h) k h
noncomputable def if1{α:Type}(l:List α)(f:α->Bool):Bool:=match l with
 |[a]=>f a
 |_=>false
noncomputable def if2{α:Type}(l:List α)(f:α->α->Bool):Bool:=match l with
 |[a,b]=>f a b
 |_=>false
noncomputable def pS{α:Type}(l:List α)(f:α->List α->Bool):Bool:=match l with
 |a::r=>f a r
 |_=>false
noncomputable def gS{α:Type}(l:Option α)(f:α->Bool):Bool:=match l with
 |some a=>f a
 |_=>false
theorem if1.k{α:Type}{G:List α->Prop}{l:List α}{f:α->Bool}(h:if1 l f=true)(k:∀a,f a=true->G [a]):G l:=by
 rcases l with _|⟨a,_|⟨b,l⟩⟩
 ·exact Bool.noConfusion h
 ·exact k a h
 ·exact Bool.noConfusion h
theorem if2.k{α:Type}{G:List α->Prop}{l:List α}{f:α->α->Bool}(h:if2 l f=true)(k:∀a b,f a b=true->G [a,b]):G l:=by
 rcases l with _|⟨a,_|⟨b,_|⟨c,l⟩⟩⟩
 ·exact Bool.noConfusion h
 ·exact Bool.noConfusion h
 ·exact k a b h
 ·exact Bool.noConfusion h
theorem pS.k{α:Type}{G:List α->Prop}{l:List α}{f:α->List α->Bool}(h:pS l f=true)(k:∀a r,f a r=true->G (a::r)):G l:=by
 cases l
 ·exact Bool.noConfusion h
 ·exact k _ _ h
theorem gS.k{α:Type}{G:Option α->Prop}{l:Option α}{f:α->Bool}(h:gS l f=true)(k:∀a,f a=true->G (some a)):G l:=by
 cases l
 ·exact Bool.noConfusion h
 ·exact k _ h
theorem fU{α:Type}{G:List α->Prop}{l:List α}(h:l.isEmpty=true)(k:G []):G l:=by cases l;exact k;cases h
theorem wR{α:Type}{G:Option α->Prop}{l:Option α}(h:l.isNone=true)(k:G none):G l:=by cases l;exact k;cases h
noncomputable def wU(a:E):Bool:=if h:a.ctorIdx=0 then E.k.elim (motive_1:=λZ=>Bool) a h (λv=>decide (intOf v=some 0)) else false
theorem bV{P:Prop}{α:Type}{x:Option α}{y:α}(h:x=none)(h':x=some y):P:=by rw[h] at h';cases h'
theorem intOf.k{v:V}{i:Int}(h:intOf v=some i)(P:V->Prop)(k:P (.int i)):P v:=
 V.casesOn (motive_1:=λv=>intOf v=some i->P v) v (λh=>bV rfl h) (λZ h=>bV rfl h) (λZ h=>dA h▸k) (λZ h=>bV rfl h) (λZ h=>bV rfl h) (λZ h=>bV rfl h) (λh=>bV rfl h) h
theorem wU.k{a:E}{G:E->Prop}(h:wU a=true)(k:G (kI 0)):G a:=
 E.k.elim (motive_1:=λa=>wU a=true->G a) a (got h) (λv h=>intOf.k (cf h) (λv=>G (.k v)) k) h
noncomputable def wV(g:Comprehension)(f:Expr->Expr->List Expr->Bool):Bool:=decide (g.is_async=0)&&f g.target g.iter g.ifs
theorem wV.k{G:Comprehension->Prop}{g:Comprehension}{f:Expr->Expr->List Expr->Bool}(h:wV g f=true)(k:∀tg it ifs,f tg it ifs=true->G ⟨tg,it,ifs,0⟩):G g:=by
 obtain⟨tg,it,ifs,a⟩:=g
 refine aV h λh1 h2=>?_
 obtain rfl:a=0:=cf h1
 exact k tg it ifs h2
noncomputable def wW(g:Keyword)(f:Str->Expr->Bool):Bool:=gS g.arg λy=>f y g.value
theorem wW.k{G:Keyword->Prop}{g:Keyword}{f:Str->Expr->Bool}(h:wW g f=true)(k:∀y v p,f y v=true->G ⟨some y,v,p⟩):G g:=by
 obtain⟨n,v,p⟩:=g
 exact gS.k (G:=λn=>G ⟨n,v,p⟩) h λy h=>k y v p h
mutual
noncomputable def j0(σ:Sn):dq->Expr->Bool
 |.J i,e=>gc e λx=>nJ σ.ns i x&&u9 (σ.sc.names.lookup x)
 |.aC ts,e=>oI e λes=>!σ.hd&&wX σ ts es
noncomputable def wX(σ:Sn):List dq->List Expr->Bool
 |[],es=>es.isEmpty
 |t::ts,es=>pS es λe es=>j0 σ t e&&wX σ ts es
end
noncomputable def LR(x:Expr):List Str:=if h:x.ctorIdx=23 then Expr.Name.elim (motive_1:=λZ=>List Str) x h (λy Z=>[y]) else[]
noncomputable def LS(x:Expr):List Expr:=if h:x.ctorIdx=25 then Expr.Tuple.elim (motive_1:=λZ=>List Expr) x h (λy Z Z=>y) else[]
mutual
noncomputable def iO:dq->Expr->List Str
 |.J _,e=>LR e
 |.aC ts,e=>vd ts (LS e)
noncomputable def vd:List dq->List Expr->List Str
 |t::ts,e::es=>iO t e++vd ts es
 |_,_=>[]
end
noncomputable def Bx(a:Arguments)(ps:List Str):Bool:=
 a.posonlyargs.isEmpty&&(a.vararg.isNone&&(a.kwonlyargs.isEmpty&&(a.kw_defaults.isEmpty&&(a.kwarg.isNone&&(a.defaults.isEmpty&&decide (a.args.map (·.arg)=ps))))))
noncomputable def By:Option NameKind->Bool
 |some .cell=>true
 |some .free=>true
 |_=>false
noncomputable def wY(σ:Sn)(loc:List Str)(sc:Scope):Bool:=
 decide (sc.kind=.function)&&(!sc.isGenerator&&(!sc.isCoroutine&&(decide ((sc.names.map (·.1)).Nodup) &&
 (sc.names.all (λp=>match p.2 with
  |.local=>p.1==(".0":Str)||loc.contains p.1
  |.cell=>false
  |.free=>σ.ns.contains p.1&&(!loc.contains p.1&&By (σ.sc.names.lookup p.1))
  |.globalImplicit=>true
  |.globalExplicit=>false) &&
 (loc.all (λx=>decide (sc.names.lookup x=some .local))&&!σ.ns.contains (".0":Str))))))
noncomputable def vg(it:It)(tg:Expr):Bool:=match it with
 |.nH _=>wF tg
 |_=>wF tg||wD tg
noncomputable def FK(σ:Sn)(i:Nat)(x:Str):Bool:=nJ σ.ns i x&&(LQ (σ.sc.names.lookup x)&&(!(x==("__debug__":Str))&&!(x==("__classdict__":Str))))
noncomputable def fv(σ:Sn)(nm:Str)(g:Expr):Bool:=gc g λx=>(x==nm)&&oH σ nm
noncomputable def yN(x:ExceptHandler)(f:Option Expr->Option Str->List Stmt->Bool):Bool:=match x with
 |.ExceptHandler t n b _=>f t n b
theorem yN.k{G:ExceptHandler->Prop}{x:ExceptHandler}{f:Option Expr->Option Str->List Stmt->Bool}(h:yN x f=true)(k:∀a0 a1 a2 a3,f a0 a1 a2=true->G (.ExceptHandler a0 a1 a2 a3)):G x:=by
 cases x;exact k _ _ _ _ h
noncomputable def tI(σ:Sn)(k:Option Nat)(nm:Expr):Bool:=match k with
 |some k=>gc nm λy=>decide (gK.sh[k]?=some y)&&oH σ y
 |none=>fv σ "ValueError" nm
mutual
noncomputable def cy(σ:Sn):E->Expr->Bool
 |.k v,x=>qU x λc=>decide (Bw v=some c)
 |.J i,x=>gc x (FK σ i)
 |.gk j,x=>gc x λx=>decide (gK.yH[j]?=some x)&&oH σ x
 |.bin op a b,x=>wG x λl o r=>decide (o=sj op)&&(cy σ a l&&cy σ b r)
 |.neg a,x=>tF x λo y=>decide (o=.USub)&&cy σ a y
 |.not a,x=>tF x λo y=>decide (o=.Not)&&cy σ a y
 |.and es,x=>tG x λo xs=>decide (o=.And)&&ip σ es xs
 |.or es,x=>tG x λo xs=>decide (o=.Or)&&ip σ es xs
 |.cmp op a b,x=>qV x λl os rs=>if1 os λo=>if1 rs λr=>decide (o=tE op)&&(cy σ a l&&cy σ b r)
 |.jm op qR a b c,x=>qV x λl os rs=>if2 os λo o'=>if2 rs λr r'=>decide (o=tE op)&&(decide (o'=tE qR)&&(cy σ a l&&(cy σ b r&&cy σ c r')))
 |.isNone w a,x=>qV x λl os rs=>if1 os λo=>decide (o=if w then .Is else .IsNot)&&if1 rs λr=>qU r λc=>decide (c=.none)&&cy σ a l
 |.aC es,x=>oI x λxs=>decide (es.length<1000)&&ip σ es xs
 |.bH es,x=>wH x λxs=>decide (es.length<1000)&&ip σ es xs
 |.aP a i,x=>qW x λv s=>cy σ a v&&cy σ i s
 |.iN a lo hi,x=>qW x λv s=>wI s λl u t=>t.isNone&&(cy σ a v&&(Bz σ lo l&&Bz σ hi u))
 |.call f es,x=>gR x λg xs kws Z=>kws.isEmpty&&gc g λx=>decide (gK.nI[f]?=some (false,x))&&(oH σ x&&((!σ.hd||u7.contains f)&&ip σ es xs))
 |.bi b es,x=>gR x λg xs kws Z=>!σ.hd&&match b with
   |.lH t=>kws.isEmpty&&(fv σ "isinstance" g&&if2 xs λe nm=>fv σ (Str.ofString (kL t)) nm&&ip σ es [e])
   |.pR=>fv σ "min" g&&if1 kws λkw=>wW kw λy v=>(y==("default":Str))&&if1 xs λe=>ip σ es [e,v]
   |.md=>kws.isEmpty&&(fv σ "len" g&&if1 xs λe=>gR e λg xs kws Z=>kws.isEmpty&&(fv σ "set" g&&if1 xs λe=>ip σ es [e]))
   |b=>kws.isEmpty&&gS (wC b) λq=>fv σ q.1 g&&(decide (xs.length=q.2)&&ip σ es xs)
 |.d8 m a es,x=>gR x λg xs kws pos=>kws.isEmpty&&oJ g λo y apos=>(y==(vb m).1)&&(tH o&&((apos.endLine==pos.line)&&(decide (xs.length=(vb m).2)&&(cy σ a o&&ip σ es xs))))
 |.comp nl elt t it cs,x=>vc x λe gs dP=>if1 gs λg=>wV g λtg iter ifs=>
  !σ.hd&&(decide ((iO t tg).length=nl)&&(wY σ (iO t tg) dP&&(yO σ it iter&&(vg it tg&&(j0 ⟨dP,iO t tg++σ.ns,false⟩ t tg&&(cy ⟨dP,iO t tg++σ.ns,false⟩ elt e&&ip ⟨dP,iO t tg++σ.ns,false⟩ cs ifs))))))
 |.listOf a,x=>gR x λg xs kws Z=>!σ.hd&&(kws.isEmpty&&(fv σ "list" g&&if1 xs λe=>cy σ a e))
 |.qS,x=>qY x λks vs=>ks.isEmpty&&vs.isEmpty
 |.oG,x=>qY x λks vs=>ks.isEmpty&&vs.isEmpty
 |.wz a b,x=>qY x λks vs=>if1 ks λk=>gS k λk=>if1 vs λv=>cy σ a k&&cy σ b v
 |.br c a b,x=>wJ x λt y z=>cy σ c t&&(cy σ a y&&cy σ b z)
 |.attr a i,x=>oJ x λo y Z=>decide (gK.ci[i]?=some y)&&(wD o&&cy σ a o)
 |.dJ f a es,x=>gR x λg xs kws pos=>kws.isEmpty&&oJ g λo y apos=>decide (gK.nI[f]?=some (true,y))&&(!gK.ci.contains y&&(tH o&&((apos.endLine==pos.line)&&(decide (xs.length<20)&&(!σ.hd&&(cy σ a o&&ip σ es xs))))))
 |.new f,x=>gR x λg xs kws Z=>kws.isEmpty&&(xs.isEmpty&&(decide (gK.nI[f]?=some (true,Str.ofString "__init__"))&&(!σ.hd&&fv σ gK.cls g)))
 |.mW k a,x=>gR x λg xs kws Z=>kws.isEmpty&&(fv σ "isinstance" g&&if2 xs λe nm=>tI σ k nm&&cy σ a e)
noncomputable def ip(σ:Sn):List E->List Expr->Bool
 |[],xs=>xs.isEmpty
 |e::es,xs=>pS xs λx xs=>cy σ e x&&ip σ es xs
noncomputable def Bz(σ:Sn):Option E->Option Expr->Bool
 |none,x=>x.isNone
 |some e,x=>gS x λx=>cy σ e x
noncomputable def yO(σ:Sn):It->Expr->Bool
 |.range a b,x=>gR x λg xs kws Z=>kws.isEmpty&&(fv σ "range" g&&(if1 xs (λe=>wU a&&cy σ b e)||if2 xs λe1 e2=>cy σ a e1&&cy σ b e2))
 |.nH a,x=>gR x λg xs kws Z=>kws.isEmpty&&(fv σ "enumerate" g&&if1 xs λe=>cy σ a e)
 |.of e,x=>cy σ e x
end
noncomputable def vh(a b:Expr):Bool:=!(wF a&&wF b)
noncomputable def pT(x:Expr):Bool:=decide (x.ctorIdx≠8/\x.ctorIdx≠9/\x.ctorIdx≠10)
noncomputable def LU(e:E):Bool:=decide (e.ctorIdx=18)
noncomputable def FL(σ:Sn)(r:Option dq)(e:E)(st:Stmt):Bool:=match r with
 |some t=>oK st λts x=>if1 ts λtg=>j0 σ t tg&&(cy σ e x&&(pT x&&vh tg x))
 |none=>qX st λx=>gS x λx=>cy σ e x
mutual
noncomputable def FN(σ:Sn):S->Stmt->Bool
 |.expr e,st=>wM st λx=>pT x&&cy σ e x
 |.aN t e,st=>oK st λts x=>if1 ts λtg=>j0 σ t tg&&(cy σ e x&&((wD tg&&LU e||pT x)&&vh tg x))
 |.kK a i e,st=>oK st λts x=>if1 ts λtg=>qW tg λo j=>pT x&&(cy σ a o&&(cy σ i j&&cy σ e x))
 |.setAttr a i e,st=>oK st λts x=>if1 ts λtg=>oJ tg λo y Z=>decide (gK.ci[i]?=some y)&&(pT x&&(tH o&&(cy σ a o&&cy σ e x)))
 |.ret e,st=>qX st λx=>gS x λx=>cy σ e x
 |.br c a b,st=>wN st λt x y=>cy σ c t&&(sk σ a x&&sk σ b y)
 |.for t it body,st=>wO st λtg iter b o=>!σ.hd&&(o.isEmpty&&(j0 σ t tg&&(vg it tg&&(yO σ it iter&&sk σ body b))))
 |.while c body,st=>wQ st λt b o=>!σ.hd&&(o.isEmpty&&(cy σ c t&&sk σ body b))
 |.raise k w,st=>wK st λe c=>c.isNone&&(!σ.hd&&gS e λe=>gR e λg xs kws Z=>kws.isEmpty&&gc g λx=>decide (gK.sh[k]?=some x)&&(oH σ x&&if1 xs λa=>qU a λc=>decide (c=.str w)))
 |.jI r e k i h,st=>wL st λbd hs o f=>o.isEmpty&&(f.isEmpty&&(!σ.hd&&if1 bd λb=>FL σ r e b&&if1 hs λhd=>yN hd λt n hb=>gS t λt=>tI σ (some k) t&&gS n λn=>(nJ σ.ns i n&&decide (σ.sc.names.lookup n=some .local))&&if1 hb λs=>qX s λx=>gS x λx=>cy ⟨σ.sc,σ.ns,true⟩ h x))
noncomputable def sk(σ:Sn):List S->List Stmt->Bool
 |[],ss=>ss.isEmpty
 |s::r,ss=>pS ss λx t=>FN σ s x&&sk σ r t
end
structure jo where
 name:Str
 params:Arguments
 body:List Stmt
 scope:Scope
noncomputable def FO(hd:Bool)(d:jo)(ns:List Str)(f:Fn):Bool:=
 decide (f.name=d.name)&&(Bx d.params (ns.take f.np)&&(decide (ns.length=f.np+f.nl)&&(decide ns.Nodup &&
 (decide (d.scope.kind=.function)&&(!d.scope.isGenerator&&(!d.scope.isCoroutine&&(decide ((d.scope.names.map (·.1)).Nodup) &&
 (d.scope.names.all (λp=>decide (p.2=.globalImplicit)||(u9 (some p.2)&&ns.contains p.1)) &&
 (ns.all (λx=>u9 (d.scope.names.lookup x)) &&
 sk ⟨d.scope,ns,hd⟩ f.body d.body)))))))))
noncomputable def LV(x:Stmt):Option jo:=if h:x.ctorIdx=0 then Stmt.FunctionDef.elim (motive_2:=λZ=>Option jo) x h (λn a b Z Z Z sc Z Z Z=>some ⟨n,a,b,sc⟩) else none
noncomputable def defsOf(l:List Stmt):List jo:=l.filterMap LV
noncomputable def yP(ds:List jo)(nss:List (List Str))(fs:List Fn):Bool:=
 (List.range fs.length).all λi=>gS fs[i]? λf=>gS ds[i]? λd=>gS nss[i]? λn=>decide (f.np=999)||FO (u7.contains i) d n f
end Mine
namespace Mine
open PySem PySem.Calls PyProof.Rows
noncomputable abbrev mX(xs:List Value)(n:Nat):Obj:={cls:=.type "tuple",data:=.seq xs.toArray n}
noncomputable abbrev iP(xs:List Value)(n:Nat):Obj:={cls:=.type "list",data:=.seq xs.toArray n}
structure mf where
 prog:Program
 w:World
 lJ:Addr
 is:List Int
 mg:Str->Option Value
 mb:Str->Option Value
 bk:Addr
 bN:Addr
 mN:Str->Option Value
 exc:List Addr
 defs:List jo
 s:Shared
noncomputable abbrev mf.M(Y:mf):Model:=model Y.prog Y.w
noncomputable abbrev mf.eF(Y:mf):Heap:=Y.s.heap
noncomputable def pU:List (Str×Value):=[("len",.builtin "len"),("isinstance",.builtin "isinstance"),("int",.type "int"),("bool",.type "bool"),("tuple",.type "tuple"),("list",.type "list"),
 ("range",.type "range"),("enumerate",.type "enumerate"),("ValueError",.type "ValueError"),("sorted",.builtin "sorted"),("any",.builtin "any"),("min",.builtin "min"),("max",.builtin "max"),("set",.type "set")]
noncomputable def mh(q:Bool×Str):Str:=if q.1 then gK.cls++"."++q.2 else q.2
inductive wZ(Y:mf)(f:Nat)(q:Bool×Str):Prop
 |mk (a:Addr) (o:Obj) (d:jo) (pm cd doc:Value) (e1:Y.defs[f]?=some d) (e3:(if q.1 then Y.mN q.2 else Y.mg q.2)=some (.ref a)) (e4:Y.eF.get? a=some o) (ec:q.1=true->o.cls=.type "function") (e5:o.data=.func (methDef d.name (mh q) d.params d.body d.scope pm cd doc)) (e6:Y.eF.CodeRec cd (mh q)):wZ Y f q
noncomputable def yQ:List (Str×Option Value):=[("__getattribute__",some (.builtin "BaseException.__getattribute__")),("__getattr__",none),("__class__",some (.builtin "object.__class__"))]
inductive yR(Y:mf)(k:Nat)(x:Str):Prop
 |mk (C:Addr) (bm:List Value) (newId initId B:String) (O:OwnCls x C bm newId Y.mg Y.eF) (F:ExcBaseFacts B newId initId bm) (e:Y.exc[k]?=some C) (v:bm.contains (.type "ValueError")=true/\bm.contains (.type "object")=true)
  (m:∀o cd,Y.eF.get? C=some o->o.data=.cls cd->∀j D,Y.exc[j]?=some D->cd.mro.contains (.ref D)=hJ k j)
  (lk:∀q,q∈yQ->∀(A:Around) (Ex:Value->Shared->Prop) (h:Heap) (g:Array GenState) (d:Drawn) (t:Nat) (os:OsState) (Q:Option Value->Shared->Prop),(∀b o,Y.eF.get? b=some o->h.get? b=some o)->Q q.2 ⟨h,g,d,t,os⟩->wpAny Y.M A (typeLookup (.ref C) q.1) Q Ex ⟨h,g,d,t,os⟩):yR Y k x
structure Good(Y:mf):Prop where
 g:Y.eF.Ns mainGlobals Y.mg
 b:Y.eF.Ns builtinsNs Y.mb
 bi:∀p,p∈pU->Y.mg p.1=none/\Y.mb p.1=some p.2
 fn:∀(f:Nat) (q:Bool×Str),gK.nI[f]?=some q->wZ Y f q
 gk:∀(j:Nat) (x:Str),gK.yH[j]?=some x->(∃i t,wB[j]?=some (.int i)/\Y.mg x=some (.int i t))\/∃(a:Addr) (is:List Int) (vs:List Value) (n:Nat),wB[j]?=some (.aC (is.map .int))/\Y.mg x=some (.ref a)/\Y.eF.get? a=some (mX vs n)/\IntsAre vs is/\is.length<=1000
 ex:∀(k:Nat) (x:Str),gK.sh[k]?=some x->yR Y k x
 FP:Y.exc.length=gK.sh.length
 bk:Y.mg gK.cls=some (.ref Y.bk)
 bc:ClsAt Y.eF Y.bk Y.bN Y.mN
 bq:∀n,n∈(["__setattr__","__getattribute__","__getattr__"]:List Str)++gK.ci->Y.mN n=none
 nolimit:Y.eF.NoLimit
 seer:Y.eF.NoSeer
 tree:Y.prog.given.tree=none
 fu:∃xs:List Value,Y.eF.IsList Y.lJ xs.toArray/\IntsAre xs Y.is
 short:Y.is.length<=63
 low:∃o,Y.eF.get? cStatics=some o
 bm:∃b o,Y.mg "__builtins__"=some (.ref b)/\b≠builtinsNs/\Y.eF.get? b=some o/\o.cls=.type "module"/\o.dict=some builtinsNs/\o.data=.plain
 FQ:yP Y.defs Bv yM=true
abbrev NE:Value->Shared->Prop:=λZ Z=>False
def Run(Y:mf):Prop:=∀(fa:Addr) (Q:Value->Shared->Prop),Y.mg "law"=some (.ref fa)->(∀h' tk,(∀b o,Y.s.heap.get? b=some o->h'.get? b=some o)->Q (.bool true) {Y.s with heap:=h',toks:=tk})->wpAny Y.M callerA (call (.ref fa) [.ref Y.lJ]) Q NE Y.s
noncomputable def X:mf:=@Classical.epsilon mf ⟨⟨default,⟨λZ Z=>0,{strHash:=λZ=>0,shareClass:=λZ=>0,mergeTok:=id,idOf:=λZ=>0,idOfShared:=λZ Z=>0,followText:=λZ=>false,idOfImm:=λZ=>0}⟩,0,[],λZ=>none,λZ=>none,0,0,λZ=>none,[],[],{}⟩⟩ λY=>Good Y/\¬Run Y
theorem LW(h:Good X->Run X)(Y:mf)(g:Good Y):Run Y:=byContradiction λn=>
 have e:Good X/\¬Run X:=Classical.epsilon_spec (p:=λY=>Good Y/\¬Run Y) ⟨Y,g,n⟩
 e.2 (h e.1)
end Mine
namespace Mine
open PySem
noncomputable def LX(c:Str)(x:Stmt):List Stmt:=if h:x.ctorIdx=2 then Stmt.ClassDef.elim (motive_2:=λZ=>List Stmt) x h (λn Z Z b Z Z Z Z Z Z Z=>if n=c then b else[]) else[]
noncomputable def BA(q:Program)(c:Str):List Stmt:=q.main.body.flatMap (LX c)
theorem LY:yP (defsOf PySem.Challenge.pw_uf020001_11.main.body++defsOf (BA PySem.Challenge.pw_uf020001_11 gK.cls)) Bv yM=true:=by decide +kernel
end Mine
namespace Mine.H
open PySem PySem.W PyProof.Rows
noncomputable abbrev pp:Program:=PySem.Challenge.pw_uf020001_11
noncomputable def ob(c:Value)(d:Data):Obj:=⟨c,none,d,#[]⟩
noncomputable def tu(l:List Value):Obj:=ob (.type "tuple") (.seq l.toArray 0)
noncomputable def fl(c:Value)(l:List Value):Obj:=ob c (.fields l.toArray)
noncomputable def ri(n:Nat):Value:=.int n 0
noncomputable def ss(l:List Str):Nat->List Value:=List.rec (λZ=>[]) (λs Z f t=>.str s t::f (t+1)) l
noncomputable def en(n:Str)(t:Nat)(v:Value)(P:Params):DictEntry:=⟨PyData.keyHash P n,.str n t,v⟩
noncomputable abbrev er(n:Str)(t a:Nat):=en n t (.ref a)
noncomputable abbrev ei(n:Str)(t:Nat)(i:Int)(u:Nat):=en n t (.int i u)
noncomputable def di(P:Params)(l:List (Params->DictEntry))(ep:Nat):Obj:=ob (.type "dict") (.dict (l.map λf=>f P).toArray ep)
noncomputable def fi:Str:="/claim/cut.py"
noncomputable def co(nm qn:Str)(t ln np fg fr:Nat)(f:Bool)(v1 v2 v3:Value)(u:Nat):Obj:=fl (.type "code") [.str nm t,.str qn (t+1),.str fi (t+2),ri ln,ri np,ri 0,ri 0,ri fg,.ref fr,.bool f,ri 181,.ref (fr+1),.none,v1,v2,v3,ri u,ri ln,.str fi (u+1)]
noncomputable def fx(o:Option jo)(qn:jo->Str)(full:Bool)(a t ln:Nat)(pm:Value)(vs:List Str)(tl:List Obj):List Obj:=
 o.elim tl λd=>tu []::fl .none []::cond full
  (tu (ss vs (t+3))::tu []::ob .none (.func {name:=d.name,qualname:=qn d,params:=d.params,body:=.stmts d.body,scope:=d.scope,globals:=builtinsNs,closure:=[],defaults:=.none,kwdefaults:=.none})::co d.name (qn d) t ln d.params.args.length 3 a true (.ref (a+2)) (.ref (a+3)) (.ref (a+4)) (t+3+vs.length)::ob (.type "function") (.func (methDef d.name (qn d) d.params d.body d.scope pm (.ref (a+5)) .none))::tl)
  (ob .none (.func {name:=d.name,qualname:=qn d,params:=d.params,body:=.stmts d.body,scope:=d.scope,globals:=builtinsNs,closure:=[],defaults:=.none,kwdefaults:=.none})::co d.name (qn d) t ln d.params.args.length 3 a true .none .none (.ref (a+2)) (t+3)::ob (.type "function") (.func (methDef d.name (qn d) d.params d.body d.scope pm (.ref (a+3)) .none))::tl)
noncomputable abbrev fd(k:Nat):=fx (defsOf pp.main.body)[k]? (·.name)
noncomputable abbrev fm(k:Nat)(q:Str):=fx (defsOf (BA pp gK.cls))[k]? λZ=>q
noncomputable abbrev cn(o:Obj)(tl:List Obj):List Obj:=o::tl
noncomputable def bf(s:String)(v:Value):Obj:=fl (.type "builtin_function_or_method") [.builtin s,v]
noncomputable def fr(c l:Nat)(m:Value):Obj:=⟨.type "frame",none,.plain,#[some (.ref c),some (.ref 3),some (.ref l),none,some m,none,some (.ref 0)]⟩
noncomputable def cl(nm:Str)(C N:Nat)(bs mro sb:List Value)(b:Option Value)(t:Nat)(new:String)(tl:List Obj):List Obj:=⟨.type "type",none,.cls {name:=nm,bases:=bs,mro:=.ref C::mro,ns:=N,qualname:=nm,subclasses:=sb},#[b,none,some (.str nm t),some (.str nm (t+8)),some (.builtin new),some (.bool true)]⟩::tl
noncomputable def su(C:Nat)(tl:List Obj):List Obj:=fl (.type "super") [.ref C,.ref C,.ref C]::bf "object.__init_subclass__" (.ref C)::tl
noncomputable def gs(n:Str)(t C:Nat)(g:String)(s:Value)(tl:List Obj):List Obj:=fl (.type "getset_descriptor") [.str n t,.ref C,.builtin g,s]::tl
noncomputable def ch(P:Params)(nm:Str)(b:Obj)(a t ln:Nat)(m:Value)(ms:List (Params->DictEntry))(sa sA ep:Nat)(tab:List Value)(vs:List Value)(more:List (Params->DictEntry))(mid:List Obj->List Obj)(tl:List Obj):List Obj:=
 b::bf "type.__prepare__" (.type "type")::di P (en "__module__" (t+7) m::en "__qualname__" (t+9) (.str nm (t+8))::en "__firstlineno__" (t+11) (.int ln (t+10))::(ms++[er "__static_attributes__" sa sA])) (4+ms.length)
  :: tu []::fl .none tab::co nm nm (t+2) ln 0 0 (a+3) false .none .none .none (t+5)::fr (a+5) (a+2) m::mid (tu vs::di P (en "__module__" (t+7) m::en "__firstlineno__" (t+11) (.int ln (t+10))::(ms++er "__static_attributes__" sa sA::more)) ep::tl)
noncomputable def mE:Value:=.str "estateroll.errors" 264
noncomputable def vm:List Value:=[.type "ValueError",.type "Exception",.type "BaseException",.type "object"]
noncomputable def xe(P:Params)(sb:List Value)(a t ln:Nat)(tl:List Obj):List Obj:=
 ch P "EstateError" (tu [.type "ValueError"]) a t ln mE [] (t+12) (a+7) 3 [] [] [er "__weakref__" (t+14) (a+10),en "__doc__" (t+15) .none] id <| cl "EstateError" (a+9) (a+8) [.type "ValueError"] vm sb (some (.ref a)) t "ValueError.__new__" <| gs "__weakref__" (t+13) (a+9) "ExceptionGroup.__weakref__" .none <| su (a+9) tl
noncomputable def xc(P:Params)(nm:Str)(a t ln:Nat)(tl:List Obj):List Obj:=
 ch P nm (tu [.ref 69]) a t ln mE [] (t+12) (a+7) 2 [] [] [en "__doc__" (t+13) .none] id <| cl nm (a+9) (a+8) [.ref 69] (.ref 69::vm) [] (some (.ref a)) t "ValueError.__new__" <| su (a+9) tl
noncomputable def FS(c:Nat)(l:List (Nat×Nat)):List Value:=l.flatMap λp=>[ri p.1,ri c,.ref p.2]
noncomputable def m0:Value:=.str "__main__" 164
noncomputable def m1:Value:=.str "estateroll.kin" 187
noncomputable def m2:Value:=.str "estateroll.degrees" 236
noncomputable def m3:Value:=.str "estateroll.parts" 412
noncomputable def m4:Value:=.str "estateroll.lines" 457
noncomputable def m5:Value:=.str "estateroll.deals" 489
noncomputable def m6:Value:=.str "estateroll.books" 560
noncomputable def m7:Value:=.str "law_uf020001_11" 769
noncomputable def e3:List (Params->DictEntry):=[en "__doc__" 166 (.none),en "__package__" 167 (.none),en "__loader__" 168 (.builtin "__main__.__loader__#opaque"),en "__spec__" 169 (.none),en "__annotations__" 170 (.ref 6),en "__builtins__" 171 (.ref 4),en "__file__" 173 (.str "/claim/cut.py" 172),en "__cached__" 174 (.none),er "lives" 201 21,er "parents_on" 214 28,er "children_on" 225 35,er "has_line" 235 42,er "steps_from" 243 47,er "further" 257 54,er "nearest" 263 59,er "EstateError" 283 69,er "NoPerson" 299 82,er "NoDay" 315 94,er "NoParents" 331 106,er "NoMatch" 347 118,er "NoWill" 363 130,er "Again" 379 142,er "Full" 395 154,er "NotDead" 411 166,er "part" 424 175,er "added" 432 182,er "less" 440 189,er "times" 448 196,er "shared" 456 203,er "WHOLE" 461 204,er "lines_to" 467 209,er "by_lines" 476 216,er "others_of" 482 221,er "by_parents" 488 226,er "NOTHING" 493 227,er "spouse_on" 505 234,er "will_on" 519 241,er "given" 525 246,er "kin_of" 531 251,er "spouse_part" 539 258,er "dealt" 559 265,ei "MOST_DAY" 563 100000 562,ei "MOST_PEOPLE" 565 60 564,ei "MOST_GIFTS" 567 10 566,ei "MOST_NUMBER" 569 1000 568,er "is_whole" 578 272,er "need_day" 585 279,er "are_alike" 592 286,er "copied" 598 291,er "Book" 768 400,er "_law_cell_at" 778 411,er "_law_whole" 785 418,er "_law_stream" 796 425,er "_law_some" 807 432,er "_law_people" 813 437,er "_law_adopting" 819 442,er "_law_lives" 828 449,er "_law_parents" 837 456,er "_law_children" 848 463,er "_law_lined" 860 470,er "_law_ends" 866 475,er "_law_meets" 875 482,er "_law_weddings" 892 489,er "_law_gifts" 898 494,er "_law_wills" 904 499,er "_law_lowest" 915 506,er "_law_is_part" 923 513,er "_law_roll" 934 520,er "_law_dead" 940 525,er "_law_class" 948 532,er "_law_called" 956 539,er "_law_tell" 966 546,er "_law_is_one" 974 553,er "_law_all_named" 980 558,er "_law_day_of" 987 565,er "_law_late" 993 570,er "_law_bad_gifts" 999 575,er "_law_wed_due" 1010 582,er "_law_due" 1016 587,er "_law_done" 1022 592,er "_law_deeds" 1028 597,er "_law_odd" 1037 604,er "_law_odd_gifts" 1043 609,er "_law_days" 1049 614,er "_law_deed_by" 1067 621,er "_law_deal_told" 1076 628,er "law" 1082 633]
noncomputable def tb:List (Nat×Nat):=[(2,20),(5,27),(10,34),(16,41),(24,46),(30,53),(38,58),(52,65),(54,78),(56,90),(58,102),(60,114),(62,126),(64,138),(66,150),(68,162),(71,174),(79,181),(81,188),(83,195),(85,202),(89,208),(100,215),(102,220),(104,225),(121,233),(128,240),(136,245),(148,250),(157,257),(165,264),(190,271),(192,278),(195,285),(197,290),(199,297),(335,410),(339,417),(341,424),(348,431),(356,436),(374,441),(383,448),(387,455),(391,462),(397,469),(408,474),(411,481),(413,488),(427,493),(436,498),(445,505),(453,512),(457,519),(462,524),(464,531),(470,538),(480,545),(486,552),(488,557),(494,564),(498,569),(503,574),(512,581),(520,586),(537,591),(556,596),(567,603),(571,608),(585,613),(588,620),(615,627),(620,632)]
noncomputable def bm:List (Params->DictEntry):=[er "__init__" 617 305,er "need_person" 625 312,er "put" 634 319,er "told" 644 326,er "born" 654 333,er "adopted" 669 340,er "end_of" 675 345,er "married" 688 352,er "died" 706 359,er "need_gifts" 712 364,er "will" 727 371,er "anew" 734 378,er "roll" 741 385,er "dead" 747 390,er "deal" 755 397]
noncomputable def bk(P:Params)(a t ln:Nat)(ms:List Obj->List Obj)(tl:List Obj):List Obj:=
 ch P "Book" (tu []) a t ln m6 bm 761 398 4 (FS 4 [(201,304),(208,311),(212,318),(215,325),(225,332),(240,339),(258,344),(262,351),(275,358),(292,363),(309,370),(320,377),(323,384),(326,389),(329,396)]) (ss ["deals","fresh","marriages","people","wills"] 756) [er "__dict__" 763 401,er "__weakref__" 765 402,en "__doc__" 766 .none] ms <| cl "Book" 400 399 [.type "object"] [.type "object"] [] none t "object.__new__" <| gs "__dict__" 762 400 "function.__dict__" (.builtin "function.__dict__#set") <| gs "__weakref__" 764 400 "ExceptionGroup.__weakref__" .none <| su 400 tl
noncomputable def c0(P:Params)(sb:List Value)(tl:List Obj):List Obj:=
 fd 0 true 15 189 2 m1 ["people","person","day","born","parents","adopted","died"] <| fd 1 true 22 202 5 m1 ["people","person","day","born","parents","adopted","died"] <| fd 2 true 29 215 10 m1 ["people","person","day","found","child"] <| fd 3 true 36 226 16 m1 ["people","person","day","child"] <| fd 4 false 43 238 24 m2 [] <| fd 5 true 48 244 30 m2 ["people","known","ways","day","found","state","other","way"] <| fd 6 false 55 258 38 m2 [] <| xe P sb 60 266 52 <| xc P "NoPerson" 73 284 54 <| xc P "NoDay" 85 300 56 <| tl
noncomputable def c1(P:Params)(tl:List Obj):List Obj:=
 xc P "NoParents" 97 316 58 <| xc P "NoMatch" 109 332 60 <| xc P "NoWill" 121 348 62 <| xc P "Again" 133 364 64 <| tl
noncomputable def c2(P:Params)(tl:List Obj):List Obj:=
 xc P "Full" 145 380 66 <| xc P "NotDead" 157 396 68 <| fd 7 true 169 414 71 m3 ["over","under","one","other","rest"] <| fd 8 true 176 425 79 m3 ["one","other"] <| fd 9 true 183 433 81 m3 ["one","other"] <| fd 10 true 190 441 83 m3 ["one","other"] <| fd 11 true 197 449 85 m3 ["one","many"] <| cn (tu [.int 1 459,.int 1 460]) <| fd 12 false 205 462 89 m4 [] <| fd 13 true 210 468 100 m4 ["people","person","day"] <| fd 14 false 217 477 102 m4 [] <| fd 15 false 222 483 104 m4 [] <| cn (tu [.int 0 491,.int 1 492]) <| fd 16 true 228 494 121 m5 ["roll","person","day","one","other","begun"] <| fd 17 true 235 506 128 m5 ["roll","person","day","latest","found","one","told","gifts"] <| fd 18 false 242 520 136 m5 [] <| fd 19 false 247 526 148 m5 [] <| fd 20 true 252 532 157 m5 ["how","kin"] <| fd 21 true 259 540 165 m5 ["roll","person","people","day","rows","total","rest","how","kin","spouse","piece","heir","share","line"] <| tl
noncomputable def c3(P:Params)(tl:List Obj):List Obj:=
 fd 22 true 266 570 190 m6 ["thing","low","high"] <| fd 23 true 273 579 192 m6 ["day"] <| fd 24 true 280 586 195 m6 ["persons"] <| fd 25 false 287 593 197 m6 [] <| bk P 292 599 199 (λtl=>fm 0 "Book.__init__" true 299 611 201 m6 ["self"] <| fm 1 "Book.need_person" true 306 618 208 m6 ["self","person"] <| fm 2 "Book.put" true 313 626 212 m6 ["self","person","row"] <| fm 3 "Book.told" true 320 635 215 m6 ["self","deals","person","rows"] <| fm 4 "Book.born" true 327 645 225 m6 ["self","day","parents","parent"] <| fm 5 "Book.adopted" true 334 655 240 m6 ["self","child","day","parents","parent","born","first","own","died"] <| fm 6 "Book.end_of" false 341 670 258 m6 [] <| fm 7 "Book.married" true 346 676 262 m6 ["self","one","other","day","first","second","begun"] <| fm 8 "Book.died" true 353 689 275 m6 ["self","person","day","born","parents","own","dead","one","told","gifts","other","begun"] <| fm 9 "Book.need_gifts" false 360 707 292 m6 [] <| fm 10 "Book.will" true 365 713 309 m6 ["self","person","day","gifts","gift","born","parents","own","died"] <| fm 11 "Book.anew" true 372 728 320 m6 ["self"] <| fm 12 "Book.roll" true 379 735 323 m6 ["self"] <| fm 13 "Book.dead" false 386 742 326 m6 [] <| fm 14 "Book.deal" true 391 748 329 m6 ["self","person"] <| tl) <| tl
noncomputable def c4(P:Params)(tl:List Obj):List Obj:=
 fd 26 true 405 771 335 m7 ["_law_script","_law_k"] <| fd 27 true 412 779 339 m7 ["_law_found"] <| fd 28 true 419 786 341 m7 ["_law_cell","_law_many","_law_found","_law_number","_law_k"] <| fd 29 true 426 797 348 m7 ["_law_elders","_law_y","_law_fewest","_law_one","_law_other"] <| fd 30 false 433 808 356 m7 [] <| fd 31 false 438 814 374 m7 [] <| fd 32 true 443 820 383 m7 ["_law_people_here","_law_person","_law_day"] <| fd 33 true 450 829 387 m7 ["_law_people_here","_law_person","_law_day"] <| fd 34 true 457 838 391 m7 ["_law_people_here","_law_person","_law_day","_law_found","_law_one"] <| fd 35 true 464 849 397 m7 ["_law_people_here","_law_day","_law_lined_here","_law_one","_law_turn","_law_parent"] <| fd 36 false 471 861 408 m7 [] <| fd 37 true 476 867 411 m7 ["_law_people_here","_law_one","_law_other"] <| fd 38 true 483 876 413 m7 ["_law_people_here","_law_cell","_law_many","_law_found","_law_x","_law_one","_law_other","_law_day","_law_new","_law_fits","_law_marriage"] <| fd 39 false 490 893 427 m7 [] <| fd 40 false 495 899 436 m7 [] <| fd 41 true 500 905 445 m7 ["_law_over","_law_under","_law_a","_law_b","_law_c"] <| fd 42 true 507 916 453 m7 ["_law_found","_law_due_here"] <| fd 43 true 514 924 457 m7 ["_law_script","_law_most","_law_many","_law_people_here","_law_weddings_here"] <| fd 44 false 521 935 462 m7 [] <| fd 45 true 526 941 464 m7 ["_law_e","_law_told"] <| fd 46 true 533 949 470 m7 ["_law_book","_law_deed"] <| fd 47 true 540 957 480 m7 ["_law_book","_law_deed","_law_found","_law_e"] <| fd 48 true 547 967 486 m7 ["_law_people_here","_law_one"] <| fd 49 false 554 975 488 m7 [] <| fd 50 true 559 981 494 m7 ["_law_deed"] <| fd 51 false 566 988 498 m7 [] <| fd 52 false 571 994 503 m7 [] <| fd 53 true 576 1000 512 m7 ["_law_roll_here","_law_one","_law_other","_law_day","_law_marriage"] <| fd 54 false 583 1011 520 m7 [] <| fd 55 false 588 1017 537 m7 [] <| fd 56 false 593 1023 556 m7 [] <| fd 57 true 598 1029 567 m7 ["_law_x","_law_good","_law_odd_here"] <| fd 58 false 605 1038 571 m7 [] <| fd 59 false 610 1044 585 m7 [] <| fd 60 true 615 1050 588 m7 ["_law_roll_here","_law_cell","_law_people_here","_law_xs","_law_one","_law_other","_law_days_here","_law_day","_law_gifts_here","_law_strange","_law_mate","_law_begun"] <| fd 61 true 622 1068 615 m7 ["_law_book","_law_one","_law_e"] <| fd 62 false 629 1077 620 m7 [] <| tl
noncomputable def st(P:Params)(nm:Value)(k m:Nat)(rest:List Obj):List Obj:=
 boot_o_0 P::boot_o_1 P::boot_o_2 P::di P (en "__name__" 165 nm::e3.take k) (k+1)::boot_o_4 P::boot_o_5 P::boot_o_6 P::boot_o_7 P::boot_o_8 P::boot_o_9 P::boot_o_10 P::tu []::fl .none (FS 0 (tb.take m))::co "<module>" "<module>" 182 1 0 0 11 false .none .none .none 185::fr 13 3 m0::rest
noncomputable def sp(l:List Obj):List Obj×List Obj:=List.rec ([],[]) (λx Z p=>(x::p.2,p.1)) l
noncomputable def tr(n:Nat):List Obj->BT:=Nat.rec (λZ=>.nil) (λZ f l=>List.rec .nil (λx t Z=>.node x (f (sp t).1) (f (sp t).2)) l) n
noncomputable def vi(l:Params->List Obj)(n k:Nat)(w:World)(os:OsState):SharedT:=⟨tr 11 (l w.params),n,(boot_heap w.params).life,Array.mk [],boot_drawn,k,os⟩
noncomputable def vj:List Value:=[.ref 82,.ref 94,.ref 106,.ref 118,.ref 130,.ref 142,.ref 154,.ref 166]
noncomputable def an:Option Value:=some (.ref 6)
noncomputable def bE:List Stmt:=behindTheImports pp
noncomputable def env:Env:={scope:=pp.main.scope,locals:=mainNs,globals:=mainNs,cells:=[],code:=.ref 13,frame:=some 14}
noncomputable def cE:Code:=.body bE env
noncomputable def ps(a b c d:Nat):Pos:={line:=a,col:=b,endLine:=c,endCol:=d}
noncomputable def l0(P:Params):List Obj:=st P m0 8 0 []
noncomputable def l1(P:Params):List Obj:=st P mE 18 10 (c0 P (vj.take 2) [])
noncomputable def l2(P:Params):List Obj:=st P mE 22 14 (c0 P (vj.take 6) (c1 P []))
noncomputable def l3(P:Params):List Obj:=st P m5 41 31 (c0 P (vj.take 8) (c1 P (c2 P [])))
noncomputable def l4(P:Params):List Obj:=st P m6 50 36 (c0 P (vj.take 8) (c1 P (c2 P (c3 P []))))
noncomputable def l5(P:Params):List Obj:=st P m7 87 73 (c0 P (vj.take 8) (c1 P (c2 P (c3 P (c4 P [])))))
noncomputable abbrev s0:=vi l0 15 187
noncomputable abbrev s1:=vi l1 97 316
noncomputable abbrev s2:=vi l2 145 380
noncomputable abbrev s3:=vi l3 266 560
noncomputable abbrev s4:=vi l4 405 769
noncomputable abbrev s5:=vi l5 634 1083
noncomputable def H1(P:Params):Heap:=⟨Array.mk (l5 P),(boot_heap P).life⟩
end Mine.H
namespace Mine
open PySem
def aI{α:Type}(o:Option α)(f:α->Prop):Prop:=match o with|some a=>f a|none=>False
def bz(t:Bool)(A B:Prop):Prop:=match t with|true=>A|false=>B
def gT(t:Bool)(A:Prop):Prop:=match t with|true=>A|false=>False
def fy(x:V)(f:Int->Prop):Prop:=match x with | .int i=>f i|_=>False
def w1(vs:List V)(f:V->Prop):Prop:=match vs with | [x]=>f x|_=>False
def w2(vs:List V)(f:V->V->Prop):Prop:=match vs with | [x,y]=>f x y|_=>False
def LZ{α:Type}(l:List α)(A B:Prop):Prop:=match l with | []=>A|_::_=>B
noncomputable def oM{α:Type}(l:List α):Bool:=decide (l.length<16000000)
noncomputable def BB(a b:Int):Bool:=!(decide (Builtin.Int.intBits a>shortFactorBits)&&decide (Builtin.Int.intBits b>shortFactorBits)&&Builtin.Int.intTooBig (Builtin.Int.intBits a+Builtin.Int.intBits b))
noncomputable def d0(f:V->Option PyData):List V->Option (List PyData)
 |[]=>some []
 |v::r=>match f v,d0 f r with
  |some d,some ds=>some (d::ds)
  |_,_=>none
noncomputable def so:bt->Option (List V)
 |.list vs=>some vs
 |_=>none
noncomputable def iZ:bt->Option (List (Int×V))
 |.dict _ es=>some es
 |_=>none
noncomputable def mi:bt->Option (List ((Int×Bool)×V))
 |.c6 _ es=>some es
 |_=>none
noncomputable def pV:bt->Option Nat
 |.exc k=>some k
 |_=>none
noncomputable def sq:bt->Option Nat
 |.obj t=>some t
 |_=>none
noncomputable def sy:bt->Option bB
 |.ci fs=>some fs
 |_=>none
noncomputable def cellAt{β:Type}(f:bt->Option β)(H:Hp):V->Option β
 |.ref l=>H[l]?.bind f
 |_=>none
noncomputable abbrev eQ(H:Hp):V->Option (List V):=cellAt so H
noncomputable abbrev mj(H:Hp):V->Option (List (Int×V)):=cellAt iZ H
noncomputable abbrev excAt(H:Hp):V->Option Nat:=cellAt pV H
noncomputable abbrev cc(H:Hp):V->Option Nat:=cellAt sq H
noncomputable abbrev sB(H:Hp):V->Option (List ((Int×Bool)×V)):=cellAt mi H
noncomputable def yX:V->Option PyData
 |.none=>some .none
 |.bool b=>some (.bool b)
 |.int i=>some (.int i)
 |.str s=>if PyData.strOk s=true then some (.str s) else none
 |_=>none
noncomputable def rd(H:Hp):Nat->V->Option PyData
 |0,v=>yX v
 |n+1,.aC vs=>(d0 (rd H n) vs).map .tuple
 |n+1,.ref l=>(eQ H (.ref l)).bind λvs=>(d0 (rd H n) vs).map .list
 |_+1,v=>yX v
noncomputable def truthy(H:Hp):V->Option Bool
 |.none=>some false
 |.bool b=>some b
 |.int i=>some (i != 0)
 |.aC vs=>some (!vs.isEmpty)
 |.ref l=>(eQ H (.ref l)).map λvs=>!vs.isEmpty
 |_=>none
noncomputable def oN(H:Hp):V->Option (List V)
 |.aC vs=>some vs
 |.ref l=>eQ H (.ref l)
 |.fu=>some (X.is.map .int)
 |_=>none
section
variable{K:Type}[DecidableEq K]
noncomputable def hU(es:List (K×V))(k:K):Option V:=(es.find? (λp=>decide (p.1=k))).map (·.2)
noncomputable def dput(es:List (K×V))(k:K)(v:V):List (K×V):=if es.any (λp=>decide (p.1=k)) then es.map (λp=>if p.1=k then(p.1,v) else p) else es++[(k,v)]
noncomputable def gF(es:List (K×V))(k:K):Bool:=es.any λp=>decide (p.1=k)
end
noncomputable def boolOf:V->Option Bool
 |.bool b=>some b
 |_=>none
noncomputable def sC:V->Option (List V)
 |.aC vs=>some vs
 |_=>none
noncomputable def two{α β:Type}(l:List α)(f:α->α->Option β):Option β:=match l with
 |[a,b]=>f a b
 |_=>none
noncomputable def pairOf(x:V):Option (Int×Bool):=(sC x).bind λvs=>two vs λa b=>(intOf a).bind λi=>(boolOf b).map λb=>(i,b)
noncomputable def allInts:List V->Option (List Int)
 |[]=>some []
 |v::r=>(intOf v).bind λi=>(allInts r).map (i::·)
noncomputable def kM:List V->Option (List Bool)
 |[]=>some []
 |v::r=>(boolOf v).bind λb=>(kM r).map (b::·)
noncomputable def kN(H:Hp)(x:V):Option (List Int):=(eQ H x).bind allInts
noncomputable def mY:List Int->List Int->Bool
 |_,[]=>false
 |[],_::_=>true
 |a::r,b::t=>if a=b then mY r t else decide (a<b)
noncomputable def BC(x y:V)(H:Hp):Option Bool:=match x,y with
 |.int a,.int b=>some (decide (a<b))
 |.ref l,.ref m=>(kN H (.ref l)).bind λa=>(kN H (.ref m)).map λb=>mY a b
 |_,_=>none
noncomputable def sD(x y:V)(f:Int->Int->Bool):Option Bool:=(intOf x).bind λa=>(intOf y).map λb=>f a b
noncomputable def ml(H:Hp)(x:V):Option Bool:=match mj H x with
 |some es=>some es.isEmpty
 |none=>(sB H x).map (·.isEmpty)
noncomputable def kO(H:Hp)(x y:V):Option Bool:=match ml H x with
 |some a=>(ml H y).bind λb=>if a||b then some (a&&b) else none
 |none=>(rd H 10 x).bind λd=>(rd H 10 y).map λe=>PyData.eqv d e
noncomputable def tJ(H:Hp)(x y:V):Option Bool:=match mj H y with
 |some es=>(intOf x).map λk=>gF es k
 |none=>match sB H y with
  |some es=>(pairOf x).map λq=>gF es q
  |none=>(oN H y).bind λvs=>(d0 (rd H 10) vs).bind λds=>(rd H 10 x).map λd=>ds.any λe=>PyData.eqv e d
noncomputable def e7(op:nG)(x y:V)(H:Hp):Option Bool:=match op with
 |.eq=>kO H x y
 |.ne=>(kO H x y).map (!·)
 |.lt=>BC x y H
 |.gt=>sD x y λa b=>decide (a>b)
 |.le=>sD x y λa b=>decide (a<=b)
 |.ge=>sD x y λa b=>decide (a≥b)
 |.jZ=>tJ H x y
 |.jH=>(tJ H x y).map (!·)
noncomputable def nK{α:Type}(l:List α)(k:Int):Option α:=
 if 0<=k then l[k.toNat]? else if -(l.length:Int)<=k then l[(k+l.length).toNat]? else none
noncomputable def fF(x i:V)(H:Hp):Option V:=match i with
 |.int k=>match oN H x with
  |some vs=>nK vs k
  |none=>(mj H x).bind λes=>hU es k
 |i=>(pairOf i).bind λq=>(sB H x).bind λes=>hU es q
noncomputable def w5(n:Nat)(d:Nat):Option Int->Nat
 |none=>d
 |some k=>(max (0:Int) (min (if k<0 then k+n else k) n)).toNat
noncomputable def j1{α:Type}(l:List α)(lo hi:Option Int):List α:=
 (l.take (w5 l.length l.length hi)).drop (w5 l.length 0 lo)
noncomputable def w6:V->Option (Option Int)
 |.none=>some none
 |.int k=>if k.natAbs<2^60 then some (some k) else none
 |_=>none
mutual
noncomputable def aN:dq->V->bB->Option bB
 |.J i,v,ρ=>if i<ρ.length then some (ρ.set i (some v)) else none
 |.aC ts,.aC vs,ρ=>w7 ts vs ρ
 |.aC _,_,_=>none
noncomputable def w7:List dq->List V->bB->Option bB
 |[],[],ρ=>some ρ
 |t::ts,v::vs,ρ=>(aN t v ρ).bind (w7 ts vs)
 |_,_,_=>none
end
def sE(x i v:V)(H:Hp)(k:Hp->Prop):Prop:=match x with
 |.ref l=>aI H[l]? λc=>match c with
  |.list xs=>fy i λj=>(0<=j/\j<xs.length)/\k (H.set l (.list (xs.set j.toNat v)))
  |.dict _ es=>fy i λj=>gT (oM es) (∀ep,k (H.set l (.dict ep (dput es j v))))
  |.c6 _ es=>aI (pairOf i) λj=>gT (oM es) (∀ep,k (H.set l (.c6 ep (dput es j v))))
  |_=>False
 |_=>False
noncomputable def mZ(q:Int×Bool):V:=.aC [.int q.1,.bool q.2]
noncomputable def keysOf(H:Hp)(x:V):Option (List V):=match mj H x with
 |some es=>some (es.map λp=>.int p.1)
 |none=>match sB H x with
  |some es=>some (es.map λp=>mZ p.1)
  |none=>oN H x
noncomputable def copyOf(H:Hp)(x:V):Option (List V):=match mj H x with
 |some es=>some (es.map λp=>.int p.1)
 |none=>match sC x with
  |some vs=>some vs
  |none=>eQ H x
noncomputable def watch:V->List Nat
 |.ref l=>[l]
 |_=>[]
noncomputable def fN(ws:List Nat)(H₀ H:Hp):Bool:=ws.all λl=>decide (H[l]?=H₀[l]?)
noncomputable def pW(a b:Int):List V:=(List.range (b - a).toNat).map λ(i:Nat)=>.int (a+(i:Int))
noncomputable def tK:Nat->List V->List V
 |_,[]=>[]
 |k,v::r=>.aC [.int k,v]::tK (k+1) r
noncomputable def weight:bB->Nat
 |[]=>1000
 |some (.int i)::r=>i.natAbs+weight r
 |_::r=>weight r
def mm(vs:List V)(H:Hp)(Q:PQ):Prop:=Q (.ref H.length) (H++[.list vs])
def tL(vs:List V)(H:Hp)(Q:PQ):Prop:=gT (oM vs) (mm vs H Q)
noncomputable def binI(op:oE)(a b:Int):Option Int:=match op with
 |.add=>some (a+b)
 |.sub=>some (a - b)
 |.mul=>if BB a b then some (a*b) else none
 |.fdiv=>if b=0 then none else some (a.fdiv b)
 |.mod=>if b=0 then none else some (a.fmod b)
 |.pow=>if a=10/\0<=b/\b<=64 then some (10^b.toNat) else none
def FT(op:oE)(xs:List V)(y:V)(H:Hp)(Q:PQ):Prop:=match op with
 |.add=>aI (eQ H y) λys=>tL (xs++ys) H Q
 |.mul=>fy y λn=>(n=2/\xs.length<=1000)/\mm (xs++xs) H Q
 |_=>False
def sG(op:oE)(x y:V)(H:Hp)(Q:PQ):Prop:=match x with
 |.int a=>fy y λb=>aI (binI op a b) λi=>Q (.int i) H
 |x=>aI (eQ H x) λxs=>FT op xs y H Q
noncomputable def vk(H:Hp)(t:Ty)(x:V):Option Bool:=match x,t with
 |.bool _,.bool=>some true
 |.bool _,.int=>some true
 |.int _,.int=>some true
 |.ref l,.list=>(eQ H (.ref l)).map λZ=>true
 |.ref l,_=>(eQ H (.ref l)).map λZ=>false
 |.fu,_=>none
 |_,_=>some false
noncomputable def minOf(is:List Int)(d:Int):Int:=match is with
 |[]=>d
 |a::r=>r.foldl min a
def FU(b:Bi)(vs:List V)(H:Hp)(Q:PQ):Prop:=match b with
 |.len=>w1 vs λx=>aI (oN H x) λl=>Q (.int l.length) H
 |.lH t=>w1 vs λx=>aI (vk H t x) λb=>Q (.bool b) H
 |.any=>w1 vs λx=>aI ((eQ H x).bind kM) λbs=>Q (.bool (bs.any id)) H
 |.max2=>w2 vs λx y=>fy x λa=>fy y λb=>Q (.int (max a b)) H
 |.min2=>w2 vs λx y=>fy x λa=>fy y λb=>Q (.int (min a b)) H
 |.pR=>w2 vs λx d=>fy d λd=>aI (kN H x) λis=>Q (.int (minOf is d)) H
 |.tupleOf=>w1 vs λx=>aI (eQ H x) λxs=>Q (.aC xs) H
 |.oF=>w1 vs λx=>aI (boolOf x) λb=>Q (.int (if b then 1 else 0)) H
 |.yG=>w1 vs λx=>aI (kN H x) λis=>is.length<64/\∀js:List Int,js.Perm is->js.Pairwise (·<=·)->mm (js.map .int) H Q
 |.md=>w1 vs λx=>aI (kN H x) λis=>is.length<=1000/\∀n:Nat,(n=is.length↔is.Nodup)->Q (.int n) H
def yY(x:V)(vs:List V)(H:Hp)(Q:PQ):Prop:=match x with
 |.ref l=>Q .none (H.set l (.list vs))
 |_=>False
def ro(m:Me)(x:V)(vs:List V)(H:Hp)(Q:PQ):Prop:=aI (eQ H x) λxs=>w1 vs λv=>match m with
 |.append=>gT (oM xs) (yY x (xs++[v]) H Q)
 |.count=>aI (boolOf v) λb=>aI (kM xs) λbs=>xs.length<=1000/\Q (.int (bs.count b)) H
 |.index=>aI (boolOf v) λb=>aI (kM xs) λbs=>xs.length<=1000/\aI (bs.idxOf? b) λi=>Q (.int i) H
def w8(x lo hi:V)(H:Hp)(Q:PQ):Prop:=aI (w6 lo) λl=>aI (w6 hi) λh=>match x with
 |.aC vs=>aI h λk=>gT (l.isNone&&decide (0<=k)) (Q (.aC (vs.take k.toNat)) H)
 |x=>aI (oN H x) λvs=>tL (j1 vs l h) H Q
def w9(x y:V)(f:List V->Prop):Prop:=fy x λi=>fy y λj=>(i.natAbs<2^60/\j.natAbs<2^60)/\f (pW i j)
def i0(o:Out)(f:bB->Hp->Prop)(A:Prop):Prop:=match o with | .next ρ H=>f ρ H | .ret _ _=>A
def bD(Q:PQ)(o:Out):Prop:=match o with | .ret v H=>Q v H | .next _ H=>Q .none H
def oO(K:Out->Prop)(N:bB->Hp->Prop)(o:Out):Prop:=match o with
 |.next ρ H=>N ρ H
 |.ret v H=>K (.ret v H)
def iQ(ws:List Nat)(H₀:Hp)(t:dq)(test:bB->Hp->(Bool->Hp->Prop)->Prop)(elt:bB->Hp->PQ->Prop):List V->bB->Hp->List V->(List V->Hp->Prop)->Prop
 |[],_,H,acc,Q=>Q acc H
 |v::vs,ρ,H,acc,Q=>aI (aN t v ρ) λck=>test ck H λb H₁=>
   bz b (elt ck H₁ λy H₂=>fN ws H₀ H₂=true/\iQ ws H₀ t test elt vs ck H₂ (acc++[y]) Q) (fN ws H₀ H₁=true/\iQ ws H₀ t test elt vs ck H₁ acc Q)
def pX(ws:List Nat)(H₀:Hp)(t:dq)(body:bB->Hp->(Out->Prop)->Prop):List V->bB->Hp->(Out->Prop)->Prop
 |[],ρ,H,K=>K (.next ρ H)
 |v::vs,ρ,H,K=>aI (aN t v ρ) λck=>body ck H (oO K λiC H₁=>fN ws H₀ H₁=true/\pX ws H₀ t body vs iC H₁ K)
def yZ(test:bB->Hp->(Bool->Hp->Prop)->Prop)(body:bB->Hp->(Out->Prop)->Prop):Nat->bB->Hp->(Out->Prop)->Prop
 |0,_,_,_=>False
 |n+1,ρ,H,K=>test ρ H λb H=>bz b (body ρ H (oO K λiC H₁=>yZ test body n iC H₁ K)) (K (.next ρ H))
def xq(Y:PQ):PQ:=λv H=>(excAt H v).isSome=true/\Y v H
noncomputable abbrev Ct.xq(C:Ct):Ct:=⟨C.call,Mine.xq C.exc⟩
noncomputable abbrev Ct.no(C:Ct):Ct:=⟨C.call,λZ Z=>False⟩
noncomputable def pY(H:Hp)(t:Nat):Option bB:=H[t]?.bind sy
noncomputable def FV(j:Nat)(k:Option Nat):Bool:=match k with
 |some k=>hJ j k
 |none=>true
def L0(r:Option dq)(ρ:bB)(K:Out->Prop)(v:V)(H:Hp):Prop:=match r with
 |some t=>aI (aN t v ρ) λck=>K (.next ck H)
 |none=>K (.ret v H)
mutual
def WE:Ct->E->bB->Hp->PQ->Prop
 |_,.k v,_,H,Q=>Q v H
 |_,.J i,ρ,H,Q=>aI (ρ[i]?.join) λv=>Q v H
 |_,.gk j,_,H,Q=>aI wB[j]? λv=>Q v H
 |C,.bin op a b,ρ,H,Q=>WE C a ρ H λx H=>WE C b ρ H λy H=>sG op x y H Q
 |C,.neg a,ρ,H,Q=>WE C a ρ H λx H=>fy x λi=>Q (.int (-i)) H
 |C,.not a,ρ,H,Q=>WE C a ρ H λx H=>aI (truthy H x) λb=>Q (.bool (!b)) H
 |C,.and es,ρ,H,Q=>vl C true es ρ H Q
 |C,.or es,ρ,H,Q=>vl C false es ρ H Q
 |C,.cmp op a b,ρ,H,Q=>WE C a ρ H λx H=>WE C b ρ H λy H=>aI (e7 op x y H) λt=>Q (.bool t) H
 |C,.jm op qR a b c,ρ,H,Q=>WE C a ρ H λx H=>WE C b ρ H λy H=>aI (e7 op x y H) λt=>bz t (WE C c ρ H λz H=>aI (e7 qR y z H) λt=>Q (.bool t) H) (Q (.bool false) H)
 |C,.isNone w a,ρ,H,Q=>WE C a ρ H λx H=>Q (.bool (wy x==w)) H
 |C,.aC es,ρ,H,Q=>oP C es ρ H λvs H=>Q (.aC vs) H
 |C,.bH es,ρ,H,Q=>oP C es ρ H λvs H=>mm vs H Q
 |C,.aP a i,ρ,H,Q=>WE C a ρ H λx H=>WE C i ρ H λy H=>aI (fF x y H) λv=>Q v H
 |C,.iN a lo hi,ρ,H,Q=>WE C a ρ H λx H=>WO C lo ρ H λl H=>WO C hi ρ H λh H=>w8 x l h H Q
 |C,.call f es,ρ,H,Q=>oP C es ρ H λvs H=>C.call f vs H Q C.exc
 |C,.bi b es,ρ,H,Q=>oP C es ρ H λvs H=>FU b vs H Q
 |C,.d8 m a es,ρ,H,Q=>WE C a ρ H λx H=>gT (eQ H x).isSome (oP C es ρ H λvs H=>ro m x vs H Q)
 |C,.comp nl elt t it cs,ρ,H,Q=>rq C it ρ H λp H=>gT (oM p.1) (iQ p.2 H t (λρ H Q=>WT C.no cs ρ H Q) (λρ H Q=>WE C.no elt ρ H Q) p.1 (replicate nl none++ρ) H [] λvs H=>mm vs H Q)
 |C,.listOf e,ρ,H,Q=>WE C e ρ H λx H=>aI (copyOf H x) λvs=>tL vs H Q
 |_,.qS,_,H,Q=>Q (.ref H.length) (H++[.dict 0 []])
 |_,.oG,_,H,Q=>Q (.ref H.length) (H++[.c6 0 []])
 |C,.wz a b,ρ,H,Q=>WE C a ρ (H++[.c6 0 []]) λx H1=>WE C b ρ H1 λy H2=>aI (pairOf x) λk=>H2[H.length]?=some (.c6 0 [])/\∀ep,Q (.ref H.length) (H2.set H.length (.c6 ep [(k,y)]))
 |C,.br c a b,ρ,H,Q=>WE C c ρ H λx H=>aI (truthy H x) λt=>bz t (WE C a ρ H Q) (WE C b ρ H Q)
 |C,.attr a i,ρ,H,Q=>WE C a ρ H λx H=>aI (cc H x) λt=>aI (pY H t) λfs=>aI (fs[i]?.join) λv=>Q v H
 |C,.dJ f a es,ρ,H,Q=>WE C a ρ H λx H=>aI (cc H x) λt=>aI (pY H t) λZ=>oP C es ρ H λvs H=>C.call f (x::vs) H Q C.exc
 |C,.new f,_,H,Q=>C.call f [.ref (H.length+1)] (H++[.ci (replicate gK.ci.length none)]++[.obj H.length]) (λv H'=>v=.none/\Q (.ref (H.length+1)) H') λZ Z=>False
 |C,.mW k a,ρ,H,Q=>WE C a ρ H λx H=>aI (excAt H x) λj=>Q (.bool (FV j k)) H
def oP:Ct->List E->bB->Hp->(List V->Hp->Prop)->Prop
 |_,[],_,H,Q=>Q [] H
 |C,e::r,ρ,H,Q=>WE C e ρ H λv H=>oP C r ρ H λvs H=>Q (v::vs) H
def WO:Ct->Option E->bB->Hp->PQ->Prop
 |_,none,_,H,Q=>Q .none H
 |C,some e,ρ,H,Q=>WE C e ρ H Q
def vl:Ct->Bool->List E->bB->Hp->PQ->Prop
 |_,_,[],_,_,_=>False
 |C,w,e::r,ρ,H,Q=>WE C e ρ H λx H=>LZ r (Q x H) (aI (truthy H x) λt=>bz (t==w) (vl C w r ρ H Q) (Q x H))
def WT:Ct->List E->bB->Hp->(Bool->Hp->Prop)->Prop
 |_,[],_,H,Q=>Q true H
 |C,e::r,ρ,H,Q=>WE C e ρ H λx H=>aI (truthy H x) λt=>bz t (WT C r ρ H Q) (Q false H)
def rq:Ct->It->bB->Hp->(List V×List Nat->Hp->Prop)->Prop
 |C,.of e,ρ,H,Q=>WE C e ρ H λx H=>aI (keysOf H x) λvs=>Q (vs,watch x) H
 |C,.range a b,ρ,H,Q=>WE C a ρ H λx H=>WE C b ρ H λy H=>w9 x y λl=>Q (l,[]) H
 |C,.nH e,ρ,H,Q=>WE C e ρ H λx H=>aI (eQ H x) λvs=>Q (tK 0 vs,watch x) H
end
def tM(C:Ct)(e:E)(ρ:bB)(H:Hp)(Q:Bool->Hp->Prop):Prop:=WE C e ρ H λx H=>aI (truthy H x) λt=>Q t H
mutual
def WS:Ct->S->bB->Hp->(Out->Prop)->Prop
 |C,.expr e,ρ,H,K=>WE C e ρ H λZ H=>K (.next ρ H)
 |C,.aN t e,ρ,H,K=>WE C e ρ H λv H=>aI (aN t v ρ) λck=>K (.next ck H)
 |C,.kK a i e,ρ,H,K=>WE C e ρ H λv H=>WE C a ρ H λx H=>WE C i ρ H λk H=>sE x k v H λH'=>K (.next ρ H')
 |C,.setAttr a i e,ρ,H,K=>WE C e ρ H λv H=>WE C a ρ H λx H=>aI (cc H x) λt=>aI (pY H t) λfs=>K (.next ρ (H.set t (.ci (fs.set i (some v)))))
 |C,.ret e,ρ,H,K=>WE C e ρ H λv H=>K (.ret v H)
 |C,.raise k _,ρ,H,_=>C.exc (.ref H.length) (H++[.exc k])
 |C,.jI r e k i h,ρ,H,K=>WE ⟨C.call,λv H=>aI (excAt H v) λj=>hJ j k=true/\WE C.no h (ρ.set i (some v)) H λr H=>K (.ret r H)⟩ e ρ H λv H=>L0 r ρ K v H
 |C,.br c a b,ρ,H,K=>tM C c ρ H λt H=>bz t (aG C a ρ H K) (aG C b ρ H K)
 |C,.for t it body,ρ,H,K=>rq C it ρ H λp H=>pX p.2 H t (λρ H K=>aG C.xq body ρ H K) p.1 ρ H K
 |C,.while c body,ρ,H,K=>yZ (λρ H Q=>tM C.no c ρ H Q) (λρ H K=>aG C.no body ρ H K) (weight ρ) ρ H K
def aG:Ct->List S->bB->Hp->(Out->Prop)->Prop
 |_,[],ρ,H,K=>K (.next ρ H)
 |C,s::r,ρ,H,K=>WS C s ρ H λo=>i0 o (λρ H=>aG C r ρ H K) (K o)
end
def ay:Nat->Nat->List V->Hp->PQ->PQ->Prop
 |0,_,_,_,_,_=>False
 |n+1,f,vs,H,Q,Y=>aI yM[f]? λd=>(vs.length=d.np/\d.np≠999)/\aG ⟨ay n,xq Y⟩ d.body (vs.map some++replicate d.nl none) H (bD Q)
theorem L1(i n:Nat):min (i:Int) (n:Int)=((min i n:Nat):Int):=by
 rcases Nat.le_total i n with h|h
 ·rw[Int.min_eq_left (ofNat_le.mpr h),min_eq_left h]
 ·rw[Int.min_eq_right (ofNat_le.mpr h),Nat.min_eq_right h]
structure Ws where
 φ:List Addr
 h:Heap
mutual
inductive bl(p:Ws):V->Value->Prop
 |none:bl p .none .none
 |bool (b:Bool):bl p (.bool b) (.bool b)
 |int (i:Int) (t:Tok):bl p (.int i) (.int i t)
 |str (s:Str) (t:Tok):bl p (.str s) (.str s t)
 |aC {a:Addr} {n:Nat} {vs:List V} {xs:List Value}:p.h.get? a=some (mX xs n)->bJ p vs xs->vs.length<=16000000->a∉p.φ->bl p (.aC vs) (.ref a)
 |ref {l:Nat} {a:Addr}:p.φ[l]?=some a->bl p (.ref l) (.ref a)
 |fu:bl p .fu (.ref X.lJ)
inductive bJ(p:Ws):List V->List Value->Prop
 |nil:bJ p [] []
 |cons {v:V} {x:Value} {vs:List V} {xs:List Value}:bl p v x->bJ p vs xs->bJ p (v::vs) (x::xs)
end
def bl.Inv(p:Ws)(P:Value->Prop):V->Prop
 |.none=>P .none
 |.bool b=>P (.bool b)
 |.int i=>∀t,P (.int i t)
 |.str s=>∀t,P (.str s t)
 |.aC vs=>∀a n xs,p.h.get? a=some (mX xs n)->bJ p vs xs->vs.length<=16000000->a∉p.φ->P (.ref a)
 |.ref l=>∀a,p.φ[l]?=some a->P (.ref a)
 |.fu=>P (.ref X.lJ)
theorem bl.inv{p:Ws}{v:V}{x:Value}(r:bl p v x)(P:Value->Prop):bl.Inv p P v->P x:=
 bl.casesOn (motive_1:=λv x Z=>bl.Inv p P v->P x) r (λk=>k) (λZ k=>k) (λZ t k=>k t) (λZ t k=>k t) (λe q z n k=>k _ _ _ e q z n) (λe k=>k _ e) (λk=>k)
def bJ.Inv(p:Ws)(P:List Value->Prop):List V->Prop
 |[]=>P []
 |v::vs=>∀x xs,bl p v x->bJ p vs xs->P (x::xs)
theorem bJ.inv{p:Ws}{vs:List V}{xs:List Value}(r:bJ p vs xs)(P:List Value->Prop):bJ.Inv p P vs->P xs:=
 bJ.casesOn (motive_2:=λvs xs Z=>bJ.Inv p P vs->P xs) r (λk=>k) (λa b k=>k _ _ a b)
theorem bJ.ind{p:Ws}{M:List V->List Value->Prop}(n:M [] [])(c:∀{v x vs xs},bl p v x->bJ p vs xs->M vs xs->M (v::vs) (x::xs)){vs:List V}{xs:List Value}(r:bJ p vs xs):M vs xs:=
 bJ.rec (motive_1:=λZ Z Z=>True) (motive_2:=λvs xs Z=>M vs xs) trivial (λZ=>trivial) (λZ Z=>trivial) (λZ Z=>trivial) (λZ Z Z Z Z=>trivial) (λZ=>trivial) trivial n (λa b Z m=>c a b m) r
theorem FW{α:Type}{l r:List α}{i:Nat}{a:α}(e:l[i]?=some a):(l++r)[i]?=some a:=by rw[tx (dZ.mp e).1];exact e
noncomputable def fA(o:Obj):Bool:=match o.data with
 |.dict _ _=>true
 |_=>false
noncomputable def gU(o:Obj):Bool:=match o.data with
 |.fields vs=>o.cls==.type "traceback"&&decide (3<vs.size)
 |_=>false
noncomputable def fz(o:Obj):Bool:=match o.data with
 |.seq _ _=>o.cls==.type "tuple"
 |.fields vs=>o.cls==.type "traceback"&&decide (3<vs.size)
 |_=>false
theorem xd{o:Obj}{es:Array DictEntry}{ep:Nat}(h:o.data=.dict es ep):fz o=false:=by unfold fz;rw[h]
theorem L3{o:Obj}{v:Option Value}(h:o.data=.cell v):fz o=false:=by unfold fz;rw[h]
theorem pZ{o:Obj}{c:Value}(hc:o.cls=c)(hn:(c==.type "tuple"||c==.type "traceback")=false):fz o=false:=by
 have h:=qM.mp hn
 unfold fz;rw[hc,h.1,h.2]
 cases o.data<;>rfl
theorem y4{o:Obj}{es:Array DictEntry}{ep:Nat}(h:o.data=.dict es ep):fA o=true:=by unfold fA;rw[h]
theorem vn{o:Obj}{vs:Array Value}(h:o.data=.fields vs):fA o=false:=by unfold fA;rw[h]
theorem L4{o:Obj}{v:Option Value}(h:o.data=.cell v):fA o=false:=by unfold fA;rw[h]
theorem no{P:Prop}{b:Bool}(h:b=true)(h':b=false):P:=by rw[h] at h';cases h'
theorem BD{o:Obj}(h:fA o=true):gU o=false:=by
 unfold fA at h;unfold gU
 cases e:o.data<;>rw[e] at h<;>first|rfl|cases h
theorem FX{o:Obj}(h:gU o=true):fz o=true:=by
 unfold gU at h;unfold fz
 cases e:o.data<;>rw[e] at h<;>first|exact h|cases h
structure jJ(o o':Obj):Prop where
 eq:fA o=false->gU o=false->o'=o
 data:gU o=false->o'.data=o.data/\o'.cls=o.cls
 tb:gU o=true->gU o'=true
theorem jJ.refl{o:Obj}:jJ o o:=⟨λZ Z=>rfl,λZ=>⟨rfl,rfl⟩,id⟩
theorem jJ.dd{o o':Obj}(h:jJ o o')(hb:gU o=false):fA o'=fA o/\gU o'=false/\fz o'=fz o:=by
 have x:=h.data hb
 unfold fA gU fz
 rw[x.1,x.2]
 exact⟨rfl,hb,rfl⟩
theorem jJ.trans{a b c:Obj}(h:jJ a b)(k:jJ b c):jJ a c:=
 ⟨λh1 h2=>have x:=h.dd h2;(k.eq (x.1.trans h1) x.2.1).trans (h.eq h1 h2),λh2=>have x:=h.dd h2;have y:=k.data x.2.1;have z:=h.data h2;⟨y.1.trans z.1,y.2.trans z.2⟩,λh2=>k.tb (h.tb h2)⟩
theorem jJ.fA{o o':Obj}(h:jJ o o')(hd:Mine.fA o=true):Mine.fA o'=true:=(h.dd (BD hd)).1.trans hd
theorem jJ.fz{o o':Obj}(h:jJ o o')(hf:Mine.fz o=true):Mine.fz o'=true:=by
 cases e:gU o with
 |true=>exact FX (h.tb e)
 |false=>exact(h.dd e).2.2.trans hf
structure Kp(p q:Ws):Prop where
 pre:∀(l:Nat) (a:Addr),p.φ[l]?=some a->q.φ[l]?=some a
 y7:∀a o,fz o=true->p.h.get? a=some o->a∉p.φ->(∃o',q.h.get? a=some o'/\jJ o o')/\a∉q.φ
structure bZ(own:Addr->Prop)(p q:Ws):Prop where
 pre:∀(l:Nat) (a:Addr),p.φ[l]?=some a->q.φ[l]?=some a
 keep:∀a o,p.h.get? a=some o->a∉p.φ->(own a->fz o=true)->∃o',q.h.get? a=some o'/\jJ o o'
 fresh:∀a,a∈q.φ->a∉p.φ->p.h.get? a=none
 alive:∀a o,p.h.get? a=some o->∃o',q.h.get? a=some o'/\(a∉p.φ->fA o=true->fA o'=true)
abbrev iq:Addr->Prop:=λZ=>False
def Ch(io:Addr->Prop)(h h':Heap):Prop:=∀a o,h.get? a=some o->(io a->fz o=true)->h'.get? a=some o
def aA(h h':Heap):Prop:=∀a o,h.get? a=some o->h'.get? a=some o
section
variable{own own' io:Addr->Prop}{p q r:Ws}{h h':Heap}{a:Addr}{o:Obj}
theorem aA.push(o:Obj):aA h (h.push o):=λZ Z e=>mQ o e
theorem aA.ch(e:aA h h'):Ch io h h':=λa o x Z=>e a o x
theorem Ch.but{b:Addr}(e:ExtBut b h h')(hb:∀o,h.get? b=some o->fz o=false):Ch (·=b) h h':=λa o x hf=>(Classical.em (a=b)).elim (λe'=>no (hf e') (hb o (e'▸x))) λhn=>e a o hn x
theorem bZ.refl:bZ own p p:=⟨λZ Z e=>e,λZ o e Z Z=>⟨o,e,.refl⟩,λZ h1 h2=>absurd h1 h2,λZ o e=>⟨o,e,λZ h=>h⟩⟩
theorem bZ.qe(S:bZ own p q)(ho:p.h.get? a=some o)(ha:a∉p.φ):a∉q.φ:=λhm=>bV (S.fresh a hm ha) ho
theorem bZ.dead(S:bZ own p q)(hn:q.h.get? a=none):p.h.get? a=none:=by
 cases e:p.h.get? a with
 |none=>rfl
 |some o=>exact(S.alive a o e).elim λZ e'=>bV hn e'.1
theorem bZ.same(S:bZ own p q)(e:p.h.get? a=some o)(hn:a∉p.φ)(h:own a->fz o=true)(hd:fA o=false)(ht:gU o=false):q.h.get? a=some o:=(S.keep a o e hn h).elim λo' x=>x.2.eq hd ht▸x.1
theorem bZ.trans(S:bZ own p q)(T:bZ own q r):bZ own p r:=
 ⟨λl a e=>T.pre l a (S.pre l a e),λa o e h1 h2=>(S.keep a o e h1 h2).elim λo1 x=>(T.keep a o1 x.1 (S.qe e h1) λh=>x.2.fz (h2 h)).imp λo2 y=>⟨y.1,x.2.trans y.2⟩,λa h1 h2=>(Classical.em (a∈q.φ)).elim (λh=>S.fresh a h h2) λh=>S.dead (T.fresh a h1 h),
  λa o e=>(S.alive a o e).elim λo1 x=>(T.alive a o1 x.1).imp λo2 y=>⟨y.1,λh1 h2=>y.2 (S.qe e h1) (x.2 h1 h2)⟩⟩
theorem bZ.ow(S:bZ own p q)(hs:∀a,own a->own' a\/p.h.get? a=none):bZ own' p q:=
 ⟨S.pre,λa o e h1 h2=>S.keep a o e h1 λhm=>(hs a hm).elim h2 λhn=>bV hn e,S.fresh,S.alive⟩
theorem bZ.nil(S:bZ iq p q):bZ own p q:=S.ow λZ h=>h.elim
theorem bZ.ch(S:bZ own p q)(c:Ch io q.h h')(eR:∀a,io a->p.h.get? a=none\/own a/\∃o',h'.get? a=some o'/\∀o,q.h.get? a=some o->fA o=true->fA o'=true):bZ own p ⟨q.φ,h'⟩:=
 ⟨S.pre,λa o e h1 h2=>(S.keep a o e h1 h2).imp λo1 x=>⟨c a o1 x.1 λhi=>(eR a hi).elim (λhn=>bV hn e) λy=>x.2.fz (h2 y.1),x.2⟩,S.fresh,
  λa o e=>(S.alive a o e).elim λo1 x=>(Classical.em (io a)).elim (λhi=>(eR a hi).elim (λhn=>bV hn e) λy=>y.2.imp λo2 z=>⟨z.1,λh1 h2=>z.2 o1 x.1 (x.2 h1 h2)⟩) λhn=>⟨o1,c a o1 x.1 λhi=>absurd hi hn,x.2⟩⟩
theorem bZ.ext(S:bZ own p q)(e:aA q.h h'):bZ own p ⟨q.φ,h'⟩:=S.ch (io:=iq) e.ch λZ h=>h.elim
theorem bZ.cell(S:bZ own p q)(ha:a∈q.φ)(e:ExtBut a q.h h')(ho:h'.get? a=some o):bZ own p ⟨q.φ,h'⟩:=
 ⟨S.pre,λb o' x h1 h2=>(S.keep b o' x h1 h2).imp λo1 y=>⟨e b o1 (λe'=>bV (S.fresh b (e'▸ha) h1) x) y.1,y.2⟩,S.fresh,
  λb o' x=>(Classical.em (b=a)).elim (λe'=>⟨o,e'▸ho,λh1 Z=>bV (S.fresh b (e'▸ha) h1) x⟩) λhn=>(S.alive b o' x).imp λo1 y=>⟨e b o1 hn y.1,y.2⟩⟩
theorem bZ.adopt{D:Addr}(S:bZ own p q)(hD:p.h.get? D=none):bZ own p ⟨q.φ++[D],q.h⟩:=
 ⟨λl a e=>FW (S.pre l a e),S.keep,λa h1 h2=>(cF.mp h1).elim (λh=>S.fresh a h h2) λh=>cI.mp h▸hD,S.alive⟩
theorem bZ.kp(S:bZ own p q):Kp p q:=⟨S.pre,λa o z e hn=>⟨S.keep a o e hn (λZ=>z),S.qe e hn⟩⟩
theorem Ch.kp{φ:List Addr}(c:Ch io h h'):Kp ⟨φ,h⟩ ⟨φ,h'⟩:=⟨λZ Z e=>e,λa o z e hn=>⟨⟨o,c a o e λZ=>z,.refl⟩,hn⟩⟩
theorem Kp.refl:Kp p p:=⟨λZ Z e=>e,λZ o Z e hn=>⟨⟨o,e,.refl⟩,hn⟩⟩
theorem Kp.trans(S:Kp p q)(T:Kp q r):Kp p r:=⟨λl a e=>T.pre l a (S.pre l a e),λa o z e hn=>have h:=S.y7 a o z e hn;h.1.elim λo1 x=>have k:=T.y7 a o1 (x.2.fz z) x.1 h.2;⟨k.1.imp λo2 y=>⟨y.1,x.2.trans y.2⟩,k.2⟩⟩
theorem Kp.adopt{D:Addr}{φ:List Addr}(hD:∀o,h.get? D=some o->fz o=false):Kp ⟨φ,h⟩ ⟨φ++[D],h⟩:=
 ⟨λl a e=>FW e,λa o z e hn=>⟨⟨o,e,.refl⟩,λhm=>(cF.mp hm).elim hn λh=>no z (hD o (cI.mp h▸e))⟩⟩
theorem Kp.aC(K:Kp p q){xs:List Value}{n:Nat}(e:p.h.get? a=some (mX xs n))(hn:a∉p.φ):q.h.get? a=some (mX xs n)/\a∉q.φ:=have h:=K.y7 _ _ rfl e hn;⟨h.1.elim λo x=>x.2.eq rfl rfl▸x.1,h.2⟩
theorem bl.kp(K:Kp p q){v:V}{x:Value}(r:bl p v x):bl q v x:=
 bl.rec (motive_1:=λv x Z=>bl q v x) (motive_2:=λvs xs Z=>bJ q vs xs) .none .bool .int .str (λe Z z hn m=>have h:=K.aC e hn;.aC h.1 m z h.2) (λe=>.ref (K.pre _ _ e)) .fu .nil (λZ Z a b=>.cons a b) r
theorem bJ.kp(K:Kp p q){vs:List V}{xs:List Value}(r:bJ p vs xs):bJ q vs xs:=
 bJ.ind (M:=λvs xs=>bJ q vs xs) .nil (λa Z m=>.cons (a.kp K) m) r
theorem bl.mono(S:bZ own p q){v:V}{x:Value}(r:bl p v x):bl q v x:=r.kp S.kp
theorem bJ.mono(S:bZ own p q){v:List V}{x:List Value}(r:bJ p v x):bJ q v x:=r.kp S.kp
end
section
variable{p:Ws}{vs ws:List V}{xs ys:List Value}{v:V}{x:Value}
theorem bJ.k1(r:bJ p [v] xs)(T:List Value->Prop)(k:∀x,bl p v x->T [x]):T xs:=r.inv T λx Z r1 r2=>r2.inv (λxs=>T (x::xs)) (k x r1)
theorem bJ.k2{u:V}(r:bJ p [u,v] xs)(T:List Value->Prop)(k:∀x y,bl p u x->bl p v y->T [x,y]):T xs:=r.inv T λx Z r1 r2=>r2.k1 (λxs=>T (x::xs)) λy r2=>k x y r1 r2
theorem bJ.length(r:bJ p vs xs):vs.length=xs.length:=bJ.ind (M:=λvs xs=>vs.length=xs.length) rfl (λZ Z m=>bU (·+1) m) r
theorem bJ.append(r:bJ p vs xs)(q:bJ p ws ys):bJ p (vs++ws) (xs++ys):=bJ.ind (M:=λvs xs=>bJ p (vs++ws) (xs++ys)) q (λa Z m=>.cons a m) r
theorem bJ.one(r:bl p v x):bJ p [v] [x]:=.cons r .nil
theorem bJ.get'(r:bJ p vs xs):∀{i:Nat} {v:V},vs[i]?=some v->∃x,xs[i]?=some x/\bl p v x:=
 bJ.ind (M:=λvs xs=>∀{i:Nat} {v:V},vs[i]?=some v->∃x,xs[i]?=some x/\bl p v x) (λe=>bV getElem?_nil e) (λ{_ x _ _} a _ m i=>match i with|0=>λe=>⟨x,rfl,dA e▸a⟩|i+1=>λe=>m (i:=i) e) r
theorem bJ.get{P:Prop}{i:Nat}(r:bJ p vs xs)(e:vs[i]?=some v)(k:∀x,xs[i]?=some x->bl p v x->P):P:=(r.get' e).elim λx h=>k x h.1 h.2
theorem bJ.take(r:bJ p vs xs):∀k,bJ p (vs.take k) (xs.take k):=
 bJ.ind (M:=λvs xs=>∀k,bJ p (vs.take k) (xs.take k)) (λk=>by rw[List.take_nil,List.take_nil];exact .nil) (λa Z m k=>match k with|0=>.nil|k+1=>.cons a (m k)) r
theorem bJ.drop(r:bJ p vs xs):∀k,bJ p (vs.drop k) (xs.drop k):=
 bJ.ind (M:=λvs xs=>∀k,bJ p (vs.drop k) (xs.drop k)) (λk=>by rw[drop_nil,drop_nil];exact .nil) (λa b m k=>match k with|0=>.cons a b|k+1=>m k) r
theorem bJ.set(r:bJ p vs xs)(q:bl p v x):∀k,bJ p (vs.set k v) (xs.set k x):=
 bJ.ind (M:=λvs xs=>∀k,bJ p (vs.set k v) (xs.set k x)) (λZ=>.nil) (λa b m k=>match k with|0=>.cons q b|k+1=>.cons a (m k)) r
end
inductive L2{α β:Type}(M:α->β->Prop):List α->List β->Prop
 |nil:L2 M [] []
 |cons {a:α} {b:β} {as:List α} {bs:List β}:M a b->L2 M as bs->L2 M (a::as) (b::bs)
section
variable{α β:Type}{M N:α->β->Prop}{as YF:List α}{bs rt:List β}
theorem L2.imp(h:L2 M as bs)(k:∀a b,M a b->N a b):L2 N as bs:=h.rec .nil λa Z m=>.cons (k _ _ a) m
theorem L2.length(h:L2 M as bs):as.length=bs.length:=h.rec rfl λZ Z m=>bU (·+1) m
theorem L2.snoc{a:α}{b:β}(h:L2 M as bs)(q:M a b):L2 M (as++[a]) (bs++[b]):=h.rec (.cons q .nil) λa Z m=>.cons a m
theorem L2.map{f:α->α}{g:β->β}(h:L2 M as bs)(k:∀a b,M a b->M (f a) (g b)):L2 M (as.map f) (bs.map g):=h.rec .nil λa Z m=>.cons (k _ _ a) m
theorem L2.any{f:α->Bool}{g:β->Bool}(h:L2 M as bs)(k:∀a b,M a b->f a=g b):as.any f=bs.any g:=h.rec rfl λa Z m=>by rw[any_cons,any_cons,k _ _ a,m]
theorem L2.get(h:L2 M as bs):∀{i:Nat} {a:α} {b:β},as[i]?=some a->bs[i]?=some b->M a b:=by
 induction h with
 |nil=>exact λe Z=>bV getElem?_nil e
 |cons q _ m=>
  intro i
  cases i with
  |zero=>exact λe e'=>dA e▸dA e'▸q
  |succ i=>exact λe e'=>m (i:=i) e e'
theorem L2.find{f:α->Bool}{g:β->Bool}(h:L2 M as bs)(k:∀a b,M a b->f a=g b):(as.find? f=none/\bs.find? g=none)\/∃a b,as.find? f=some a/\bs.find? g=some b/\M a b:=
 h.rec (.inl ⟨rfl,rfl⟩) λ{a b _ _} q _ m=>by
  rw[find?_cons,find?_cons,k _ _ q]
  cases g b with
  |true=>exact .inr ⟨a,b,rfl,rfl,q⟩
  |false=>exact m
end
def nL(p:Ws)(e:Int×V)(kv:Int×Value):Prop:=e.1=kv.1/\bl p e.2 kv.2
def oQ(p:Ws)(e:(Int×Bool)×V)(kv:List Int×Addr×Value):Prop:=kv.1=[e.1.1,if e.1.2 then 1 else 0]/\bl p (mZ e.1) (.ref kv.2.1)/\bl p e.2 kv.2.2
theorem nL.kp{p q:Ws}(K:Kp p q)(e:Int×V)(kv:Int×Value)(h:nL p e kv):nL q e kv:=⟨h.1,h.2.kp K⟩
theorem oQ.kp{p q:Ws}(K:Kp p q)(e:(Int×Bool)×V)(kv:List Int×Addr×Value)(h:oQ p e kv):oQ q e kv:=⟨h.1,h.2.1.kp K,h.2.2.kp K⟩
noncomputable def FY(k:Int):Value->Bool
 |.int i _=>i==k
 |.bool b=>(if b then(1:Int) else 0)==k
 |_=>false
end Mine
namespace Mine
open PySem
section
variable{A:Around}{E:Value->Shared->Prop}{s:Shared}
noncomputable def bI(b:Bool):Int:=if b then 1 else 0
theorem L5{b:Bool}{Q:Int->Shared->Prop}(h:Q (hashInt (bI b)) {s with toks:=s.toks+1}):wpAny (model X.prog X.w) A (pyHash (.bool b)) Q E s:=by
 unfold pyHash
 refine aY ?_
 rw[cRoomFor,bG (by exact gq)]
 refine bS ?_
 refine aY (wpAny_specialOf (show s.TypeIs (.bool b) "bool" from rfl) F.slot_bool_hash.lookup ?_)
 refine(?_:wpAny _ _ (if(some (Value.builtin "int.__hash__")==some Value.none)=true then _ else _) Q E s)
 rw[bG (by rw[beq_builtin_none];exact gq)]
 refine aY (wpAny_specialOf (show s.TypeIs (.bool b) "bool" from rfl) F.slot_bool_hash.lookup ?_)
 refine(?_:wpAny _ _ (callSpecialIfBoundUnlessNone? (.bool b) "__hash__" _ >>= _) Q E s)
 refine aY (wpAny_callSpecialIfBoundUnlessNone?_slot (show s.TypeIs (.bool b) "bool" from rfl) F.slot_bool_hash
  (wpAny_call_entry F.slot_bool_hash (show s.TypeIs (.bool b) "bool" from rfl) entry_int_hash
   (show wpAny _ _ (do ret (<-mkInt (rawHash (bI b)))) _ _ s from wpAny_ret_mkInt ?_) (args_int_hash _)))
 cases b<;>exact bS h
theorem xf{k:Int}{v:Value}(h:FY k v=true){P:Value->Prop}(ki:∀t,P (.int k t))(kb:∀b,bI b=k->P (.bool b)):P v:=by
 cases v with
 |int i t=>obtain rfl:=eq_of_beq h;exact ki t
 |bool b=>exact kb b (eq_of_beq h)
 |_=>exact Bool.noConfusion h
noncomputable def tN:KeyKind X.prog X.w Int where
 is:=FY
 hash:=hashInt
 inj:=λv a b h1 h2=>by cases v with
  |int i t=>exact(eq_of_beq h1).symm.trans (eq_of_beq h2)
  |bool b=>exact(eq_of_beq h1).symm.trans (eq_of_beq h2)
  |_=>exact Bool.noConfusion h1
 byValue:=λk v h=>xf (P:=λv=>carriedByValue v=true) h (λZ=>rfl) λZ Z=>rfl
 pyHash:=λ{A E s k v Q} hv h=>xf (P:=λv=>wpAny (model X.prog X.w) A (PySem.pyHash v) Q E s) hv (λZ=>wpAny_pyHash_int h) λb e=>L5 (e▸h)
 eqBool:=λ{A E s a b u v Q} hu hv h=>by
  refine xf (P:=λu=>wpAny (model X.prog X.w) A (PySem.eqBool u v) Q E s) hu (λt=>?_) λc e=>?_
  ·refine xf (P:=λv=>wpAny (model X.prog X.w) A (PySem.eqBool _ v) Q E s) hv (λt'=>SeqAt.EqAt.int_int _ _ _ _ _ _ _ _ h) λd e'=>?_
   subst e'
   exact SeqAt.EqAt.int_bool _ _ _ _ _ _ _ h
  ·subst e
   refine xf (P:=λv=>wpAny (model X.prog X.w) A (PySem.eqBool _ v) Q E s) hv (λt'=>SeqAt.EqAt.bool_int _ _ _ _ _ _ _ h) λd e'=>?_
   subst e'
   refine SeqAt.EqAt.bool_bool _ _ _ _ _ _ ?_
   cases c<;>cases d<;>exact h
 «strs»:=λk x t v h=>Bool.noConfusion h
noncomputable abbrev m8:KeyKind X.prog X.w Int:=intKind X.prog X.w
noncomputable abbrev nM:HeapKind X.prog X.w (List Int):=tupleKind tN
noncomputable def pK(q:Int×Bool):List Int:=[q.1,bI q.2]
theorem FZ{q q':Int×Bool}(h:pK q=pK q'):q=q':=by
 obtain⟨i,b⟩:=q
 obtain⟨j,c⟩:=q'
 have h1:i=j:=(g9 h).1
 have h2:bI b=bI c:=(g9 (g9 h).2).1
 clear h
 subst h1
 cases b<;>cases c<;>first|rfl|exact absurd h2 (by decide)
theorem xi{p:Ws}{q:Int×Bool}{a:Addr}(r:bl p (mZ q) (.ref a)):nM.is p.h (pK q) a:=by
 have key:∀x,bl p (mZ q) x->x=.ref a->nM.is p.h (pK q) a:=λx r=>r.inv (λx=>x=.ref a->nM.is p.h (pK q) a) λb n xs e rl Z Z h=>by
  cases h
  refine⟨_,_,n,e,rfl,rfl,?_⟩
  refine(?_:ItemsAre tN (pK q) xs)
  exact rl.inv (λxs=>ItemsAre tN (pK q) xs) λx xs r1 rl=>r1.inv (λx=>ItemsAre tN (pK q) (x::xs)) λt=>rl.inv (λxs=>ItemsAre tN (pK q) (_::xs)) λy ys r2 rl=>
   r2.inv (λy=>ItemsAre tN (pK q) (_::y::ys)) (rl.inv (λys=>ItemsAre tN (pK q) (_::_::ys)) (.cons (gr _) (.cons (gr _) .nil)))
 exact key _ r rfl
end
noncomputable def lk(ns:List Str)(ρ:bB)(x:Str):Option V:=(ρ[ns.idxOf x]?).join
inductive jK(p:Ws):Option V->Option Value->Prop
 |none:jK p none none
 |some {v:V} {x:Value}:bl p v x->jK p (some v) (some x)
theorem jK.kp{p q:Ws}(K:Kp p q){v:Option V}{x:Option Value}(r:jK p v x):jK q v x:=r.casesOn (motive:=λv x Z=>jK q v x) .none λr=>.some (r.kp K)
theorem jK.inv{p:Ws}{v:V}{u:Option V}{x:Option Value}(r:jK p u x)(e:u=Option.some v)(P:Option Value->Prop)(k:∀y,bl p v y->P (Option.some y)):P x:=
 r.casesOn (motive:=λu x Z=>u=Option.some v->P x) (λe=>bV rfl e) (λr e=>k _ (dA e▸r)) e
def vo(p:Ws)(vs:Array Value)(T:Addr)(o:Obj):Prop:=vs[1]?=some (.ref T)/\p.h.get? T=some o/\gU o=true/\T∉p.φ/\X.eF.get? T=none
def xj(p:Ws)(vs:Array Value):Prop:=vs[1]?=some .none\/∃T o,vo p vs T o
theorem vo.kp{p q:Ws}{vs:Array Value}{T:Addr}{o:Obj}(K:Kp p q)(x:vo p vs T o):∃o',vo q vs T o':=have y:=K.y7 T o (FX x.2.2.1) x.2.1 x.2.2.2.1;y.1.imp λo' z=>⟨x.1,z.1,z.2.tb x.2.2.1,y.2,x.2.2.2.2⟩
theorem xj.kp{p q:Ws}{vs:Array Value}(K:Kp p q)(h:xj p vs):xj q vs:=h.imp id λh=>h.imp λT h=>h.elim λo x=>x.kp K
structure vp(p:Ws)(fs:bB)(m:Str->Option Value):Prop where
 len:fs.length=gK.ci.length
 at':∀x,x∈gK.ci->jK p (lk gK.ci fs x) (m x)
 out:∀x,x∉gK.ci->m x=none
theorem vp.kp{p q:Ws}{fs:bB}{m:Str->Option Value}(K:Kp p q)(h:vp p fs m):vp q fs m:=⟨h.len,λx hx=>(h.at' x hx).kp K,h.out⟩
inductive fV(p:Ws)(a:Addr):bt->Prop
 |list {vs:List V} {xs:List Value} {n:Nat}:p.h.get? a=some (iP xs n)->bJ p vs xs->vs.length<=16000000->fV p a (.list vs)
 |dict {es:List (Int×V)} {o:Obj} {en:Array DictEntry} {ep:Nat} {kvs:List (Int×Value)}:p.h.get? a=some o->o.ExactDict->o.data=.dict en ep->KeysOf m8 en->Pairs m8 en.toList kvs->(kvs.map (·.1)).Nodup->L2 (nL p) es kvs->(a==sysModules)=false->es.length<=16000000->fV p a (.dict ep es)
 |c6 {es:List ((Int×Bool)×V)} {o:Obj} {en:Array DictEntry} {ep:Nat} {xs:List (List Int×Addr×Value)}:p.h.get? a=some o->o.ExactDict->o.data=.dict en ep->en.toList=xs.map (entryOfKey nM)->(xs.map (·.1)).Nodup->L2 (oQ p) es xs->(a==sysModules)=false->es.length<=16000000->fV p a (.c6 ep es)
 |exc {k:Nat} {o:Obj} {C:Addr} {vs:Array Value}:p.h.get? a=some o->X.exc[k]?=some C->o.cls=.ref C->o.data=.fields vs->xj p vs->fV p a (.exc k)
 |obj {t:Nat} {o:Obj} {d:Addr}:p.h.get? a=some o->o.cls=.ref X.bk->(∀c,o.data≠.cls c)->o.dict=some d->p.φ[t]?=some d->fV p a (.obj t)
 |ci {fs:bB} {m:Str->Option Value}:p.h.Ns1 a m->vp p fs m->fV p a (.ci fs)
def fV.Inv(p:Ws)(a:Addr)(G:Prop):bt->Prop
 |.list vs=>∀xs n,p.h.get? a=some (iP xs n)->bJ p vs xs->vs.length<=16000000->G
 |.dict ep es=>∀o en kvs,p.h.get? a=some o->o.ExactDict->o.data=.dict en ep->KeysOf m8 en->Pairs m8 en.toList kvs->(kvs.map (·.1)).Nodup->L2 (nL p) es kvs->(a==sysModules)=false->es.length<=16000000->G
 |.c6 ep es=>∀o en xs,p.h.get? a=some o->o.ExactDict->o.data=.dict en ep->en.toList=xs.map (entryOfKey nM)->(xs.map (·.1)).Nodup->L2 (oQ p) es xs->(a==sysModules)=false->es.length<=16000000->G
 |.exc k=>∀o C vs,p.h.get? a=some o->X.exc[k]?=some C->o.cls=.ref C->o.data=.fields vs->xj p vs->G
 |.obj t=>∀o d,p.h.get? a=some o->o.cls=.ref X.bk->(∀c,o.data≠.cls c)->o.dict=some d->p.φ[t]?=some d->G
 |.ci fs=>∀m,p.h.Ns1 a m->vp p fs m->G
theorem fV.inv{p:Ws}{a:Addr}{c:bt}(h:fV p a c)(G:Prop):fV.Inv p a G c->G:=
 h.casesOn (motive:=λc Z=>fV.Inv p a G c->G) (λe r z k=>k _ _ e r z) (λe x1 x2 x3 x4 x5 r z n k=>k _ _ _ e x1 x2 x3 x4 x5 r z n) (λe x1 x2 x3 x4 r z n k=>k _ _ _ e x1 x2 x3 x4 r z n) (λe x1 x2 x3 x4 k=>k _ _ _ e x1 x2 x3 x4) (λe x1 x2 x3 x4 k=>k _ _ e x1 x2 x3 x4) (λe x k=>k _ e x)
structure SR(p:Ws)(H:Hp):Prop where
 keep:aA X.eF p.h
 fresh:∀a,a∈p.φ->X.eF.get? a=none
 nodup:p.φ.Nodup
 len:p.φ.length=H.length
 cell:∀(l:Nat) (c:bt),H[l]?=some c->∃a,p.φ[l]?=some a/\fV p a c
def Ap(p:Ws)(a:Addr):Prop:=a∉p.φ/\X.eF.get? a=none
section
variable{own io:Addr->Prop}{p q:Ws}{h h':Heap}{H:Hp}{a:Addr}{c:bt}{o:Obj}{l:Nat}
theorem fV.kp(K:Kp p q)(ha:∀o,p.h.get? a=some o->q.h.get? a=some o)(r:fV p a c):fV q a c:=
 fV.casesOn (motive:=λc Z=>fV q a c) r (λe r z=>.list (ha _ e) (r.kp K) z) (λe x1 x2 x3 x4 x5 r z n=>.dict (ha _ e) x1 x2 x3 x4 x5 (r.imp (nL.kp K)) z n) (λe x1 x2 x3 x4 r z n=>.c6 (ha _ e) x1 x2 x3 x4 (r.imp (oQ.kp K)) z n)
  (λe x1 x2 x3 x4=>.exc (ha _ e) x1 x2 x3 (x4.kp K)) (λe x1 x2 x3 x4=>.obj (ha _ e) x1 x2 x3 (K.pre _ _ x4)) (λe x=>.ci (e.at ha) (x.kp K))
theorem fV.ob(r:fV p a c):∃o,p.h.get? a=some o:=
 r.casesOn (λe Z Z=>⟨_,e⟩) (λe Z Z Z Z Z Z Z Z=>⟨_,e⟩) (λe Z Z Z Z Z Z Z=>⟨_,e⟩) (λe Z Z Z Z=>⟨_,e⟩) (λe Z Z Z Z=>⟨_,e⟩) (λe Z=>e.elim λo x=>x.elim λZ x=>x.elim λZ x=>⟨o,x.1⟩)
theorem SR.at{G:Prop}(R:SR p H)(e:H[l]?=some c)(k:∀a,p.φ[l]?=some a->fV p a c->G):G:=(R.cell l c e).elim λa h=>k a h.1 h.2
theorem SR.obj(R:SR p H)(ha:a∈p.φ):∃o,p.h.get? a=some o:=
 (List.mem_iff_getElem?.mp ha).elim λl e=>R.at (l:=l) (fL (R.len▸(dZ.mp e).1)) λb hb r=>dA (hb.symm.trans e)▸r.ob
theorem SR.ch(R:SR ⟨p.φ,h⟩ H)(eR:∀a,io a->Ap p a)(c:Ch io h h'):SR ⟨p.φ,h'⟩ H:=
 ⟨λa o e=>c a o (R.keep a o e) λhi=>bV (eR a hi).2 e,R.fresh,R.nodup,R.len,λl x e=>R.at e λa ha r=>⟨a,ha,r.kp c.kp λo e=>c a o e λhi=>absurd (iz ha) (eR a hi).1⟩⟩
theorem SR.ext(R:SR ⟨p.φ,h⟩ H)(e:aA h h'):SR ⟨p.φ,h'⟩ H:=R.ch (io:=iq) (λZ h=>h.elim) e.ch
theorem i5(h:Heap){b:Addr}(hb:h.objs.size<=b):h.get? b=none:=by
 cases e:h.get? b with
 |none=>rfl
 |some o=>exact absurd (nB e) (not_lt.mpr hb)
theorem SR.new(R:SR p H)(hn:p.h.get? a=none):Ap p a:=
 ⟨λhm=>(R.obj hm).elim λZ e=>bV hn e,by
  cases e:X.eF.get? a with
  |none=>rfl
  |some o=>exact bV hn (R.keep a o e)⟩
theorem BE{α:Type}{l:List α}(hn:l.Nodup){i j:Nat}{x:α}(hi:l[i]?=some x)(hj:l[j]?=some x):i=j:=(List.getElem?_inj (dZ.mp hi).1 hn).mp (hi.trans hj.symm)
theorem SR.adopt(R:SR p H)(hD:Ap p a)(hf:∀o,p.h.get? a=some o->fz o=false)(hc:fV p a c):SR ⟨p.φ++[a],p.h⟩ (H++[c]):=by
 have K:Kp p ⟨p.φ++[a],p.h⟩:=Kp.adopt (φ:=p.φ) (h:=p.h) hf
 refine⟨R.keep,λb hb=>(cF.mp hb).elim (R.fresh b) λh=>cI.mp h▸hD.2,?_,by rw[bX,bX,R.len];rfl,λl x e=>?_⟩
 ·exact nodup_append.mpr ⟨R.nodup,List.pairwise_singleton _ _,λx hx y hy e=>hD.1 (cI.mp hy▸e▸hx)⟩
 ·rcases lt_or_ge l H.length with hl|hl
  ·rw[tx hl] at e
   exact R.at e λb hb r=>⟨b,K.pre l b hb,r.kp K λZ e=>e⟩
  ·have gV:l=H.length:=Nat.le_antisymm (Nat.lt_succ_iff.mp (by simpa using (dZ.mp e).1)) hl
   subst gV
   rw[qN (cg _),sub_self] at e
   exact⟨a,by rw[qN (iX R.len),R.len,sub_self];rfl,dA e▸hc.kp K λZ e=>e⟩
theorem SR.L6(R:SR p H)(ha:p.φ[l]?=some a)(K:Kp p ⟨p.φ,h'⟩)(h0:aA X.eF h')(e:∀b o,b∈p.φ->b≠a->p.h.get? b=some o->h'.get? b=some o)(hc:fV ⟨p.φ,h'⟩ a c):SR ⟨p.φ,h'⟩ (H.set l c):=by
 refine⟨h0,R.fresh,R.nodup,by rw[kG];exact R.len,λk x hx=>?_⟩
 by_cases hk:k=l
 ·subst hk
  rw[sd (R.len▸(dZ.mp ha).1)] at hx
  exact⟨a,ha,dA hx▸hc⟩
 ·rw[getElem?_set_ne (Ne.symm hk)] at hx
  exact R.at hx λb hb r=>⟨b,hb,r.kp K λo y=>e b o (iz hb) (λe'=>hk (BE R.nodup hb (e'▸ha))) y⟩
theorem F0(ha:p.φ[l]?=some a)(e:ExtBut a p.h h'):Kp p ⟨p.φ,h'⟩:=⟨λZ Z e=>e,λb o z x hn=>⟨⟨o,e b o (λe'=>hn (e'▸iz ha)) x,.refl⟩,hn⟩⟩
theorem SR.set(R:SR p H)(ha:p.φ[l]?=some a)(e:ExtBut a p.h h')(hc:fV ⟨p.φ,h'⟩ a c):SR ⟨p.φ,h'⟩ (H.set l c):=
 R.L6 ha (F0 ha e) (λb o x=>e b o (λe'=>bV (R.fresh b (e'▸iz ha)) x) (R.keep b o x)) (λb o Z hn x=>e b o hn x) hc
end
end Mine
namespace Mine
open PySem PySem.Calls
def rA(k:Option NameKind):Prop:=By k=true
def m9(env:Env)(a:Addr):Prop:=a=env.locals\/∃x,env.cells.lookup x=some a
structure Fc(env:Env):Prop where
 fn:env.scope.kind=.function
 glob:env.globals=mainGlobals
 blt:env.builtins=builtinsNs
 gen:env.scope.isGenerator=false/\env.scope.isCoroutine=false/\interactive env=false
 apart:∀x y c,env.cells.lookup x=some c->env.cells.lookup y=some c->x=y
 ne:∀q,q∈env.cells->q.2≠env.locals
structure FR(env:Env)(ns:List Str)(ρ:bB)(p:Ws):Prop where
 fc:Fc env
 len:ρ.length=ns.length
 loc:∃m,p.h.Ns env.locals m/\∀x,x∈ns->env.kindOf x=some .local->jK p (lk ns ρ x) (m x)
 tO:∀x,x∈ns->rA (env.kindOf x)->∃c v,env.cells.lookup x=some c/\p.h.IsCell c v/\jK p (lk ns ρ x) v
 ap:∀a,m9 env a->Ap p a
 live:∀a,m9 env a->∃o,p.h.get? a=some o
section
variable{env:Env}{ns:List Str}{ρ:bB}{own io:Addr->Prop}{p q:Ws}{h h':Heap}
theorem mem_lookup{α:Type}{x:Str}{c:α}:∀{l:List (Str×α)},l.lookup x=some c->(x,c)∈l
 |(y,d)::r,h=>by
  rw[mR] at h
  cases e:x==y with
  |true=>rw[e] at h;rw[eq_of_beq e,dA h];exact .head _
  |false=>rw[e] at h;exact .tail _ (mem_lookup h)
theorem vq{x:Str}{c:Addr}(h:env.cells.lookup x=some c):m9 env c:=.inr ⟨x,h⟩
theorem L7{a:Addr}{m:Str->Option Value}(hn:h.Ns a m)(e:∀o,h.get? a=some o->h'.get? a=some o):h'.Ns a m:=
 hn.imp λo h=>h.imp λes h=>h.imp λep h=>⟨e o h.1,h.2⟩
theorem BF{a:Addr}{v:Option Value}(hn:h.IsCell a v)(e:∀o,h.get? a=some o->h'.get? a=some o):h'.IsCell a v:=hn.imp λo h=>⟨e o h.1,h.2⟩
theorem F1{a:Addr}{m:Str->Option Value}(hn:h.Ns a m)(e:∀o,h.get? a=some o->∃o',h'.get? a=some o'/\jJ o o'):h'.Ns a m:=
 hn.elim λo x=>x.elim λes x=>x.elim λep x=>(e o x.1).elim λo' y=>⟨o',es,ep,y.1,(y.2.data (BD (y4 x.2.1))).1.trans x.2.1,x.2.2⟩
theorem L8{a:Addr}{v:Option Value}(hn:h.IsCell a v)(e:∀o,h.get? a=some o->∃o',h'.get? a=some o'/\jJ o o'):h'.IsCell a v:=hn.elim λo x=>(e o x.1).elim λo' y=>⟨o',y.1,(y.2.data (by unfold gU;rw[x.2])).1.trans x.2⟩
theorem FR.kp(F:FR env ns ρ p)(K:Kp p q)(hk:∀a,m9 env a->(∀o,p.h.get? a=some o->∃o',q.h.get? a=some o'/\jJ o o')/\a∉q.φ):FR env ns ρ q:=
 ⟨F.fc,F.len,F.loc.imp λm h=>⟨F1 h.1 (hk _ (.inl rfl)).1,λx hx hl=>(h.2 x hx hl).kp K⟩,λx hx hc=>(F.tO x hx hc).imp λc h=>h.imp λv h=>⟨h.1,L8 h.2.1 (hk c (vq h.1)).1,h.2.2.kp K⟩,
  λa ha=>⟨(hk a ha).2,(F.ap a ha).2⟩,λa ha=>(F.live a ha).elim λo e=>((hk a ha).1 o e).imp λZ x=>x.1⟩
theorem FR.mono(F:FR env ns ρ p)(S:bZ own p q)(hn:∀a,m9 env a->¬own a):FR env ns ρ q:=
 F.kp S.kp λa ha=>⟨λo e=>S.keep a o e (F.ap a ha).1 λho=>absurd ho (hn a ha),(F.live a ha).elim λo e=>S.qe e (F.ap a ha).1⟩
theorem FR.ch(F:FR env ns ρ ⟨p.φ,h⟩)(c:Ch io h h')(hn:∀a,m9 env a->¬io a):FR env ns ρ ⟨p.φ,h'⟩:=
 F.kp c.kp λa ha=>⟨λo e=>⟨o,c a o e λho=>absurd ho (hn a ha),.refl⟩,(F.ap a ha).1⟩
end
theorem i6(i:Nat)(h:i<pU.length):pU[i]'h∈pU:=getElem_mem h
structure mn(A:Around)(n:Nat):Prop where
 depth:A.depth+n+110<=recursionLimit
 units:A.units+5*n+200<=cLine
 frames:∃fe outer,A.frames=some (fe::outer)/\fe.scope.isGenerator=false/\fe.scope.isCoroutine=false/\fe.builtins=builtinsNs/\fe.globals=mainGlobals
theorem mn.less{A:Around}{n m:Nat}(rm:mn A n)(h:m<=n):mn A m:=⟨by have:=rm.depth;exact aR (mS (lD h _) _) this,by have:=rm.units;exact aR (mS (lD (qO 5 h) _) _) this,rm.frames⟩
noncomputable def j3(A:Around):List Env:=A.frames.getD []
def nN(A:Around)(p:Ws):Prop:=∀e,e∈j3 A->e.scope.kind=.function/\∃L o,e.frame=some L/\p.h.get? L=some o/\fA o=true/\Ap p L
theorem nN.kP{A:Around}{own:Addr->Prop}{p q:Ws}(F:nN A p)(S:bZ own p q):nN A q:=λe he=>
 ⟨(F e he).1,(F e he).2.imp λL x=>x.elim λo x=>(S.alive L o x.2.1).imp λo' y=>⟨x.1,y.1,y.2 x.2.2.2.1 x.2.2.1,S.qe x.2.1 x.2.2.2.1,x.2.2.2.2⟩⟩
noncomputable abbrev upd(s:Shared)(h:Heap)(tk:Nat):Shared:={s with heap:=h,toks:=tk}
structure Pt where
 A:Around
 φ:List Addr
 H:Hp
 s:Shared
 Ex:Value->Shared->Prop
 rm:mn A 0
 R:SR ⟨φ,s.heap⟩ H
 fr:nN A ⟨φ,s.heap⟩
noncomputable abbrev Pt.w(P:Pt):Ws:=⟨P.φ,P.s.heap⟩
theorem Pt.u1(P:Pt):P.A.units+1<cLine:=by have:=P.rm.units;lia
structure Nx(P:Pt)(H:Hp)where
 φ:List Addr
 h:Heap
 tk:Nat
 R:SR ⟨φ,h⟩ H
 S:bZ iq P.w ⟨φ,h⟩
section
variable{P:Pt}{H H':Hp}
noncomputable abbrev Nx.w(N:Nx P H):Ws:=⟨N.φ,N.h⟩
noncomputable abbrev Nx.s(N:Nx P H):Shared:=(upd P.s N.h N.tk)
noncomputable abbrev Nx.pt(N:Nx P H):Pt:=⟨P.A,N.φ,H,N.s,P.Ex,P.rm,N.R,P.fr.kP N.S⟩
noncomputable abbrev Nx.then(N:Nx P H)(N':Nx N.pt H'):Nx P H':=⟨N'.φ,N'.h,N'.tk,N'.R,N.S.trans N'.S⟩
noncomputable abbrev Pt.g6(P:Pt)(tk:Nat):Nx P P.H:=⟨P.φ,P.s.heap,tk,P.R,.refl⟩
noncomputable abbrev Pt.ext(P:Pt){h':Heap}(e:aA P.s.heap h')(tk:Nat):Nx P P.H:=⟨P.φ,h',tk,P.R.ext (p:=P.w) e,bZ.ext (q:=P.w) .refl e⟩
noncomputable abbrev Pt.set(P:Pt){l:Nat}{a:Addr}{c:bt}{h':Heap}(ha:P.φ[l]?=some a)(e:ExtBut a P.s.heap h')(hc:fV ⟨P.φ,h'⟩ a c)(tk:Nat):Nx P (P.H.set l c):=
 ⟨P.φ,h',tk,SR.set (p:=P.w) P.R ha e hc,hc.ob.elim λZ ho=>bZ.cell (q:=P.w) .refl (iz ha) e ho⟩
theorem Pt.vr(P:Pt){l:Nat}{a:Addr}{h':Heap}(ha:P.φ[l]?=some a)(e:ExtBut a P.s.heap h'):Kp P.w ⟨P.φ,h'⟩:=F0 (p:=P.w) ha e
end
theorem xk{α:Type}{A:Around}{m:Sem α}{Q:α->Shared->Prop}{E:Value->Shared->Prop}{s:Shared}(h:wpAny X.M A m Q NE s):wpAny X.M A m Q E s:=gE h (λZ Z q=>q) λZ Z h=>h.elim
def Kn(P:Pt)(post:PQ)(Q:Value->Shared->Prop):Prop:=∀v H,post v H->∀(N:Nx P H) x,bl N.w v x->Q x N.s
def BG(P:Pt)(m:Nat)(post:List V->Hp->Prop)(Q:List Value->Shared->Prop):Prop:=∀v H,post v H->v.length=m->∀(N:Nx P H) x,bJ N.w v x->Q x N.s
def xl(P:Pt)(post:PQ)(Q:Bool->Shared->Prop):Prop:=∀v H,post v H->aI (truthy H v) λb=>∀(N:Nx P H),Q b N.s
theorem aI.i{α:Type}{o:Option α}{f:α->Prop}{a:α}(e:o=some a)(h:f a):aI o f:=by rw[e];exact h
theorem aI.m{α:Type}{o:Option α}{f g:α->Prop}(h:aI o f)(k:∀a,f a->g a):aI o g:=by
 cases o
 ·exact h
 ·exact k _ h
theorem aI.at{α:Type}{o:Option α}{f:α->Prop}{a:α}(e:o=some a)(h:aI o f):f a:=by rw[e] at h;exact h
def y9(P:Pt)(post:Bool->Hp->Prop)(Q:Bool->Shared->Prop):Prop:=∀v H,post v H->∀(N:Nx P H),Q v N.s
section
variable{P:Pt}{H:Hp}{Q:Value->Shared->Prop}
theorem Kn.nx{post:PQ}(k:Kn P post Q)(N:Nx P H):Kn N.pt post Q:=λv H' p N' x r=>k v H' p (N.then N') x r
theorem xl.nx{post:PQ}{Q:Bool->Shared->Prop}(k:xl P post Q)(N:Nx P H):xl N.pt post Q:=λv H' p=>(k v H' p).m λb h N'=>h (N.then N')
theorem y9.nx{post:Bool->Hp->Prop}{Q:Bool->Shared->Prop}(k:y9 P post Q)(N:Nx P H):y9 N.pt post Q:=λv H' p N'=>k v H' p (N.then N')
theorem Kn.now{post:PQ}{v:V}{x:Value}(k:Kn P post Q)(p:post v P.H)(r:bl P.w v x)(tk:Nat):Q x (upd P.s P.s.heap tk):=k v P.H p (P.g6 tk) x r
theorem Kn.list{post:PQ}{vs:List V}{xs:List Value}{h':Heap}{c:Nat}(k:Kn P post Q)(e:aA P.s.heap h')(D:Addr)(hD:P.s.heap.get? D=none)(hg:h'.get? D=some (iP xs c))(r:bJ P.w vs xs)(hz:vs.length<=16000000)(p:mm vs P.H post)(tk:Nat):Q (.ref D) (upd P.s h' tk):=
 have K:=(bZ.ext (own:=iq) (p:=P.w) (q:=P.w) .refl e)
 have fr:=P.R.new (a:=D) hD
 have fr':Ap ⟨P.φ,h'⟩ D:=fr
 k _ _ p ⟨P.φ++[D],h',tk,SR.adopt (p:=⟨P.φ,h'⟩) (c:=.list vs) (P.R.ext (p:=P.w) e) fr' (λo x=>by rw[hg] at x;cases x;exact pZ rfl rfl) (.list hg (r.mono K) hz),K.adopt hD⟩ _
  (.ref (by rw[<-P.R.len,qN (cg _),sub_self];rfl))
end
def F2(a b:Option NameKind):Prop:=a=b\/(rA a/\rA b)
def Kinds(sc:Scope)(env:Env):Prop:=∀x,F2 (sc.names.lookup x) (env.kindOf x)
structure Lv where
 n:Nat
 m:Nat
 f:Sn
 x:PQ
noncomputable abbrev Lv.c(σ:Lv):Ct:=⟨ay σ.m,σ.x⟩
noncomputable abbrev Lv.ex(σ:Lv)(x:PQ):Lv:=⟨σ.n,σ.m,σ.f,x⟩
noncomputable abbrev Lv.no(σ:Lv):Lv:=σ.ex λZ Z=>False
def tP(own:Addr->Prop)(w:Ws)(s:Shared)(x:PQ)(Ex:Value->Shared->Prop):Prop:=∀v H,x v H->∀(φ:List Addr) (h:Heap) (tk:Nat),SR ⟨φ,h⟩ H->bZ own w ⟨φ,h⟩->∀y,bl ⟨φ,h⟩ v y->Ex y (upd s h tk)
structure Fp(σ:Lv)extends Pt where
 env:Env
 ρ:bB
 own:Addr->Prop
 kd:Kinds σ.f.sc env
 F:FR env σ.f.ns ρ ⟨φ,s.heap⟩
 rn:mn A σ.n
 hf:∃fe,(j3 A).head?=some fe/\fe.frame=env.frame
 calm:σ.f.hd=false->A.handled=none
 kx:tP own ⟨φ,s.heap⟩ s σ.x Ex
noncomputable abbrev Fp.to{σ:Lv}(P:Fp σ){H:Hp}(N:Nx P.toPt H):Fp σ:=⟨N.pt,P.env,P.ρ,P.own,P.kd,P.F.mono N.S λZ Z h=>h,P.rn,P.hf,P.calm,λv H' p φ h tk R S y r=>P.kx v H' p φ h tk R (N.S.nil.trans S) y r⟩
noncomputable abbrev Fp.ex{σ:Lv}(P:Fp σ)(x:PQ)(Ex:Value->Shared->Prop)(kx:tP P.own P.w P.s x Ex):Fp (σ.ex x):=⟨⟨P.A,P.φ,P.H,P.s,Ex,P.rm,P.R,P.fr⟩,P.env,P.ρ,P.own,P.kd,P.F,P.rn,P.hf,P.calm,kx⟩
noncomputable abbrev Fp.no{σ:Lv}(P:Fp σ):Fp σ.no:=P.ex _ NE λZ Z h=>h.elim
theorem Fp.kn{σ:Lv}(P:Fp σ):Kn P.toPt σ.x P.Ex:=λv H p N y r=>P.kx v H p N.φ N.h N.tk N.R N.S.nil y r
def ct(σ:Lv)(c:E)(e:Expr):Prop:=
 ∀(P:Fp σ) (post:PQ) (Q:Value->Shared->Prop),WE σ.c c P.ρ P.H post->Kn P.toPt post Q->wpAny X.M P.A (eval e P.env) Q P.Ex P.s
def vt(σ:Lv)(c:E)(e:Expr):Prop:=
 ∀(P:Fp σ) (post:PQ) (Q:Bool->Shared->Prop),WE σ.c c P.ρ P.H post->xl P.toPt post Q->wpAny X.M P.A (isTrue e P.env (eval e P.env)) Q P.Ex P.s
def vu(m:Nat):Prop:=
 ∀(P:Pt) (f:Nat) (q:Bool×Str) (a:Addr) (vs:List V) (xs:List Value) (post x:PQ) (Q:Value->Shared->Prop),mn P.A (2*m)->(u7.contains f=false->P.A.handled=none) ->
  gK.nI[f]?=some q->(if q.1 then X.mN q.2 else X.mg q.2)=some (.ref a)->bJ P.w vs xs->ay m f vs P.H post x->Kn P post Q->Kn P x P.Ex->wpAny X.M P.A (call (.ref a) xs) Q P.Ex P.s
end Mine
namespace Mine
open PySem PySem.Calls PyProof.Rows
section
variable{α:Type}{G:Prop}{H:Hp}{x:V}{vs:List V}
theorem aI.k{o:Option α}{f:α->Prop}(h:aI o f)(k:∀a,o=some a->f a->G):G:=by
 cases o
 ·exact h.elim
 ·exact k _ rfl h
theorem gT.k{t:Bool}{A:Prop}(h:gT t A)(k:t=true->A->G):G:=by
 cases t
 ·exact h.elim
 ·exact k rfl h
theorem fy.k{f:Int->Prop}(h:fy x f)(P:V->Prop)(k:∀i,f i->P (.int i)):P x:=
 V.casesOn (motive_1:=λx=>fy x f->P x) x (λh=>h.elim) (λZ h=>h.elim) (λi h=>k i h) (λZ h=>h.elim) (λZ h=>h.elim) (λZ h=>h.elim) (λh=>h.elim) h
theorem w1.k{f:V->Prop}(h:w1 vs f)(P:List V->Prop)(k:∀x,f x->P [x]):P vs:=by
 rcases vs with _|⟨a,_|⟨b,l⟩⟩<;>first|exact k _ h|exact h.elim
theorem w2.k{f:V->V->Prop}(h:w2 vs f)(P:List V->Prop)(k:∀x y,f x y->P [x,y]):P vs:=by
 rcases vs with _|⟨a,_|⟨b,_|⟨c,l⟩⟩⟩<;>first|exact k _ _ h|exact h.elim
theorem hZ{β:Type}{o:Option α}{f:α->Option β}{b:β}(h:o.bind f=some b)(k:∀a,o=some a->f a=some b->G):G:=by
 cases o
 ·cases h
 ·exact k _ rfl h
theorem gW{β:Type}{o:Option α}{f:α->β}(P:β->Prop){b:β}(h:o.map f=some b)(k:∀a,o=some a->P (f a)):P b:=by
 cases o
 ·cases h
 ·exact dA h▸k _ rfl
theorem tQ{c:Prop}[Decidable c]{a b:α}(h:(if c then some a else none)=some b)(P:α->Prop)(k:c->P a):P b:=by
 by_cases hc:c
 ·rw[bL hc] at h;exact dA h▸k hc
 ·rw[bG hc] at h;cases h
theorem F4{c:Prop}[Decidable c]{a b:α}(h:(if c then none else some a)=some b)(P:α->Prop)(k:¬c->P a):P b:=by
 by_cases hc:c
 ·rw[bL hc] at h;cases h
 ·rw[bG hc] at h;exact dA h▸k hc
theorem cellAt.k{β:Type}{f:bt->Option β}{b:β}(h:cellAt f H x=some b)(P:V->Prop)(k:∀l c,H[l]?=some c->f c=some b->P (.ref l)):P x:=
 V.casesOn (motive_1:=λx=>cellAt f H x=some b->P x) x (λh=>bV rfl h) (λZ h=>bV rfl h) (λZ h=>bV rfl h) (λZ h=>bV rfl h) (λZ h=>bV rfl h) (λl h=>hZ h λc e h=>k l c e h) (λh=>bV rfl h) h
theorem so.k{c:bt}(P:bt->Prop)(h:so c=some vs)(k:P (.list vs)):P c:=
 c.casesOn (motive:=λc=>so c=some vs->P c) (λZ h=>dA h▸k) (λZ Z h=>bV rfl h) (λZ Z h=>bV rfl h) (λZ h=>bV rfl h) (λZ h=>bV rfl h) (λZ h=>bV rfl h) h
theorem iZ.k{c:bt}{es:List (Int×V)}(P:bt->Prop)(h:iZ c=some es)(k:∀ep,P (.dict ep es)):P c:=
 c.casesOn (motive:=λc=>iZ c=some es->P c) (λZ h=>bV rfl h) (λep Z h=>dA h▸k ep) (λZ Z h=>bV rfl h) (λZ h=>bV rfl h) (λZ h=>bV rfl h) (λZ h=>bV rfl h) h
theorem mi.k{c:bt}{es:List ((Int×Bool)×V)}(P:bt->Prop)(h:mi c=some es)(k:∀ep,P (.c6 ep es)):P c:=
 c.casesOn (motive:=λc=>mi c=some es->P c) (λZ h=>bV rfl h) (λZ Z h=>bV rfl h) (λep Z h=>dA h▸k ep) (λZ h=>bV rfl h) (λZ h=>bV rfl h) (λZ h=>bV rfl h) h
theorem pV.k{c:bt}{j:Nat}(P:bt->Prop)(h:pV c=some j)(k:P (.exc j)):P c:=
 c.casesOn (motive:=λc=>pV c=some j->P c) (λZ h=>bV rfl h) (λZ Z h=>bV rfl h) (λZ Z h=>bV rfl h) (λZ h=>dA h▸k) (λZ h=>bV rfl h) (λZ h=>bV rfl h) h
theorem sq.k{c:bt}{j:Nat}(P:bt->Prop)(h:sq c=some j)(k:P (.obj j)):P c:=
 c.casesOn (motive:=λc=>sq c=some j->P c) (λZ h=>bV rfl h) (λZ Z h=>bV rfl h) (λZ Z h=>bV rfl h) (λZ h=>bV rfl h) (λZ h=>dA h▸k) (λZ h=>bV rfl h) h
theorem sy.k{c:bt}{fs:bB}(P:bt->Prop)(h:sy c=some fs)(k:P (.ci fs)):P c:=
 c.casesOn (motive:=λc=>sy c=some fs->P c) (λZ h=>bV rfl h) (λZ Z h=>bV rfl h) (λZ Z h=>bV rfl h) (λZ h=>bV rfl h) (λZ h=>bV rfl h) (λZ h=>dA h▸k) h
theorem boolOf.k{b:Bool}(h:boolOf x=some b)(P:V->Prop)(k:P (.bool b)):P x:=
 V.casesOn (motive_1:=λx=>boolOf x=some b->P x) x (λh=>bV rfl h) (λZ h=>dA h▸k) (λZ h=>bV rfl h) (λZ h=>bV rfl h) (λZ h=>bV rfl h) (λZ h=>bV rfl h) (λh=>bV rfl h) h
theorem sC.k(h:sC x=some vs)(P:V->Prop)(k:P (.aC vs)):P x:=
 V.casesOn (motive_1:=λx=>sC x=some vs->P x) x (λh=>bV rfl h) (λZ h=>bV rfl h) (λZ h=>bV rfl h) (λZ h=>bV rfl h) (λZ h=>dA h▸k) (λZ h=>bV rfl h) (λh=>bV rfl h) h
theorem two.k{α β:Type}{l:List α}{f:α->α->Option β}{b:β}(h:two l f=some b)(P:List α->Prop)(k:∀a c,f a c=some b->P [a,c]):P l:=
 match l,h with
 |[],h=>bV rfl h
 |[_],h=>bV rfl h
 |[a,c],h=>k a c h
 |_::_::_::_,h=>bV rfl h
theorem pairOf.k{q:Int×Bool}(h:pairOf x=some q)(P:V->Prop)(k:P (mZ q)):P x:=
 hZ h λvs e h=>sC.k e P (two.k h (λvs=>P (.aC vs)) λa b h=>hZ h λi e h=>intOf.k e (λa=>P (.aC [a,b])) (gW (λq=>P (mZ q)->P (.aC [.int i,b])) h (λc e k=>boolOf.k e (λb=>P (.aC [.int i,b])) k) k))
end
section
variable{P:Pt}{v u:V}{x y:Value}{vs:List V}{l:Nat}
theorem Pt.cell{c:bt}(r:bl P.w (.ref l) x)(e:P.H[l]?=some c)(T:Value->Prop)(k:∀a,P.φ[l]?=some a->fV P.w a c->T (.ref a)):T x:=
 r.inv T λa ha=>P.R.at e λb hb h=>by rw[ha] at hb;cases hb;exact k a ha h
theorem Pt.list(r:bl P.w (.ref l) x)(e:P.H[l]?=some (.list vs))(T:Value->Prop)(k:∀a xs n,P.φ[l]?=some a->P.s.heap.get? a=some (iP xs n)->bJ P.w vs xs->vs.length<=16000000->T (.ref a)):T x:=
 P.cell r e T λa ha h=>h.inv _ λxs n h1 h2 h3=>k a xs n ha h1 h2 h3
theorem bH(r:bl P.w v x)(e:eQ P.H v=some vs)(T:Value->Prop)(k:∀l a xs n,v=.ref l->P.H[l]?=some (.list vs)->P.φ[l]?=some a->P.s.heap.get? a=some (iP xs n)->bJ P.w vs xs->vs.length<=16000000->T (.ref a)):T x:=
 cellAt.k e (λu=>v=u->T x) (λl c hl hc=>so.k (λc=>P.H[l]?=some c->v=.ref l->T x) hc (λhl ev=> P.list (ev▸r) hl T λa xs n h1 h2 h3 h4=>k l a xs n ev hl h1 h2 h3 h4) hl) rfl
theorem xm{h:Heap}{a:Addr}{xs:List Value}{n:Nat}(e:h.get? a=some (mX xs n)):IsTup h a xs.toArray:=⟨_,e,rfl,n,rfl⟩
theorem lK{h:Heap}{a:Addr}{xs:List Value}{n:Nat}(e:h.get? a=some (iP xs n)):h.IsList a xs.toArray:=⟨_,e,rfl,n,rfl⟩
theorem small{xs:List Value}{p:Ws}(r:bJ p vs xs)(hz:vs.length<=16000000):(xs.toArray.size:Int)<2^63:=by
 rw[jX,<-r.length];exact lt_of_le_of_lt (ofNat_le.mpr hz) (by decide)
theorem BH{p:Ws}{xs:List Value}{is:List Int}(h:IntsAre xs is):bJ p (is.map .int) xs:=h.rec (motive:=λxs is Z=>bJ p (is.map .int) xs) .nil λZ Z Z Z Z ih=>.cons (.int _ _) ih
theorem Gl.lJ(G:Good X)(P:Pt){T:Prop}(k:∀xs:List Value,P.s.heap.IsList X.lJ xs.toArray->bJ P.w (X.is.map .int) xs->X.is.length<=1000->T):T:=
 G.fu.elim λxs h=>k xs (h.1.imp λo h=>⟨P.R.keep _ _ h.1,h.2⟩) (BH h.2) (aR G.short (by decide))
theorem items(G:Good X)(r:bl P.w v x)(e:oN P.H v=some vs)(T:Value->Prop)
  (kt:v=.aC vs->∀a xs n,P.s.heap.get? a=some (mX xs n)->bJ P.w vs xs->vs.length<=16000000->a∉P.φ->T (.ref a)) (kl:∀a xs,P.s.heap.IsList a xs.toArray->bJ P.w vs xs->vs.length<=16000000->T (.ref a)):T x:=by
 cases v with
 |aC us=>cases e;exact r.inv T λa n xs h1 h2 h3 h4=>kt rfl a xs n h1 h2 h3 h4
 |ref l=>exact bH r e T λZ a xs n Z Z Z h1 h2 h3=>kl a xs (lK h1) h2 h3
 |fu=>cases e;exact r.inv T (Gl.lJ G P λxs h1 h2 h3=>kl _ xs h1 h2 (by rw[aS];exact aR h3 (by decide)))
 |_=>cases e
theorem empty_eq{p:Ws}{xs:List Value}(r:bJ p vs xs):xs.toArray.isEmpty=vs.isEmpty:=bJ.ind (M:=λvs xs=>xs.toArray.isEmpty=vs.isEmpty) rfl (λZ Z Z=>rfl) r
theorem BI{b:Bool}{Q:Bool->Shared->Prop}(r:bl P.w v x)(e:truthy P.H v=some b)(k:∀tk,Q b (upd P.s P.s.heap tk)):wpAny X.M P.A (PySem.truthy x) Q P.Ex P.s:=by
 cases v with
 |none=>cases e;exact r.inv (λx=>wpAny X.M P.A (PySem.truthy x) Q P.Ex P.s) (truthy_none (k _))
 |bool b'=>cases e;exact r.inv (λx=>wpAny X.M P.A (PySem.truthy x) Q P.Ex P.s) (se (k _))
 |int i=>cases e;exact r.inv (λx=>wpAny X.M P.A (PySem.truthy x) Q P.Ex P.s) λt=>truthy_int (k _)
 |aC vs=>cases e;exact r.inv (λx=>wpAny X.M P.A (PySem.truthy x) Q P.Ex P.s) λa n xs h1 h2 h3 Z=>truthy_tuple (xm h1) (small h2 h3) (empty_eq h2▸k _)
 |ref l=>exact gW (λb=>(∀tk,Q b (upd P.s P.s.heap tk))->wpAny X.M P.A (PySem.truthy x) Q P.Ex P.s) e (λvs e k=>bH r e (λx=>wpAny X.M P.A (PySem.truthy x) Q P.Ex P.s) λZ a xs n Z Z Z h1 h2 h3=>wpAny_truthy_list (lK h1) (small h2 h3) (empty_eq h2▸k _)) k
 |_=>cases e
theorem L9(G:Good X)(P:Pt):PylongRoom X.M P.A P.s:=
 P.rm.frames.elim λfe h=>h.elim λouter h=>PylongRoom.of (G.nolimit.keeps P.R.keep) (by have:=P.rm.depth;refine(?_:P.A.depth+100<_);lia) (SeerAt.of (G.seer.keeps P.R.keep) G.tree h.1 h.2.1 h.2.2.1 h.2.2.2.1 h.2.2.2.2)
theorem Ma{op:oE}{a b i:Int}{t t':Tok}{Q:Value->Shared->Prop}(G:Good X)(P:Pt)(e:binI op a b=some i)(k:∀tk t,Q (.int i t) (upd P.s P.s.heap tk)):wpAny X.M P.A (binaryOp (sj op) (.int a t) (.int b t')) Q P.Ex P.s:=by
 cases op with
 |add=>cases e;exact add_int (k _ _)
 |sub=>cases e;exact sub_int (k _ _)
 |mul=>exact tQ e (λi=>(∀tk t,Q (.int i t) (upd P.s P.s.heap tk))->_) (λhm k=>mul_int (k _ _) λhc=>by unfold BB at hm;rw[hc] at hm;cases hm) k
 |fdiv=>exact F4 e (λi=>(∀tk t,Q (.int i t) (upd P.s P.s.heap tk))->_) (λhb k=>floordiv_int hb (k _ _) (.inr (L9 G P))) k
 |mod=>exact F4 e (λi=>(∀tk t,Q (.int i t) (upd P.s P.s.heap tk))->_) (λhb k=>mod_int' hb (k _ _)) k
 |pow=>exact tQ e (λi=>(∀tk t,Q (.int i t) (upd P.s P.s.heap tk))->_) (λh k=>by
   obtain⟨rfl,h1,h2⟩:=h
   exact pow_int h1 (by rw[show Builtin.Int.intBits 10=4 by decide];lia) (k _ _)) k
theorem mul_list{a:Addr}{xs:List Value}{n:Nat}{t:Tok}{A:Around}{Ex Q:Value->Shared->Prop}{s:Shared}{M:Model}(prog:Program)(w:World)(eM:M=model prog w)(ha:s.heap.get? a=some (iP xs n))(hz:xs.length<=1000)(k:Q (.ref s.heap.objs.size) {s with heap:=s.heap.push (iP (xs++xs) 0)}):wpAny M A (binaryOp .Mult (.ref a) (.int 2 t)) Q Ex s:=by
 subst eM
 have e:List.foldl (λx1 x2=>x1++x2) #[] (replicate (if xs.toArray.isEmpty=true then 0 else(2:Int).toNat) xs.toArray)=(xs++xs).toArray:=by
  cases xs with
  |nil=>rfl
  |cons x r=>rw[bG (by exact gq)];exact(bU (·++_) (Array.empty_append)).trans (List.append_toArray _ _)
 refine wpAny_binaryOp_repeat_ref (T:="list") (U:="int") (by decide) ⟨_,ha,rfl⟩ (λs'=>typeIs_int s' 2 t) noFill_list_mul PySem.F.fills_int_mul PySem.F.slot_int_rmul repeat_list PySem.F.slot_int_index.lookup
  (call_meets PySem.F.slot_int_rmul (typeIs_int s 2 t) PySem.F.entry_int_rmul (PySem.F.args_int_rmul_2 _ _) (int___rmul___int_list 2 t a xs.toArray n)
   ⟨ha,rfl,⟨_,ha,rfl⟩,call_meets PySem.F.slot_list_mul ⟨_,ha,rfl⟩ PySem.F.entry_list_mul (PySem.F.args_list_mul_2 _ _) (AutoListH.list___mul___list_int_3 a xs.toArray n 2 t (by decide) ?_ ?_) ⟨ha,?_⟩⟩)
 ·rw[jX];show ¬(xs.length*2>(2^63 - 1)/8);lia
 ·unfold Builtin.List.listTooLong
  rw[jX]
  exact λh=>absurd (cf h) (by show ¬(xs.length*2>16777216);lia)
 ·rw[e];exact k
theorem Mb{op:oE}{post:PQ}{Q:Value->Shared->Prop}(G:Good X)(P:Pt)(r1:bl P.w v x)(r2:bl P.w u y)(p:sG op v u P.H post)(k:Kn P post Q):wpAny X.M P.A (binaryOp (sj op) x y) Q P.Ex P.s:=by
 have key:(aI (eQ P.H v) λxs=>FT op xs u P.H post)->wpAny X.M P.A (binaryOp (sj op) x y) Q P.Ex P.s:=λp=>aI.k p λxs e1 p=>bH r1 e1 (λx=>wpAny X.M P.A (binaryOp (sj op) x y) Q P.Ex P.s) λZ a xa ka Z Z Z q1 q2 q3=>by
  cases op with
  |add=>
   refine aI.k p λys e2 p=>gT.k p λhz p=>?_
   refine bH r2 e2 (λy=>wpAny X.M P.A (binaryOp .Add _ y) Q P.Ex P.s) λZ b xb kb Z Z Z t1 t2 t3=>?_
   have hl:(xs++ys).length<16000000:=cf hz
   refine PySem.P.add_list (items:=xa.toArray) (items2:=xb.toArray) q1 t1 ?_ (by rw[size_toArray,size_toArray,<-q2.length,<-t2.length,<-length_append];unfold sizeLine;exact le_trans (Nat.le_of_lt hl) (by decide))
   rw[List.append_toArray]
   exact k.list (.push _) _ (i5 _ (cg _)) (il _ rfl) (q2.append t2) (cO hl) p _
  |mul=>
   exact fy.k p (λu=>bl P.w u y->_) (λn p r2=>by
    obtain⟨⟨rfl,hz⟩,p⟩:=p
    exact r2.inv (λy=>wpAny X.M P.A (binaryOp .Mult _ y) Q P.Ex P.s) λt=>mul_list X.prog X.w rfl q1 (by rw[<-q2.length];exact hz) (k.list (.push _) _ (i5 _ (cg _)) (il _ rfl) (q2.append q2) (by rw[bX];lia) p _)) r2
  |_=>exact p.elim
 cases v with
 |int a=>exact fy.k p (λu=>bl P.w u y->_) (λb p r2=>aI.k p λi e p=>r1.inv (λx=>wpAny X.M P.A (binaryOp (sj op) x y) Q P.Ex P.s) λt=>r2.inv (λy=>wpAny X.M P.A (binaryOp (sj op) _ y) Q P.Ex P.s) λt'=>Ma G P e λtk t=>k.now p (.int _ _) tk) r2
 |_=>exact key p
end
inductive qg(h:Heap)(m:Nat)(d:PyData)(x:Value):Prop
 |mk (as:List Addr) (r:Reads h x d as) (c:d.canLay0=true) (l:d.depth<=m):qg h m d x
inductive BJ(h:Heap)(m:Nat)(ds:List PyData)(xs:List Value):Prop
 |mk (as:List Addr) (r:ReadsAll h xs ds as) (c:PyData.canLayAll0 ds=true) (l:PyData.depthAll ds<=m):BJ h m ds xs
theorem Mc(d:PyData)(ds:List PyData):PyData.canLayAll0 (d::ds)=(d.canLay0&&PyData.canLayAll0 ds):=rfl
theorem Md(d:PyData)(ds:List PyData):PyData.depthAll (d::ds)=max d.depth (PyData.depthAll ds):=rfl
section
variable{P:Pt}{v u:V}{x y:Value}{vs:List V}{l m:Nat}
theorem za{h:Heap}{p:Ws}{f:V->Option PyData}(hf:∀v d x,f v=some d->bl p v x->qg h m d x){xs:List Value}(r:bJ p vs xs):∀ds,d0 f vs=some ds->BJ h m ds xs:=
 bJ.ind (M:=λvs xs=>∀ds,d0 f vs=some ds->BJ h m ds xs) (λds e=>dA e▸⟨_,.nil,rfl,gu _⟩) (λ{v x vs xs} r1 _ ih ds e=>by
  unfold d0 at e
  cases e1:f v with
  |none=>rw[e1] at e;cases e
  |some d=>
   cases e2:d0 f vs with
   |none=>rw[e1,e2] at e;cases e
   |some Mf=>
    rw[e1,e2] at e
    cases e
    exact(hf v d x e1 r1).casesOn λas q1 q2 q3=>(ih Mf e2).casesOn λbs t1 t2 t3=>⟨_,.cons q1 t1,by rw[Mc,q2,t2];rfl,by rw[Md];exact Nat.max_le.mpr ⟨q3,t3⟩⟩) r
theorem F5{d:PyData}(e:yX v=some d)(r:bl P.w v x):qg P.s.heap m d x:=
 V.casesOn (motive_1:=λv=>yX v=some d->bl P.w v x->qg P.s.heap m d x) v (λe r=>r.inv _ (dA e▸⟨_,.none,rfl,gu _⟩)) (λZ e r=>r.inv _ (dA e▸⟨_,.bool _,rfl,gu _⟩)) (λZ e r=>r.inv _ λt=>dA e▸⟨_,.int _ _,rfl,gu _⟩)
  (λZ e r=>r.inv _ λt=>tQ e (λd=>qg P.s.heap m d (.str _ t)) λhs=>⟨_,.str _ _,hs,gu _⟩) (λZ e=>bV rfl e) (λZ e=>bV rfl e) (λe=>bV rfl e) e r
theorem xn(P:Pt)(m:Nat):∀(v:V) (d:PyData) (x:Value),rd P.H m v=some d->bl P.w v x->qg P.s.heap m d x:=by
 induction m with
 |zero=>exact λv d x e r=>F5 e r
 |succ m ih=>
  intro v d x e r
  cases v with
  |aC vs=>exact gW (λd=>qg P.s.heap (m+1) d x) e λds e1=>r.inv (λx=>qg P.s.heap (m+1) (.tuple ds) x) λa n xs h1 h2 Z Z=>(za ih h2 ds e1).casesOn λas q1 q2 q3=>⟨_,reads_tuple_at h1 rfl rfl q1,q2,lE q3⟩
  |ref l=>exact hZ e λvs e0 e=>gW (λd=>qg P.s.heap (m+1) d x) e λds e1=>bH r e0 (λx=>qg P.s.heap (m+1) (.list ds) x) λZ a xs n Z Z Z h1 h2 Z=>(za ih h2 ds e1).casesOn λas q1 q2 q3=>⟨_,reads_list_at h1 rfl rfl q1,q2,lE q3⟩
  |fu=>cases e
  |_=>exact F5 e r
theorem zb{d:PyData}(h1:d.canLay0=true)(h2:d.depth<=10):SeqAt.shaped d=true:=by
 unfold SeqAt.shaped;rw[h1,Bool.true_and];exact decide_eq_true (by lia)
theorem BK(P:Pt):P.A.units+64<cLine:=by have:=P.rm.units;lia
theorem zc{x y:Value}{Q:Value->Shared->Prop}(h:wpAny X.M P.A (compareOp .In x y) (λr s'=>∃b,r=.bool b/\Q (.bool (!b)) s') P.Ex P.s):wpAny X.M P.A (compareOp .NotIn x y) Q P.Ex P.s:=by
 intro Γ p Mg
 have:=h Γ p Mg
 change Sem.wp _ _ (contains y x >>= λb=>pure (Value.bool b)) _ _ _ _ at this
 refine(?_:Sem.wp _ _ (contains y x >>= λb=>pure (Value.bool (!b))) _ _ _ _)
 rw[Sem.wp_bind'] at this ⊢
 refine Sem.wp_mono _ _ _ (λb p' s' h'=>?_) (λZ Z Z h'=>h') _ _ this
 rw[Sem.wp_pure'] at h' ⊢
 exact h'.elim λb' h'=>by cases h'.1;exact h'.2
theorem vv(r:bl P.w v x){es:List (Int×V)}(G:Good X)(e:mj P.H v=some es)(T:Value->Prop)(k:∀l ep a kvs,v=.ref l->P.H[l]?=some (.dict ep es)->P.φ[l]?=some a->P.s.heap.DictOf m8 a kvs->L2 (nL P.w) es kvs->(a==sysModules)=false->es.length<=16000000->T (.ref a)):T x:=
 cellAt.k e (λu=>v=u->T x) (λl c hl hc=>iZ.k (λc=>P.H[l]?=some c->v=.ref l->T x) hc (λep hl ev=>P.cell (ev▸r) hl T λa ha h=>h.inv _ λo en kvs x0 x1 x2 x3 x4 x5 r z n=>k l ep a kvs ev hl ha ⟨o,en,ep,x0,x1,x2,x3,x4,x5⟩ r z n) hl) rfl
theorem oG(r:bl P.w v x){es:List ((Int×Bool)×V)}(G:Good X)(e:sB P.H v=some es)(T:Value->Prop)(k:∀l ep a kvs,v=.ref l->P.H[l]?=some (.c6 ep es)->P.φ[l]?=some a->P.s.heap.DictOfH nM a kvs->L2 (oQ P.w) es kvs->(a==sysModules)=false->es.length<=16000000->T (.ref a)):T x:=
 cellAt.k e (λu=>v=u->T x) (λl c hl hc=>mi.k (λc=>P.H[l]?=some c->v=.ref l->T x) hc (λep hl ev=>P.cell (ev▸r) hl T λa ha h=>h.inv _ λo en kvs x0 x1 x2 x3 x4 r z n=>k l ep a kvs ev hl ha (by
  refine⟨o,en,ep,x0,x1,x2,x3,?_,x4⟩
  clear x3 x4 n
  exact r.rec (motive:=λZ kvs Z=>∀q:List Int×Addr×Value,q∈kvs->nM.is P.s.heap q.1 q.2.1) (λq hq=>nomatch hq) λ{a b _ _} m _ ih q hq=>(cH.mp hq).elim (λe=>by subst e;rw[m.1];exact xi m.2.1) (ih q)) r z n) hl) rfl
theorem F6{es:List (Int×V)}{kvs:List (Int×Value)}{p:Ws}(h:L2 (nL p) es kvs)(k:Int):(hU es k=none/\valueAt kvs k=none)\/∃v x,hU es k=some v/\valueAt kvs k=some x/\bl p v x:=
 (h.find (f:=λq=>decide (q.1=k)) (g:=λq=>decide (q.1=k)) λa b m=>by rw[m.1]).imp (λh=>⟨bU _ h.1,bU _ h.2⟩) λh=>h.elim λa h=>h.elim λb h=>⟨a.2,b.2,bU _ h.1,bU _ h.2.1,h.2.2.2⟩
theorem BL{es:List ((Int×Bool)×V)}{kvs:List (List Int×Addr×Value)}{p:Ws}(h:L2 (oQ p) es kvs)(k:Int×Bool):(hU es k=none/\atKey kvs (pK k)=none)\/∃v a x,hU es k=some v/\atKey kvs (pK k)=some (a,x)/\bl p v x:=
 (h.find (f:=λq=>decide (q.1=k)) (g:=λq=>decide (q.1=pK k)) λa b m=>by rw[m.1];exact nC.mpr ⟨λe=>e▸rfl,FZ⟩).imp (λh=>⟨bU _ h.1,bU _ h.2⟩) λh=>h.elim λa h=>h.elim λb h=>⟨a.2,b.2.1,b.2.2,bU _ h.1,bU _ h.2.1,h.2.2.2.2⟩
theorem BM{K:Type}[DecidableEq K](es:List (K×V))(k:K):gF es k=(hU es k).isSome:=by
 unfold gF hU
 rw[Option.isSome_map,List.isSome_find?]
end
section
variable{A:Around}{E:Value->Shared->Prop}{s:Shared}{a b:Addr}{oa ob:Obj}{es na:Array DictEntry}{ep sH:Nat}
theorem F7(b:Bool):(b==true)=b:=by cases b<;>rfl
theorem F8(b:Bool):(b==false)=!b:=by cases b<;>rfl
theorem F9{nm:String}{Q:Bool->Shared->Prop}(ha:(a==sysModules)=false)(hb:(b==sysModules)=false)(rB:s.heap.get? a=some oa)(xp:oa.data=.dict es ep)(zd:s.heap.get? b=some ob)(ze:ob.data=.dict na sH)
  (h0:es.size=0\/na.size=0) (h:Q (es.size==na.size) s):wpAny X.M A (Builtin.Dict.samePairs nm a b) Q E s:=by
 unfold Builtin.Dict.samePairs Builtin.Dict.showsAll
 rw[bG (show ¬(a==sysModules)=true by rw[ha];exact gq),bG (show ¬(b==sysModules)=true by rw[hb];exact gq)]
 refine aY (bS (aY (bS ?_)))
 refine aY (wpAny_dictEntries rB xp ?_)
 dsimp only
 refine aY (wpAny_dictEntries zd ze ?_)
 by_cases lL:es.size=na.size
 ·rw[bG (by rw[lL,bne_self_eq_false];exact gq)]
  have hz:es.size=0:=h0.elim id λh=>lL.trans h
  rw[<-lL,gr] at h
  refine aY (wpAny_dictEpoch rB xp ?_)
  rw[hz,Std.Legacy.Range.forIn_eq_forIn_range']
  exact aY (bS (bS h))
 ·rw[bL (bne_iff_ne.mpr lL)]
  rw[pO.mpr lL] at h
  exact aY (wpAny_rule (bS h))
theorem Mh{Q:Value->Shared->Prop}(ta:s.TypeIs (.ref a) "dict")(tb:s.TypeIs (.ref b) "dict")(ha:(a==sysModules)=false)(hb:(b==sysModules)=false)(rB:s.heap.get? a=some oa)(xp:oa.data=.dict es ep)(zd:s.heap.get? b=some ob)(ze:ob.data=.dict na sH)
  (h0:es.size=0\/na.size=0) (hu:A.units<cLine) :
  (Q (.bool (es.size==na.size)) s->wpAny X.M A (compareOp .Eq (.ref a) (.ref b)) Q E s)/\(Q (.bool (!(es.size==na.size))) s->wpAny X.M A (compareOp .NotEq (.ref a) (.ref b)) Q E s):=by
 refine⟨λh=>wpAny_richCompare_same_room (op:=.Eq) ta tb PySem.F.slot_dict_eq (wpAny_call_entry PySem.F.slot_dict_eq ta PySem.F.entry_dict_eq ?_ (PySem.F.args_dict_eq_2 _ _)) hu,λh=>wpAny_richCompare_same_room (op:=.NotEq) ta tb PySem.F.slot_dict_ne (wpAny_call_entry PySem.F.slot_dict_ne ta PySem.F.entry_dict_ne ?_ (PySem.F.args_dict_ne_2 _ _)) hu⟩
 ·refine(?_:wpAny _ _ (Builtin.Dict.dictSlotArgs "__eq__" ⟨[.ref a,.ref b],[]⟩ >>= _) _ _ s)
  refine aY (aY (wpAny_notOrdered_dict ta (bS (aY (wpAny_isInstance (T:="dict") tb PySem.F.sub_dict_dict ?_)))))
  refine(?_:wpAny _ _ (Builtin.Dict.addrOf (.ref a) >>= _) _ _ s)
  exact aY (bS (aY (bS (aY (F9 ha hb rB xp zd ze h0 (bS ⟨_,rfl,nofun,by rw[F7];exact h⟩))))))
 ·refine(?_:wpAny _ _ (Builtin.Dict.dictSlotArgs "__ne__" ⟨[.ref a,.ref b],[]⟩ >>= _) _ _ s)
  refine aY (aY (wpAny_notOrdered_dict ta (bS (aY (wpAny_isInstance (T:="dict") tb PySem.F.sub_dict_dict ?_)))))
  refine(?_:wpAny _ _ (Builtin.Dict.addrOf (.ref a) >>= _) _ _ s)
  exact aY (bS (aY (bS (aY (F9 ha hb rB xp zd ze h0 (bS ⟨_,rfl,nofun,by rw[F8];exact h⟩))))))
open AutoSeq1 (wpAny_loadPart') in
open MeetsSeq MeetsSeq3 in
theorem Mi(l b:Addr)(ns ms:List Int)(ts us:Nat->Tok)(n n2:Nat)(items items2:Array Value)(h1:∀j:Nat,items[j]?=ns[j]?.map λi=>.int i (ts j))(h2:∀j:Nat,items2[j]?=ms[j]?.map λi=>.int i (us j))(k:Nat):
  ∀i:Nat,ns.length - i=k->Meets (Builtin.«list.__eq__.loop» ⟨[.ref l,.ref b,rawInt i,rawInt 0],[]⟩)
   (λA R s=>s.heap.get? l=some {cls:=.type "list",dict:=none,data:=.seq items n,slots:=#[]}/\s.heap.get? b=some {cls:=.type "list",dict:=none,data:=.seq items2 n2,slots:=#[]}/\i<=ns.length/\i<=ms.length/\items.size=ns.length/\items2.size=ms.length /\
    R (.ok (.ret (.bool (mY (ns.drop i) (ms.drop i))))) s):=by
 induction k with
 |zero=>
  intro i hk X.prog X.w A R s h
  obtain⟨hp,g,d,tk,os⟩:=s;obtain⟨hl,hb,jL,Mj,sI,xr,h⟩:=h
  wp_walk using nD hl,nD hb
  have zf:items[((i:Nat):Int).toNat]?=none:=by rw[toNat_natCast,h1,qP (Nat.sub_eq_zero_iff_le.mp hk)];rfl
  rw[zf]
  wp_walk using nD hl,nD hb
  refine(?_:R (.ok (.ret (.bool (decide (items.size<items2.size))))) _)
  have hd:ns.drop i=[]:=drop_eq_nil_iff.mpr (Nat.sub_eq_zero_iff_le.mp hk)
  rw[hd] at h
  have e:mY [] (ms.drop i)=decide (items.size<items2.size):=by
   cases hm:ms.drop i with
   |nil=>exact(gv (by have:=drop_eq_nil_iff.mp hm;exact(by rw[sI,xr];exact not_lt.mpr (aR this jL)))).symm
   |cons x r=>exact(c9 (by have:=bU List.length hm;rw[length_drop,iY] at this;exact(by rw[sI,xr];exact bM (Nat.sub_eq_zero_iff_le.mp hk) (Nat.sub_pos_iff_lt.mp (by rw[this];exact succ_pos _))))).symm
  rw[<-e];exact h
 |succ k ih=>
  intro i hk X.prog X.w A R s h
  obtain⟨hp,g,d,tk,os⟩:=s;obtain⟨hl,hb,jL,Mj,sI,xr,h⟩:=h
  wp_walk using nD hl,nD hb
  have du:i<ns.length:=Nat.sub_pos_iff_lt.mp (by rw[hk];exact succ_pos _)
  have zf:items[((i:Nat):Int).toNat]?=some (.int ns[i] (ts i)):=by rw[toNat_natCast,h1,fL du];rfl
  have Mk:ns.drop i=ns[i]::ns.drop (i+1):=List.drop_eq_getElem_cons du
  rw[zf]
  rcases lt_or_ge i ms.length with BN|oR
  ·have zg:items2[((i:Nat):Int).toNat]?=some (.int ms[i] (us i)):=by rw[toNat_natCast,h2,fL BN];rfl
   have Ml:ms.drop i=ms[i]::ms.drop (i+1):=List.drop_eq_getElem_cons BN
   have hc:((i:Int)+1)=((i+1:Nat):Int):=by push_cast;rfl
   rw[Mk,Ml] at h
   rw[zg]
   refine aY (SeqAt.EqAt.int_int _ _ _ _ X.prog X.w _ _ ?_)
   by_cases e:ns[i]=ms[i]
   ·rw[beq_iff_eq.mpr e]
    wp_walk
    rw[hc]
    have e':mY (ns[i]::ns.drop (i+1)) (ms[i]::ms.drop (i+1))=mY (ns.drop (i+1)) (ms.drop (i+1)):=bL e
    rw[e'] at h
    exact⟨plainId_quiet plain_eq_loop _,codeAny_builtin entry_eq_loop (by
     rw[Around.under_plainId plain_eq_loop _]
     exact ih (i+1) (by rw[Nat.sub_succ,hk];rfl) X.prog X.w A R _ ⟨hl,hb,du,BN,sI,xr,h⟩)⟩
   ·rw[pO.mpr e]
    wp_walk using nD hl,nD hb
    rw[zf,zg]
    have e':mY (ns[i]::ns.drop (i+1)) (ms[i]::ms.drop (i+1))=decide (ns[i]<ms[i]):=bG e
    rw[e'] at h
    exact aY (PyProof.Rows.lt_int (bS h))
  ·have zg:items2[((i:Nat):Int).toNat]?=none:=by rw[toNat_natCast,h2,qP oR];rfl
   rw[zg]
   wp_walk using nD hl,nD hb
   refine(?_:R (.ok (.ret (.bool (decide (items.size<items2.size))))) _)
   have hd:ms.drop i=[]:=drop_eq_nil_iff.mpr oR
   rw[hd] at h
   have e:mY (ns.drop i) []=decide (items.size<items2.size):=by
    rw[gv (by rw[sI,xr];exact not_lt.mpr (aR oR (cO du)))]
    cases ns.drop i<;>rfl
   rw[<-e];exact h
open AutoSeq1 (wpAny_loadPart') in
open MeetsSeq MeetsSeq3 in
theorem lt_meets(l b:Addr)(ns ms:List Int)(ts us:Nat->Tok)(n n2:Nat)(items items2:Array Value)(h1:∀j:Nat,items[j]?=ns[j]?.map λi=>.int i (ts j))(h2:∀j:Nat,items2[j]?=ms[j]?.map λi=>.int i (us j))(z1:items.size=ns.length)(z2:items2.size=ms.length):
  Meets (Builtin.«list.__lt__» ⟨[.ref l,.ref b],[]⟩) (λA R s=>s.heap.get? l=some {cls:=.type "list",dict:=none,data:=.seq items n,slots:=#[]}/\s.heap.get? b=some {cls:=.type "list",dict:=none,data:=.seq items2 n2,slots:=#[]}/\R (.ok (.ret (.bool (mY ns ms)))) s):=by
 intro X.prog X.w A R s h
 obtain⟨hp,g,d,tk,os⟩:=s;obtain⟨hl,hb,h⟩:=h
 have f3:=AutoSeq1.sub_list_list
 wp_walk using nD hl,nD hb
 exact⟨plainId_quiet plain_eq_loop _,codeAny_builtin entry_eq_loop (by
  rw[Around.under_plainId plain_eq_loop _]
  exact Mi l b ns ms ts us n n2 items items2 h1 h2 _ 0 rfl X.prog X.w A R _ ⟨hl,hb,gu _,gu _,z1,z2,h⟩)⟩
end
section
variable{P:Pt}{v u:V}{x y:Value}{vs:List V}{l m:Nat}{Q:Value->Shared->Prop}{b:Bool}
theorem zh{p:Ws}{xs:List Value}(r:bJ p vs xs):∀is,allInts vs=some is->is.length=xs.length/\∃ts:Nat->Tok,∀j:Nat,xs.toArray[j]?=is[j]?.map λi=>.int i (ts j):=
 bJ.ind (M:=λvs xs=>∀is,allInts vs=some is->is.length=xs.length/\∃ts:Nat->Tok,∀j:Nat,xs.toArray[j]?=is[j]?.map λi=>.int i (ts j)) (λis e=>dA e▸⟨rfl,λZ=>0,λj=>rfl⟩) (λ{v x vs xs} r1 _ ih is e=>hZ e λi ei e=>gW (λis=>is.length=(x::xs).length/\∃ts:Nat->Tok,∀j:Nat,(x::xs).toArray[j]?=is[j]?.map λi=>.int i (ts j)) e λjs ej=>
  intOf.k ei (λv=>bl p v x->_) (λr1=>r1.inv (λx=>(i::js).length=(x::xs).length/\∃ts:Nat->Tok,∀j:Nat,(x::xs).toArray[j]?=(i::js)[j]?.map λi=>.int i (ts j)) λt=>have h:=ih js ej;⟨bU (·+1) h.1,h.2.elim λts h=>⟨λj=>match j with|0=>t|j+1=>ts j,λj=>match j with
   |0=>rfl
   |j+1=>by rw[getElem?_toArray,List.getElem?_cons_succ,List.getElem?_cons_succ,<-h j,getElem?_toArray]⟩⟩) r1) r
theorem Mm{a c:Addr}{xs ys:List Value}{us:List V}{ka kc:Nat}{is js:List Int}(h1:P.s.heap.get? a=some (iP xs ka))(h2:P.s.heap.get? c=some (iP ys kc))(r1:bJ P.w vs xs)(r2:bJ P.w us ys)(e1:allInts vs=some is)(e2:allInts us=some js)(k:Q (.bool (mY is js)) P.s):wpAny X.M P.A (compareOp .Lt (.ref a) (.ref c)) Q P.Ex P.s:=
 have q1:=zh r1 is e1
 have q2:=zh r2 js e2
 q1.2.elim λts BO=>q2.2.elim λMn Mo=>wpAny_richCompare_same_room (op:=.Lt) (lK h1).typeIs (lK h2).typeIs PySem.F.slot_list_lt
  (call_meets PySem.F.slot_list_lt (lK h1).typeIs PySem.F.entry_list_lt (PySem.F.args_list_lt_2 _ _) (lt_meets a c is js ts Mn ka kc _ _ BO Mo q1.1.symm q2.1.symm) ⟨h1,h2,nofun,k⟩) (by have:=P.rm.units;exact Nat.lt_of_succ_lt P.u1)
theorem ml.k(r:bl P.w v x)(e:ml P.H v=some b)(T:Value->Prop)(k:∀a o en ep,P.s.heap.get? a=some o->o.cls=.type "dict"->o.data=.dict en ep->b=decide (en.size=0)->(a==sysModules)=false->T (.ref a)):T x:=by
 have sz:∀{α β:Type} {as:List α} {bs:List β} {M:α->β->Prop} {en:Array DictEntry},L2 M as bs->en.toList.length=bs.length->as.isEmpty=decide (en.size=0):=λ{α β as bs M en} h e=>by
  rw[<-length_toList,e,<-h.length]
  cases as<;>rfl
 unfold ml at e
 cases ed:mj P.H v with
 |some es=>
  rw[ed] at e
  exact cellAt.k ed (λu=>v=u->T x) (λl c hl hc=>iZ.k (λc=>P.H[l]?=some c->v=.ref l->T x) hc (λep hl ev=>P.cell (ev▸r) hl T λa ha h=>h.inv _ λo en kvs x0 x1 x2 x3 x4 x5 r z n=>k a o en ep x0 x1.1 x2 (dA e▸sz r x4.length) z) hl) rfl
 |none=>
  rw[ed] at e
  exact gW (λb=>(∀a o en ep,P.s.heap.get? a=some o->o.cls=.type "dict"->o.data=.dict en ep->b=decide (en.size=0)->(a==sysModules)=false->T (.ref a))->T x) e (λes ed k=>cellAt.k ed (λu=>v=u->T x) (λl c hl hc=>mi.k (λc=>P.H[l]?=some c->v=.ref l->T x) hc (λep hl ev=>P.cell (ev▸r) hl T λa ha h=>h.inv _ λo en kvs x0 x1 x2 x3 x4 r z n=>k a o en ep x0 x1.1 x2 (sz r (by rw[x3,aS])) z) hl) rfl) k
theorem Ga(r1:bl P.w v x)(r2:bl P.w u y)(e:kO P.H v u=some b):(Q (.bool b) P.s->wpAny X.M P.A (compareOp .Eq x y) Q P.Ex P.s)/\(Q (.bool (!b)) P.s->wpAny X.M P.A (compareOp .NotEq x y) Q P.Ex P.s):=by
 unfold kO at e
 cases eN:ml P.H v with
 |some c=>
  rw[eN] at e
  refine hZ e λd ed e=>tQ e (λb=>(Q (.bool b) P.s->wpAny X.M P.A (compareOp .Eq x y) Q P.Ex P.s)/\(Q (.bool (!b)) P.s->wpAny X.M P.A (compareOp .NotEq x y) Q P.Ex P.s)) λvw=>?_
  refine ml.k r1 eN (λx=>(Q (.bool (c&&d)) P.s->wpAny X.M P.A (compareOp .Eq x y) Q P.Ex P.s)/\(Q (.bool (!(c&&d))) P.s->wpAny X.M P.A (compareOp .NotEq x y) Q P.Ex P.s)) λa o en ep a1 a2 a3 a4 a5=>ml.k r2 ed (λy=>(Q (.bool (c&&d)) P.s->wpAny X.M P.A (compareOp .Eq _ y) Q P.Ex P.s)/\(Q (.bool (!(c&&d))) P.s->wpAny X.M P.A (compareOp .NotEq _ y) Q P.Ex P.s)) λa' o' zi sH b1 b2 b3 b4 b5=>?_
  subst a4 b4
  have h0:en.size=0\/zi.size=0:=(jY.mp vw).imp cf cf
  have hb:(decide (en.size=0)&&decide (zi.size=0))=(en.size==zi.size):=by
   rcases h0 with h|h<;>rw[h]<;>cases en.size<;>cases zi.size<;>rfl
  rw[hb]
  exact Mh ⟨o,a1,a2⟩ ⟨o',b1,b2⟩ a5 b5 a1 a3 b1 b3 h0 (by have:=P.rm.units;exact Nat.lt_of_succ_lt P.u1)
 |none=>
  rw[eN] at e
  exact hZ e λd e1 e=>gW (λb=>(Q (.bool b) P.s->wpAny X.M P.A (compareOp .Eq x y) Q P.Ex P.s)/\(Q (.bool (!b)) P.s->wpAny X.M P.A (compareOp .NotEq x y) Q P.Ex P.s)) e λd' e2=>(xn P 10 v d x e1 r1).casesOn λas q1 q2 q3=>(xn P 10 u d' y e2 r2).casesOn λbs p1 p2 p3=>⟨eq_dataH q1 p1 (zb q2 q3) (zb p2 p3) (BK P),ne_dataH q1 p1 (zb q2 q3) (zb p2 p3) (BK P)⟩
theorem Gb(G:Good X)(r1:bl P.w v x)(r2:bl P.w u y)(e:tJ P.H v u=some b)(k:∀tk,Q (.bool b) (upd P.s P.s.heap tk)):wpAny X.M P.A (compareOp .In x y) Q P.Ex P.s:=by
 unfold tJ at e
 cases ed:mj P.H u with
 |some es=>
  rw[ed] at e
  exact gW (λb=>(∀tk,Q (.bool b) (upd P.s P.s.heap tk))->_) e (λi ei k=>intOf.k ei (λv=>bl P.w v x->_) (λr1=>r1.inv (λx=>wpAny X.M P.A (compareOp .In x y) Q P.Ex P.s) λt=>vv r2 G ed (λy=>wpAny X.M P.A (compareOp .In _ y) Q P.Ex P.s) λZ Z a kvs Z Z Z h2 h3 h1 h4=>
   wpAny_in_of (knd:=m8) (k:=i) (gr i) h1 h2.mapOf (by
    have h:=BM es i
    rcases F6 h3 i with⟨w1,w2⟩|⟨_,_,w1,w2,_⟩<;>rw[w1] at h<;>rw[w2]<;>exact h▸k _)) r1) k
 |none=>
  rw[ed] at e
  cases ep:sB P.H u with
  |some es=>
   rw[ep] at e
   exact gW (λb=>(∀tk,Q (.bool b) (upd P.s P.s.heap tk))->_) e (λi ei k=>pairOf.k ei (λv=>bl P.w v x->_) (λr1=>oG r2 G ep (λy=>wpAny X.M P.A (compareOp .In _ y) Q P.Ex P.s) λZ Z a kvs Z Z Z h2 h3 h1 h4=>r1.inv (λx=>bl P.w (mZ i) x->wpAny X.M P.A (compareOp .In x _) Q P.Ex P.s) (λc n xs Z Z Z Z r1=>
    wpAny_in_heap (knd:=nM) (k:=pK i) (by refine(?_:P.A.units+1<cLine);have:=P.rm.units;exact P.u1) (xi r1) h1 h2 (by
     have h:=BM es i
     rcases BL h3 i with⟨w1,w2⟩|⟨_,_,_,w1,w2,_⟩<;>rw[w1] at h<;>rw[w2]<;>exact h▸k _)) r1) r1) k
  |none=>
   rw[ep] at e
   refine hZ e λvs ev e=>hZ e λds eds e=>gW (λb=>(∀tk,Q (.bool b) (upd P.s P.s.heap tk))->_) e (λd e2 k=>(xn P 10 v d x e2 r1).casesOn λbs p1 p2 p3=>?_) k
   have hu:∀{m:Nat},P.A.units+1+min m d.depth<cLine:=by have:=BK P;exact λ{_}=>bM (lD (aR (min_le_right _ _) p3) _) (bM (lD (show 11<=64 by decide) _) this)
   exact items G r2 ev (λy=>wpAny X.M P.A (compareOp .In x y) Q P.Ex P.s) (λZ a xs n h1 h2 Z Z=>(za (xn P 10) h2 ds eds).casesOn λas q1 q2 q3=>SeqAt.in_tuple_reads (reads_tuple_at h1 rfl rfl q1) p1 q2 p2 hu (k _)) λa xs h1 h2 Z=>(za (xn P 10) h2 ds eds).casesOn λas q1 q2 q3=>h1.elim λo h1=>h1.2.2.elim λn hd=>SeqAt.in_list_reads (reads_list_at h1.1 h1.2.1 hd q1) p1 q2 p2 hu (k _)
theorem sD.k{f:Int->Int->Bool}(e:sD v u f=some b)(r1:bl P.w v x)(r2:bl P.w u y)(T:Value->Value->Bool->Prop)(k:∀i j t t',T (.int i t) (.int j t') (f i j)):T x y b:=
 hZ e λi ei e=>gW (λb=>T x y b) e λj ej=>intOf.k ei (λv=>bl P.w v x->_) (λr1=>intOf.k ej (λu=>bl P.w u y->_) (λr2=>r1.inv (λx=>T x y _) λt=>r2.inv (λy=>T _ y _) λt'=>k i j t t') r2) r1
theorem vx{op:nG}(G:Good X)(r1:bl P.w v x)(r2:bl P.w u y)(e:e7 op v u P.H=some b)(k:∀tk,Q (.bool b) (upd P.s P.s.heap tk)):wpAny X.M P.A (compareOp (tE op) x y) Q P.Ex P.s:=by
 cases op with
 |eq=>exact(Ga r1 r2 e).1 (k _)
 |ne=>exact gW (λb=>(∀tk,Q (.bool b) (upd P.s P.s.heap tk))->_) e (λc e k=>(Ga r1 r2 e).2 (k _)) k
 |jZ=>exact Gb G r1 r2 e k
 |jH=>exact gW (λb=>(∀tk,Q (.bool b) (upd P.s P.s.heap tk))->_) e (λc e k=>zc (Gb G r1 r2 e λtk=>⟨_,rfl,k tk⟩)) k
 |le=>exact sD.k e r1 r2 (λx y b=>(∀tk,Q (.bool b) (upd P.s P.s.heap tk))->wpAny X.M P.A (compareOp .LtE x y) Q P.Ex P.s) (λZ Z Z Z k=>le_int (k _)) k
 |gt=>exact sD.k e r1 r2 (λx y b=>(∀tk,Q (.bool b) (upd P.s P.s.heap tk))->wpAny X.M P.A (compareOp .Gt x y) Q P.Ex P.s) (λZ Z Z Z k=>gt_int (k _)) k
 |ge=>exact sD.k e r1 r2 (λx y b=>(∀tk,Q (.bool b) (upd P.s P.s.heap tk))->wpAny X.M P.A (compareOp .GtE x y) Q P.Ex P.s) (λZ Z Z Z k=>ge_int (k _)) k
 |lt=>
  change BC v u P.H=some b at e
  unfold BC at e
  split at e
  ·cases e;exact r1.inv (λx=>wpAny X.M P.A (compareOp .Lt x y) Q P.Ex P.s) λt=>r2.inv (λy=>wpAny X.M P.A (compareOp .Lt _ y) Q P.Ex P.s) λt'=>lt_int (k _)
  ·exact hZ e λis e1 e=>gW (λb=>(∀tk,Q (.bool b) (upd P.s P.s.heap tk))->_) e (λjs e2 k=>hZ e1 λvs e3 e1=>hZ e2 λus e4 e2=>bH r1 e3 (λx=>wpAny X.M P.A (compareOp .Lt x y) Q P.Ex P.s) λZ a xs n Z Z Z h1 h2 Z=>bH r2 e4 (λy=>wpAny X.M P.A (compareOp .Lt _ y) Q P.Ex P.s) λZ c ys n' Z Z Z q1 q2 Z=>Mm h1 q1 h2 q2 e1 e2 (k _)) k
  ·cases e
end
section
variable{σ:Lv}{P:Fp σ}{Q:Value->Shared->Prop}{x:Str}{pos:Pos}
theorem Mp{k:Option NameKind}(h:rA k){G:Prop}(kc:k=some .cell->G)(kf:k=some .free->G):G:=by
 cases k with
 |none=>cases h
 |some k=>cases k<;>first|cases h;done|exact kc rfl|exact kf rfl
theorem nJ.k{ns:List Str}{i:Nat}{G:Prop}(h:nJ ns i x=true)(k:ns.idxOf x=i->x∈ns->G):G:=aV h λh1 h2=>by
 have h1:=cf h1
 exact k h1 (List.idxOf_lt_length_iff.mp (h1▸cf h2))
theorem Mq{i:Nat}(h:FK σ.f i x=true):ct σ (.J i) (.Name x pos):=λP post Q p k=>
 aV h λh1 h=>aV h λh2 h=>aV h λh3 h4=>nJ.k h1 λhi hx=>aI.k p λv hv p=>by
  rw[<-hi] at hv
  refine wpAny_Name ?_ (jj _▸h3)
  have key:P.env.kindOf x=some .local\/rA (P.env.kindOf x):=by
   rcases P.kd x with e|⟨_,e⟩
   ·rw[<-e]
    revert h2
    cases σ.f.sc.names.lookup x with
    |none=>exact λh=>Bool.noConfusion h
    |some k=>cases k<;>first|exact λh=>Bool.noConfusion h|exact λZ=>.inl rfl|exact λZ=>.inr rfl
   ·exact .inr e
  rcases key with hk|hk
  ·exact P.F.loc.elim λm h=>(h.2 x hx hk).inv hv (λy=>m x=y->_) (λy r e=>wpAny_loadName_local P.F.fc.fn hk h.1 e (k.now p r _)) rfl
  ·exact(P.F.tO x hx hk).elim λc h=>h.elim λy h=>h.2.2.inv hv (λy=>P.s.heap.IsCell c y->_) (λy r e=>Mp hk (λhk=>wpAny_loadName_cell P.F.fc.fn hk h.1 e (k.now p r _)) λhk=>wpAny_loadName_free P.F.fc.fn hk h.1 e (k.now p r _) (jj _▸h4)) h.2.1
theorem Kinds.glob{env:Env}(kd:Kinds σ.f.sc env){G:Prop}(h:oH σ.f x=true)(k:env.kindOf x=some .globalImplicit->(x==("__debug__":Str))=false->G):G:=aV h λh1 h2=>by
 have h1:=cf h1
 rcases kd x with e|⟨e,_⟩
 ·exact k (e▸h1) (jj _▸h2)
 ·rw[h1] at e;cases e
theorem vy(G:Good X)(P:Fp σ){y:Value}(e:X.mg x=some y)(h:oH σ.f x=true)(hQ:Q y P.s):wpAny X.M P.A (eval (.Name x pos) P.env) Q P.Ex P.s:=
 P.kd.glob h λk1 k2=>Name_function_global P.F.fc.fn k1 (loadGlobal_global (by rw[P.F.fc.glob];exact G.g.keeps P.R.keep) e hQ) k2
theorem sJ(G:Good X)(P:Fp σ){y:Value}(e:(x,y)∈pU)(h:oH σ.f x=true)(hQ:Q y P.s):wpAny X.M P.A (eval (.Name x pos) P.env) Q P.Ex P.s:=
 P.kd.glob h λk1 k2=>have e:=G.bi _ e;Name_function_global P.F.fc.fn k1 (loadGlobal_builtin (by rw[P.F.fc.glob];exact G.g.keeps P.R.keep) e.1 (by rw[P.F.fc.blt];exact G.b.keeps P.R.keep) e.2 hQ) k2
theorem Mr{j:Nat}(G:Good X)(h1:gK.yH[j]?=some x)(h2:oH σ.f x=true):ct σ (.gk j) (.Name x pos):=λP post Q p k=>
 aI.k p λv hv p=>(G.gk j x h1).elim (λh=>h.elim λi h=>h.elim λu h=>vy G P h.2 h2 (k.now p (dA (h.1.symm.trans hv)▸bl.int i u) _)) λh=>h.elim λa h=>h.elim λis h=>h.elim λvs h=>h.elim λn h=>vy G P h.2.1 h2 (k.now p (dA (h.1.symm.trans hv)▸bl.aC (P.R.keep _ _ h.2.2.1) (BH h.2.2.2.1) (by rw[aS];exact aR h.2.2.2.2 (by decide)) λhm=>bV (P.R.fresh _ hm) h.2.2.1) _)
end
section
variable{P:Pt}{Q:Value->Shared->Prop}{v u:V}{x y:Value}{vs:List V}
theorem nK.k{xs:List Value}{p:Ws}{k:Int}{G:Prop}(r:bJ p vs xs)(e:nK vs k=some v)
  (kk:∀j z,seqIndex? k xs.length=some j->xs[j]?=some z->bl p v z->((0<=k/\j=k.toNat)\/(k<0/\-(xs.length:Int)<=k/\j=(k+xs.length).toNat))->G):G:=by
 have hl:=r.length
 unfold nK at e
 by_cases h0:0<=k
 ·rw[bL h0] at e
  refine r.get e λz hz rz=>kk k.toNat z ?_ hz rz (.inl ⟨h0,rfl⟩)
  have du:=(dZ.mp hz).1
  unfold seqIndex?
  rw[bG (Int.not_lt.mpr h0),bL (by rw[c9 h0,c9 ((toNat_lt h0).mp du)];rfl)]
 ·rw[bG h0] at e
  have h1:k<0:=not_le.mp h0
  rw[hl] at e
  by_cases h2:-(xs.length:Int)<=k
  ·rw[bL h2] at e
   refine r.get e λz hz rz=>kk _ z ?_ hz rz (.inr ⟨h1,h2,rfl⟩)
   unfold seqIndex?
   rw[bL h1,bL (by rw[c9 (by lia),c9 (by lia)];rfl)]
  ·rw[bG h2] at e;cases e
noncomputable def BP(e:Expr):Bool:=decide (e.ctorIdx≠26)
theorem zj{e:Expr}(h:BP e=true)(o i:Value):subscripted e false o i=operate [o,i] (getItem o i):=by
 cases e<;>first|rfl|cases h
theorem Ms{i:V}{value slice:Expr}(G:Good X)(P:Pt)(hs:BP slice=true)(r1:bl P.w v x)(r2:bl P.w i y)(e:fF v i P.H=some u)(k:∀tk z,bl P.w u z->Q z (upd P.s P.s.heap tk)):wpAny X.M P.A (subscriptTail value slice x y) Q P.Ex P.s:=by
 have two:(pairOf i).bind (λq=>(sB P.H v).bind λes=>hU es q)=some u->wpAny X.M P.A (subscriptTail value slice x y) Q P.Ex P.s:=λe=>
  hZ e λq eq e=>hZ e λes ees e=>pairOf.k eq (λi=>bl P.w i y->_) (λr2=>r2.inv (λy=>bl P.w (mZ q) y->wpAny X.M P.A (subscriptTail value slice x y) Q P.Ex P.s) (λa n xs Z Z Z Z r2=>oG r1 G ees (λx=>wpAny X.M P.A (subscriptTail value slice x _) Q P.Ex P.s) λZ Z d kvs Z Z Z h2 h3 Z Z=>
   tail_any h2.typeIs PySem.slot_dict_getitem.lookup (by
    rcases BL h3 q with⟨w1,_⟩|⟨_,_,_,w1,w2,w3⟩
    ·exact bV w1 e
    ·rw[w1] at e;cases e
     exact wpAny_getItem_heap (knd:=nM) (k:=pK q) (by refine(?_:P.A.units+1<cLine);have:=P.rm.units;exact P.u1) (xi r2) h2 w2 (k _ _ w3)) (zj hs _ _)) r2) r2
 cases i with
 |int j=>
  refine r2.inv (λy=>wpAny X.M P.A (subscriptTail value slice x y) Q P.Ex P.s) λt=>?_
  change (match oN P.H v with|some vs=>nK vs j|none=>(mj P.H v).bind λes=>hU es j)=some u at e
  cases hi:oN P.H v with
  |some vs=>
   rw[hi] at e
   have bd:∀{m:Nat} {l:List Value},vs.length=l.length->vs.length<=16000000->m<l.length->(0<=j/\m=j.toNat)\/(j<0/\-(l.length:Int)<=j/\m=(j+l.length).toNat)->-(2:Int)^63<=j/\j<2^63:=λe hz hm h=>h.elim (λa=>⟨Int.le_trans (by decide) a.1,Int.lt_trans ((toNat_lt a.1).mp (show j.toNat<16000000 from a.2▸fh hm (e▸hz))) (by decide)⟩) λa=>⟨Int.le_trans (Int.le_trans (show -(2:Int)^63<=-16000000 by decide) (Int.neg_le_neg (ofNat_le.mpr (e▸hz)))) a.2.1,Int.lt_trans a.1 (by decide)⟩
   refine items G r1 hi (λx=>wpAny X.M P.A (subscriptTail value slice x _) Q P.Ex P.s) (λZ a xs n h1 h2 h3 Z=>nK.k h2 e λm z q1 q2 q3 q4=>?_) λa xs h1 h2 h3=>nK.k h2 e λm z q1 q2 q3 q4=>?_
   ·have b:=bd h2.length h3 (dZ.mp q2).1 q4
    exact item_tupleT (xm h1) b.1 b.2 q1 q2 (k _ z q3) (zj hs _ _)
   ·have b:=bd h2.length h3 (dZ.mp q2).1 q4
    refine tail_any h1.typeIs PySem.slot_list_getitem.lookup ?_ (zj hs _ _)
    rcases q4 with⟨q4,rfl⟩|⟨q4,q5,rfl⟩
    ·exact wpAny_getItem_list h1 q4 b.2 (by rw[getElem?_toArray];exact q2) (k _ z q3)
    ·exact wpAny_getItem_list_neg h1 q4 q5 b.1 (by rw[getElem?_toArray];exact q2) (k _ z q3)
  |none=>
   rw[hi] at e
   exact hZ e λes ees e=>vv r1 G ees (λx=>wpAny X.M P.A (subscriptTail value slice x _) Q P.Ex P.s) λZ Z d kvs Z Z Z h2 h3 Z Z=>tail_any h2.typeIs PySem.slot_dict_getitem.lookup (by
    rcases F6 h3 j with⟨w1,_⟩|⟨_,_,w1,w2,w3⟩
    ·exact bV w1 e
    ·rw[w1] at e;cases e
     exact wpAny_getItem_of (knd:=m8) (k:=j) (gr j) h2.mapOf w2 (k _ _ w3)) (zj hs _ _)
 |_=>exact two e
end
noncomputable def sK(w:Bool):BoolOp:=if w then .And else .Or
section
variable{σ:Lv}{A:Around}{env:Env}{s:Shared}{Ex:Value->Shared->Prop}
theorem Mt{w:Bool}{Gc Gd:Expr}{rest:List Expr}{pos:Pos}{Q:Value->Shared->Prop}(h:wpAny X.M A (eval Gc env) (λv cj=>wpAny X.M A (PySem.truthy v) (λc fO=>bz (c==w) (wpAny X.M A (eval (.BoolOp (sK w) (Gd::rest) pos) env) Q Ex fO) (Q v fO)) Ex cj) Ex s):
  wpAny X.M A (eval (.BoolOp (sK w) (Gc::Gd::rest) pos) env) Q Ex s:=by
 cases w
 ·exact BoolOp_or (gE h (λv cj h=>gE h (λc fO h=>by cases c<;>exact h) λZ Z h=>h) λZ Z h=>h)
 ·exact BoolOp_and (gE h (λv cj h=>gE h (λc fO h=>by cases c<;>exact h) λZ Z h=>h) λZ Z h=>h)
theorem Mu{w:Bool}{e:Expr}{rest:List Expr}{Q:Bool->Shared->Prop}(h:wpAny X.M A (isTrue e env (eval e env)) (λc cj=>bz (c==w) (wpAny X.M A (allTrue (sK w) rest env) Q Ex cj) (Q c cj)) Ex s):wpAny X.M A (allTrue (sK w) (e::rest) env) Q Ex s:=by
 cases w
 ·exact wpAny_allTrue_Or_cons (gE h (λc fO h=>by cases c<;>exact h) λZ Z h=>h)
 ·exact wpAny_allTrue_And_cons (gE h (λc fO h=>by cases c<;>exact h) λZ Z h=>h)
theorem Mv{w:Bool}{Q:Bool->Shared->Prop}(h:Q w s):wpAny X.M A (allTrue (sK w) [] env) Q Ex s:=by
 cases w<;>exact bS h
structure fP(σ:Lv)(cs:List E)(es:List Expr):Prop where
 len:cs.length=es.length
 qh:∀(P:Fp σ) (post:List V->Hp->Prop) (Q:List Value->Shared->Prop) (pos:Pos),oP σ.c cs P.ρ P.H post->BG P.toPt cs.length post Q->wpAny X.M P.A (spliced (backTo pos (starEach es P.env))) Q P.Ex P.s
 plain:∀(env:Env) (pos:Pos),(backTo pos (starEach es env)).any (·.1)=false
 get:∀(i:Nat) c e,cs[i]?=some c->es[i]?=some e->ct σ c e/\vt σ c e
 bo:∀(w:Bool) (P:Fp σ) (post:PQ) (Q:Value->Shared->Prop) (pos:Pos),vl σ.c w cs P.ρ P.H post->Kn P.toPt post Q->wpAny X.M P.A (eval (.BoolOp (sK w) es pos) P.env) Q P.Ex P.s
 zl:∀(w:Bool) (P:Fp σ) (post:PQ) (Q:Bool->Shared->Prop) ,vl σ.c w cs P.ρ P.H post->xl P.toPt post Q->wpAny X.M P.A (allTrue (sK w) es P.env) Q P.Ex P.s
 zm:∀(P:Fp σ) (post:Bool->Hp->Prop) (Q:Bool->Shared->Prop) ,WT σ.c cs P.ρ P.H post->y9 P.toPt post Q ->
  wpAny X.M P.A (forIn es true λc r=>if r=true then do let ok <-isTrue c P.env (eval c P.env);pure (ForInStep.yield ok) else pure (ForInStep.yield r)) Q P.Ex P.s
theorem Mw{es:List Expr}{Q:Bool->Shared->Prop}(h:Q false s):
  wpAny X.M A (forIn es false λc r=>if r=true then do let ok <-isTrue c env (eval c env);pure (ForInStep.yield ok) else pure (ForInStep.yield r)) Q Ex s:=by
 induction es with
 |nil=>exact bS h
 |cons e r ih=>rw[forIn_cons];exact aY (bS ih)
theorem sL{c:E}{e:Expr}(h:cy σ.f c e=true)(env:Env)(rest:List Expr):starEach (e::rest) env=(false,eval e env)::starEach rest env:=by
 cases e<;>first|rfl|skip
 exfalso
 cases c<;>exact Bool.noConfusion h
theorem fP.nil:fP σ [] [] where
 len:=rfl
 qh:=λP post Q pos p k=>wpAny_items_nil (k _ _ p rfl (P.g6 _) _ .nil)
 plain:=λZ Z=>rfl
 get:=λi c e h=>bV getElem?_nil h
 bo:=λw P post Q pos p=>p.elim
 zl:=λw P post Q p=>p.elim
 zm:=λP post Q p k=>bS (k _ _ p (P.g6 _))
theorem fP.cons{c:E}{cs:List E}{e:Expr}{es:List Expr}(h0:cy σ.f c e=true)(he:ct σ c e/\vt σ c e)(hs:fP σ cs es):fP σ (c::cs) (e::es) where
 len:=bU (·+1) hs.len
 qh:=λP post Q pos p k=>sf (he.1 P _ _ p (λv H1 p1 N x r=>hs.qh (P.to N) _ _ pos p1 (λvs H2 p2 hl N2 xs r2=>k _ _ p2 (bU (·+1) hl) (N.then N2) _ (.cons (r.mono N2.S) r2)))) (sL h0 P.env es)
 get:=λi c' e' h1 h2=>by
  cases i with
  |zero=>cases h1;cases h2;exact he
  |succ i=>exact hs.get i c' e' h1 h2
 plain:=λenv pos=>by
  rw[sL h0 env es]
  exact hs.plain env pos
 bo:=λw P post Q pos p k=>by
  cases cs with
  |nil=>
   cases es with
   |nil=>exact BoolOp_one (he.1 P _ _ p k)
   |cons _ _=>cases hs.len
  |cons c2 cs=>
   cases es with
   |nil=>cases hs.len
   |cons e2 es=>
    refine Mt (he.1 P _ _ p (λv H1 p1 N x r=>aI.k p1 λb hb p1=>BI (P:=N.pt) r hb λtk=>?_))
    cases hw:b==w with
    |true=>rw[hw] at p1;exact hs.bo w (P.to (N.then (N.pt.g6 tk))) _ _ pos p1 (k.nx _)
    |false=>rw[hw] at p1;exact k _ _ p1 (N.then (N.pt.g6 tk)) _ r
 zl:=λw P post Q p k=>by
  refine Mu ?_
  cases cs with
  |nil=>
   cases es with
   |cons _ _=>cases hs.len
   |nil=>
    refine he.2 P _ _ p (λv H1 p1=>(k v H1 p1).m λb h N=>?_)
    cases hw:b==w with
    |true=>exact Mv (eq_of_beq hw▸h N)
    |false=>exact h N
  |cons c2 cs=>
   refine he.2 P _ _ p (λv H1 p1=>aI.k p1 λb hb p1=>.i hb λN=>?_)
   cases hw:b==w with
   |true=>rw[hw] at p1;exact hs.zl w (P.to N) _ _ p1 (k.nx N)
   |false=>rw[hw] at p1;exact aI.at hb (k v H1 p1) N
 zm:=λP post Q p k=>by
  rw[forIn_cons]
  refine aY (aY (he.2 P _ _ p (λv H1 p1=>p1.m λb p1 N=>bS ?_)))
  cases b with
  |true=>exact hs.zm (P.to N) _ _ p1 (k.nx N)
  |false=>exact Mw (k _ _ p1 N)
end
section
variable{σ:Lv}{a b c:E}{l r r':Expr}{pos:Pos}
def b9(σ:Lv)(c:E)(e:Expr):Prop:=ct σ c e/\vt σ c e
theorem ct.t{e:Expr}(ev:ct σ c e)(he:∀env,isTrue e env (eval e env)=(do let v <-eval e env;standAt e.pos;holding [v] (PySem.truthy v))):b9 σ c e:=
 ⟨ev,λP post Q p k=>wpAny_isTrue_value (ev P _ _ p (λv H1 p1 N x r=>aI.k (k v H1 p1) λb hb h=>BI (P:=N.pt) r hb λtk=>h (N.then (N.pt.g6 tk)))) (he _)⟩
theorem tR(ha:ct σ a l)(hb:ct σ b r)(P:Fp σ){post:V->V->Hp->Prop}{Q:Value->Value->Shared->Prop}(p:WE σ.c a P.ρ P.H λx H=>WE σ.c b P.ρ H λy H=>post x y H)
  (k:∀v u H,post v u H->∀(N:Nx P.toPt H) x y,bl N.w v x->bl N.w u y->Q x y N.s):wpAny X.M P.A (eval l P.env) (λx cj=>wpAny X.M P.A (eval r P.env) (λy fO=>Q x y fO) P.Ex cj) P.Ex P.s:=
 ha P _ _ p (λv H1 p1 N x r1=>hb (P.to N) _ _ p1 (λu H2 p2 N2 y r2=>k v u H2 p2 (N.then N2) x y (r1.mono N2.S) r2))
theorem Mx{v:V}{c:Const}{k:Nat}(h:Bw v=some c):ct σ (.k v) (.Constant c k pos):=λP post Q p k=>
 V.casesOn (motive_1:=λv=>Bw v=some c->post v P.H->wpAny X.M P.A (eval (.Constant c _ pos) P.env) Q P.Ex P.s) v (λh p=>dA h▸wpAny_Constant_none (k.now p .none _)) (λZ h p=>dA h▸wpAny_Constant_bool (k.now p (.bool _) _)) (λZ h p=>dA h▸wpAny_Constant_int (k.now p (.int _ _) _))
  (λZ h p=>dA h▸wpAny_Constant_str (k.now p (.str _ _) _)) (λZ h=>bV rfl h) (λZ h=>bV rfl h) (λh=>bV rfl h) h p
theorem My{op:oE}(G:Good X)(ha:ct σ a l)(hb:ct σ b r):ct σ (.bin op a b) (.BinOp l (sj op) r pos):=λP post Q p k=>
 wpAny_BinOp (tR ha hb P p (λv u H q N x y r1 r2=>Mb G N.pt r1 r2 q (k.nx N)))
theorem Mz(ha:ct σ a l):ct σ (.neg a) (.UnaryOp .USub l pos):=λP post Q p k=>
 wpAny_UnaryOp (ha P _ _ p (λv H1 p1 N x r=>fy.k p1 (λv=>bl N.w v x->_) (λi p1 r=>r.inv (λx=>wpAny X.M P.A (unaryOp .USub x) Q P.Ex N.s) λt=>neg_int (k _ _ p1 (N.then (N.pt.g6 _)) _ (.int _ _))) r))
theorem MA(ha:b9 σ a l):b9 σ (.not a) (.UnaryOp .Not l pos):=
 ⟨λP post Q p k=>wpAny_UnaryOp (ha.1 P _ _ p (λv H1 p1 N x r=>aI.k p1 λb hb p1=>not_of (BI (P:=N.pt) r hb λtk=>k _ _ p1 (N.then (N.pt.g6 tk)) _ (.bool _)))),
  λP post Q p k=>wpAny_isTrue_Not (ha.2 P _ _ p (λv H1 p1=>p1.m λb p1=>k _ _ p1))⟩
theorem Ge{w:Bool}{cs:List E}{es:List Expr}(h:fP σ cs es)(hw:∀ρ H post,WE σ.c c ρ H post->vl σ.c w cs ρ H post):b9 σ c (.BoolOp (sK w) es pos):=
 ⟨λP post Q p k=>h.bo w P post Q pos (hw _ _ _ p) k,λP post Q p k=>wpAny_isTrue_BoolOp (h.zl w P post Q (hw _ _ _ p) k)⟩
theorem zo{c:E}{e:Expr}(h:cy σ.f c e=true)(o:CmpOp):behindInMarks o e=false:=by
 cases e<;>first|rfl|skip
 exfalso
 cases c<;>exact Bool.noConfusion h
theorem MB{op:nG}(G:Good X)(h0:cy σ.f b r=true)(ha:ct σ a l)(hb:ct σ b r):b9 σ (.cmp op a b) (.Compare l [tE op] [r] pos):=
 ⟨λP post Q p k=>wpAny_Compare1 (tR ha hb P p (λv u H q N x y r1 r2=>aI.k q λt ht q=>vx (P:=N.pt) G r1 r2 ht λtk=>k _ _ q (N.then (N.pt.g6 tk)) _ (.bool _))) (zo h0 _),
  λP post Q p k=>wpAny_isTrue_Compare1 (tR ha hb P p (λv u H q N x y r1 r2=>aI.k q λt ht q=>vx (P:=N.pt) G r1 r2 ht λtk=>se (k _ _ q (N.then (N.pt.g6 tk))))) (zo h0 _)⟩
theorem MC{op qR:nG}(G:Good X)(h0:cy σ.f c r'=true)(ha:ct σ a l)(hb:ct σ b r)(hc:ct σ c r'):b9 σ (.jm op qR a b c) (.Compare l [tE op,tE qR] [r,r'] pos):=by
 refine⟨λP post Q p k=>Compare_chain (ha P _ _ p (λv H1 p1 N x r1=>chain_link (hb (P.to N) _ _ p1 (λu H2 p2 N2 y r2=>aI.k p2 λt ht p2=>vx (P:=N2.pt) G (r1.mono N2.S) r2 ht λtk=>se ?_)))) (zo h0 _),
  λP post Q p k=>isTrue_chain (ha P _ _ p (λv H1 p1 N x r1=>test_link (hb (P.to N) _ _ p1 (λu H2 p2 N2 y r2=>aI.k p2 λt ht p2=>vx (P:=N2.pt) G (r1.mono N2.S) r2 ht λtk=>se ?_)))) (zo h0 _)⟩
 ·have N3:=(N.then N2).then (N2.pt.g6 tk)
  cases t with
  |true=>exact chain_last (hc (P.to ((N.then N2).then (N2.pt.g6 tk))) _ _ p2 (λw H4 p4 N4 z r4=>aI.k p4 λt' tS p4=>vx (P:=N4.pt) G (r2.mono N4.S) r4 tS λqi=>k _ _ p4 ((N.then N2).then ((N2.pt.g6 tk).then (N4.then (N4.pt.g6 qi)))) _ (.bool _)))
  |false=>exact k _ _ p2 ((N.then N2).then (N2.pt.g6 tk)) _ (.bool _)
 ·cases t with
  |true=>exact test_last (hc (P.to ((N.then N2).then (N2.pt.g6 tk))) _ _ p2 (λw H4 p4 N4 z r4=>aI.k p4 λt' tS p4=>vx (P:=N4.pt) G (r2.mono N4.S) r4 tS λqi=>se (k _ _ p4 ((N.then N2).then ((N2.pt.g6 tk).then (N4.then (N4.pt.g6 qi)))))))
  |false=>exact k _ _ p2 ((N.then N2).then (N2.pt.g6 tk))
theorem BQ{p:Ws}{v:V}{x:Value}(r:bl p v x):plainIs x .none=true/\(x==Value.none)=wy v:=
 r.casesOn (motive_1:=λv x Z=>plainIs x .none=true/\(x==Value.none)=wy v) ⟨rfl,rfl⟩ (λZ=>⟨rfl,rfl⟩) (λZ Z=>⟨rfl,rfl⟩) (λZ Z=>⟨rfl,rfl⟩) (λZ Z Z Z=>⟨rfl,rfl⟩) (λZ=>⟨rfl,rfl⟩) ⟨rfl,rfl⟩
theorem is_none{P:Pt}{w:Bool}{v:V}{x:Value}{Q:Value->Shared->Prop}(r:bl P.w v x)(h:Q (.bool (wy v==w)) P.s):wpAny X.M P.A (compareOp (if w then .Is else .IsNot) x .none) Q P.Ex P.s:=by
 rw[<-(BQ r).2] at h
 cases w
 ·rw[F8] at h;exact wpAny_isNot_plain (BQ r).1 h
 ·rw[F7] at h;exact wpAny_is_plain (BQ r).1 h
theorem MD{w:Bool}{k:Nat}{kp:Pos}(ha:ct σ a l):b9 σ (.isNone w a) (.Compare l [if w then .Is else .IsNot] [.Constant .none k kp] pos):=
 ⟨λP post Q p k=>wpAny_Compare1 (ha P _ _ p (λv H1 p1 N x r1=>wpAny_Constant_none (is_none (P:=N.pt) r1 (k _ _ p1 N _ (.bool _))))) rfl,
  λP post Q p k=>wpAny_isTrue_Compare1 (ha P _ _ p (λv H1 p1 N x r1=>wpAny_Constant_none (is_none (P:=N.pt) r1 (se (k _ _ p1 N))))) rfl⟩
theorem Gg{cs:List E}{vs:List V}{xs:List Value}{p:Ws}(hc:cs.length<1000)(hl:vs.length=cs.length)(r:bJ p vs xs):xs.length<=sizeLine/\vs.length<=16000000:=by
 rw[<-r.length,hl];unfold sizeLine;lia
theorem ME{cs:List E}{es:List Expr}{k:Nat}(hc:cs.length<1000)(h:fP σ cs es):ct σ (.aC cs) (.Tuple es k pos):=λP post Q p k=>
 wpAny_Tuple_spliced (h.qh P _ _ pos p (λvs H1 p1 hl N xs r=>have z:=Gg hc hl r;⟨z.1,k _ _ p1 (N.then (N.pt.ext (.push _) N.tk)) _ (.aC (n:=0) (il _ rfl) (r.mono (bZ.ext (own:=iq) (p:=N.w) (q:=N.w) .refl (.push _))) z.2 (N.R.new (i5 _ (cg _))).1)⟩))
theorem MF{cs:List E}{es:List Expr}(hc:cs.length<1000)(h:fP σ cs es):ct σ (.bH cs) (.List es pos):=λP post Q p k=>
 wpAny_List_spliced (h.qh P _ _ pos p (λvs H1 p1 hl N xs r=>have z:=Gg hc hl r;⟨z.1,Kn.list (P:=N.pt) (k.nx N) (.push _) _ (i5 _ (cg _)) (il _ rfl) r z.2 p1 _⟩))
theorem MG{c:E}{e:Expr}(h:cy σ.f c e=true):BP e=true:=by
 cases e<;>first|rfl|skip
 exfalso
 cases c<;>exact Bool.noConfusion h
theorem MH(G:Good X)(h0:cy σ.f b r=true)(ha:ct σ a l)(hb:ct σ b r):ct σ (.aP a b) (.Subscript l r pos):=λP post Q p k=>
 Subscript_ (tR ha hb P p (λv u H q N x y r1 r2=>aI.k q λw hw q=>Ms G N.pt (MG h0) r1 r2 hw λtk z rz=>k _ _ q (N.then (N.pt.g6 tk)) _ rz))
theorem rD{A:Around}{s:Shared}{f:Value}{args:List (Bool×Sem Value)}{Q:Args->Shared->Prop}{Ex:Value->Shared->Prop}(hp:args.any (·.1)=false)(h:wpAny X.M A (spliced args) (λvs s'=>Q ⟨vs,[]⟩ s') Ex s):wpAny X.M A (evalArgs f true args []) Q Ex s:=by
 cases args with
 |nil=>
  refine(?_:wpAny X.M A (spliced [] >>= _) Q Ex s)
  exact aY (gE h (λvs s' h'=>aY (bS (wpAny_holding (aY (bS (aY (bS (bS h')))))))) λZ Z x=>x)
 |cons a r=>
  obtain⟨b,t⟩:=a
  cases b with
  |false=>exact Calls.evalArgs_plain h
  |true=>cases hp
theorem MI{f:Nat}{x:Str}{cs:List E}{es:List Expr}{np:Pos}(G:Good X)(hc:vu σ.m)(hn:2*σ.m+1<=σ.n)(h1:gK.nI[f]?=some (false,x))(h2:oH σ.f x=true)(hh:(!σ.f.hd||u7.contains f)=true)(h:fP σ cs es):ct σ (.call f cs) (.Call (.Name x np) es [] pos):=λP post Q p k=>
 (G.fn f _ h1).casesOn λa o d pm cd doc e1 e3 e4 Z e5 Z=>wpAny_Call_NameR (vy G P e3 h2 (Calls.callWith_function (o:=o) (rD (h.plain P.env pos) (h.qh P _ _ pos p (λvs H1 p1 Z N xs r=>⟨⟨N.R.keep _ _ e4,e5⟩,hc N.pt f _ a vs xs post σ.x Q (P.rn.less (pP hn)) (λhg=>P.calm (by rw[hg,Bool.or_false] at hh;exact jj _▸hh)) h1 e3 r p1 (k.nx N) (P.kn.nx N)⟩)))))
end
structure Sx{σ:Lv}(P:Fp σ)(ρ:bB)(H:Hp)where
 φ:List Addr
 h:Heap
 tk:Nat
 R:SR ⟨φ,h⟩ H
 F:FR P.env σ.f.ns ρ ⟨φ,h⟩
 S:bZ P.own P.w ⟨φ,h⟩
section
variable{σ:Lv}{P:Fp σ}{ρ ck:bB}{H H':Hp}
noncomputable abbrev Sx.w(N:Sx P ρ H):Ws:=⟨N.φ,N.h⟩
noncomputable abbrev Sx.s(N:Sx P ρ H):Shared:=(upd P.s N.h N.tk)
noncomputable abbrev Sx.fp(N:Sx P ρ H):Fp σ:=⟨⟨P.A,N.φ,H,N.s,P.Ex,P.rm,N.R,P.fr.kP N.S⟩,P.env,ρ,P.own,P.kd,N.F,P.rn,P.hf,P.calm,λv H' p φ h tk R S y r=>P.kx v H' p φ h tk R (N.S.trans S) y r⟩
noncomputable abbrev Sx.then(N:Sx P ρ H)(N':Sx N.fp ck H'):Sx P ck H':=⟨N'.φ,N'.h,N'.tk,N'.R,N'.F,N.S.trans N'.S⟩
noncomputable abbrev Sx.un{x:PQ}{Ex:Value->Shared->Prop}{kx:tP P.own P.w P.s x Ex}(N:Sx (P.ex x Ex kx) ρ H):Sx P ρ H:=⟨N.φ,N.h,N.tk,N.R,N.F,N.S⟩
noncomputable abbrev Nx.sx(N:Nx P.toPt H):Sx P P.ρ H:=⟨N.φ,N.h,N.tk,N.R,P.F.mono N.S λZ Z h=>h,N.S.nil⟩
end
def BR(env:Env)(own:Addr->Prop)(x:Str):Prop:=(env.kindOf x=some .local/\own env.locals)\/(env.kindOf x=some .cell/\∀c,env.cells.lookup x=some c->own c)
section
variable{σ:Lv}
theorem Gh{ns:List Str}{i:Nat}{x z:Str}{v:Option V}{ρ:bB}(hx:x∈ns)(hz:z∈ns)(hi:ns.idxOf x=i)(hl:i<ρ.length):lk ns (ρ.set i v) z=if z=x then v else lk ns ρ z:=by
 unfold lk
 by_cases e:z=x
 ·rw[bL e,e,hi,sd hl];rfl
 ·rw[bG e,getElem?_set_ne λe'=>e ?_]
  have h1:=List.idxOf_lt_length_of_mem hx
  have h2:=List.idxOf_lt_length_of_mem hz
  rw[<-hi] at e'
  have e1:ns[ns.idxOf x]?=some x:=by rw[fL h1,List.getElem_idxOf]
  have e2:ns[ns.idxOf z]?=some z:=by rw[fL h2,List.getElem_idxOf]
  rw[e'] at e1
  exact dA (e2.symm.trans e1)
theorem Gi{Ex:Value->Shared->Prop}{P:Fp σ}{x:Str}{i:Nat}{v:V}{y:Value}{Q:Unit->Shared->Prop}(hi:σ.f.ns.idxOf x=i)(hx:x∈σ.f.ns)(ho:BR P.env P.own x)(r:bl P.w v y)(k:∀N:Sx P (P.ρ.set i (some v)) P.H,Q () N.s):wpAny X.M P.A (storeName P.env x y) Q Ex P.s:=by
 have vz:i<P.ρ.length:=by rw[P.F.len,<-hi];exact List.idxOf_lt_length_of_mem hx
 have rE:∀z,z∈σ.f.ns->lk σ.f.ns (P.ρ.set i (some v)) z=if z=x then some v else lk σ.f.ns P.ρ z:=λz hz=>Gh hx hz hi vz
 have key:∀(a:Addr) (h':Heap) (tk:Nat),m9 P.env a->P.own a->ExtBut a P.s.heap h'->(∀o,P.s.heap.get? a=some o->fz o=false)->(∃o',h'.get? a=some o'/\∀o,P.s.heap.get? a=some o->fA o=true->fA o'=true) ->
   (∀(S:bZ P.own P.w ⟨P.φ,h'⟩) (keep:∀b,b≠a->∀o,P.s.heap.get? b=some o->h'.get? b=some o),(∃m,h'.Ns P.env.locals m/\∀z,z∈σ.f.ns->P.env.kindOf z=some .local->jK ⟨P.φ,h'⟩ (lk σ.f.ns (P.ρ.set i (some v)) z) (m z)) /\
    ∀z,z∈σ.f.ns->rA (P.env.kindOf z)->∃c v',P.env.cells.lookup z=some c/\h'.IsCell c v'/\jK ⟨P.φ,h'⟩ (lk σ.f.ns (P.ρ.set i (some v)) z) v')->Q () (upd P.s h' tk):=λa h' tk ha rB he hf hl hF=>
  have c:Ch (·=a) P.s.heap h':=.but he hf
  have S:bZ P.own P.w ⟨P.φ,h'⟩:=bZ.ch (io:=(·=a)) (q:=P.w) .refl c λb hb=>.inr (hb▸⟨rB,hl⟩)
  have q:=hF S λb hb o e=>he b o hb e
  k ⟨P.φ,h',tk,P.R.ch (p:=P.w) (io:=(·=a)) (λb hb=>hb▸P.F.ap a ha) c,⟨P.F.fc,by rw[kG];exact P.F.len,q.1,q.2,P.F.ap,λb hb=>(P.F.live b hb).elim λo e=>(S.alive b o e).imp λZ x=>x.1⟩,S⟩
 rcases ho with⟨hk,hL⟩|⟨hk,hc⟩
 ·refine P.F.loc.elim λm hm=>wpAny_storeName_local hk hm.1 (λh' hn hs=>?_) (by rw[P.F.fc.fn];rfl)
  refine key P.env.locals h' _ (.inl rfl) hL hs.extBut (λo e=>hm.1.elim λo' q=>q.elim λZ q=>q.elim λZ q=>by rw[q.1] at e;cases e;exact xd q.2.1) (hn.imp λo q=>q.elim λZ q=>q.elim λZ q=>⟨q.1,λZ Z Z=>y4 q.2.1⟩) λS keep=>⟨⟨_,hn,λz hz oS=>?_⟩,λz hz oS=>?_⟩
  ·rw[rE z hz]
   by_cases e:z=x
   ·rw[bL e,bL e];exact .some (r.mono S)
   ·rw[bG e,bG e];exact(hm.2 z hz oS).kp S.kp
  ·refine(P.F.tO z hz oS).imp λc q=>q.imp λv' q=>⟨q.1,BF q.2.1 (keep c (P.F.fc.ne _ (mem_lookup q.1))),?_⟩
   rw[rE z hz,bG λe=>by rw[e,hk] at oS;cases oS]
   exact q.2.2.kp S.kp
 ·refine(P.F.tO x hx (by rw[hk];rfl)).elim λc q=>q.elim λv' q=>wpAny_storeName_cell P.F.fc.fn hk q.1 q.2.1 λh' hn hs=>?_
  refine key c h' _ (vq q.1) (hc c q.1) hs.extBut (λo e=>q.2.1.elim λo' q=>by rw[q.1] at e;cases e;exact L3 q.2) (hn.imp λo x=>⟨x.1,λo' e hd=>q.2.1.elim λo2 y=>by rw[y.1] at e;cases e;exact no hd (L4 y.2)⟩) λS keep=>⟨P.F.loc.imp λm hm=>⟨L7 hm.1 (keep _ (P.F.fc.ne _ (mem_lookup q.1)).symm),λz hz oS=>?_⟩,λz hz oS=>?_⟩
  ·rw[rE z hz,bG λe=>by rw[e,hk] at oS;cases oS]
   exact(hm.2 z hz oS).kp S.kp
  ·rw[rE z hz]
   by_cases e:z=x
   ·rw[bL e,e];exact⟨c,some y,q.1,hn,.some (r.mono S)⟩
   ·rw[bG e]
    exact(P.F.tO z hz oS).imp λc' q'=>q'.imp λv2 q'=>⟨q'.1,BF q'.2.1 (keep c' λe'=>e (P.F.fc.apart z x c (e'▸q'.1) q.1)),q'.2.2.kp S.kp⟩
theorem MJ{P:Fp σ}{x:Str}{i:Nat}{v:V}{y:Value}{Q:Unit->Shared->Prop}(hi:σ.f.ns.idxOf x=i)(hx:x∈σ.f.ns)(ho:BR P.env P.own x)(r:bl P.w v y)(k:∀N:Sx P (P.ρ.set i (some v)) P.H,Q () N.s):wpAny X.M P.A (bindName P.env x y) Q P.Ex P.s:=wpAny_bindName (Gi hi hx ho r k)
def tT(env:Env)(own:Addr->Prop)(xs:List Str):Prop:=∀x,x∈xs->BR env own x
theorem BS{h h':Heap}(he:ExtBut h.objs.size h h'):aA h h':=λa o e=>he a o (λe'=>bV (i5 h (iX e'.symm)) e) e
theorem zp{t:dq}{e:Expr}{env:Env}(h:j0 σ.f t e=true)(es:List Expr):assignEach (e::es) env=(false,assign e env)::assignEach es env:=by
 cases t with
 |J i=>exact gc.k (G:=λe=>assignEach (e::es) env=(false,assign e env)::assignEach es env) h λZ Z Z=>rfl
 |aC ts=>exact oI.k (G:=λe=>assignEach (e::es) env=(false,assign e env)::assignEach es env) h λZ Z Z Z=>rfl
theorem Gj:∀{ts:List dq} {es:List Expr} {vs:List V} {ρ ck:bB},wX σ.f ts es=true->w7 ts vs ρ=some ck->∀env,(assignEach es env).length=vs.length/\(assignEach es env).findIdx? (·.1)=none
 |[],es,[],_,_,h,_,env=>fU (G:=λes=>(assignEach es env).length=0/\(assignEach es env).findIdx? (·.1)=none) h ⟨rfl,rfl⟩
 |[],es,_::_,_,_,h,ea,env=>bV rfl ea
 |_::_,es,[],_,_,h,ea,env=>bV rfl ea
 |t::ts,es,v::vs,ρ,ck,h,ea,env=>pS.k (G:=λes=>(assignEach es env).length=vs.length+1/\(assignEach es env).findIdx? (·.1)=none) h λe es h=>aV h λh1 h2=>hZ ea λGk e1 e2=>by
  have q:=Gj h2 e2 env
  rw[zp h1 es]
  exact⟨bU (·+1) q.1,by rw[List.findIdx?_cons,q.2];rfl⟩
mutual
theorem vA:∀(t:dq) (e:Expr) (P:Fp σ) (v:V) (y:Value) (ck:bB) (Q:Unit->Shared->Prop) ,j0 σ.f t e=true->tT P.env P.own (iO t e)->bl P.w v y->aN t v P.ρ=some ck->(∀N:Sx P ck P.H,Q () N.s)->wpAny X.M P.A (assign e P.env y) Q P.Ex P.s
 |.J i,e,P,v,y,ck,Q,h,ho,r,ea,k=>gc.k (G:=λe=>tT P.env P.own (iO (.J i) e)->wpAny X.M P.A (assign e P.env y) Q P.Ex P.s) h (λx pos h ho=>aV h λh1 Z=>nJ.k h1 λhi hx=>tQ ea (λck=>(∀N:Sx P ck P.H,Q () N.s)->_) (λZ k=>by
   rw[PySem.assign_Name]
   exact aY (wpAny_standAt (MJ hi hx (ho x (cI.mpr rfl)) r k))) k) ho
 |.aC ts,e,P,v,y,ck,Q,h,ho,r,ea,k=>oI.k (G:=λe=>tT P.env P.own (iO (.aC ts) e)->wpAny X.M P.A (assign e P.env y) Q P.Ex P.s) h (λes j pos h ho=>by
   have hh:=(eJ.mp h).1
   have h:=(eJ.mp h).2
   have hv:∃vs,v=.aC vs:=by cases v<;>first|cases ea;done|exact⟨_,rfl⟩
   obtain⟨vs,rfl⟩:=hv
   change w7 ts vs P.ρ=some ck at ea
   have q:=Gj h ea P.env
   exact r.inv (λy=>wpAny X.M P.A (assign (.Tuple es j pos) P.env y) Q P.Ex P.s) λa m xs h1 h2 Z Z=>wpAny_assign_Tuple (P.calm (jj _▸hh)) ⟨_,h1,rfl,m,rfl⟩ (by rw[q.1,jX,h2.length]) q.2 λh' he=>
    Gm ts es (P.to (P.toPt.ext (BS he) P.s.toks)) vs xs ck Q h ho (h2.mono (P.toPt.ext (BS he) P.s.toks).S) ea λN=>k ((P.toPt.ext (BS he) P.s.toks).sx.then N)) ho
theorem Gm:∀(ts:List dq) (es:List Expr) (P:Fp σ) (vs:List V) (ys:List Value) (ck:bB) (Q:Unit->Shared->Prop) ,wX σ.f ts es=true->tT P.env P.own (vd ts es)->bJ P.w vs ys->w7 ts vs P.ρ=some ck->(∀N:Sx P ck P.H,Q () N.s)->wpAny X.M P.A (assignInOrder ((assignEach es P.env).map (·.2)) ys) Q P.Ex P.s
 |[],es,P,vs,ys,ck,Q,h,ho,r,ea,k=>fU (G:=λes=>wpAny X.M P.A (assignInOrder ((assignEach es P.env).map (·.2)) ys) Q P.Ex P.s) h (by
   cases vs with
   |nil=>cases ea;exact r.inv (λys=>wpAny X.M P.A (assignInOrder [] ys) Q P.Ex P.s) (bS (k (P.toPt.g6 _).sx))
   |cons _ _=>cases ea)
 |t::ts,es,P,vs,ys,ck,Q,h,ho,r,ea,k=>pS.k (G:=λes=>tT P.env P.own (vd (t::ts) es)->wpAny X.M P.A (assignInOrder ((assignEach es P.env).map (·.2)) ys) Q P.Ex P.s) h (λe es h ho=>aV h λh1 h2=>by
   cases vs with
   |nil=>cases ea
   |cons v vs=>
    rw[zp h1 es]
    exact hZ ea λGk e1 e2=>r.inv (λys=>wpAny X.M P.A (assignInOrder (((false,assign e P.env)::assignEach es P.env).map (·.2)) ys) Q P.Ex P.s) λy ys r1 r2=>wpAny_assignInOrder_more (vA t e P v y Gk _ h1 (λx hx=>ho x (cF.mpr (.inl hx))) r1 e1 λN=>
     Gm ts es N.fp vs ys ck Q h2 (λx hx=>ho x (cF.mpr (.inr hx))) (r2.mono N.S) e2 λN'=>k (N.then N'))) ho
end
end
structure KO{σ:Lv}(P:Fp σ)(K:Out->Prop)(Q:Flow->Shared->Prop):Prop where
 next:∀ρ H,K (.next ρ H)->∀N:Sx P ρ H,Q .next N.s
 ret:∀v H,K (.ret v H)->∀(φ:List Addr) (h:Heap) (tk:Nat),SR ⟨φ,h⟩ H->bZ P.own P.w ⟨φ,h⟩->∀x,bl ⟨φ,h⟩ v x->Q (.ret x) (upd P.s h tk)
def vB(env:Env)(own:Addr->Prop)(ns:List Str):Prop:=tT env own ns/\∀a,own a->m9 env a
section
variable{σ:Lv}{P:Fp σ}{K:Out->Prop}{Q:Flow->Shared->Prop}{ρ:bB}{H:Hp}
theorem KO.nx(k:KO P K Q)(N:Sx P ρ H):KO N.fp K Q:=⟨λck H' p N'=>k.next ck H' p (N.then N'),λv H' p φ h tk R S x r=>k.ret v H' p φ h tk R (N.S.trans S) x r⟩
def qj(σ:Lv)(cs:List S)(ss:List Stmt):Prop:=
 ∀(P:Fp σ) (K:Out->Prop) (Q:Flow->Shared->Prop) ,vB P.env P.own σ.f.ns->aG σ.c cs P.ρ P.H K->KO P K Q->wpAny X.M P.A (execs ss P.env) Q P.Ex P.s
def SS(σ:Lv)(c:S)(st:Stmt):Prop:=
 ∀(P:Fp σ) (K:Out->Prop) (Q:Flow->Shared->Prop) ,vB P.env P.own σ.f.ns->WS σ.c c P.ρ P.H K->KO P K Q->wpAny X.M P.A (exec st P.env) Q P.Ex P.s
mutual
theorem xt:∀(t:dq) (e:Expr),j0 σ.f t e=true->∀x,x∈iO t e->x∈σ.f.ns
 |.J i,e,h=>gc.k (G:=λe=>∀x,x∈iO (.J i) e->x∈σ.f.ns) h λy p h x hx=>aV h λh1 Z=>nJ.k h1 λZ hy=>cI.mp hx▸hy
 |.aC ts,e,h=>oI.k (G:=λe=>∀x,x∈iO (.aC ts) e->x∈σ.f.ns) h λes Z Z h x hx=>Gn ts es (eJ.mp h).2 x hx
theorem Gn:∀(ts:List dq) (es:List Expr),wX σ.f ts es=true->∀x,x∈vd ts es->x∈σ.f.ns
 |[],es,h,x,hx=>nomatch hx
 |t::ts,es,h,x,hx=>pS.k (G:=λes=>x∈vd (t::ts) es->x∈σ.f.ns) h (λe es h hx=>aV h λh1 h2=>(cF.mp hx).elim (xt t e h1 x) (Gn ts es h2 x)) hx
end
theorem xu{x:Expr}{o:Option Expr}{env:Env}(h:pT x=true)(line:Nat):swapsWith x o line env=pure false:=by
 cases x<;>first|rfl|cases h
theorem MK{e:E}{x:Expr}{pos:Pos}(hn:pT x=true)(he:ct σ e x):SS σ (.expr e) (.Expr x pos):=λP K Q ho p k=>
 wpAny_Expr_any (he P _ _ p (λv H1 p1 N x r=>k.next _ _ p1 N.sx)) P.F.fc.gen.2.2 (xu hn _)
theorem Go{t:dq}{e:E}{tg x:Expr}{pos:Pos}(vC:swapsWithSole [tg] x pos.line P.env=pure false)(ht:j0 σ.f t tg=true)(hx:vh tg x=true)(he:ct σ e x)(ho:vB P.env P.own σ.f.ns)(p:WS σ.c (.aN t e) P.ρ P.H K)(k:KO P K Q):wpAny X.M P.A (exec (.Assign [tg] x pos) P.env) Q P.Ex P.s:=by
 refine wpAny_Assign_stores (he P _ _ p (λv H1 p1 N y r=>aI.k p1 λck ha p1=>?_)) vC ?_
 ·rw[zp ht []]
  exact vA t tg (P.to N) v y ck _ ht (λz hz=>ho.1 z (xt t tg ht z hz)) r ha λN'=>k.next _ _ p1 (N.sx.then N')
 ·cases t with
  |J i=>exact gc.k (G:=λtg=>swappedStores [tg] x P.env=pure none) ht λZ Z Z=>rfl
  |aC ts=>exact oI.k (G:=λtg=>vh tg x=true->swappedStores [tg] x P.env=pure none) ht (λZ Z Z Z hx=>by cases x<;>first|rfl|cases hx) hx
theorem ML{t:dq}{e:E}{tg x:Expr}{pos:Pos}(hn:pT x=true)(ht:j0 σ.f t tg=true)(hx:vh tg x=true)(he:ct σ e x):SS σ (.aN t e) (.Assign [tg] x pos):=λP K Q ho p k=>Go (xu hn _) ht hx he ho p k
theorem MM{e:E}{x:Expr}{pos:Pos}(he:ct σ e x):SS σ (.ret e) (.Return (some x) pos):=λP K Q ho p k=>
 wpAny_Return_some (he P _ _ p (λv H1 p1 N x r=>k.ret _ _ p1 _ _ _ N.R N.S.nil _ r))
theorem MN{c:E}{a b:List S}{t:Expr}{x y:List Stmt}{pos:Pos}(hc:vt σ c t)(ha:qj σ a x)(hb:qj σ b y):SS σ (.br c a b) (.If t x y pos):=λP K Q ho p k=>
 wpAny_If (hc P _ _ p (λv H1 p1=>p1.m λt p1 N=>by
  cases t
  ·exact hb N.sx.fp K Q ho p1 (k.nx N.sx)
  ·exact ha N.sx.fp K Q ho p1 (k.nx N.sx)))
theorem KO.ex(k:KO P K Q){x:PQ}{Ex:Value->Shared->Prop}(kx:tP P.own P.w P.s x Ex):KO (P.ex x Ex kx) K Q:=⟨λρ H p N=>k.next ρ H p N.un,λv H p φ h tk R S y r=>k.ret v H p φ h tk R S y r⟩
inductive Gp(P:Fp σ)(c:E)(b:List S)(K:Out->Prop)(k:Nat)(s:Shared):Prop
 |mk (ρ:bB) (H:Hp) (N:Sx P ρ H) (e:s=N.s) (p:yZ (λρ H Q=>tM σ.c c ρ H Q) (λρ H K=>aG σ.c b ρ H K) k ρ H K):Gp P c b K k s
theorem MO{c:E}{b:List S}{t:Expr}{y:List Stmt}{pos:Pos}(hc:vt σ.no c t)(hb:qj σ.no b y):SS σ (.while c b) (.While t y [] pos):=λP K Q ho p k=>by
 refine wpAny_While (codeAny_whileLoop (Gp P.no c b K) (λj s' w=>w.casesOn λρ H N e p'=>?_) _ ⟨P.ρ,P.H,(P.no.toPt.g6 P.s.toks).sx,rfl,p⟩)
 subst e
 have k:=k.ex (x:=λZ Z=>False) (Ex:=NE) λZ Z h=>h.elim
 cases j with
 |zero=>exact p'.elim
 |succ j=>
  refine xk (hc N.fp _ _ p' (λv H1 p1=>p1.m λb' p1 N1=>?_))
  cases b' with
  |false=>exact wpAny_execs_nil (k.next _ _ p1 (N.then N1.sx))
  |true=>exact xk (hb (N.then N1.sx).fp _ _ ho p1 ⟨λck H' p2 N2=>⟨j,lt_succ_self _,ck,H',(N.then N1.sx).then N2,rfl,p2⟩,λv H' p2 φ h tk R S x r=>k.ret v H' p2 φ h tk R ((N.then N1.sx).S.trans S) x r⟩)
theorem mr:qj σ [] []:=λP K Q ho p k=>wpAny_execs_nil (k.next _ _ p (P.toPt.g6 P.s.toks).sx)
theorem MP{c:S}{cs:List S}{st:Stmt}{ss:List Stmt}(h1:SS σ c st)(h2:qj σ cs ss):qj σ (c::cs) (st::ss):=λP K Q ho p k=>
 wpAny_execs_cons (h1 P _ _ ho p ⟨λck H' p1 N=>h2 N.fp K Q ho p1 (k.nx N),λv H' p1 φ h tk R S x r=>k.ret v H' p1 φ h tk R S x r⟩)
theorem MQ{A:Around}{E:Value->Shared->Prop}{s:Shared}{l:Addr}{xs:List Value}{n:Nat}{k:Int}{t:Tok}{v:Value}{Q:Unit->Shared->Prop}(ho:s.heap.get? l=some (iP xs n))(h0:0<=k)(Gq:k<2^63)(hn:k<xs.length)
  (hQ:Q () {s with heap:=s.heap.update l (Obj.mapSeq (·.setIfInBounds k.toNat v))}):wpAny (model X.prog X.w) A (setItem (.ref l) (.int k t) v) Q E s:=by
 have hl:s.heap.IsList l xs.toArray:=lK ho
 unfold setItem
 refine wpAny_holding (aY (wpAny_sequenceKey hl.typeIs (by decide) (aY (wpAny_callSpecial?_slot (name:=Str.ofString "__setitem__") hl.typeIs PySem.slot_list_setitem
  (wpAny_call_entry PySem.slot_list_setitem hl.typeIs PySem.entry_list_setitem ?_ (PySem.args_list_setitem _ _ _))))))
 refine(?_:wpAny _ _ (Builtin.List.listSubscript? (.int k t) >>= _) _ _ s)
 refine aY (wpAny_listSubscript_int (fitsIndex_of h0 Gq) ?_)
 clear Gq
 obtain⟨j,rfl⟩:=Int.eq_ofNat_of_zero_le h0
 have hj:j<xs.toArray.size:=by rw[jX];lia
 refine(?_:wpAny _ _ ((seqItemAt l j >>= λr=>pure (r.map (j,·))) >>= _) _ _ s)
 refine aY (aY (wpAny_seqItemAt ho rfl (bS ?_)))
 rw[wx hj]
 refine(?_:wpAny _ _ (setSeqItemAt l j v >>= _) _ _ s)
 refine aY (wpAny_setSeqItemAt ho rfl ?_)
 first
  |exact aY (bS (bS ⟨.none,rfl,bS hQ⟩))
  |exact bS ⟨.none,rfl,bS hQ⟩
theorem Gr{K:Type}[DecidableEq K](es:List (K×V))(k:K)(v:V):(dput es k v).length<=es.length+1:=by
 unfold dput
 split
 ·rw[aS];lia
 ·rw[bX];exact cg _
theorem MR{es:List (Int×V)}{kvs:List (Int×Value)}{p:Ws}{v:V}{x:Value}(h:L2 (nL p) es kvs)(r:bl p v x)(k:Int):L2 (nL p) (dput es k v) (stored kvs k x):=by
 unfold dput stored
 rw[h.any (f:=λq=>decide (q.1=k)) (g:=λq=>decide (q.1=k)) λa b m=>by rw[m.1]]
 split
 ·exact h.map λa b m=>by
   by_cases e:a.1=k
   ·rw[bL e,bL (m.1▸e)];exact⟨m.1,r⟩
   ·rw[bG e,bG (m.1▸e)];exact m
 ·exact h.snoc ⟨rfl,r⟩
theorem MS{es:List ((Int×Bool)×V)}{kvs:List (List Int×Addr×Value)}{p:Ws}{v:V}{x:Value}{a:Addr}{k:Int×Bool}(h:L2 (oQ p) es kvs)(r:bl p v x)(rk:bl p (mZ k) (.ref a)):L2 (oQ p) (dput es k v) (storedH kvs (pK k) a x):=by
 unfold dput storedH
 have e:es.any (λq=>decide (q.1=k))=(atKey kvs (pK k)).isSome:=by
  rw[show es.any (λq=>decide (q.1=k))=gF es k from rfl,BM]
  rcases BL h k with⟨w1,w2⟩|⟨_,_,_,w1,w2,_⟩<;>rw[w1,w2]<;>rfl
 rw[e]
 split
 ·exact h.map λa b m=>by
   unfold putAt
   by_cases e:a.1=k
   ·rw[bL e,bL (by rw[m.1,<-e];rfl)];exact⟨m.1,m.2.1,r⟩
   ·rw[bG e,bG λe'=>e (FZ (m.1.symm.trans e'))];exact m
 ·exact h.snoc ⟨rfl,rk,r⟩
theorem MT{P:Pt}{l:Nat}{xs:List V}{i v:V}{z kz y:Value}{k:Hp->Prop}{Q:Unit->Shared->Prop}(r2:bl P.w (.ref l) z)(r3:bl P.w i kz)(rv:bl P.w v y)(hl:P.H[l]?=some (.list xs))(p:fy i λj=>(0<=j/\j<xs.length)/\k (P.H.set l (.list (xs.set j.toNat v))))(fin:∀H,k H->∀N:Nx P H,Q () N.s):wpAny X.M P.A (setItem z kz y) Q P.Ex P.s:=
 fy.k p (λi=>bl P.w i kz->_) (λj p r3=>r3.inv (λkz=>wpAny X.M P.A (setItem z kz y) Q P.Ex P.s) λt=>P.list r2 hl (λz=>wpAny X.M P.A (setItem z _ y) Q P.Ex P.s) λad ys m i7 q1 q2 q3=>
  MQ q1 p.1.1 (by lia) (by rw[<-q2.length];exact p.1.2) (
   have he:=(SameBut.update P.s.heap ad (Obj.mapSeq (·.setIfInBounds j.toNat y))).extBut
   fin _ p.2 (P.set i7 he (.list (n:=m) (by rw[Heap.get?_update_self _ q1 rfl];simp[Obj.mapSeq]) ((q2.set rv j.toNat).kp (P.vr i7 he)) (by rw[List.length_set];exact q3)) P.s.toks))) r3
theorem MU{P:Pt}{l ep:Nat}{es:List (Int×V)}{i v:V}{z kz y:Value}{k:Hp->Prop}{Q:Unit->Shared->Prop}(G:Good X)(r2:bl P.w (.ref l) z)(r3:bl P.w i kz)(rv:bl P.w v y)(hl:P.H[l]?=some (.dict ep es))(p:fy i λj=>gT (oM es) (∀ep,k (P.H.set l (.dict ep (dput es j v)))))(fin:∀H,k H->∀N:Nx P H,Q () N.s):wpAny X.M P.A (setItem z kz y) Q P.Ex P.s:=
 fy.k p (λi=>bl P.w i kz->_) (λj p r3=>gT.k p λhz p=>r3.inv (λkz=>wpAny X.M P.A (setItem z kz y) Q P.Ex P.s) λt=>P.cell r2 hl (λz=>wpAny X.M P.A (setItem z _ y) Q P.Ex P.s) λad i7 hc=>hc.inv _ λo' en kvs x0 x1 x2 x3 x4 x5 q z m=>by
  have hz:es.length<16000000:=cf hz
  refine wpAny_setItem_pairs (knd:=m8) (k:=j) (beq_self_eq_true j) ⟨o',en,ep,x0,x1,x2,x3,x4,x5⟩ (λh4 vD xv=>?_) (by rw[<-q.length];unfold sizeLine;lia)
  exact vD.elim λo4 w=>w.elim λMV w=>w.elim λBU w=>fin _ (p BU) (P.set i7 xv.extBut (.dict w.1 w.2.1 w.2.2.1 w.2.2.2.1 w.2.2.2.2.1 w.2.2.2.2.2 ((MR q rv j).imp (nL.kp (P.vr i7 xv.extBut))) z (aR (Gr es j v) hz)) _)) r3
theorem MW{P:Pt}{l ep:Nat}{es:List ((Int×Bool)×V)}{i v:V}{z kz y:Value}{k:Hp->Prop}{Q:Unit->Shared->Prop}(G:Good X)(r2:bl P.w (.ref l) z)(r3:bl P.w i kz)(rv:bl P.w v y)(hl:P.H[l]?=some (.c6 ep es))(p:aI (pairOf i) λj=>gT (oM es) (∀ep,k (P.H.set l (.c6 ep (dput es j v)))))(fin:∀H,k H->∀N:Nx P H,Q () N.s):wpAny X.M P.A (setItem z kz y) Q P.Ex P.s:=
 aI.k p λj ej p=>pairOf.k ej (λi=>bl P.w i kz->_) (λr3=>gT.k p λhz p=>r3.inv (λkz=>bl P.w (mZ j) kz->wpAny X.M P.A (setItem z kz y) Q P.Ex P.s) (λka Z Z Z Z Z Z r3=>oG r2 G (show(P.H[l]?).bind mi=some es by rw[hl];rfl) (λz=>wpAny X.M P.A (setItem z _ y) Q P.Ex P.s) λl' sH ad kvs el Z i7 hD q z nO=>by
  have hz:es.length<16000000:=cf hz
  cases el
  refine wpAny_setItem_heap (knd:=nM) (k:=pK j) (by refine(?_:P.A.units+1<cLine);have:=P.rm.units;lia) (xi r3) hD (λh4 vD xv=>?_) (by rw[<-q.length];unfold sizeLine;lia)
  exact vD.elim λo4 w=>w.elim λMV w=>w.elim λBU w=>fin _ (p BU) (P.set i7 xv.extBut (.c6 w.1 w.2.1 w.2.2.1 w.2.2.2.1 w.2.2.2.2.2 ((MS q rv r3).imp (oQ.kp (P.vr i7 xv.extBut))) z (aR (Gr es j v) hz)) _)) r3) r3
theorem MX{a i e:E}{o j x:Expr}{sp pos:Pos}(G:Good X)(hn:pT x=true)(ha:ct σ a o)(hi:ct σ i j)(he:ct σ e x):SS σ (.kK a i e) (.Assign [.Subscript o j sp] x pos):=λP K Q ho p k=>by
 refine wpAny_Assign_Subscript (he P _ _ p (λv H1 p1 N y r=>tR ha hi (P.to N) p1 (λu w H2 p2 N2 z kz r2 r3=>?_))) (xu hn _)
 have fin:∀H3,K (.next P.ρ H3)->∀N3:Nx N2.pt H3,Q .next N3.s:=λH3 p3 N3=>k.next _ _ p3 (N.then (N2.then N3)).sx
 cases u with
 |ref l=>
  refine aI.k p2 λc hl p2=>?_
  cases c with
  |list xs=>exact MT (P:=N2.pt) r2 r3 (r.mono N2.S) hl p2 fin
  |dict ep es=>exact MU (P:=N2.pt) G r2 r3 (r.mono N2.S) hl p2 fin
  |c6 ep es=>exact MW (P:=N2.pt) G r2 r3 (r.mono N2.S) hl p2 fin
  |_=>exact p2.elim
 |_=>exact p2.elim
end
noncomputable def zq:List String:=["enumerate","zip","dict_itemiterator","dict_reverseitemiterator","odict_iterator","itertools.zip_longest","itertools.pairwise"]
structure nc(tg:Expr)(eH:Ws)(H₀:Hp)(ws:List Nat)(vs:List V)(I:Addr)(io:Addr->Prop)(St:Nat->Heap->Prop):Prop where
 keep:∀i h h',St i h->(∀a,io a->∀o,h.get? a=some o->h'.get? a=some o)->St i h'
 live:∀i h,St i h->∀a,io a->∃o,h.get? a=some o/\fA o=false/\gU o=false
 item:∀(P:Pt) (i:Nat) (v:V) (Q:Value->Shared->Prop),P.A.handled=none->Kp eH P.w->fN ws H₀ P.H=true->St i P.s.heap->(∀a,io a->Ap P.w a)->vs[i]?=some v ->
  (∀h' tk y,SR ⟨P.φ,h'⟩ P.H->bZ io P.w ⟨P.φ,h'⟩->St (i+1) h'->bl ⟨P.φ,h'⟩ v y->Q y (upd P.s h' tk)) ->
  wpAny X.M P.A (pyNext (.ref I)) (λr cj=>aI r λy=>wpAny X.M P.A (letOwnedTupleGo tg (.ref I) y) (λZ fO=>Q y fO) P.Ex cj) P.Ex P.s
 done:∀(P:Pt) (i:Nat) (Q:Option Value->Shared->Prop),P.A.handled=none->Kp eH P.w->fN ws H₀ P.H=true->St i P.s.heap->(∀a,io a->Ap P.w a)->vs[i]?=none ->
  (∀h' tk,Ch io P.s.heap h'->Q none (upd P.s h' tk))->wpAny X.M P.A (pyNext (.ref I)) Q P.Ex P.s
 self:∀(A:Around) (s:Shared) (Q Ex:Value->Shared->Prop),St 0 s.heap->Q (.ref I) s->wpAny X.M A (pyIter (.ref I)) Q Ex s
theorem nc.from{tg:Expr}{eH Gs:Ws}{H₀:Hp}{ws:List Nat}{vs:List V}{I:Addr}{io:Addr->Prop}{St:Nat->Heap->Prop}(h:nc tg eH H₀ ws vs I io St)(K:Kp eH Gs):nc tg Gs H₀ ws vs I io St:=
 ⟨h.keep,h.live,λP i v Q hh kp=>h.item P i v Q hh (K.trans kp),λP i Q hh kp=>h.done P i Q hh (K.trans kp),h.self⟩
section
variable{tg:Expr}{eH:Ws}{H₀:Hp}{ws:List Nat}{vs:List V}{I a:Addr}
theorem MY{A:Around}{s:Shared}{y:Value}{o:Obj}{nm:String}{Q:Unit->Shared->Prop}{Ex:Value->Shared->Prop}(ho:s.heap.get? I=some o)(hc:o.cls=.type nm)(hn:zq.contains nm=false)(hQ:Q () s):wpAny X.M A (letOwnedTupleGo tg (.ref I) y) Q Ex s:=by
 have key:∀a,wpAny X.M A (do
  let o <-load I
  match o.cls,o.data with
  |.type n,.fields vs=>
   if zq.contains n&&vs[0]?==some (rawInt a) then
    rule "for.unpacks-the-owned-tuple"
    updateField I 0 .none
  |_,_=>pure ()) Q Ex s:=by
  intro a
  refine aY (wpAny_load ho ?_)
  rw[hc]
  cases o.data with
  |fields vs=>
   refine(?_:wpAny X.M A (if(zq.contains nm&&vs[0]?==some (rawInt a))=true then _ else _) Q Ex s)
   rw[hn,Bool.false_and,bG gq]
   exact bS hQ
  |_=>exact bS hQ
 unfold letOwnedTupleGo
 cases tg<;>first|exact bS hQ|(cases y<;>first|exact bS hQ|exact key _)
theorem Gu{o:Obj}{nm:String}(hc:o.cls=.type nm)(hn:(Value.type nm==.type "traceback")=false)(hd:fA o=false):fA o=false/\gU o=false:=⟨hd,by
 unfold gU;rw[hc,hn]
 cases o.data<;>rfl⟩
theorem zr{nm:String}{St:Nat->Heap->Prop}(BV:(zq.contains nm||(Value.type nm==.type "tuple"||Value.type nm==.type "traceback"))=false)(tU:∀i h,St i h->∃o,h.get? I=some o/\o.cls=.type nm/\fA o=false)(keep:∀i h h',St i h->(∀o,h.get? I=some o->h'.get? I=some o)->St i h')
  (next:∀(P:Pt) (i:Nat) (v:V) (Q:Option Value->Shared->Prop),P.A.handled=none->Kp eH P.w->fN ws H₀ P.H=true->St i P.s.heap->vs[i]?=some v->(∀h' tk y,St (i+1) h'->ExtBut I P.s.heap h'->bl P.w v y->Q (some y) (upd P.s h' tk))->wpAny X.M P.A (pyNext (.ref I)) Q P.Ex P.s)
  (stop:∀(P:Pt) (i:Nat) (Q:Option Value->Shared->Prop),P.A.handled=none->Kp eH P.w->fN ws H₀ P.H=true->St i P.s.heap->vs[i]?=none->(∀h',ExtBut I P.s.heap h'->Q none {P.s with heap:=h'})->wpAny X.M P.A (pyNext (.ref I)) Q P.Ex P.s)
  (self:∀(A:Around) (s:Shared) (Q Ex:Value->Shared->Prop),St 0 s.heap->Q (.ref I) s->wpAny X.M A (pyIter (.ref I)) Q Ex s):nc tg eH H₀ ws vs I (·=I) St:=
 have h1:=qM.mp BV
 have h2:=qM.mp h1.2
 have Gw:∀{i h},St i h->∀o,h.get? I=some o->fz o=false:=λst o e=>(tU _ _ st).elim λo' q=>by rw[e] at q;cases q.1;exact pZ q.2.1 h1.2
 {keep:=λi h h' st hk=>keep i h h' st (hk I rfl)
  live:=λi h st a ha=>(tU i h st).imp λo q=>⟨ha▸q.1,Gu q.2.1 h2.2 q.2.2⟩
  item:=λP i v Q hh kp hw st eR hv k=>next P i v _ hh kp hw st hv λh' tk y Gx he r=>
   have c:Ch (·=I) P.s.heap h':=.but he (Gw st)
   (tU _ _ Gx).elim λo q=>MY (s:=(upd P.s h' tk)) q.1 q.2.1 h1.1 (k h' tk y (P.R.ch (p:=P.w) eR c) (bZ.ch (io:=(·=I)) (q:=P.w) .refl c λb hb=>.inr ⟨hb,o,hb▸q.1,λo1 e hd=>(tU _ _ st).elim λo2 w=>by rw[hb] at e;rw[show P.s.heap.get? I=some o1 from e] at w;cases w.1;exact no hd w.2.2⟩) Gx (r.kp c.kp))
  done:=λP i Q hh kp hw st eR hv k=>stop P i Q hh kp hw st hv λh' he=>k h' P.s.toks (.but he (Gw st))
  self:=self}
def zt(eH:Ws)(H₀:Hp)(ws:List Nat)(vs:List V)(a:Addr):Prop:=
 ∀(P:Pt),Kp eH P.w->fN ws H₀ P.H=true->∃xs,P.s.heap.IsList a xs.toArray/\bJ P.w vs xs
theorem BW{H:Hp}{l:Nat}(h:fN ws H₀ H=true)(hl:l∈ws):H[l]?=H₀[l]?:=cf (iA.mp h l hl)
theorem Gy(ws:List Nat)(H:Hp):fN ws H H=true:=iA.mpr λZ Z=>c9 rfl
theorem Gz{l:Nat}(hl:eH.φ[l]?=some a)(e:H₀[l]?=some (.list vs))(hw:l∈ws):zt eH H₀ ws vs a:=λP kp hs=>
 P.R.at ((BW hs hw).trans e) λb hb hc=>hc.inv _ λxs m h1 h2 Z=>by
  rw[kp.pre l a hl] at hb;cases hb
  exact⟨xs,lK h1,h2⟩
theorem MZ(G:Good X):zt eH H₀ ws (X.is.map .int) X.lJ:=λP Z Z=>Gl.lJ G P λxs h1 h2 Z=>⟨xs,h1,h2⟩
theorem zu(xs:List Value)(i:Nat):xs.toArray[i]?=xs[i]?:=getElem?_toArray ..
theorem none_of{p:Ws}{xs:List Value}{i:Nat}(r:bJ p vs xs)(h:vs[i]?=none):xs.toArray[i]?=none:=by
 rw[zu];exact qP (r.length▸qQ.mp h)
theorem GA(sM:zt eH H₀ ws vs a):nc tg eH H₀ ws vs I (·=I) (λi h=>h.IsListIter I a i):=
 zr (nm:="list_iterator") rfl (λi h st=>st.imp λo q=>⟨q.1,q.2.1,vn q.2.2⟩) (λi h h' st hk=>st.imp λo q=>⟨hk o q.1,q.2⟩)
  (λP i v Q hh kp hw st hv k=>(sM P kp hw).elim λxs h=>h.2.get hv λy hy r=>wpAny_pyNext_list_item st h.1 (by rw[zu];exact hy) λh' fQ hs=>k h' P.s.toks y fQ hs.extBut r)
  (λP i Q hh kp hw st hv k=>(sM P kp hw).elim λxs h=>wpAny_pyNext_list_end hh st h.1 (none_of h.2 hv) k) λA s Q Ex st h=>wpAny_pyIter_listiter st h
theorem M0{xs:List Value}{m:Nat}(e0:eH.h.get? a=some (mX xs m))(xw:a∉eH.φ)(r0:bJ eH vs xs):nc tg eH H₀ ws vs I (·=I) (λi h=>h.IsTupleIter I a i):=
 zr (nm:="tuple_iterator") rfl (λi h st=>st.imp λo q=>⟨q.1,q.2.1,vn q.2.2⟩) (λi h h' st hk=>st.imp λo q=>⟨hk o q.1,q.2⟩)
  (λP i v Q hh kp hw st hv k=>(r0.kp kp).get hv λy hy r=>wpAny_pyNext_tuple_item st ⟨_,(kp.aC e0 xw).1,rfl,m,rfl⟩ (by rw[zu];exact hy) λh' fQ hs=>k h' P.s.toks y fQ hs.extBut r)
  (λP i Q hh kp hw st hv k=>wpAny_pyNext_tuple_end hh st ⟨_,(kp.aC e0 xw).1,rfl,m,rfl⟩ (none_of (r0.kp kp) hv) k) λA s Q Ex st h=>wpAny_pyIter_tupleiter st h
theorem GB{i:Nat}{x y:Int}:(pW x y)[i]?=if i<(y - x).toNat then some (.int (x+i)) else none:=by
 unfold pW
 rw[g5]
 by_cases h:i<(y - x).toNat
 ·rw[bL h,List.getElem?_range h];rfl
 ·rw[bG h,qP (by rw[kH];exact not_lt.mp h)];rfl
theorem M1{x y:Int}:nc tg eH H₀ ws (pW x y) I (·=I) (λi h=>IsRangeIter h I (x+i) (((y - x).toNat:Int) - i) 1):=
 zr (nm:="range_iterator") rfl (λi h st=>⟨_,st,rfl,rfl⟩) (λi h h' st hk=>hk _ st)
  (λP i v Q hh kp hw st hv k=>tQ (GB▸hv) (λv=>(∀h' tk y',IsRangeIter h' I (x+((i+1:Nat):Int)) (((y - x).toNat:Int) - ((i+1:Nat):Int)) 1->ExtBut I P.s.heap h'->bl P.w v y'->Q (some y') (upd P.s h' tk))->_) (λhi k=>wpAny_pyNext_range_item st (Int.sub_pos_of_lt (jk.mpr hi)) λh' fQ hs=>k h' _ _ (by
   have e1:x+((i+1:Nat):Int)=x+i+1:=(Int.add_assoc x (i:Int) 1).symm
   have e2:(((y - x).toNat:Int) - ((i+1:Nat):Int))=((y - x).toNat:Int) - i - 1:=(Int.sub_sub _ (i:Int) 1).symm
   rw[e1,e2];exact fQ) hs.extBut (.int _ _)) k)
  (λP i Q hh kp hw st hv k=>wpAny_pyNext_range_end hh st (by
   rw[GB] at hv
   by_cases h:i<(y - x).toNat
   ·rw[bL h] at hv;cases hv
   ·exact Int.sub_nonpos_of_le (ofNat_le.mpr (not_lt.mp h))) k) λA s Q Ex st h=>wpAny_pyIter_rangeiter st h
end
section
variable{A:Around}{E:Value->Shared->Prop}{s:Shared}{it d:Addr}{i ep:Nat}{od:Obj}{es:Array DictEntry}
theorem GC{Q:Value->Shared->Prop}(hd:(d==sysModules)=false)(vE:s.heap.get? d=some od)(vw:od.cls=.type "dict")(rG:od.data=.dict es ep)
  (hQ:Q (.ref s.heap.objs.size) {s with heap:=s.heap.push {cls:=.type "dict_keyiterator",data:=.fields #[.ref d,.int 0 0,.int es.size 0,.int ep 0]}}):wpAny X.M A (pyIter (.ref d)) Q E s:=by
 have hT:s.TypeIs (.ref d) "dict":=⟨od,vE,vw⟩
 refine wpAny_pyIter_slot hT F.slot_dict_iter (wpAny_call_entry F.slot_dict_iter hT F.entry_dict_iter ?_ (F.args_dict_iter_1 _))
 unfold Builtin.«dict.__iter__»
 refine aY (aY (wpAny_notOrdered_dict hT (bS ?_)))
 refine(?_:wpAny _ _ (Builtin.Dict.showsAll d >>= _) _ _ s)
 unfold Builtin.Dict.showsAll
 rw[bG (by rw[hd];exact gq)]
 exact aY (bS (aY (wpAny_dictEntries vE rG (aY (wpAny_dictEpoch vE rG (aY (pQ (bS ⟨_,rfl,"dict_keyiterator",_,⟨_,il _ rfl,rfl⟩,F.slot_dict_keyiterator_next.lookup,hQ⟩))))))))
theorem GD{Q:Option Value->Shared->Prop}(hh:A.handled=none)(fQ:s.heap.IsKeyIter it d i es.size ep)(vE:s.heap.get? d=some od)(rG:od.data=.dict es ep)
  (hQ:∀(du:i<es.size) h',h'.IsKeyIter it d (i+1) es.size ep->SameBut it s.heap h'->Q (some es[i].key) {s with heap:=h'}) (hE:es.size<=i->∀h',ExtBut it s.heap h'->Q none {s with heap:=h'}):wpAny X.M A (pyNext (.ref it)) Q E s:=by
 obtain⟨o,ho,hc,hd⟩:=id fQ
 unfold pyNext
 refine aY (wpAny_attempt (wpAny_callSpecial?_slot (name:=Str.ofString "__next__") fQ.typeIs F.slot_dict_keyiterator_next
  (wpAny_call_entry F.slot_dict_keyiterator_next fQ.typeIs F.entry_dict_keyiterator_next ?_ (F.args_dict_keyiterator_next_1 _))))
 refine aY (bS ?_)
 refine aY ?_
 refine aY ?_
 first|refine aY (wpAny_typeNameOfWhole_keyiter fQ.typeIs (bS ?_))|refine aY (wpAny_typeNameOf_keyiter fQ.typeIs (bS ?_))
 refine aY (wpAny_fieldsOf ho hd ?_)
 refine(?_:wpAny _ _ (if(Value.ref d==Value.none)=true then _ else _) _ _ s)
 rw[bG (show ¬((Value.ref d==Value.none)=true) from gq)]
 refine aY (bS ?_)
 refine aY (wpAny_dictEntries vE rG ?_)
 rw[bG (by rw[bne_self_eq_false];exact gq)]
 refine aY (bS ?_)
 refine aY (wpAny_dictEpoch vE rG ?_)
 rw[bG (by rw[bne_self_eq_false];exact gq)]
 refine bS ?_
 dsimp only
 rcases lt_or_ge i es.size with du|oR
 ·rw[bG (show ¬((i:Int)<0) from Int.not_lt.mpr (kJ i)),toNat_natCast,wx du]
  refine aY ?_
  first|refine aY (wpAny_typeNameOfWhole_keyiter fQ.typeIs (bS ?_))|refine aY (wpAny_typeNameOf_keyiter fQ.typeIs (bS ?_))
  refine aY (wpAny_isOneOf_keyiter fQ.typeIs ?_)
  refine(?_:wpAny _ _ (setField (.ref it) 1 (rawInt ((i:Int)+1)) >>= _) _ _ s)
  refine aY (wpAny_setField ho hd (Nat.lt_of_sub_pos (by exact Nat.zero_lt_succ _)) ?_)
  have tV:(s.heap.update it (Obj.mapFields (·.setIfInBounds 1 (rawInt ((i:Int)+1))))).IsKeyIter it d (i+1) es.size ep:=
   ⟨_,sg _ ho (Obj.isFreed_of_fields (Obj.data_mapFields hd _)),(Obj.cls_mapFields ..).trans hc,by rw[Obj.data_mapFields hd];rfl⟩
  refine aY (wpAny_holding ?_)
  refine aY (wpAny_isOneOf_keyiter (s:={s with heap:=s.heap.update it (Obj.mapFields (·.setIfInBounds 1 (rawInt ((i:Int)+1))))}) tV.typeIs ?_)
  refine(?_:wpAny _ _ (pure es[i].key) _ _ _)
  exact bS (bS ⟨_,rfl,bS (hQ du _ tV (SameBut.update ..))⟩)
 ·rw[bG (show ¬((i:Int)<0) from Int.not_lt.mpr (kJ i)),toNat_natCast,Array.getElem?_eq_none oR]
  refine aY ?_
  first|refine aY (wpAny_typeNameOfWhole_keyiter fQ.typeIs (bS ?_))|refine aY (wpAny_typeNameOf_keyiter fQ.typeIs (bS ?_))
  refine(?_:wpAny _ _ (setField (.ref it) 0 .none >>= _) _ _ s)
  refine aY (wpAny_setField ho hd (Nat.lt_of_sub_pos (by exact Nat.zero_lt_succ _)) ?_)
  refine(?_:wpAny _ _ (newExc (.type "StopIteration") [] >>= _) _ _ _)
  refine aY (aY (pQ ?_ (by size_fits)))
  refine wpAny_bind (m:=firstArgMember _ _) (wpAny_of_eq (a:=Value.none) (by first|rfl|(simp only[firstArgMember];rfl)) ?_)
  refine pQ ?_ (by size_fits)
  refine aY (wpAny_handled ?_)
  rw[show A.in1.handled=none from hh]
  refine aY (bS (wpAny_throw ?_))
  refine aY (wpAny_isInstance (T:="StopIteration") (b:=true) ⟨_,il _ rfl,rfl⟩ isSubtype_stop ?_)
  exact bS (hE oR _ (((SameBut.update ..).extBut.push _).push _))
end
section
variable{tg:Expr}{eH:Ws}{H₀:Hp}{ws:List Nat}{vs:List V}{I a:Addr}
def BX(eH:Ws)(H₀:Hp)(ws:List Nat)(vs:List V)(a:Addr)(m ep:Nat):Prop:=
 ∀(P:Pt),Kp eH P.w->fN ws H₀ P.H=true->∃o en,P.s.heap.get? a=some o/\o.data=.dict en ep/\en.size=m/\vs.length=m/\∀i v,vs[i]?=some v->∃h:i<en.size,bl P.w v en[i].key
theorem GF{m ep:Nat}(sM:BX eH H₀ ws vs a m ep):nc tg eH H₀ ws vs I (·=I) (λi h=>h.IsKeyIter I a i m ep):=
 zr (nm:="dict_keyiterator") rfl (λi h st=>st.imp λo q=>⟨q.1,q.2.1,vn q.2.2⟩) (λi h h' st hk=>st.imp λo q=>⟨hk o q.1,q.2⟩)
  (λP i v Q hh kp hw st hv k=>(sM P kp hw).elim λo h=>h.elim λen h=>(h.2.2.2.2 i v hv).elim λhl r=>GD hh (h.2.2.1▸st) h.1 h.2.1 (λZ h' fQ hs=>k h' P.s.toks _ (h.2.2.1▸fQ) hs.extBut r) λhg=>absurd hl (not_lt.mpr hg))
  (λP i Q hh kp hw st hv k=>(sM P kp hw).elim λo h=>h.elim λen h=>GD hh (h.2.2.1▸st) h.1 h.2.1 (λhl=>absurd hl (not_lt.mpr (by rw[h.2.2.1,<-h.2.2.2.1];exact qQ.mp hv))) λZ=>k) λA s Q Ex st h=>wpAny_pyIter_keyiter st h
end
def oU(P:Pt)(tg:Expr)(post:List V×List Nat->Hp->Prop)(Q:Value->Shared->Prop):Prop:=
 ∀p H,post p H->∀(N:Nx P H) I io St,nc tg N.w H p.2 p.1 I io St->St 0 N.h->(∀a,io a->Ap N.w a/\P.s.heap.get? a=none)->Q (.ref I) N.s
def lM(σ:Lv)(it:It)(e:Expr):Prop:=
 (∀env x,foldedSetIterable e env x=pure x)/\∀(P:Fp σ) (tg:Expr) (post:List V×List Nat->Hp->Prop) (Q:Value->Shared->Prop),vg it tg=true->rq σ.c it P.ρ P.H post->oU P.toPt tg post Q->wpAny X.M P.A (eval e P.env) (λx cj=>wpAny X.M P.A (pyIter x) Q P.Ex cj) P.Ex P.s
section
variable{σ:Lv}{tg:Expr}{Q:Value->Shared->Prop}{post:List V×List Nat->Hp->Prop}{P:Pt}{H:Hp}
theorem oU.nx(k:oU P tg post Q)(N:Nx P H):oU N.pt tg post Q:=λp H' q N' I io St it st eR=>k p H' q (N.then N') I io St it st λa ha=>have h:=eR a ha;⟨h.1,N.S.dead h.2⟩
theorem zv{x:Int}(h:x.natAbs<2^60):-2^62<=x/\x<2^62:=by lia
theorem vF(k:oU P tg post Q){vs:List V}{ws:List Nat}(o:Obj){St:Nat->Heap->Prop}(p:post (vs,ws) P.H)(it:nc tg (P.ext (.push o) P.s.toks).w P.H ws vs P.s.heap.objs.size (·=P.s.heap.objs.size) St)(st:St 0 (P.s.heap.push o)):Q (.ref P.s.heap.objs.size) {P.s with heap:=P.s.heap.push o}:=
 k _ _ p (P.ext (.push o) P.s.toks) _ _ _ it st λa ha=>by
  subst ha
  have hn:=i5 P.s.heap (cg _)
  exact⟨P.R.new (p:=P.w) hn,hn⟩
theorem M2{eH:Ws}{H₀:Hp}{ws:List Nat}{l ep:Nat}{es:List (Int×V)}{a:Addr}(hl:eH.φ[l]?=some a)(e:H₀[l]?=some (.dict ep es))(hw:l∈ws):BX eH H₀ ws (es.map λp=>.int p.1) a es.length ep:=λP kp hs=>
 P.R.at ((BW hs hw).trans e) λb hb hc=>hc.inv _ λo en kvs x0 x1 x2 x3 x4 x5 q z m=>by
  rw[kp.pre l a hl] at hb;cases hb
  have hz:en.size=es.length:=by rw[q.length,<-x4.length,length_toList]
  refine⟨o,en,x0,x2,hz,aS _,λi v hv=>?_⟩
  rw[g5] at hv
  refine gW (λv=>∃h:i<en.size,bl P.w v en[i].key) hv λe' he=>?_
  have hi:=(dZ.mp he).1
  have tW:i<en.size:=hz▸hi
  have hk:i<kvs.length:=q.length▸hi
  refine⟨tW,?_⟩
  have h1:=(x4.get? (e:=en[i]) (k:=(kvs[i]).1) (v:=(kvs[i]).2) (by rw[getElem?_toList,wx tW]) (fL hk)).1
  have h2:e'.1=(kvs[i]).1:=(q.get he (fL hk)).1
  obtain⟨t,ht⟩:=Value.isInt_shape h1
  rw[ht,<-h2];exact .int _ _
theorem M3{eH:Ws}{H₀:Hp}{ws:List Nat}{l ep:Nat}{es:List ((Int×Bool)×V)}{a:Addr}(hl:eH.φ[l]?=some a)(e:H₀[l]?=some (.c6 ep es))(hw:l∈ws):BX eH H₀ ws (es.map λp=>mZ p.1) a es.length ep:=λP kp hs=>
 P.R.at ((BW hs hw).trans e) λb hb hc=>hc.inv _ λo en kvs x0 x1 x2 x3 x4 q z m=>by
  rw[kp.pre l a hl] at hb;cases hb
  have hz:en.size=es.length:=by rw[q.length,<-length_toList,x3,aS]
  refine⟨o,en,x0,x2,hz,aS _,λi v hv=>?_⟩
  rw[g5] at hv
  refine gW (λv=>∃h:i<en.size,bl P.w v en[i].key) hv λe' he=>?_
  have hi:=(dZ.mp he).1
  have tW:i<en.size:=hz▸hi
  have hk:i<kvs.length:=q.length▸hi
  refine⟨tW,?_⟩
  have h1:=entry_at (knd:=nM) x3 i
  rw[wx tW,fL hk] at h1
  rw[dA h1]
  exact(q.get he (fL hk)).2.1
theorem M4{v:V}{x:Value}{us:List V}(G:Good X)(r:bl P.w v x)(e:keysOf P.H v=some us)(k:oU P tg post Q)(p:post (us,watch v) P.H):wpAny X.M P.A (pyIter x) Q P.Ex P.s:=by
 unfold keysOf at e
 cases ed:mj P.H v with
 |some es=>
  rw[ed] at e;cases e
  exact vv r G ed (λx=>wpAny X.M P.A (pyIter x) Q P.Ex P.s) λl ep a kvs ev hl ha Z Z hs Z=>by
   subst ev
   refine P.R.at hl λb hb hc=>hc.inv _ λo en kvs x0 x1 x2 x3 x4 x5 q z m=>?_
   rw[ha] at hb;cases hb
   have hz:en.size=es.length:=by rw[q.length,<-x4.length,length_toList]
   exact GC hs x0 x1.1 x2 (vF k _ p (GF (M2 (l:=l) (ep:=ep) ha hl (.head _))) ⟨_,il _ rfl,rfl,by rw[hz];rfl⟩)
 |none=>
  rw[ed] at e
  cases eP:sB P.H v with
  |some es=>
   rw[eP] at e;cases e
   exact oG r G eP (λx=>wpAny X.M P.A (pyIter x) Q P.Ex P.s) λl ep a kvs ev hl ha Z Z hs Z=>by
    subst ev
    refine P.R.at hl λb hb hc=>hc.inv _ λo en kvs x0 x1 x2 x3 x4 q z m=>?_
    rw[ha] at hb;cases hb
    have hz:en.size=es.length:=by rw[q.length,<-length_toList,x3,aS]
    exact GC hs x0 x1.1 x2 (vF k _ p (GF (M3 (l:=l) (ep:=ep) ha hl (.head _))) ⟨_,il _ rfl,rfl,by rw[hz];rfl⟩)
  |none=>
   rw[eP] at e
   cases v with
   |aC YG=>cases e;exact r.inv (λx=>wpAny X.M P.A (pyIter x) Q P.Ex P.s) λa m xs h1 h2 Z h4=>wpAny_pyIter_tuple ⟨_,h1,rfl,m,rfl⟩ (vF k _ p (M0 (mQ _ h1) h4 (h2.mono (P.ext (.push _) P.s.toks).S)) ⟨_,il _ rfl,rfl,rfl⟩)
   |ref l=>
    exact bH r e (λx=>wpAny X.M P.A (pyIter x) Q P.Ex P.s) λl' a xs m ev hl ha h1 h2 Z=>by
     cases ev
     exact wpAny_pyIter_list (lK h1) (vF k _ p (GA (Gz (l:=l) ha hl (.head _))) ⟨_,il _ rfl,rfl,rfl⟩)
   |fu=>cases e;exact r.inv (λx=>wpAny X.M P.A (pyIter x) Q P.Ex P.s) (Gl.lJ G P λxs h1 h2 Z=>wpAny_pyIter_list h1 (vF k _ p (GA (MZ G)) ⟨_,il _ rfl,rfl,rfl⟩))
   |_=>cases e
theorem M5{c:E}{e:Expr}(h:cy σ.f c e=true)(env:Env)(x:Value):foldedSetIterable e env x=pure x:=by
 cases e<;>first|rfl|skip
 exfalso
 cases c<;>exact Bool.noConfusion h
theorem M6{c:E}{e:Expr}(G:Good X)(h0:cy σ.f c e=true)(he:ct σ c e):lM σ (.of c) e:=
 ⟨M5 h0,λP tg post Q Z p k=>he P _ _ p (λv H1 p1 N x r=>aI.k p1 λus hi p1=>M4 (P:=N.pt) G r hi (k.nx N) p1)⟩
theorem GG{x y:Int}{r:Addr}{t u w:Tok}(k:oU P tg post Q)(hr:IsRange P.s.heap r x y 1 t u w)(hx:x.natAbs<2^60/\y.natAbs<2^60)(p:post (pW x y,[]) P.H):wpAny X.M P.A (pyIter (.ref r)) Q P.Ex P.s:=by
 refine wpAny_pyIter_range hr (small_one ((zv hx.1).1) ((zv hx.1).2) ((zv hx.2).1) ((zv hx.2).2)) (vF k _ p (M1 (x:=x) (y:=y)) ?_)
 have e1:x+((0:Nat):Int)=x:=Int.add_zero x
 have e2:(((y - x).toNat:Int) - ((0:Nat):Int))=Builtin.Range.rangeSize x y 1:=by rw[rangeSize_one];split<;>lia
 refine(?_:IsRangeIter _ _ (x+((0:Nat):Int)) (((y - x).toNat:Int) - ((0:Nat):Int)) 1)
 rw[e1,e2]
 exact il _ rfl
theorem vG{P:Fp σ}{g:Expr}{nm:Str}{y:Value}{cs:List E}{es:List Expr}{pos:Pos}{post:List V->Hp->Prop}(G:Good X)(hg:fv σ.f nm g=true)(hm:(nm,y)∈pU)(hy:∃T,y=.type T)(h:fP σ cs es)(p:oP σ.c cs P.ρ P.H post)(k:BG P.toPt cs.length post λxs cj=>wpAny X.M P.A (call y xs) Q P.Ex cj):wpAny X.M P.A (eval (.Call g es [] pos) P.env) Q P.Ex P.s:=
 gc.k (G:=λg=>wpAny X.M P.A (eval (.Call g es [] pos) P.env) Q P.Ex P.s) hg λx np hg=>aV hg λe ho=>by
  obtain rfl:=eq_of_beq e
  obtain⟨T,rfl⟩:=hy
  exact wpAny_Call_NameR (sJ G P hm ho (PySem.callWith_type (h.plain P.env pos) (rD (h.plain P.env pos) (h.qh P _ _ pos p k))))
theorem M7{b:E}{g e:Expr}{pos:Pos}(G:Good X)(hg:fv σ.f "range" g=true)(h:fP σ [b] [e]):lM σ (.range (kI 0) b) (.Call g [e] [] pos):=
 ⟨λZ Z=>rfl,λP tg post Q Z p k=>vG (post:=λvs H=>w1 vs λy=>fy y λj=>((0:Int).natAbs<2^60/\j.natAbs<2^60)/\post (pW 0 j,[]) H) G hg (i6 6 (by decide)) ⟨_,rfl⟩ h p (λvs H1 p1 Z N xs r=>w1.k p1 (λvs=>bJ N.w vs xs->_) (λv p1 r=>fy.k p1 (λv=>bJ N.w [v] xs->_) (λj p1 r=>
  r.k1 (λxs=>wpAny X.M P.A (call (.type "range") xs) (λx cj=>wpAny X.M P.A (pyIter x) Q P.Ex cj) P.Ex N.s) λx r=>r.inv (λx=>wpAny X.M P.A (call (.type "range") [x]) (λx cj=>wpAny X.M P.A (pyIter x) Q P.Ex cj) P.Ex N.s) λt=>call_range_1 (GG (P:=(N.pt.ext (.push _) _).pt) ((k.nx N).nx (N.pt.ext (.push _) _)) (IsRange.new _ _ _ _ _ _ _) p1.1 p1.2)) r) r)⟩
theorem M8{a b:E}{g e e':Expr}{pos:Pos}(G:Good X)(hg:fv σ.f "range" g=true)(h:fP σ [a,b] [e,e']):lM σ (.range a b) (.Call g [e,e'] [] pos):=
 ⟨λZ Z=>rfl,λP tg post Q Z p k=>vG (post:=λvs H=>w2 vs λx y=>w9 x y λl=>post (l,[]) H) G hg (i6 6 (by decide)) ⟨_,rfl⟩ h p (λvs H1 p1 Z N xs r=>w2.k p1 (λvs=>bJ N.w vs xs->_) (λu v p1 r=>fy.k p1 (λu=>bJ N.w [u,v] xs->_) (λi p1 r=>fy.k p1 (λv=>bJ N.w [.int i,v] xs->_) (λj p1 r=>
  r.k2 (λxs=>wpAny X.M P.A (call (.type "range") xs) (λx cj=>wpAny X.M P.A (pyIter x) Q P.Ex cj) P.Ex N.s) λx y r1 r2=>r1.inv (λx=>wpAny X.M P.A (call (.type "range") [x,y]) (λx cj=>wpAny X.M P.A (pyIter x) Q P.Ex cj) P.Ex N.s) λt=>r2.inv (λy=>wpAny X.M P.A (call (.type "range") [_,y]) (λx cj=>wpAny X.M P.A (pyIter x) Q P.Ex cj) P.Ex N.s) λt'=>call_range_2 (GG (P:=(N.pt.ext (.push _) _).pt) ((k.nx N).nx (N.pt.ext (.push _) _)) (IsRange.new _ _ _ _ _ _ _) p1.1 p1.2)) r) r) r)⟩
end
theorem Ch.GH{h h':Heap}{a b:Addr}(k:∀c o,c≠a->c≠b->h.get? c=some o->h'.get? c=some o)(fa:∀o,h.get? a=some o->fz o=false)(fb:∀o,h.get? b=some o->fz o=false):Ch (λc=>c=a\/c=b) h h':=λc o e hf=>
 (Classical.em (c=a)).elim (λe'=>no (hf (.inl e')) (fa o (e'▸e))) λha=>(Classical.em (c=b)).elim (λe'=>no (hf (.inr e')) (fb o (e'▸e))) λhb=>k c o ha hb e
section
variable{σ:Lv}{tg:Expr}{eH:Ws}{H₀:Hp}{ws:List Nat}{vs:List V}{a e it:Addr}
theorem BY:∀{us:List V} {k i:Nat},(tK k us)[i]?=us[i]?.map λu=>.aC [.int ((k+i:Nat):Int),u]
 |[],k,i=>rfl
 |u::us,k,0=>rfl
 |u::us,k,i+1=>by
  rw[tK,List.getElem?_cons_succ,List.getElem?_cons_succ,BY,add_right_comm];rfl
theorem M9(xy:wF tg=true)(sM:zt eH H₀ ws vs a)(dQ:e≠it):nc tg eH H₀ ws (tK 0 vs) e (λc=>c=e\/c=it) (λi h=>(∃old,IsEnum h e it i old)/\h.IsListIter it a i) where
 keep:=λi h h' st hk=>⟨st.1.imp λold q=>hk e (.inl rfl) _ q,st.2.imp λo q=>⟨hk it (.inr rfl) o q.1,q.2⟩⟩
 live:=λi h st b hb=>hb.elim (λhb=>st.1.elim λold q=>⟨_,hb▸q,rfl,rfl⟩) λhb=>st.2.imp λo q=>⟨hb▸q.1,Gu q.2.1 rfl (vn q.2.2)⟩
 item:=λP i v Q hh kp hw st eR hv k=>(sM P kp hw).elim λxs hx=>gW (λv=>(∀h' tk y,SR ⟨P.φ,h'⟩ P.H->bZ (λc=>c=e\/c=it) P.w ⟨P.φ,h'⟩->((∃old,IsEnum h' e it ((i+1:Nat):Int) old)/\h'.IsListIter it a (i+1))->bl ⟨P.φ,h'⟩ v y->Q y (upd P.s h' tk))->_) (BY▸hv) (λu hu k=>hx.2.get hu λy hy ry=>st.1.elim λold e1=>st.2.elim λo q=>by
  refine wpAny_pyNext_enum_item e1 st.2 hx.1 (by rw[zu];exact hy) dQ λh' q1 q2 q3 q4 q5=>?_
  refine Expr.Tuple.elim (motive_1:=λtg=>wpAny X.M P.A (letOwnedTupleGo tg (.ref e) (.ref P.s.heap.objs.size)) (λZ fO=>Q (.ref P.s.heap.objs.size) fO) P.Ex (upd P.s h' (P.s.toks+1))) tg (cf xy) λZ Z Z=>?_
  refine wpAny_letOwnedTupleGo_enum (s:=upd P.s h' (P.s.toks+1)) q1 λh2 w1 w2=>?_
  replace w2:SameBut e h' h2:=w2
  have hs:P.s.heap.objs.size≠e:=λe'=>bV (i5 P.s.heap (iX e')) e1
  have keep:∀b o,b≠e->b≠it->P.s.heap.get? b=some o->h2.get? b=some o:=λb o n1 n2 x=>w2.extBut b o n1 (q5 b o n1 n2 x)
  have c:Ch (λc=>c=e\/c=it) P.s.heap h2:=.GH keep (λo x=>by rw[e1] at x;cases x;exact pZ rfl rfl) (λo' x=>by rw[q.1] at x;cases x;exact pZ q.2.1 rfl)
  refine q2.elim λo' q2=>?_
  have fQ:h2.get? it=some o':=w2.extBut _ _ dQ.symm q2.1
  have S:bZ (λc=>c=e\/c=it) P.w ⟨P.φ,h2⟩:=bZ.ch (io:=λc=>c=e\/c=it) (q:=P.w) .refl c λb hb=>.inr ⟨hb,hb.elim (λhb=>⟨_,hb▸w1,λo1 x hd=>by rw[hb,show P.w.h.get? e=_ from e1] at x;cases x;exact Bool.noConfusion hd⟩) λhb=>⟨_,hb▸fQ,λo1 x hd=>by rw[hb,show P.w.h.get? it=_ from q.1] at x;cases x;exact no hd (vn q.2.2)⟩⟩
  have hc:((i+1:Nat):Int)=(i:Int)+1:=rfl
  have h0:((0+i:Nat):Int)=(i:Int):=by rw[zero_add]
  exact k h2 _ _ (P.R.ch (p:=P.w) eR c) S ⟨⟨y,w1⟩,o',fQ,q2.2⟩ (.aC (w2.extBut _ _ hs q3) (.cons (h0▸.int _ _) (.cons (ry.mono S) .nil)) (Nat.le_of_ble_eq_true rfl) (P.R.new (p:=P.w) (i5 _ (cg _))).1)) k
 done:=λP i Q hh kp hw st eR hv k=>(sM P kp hw).elim λxs hx=>st.1.elim λold e1=>st.2.elim λo q=>wpAny_pyNext_enum_end hh e1 st.2 hx.1 (none_of hx.2 (Option.map_eq_none_iff.mp (BY▸hv))) λh' he=>
  k h' P.s.toks (.GH (λc o Z hc x=>he c o hc x) (λo x=>by rw[e1] at x;cases x;exact pZ rfl rfl) (λo' x=>by rw[q.1] at x;cases x;exact pZ q.2.1 rfl))
 self:=λA s Q Ex st h=>st.1.elim λold e1=>wpAny_pyIter_enum e1 h
theorem Na{c:E}{g x:Expr}{pos:Pos}(G:Good X)(hg:fv σ.f "enumerate" g=true)(h:fP σ [c] [x]):lM σ (.nH c) (.Call g [x] [] pos):=
 ⟨λZ Z=>rfl,λP tg post Q xy p k=>vG (post:=λvs H=>w1 vs λy=>aI (eQ H y) λus=>post (tK 0 us,watch y) H) G hg (i6 7 (by decide)) ⟨_,rfl⟩ h p (λvs H1 p1 Z N xs r=>w1.k p1 (λvs=>bJ N.w vs xs->_) (λv p1 r=>aI.k p1 λus hl p1=>r.k1 (λxs=>wpAny X.M P.A (call (.type "enumerate") xs) (λx cj=>wpAny X.M P.A (pyIter x) Q P.Ex cj) P.Ex N.s) λy r=>
  bH (P:=N.pt) r hl (λy=>wpAny X.M P.A (call (.type "enumerate") [y]) (λx cj=>wpAny X.M P.A (pyIter x) Q P.Ex cj) P.Ex N.s) λl a xs m ev gV ha h1 h2 Z=>by
   subst ev
   refine call_enumerate_list (s:=N.s) (lK h1) λh2 w1 w2 w3 w4=>wpAny_pyIter_enum (s:=upd P.s h2 N.tk) w1 ?_
   have fr:∀b,N.h.objs.size<=b->Ap (N.pt.ext (h':=h2) w4 N.tk).w b/\P.s.heap.get? b=none:=λb hb=>have hn:=i5 N.h hb;⟨N.R.new (p:=N.w) hn,N.S.dead hn⟩
   exact k _ _ p1 (N.then (N.pt.ext w4 N.tk)) _ _ _ (M9 xy (Gz ha gV (.head _)) (Nat.succ_ne_self _)) ⟨⟨.none,w1⟩,w2⟩ λb hb=>hb.elim (λhb=>fr b (hb▸le_succ _)) λhb=>fr b (iX hb.symm)) r)⟩
end
section
variable{P:Pt}{l k:Nat}{a:Addr}{Q:Unit->Shared->Prop}{Ex:Value->Shared->Prop}
def tX(p:Ws)(a:Addr):Prop:=∃oe vs T oT,p.h.get? a=some oe/\oe.data=.fields vs/\vo p vs T oT
theorem GI{o:Obj}{G:Prop}(h:gU o=true)(k:∀ts,o.data=.fields ts->3<ts.size->G):G:=by
 unfold gU at h
 cases e:o.data with
 |fields ts=>rw[e] at h;exact k ts e (cf (eJ.mp h).2)
 |_=>rw[e] at h;cases h
theorem Nb{vs:Array Value}(h:3<vs.size):gU {cls:=.type "traceback",data:=.fields vs}=true:=c9 h
noncomputable abbrev Pt.soft(P:Pt){h':Heap}(hc:∀b o,b∈P.φ->P.s.heap.get? b=some o->h'.get? b=some o)(h0:aA X.eF h')(hk:∀b o,P.s.heap.get? b=some o->∃o',h'.get? b=some o'/\jJ o o')(tk:Nat):Nx P P.H:=
 have K:Kp P.w ⟨P.φ,h'⟩:=⟨λZ Z e=>e,λb o Z e hn=>⟨hk b o e,hn⟩⟩
 ⟨P.φ,h',tk,⟨h0,P.R.fresh,P.R.nodup,P.R.len,λl c e=>P.R.at e λb hb r=>⟨b,hb,r.kp K λo y=>hc b o (iz hb) y⟩⟩,
  ⟨λZ Z e=>e,λb o e Z Z=>hk b o e,λZ h1 h2=>absurd h1 h2,λb o e=>(hk b o e).imp λo' x=>⟨x.1,λZ hd=>x.2.fA hd⟩⟩⟩
theorem GJ{T:Addr}{oT:Obj}{z:Value}(e:P.s.heap.get? T=some oT)(ht:gU oT=true)(hn:T∉P.φ)(h0:X.eF.get? T=none)(kq:∀N:Nx P P.H,(∀b,b≠T->N.h.get? b=P.s.heap.get? b)->Q () N.s):wpAny X.M P.A (setField (.ref T) 3 z) Q Ex P.s:=
 GI ht λts hd hz=>wpAny_setField e hd hz (by
  have hs:=sg (Obj.mapFields (·.setIfInBounds 3 z)) e (Obj.isFreed_of_fields (Obj.data_mapFields hd _))
  have ho:∀b,b≠T->(P.s.heap.update T (Obj.mapFields (·.setIfInBounds 3 z))).get? b=P.s.heap.get? b:=λb hb=>u2 _ _ (Ne.symm hb)
  have tS:gU (Obj.mapFields (·.setIfInBounds 3 z) oT)=true:=by
   unfold gU at ht ⊢
   rw[Obj.data_mapFields hd,Obj.cls_mapFields]
   rw[hd] at ht
   exact(bU (λn=>_&&decide (3<n)) (Array.size_setIfInBounds)).trans ht
  refine kq (P.soft (λb o hb x=>(ho b λe'=>hn (e'▸hb)).trans x) (λb o x=>(ho b λe'=>bV h0 (e'▸x)).trans (P.R.keep b o x)) (λb o x=>?_) P.s.toks) ho
  by_cases e':b=T
  ·subst e'
   rw[e] at x;cases x
   exact⟨_,hs,λZ h=>no ht h,λh=>no ht h,λZ=>tS⟩
  ·exact⟨o,(ho b e').trans x,.refl⟩)
theorem zw{fr:Option Addr}(h:tX P.w a)(ha:P.φ[l]?=some a)(kq:∀N:Nx P P.H,tX N.w a->Q () N.s):wpAny X.M P.A (setFlight (.ref a) fr) Q Ex P.s:=by
 obtain⟨oe,vs,T,oT,e1,e2,e3⟩:=h
 unfold setFlight
 refine aY (wpAny_field e1 e2 e3.1 ?_)
 rw[bL (show(Value.ref T != Value.none)=true from rfl)]
 exact GJ e3.2.1 e3.2.2.1 e3.2.2.2.1 e3.2.2.2.2 λN hN=>(e3.kp N.S.kp).elim λo' y=>kq N ⟨oe,vs,T,o',(hN a λe=>e3.2.2.2.1 (e▸iz ha)).trans e1,e2,y⟩
theorem Nc{α:Type}{l:List α}{i:Nat}{a:α}(h:l[i]?=some a):l.set i a=l:=by
 apply ext_getElem?
 intro j
 rw[List.getElem?_set]
 split
 ·rename_i e;subst e
  rw[bL (dZ.mp h).1,h]
 ·rfl
theorem Nd{T:Addr}{oe oT:Obj}{C:Addr}{vs:Array Value}(hl:P.H[l]?=some (.exc k))(ha:P.φ[l]?=some a)(e1:P.s.heap.get? a=some oe)(e2:X.exc[k]?=some C)(e3:oe.cls=.ref C)(e4:oe.data=.fields vs)(lL:1<vs.size)(eT:P.s.heap.get? T=some oT)(ht:gU oT=true)(hn:T∉P.φ)(h0:X.eF.get? T=none)
  (kq:∀N:Nx P P.H,tX N.w a->Q () N.s):wpAny X.M P.A (setField (.ref a) 1 (.ref T)) Q Ex P.s:=
 wpAny_setField e1 e4 lL (by
  have hd:=Obj.data_mapFields e4 (·.setIfInBounds 1 (.ref T))
  have hs:=sg (Obj.mapFields (·.setIfInBounds 1 (.ref T))) e1 (Obj.isFreed_of_fields hd)
  have he:ExtBut a P.s.heap (P.s.heap.update a (Obj.mapFields (·.setIfInBounds 1 (.ref T)))):=λb o hb x=>(u2 _ _ (Ne.symm hb)).trans x
  have Nf:T≠a:=λe=>hn (e▸iz ha)
  have tb:vo ⟨P.φ,P.s.heap.update a (Obj.mapFields (·.setIfInBounds 1 (.ref T)))⟩ (vs.setIfInBounds 1 (.ref T)) T oT:=⟨by rw[Array.getElem?_setIfInBounds_self];exact bL lL,he T oT Nf eT,ht,hn,h0⟩
  have c:fV ⟨P.φ,P.s.heap.update a (Obj.mapFields (·.setIfInBounds 1 (.ref T)))⟩ a (.exc k):=.exc hs e2 ((Obj.cls_mapFields _ _).trans e3) hd (.inr ⟨T,oT,tb⟩)
  have N:=P.set ha he c P.s.toks
  exact kq ⟨P.φ,_,P.s.toks,Nc hl▸SR.set (p:=P.w) P.R ha he c,c.ob.elim λZ ho=>bZ.cell (q:=P.w) .refl (iz ha) he ho⟩ ⟨_,_,T,oT,hs,hd,tb⟩)
theorem Ng{e:Value}{env fe:Env}(h:fe.frame=env.frame):noteFrame e env=noteFrame e fe:=by unfold noteFrame PySem.frameOf;rw[h]
theorem nN.GK{A:Around}{p:Ws}:∀{l:List Env},(∀e,e∈l->e.scope.kind=.function/\∃L o,e.frame=some L/\p.h.get? L=some o/\fA o=true/\Ap p L)->p.h.FunFrames X.eF l/\∀b,b∈l.filterMap (·.frame)->∃o,p.h.get? b=some o/\fA o=true/\Ap p b
 |[],_=>⟨trivial,λZ h=>nomatch h⟩
 |e::l,H=>by
  have x:=H e (.head _)
  have r:=nN.GK (A:=A) λe he=>H e (.tail _ he)
  obtain⟨hk,L,o,h1,h2,h3,h4⟩:=x
  refine And.intro ⟨(by rw[hk];exact λh=>nomatch h),⟨L,o,h1,h4.2,h2,λvs hv=>no h3 (vn hv)⟩,r.1⟩ λb hb=>?_
  rw[List.filterMap_cons,h1] at hb
  exact(cH.mp hb).elim (λe=>e▸⟨o,h2,h3,h4⟩) (r.2 b)
theorem Nh{fe:Env}{outer:List Env}{L:Addr}{Q:Value->Shared->Prop}(hA:P.A.frames=some (fe::outer))(hL:fe.frame=some L)(kq:∀N:Nx P P.H,(∀b,b∈P.φ->N.h.get? b=P.s.heap.get? b)->Q (.ref L) N.s):wpAny X.M P.A (PySem.frameOf fe) Q Ex P.s:=by
 have tY:j3 P.A=fe::outer:=by unfold j3;rw[hA];rfl
 have fr:=nN.GK (A:=P.A) (p:=P.w) (l:=fe::outer) λe he=>P.fr e (tY▸he)
 refine wpAny_frameOf_fun hA fr.1 hL λgG hs=>?_
 have ho:∀b o,P.s.heap.get? b=some o->fA o=false->gG.get? b=some o:=λb o e hd=>(hs.2.1 b λhm=>(fr.2 b hm).elim λo' x=>by rw[show P.w.h.get? b=some o from e] at x;cases x.1;exact no x.2.1 hd).trans e
 have xw:∀b,Ap P.w b\/gG.get? b=P.s.heap.get? b:=λb=>(Classical.em (b∈(fe::outer).filterMap (·.frame))).elim (λh=>(fr.2 b h).elim λZ x=>.inl x.2.2) λh=>.inr (hs.2.1 b h)
 have hc:∀b,b∈P.φ->gG.get? b=P.s.heap.get? b:=λb hb=>(xw b).elim (λh=>absurd hb h.1) id
 exact kq (P.soft (h':=gG) (λb o hb x=>(hc b hb).trans x) (λb o x=>(xw b).elim (λh=>bV h.2 x) λh=>h.trans (P.R.keep b o x)) (λb o x=>(hs.2.2 b o x).elim λsl y=>by
  cases hd:fA o with
  |true=>exact⟨_,y,λh=>no hd h,λZ=>⟨rfl,rfl⟩,λh=>no h (BD hd)⟩
  |false=>exact⟨o,ho b o x hd,.refl⟩) P.s.toks) hc
theorem GL{fe:Env}{outer:List Env}{L:Addr}{head:Value}{nx:Bool}{oe:Obj}{C:Addr}{vs:Array Value}(hA:P.A.frames=some (fe::outer))(hL:fe.frame=some L)(hl:P.H[l]?=some (.exc k))(ha:P.φ[l]?=some a)(e1:P.s.heap.get? a=some oe)(e2:X.exc[k]?=some C)(e3:oe.cls=.ref C)(e4:oe.data=.fields vs)(lL:1<vs.size)(kq:∀N:Nx P P.H,tX N.w a->Q () N.s):
  wpAny X.M P.A (do let f <-PySem.frameOf fe;let pl <-entryPlaceOf L nx;let b <-EntryCells.newEntry head f .none (rawInt L) .none pl;setField (.ref a) 1 b) Q Ex P.s:=by
 refine aY (Nh hA hL λN hN=>aY (wpAny_entryPlaceOf λpl ql=>?_))
 unfold EntryCells.newEntry newFields
 refine aY (pQ ?_ (ql.sizeOk5 _ _ _ _ _))
 have hn:=i5 N.h (cg _)
 have ap:=N.R.new (p:=N.w) hn
 exact Nd (P:=(N.pt.ext (.push _) N.tk).pt) hl (N.S.pre _ _ ha) (mQ _ ((hN a (iz ha)).trans e1)) e2 e3 e4 lL (il _ rfl) (by
  refine Nb ?_
  rw[jX,bX]
  exact fh (show 3<5 by decide) (fM _ _)) ap.1 ap.2 λN2 h2=>kq (N.then ((N.pt.ext (.push _) N.tk).then N2)) h2
theorem BZ{env:Env}(hf:∃fe,(j3 P.A).head?=some fe/\fe.frame=env.frame)(hl:P.H[l]?=some (.exc k))(ha:P.φ[l]?=some a)(kq:∀N:Nx P P.H,tX N.w a->Q () N.s):wpAny X.M P.A (noteFrame (.ref a) env) Q Ex P.s:=by
 obtain⟨fe,outer,hA,_⟩:=P.rm.frames
 have tY:j3 P.A=fe::outer:=by unfold j3;rw[hA];rfl
 obtain⟨YH,h1,h2⟩:=hf
 rw[tY] at h1
 cases h1
 rw[Ng h2]
 obtain⟨_,L,oL,hL,_⟩:=P.fr fe (tY▸.head _)
 refine P.R.at hl λb hb hc=>?_
 rw[ha] at hb;cases hb
 refine hc.inv _ λoe Ca vs e1 e2 e3 e4 e5=>?_
 unfold noteFrame
 simp only[hL]
 rcases e5 with e5|⟨T,oT,e5⟩
 ·refine aY (wpAny_field e1 e4 e5 ?_)
  rw[bG (by decide)]
  exact GL hA hL hl ha e1 e2 e3 e4 (Array.getElem?_eq_some_iff.mp e5).1 kq
 ·refine aY (wpAny_field e1 e4 e5.1 ?_)
  rw[bL (show(Value.ref T != Value.none)=true from rfl)]
  refine GI e5.2.2.1 λts f2 f3=>aY (wpAny_field e5.2.1 f2 (wx f3) ?_)
  by_cases hz:(ts[3]==rawInt L)=true
  ·rw[bL hz]
   exact bS (kq (P.g6 P.s.toks) ⟨oe,vs,T,oT,e1,e4,e5⟩)
  ·rw[bG hz]
   refine aY (GJ e5.2.1 e5.2.2.1 e5.2.2.2.1 e5.2.2.2.2 λN hN=>?_)
   exact GL (P:=N.pt) hA hL hl (N.S.pre _ _ ha) ((hN a λe=>e5.2.2.2.1 (e▸iz ha)).trans e1) e2 e3 e4 (Array.getElem?_eq_some_iff.mp e5.1).1 λN2 h2=>kq (N.then N2) h2
theorem Ni{env:Env}(hf:∃fe,(j3 P.A).head?=some fe/\fe.frame=env.frame)(hl:P.H[l]?=some (.exc k))(ha:P.φ[l]?=some a)(kq:∀N:Nx P P.H,tX N.w a->Q () N.s):wpAny X.M P.A (leaving env (.ref a)) Q Ex P.s:=
 aY (BZ hf hl ha λN hN=>zw (P:=N.pt) hN (N.S.pre _ _ ha) λN2 h2=>kq (N.then N2) h2)
theorem Nj{env:Env}(hf:∃fe,(j3 P.A).head?=some fe/\fe.frame=env.frame)(hl:P.H[l]?=some (.exc k))(ha:P.φ[l]?=some a)(kq:∀N:Nx P P.H,Ex (.ref a) N.s):notedBy X.M P.A env (λe s'=>cameBackBy X.M P.A env Ex e s') (.ref a) P.s:=
 BZ hf hl ha λN hN=>by
  obtain⟨oe,vs,T,oT,e1,e2,e3⟩:=id hN
  unfold cameBackBy
  refine aY (wpAny_field e1 e2 e3.1 ?_)
  refine(?_:wpAny X.M P.A (if(Value.ref T==Value.none)=true then _ else setFlight (.ref a) env.frame) _ _ _)
  rw[bG (show ¬((Value.ref T==Value.none)=true) from gq)]
  exact zw (P:=N.pt) hN (N.S.pre _ _ ha) λN2 Z=>kq (N.then N2)
theorem Fp.back{σ:Lv}(P:Fp σ):tP P.own P.w P.s (xq σ.x) (notedBy X.M P.A P.env λe s'=>cameBackBy X.M P.A P.env P.Ex e s'):=λv H p φ h tk R S y r=>
 (isSome_iff_exists.mp p.1).elim λj ej=>cellAt.k ej (λv=>σ.x v H->bl ⟨φ,h⟩ v y->_) (λl c hl hc q r=>pV.k (λc=>H[l]?=some c->_) hc (λhl=>r.inv (λy=>notedBy X.M P.A P.env (λe s'=>cameBackBy X.M P.A P.env P.Ex e s') y (upd P.s h tk)) λa ha=>
  Nj (P:=⟨P.A,φ,H,upd P.s h tk,P.Ex,P.rm,R,P.fr.kP S⟩) P.hf hl ha λN=>P.kx _ _ q N.φ N.h N.tk N.R (S.trans N.S.nil) _ (.ref (N.S.pre _ _ ha))) hl) p.2 r
end
section
variable{A:Around}{R:Result->Shared->Prop}{s:Shared}
theorem Nk{target:Expr}{it:Value}{body:List Stmt}{env:Env}{Ex:Value->Shared->Prop}(eE:Ex=notedBy X.M A env λe s'=>R (.error e) s')(I:Nat->Shared->Prop)
  (turn:∀n s,I n s->wpAny X.M A (pyNext it) (λr cj=>r=none/\R (.ok .next) cj) NE s\/wpAny X.M A (pyNext it) (λr cj=>aI r λv=>
    wpAny X.M A (letOwnedTupleGo target it v) (λZ cj=>wpAny X.M A (assign target env v) (λZ fO=>wpAny X.M A (execs body env) (λf nP=>match f with
     |.next | .cont=>∃m,m<n/\I m nP
     |.brk=>R (.ok .next) nP
     |.ret v=>R (.ok (.ret v)) nP) Ex fO) Ex cj) NE cj) NE s)
  (n:Nat) (h:I n s):codeAny X.M A (.forLoop target it body [] env) R s:=by
 subst eE
 refine codeAny_loop' rfl I (λn s hI=>?_) n h
 refine(?_:wpAny _ _ ((forTurn target it body [] env).onRaise (λx=>do noteFrame x env;theTreesLotGoes x)) _ _ s)
 refine wpAny_noted ?_
 refine aY (wpAny_standAt (aY (wpAny_onRaise ((turn n s hI).elim (λht=>gE ht (λr cj gG=>?_) λZ Z h'=>h'.elim) λht=>gE ht (λr cj gG=>?_) λZ Z h'=>h'.elim))))
 ·rw[gG.1];exact bS (.inr ⟨rfl,codeAny_block (wpAny_execs_nil gG.2)⟩)
 ·refine aI.k gG λv e gG=>?_
  subst e
  refine aY (gE gG (λZ fO jM=>aY (gE jM (λZ fO jM=>aY (gE jM (λf nP tZ=>?_) λZ Z h'=>h')) λZ Z h'=>h')) λZ Z h'=>h'.elim)
  cases f with
  |next=>exact bS (.inl ⟨rfl,tZ⟩)
  |cont=>exact bS (.inl ⟨rfl,tZ⟩)
  |brk=>exact bS tZ
  |ret v=>exact bS tZ
end
section
variable{σ:Lv}{tg:Expr}{io:Addr->Prop}{St:Nat->Heap->Prop}{ρ:bB}{H:Hp}
theorem Sx.ch{P:Fp σ}{h':Heap}(N:Sx P ρ H)(c:Ch io N.h h')(eR:∀a,io a->Ap N.w a)(nQ:∀a,io a->P.s.heap.get? a=none)(tk:Nat):∃N':Sx P ρ H,N'.φ=N.φ/\N'.h=h'/\N'.tk=tk:=
 ⟨⟨N.φ,h',tk,N.R.ch (p:=N.w) eR c,N.F.ch (p:=N.w) c λa ha hi=>(P.F.live a ha).elim λo e=>bV (nQ a hi) e,bZ.ch (q:=N.w) N.S c λa hi=>.inl (nQ a hi)⟩,rfl,rfl,rfl⟩
noncomputable abbrev Sx.zx{P:Fp σ}{h':Heap}(N:Sx P ρ H)(R:SR ⟨N.φ,h'⟩ H)(S:bZ io N.w ⟨N.φ,h'⟩)(nQ:∀a,io a->P.s.heap.get? a=none)(tk:Nat):Sx P ρ H:=
 ⟨N.φ,h',tk,R,N.F.mono S λa ha hi=>(P.F.live a ha).elim λo e=>bV (nQ a hi) e,bZ.ow (own:=λa=>P.own a\/io a) ((N.S.ow λZ h=>.inl (.inl h)).trans (S.ow λZ h=>.inl (.inr h))) λa h=>h.imp id λhi=>nQ a hi⟩
inductive GN(P:Fp σ)(eH:Ws)(H₀:Hp)(ws:List Nat)(vs:List V)(io:Addr->Prop)(St:Nat->Heap->Prop)(t:dq)(body:List S)(K:Out->Prop)(j:Nat)(s:Shared):Prop
 |mk (i:Nat) (ρ:bB) (H:Hp) (N:Sx P ρ H) (e:s=N.s) (ej:j=(vs.drop i).length+1) (kp:Kp eH N.w) (hw:fN ws H₀ H=true) (st:St i N.h) (eR:∀a,io a->Ap N.w a) (p:pX ws H₀ t (λρ H K=>aG σ.c body ρ H K) (vs.drop i) ρ H K):GN P eH H₀ ws vs io St t body K j s
theorem drop_cons{α:Type}{l:List α}{i:Nat}{a:α}(h:l[i]?=some a):l.drop i=a::l.drop (i+1):=by
 have h:=dZ.mp h
 rw[List.drop_eq_getElem_cons h.1,h.2]
theorem Nl{t:dq}{it:It}{iter:Expr}{body:List S}{bs:List Stmt}{pos:Pos}(hh:σ.f.hd=false)(ht:j0 σ.f t tg=true)(xy:vg it tg=true)(fQ:lM σ it iter)(hb:qj (σ.ex (xq σ.x)) body bs):SS σ (.for t it body) (.For tg iter bs [] pos):=λP K Q ho p k=>by
 refine wpAny_For (fQ.2 P tg _ _ xy p (λq H1 p1 N0 I io St nR vH eR=>?_)) (fQ.1 P.env)
 have nQ:∀a,io a->P.s.heap.get? a=none:=λa ha=>(eR a ha).2
 have sN:∀{a:Addr} {G:Prop},io a->P.own a->G:=λha rB=>(P.F.live _ (ho.2 _ rB)).elim λo e=>bV (nQ _ ha) e
 have k:=k.ex P.back
 refine Nk rfl (GN (P.ex _ _ P.back) N0.w H1 q.2 q.1 io St t body K) (λj s' w=>w.casesOn λi ρ H N e ej kp hw st ua p'=>?_) (q.1.length+1) ⟨0,P.ρ,H1,⟨N0.φ,N0.h,N0.tk,N0.R,P.F.mono N0.S λZ Z h=>h,N0.S.nil⟩,rfl,by rw[drop_zero],.refl,Gy _ _,vH,λa ha=>(eR a ha).1,by rw[drop_zero];exact p1⟩
 subst e ej
 cases hv:q.1[i]? with
 |none=>
  refine .inl (nR.done N.fp.no.toPt i _ (P.calm hh) kp hw st ua hv λh2 kQ c=>⟨rfl,?_⟩)
  rw[drop_eq_nil_iff.mpr (qQ.mp hv)] at p'
  exact(N.ch c ua nQ kQ).elim λN' e=>by have:=k.next _ _ p' N';rw[show N'.s=upd P.s N'.h N'.tk from rfl,e.2.1,e.2.2] at this;exact this
 |some v=>
  have hd:=drop_cons hv
  rw[hd] at p'
  refine aI.k p' λxA ha p'=>?_
  refine .inr (nR.item N.fp.no.toPt i v _ (P.calm hh) kp hw st ua hv λh2 kQ y R2 S2 nS r2=>?_)
  exact vA t tg (N.zx R2 S2 nQ kQ).fp v y xA _ ht (λx hx=>ho.1 x (xt (σ:=σ) t tg ht x hx)) r2 ha λN3=>hb ((N.zx R2 S2 nQ kQ).then N3).fp _ _ ho p' ⟨λNm H4 p4 N4=>by
    have hk:∀a,io a->∀o,h2.get? a=some o->N4.h.get? a=some o:=λa ha o e=>(nR.live _ _ nS a ha).elim λo' x=>by
     rw[show h2.get? a=some o' from x.1] at e;cases e
     exact N4.S.same (N3.S.same x.1 (ua a ha).1 (λh=>sN ha h) x.2.1 x.2.2) (N3.S.qe x.1 (ua a ha).1) (λh=>sN ha h) x.2.1 x.2.2
    exact⟨(q.1.drop (i+1)).length+1,by rw[hd];exact lt_succ_self _,i+1,Nm,H4,((N.zx R2 S2 nQ kQ).then N3).then N4,rfl,rfl,(kp.trans S2.kp).trans (N3.S.kp.trans N4.S.kp),p4.1,nR.keep _ _ _ nS hk,λa ha=>⟨(nR.live _ _ nS a ha).elim λo e=>(N3.S.trans N4.S).qe e.1 (ua a ha).1,(ua a ha).2⟩,p4.2⟩,
    λv4 H4 p4 φ h tk R S x r=>k.ret v4 H4 p4 φ h tk R (((N.zx R2 S2 nQ kQ).then N3).S.trans S) x r⟩
end
theorem B0{env:Env}{G:Prop}:∀(names:List (Str×NameKind)) (acc:List (Str×Addr)),(∀p,p∈acc->env.cells.lookup p.1=some p.2)->(∀p,p∈names->p.2=.free->∃c,env.cells.lookup p.1=some c) ->
  (∀cl:List (Str×Addr),(forIn names acc λ(x:Str×NameKind) (cs:List (Str×Addr))=>if(x.2==NameKind.free)=true then(do let c <-cellOf env x.1;pure (ForInStep.yield ((x.1,c)::cs))) else pure (ForInStep.yield cs):Sem (List (Str×Addr)))=pure cl ->
   (∀p,p∈cl->env.cells.lookup p.1=some p.2)->(∀p,p∈acc->p∈cl)->(∀x,(x,NameKind.free)∈names->∃c,(x,c)∈cl)->G)->G
 |[],acc,h,_,k=>k acc rfl h (λZ h=>h) λZ h=>nomatch h
 |(x,j)::r,acc,h,hn,k=>by
  by_cases hk:(j==NameKind.free)=true
  ·obtain rfl:=eq_of_beq hk
   exact(hn (x,.free) (.head _) rfl).elim λc hc=>B0 r ((x,c)::acc) (λp hp=>(cH.mp hp).elim (λe=>e▸hc) (h p)) (λp hp=>hn p (.tail _ hp)) λcl e h1 h2 h3=>k cl (by
    rw[forIn_cons,if_pos hk,show cellOf env (x,NameKind.free).1=pure c by unfold cellOf;rw[hc]]
    exact e) h1 (λp hp=>h2 p (.tail _ hp)) λy hy=>(cH.mp hy).elim (λe=>⟨c,h2 _ (by rw[(Prod.mk.inj e).1];exact .head _)⟩) (h3 y)
  ·exact B0 r acc h (λp hp=>hn p (.tail _ hp)) λcl e h1 h2 h3=>k cl (by rw[forIn_cons,bG hk];exact e) h1 h2 λy hy=>(cH.mp hy).elim (λe=>absurd (beq_iff_eq.mpr (Prod.mk.inj e).2.symm) hk) (h3 y)
theorem GO{α:Type}{x:Str}{c:α}:∀{l:List (Str×α)},(x,c)∈l->∃d,l.lookup x=some d
 |(y,e)::r,h=>by
  rw[mR]
  cases hb:x==y with
  |true=>exact⟨_,rfl⟩
  |false=>exact(cH.mp h).elim (λh=>by rw[(Prod.mk.inj h).1,gr] at hb;cases hb) GO
theorem GP{x:Str}{k:NameKind}:∀{l:List (Str×NameKind)},(l.map (·.1)).Nodup->(x,k)∈l->l.lookup x=some k
 |(y,j)::r,hn,h=>by
  rw[mR]
  have hn:=lF.mp hn
  cases hb:x==y with
  |true=>exact(cH.mp h).elim (λe=>by rw[(Prod.mk.inj e).2]) λh=>absurd (fj.mpr ⟨(x,k),h,eq_of_beq hb⟩) hn.1
  |false=>exact(cH.mp h).elim (λe=>by rw[(Prod.mk.inj e).1,gr] at hb;cases hb) (GP hn.2)
def xB(f:Sn)(loc:List Str)(x:Str):NameKind->Prop
 |.local=>x=(".0":Str)\/x∈loc
 |.cell=>False
 |.free=>x∈f.ns/\x∉loc/\rA (f.sc.names.lookup x)
 |.globalImplicit=>True
 |.globalExplicit=>False
structure qm(f:Sn)(loc:List Str)(cs:Scope):Prop where
 kind:cs.kind=.function
 gen:cs.isGenerator=false/\cs.isCoroutine=false
 nodup:(cs.names.map (·.1)).Nodup
 all:∀p,p∈cs.names->xB f loc p.1 p.2
 Nn:∀x,x∈loc->cs.names.lookup x=some .local
 Np:(".0":Str)∉f.ns
theorem zy{b:Bool}(h:(!b)=true):b=false:=by cases b<;>first|rfl|cases h
theorem ub{x:Str}{l:List Str}(h:(!l.contains x)=true):x∉l:=λhm=>by rw[contains_iff_mem.mpr hm] at h;cases h
theorem xB.of{f:Sn}{loc:List Str}{p:Str×NameKind}(h:(match p.2 with
  |.local=>p.1==(".0":Str)||loc.contains p.1
  |.cell=>false
  |.free=>f.ns.contains p.1&&(!loc.contains p.1&&By (f.sc.names.lookup p.1))
  |.globalImplicit=>true
  |.globalExplicit=>false)=true):xB f loc p.1 p.2:=by
 cases p with
 |mk x k=>
  cases k with
  |«local»=>exact(jY.mp h).imp eq_of_beq contains_iff_mem.mp
  |free=>exact aV h λa b=>aV b λb c=>⟨contains_iff_mem.mp a,ub b,c⟩
  |globalImplicit=>trivial
  |_=>cases h
theorem wY.sc{f:Sn}{cs:Scope}{loc:List Str}(h:wY f loc cs=true):qm f loc cs:=
 aV h λh1 h=>aV h λh2 h=>aV h λh3 h=>aV h λh4 h=>aV h λh5 h=>aV h λh6 h7=>
  ⟨cf h1,⟨zy h2,zy h3⟩,cf h4,λp hp=>xB.of (iA.mp h5 p hp),λx hx=>cf (iA.mp h6 x hx),ub h7⟩
section
variable{σ:Lv}{cs:Scope}{ns loc:List Str}{env:Env}{h':Heap}{cl:List (Str×Addr)}{D:Addr}
theorem GQ{x:Str}(G:Option NameKind->Option NameKind->Prop)(h1:∀k,G k k)(h2:G (some .free) (some .cell)):G (cs.names.lookup x) ((relabel cs env).names.lookup x):=by
 unfold relabel
 refine(?_:G (cs.names.lookup x) ((cs.names.map _).lookup x))
 induction cs.names with
 |nil=>exact h1 _
 |cons p r ih=>
  obtain⟨y,k⟩:=p
  rw[jF]
  refine(?_:G _ (((if(k==NameKind.free&&env.scope.kind==.function&&env.kindOf y==some .cell)=true then(y,NameKind.cell) else(y,k))::_).lookup x))
  by_cases hc:(k==NameKind.free&&env.scope.kind==.function&&env.kindOf y==some .cell)=true
  ·rw[bL hc,mR,mR]
   cases hx:x==y with
   |true=>exact aV hc λa Z=>aV a λa Z=>by rw[eq_of_beq a];exact h2
   |false=>exact ih
  ·rw[bG hc,mR,mR]
   cases hx:x==y with
   |true=>exact h1 _
   |false=>exact ih
theorem Nq:Kinds cs (compEnvC cs cl D env):=λx=>GQ (env:=env) (λa b=>F2 a b) (λZ=>.inl rfl) (.inr ⟨rfl,rfl⟩)
theorem GR(P:Fp σ){x:Str}(h:rA (σ.f.sc.names.lookup x)):rA (P.env.kindOf x):=(P.kd x).elim (λe=>e▸h) λe=>e.2
theorem Nr{x:Str}{k:NameKind}(h:(relabel cs env).names.lookup x=some k):cs.names.lookup x=some k\/(k=.cell/\cs.names.lookup x=some .free):=
 GQ (cs:=cs) (env:=env) (x:=x) (λa b=>b=some k->a=some k\/(k=.cell/\a=some .free)) (λZ h=>.inl h) (λh=>.inr ⟨(dA h).symm,rfl⟩) h
theorem qm.nm{f:Sn}(c:qm f loc cs){x:Str}{k:NameKind}(h:cs.names.lookup x=some k):xB f loc x k:=c.all _ (mem_lookup h)
theorem qm.fc{env':Env}(P:Fp σ)(hk:env'.scope.kind=.function)(hg:env'.scope.isGenerator=false/\env'.scope.isCoroutine=false)(h1:env'.globals=mainGlobals)(h2:env'.builtins=builtinsNs)(jN:∀p,p∈env'.cells->P.env.cells.lookup p.1=some p.2)(hC:P.s.heap.get? env'.locals=none):Fc env':=
 ⟨hk,h1,h2,⟨hg.1,hg.2,by unfold interactive;rw[hk];rfl⟩,
  λx y c h1 h2=>P.F.fc.apart x y c (jN _ (mem_lookup h1)) (jN _ (mem_lookup h2)),λq hq e=>(P.F.live _ (vq (jN q hq))).elim λo e'=>bV (e▸hC) e'⟩
theorem GS{x:Str}{ρl ρ:bB}(hl:ρl.length=loc.length)(hx:x∈loc):lk (loc++ns) (ρl++ρ) x=lk loc ρl x:=by
 unfold lk
 rw[List.idxOf_append,bL hx,tx (by rw[hl];exact List.idxOf_lt_length_of_mem hx)]
theorem GU{x:Str}{ρl ρ:bB}(hl:ρl.length=loc.length)(hx:x∉loc):lk (loc++ns) (ρl++ρ) x=lk ns ρ x:=by
 unfold lk
 rw[List.idxOf_append,bG hx,qN (by rw[hl];exact le_add_left _ _),hl,Nat.add_sub_cancel]
theorem B1{x:Str}:lk loc (replicate loc.length none) x=none:=by
 unfold lk
 rw[List.getElem?_replicate]
 split<;>rfl
theorem qm.fr{env':Env}{ρl:bB}{m:Str->Option Value}(c:qm σ.f loc cs)(P:Fp σ)(fc:Fc env')(hk:∀x k,env'.kindOf x=some k->cs.names.lookup x=some k\/(k=.cell/\cs.names.lookup x=some .free))(jN:∀p,p∈env'.cells->P.env.cells.lookup p.1=some p.2)(xC:∀x,(x,NameKind.free)∈cs.names->∃c,(x,c)∈env'.cells)(hC:P.s.heap.get? env'.locals=none)(e:aA P.s.heap h')(hn:h'.Ns env'.locals m)
  (hl:ρl.length=loc.length) (hm:∀x,x∈loc->jK ⟨P.φ,h'⟩ (lk loc ρl x) (m x)):FR env' (loc++σ.f.ns) (ρl++P.ρ) ⟨P.φ,h'⟩:=
 ⟨fc,by rw[bX,bX,hl,P.F.len],
  ⟨_,hn,λx hx h=>(hk x _ h).elim (λh=>(Classical.em (x∈loc)).elim (λhx=>by rw[GS hl hx];exact hm x hx) λuc=>((c.nm h).elim (λe=>absurd (e▸(cF.mp hx).resolve_left uc) c.Np) λhl=>absurd hl uc)) λh=>nomatch h.1⟩,
  λx hx h=>by
   have hf:cs.names.lookup x=some .free:=by
    cases ek:env'.kindOf x with
    |none=>rw[ek] at h;cases h
    |some k=>
     rw[ek] at h
     exact(hk x k ek).elim (λe=>by
      cases k with
      |free=>exact e
      |cell=>exact(c.nm e).elim
      |_=>cases h) λe=>e.2
   have q:=c.nm hf
   exact(xC x (mem_lookup hf)).elim λd hd=>(GO hd).elim λd hd=>(P.F.tO x q.1 (GR P q.2.2)).elim λc1 w=>w.elim λv w=>by
    have:=jN _ (mem_lookup hd)
    rw[show P.env.cells.lookup x=some d from this] at w
    cases w.1
    exact⟨d,v,hd,BF w.2.1 (e _),by rw[GU hl q.2.1];exact w.2.2.kp (P.toPt.ext e 0).S.kp⟩,
  λa ha=>ha.elim (λea=>(by rw[ea];exact P.R.new (p:=P.w) hC)) λw=>w.elim λy hy=>P.F.ap _ (vq (jN _ (mem_lookup hy))),
  λa ha=>ha.elim (λea=>by rw[ea];exact hn.imp λo w=>w.elim λZ w=>w.elim λZ w=>w.1) λw=>w.elim λy hy=>(P.F.live _ (vq (jN _ (mem_lookup hy)))).imp λo x=>e _ _ x⟩
theorem qm.frame(c:qm σ.f loc cs)(P:Fp σ)(jN:∀p,p∈cl->P.env.cells.lookup p.1=some p.2)(xC:∀x,(x,NameKind.free)∈cs.names->∃c,(x,c)∈cl)(hC:P.s.heap.get? D=none)(e:aA P.s.heap h')(hn:h'.Ns D (λZ=>none)):FR (compEnvC cs cl D P.env) (loc++σ.f.ns) (replicate loc.length none++P.ρ) ⟨P.φ,h'⟩:=
 c.fr P (qm.fc P c.kind c.gen P.F.fc.glob P.F.fc.blt jN hC) (λx k h=>Nr (cs:=cs) (env:=P.env) h) jN xC hC e hn List.length_replicate λx hx=>by rw[B1];exact .none
end
section
variable{A:Around}{R:Result->Shared->Prop}{s:Shared}
theorem Nt{elt target iter:Expr}{ifs:List Expr}{scope:Scope}{pos:Pos}{it acc:Value}{env:Env}(I:Nat->Shared->Prop)
  (turn:∀n s,I n s->wpAny X.M A (pyNext it) (λr cj=>r=none/\R (.ok .next) cj) NE s\/wpAny X.M A (pyNext it) (λr cj=>aI r λv=>
    wpAny X.M A (letOwnedTupleGo target it v) (λZ B2=>wpAny X.M A (assign target env v) (λZ fO=>
     wpAny X.M A (forIn ifs true λc r=>if r=true then do let ok <-isTrue c env (eval c env);pure (ForInStep.yield ok) else pure (ForInStep.yield r)) (λok nP=>
      bz ok (wpAny X.M A (eval elt env) (λx GV=>wpAny X.M A (call (.builtin "list.append") [acc,x]) (λZ GW=>∃m,m<n/\I m GW) NE GV) NE nP) (∃m,m<n/\I m nP)) NE fO) NE B2) NE cj) NE s)
  (n:Nat) (h:I n s):codeAny X.M A (.compLoop (.ListComp elt [⟨target,iter,ifs,0⟩] scope pos) 0 it acc env) R s:=by
 refine codeAny_loop rfl I (λn s hI=>?_) n h
 refine(?_:wpAny _ A ((compTurn (.ListComp elt [⟨target,iter,ifs,0⟩] scope pos) 0 it acc env).onRaise (λx=>do noteFrame x env;theTreesLotGoes x)) _ _ s)
 refine wpAny_noted ?_
 rw[compTurn_list]
 refine aY (wpAny_standAt (aY ((turn n s hI).elim (λht=>gE ht (λr cj gG=>?_) λZ Z h'=>h'.elim) λht=>gE ht (λr cj gG=>?_) λZ Z h'=>h'.elim)))
 ·rw[gG.1];exact bS gG.2
 ·refine aI.k gG λv e gG=>?_
  subst e
  refine aY (gE gG (λZ B2 eF=>aY (gE eF (λZ fO jM=>aY (gE jM (λok nP tZ=>?_) λZ Z h'=>h'.elim)) λZ Z h'=>h'.elim)) λZ Z h'=>h'.elim)
  cases ok with
  |false=>exact bS ⟨rfl,tZ⟩
  |true=>exact aY (aY (gE tZ (λx GV Nu=>aY (gE Nu (λZ GW Nv=>bS (bS ⟨rfl,Nv⟩)) λZ Z h'=>h'.elim)) λZ Z h'=>h'.elim))
end
section
variable{σ:Lv}{io own:Addr->Prop}{St:Nat->Heap->Prop}{eH:Ws}{D:Addr}{i:Nat}{acc:List V}{ρ ck:bB}{H H':Hp}
structure Cx(P₀:Pt)(P:Fp σ.no)(D:Addr)(io:Addr->Prop)(St:Nat->Heap->Prop)(i:Nat)(acc:List V)(ρ:bB)(H:Hp)where
 φ:List Addr
 h:Heap
 tk:Nat
 ys:List Value
 k:Nat
 R:SR ⟨φ,h⟩ H
 F:FR P.env σ.f.ns ρ ⟨φ,h⟩
 fr:nN P.A ⟨φ,h⟩
 S:bZ iq P₀.w ⟨φ,h⟩
 kp:Kp P.w ⟨φ,h⟩
 st:St i h
 eR:∀a,io a->Ap ⟨φ,h⟩ a
 aD:Ap ⟨φ,h⟩ D
 hD:h.get? D=some (iP ys k)
 ra:bJ ⟨φ,h⟩ acc ys
structure Cn(P₀:Pt)(P:Fp σ.no)(D:Addr)(io:Addr->Prop):Prop where
 new:∀a,a=P.env.locals\/a=D\/io a->P₀.s.heap.get? a=none
 ne:∀a,m9 P.env a->a≠D/\¬io a
 D:¬io D
variable{P₀:Pt}{P:Fp σ.no}
noncomputable abbrev Cx.w(c:Cx P₀ P D io St i acc ρ H):Ws:=⟨c.φ,c.h⟩
noncomputable abbrev Cx.s(c:Cx P₀ P D io St i acc ρ H):Shared:=upd P.s c.h c.tk
noncomputable abbrev Cx.fp(c:Cx P₀ P D io St i acc ρ H):Fp σ.no:=⟨⟨P.A,c.φ,H,c.s,NE,P.rm,c.R,c.fr⟩,P.env,ρ,(·=P.env.locals),P.kd,c.F,P.rn,P.hf,P.calm,λZ Z h=>h.elim⟩
theorem bZ.xD{p q r:Ws}(S:bZ iq p q)(T:bZ own q r)(h:∀a,own a->p.h.get? a=none):bZ iq p r:=bZ.ow (S.nil.trans T) λa ha=>.inr (h a ha)
noncomputable abbrev Cx.step(c:Cx P₀ P D io St i acc ρ H)(z:Cn P₀ P D io)(it:∀i h h',St i h->(∀a,io a->∀o,h.get? a=some o->h'.get? a=some o)->St i h')(lv:∀i h,St i h->∀a,io a->∃o,h.get? a=some o/\fA o=false/\gU o=false)(N:Sx c.fp ck H'):Cx P₀ P D io St i acc ck H':=
 have hl:∀{a},m9 P.env a->a=D\/io a->False:=λha h=>h.elim (z.ne _ ha).1 (z.ne _ ha).2
 {φ:=N.φ,h:=N.h,tk:=N.tk,ys:=c.ys,k:=c.k,R:=N.R,F:=N.F,fr:=c.fr.kP N.S,S:=c.S.xD N.S λa ha=>z.new a (.inl ha),kp:=c.kp.trans N.S.kp
  st:=it _ _ _ c.st λa ha o e=>(lv _ _ c.st a ha).elim λo' x=>by rw[x.1] at e;cases e;exact N.S.same x.1 (c.eR a ha).1 (λho=>(hl (.inl ho) (.inr ha)).elim) x.2.1 x.2.2
  eR:=λa ha=>⟨(lv _ _ c.st a ha).elim λo e=>N.S.qe e.1 (c.eR a ha).1,(c.eR a ha).2⟩
  aD:=⟨N.S.qe c.hD c.aD.1,c.aD.2⟩
  hD:=N.S.same c.hD c.aD.1 (λho=>(hl (.inl ho) (.inl rfl)).elim) rfl rfl
  ra:=c.ra.mono N.S}
noncomputable abbrev Cx.item{h':Heap}(c:Cx P₀ P D io St i acc ρ H)(z:Cn P₀ P D io)(R:SR ⟨c.φ,h'⟩ H)(S:bZ io c.w ⟨c.φ,h'⟩)(st:St (i+1) h')(tk:Nat):Cx P₀ P D io St (i+1) acc ρ H:=
 {φ:=c.φ,h:=h',tk:=tk,ys:=c.ys,k:=c.k,R:=R,F:=c.F.mono S λa ha=>(z.ne a ha).2,fr:=c.fr.kP S,S:=c.S.xD S λa ha=>z.new a (.inr (.inr ha)),kp:=c.kp.trans S.kp,st:=st,eR:=c.eR,aD:=c.aD,hD:=S.same c.hD c.aD.1 (λho=>absurd ho z.D) rfl rfl,ra:=c.ra.mono S}
noncomputable abbrev Cx.aO{h':Heap}{v:V}{x:Value}{k:Nat}(c:Cx P₀ P D io St i acc ρ H)(z:Cn P₀ P D io)(it:∀i h h',St i h->(∀a,io a->∀o,h.get? a=some o->h'.get? a=some o)->St i h')(r:bl c.w v x)(hD:h'.get? D=some (iP (c.ys++[x]) k))(e:ExtBut D c.h h')(tk:Nat):Cx P₀ P D io St i (acc++[v]) ρ H:=
 have hc:Ch (·=D) c.h h':=.but e λo e'=>by rw[c.hD] at e';cases e';exact pZ rfl rfl
 {φ:=c.φ,h:=h',tk:=tk,ys:=c.ys++[x],k:=k,R:=c.R.ch (p:=c.w) (io:=(·=D)) (λa ha=>ha▸c.aD) hc,F:=c.F.ch (p:=c.w) hc λa ha e=>(z.ne a ha).1 e,fr:=c.fr.kP (bZ.ch (own:=(·=D)) (io:=(·=D)) (q:=c.w) .refl hc λb hb=>.inr ⟨hb,iP (c.ys++[x]) k,by rw[hb];exact hD,λo1 x hd=>by rw[hb,show c.w.h.get? D=_ from c.hD] at x;cases x;exact Bool.noConfusion hd⟩),S:=bZ.ch (q:=c.w) c.S hc λa ha=>.inl (z.new a (.inr (.inl ha))),kp:=c.kp.trans hc.kp
  st:=it _ _ _ c.st λa ha o e'=>e a o (λe=>z.D (e▸ha)) e',eR:=c.eR,aD:=c.aD,hD:=hD,ra:=(c.ra.append (.one r)).kp hc.kp}
theorem Nw{v:V}{x:Value}{Q:Value->Shared->Prop}(c:Cx P₀ P D io St i acc ρ H)(z:Cn P₀ P D io)(it:∀i h h',St i h->(∀a,io a->∀o,h.get? a=some o->h'.get? a=some o)->St i h')(r:bl c.w v x)(hz:acc.length<=sizeLine)(k:∀c':Cx P₀ P D io St i (acc++[v]) ρ H,Q .none c'.s):wpAny X.M P.A (call (.builtin "list.append") [.ref D,x]) Q NE c.s:=
 wpAny_list_append_plain (items:=c.ys.toArray) ⟨c.k,c.hD⟩ (λh6 Ny Nz=>Ny.elim λk6 NA=>k (c.aO z it r (k:=k6) (by rw[NA,List.push_toArray]) Nz.extBut c.tk)) (by rw[jX,<-c.ra.length];exact hz)
inductive GX(P₀:Pt)(P:Fp σ.no)(H₀:Hp)(ws:List Nat)(us:List V)(QQ:List V->Hp->Prop)(D:Addr)(io:Addr->Prop)(St:Nat->Heap->Prop)(t:dq)(cs:List E)(elt:E)(j:Nat)(s':Shared):Prop
 |mk (i:Nat) (ρ:bB) (H:Hp) (acc:List V) (c:Cx P₀ P D io St i acc ρ H) (e:s'=c.s) (ej:j=(us.drop i).length+1) (hw:fN ws H₀ H=true) (eW:acc.length+(us.drop i).length<=us.length) (p:iQ ws H₀ t (λρ H Q=>WT σ.no.c cs ρ H Q) (λρ H Q=>WE σ.no.c elt ρ H Q) (us.drop i) ρ H acc QQ):GX P₀ P H₀ ws us QQ D io St t cs elt j s'
theorem NB{elt:E}{t:dq}{cs:List E}{e tg iter:Expr}{ifs:List Expr}{sc':Scope}{pos:Pos}{H₀:Hp}{ws:List Nat}{us:List V}{QQ:List V->Hp->Prop}{I:Addr}{RR:Result->Shared->Prop}(z:Cn P₀ P D io)
  (hh:P.A.handled=none) (sN:tT P.env (·=P.env.locals) (iO t tg)) (ht:j0 σ.f t tg=true) (NC:ct σ.no elt e) (ND:fP σ.no cs ifs) (it:nc tg P.w H₀ ws us I io St) (c0:Cx P₀ P D io St 0 [] P.ρ P.H) (e0:c0.s=P.s) (hw:fN ws H₀ P.H=true) (fB:us.length<16000000)
  (p:iQ ws H₀ t (λρ H Q=>WT σ.no.c cs ρ H Q) (λρ H Q=>WE σ.no.c elt ρ H Q) us P.ρ P.H [] QQ)
  (fin:∀vs H φ h tk ρ ys k,QQ vs H->vs.length<16000000->SR ⟨φ,h⟩ H->bZ iq P₀.w ⟨φ,h⟩->FR P.env σ.f.ns ρ ⟨φ,h⟩->h.get? D=some (iP ys k)->bJ ⟨φ,h⟩ vs ys->D∉φ->RR (.ok .next) (upd P.s h tk)) :
  codeAny X.M P.A (.compLoop (.ListComp e [⟨tg,iter,ifs,0⟩] sc' pos) 0 (.ref I) (.ref D) P.env) RR P.s:=by
 refine Nt (GX P₀ P H₀ ws us QQ D io St t cs elt) (λj s' w=>w.casesOn λi ρ H acc c e ej hw eW p'=>?_) (us.length+1) ⟨0,P.ρ,P.H,[],c0,e0.symm,by rw[drop_zero],hw,by rw[drop_zero];exact iX (zero_add _),by rw[drop_zero];exact p⟩
 subst e ej
 cases hv:us[i]? with
 |none=>
  refine .inl (it.done c.fp.toPt i _ hh c.kp hw c.st c.eR hv λh2 kQ ch=>⟨rfl,?_⟩)
  rw[drop_eq_nil_iff.mpr (qQ.mp hv)] at p' eW
  exact fin acc H c.φ h2 kQ ρ c.ys c.k p' (bM eW fB) (c.R.ch (p:=c.w) c.eR ch) (bZ.ch (q:=c.w) c.S ch λa ha=>.inl (z.new a (.inr (.inr ha)))) (c.F.ch (p:=c.w) ch λa ha=>(z.ne a ha).2) (ch _ _ c.hD λho=>absurd ho z.D) (c.ra.kp ch.kp) c.aD.1
 |some v=>
  have hd:=drop_cons hv
  rw[hd] at p' eW
  refine aI.k p' λxA ha p'=>?_
  refine .inr (it.item c.fp.toPt i v _ hh c.kp hw c.st c.eR hv λh2 kQ y R2 S2 nS r2=>?_)
  refine vA t tg (c.item z R2 S2 nS kQ).fp v y xA _ ht sN r2 ha λN3=>?_
  have lt:(us.drop (i+1)).length+1<(us.drop i).length+1:=by rw[hd];exact lt_succ_self _
  exact ND.zm ((c.item z R2 S2 nS kQ).step z it.keep it.live N3).fp _ _ p' (λb H4 p4 N4=>by
   cases b with
   |false=>exact⟨_,lt,i+1,xA,H4,acc,((c.item z R2 S2 nS kQ).step z it.keep it.live N3).step z it.keep it.live N4.sx,rfl,rfl,p4.1,pP eW,p4.2⟩
   |true=>
    refine NC (((c.item z R2 S2 nS kQ).step z it.keep it.live N3).step z it.keep it.live N4.sx).fp _ _ p4 (λy5 H5 p5 N5 x5 r5=>?_)
    exact Nw ((((c.item z R2 S2 nS kQ).step z it.keep it.live N3).step z it.keep it.live N4.sx).step z it.keep it.live N5.sx) z it.keep r5 (aR (cO (bM (aR (fM _ _) eW) fB)) (by decide)) λc'=>⟨_,lt,i+1,xA,H5,acc++[y5],c',rfl,rfl,p5.1,by rw[bX,add_assoc,add_comm [y5].length];exact eW,p5.2⟩)
end
section
variable{σ:Lv}{dP:Scope}{loc:List Str}{elt:E}{t:dq}{it:It}{cs:List E}{e tg iter:Expr}{ifs:List Expr}
structure xE(σ:Lv)(dP:Scope)(loc:List Str)(elt:E)(t:dq)(it:It)(cs:List E)(e tg iter:Expr)(ifs:List Expr):Prop where
 hh:σ.f.hd=false
 c:qm σ.f loc dP
 hl:iO t tg=loc
 ht:j0 ⟨dP,loc++σ.f.ns,false⟩ t tg=true
 hg:vg it tg=true
 hi:lM σ it iter
 he:ct ⟨σ.n,σ.m,⟨dP,loc++σ.f.ns,false⟩,λZ Z=>False⟩ elt e
 hs:fP ⟨σ.n,σ.m,⟨dP,loc++σ.f.ns,false⟩,λZ Z=>False⟩ cs ifs
theorem NF{pos:Pos}{QQ:List V->Hp->Prop}{H1:Hp}{q:List V×List Nat}{I D B:Addr}{io:Addr->Prop}{St:Nat->Heap->Prop}{jM:Heap}{cl:List (Str×Addr)}{RR:Result->Shared->Prop}(k:xE σ dP loc elt t it cs e tg iter ifs)(P:Fp σ)(N:Nx P.toPt H1)
  (jN:∀p,p∈cl->P.env.cells.lookup p.1=some p.2) (xC:∀x,(x,NameKind.free)∈dP.names->∃c,(x,c)∈cl) (nR:nc tg N.w H1 q.2 q.1 I io St) (vH:St 0 N.h) (eR:∀a,io a->Ap N.w a/\P.s.heap.get? a=none)
  (hD:N.h.get? D=none) (hB:N.h.get? B=none) (sO:B≠D) (old:aA N.h jM) (gD:jM.get? D=some (iP [] 0)) (mu:jM.Ns B λZ=>none) (hz:oM q.1=true)
  (p1:iQ q.2 H1 t (λρ H Q=>WT σ.c.no cs ρ H Q) (λρ H Q=>WE σ.c.no elt ρ H Q) q.1 (replicate loc.length none++P.ρ) H1 [] QQ)
  (fin:∀vs H φ h tk ys j m,QQ vs H->vs.length<16000000->SR ⟨φ,h⟩ H->bZ iq P.w ⟨φ,h⟩->h.get? D=some (iP ys j)->bJ ⟨φ,h⟩ vs ys->D∉φ->Ap ⟨φ,h⟩ B->h.Ns B m->RR (.ok .next) (upd P.s h tk)) :
  codeAny X.M P.A (.compStart (.ListComp e [⟨tg,iter,ifs,0⟩] dP pos) 0 (.ref I) (.ref D) (compEnvC dP cl B P.env)) RR (upd P.s jM N.tk):=by
 have lv:∀{a},io a->N.h.get? a=none->False:=λha hn=>(nR.live _ _ vH _ ha).elim λo e=>bV hn e.1
 have nS:=nR.keep _ _ _ vH λa Z o e=>old a o e
 have F:=k.c.frame (cl:=cl) (P.to N) jN xC hB old mu
 have S:bZ iq P.w ⟨N.φ,jM⟩:=bZ.ext (q:=N.w) N.S old
 have R:=SR.ext (p:=N.w) N.R old
 have aD:Ap ⟨N.φ,jM⟩ D:=N.R.new (p:=N.w) hD
 have loop:=NB (iter:=iter) (sc':=dP) (pos:=pos) (P₀:=P.toPt) (σ:=⟨σ.n,σ.m,⟨dP,loc++σ.f.ns,false⟩,λZ Z=>False⟩) (P:=⟨⟨P.A,N.φ,H1,upd P.s jM N.tk,NE,P.rm,R,P.fr.kP S⟩,compEnvC dP cl B P.env,replicate loc.length none++P.ρ,(·=B),Nq,F,P.rn,P.hf,λZ=>P.calm k.hh,λZ Z h=>h.elim⟩) (D:=D) (RR:=RR)
  ⟨λa ha=>ha.elim (λe=>N.S.dead (e▸hB)) λha=>ha.elim (λe=>N.S.dead (e▸hD)) λha=>(eR a ha).2,λa ha=>ha.elim (λe=>⟨λe'=>sO (e.symm.trans e'),λh=>lv h (e▸hB)⟩) λw=>w.elim λy hy=>(P.F.live _ (vq (jN _ (mem_lookup hy)))).elim λo x=>⟨λe=>bV (N.S.dead (e▸hD)) x,λh=>bV (eR _ h).2 x⟩,λh=>lv h hD⟩
  (P.calm k.hh) (λx hx=>.inl ⟨lookup_relabel_local (k.c.Nn x (k.hl▸hx)),rfl⟩) k.ht k.he k.hs (nR.from (bZ.ext (own:=iq) (p:=N.w) (q:=N.w) .refl old).kp) ⟨N.φ,jM,N.tk,[],0,R,F,P.fr.kP S,S,.refl,nS,λa ha=>(eR a ha).1,aD,gD,.nil⟩ rfl (Gy _ _) (cf hz) p1
  λvs H φ h tk ρ ys j q hl R S F hD r hn=>F.loc.elim λm hm=>fin vs H φ h tk ys j m q hl R S hD r hn (F.ap _ (.inl rfl)) hm.1
 exact codeAny_compStart_list loop (nR.self P.A _ _ _ nS loop)
theorem GY{pos p0:Pos}{use:Option (Value->Sem Unit)}{Q:Value->Shared->Prop}{QQ:List V->Hp->Prop}(k:xE σ dP loc elt t it cs e tg iter ifs)(P:Fp σ)
  (p:rq σ.c it P.ρ P.H λp H=>gT (oM p.1) (iQ p.2 H t (λρ H Q=>WT σ.c.no cs ρ H Q) (λρ H Q=>WE σ.c.no elt ρ H Q) p.1 (replicate loc.length none++P.ρ) H [] QQ))
  (fin:∀vs H φ h tk D B ys j m,QQ vs H->vs.length<16000000->SR ⟨φ,h⟩ H->bZ iq P.w ⟨φ,h⟩->h.get? D=some (iP ys j)->bJ ⟨φ,h⟩ vs ys->D∉φ->P.s.heap.get? D=none->Ap ⟨φ,h⟩ B->P.s.heap.get? B=none->B≠D->h.Ns B m->compPost X.M P.A P.Ex use Q (.ref D) B (.ok .next) (upd P.s h tk)) :
  wpAny X.M P.A (comprehension (.ListComp e [⟨tg,iter,ifs,0⟩] dP pos) dP P.env p0 (newList []) false (eval iter P.env) use) Q P.Ex P.s:=by
 refine B0 (env:=P.env) dP.names [] (λZ h=>nomatch h) (λq hq hk=>?_) λcl jN NG Z NH=>?_
 ·have:=k.c.all q hq
  rw[hk] at this
  exact(P.F.tO _ this.1 (GR P this.2.2)).imp λc w=>w.elim λZ w=>w.1
 refine wpAny_comprehension_free (cl:=cl) rfl (k.hi.1 P.env) (by unfold closureFor;rw[bind_pure];exact jN) k.c.kind (λx hx hl=>GP k.c.nodup (by rw[<-hl];exact hx)) (k.hi.2 P tg _ _ k.hg p (λq H1 p1 N I io St nR vH eR=>gT.k p1 λhz p1=>?_))
 refine pQ (wpAny_newFunctionEnv (λx hx hk=>by have:=k.c.all x hx;rw[hk] at this;exact this) (λy hy=>nomatch hy) (λjM mu B3=>?_) k.c.kind)
 have sz:(N.h.push {cls:=.type "list",data:=.seq #[]}).objs.size=N.h.objs.size+1:=Heap.size_push _ _
 have old2:aA (N.h.push {cls:=.type "list",data:=.seq #[]}) jM:=λa o e=>B3.extBut a o (eO (nB e)) (mQ _ e)
 have hD:=i5 N.h (cg N.h.objs.size)
 have hB:N.h.get? (N.h.push {cls:=.type "list",data:=.seq #[]}).objs.size=none:=i5 N.h (by rw[sz];exact le_succ _)
 have sO:(N.h.push {cls:=.type "list",data:=.seq #[]}).objs.size≠N.h.objs.size:=by rw[sz];exact Nat.succ_ne_self _
 exact NF (D:=N.h.objs.size) k P N NG NH nR vH eR hD hB sO (λa o e=>old2 a o (mQ _ e)) (old2 _ _ (il _ rfl)) mu hz p1 λvs H φ h tk ys j m q hl R S hg r hn aB hm=>fin vs H φ h tk _ _ ys j m q hl R S hg r hn (N.S.dead hD) aB (N.S.dead hB) sO hm
noncomputable abbrev Pt.B4{P:Pt}{H:Hp}{φ:List Addr}{h:Heap}{D:Addr}{ys:List Value}{j:Nat}{vs:List V}(R:SR ⟨φ,h⟩ H)(S:bZ iq P.w ⟨φ,h⟩)(hg:h.get? D=some (iP ys j))(r:bJ ⟨φ,h⟩ vs ys)(hn:D∉φ)(hD:P.s.heap.get? D=none)(hl:vs.length<16000000)(tk:Nat):Nx P (H++[.list vs]):=
 ⟨φ++[D],h,tk,SR.adopt (p:=⟨φ,h⟩) R ⟨hn,(P.R.new (p:=P.w) hD).2⟩ (λo x=>by rw[hg] at x;cases x;exact pZ rfl rfl) (.list hg r (cO hl)),bZ.adopt (q:=⟨φ,h⟩) S hD⟩
theorem zB{H:Hp}{φ:List Addr}{h:Heap}{D:Addr}(R:SR ⟨φ,h⟩ H):bl ⟨φ++[D],h⟩ (.ref H.length) (.ref D):=.ref (by rw[<-R.len,qN (cg _),sub_self];rfl)
theorem GZ{h h':Heap}{B:Addr}{m:Str->Option Value}(hm:h.Ns B m)(e:SameBut B h h'):Ch (·=B) h h':=.but e.extBut λo x=>hm.elim λo' w=>w.elim λZ w=>w.elim λZ w=>by rw[w.1] at x;cases x;exact xd w.2.1
theorem G0{pos:Pos}(k:xE σ dP loc elt t it cs e tg iter ifs):ct σ (.comp loc.length elt t it cs) (.ListComp e [⟨tg,iter,ifs,0⟩] dP pos):=λP post Q p kq=>by
 rw[eval_ListComp]
 exact GY k P p λvs H φ h tk D B ys j m q hl R S hg r hn hD aB hB sO hm=>⟨m,hm,λh3 NI=>
  have c:Ch (·=B) h h3:=GZ hm NI
  have R3:=SR.ch (p:=⟨φ,h⟩) (io:=(·=B)) R (λa ha=>ha▸aB) c
  kq _ _ q (Pt.B4 R3 (bZ.ch (q:=⟨φ,h⟩) S c λa ha=>.inl (ha▸hB)) (c _ _ hg λe=>absurd e.symm sO) (r.kp c.kp) hn hD hl tk) _ (zB R3)⟩
theorem NJ{u:dq}{y:Str}{py cpos pos:Pos}(k:xE σ dP loc elt t it cs e tg iter ifs)(hu:j0 σ.f u (.Name y py)=true):SS σ (.aN u (.comp loc.length elt t it cs)) (.Assign [.Name y py] (.ListComp e [⟨tg,iter,ifs,0⟩] dP cpos) pos):=λP K Q ho p kq=>by
 have vC:∃b,swapsWith (.ListComp e [⟨tg,iter,ifs,0⟩] dP cpos) (some (.Name y py)) pos.line P.env=pure b:=⟨_,rfl⟩
 obtain⟨b,vC⟩:=vC
 cases b with
 |false=>exact Go vC hu rfl (G0 k) ho p kq
 |true=>
  rw[exec_Assign_Name_used _ _ _ _ vC]
  refine aY (wpAny_standAt (aY ?_))
  refine(?_:wpAny _ P.A (do let _ <-comprehension (.ListComp e [⟨tg,iter,ifs,0⟩] dP cpos) dP P.env _ (newList []) false (eval iter P.env) (some (assign (.Name y py) P.env))) _ _ P.s)
  refine aY (gE (Q:=λZ s'=>Q .next s') ?_ (λZ s' hq=>bS (bS hq)) λZ Z e=>e)
  exact GY k P p λvs H φ h tk D B ys j m q hl R S hg r hn hD aB hB sO hm=>aI.k q λck ha q=>by
   refine vA u (.Name y py) (P.to (Pt.B4 R S hg r hn hD hl tk)) (.ref H.length) (.ref D) ck _ hu (λx hx=>ho.1 x (xt u _ hu x hx)) (zB R) ha λN=>?_
   have aB':B∉φ++[D]:=λhm=>(cF.mp hm).elim aB.1 λh=>sO (cI.mp h)
   have vD:N.h.Ns B m:=F1 hm λo e=>N.S.keep _ _ e aB' λh=>(P.F.live _ (ho.2 _ h)).elim λo e=>bV hB e
   have aB4:Ap N.w B:=⟨hm.elim λo w=>w.elim λZ w=>w.elim λZ w=>N.S.qe w.1 aB',aB.2⟩
   exact⟨m,vD,λh5 NK=>(Sx.ch ((Nx.sx (P:=P) (Pt.B4 R S hg r hn hD hl tk)).then N) (GZ vD NK) (λa ha=>ha▸aB4) (λa ha=>ha▸hB) N.tk).elim λN' e=>by
    have:=kq.next _ _ q N'
    rw[show N'.s=upd P.s N'.h N'.tk from rfl,e.2.1,e.2.2] at this
    exact this⟩
end
theorem NL(lo hi:Option Int)(n:Nat):sliceBounds lo hi none n=(((w5 n 0 lo:Nat):Int),((w5 n n hi:Nat):Int),1):=by
 have key:∀(k:Option Int) (d:Nat),(match k with|none=>(d:Int)|some i=>if(1:Int)>0 then max 0 (min (if i<0 then i+n else i) n) else max (-1) (min (if i<0 then i+n else i) ((n:Int) - 1)))=((w5 n d k:Nat):Int):=λk d=>by
  cases k with
  |none=>rfl
  |some k=>exact(Int.toNat_of_nonneg (Int.le_max_left _ _)).symm
 exact Prod.ext (key lo 0) (Prod.ext (key hi n) rfl)
theorem NM(xs:List Value)(lo hi:Option Int):slicePick xs.toArray lo hi none=(j1 xs lo hi).toArray:=by
 unfold slicePick j1
 rw[jX,NL]
 refine(?_:((sliceRange _ _ 1).filterMap _).toArray=_)
 rw[sliceRange_one,pick_run,List.drop_take]
section
variable{σ:Lv}{A:Around}{s:Shared}
theorem bJ.slice{p:Ws}{vs:List V}{xs:List Value}(r:bJ p vs xs)(lo hi:Option Int):bJ p (j1 vs lo hi) (j1 xs lo hi):=by
 unfold j1
 rw[r.length]
 exact(r.take _).drop _
theorem NN{t sl:Addr}{xs:List Value}{b:Nat}{u:Tok}{Q Ex:Value->Shared->Prop}(ht:IsTup s.heap t xs.toArray)(hs:s.heap.IsSliceOf sl .none (.int b u) .none)(hz:xs.length<=sizeLine)
  (h:b<xs.length->Q (.ref s.heap.objs.size) {s with heap:=s.heap.push (mX (xs.take b) 0)}) (h':xs.length<=b->Q (.ref t) s):wpAny X.M A (getItem (.ref t) (.ref sl)) Q Ex s:=by
 have lL:sizeOk (.seq (xs.take b).toArray):=by
  refine(?_:(xs.take b).toArray.size<=sizeLine)
  rw[jX,length_take];exact aR (min_le_right _ _) hz
 obtain⟨os,zC,vI,nT⟩:=id hs
 have NO:s.TypeIs (.ref sl) "slice":=⟨os,zC,vI⟩
 unfold getItem
 try with_reducible refine wpAny_holding ?_
 first|refine aY (bS ?_)|skip
 refine aY (wpAny_sequenceKey ht.typeIs (by decide) (aY (wpAny_callSpecial?_slot (name:=Str.ofString "__getitem__") ht.typeIs slot_tuple_getitem
  (wpAny_call_entry slot_tuple_getitem ht.typeIs entry_tuple_getitem ?_ (args_tuple_getitem _ _)))))
 refine(?_:wpAny _ _ (Builtin.Tuple.tupleItemsOf (.ref t) >>= _) _ _ s)
 refine aY (tupleItemsOf_ ht (aY (wpAny_typeOf NO ?_)))
 rw[bL (by decide)]
 refine aY ?_
 unfold Builtin.Slice.sliceApplied Builtin.Slice.sliceFields
 refine aY (aY (wpAny_field zC nT (x:=.none) rfl (aY (wpAny_field zC nT (x:=.int b u) rfl (aY (wpAny_field zC nT (x:=.none) rfl (bS (aY (slicePart_none ?_)))))))))
 refine(?_:wpAny _ _ (if((1:Int)==0)=true then _ else _) _ _ s)
 rw[bG (by decide)]
 refine aY (slicePart_none (aY (slicePart_int (aY (bS ?_)))))
 obtain⟨m,hm⟩:∃m,m=min b xs.length:=⟨_,rfl⟩
 have e1:Builtin.Slice.sliceAdjust none (some (b:Int)) 1 ((xs.toArray.size:Nat):Int)=(0,(m:Int)):=by
  refine(?_:((0:Int),(if(b:Int)<0 then max ((b:Int)+(xs.toArray.size:Nat)) 0 else min (b:Int) (xs.toArray.size:Nat)))=_)
  rw[jX,bG (Int.not_lt.mpr (kJ b))]
  exact Prod.ext rfl (show min (b:Int) xs.length=m from(L1 _ _).trans (by rw[hm]))
 have e2:Builtin.Slice.slicePlaces 0 (m:Int) 1=m:=by
  refine(?_:((if(0:Int)<m then((m:Int) - 0 - 1)/1+1 else 0):Int).toNat=m)
  rw[Int.ediv_one];split<;>lia
 refine(?_:wpAny _ _ (match Builtin.Slice.sliceAdjust none (some (b:Int)) 1 ((xs.toArray.size:Nat):Int) with|(lo,hi)=>pure (lo,(1:Int),Builtin.Slice.slicePlaces lo hi 1)) _ _ s)
 rw[e1]
 refine(?_:wpAny _ _ (pure ((0:Int),(1:Int),Builtin.Slice.slicePlaces (0:Int) (m:Int) 1)) _ _ s)
 rw[e2]
 refine bS ?_
 have NP:((List.range m).filterMap λ(k:Nat)=>xs.toArray[((0:Int)+(k:Int)*1).toNat]?).toArray=(xs.take m).toArray:=by
  have e:(λ(k:Nat)=>xs.toArray[((0:Int)+(k:Int)*1).toNat]?)=(λx=>xs.toArray[x]?) ∘ λk=>0+k:=funext λk=>by
   refine(?_:xs.toArray[((0:Int)+(k:Int)*1).toNat]?=xs.toArray[0+k]?)
   rw[show((0:Int)+(k:Int)*1).toNat=0+k by rw[Int.mul_one,Int.zero_add,zero_add];rfl]
  rw[e,<-List.filterMap_map,pick_run]
  rfl
 refine(?_:wpAny _ _ (if((0:Int)==0&&(1:Int)==1&&m==xs.toArray.size)=true then _ else _) _ _ s)
 by_cases hb:b<xs.length
 ·have NQ:m=b:=hm.trans (min_eq_left (cO hb))
  subst NQ
  rw[bG λe=>absurd (eq_of_beq (eJ.mp e).2) (by rw[jX];exact eO hb),NP]
  have h:=h hb
  first
   |exact aY (m:=Builtin.Tuple.tupleExact _) (pQ (bS ⟨_,rfl,bS h⟩) lL)
   |exact aY (m:=Builtin.Tuple.tupleExact _) (pQ (aY (bS (bS ⟨_,rfl,bS h⟩))) lL)
   |exact aY (aY (m:=Builtin.Tuple.tupleExact _) (pQ (bS (bS ⟨_,rfl,bS h⟩)) lL))
   |exact aY (aY (m:=Builtin.Tuple.tupleExact _) (pQ (bS ⟨_,rfl,bS h⟩) lL))
 ·have h:=h' (Nat.le_of_not_lt hb)
  have hc:((0:Int)==0&&(1:Int)==1&&m==xs.toArray.size)=true:=by
   rw[jX,show m=xs.length from hm.trans (Nat.min_eq_right (not_lt.mp hb)),gr,gr,gr];rfl
  rw[bL hc]
  unfold Builtin.Tuple.tupleIsExact
  refine aY (aY (wpAny_typeOf ht.typeIs (bS ?_)))
  rw[bL (by decide)]
  exact aY (wpAny_rule (bS ⟨_,rfl,bS h⟩))
def ud(σ:Lv)(c:Option E)(e:Option Expr):Prop:=
 ∀(P:Fp σ) (post:PQ) (Q:Value->Shared->Prop),WO σ.c c P.ρ P.H post->Kn P.toPt post Q->wpAny X.M P.A (evalPart e P.env) Q P.Ex P.s
theorem NR:ud σ none none:=λP post Q p k=>by rw[evalPart_none];exact bS (k.now p .none P.s.toks)
theorem NS{c:E}{e:Expr}(h:ct σ c e):ud σ (some c) (some e):=λP post Q p k=>by rw[evalPart_some];exact h P post Q p k
theorem G6{v:V}{x:Value}{k:Option Int}{p:Ws}(r:bl p v x)(e:w6 v=some k):IsPart x k:=by
 cases v with
 |none=>cases e;exact r.inv (λx=>IsPart x _) .none
 |int i=>exact tQ e (λk=>IsPart x k) λZ=>r.inv (λx=>IsPart x _) λt=>.int _ _
 |_=>cases e
theorem bJ.NT{vs:List V}{k:Nat}(hz:vs.length<=16000000):(vs.take k).length<=16000000:=by rw[length_take];exact aR (min_le_right _ _) hz
theorem G7{P:Pt}{us:List V}{xs:List Value}{ad sa:Addr}{v sl:Expr}{z w:Value}{l h:Option Int}{post:PQ}{Q:Value->Shared->Prop}{ops:Value->Value->List Value}(hs:∀o i,subscripted sl false o i=operate (ops o i) (getItem o i))(q:P.s.heap.IsSliceOf sa z w .none)(q1:IsPart z l)(q2:IsPart w h)(hL:P.s.heap.IsList ad xs.toArray)(r:bJ P.w us xs)(hz:us.length<=16000000)(p:tL (j1 us l h) P.H post)(k:Kn P post Q):
  wpAny X.M P.A (subscriptTail v sl (.ref ad) (.ref sa)) Q P.Ex P.s:=gT.k p λNU p=>
 tail_any hL.typeIs PySem.slot_list_getitem.lookup (wpAny_getItem_list_slice hL q q1 q2 .none (λe=>nomatch e) (by
  rw[NM]
  exact Kn.list k (.push _) _ (i5 _ (le_refl _)) (Heap.get?_push_size _ rfl) (r.slice l h) (Nat.le_of_lt (of_decide_eq_true NU)) p P.s.toks) (by rw[size_toArray,<-r.length];unfold sizeLine;lia)) (hs _ _)
theorem NV{P:Pt}{us:List V}{sa:Addr}{v sl:Expr}{y z w:Value}{l h:Option Int}{post:PQ}{Q:Value->Shared->Prop}{ops:Value->Value->List Value}(hs:∀o i,subscripted sl false o i=operate (ops o i) (getItem o i))(q:P.s.heap.IsSliceOf sa z w .none)(q1:IsPart z l)(q2:IsPart w h)(r:bl P.w (.aC us) y)(p:aI h λk=>gT (l.isNone&&decide (0<=k)) (post (.aC (us.take k.toNat)) P.H))(k:Kn P post Q):
  wpAny X.M P.A (subscriptTail v sl y (.ref sa)) Q P.Ex P.s:=by
 refine aI.k p λj ej p1=>gT.k p1 λhj p2=>aV hj λhl hj=>?_
 have NW:=cf hj
 clear p p1 hj
 subst ej
 obtain⟨m,rfl⟩:=Int.eq_ofNat_of_zero_le NW
 cases q1 with
 |int i t=>cases hl
 |none=>
  cases q2 with
  |int i t=>
   exact r.inv (λy=>wpAny X.M P.A (subscriptTail v sl y (.ref sa)) Q P.Ex P.s) λa n' xs h1 h2 h3 h4=>
    tail_any (xm h1).typeIs slot_tuple_getitem.lookup (NN (xm h1) q (by rw[<-h2.length];unfold sizeLine;lia)
     (λZ=>k _ _ p2 (P.ext (.push _) P.s.toks) _ (.aC (n:=0) (il _ rfl) ((h2.take m).mono (P.ext (.push _) P.s.toks).S) (bJ.NT h3) (P.R.new (p:=P.w) (i5 _ (cg _))).1)) λhb=>by
      rw[show us.take ((m:Nat):Int).toNat=us from List.take_of_length_le (by rw[h2.length];exact hb)] at p2
      exact k.now p2 (.aC (n:=n') h1 h2 h3 h4) P.s.toks) (hs _ _)
theorem NX{P:Pt}{a lv hv:V}{sa:Addr}{v sl:Expr}{y z w:Value}{post:PQ}{Q:Value->Shared->Prop}(G:Good X){ops:Value->Value->List Value}(hs:∀o i,subscripted sl false o i=operate (ops o i) (getItem o i))(q:P.s.heap.IsSliceOf sa z w .none)(ra:bl P.w a y)(rl:bl P.w lv z)(rh:bl P.w hv w)(p:w8 a lv hv P.H post)(k:Kn P post Q):
  wpAny X.M P.A (subscriptTail v sl y (.ref sa)) Q P.Ex P.s:=by
 refine aI.k p λl el p=>aI.k p λh eh p=>?_
 have q1:=G6 rl el
 have q2:=G6 rh eh
 cases a with
 |aC us=>exact NV hs q q1 q2 ra p k
 |ref li=>exact aI.k p λus hi p=>bH ra hi (λy=>wpAny X.M P.A (subscriptTail v sl y (.ref sa)) Q P.Ex P.s) λZ a xs n' Z Z Z h1 h2 h3=>G7 hs q q1 q2 (lK h1) h2 h3 p k
 |fu=>exact aI.k p λus hi p=>items G ra hi (λy=>wpAny X.M P.A (subscriptTail v sl y (.ref sa)) Q P.Ex P.s) (λe=>nomatch e) λa xs h1 h2 h3=>G7 hs q q1 q2 h1 h2 h3 p k
 |_=>exact p.elim
theorem NY{a:E}{lo hi:Option E}{v:Expr}{l u:Option Expr}{p0 pos:Pos}(G:Good X)(ha:ct σ a v)(hl:ud σ lo l)(hu:ud σ hi u):ct σ (.iN a lo hi) (.Subscript v (.Slice l u none p0) pos):=λP post Q p k=>
 Subscript_ (ha P _ _ p (λx H1 p1 N y r=>wpAny_Slice (hl (P.to N) _ _ p1 (λlv H2 p2 N2 z r2=>hu ((P.to N).to N2) _ _ p2 (λhv H3 p3 N3 w r3=>by
  rw[evalPart_none]
  exact bS (NX (P:=(N3.pt.ext (.push _) N3.tk).pt) G (λZ Z=>rfl) (Heap.IsSliceOf.new N3.h z w .none) ((r.mono (N2.then N3).S).mono (N3.pt.ext (.push _) N3.tk).S) ((r2.mono N3.S).mono (N3.pt.ext (.push _) N3.tk).S) (r3.mono (N3.pt.ext (.push _) N3.tk).S) p3 (((k.nx N).nx (N2.then N3)).nx _)))))))
end
section
variable{σ:Lv}{Q:Value->Shared->Prop}{P:Pt}{post:PQ}{v:V}{x:Value}
theorem G8{o:Expr}(h:tH o=true)(x:Str)(env:Env)(w:Sem Value):attributeBase o x env w=w:=by
 cases o<;>first|rfl|exact absurd rfl (cf h)
theorem G9{es:List Expr}{cs:List E}{pos:Pos}(h:fP σ cs es)(hl:es.length<20)(env:Env):((backTo pos (starEach es env)).all (λx=>!x.1)&&(backToKw pos (keywordEach [] env)).all (λx=>x.1.isSome)
   && decide (es.length+([]:List Keyword).length+(if([]:List Keyword).isEmpty then 0 else 1)<30))=true:=by
 have h2:(backTo pos (starEach es env)).all (λx=>!x.1)=true:=iA.mpr λx hx=>by
  have:=any_eq_false.mp (h.plain env pos) x hx
  cases e:x.1
  ·rfl
  ·exact absurd e this
 rw[h2]
 exact c9 (show es.length+0+0<30 by lia)
structure xF(m:Me)(id:String):Prop where
 slot:Slot "list" (vb m).1 id
 ty:typeOf (.builtin id)=pure (.type "method_descriptor")
 run:∀(P:Pt) (v:V) (x:Value) (us:List V) (zs:List Value) (post:PQ) (Q:Value->Shared->Prop),bl P.w v x->bJ P.w us zs->ro m v us P.H post->Kn P post Q->wpAny X.M P.A (call (.builtin id) (x::zs)) Q P.Ex P.s
theorem NZ(P:Pt)(v:V)(x:Value)(r:bl P.w v x)(h:(eQ P.H v).isSome=true):P.s.TypeIs x "list"/\∀a,x=.ref a->∃ob,P.s.heap.get? a=some ob/\ob.dict=none:=
 (isSome_iff_exists.mp h).elim λvs e=>bH r e (λx=>P.s.TypeIs x "list"/\∀a,x=.ref a->∃ob,P.s.heap.get? a=some ob/\ob.dict=none) λZ a xs m Z Z Z h1 Z Z=>⟨(lK h1).typeIs,λb e=>Value.ref.inj e▸⟨_,h1,rfl⟩⟩
theorem N6{m:Me}{id:String}{a:E}{o:Expr}{cs:List E}{es:List Expr}{ap pos:Pos}(M:xF m id)(ho:tH o=true)(xG:(ap.endLine==pos.line)=true)(hl:es.length=(vb m).2)(ha:ct σ a o)(h:fP σ cs es):ct σ (.d8 m a cs) (.Call (.Attribute o (vb m).1 ap) es [] pos):=λP post Q p k=>
 wpAny_Call_method (G8 ho _ P.env _) (G9 h (by rw[hl];cases m<;>decide) P.env) xG PySem.F.plainAttrs_list M.slot M.ty (ha P _ _ p (λv H1 p1 N x r=>gT.k p1 λhk p1=>
  have q:=NZ N.pt v x r hk
  ⟨q.1,q.2,Calls.callWith_builtin (h.plain P.env pos) (rD (h.plain P.env pos) (h.qh (P.to N) _ _ pos p1 (λus H2 p2 Z N2 zs r2=>M.run N2.pt v x us zs post Q (r.mono N2.S) r2 p2 ((k.nx N).nx N2))))⟩))
theorem Kn.yY{l:Nat}{a:Addr}{vs:List V}{ys:List Value}{j:Nat}{h':Heap}(k:Kn P post Q)(ha:P.φ[l]?=some a)(he:ExtBut a P.s.heap h')(hg:h'.get? a=some (iP ys j))(r:bJ P.w vs ys)(hz:vs.length<=16000000)(p:yY (.ref l) vs P.H post)(tk:Nat):Q .none (upd P.s h' tk):=
 k _ _ p (P.set ha he (.list hg (r.kp (P.vr ha he)) hz) tk) _ .none
theorem N7:xF .append "list.append" where
 slot:=PySem.F.slot_list_append
 ty:=PySem.F.type_list_append
 run:=λP v x us zs post Q r rz p k=>aI.k p λxs e p=>w1.k p (λus=>bJ P.w us zs->_) (λu p rz=>gT.k p λhz p=>rz.k1 (λzs=>wpAny X.M P.A (call (.builtin "list.append") (x::zs)) Q P.Ex P.s) λz rz=>bH r e (λx=>wpAny X.M P.A (call (.builtin "list.append") [x,z]) Q P.Ex P.s) λl a ys m ev Z ha h1 h2 h3=>
  wpAny_list_append_plain (items:=ys.toArray) ⟨m,h1⟩ (λh' hp hs=>hp.elim λj hj=>k.yY (l:=l) (vs:=xs++[u]) ha hs.extBut (by rw[hj,List.push_toArray]) (h2.append (.one rz)) (by rw[length_append];exact of_decide_eq_true hz) (ev▸p) P.s.toks) (by rw[size_toArray,<-h2.length];unfold sizeLine;lia)) rz
noncomputable def zD(b:Bool):Value->Bool
 |.bool c=>c==b
 |_=>false
theorem Ha{b:Bool}{y:Value}(h:∃c,y=.bool c):MeetsSeq.EqGives y (.bool b) (zD b y):=λZ Z Z Z Z Z hq=>by
 obtain⟨c,rfl⟩:=h
 exact SeqAt.EqAt.bool_bool _ _ _ _ _ _ hq
theorem bJ.bools{p:Ws}{vs:List V}{xs:List Value}(r:bJ p vs xs):∀{bs:List Bool},kM vs=some bs->xs=bs.map .bool:=
 bJ.ind (M:=λvs xs=>∀{bs:List Bool},kM vs=some bs->xs=bs.map .bool) (λe=>by cases e;rfl) (λ{v x vs xs} a _ m bs e=>hZ e λb e1 e=>gW (λbs=>x::xs=bs.map .bool) e λbs e2=>boolOf.k e1 (λv=>bl p v x->_) (λr=>r.inv (λx=>x::xs=(b::bs).map .bool) (bU (Value.bool b::·) (m e2))) a) r
theorem Hc{bs:List Bool}(y:Value)(h:y∈(bs.map Value.bool).toArray):∃c,y=.bool c:=(fj.mp (List.mem_toArray.mp h)).imp λc x=>x.2.symm
theorem N8:xF .count "list.count" where
 slot:=PySem.F.slot_list_count
 ty:=PySem.F.type_list_count
 run:=λP v x us zs post Q r rz p k=>aI.k p λxs e p=>w1.k p (λus=>bJ P.w us zs->_) (λu p rz=>rz.k1 (λzs=>wpAny X.M P.A (call (.builtin "list.count") (x::zs)) Q P.Ex P.s) λz rz=>bH r e (λx=>wpAny X.M P.A (call (.builtin "list.count") [x,z]) Q P.Ex P.s) λl a ys m ev Z ha h1 h2 h3=>
  aI.k p λb eb p=>aI.k p λbs ebs p=>boolOf.k eb (λu=>bl P.w u z->_) (λrz=>rz.inv (λz=>wpAny X.M P.A (call (.builtin "list.count") [.ref a,z]) Q P.Ex P.s) (by
   have e2:=h2.bools ebs
   subst e2
   refine call_meets PySem.F.slot_list_count ⟨_,h1,rfl⟩ PySem.F.entry_list_count (PySem.F.args_list_count_2 _ _) (MeetsSeq.list_count a _ m (.bool b) (zD b) λy hy=>Ha (Hc y hy)) ⟨h1,?_⟩
   have ec:(bs.map Value.bool).toArray.toList.countP (zD b)=bs.count b:=List.countP_map
   rw[ec]
   exact k.now p.2 (.int _ _) _)) rz) rz
theorem N9:xF .index "list.index" where
 slot:=PySem.F.slot_list_index
 ty:=PySem.F.type_list_index
 run:=λP v x us zs post Q r rz p k=>aI.k p λxs e p=>w1.k p (λus=>bJ P.w us zs->_) (λu p rz=>rz.k1 (λzs=>wpAny X.M P.A (call (.builtin "list.index") (x::zs)) Q P.Ex P.s) λz rz=>bH r e (λx=>wpAny X.M P.A (call (.builtin "list.index") [x,z]) Q P.Ex P.s) λl a ys m ev Z ha h1 h2 h3=>
  aI.k p λb eb p=>aI.k p λbs ebs p=>boolOf.k eb (λu=>bl P.w u z->_) (λrz=>rz.inv (λz=>wpAny X.M P.A (call (.builtin "list.index") [.ref a,z]) Q P.Ex P.s) (aI.k p.2 λi ei p'=>by
   have e2:=h2.bools ebs
   have hl:bs.length<=1000:=by have:=p.1;rw[h2.length,e2,aS] at this;exact this
   subst e2
   obtain⟨hi,he,Oa⟩:=List.findIdx?_eq_some_iff_getElem.mp ei
   exact call_meets PySem.F.slot_list_index ⟨_,h1,rfl⟩ PySem.F.entry_list_index (PySem.F.args_list_index_2 _ _) (MeetsSeq.list_index a _ m (.bool b) (zD b) (λy hy=>Ha (Hc y hy)) i (by rw[jX,aS];exact hi) (by lia) (by rw[List.getElem_toArray,List.getElem_map];exact he) λj hj Ob=>by
    rw[List.getElem_toArray,List.getElem_map];exact Bool.not_eq_true _▸Oa j Ob) ⟨h1,k.now p' (.int _ _) _⟩)) rz) rz
end
section
variable{σ:Lv}{Q:Value->Shared->Prop}{P:Pt}{post:PQ}{v:V}{x:Value}
theorem Hd:∀{vs:List V} {is:List Int},allInts vs=some is->vs=is.map .int
 |[],is,h=>dA h▸rfl
 |v::r,is,h=>hZ h λi h1 h=>by
  cases v with
  |int j=>exact gW (λis=>V.int j::r=is.map .int) h λjs e=>by rw[jF,<-Hd e,dA h1]
  |_=>cases h1
theorem He:∀{vs:List V} {is:List Bool},kM vs=some is->vs=is.map .bool
 |[],is,h=>dA h▸rfl
 |v::r,is,h=>hZ h λi h1 h=>boolOf.k h1 (λv=>v::r=is.map .bool) (gW (λis=>V.bool i::r=is.map .bool) h λjs e=>by rw[jF,<-He e])
theorem intsAre_of{p:Ws}:∀{is:List Int} {xs:List Value},bJ p (is.map .int) xs->IntsAre xs is
 |[],xs,r=>r.inv (λxs=>IntsAre xs []) .nil
 |i::is,xs,r=>r.inv (λxs=>IntsAre xs (i::is)) λx xs r1 r2=>r1.inv (λx=>IntsAre (x::xs) (i::is)) λt=>.cons _ _ (intsAre_of r2)
theorem B5{is:List Int}(r:bl P.w v x)(e:kN P.H v=some is)(T:Value->Prop)(k:∀a xs,P.s.heap.IsList a xs.toArray->IntsAre xs is->T (.ref a)):T x:=
 hZ e λvs h1 h2=>bH r h1 T λZ a xs m Z Z Z g1 g2 Z=>k a xs (lK g1) (intsAre_of (by rw[<-Hd h2];exact g2))
theorem Kn.later{x:Value}{h':Heap}(k:Kn P post Q)(p:post v P.H)(r:bl P.w v x)(e:aA P.s.heap h')(tk:Nat):Q x (upd P.s h' tk):=k _ _ p (P.ext e tk) _ (r.mono (P.ext e tk).S)
theorem Oc(G:Good X)(r:bl P.w v x)(p:aI (oN P.H v) λl=>post (.int l.length) P.H)(k:Kn P post Q):wpAny X.M P.A (call (.builtin "len") [x]) Q P.Ex P.s:=
 aI.k p λl e p=>items G r e (λx=>wpAny X.M P.A (call (.builtin "len") [x]) Q P.Ex P.s) (λZ a xs m h1 h2 h3 Z=>PyProof.Rows.len_tuple (xm h1) (small h2 h3) (k.now (v:=.int l.length) p (by rw[jX,<-h2.length];exact .int _ _) _)) λa xs h1 h2 h3=>call_len_list h1 (small h2 h3) (k.now (v:=.int l.length) p (by rw[jX,<-h2.length];exact .int _ _) _)
theorem Od{t:Ty}(r:bl P.w v x)(p:aI (vk P.H t v) λb=>post (.bool b) P.H)(k:Kn P post Q):wpAny X.M P.A (call (.builtin "isinstance") [x,.type (kL t)]) Q P.Ex P.s:=by
 refine aI.k p λb e p=>?_
 have fin:∀tk,Q (.bool b) (upd P.s P.s.heap tk):=λtk=>k.now p (.bool _) tk
 cases v with
 |bool c=>
  refine r.inv (λx=>wpAny X.M P.A (call (.builtin "isinstance") [x,.type (kL t)]) Q P.Ex P.s) ?_
  cases t<;>cases e
  ·exact IsiPair.bool_int (fin _)
  ·exact IsiPair.bool_bool (fin _)
  ·exact IsiPair.bool_list (fin _)
 |int i=>
  refine r.inv (λx=>wpAny X.M P.A (call (.builtin "isinstance") [x,.type (kL t)]) Q P.Ex P.s) λtk=>?_
  cases t<;>cases e
  ·exact IsiPair.int_int (fin _)
  ·exact IsiPair.int_bool (fin _)
  ·exact IsiPair.int_list (fin _)
 |none=>
  refine r.inv (λx=>wpAny X.M P.A (call (.builtin "isinstance") [x,.type (kL t)]) Q P.Ex P.s) ?_
  cases t<;>cases e
  ·exact IsiPair.NoneType_int (fin _)
  ·exact IsiPair.NoneType_bool (fin _)
  ·exact IsiPair.NoneType_list (fin _)
 |str z=>
  refine r.inv (λx=>wpAny X.M P.A (call (.builtin "isinstance") [x,.type (kL t)]) Q P.Ex P.s) λtk=>?_
  cases t<;>cases e
  ·exact IsiPair.str_int (fin _)
  ·exact IsiPair.str_bool (fin _)
  ·exact IsiPair.str_list (fin _)
 |aC vs=>
  refine r.inv (λx=>wpAny X.M P.A (call (.builtin "isinstance") [x,.type (kL t)]) Q P.Ex P.s) λa m xs h1 Z Z Z=>?_
  cases t<;>cases e
  ·exact IsiPair.tuple_int h1 rfl (fin _)
  ·exact IsiPair.tuple_bool h1 rfl (fin _)
  ·exact IsiPair.tuple_list h1 rfl (fin _)
 |ref l=>
  have key:∀b',(eQ P.H (.ref l)).map (λZ=>b')=some b->(∀a xs m,P.s.heap.get? a=some (iP xs m)->(∀tk,Q (.bool b') (upd P.s P.s.heap tk))->wpAny X.M P.A (call (.builtin "isinstance") [.ref a,.type (kL t)]) Q P.Ex P.s)->wpAny X.M P.A (call (.builtin "isinstance") [x,.type (kL t)]) Q P.Ex P.s:=λb' e h=>
   gW (λb=>(∀tk,Q (.bool b) (upd P.s P.s.heap tk))->_) e (λvs e fin=>bH r e (λx=>wpAny X.M P.A (call (.builtin "isinstance") [x,.type (kL t)]) Q P.Ex P.s) λZ a xs m Z Z Z h1 Z Z=>h a xs m h1 fin) fin
  cases t
  ·exact key false e λa xs m h1 fin=>IsiPair.list_int h1 rfl (fin _)
  ·exact key false e λa xs m h1 fin=>IsiPair.list_bool h1 rfl (fin _)
  ·exact key true e λa xs m h1 fin=>IsiPair.list_list h1 rfl (fin _)
 |fu=>cases t<;>cases e
theorem Oe(hh:P.A.handled=none)(r:bl P.w v x)(p:aI ((eQ P.H v).bind kM) λbs=>post (.bool (bs.any id)) P.H)(k:Kn P post Q):wpAny X.M P.A (call (.builtin "any") [x]) Q P.Ex P.s:=
 aI.k p λbs e p=>hZ e λvs e1 e2=>bH r e1 (λx=>wpAny X.M P.A (call (.builtin "any") [x]) Q P.Ex P.s) λZ a xs m Z Z Z h1 h2 Z=>by
  rw[He e2] at h2
  refine call_any_walk (wpAny_pyIter_list (lK h1) ⟨P.s.heap.objs.size,[P.s.heap.objs.size,a],[P.s.heap.objs.size],xs.toArray.size,_,_,λi=>(bs[i]?).getD false,rfl,Walks.list (A:=P.A.in1) hh _ a (eO (nB h1)) xs.toArray,
   ⟨⟨_,il _ rfl,rfl,rfl⟩,(lK h1).push _⟩,λi w s' Q' E' hP hQ=>?_,λh' tk hk=>?_⟩)
  ·have Hf:xs[i]?=some w:=by rw[<-getElem?_toArray];exact hP
   have vz:i<bs.length:=by rw[<-aS (f:=V.bool),h2.length];exact(dZ.mp Hf).1
   refine h2.get (i:=i) (v:=.bool bs[i]) (by rw[g5,fL vz];rfl) λy hy ry=>?_
   rw[Hf] at hy;cases hy
   have hQ:Q' ((bs[i]?).getD false) s':=hQ
   rw[show(bs[i]?).getD false=bs[i] by rw[fL vz];rfl] at hQ
   exact ry.inv (λw=>wpAny X.M P.A.in1 (PySem.truthy w) Q' E' s') (se hQ)
  ·rw[show((List.range xs.toArray.size).any λi=>(bs[i]?).getD false)=bs.any id by rw[jX,<-h2.length,aS];exact LSm.range_any bs]
   exact k.later p (.bool _) (LSm.kept_iter hk) tk
theorem Of(hh:P.A.handled=none){a b:Int}{t u:Tok}(p:post (.int (max a b)) P.H)(k:Kn P post Q):wpAny X.M P.A (call (.builtin "max") [.int a t,.int b u]) Q P.Ex P.s:=
 max_two_ints hh λh' tk hk=>by
  by_cases rH:b>a
  ·rw[bL rH];exact k.later p (by rw[Int.max_eq_right (le_of_lt rH)];exact .int _ _) hk tk
  ·rw[bG rH];exact k.later p (by rw[Int.max_eq_left (Int.not_lt.mp rH)];exact .int _ _) hk tk
theorem Og(hh:P.A.handled=none){a b:Int}{t u:Tok}(p:post (.int (min a b)) P.H)(k:Kn P post Q):wpAny X.M P.A (call (.builtin "min") [.int a t,.int b u]) Q P.Ex P.s:=
 min_two_ints hh λh' tk hk=>by
  by_cases rH:b<a
  ·rw[bL rH];exact k.later p (by rw[Int.min_eq_right (le_of_lt rH)];exact .int _ _) hk tk
  ·rw[bG rH];exact k.later p (by rw[Int.min_eq_left (Int.not_lt.mp rH)];exact .int _ _) hk tk
theorem Oh(r:bl P.w v x)(p:aI (eQ P.H v) λxs=>post (.aC xs) P.H)(k:Kn P post Q):wpAny X.M P.A (call (.type "tuple") [x]) Q P.Ex P.s:=
 aI.k p λvs e p=>bH r e (λx=>wpAny X.M P.A (call (.type "tuple") [x]) Q P.Ex P.s) λZ a xs m Z Z Z h1 h2 h3=>call_tuple_list (lK h1) (λh' hk=>
  have e:aA P.s.heap (h'.push (mX xs 0)):=λb o x=>mQ _ (hk b o x)
  k _ _ p (P.ext e P.s.toks) _ (.aC (n:=0) (Heap.get?_push_size _ rfl) (h2.mono (P.ext e P.s.toks).S) h3 (SR.new (p:=⟨P.φ,h'⟩) (SR.ext (p:=P.w) P.R hk) (i5 _ (le_refl _))).1)) (by rw[size_toArray,<-h2.length];unfold sizeLine;exact le_trans h3 (by decide))
theorem Oi{b:Bool}(p:post (.int (if b then 1 else 0)) P.H)(k:Kn P post Q):wpAny X.M P.A (call (.type "int") [.bool b]) Q P.Ex P.s:=call_int_bool (k.now p (.int _ _) _)
theorem B6:∀(l acc:List Int),(l.foldl step_dedup acc).length<=acc.length+l.length/\((l.foldl step_dedup acc).length=acc.length+l.length↔l.Nodup/\∀x,x∈l->x∉acc)
 |[],acc=>⟨cg _,⟨λZ=>⟨nodup_nil,λZ h=>nomatch h⟩,λZ=>rfl⟩⟩
 |a::r,acc=>by
  rw[foldl_cons,iY,lF]
  by_cases h:a∈acc
  ·rw[show step_dedup acc a=acc from bL (c:=(acc.any λx=>x==a)=true) (nE.mpr ⟨a,h,gr a⟩)]
   have:=B6 r acc
   refine⟨by lia,⟨λe=>absurd e (by lia),λe=>absurd h (e.2 a (.head _))⟩⟩
  ·rw[show step_dedup acc a=acc++[a] from bG λe=>(nE.mp e).elim λb x=>h ((eq_of_beq x.2:b=a)▸x.1)]
   have:=B6 r (acc++[a])
   rw[bX,List.length_singleton] at this
   refine⟨by lia,⟨λe=>?_,λe=>?_⟩⟩
   ·have x:=this.2.mp (by lia)
    exact⟨⟨λhm=>x.2 a hm (cF.mpr (.inr (.head _))),x.1⟩,λy hy=>(cH.mp hy).elim (λe=>e▸h) λhy hm=>x.2 y hy (cF.mpr (.inl hm))⟩
   ·have x:=this.2.mpr ⟨e.1.2,λy hy hm=>(cF.mp hm).elim (e.2 y (.tail _ hy)) λhm=>e.1.1 (cI.mp hm▸hy)⟩
    lia
theorem B7(is:List Int):(List.range is.length).map (λi=>is.getD i 0)=is:=by
 apply ext_getElem?
 intro i
 rw[g5]
 by_cases h:i<is.length
 ·rw[List.getElem?_range h,fL h,Option.map_some,getD_eq_getElem?_getD,fL h];rfl
 ·rw[qP (not_lt.mp h),qP (by rw[kH];exact not_lt.mp h)];rfl
theorem Oj(hh:P.A.handled=none)(r:bl P.w v x)(p:aI (kN P.H v) λis=>is.length<=1000/\∀n:Nat,(n=is.length↔is.Nodup)->post (.int n) P.H)(k:Kn P post Q):wpAny X.M P.A (call (.type "set") [x]) (λy cj=>wpAny X.M P.A (call (.builtin "len") [y]) Q P.Ex cj) P.Ex P.s:=
 aI.k p λis e p=>B5 r e (λx=>wpAny X.M P.A (call (.type "set") [x]) (λy cj=>wpAny X.M P.A (call (.builtin "len") [y]) Q P.Ex cj) P.Ex P.s) λa xs h1 hI=>by
  have hl:xs.toArray.size=is.length:=by rw[jX,hI.length]
  refine PySem.call_set_list hh h1 hI (by rw[hl];have:=p.1;show is.length+1<4096;lia) λh' tk hs hk=>?_
  obtain⟨o,es,ep,t,e1,e2,e3,_,_,_,e4,e5⟩:=hs
  have em:firstMet (λi=>is.getD i 0) xs.toArray.size=is.foldl step_dedup []:=by unfold firstMet;rw[hl,B7]
  rw[em] at e5
  have d:=B6 is []
  rw[length_nil,zero_add] at d
  have ext:aA P.s.heap h':=λb o x=>hk b o (nB x) x
  refine call_len_set (s:=upd P.s h' tk) e1 e2 e3 e4 (by have:=p.1;lia) ?_
  exact k.later (p.2 es.size (by rw[e5];exact d.2.trans ⟨λx=>x.1,λx=>⟨x,λZ Z h=>nomatch h⟩⟩)) (.int _ _) ext _
theorem Ol(r:bl P.w v x)(p:aI (kN P.H v) λis=>is.length<64/\∀js:List Int,js.Perm is->js.Pairwise (·<=·)->mm (js.map .int) P.H post)(k:Kn P post Q):wpAny X.M P.A (call (.builtin "sorted") [x]) Q P.Ex P.s:=
 aI.k p λis e p=>B5 r e (λx=>wpAny X.M P.A (call (.builtin "sorted") [x]) Q P.Ex P.s) λa xs h1 hI=>sorted_ints h1 hI (by rw[hI.length];exact p.1) λout js q1 q2 q3=>(sortedAll_at P.s.heap xs out).elim λc he=>Kn.list k (λb o x=>sortedAll_old x) _ (i5 _ (le_succ _)) he (BH q1) (by rw[aS,q2.length_eq];exact aR (cO p.1) (by decide)) (p.2 js q2 q3) P.s.toks
end
section
variable{A:Around}{E:Value->Shared->Prop}{s:Shared}{R:Result->Shared->Prop}{kw:List (Str×Value)}
theorem zE:(toString "min"++toString ".loop":String)="min.loop":=by decide
theorem Om{i j:Int}{t u:Tok}{Q:Value->Shared->Prop}(h:Q (.bool (decide (i<j))) s):wpAny X.M A (richCompare .Lt (.int i t) (.int j u)) Q E s:=
 richCompare_gives (op:=.Lt) (typeIs_int s _ t) (typeIs_int s _ u) PySem.F.slot_int_lt PySem.F.entry_int_lt (PySem.F.args_int_lt_2 _ _) (gives_int_lt _ _ t u) (λx=>nomatch x) h
theorem ue{h:Heap}{a b:Addr}{o:Obj}{f:Obj->Obj}(hn:b≠a)(e:h.get? b=some o):(h.update a f).get? b=some o:=(u2 _ _ (Ne.symm hn)).trans e
theorem Oo{I S a:Addr}{vs:Array Value}(hh:A.handled=none)(zF:a≠I)(qo:S≠I)(zG:S≠a){xs:List Value}{is:List Int}(hI:IntsAre xs is):∀(j:Nat) (s:Shared) (m:Int) (t:Tok) (c:Nat),vs.toList.drop j=xs->s.heap.IsListIter I a j->s.heap.IsList a vs ->
  s.heap.get? S=some {cls:=.type "list",dict:=none,data:=.seq #[.int m t,.int m t] c,slots:=#[]} ->
  (∀t' h' tk,(∀b o,b≠I->b≠S->s.heap.get? b=some o->h'.get? b=some o)->R (.ok (.ret (.int (is.foldl min m) t'))) {s with heap:=h',toks:=tk}) ->
  codeAny X.M A (.builtin "min.loop" ⟨[.ref I,.none,.ref S],kw⟩) R s:=by
 induction hI with
 |nil=>
  intro j s m t c hd fQ hl hS hR
  refine codeAny_builtin PySem.F.entry_min_loop ?_
  rw[Around.under_plainId tA _]
  refine(?_:wpAny _ A.in1 (seqItems? (.ref S) >>= _) _ _ s)
  refine aY (wpAny_seqItems hS rfl ?_)
  refine(?_:wpAny _ A.in1 (tryCatch (pyNext (.ref I)) _ >>= _) _ _ s)
  refine aY (wpAny_tryCatch (wpAny_pyNext_list_end hh fQ hl (by rw[<-getElem?_toList];exact qQ.mpr (drop_eq_nil_iff.mp hd)) λh' he=>?_))
  refine(?_:wpAny _ A.in1 (updateSeq S (λZ=>#[]) >>= _) _ _ _)
  exact aY (wpAny_updateSeq (he S _ qo hS) rfl (aY (wpAny_letGo (bS (hR t _ s.toks λb o hI hS e=>ue hS (he b o hI e))))))
 |cons i u h ih=>
  intro j s m t c hd fQ hl hS hR
  have hx:vs[j]?=some (.int i u):=by rw[<-getElem?_toList,<-List.head?_drop,hd];rfl
  have oV:=(List.tail_drop (l:=vs.toList) (i:=j)).symm.trans (bU List.tail hd)
  refine codeAny_builtin PySem.F.entry_min_loop ?_
  rw[Around.under_plainId tA _]
  refine(?_:wpAny _ A.in1 (seqItems? (.ref S) >>= _) _ _ s)
  refine aY (wpAny_seqItems hS rfl ?_)
  refine(?_:wpAny _ A.in1 (tryCatch (pyNext (.ref I)) _ >>= _) _ _ s)
  refine aY (wpAny_tryCatch (wpAny_pyNext_list_item fQ hl hx λh' tV nU=>?_))
  have qp:=nU.extBut S _ qo hS
  have gV:=hl.extBut nU.extBut zF
  refine(?_:wpAny _ A.in1 (tryCatch (holding [Value.int i u,Value.int i u] (richCompare .Lt (Value.int i u) (Value.int m t) >>= _)) _ >>= _) _ _ _)
  refine aY (wpAny_tryCatch (wpAny_holding (aY (Om (aY (wpAny_holding (se (aY (wpAny_letGo (bS ?_))))))))))
  by_cases hb:i<m
  ·rw[c9 hb]
   refine aY (wpAny_updateSeq qp rfl (aY (wpAny_letGo ?_)))
   rw[zE]
   exact bS ⟨plainId_quiet tA _,ih (j+1) _ i u _ oV (tV.at λo e=>ue qo.symm e) (gV.at λo e=>ue zG.symm e) (sg _ qp rfl) λt' xI tk hk=>by
    have:=hR t' xI tk λb o hI hS e=>hk b o hI hS (ue hS (nU.extBut b o hI e))
    rw[foldl_cons,Int.min_eq_right (le_of_lt hb)] at this
    exact this⟩
  ·rw[gv hb]
   refine aY (wpAny_letGo ?_)
   rw[zE]
   exact bS ⟨plainId_quiet tA _,ih (j+1) _ m t c oV tV gV qp λt' xI tk hk=>by
    have:=hR t' xI tk λb o hI hS e=>hk b o hI hS (nU.extBut b o hI e)
    rw[foldl_cons,Int.min_eq_left (Int.not_lt.mp hb)] at this
    exact this⟩
theorem Oq{I S a:Addr}{dn:Str}{d:Value}{c:Nat}{xs:List Value}{is:List Int}(hh:A.handled=none)(zF:a≠I)(qo:S≠I)(zG:S≠a)(hI:IntsAre xs is)(fQ:s.heap.IsListIter I a 0)(hl:s.heap.IsList a xs.toArray)
  (hS:s.heap.get? S=some {cls:=.type "list",dict:=none,data:=.seq #[] c,slots:=#[]})
  (hR:∀v h' tk,(is=[]/\v=d\/∃i r t,is=i::r/\v=.int (r.foldl min i) t)->(∀b o,b≠I->b≠S->s.heap.get? b=some o->h'.get? b=some o)->R (.ok (.ret v)) {s with heap:=h',toks:=tk}) :
  codeAny X.M A (.builtin "min.loop" ⟨[.ref I,.none,.ref S],[(dn,d)]⟩) R s:=by
 refine codeAny_builtin PySem.F.entry_min_loop ?_
 rw[Around.under_plainId tA _]
 refine(?_:wpAny _ A.in1 (seqItems? (.ref S) >>= _) _ _ s)
 refine aY (wpAny_seqItems hS rfl ?_)
 refine(?_:wpAny _ A.in1 (tryCatch (pyNext (.ref I)) _ >>= _) _ _ s)
 cases hI with
 |nil=>exact aY (wpAny_tryCatch (wpAny_pyNext_list_end hh fQ hl rfl λh' he=>aY (wpAny_rule (bS (hR d h' s.toks (.inl ⟨rfl,rfl⟩) λb o hI Z e=>he b o hI e)))))
 |cons i u h=>
  refine aY (wpAny_tryCatch (wpAny_pyNext_list_item fQ hl (x:=.int i u) rfl λh' tV nU=>?_))
  have qp:=nU.extBut S _ qo hS
  refine(?_:wpAny _ A.in1 (updateSeq S (λZ=>#[.int i u,.int i u]) >>= _) _ _ _)
  refine aY (wpAny_updateSeq qp rfl ?_)
  rw[zE]
  exact bS ⟨plainId_quiet tA _,Oo hh zF qo zG h 1 _ i u _ rfl (tV.at λo e=>ue qo.symm e) ((hl.extBut nU.extBut zF).at λo e=>ue zG.symm e) (sg _ qp rfl) λt' xI tk hk=>hR _ xI tk (.inr ⟨i,_,t',rfl,rfl⟩) λb o hI hS e=>hk b o hI hS (ue hS (nU.extBut b o hI e))⟩
theorem Ot{id:String}{b:Builtin}{args:List Value}{Q:Value->Shared->Prop}(hk:builtinKind id=none)(hp:plainId id=true)(hb:entryFor table id=some b)(ha:argsOk id ⟨args,kw⟩)
  (hc:wpAny X.M A.in1 (b ⟨args,kw⟩) (λfin s'=>match fin with
   |.done f=>(match(Except.ok f:Result) with | .ok (.ret v)=>Q v s' | .ok _=>False | .error e=>E e s')
   |.again c'=>c'.quiet=true/\codeAny X.M A c' (λr s'=>match r with | .ok (.ret v)=>Q v s' | .ok _=>False | .error e=>E e s') s') E s) :
  wpAny X.M A (call (.builtin id) args kw) Q E s:=by
 refine wpAny_call (codeAny_call_builtin hp hb ?_)
 rw[checkBuiltinCall,hk]
 cases Ou:Manifest.signature? id with
 |none=>exact bS hc
 |some sig=>
  have qq:Bind.checkArgs id sig ⟨args,kw⟩=pure ():=by simpa only[argsOk,Ou] using ha
  simp only[qq]
  exact bS hc
theorem Ov{Q:Value->Shared->Prop}{l:Addr}{xs:List Value}{is:List Int}{d:Value}(hh:A.handled=none)(hl:s.heap.IsList l xs.toArray)(hI:IntsAre xs is)
  (hQ:∀v h' tk,(is=[]/\v=d\/∃i r t,is=i::r/\v=.int (r.foldl min i) t)->(∀b o,s.heap.get? b=some o->h'.get? b=some o)->Q v {s with heap:=h',toks:=tk}) :
  wpAny X.M A (call (.builtin "min") [.ref l] [("default",d)]) Q E s:=by
 have du:l<s.heap.objs.size:=hl.elim λZ e=>nB e.1
 refine Ot PySem.F.kind_min PySem.F.plain_min PySem.F.entry_min (by unfold argsOk;rfl) ?_
 refine(?_:wpAny _ A.in1 (Builtin.Builtins.bindParams "min" ["key","default"] 0 ⟨[],[("default",d)]⟩ >>= _) _ _ s)
 refine aY (wpAny_of_eq (show Builtin.Builtins.bindParams "min" ["key","default"] 0 ⟨[],[("default",d)]⟩=pure [none,some d] from rfl) (aY (bS (aY (wpAny_pyIter_list hl (aY (pQ ?_)))))))
 rw[zE]
 have e1:(s.heap.push {cls:=.type "list_iterator",data:=.fields #[.ref l,.int 0 0]}).objs.size=s.heap.objs.size+1:=Heap.size_push ..
 exact bS ⟨plainId_quiet tA _,Oq (I:=s.heap.objs.size) (S:=(s.heap.push {cls:=.type "list_iterator",data:=.fields #[.ref l,.int 0 0]}).objs.size) hh (eO du) (by rw[e1];exact Nat.succ_ne_self _) (by rw[e1];exact fE (Nat.lt_succ_of_lt du)) hI ⟨_,mQ _ (il _ rfl),rfl,rfl⟩ ((hl.push _).push _) (il _ rfl)
  λv h' tk hv hk=>hQ v h' tk hv λb o e=>hk b o (eO (nB e)) (by rw[e1];exact eO (Nat.lt_succ_of_lt (nB e))) (mQ _ (mQ _ e))⟩
end
section
variable{σ:Lv}{cs:List E}{es:List Expr}{g:Expr}{pos:Pos}
theorem Ow{T:Value->List Value->Prop}{post:List V->Hp->Prop}{P:Fp σ}{Q:Value->Shared->Prop}{nm:Str}{y:Value}(G:Good X)(hg:fv σ.f nm g=true)(hm:(nm,y)∈pU)(hy:(∃T,y=.type T)\/∃T,y=.builtin T)(h:fP σ cs es)(p:oP σ.c cs P.ρ P.H post)(k:BG P.toPt cs.length post λxs cj=>wpAny X.M P.A (call y xs) Q P.Ex cj):wpAny X.M P.A (eval (.Call g es [] pos) P.env) Q P.Ex P.s:=
 hy.elim (λhy=>vG G hg hm hy h p k) λhy=>gc.k (G:=λg=>wpAny X.M P.A (eval (.Call g es [] pos) P.env) Q P.Ex P.s) hg λx np hg=>aV hg λe ho=>by
  obtain rfl:=eq_of_beq e
  obtain⟨T,rfl⟩:=hy
  exact wpAny_Call_NameR (sJ G P hm ho (Calls.callWith_builtin (h.plain P.env pos) (rD (h.plain P.env pos) (h.qh P _ _ pos p k))))
theorem Ox{b:Bi}{q:Str×Nat}(hb:wC b=some q)(G:Good X){T:Prop}(k:∀y,(q.1,y)∈pU->((∃T,y=.type T)\/∃T,y=.builtin T) ->
  (∀(P:Pt) (vs:List V) (xs:List Value) (post:PQ) (Q:Value->Shared->Prop),P.A.handled=none->bJ P.w vs xs->FU b vs P.H post->Kn P post Q->wpAny X.M P.A (call y xs) Q P.Ex P.s)->T):T:=by
 have one:∀{y:Value} {f:Hp->V->PQ->Prop},(∀(P:Pt) (v:V) (x:Value) (post:PQ) (Q:Value->Shared->Prop),P.A.handled=none->bl P.w v x->f P.H v post->Kn P post Q->wpAny X.M P.A (call y [x]) Q P.Ex P.s) ->
   ∀(P:Pt) (vs:List V) (xs:List Value) (post:PQ) (Q:Value->Shared->Prop),P.A.handled=none->bJ P.w vs xs->w1 vs (λv=>f P.H v post)->Kn P post Q->wpAny X.M P.A (call y xs) Q P.Ex P.s:=λh P vs xs post Q hh r p k=>
  w1.k p (λvs=>bJ P.w vs xs->_) (λv p r=>r.k1 (λxs=>wpAny X.M P.A (call _ xs) Q P.Ex P.s) λx r=>h P v x post Q hh r p k) r
 cases b with
 |len=>cases hb;exact k _ (i6 0 (by decide)) (.inr ⟨_,rfl⟩) (one (f:=λH v post=>aI (oN H v) λl=>post (.int l.length) H) λP v x post Q hh r p k=>Oc G r p k)
 |any=>cases hb;exact k _ (i6 10 (by decide)) (.inr ⟨_,rfl⟩) (one (f:=λH v post=>aI ((eQ H v).bind kM) λbs=>post (.bool (bs.any id)) H) λP v x post Q hh r p k=>Oe hh r p k)
 |max2=>cases hb;exact k _ (i6 12 (by decide)) (.inr ⟨_,rfl⟩) λP vs xs post Q hh r p k=>w2.k p (λvs=>bJ P.w vs xs->_) (λu v p r=>r.k2 (λxs=>wpAny X.M P.A (call _ xs) Q P.Ex P.s) λx y rx ry=>fy.k p (λu=>bl P.w u x->_) (λa p rx=>fy.k p (λv=>bl P.w v y->_) (λb p ry=>rx.inv (λx=>wpAny X.M P.A (call _ [x,y]) Q P.Ex P.s) λt=>ry.inv (λy=>wpAny X.M P.A (call _ [_,y]) Q P.Ex P.s) λt'=>Of hh p k) ry) rx) r
 |min2=>cases hb;exact k _ (i6 11 (by decide)) (.inr ⟨_,rfl⟩) λP vs xs post Q hh r p k=>w2.k p (λvs=>bJ P.w vs xs->_) (λu v p r=>r.k2 (λxs=>wpAny X.M P.A (call _ xs) Q P.Ex P.s) λx y rx ry=>fy.k p (λu=>bl P.w u x->_) (λa p rx=>fy.k p (λv=>bl P.w v y->_) (λb p ry=>rx.inv (λx=>wpAny X.M P.A (call _ [x,y]) Q P.Ex P.s) λt=>ry.inv (λy=>wpAny X.M P.A (call _ [_,y]) Q P.Ex P.s) λt'=>Og hh p k) ry) rx) r
 |tupleOf=>cases hb;exact k _ (i6 4 (by decide)) (.inl ⟨_,rfl⟩) (one (f:=λH v post=>aI (eQ H v) λxs=>post (.aC xs) H) λP v x post Q hh r p k=>Oh r p k)
 |yG=>cases hb;exact k _ (i6 9 (by decide)) (.inr ⟨_,rfl⟩) (one (f:=λH v post=>aI (kN H v) λis=>is.length<64/\∀js:List Int,js.Perm is->js.Pairwise (·<=·)->mm (js.map .int) H post) λP v x post Q hh r p k=>Ol r p k)
 |oF=>cases hb;exact k _ (i6 2 (by decide)) (.inl ⟨_,rfl⟩) (one (f:=λH v post=>aI (boolOf v) λb=>post (.int (if b then 1 else 0)) H) λP v x post Q hh r p k=>aI.k p λb e p=>boolOf.k e (λv=>bl P.w v x->_) (λr=>r.inv (λx=>wpAny X.M P.A (call _ [x]) Q P.Ex P.s) (Oi p k)) r)
 |_=>cases hb
theorem Oy{b:Bi}{q:Str×Nat}(hh:σ.f.hd=false)(G:Good X)(hb:wC b=some q)(hg:fv σ.f q.1 g=true)(h:fP σ cs es):ct σ (.bi b cs) (.Call g es [] pos):=λP post Q p k=>
 Ox hb G λy hm hy run=>Ow (T:=λZ Z=>True) G hg hm hy h p (λvs H1 p1 Z N xs r=>run N.pt vs xs post Q (P.calm hh) r p1 (k.nx N))
theorem Oz(t:Ty):(Str.ofString (kL t),Value.type (kL t))∈pU:=by
 cases t
 ·exact i6 2 (by decide)
 ·exact i6 3 (by decide)
 ·exact i6 5 (by decide)
theorem OA{t:Ty}{e nm:Expr}{c:E}(G:Good X)(hg:fv σ.f "isinstance" g=true)(hn:fv σ.f (Str.ofString (kL t)) nm=true)(h0:cy σ.f c e=true)(he:ct σ c e):ct σ (.bi (.lH t) [c]) (.Call g [e,nm] [] pos):=λP post Q p k=>
 gc.k (G:=λg=>wpAny X.M P.A (eval (.Call g [e,nm] [] pos) P.env) Q P.Ex P.s) hg λx np hg=>aV hg λe1 ho=>gc.k (G:=λnm=>wpAny X.M P.A (eval (.Call _ [e,nm] [] pos) P.env) Q P.Ex P.s) hn λy yp hn=>aV hn λe2 OB=>by
  obtain rfl:=eq_of_beq e1
  obtain rfl:=eq_of_beq e2
  have ql:(backTo pos (starEach [e,.Name (Str.ofString (kL t)) yp] P.env)).any (·.1)=false:=by rw[sL h0 P.env];rfl
  refine wpAny_Call_NameR (sJ G P (i6 1 (by decide)) ho (Calls.callWith_builtin ql (rD ql (sf (he P _ _ p (λv H1 p1 N x r=>?_)) (sL h0 P.env _)))))
  exact sf (sJ G (P.to N) (y:=.type (kL t)) (Oz t) OB (wpAny_items_nil (Od (P:=N.pt) r p1 (k.nx N)))) rfl
theorem OC(hh:σ.f.hd=false){c d:E}{e v:Expr}{kp:Pos}(G:Good X)(hg:fv σ.f "min" g=true)(h0:cy σ.f c e=true)(he:ct σ c e)(hv:ct σ d v):ct σ (.bi .pR [c,d]) (.Call g [e] [⟨some "default",v,kp⟩] pos):=λP post Q p k=>
 gc.k (G:=λg=>wpAny X.M P.A (eval (.Call g [e] [⟨some "default",v,kp⟩] pos) P.env) Q P.Ex P.s) hg λx np hg=>aV hg λe1 ho=>by
  obtain rfl:=eq_of_beq e1
  obtain⟨y,hy⟩:∃y,backTo pos (starEach [e] P.env)=[(false,y)]:=⟨_,by rw[sL h0 P.env];rfl⟩
  refine(?_:wpAny X.M P.A (do callWith pos (<-eval (.Name "min" np) P.env) [] (backTo pos (starEach [e] P.env)) (backToKw pos (keywordEach [⟨some "default",v,kp⟩] P.env))) Q P.Ex P.s)
  refine aY (sJ G P (y:=.builtin "min") (i6 11 (by decide)) ho (callWith_builtin_kwB (by rw[hy];rfl) rfl ?_))
  rw[hy]
  refine evalArgs_kwB rfl ?_
  rw[<-hy]
  exact sf (he P _ _ p (λu H1 p1 N x r=>wpAny_items_nil (kws_cons (hv (P.to N) _ _ p1 (λw H2 p2 N2 z r2=>kws_nil (fy.k p2 (λw=>bl N2.w w z->_) (λd p2 r2=>aI.k p2 λis ei p2=>B5 (P:=N2.pt) (r.mono N2.S) ei (λx=>wpAny X.M P.A (call (.builtin "min") [x] [("default",z)]) Q P.Ex N2.s) λa xs h1 hI=>Ov (P.calm hh) h1 hI λy h' tk hy hk=>
   ((k.nx N).nx N2).later p2 (by
    rcases hy with⟨rfl,rfl⟩|⟨i,r,t,rfl,rfl⟩
    ·exact r2
    ·exact .int _ _) hk tk) r2)))))) (sL h0 P.env _)
theorem OD{c:E}{e g':Expr}{pos':Pos}(hh:σ.f.hd=false)(G:Good X)(hg:fv σ.f "len" g=true)(OE:fv σ.f "set" g'=true)(h:fP σ [c] [e]):ct σ (.bi .md [c]) (.Call g [.Call g' [e] [] pos'] [] pos):=λP post Q p k=>
 gc.k (G:=λg=>wpAny X.M P.A (eval (.Call g [.Call g' [e] [] pos'] [] pos) P.env) Q P.Ex P.s) hg λx np hg=>aV hg λe1 ho=>by
  obtain rfl:=eq_of_beq e1
  have ql:(backTo pos (starEach [.Call g' [e] [] pos'] P.env)).any (·.1)=false:=rfl
  refine wpAny_Call_NameR (sJ G P (i6 0 (by decide)) ho (Calls.callWith_builtin ql (rD ql (sf ?_ rfl))))
  exact vG (post:=λvs H=>w1 vs λx=>aI (kN H x) λis=>is.length<=1000/\∀n:Nat,(n=is.length↔is.Nodup)->post (.int n) H) G OE (i6 13 (by decide)) ⟨_,rfl⟩ h p λvs H1 p1 Z N xs r=>w1.k p1 (λvs=>bJ N.w vs xs->_) (λv p1 r=>r.k1 (λxs=>wpAny X.M P.A (call (.type "set") xs) _ P.Ex N.s) λx r=>gE (Oj (P:=N.pt) (P.calm hh) r p1 (k.nx N)) (λy cj h=>wpAny_items_nil h) λZ Z h=>h) r
end
section
variable{A:Around}{E:Value->Shared->Prop}{s:Shared}{d:Addr}{kvs:List (Int×Value)}{ep:Nat}
theorem OF{Q:Bool->Shared->Prop}(hT:s.TypeIs (.ref d) "dict")(h:Q false s):wpAny X.M A (Builtin.List.listLengthHint (.ref d)) Q E s:=by
 unfold Builtin.List.listLengthHint
 refine aY (wpAny_specialOf hT PySem.F.slot_dict_len.lookup ?_)
 generalize Hg:("dict.__len__":String)=OG
 wp_delta
 rw[show splitId OG=some ("dict","__len__") from by subst Hg;decide +kernel]
 subst Hg
 refine aY (wpAny_isInstance (T:="dict") (b:=true) hT (by rw[isSubtype_type];kernel_rfl) ?_)
 refine wpAny_ite_split (λoW=>absurd oW (by decide)) (λZ=>?_)
 refine wpAny_ite_split (λZ=>?_) (λoW=>absurd (by decide +kernel) oW)
 exact aY (wpAny_typeOf hT (bS h))
abbrev B8(kvs:List (Int×Value))(i:Nat)(v:Value):Prop:=∃k x,kvs[i]?=some (k,x)/\m8.is k v=true
theorem OH{R:Result->Shared->Prop}{S:Addr}{zH:Nat}(hh:A.handled=none)(lo:(d==sysModules)=false)(hD:s.heap.DictAt m8 d kvs ep)(vJ:S≠d)(hn:kvs.length<=sizeLine)
  (hS:s.heap.get? S=some {cls:=.type "list",data:=.seq #[] zH})
  (hR:∀h' tk acc c',(∀b o,b≠S->s.heap.get? b=some o->h'.get? b=some o)->h'.get? S=some {cls:=.type "list",dict:=none,data:=.seq acc c',slots:=#[]}->ItemsOf (B8 kvs) acc kvs.length->R (.ok (.ret .none)) {s with heap:=h',toks:=tk}) :
  wpAny X.M A.in1 (Builtin.List.listExtendWith (.ref S) (.ref d) .none)
   (λfin s'=>match fin with | .done f=>R (.ok f) s' | .again c'=>c'.quiet=true/\codeAny X.M A c' R s') (λe s'=>R (.error e) s') s:=by
 have hT:s.TypeIs (.ref d) "dict":=hD.dictOf.typeIs
 have qo:S≠s.heap.objs.size:=eO (nB hS)
 have OI:S∉[s.heap.objs.size,d]:=by
  intro hm
  rcases cH.mp hm with e|hm
  ·exact qo e
  ·exact vJ (cI.mp hm)
 have W:=Walks.dictKeys (A:=A.in1) (knd:=m8) hh s.heap.objs.size d (eO hD.lt_size) kvs ep
 have go:∀(h:Heap) (B9 tk:Nat),h.IsKeyIter s.heap.objs.size d 0 kvs.length ep->h.DictAt m8 d kvs ep->(∀b o,b≠S->s.heap.get? b=some o->h.get? b=some o)->h.get? S=some {cls:=.type "list",data:=.seq #[] B9} ->
   codeAny X.M A (.builtin "list.extend.loop" ⟨[.ref S,.ref s.heap.objs.size,.none],[]⟩) R {s with heap:=h,toks:=tk}:=by
  intro h B9 tk i1 i2 hk xJ
  refine codeAny_extend_loopS W.toS hn S OI .none kvs.length 0 _ #[] B9 rfl (gu _) ⟨i1,i2⟩ xJ (ItemsOf.nil _) λs' acc c' hm qp Cb=>?_
  rw[Moved.eq_with hm]
  refine hR s'.heap s'.toks acc c' (λb o hb e=>hm.heap b o (λvK=>?_) (hk b o hb e)) qp Cb
  rcases cH.mp vK with e'|vK
  ·exact hb e'
  ·rw[cI.mp vK] at e
   exact absurd (nB e) (Nat.lt_irrefl _)
 unfold Builtin.List.listExtendWith
 refine aY (wpAny_typeOf (T:="dict") hT ?_)
 have h1:Builtin.List.listSameRef (.ref S) (.ref d)=false:=by simp[Builtin.List.listSameRef,vJ]
 simp only[h1,show(Value.type "dict"==Value.type "list")=false from by decide,show(Value.type "dict"==Value.type "tuple")=false from by decide,Bool.or_false,Bool.false_eq_true,if_false]
 refine aY (wpAny_pyIter_dict lo hD ?_)
 have xJ:=mQ {cls:=.type "dict_keyiterator",data:=.fields #[.ref d,.int 0 0,.int kvs.length 0,.int ep 0]} hS
 have i1:(s.heap.push {cls:=.type "dict_keyiterator",data:=.fields #[.ref d,.int 0 0,.int kvs.length 0,.int ep 0]}).IsKeyIter s.heap.objs.size d 0 kvs.length ep:=⟨_,il _ rfl,rfl,rfl⟩
 have i2:=hD.push {cls:=.type "dict_keyiterator",data:=.fields #[.ref d,.int 0 0,.int kvs.length 0,.int ep 0]}
 refine aY (wpAny_holding (OF i2.dictOf.typeIs ?_))
 refine wpAny_ite_split (λZ=>?_) (λZ=>bS ⟨plainId_quiet PySem.F.plain_extend_loop _,go _ zH _ i1 i2 (λb o Z e=>mQ _ e) xJ⟩)
 refine aY (wpAny_rule (aY ?_))
 refine(?_:wpAny _ _ (updateSeq S (·.push .none) >>= λZ=>updateSeq S (·.pop)) _ _ _)
 refine aY (wpAny_updateSeq xJ rfl ?_)
 have zI:=sg (Obj.mapSeq (·.push Value.none)) xJ rfl
 refine wpAny_updateSeq (hz:=by seq_fits) zI rfl ?_
 have OJ:=sg (Obj.mapSeq (·.pop)) zI rfl
 have oth:∀b o,b≠S->(s.heap.push {cls:=.type "dict_keyiterator",data:=.fields #[.ref d,.int 0 0,.int kvs.length 0,.int ep 0]}).get? b=some o->(((s.heap.push {cls:=.type "dict_keyiterator",data:=.fields #[.ref d,.int 0 0,.int kvs.length 0,.int ep 0]}).update S (Obj.mapSeq (·.push Value.none))).update S (Obj.mapSeq (·.pop))).get? b=some o:=
  λb o hb e=>(u2 _ _ (Ne.symm hb)).trans ((u2 _ _ (Ne.symm hb)).trans e)
 exact bS ⟨plainId_quiet PySem.F.plain_extend_loop _,go _ _ _ (i1.at λo e=>oth _ o qo.symm e) (i2.at' λo e=>oth _ o vJ.symm e) (λb o hb e=>oth b o hb (mQ _ e)) OJ⟩
theorem OK{Q:Value->Shared->Prop}(hh:A.handled=none)(lo:(d==sysModules)=false)(hD:s.heap.DictAt m8 d kvs ep)(hn:kvs.length<=sizeLine)
  (hQ:∀h' tk acc c',(∀b o,s.heap.get? b=some o->h'.get? b=some o)->h'.get? s.heap.objs.size=some {cls:=.type "list",dict:=none,data:=.seq acc c',slots:=#[]}->ItemsOf (B8 kvs) acc kvs.length->Q (.ref s.heap.objs.size) {s with heap:=h',toks:=tk}) :
  wpAny X.M A (call (.type "list") [.ref d]) Q E s:=by
 refine callType_codes (Q₁:=λobj cj=>obj=.ref s.heap.objs.size/\cj={s with heap:=s.heap.push {cls:=.type "list",data:=.seq #[]}}) PySem.F.called_list (PySem.F.typeCall_list_1 _) PySem.F.entry_list_init
  (code_list_new _ ⟨rfl,rfl⟩) λobj cj gG=>?_
 obtain⟨rfl,rfl⟩:=gG
 have hS:(s.heap.push {cls:=.type "list",data:=.seq #[]}).get? s.heap.objs.size=some {cls:=.type "list",data:=.seq #[]}:=il _ rfl
 have vJ:s.heap.objs.size≠d:=fE hD.lt_size
 refine⟨⟨_,hS,rfl⟩,PySem.F.args_list_init_2 _ _,?_⟩
 refine(?_:wpAny _ _ (do let old <-Builtin.List.listItems (.ref s.heap.objs.size);Builtin.List.listUpdate (.ref s.heap.objs.size) (λZ=>#[]);letGo old.toList.reverse;Builtin.List.listExtendWith (.ref s.heap.objs.size) (.ref d) .none) _ _ _)
 refine aY ?_
 unfold Builtin.List.listItems
 refine aY (wpAny_seqItems hS rfl (bS ?_))
 refine(?_:wpAny _ _ (updateSeq s.heap.objs.size (λZ=>#[]) >>= λZ=>letGo (#[]:Array Value).toList.reverse >>= λZ=>Builtin.List.listExtendWith (.ref s.heap.objs.size) (.ref d) .none) _ _ _)
 refine aY (wpAny_updateSeq hS rfl ?_)
 have zI:=sg (Obj.mapSeq (λZ=>(#[]:Array Value))) hS rfl
 have oth:∀b o,b≠s.heap.objs.size->(s.heap.push {cls:=.type "list",data:=.seq #[]}).get? b=some o->((s.heap.push {cls:=.type "list",data:=.seq #[]}).update s.heap.objs.size (Obj.mapSeq (λZ=>(#[]:Array Value)))).get? b=some o:=
  λb o hb e=>(u2 _ _ (Ne.symm hb)).trans e
 refine aY (wpAny_letGo ?_)
 refine OH (A:=A.in1) hh lo ((hD.push _).at' λo e=>oth _ o vJ.symm e) vJ hn zI λh' tk acc c' hk qp Cb=>?_
 exact⟨rfl,hQ h' tk acc c' (λb o e=>hk b o (eO (nB e)) (oth b o (eO (nB e)) (mQ _ e))) qp Cb⟩
end
section
variable{σ:Lv}{Q:Value->Shared->Prop}{P:Pt}{post:PQ}{H:Hp}
theorem Hh(G:Good X)(P:Pt):(P.s.heap.objs.size==sysModules)=false:=
 G.low.elim λo ho=>pO.mpr λe=>absurd (nB (P.R.keep _ _ ho)) (by rw[e];decide)
theorem zJ(P:Pt):P.s.heap.get? P.s.heap.objs.size=none:=i5 _ (cg _)
theorem OL{h:Heap}{D:Addr}{o o':Obj}{en:Array DictEntry}{ep:Nat}(e:h.get? D=some o)(hd:o.data=.dict en ep)(e':h.get? D=some o'):fz o'=false:=by rw[e] at e';cases e';exact xd hd
noncomputable abbrev uf:Obj:={cls:=.type "dict",data:=.dict #[]}
noncomputable abbrev Pt.newD(P:Pt){c:bt}(hc:fV ⟨P.φ,P.s.heap.push uf⟩ P.s.heap.objs.size c):Nx P (P.H++[c]):=
 ⟨P.φ++[P.s.heap.objs.size],P.s.heap.push uf,P.s.toks,SR.adopt (p:=⟨P.φ,P.s.heap.push uf⟩) (SR.ext (p:=P.w) P.R (.push _)) (P.R.new (p:=P.w) (zJ P)) (λo e=>OL (il _ rfl) rfl e) hc,bZ.adopt (q:=⟨P.φ,P.s.heap.push uf⟩) (bZ.ext (q:=P.w) .refl (.push _)) (zJ P)⟩
theorem Pt.Cc(P:Pt):(P.φ++[P.s.heap.objs.size])[P.H.length]?=some P.s.heap.objs.size:=by rw[<-P.R.len,qN (cg _),sub_self];rfl
theorem OM(G:Good X)(P:Pt):fV ⟨P.φ,P.s.heap.push uf⟩ P.s.heap.objs.size (.dict 0 []):=.dict (kvs:=[]) (en:=#[]) (il _ rfl) ⟨rfl,rfl,rfl⟩ rfl (λe he=>absurd he (Array.not_mem_empty e)) .nil .nil .nil (Hh G P) (gu _)
theorem Hi(G:Good X)(P:Pt):fV ⟨P.φ,P.s.heap.push uf⟩ P.s.heap.objs.size (.c6 0 []):=.c6 (xs:=[]) (en:=#[]) (il _ rfl) ⟨rfl,rfl,rfl⟩ rfl rfl .nil .nil (Hh G P) (gu _)
theorem ON{pos:Pos}(G:Good X):ct σ .qS (.Dict [] [] pos):=λP post Q p k=>wpAny_Dict_empty (k _ _ p (P.toPt.newD (OM G P.toPt)) _ (.ref P.toPt.Cc))
theorem OO{pos:Pos}(G:Good X):ct σ .oG (.Dict [] [] pos):=λP post Q p k=>wpAny_Dict_empty (k _ _ p (P.toPt.newD (Hi G P.toPt)) _ (.ref P.toPt.Cc))
theorem OP{c d:E}{k v:Expr}{pos:Pos}{post:V->V->Hp->Prop}(P:Fp σ){ce:bt}(hc:fV ⟨P.φ,P.s.heap.push uf⟩ P.s.heap.objs.size ce)(hk:ct σ c k)(hv:ct σ d v)(p:WE σ.c c P.ρ (P.H++[ce]) λx H=>WE σ.c d P.ρ H λy H=>post x y H)
  (kn:∀u w H,post u w H->∀(N:Nx P.toPt H) x y,N.φ[P.H.length]?=some P.s.heap.objs.size->bl N.w u x->bl N.w w y->wpAny X.M P.A (dictSet P.s.heap.objs.size x y) (λZ fO=>Q (.ref P.s.heap.objs.size) fO) P.Ex N.s):wpAny X.M P.A (eval (.Dict [some k] [v] pos) P.env) Q P.Ex P.s:=
 wpAny_Dict_any rfl rfl (λe=>nomatch e) (show(1:Nat)<=15 by decide) (pairTrees_cons_walk (tR hk hv (P.to (P.toPt.newD hc)) p (λu w H q N x y r1 r2=>pairTrees_nil_walk (aY (aY (gE (kn u w H q ((P.toPt.newD hc).then N) x y (N.S.pre _ _ P.toPt.Cc) r1 r2) (λZ fO h=>bS (bS h)) λZ Z h=>h))))))
theorem OQ{c d:E}{k v:Expr}{pos:Pos}(G:Good X)(hk:ct σ c k)(hv:ct σ d v):ct σ (.wz c d) (.Dict [some k] [v] pos):=λP post Q p kn=>
 OP P (Hi G P.toPt) hk hv p (λu w H q N x y Hj r1 r2=>aI.k q λj ej q=>pairOf.k ej (λu=>bl N.w u x->_) (λr1=>r1.inv (λx=>bl N.w (mZ j) x->wpAny X.M P.A (dictSet P.s.heap.objs.size x y) (λZ fO=>Q (.ref P.s.heap.objs.size) fO) P.Ex N.s) (λka Z Z Z Z Z Z r1=>N.R.at q.1 λa ha hc=>hc.inv _ λo en kvs x0 x1 x2 x3 x4 q' z m=>by
  rw[show N.φ[P.H.length]?=some a from ha] at Hj
  cases Hj
  cases q'
  refine wpAny_dictSet_heap (knd:=nM) (k:=pK j) (xs:=[]) (by refine(?_:P.A.units<cLine);have:=P.rm.units;exact Nat.lt_of_succ_lt (Pt.u1 _)) (xi r1) ⟨o,en,0,x0,x1,x2,x3,(λq hq=>nomatch hq),x4⟩ (λh3 hm hs=>hm.elim λo3 w3=>w3.elim λen w3=>w3.elim λep w3=>?_) (gu _)
  have K:=N.pt.vr ha hs.extBut
  exact kn _ _ (q.2 ep) (N.then (N.pt.set ha hs.extBut (.c6 w3.1 w3.2.1 w3.2.2.1 w3.2.2.2.1 w3.2.2.2.2.2 (.cons ⟨rfl,r1.kp K,r2.kp K⟩ .nil) z (show(1:Nat)<=16000000 by decide)) _)) _ (.ref ha)) r1) r1)
end
section
variable{σ:Lv}{Q:Value->Shared->Prop}{P:Pt}{post:PQ}{H:Hp}
theorem Hk{p:Ws}:∀{vs:List V} {xs:List Value},vs.length=xs.length->(∀(j:Nat) v x,vs[j]?=some v->xs[j]?=some x->bl p v x)->bJ p vs xs
 |[],[],_,_=>.nil
 |[],_::_,h,_=>nomatch h
 |_::_,[],h,_=>nomatch h
 |v::vs,x::xs,h,k=>.cons (k 0 v x rfl rfl) (Hk (Nat.succ.inj h) λj v x h1 h2=>k (j+1) v x h1 h2)
theorem OR{p:Ws}{es:List (Int×V)}{kvs:List (Int×Value)}{acc:Array Value}(q:L2 (nL p) es kvs)(h:ItemsOf (B8 kvs) acc kvs.length):bJ p (es.map λp=>.int p.1) acc.toList:=
 Hk (by rw[aS,q.length,length_toList];exact h.1.symm) λj v x h1 h2=>by
  rw[g5] at h1
  refine gW (λv=>bl p v x) h1 λe he=>?_
  exact(h.2 j x (by rw[<-getElem?_toList];exact h2)).elim λk w=>w.elim λy w=>by
   obtain⟨t,rfl⟩:=Value.isInt_shape w.2
   rw[(q.get he w.1).1]
   exact .int _ _
theorem oX(hh:P.A.handled=none){v:V}{x:Value}{us:List V}(G:Good X)(r:bl P.w v x)(e:copyOf P.H v=some us)(k:Kn P post Q)(p:tL us P.H post):wpAny X.M P.A (call (.type "list") [x]) Q P.Ex P.s:=by
 refine gT.k p λhz p=>?_
 have hz:=cO (cf hz)
 have seq:∀{a xs T o c},T="list"\/T="tuple"->P.s.heap.get? a=some o->o.cls=.type T->o.data=.seq (List.toArray xs) c->bJ P.w us xs->wpAny X.M P.A (call (.type "list") [.ref a]) Q P.Ex P.s:=λt1 t2 t3 t4 r=>
  call_list_seq _ t1 t2 t3 t4 (λh2 c' w1 w2=>k.list w1 _ (zJ P) w2 r hz p P.s.toks) (by rw[size_toArray,<-r.length];unfold sizeLine;exact le_trans hz (by decide))
 unfold copyOf at e
 cases ed:mj P.H v with
 |some es=>
  rw[ed] at e;cases e
  exact vv r G ed (λx=>wpAny X.M P.A (call (.type "list") [x]) Q P.Ex P.s) λl ep a kvs ev hl ha hD q hs hn=>hD.dictAt.elim λepc OS=>
   OK hh hs OS (by rw[<-q.length];unfold sizeLine;exact le_trans hn (by decide)) λh2 kQ acc c' w1 w2 w3=>k.list (xs:=acc.toList) w1 _ (zJ P) (by rw[w2]) (OR q w3) hz p kQ
 |none=>
  rw[ed] at e
  cases et:sC v with
  |some vs=>rw[et] at e;cases e;exact sC.k et (λv=>bl P.w v x->_) (λr=>r.inv (λx=>wpAny X.M P.A (call (.type "list") [x]) Q P.Ex P.s) λa m xs h1 h2 Z Z=>seq (.inr rfl) h1 rfl rfl h2) r
  |none=>rw[et] at e;exact bH r e (λx=>wpAny X.M P.A (call (.type "list") [x]) Q P.Ex P.s) λZ a xs m Z Z Z h1 h2 Z=>seq (.inl rfl) h1 rfl rfl h2
theorem OT(hh:σ.f.hd=false){a:E}{g e:Expr}{pos:Pos}(G:Good X)(hg:fv σ.f "list" g=true)(h:fP σ [a] [e]):ct σ (.listOf a) (.Call g [e] [] pos):=λP post Q p k=>
 vG (post:=λvs H=>w1 vs λx=>aI (copyOf H x) λvs=>tL vs H post) G hg (i6 5 (by decide)) ⟨_,rfl⟩ h p (λvs H1 p1 Z N xs r=>w1.k p1 (λvs=>bJ N.w vs xs->_) (λv p1 r=>r.k1 (λxs=>wpAny X.M P.A (call (.type "list") xs) Q P.Ex N.s) λx r=>aI.k p1 λus e p1=>oX (P:=N.pt) (P.calm hh) G r e (k.nx N) p1) r)
end
theorem Cd{α:Type}:∀{ps:List Str} {xs:List α} {i:Nat} {x:Str} {v:α},ps.Nodup->ps[i]?=some x->xs[i]?=some v->(ps.zip xs).lookup x=some v
 |[],_,i,x,v,_,h,_=>bV getElem?_nil h
 |p::ps,[],i,x,v,_,_,h=>bV getElem?_nil h
 |p::ps,y::xs,0,x,v,_,h1,h2=>by rw[List.zip_cons_cons,<-dA h1,List.lookup_cons_self];exact h2
 |p::ps,y::xs,i+1,x,v,hn,h1,h2=>by
  have hn:=lF.mp hn
  rw[List.zip_cons_cons,mR,show(x==p)=false from pO.mpr λe=>hn.1 (e▸iz h1)]
  exact Cd (i:=i) hn.2 h1 h2
theorem Hl{α:Type}:∀{ps:List Str} {xs:List α} {f:Str->Option α},ps.length=xs.length->(∀(i:Nat) (x:Str) (v:α),ps[i]?=some x->xs[i]?=some v->f x=some v)->ps.filterMap (λn=>(f n).map (n,·))=ps.zip xs
 |[],[],_,_,_=>rfl
 |[],_::_,_,h,_=>nomatch h
 |_::_,[],_,h,_=>nomatch h
 |p::ps,x::xs,f,h,hf=>by
  rw[List.filterMap_cons,hf 0 p x rfl rfl]
  exact bU ((p,x)::·) (Hl (Nat.succ.inj h) λi y v h1 h2=>hf (i+1) y v h1 h2)
theorem OU{α:Type}{ps:List Str}{xs:List α}(hn:ps.Nodup)(hl:ps.length=xs.length):((ps.filter λn=>((ps.zip xs).lookup n).isNone).isEmpty)=true:=by
 rw[isEmpty_iff,filter_eq_nil_iff]
 intro x hx h
 obtain⟨i,hi,rfl⟩:=List.getElem_of_mem hx
 rw[Cd hn (fL hi) (fL (hl▸hi))] at h
 cases h
noncomputable abbrev zK(ar:List Arg):Arguments:=⟨[],ar,none,[],[],none,[]⟩
theorem OV{a:Arguments}{ps:List Str}(h:Bx a ps=true)(G:Arguments->Prop)(k:∀ar:List Arg,ar.map (·.arg)=ps->G (zK ar)):G a:=
 have key:∀po ar va ko kd kw df,(po.isEmpty&&(va.isNone&&(ko.isEmpty&&(kd.isEmpty&&(kw.isNone&&(df.isEmpty&&decide (ar.map Arg.arg=ps)))))))=true->G ⟨po,ar,va,ko,kd,kw,df⟩:=λpo ar va ko kd kw df h=>
  aV h λh1 h=>aV h λh2 h=>aV h λh3 h=>aV h λh4 h=>aV h λh5 h=>aV h λh6 h=>fU (G:=λpo=>G ⟨po,ar,va,ko,kd,kw,df⟩) h1 (wR (G:=λva=>G ⟨[],ar,va,ko,kd,kw,df⟩) h2 (fU (G:=λko=>G ⟨[],ar,none,ko,kd,kw,df⟩) h3 (fU (G:=λkd=>G ⟨[],ar,none,[],kd,kw,df⟩) h4 (wR (G:=λkw=>G ⟨[],ar,none,[],[],kw,df⟩) h5 (fU (G:=λdf=>G ⟨[],ar,none,[],[],none,df⟩) h6 (k ar (cf h)))))))
 by cases a;exact key _ _ _ _ _ _ _ h
theorem OW{fd:FuncData}{ar:List Arg}{xs:List Value}(hd:fd.defaults=.none)(hp:fd.params=zK ar)(hn:(ar.map (·.arg)).Nodup)(hl:(ar.map (·.arg)).length=xs.length):bindArgs fd ⟨xs,[]⟩=pure ((ar.map (·.arg)).zip xs):=by
 obtain⟨a1,a2,a3,a4,a5,a6,a7,a8,a9,ir,YI,YJ,YK,YL,YM⟩:=fd
 cases hd;cases hp
 have hD:(([]:List Value).drop (0 - (ar.map Arg.arg).length))=[]:=drop_nil
 generalize OX:(([]:List Value).drop (0 - (ar.map Arg.arg).length))=D at hD
 change (if(decide (xs.length>(ar.map Arg.arg).length)&&true)=true then _ else(if(!((((ar.map Arg.arg).take ((ar.map Arg.arg).length - (([]:List Value).drop (0 - (ar.map Arg.arg).length)).length)).filter λn=>(((ar.map Arg.arg).zip xs).lookup n).isNone).isEmpty))=true then _ else(forIn (((ar.map Arg.arg).drop ((ar.map Arg.arg).length - (([]:List Value).drop (0 - (ar.map Arg.arg).length)).length)).zip (([]:List Value).drop (0 - (ar.map Arg.arg).length))) ((ar.map Arg.arg).zip xs) _ >>= _:Sem _)))=_
 rw[bG (λe=>absurd (cf (eJ.mp e).1) (by rw[hl];exact Nat.lt_irrefl _)),OX,hD,List.zip_nil_right,List.forIn_nil]
 rw[show(ar.map Arg.arg).length - ([]:List Value).length=(ar.map Arg.arg).length from rfl,List.take_length,bG (by rw[OU hn hl];exact gq)]
 exact bU (pure (f:=Sem)) ((bU (List.filterMap _) (dO _)).trans (Hl hl λi x v h1 h2=>Cd hn h1 h2))
theorem zL{T:Prop}(G:Good X)(k:∀{nm q bs sn sub col dd k0 k1 k2 k3 k5},X.eF.get? X.bk=some (excClassObj nm q X.bk X.bN bs [.type "object"] true sn sub false col dd k0 k1 k2 k3 k5 "object.__new__")->T):T:=by
 obtain⟨nm,q,bs,sn,sub,col,dd,k0,k1,k2,k3,k5,hC⟩:=G.bc.obj
 exact k hC
theorem Hm:∀x,x∈gK.ci->typeLookup (.type "object") x=pure none:=by
 intro x hx
 refine(?_:typeLookup (.type "object") x=pure none)
 rcases cH.mp hx with rfl|hx
 ·rw[typeLookup_type,u3];kernel_rfl
 rcases cH.mp hx with rfl|hx
 ·rw[typeLookup_type,u3];kernel_rfl
 rcases cH.mp hx with rfl|hx
 ·rw[typeLookup_type,u3];kernel_rfl
 rcases cH.mp hx with rfl|hx
 ·rw[typeLookup_type,u3];kernel_rfl
 rw[cI.mp hx,typeLookup_type,u3];kernel_rfl
section
variable{P:Pt}{v:V}{x:Value}{t:Nat}{fs:bB}
theorem book(r:bl P.w v x)(e:cc P.H v=some t)(ef:pY P.H t=some fs)(T:Value->Prop)(k:∀l a d m o,v=.ref l->P.φ[l]?=some a->P.φ[t]?=some d->P.H[t]?=some (.ci fs)->P.s.heap.get? a=some o->o.dict=some d->a≠d->P.s.heap.Inst a X.bk m->P.s.heap.Ns1 d m->vp P.w fs m->T (.ref a)):T x:=
 cellAt.k e (λu=>v=u->T x) (λl c hl hc=>sq.k (λc=>P.H[l]?=some c->v=.ref l->T x) hc (λhl ev=>P.cell (ev▸r) hl T λa ha h=>h.inv _ λo d e1 e2 e3 e4 e5=>hZ ef λc2 OY ef=>sy.k (λc2=>P.H[t]?=some c2->T (.ref a)) ef (λht=>P.R.at ht λb hb OZ=>OZ.inv _ λm n1 n2=>by
  rw[show P.φ[t]?=some d from e5] at hb;cases hb
  have dQ:a≠d:=λe'=>by
   have:l=t:=BE P.R.nodup ha (e'▸e5)
   subst this
   rw[hl] at ht;cases ht
  exact k l a d m o ev ha e5 ht e1 e4 dQ ⟨o,e1,e2,e3,.inr ⟨d,e4,dQ.symm,n1⟩⟩ n1 n2) OY) hl) rfl
theorem handed{p:Ws}{v:V}{x:Value}(r:bl p v x):handedOut x=pure x:=r.inv (λx=>handedOut x=pure x) (by cases v<;>first|rfl|exact λZ=>rfl|exact λZ Z=>rfl|exact λZ Z Z Z Z Z Z=>rfl)
theorem Hn{i:Nat}{y:Str}(h:gK.ci[i]?=some y):y∈gK.ci/\gK.ci.idxOf y=i:=by
 have hm:=iz h
 have nd:gK.ci.Nodup:=by decide
 exact⟨hm,BE nd (dZ.mpr ⟨List.idxOf_lt_length_of_mem hm,List.getElem_idxOf _⟩) h⟩
end
section
variable{σ:Lv}{a:E}{o:Expr}{i:Nat}{y:Str}{pos:Pos}
theorem O0(G:Good X)(hi:gK.ci[i]?=some y)(ho:wD o=true)(ha:ct σ a o):ct σ (.attr a i) (.Attribute o y pos):=λP post Q p k=>
 Expr.Name.elim (motive_1:=λo=>ct σ a o->wpAny X.M P.A (eval (.Attribute o y pos) P.env) Q P.Ex P.s) o (cf ho) (λn np ha=>Attribute_name (ha P _ _ p λv H1 p1 N x r=>aI.k p1 λt et p1=>aI.k p1 λfs ef p1=>aI.k p1 λu eu p1=>
  book (P:=N.pt) r et ef (λx=>wpAny X.M P.A (getAttr x y true) Q P.Ex N.s) λl b d m ob Z Z Z Z Z Z Z I Z fr=>by
   have hy:=Hn hi
   refine zL G λhC=>?_
   refine(fr.at' y hy.1).inv (v:=u) (by unfold lk;rw[hy.2];exact eu) (λz=>m y=z->_) (λz rz ez=>?_) rfl
   exact load_attr (N.R.keep _ _ hC) (G.bc.ns.keeps N.R.keep) (G.bq _ (by decide)) (G.bq _ (cF.mpr (.inr hy.1))) (Hm y hy.1) I ez (handed rz) (k _ _ p1 (N.then (N.pt.g6 (N.tk+1))) _ rz))) ha
theorem O1(x:Str):∃r,typeLookup (.type "object") x=pure r:=by
 rw[typeLookup_type]
 unfold builtinLookup
 rw[show builtinMro "object"=some [.type "object"] by rw[builtinMro_eq_fast];kernel_rfl]
 exact⟨_,rfl⟩
theorem O2{o o':Obj}(h1:o'.cls=o.cls)(h2:o'.data=o.data)(h3:o'.slots=o.slots)(h4:o'.dict=o.dict):o'=o:=by
 obtain⟨a,b,c,d⟩:=o
 obtain⟨a',b',c',d'⟩:=o'
 cases h1;cases h2;cases h3;cases h4;rfl
theorem O3{P:Pt}{v u:V}{x z:Value}{t:Nat}{fs:bB}{Q:Unit->Shared->Prop}(G:Good X)(hi:gK.ci[i]?=some y)(r:bl P.w v x)(ru:bl P.w u z)(e:cc P.H v=some t)(ef:pY P.H t=some fs)(k:∀N:Nx P (P.H.set t (.ci (fs.set i (some u)))),Q () N.s):wpAny X.M P.A (setAttr x y z) Q P.Ex P.s:=
 book r e ef (λx=>wpAny X.M P.A (setAttr x y z) Q P.Ex P.s) λl b d m ob Z hb hd ht eb ed dQ I n1 fr=>by
  have hy:=Hn hi
  refine zL G λhC=>?_
  refine store_attr PySem.F.store_object (P.R.keep _ _ hC) (G.bc.ns.keeps P.R.keep) (G.bq _ (by decide)) (G.bq _ (cF.mpr (.inr hy.1))) (Hm y hy.1) (λe'=>bV (P.R.fresh _ (iz hb)) (e'▸hC)) I (λh' qi I' hk hs=>?_) (ns:=gK.ci) (λz hz=>byContradiction λhn=>hz (fr.out z hn)) (by decide)
  refine(hs ob eb).elim λo1 x1=>?_
  have eo:o1=ob:=O2 x1.2.1 x1.2.2.1 x1.2.2.2.1 ((x1.2.2.2.2 d ed).trans ed.symm)
  subst eo
  have he:ExtBut d P.s.heap h':=λc oc hc ec=>(Classical.em (c=b)).elim (λe'=>by subst e';rw[show P.s.heap.get? c=some o1 from eb] at ec;cases ec;exact x1.1) λhn=>hk c oc hn (λo0 dx e1 e2=>by rw[eb] at e1;cases e1;rw[ed] at e2;cases e2;exact hc) ec
  have n2:h'.Ns1 d (λw=>if w=y then some z else m w):=by
   obtain⟨o2,f1,_,_,f2⟩:=I'
   rw[x1.1] at f1;cases f1
   rcases f2 with⟨f2,_⟩|⟨d',f2,_,f3⟩
   ·rw[ed] at f2;cases f2
   ·rw[ed] at f2;cases f2;exact f3
  have K:=P.vr hd he
  have vz:i<fs.length:=by rw[fr.len];exact(dZ.mp hi).1
  exact k (P.set hd he (.ci n2 ⟨by rw[kG];exact fr.len,λw hw=>by
   rw[Gh hy.1 hw hy.2 vz]
   by_cases e':w=y
   ·rw[bL e',bL e'];exact .some (ru.kp K)
   ·rw[bG e',bG e'];exact(fr.at' w hw).kp K,λw hw=>(bG λe':w=y=>hw (e'▸hy.1)).trans (fr.out w hw)⟩) qi)
theorem O4{e:E}{x:Expr}{sp:Pos}(G:Good X)(hi:gK.ci[i]?=some y)(hn:pT x=true)(ha:ct σ a o)(he:ct σ e x):SS σ (.setAttr a i e) (.Assign [.Attribute o y sp] x pos):=λP K Q ho p k=>
 plainObj_wpAny_Assign_Attribute (tR he ha P p λu v H1 p1 N z w r1 r2=>aI.k p1 λt et p1=>aI.k p1 λfs ef p1=>O3 (P:=N.pt) G hi r2 r1 et ef λN2=>k.next _ _ p1 (N.then N2).sx) (xu hn _)
theorem O5{P:Fp σ}{ap:Pos}{cs:List E}{es:List Expr}{Q:Value->Shared->Prop}(ho:tH o=true)(hl:es.length<20)(xG:(ap.endLine==pos.line)=true)(h:fP σ cs es)
  (hk:wpAny X.M P.A (eval o P.env) (λov cj=>wpAny X.M P.A (getMethod ov y (do return (<-importBound o P.env).getD true)) (λq fO=>wpAny X.M P.A (callWith pos q.1 q.2 (backTo pos (starEach es P.env)) []) Q P.Ex fO) P.Ex cj) P.Ex P.s) :
  wpAny X.M P.A (eval (.Call (.Attribute o y ap) es [] pos) P.env) Q P.Ex P.s:=by
 rw[arm_eval_Call,G8 ho]
 refine aY (gE hk (λov cj gG=>aY (wpAny_standAt ?_)) λZ Z e=>e)
 have O6:methodCallForm (es.length+([]:List Keyword).length) (backTo pos (starEach es P.env)) (backToKw pos (keywordEach [] P.env))=true:=G9 h hl P.env
 have O7:methodCallPos true o P.env ap pos=pure pos:=by unfold methodCallPos;rw[xG];rfl
 unfold methodCall
 rw[O6]
 exact aY (wpAny_holding (gE gG (λq fO jM=>aY (wpAny_of_eq O7 jM)) λZ Z e=>e))
theorem O8{f:Nat}{cs:List E}{es:List Expr}{ap:Pos}(G:Good X)(hc:vu σ.m)(hn:2*σ.m+1<=σ.n)(hh:σ.f.hd=false)(h1:gK.nI[f]?=some (true,y))(hy:y∉gK.ci)(ho:tH o=true)(xG:(ap.endLine==pos.line)=true)(hl:es.length<20)(ha:ct σ a o)(h:fP σ cs es):ct σ (.dJ f a cs) (.Call (.Attribute o y ap) es [] pos):=λP post Q p k=>
 (G.fn f _ h1).casesOn λfa fo d pm cd doc e1 e3 e4 ec e5 Z=>O5 ho hl xG h (ha P _ _ p λv H1 p1 N x r=>aI.k p1 λt et p1=>aI.k p1 λfs ef p1=>
  book (P:=N.pt) r et ef (λx=>wpAny X.M P.A (getMethod x y _) _ P.Ex N.s) λl b d m ob ev hb Z Z Z Z Z I Z fr=>by
   refine zL G λhC=>?_
   refine(O1 y).elim λr0 hB=>method_of (N.R.keep _ _ hC) (G.bc.ns.keeps N.R.keep) (G.bq _ (by decide)) (G.bq _ (by decide)) e3 (N.R.keep _ _ e4) (ec rfl) hB I (fr.out y hy) ?_
   exact Calls.callWith_function (o:=fo) (rD (h.plain P.env pos) (h.qh (P.to N) _ _ pos p1 λus H2 p2 Z N2 zs r2=>⟨⟨(N.then N2).R.keep _ _ e4,e5⟩,hc (N.then N2).pt f _ fa (v::us) (.ref b::zs) post σ.x Q (P.rn.less (pP hn)) (λZ=>P.calm hh) h1 e3 (.cons (ev▸.ref ((N2.S.pre _ _ hb))) r2) p2 (k.nx (N.then N2)) (P.kn.nx (N.then N2))⟩)))
theorem mn.under{A:Around}{n:Nat}{C:Addr}(rm:mn A (n+1)):mn (A.under (.builtin "type.__call__" ⟨[.ref C],[]⟩)) n:=
 ⟨by have:=rm.depth;refine(?_:A.depth+1+n+110<=_);lia,by have:=rm.units;refine(?_:A.units+1+5*n+200<=_);lia,rm.frames.elim λfe h=>h.elim λou h=>⟨fe,ou,by refine(?_:pushEnvs [] A.frames=_);rw[h.1];rfl,h.2⟩⟩
theorem O9{f:Nat}{g:Expr}(G:Good X)(hc:vu σ.m)(hn:2*σ.m+1<=σ.n)(hh:σ.f.hd=false)(h1:gK.nI[f]?=some (true,Str.ofString "__init__"))(hg:fv σ.f gK.cls g=true):ct σ (.new f) (.Call g [] [] pos):=λP post Q p k=>
 gc.k (G:=λg=>wpAny X.M P.A (eval (.Call g [] [] pos) P.env) Q P.Ex P.s) hg λx np hg=>aV hg λe1 ho=>(G.fn f _ h1).casesOn λfa fo d pm cd doc Z e3 e4 ec e5 Z=>by
  obtain rfl:=eq_of_beq e1
  refine wpAny_Call_NameR (vy G P G.bk ho (callWith_cls0 G.bc P.R.keep ?_))
  refine zL G λhC=>?_
  refine wpAny_call_obj_init PySem.F.objNew (P.R.keep _ _ hC) (G.bc.ns.keeps P.R.keep) e3 (P.R.keep _ _ e4) (ec rfl) λh' b dx M=>?_
  obtain⟨ob,i1,i2,i3,i4⟩:=M.inst
  have hd:=M.dict ob i1
  rcases i4 with⟨i4,_⟩|⟨d',i4,dQ,n1⟩
  ·rw[hd] at i4;cases i4
  rw[hd] at i4;cases i4
  have S1:bZ iq P.w ⟨P.φ,h'⟩:=bZ.ext (q:=P.w) .refl M.keeps
  have R1:SR ⟨P.φ,h'⟩ P.H:=SR.ext (p:=P.w) P.R M.keeps
  have a1:=P.R.new (p:=P.w) M.newD
  have a2:=P.R.new (p:=P.w) M.newX
  have R2:SR ⟨P.φ++[dx],h'⟩ (P.H++[.ci (replicate gK.ci.length none)]):=SR.adopt (p:=⟨P.φ,h'⟩) R1 a1 (λo e=>n1.elim λo' w=>w.elim λZ w=>w.elim λZ w=>by rw[show h'.get? dx=some o' from w.1] at e;cases e;exact xd w.2.1) (.ci n1 ⟨List.length_replicate,λx hx=>by rw[B1];exact .none,λZ Z=>rfl⟩)
  have e1:(P.φ++[dx])[P.H.length]?=some dx:=by rw[<-P.R.len,qN (cg _),sub_self];rfl
  have R3:=SR.adopt (p:=⟨P.φ++[dx],h'⟩) (a:=b) (c:=.obj P.H.length) R2 ⟨λhm=>(cF.mp hm).elim a2.1 λh=>dQ (cI.mp h).symm,a2.2⟩ (λo e=>by rw[show h'.get? b=some ob from i1] at e;cases e;exact pZ i2 rfl) (.obj i1 i2 i3 hd e1)
  have S3:bZ iq P.w ⟨P.φ++[dx]++[b],h'⟩:=bZ.adopt (q:=⟨P.φ++[dx],h'⟩) (bZ.adopt (q:=⟨P.φ,h'⟩) S1 M.newD) M.newX
  have fB:(P.H++[bt.ci (replicate gK.ci.length none)]).length=P.H.length+1:=by rw[bX];rfl
  have rb:bl ⟨P.φ++[dx]++[b],h'⟩ (.ref (P.H.length+1)) (.ref b):=fB▸zB R2
  refine hc ⟨P.A.under (.builtin "type.__call__" ⟨[.ref X.bk],[]⟩),P.φ++[dx]++[b],_,upd P.s h' P.s.toks,P.Ex,mn.under ((P.rn.less hn).less (by lia)),R3,λe he=>P.fr.kP S3 e (by
    obtain⟨fe,ou,hA,_⟩:=P.rm.frames
    unfold j3 at he ⊢
    rw[show(P.A.under (.builtin "type.__call__" ⟨[.ref X.bk],[]⟩)).frames=pushEnvs [] P.A.frames from rfl,hA] at he
    rw[hA];exact he)⟩ f _ fa [.ref (P.H.length+1)] [.ref b] _ _ _ (mn.under (P.rn.less hn)) (λZ=>P.calm hh) h1 e3 (.one rb) p (λv H1 p1 N x r=>?_) λZ Z h=>h.elim
  obtain⟨rfl,p1⟩:=p1
  exact r.inv (λx=>x=.none/\Q (.ref b) N.s) ⟨rfl,k _ _ p1 ⟨N.φ,N.h,N.tk,N.R,S3.trans N.S⟩ _ (rb.mono N.S)⟩
end
section
variable{σ:Lv}{k:Nat}{x w:Str}
theorem Pa{np cp ap pos:Pos}{kk:Nat}(G:Good X)(hh:σ.f.hd=false)(hx:gK.sh[k]?=some x)(ho:oH σ.f x=true):SS σ (.raise k w) (.Raise (some (.Call (.Name x np) [.Constant (.str w) kk ap] [] cp)) none pos):=λP K Q Z p Z=>by
 refine(G.ex k x hx).casesOn λCa bm newId initId B O FB hC Z Z Z=>?_
 obtain⟨tl,N,nm,q,bs,hdct,sn,sub,ab,col,dd,k0,k1,k2,k3,k5,mN,gC,gN,Ce,T⟩:=O.obj
 refine wpAny_Raise_call_subT (C:=Ca) (nm:=nm) (q:=q) (N:=N) (bs:=bs) (bm:=tl) (hdct:=hdct) (sn:=sn) (sub:=sub) (ab:=ab) (col:=col) (dd:=dd) (k0:=k0) (k1:=k1) (k2:=k2) (k3:=k3) (k5:=k5) FB (mN:=mN) (T.hasType FB.hasBase) (P.calm hh) rfl Ce (vy G P O.bound ho ⟨rfl,rD rfl (sf (wpAny_Constant_str (wpAny_items_nil ⟨rfl,show(1:Nat)<=sizeLine by decide,P.R.keep _ _ gC,gN.keeps P.R.keep,T.keeps P.R.keep,λh' e hm=>?_⟩)) rfl)⟩)
 obtain⟨t,he,_,_⟩:=hm.there
 have R1:SR ⟨P.φ,h'⟩ P.H:=SR.ext (p:=P.w) P.R hm.keeps
 exact P.kn _ _ p ⟨P.φ++[e],h',P.s.toks+1,SR.adopt (p:=⟨P.φ,h'⟩) R1 (P.R.new (p:=P.w) hm.new) (λo x=>by rw[he] at x;cases x;exact pZ rfl rfl) (.exc he hC rfl rfl (.inl rfl)),bZ.adopt (q:=⟨P.φ,h'⟩) (bZ.ext (q:=P.w) .refl hm.keeps) hm.new⟩ _ (zB R1)
theorem Pb{P:Pt}{v:V}{y:Value}{j:Nat}(r:bl P.w v y)(e:excAt P.H v=some j)(T:Value->Prop)(kk:∀l a o C,P.H[l]?=some (.exc j)->P.φ[l]?=some a->v=.ref l->P.s.heap.get? a=some o->o.cls=.ref C->X.exc[j]?=some C->T (.ref a)):T y:=
 cellAt.k e (λu=>v=u->T y) (λl c hl hc=>pV.k (λc=>P.H[l]?=some c->v=.ref l->T y) hc (λhl ev=>P.cell (ev▸r) hl T λa ha h=>h.inv _ λo C vs e1 e2 e3 Z Z=>kk l a o C hl ha ev e1 e3 e2) hl) rfl
theorem Cf{T:Prop}{C:Addr}{j:Nat}(G:Good X)(e:X.exc[j]?=some C)(kk:∀{nm q N bs bm hdct sn sub ab col dd k0 k1 k2 k3 k5 newId},X.eF.get? C=some (excClassObj nm q C N bs bm hdct sn sub ab col dd k0 k1 k2 k3 k5 newId)->bm.contains (.type "BaseException")=true->bm.contains (.type "ValueError")=true->(∀k D,X.exc[k]?=some D->(Value.ref C::bm).contains (.ref D)=hJ j k)->T):T:=by
 have hj:j<gK.sh.length:=G.FP▸(dZ.mp e).1
 refine(G.ex j _ (fL hj)).casesOn λC' bm newId initId B O FB hC hv hm Z=>?_
 rw[e] at hC;cases hC
 obtain⟨tl,N,nm,q,bs,hdct,sn,sub,ab,col,dd,k0,k1,k2,k3,k5,mN,gC,gN,Ce,T'⟩:=O.obj
 exact kk gC (T'.hasType FB.hasBase) (T'.hasType hv.1) λk D hD=>hm _ _ gC rfl k D hD
end
section
variable{A:Around}{Ex:Value->Shared->Prop}{h:Heap}{g:Array GenState}{d:Drawn}{t:Nat}{os:OsState}{a C D:Addr}{o:Obj}{nm q:Str}{N:Addr}{bs bm:List Value}{hdct:Bool}{sn:List Str}{sub:List Value}{ab:Bool}{col:Option Bool}{dd:Option Addr}{k0 k1 k2 k3 k5:Option Value}{newId:String}
abbrev oY(h:Heap)(C:Addr)(n:Str)(y:Option Value):Prop:=∀{A:Around} {Ex:Value->Shared->Prop} {g:Array GenState} {d:Drawn} {t:Nat} {os:OsState} {Q:Option Value->Shared->Prop},Q y ⟨h,g,d,t,os⟩->wpAny X.M A (typeLookup (.ref C) n) Q Ex ⟨h,g,d,t,os⟩
theorem Pc{R:Result->Shared->Prop}(hC:h.get? C=some (excClassObj nm q C N bs bm hdct sn sub ab col dd k0 k1 k2 k3 k5 newId))(hO:bm.contains (.type "object")=true)(hx:h.get? a=some o)(hc:o.cls=.ref C)(hq:R (.ok (.ret (.ref C))) ⟨h,g,d,t,os⟩):
  codeAny X.M A (.call (.builtin "getset_descriptor.__get__") ⟨[.builtin "object.__class__",.ref a,.ref C],[]⟩) R ⟨h,g,d,t,os⟩:=by
 have Hq:(⟨h,g,d,t,os⟩:Shared).TypeIs (.builtin "object.__class__") "getset_descriptor":=PySem.F.typeOf_object_class
 have ug:(Value.ref C::bm).contains (.type (".".intercalate ("object.__class__".cutAt '.').dropLast))=true:=by rw[PySem.F.owner_object_class,contains_cons,hO];rfl
 refine codeAny_call_builtin PySem.F.slot_gs_get.plain PySem.F.entry_gs_get (PySem.F.slot_gs_get.check _ _ _ _ _ _ _ _ Hq (PySem.F.args_gs_get _ _ _) ?_)
 repeat (any_goals (first|assumption|(with_reducible refine mT hx ?_;rw[hc])|(with_reducible refine tB hC ?_;rw[ug])|wp_step))
 refine⟨Code.quiet_builtin _ (by decide +kernel),codeAny_builtin PySem.F.entry_object_class ?_⟩
 repeat (any_goals (first|assumption|(with_reducible refine mT hx ?_;rw[hc])|wp_step))
theorem Pe{tk:Tok}{Q:PySem.Fin->Shared->Prop}(hC:h.get? C=some (excClassObj nm q C N bs bm hdct sn sub ab col dd k0 k1 k2 k3 k5 newId))(hO:bm.contains (.type "object")=true)(l3:oY h C "__class__" (some (.builtin "object.__class__")))(hx:h.get? a=some o)(hc:o.cls=.ref C)(hq:Q (.done (.ret (.ref C))) ⟨h,g,d,t,os⟩):
  wpAny X.M A (Builtin.«object.__getattribute__» ⟨[.ref a,.str "__class__" tk],[]⟩) Q Ex ⟨h,g,d,t,os⟩:=by
 have Hq:(⟨h,g,d,t,os⟩:Shared).TypeIs (.builtin "object.__class__") "getset_descriptor":=PySem.F.typeOf_object_class
 have f5:=PySem.F.typeOf_object_class
 have f6:=PySem.F.slot_gs_get.lookup
 have f7:=PySem.F.slot_gs_set.lookup
 repeat (any_goals (first|assumption|(with_reducible refine mT hx ?_;rw[hc])|with_reducible refine l3 ?_|wp_step))
 refine Pc hC hO hx hc ?_
 repeat (any_goals (first|assumption|wp_step))
theorem Pf{nameV:Value}{Q:Unit->Shared->Prop}(hC:h.get? C=some (excClassObj nm q C N bs bm hdct sn sub ab col dd k0 k1 k2 k3 k5 newId))(hB:bm.contains (.type "BaseException")=true)(hx:h.get? a=some o)(hc:o.cls=.ref C)(hq:Q () ⟨h,g,d,t,os⟩):wpAny X.M A (checkBuiltinCall "BaseException.__getattribute__" ⟨[.ref a,nameV],[]⟩) Q Ex ⟨h,g,d,t,os⟩:=by
 have hk:builtinKind "BaseException.__getattribute__"=some .slot:=by decide +kernel
 have Pg:splitId "BaseException.__getattribute__"=some ("BaseException","__getattribute__"):=by decide +kernel
 have ug:(Value.ref C::bm).contains (.type "BaseException")=true:=by rw[contains_cons,hB];rfl
 have ha:=PySem.F.args_bexc_ga (.ref a) nameV
 simp only[checkBuiltinCall,hk,Pg]
 refine aY ?_
 unfold isInstance
 repeat (first|(with_reducible refine mT hx ?_;rw[hc])|(with_reducible refine tB hC ?_;rw[ug])|wp_step)
 exact hq
theorem Ph{tk:Tok}{fill expr:Bool}{Q:Value->Shared->Prop}(hC:h.get? C=some (excClassObj nm q C N bs bm hdct sn sub ab col dd k0 k1 k2 k3 k5 newId))(hB:bm.contains (.type "BaseException")=true)(hO:bm.contains (.type "object")=true)(l1:oY h C "__getattribute__" (some (.builtin "BaseException.__getattribute__")))(l2:oY h C "__getattr__" none)(l3:oY h C "__class__" (some (.builtin "object.__class__")))(hx:h.get? a=some o)(hc:o.cls=.ref C)(hq:Q (.ref C) ⟨h,g,d,t,os⟩):wpAny X.M A (getAttrBy (.ref a) (.str "__class__" tk) fill expr) Q Ex ⟨h,g,d,t,os⟩:=by
 have ga:=PySem.F.attr_ValueError.ga
 have f3:=ga.bind (.ref a)
 have YN:(expr&&onTheHeap (Value.builtin "BaseException.__getattribute__"))=false:=by cases expr<;>rfl
 have Pj:(Value.builtin "BaseException.__getattribute__"==Value.builtin "object.__getattribute__")=false:=by decide +kernel
 have YO:(onTheHeap (Value.ref C)&&Value.builtin "BaseException.__getattribute__"==Value.builtin "object.__getattribute__")=false:=by rw[Pj];rfl
 repeat (any_goals (first|assumption|(with_reducible refine mT hx ?_;rw[hc])|with_reducible refine l1 ?_|with_reducible refine l2 ?_|wp_step))
 refine codeAny_call_builtin ga.plain PySem.F.entry_bexc_ga (Pf hC hB hx hc (Pe hC hO l3 hx hc ?_))
 repeat (any_goals (first|assumption|wp_step))
theorem Pk{Q:Option Value->Shared->Prop}(hC:h.get? C=some (excClassObj nm q C N bs bm hdct sn sub ab col dd k0 k1 k2 k3 k5 newId))(hB:bm.contains (.type "BaseException")=true)(hO:bm.contains (.type "object")=true)(l1:oY h C "__getattribute__" (some (.builtin "BaseException.__getattribute__")))(l2:oY h C "__getattr__" none)(l3:oY h C "__class__" (some (.builtin "object.__class__")))(hx:h.get? a=some o)(hc:o.cls=.ref C)(hq:Q (some (.ref C)) ⟨h,g,d,t+1,os⟩):wpAny X.M A (getAttr? (.ref a) "__class__") Q Ex ⟨h,g,d,t,os⟩:=by
 unfold getAttr? getAttrBy?
 repeat (any_goals (first|assumption|with_reducible apply Ph hC hB hO l1 l2 l3 hx hc|wp_step))
theorem Pl{dep:Int}{tk:Tok}{b:Bool}{vv:Option Addr}{cd:ClassData}{sl:Array (Option Value)}{Q:PySem.Fin->Shared->Prop}(hC:h.get? C=some (excClassObj nm q C N bs bm hdct sn sub ab col dd k0 k1 k2 k3 k5 newId))(hB:bm.contains (.type "BaseException")=true)(hO:bm.contains (.type "object")=true)(l1:oY h C "__getattribute__" (some (.builtin "BaseException.__getattribute__")))(l2:oY h C "__getattr__" none)(l3:oY h C "__class__" (some (.builtin "object.__class__")))(hx:h.get? a=some o)(hc:o.cls=.ref C)(hD:h.get? D=some {cls:=.type "type",dict:=vv,data:=.cls cd,slots:=sl})(hb:(Value.ref C::bm).contains (.ref D)=b)(hq:∀qi,Q (.done (.ret (.bool b))) ⟨h,g,d,qi,os⟩):
  wpAny X.M A (Builtin.«isinstance.nested» ⟨[.ref a,.ref D,.int dep tk],[]⟩) Q Ex ⟨h,g,d,t,os⟩:=by
 cases he:(Value.ref C==Value.ref D) with
 |true=>
  have zM:b=true:=by rw[<-hb,contains_cons,show(Value.ref D==Value.ref C)=true from beq_iff_eq.mpr (beq_iff_eq.mp he).symm,Bool.true_or]
  subst zM
  repeat (any_goals (first|assumption|(with_reducible refine mT hx ?_;rw[hc])|wp_step))
  exact hq _
 |false=>
  cases b with
  |true=>
   repeat (any_goals (first|assumption|(with_reducible refine mT hx ?_;rw[hc])|with_reducible refine mT hD ?_|(with_reducible refine tB hC ?_;rw[hb])|wp_step))
   exact hq _
  |false=>
   repeat (any_goals (first|assumption|(with_reducible refine mT hx ?_;rw[hc])|with_reducible refine mT hD ?_|(with_reducible refine tB hC ?_;rw[hb])|with_reducible apply Pk hC hB hO l1 l2 l3 hx hc|wp_step))
   exact hq _
theorem Pm{dep:Int}{tk:Tok}{Q:PySem.Fin->Shared->Prop}(hC:h.get? C=some (excClassObj nm q C N bs bm hdct sn sub ab col dd k0 k1 k2 k3 k5 newId))(hV:bm.contains (.type "ValueError")=true)(hx:h.get? a=some o)(hc:o.cls=.ref C)(hq:Q (.done (.ret (.bool true))) ⟨h,g,d,t,os⟩):
  wpAny X.M A (Builtin.«isinstance.nested» ⟨[.ref a,.type "ValueError",.int dep tk],[]⟩) Q Ex ⟨h,g,d,t,os⟩:=by
 have YQ:typeOf (.type "ValueError")=pure (.type "type"):=by kernel_rfl
 have ug:(Value.ref C::bm).contains (.type "ValueError")=true:=by rw[contains_cons,hV];rfl
 repeat (any_goals (first|assumption|(with_reducible refine mT hx ?_;rw[hc])|(with_reducible refine tB hC ?_;rw[ug])|wp_step))
end
section
variable{σ:Lv}{a:E}{e nm g:Expr}{pos:Pos}
inductive zN:Option Nat->Value->Prop
 |own {k:Nat} {D:Addr}:X.exc[k]?=some D->zN (some k) (.ref D)
 |ve:zN none (.type "ValueError")
theorem Pn{P:Pt}{v:V}{y c:Value}{j:Nat}{Q:Value->Shared->Prop}{k:Option Nat}(G:Good X)(hk:zN k c)(r:bl P.w v y)(ej:excAt P.H v=some j)(kq:∀tk,Q (.bool (FV j k)) (upd P.s P.s.heap tk)):wpAny X.M P.A (call (.builtin "isinstance") [y,c]) Q P.Ex P.s:=
 Pb r ej (λy=>wpAny X.M P.A (call (.builtin "isinstance") [y,c]) Q P.Ex P.s) λl a o C hl ha ev e1 e2 e3=>by
  have hj:j<gK.sh.length:=G.FP▸(dZ.mp e3).1
  refine(G.ex j _ (fL hj)).casesOn λC' bm newId initId B O FB hC hv hm lk=>?_
  obtain rfl:C=C':=dA (e3.symm.trans hC)
  obtain⟨tl,N,nm,q,bs,hdct,sn,sub,ab,col,dd,k0,k1,k2,k3,k5,mN,gC,gN,Ce,T'⟩:=O.obj
  have hO:tl.contains (.type "object")=true:=T'.hasType hv.2
  obtain⟨A,φ,H,⟨hp,gs,d,t,os⟩,Ex,rm,R,fr⟩:=P
  have l:∀q,q∈yQ->oY hp C q.1 q.2:=λq hq Z Z Z Z Z Z Z z=>lk q hq _ _ _ _ _ _ _ _ R.keep z
  cases hk with
  |own hD=>exact Cf G hD λgD Z Z Z=>call_isinstance_of (Pl (R.keep _ _ gC) (T'.hasType FB.hasBase) hO (l _ (.head _)) (l _ (.tail _ (.head _))) (l _ (.tail _ (.tail _ (.head _)))) e1 e2 (R.keep _ _ gD) (hm _ _ gC rfl _ _ hD) kq) (λh=>by cases h)
  |ve=>exact call_isinstance_of (Pm (R.keep _ _ gC) (T'.hasType hv.1) e1 e2 (kq _)) (λh=>by cases h)
end
section
variable{σ:Lv}{a b c:E}{e nm g t y z:Expr}{pos:Pos}{k:Option Nat}
theorem Po(hc:vt σ c t)(ha:b9 σ a y)(hb:b9 σ b z):b9 σ (.br c a b) (.IfExp t y z pos):=
 ⟨λP post Q p k=>IfExp_ (hc P _ _ p λv H1 p1=>p1.m λt p1 N=>by
  cases t
  ·exact hb.1 (P.to N) _ _ p1 (k.nx N)
  ·exact ha.1 (P.to N) _ _ p1 (k.nx N)),λP post Q p k=>isTrue_IfExp (hc P _ _ p λv H1 p1=>p1.m λt p1 N=>by
  cases t
  ·exact hb.2 (P.to N) _ _ p1 (k.nx N)
  ·exact ha.2 (P.to N) _ _ p1 (k.nx N))⟩
theorem Hs{T:Expr->Prop}(G:Good X)(hn:tI σ.f k nm=true)(kk:∀y p,(∀(P:Fp σ) (Q:Value->Shared->Prop),(∀c,zN k c->Q c P.s)->wpAny X.M P.A (eval (.Name y p) P.env) Q P.Ex P.s)->T (.Name y p)):T nm:=by
 cases k with
 |none=>
  exact gc.k (G:=T) hn λx np h=>aV h λe1 ho=>kk x np λP Q kq=>by
   obtain rfl:=eq_of_beq e1
   exact sJ G P (y:=.type "ValueError") (i6 8 (by decide)) ho (kq _ .ve)
 |some k=>exact gc.k (G:=T) hn λx np h=>aV h λe1 ho=>kk x np λP Q kq=>(G.ex k x (cf e1)).casesOn λC bm newId initId B O FB hC hv hm lk=>vy G P O.bound ho (kq _ (.own hC))
theorem Pp(G:Good X)(hg:fv σ.f "isinstance" g=true)(hn:tI σ.f k nm=true)(h0:cy σ.f c e=true)(he:ct σ c e):ct σ (.mW k c) (.Call g [e,nm] [] pos):=λP post Q p kq=>
 gc.k (G:=λg=>wpAny X.M P.A (eval (.Call g [e,nm] [] pos) P.env) Q P.Ex P.s) hg λx np hg=>aV hg λe1 ho=>Hs (T:=λnm=>wpAny X.M P.A (eval (.Call (.Name x np) [e,nm] [] pos) P.env) Q P.Ex P.s) G hn λy yp hy=>by
  obtain rfl:=eq_of_beq e1
  have ql:(backTo pos (starEach [e,.Name y yp] P.env)).any (·.1)=false:=by rw[sL h0 P.env];rfl
  refine wpAny_Call_NameR (sJ G P (i6 1 (by decide)) ho (Calls.callWith_builtin ql (rD ql (sf (he P _ _ p (λv H1 p1 N x r=>?_)) (sL h0 P.env _)))))
  exact sf (hy (P.to N) _ λc hc=>wpAny_items_nil (aI.k p1 λj ej p1=>Pn (P:=N.pt) G hc r ej λtk=>(kq.nx N).now p1 (.bool _) tk)) rfl
end
section
variable{M:Model}{A:Around}{E:Value->Shared->Prop}{h:Heap}{g:Array GenState}{d:Drawn}{t:Nat}{os:OsState}{e C D:Addr}{oe:Obj}{nm q:Str}{N:Addr}{bs bm:List Value}{hdct:Bool}{sn:List Str}{sub:List Value}{ab:Bool}{col:Option Bool}{dd:Option Addr}{k0 k1 k2 k3 k5:Option Value}{newId:String}{Pq q':Str}{N':Addr}{rt Cg:List Value}{Ps:Bool}{Pu:List Str}{sub':List Value}{Pw:Bool}{col':Option Bool}{Px:Option Addr}{Py Pz PA PB PC:Option Value}{newId':String}
theorem PD{Q:Bool->Shared->Prop}(hC:h.get? C=some (excClassObj nm q C N bs bm hdct sn sub ab col dd k0 k1 k2 k3 k5 newId))(hD:h.get? D=some (excClassObj Pq q' D N' rt Cg Ps Pu sub' Pw col' Px Py Pz PA PB PC newId'))(he:h.get? e=some oe)(PE:oe.cls=.ref C)(PF:Cg.contains (.type "BaseException")=true)(hb:(Value.ref C::bm).contains (.ref D)=true)
  (hq:Q true ⟨h,g,d,t,os⟩):wpAny M A (excMatches (.ref e) (.ref D)) Q E ⟨h,g,d,t,os⟩:=by
 have ug:(Value.ref D::Cg).contains (.type "BaseException")=true:=by rw[contains_cons,PF,Bool.or_true]
 have f:=tc_notTuple
 unfold excMatches
 repeat (first|(with_reducible refine mT he ?_;rw[PE])|with_reducible refine mT hD ?_|(with_reducible refine tB hD ?_;rw[ug])|(with_reducible refine tB hC ?_;rw[hb])|wp_step)
 exact hq
end
section
variable{σ:Lv}{r:Option dq}{e h:E}{k i j l:Nat}{b:Stmt}{t x:Expr}{n:Str}{rp hp pos:Pos}{K:Out->Prop}{Q:Flow->Shared->Prop}
noncomputable abbrev Lv.hd(σ:Lv):Lv:=⟨σ.n,σ.m,⟨σ.f.sc,σ.f.ns,true⟩,λZ Z=>False⟩
noncomputable abbrev Fp.hd(P:Fp σ)(y:Value):Fp σ.hd:=
 ⟨⟨P.A.mark (some y),P.φ,P.H,P.s,NE,⟨P.rm.depth,P.rm.units,P.rm.frames⟩,P.R,P.fr⟩,P.env,P.ρ,P.own,P.kd,P.F,⟨P.rn.depth,P.rn.units,P.rn.frames⟩,P.hf,λh=>(nomatch h),λZ Z h=>h.elim⟩
theorem PG{P:Fp σ}{a:Addr}(G:Good X)(ht:tI σ.f (some k) t=true)(hn:nJ σ.f.ns i n=true)(vL:σ.f.sc.names.lookup n=some .local)(hx:ct σ.hd h x)(hl:P.H[l]?=some (.exc j))(ha:P.φ[l]?=some a)(hT:tX P.w a)(hs:hJ j k=true)(ho:vB P.env P.own σ.f.ns)(p:WE σ.hd.c h (P.ρ.set i (some (.ref l))) P.H λr H=>K (.ret r H))(kq:KO P K Q):
  wpAny X.M P.A (handleBy (.ref a) P.env [.ExceptHandler (some t) (some n) [.Return (some x) rp] hp]) Q P.Ex P.s:=by
 refine wpAny_handleBy_cons (codeAny_handlers_test ?_) (λe=>nomatch e)
 refine Hs (σ:=σ.hd) (k:=some k) (T:=λt=>wpAny X.M (P.A.mark (some (.ref a))) (eval t P.env) _ _ P.s) G ht λy yp hy=>xk (hy (P.hd (.ref a)) _ λc hc=>?_)
 cases hc with
 |own hD=>
  refine P.R.at hl λa' qq hc=>?_
  rw[show P.φ[l]?=some a' from qq] at ha;cases ha
  refine hc.inv _ λoe Ca vs e1 e2 e3 e4 e5=>Cf G e2 λgC Z Z hm=>Cf G hD λgD hB Z Z=>?_
  refine PD (P.R.keep _ _ gC) (P.R.keep _ _ gD) e1 e3 hB ((hm _ _ hD).trans hs) (codeAny_handlers_suite_as ?_)
  refine zw (P:=(P.hd (.ref a)).toPt) hT qq λN hN=>?_
  refine nJ.k hn λhi vK=>?_
  have qr:=ho.1 n vK
  refine Gi (P:=(P.hd (.ref a)).to N) hi vK qr (.ref (N.S.pre _ _ qq)) λN2=>?_
  refine wpAny_execs_cons (wpAny_Return_some (xk (hx N2.fp _ _ p λv H1 p1 N3 y r=>?_)))
  have hk:P.env.kindOf n=some .local:=by
   rcases P.kd n with e|⟨e,_⟩
   ·rw[<-e];exact vL
   ·rw[vL] at e;cases e
  have sN:P.own P.env.locals:=by
   rcases qr with h|h
   ·exact h.2
   ·rw[hk] at h;cases h.1
  have F3:=N2.F.mono N3.S λZ Z h=>h
  obtain⟨m,vM,_⟩:=F3.loc
  refine wpAny_nameGoes hk vM (by rw[P.F.fc.fn];rfl) λh' m' PH nU=>?_
  have c:Ch (·=P.env.locals) N3.h h':=.but nU.extBut λo e=>vM.elim λo' q=>q.elim λZ q=>q.elim λZ q=>by rw[q.1] at e;cases e;exact xd q.2.1
  have S3:bZ P.own P.w N3.w:=(N.S.nil.trans N2.S).trans N3.S.nil
  have S4:bZ P.own N3.w ⟨N3.φ,h'⟩:=bZ.ch (io:=(·=P.env.locals)) (q:=N3.w) .refl c λb hb=>.inr (hb▸⟨sN,PH.imp λo q=>q.elim λZ q=>q.elim λZ q=>⟨q.1,λZ Z Z=>y4 q.2.1⟩⟩)
  exact kq.ret _ _ p1 N3.φ h' _ (N3.R.ch (p:=N3.w) (io:=(·=P.env.locals)) (λb hb=>hb▸F3.ap _ (.inl rfl)) c) (S3.trans S4) _ (r.mono S4)
theorem PI{P:Fp σ}(G:Good X)(ht:tI σ.f (some k) t=true)(hn:nJ σ.f.ns i n=true)(vL:σ.f.sc.names.lookup n=some .local)(hx:ct σ.hd h x)(ho:vB P.env P.own σ.f.ns)(kq:KO P K Q):
  tP iq P.w P.s (λv H=>aI (excAt H v) λj=>hJ j k=true/\WE σ.c.no h (P.ρ.set i (some v)) H λr H=>K (.ret r H))
   (λe cj=>wpAny X.M P.A (noteFrame e P.env) (λZ fO=>wpAny X.M P.A (setFlight e none) (λZ nP=>wpAny X.M P.A (handleBy e P.env [.ExceptHandler (some t) (some n) [.Return (some x) rp] hp]) Q P.Ex nP) P.Ex fO) P.Ex cj):=λv H p φ hh tk R S y ry=>
 aI.k p λj ej p1=>cellAt.k ej (λu=>v=u->wpAny X.M P.A (noteFrame y P.env) _ P.Ex (upd P.s hh tk)) (λl c hl hc=>pV.k (λc=>H[l]?=some c->v=.ref l->wpAny X.M P.A (noteFrame y P.env) _ P.Ex (upd P.s hh tk)) hc (λhl ev=>by
  subst ev
  have N:Nx P.toPt H:=⟨φ,hh,tk,R,S⟩
  refine ry.inv (λy=>wpAny X.M P.A (noteFrame y P.env) (λZ fO=>wpAny X.M P.A (setFlight y none) (λZ nP=>wpAny X.M P.A (handleBy y P.env [.ExceptHandler (some t) (some n) [.Return (some x) rp] hp]) Q P.Ex nP) P.Ex fO) P.Ex (upd P.s hh tk)) λa ha=>?_
  refine BZ (P:=(⟨φ,hh,tk,R,S⟩:Nx P.toPt H).pt) P.hf hl ha λN1 h1=>zw (P:=N1.pt) h1 (N1.S.pre _ _ ha) λN2 h2=>?_
  exact PG (P:=P.to ((⟨φ,hh,tk,R,S⟩:Nx P.toPt H).then (N1.then N2))) G ht hn vL hx hl (N2.S.pre _ _ (N1.S.pre _ _ ha)) h2 p1.1 ho p1.2 (kq.nx ((⟨φ,hh,tk,R,S⟩:Nx P.toPt H).then (N1.then N2)).sx)) hl) rfl
noncomputable abbrev Fp.Ht(P:Fp σ)(x:PQ)(Ex:Value->Shared->Prop)(kx:tP iq P.w P.s x Ex):Fp (σ.ex x):=⟨⟨P.A,P.φ,P.H,P.s,Ex,P.rm,P.R,P.fr⟩,P.env,P.ρ,iq,P.kd,P.F,P.rn,P.hf,P.calm,kx⟩
theorem PJ(G:Good X)(ht:tI σ.f (some k) t=true)(hn:nJ σ.f.ns i n=true)(vL:σ.f.sc.names.lookup n=some .local)(hx:ct σ.hd h x)(hb:FL σ.f r e b=true)(he:∀x' y,cy σ.f e x'=true->ct (σ.ex y) e x'):SS σ (.jI r e k i h) (.Try [b] [.ExceptHandler (some t) (some n) [.Return (some x) rp] hp] [] [] pos):=λP K Q ho p kq=>by
 refine wpAny_Try_except (wpAny_execs_cons ?_)
 have kx:=PI (rp:=rp) (hp:=hp) G ht hn vL hx ho kq
 cases r with
 |none=>exact qX.k (G:=λb=>wpAny X.M P.A (exec b P.env) _ _ P.s) hb λx' PK h=>gS.k (G:=λx'=>wpAny X.M P.A (exec (.Return x' PK) P.env) _ _ P.s) h λx' h=>wpAny_Return_some (he x' _ h (P.Ht _ _ kx) _ _ p λv H1 p1 N y ry=>kq.ret _ _ p1 _ _ _ N.R N.S.nil _ ry)
 |some t=>
  exact oK.k (G:=λb=>wpAny X.M P.A (exec b P.env) _ _ P.s) hb λts x' ap h=>if1.k (G:=λts=>wpAny X.M P.A (exec (.Assign ts x' ap) P.env) _ _ P.s) h λtg h=>aV h λh1 h=>aV h λh2 h=>aV h λh3 h4=>by
   refine wpAny_Assign_stores (he x' _ h2 (P.Ht _ _ kx) _ _ p (λv H1 p1 N y ry=>aI.k p1 λck ha p1=>?_)) (xu h3 _) ?_
   ·rw[zp h1 []]
    exact xk (vA t tg (P.no.to (⟨N.φ,N.h,N.tk,N.R,N.S⟩:Nx P.no.toPt H1)) v y ck _ h1 (λz hz=>ho.1 z (xt t tg h1 z hz)) ry ha λN'=>wpAny_execs_nil (wpAny_execs_nil (kq.next _ _ p1 ⟨N'.φ,N'.h,N'.tk,N'.R,N'.F,N.S.nil.trans N'.S⟩)))
   ·cases t with
    |J i=>exact gc.k (G:=λtg=>swappedStores [tg] x' P.env=pure none) h1 λZ Z Z=>rfl
    |aC ts=>exact oI.k (G:=λtg=>vh tg x'=true->swappedStores [tg] x' P.env=pure none) h1 (λZ Z Z Z hx=>by cases x'<;>first|rfl|cases hx) h4
end
def Ok(σ:Lv):Prop:=Good X/\vu σ.m/\2*σ.m+1<=σ.n
def RE(c:E):Prop:=∀(σ:Lv) (e:Expr),Ok σ->cy σ.f c e=true->b9 σ c e
def sP(c:It):Prop:=∀(σ:Lv) (e:Expr),Ok σ->yO σ.f c e=true->lM σ c e
def lN(c:List E):Prop:=∀(σ:Lv) (e:List Expr),Ok σ->ip σ.f c e=true->fP σ c e
def RO(c:Option E):Prop:=∀(σ:Lv) (e:Option Expr),Ok σ->Bz σ.f c e=true->ud σ c e
section
variable{a b c:E}{es:List E}
theorem nt{b:Bool}(h:(!b)=true):b=false:=jj _▸h
theorem PM{v:V}:RE (.k v):=λσ e og h=>qU.k (G:=λe=>b9 σ _ e) h λc k p h=>(Mx (cf h)).t λZ=>rfl
theorem PN{i:Nat}:RE (.J i):=λσ e og h=>gc.k (G:=λe=>b9 σ _ e) h λx p h=>(Mq h).t λZ=>rfl
theorem PO{j:Nat}:RE (.gk j):=λσ e og h=>gc.k (G:=λe=>b9 σ _ e) h λx p h=>aV h λh1 h2=>(Mr og.1 (cf h1) h2).t λZ=>rfl
theorem PP{op:oE}(ra:RE a)(rb:RE b):RE (.bin op a b):=λσ e og h=>wG.k (G:=λe=>b9 σ _ e) h λl o r p h=>aV h λh1 h=>aV h λh2 h3=>cf h1▸(My og.1 (ra σ l og h2).1 (rb σ r og h3).1).t λZ=>rfl
theorem PR(ra:RE a):RE (.neg a):=λσ e og h=>tF.k (G:=λe=>b9 σ _ e) h λo y p h=>aV h λh1 h=>cf h1▸(Mz (ra σ y og h).1).t λZ=>rfl
theorem PS(ra:RE a):RE (.not a):=λσ e og h=>tF.k (G:=λe=>b9 σ _ e) h λo y p h=>aV h λh1 h=>cf h1▸MA (ra σ y og h)
theorem PT(r:lN es):RE (.and es):=λσ e og h=>tG.k (G:=λe=>b9 σ _ e) h λo xs p h=>aV h λh1 h=>cf h1▸Ge (w:=true) (r σ xs og h) λZ Z Z p=>p
theorem PU(r:lN es):RE (.or es):=λσ e og h=>tG.k (G:=λe=>b9 σ _ e) h λo xs p h=>aV h λh1 h=>cf h1▸Ge (w:=false) (r σ xs og h) λZ Z Z p=>p
theorem PV{op:nG}(ra:RE a)(rb:RE b):RE (.cmp op a b):=λσ e og h=>qV.k (G:=λe=>b9 σ _ e) h λl os rs p h=>if1.k (G:=λos=>b9 σ _ (.Compare l os rs p)) h λo h=>if1.k (G:=λrs=>b9 σ _ (.Compare l [o] rs p)) h λr h=>aV h λh1 h=>aV h λh2 h3=>cf h1▸MB og.1 h3 (ra σ l og h2).1 (rb σ r og h3).1
theorem PW{op qR:nG}(ra:RE a)(rb:RE b)(rc:RE c):RE (.jm op qR a b c):=λσ e og h=>qV.k (G:=λe=>b9 σ _ e) h λl os rs p h=>if2.k (G:=λos=>b9 σ _ (.Compare l os rs p)) h λo o' h=>if2.k (G:=λrs=>b9 σ _ (.Compare l [o,o'] rs p)) h λr r' h=>aV h λh1 h=>aV h λBO h=>aV h λh2 h=>aV h λh3 h4=>cf h1▸cf BO▸MC og.1 h4 (ra σ l og h2).1 (rb σ r og h3).1 (rc σ r' og h4).1
theorem PX{w:Bool}(ra:RE a):RE (.isNone w a):=λσ e og h=>qV.k (G:=λe=>b9 σ _ e) h λl os rs p h=>if1.k (G:=λos=>b9 σ _ (.Compare l os rs p)) h λo h=>aV h λh1 h=>if1.k (G:=λrs=>b9 σ _ (.Compare l [o] rs p)) h λr h=>qU.k (G:=λr=>b9 σ _ (.Compare l [o] [r] p)) h λc k kp h=>aV h λh2 h=>cf h1▸cf h2▸MD (ra σ l og h).1
theorem PY(r:lN es):RE (.aC es):=λσ e og h=>oI.k (G:=λe=>b9 σ _ e) h λxs k p h=>aV h λh1 h=>(ME (cf h1) (r σ xs og h)).t λZ=>rfl
theorem PZ(r:lN es):RE (.bH es):=λσ e og h=>wH.k (G:=λe=>b9 σ _ e) h λxs p h=>aV h λh1 h=>(MF (cf h1) (r σ xs og h)).t λZ=>rfl
theorem P0(ra:RE a)(rb:RE b):RE (.aP a b):=λσ e og h=>qW.k (G:=λe=>b9 σ _ e) h λv s p h=>aV h λh1 h2=>(MH og.1 h2 (ra σ v og h1).1 (rb σ s og h2).1).t λZ=>rfl
theorem P1{lo hi:Option E}(ra:RE a)(rl:RO lo)(rh:RO hi):RE (.iN a lo hi):=λσ e og h=>qW.k (G:=λe=>b9 σ _ e) h λv s p h=>wI.k (G:=λs=>b9 σ _ (.Subscript v s p)) h λl u t sp h=>aV h λh0 h=>aV h λh1 h=>aV h λh2 h3=>wR (G:=λt=>b9 σ _ (.Subscript v (.Slice l u t sp) p)) h0 ((NY og.1 (ra σ v og h1).1 (rl σ l og h2) (rh σ u og h3)).t λZ=>rfl)
theorem P2{f:Nat}(r:lN es):RE (.call f es):=λσ e og h=>gR.k (G:=λe=>b9 σ _ e) h λg xs kws p h=>aV h λh0 h=>fU (G:=λkws=>b9 σ _ (.Call g xs kws p)) h0 (gc.k (G:=λg=>b9 σ _ (.Call g xs [] p)) h λx np h=>aV h λh1 h=>aV h λh2 h=>aV h λh4 h3=>(MI og.1 og.2.1 og.2.2 (cf h1) h2 h4 (r σ xs og h3)).t λZ=>rfl)
theorem P4:RE .qS:=λσ e og h=>qY.k (G:=λe=>b9 σ _ e) h λks vs p h=>aV h λh1 h2=>fU (G:=λks=>b9 σ _ (.Dict ks vs p)) h1 (fU (G:=λvs=>b9 σ _ (.Dict [] vs p)) h2 ((ON og.1).t λZ=>rfl))
theorem P5:RE .oG:=λσ e og h=>qY.k (G:=λe=>b9 σ _ e) h λks vs p h=>aV h λh1 h2=>fU (G:=λks=>b9 σ _ (.Dict ks vs p)) h1 (fU (G:=λvs=>b9 σ _ (.Dict [] vs p)) h2 ((OO og.1).t λZ=>rfl))
theorem P6(ra:RE a)(rb:RE b):RE (.wz a b):=λσ e og h=>qY.k (G:=λe=>b9 σ _ e) h λks vs p h=>if1.k (G:=λks=>b9 σ _ (.Dict ks vs p)) h λk h=>gS.k (G:=λk=>b9 σ _ (.Dict [k] vs p)) h λk h=>if1.k (G:=λvs=>b9 σ _ (.Dict [some k] vs p)) h λv h=>aV h λh1 h2=>(OQ og.1 (ra σ k og h1).1 (rb σ v og h2).1).t λZ=>rfl
theorem zP{σ:Lv}{e:Expr}(ra:RE a)(og:Ok σ)(h:cy σ.f a e=true):fP σ [a] [e]:=.cons h (ra σ e og h) .nil
theorem P7(ra:RE a):RE (.listOf a):=λσ e og h=>gR.k (G:=λe=>b9 σ _ e) h λg xs kws p h=>aV h λhh h=>aV h λh0 h=>fU (G:=λkws=>b9 σ _ (.Call g xs kws p)) h0 (aV h λh1 h=>if1.k (G:=λxs=>b9 σ _ (.Call g xs [] p)) h λe h=>(OT (nt hh) og.1 h1 (zP ra og h)).t λZ=>rfl)
theorem P8{m:Me}(ra:RE a)(r:lN es):RE (.d8 m a es):=λσ e og h=>gR.k (G:=λe=>b9 σ _ e) h λg xs kws p h=>aV h λh0 h=>fU (G:=λkws=>b9 σ _ (.Call g xs kws p)) h0 (oJ.k (G:=λg=>b9 σ _ (.Call g xs [] p)) h λo y ap h=>aV h λh1 h=>aV h λh2 h=>aV h λh3 h=>aV h λh4 h=>aV h λh5 h6=>by
 obtain rfl:=eq_of_beq h1
 have key:∀{id:String},xF m id->b9 σ (.d8 m a es) (.Call (.Attribute o (vb m).1 ap) xs [] p):=λM=>(N6 M h2 h3 (cf h4) (ra σ o og h5).1 (r σ xs og h6)).t λZ=>rfl
 cases m with
 |append=>exact key N7
 |count=>exact key N8
 |index=>exact key N9)
theorem P9(rc:RE c)(ra:RE a)(rb:RE b):RE (.br c a b):=λσ e og h=>wJ.k (G:=λe=>b9 σ _ e) h λt y z p h=>aV h λh1 h=>aV h λh2 h3=>Po (rc σ t og h1).2 (ra σ y og h2) (rb σ z og h3)
theorem Qa{i:Nat}(ra:RE a):RE (.attr a i):=λσ e og h=>oJ.k (G:=λe=>b9 σ _ e) h λo y p h=>aV h λh1 h=>aV h λh2 h3=>(O0 og.1 (cf h1) h2 (ra σ o og h3).1).t λZ=>rfl
theorem Qb{f:Nat}(ra:RE a)(r:lN es):RE (.dJ f a es):=λσ e og h=>gR.k (G:=λe=>b9 σ _ e) h λg xs kws p h=>aV h λh0 h=>fU (G:=λkws=>b9 σ _ (.Call g xs kws p)) h0 (oJ.k (G:=λg=>b9 σ _ (.Call g xs [] p)) h λo y ap h=>aV h λh1 h=>aV h λh2 h=>aV h λh3 h=>aV h λh4 h=>aV h λh5 h=>aV h λh6 h=>aV h λh7 h8=>(O8 og.1 og.2.1 og.2.2 (nt h6) (cf h1) (λhm=>by rw[contains_iff_mem.mpr hm] at h2;cases h2) h3 h4 (cf h5) (ra σ o og h7).1 (r σ xs og h8)).t λZ=>rfl)
theorem Qc{f:Nat}:RE (.new f):=λσ e og h=>gR.k (G:=λe=>b9 σ _ e) h λg xs kws p h=>aV h λh0 h=>fU (G:=λkws=>b9 σ _ (.Call g xs kws p)) h0 (aV h λh1 h=>fU (G:=λxs=>b9 σ _ (.Call g xs [] p)) h1 (aV h λh2 h=>aV h λh3 h4=>(O9 og.1 og.2.1 og.2.2 (nt h3) (cf h2) h4).t λZ=>rfl))
theorem Qd{k:Option Nat}(ra:RE a):RE (.mW k a):=λσ e og h=>gR.k (G:=λe=>b9 σ _ e) h λg xs kws p h=>aV h λh0 h=>fU (G:=λkws=>b9 σ _ (.Call g xs kws p)) h0 (aV h λh1 h=>if2.k (G:=λxs=>b9 σ _ (.Call g xs [] p)) h λe nm h=>aV h λh2 h3=>(Pp og.1 h1 h2 h3 (ra σ e og h3).1).t λZ=>rfl)
end
section
variable{a b c:E}{es:List E}
theorem Ci{σ:Lv}{x:Expr}(h:ip σ.f es [x]=true)(G:List E->Prop)(k:∀a,cy σ.f a x=true->G [a]):G es:=by
 cases es with
 |nil=>cases h
 |cons a r=>
  refine aV (show(cy σ.f a x&&ip σ.f r [])=true from h) λh1 h2=>?_
  cases r with
  |nil=>exact k a h1
  |cons _ _=>cases h2
theorem Qe{bi:Bi}(r:lN es):RE (.bi bi es):=λσ e og h=>gR.k (G:=λe=>b9 σ (.bi bi es) e) h λg xs kws p h=>aV h λhh h=>by
 have hh:=nt hh
 have plain:(kws.isEmpty&&gS (wC bi) λq=>fv σ.f q.1 g&&(decide (xs.length=q.2)&&ip σ.f es xs))=true->b9 σ (.bi bi es) (.Call g xs kws p):=λh=>aV h λh0 h=>fU (G:=λkws=>b9 σ (.bi bi es) (.Call g xs kws p)) h0 (by
  cases hb:wC bi with
  |none=>rw[hb] at h;cases h
  |some q=>
   rw[hb] at h
   exact aV (show(fv σ.f q.1 g&&(decide (xs.length=q.2)&&ip σ.f es xs))=true from h) λh1 h=>aV h λh2 h3=>(Oy hh og.1 hb h1 (r σ xs og h3)).t λZ=>rfl)
 cases bi with
 |lH t=>
  refine aV (show(kws.isEmpty&&(fv σ.f "isinstance" g&&if2 xs λe nm=>fv σ.f (Str.ofString (kL t)) nm&&ip σ.f es [e]))=true from h) λh0 h=>fU (G:=λkws=>b9 σ (.bi (.lH t) es) (.Call g xs kws p)) h0 (aV h λh1 h=>if2.k (G:=λxs=>b9 σ (.bi (.lH t) es) (.Call g xs [] p)) h λe nm h=>aV h λh2 h3=>?_)
  have rs:=r σ [e] og h3
  exact Ci h3 (λes=>fP σ es [e]->b9 σ (.bi (.lH t) es) (.Call g [e,nm] [] p)) (λa h4 rs=>(OA og.1 h1 h2 h4 (rs.get 0 a e rfl rfl).1).t λZ=>rfl) rs
 |pR=>
  refine aV (show(fv σ.f "min" g&&if1 kws λkw=>wW kw λy v=>(y==("default":Str))&&if1 xs λe=>ip σ.f es [e,v])=true from h) λh1 h=>if1.k (G:=λkws=>b9 σ (.bi .pR es) (.Call g xs kws p)) h λkw h=>wW.k (G:=λkw=>b9 σ (.bi .pR es) (.Call g xs [kw] p)) h λy v kp h=>aV h λh2 h=>if1.k (G:=λxs=>b9 σ (.bi .pR es) (.Call g xs [⟨some y,v,kp⟩] p)) h λe h9=>?_
  obtain rfl:=eq_of_beq h2
  have rs:=r σ [e,v] og h9
  cases es with
  |nil=>cases h9
  |cons a na=>
   exact aV (show(cy σ.f a e&&ip σ.f na [v])=true from h9) λh3 h4=>Ci h4 (λna=>fP σ (a::na) [e,v]->b9 σ (.bi .pR (a::na)) (.Call g [e] [⟨some "default",v,kp⟩] p)) (λd h5 rs=>(OC hh og.1 h1 h3 (rs.get 0 a e rfl rfl).1 (rs.get 1 d v rfl rfl).1).t λZ=>rfl) rs
 |md=>
  refine aV (show(kws.isEmpty&&(fv σ.f "len" g&&if1 xs λe=>gR e λg xs kws Z=>kws.isEmpty&&(fv σ.f "set" g&&if1 xs λe=>ip σ.f es [e])))=true from h) λh0 h=>fU (G:=λkws=>b9 σ (.bi .md es) (.Call g xs kws p)) h0 (aV h λh1 h=>if1.k (G:=λxs=>b9 σ (.bi .md es) (.Call g xs [] p)) h λe h=>gR.k (G:=λe=>b9 σ (.bi .md es) (.Call g [e] [] p)) h λg' lO kws' p' h=>aV h λh2 h=>fU (G:=λkws=>b9 σ (.bi .md es) (.Call g [.Call g' lO kws p'] [] p)) h2 (aV h λh3 h=>if1.k (G:=λxs=>b9 σ (.bi .md es) (.Call g [.Call g' xs [] p'] [] p)) h λe h=>?_))
  have rs:=r σ [e] og h
  exact Ci h (λes=>fP σ es [e]->b9 σ (.bi .md es) (.Call g [.Call g' [e] [] p'] [] p)) (λa Z rs=>(OD hh og.1 h1 h3 rs).t λZ=>rfl) rs
 |_=>exact plain h
theorem Hu{σ:Lv}{elt:E}{t:dq}{it:It}{dP:Scope}{e tg iter:Expr}{ifs:List Expr}(re:RE elt)(ri:sP it)(r:lN es)(og:Ok σ)(hh:σ.f.hd=false)
  (h:(wY σ.f (iO t tg) dP&&(yO σ.f it iter&&(vg it tg&&(j0 ⟨dP,iO t tg++σ.f.ns,false⟩ t tg&&(cy ⟨dP,iO t tg++σ.f.ns,false⟩ elt e&&ip ⟨dP,iO t tg++σ.f.ns,false⟩ es ifs)))))=true):xE σ dP (iO t tg) elt t it es e tg iter ifs:=
 aV h λh1 h=>aV h λh2 h=>aV h λh3 h=>aV h λh4 h=>aV h λh5 h6=>⟨hh,wY.sc h1,rfl,h4,h3,ri σ iter og h2,(re ⟨σ.n,σ.m,⟨dP,iO t tg++σ.f.ns,false⟩,λZ Z=>False⟩ e og h5).1,r ⟨σ.n,σ.m,⟨dP,iO t tg++σ.f.ns,false⟩,λZ Z=>False⟩ ifs og h6⟩
theorem Qf{nl:Nat}{elt:E}{t:dq}{it:It}(re:RE elt)(ri:sP it)(r:lN es):RE (.comp nl elt t it es):=λσ e og h=>vc.k (G:=λe=>b9 σ (.comp nl elt t it es) e) h λe gs dP p h=>if1.k (G:=λgs=>b9 σ (.comp nl elt t it es) (.ListComp e gs dP p)) h λg h=>wV.k (G:=λg=>b9 σ (.comp nl elt t it es) (.ListComp e [g] dP p)) h λtg iter ifs h=>aV h λhh h=>aV h λh1 h=>cf h1▸(G0 (Hu re ri r og (nt hh) h)).t λZ=>rfl
theorem Hv(ra:RE a):sP (.of a):=λσ e og h=>M6 og.1 h (ra σ e og h).1
theorem Qg{σ:Lv}{e f:Expr}(ra:RE a)(rb:RE b)(og:Ok σ)(h:cy σ.f a e=true)(h':cy σ.f b f=true):fP σ [a,b] [e,f]:=.cons h (ra σ e og h) (zP rb og h')
theorem Hw(ra:RE a)(rb:RE b):sP (.range a b):=λσ e og h=>gR.k (G:=λe=>lM σ (.range a b) e) h λg xs kws p h=>aV h λh0 h=>fU (G:=λkws=>lM σ (.range a b) (.Call g xs kws p)) h0 (aV h λh1 h=>(jY.mp h).elim
 (λh=>if1.k (G:=λxs=>lM σ (.range a b) (.Call g xs [] p)) h λe h=>aV h λh2 h3=>wU.k (G:=λa=>lM σ (.range a b) (.Call g [e] [] p)) h2 (M7 og.1 h1 (zP rb og h3)))
 λh=>if2.k (G:=λxs=>lM σ (.range a b) (.Call g xs [] p)) h λe f h=>aV h λh2 h3=>M8 og.1 h1 (Qg ra rb og h2 h3))
theorem Hx(ra:RE a):sP (.nH a):=λσ e og h=>gR.k (G:=λe=>lM σ (.nH a) e) h λg xs kws p h=>aV h λh0 h=>fU (G:=λkws=>lM σ (.nH a) (.Call g xs kws p)) h0 (aV h λh1 h=>if1.k (G:=λxs=>lM σ (.nH a) (.Call g xs [] p)) h λe h=>Na og.1 h1 (zP ra og h))
theorem Hy:lN []:=λσ e og h=>fU (G:=λe=>fP σ [] e) h .nil
theorem Hz(ra:RE a)(r:lN es):lN (a::es):=λσ e og h=>pS.k (G:=λe=>fP σ (a::es) e) h λx xs h=>aV h λh1 h2=>.cons h1 (ra σ x og h1) (r σ xs og h2)
theorem Qh:RO none:=λσ e og h=>wR (G:=λe=>ud σ none e) h NR
theorem Qi(ra:RE a):RO (some a):=λσ e og h=>gS.k (G:=λe=>ud σ (some a) e) h λx h=>NS (ra σ x og h).1
theorem jO(c:E):RE c:=
 E.rec (motive_1:=RE) (motive_2:=sP) (motive_3:=lN) (motive_4:=RO) (λZ=>PM) (λZ=>PN) (λZ=>PO) (λZ Z Z ra rb=>PP ra rb) (λZ ra=>PR ra) (λZ ra=>PS ra) (λZ r=>PT r) (λZ r=>PU r) (λZ Z Z ra rb=>PV ra rb) (λZ Z Z Z Z ra rb rc=>PW ra rb rc) (λZ Z ra=>PX ra) (λZ r=>PY r) (λZ r=>PZ r) (λZ Z ra rb=>P0 ra rb)
  (λZ Z Z ra rl rh=>P1 ra rl rh) (λZ Z r=>P2 r) (λZ Z r=>Qe r) (λZ Z Z ra r=>P8 ra r) (λZ Z Z Z Z re ri r=>Qf re ri r) (λZ ra=>P7 ra) P4 P5 (λZ Z ra rb=>P6 ra rb) (λZ Z Z rc ra rb=>P9 rc ra rb) (λZ Z ra=>Qa ra) (λZ Z Z ra r=>Qb ra r) (λZ=>Qc) (λZ Z ra=>Qd ra) (λZ ra=>Hv ra) (λZ Z ra rb=>Hw ra rb) (λZ ra=>Hx ra) Hy (λZ Z ra r=>Hz ra r) Qh (λZ ra=>Qi ra) c
end
def RS(c:S):Prop:=∀(σ:Lv) (e:Stmt),Ok σ->FN σ.f c e=true->SS σ c e
def rI(c:List S):Prop:=∀(σ:Lv) (e:List Stmt),Ok σ->sk σ.f c e=true->qj σ c e
section
variable{e a i:E}{es:List E}{b b':List S}
theorem HA(c:It):sP c:=
 It.casesOn (motive_2:=sP) c (λa=>Hv (jO a)) (λa b=>Hw (jO a) (jO b)) (λa=>Hx (jO a))
theorem HB:∀es:List E,lN es
 |[]=>Hy
 |a::es=>Hz (jO a) (HB es)
theorem Qj:RS (.expr e):=λσ st og h=>wM.k (G:=λst=>SS σ (.expr e) st) h λx p h=>aV h λh1 h2=>MK h1 (jO e σ x og h2).1
theorem Qk:RS (.kK a i e):=λσ st og h=>oK.k (G:=λst=>SS σ (.kK a i e) st) h λts x p h=>if1.k (G:=λts=>SS σ (.kK a i e) (.Assign ts x p)) h λtg h=>qW.k (G:=λtg=>SS σ (.kK a i e) (.Assign [tg] x p)) h λo j sp h=>aV h λh1 h=>aV h λh2 h=>aV h λh3 h4=>MX og.1 h1 (jO a σ o og h2).1 (jO i σ j og h3).1 (jO e σ x og h4).1
theorem Ql{i:Nat}:RS (.setAttr a i e):=λσ st og h=>oK.k (G:=λst=>SS σ (.setAttr a i e) st) h λts x p h=>if1.k (G:=λts=>SS σ (.setAttr a i e) (.Assign ts x p)) h λtg h=>oJ.k (G:=λtg=>SS σ (.setAttr a i e) (.Assign [tg] x p)) h λo y sp h=>aV h λh1 h=>aV h λh2 h=>aV h λh3 h=>aV h λh4 h5=>O4 og.1 (cf h1) h2 (jO a σ o og h4).1 (jO e σ x og h5).1
theorem Qm{k:Nat}{w:Str}:RS (.raise k w):=λσ st og h=>wK.k (G:=λst=>SS σ (.raise k w) st) h λe c p h=>aV h λh0 h=>wR (G:=λc=>SS σ (.raise k w) (.Raise e c p)) h0 (aV h λhh h=>gS.k (G:=λe=>SS σ (.raise k w) (.Raise e none p)) h λe h=>gR.k (G:=λe=>SS σ (.raise k w) (.Raise (some e) none p)) h λg xs kws cp h=>aV h λh1 h=>fU (G:=λkws=>SS σ (.raise k w) (.Raise (some (.Call g xs kws cp)) none p)) h1 (gc.k (G:=λg=>SS σ (.raise k w) (.Raise (some (.Call g xs [] cp)) none p)) h λx np h=>aV h λh2 h=>aV h λh3 h=>if1.k (G:=λxs=>SS σ (.raise k w) (.Raise (some (.Call (.Name x np) xs [] cp)) none p)) h λa h=>qU.k (G:=λa=>SS σ (.raise k w) (.Raise (some (.Call (.Name x np) [a] [] cp)) none p)) h λc kk ap h=>cf h▸Pa og.1 (nt hh) (cf h2) h3))
theorem Qn{r:Option dq}{k i:Nat}{h:E}:RS (.jI r e k i h):=λσ st og hs=>wL.k (G:=λst=>SS σ (.jI r e k i h) st) hs λbd nT o f p hs=>aV hs λh0 hs=>fU (G:=λo=>SS σ (.jI r e k i h) (.Try bd nT o f p)) h0 (aV hs λh0 hs=>fU (G:=λf=>SS σ (.jI r e k i h) (.Try bd nT [] f p)) h0 (aV hs λhh hs=>if1.k (G:=λbd=>SS σ (.jI r e k i h) (.Try bd nT [] [] p)) hs λb hs=>aV hs λh1 hs=>if1.k (G:=λnT=>SS σ (.jI r e k i h) (.Try [b] nT [] [] p)) hs λhd hs=>yN.k (G:=λhd=>SS σ (.jI r e k i h) (.Try [b] [hd] [] [] p)) hs λt n hb hp hs=>gS.k (G:=λt=>SS σ (.jI r e k i h) (.Try [b] [.ExceptHandler t n hb hp] [] [] p)) hs λt hs=>aV hs λh2 hs=>gS.k (G:=λn=>SS σ (.jI r e k i h) (.Try [b] [.ExceptHandler (some t) n hb hp] [] [] p)) hs λn hs=>aV hs λh3 hs=>aV h3 λh3 h4=>if1.k (G:=λhb=>SS σ (.jI r e k i h) (.Try [b] [.ExceptHandler (some t) (some n) hb hp] [] [] p)) hs λs hs=>qX.k (G:=λs=>SS σ (.jI r e k i h) (.Try [b] [.ExceptHandler (some t) (some n) [s] hp] [] [] p)) hs λx rp hs=>gS.k (G:=λx=>SS σ (.jI r e k i h) (.Try [b] [.ExceptHandler (some t) (some n) [.Return x rp] hp] [] [] p)) hs λx hs=>PJ og.1 h2 h3 (cf h4) (jO h σ.hd x og hs).1 h1 λx' y h5=>(jO e (σ.ex y) x' og h5).1))
theorem Qo:RS (.ret e):=λσ st og h=>qX.k (G:=λst=>SS σ (.ret e) st) h λx p h=>gS.k (G:=λx=>SS σ (.ret e) (.Return x p)) h λx h=>MM (jO e σ x og h).1
theorem Qp(ra:rI b)(rb:rI b'):RS (.br e b b'):=λσ st og h=>wN.k (G:=λst=>SS σ (.br e b b') st) h λt x y p h=>aV h λh1 h=>aV h λh2 h3=>MN (jO e σ t og h1).2 (ra σ x og h2) (rb σ y og h3)
theorem Qq{t:dq}{it:It}(rb:rI b):RS (.for t it b):=λσ st og h=>wO.k (G:=λst=>SS σ (.for t it b) st) h λtg iter bs o p h=>aV h λhh h=>aV h λh0 h=>fU (G:=λo=>SS σ (.for t it b) (.For tg iter bs o p)) h0 (aV h λh1 h=>aV h λh2 h=>aV h λh3 h4=>Nl (nt hh) h1 h2 (HA it σ iter og h3) (rb (σ.ex (xq σ.x)) bs og h4))
theorem Qr(rb:rI b):RS (.while e b):=λσ st og h=>wQ.k (G:=λst=>SS σ (.while e b) st) h λt bs o p h=>aV h λhh h=>aV h λh0 h=>fU (G:=λo=>SS σ (.while e b) (.While t bs o p)) h0 (aV h λh1 h2=>MO (jO e σ.no t og h1).2 (rb σ.no bs og h2))
theorem Qs{u:dq}{nl:Nat}{elt:E}{t:dq}{it:It}{σ:Lv}{tg x:Expr}{p:Pos}(og:Ok σ)(h1:j0 σ.f u tg=true)(h2:cy σ.f (.comp nl elt t it es) x=true)(h3:wD tg=true):SS σ (.aN u (.comp nl elt t it es)) (.Assign [tg] x p):=
 Expr.Name.elim (motive_1:=λtg=>j0 σ.f u tg=true->SS σ (.aN u (.comp nl elt t it es)) (.Assign [tg] x p)) tg (cf h3) (λy py h1=>vc.k (G:=λx=>SS σ (.aN u (.comp nl elt t it es)) (.Assign [.Name y py] x p)) h2 λe gs dP cp h=>if1.k (G:=λgs=>SS σ (.aN u (.comp nl elt t it es)) (.Assign [.Name y py] (.ListComp e gs dP cp) p)) h λg h=>wV.k (G:=λg=>SS σ (.aN u (.comp nl elt t it es)) (.Assign [.Name y py] (.ListComp e [g] dP cp) p)) h λtg iter ifs h=>aV h λhh h=>aV h λh4 h=>cf h4▸NJ (Hu (jO elt) (HA it) (HB es) og (nt hh) h) h1) h1
theorem Qt{t:dq}:RS (.aN t e):=λσ st og h=>oK.k (G:=λst=>SS σ (.aN t e) st) h λts x p h=>if1.k (G:=λts=>SS σ (.aN t e) (.Assign ts x p)) h λtg h=>aV h λh1 h=>aV h λh2 h=>aV h λh3 h4=>(jY.mp h3).elim (λh3=>aV h3 λh5 h6=>E.comp.elim (motive_1:=λe=>cy σ.f e x=true->SS σ (.aN t e) (.Assign [tg] x p)) e (cf h6) (λnl elt t' it cs h2=>Qs og h1 h2 h5) h2) λh3=>ML h3 h1 h4 (jO e σ x og h2).1
theorem Qu:rI []:=λσ e og h=>fU (G:=λe=>qj σ [] e) h mr
theorem Qv{c:S}(r:RS c)(rs:rI b):rI (c::b):=λσ e og h=>pS.k (G:=λe=>qj σ (c::b) e) h λx xs h=>aV h λh1 h2=>MP (r σ x og h1) (rs σ xs og h2)
theorem Qw(b:List S):rI b:=
 S.rec_1 (motive_1:=RS) (motive_2:=rI) (λZ=>Qj) (λZ Z=>Qt) (λZ Z Z=>Qk) (λZ Z Z=>Ql) (λZ=>Qo) (λZ Z Z ra rb=>Qp ra rb) (λZ Z Z rb=>Qq rb) (λZ Z rb=>Qr rb) (λZ Z=>Qm) (λZ Z Z Z Z=>Qn) Qu (λZ Z r rs=>Qv r rs) b
end
theorem zQ{x:Str}:∀{names:List (Str×NameKind)} {k:Nat} {acc:List (Str×Addr)},names.lookup x=some .cell\/(∃c,acc.lookup x=some c)->∃c,(cellsFrom k names acc).lookup x=some c
 |[],_,_,h=>h.elim (λe=>nomatch e) id
 |(y,kd)::r,k,acc,h=>by
  rw[mR] at h
  by_cases hk:(kd==NameKind.cell)=true
  ·rw[show cellsFrom k ((y,kd)::r) acc=cellsFrom (k+1) r ((y,k)::acc) from bL hk]
   refine zQ ?_
   rw[mR]
   cases hy:x==y with
   |true=>exact .inr ⟨_,rfl⟩
   |false=>rw[hy] at h;exact h
  ·rw[show cellsFrom k ((y,kd)::r) acc=cellsFrom k r acc from bG hk]
   refine zQ (h.elim (λh=>?_) .inr)
   cases hy:x==y with
   |true=>rw[hy] at h;exact absurd (by rw[dA h];rfl) hk
   |false=>rw[hy] at h;exact .inl h
theorem lookup_none{α:Type}{x:Str}{l:List (Str×α)}(h:x∉l.map (·.1)):l.lookup x=none:=by
 cases e:l.lookup x with
 |none=>rfl
 |some v=>exact absurd (fj.mpr ⟨_,mem_lookup e,rfl⟩) h
theorem HC{kf:Str->Option NameKind}{x:Str}(hk:kf x=some .local):∀{bs:List (Str×Value)} {m:Str->Option Value},(bs.map (·.1)).Nodup->PySem.bindL kf bs m x=(bs.lookup x).or (m x)
 |[],m,_=>rfl
 |(y,v)::r,m,hn=>by
  have hn:=lF.mp hn
  refine(?_:PySem.bindL kf r (if kf y=some .local then λz=>if z=y then some v else m z else m) x=_)
  rw[HC hk hn.2,mR]
  by_cases e:x=y
  ·rw[e] at hk ⊢
   rw[lookup_none hn.1,bL hk,bL rfl,gr];rfl
  ·rw[pO.mpr e]
   split
   ·exact bU _ (bG e)
   ·rfl
theorem HD{kf:Str->Option NameKind}{x:Str}(hk:kf x=some .cell):∀{bs:List (Str×Value)} {m:Str->Option Value},(bs.map (·.1)).Nodup->PySem.bindC kf bs m x=(bs.lookup x).or (m x)
 |[],m,_=>rfl
 |(y,v)::r,m,hn=>by
  have hn:=lF.mp hn
  refine(?_:PySem.bindC kf r (if kf y=some .local then m else λz=>if z=y then some v else m z) x=_)
  rw[HD hk hn.2,mR]
  by_cases e:x=y
  ·rw[e] at hk ⊢
   rw[lookup_none hn.1,bG (by rw[hk];exact λh=>nomatch h),bL rfl,gr];rfl
  ·rw[pO.mpr e]
   split
   ·rfl
   ·exact bU _ (bG e)
theorem HE{p:Ws}{x:Str}:∀{ps:List Str} {vs:List V} {xs:List Value},ps.length=vs.length->bJ p vs xs->jK p (lk ps (vs.map some) x) ((ps.zip xs).lookup x)
 |[],vs,xs,hl,r=>by
  cases vs with
  |nil=>exact .none
  |cons _ _=>cases hl
 |q::ps,vs,xs,hl,r=>by
  cases vs with
  |nil=>cases hl
  |cons v vs=>
   refine r.inv (λxs=>jK p (lk (q::ps) ((v::vs).map some) x) (((q::ps).zip xs).lookup x)) λy ys r1 r2=>?_
   refine(?_:jK p (lk (q::ps) ((v::vs).map some) x) (List.lookup x ((q,y)::ps.zip ys)))
   rw[mR]
   unfold lk
   by_cases e:x=q
   ·rw[e,List.idxOf_cons_self,gr];exact .some r1
   ·rw[pO.mpr e,List.idxOf_cons,pO.mpr (Ne.symm e)]
    exact HE (Nat.succ.inj hl) r2
theorem Qx{p:Ws}{ns:List Str}{np nl:Nat}{vs:List V}{xs:List Value}(fB:ns.length=np+nl)(hv:vs.length=np)(r:bJ p vs xs)(x:Str):jK p (lk ns (vs.map some++replicate nl none) x) (((ns.take np).zip xs).lookup x):=by
 have hl:(ns.take np).length=vs.length:=by rw[length_take,hv,fB];exact min_eq_left (fM _ _)
 have e:=List.take_append_drop np ns
 have h0:∀y,lk ns (vs.map some++replicate nl none) y=lk (ns.take np++ns.drop np) (vs.map some++replicate nl none) y:=λy=>by rw[e]
 rw[h0]
 by_cases hx:x∈ns.take np
 ·rw[GS (by rw[aS,hl]) hx];exact HE hl r
 ·rw[GU (by rw[aS,hl]) hx,show nl=(ns.drop np).length by rw[length_drop,fB,Nat.add_sub_cancel_left],B1,lookup_none λhm=>hx ?_]
  ·exact .none
  ·rw[List.map_fst_zip (by rw[hl,r.length];exact cg _)] at hm;exact hm
structure uh(A:Around)(n:Nat):Prop where
 depth:A.depth+n+110<=recursionLimit
 units:A.units+5*n+200<=cLine
 frames:∃l,A.frames=some l
theorem mn.Qy{A:Around}{n:Nat}(rm:mn A n):uh A n:=⟨rm.depth,rm.units,rm.frames.elim λfe h=>h.elim λl h=>⟨_,h.1⟩⟩
theorem uh.deeper{A:Around}{n:Nat}{env:Env}(rm:uh A (n+1))(h1:env.scope.isGenerator=false)(h2:env.scope.isCoroutine=false)(h3:env.builtins=builtinsNs)(h4:env.globals=mainGlobals):mn (A.deeper env) n:=by
 obtain⟨l,e⟩:=rm.frames
 refine⟨?_,?_,env,l,?_,h1,h2,h3,h4⟩
 ·have:=rm.depth;refine(?_:A.depth+1+n+110<=_);exact(by rw[add_right_comm A.depth];exact this)
 ·have:=rm.units;refine(?_:A.units+3+5*n+200<=_);lia
 ·refine(?_:A.frames.map (env::·)=_);rw[e];rfl
theorem uh.j3{A:Around}{n:Nat}(rm:uh A n)(env:Env):j3 (A.deeper env)=env::j3 A:=by
 obtain⟨l,e⟩:=rm.frames
 refine(?_:(A.frames.map (env::·)).getD []=env::A.frames.getD [])
 rw[e];rfl
theorem nN.deeper{A A':Around}{p:Ws}{env':Env}{L:Addr}(F:nN A p)(hA:j3 A'=env'::j3 A)(hk:env'.scope.kind=.function)(hf:env'.frame=some L)(hn:∃m,p.h.Ns L m)(ha:Ap p L):nN A' p:=λe he=>by
 rw[hA] at he
 exact(cH.mp he).elim (λe'=>e'▸⟨hk,L,hn.elim λm x=>x.imp λo x=>x.elim λes x=>x.elim λep x=>⟨hf,x.1,y4 x.2.1,ha⟩⟩) (F e)
section
variable{φ:List Addr}{H:Hp}{s:Shared}
def HF(φ:List Addr)(s:Shared)(post:PQ)(Q:Value->Shared->Prop):Prop:=∀v H',post v H'->∀rJ h' tk x,SR ⟨rJ,h'⟩ H'->bZ iq ⟨φ,s.heap⟩ ⟨rJ,h'⟩->bl ⟨rJ,h'⟩ v x->Q x (upd s h' tk)
structure xK(hd:Bool)(d:jo)(ns:List Str)(f:Fn):Prop where
 ca:Bx d.params (ns.take f.np)=true
 len:ns.length=f.np+f.nl
 nd:ns.Nodup
 kind:d.scope.kind=.function
 gen:d.scope.isGenerator=false/\d.scope.isCoroutine=false
 own:∀x,x∈ns->d.scope.names.lookup x=some .local\/d.scope.names.lookup x=some .cell
 body:sk ⟨d.scope,ns,hd⟩ f.body d.body=true
theorem u9.k{k:Option NameKind}(h:u9 k=true):k=some .local\/k=some .cell:=by
 cases k with
 |none=>cases h
 |some k=>cases k<;>first|exact .inl rfl|exact .inr rfl|cases h
theorem Qz{hd:Bool}{d:jo}{ns:List Str}{f:Fn}(h:FO hd d ns f=true):xK hd d ns f:=
 aV h λZ h=>aV h λh2 h=>aV h λh3 h=>aV h λh4 h=>aV h λh5 h=>aV h λh6 h=>aV h λh7 h=>aV h λZ h=>aV h λZ h=>aV h λiu QA=>
  ⟨h2,cf h3,cf h4,cf h5,⟨zy h6,zy h7⟩,λx hx=>u9.k (iA.mp iu x hx),QA⟩
theorem QB{hh:Bool}{d:jo}{ns:List Str}{f:Fn}{env:Env}{vs:List V}{xs:List Value}{cj:Shared}(o:xK hh d ns f)(R:SR ⟨φ,s.heap⟩ H)(r:bJ ⟨φ,s.heap⟩ vs xs)(hv:vs.length=f.np)(eL:env.locals=s.heap.objs.size)(eS:env.scope=d.scope)(eG:env.globals=mainGlobals)(eB:env.builtins=builtinsNs)(eC:∀x,d.scope.names.lookup x=some .cell->∃c,env.cells.lookup x=some c)
  (jL:InCallC s env.locals (PySem.bindL env.kindOf ((ns.take f.np).zip xs) λZ=>none) env.cells (PySem.bindC env.kindOf ((ns.take f.np).zip xs) λZ=>none) cj):FR env ns (vs.map some++replicate f.nl none) ⟨φ,cj.heap⟩:=by
 have keep:aA s.heap cj.heap:=jL.toInCall.keep
 have S0:bZ iq ⟨φ,s.heap⟩ ⟨φ,cj.heap⟩:=bZ.ext (q:=⟨φ,s.heap⟩) .refl keep
 have eK:∀x,env.kindOf x=d.scope.names.lookup x:=λx=>by unfold Env.kindOf;rw[eS]
 have HG:(((ns.take f.np).zip xs).map (·.1)).Nodup:=by
  rw[List.map_fst_zip (by rw[length_take,<-r.length,hv];exact Nat.min_le_left _ _)]
  exact o.nd.sublist (List.take_sublist _ _)
 have rep:=Qx o.len hv (r.mono S0)
 have ap:∀c,s.heap.objs.size<=c->Ap ⟨φ,cj.heap⟩ c:=λc hc=>SR.new (p:=⟨φ,s.heap⟩) R (i5 _ hc)
 have abv:∀{x c},env.cells.lookup x=some c->s.heap.objs.size<=c:=λh=>cO (eL▸jL.above _ _ (mem_lookup h))
 refine⟨⟨by rw[eS];exact o.kind,eG,eB,⟨by rw[eS];exact o.gen.1,by rw[eS];exact o.gen.2,by unfold interactive;rw[eS,o.kind];rfl⟩,λx y c h1 h2=>name_of_addr jL.apart (mem_lookup h1) (mem_lookup h2),λq hq e=>absurd (jL.above q.1 q.2 hq) (by rw[e];exact Nat.lt_irrefl _)⟩,by rw[length_append,length_map,List.length_replicate,hv,o.len],⟨_,jL.toInCall.ns,λx hx hk=>?_⟩,λx hx hk=>?_,λa ha=>ha.elim (λe=>ap a (by rw[e,eL];exact le_refl _)) λw=>w.elim λx hx=>ap a (abv hx),λa ha=>ha.elim (λe=>e▸jL.toInCall.ns.imp λo w=>w.elim λZ w=>w.elim λZ w=>w.1) λw=>w.elim λx hx=>(jL.cell x a hx).imp λo w=>w.1⟩
 ·rw[HC hk HG,or_none];exact rep x
 ·have xM:env.kindOf x=some .cell:=(o.own x hx).elim (λh=>by rw[eK,h] at hk;cases hk) λh=>(eK x).trans h
  exact(eC x ((eK x).symm.trans xM)).elim λc hc=>⟨c,_,hc,jL.cell x c hc,by rw[HD xM HG,or_none];exact rep x⟩
theorem HH{m:Nat}{hh:Bool}{f:Fn}{q:Bool×Str}{d:jo}{ns:List Str}{A:Around}{a:Addr}{o:Obj}{pm cd doc:Value}{vs:List V}{xs:List Value}{post Y:PQ}{Q Ex:Value->Shared->Prop}(G:Good X)(hc:vu m)(rm:uh A (2*m+2))(hA:hh=false->A.handled=none)(R:SR ⟨φ,s.heap⟩ H)(fr:nN A ⟨φ,s.heap⟩)
  (ok:xK hh d ns f) (ho:X.eF.get? a=some o) (hd:o.data=.func (methDef d.name (mh q) d.params d.body d.scope pm cd doc)) (vw:X.eF.CodeRec cd (mh q)) (r:bJ ⟨φ,s.heap⟩ vs xs) (hv:vs.length=f.np)
  (p:aG ⟨ay m,xq Y⟩ f.body (vs.map some++replicate f.nl none) H (bD post)) (kq:HF φ s post Q) (kx:HF φ s Y Ex):wpAny X.M A (call (.ref a) xs) Q Ex s:=by
 obtain⟨ar,hp,Cj⟩:∃ar,d.params=zK ar/\ar.map (·.arg)=ns.take f.np:=OV ok.ca (λq=>∃ar,q=zK ar/\ar.map (·.arg)=ns.take f.np) λar e=>⟨ar,rfl,e⟩
 have hb:=OW (fd:=methDef d.name (mh q) d.params d.body d.scope pm cd doc) (ar:=ar) (xs:=xs) rfl hp (by rw[Cj];exact ok.nd.sublist (List.take_sublist _ _)) (by rw[Cj,length_take,<-r.length,hv,ok.len];exact min_eq_left (fM _ _))
 rw[Cj] at hb
 refine wpAny_call (codeAny_call_cells (by have:=rm.depth;lia) (R.keep _ _ ho) hd (G.nolimit.keeps R.keep) (vw.keeps R.keep) rfl hb rfl (λx hx=>(ok.own _ (List.mem_of_mem_take (List.of_mem_zip hx).1)).imp id λh=>⟨h,(zQ (.inl h)).elim λc e=>by rw[e];rfl⟩) (λcj jL=>?_) ok.gen.2 ok.gen.1 ok.kind)
 have QC:Kinds d.scope (callEnvC (methDef d.name (mh q) d.params d.body d.scope pm cd doc) s.heap.objs.size a):=λx=>.inl rfl
 have hF:=QB (env:=callEnvC (methDef d.name (mh q) d.params d.body d.scope pm cd doc) s.heap.objs.size a) ok R r hv rfl rfl rfl rfl (λx h=>zQ (.inl h)) jL
 have abv:∀b,m9 (callEnvC (methDef d.name (mh q) d.params d.body d.scope pm cd doc) s.heap.objs.size a) b->s.heap.get? b=none:=λb hb=>i5 _ (hb.elim (λe=>iX e.symm) λw=>w.elim λx h=>cO (jL.above _ _ (mem_lookup h)))
 have sN:vB (callEnvC (methDef d.name (mh q) d.params d.body d.scope pm cd doc) s.heap.objs.size a) (m9 (callEnvC (methDef d.name (mh q) d.params d.body d.scope pm cd doc) s.heap.objs.size a)) ns:=⟨λx hx=>(ok.own x hx).imp (λh=>⟨h,.inl rfl⟩) λh=>⟨h,λc hc=>.inr ⟨x,hc⟩⟩,λZ h=>h⟩
 have Ck:=rm.deeper (env:=callEnvC (methDef d.name (mh q) d.params d.body d.scope pm cd doc) s.heap.objs.size a) ok.gen.1 ok.gen.2 rfl rfl
 have tY:=rm.j3 (callEnvC (methDef d.name (mh q) d.params d.body d.scope pm cd doc) s.heap.objs.size a)
 have hL:(callEnvC (methDef d.name (mh q) d.params d.body d.scope pm cd doc) s.heap.objs.size a).frame=some s.heap.objs.size:=rfl
 have keep:aA s.heap cj.heap:=jL.toInCall.keep
 have mu:∃m,cj.heap.Ns s.heap.objs.size m:=⟨_,jL.toInCall.ns⟩
 obtain⟨gG,QD,QE⟩:=jL.toInCall.same
 clear hb jL
 generalize callEnvC (methDef d.name (mh q) d.params d.body d.scope pm cd doc) s.heap.objs.size a=env at *
 subst QE
 have S0:bZ iq ⟨φ,s.heap⟩ ⟨φ,gG⟩:=bZ.ext (q:=⟨φ,s.heap⟩) .refl keep
 have HI:=(fr.kP S0).deeper tY hF.fc.fn hL mu (SR.new (p:=⟨φ,s.heap⟩) R (i5 _ (cg _)))
 have hf:∃fe,(j3 (A.deeper env)).head?=some fe/\fe.frame=env.frame:=⟨env,by rw[tY];rfl,rfl⟩
 refine gE (Qw f.body ⟨2*m+1,m,⟨d.scope,ns,hh⟩,xq Y⟩ d.body ⟨G,hc,cg _⟩ ok.body ⟨⟨A.deeper env,φ,H,upd s gG QD,λe s'=>wpAny X.M (A.deeper env) (leaving env e) (λZ ui=>Ex e ui) (λe' ui=>Ex e' ui) s',Ck.less (gu _),SR.ext (p:=⟨φ,s.heap⟩) R keep,HI⟩,env,_,m9 env,QC,hF,Ck,hf,hA,λv H' pe rJ h' qi R' S' y r'=>?_⟩ (bD post) (λfl s'=>Q (match fl with | .ret v=>v|_=>.none) s') sN p
  ⟨λρ H p N=>kq _ _ p N.φ N.h N.tk _ N.R (S0.xD N.S abv) .none,λv H p rJ h' tk R' S' x r'=>kq _ _ p rJ h' tk x R' (S0.xD S' abv) r'⟩) (λfl s' q=>by cases fl<;>exact q) (λe s' q=>q)
 exact(isSome_iff_exists.mp pe.1).elim λj ej=>cellAt.k ej (λv=>Y v H'->bl ⟨rJ,h'⟩ v y->_) (λl c hl hc q r=>pV.k (λc=>H'[l]?=some c->_) hc (λhl=>r.inv (λy=>wpAny X.M (A.deeper env) (leaving env y) (λZ ui=>Ex y ui) (λe' ui=>Ex e' ui) (upd s h' qi)) λb hb=>
  Ni (P:=⟨A.deeper env,rJ,H',upd s h' qi,NE,Ck.less (gu _),R',HI.kP S'⟩) hf hl hb λN Z=>kx _ _ q N.φ N.h N.tk _ N.R (S0.xD (S'.trans N.S.nil) abv) (.ref (N.S.pre _ _ hb))) hl) pe.2 r'
end
theorem HJ{ds:List jo}{nss:List (List Str)}{fs:List Fn}{i:Nat}{f:Fn}{d:jo}(h:yP ds nss fs=true)(hf:fs[i]?=some f)(hd:ds[i]?=some d)(hn:f.np≠999):∃ns,xK (u7.contains i) d ns f:=by
 have hi:=(dZ.mp hf).1
 have h:=iA.mp h i (jl.mpr hi)
 rw[hf,hd] at h
 refine gS.k (G:=λZ=>∃ns,xK (u7.contains i) d ns f) (l:=nss[i]?) h λns h=>⟨ns,Qz ((jY.mp h).resolve_left λh=>hn (cf h))⟩
theorem HK(G:Good X):∀n,vu n
 |0=>λP f q a vs xs post x Q rm hh h1 h2 r p=>p.elim
 |n+1=>λP f q a vs xs post x Q rm hh h1 h2 r p k kx=>(G.fn f q h1).casesOn λa' o d pm cd doc e1 e3 e4 ec e5 e6=>by
  rw[h2] at e3;cases e3
  refine aI.k p λfn hf p=>(HJ G.FQ hf e1 p.1.2).elim λns ok=>?_
  exact HH G (HK G n) (rm.less (iX (by lia))).Qy hh P.R P.fr ok e4 e5 e6 r p.1.1 p.2 (λv H p φ h tk x R S r=>k v H p ⟨φ,h,tk,R,S⟩ x r) (λv H p φ h tk x R S r=>kx v H p ⟨φ,h,tk,R,S⟩ x r)
end Mine
namespace Mine
open PySem PySem.Calls PyProof.Rows PySem.W
noncomputable def QF(d:DefRec):jo:=⟨d.name,d.params,d.body,d.scope⟩
noncomputable abbrev dT:List jo:=defsOf H.pp.main.body
noncomputable abbrev dM:List jo:=defsOf (BA H.pp gK.cls)
noncomputable def QG(q:Program)(loose:List Str):Bool:=pU.all λp=>!startupNames.contains p.1&&(!loose.contains p.1&&(!((recsOf q).map (·.name)).contains p.1&&(!((litsOf q).map (·.1)).contains p.1&&(!((clssOf q loose).map (·.name)).contains p.1 &&
 (!(p.1==("__name__":Str))&&decide (bootBuiltins p.1=some p.2))))))
theorem QH(Cm:gK.nI[62]?=some (false,Str.ofString "law"))(Co:ay 72 62 [.fu] [] (λv Z=>v=.bool true) λZ Z=>False)(G:Good X):Run X:=λfa Q vN hQ=>by
 have R0:SR ⟨[],X.s.heap⟩ []:=⟨λZ Z e=>e,λa ha=>(nomatch ha),.nil,rfl,λl c e=>(nomatch e)⟩
 refine(G.fn 62 _ Cm).casesOn λa' o d pm cd doc e1 e3 e4 ec e5 e6=>?_
 have e3:X.mg "law"=some (.ref a'):=e3
 rw[vN] at e3;cases e3
 refine aI.k Co λfn hf hr=>(HJ G.FQ hf e1 hr.1.2).elim λnn ok=>?_
 have rm:uh callerA (2*71+2):=⟨by decide,by decide,_,rfl⟩
 refine HH G (HK G 71) rm (λZ=>rfl) R0 (λe he=>(nomatch he)) ok e4 e5 e6 (.cons .fu .nil) hr.1.1 hr.2 (λv H p rJ h' tk x R1 S1 r1=>?_) λv H p=>p.elim
 cases p
 exact r1.inv (λx=>Q x (upd X.s h' tk)) (hQ h' tk R1.keep)
theorem QI:gK.nI=(dT.map λd=>(false,d.name))++dM.map λd=>(true,d.name):=by kernel_rfl
theorem QJ{Y:mf}(hT:∀d,d∈dT->∃a o pm cd doc,Y.mg d.name=some (.ref a)/\Y.eF.get? a=some o/\o.data=.func (docDef d.name d.params d.body d.scope pm cd doc)/\Y.eF.CodeRec cd d.name)
  (hM:∀d,d∈dM->∃a o pm cd doc,Y.mN d.name=some (.ref a)/\Y.eF.get? a=some o/\o.cls=.type "function"/\o.data=.func (methDef d.name (gK.cls++"."++d.name) d.params d.body d.scope pm cd doc)/\Y.eF.CodeRec cd (gK.cls++"."++d.name)) (hd:Y.defs=dT++dM) (f:Nat) (q:Bool×Str) (hx:gK.nI[f]?=some q):wZ Y f q:=by
 rw[QI,List.getElem?_append,aS] at hx
 have e:Y.defs[f]?=_:=(bU (λl:List jo=>l[f]?) hd).trans List.getElem?_append
 by_cases hf:f<dT.length
 ·rw[bL hf,g5] at hx
  rw[bL hf] at e
  refine gW (λq=>wZ Y f q) hx λd h1=>?_
  exact(hT d (iz h1)).elim λa y=>y.elim λo y=>y.elim λpm y=>y.elim λcd y=>y.elim λdoc y=>⟨a,o,d,pm,cd,doc,e.trans h1,y.1,y.2.1,λh=>(nomatch h),y.2.2.1,y.2.2.2⟩
 ·rw[bG hf,g5] at hx
  rw[bG hf] at e
  refine gW (λq=>wZ Y f q) hx λd h1=>?_
  exact(hM d (iz h1)).elim λa y=>y.elim λo y=>y.elim λpm y=>y.elim λcd y=>y.elim λdoc y=>⟨a,o,d,pm,cd,doc,e.trans h1,y.1,y.2.1,λZ=>y.2.2.1,y.2.2.2.1,y.2.2.2.2⟩
noncomputable def nV:List (Str×Nat×Nat×Bool):=[("NoPerson",82,284,false),("NoDay",94,300,false),("NoParents",106,316,false),("NoMatch",118,332,false),("NoWill",130,348,false),("Again",142,364,false),("Full",154,380,false),("NotDead",166,396,false),("EstateError",69,266,true)]
noncomputable abbrev zR(e:Bool):List Value:=cond e H.vm (.ref 69::H.vm)
noncomputable def zS(r:Str×Nat×Nat×Bool):Obj:=excClassObj r.1 r.1 r.2.1 (r.2.1 - 1) (cond r.2.2.2 [.type "ValueError"] [.ref 69]) (zR r.2.2.2) true [] (cond r.2.2.2 H.vj []) false none none (some (.ref (r.2.1 - 9))) none (some (.str r.1 r.2.2.1)) (some (.str r.1 (r.2.2.1+8))) (some (.bool true)) "ValueError.__new__"
noncomputable def Cp:List Str:=["__init__","__getattribute__","__getattr__","__class__"]
theorem QK(P:Params):(nV.map λr=>(H.H1 P).get? r.2.1)=nV.map λr=>some (zS r):=by kernel_rfl
theorem QL(P:Params):(nV.all λr=>(H.H1 P).isNs (r.2.1 - 1)&&Cp.all λn=>((H.H1 P).nsMap (r.2.1 - 1) n).isNone)=true:=by kernel_rfl
theorem QM(P:Params):(nV.map λr=>(H.H1 P).nsMap mainGlobals r.1)=nV.map λr=>some (.ref r.2.1):=by kernel_rfl
theorem QN:((List.range 9).all λk=>(List.range 9).all λj=>match nV[k]?,nV[j]? with|some r,some r'=>(Value.ref r.2.1::zR r.2.2.2).contains (.ref r'.2.1)==hJ k j|_,_=>true)=true:=by decide +kernel
theorem Cq{α β:Type}{f g:α->β}:∀{l:List α},l.map f=l.map g->∀a,a∈l->f a=g a
 |b::l,h,a,ha=>(cH.mp ha).elim (λe=>e▸(g9 h).1) λm=>Cq (g9 h).2 a m
theorem QO:typeLookup (.type "ValueError") "__class__"=pure (some (.builtin "object.__class__")):=by rw[typeLookup_type,u3];kernel_rfl
theorem QP(p:Str×Option Value)(hp:p∈yQ):p.1∈Cp/\typeLookup (.type "ValueError") p.1=pure p.2:=by
 unfold yQ at hp
 rcases cH.mp hp with e|hp
 ·subst e;exact⟨.tail _ (.head _),F.attr_ValueError.ga.lookup⟩
 rcases cH.mp hp with e|hp
 ·subst e;exact⟨.tail _ (.tail _ (.head _)),F.attrBase_ValueError.noGetattr⟩
 rcases cH.mp hp with e|hp
 ·subst e;exact⟨.tail _ (.tail _ (.tail _ (.head _))),QO⟩
 ·cases hp
theorem QR{M:Model}{A:Around}{Ex:Value->Shared->Prop}{h:Heap}{g:Array GenState}{d:Drawn}{t:Nat}{os:OsState}{Q:Option Value->Shared->Prop}{r r0:Str×Nat×Nat×Bool}{n:Str}{y:Option Value}{m m0:Str->Option Value}
  (hC:h.get? r.2.1=some (zS r)) (hN:h.Ns (r.2.1 - 1) m) (hm:m n=none) (h0:r0.2.1=69) (QS:h.get? r0.2.1=some (zS r0)) (QT:h.Ns (r0.2.1 - 1) m0) (QU:m0 n=none) (hB:typeLookup (.type "ValueError") n=pure y) (hq:Q y ⟨h,g,d,t,os⟩):wpAny M A (typeLookup (.ref r.2.1) n) Q Ex ⟨h,g,d,t,os⟩:=by
 have hr:lookupAlong H.vm n=pure y:=by rw[typeLookup_eq,show mroOf (.type "ValueError")=pure H.vm from F.excBase_ValueError.mroIs] at hB;exact hB
 rw[typeLookup_eq]
 refine aY (wpAny_mroOf_exc hC ?_)
 rw[lookupAlong_cons]
 refine aY (wpAny_classOwn_exc hC hN ?_)
 rw[hm]
 obtain⟨x,C,t,e⟩:=r
 cases e with
 |true=>refine(?_:wpAny M A (lookupAlong H.vm n) Q Ex _);rw[hr];exact bS hq
 |false=>
  refine(?_:wpAny M A (lookupAlong (.ref 69::H.vm) n) Q Ex _)
  rw[lookupAlong_cons]
  refine aY ?_
  rw[<-h0]
  refine wpAny_classOwn_exc QS QT ?_
  rw[QU]
  refine(?_:wpAny M A (lookupAlong H.vm n) Q Ex _)
  rw[hr];exact bS hq
theorem QV{Y:mf}{Pr:Params}(hh:∀b o,(H.H1 Pr).get? b=some o->Y.eF.get? b=some o)(hg:Y.mg=(H.H1 Pr).nsMap mainGlobals)(he:Y.exc=nV.map (·.2.1))(k:Nat)(x:Str)(hx:gK.sh[k]?=some x):yR Y k x:=by
 have uc:(nV.map (·.1))[k]?=some x:=hx
 rw[g5] at uc
 have at':∀r,r∈nV->Y.eF.get? r.2.1=some (zS r)/\Y.eF.Ns (r.2.1 - 1) ((H.H1 Pr).nsMap (r.2.1 - 1))/\∀n,n∈Cp->(H.H1 Pr).nsMap (r.2.1 - 1) n=none:=λr hr=>
  aV (iA.mp (QL Pr) r hr) λh1 h2=>⟨hh _ _ (Cq (QK Pr) r hr),(Ns.of_isNs h1).keeps hh,λn hn=>Option.isNone_iff_eq_none.mp (iA.mp h2 n hn)⟩
 refine gW (λx=>yR Y k x) uc λr hr=>?_
 have hm:=iz hr
 have A:=at' r hm
 have r0:((Str.ofString "EstateError",69,266,true):Str×Nat×Nat×Bool)∈nV:=.tail _ (.tail _ (.tail _ (.tail _ (.tail _ (.tail _ (.tail _ (.tail _ (.head _))))))))
 have B:=at' _ r0
 have hk:k<9:=(dZ.mp hr).1
 refine⟨r.2.1,H.vm,"ValueError.__new__",_,"ValueError",⟨?_,?_⟩,F.excBase_ValueError,?_,⟨by decide,by decide⟩,λo cd ho hd j D hj=>?_,λp hp A' Ex h g d t os Q hk hq=>?_⟩
 ·rw[hg];exact Cq (QM Pr) r hm
 ·refine⟨zR r.2.2.2,r.2.1 - 1,_,_,_,_,_,_,_,_,_,_,_,_,_,_,_,A.1,A.2.1,A.2.2 _ (.head _),?_⟩
  obtain⟨x,C,t,e⟩:=r
  cases e with
  |true=>exact .base
  |false=>exact .own B.1 B.2.1 (B.2.2 _ (.head _)) .base
 ·rw[he,g5,hr];rfl
 ·rw[A.1] at ho;cases ho;cases hd
  rw[he,g5] at hj
  refine gW (λD=>(Value.ref r.2.1::zR r.2.2.2).contains (.ref D)=hJ k j) hj λr' zT=>?_
  have q:=iA.mp (iA.mp QN k (jl.mpr hk)) j (jl.mpr (dZ.mp zT).1)
  rw[hr,zT] at q
  exact eq_of_beq q
 ·have z:=QP p hp
  exact QR (r:=r) (r0:=(Str.ofString "EstateError",69,266,true)) (hk _ _ A.1) (A.2.1.keeps hk) (A.2.2 _ z.1) rfl (hk _ _ B.1) (B.2.1.keeps hk) (B.2.2 _ z.1) z.2 hq
noncomputable def HL:ClsRec:=⟨gK.cls,none,[],gK.ci,0,dM.map λd=>⟨d.name,d.params,d.body,d.scope⟩⟩
theorem QW(P:Params):(H.H1 P).plainShapeAt HL=some HL.plainShape:=by kernel_rfl
theorem QX(P:Params):(H.H1 P).isNs mainGlobals=true:=by kernel_rfl
theorem QY(P:Params):(["MOST_DAY","MOST_PEOPLE","MOST_GIFTS","MOST_NUMBER"]:List Str).map ((H.H1 P).nsMap mainGlobals)=[some (.int 100000 562),some (.int 60 564),some (.int 10 566),some (.int 1000 568)]:=by kernel_rfl
theorem QZ(P:Params):(["WHOLE","NOTHING"]:List Str).map ((H.H1 P).nsMap mainGlobals)=[some (.ref 204),some (.ref 227)]:=by kernel_rfl
theorem Q0(P:Params):(H.H1 P).get? 204=some (mX [.int 1 459,.int 1 460] 0):=by kernel_rfl
theorem Q1(P:Params):(H.H1 P).get? 227=some (mX [.int 0 491,.int 1 492] 0):=by kernel_rfl
theorem Q2{Y:mf}{Pr:Params}(hh:∀b o,(H.H1 Pr).get? b=some o->Y.eF.get? b=some o)(hg:Y.mg=(H.H1 Pr).nsMap mainGlobals)(j:Nat)(x:Str)(hx:gK.yH[j]?=some x):
  (∃i t,wB[j]?=some (.int i)/\Y.mg x=some (.int i t))\/∃(a:Addr) (is:List Int) (vs:List Value) (n:Nat),wB[j]?=some (.aC (is.map .int))/\Y.mg x=some (.ref a)/\Y.eF.get? a=some (mX vs n)/\IntsAre vs is/\is.length<=1000:=by
 rw[hg]
 have I:=QY Pr
 have T:=QZ Pr
 match j,hx with
 |0,hx=>cases hx;exact .inr ⟨204,[1,1],_,_,rfl,(g9 T).1,hh _ _ (Q0 Pr),.cons _ _ (.cons _ _ .nil),by decide⟩
 |1,hx=>cases hx;exact .inr ⟨227,[0,1],_,_,rfl,(g9 (g9 T).2).1,hh _ _ (Q1 Pr),.cons _ _ (.cons _ _ .nil),by decide⟩
 |2,hx=>cases hx;exact .inl ⟨_,_,rfl,(g9 I).1⟩
 |3,hx=>cases hx;exact .inl ⟨_,_,rfl,(g9 (g9 I).2).1⟩
 |4,hx=>cases hx;exact .inl ⟨_,_,rfl,(g9 (g9 (g9 I).2).2).1⟩
 |5,hx=>cases hx;exact .inl ⟨_,_,rfl,(g9 (g9 (g9 (g9 I).2).2).2).1⟩
 |j+6,hx=>cases hx
theorem Q3{q prog:Program}{loose:List Str}{mean:ExcName->Option Value}{mg mb:Str->Option Value}{w:World}{cj:Shared}{lJ:Addr}{vs:List Value}{ns:List Int}{fa:Addr}{Pr:Params}{Q Ex:Value->Shared->Prop}
  (T:Top q loose mean mg mb cj.heap) (hh:∀b o,(H.H1 Pr).get? b=some o->cj.heap.get? b=some o) (hK:dT=(recsOf q).map QF) (Q4:yP (dT++dM) Bv yM=true) (Q5:QG q loose=true) (Q6:importsNone q=true) (Q7:prog.given.tree=none)
  (hL:cj.heap.IsList lJ vs.toArray) (hI:IntsAre vs ns) (fB:ns.length<=63) (Cm:gK.nI[62]?=some (false,Str.ofString "law")) (vN:mg "law"=some (.ref fa))
  (Co:ay 72 62 [.fu] [] (λv Z=>v=.bool true) λZ Z=>False)
  (hQ:∀h' tk,(∀b o,cj.heap.get? b=some o->h'.get? b=some o)->Q (.bool true) {cj with heap:=h',toks:=tk}):wpAny (model prog w) callerA (call (.ref fa) [.ref lJ]) Q Ex cj:=by
 have hg:mg=(H.H1 Pr).nsMap mainGlobals:=T.g.eq_nsMap.trans ((Ns.of_isNs (QX Pr)).keeps hh).eq_nsMap.symm
 obtain⟨C,N,hC,PL⟩:=plainAt_of_shape (QW Pr)
 have PL:=PL.keeps hh
 refine gE (LW (QH Cm Co) ⟨prog,w,lJ,ns,mg,mb,C,N,(H.H1 Pr).nsMap N,nV.map (·.2.1),dT++dM,cj⟩ ?_ fa Q vN hQ) (λZ Z q=>q) λZ Z h=>h.elim
 refine⟨T.g,T.b,λp hp=>?_,QJ (λd hd=>?_) (λd hd=>?_) rfl,Q2 hh hg,QV hh hg rfl,rfl,hg▸hC,PL.cls,PL.quiet,T.nolimit,T.seer Q6,Q7,⟨vs,hL,hI⟩,fB,?_,T.bmain,Q4⟩
 ·exact aV (iA.mp Q5 p hp) λh1 h=>aV h λh2 h=>aV h λh3 h=>aV h λh4 h=>aV h λh5 h=>aV h λh6 h7=>⟨T.free p.1 (ub h1) (ub h2) (ub h3) (ub h4) (ub h5),(T.builtins p.1 (λe=>by rw[e] at h6;exact absurd h6 (by decide))).trans (cf h7)⟩
 ·rw[hK] at hd
  exact(fj.mp hd).elim λr y=>y.2▸T.fn r y.1
 ·exact PL.meths _ (fj.mpr ⟨d,hd,rfl⟩)
 ·exact T.nodigits.elim λmc h=>h.1.imp λo h=>h.elim λZ h=>h.elim λZ h=>h.1
end Mine
namespace Mine.H
open PySem PySem.W PyProof.Rows
theorem pre(w:World)(os:OsState):topGo treeTable pp w 11 an 12 ⟨boot_heap w.params,Array.mk [],boot_drawn,boot_toks,os⟩ (topStub pp)=some ((s0 w os).abs,⟨denote treeTable cE,cE,ps 0 0 0 0,[topFrame (ps 0 0 0 0)]⟩):=by kernel_rfl
theorem Q8(w:World)(os:OsState):segRun treeTable pp w 11 an 1 1 (s0 w os).abs (blockOf bE env cE (ps 0 0 0 0) [topFrame (ps 0 0 0 0)])=some (.next,(s0 w os).abs,cE,ps 0 0 0 0):=by kernel_rfl
noncomputable abbrev r0:List Stmt:=bE
theorem g0(w:World)(os:OsState):segRunT treeTable pp w 11 an 1 2000 (s0 w os) (piecesOf (r0.take 13) env cE (ps 0 0 0 0) [topFrame (ps 0 0 0 0)])=some (.next,s1 w os,cE,ps 56 0 57 8):=by kernel_rfl
noncomputable abbrev r1:List Stmt:=r0.drop 13
theorem g1(w:World)(os:OsState):segRunT treeTable pp w 11 an 1 2000 (s1 w os) (piecesOf (r1.take 4) env cE (ps 56 0 57 8) [topFrame (ps 0 0 0 0)])=some (.next,s2 w os,cE,ps 64 0 65 8):=by kernel_rfl
noncomputable abbrev r2:List Stmt:=r1.drop 4
theorem g2(w:World)(os:OsState):segRunT treeTable pp w 11 an 1 2000 (s2 w os) (piecesOf (r2.take 22) env cE (ps 64 0 65 8) [topFrame (ps 0 0 0 0)])=some (.next,s3 w os,cE,ps 165 0 184 15):=by kernel_rfl
noncomputable abbrev r3:List Stmt:=r2.drop 22
theorem g3(w:World)(os:OsState):segRunT treeTable pp w 11 an 1 2000 (s3 w os) (piecesOf (r3.take 10) env cE (ps 165 0 184 15) [topFrame (ps 0 0 0 0)])=some (.next,s4 w os,cE,ps 199 0 333 41):=by kernel_rfl
noncomputable abbrev r4:List Stmt:=r3.drop 10
theorem g4(w:World)(os:OsState):segRunT treeTable pp w 11 an 1 2000 (s4 w os) (piecesOf (r4.take 38) env cE (ps 199 0 333 41) [topFrame (ps 0 0 0 0)])=some (.next,s5 w os,cE,ps 620 0 652 111):=by kernel_rfl
noncomputable abbrev r5:List Stmt:=r4.drop 38
theorem fin(w:World)(os:OsState):topRun treeTable pp w 11 an 5 (s5 w os).abs (restOf r5 env cE (ps 620 0 652 111) [topFrame (ps 0 0 0 0)])=some ⟨H1 w.params,Array.mk [],boot_drawn,1083,os⟩:=by kernel_rfl
theorem pc{w:World}{n N m:Nat}{s s' r:Shared}{l:List Stmt}{pos p':Pos}(h:segRun treeTable pp w 11 an 1 n s (piecesOf (l.take m) env cE pos [topFrame (ps 0 0 0 0)])=some (.next,s',cE,p'))(k:topRun treeTable pp w 11 an N s' (restOf (l.drop m) env cE p' [topFrame (ps 0 0 0 0)])=some r):topRun treeTable pp w 11 an (n+N) s (restOf l env cE pos [topFrame (ps 0 0 0 0)])=some r:=by
 have e:=piece_app h k
 rw[List.take_append_drop] at e
 exact e
theorem run(w:World)(os:OsState):topRun treeTable pp w 11 an (12+(1+(2000+(2000+(2000+(2000+(2000+5))))))) ⟨boot_heap w.params,Array.mk [],boot_drawn,boot_toks,os⟩ (topStub pp)=some ⟨H1 w.params,Array.mk [],boot_drawn,1083,os⟩:=
 go_top (pre w os) (piece_block (Q8 w os) (pc (segRun_of (g0 w os)) (pc (segRun_of (g1 w os)) (pc (segRun_of (g2 w os)) (pc (segRun_of (g3 w os)) (pc (segRun_of (g4 w os)) (fin w os)))))))
noncomputable def pk(ns:List Nat):List Stmt->List Stmt:=List.rec (λZ=>[]) (λn Z f l=>l.take n++f (l.drop (n+1))) ns
noncomputable def qv:Program:={pp with main:={pp.main with body:=pk [0,4,3,9,5,5,7,9,37] pp.main.body}}
noncomputable def uj:DefRec:=(recsOf qv).getLastD ⟨Str.empty,default,[],default,default⟩
theorem d1:defOf qv PySem.Challenge.rw_uf020001_11.row.name=some (uj,[]):=by kernel_rfl
theorem d2:pp.theDef PySem.Challenge.rw_uf020001_11.row.name=some (uj.params,uj.body,uj.scope):=by kernel_rfl
theorem d3:kwWritten? uj.params.kwonlyargs uj.params.kw_defaults=some []:=by kernel_rfl
noncomputable abbrev lo:List Str:=[]
noncomputable abbrev lv:List (Str×WData):=[]
noncomputable abbrev Q9:OpenRow:=PySem.Challenge.rw_uf020001_11.row
noncomputable abbrev Xt(s:Shared):Bool:=xlAt qv lv s&&recOk (RowW.records Q9.toRowW) s
noncomputable abbrev sF(w:World)(os:OsState):Shared:=⟨H1 w.params,Array.mk [],boot_drawn,1083,os⟩
theorem size(w:World):((boot_heap w.params).isNs mainGlobals&&(Array.mk []:Array GenState).size==0,(boot_heap w.params).objs.size,(boot_heap w.params).nsMap mainGlobals "__annotations__")=(true,11,an):=by kernel_rfl
theorem Ra(w:World):(fencedOpening treeTable pp w 20000).map (λs=>(s.heap,s.gens,s.drawn,s.toks))=some (boot_heap w.params,Array.mk [],boot_drawn,boot_toks):=boot_open (by kernel_rfl) (by decide) (λs=>by kernel_rfl) w
theorem k1(w:World)(os:OsState):(staticsOk (importedModules pp.main.body) (boot_heap w.params) (H1 w.params)&&namesBound pp (H1 w.params)&&gensDone (sF w os)&&laidKept (boot_heap w.params) (H1 w.params))=true:=by kernel_rfl
theorem n1(w:World)(os:OsState):seen ((recsOf qv).map (·.name)) (ownsOf qv) [] {sF w os with gens:=#[]}=expectedOf qv:=by kernel_rfl
theorem n2(w:World)(os:OsState):(sF w os).heap.bltView=bltViewBooted:=by kernel_rfl
theorem n3(w:World)(os:OsState):((sF w os).heap.keysOk (looseW qv lo) ((recsOf qv).map (·.name)) ((litsOf qv).map (·.1)) ((clssOf qv (looseW qv lo)).map (·.name))&&(sF w os).heap.accountedOkI (importedModules pp.main.body)&&(sF w os).heap.isNs mainGlobals&&(sF w os).heap.isNs builtinsNs&&tablesOk qv (sF w os).heap&&Xt (sF w os)&&(if true then(sF w os).gens.size==0 else !leftWithCleanup (sF w os).gens))=true:=by kernel_rfl
theorem n4(w:World)(os:OsState):tabsOk qv (sF w os)=true:=by kernel_rfl
theorem n5(w:World)(os:OsState):pinSeenD qv (drecsOf qv) (sF w os)=pinGoodD (drecsOf qv):=by kernel_rfl
theorem n6(w:World)(os:OsState):plainSeenE qv (looseW qv lo) (sF w os)=plainGoodE qv (looseW qv lo):=by kernel_rfl
theorem n7(w:World)(os:OsState):plainSeenD qv lo (sF w os)=plainGoodD qv lo:=by kernel_rfl
theorem n8(w:World)(os:OsState):wideSeen qv (sF w os)=wideGood qv:=by kernel_rfl
theorem n9(w:World)(os:OsState):clsSeenW qv lo (sF w os)=clsGoodW qv lo:=by kernel_rfl
theorem pr{α β:Type}{a a':α}{b b':β}(x:a=a')(y:b=b'):(a,b)=(a',b'):=by rw[x,y]
theorem sn(w:World)(os:OsState):openSeen qv lo (importedModules pp.main.body) Xt true (sF w os)=openGood qv lo:=pr (n1 w os) (pr (n2 w os) (pr (n3 w os) (pr (n4 w os) (pr (n5 w os) (pr (n6 w os) (pr (n7 w os) (pr (n8 w os) (n9 w os))))))))
end Mine.H
namespace Mine.P
open PySem
theorem Rb{n:Nat}{x0 x1 x2:V}{H:Hp}{Q Y:PQ}(h:aG ⟨ay n,xq Y⟩ ET [some x0,some x1,some x2,none,none,none,none] H (bD Q)):ay (n+1) 0 [x0,x1,x2] H Q Y:=⟨⟨rfl,by decide⟩,h⟩
theorem Rc{n:Nat}{x0 x1 x2:V}{H:Hp}{Q Y:PQ}(h:aG ⟨ay n,xq Y⟩ EU [some x0,some x1,some x2,none,none,none,none] H (bD Q)):ay (n+1) 1 [x0,x1,x2] H Q Y:=⟨⟨rfl,by decide⟩,h⟩
theorem Rd{n:Nat}{x0 x1 x2:V}{H:Hp}{Q Y:PQ}(h:aG ⟨ay n,xq Y⟩ EV [some x0,some x1,some x2,none,none] H (bD Q)):ay (n+1) 2 [x0,x1,x2] H Q Y:=⟨⟨rfl,by decide⟩,h⟩
theorem Rf{n:Nat}{x0 x1 x2:V}{H:Hp}{Q Y:PQ}(h:aG ⟨ay n,xq Y⟩ EW [some x0,some x1,some x2,none] H (bD Q)):ay (n+1) 3 [x0,x1,x2] H Q Y:=⟨⟨rfl,by decide⟩,h⟩
theorem Rg{n:Nat}{x0 x1 x2:V}{H:Hp}{Q Y:PQ}(h:aG ⟨ay n,xq Y⟩ EX [some x0,some x1,some x2,none,none,none] H (bD Q)):ay (n+1) 4 [x0,x1,x2] H Q Y:=⟨⟨rfl,by decide⟩,h⟩
theorem Rh{n:Nat}{x0 x1 x2 x3:V}{H:Hp}{Q Y:PQ}(h:aG ⟨ay n,xq Y⟩ EY [some x0,some x1,some x2,some x3,none,none,none,none] H (bD Q)):ay (n+1) 5 [x0,x1,x2,x3] H Q Y:=⟨⟨rfl,by decide⟩,h⟩
theorem Ri{n:Nat}{x0 x1 x2:V}{H:Hp}{Q Y:PQ}(h:aG ⟨ay n,xq Y⟩ yI [some x0,some x1,some x2,none,none,none,none,none] H (bD Q)):ay (n+1) 6 [x0,x1,x2] H Q Y:=⟨⟨rfl,by decide⟩,h⟩
theorem Rj{n:Nat}{x0 x1:V}{H:Hp}{Q Y:PQ}(h:aG ⟨ay n,xq Y⟩ Be [some x0,some x1,none,none,none] H (bD Q)):ay (n+1) 7 [x0,x1] H Q Y:=⟨⟨rfl,by decide⟩,h⟩
theorem Rk{n:Nat}{x0 x1:V}{H:Hp}{Q Y:PQ}(h:aG ⟨ay n,xq Y⟩ EZ [some x0,some x1] H (bD Q)):ay (n+1) 8 [x0,x1] H Q Y:=⟨⟨rfl,by decide⟩,h⟩
theorem Rl{n:Nat}{x0 x1:V}{H:Hp}{Q Y:PQ}(h:aG ⟨ay n,xq Y⟩ E0 [some x0,some x1] H (bD Q)):ay (n+1) 9 [x0,x1] H Q Y:=⟨⟨rfl,by decide⟩,h⟩
theorem Rm{n:Nat}{x0 x1:V}{H:Hp}{Q Y:PQ}(h:aG ⟨ay n,xq Y⟩ E3 [some x0,some x1] H (bD Q)):ay (n+1) 10 [x0,x1] H Q Y:=⟨⟨rfl,by decide⟩,h⟩
theorem Rn{n:Nat}{x0 x1:V}{H:Hp}{Q Y:PQ}(h:aG ⟨ay n,xq Y⟩ E4 [some x0,some x1] H (bD Q)):ay (n+1) 11 [x0,x1] H Q Y:=⟨⟨rfl,by decide⟩,h⟩
theorem Ro{n:Nat}{x0 x1 x2 x3:V}{H:Hp}{Q Y:PQ}(h:aG ⟨ay n,xq Y⟩ E5 [some x0,some x1,some x2,some x3,none,none,none,none,none,none,none] H (bD Q)):ay (n+1) 12 [x0,x1,x2,x3] H Q Y:=⟨⟨rfl,by decide⟩,h⟩
theorem Rp{n:Nat}{x0 x1 x2:V}{H:Hp}{Q Y:PQ}(h:aG ⟨ay n,xq Y⟩ E6 [some x0,some x1,some x2] H (bD Q)):ay (n+1) 13 [x0,x1,x2] H Q Y:=⟨⟨rfl,by decide⟩,h⟩
theorem Rq{n:Nat}{x0 x1 x2 x3:V}{H:Hp}{Q Y:PQ}(h:aG ⟨ay n,xq Y⟩ E7 [some x0,some x1,some x2,some x3] H (bD Q)):ay (n+1) 14 [x0,x1,x2,x3] H Q Y:=⟨⟨rfl,by decide⟩,h⟩
theorem Rr{n:Nat}{x0 x1 x2:V}{H:Hp}{Q Y:PQ}(h:aG ⟨ay n,xq Y⟩ E8 [some x0,some x1,some x2,none,none,none,none,none,none,none,none] H (bD Q)):ay (n+1) 15 [x0,x1,x2] H Q Y:=⟨⟨rfl,by decide⟩,h⟩
theorem Rt{n:Nat}{x0 x1 x2:V}{H:Hp}{Q Y:PQ}(h:aG ⟨ay n,xq Y⟩ E9 [some x0,some x1,some x2,none,none,none] H (bD Q)):ay (n+1) 16 [x0,x1,x2] H Q Y:=⟨⟨rfl,by decide⟩,h⟩
theorem Ru{n:Nat}{x0 x1 x2:V}{H:Hp}{Q Y:PQ}(h:aG ⟨ay n,xq Y⟩ Fa [some x0,some x1,some x2,none,none,none,none,none] H (bD Q)):ay (n+1) 17 [x0,x1,x2] H Q Y:=⟨⟨rfl,by decide⟩,h⟩
theorem Rv{n:Nat}{x0 x1 x2 x3:V}{H:Hp}{Q Y:PQ}(h:aG ⟨ay n,xq Y⟩ Fb [some x0,some x1,some x2,some x3,none,none,none,none,none,none,none] H (bD Q)):ay (n+1) 18 [x0,x1,x2,x3] H Q Y:=⟨⟨rfl,by decide⟩,h⟩
theorem Rw{n:Nat}{x0 x1 x2:V}{H:Hp}{Q Y:PQ}(h:aG ⟨ay n,xq Y⟩ Fd [some x0,some x1,some x2,none,none] H (bD Q)):ay (n+1) 19 [x0,x1,x2] H Q Y:=⟨⟨rfl,by decide⟩,h⟩
theorem Rx{n:Nat}{x0 x1:V}{H:Hp}{Q Y:PQ}(h:aG ⟨ay n,xq Y⟩ Fe [some x0,some x1] H (bD Q)):ay (n+1) 20 [x0,x1] H Q Y:=⟨⟨rfl,by decide⟩,h⟩
theorem Ry{n:Nat}{x0 x1:V}{H:Hp}{Q Y:PQ}(h:aG ⟨ay n,xq Y⟩ Bf [some x0,some x1,none,none,none,none,none,none,none,none,none,none,none,none] H (bD Q)):ay (n+1) 21 [x0,x1] H Q Y:=⟨⟨rfl,by decide⟩,h⟩
theorem Rz{n:Nat}{x0 x1 x2:V}{H:Hp}{Q Y:PQ}(h:aG ⟨ay n,xq Y⟩ Ff [some x0,some x1,some x2] H (bD Q)):ay (n+1) 22 [x0,x1,x2] H Q Y:=⟨⟨rfl,by decide⟩,h⟩
theorem RA{n:Nat}{x0:V}{H:Hp}{Q Y:PQ}(h:aG ⟨ay n,xq Y⟩ Fg [some x0] H (bD Q)):ay (n+1) 23 [x0] H Q Y:=⟨⟨rfl,by decide⟩,h⟩
theorem RB{n:Nat}{x0:V}{H:Hp}{Q Y:PQ}(h:aG ⟨ay n,xq Y⟩ Fh [some x0] H (bD Q)):ay (n+1) 24 [x0] H Q Y:=⟨⟨rfl,by decide⟩,h⟩
theorem RC{n:Nat}{x0:V}{H:Hp}{Q Y:PQ}(h:aG ⟨ay n,xq Y⟩ Bg [some x0] H (bD Q)):ay (n+1) 25 [x0] H Q Y:=⟨⟨rfl,by decide⟩,h⟩
theorem RD{n:Nat}{x0 x1:V}{H:Hp}{Q Y:PQ}(h:aG ⟨ay n,xq Y⟩ Fi [some x0,some x1] H (bD Q)):ay (n+1) 26 [x0,x1] H Q Y:=⟨⟨rfl,by decide⟩,h⟩
theorem RF{n:Nat}{x0:V}{H:Hp}{Q Y:PQ}(h:aG ⟨ay n,xq Y⟩ Fj [some x0] H (bD Q)):ay (n+1) 27 [x0] H Q Y:=⟨⟨rfl,by decide⟩,h⟩
theorem RG{n:Nat}{x0 x1:V}{H:Hp}{Q Y:PQ}(h:aG ⟨ay n,xq Y⟩ Bh [some x0,some x1,none,none,none] H (bD Q)):ay (n+1) 28 [x0,x1] H Q Y:=⟨⟨rfl,by decide⟩,h⟩
theorem RH{n:Nat}{x0 x1 x2:V}{H:Hp}{Q Y:PQ}(h:aG ⟨ay n,xq Y⟩ Bj [some x0,some x1,some x2,none,none] H (bD Q)):ay (n+1) 29 [x0,x1,x2] H Q Y:=⟨⟨rfl,by decide⟩,h⟩
theorem RI{n:Nat}{x0 x1:V}{H:Hp}{Q Y:PQ}(h:aG ⟨ay n,xq Y⟩ Fk [some x0,some x1,none,none,none,none,none,none,none,none,none] H (bD Q)):ay (n+1) 30 [x0,x1] H Q Y:=⟨⟨rfl,by decide⟩,h⟩
theorem RJ{n:Nat}{x0 x1:V}{H:Hp}{Q Y:PQ}(h:aG ⟨ay n,xq Y⟩ Fl [some x0,some x1,none,none,none,none,none,none,none,none,none] H (bD Q)):ay (n+1) 31 [x0,x1] H Q Y:=⟨⟨rfl,by decide⟩,h⟩
theorem RK{n:Nat}{x0 x1 x2:V}{H:Hp}{Q Y:PQ}(h:aG ⟨ay n,xq Y⟩ Fm [some x0,some x1,some x2] H (bD Q)):ay (n+1) 32 [x0,x1,x2] H Q Y:=⟨⟨rfl,by decide⟩,h⟩
theorem RL{n:Nat}{x0 x1:V}{H:Hp}{Q Y:PQ}(h:aG ⟨ay n,xq Y⟩ Bk [some x0,some x1,none] H (bD Q)):ay (n+1) 36 [x0,x1] H Q Y:=⟨⟨rfl,by decide⟩,h⟩
theorem RM{n:Nat}{x0 x1 x2:V}{H:Hp}{Q Y:PQ}(h:aG ⟨ay n,xq Y⟩ Fo [some x0,some x1,some x2] H (bD Q)):ay (n+1) 37 [x0,x1,x2] H Q Y:=⟨⟨rfl,by decide⟩,h⟩
theorem RN{n:Nat}{x0 x1 x2:V}{H:Hp}{Q Y:PQ}(h:aG ⟨ay n,xq Y⟩ Fq [some x0,some x1,some x2,none,none,none,none,none,none,none,none] H (bD Q)):ay (n+1) 38 [x0,x1,x2] H Q Y:=⟨⟨rfl,by decide⟩,h⟩
theorem RP{n:Nat}{x0 x1 x2:V}{H:Hp}{Q Y:PQ}(h:aG ⟨ay n,xq Y⟩ Fs [some x0,some x1,some x2,none,none,none,none,none] H (bD Q)):ay (n+1) 39 [x0,x1,x2] H Q Y:=⟨⟨rfl,by decide⟩,h⟩
theorem RQ{n:Nat}{x0 x1 x2:V}{H:Hp}{Q Y:PQ}(h:aG ⟨ay n,xq Y⟩ Ft [some x0,some x1,some x2,none,none,none,none,none] H (bD Q)):ay (n+1) 40 [x0,x1,x2] H Q Y:=⟨⟨rfl,by decide⟩,h⟩
theorem RT{n:Nat}{x0 x1:V}{H:Hp}{Q Y:PQ}(h:aG ⟨ay n,xq Y⟩ Fu [some x0,some x1,none,none,none] H (bD Q)):ay (n+1) 41 [x0,x1] H Q Y:=⟨⟨rfl,by decide⟩,h⟩
theorem RU{n:Nat}{x0 x1:V}{H:Hp}{Q Y:PQ}(h:aG ⟨ay n,xq Y⟩ Fv [some x0,some x1,none,none,none] H (bD Q)):ay (n+1) 43 [x0,x1] H Q Y:=⟨⟨rfl,by decide⟩,h⟩
theorem RV{n:Nat}{x0:V}{H:Hp}{Q Y:PQ}(h:aG ⟨ay n,xq Y⟩ Bm [some x0,none] H (bD Q)):ay (n+1) 45 [x0] H Q Y:=⟨⟨rfl,by decide⟩,h⟩
theorem xN{n:Nat}{x0 x1:V}{H:Hp}{Q Y:PQ}(h:aG ⟨ay n,xq Y⟩ Fw [some x0,some x1] H (bD Q)):ay (n+1) 46 [x0,x1] H Q Y:=⟨⟨rfl,by decide⟩,h⟩
theorem HM{n:Nat}{x0 x1:V}{H:Hp}{Q Y:PQ}(h:aG ⟨ay n,xq Y⟩ Fx [some x0,some x1,none,none] H (bD Q)):ay (n+1) 47 [x0,x1] H Q Y:=⟨⟨rfl,by decide⟩,h⟩
theorem RW{n:Nat}{x0 x1:V}{H:Hp}{Q Y:PQ}(h:aG ⟨ay n,xq Y⟩ Fy [some x0,some x1] H (bD Q)):ay (n+1) 48 [x0,x1] H Q Y:=⟨⟨rfl,by decide⟩,h⟩
theorem Cr{n:Nat}{x0:V}{H:Hp}{Q Y:PQ}(h:aG ⟨ay n,xq Y⟩ Fz [some x0] H (bD Q)):ay (n+1) 49 [x0] H Q Y:=⟨⟨rfl,by decide⟩,h⟩
theorem Cs{n:Nat}{x0:V}{H:Hp}{Q Y:PQ}(h:aG ⟨ay n,xq Y⟩ FA [some x0] H (bD Q)):ay (n+1) 50 [x0] H Q Y:=⟨⟨rfl,by decide⟩,h⟩
theorem RX{n:Nat}{x0 x1 x2:V}{H:Hp}{Q Y:PQ}(h:aG ⟨ay n,xq Y⟩ FC [some x0,some x1,some x2,none,none,none] H (bD Q)):ay (n+1) 51 [x0,x1,x2] H Q Y:=⟨⟨rfl,by decide⟩,h⟩
theorem RY{n:Nat}{x0 x1:V}{H:Hp}{Q Y:PQ}(h:aG ⟨ay n,xq Y⟩ yJ [some x0,some x1,none,none,none,none] H (bD Q)):ay (n+1) 52 [x0,x1] H Q Y:=⟨⟨rfl,by decide⟩,h⟩
theorem RZ{n:Nat}{x0 x1 x2 x3:V}{H:Hp}{Q Y:PQ}(h:aG ⟨ay n,xq Y⟩ Bo [some x0,some x1,some x2,some x3,none] H (bD Q)):ay (n+1) 53 [x0,x1,x2,x3] H Q Y:=⟨⟨rfl,by decide⟩,h⟩
theorem R4{n:Nat}{x0 x1:V}{H:Hp}{Q Y:PQ}(h:aG ⟨ay n,xq Y⟩ u4 [some x0,some x1,none,none,none] H (bD Q)):ay (n+1) 54 [x0,x1] H Q Y:=⟨⟨rfl,by decide⟩,h⟩
theorem R5{n:Nat}{x0 x1:V}{H:Hp}{Q Y:PQ}(h:aG ⟨ay n,xq Y⟩ Bp [some x0,some x1,none,none,none,none,none,none,none,none] H (bD Q)):ay (n+1) 55 [x0,x1] H Q Y:=⟨⟨rfl,by decide⟩,h⟩
theorem R6{n:Nat}{x0:V}{H:Hp}{Q Y:PQ}(h:aG ⟨ay n,xq Y⟩ tD [some x0,none,none,none,none,none,none] H (bD Q)):ay (n+1) 56 [x0] H Q Y:=⟨⟨rfl,by decide⟩,h⟩
theorem R7{n:Nat}{x0 x1 x2:V}{H:Hp}{Q Y:PQ}(h:aG ⟨ay n,xq Y⟩ FD [some x0,some x1,some x2] H (bD Q)):ay (n+1) 57 [x0,x1,x2] H Q Y:=⟨⟨rfl,by decide⟩,h⟩
theorem R8{n:Nat}{x0 x1 x2:V}{H:Hp}{Q Y:PQ}(h:aG ⟨ay n,xq Y⟩ wA [some x0,some x1,some x2] H (bD Q)):ay (n+1) 58 [x0,x1,x2] H Q Y:=⟨⟨rfl,by decide⟩,h⟩
theorem R9{n:Nat}{x0:V}{H:Hp}{Q Y:PQ}(h:aG ⟨ay n,xq Y⟩ Bq [some x0,none] H (bD Q)):ay (n+1) 59 [x0] H Q Y:=⟨⟨rfl,by decide⟩,h⟩
theorem Sa{n:Nat}{x0 x1:V}{H:Hp}{Q Y:PQ}(h:aG ⟨ay n,xq Y⟩ lI [some x0,some x1,none,none,none,none,none,none,none,none,none,none] H (bD Q)):ay (n+1) 60 [x0,x1] H Q Y:=⟨⟨rfl,by decide⟩,h⟩
theorem Sb{n:Nat}{x0 x1:V}{H:Hp}{Q Y:PQ}(h:aG ⟨ay n,xq Y⟩ Br [some x0,some x1,none] H (bD Q)):ay (n+1) 61 [x0,x1] H Q Y:=⟨⟨rfl,by decide⟩,h⟩
theorem Sd{n:Nat}{x0:V}{H:Hp}{Q Y:PQ}(h:aG ⟨ay n,xq Y⟩ Bs [some x0,none,none,none,none,none,none,none,none,none,none,none,none,none,none] H (bD Q)):ay (n+1) 62 [x0] H Q Y:=⟨⟨rfl,by decide⟩,h⟩
theorem Se{n:Nat}{x0:V}{H:Hp}{Q Y:PQ}(h:aG ⟨ay n,xq Y⟩ Bt [some x0] H (bD Q)):ay (n+1) 63 [x0] H Q Y:=⟨⟨rfl,by decide⟩,h⟩
theorem Sf{n:Nat}{x0 x1:V}{H:Hp}{Q Y:PQ}(h:aG ⟨ay n,xq Y⟩ FE [some x0,some x1] H (bD Q)):ay (n+1) 64 [x0,x1] H Q Y:=⟨⟨rfl,by decide⟩,h⟩
theorem Sg{n:Nat}{x0 x1 x2:V}{H:Hp}{Q Y:PQ}(h:aG ⟨ay n,xq Y⟩ FF [some x0,some x1,some x2] H (bD Q)):ay (n+1) 65 [x0,x1,x2] H Q Y:=⟨⟨rfl,by decide⟩,h⟩
theorem Sh{n:Nat}{x0:V}{H:Hp}{Q Y:PQ}(h:aG ⟨ay n,xq Y⟩ FG [some x0,none,none,none] H (bD Q)):ay (n+1) 66 [x0] H Q Y:=⟨⟨rfl,by decide⟩,h⟩
theorem Si{n:Nat}{x0 x1 x2:V}{H:Hp}{Q Y:PQ}(h:aG ⟨ay n,xq Y⟩ yK [some x0,some x1,some x2,none] H (bD Q)):ay (n+1) 67 [x0,x1,x2] H Q Y:=⟨⟨rfl,by decide⟩,h⟩
theorem Sj{n:Nat}{x0 x1 x2 x3:V}{H:Hp}{Q Y:PQ}(h:aG ⟨ay n,xq Y⟩ u5 [some x0,some x1,some x2,some x3,none,none,none,none,none] H (bD Q)):ay (n+1) 68 [x0,x1,x2,x3] H Q Y:=⟨⟨rfl,by decide⟩,h⟩
theorem Sk{n:Nat}{x0 x1 x2:V}{H:Hp}{Q Y:PQ}(h:aG ⟨ay n,xq Y⟩ Bu [some x0,some x1,some x2,none] H (bD Q)):ay (n+1) 69 [x0,x1,x2] H Q Y:=⟨⟨rfl,by decide⟩,h⟩
theorem HN{n:Nat}{x0 x1 x2 x3:V}{H:Hp}{Q Y:PQ}(h:aG ⟨ay n,xq Y⟩ si [some x0,some x1,some x2,some x3,none,none,none] H (bD Q)):ay (n+1) 70 [x0,x1,x2,x3] H Q Y:=⟨⟨rfl,by decide⟩,h⟩
theorem HO{n:Nat}{x0 x1 x2:V}{H:Hp}{Q Y:PQ}(h:aG ⟨ay n,xq Y⟩ qT [some x0,some x1,some x2,none,none,none,none,none,none,none,none,none] H (bD Q)):ay (n+1) 71 [x0,x1,x2] H Q Y:=⟨⟨rfl,by decide⟩,h⟩
theorem HP{n:Nat}{x0 x1 x2:V}{H:Hp}{Q Y:PQ}(h:aG ⟨ay n,xq Y⟩ yL [some x0,some x1,some x2,none,none,none,none,none,none] H (bD Q)):ay (n+1) 72 [x0,x1,x2] H Q Y:=⟨⟨rfl,by decide⟩,h⟩
theorem HQ{n:Nat}{x0 x1 x2 x3:V}{H:Hp}{Q Y:PQ}(h:aG ⟨ay n,xq Y⟩ u6 [some x0,some x1,some x2,some x3,none,none,none,none,none] H (bD Q)):ay (n+1) 73 [x0,x1,x2,x3] H Q Y:=⟨⟨rfl,by decide⟩,h⟩
theorem Sl{n:Nat}{x0:V}{H:Hp}{Q Y:PQ}(h:aG ⟨ay n,xq Y⟩ FH [some x0] H (bD Q)):ay (n+1) 75 [x0] H Q Y:=⟨⟨rfl,by decide⟩,h⟩
theorem So{n:Nat}{x0:V}{H:Hp}{Q Y:PQ}(h:aG ⟨ay n,xq Y⟩ FI [some x0] H (bD Q)):ay (n+1) 76 [x0] H Q Y:=⟨⟨rfl,by decide⟩,h⟩
theorem Sp{n:Nat}{x0 x1:V}{H:Hp}{Q Y:PQ}(h:aG ⟨ay n,xq Y⟩ FJ [some x0,some x1] H (bD Q)):ay (n+1) 77 [x0,x1] H Q Y:=⟨⟨rfl,by decide⟩,h⟩
end Mine.P
namespace Mine.L
open Mine.P PySem
variable{H H' H₁ H₀ H₂:Hp}{Y Q:PQ}{n l B j lw lm a lg f lf lr lq lh ld L ew N ov ls lc ca lp lx b' ef ea l' kR kS la ep lb lt k' eh:Nat}{d x z0:Int}{ρ d6 fs ck:bB}{v u D z:V}{vs us os acc ds ys Dl:List V}{C:Ct}{rest:List S}{o7 o4 o8 o5 o6 o9 o3 o10 bT x3 x2 x0 o x5 x1 jt iD o2 x4 x6 x9 uk o' i8 nW:Option V}{e e2 e1 e' elt HR e4:E}{as ks es cs ts al ns:List Nat}{y R:Rat}{xs:List Int}{hi:Option Int}{how:Str}{err:Option Nat}
theorem au{α:Type}{o:Option α}{f:α->Prop}{a:α}(e:o=some a)(h:f a):aI o f:=by rw[e];exact h
theorem xO{α:Type}{o:Option α}{f g:α->Prop}(h:aI o f)(k:∀a,f a->g a):aI o g:=by
 cases o
 ·exact h
 ·exact k _ h
section
variable{ws:List Nat}{t:dq}{K:Out->Prop}
theorem Cu{test:bB->Hp->(Bool->Hp->Prop)->Prop}{body:bB->Hp->(Out->Prop)->Prop}(I:Nat->bB->Hp->Prop)(step:∀n ρ H,I n ρ H->∀T:Bool->Hp->Prop,(∀H',(∀N:bB->Hp->Prop,(∀m iC H₁,m<n->I m iC H₁->N iC H₁)->body ρ H' (oO K N))->T true H')->(∀H',K (.next ρ H')->T false H')->test ρ H T):∀k n ρ H,n<k->I n ρ H->yZ test body k ρ H K
 |0,n,ρ,H,hk,h=>absurd hk (not_lt_zero _)
 |k+1,n,ρ,H,hk,h=>step n ρ H h _ (λH' hb=>hb _ λm iC H₁ hm hi=>Cu I step k m iC H₁ (fh hm (le_of_lt_succ hk)) hi) (λH' hk=>hk)
end
open Mine.P
def Cv(a b:Int)(H:Hp)(n:Nat)(ρ:bB)(H':Hp):Prop:=∀PartIζ:Prop,(∀(x y:Int) (z:Option V) (e:ρ=[some (.int a),some (.int b),some (.int x),some (.int y),z]) (eh:H'=H) (hy:0<=y) (hn:n=y.toNat) (hg:gcd x y=gcd a b) (hx:y=0->0<=x),PartIζ)->PartIζ
theorem Cv.mk{a b:Int}(x y:Int)(z:Option V)(e:ρ=[some (.int a),some (.int b),some (.int x),some (.int y),z])(eh:H'=H)(hy:0<=y)(hn:n=y.toNat)(hg:gcd x y=gcd a b)(hx:y=0->0<=x):Cv a b H n ρ H':=λZ cm=>cm x y z e eh hy hn hg hx
theorem HS{a b:Int}(hb:0<b)(k:Q (.aC [.int (a.fdiv (gcd a b)),.int (b.fdiv (gcd a b))]) H):aG C Be [some (.int a),some (.int b),none,none,none] H (bD Q):=by
 refine Cu (K:=_) (Cv a b H) (λm ρ H' h T ht hf=>?_) _ b.toNat _ _ ?_ (.mk a b none rfl rfl (le_of_lt hb) rfl rfl (λe=>absurd e (ne_of_gt hb)))
 ·refine h _ λx y z e eh hy hn hg hx=>?_
  subst e eh
  refine(?_:T (decide (y>0)) _)
  by_cases ul:y>0
  ·rw[c9 ul]
   refine ht _ λN hN=>?_
   refine(?_:aI (binI .mod x y) _)
   refine au (a:=x.fmod y) (bG (ne_of_gt ul)) ?_
   have hm:x.fmod y=x - (x/y)*y:=by rw[Int.fmod_eq_emod_of_nonneg x hy,Int.emod_def,Int.mul_comm]
   exact hN (x.fmod y).toNat _ _ (by rw[hn,Int.fmod_eq_emod_of_nonneg x hy];exact(Int.toNat_lt_toNat ul).mpr (Int.emod_lt_of_pos x ul)) (.mk y (x.fmod y) _ rfl rfl (by rw[Int.fmod_eq_emod_of_nonneg x hy];exact Int.emod_nonneg x (ne_of_gt ul)) rfl (by rw[hm,Int.gcd_sub_mul_right_right,Int.gcd_comm];exact hg) (λZ=>hy))
  ·rw[gv ul]
   refine hf _ ?_
   obtain rfl:y=0:=Int.le_antisymm (Int.not_lt.mp ul) hy
   have uc:x=((gcd a b:Nat):Int):=by rw[<-hg,Int.gcd_zero_right];exact(Int.natAbs_of_nonneg (hx rfl)).symm
   have HT:((gcd a b:Nat):Int)≠0:=λh=>absurd (Int.gcd_eq_zero_iff.mp (ofNat.inj h)).2 (ne_of_gt hb)
   subst uc
   refine(?_:aI (binI .fdiv a _) _)
   refine au (bG HT) ?_
   refine(?_:aI (binI .fdiv b _) _)
   exact au (bG HT) k
 ·refine(?_:b.toNat<weight [some (.int a),some (.int b),some (.int a),some (.int b),none])
  refine(?_:b.toNat<a.natAbs+(b.natAbs+(a.natAbs+(b.natAbs+1000))))
  lia
section
variable{a b:Int}(hb:0<b)(kq:Q (.aC [.int (a.fdiv (gcd a b)),.int (b.fdiv (gcd a b))]) H)
include hb kq
theorem Sq:ay (n+1) 7 [.int a,.int b] H Q Y:=Rj (HS hb kq)
theorem Sr:ay (n+1) 41 [.int a,.int b] H Q Y:=RT (HS hb kq)
end
open Mine.P
theorem cb{t:Bool}{A B:Prop}(h1:t=true->A)(h2:t=false->B):bz t A B:=by
 cases t
 ·exact h2 rfl
 ·exact h1 rfl
theorem oZ{k:Nat}(q:Q (.int (X.is.getD k 0)) H):ay (n+1) 26 [.fu,.int k] H Q Y:=RD (by
 refine(?_:bz (decide ((k:Int)<((X.is.map V.int).length:Int))) _ _)
 refine cb (λh=>?_) λh=>?_
 ·have hk:k<X.is.length:=by have:=cf h;rw[aS] at this;exact jk.mp this
  refine(?_:aI (nK (X.is.map V.int) (k:Int)) _)
  refine au (a:=.int (X.is.getD k 0)) ?_ q
  rw[show nK (X.is.map V.int) (k:Int)=(X.is.map V.int)[k]? from bL (kJ k),g5,fL hk,getD_eq_getElem?_getD,fL hk];rfl
 ·have hk:¬k<X.is.length:=λhk=>absurd (of_decide_eq_false h) (not_not_intro (by rw[aS];exact jk.mpr hk))
  rw[getD_eq_getElem?_getD,qQ.mpr (Nat.le_of_not_lt hk)] at q
  exact q)
open Mine.P
noncomputable abbrev nv(k:Nat):V:=.int (k:Int)
noncomputable abbrev aX(l:List Nat):List V:=l.map nv
structure aH where
 aQ:Int
 ca:List Nat
 ad:Option (Int×List Nat)
 bR:Option Int
variable{p q:aH}
noncomputable def fW:Option Int->V
 |none=>.none
 |some d=>.int d
noncomputable def mv:Option (Int×List Nat)->V
 |none=>.none
 |some a=>.aC [.int a.1,.aC (aX a.2)]
noncomputable def bQ(p:aH):V:=.aC [.int p.aQ,.aC (aX p.ca),mv p.ad,fW p.bR]
noncomputable def before(d:Int):Option Int->Bool
 |none=>true
 |some e=>decide (d<e)
noncomputable def d7(p:aH)(d:Int):Bool:=decide (p.aQ<=d)&&before d p.bR
noncomputable def iE(p:aH)(d:Int):List Nat:=match p.ad with
 |none=>p.ca
 |some a=>if a.1<=d then a.2 else p.ca
def aA(H H':Hp):Prop:=∀(l:Nat) (c:bt),H[l]?=some c->H'[l]?=some c
theorem aA.refl(H:Hp):aA H H:=λZ Z h=>h
theorem aA.trans(a:aA H H₁)(b:aA H₁ H₂):aA H H₂:=λl c h=>b l c (a l c h)
theorem cG{c:bt}(h:H[l]?=some c):l<H.length:=(dZ.mp h).1
theorem be{c:bt}(t:List bt)(h:H[l]?=some c):(H++t)[l]?=some c:=(tx (cG h)).trans h
theorem aA.aO(H t:Hp):aA H (H++t):=λl c h=>be t h
theorem aZ(H:Hp)(c:bt):(H++[c])[H.length]?=some c:=List.getElem?_concat_length
theorem eX{c:bt}(h:H[l]?=some c)(c':bt):(H.set l c')[l]?=some c':=sd (cG h)
theorem d9{m:Nat}{c:bt}(h:H[l]?=some c)(c':bt)(hn:m≠l):(H.set m c')[l]?=some c:=(getElem?_set_ne hn).trans h
theorem aA.set(h:aA H H'){r:Nat}(hr:H.length<=r)(c:bt):aA H (H'.set r c):=λl c' e=>d9 (h l c' e) c λq=>absurd (cG e) (not_lt.mpr (q▸hr))
theorem aA.len(h:aA H H'):H.length<=H'.length:=by
 cases e:H.length with
 |zero=>exact gu _
 |succ k=>exact cG (h k _ (fL (by rw[e];exact lt_succ_self k)))
section
variable{k:Nat}
theorem b6{as:List V}(h:ay n f as H Q Y):ay n f as H Q Y:=h
theorem cC(h:H[l]?=some (.list vs)):eQ H (.ref l)=some vs:=bU (Option.bind · so) h
theorem cT(h:H[l]?=some (.list vs)):keysOf H (.ref l)=some vs:=by
 refine(?_:(match H[l]?.bind iZ with|some es=>_|none=>_)=_)
 rw[h]
 refine(?_:(match H[l]?.bind mi with|some es=>_|none=>oN H (.ref l))=_)
 rw[h]
 exact cC h
theorem Ss{α:Type}{l:List α}{a:α}(h:l[k]?=some a):nK l (k:Int)=some a:=(bL (kJ k)).trans h
theorem gf(h:H[l]?=some (.list vs))(hv:vs[k]?=some v):fF (.ref l) (nv k) H=some v:=by
 refine(?_:(match eQ H (.ref l) with|some vs=>nK vs (k:Int)|none=>_)=_)
 rw[cC h];exact Ss hv
theorem ee{ps:List aH}(h:H[l]?=some (.list (ps.map bQ)))(hv:ps[k]?=some p):fF (.ref l) (nv k) H=some (bQ p):=gf h (by rw[g5,hv];rfl)
theorem rK{c:Prop}[Decidable c]{A B:Prop}(h1:c->A)(h2:¬c->B):bz (decide c) A B:=cb (λh=>h1 (cf h)) λh=>h2 (of_decide_eq_false h)
theorem fC{t:Bool}{A B:Prop}(h1:t=true->A)(h2:t=false->B):bz (t==true) A B:=by
 cases t
 ·exact h2 rfl
 ·exact h1 rfl
theorem fD{t:Bool}{A B:Prop}(h1:t=false->A)(h2:t=true->B):bz (t==false) A B:=by
 cases t
 ·exact h1 rfl
 ·exact h2 rfl
theorem nX{ps:List aH}(hA:H[l]?=some (.list (ps.map bQ)))(hp:ps[k]?=some p)(q:Q (.bool (d7 p d)) H):ay (n+1) 0 [.ref l,nv k,.int d] H Q Y:=Rb (by
 apply au (ee hA hp)
 refine(?_:bz (decide (p.aQ<=d)==true) _ _)
 refine fC (λh=>?_) λh=>?_
 ·have q:Q (.bool (decide (p.aQ<=d)&&before d p.bR)) H:=q
  rw[h] at q
  cases hd:p.bR with
  |none=>rw[hd] at q;exact q
  |some e=>rw[hd] at q;exact q
 ·have q:Q (.bool (decide (p.aQ<=d)&&before d p.bR)) H:=q
  rw[h] at q
  refine(?_:Q (.bool (decide (p.aQ<=d))) H)
  rw[h];exact q)
end
section
variable{ws:List Nat}{t:dq}{K:Out->Prop}{α:Type}{g:α->V}
theorem fR{body:bB->Hp->(Out->Prop)->Prop}(I:List α->bB->Hp->Prop)(step:∀a as ρ H,I (a::as) ρ H->aI (aN t (g a) ρ) λck=>∀N:bB->Hp->Prop,(∀iC H₁,fN ws H₀ H₁=true->I as iC H₁->N iC H₁)->body ck H (oO K N))(fin:∀ρ H,I [] ρ H->K (.next ρ H)):∀as ρ H,I as ρ H->pX ws H₀ t body (as.map g) ρ H K
 |[],ρ,H,h=>fin ρ H h
 |a::as,ρ,H,h=>xO (step a as ρ H h) λck hb=>hb _ λiC H₁ hs hi=>⟨hs,fR I step fin as iC H₁ hi⟩
theorem pf{test:bB->Hp->(Bool->Hp->Prop)->Prop}{elt:bB->Hp->PQ->Prop}{Q:List V->Hp->Prop}(I:List α->List V->bB->Hp->Prop)(step:∀a as acc ρ H,I (a::as) acc ρ H->aI (aN t (g a) ρ) λck=>∀N:List V->Hp->Prop,(∀acc' H',fN ws H₀ H'=true->I as acc' ck H'->N acc' H')->test ck H λb H₁=>bz b (elt ck H₁ λy H₂=>N (acc++[y]) H₂) (N acc H₁))(fin:∀acc ρ H,I [] acc ρ H->Q acc H):∀as acc ρ H,I as acc ρ H->iQ ws H₀ t test elt (as.map g) ρ H acc Q
 |[],acc,ρ,H,h=>fin acc ρ H h
 |a::as,acc,ρ,H,h=>xO (step a as acc ρ H h) λck hb=>hb (λacc' H'=>fN ws H₀ H'=true/\iQ ws H₀ t test elt (as.map g) ck H' acc' Q) λacc' H' hs hi=>⟨hs,pf I step fin as acc' ck H' hi⟩
end
section
variable{k:Nat}
theorem cM{t:Bool}{A:Prop}(e:t=true)(h:A):gT t A:=by rw[e];exact h
theorem cP{α:Type}{l:List α}(h:l.length<16000000):oM l=true:=c9 h
theorem gg{A:Prop}(h:H[l]?=some (.list vs))(a:A):gT ((eQ H (.ref l)).isSome) A:=cM (bU isSome (cC h)) a
theorem gy(h:H[l]?=some (.list vs))(hs:vs.length<16000000)(q:Q .none (H.set l (.list (vs++[v])))):ro .append (.ref l) [v] H Q:=au (cC h) (cM (cP hs) q)
theorem rL{m:Nat}{f:List V->Prop}(h:m<1000000)(k:f ((List.range m).map nv)):w9 (.int 0) (.int m) f:=by
 refine⟨⟨by decide,lt_trans (show(m:Int).natAbs<1000000 from h) (by decide)⟩,?_⟩
 have e:pW 0 m=(List.range m).map nv:=by
  unfold pW
  rw[Int.sub_zero]
  exact List.map_congr_left λi Z=>bU V.int (Int.zero_add _)
 rw[e];exact k
theorem dm{c:bt}(h:H[l]?=some c)(h':H'[l]?=some c):fN [l] H H'=true:=by
 refine(?_:(decide (H'[l]?=H[l]?)&&true)=true)
 rw[h,h',c9 rfl];rfl
theorem pg(i:Int):∀m,rd H m (.int i)=some (.int i)
 |0=>rfl
 |_+1=>rfl
theorem um(m:Nat):∀ls:List Nat,d0 (rd H m) (aX ls)=some (ls.map λi=>.int i)
 |[]=>rfl
 |a::r=>by
  refine(?_:(match rd H m (nv a),d0 (rd H m) (aX r) with|some d,some ds=>some (d::ds)|_,_=>none)=_)
  rw[pg,um m r];rfl
theorem HU(k:Nat):∀ls:List Nat,((ls.map λi:Nat=>PyData.int i).any λe=>PyData.eqv e (.int k))=decide (k∈ls)
 |[]=>rfl
 |a::r=>by
  rw[jF,any_cons,HU k r]
  refine(?_:(((a:Int)==(k:Int))||decide (k∈r))=_)
  by_cases h:k=a
  ·rw[h,gr];exact(c9 (cJ)).symm
  ·rw[show((a:Int)==(k:Int))=false from pO.mpr λe=>h (ofNat.inj e).symm,Bool.false_or]
   exact nC.mpr ⟨λm=>.tail _ m,λm=>(cH.mp m).resolve_left h⟩
theorem HV{ls:List Nat}:tJ H (nv k) (.aC (aX ls))=some (decide (k∈ls)):=by
 refine(?_:((d0 (rd H 10) (aX ls)).bind λds=>some (ds.any λe=>PyData.eqv e (.int k)))=_)
 rw[um]
 exact bU some (HU k ls)
theorem Cw{ls:List Nat}(h:H[l]?=some (.list (aX ls))):tJ H (nv k) (.ref l)=some (decide (k∈ls)):=by
 refine(?_:(match H[l]?.bind iZ with|some es=>_|none=>_)=_)
 rw[h]
 refine(?_:(match H[l]?.bind mi with|some es=>_|none=>(eQ H (.ref l)).bind _)=_)
 rw[h,cC h]
 exact HV (ls:=ls)
theorem qt{α:Type}{acc:List α}{a:α}{r tot:List α}(e:acc++(a::r)=tot)(h:tot.length<=B):acc.length<B:=by
 rw[<-e,bX,iY] at h;lia
theorem gh{α:Type}{acc:List α}{a:α}{r tot:List α}(e:acc++(a::r)=tot):(acc++[a])++r=tot:=by rw[nF];exact e
theorem Cy{ps:List aH}(hA:H[l]?=some (.list (ps.map bQ)))(hp:ps[k]?=some p)(q:Q (.aC (aX (iE p d))) H):ay (n+1) 1 [.ref l,nv k,.int d] H Q Y:=Rc (by
 apply au (ee hA hp)
 have q:Q (.aC (aX (match p.ad with|none=>p.ca|some a=>if a.1<=d then a.2 else p.ca))) H:=q
 unfold bQ
 cases ha:p.ad with
 |none=>rw[ha] at q;exact q
 |some a=>
  rw[ha] at q
  refine(?_:bz (decide (a.1<=d)) _ _)
  exact rK (λh=>by rw[show(match(some a:Option (Int×List Nat)) with|none=>p.ca|some a=>if a.1<=d then a.2 else p.ca)=a.2 from bL h] at q;exact q) λh=>by rw[show(match(some a:Option (Int×List Nat)) with|none=>p.ca|some a=>if a.1<=d then a.2 else p.ca)=p.ca from bG h] at q;exact q)
noncomputable def nY(ps:List aH)(d:Int)(k c:Nat):Bool:=match ps[c]? with
 |some q=>decide (q.aQ<=d)&&decide (k∈iE q d)
 |none=>false
noncomputable def kids(ps:List aH)(d:Int)(k:Nat):List Nat:=(List.range ps.length).filter (nY ps d k)
def Cz(ps:List aH)(d:Int)(k l:Nat)(H:Hp)(as:List Nat)(ρ:bB)(H':Hp):Prop:=∀ChIζ:Prop,(∀(acc:List Nat) (o:Option V) (e:ρ=[some (.ref l),some (nv k),some (.int d),some (.ref H.length),o]) (x:aA H H') (a:H'[H.length]?=some (.list (aX acc))) (t:acc++as.filter (nY ps d k)=kids ps d k) (b:∀c∈as,c<ps.length),ChIζ)->ChIζ
theorem Cz.mk{ps:List aH}{k:Nat}{as:List Nat}(acc:List Nat)(o:Option V)(e:ρ=[some (.ref l),some (nv k),some (.int d),some (.ref H.length),o])(x:aA H H')(a:H'[H.length]?=some (.list (aX acc)))(t:acc++as.filter (nY ps d k)=kids ps d k)(b:∀c∈as,c<ps.length):Cz ps d k l H as ρ H':=λZ cm=>cm acc o e x a t b
theorem uo(l:List Nat)(c:Nat):aX l++[nv c]=aX (l++[c]):=(gx (l₁:=l) (l₂:=[c])).symm
theorem at_of{α:Type}{l:List α}{k:Nat}(h:k<l.length):∃a,l[k]?=some a:=⟨_,fL h⟩
theorem Su(ps:List aH)(d:Int)(k:Nat):(kids ps d k).length<=ps.length:=aR (ma _ _) (iX kH)
noncomputable abbrev Sv(f:Nat):List S:=
 [.aN (.J 3) (.bH []),
  .for (.J 4) (.range (kI 0) (.bi .len [.J 0]))
  [.br (.and [(.cmp .le (.aP (.aP (.J 0) (.J 4)) (kI 0)) (.J 2)),(.cmp .jZ (.J 1) (.call f [.J 0,.J 4,.J 2]))])
   [.expr (.d8 .append (.J 3) [.J 4])]
   []],
  .ret (.J 3)]
theorem Sw{ps:List aH}(hf:∀{H:Hp} {Q Y:PQ} {c:Nat} {p:aH},H[l]?=some (.list (ps.map bQ))->ps[c]?=some p->Q (.aC (aX (iE p d))) H->ay (n+1) f [.ref l,nv c,.int d] H Q Y)(hA:H[l]?=some (.list (ps.map bQ)))(hl:ps.length<=60)(q:∀lc H',H.length<=lc->aA H H'->H'[lc]?=some (.list (aX (kids ps d k)))->Q (.ref lc) H'):aG ⟨ay (n+1),Y⟩ (Sv f) [some (.ref l),some (nv k),some (.int d),none,none] H (bD Q):=by
 apply au (cC (be [.list []] hA))
 rw[aS]
 refine rL (bM hl (by decide)) (fR (Cz ps d k l H) (λc as ρ H' h=>?_) (λρ H' h=>?_) _ _ _ (.mk [] none rfl (aA.aO _ _) (aZ _ _) rfl (λc hc=>jl.mp hc)))
 ·refine h _ λacc o e x a t b=>?_
  subst e
  refine λN hN=>?_
  refine(at_of (b c cJ)).elim λp hc=>?_
  apply au (ee (x l _ hA) hc)
  have ht:acc++(if nY ps d k c then c::as.filter (nY ps d k) else as.filter (nY ps d k))=kids ps d k:=by rw[<-filter_cons];exact t
  rw[show nY ps d k c=(decide (p.aQ<=d)&&decide (k∈iE p d)) by unfold nY;rw[hc]] at ht
  have no:∀o,(decide (p.aQ<=d)&&decide (k∈iE p d))=false->N [some (.ref l),some (nv k),some (.int d),some (.ref H.length),o] H':=λo e=>hN _ _ rfl (.mk acc o rfl x a (by rw[e] at ht;exact ht) (λc hc=>b c (.tail _ hc)))
  refine(?_:bz (decide (p.aQ<=d)==true) _ _)
  refine fC (λh1=>?_) λh1=>?_
  ·refine b6 (hf (x l _ hA) hc ?_)
   apply au (HV)
   refine cb (λh2=>?_) λh2=>no _ (by rw[h2,Bool.and_false])
   rw[h1,h2] at ht
   exact gg a (gy a (by rw[aS];exact qt ht (aR (Su ps d k) (aR hl (by decide)))) (hN _ _ rfl (.mk (acc++[c]) _ rfl (x.set (cg _) _) (by rw[<-uo];exact eX a _) (gh ht) (λc hc=>b c (.tail _ hc)))))
  ·refine(?_:bz (decide (p.aQ<=d)) _ _)
   exact cb (λh2=>absurd (h1.symm.trans h2) gq) λZ=>no _ (by rw[h1,Bool.false_and])
 ·refine h _ λacc o e x a t b=>?_
  subst e
  rw[filter_nil,dO] at t
  exact q _ _ (cg _) x (t▸a)
theorem xP{ps:List aH}(hA:H[l]?=some (.list (ps.map bQ)))(hl:ps.length<=60)(q:∀lc H',H.length<=lc->aA H H'->H'[lc]?=some (.list (aX (kids ps d k)))->Q (.ref lc) H'):ay (n+2) 2 [.ref l,nv k,.int d] H Q Y:=Rd (Sw (λa b q=>Cy a b q) hA hl q)
end
noncomputable def yo(ps:List aH)(b:Int):Nat:=ps.countP λq=>decide (b<q.aQ)
theorem Sy{b b':Int}(h:b<=b')(ps:List aH):yo ps b'<=yo ps b:=List.countP_mono_left λq Z hq=>c9 (lt_of_le_of_lt h (cf hq))
theorem HW{b:Int}{q:aH}(hb:b<q.aQ):∀{ps:List aH},q∈ps->yo ps q.aQ<yo ps b
 |p::r,h=>by
  refine(?_:countP _ (p::r)<countP _ (p::r))
  rw[countP_cons,countP_cons]
  rcases cH.mp h with e|h
  ·rw[<-e,gv (Int.lt_irrefl _),c9 hb]
   exact lt_succ_of_le (Sy (le_of_lt hb) r)
  ·refine Nat.add_lt_add_of_lt_of_le (HW hb h) ?_
   by_cases h1:q.aQ<p.aQ
   ·rw[c9 h1,c9 (Int.lt_trans hb h1)];exact cg _
   ·rw[gv h1];exact gu _
noncomputable def gX(p:aH):Bool:=!p.ca.isEmpty||p.ad.isSome
noncomputable def mw(ps:List aH)(b:Int):Nat:=yo (ps.filter gX) b
def g7(ps:List aH):Prop:=ps.length<=60/\(ps.filter gX).length<20
theorem uq{ps:List aH}(hl:g7 ps)(b:Int):mw ps b<20:=bM List.countP_le_length hl.2
def ib(ps:List aH)(b:Int)(j:Nat):Prop:=∃q,ps[j]?=some q/\q.aQ<b
def jP(l:List Nat):Prop:=l.length<=2/\l.Nodup
def nZ(ps:List aH)(p:aH):Prop:=∀WfOneζ:Prop,(∀(a:∀j∈p.ca,ib ps p.aQ j) (b:∀x,p.ad=some x->∀j∈x.2,ib ps p.aQ j) (c:jP p.ca) (d:∀x,p.ad=some x->jP x.2) (z:0<=p.aQ),WfOneζ)->WfOneζ
theorem nZ.mk{ps:List aH}{p:aH}(a:∀j∈p.ca,ib ps p.aQ j)(b:∀x,p.ad=some x->∀j∈x.2,ib ps p.aQ j)(c:jP p.ca)(d:∀x,p.ad=some x->jP x.2)(z:0<=p.aQ):nZ ps p:=λZ cm=>cm a b c d z
def dv(ps:List aH):Prop:=∀(k:Nat) p,ps[k]?=some p->nZ ps p
theorem HX{ps:List aH}{P:List Nat->Prop}(h1:P p.ca)(h2:∀x,p.ad=some x->P x.2)(d:Int):P (iE p d):=by
 unfold iE
 cases h:p.ad with
 |none=>exact h1
 |some a=>
  refine(?_:P (if a.1<=d then a.2 else p.ca))
  split
  ·exact h2 a h
  ·exact h1
theorem xQ{ps:List aH}(hW:dv ps){k:Nat}{p:aH}(hp:ps[k]?=some p)(d:Int):∀j∈iE p d,ib ps p.aQ j:=(hW k p hp) _ λa b Z Z Z=>HX (ps:=ps) (P:=λl=>∀j∈l,ib ps p.aQ j) a b d
theorem Sz{ps:List aH}(hW:dv ps){k:Nat}(hp:ps[k]?=some p)(d:Int):jP (iE p d):=(hW k p hp) _ λZ Z a b Z=>HX (ps:=ps) (P:=jP) a b d
theorem HY{ps:List aH}(hW:dv ps){k:Nat}(hp:ps[k]?=some p)(d:Int):(iE p d).length<=2:=(Sz hW hp d).1
theorem CA{ps:List aH}{k c:Nat}{M:Prop}(h:nY ps d k c=true)(f:∀q,ps[c]?=some q->k∈iE q d->M):M:=by
 unfold nY at h
 cases hq:ps[c]? with
 |none=>rw[hq] at h;exact absurd h gq
 |some q=>rw[hq] at h;exact f q hq (cf (eJ.mp h).2)
theorem CB{k:Nat}(h:k∈iE p d):gX p=true:=by
 unfold gX
 cases ha:p.ad with
 |some x=>exact Bool.or_true _
 |none=>
  unfold iE at h
  rw[ha] at h
  cases hp:p.ca with
  |nil=>rw[hp] at h;exact nomatch h
  |cons a l=>rfl
theorem ur{ps:List aH}(hl:g7 ps){k:Nat}:(kids ps d k).length<=20:=by
 refine aR ?_ (cO hl.2)
 have e:(kids ps d k).length<=((List.range ps.length).filter λc=>(ps[c]?).elim false gX).length:=by
  unfold kids
  rw[<-List.countP_eq_length_filter,<-List.countP_eq_length_filter]
  exact List.countP_mono_left λc hc h=>CA h λq hq hm=>by rw[hq];exact CB hm
 refine aR e (iX ?_)
 rw[<-List.countP_eq_length_filter,<-List.countP_eq_length_filter]
 have r:∀l:List aH,(List.range l.length).countP (λc=>(l[c]?).elim false gX)=l.countP gX:=λl=>l.rec (motive:=λl=>(List.range l.length).countP (λc=>(l[c]?).elim false gX)=l.countP gX) rfl λp l ih=>by
  rw[iY,List.range_succ_eq_map,countP_cons,countP_cons,List.countP_map,<-ih];rfl
 exact r ps
theorem ut{ps:List aH}(hW:dv ps){k c:Nat}(hp:ps[k]?=some p){M:Prop}(h:c∈kids ps d k)(f:∀q,ps[c]?=some q->p.aQ<q.aQ->mw ps q.aQ<mw ps p.aQ->M):M:=
 CA (lG.mp h).2 λq hq hm=>(xQ hW hq d k hm).elim λq2 h2=>by
  rw[hp] at h2
  obtain⟨e,du⟩:=h2
  cases e
  exact f q hq du (HW du (lG.mpr ⟨iz hq,CB hm⟩))
noncomputable def lv(ps:List aH)(d:Int)(k:Nat):Bool:=match ps[k]? with
 |some p=>d7 p d
 |none=>false
theorem i9{ps:List aH}{k:Nat}(h:ps[k]?=some p):lv ps d k=d7 p d:=by unfold lv;rw[h]
noncomputable def gH(ps:List aH)(d:Int):Nat->Nat->Bool
 |0,_=>false
 |f+1,k=>lv ps d k||(kids ps d k).any (gH ps d f)
def CC(ps:List aH)(d:Int)(f k l lc:Nat)(H:Hp)(as:List Nat)(ρ:bB)(H':Hp):Prop:=∀LnIζ:Prop,(∀(o:Option V) (e:ρ=[some (.ref l),some (nv k),some (.int d),o]) (x:aA H H') (a:H'[lc]?=some (.list (aX (kids ps d k)))) (t:as.any (gH ps d f)=gH ps d (f+1) k) (b:∀c∈as,c∈kids ps d k),LnIζ)->LnIζ
theorem CC.mk{ps:List aH}{k:Nat}{as:List Nat}(o:Option V)(e:ρ=[some (.ref l),some (nv k),some (.int d),o])(x:aA H H')(a:H'[lc]?=some (.list (aX (kids ps d k))))(t:as.any (gH ps d f)=gH ps d (f+1) k)(b:∀c∈as,c∈kids ps d k):CC ps d f k l lc H as ρ H':=λZ cm=>cm o e x a t b
theorem CD{d:Int}{ps:List aH}(hW:dv ps)(hl:g7 ps){n:Nat}:∀{f k:Nat} {p:aH} {H:Hp} {Q Y:PQ},H[l]?=some (.list (ps.map bQ))->ps[k]?=some p->mw ps p.aQ<f->(∀H',aA H H'->Q (.bool (gH ps d f k)) H')->ay (n+f+2) 3 [.ref l,nv k,.int d] H Q Y
 |0,k,p,H,Q,Y,_,_,hf,_=>absurd hf (not_lt_zero _)
 |f+1,k,p,H,Q,Y,hA,hp,hf,q=>Rf (by
  have e0:gH ps d (f+1) k=(d7 p d||(kids ps d k).any (gH ps d f)):=by rw[<-i9 hp];rfl
  refine b6 (nX hA hp ?_)
  refine(?_:bz (d7 p d) _ _)
  refine cb (λh=>?_) λh=>?_
  ·rw[h] at e0
   have:=q H (aA.refl H)
   rw[e0] at this
   exact this
  ·rw[h] at e0
   refine b6 (xP (n:=n+f) hA hl.1 λlc H₁ Z x hc=>?_)
   apply au (cT hc)
   refine fR (CC ps d f k l lc H) (λc as ρ H' h=>?_) (λρ H' h=>?_) _ _ _ (.mk _ rfl x hc e0.symm (λc h=>h))
   ·refine h _ λo e x' a t b=>?_
    subst e
    refine λN hN=>?_
    refine ut hW hp (b c cJ) λp' dB Z hy=>?_
    rw[any_cons] at t
    refine b6 (CD hW hl (x' l _ hA) dB (fh hy (le_of_lt_succ hf)) λH₂ cq=>?_)
    refine(?_:bz (gH ps d f c) _ _)
    refine cb (λh2=>?_) λh2=>?_
    ·rw[h2] at t
     have:=q H₂ (x'.trans cq)
     rw[<-t] at this
     exact this
    ·rw[h2] at t
     exact hN _ _ (dm hc (cq _ _ a)) (.mk _ rfl (x'.trans cq) (cq _ _ a) t (λc hc=>b c (.tail _ hc)))
   ·refine h _ λo e x' a t b=>?_
    subst e
    have:=q H' x'
    rw[<-t] at this
    exact this)
noncomputable def rv(x:Rat):V:=.aC [.int x.num,.int (x.den:Int)]
def Sm(b:Nat)(x:Rat):Prop:=x.num.natAbs<2^b/\x.den<2^b
theorem HZ{a:Int}{d:Nat}(hd:d≠0):rv (Rat.normalize a d hd)=.aC [.int (a.fdiv (gcd a d)),.int ((d:Int).fdiv (gcd a d))]:=by
 rw[Rat.normalize_eq,Int.fdiv_eq_ediv_of_nonneg _ (kJ _),Int.fdiv_eq_ediv_of_nonneg _ (kJ _)]
 rfl
theorem Sm.qu{b:Nat}{a:Int}{d:Nat}(hd:d≠0)(ha:a.natAbs<2^b)(h:d<2^b):Sm b (Rat.normalize a d hd):=by
 rw[Rat.normalize_eq]
 exact⟨bM (Int.natAbs_ediv_le_natAbs _ _) ha,bM (Nat.div_le_self _ _) h⟩
theorem sQ{b i:Nat}(ha:a<2^i)(hb:b<2^j):a*b<2^(i+j):=by
 rw[Nat.pow_add]
 exact Nat.mul_lt_mul_of_lt_of_le ha (cO hb) (Nat.two_pow_pos j)
theorem Sm.le{b c:Nat}{x:Rat}(h:Sm b x)(e:b<=c):Sm c x:=⟨fh h.1 (pow_le_pow_right (by decide) e),fh h.2 (pow_le_pow_right (by decide) e)⟩
theorem Sm.mul{i:Nat}{x:Rat}(hx:Sm i x)(hy:Sm j y):Sm (i+j) (x*y):=by
 rw[Rat.mul_def]
 exact Sm.qu _ (by rw[natAbs_mul];exact sQ hx.1 hy.1) (sQ hx.2 hy.2)
theorem H8{b i:Nat}(ha:a<2^i)(hb:b<2^i):a+b<2^(i+1):=by rw[Nat.pow_succ,Nat.mul_two];exact Nat.add_lt_add ha hb
theorem Sm.sub{i:Nat}{x:Rat}(hx:Sm i x)(hy:Sm j y):Sm (i+j+1) (x - y):=by
 rw[Rat.sub_def]
 refine Sm.qu _ (bM (Int.natAbs_sub_le _ _) ?_) (fh (sQ hx.2 hy.2) (pow_le_pow_right (by decide) (le_succ _)))
 rw[natAbs_mul,natAbs_mul]
 exact H8 (sQ hx.1 hy.2) (by rw[add_comm];exact sQ hy.1 hx.2)
theorem H9{a:Int}{i:Nat}(h:a.natAbs<2^i):Builtin.Int.intBits a<=i:=by
 unfold Builtin.Int.intBits
 split
 ·exact gu _
 ·rename_i h0
  exact(Nat.log2_lt λe=>h0 (by rw[Int.natAbs_eq_zero.mp e];rfl)).mpr h
theorem ja{a b:Int}{i:Nat}(ha:a.natAbs<2^i)(hb:b.natAbs<2^j)(h:i+j<=1000000):binI .mul a b=some (a*b):=by
 refine bL ?_
 have e:Builtin.Int.intTooBig (Builtin.Int.intBits a+Builtin.Int.intBits b)=false:=gv λq=>absurd (aR (jG (H9 ha) (H9 hb)) h) (Nat.not_le.mpr (bM (by decide:1000000<=bitsLine) (jk.mp q)))
 unfold BB
 rw[e,Bool.and_false];rfl
section
variable{a:Int}{d:Nat}
theorem ph(hd:d≠0)(k:Q (rv (Rat.normalize a d hd)) H):ay (n+1) 7 [.int a,nv d] H Q Y:=Sq (jk.mpr (Nat.pos_of_ne_zero hd)) (HZ hd▸k)
theorem CE(hd:d≠0)(k:Q (rv (Rat.normalize a d hd)) H):ay (n+1) 41 [.int a,nv d] H Q Y:=Sr (jk.mpr (Nat.pos_of_ne_zero hd)) (HZ hd▸k)
section
variable{x:Rat}{i:Nat}(hx:Sm i x)(hy:Sm j y)(h:i+j<=1000000)
include hx hy h
theorem xR(k:Q (rv (x*y)) H):ay (n+2) 10 [rv x,rv y] H Q Y:=Rm (by
 apply au (ja hx.1 hy.1 h)
 apply au (ja (a:=(x.den:Int)) (b:=(y.den:Int)) hx.2 hy.2 h)
 rw[Rat.mul_def] at k
 exact b6 (ph _ k))
theorem zU(k:Q (rv (x+y)) H):ay (n+2) 8 [rv x,rv y] H Q Y:=Rk (by
 apply au (ja (b:=(y.den:Int)) hx.1 hy.2 h)
 apply au (ja (b:=(x.den:Int)) hy.1 hx.2 (by rw[add_comm];exact h))
 apply au (ja (a:=(x.den:Int)) (b:=(y.den:Int)) hx.2 hy.2 h)
 rw[Rat.add_def] at k
 exact b6 (ph _ k))
theorem Ia(k:Q (rv (x - y)) H):ay (n+2) 9 [rv x,rv y] H Q Y:=Rl (by
 apply au (ja (b:=(y.den:Int)) hx.1 hy.2 h)
 apply au (ja (b:=(x.den:Int)) hy.1 hx.2 (by rw[add_comm];exact h))
 apply au (ja (a:=(x.den:Int)) (b:=(y.den:Int)) hx.2 hy.2 h)
 rw[Rat.sub_def] at k
 exact b6 (ph _ k))
end
theorem CF{m:Nat}(hm:m≠0)(hb:m<2^6)(k:Q (rv (mkRat 1 m)) H):ay (n+2) 11 [.aC [.int 1,.int 1],nv m] H Q Y:=Rn (by
 have e:∀m',m'=m->∀h,Q (rv (Rat.normalize 1 m' h)) H:=by intro m' e h;rw[mU,e];exact k
 exact b6 (ph (d:=1*m) (by rw[one_mul];exact hm) (e _ (one_mul m) _)))
theorem Sm.SA{m:Nat}(hm:m≠0)(hb:m<2^6):Sm 6 (mkRat 1 m):=by rw[<-mU hm];exact Sm.qu hm (by decide) hb
theorem Sm.inv{m:Nat}(hm:m≠0)(hb:m<2^5):Sm 5 (mkRat 1 m):=by rw[<-mU hm];exact Sm.qu hm (by decide) hb
end
def bK(r:Nat)(H H':Hp):Prop:=∀(l:Nat) (c:bt),l≠r->H[l]?=some c->H'[l]?=some c
theorem bK.refl(r:Nat)(H:Hp):bK r H H:=λZ Z Z h=>h
theorem bK.trans{r:Nat}(a:bK r H H₁)(b:bK r H₁ H₂):bK r H H₂:=λl c n h=>b l c n (a l c n h)
theorem aA.b(h:aA H H')(r:Nat):bK r H H':=λl c Z e=>h l c e
theorem bK.aO(r:Nat)(H t:Hp):bK r H (H++t):=(aA.aO H t).b r
theorem bK.set(r:Nat)(H:Hp)(c:bt):bK r H (H.set r c):=λl c' n h=>d9 h c λe=>n e.symm
theorem bK.ext{r:Nat}(h:bK r H₁ H')(x:aA H H₁)(hr:H.length<=r):aA H H':=λl c e=>h l c (λq=>absurd (cG e) (not_lt.mpr (q▸hr))) (x l c e)
inductive cz{α β:Type}(R:α->β->Prop):List α->List β->Prop
 |nil:cz R [] []
 |cons {a:α} {v:β} {as:List α} {vs:List β}:R a v->cz R as vs->cz R (a::as) (v::vs)
theorem cz.imp{α β:Type}{R R':α->β->Prop}{as:List α}{vs:List β}(h:cz R as vs)(f:∀a v,R a v->R' a v):cz R' as vs:=h.rec (motive:=λas vs Z=>cz R' as vs) .nil λr Z ih=>.cons (f _ _ r) ih
theorem cz.imp'{α β:Type}{R R':α->β->Prop}{as:List α}{vs:List β}(h:cz R as vs):(∀a v,a∈as->R a v->R' a v)->cz R' as vs:=h.rec (motive:=λas vs Z=>(∀a v,a∈as->R a v->R' a v)->cz R' as vs) (λZ=>.nil) λr Z ih f=>.cons (f _ _ cJ r) (ih λa v m=>f a v (.tail _ m))
theorem cz.snoc{α β:Type}{R:α->β->Prop}{as:List α}{vs:List β}(h:cz R as vs){a:α}{v:β}(r:R a v):cz R (as++[a]) (vs++[v]):=h.rec (motive:=λas vs Z=>cz R (as++[a]) (vs++[v])) (.cons r .nil) λr Z ih=>.cons r ih
theorem cz.len{α β:Type}{R:α->β->Prop}{as:List α}{vs:List β}(h:cz R as vs):vs.length=as.length:=by
 induction h with
 |nil=>rfl
 |cons _ _ ih=>exact bU Nat.succ ih
section
variable{ws:List Nat}{t:dq}{K:Out->Prop}{α:Type}{R:α->V->Prop}
theorem xS{body:bB->Hp->(Out->Prop)->Prop}(I:List α->bB->Hp->Prop)(step:∀a v as ρ H,R a v->I (a::as) ρ H->aI (aN t v ρ) λck=>∀N:bB->Hp->Prop,(∀iC H₁,fN ws H₀ H₁=true->I as iC H₁->N iC H₁)->body ck H (oO K N))(fin:∀ρ H,I [] ρ H->K (.next ρ H)){as:List α}(h:cz R as vs):∀ρ H,I as ρ H->pX ws H₀ t body vs ρ H K:=
 h.rec (motive:=λas vs Z=>∀ρ H,I as ρ H->pX ws H₀ t body vs ρ H K) fin λr Z ih ρ H h=>xO (step _ _ _ ρ H r h) λck hb=>hb _ λiC H₁ hs hi=>⟨hs,ih iC H₁ hi⟩
end
structure Row where
 j4:Nat
 n0:Rat
 line:List Nat
variable{rs tot:List Row}
def nf(b:Nat)(H:Hp)(r:Row)(v:V):Prop:=∀RowAtζ:Prop,(∀(l:Nat) (hb:b<=l) (e:v=.aC [nv r.j4,rv r.n0,.ref l]) (a:H[l]?=some (.list (aX r.line))),RowAtζ)->RowAtζ
theorem nf.mk{b:Nat}{r:Row}(l:Nat)(hb:b<=l)(e:v=.aC [nv r.j4,rv r.n0,.ref l])(a:H[l]?=some (.list (aX r.line))):nf b H r v:=λZ cm=>cm l hb e a
theorem nf.mono{b:Nat}{r:Row}(h:nf b H r v)(f:∀(l:Nat) c,b<=l->H[l]?=some c->b'<=l/\H'[l]?=some c):nf b' H' r v:=h _ λl hb e a=>(.mk l ((f l _ hb a).1) e ((f l _ hb a).2))
abbrev jQ(b:Nat)(H:Hp):List Row->List V->Prop:=cz (nf b H)
theorem jQ.b{r:Nat}(h:jQ (r+1) H rs vs)(x:bK r H H'):jQ (r+1) H' rs vs:=h.imp λZ Z h=>h.mono λl c hb e=>⟨hb,x l c (fE hb) e⟩
noncomputable def ju(ps:List aH)(d:Int)(cs:List Nat):List Nat:=cs.filter (gH ps d 20)
noncomputable def up(k:Nat)(s:Rat)(r:Row):Row:=⟨r.j4,s*r.n0,k::r.line⟩
noncomputable def rowsOf(ps:List aH)(d:Int)(rec:Nat->List Row)(k:Nat)(s:Rat)(c:Nat):List Row:=if lv ps d c then[⟨c,s,[k,c]⟩] else(rec c).map (up k s)
noncomputable def jb(ps:List aH)(d:Int)(rec:Nat->List Row)(k:Nat)(ts:List Nat):List Row:=ts.flatMap (rowsOf ps d rec k (mkRat 1 ts.length))
noncomputable def jv(ps:List aH)(d:Int):Nat->Nat->List Row
 |0,_=>[]
 |f+1,k=>jb ps d (jv ps d f) k (ju ps d (kids ps d k))
def zV(H:Hp)(rs:List Row)(Q:PQ):Prop:=∀lr vs H',H.length<=lr->aA H H'->H'[lr]?=some (.list vs)->jQ (lr+1) H' rs vs->Q (.ref lr) H'
def CG(ps:List aH)(d:Int)(d6:bB)(H:Hp)(cs as:List Nat)(acc:List V)(ρ:bB)(H':Hp):Prop:=∀TkIζ:Prop,(∀(o:Option V) (an:List Nat) (e:ρ=o::d6) (x:aA H H') (ea:acc=aX an) (t:an++ju ps d as=ju ps d cs) (b:∀c∈as,c∈cs),TkIζ)->TkIζ
theorem CG.mk{ps:List aH}{as:List Nat}(o:Option V)(an:List Nat)(e:ρ=o::d6)(x:aA H H')(ea:acc=aX an)(t:an++ju ps d as=ju ps d cs)(b:∀c∈as,c∈cs):CG ps d d6 H cs as acc ρ H':=λZ cm=>cm o an e x ea t b
def CH(ps:List aH)(d:Int)(rec:Nat->List Row)(l k lc lt lr:Nat)(H₁:Hp)(s:Rat)(tot:List Row)(ts as:List Nat)(ρ:bB)(H':Hp):Prop:=∀LtIζ:Prop,(∀(a6 a7 a8 a9 ir:Option V) (rs:List Row) (vs:List V) (e:ρ=[some (.ref l),some (nv k),some (.ref lc),some (.int d),some (.ref lt),some (.ref lr),a6,a7,a8,a9,ir]) (x:bK lr H₁ H') (a:H'[lr]?=some (.list vs)) (r:jQ (lr+1) H' rs vs) (t:rs++as.flatMap (rowsOf ps d rec k s)=tot) (b:∀c∈as,c∈ts),LtIζ)->LtIζ
theorem CH.mk{ps:List aH}{rec:Nat->List Row}{k:Nat}{s:Rat}{as:List Nat}(a6 a7 a8 a9 ir:Option V)(rs:List Row)(vs:List V)(e:ρ=[some (.ref l),some (nv k),some (.ref lc),some (.int d),some (.ref lt),some (.ref lr),a6,a7,a8,a9,ir])(x:bK lr H₁ H')(a:H'[lr]?=some (.list vs))(r:jQ (lr+1) H' rs vs)(t:rs++as.flatMap (rowsOf ps d rec k s)=tot)(b:∀c∈as,c∈ts):CH ps d rec l k lc lt lr H₁ s tot ts as ρ H':=λZ cm=>cm a6 a7 a8 a9 ir rs vs e x a r t b
def zW(l k lr:Nat)(x2 x3 x4 x5 x6:Option V)(H₁:Hp)(s:Rat)(tot rest:List Row)(as:List Row)(ρ:bB)(H':Hp):Prop:=∀LuIζ:Prop,(∀(a8 a9 ir:Option V) (rs:List Row) (vs:List V) (e:ρ=[some (.ref l),some (nv k),x2,x3,x4,x5,x6,some (rv s),a8,a9,ir]) (x:bK lr H₁ H') (a:H'[lr]?=some (.list vs)) (r:jQ (lr+1) H' rs vs) (t:rs++(as.map (up k s)++rest)=tot),LuIζ)->LuIζ
theorem zW.mk{k:Nat}{s:Rat}{rest:List Row}{as:List Row}(a8 a9 ir:Option V)(rs:List Row)(vs:List V)(e:ρ=[some (.ref l),some (nv k),x2,x3,x4,x5,x6,some (rv s),a8,a9,ir])(x:bK lr H₁ H')(a:H'[lr]?=some (.list vs))(r:jQ (lr+1) H' rs vs)(t:rs++(as.map (up k s)++rest)=tot):zW l k lr x2 x3 x4 x5 x6 H₁ s tot rest as ρ H':=λZ cm=>cm a8 a9 ir rs vs e x a r t
section
variable{k:Nat}
theorem lP{b:Nat}{xs:List V}(ha:H[a]?=some (.list xs))(hb:H[b]?=some (.list ys))(hs:(xs++ys).length<16000000)(q:Q (.ref H.length) (H++[.list (xs++ys)])):sG .add (.ref a) (.ref b) H Q:=by
 exact au (cC ha) (au (cC hb) (cM (cP hs) q))
def ng(f:Nat)(r:Row):Prop:=Sm (5*f) r.n0/\r.line.length<=f+1
theorem Ib{d:Int}{ps:List aH}(hW:dv ps)(hl:g7 ps){rec:Nat->List Row}{cs:List Nat}(jN:cs.length<=20)(vI:∀c∈cs,∃p,ps[c]?=some p)(hr:∀c∈cs,∀r∈rec c,ng 21 r)(ht:(jb ps d rec k (ju ps d cs)).length<=16000000)
  (IH:∀c∈cs,∀(H:Hp) (Q Y:PQ),H[l]?=some (.list (ps.map bQ))->zV H (rec c) Q->ay (n+23) 13 [.ref l,nv c,.int d] H Q Y)
  (hA:H[l]?=some (.list (ps.map bQ))) (hC:H[lc]?=some (.list (aX cs))) (q:zV H (jb ps d rec k (ju ps d cs)) Q):ay (n+24) 12 [.ref l,nv k,.ref lc,.int d] H Q Y:=Ro (by
 apply au (cT hC)
 refine cM (cP (by rw[aS];exact bM jN (by decide))) ?_
 refine pf (CG ps d [some (.ref l),some (nv k),some (.ref lc),some (.int d),none,none,none,none,none,none,none] H cs) (λc as acc ρ H' h=>?_) (λacc ρ H' h=>?_) _ _ _ _ (.mk none [] rfl (aA.refl H) rfl rfl (λc h=>h))
 ·refine h _ λo an e x ea t b=>?_
  subst e
  refine λN hN=>?_
  refine(vI c (b c cJ)).elim λp hp=>?_
  have t':an++(if gH ps d 20 c then c::ju ps d as else ju ps d as)=ju ps d cs:=by rw[<-t];unfold ju;rw[filter_cons]
  refine b6 (CD (n:=n+1) (f:=20) hW hl (x l _ hA) hp (uq hl _) λH₂ cq=>?_)
  have st:fN [lc] H H₂=true:=dm hC ((x.trans cq) _ _ hC)
  refine(?_:bz (gH ps d 20 c) _ _)
  refine cb (λh2=>?_) λh2=>?_
  ·rw[h2] at t'
   exact hN _ _ st (.mk _ (an++[c]) rfl (x.trans cq) (by rw[ea];exact uo an c) (gh t') (λc hc=>b c (.tail _ hc)))
  ·rw[h2] at t'
   exact hN _ _ st (.mk _ an rfl (x.trans cq) ea t' (λc hc=>b c (.tail _ hc)))
 ·refine h _ λo an e x ea t b=>?_
  subst ea
  rw[show ju ps d []=[] from rfl,dO] at t
  subst t
  generalize vO:ju ps d cs=ts at *
  have hm:∀c∈ts,c∈cs:=λc h=>(lG.mp (show c∈cs.filter _ from vO▸h)).1
  have du:ts.length<=20:=aR (aR (iX (bU List.length vO.symm)) (ma _ _)) jN
  generalize hs:mkRat 1 ts.length=s
  have CI:ts≠[]->Sm 5 s:=λh=>hs▸Sm.inv (λe=>h (tC e)) (bM du (by decide))
  have a1:(H'++[bt.list (aX ts)]++[bt.list []])[H'.length]?=some (.list (aX ts)):=be _ (aZ _ _)
  apply au (cT a1)
  have oi:H'.length<(H'++[bt.list (aX ts)]).length:=by rw[bX];exact lt_succ_self _
  refine fR (CH ps d rec l k lc H'.length (H'++[bt.list (aX ts)]).length (H'++[bt.list (aX ts)]++[bt.list []]) s (jb ps d rec k ts) ts) (λc as ρ H₂ h=>?_) (λρ H₂ h=>?_) _ _ _ (.mk none none none none none [] [] rfl (bK.refl _ _) (aZ _ _) .nil (by rw[<-hs];rfl) (λc h=>h))
  ·refine h _ λa6 a7 a8 a9 ir rs vs e cq a r t b=>?_
   subst e
   refine λN hN=>?_
   have mx:=cq _ _ (eO oi) a1
   have cN:aA H H₂:=cq.ext (x.trans ((aA.aO _ _).trans (aA.aO _ _))) (aR x.len (cO oi))
   have hc:=b c cJ
   have dQ:ts≠[]:=ne_nil_of_mem hc
   refine(vI c (hm c hc)).elim λp hp=>?_
   rw[flatMap_cons,show rowsOf ps d rec k s c=if d7 p d then[⟨c,s,[k,c]⟩] else(rec c).map (up k s) by rw[<-i9 hp];rfl] at t
   apply au (cC mx)
   rw[aS]
   refine b6 (CF (λe=>dQ (tC e)) (bM du (by decide)) ?_)
   rw[hs]
   refine b6 (nX (cN l _ hA) hp ?_)
   refine(?_:bz (d7 p d) _ _)
   refine cb (λh2=>?_) λh2=>?_
   ·rw[h2] at t
    have t:rs++(⟨c,s,[k,c]⟩::as.flatMap (rowsOf ps d rec k s))=jb ps d rec k ts:=t
    refine gg a (gy (be _ a) (by rw[r.len];exact qt t ht) (hN _ _ (dm a1 (d9 (be _ mx) _ (fE oi))) (.mk _ _ _ _ _ (rs++[⟨c,s,[k,c]⟩]) _ rfl (cq.trans ((bK.aO _ _ _).trans (bK.set _ _ _))) (eX (be _ a) _) ((r.b ((bK.aO _ _ _).trans (bK.set _ _ _))).snoc (.mk H₂.length (cG a) rfl (d9 (aZ _ _) _ (eO (cG a))))) (gh t) (λc hc=>b c (.tail _ hc)))))
   ·rw[h2] at t
    have t:rs++((rec c).map (up k s)++as.flatMap (rowsOf ps d rec k s))=jb ps d rec k ts:=t
    refine b6 (IH c (hm c hc) _ _ _ (cN l _ hA) λlb us H₃ hb fG ab rb=>?_)
    have a':=fG _ _ a
    have sR:=fh (cG a) hb
    apply au (cT ab)
    refine xS (R:=λr v=>r∈rec c/\nf (lb+1) H₃ r v) (zW l k (H'++[bt.list (aX ts)]).length (some (.ref lc)) (some (.int d)) (some (.ref H'.length)) (some (.ref (H'++[bt.list (aX ts)]).length)) (some (nv c)) H₃ s (jb ps d rec k ts) (as.flatMap (rowsOf ps d rec k s))) (λrw v bs ρ H₄ hv h=>?_) (λρ H₄ h=>?_) (rb.imp' λr v hr hv=>⟨hr,hv⟩) _ _ (.mk _ _ _ rs vs rfl (bK.refl _ _) a' (r.b (fG.b _)) t)
    ·refine hv.2 _ λll qw e al=>?_
     subst e
     refine h _ λa8 a9 ir rs vs e iv a r t=>?_
     subst e
     refine λN' j5=>?_
     have sr:=hr c (hm c hc) _ hv.1
     have nl:ll≠(H'++[bt.list (aX ts)]).length:=fE (lt_trans sR qw)
     refine gg a (b6 (xR (CI dQ) sr.1 (by decide) ?_))
     refine lP (aZ _ _) (be _ (iv _ _ nl al)) (by rw[bX,aS];exact bM (lD sr.2 _) (show 1+(21+1)<16000000 by decide)) ?_
     have gI:bK (H'++[bt.list (aX ts)]).length H₄ _:=(bK.aO _ H₄ [bt.list [nv k]]).trans ((bK.aO _ _ [bt.list (aX (k::rw.line))]).trans (bK.set _ _ (.list (vs++[.aC [nv rw.j4,rv (s*rw.n0),.ref (H₄++[bt.list [nv k]]).length]]))))
     refine gy (be _ (be _ a)) (by rw[r.len];exact qt t ht) (j5 _ _ (dm ab ((iv.trans gI) _ _ (fE sR) ab)) (.mk _ _ _ (rs++[up k s rw]) _ rfl (iv.trans gI) (eX (be _ (be _ a)) _) ((r.b gI).snoc (.mk ((H₄++[bt.list [nv k]]).length) (cG (be _ a)) rfl (d9 (aZ _ _) _ (eO (cG (be _ a)))))) (gh t)))
    ·refine h _ λa8 a9 ir rs vs e iv a r t=>?_
     subst e
     have gI:=(fG.b (H'++[bt.list (aX ts)]).length).trans iv
     exact hN _ _ (dm a1 (gI _ _ (eO oi) mx)) (.mk _ _ _ _ _ rs vs rfl (cq.trans gI) a r t (λc hc=>b c (.tail _ hc)))
  ·refine h _ λa6 a7 a8 a9 ir rs vs e cq a r t b=>?_
   subst e
   rw[flatMap_nil,dO] at t
   exact q _ vs _ (aR x.len (cO oi)) (cq.ext (x.trans ((aA.aO _ _).trans (aA.aO _ _))) (aR x.len (cO oi))) a (t▸r))
end
noncomputable def wt(w:Int->Nat)(b:Int)(q:aH):Nat:=if b<q.aQ then w q.aQ else 0
theorem Ic(w:Int->Nat)(b:Int):∀l:List aH,(l.map (wt w (b - 1))).sum=(l.map (wt w b)).sum+l.countP (λq=>decide (q.aQ=b))*w b
 |[]=>by rw[List.countP_nil,zero_mul];rfl
 |q::r=>by
  rw[jF,jF,sum_cons,sum_cons,Ic w b r,countP_cons,Nat.add_mul]
  unfold wt
  by_cases h:q.aQ=b
  ·rw[bL (by rw[h];exact Int.sub_lt_self b (by decide)),bG (by rw[h];exact Int.lt_irrefl b),c9 h,h]
   simp only[if_true,one_mul];lia
  ·rw[gv h]
   by_cases h2:b<q.aQ
   ·rw[bL h2,bL (lt_of_le_of_lt (Int.sub_le_self b (by decide)) h2)]
    simp only[Bool.false_eq_true,if_false,zero_mul];lia
   ·rw[bG h2,bG (Int.not_lt.mpr (Int.le_sub_one_of_lt (Int.lt_iff_le_and_ne.mpr ⟨Int.not_lt.mp h2,h⟩)))]
    simp only[Bool.false_eq_true,if_false,zero_mul];lia
theorem Ie(b:Int):∀l:List aH,yo l (b - 1)=yo l b+l.countP (λq=>decide (q.aQ=b))
 |[]=>rfl
 |q::r=>by
  have ih:=Ie b r
  unfold yo at *
  rw[countP_cons,countP_cons,countP_cons,ih]
  by_cases h:q.aQ=b
  ·rw[c9 h,c9 (show b - 1<q.aQ by rw[h];exact Int.sub_lt_self b (by decide)),gv (show ¬b<q.aQ by rw[h];exact Int.lt_irrefl _)];rfl
  ·rw[gv h]
   by_cases h2:b<q.aQ
   ·rw[c9 h2,c9 (show b - 1<q.aQ from lt_of_le_of_lt (Int.sub_le_self b (by decide)) h2)];exact add_right_comm _ _ 1
   ·rw[gv h2,gv (show ¬b - 1<q.aQ from Int.not_lt.mpr (Int.le_sub_one_of_lt (Int.lt_iff_le_and_ne.mpr ⟨Int.not_lt.mp h2,h⟩)))];rfl
theorem Ig(ps:List aH)(B:Int)(hB:∀q∈ps,q.aQ<=B):∀j:Nat,(ps.map (wt (λb=>2^yo ps b) (B - j))).sum<2^yo ps (B - j)
 |0=>by
  have e:∀l:List aH,(∀q∈l,q.aQ<=B)->(l.map (wt (λb=>2^yo ps b) (B - (0:Nat)))).sum=0:=λl=>l.rec (motive:=λl=>(∀q∈l,q.aQ<=B)->(l.map (wt (λb=>2^yo ps b) (B - (0:Nat)))).sum=0) (λZ=>rfl) λq r ih hl=>by
   rw[jF,sum_cons,ih λq hq=>hl q (.tail _ hq)]
   exact bG (by have:=hl q cJ;exact Int.not_lt.mpr (by rw[show B - ((0:Nat):Int)=B from Int.sub_zero B];exact this))
  rw[e ps hB];exact Nat.two_pow_pos _
 |j+1=>by
  have ih:=Ig ps B hB j
  rw[show B - ((j+1:Nat):Int)=B - (j:Int) - 1 from(Int.sub_sub B (j:Int) 1).symm,Ic,Ie,Nat.pow_add]
  generalize ps.countP (λq=>decide (q.aQ=B - (j:Int)))=e
  have h1:e+1<=2^e:=Nat.lt_two_pow_self
  have h2:=Nat.mul_le_mul_right (2^yo ps (B - (j:Int))) h1
  rw[Nat.add_mul,one_mul] at h2
  rw[mul_comm (2^yo ps (B - (j:Int))) (2^e)]
  exact fh (by rw[add_comm];exact Nat.add_lt_add_left ih _) h2
theorem Ih:∀ps:List aH,∃B,∀q∈ps,q.aQ<=B
 |[]=>⟨0,λZ h=>nomatch h⟩
 |p::r=>(Ih r).elim λB h=>⟨max B p.aQ,λq hq=>(cH.mp hq).elim (λe=>e▸Int.le_max_right _ _) λhr=>Int.le_trans (h q hr) (Int.le_max_left _ _)⟩
theorem SD(ps:List aH)(b:Int):(ps.map (wt (λb=>2^yo ps b) b)).sum<2^yo ps b:=(Ih ps).elim λB hB=>by
 have h:=Ig ps (max B b) (λq hq=>Int.le_trans (hB q hq) (Int.le_max_left _ _)) (max B b - b).toNat
 rw[show max B b - ((max B b - b).toNat:Int)=b by lia] at h
 exact h
theorem Ii{α:Type}{P:α->Bool}{h g:α->Nat}:∀l:List α,(∀c∈l,P c=true->h c<=g c)->((l.filter P).map h).sum<=(l.map g).sum
 |[],_=>cg _
 |a::r,f=>by
  have ih:=Ii r λc hc=>f c (.tail _ hc)
  rw[filter_cons,jF,sum_cons]
  split
  ·rename_i hp
   rw[jF,sum_cons];exact jG (f a cJ hp) ih
  ·exact aR ih (le_add_left _ _)
theorem B7{α:Type}(ps:List α):(List.range ps.length).map (λi=>ps[i]?)=ps.map some:=by
 apply ext_getElem?
 intro i
 rw[g5,g5]
 by_cases h:i<ps.length
 ·rw[List.getElem?_range h,fL h];exact bU some (fL h)
 ·rw[qP (by rw[kH];exact not_lt.mp h),qP (not_lt.mp h)];rfl
theorem Ij{g:aH->Nat}:∀ps:List aH,(ps.map λq=>if gX q=true then g q else 0).sum=((ps.filter gX).map g).sum
 |[]=>rfl
 |p::r=>by
  rw[jF,sum_cons,Ij r,filter_cons]
  by_cases h:gX p=true
  ·rw[bL h,bL h,jF,sum_cons]
  ·rw[bG h,bG h,zero_add]
theorem SE{ps:List aH}{b:Int}{P:Nat->Bool}{h:Nat->Nat}(hh:∀c,P c=true->∃q,ps[c]?=some q/\gX q=true/\b<q.aQ/\h c<=2^mw ps q.aQ):(((List.range ps.length).filter P).map h).sum<2^mw ps b:=by
 refine bM (Ii (g:=λc=>(ps[c]?).elim 0 λq=>if gX q=true then wt (λb=>2^mw ps b) b q else 0) _ λc Z hc=>?_) (bM (iX ?_) (SD (ps.filter gX) b))
 ·obtain⟨q,h1,h0,h2,h3⟩:=hh c hc
  rw[h1]
  exact aR h3 (iX ((bL h0).trans (bL h2)).symm)
 ·have e:=bU (λl=>(l.map λo:Option aH=>o.elim 0 λq=>if gX q=true then wt (λb=>2^mw ps b) b q else 0).sum) (B7 ps)
  rw[map_map,map_map] at e
  exact e.trans (Ij ps)
theorem ng.up{k:Nat}{s:Rat}{r:Row}(hs:Sm 5 s)(h:ng f r):ng (f+1) (up k s r):=⟨(hs.mul h.1).le (iX (add_comm 5 (5*f))),lE h.2⟩
theorem ng.le{g:Nat}{r:Row}(h:ng f r)(e:f<=g):ng g r:=⟨h.1.le (qO 5 e),aR h.2 (lE e)⟩
theorem CJ{ps:List aH}{d:Int}{rec:Nat->List Row}{k:Nat}{ts:List Nat}(hl:ts.length<=20)(h:∀c∈ts,∀r∈rec c,ng f r):∀r∈jb ps d rec k ts,ng (f+1) r:=by
 intro r hr
 obtain⟨c,hc,hr⟩:=List.mem_flatMap.mp hr
 have hs:Sm 5 (mkRat 1 ts.length):=Sm.inv (λe=>absurd (tC e) (ne_nil_of_mem hc)) (bM hl (by decide))
 unfold rowsOf at hr
 split at hr
 ·rw[cI.mp hr]
  exact⟨hs.le (le_add_left 5 (5*f)),le_add_left 2 f⟩
 ·obtain⟨r',zT,rfl⟩:=fj.mp hr
  exact(h c hc r' zT).up hs
theorem Ik(ps:List aH)(d:Int)(cs:List Nat):(ju ps d cs).length<=cs.length:=ma _ _
theorem uu{ps:List aH}{d:Int}(hl:g7 ps):∀(f k:Nat),∀r∈jv ps d f k,ng f r
 |0,k=>λr hr=>nomatch hr
 |f+1,k=>CJ (aR (Ik _ _ _) (ur hl)) λc Z=>uu hl f c
theorem Il{ps:List aH}(hW:dv ps){rec:Nat->List Row}{k:Nat}(hp:ps[k]?=some p){P:Nat->Bool}(hP:∀c,P c=true->nY ps d k c=true)(h:∀c q,ps[c]?=some q->(rec c).length<=2^mw ps q.aQ):(jb ps d rec k' ((List.range ps.length).filter P)).length<2^mw ps p.aQ:=by
 unfold jb
 rw[List.length_flatMap]
 refine SE λc hc=>CA (hP c hc) λq hq hm=>(xQ hW hq d k hm).elim λq2 h2=>?_
 rw[hp] at h2
 refine⟨q,hq,CB hm,by cases h2.1;exact h2.2,?_⟩
 unfold rowsOf
 split
 ·exact Nat.two_pow_pos _
 ·rw[aS];exact h c q hq
theorem xT{ps:List aH}(hW:dv ps){d:Int}:∀(f k:Nat) (p:aH),ps[k]?=some p->(jv ps d f k).length<=2^mw ps p.aQ
 |0,k,p,_=>gu _
 |f+1,k,p,hp=>by
  refine(?_:(jb ps d (jv ps d f) k (((List.range ps.length).filter (nY ps d k)).filter (gH ps d 20))).length<=_)
  rw[List.filter_filter]
  exact cO (Il hW hp (λc h=>(eJ.mp h).2) (xT hW f))
theorem zX{ps:List aH}(hl:g7 ps)(b:Int):2^mw ps b<=1048576:=pow_le_pow_right (n:=2) (j:=20) (by decide) (cO (uq hl b))
theorem zY{d:Int}{ps:List aH}(hW:dv ps)(hl:g7 ps):∀{f k:Nat} {p:aH} {H:Hp} {Q Y:PQ},f<=20->H[l]?=some (.list (ps.map bQ))->ps[k]?=some p->mw ps p.aQ<f->zV H (jv ps d f k) Q->ay (n+2*f+23) 13 [.ref l,nv k,.int d] H Q Y
 |0,k,p,H,Q,Y,_,_,_,hf,_=>absurd hf (not_lt_zero _)
 |f+1,k,p,H,Q,Y,uv,hA,hp,hf,q=>Rp (by
  refine b6 (xP (n:=n+2*f+22) hA hl.1 λlc H₁ Z x hc=>?_)
  refine b6 (Ib (n:=n+2*f) (rec:=jv ps d f) hW hl (ur hl) (λc hc=>ut hW hp hc λq hq Z Z=>⟨q,hq⟩) (λc Z r hr=>(uu hl f c r hr).le (aR (pP uv) (by decide))) (aR (xT hW (f+1) k p hp) (aR (zX hl _) (by decide))) (λc hc H₂ Q₂ Y₂ SF SG=>ut hW hp hc λq hq Z hy=>zY hW hl (pP uv) SF hq (fh hy (le_of_lt_succ hf)) SG) (x _ _ hA) hc ?_)
  exact λlr vs H' hr x' a r=>q lr vs H' (aR x.len hr) (x.trans x') a r)
noncomputable def sS(k c:Nat):Bool:=!((c:Int)==(k:Int))
noncomputable def others(ps:List aH)(d:Int)(k ca:Nat):List Nat:=(kids ps d ca).filter (sS k)
def CL(d6:bB)(H:Hp)(F:Nat->Bool)(tot:List Nat)(as:List Nat)(acc:List V)(ρ:bB)(H':Hp):Prop:=∀OtIζ:Prop,(∀(o:Option V) (an:List Nat) (e:ρ=o::d6) (eh:H'=H) (ea:acc=aX an) (t:an++as.filter F=tot),OtIζ)->OtIζ
theorem CL.mk{F:Nat->Bool}{tot:List Nat}(o:Option V)(an:List Nat)(e:ρ=o::d6)(eh:H'=H)(ea:acc=aX an)(t:an++as.filter F=tot):CL d6 H F tot as acc ρ H':=λZ cm=>cm o an e eh ea t
section
variable{k:Nat}
theorem CM{α:Type}{F:α->Bool}{acc as tot:List α}{a:α}(t:acc++(a::as).filter F=tot){M:Prop}(h1:F a=true->(acc++[a])++as.filter F=tot->M)(h2:F a=false->acc++as.filter F=tot->M):M:=by
 rw[filter_cons] at t
 cases h:F a with
 |true=>rw[h] at t;exact h1 h (gh t)
 |false=>rw[h] at t;exact h2 h t
theorem Im{ps:List aH}(hA:H[l]?=some (.list (ps.map bQ)))(hl:g7 ps)(q:∀lc H',H.length<=lc->aA H H'->H'[lc]?=some (.list (aX (others ps d k ca)))->Q (.ref lc) H'):ay (n+3) 14 [.ref l,nv ca,nv k,.int d] H Q Y:=Rq (by
 refine b6 (xP (n:=n) hA hl.1 λlc H₁ hb x hc=>?_)
 apply au (cT hc)
 refine cM (cP (by rw[aS];exact bM (ur hl) (by decide))) ?_
 refine pf (CL [some (.ref l),some (nv ca),some (nv k),some (.int d)] H₁ (sS k) (others ps d k ca)) (λc as acc ρ H' h=>?_) (λacc ρ H' h=>?_) _ _ _ _ (.mk none [] rfl rfl rfl rfl)
 ·refine h _ λo an e eh ea t=>?_
  subst e eh
  refine λN hN=>?_
  refine(?_:bz (sS k c) _ _)
  exact CM t (λh t=>by rw[h];exact hN _ _ (dm hc hc) (.mk _ (an++[c]) rfl rfl (by rw[ea];exact uo an c) t)) λh t=>by rw[h];exact hN _ _ (dm hc hc) (.mk _ an rfl rfl ea t)
 ·refine h _ λo an e eh ea t=>?_
  subst eh ea
  rw[filter_nil,dO] at t
  subst t
  exact q _ _ (aR hb (cO (cG hc))) (x.trans (aA.aO _ _)) (aZ _ _))
inductive SH{α:Type}(d6:bB)(H:Hp)(F:α->V)(cs as:List α)(acc:List V)(ρ:bB)(H':Hp):Prop
 |mk (o:Option V) (an:List α) (e:ρ=o::d6) (x:aA H H') (ea:acc=an.map F) (t:an++as=cs)
theorem Io{d:Int}{ps:List aH}(hW:dv ps)(hl:g7 ps){cs:List Nat}(vI:∀c∈cs,∃p,ps[c]?=some p){r:bB}{i lc:Nat}(hr:r[i]?.join=some (.int d))(hA:H[l]?=some (.list (ps.map bQ))){zH:bt}(hC:H[lc]?=some zH){Q:List V->Hp->Prop}(q:∀H',aA H H'->Q (cs.map λc=>.bool (gH ps d 20 c)) H'):
  iQ [lc] H (.J 0) (λρ H Q=>WT ⟨ay (n+22),Y⟩ [] ρ H Q) (λρ H Q=>WE ⟨ay (n+22),Y⟩ (.call 3 [.J 1,.J 0,.J (i+2)]) ρ H Q) (aX cs) (none::some (.ref l)::r) H [] Q:=by
 refine pf (SH (some (.ref l)::r) H (λc=>.bool (gH ps d 20 c)) cs) (λc as acc ρ H' h=>?_) (λacc ρ H' h=>?_) _ _ _ _ ⟨none,[],rfl,aA.refl H,rfl,rfl⟩
 ·refine h.casesOn λo an e x ea t=>?_
  subst e
  refine λN hN=>?_
  refine(vI c (t▸List.mem_append_right _ cJ)).elim λp hp=>?_
  apply au (show((some (nv c)::some (V.ref l)::r)[i+2]?).join=some (.int d) from hr)
  exact b6 (CD (n:=n) (f:=20) hW hl (x l _ hA) hp (uq hl _) λH₂ cq=>hN _ _ (dm hC ((x.trans cq) _ _ hC)) ⟨_,an++[c],rfl,x.trans cq,by rw[ea,gx];rfl,gh t⟩)
 ·refine h.casesOn λo an e x ea t=>?_
  rw[dO] at t
  subst ea t
  exact q _ x
theorem all_bools{α:Type}(b:α->Bool):∀cs:List α,kM (cs.map λc=>.bool (b c))=some (cs.map b)
 |[]=>rfl
 |c::r=>by
  refine(?_:((kM (r.map λc=>.bool (b c))).map (b c::·))=_)
  rw[all_bools b r];rfl
theorem Ip{α:Type}{b:α->Bool}{cs:List α}{m:Nat}(h:H[m]?=some (.list (cs.map λc=>.bool (b c)))):(eQ H (.ref m)).bind kM=some (cs.map b):=by rw[cC h];exact all_bools b cs
theorem Iq{α:Type}(b:α->Bool)(cs:List α):(cs.map b).any id=cs.any b:=List.any_map
end
theorem ey{t:Bool}{A B:Prop}(h:t=true)(a:A):bz t A B:=by rw[h];exact a
theorem e8{t:Bool}{A B:Prop}(h:t=false)(b:B):bz t A B:=by rw[h];exact b
theorem SI{α:Type}{acc:List α}{a:α}{r tot:List α}(e:(acc++[a])++r=tot)(h:tot.length<=B):acc.length<B:=qt ((nF acc [a] r).symm.trans e) h
noncomputable def vP(ps:List aH)(d:Int)(k ca:Nat):Bool:=lv ps d ca||(others ps d k ca).any (gH ps d 20)
noncomputable def vQ(ps:List aH)(d:Int)(k:Nat)(p:aH):List Nat:=(iE p d).filter (vP ps d k)
noncomputable def j6(ps:List aH)(d:Int)(k ca:Nat):List Row:=jb ps d (jv ps d 20) ca (ju ps d (others ps d k ca))
noncomputable def vR(ps:List aH)(d:Int)(k:Nat)(p:aH):List Row:=jb ps d (j6 ps d k) k (vQ ps d k p)
theorem CN{ps:List aH}(hl:g7 ps){k:Nat}:(others ps d k ca).length<=20:=aR (ma _ _) (ur hl)
theorem Ir{ps:List aH}(hW:dv ps)(hl:g7 ps){k:Nat}(hq:ps[ca]?=some q):(j6 ps d k ca).length<=1048576:=by
 unfold j6 ju others kids
 rw[List.filter_filter,List.filter_filter]
 exact aR (cO (Il hW hq (λc h=>(eJ.mp h).2) (xT hW 20))) (zX hl _)
theorem Iu{ps:List aH}(hl:g7 ps){d:Int}{k ca:Nat}:∀r∈j6 ps d k ca,ng 21 r:=CJ (aR (Ik _ _ _) (CN hl)) λc Z=>uu hl 20 c
theorem zZ{α β:Type}{f:α->List β}{B:Nat}:∀{l:List α},(∀a∈l,(f a).length<=B)->(l.flatMap f).length<=l.length*B
 |[],_=>gu _
 |a::r,h=>by
  rw[flatMap_cons,bX,iY,Nat.succ_mul,add_comm]
  exact jG (zZ λa ha=>h a (.tail _ ha)) (h a cJ)
theorem Iv{ps:List aH}{k:Nat}{c:Nat}(h:c∈vQ ps d k p):c∈iE p d:=(lG.mp h).1
theorem z4{ps:List aH}(hW:dv ps){k:Nat}(hp:ps[k']?=some p):(vQ ps d k p).length<=2:=aR (ma _ _) (HY hW hp d)
theorem Iw{ps:List aH}(hW:dv ps)(hl:g7 ps){k:Nat}(hp:ps[k]?=some p):(vR ps d k p).length<=2097152:=
 aR (zZ (B:=1048576) λc hc=>by
  unfold rowsOf
  split
  ·exact(by decide:1<=1048576)
  ·rw[aS]
   exact(xQ hW hp d c (Iv hc)).elim λq hq=>Ir hW hl hq.1) (Nat.mul_le_mul_right 1048576 (z4 hW hp))
theorem SJ{ps:List aH}(hW:dv ps)(hl:g7 ps){d:Int}{k:Nat}{p:aH}(hp:ps[k]?=some p):∀r∈vR ps d k p,ng 22 r:=CJ (aR (z4 hW hp) (by decide)) λc Z=>Iu hl
def CO(ps:List aH)(d:Int)(k l:Nat)(p:aH)(H:Hp)(as:List Nat)(ρ:bB)(H':Hp):Prop:=∀PtIζ:Prop,(∀(o4 o5:Option V) (acc:List Nat) (e:ρ=[some (.ref l),some (nv k),some (.int d),some (.ref H.length),o4,o5,none,none,none,none,none]) (x:aA H H') (a:H'[H.length]?=some (.list (aX acc))) (t:acc++as.filter (vP ps d k)=vQ ps d k p) (b:∀c∈as,c∈iE p d),PtIζ)->PtIζ
theorem CO.mk{ps:List aH}{k:Nat}{as:List Nat}(o4 o5:Option V)(acc:List Nat)(e:ρ=[some (.ref l),some (nv k),some (.int d),some (.ref H.length),o4,o5,none,none,none,none,none])(x:aA H H')(a:H'[H.length]?=some (.list (aX acc)))(t:acc++as.filter (vP ps d k)=vQ ps d k p)(b:∀c∈as,c∈iE p d):CO ps d k l p H as ρ H':=λZ cm=>cm o4 o5 acc e x a t b
def CP(ps:List aH)(d:Int)(rec:Nat->List Row)(l k lt lr:Nat)(H₁:Hp)(s:Rat)(tot:List Row)(ts as:List Nat)(ρ:bB)(H':Hp):Prop:=∀PuIζ:Prop,(∀(a4 a5 a7 a8 a9 ir:Option V) (rs:List Row) (vs:List V) (e:ρ=[some (.ref l),some (nv k),some (.int d),some (.ref lt),a4,a5,some (.ref lr),a7,a8,a9,ir]) (x:bK lr H₁ H') (a:H'[lr]?=some (.list vs)) (r:jQ (lr+1) H' rs vs) (t:rs++as.flatMap (rowsOf ps d rec k s)=tot) (b:∀c∈as,c∈ts),PuIζ)->PuIζ
theorem CP.mk{ps:List aH}{rec:Nat->List Row}{k:Nat}{s:Rat}{as:List Nat}(a4 a5 a7 a8 a9 ir:Option V)(rs:List Row)(vs:List V)(e:ρ=[some (.ref l),some (nv k),some (.int d),some (.ref lt),a4,a5,some (.ref lr),a7,a8,a9,ir])(x:bK lr H₁ H')(a:H'[lr]?=some (.list vs))(r:jQ (lr+1) H' rs vs)(t:rs++as.flatMap (rowsOf ps d rec k s)=tot)(b:∀c∈as,c∈ts):CP ps d rec l k lt lr H₁ s tot ts as ρ H':=λZ cm=>cm a4 a5 a7 a8 a9 ir rs vs e x a r t b
section
variable{k:Nat}
theorem SK{ps:List aH}(hW:dv ps)(hl:g7 ps)(hp:ps[k]?=some p)(hA:H[l]?=some (.list (ps.map bQ)))(q:zV H (vR ps d k p) Q):ay (n+65) 15 [.ref l,nv k,.int d] H Q Y:=Rr (by
 refine b6 (Cy (be _ hA) hp ?_)
 have Iy:=xQ hW hp d
 refine fR (CO ps d k l p H) (λc as ρ H' h=>?_) (λρ H' h=>?_) _ _ _ (.mk none none [] rfl (aA.aO _ _) (aZ _ _) rfl (λc h=>h))
 ·refine h _ λo4 o5 acc e x a t b=>?_
  subst e
  refine λN hN=>(Iy c (b c cJ)).elim λpq qx=>?_
  refine b6 (Im (n:=n+61) (x _ _ hA) hl λlo H₂ CQ cq ao=>?_)
  have ext:=x.trans cq
  have lQ:∀c∈as,c∈iE p d:=λc hc=>b c (.tail _ hc)
  have yes:∀H₃,aA H₂ H₃->vP ps d k c=true->gT ((eQ H₃ (.ref H.length)).isSome) (ro .append (.ref H.length) [nv c] H₃ λZ H₄=>N [some (.ref l),some (nv k),some (.int d),some (.ref H.length),some (nv c),some (.ref lo),none,none,none,none,none] H₄):=λH₃ cN hk=>by
   have xU:=cN _ _ (cq _ _ a)
   exact CM t (λZ t=>gg xU (gy xU (by rw[aS];exact SI t (aR (z4 hW hp) (by decide))) (hN _ _ rfl (.mk _ _ (acc++[c]) rfl ((ext.trans cN).set (cg _) _) (by rw[<-uo];exact eX xU _) t lQ)))) λh Z=>absurd (hk.symm.trans h) (by decide)
  have no:∀H₃,aA H₂ H₃->vP ps d k c=false->N [some (.ref l),some (nv k),some (.int d),some (.ref H.length),some (nv c),some (.ref lo),none,none,none,none,none] H₃:=λH₃ cN hk=>CM t (λh Z=>absurd (hk.symm.trans h) (by decide)) λZ t=>hN _ _ rfl (.mk _ _ acc rfl (ext.trans cN) (cN _ _ (cq _ _ a)) t lQ)
  have ek:vP ps d k c=(d7 pq d||(others ps d k c).any (gH ps d 20)):=by rw[<-i9 qx.1];rfl
  refine b6 (nX (ext _ _ hA) qx.1 ?_)
  refine(?_:bz (d7 pq d==false) _ _)
  refine fD (λh2=>?_) λh2=>?_
  ·rw[h2,Bool.false_or] at ek
   apply au (cT ao)
   refine cM (cP (by rw[aS];exact bM (CN hl) (by decide))) ?_
   refine Io (n:=n+42) (i:=1) hW hl (λc' my=>ut hW qx.1 (lG.mp my).1 λq hq Z Z=>⟨q,hq⟩) rfl (ext _ _ hA) ao λH₃ cN=>?_
   apply au (Ip (aZ _ _))
   rw[Iq]
   refine cb (λh3=>?_) λh3=>?_
   ·exact yes _ (cN.trans (aA.aO _ _)) (ek.trans h3)
   ·exact no _ (cN.trans (aA.aO _ _)) (ek.trans h3)
  ·rw[h2,Bool.true_or] at ek
   exact ey h2 (yes _ (aA.refl _) ek)
 ·refine h _ λo4 o5 ts e x a1 t b=>?_
  subst e
  rw[filter_nil,dO] at t
  subst t
  generalize vO:vQ ps d k p=ts at *
  have hm:∀c∈ts,c∈iE p d:=λc h=>Iv (vO▸h)
  have du:ts.length<=2:=vO▸z4 hW hp
  have ht:=Iw hW hl (d:=d) hp
  rw[show vR ps d k p=jb ps d (j6 ps d k) k ts by rw[<-vO];rfl] at ht q
  generalize hs:mkRat 1 ts.length=s
  have CI:ts≠[]->Sm 5 s:=λh=>hs▸Sm.inv (λe=>h (tC e)) (bM du (by decide))
  have oi:=cG a1
  have CR:H.length<=H'.length:=cO oi
  have z6:=be [.list []] a1
  apply au (cT z6)
  refine fR (CP ps d (j6 ps d k) l k H.length H'.length (H'++[.list []]) s (jb ps d (j6 ps d k) k ts) ts) (λc as ρ H₂ h=>?_) (λρ H₂ h=>?_) _ _ _ (.mk _ _ none none none none [] [] rfl (bK.refl _ _) (aZ _ _) .nil (by rw[<-hs];rfl) (λc h=>h))
  ·refine h _ λa4 a5 a7 a8 a9 ir rs vs e cq a r t b=>?_
   subst e
   refine λN hN=>?_
   have mx:=cq _ _ (eO oi) z6
   have cN:aA H H₂:=cq.ext (x.trans (aA.aO _ _)) CR
   have hc:=b c cJ
   have dQ:ts≠[]:=ne_nil_of_mem hc
   refine(Iy c (hm c hc)).elim λpq qx=>?_
   have qx:=qx.1
   rw[flatMap_cons,show rowsOf ps d (j6 ps d k) k s c=if d7 pq d then[⟨c,s,[k,c]⟩] else(j6 ps d k c).map (up k s) by rw[<-i9 qx];rfl] at t
   apply au (cC mx)
   rw[aS]
   refine b6 (CF (λe=>dQ (tC e)) (bM du (by decide)) ?_)
   rw[hs]
   refine b6 (nX (cN l _ hA) qx ?_)
   refine(?_:bz (d7 pq d) _ _)
   refine cb (λh2=>?_) λh2=>?_
   ·rw[h2] at t
    have t:rs++(⟨c,s,[k,c]⟩::as.flatMap (rowsOf ps d (j6 ps d k) k s))=jb ps d (j6 ps d k) k ts:=t
    exact gg a (gy (be _ a) (by rw[r.len];exact qt t (aR ht (by decide))) (hN _ _ (dm z6 (d9 (be _ mx) _ (fE oi))) (.mk _ _ _ _ _ _ (rs++[⟨c,s,[k,c]⟩]) _ rfl (cq.trans ((bK.aO _ _ _).trans (bK.set _ _ _))) (eX (be _ a) _) ((r.b ((bK.aO _ _ _).trans (bK.set _ _ _))).snoc (.mk H₂.length (cG a) rfl (d9 (aZ _ _) _ (eO (cG a))))) (gh t) (λc hc=>b c (.tail _ hc)))))
   ·rw[h2] at t
    have t:rs++((j6 ps d k c).map (up k s)++as.flatMap (rowsOf ps d (j6 ps d k) k s))=jb ps d (j6 ps d k) k ts:=t
    refine b6 (Im (n:=n+61) (cN _ _ hA) hl λlo Ho YR xo ao=>?_)
    have Iz:∀c'∈others ps d k c,∃p,ps[c']?=some p:=λc' my=>ut hW qx (lG.mp my).1 λq hq Z Z=>⟨q,hq⟩
    refine b6 (Ib (n:=n+40) (rec:=jv ps d 20) hW hl (CN hl) Iz (λc Z r hr=>(uu hl 20 c r hr).le (by decide)) (aR (Ir hW hl qx) (by decide)) (λc' my H₅ Q₅ Y₅ SM SN=>(Iz c' my).elim λpc SO=>zY (n:=n) hW hl (f:=20) (cg _) SM SO (uq hl _) SN) ((cN.trans xo) _ _ hA) ao λlb us H₃ hb SP ab rb=>?_)
    have fG:=xo.trans SP
    have hb:=aR xo.len hb
    have a':=fG _ _ a
    have sR:=fh (cG a) hb
    apply au (cT ab)
    refine xS (R:=λr v=>r∈j6 ps d k c/\nf (lb+1) H₃ r v) (zW l k H'.length (some (.int d)) (some (.ref H.length)) (some (nv c)) a5 (some (.ref H'.length)) H₃ s (jb ps d (j6 ps d k) k ts) (as.flatMap (rowsOf ps d (j6 ps d k) k s))) (λrw v bs ρ H₄ hv h=>?_) (λρ H₄ h=>?_) (rb.imp' λr v hr hv=>⟨hr,hv⟩) _ _ (.mk _ _ _ rs vs rfl (bK.refl _ _) a' (r.b (fG.b _)) t)
    ·refine hv.2 _ λll qw e al=>?_
     subst e
     refine h _ λa8 a9 ir rs vs e iv a r t=>?_
     subst e
     refine λN' j5=>?_
     have sr:=Iu hl _ hv.1
     have nl:ll≠H'.length:=fE (lt_trans sR qw)
     refine gg a (b6 (xR (CI dQ) sr.1 (by decide) ?_))
     refine lP (aZ _ _) (be _ (iv _ _ nl al)) (by rw[bX,aS];exact bM (lD sr.2 _) (show 1+(21+1)<16000000 by decide)) ?_
     have gI:bK H'.length H₄ _:=(bK.aO _ H₄ [bt.list [nv k]]).trans ((bK.aO _ _ [bt.list (aX (k::rw.line))]).trans (bK.set _ _ (.list (vs++[.aC [nv rw.j4,rv (s*rw.n0),.ref (H₄++[bt.list [nv k]]).length]]))))
     exact gy (be _ (be _ a)) (by rw[r.len];exact qt t (aR ht (by decide))) (j5 _ _ (dm ab ((iv.trans gI) _ _ (fE sR) ab)) (.mk _ _ _ (rs++[up k s rw]) _ rfl (iv.trans gI) (eX (be _ (be _ a)) _) ((r.b gI).snoc (.mk ((H₄++[bt.list [nv k]]).length) (cG (be _ a)) rfl (d9 (aZ _ _) _ (eO (cG (be _ a)))))) (gh t)))
    ·refine h _ λa8 a9 ir rs vs e iv a r t=>?_
     subst e
     have gI:=(fG.b H'.length).trans iv
     exact hN _ _ (dm z6 (gI _ _ (eO oi) mx)) (.mk _ _ _ _ _ _ rs vs rfl (cq.trans gI) a r t (λc hc=>b c (.tail _ hc)))
  ·refine h _ λa4 a5 a7 a8 a9 ir rs vs e cq a r t b=>?_
   subst e
   rw[flatMap_nil,dO] at t
   exact q _ vs _ CR (cq.ext (x.trans (aA.aO _ _)) CR) a (t▸r))
end
theorem SQ{l m:List Int}(h:l.Perm m)(a:l.Pairwise (·<=·))(b:m.Pairwise (·<=·)):l=m:=h.eq_of_pairwise (λx y Z Z h1 h2=>Int.le_antisymm h1 h2) a b
section
variable{A B K:Type}[DecidableEq A][DecidableEq K]
noncomputable def uw(ws:List (A×B))(a:A):Option B:=(ws.find? λp=>decide (p.1=a)).map (·.2)
noncomputable def lR(ws:List (A×B))(a:A)(b:B):List (A×B):=if ws.any (λp=>decide (p.1=a)) then ws.map (λp=>if p.1=a then(p.1,b) else p) else ws++[(a,b)]
noncomputable def ic(ws:List (A×B))(a:A):Bool:=ws.any λp=>decide (p.1=a)
def eU(f:A->K)(S:B->V->Prop):List (A×B)->List (K×V)->Prop:=cz λw e=>e.1=f w.1/\S w.2 e.2
variable{f:A->K}(hf:∀a b,f a=f b->a=b){S:B->V->Prop}{ws:List (A×B)}{es:List (K×V)}
include hf
theorem IA{a b:A}{k:K}(e:k=f b):decide (k=f a)=decide (b=a):=nC.mpr ⟨λh=>hf _ _ (e▸h),λh=>e.trans (bU f h)⟩
theorem eU.has(h:eU f S ws es)(a:A):gF es (f a)=ic ws a:=h.rec (motive:=λws es Z=>gF es (f a)=ic ws a) rfl λr Z ih=>by
 refine(?_:(decide (_=f a)||gF _ (f a))=(decide (_=a)||ic _ a))
 rw[ih,IA hf r.1]
theorem eU.get(h:eU f S ws es)(a:A):ic ws a=true->∃b v,uw ws a=some b/\hU es (f a)=some v/\S b v:=h.rec (motive:=λws es Z=>ic ws a=true->∃b v,uw ws a=some b/\hU es (f a)=some v/\S b v) (λh=>absurd h gq) λ{w e ws es} r _ ih h=>by
 unfold uw hU
 rw[find?_cons,find?_cons,IA hf r.1]
 cases hd:decide (w.1=a) with
 |true=>exact⟨w.2,e.2,rfl,rfl,r.2⟩
 |false=>
  refine ih ?_
  have h:(decide (w.1=a)||ic ws a)=true:=h
  rw[hd] at h;exact h
theorem eU.put(h:eU f S ws es){a:A}{b:B}(r:S b v):eU f S (lR ws a b) (dput es (f a) v):=by
 unfold lR dput
 rw[show(es.any λp=>decide (p.1=f a))=_ from eU.has hf h a]
 cases ha:ic ws a with
 |false=>
  rw[show(ws.any λp=>decide (p.1=a))=false from ha]
  exact cz.snoc h ⟨rfl,r⟩
 |true=>
  rw[show(ws.any λp=>decide (p.1=a))=true from ha]
  refine h.rec (motive:=λws es Z=>eU f S (ws.map λp:A×B=>if p.1=a then(p.1,b) else p) (es.map λp:K×V=>if p.1=f a then(p.1,v) else p)) .nil λ{w e ws es} r' _ ih=>.cons ?_ ih
  refine(?_:(if e.1=f a then(e.1,v) else e).1=f (if w.1=a then(w.1,b) else w).1/\S (if w.1=a then(w.1,b) else w).2 (if e.1=f a then(e.1,v) else e).2)
  by_cases hd:w.1=a
  ·rw[bL hd,bL (by rw[r'.1,hd])];exact⟨r'.1,r⟩
  ·rw[bG hd,bG λq=>hd (hf _ _ (r'.1▸q))];exact r'
omit hf
theorem ux{a:A}:ic ws a=true↔a∈ws.map (·.1):=by
 unfold ic
 rw[nE,fj]
 exact⟨λ⟨p,h1,h2⟩=>⟨p,h1,cf h2⟩,λ⟨p,h1,h2⟩=>⟨p,h1,c9 h2⟩⟩
theorem IB(a:A)(b:B):(lR ws a b).map (·.1)=if ic ws a then ws.map (·.1) else ws.map (·.1)++[a]:=by
 unfold lR
 refine(?_:(if ic ws a=true then _ else _:List (A×B)).map _=_)
 split
 ·rw[map_map]
  exact List.map_congr_left λp Z=>by refine(?_:(if p.1=a then(p.1,b) else p).1=p.1);split<;>rfl
 ·rw[gx];rfl
theorem CS{a:A}{b:B}{p:A×B}(h:p∈lR ws a b):p∈ws\/p=(a,b):=by
 unfold lR at h
 split at h
 ·obtain⟨q,hq,e⟩:=fj.mp h
  split at e
  ·rename_i h1;exact .inr (by rw[<-e,h1])
  ·exact .inl (e▸hq)
 ·rcases cF.mp h with h|h
  ·exact .inl h
  ·exact .inr (cI.mp h)
omit [DecidableEq A] [DecidableEq K] in
theorem eU.keys{g:K->V}(h:eU f S ws es):es.map (λp=>g p.1)=(ws.map (·.1)).map λa=>g (f a):=h.rec (motive:=λws es Z=>es.map (λp=>g p.1)=(ws.map (·.1)).map λa=>g (f a)) rfl λr Z ih=>by
 rw[jF,jF,jF,ih,r.1]
omit [DecidableEq A] [DecidableEq K] in
theorem eU.imp{S':B->V->Prop}(h:eU f S ws es)(k:∀b v,S b v->S' b v):eU f S' ws es:=cz.imp h λZ Z r=>⟨r.1,k _ _ r.2⟩
end
theorem CT:∀(n:Nat) (l:List Nat),l.Nodup->(∀k∈l,k<n)->l.length<=n
 |0,l,_,h=>by
  cases l with
  |nil=>exact cg 0
  |cons a r=>exact absurd (h a cJ) (not_lt_zero a)
 |n+1,l,hn,h=>by
  have ih:=CT n (l.erase n) (hn.erase _) λk hk=>Nat.lt_of_le_of_ne (le_of_lt_succ (h k ((hn.mem_erase_iff).mp hk).2)) ((hn.mem_erase_iff).mp hk).1
  rw[List.length_erase] at ih
  split at ih<;>lia
abbrev St:=Nat×Bool
noncomputable abbrev sv(s:St):V:=.aC [nv s.1,.bool s.2]
noncomputable abbrev kz(s:St):Int×Bool:=((s.1:Int),s.2)
theorem uy(a b:St)(h:kz a=kz b):a=b:=Prod.ext (ofNat.inj (bU (λp:Int×Bool=>p.1) h)) (bU (λp:Int×Bool=>p.2) h)
noncomputable def xV(ps:List aH)(d:Int)(p:aH)(k:Nat)(down:Bool):List St:=(kids ps d k).map (λc=>(c,true))++(if down then[] else(iE p d).map λc=>(c,false))
section
variable{k:Nat}
theorem iF{α:Type}{g:α->V}{ws:List Nat}{test:bB->Hp->(Bool->Hp->Prop)->Prop}{elt:bB->Hp->PQ->Prop}{Q:List V->Hp->Prop}{d6:bB}{P:α->Bool}{F:α->V}:∀(as:List α) (o:Option V) (acc:List V),(∀a,a∈as->∀T:Bool->Hp->Prop,T (P a) H->test (some (g a)::d6) H T)->(∀a,a∈as->P a=true->∀N:PQ,N (F a) H->elt (some (g a)::d6) H N)->Q (acc++(as.filter P).map F) H->iQ ws H (.J 0) test elt (as.map g) (o::d6) H acc Q
 |[],o,acc,_,_,q=>by rw[filter_nil,map_nil,dO] at q;exact q
 |a::as,o,acc,ht,he,q=>by
  have st:fN ws H H=true:=iA.mpr λl Z=>c9 rfl
  refine au (a:=some (g a)::d6) rfl (ht a cJ _ ?_)
  rw[filter_cons] at q
  have go:∀acc',Q (acc'++(as.filter P).map F) H->iQ ws H (.J 0) test elt (as.map g) (some (g a)::d6) H acc' Q:=λacc'=>iF as _ acc' (λa ha=>ht a (.tail _ ha)) λa ha=>he a (.tail _ ha)
  cases hp:P a with
  |true=>
   rw[hp] at q
   exact he a cJ hp _ ⟨st,go _ (by rw[nF];exact q)⟩
  |false=>
   rw[hp] at q
   exact⟨st,go _ q⟩
theorem lS{α:Type}(l:List α):l.filter (λZ=>true)=l:=List.filter_eq_self.mpr λZ Z=>rfl
theorem SU{ps:List aH}(hW:dv ps)(hl:g7 ps)(hp:ps[k]?=some p)(down:Bool)(hA:H[l]?=some (.list (ps.map bQ)))(q:∀lc H',H.length<=lc->aA H H'->H'[lc]?=some (.list ((xV ps d p k down).map sv))->Q (.ref lc) H'):ay (n+3) 4 [.ref l,sv (k,down),.int d] H Q Y:=Rg (by
 have hk:=bM (ur hl (d:=d) (k:=k)) (show 20<16000000 by decide)
 refine b6 (xP (n:=n) hA hl.1 λlc H₁ hb x hc=>?_)
 apply au (cT hc)
 refine cM (cP (by rw[aS];exact hk)) (iF (P:=λZ=>true) (F:=λc=>sv (c,true)) _ _ _ (λa Z T h=>h) (λa Z Z N h=>h) ?_)
 rw[lS]
 have a1:=aZ H₁ (.list ((kids ps d k).map λc=>sv (c,true)))
 have h1:=aR hb (cO (cG hc))
 cases down with
 |true=>exact q _ _ h1 (x.trans (aA.aO _ _)) (by unfold xV;rw[map_append,map_map];refine(?_:_=some (bt.list (_++[])));rw[List.append_nil];exact a1)
 |false=>
  refine b6 (Cy (be _ (x _ _ hA)) hp ?_)
  have h2:=HY hW hp d
  refine cM (cP (by rw[aS];exact bM h2 (by decide))) (iF (P:=λZ=>true) (F:=λc=>sv (c,false)) _ _ _ (λa Z T h=>h) (λa Z Z N h=>h) ?_)
  rw[lS]
  refine lP (be _ a1) (aZ _ _) (by rw[bX,nil_append,aS,aS];exact bM (jG (ur hl) h2) (by decide)) ?_
  exact q _ _ (le_trans h1 (by rw[length_append,length_append,add_assoc];exact Nat.le_add_right _ _)) ((x.trans (aA.aO _ _)).trans ((aA.aO _ _).trans (aA.aO _ _))) (by rw[aZ];unfold xV;rw[map_append,map_map];refine(?_:_=some (bt.list (_++((iE p d).map λc=>(c,false)).map sv)));rw[map_map];rfl))
end
abbrev eY:=List (St×List Nat)
abbrev Kn:=List (St×Unit)
def fX(b:Nat)(H:Hp)(w:List Nat)(v:V):Prop:=∀LnAtζ:Prop,(∀(l:Nat) (hb:b<=l) (e:v=.ref l) (a:H[l]?=some (.list (aX w))),LnAtζ)->LnAtζ
theorem fX.mk{b:Nat}{w:List Nat}(l:Nat)(hb:b<=l)(e:v=.ref l)(a:H[l]?=some (.list (aX w))):fX b H w v:=λZ cm=>cm l hb e a
theorem fX.ext{b:Nat}{w:List Nat}(h:fX b H w v)(x:aA H H'):fX b H' w v:=h _ λl hb e a=>(.mk l hb e (x _ _ a))
theorem fX.set{b:Nat}{w:List Nat}{c:bt}(h:fX b H w v)(hf:H[lf]?=some c)(hc:∀vs,c≠.list vs)(x:bK lf H H'):fX b H' w v:=h _ λl hb e a=>(.mk l hb e (x l _ (λq=>hc _ (by rw[<-q] at hf;exact dA (hf.symm.trans a))) a))
noncomputable def sT(a b:List Nat):Bool:=mY (a.map λi:Nat=>(i:Int)) (b.map λi:Nat=>(i:Int))
noncomputable def kU(ws:eY)(s:St):List Nat:=(uw ws s).getD []
noncomputable def kP(kn:Kn)(way:List Nat)(found:eY)(o:St):eY:=if !ic kn o&&(!ic found o||sT (way++[o.1]) (kU found o)) then lR found o (way++[o.1]) else found
noncomputable def IC(ps:List aH)(d:Int)(s:St):List St:=match ps[s.1]? with
 |some p=>xV ps d p s.1 s.2
 |none=>[]
noncomputable def sU(ps:List aH)(d:Int)(kn:Kn)(ws:eY)(found:eY)(s:St):eY:=(IC ps d s).foldl (kP kn (kU ws s)) found
def mz(n L:Nat)(ks:List St)(ws:eY):Prop:=∀WOkζ:Prop,(∀(nd:(ks++ws.map (·.1)).Nodup) (rg:∀e∈ws,e.1.1<n) (ln:∀e∈ws,e.2.length<=L),WOkζ)->WOkζ
theorem mz.mk{ks:List St}{ws:eY}(nd:(ks++ws.map (·.1)).Nodup)(rg:∀e∈ws,e.1.1<n)(ln:∀e∈ws,e.2.length<=L):mz n L ks ws:=λZ cm=>cm nd rg ln
theorem SV{a b:St}(e:2*a.1+a.2.toNat=2*b.1+b.2.toNat):a=b:=by
 have h1:=toNat_le a.2
 have h2:=toNat_le b.2
 refine Prod.ext (by lia) ?_
 have e2:a.2.toNat=b.2.toNat:=by lia
 revert e2
 cases a.2<;>cases b.2<;>first|(intro;rfl)|(intro h;cases h)
theorem CU{l:List St}(h:l.Nodup)(hr:∀s∈l,s.1<n):l.length<=2*n:=by
 have h':(l.map λs:St=>2*s.1+s.2.toNat).Nodup:=Pairwise.map _ (λa b oW e=>oW (SV e)) h
 have:=CT (2*n) _ h' λk hk=>by
  obtain⟨s,hs,rfl⟩:=fj.mp hk
  have:=hr s hs
  have:=toNat_le s.2
  lia
 rw[aS] at this;exact this
theorem mz.len{ks:List St}{ws:eY}(h:mz n L ks ws):ws.length<=2*n:=h _ λnd rg Z=>by
 rw[<-aS (f:=(·.1))]
 exact CU (nodup_append.mp nd).2.1 λs hs=>(fj.mp hs).elim λe he=>he.2▸rg e he.1
theorem mz.put{ks:List St}{ws:eY}(h:mz n L ks ws){s:St}{w:List Nat}(hk:s∉ks)(hn:s.1<n)(hw:w.length<=L):mz n L ks (lR ws s w):=h _ λnd rg ln=>by
 refine(.mk (?_) (λe he=>(CS he).elim (rg e) λq=>by rw[q];exact hn) (λe he=>(CS he).elim (ln e) λq=>by rw[q];exact hw))
 rw[IB]
 split
 ·exact nd
 ·rename_i hs
  have hs:s∉ws.map (·.1):=λm=>hs (ux.mpr m)
  rw[<-nF]
  exact nodup_append.mpr ⟨nd,lF.mpr ⟨not_mem_nil,nodup_nil⟩,λa ha b hb e=>by
   rw[cI.mp hb] at e
   exact(cF.mp (e▸ha)).elim hk hs⟩
section
variable{k:Nat}
theorem z7{es:List ((Int×Bool)×V)}{s:St}(h:H[lw]?=some (.c6 ew es))(e:hU es (kz s)=some v):fF (.ref lw) (sv s) H=some v:=by
 refine(?_:((H[lw]?.bind mi).bind λes=>hU es (kz s))=_)
 rw[h];exact e
theorem ID{es:List ((Int×Bool)×V)}{s:St}(h:H[lw]?=some (.c6 ew es)):e7 .jH (sv s) (.ref lw) H=some (!gF es (kz s)):=by
 refine(?_:Option.map _ (match H[lw]?.bind iZ with|some es=>_|none=>_)=_)
 rw[h]
 refine(?_:Option.map _ (match H[lw]?.bind mi with|some es=>_|none=>_)=_)
 rw[h];rfl
theorem z8:∀l:List Nat,allInts (aX l)=some (l.map λi:Nat=>(i:Int))
 |[]=>rfl
 |a::r=>by
  refine(?_:((allInts (aX r)).map ((a:Int)::·))=_)
  rw[z8 r];rfl
theorem IE{b:Nat}{x y:List Nat}(ha:H[a]?=some (.list (aX x)))(hb:H[b]?=some (.list (aX y))):e7 .lt (.ref a) (.ref b) H=some (sT x y):=by
 refine(?_:(((eQ H (.ref a)).bind allInts).bind λp=>((eQ H (.ref b)).bind allInts).map λq=>mY p q)=_)
 rw[cC ha,cC hb]
 refine(?_:((allInts (aX x)).bind λp=>(allInts (aX y)).map λq=>mY p q)=_)
 rw[z8,z8];rfl
theorem IF{fs:List ((Int×Bool)×V)}{s:St}{k:Hp->Prop}(h:H[lf]?=some (.c6 ef fs))(hs:fs.length<16000000)(q:∀ep,k (H.set lf (.c6 ep (dput fs (kz s) v)))):sE (.ref lf) (sv s) v H k:=au h (cM (cP hs) q)
theorem CV{es:List ((Int×Bool)×V)}(h:H[lw]?=some (.c6 ew es)):keysOf H (.ref lw)=some (es.map λp=>mZ p.1):=by
 refine(?_:(match H[lw]?.bind iZ with|some es=>_|none=>_)=_)
 rw[h]
 refine(?_:(match H[lw]?.bind mi with|some es=>_|none=>_)=_)
 rw[h];rfl
end
def CW(ps:List aH)(F:eY->St->eY)(tot:eY)(ks:List St)(L b lf:Nat)(x0 x1 x2 x3:V)(H₁:Hp)(ss as:List St)(ρ:bB)(H':Hp):Prop:=∀FuIζ:Prop,(∀(o5 o6 o7:Option V) (ef:Nat) (fs:List ((Int×Bool)×V)) (found:eY) (e:ρ=[some x0,some x1,some x2,some x3,some (.ref lf),o5,o6,o7]) (x:bK lf H₁ H') (a:H'[lf]?=some (.c6 ef fs)) (dc:eU kz (fX b H') found fs) (ok:mz ps.length L ks found) (t:as.foldl F found=tot) (sV:∀s∈as,s∈ss),FuIζ)->FuIζ
theorem CW.mk{ps:List aH}{F:eY->St->eY}{tot:eY}{ks:List St}{b:Nat}{x0 x1 x2 x3:V}{ss as:List St}(o5 o6 o7:Option V)(ef:Nat)(fs:List ((Int×Bool)×V))(found:eY)(e:ρ=[some x0,some x1,some x2,some x3,some (.ref lf),o5,o6,o7])(x:bK lf H₁ H')(a:H'[lf]?=some (.c6 ef fs))(dc:eU kz (fX b H') found fs)(ok:mz ps.length L ks found)(t:as.foldl F found=tot)(sV:∀s∈as,s∈ss):CW ps F tot ks L b lf x0 x1 x2 x3 H₁ ss as ρ H':=λZ cm=>cm o5 o6 o7 ef fs found e x a dc ok t sV
def CX(ps:List aH)(F:eY->St->eY)(tot:eY)(ks:List St)(L b lf:Nat)(x0 x1 x2 x3 x5:V)(H₁:Hp)(as:List St)(ρ:bB)(H':Hp):Prop:=∀FvIζ:Prop,(∀(o6 o7:Option V) (ef:Nat) (fs:List ((Int×Bool)×V)) (found:eY) (e:ρ=[some x0,some x1,some x2,some x3,some (.ref lf),some x5,o6,o7]) (x:bK lf H₁ H') (a:H'[lf]?=some (.c6 ef fs)) (dc:eU kz (fX b H') found fs) (ok:mz ps.length L ks found) (t:as.foldl F found=tot) (sV:∀o∈as,o.1<ps.length),FvIζ)->FvIζ
theorem CX.mk{ps:List aH}{F:eY->St->eY}{tot:eY}{ks:List St}{b:Nat}{x0 x1 x2 x3 x5:V}{as:List St}(o6 o7:Option V)(ef:Nat)(fs:List ((Int×Bool)×V))(found:eY)(e:ρ=[some x0,some x1,some x2,some x3,some (.ref lf),some x5,o6,o7])(x:bK lf H₁ H')(a:H'[lf]?=some (.c6 ef fs))(dc:eU kz (fX b H') found fs)(ok:mz ps.length L ks found)(t:as.foldl F found=tot)(sV:∀o∈as,o.1<ps.length):CX ps F tot ks L b lf x0 x1 x2 x3 x5 H₁ as ρ H':=λZ cm=>cm o6 o7 ef fs found e x a dc ok t sV
section
variable{k:Nat}
theorem SW{ps:List aH}(hW:dv ps){d:Int}{p:aH}{k:Nat}(hp:ps[k]?=some p){down:Bool}:∀o∈xV ps d p k down,o.1<ps.length:=by
 intro o ho
 rcases cF.mp ho with h|h
 ·obtain⟨c,hc,rfl⟩:=fj.mp h
  exact jl.mp (lG.mp hc).1
 ·cases down with
  |true=>cases h
  |false=>
   obtain⟨c,hc,rfl⟩:=fj.mp (show o∈(iE p d).map λc=>(c,false) from h)
   exact(xQ hW hp d c hc).elim λq hq=>(dZ.mp hq.1).1
theorem SX{d:Int}{ps:List aH}(hW:dv ps)(hl:g7 ps){kn:Kn}{ws:eY}{ks es:List ((Int×Bool)×V)}{ek ew lk lw b L:Nat}(hL:L<=1000)(hA:H[l]?=some (.list (ps.map bQ)))(hK:H[lk]?=some (.c6 ek ks))(dk:eU kz (λ(_:Unit) _=>True) kn ks)(hY:H[lw]?=some (.c6 ew es))(dw:eU kz (fX b H) ws es)(hb:b<=H.length)(nd:(kn.map (·.1)).Nodup)(rg:∀e∈ws,e.1.1<ps.length)(ln:∀s,(kU ws s).length<=L)
  (q:∀lf ef fs H',aA H H'->H.length<=lf->H'[lf]?=some (.c6 ef fs)->eU kz (fX b H') ((ws.map (·.1)).foldl (sU ps d kn ws) []) fs->mz ps.length (L+1) (kn.map (·.1)) ((ws.map (·.1)).foldl (sU ps d kn ws) [])->Q (.ref lf) H'):ay (n+4) 5 [.ref l,.ref lk,.ref lw,.int d] H Q Y:=Rh (by
 have du:∀{m c},H[m]?=some c->m≠H.length:=λh=>eO (cG h)
 have CY:=be [.c6 0 []] hY
 apply au (CV CY)
 rw[dw.keys]
 refine fR (CW ps (sU ps d kn ws) ((ws.map (·.1)).foldl (sU ps d kn ws) []) (kn.map (·.1)) (L+1) b H.length (.ref l) (.ref lk) (.ref lw) (.int d) (H++[.c6 0 []]) (ws.map (·.1))) (λs as ρ H' h=>?_) (λρ H' h=>?_) _ _ _ (.mk none none none 0 [] [] rfl (bK.refl _ _) (aZ _ _) .nil (.mk (by rw[map_nil,dO];exact nd) (λZ h=>(nomatch h)) (λZ h=>(nomatch h))) rfl (λs h=>h))
 ·refine h _ λo5 o6 o7 ef fs found e x a dc ok t bs=>?_
  subst e
  refine λN hN=>?_
  have x':aA H H':=x.ext (aA.aO _ _) (cg _)
  refine(fj.mp (bs s cJ)).elim λe he=>(at_of (he.2▸rg e he.1:s.1<ps.length)).elim λp hp=>?_
  refine b6 (SU (n:=n) hW hl hp s.2 (x' _ _ hA) λlc H₂ CQ cq hc=>?_)
  refine(dw.get uy s (ux.mpr (bs s cJ))).elim λw hw=>hw.elim λwv hw=>?_
  apply au (cT hc)
  have IG:H.length<lc:=fh (cG a) CQ
  refine fR (CX ps (kP kn (kU ws s)) (sU ps d kn ws found s) (kn.map (·.1)) (L+1) b H.length (.ref l) (.ref lk) (.ref lw) (.int d) (sv s) H₂) (λo os ρ H₃ h=>?_) (λρ H₃ h=>?_) _ _ _ (.mk o6 o7 ef fs found rfl (bK.refl _ _) (cq _ _ a) (dc.imp λZ Z h=>h.ext cq) ok (by unfold sU IC;rw[hp]) (SW hW hp))
  ·refine h _ λo6 o7 ef fs found e cN a dc ok t bo=>?_
   subst e
   refine λN' j5=>?_
   have fG:aA H H₃:=cN.ext (x'.trans cq) (cg _)
   refine hw.2.2 _ λlv YS ev av=>?_
   subst ev
   have gw:kU ws s=w:=by unfold kU;rw[hw.1];rfl
   have j7:=ln s
   rw[gw] at j7 t
   have ho:=bo o cJ
   have II:∀o∈os,o.1<ps.length:=λo h=>bo o (.tail _ h)
   apply au (z7 (fG _ _ hY) hw.2.1)
   refine lP (be _ (fG _ _ av)) (aZ _ _) (by rw[bX,aS];exact bM (mS (aR j7 hL) _) (show 1000+1<16000000 by decide)) ?_
   have am:=aZ (H₃++[bt.list [nv o.1]]) (.list (aX w++[nv o.1]))
   rw[uo w o.1] at am ⊢
   generalize hm:(H₃++[bt.list [nv o.1]]).length=m at *
   have SY:b<=m:=by rw[<-hm];exact aR (aR hb fG.len) (by rw[bX];exact fM _ _)
   have iv:aA H₃ (H₃++[bt.list [nv o.1]]++[bt.list (aX (w++[o.1]))]):=(aA.aO _ _).trans (aA.aO _ _)
   generalize H₃++[bt.list [nv o.1]]++[bt.list (aX (w++[o.1]))]=H₄ at *
   have rM:=iv _ _ a
   have xW:eU kz (fX b H₄) found fs:=dc.imp λZ Z h=>h.ext iv
   rw[foldl_cons] at t
   have yes:(!ic kn o&&(!ic found o||sT (w++[o.1]) (kU found o)))=true->sE (.ref H.length) (sv o) (.ref m) H₄ (λH'=>N' [some (.ref l),some (.ref lk),some (.ref lw),some (.int d),some (.ref H.length),some (sv s),some (sv o),some (.ref m)] H'):=λmy=>by
    refine IF rM (by rw[cz.len xW];exact bM (aR ok.len (qO 2 hl.1)) (by decide)) λep=>?_
    have gI:=bK.set H.length H₄ (.c6 ep (dput fs (kz o) (.ref m)))
    refine j5 _ _ (dm hc (((cN.trans (iv.b _)).trans gI) _ _ (fE IG) hc)) (.mk _ _ ep _ (lR found o (w++[o.1])) rfl ((cN.trans (iv.b _)).trans gI) (eX rM _) (?_) (ok.put ?_ ho (by rw[bX];exact lE j7)) (?_) II)
    ·exact eU.put uy (xW.imp λZ Z h=>h.set rM (λvs h=>nomatch h) gI) ((fX.mk m SY rfl am:fX b H₄ (w++[o.1]) (.ref m)).set rM (λvs h=>nomatch h) gI)
    ·exact λhm=>absurd (ux.mpr hm) (by rw[Bool.not_eq_true];exact(jj _).mp (eJ.mp my).1)
    ·rw[show kP kn w found o=lR found o (w++[o.1]) from bL my] at t;rw[gw];exact t
   have no:(!ic kn o&&(!ic found o||sT (w++[o.1]) (kU found o)))=false->N' [some (.ref l),some (.ref lk),some (.ref lw),some (.int d),some (.ref H.length),some (sv s),some (sv o),some (.ref m)] H₄:=λmy=>
    j5 _ _ (dm hc ((cN.trans (iv.b _)) _ _ (fE IG) hc)) (.mk _ _ ef fs found rfl (cN.trans (iv.b _)) rM xW ok (by rw[show kP kn w found o=found from bG (by rw[my];decide)] at t;rw[gw];exact t) II)
   apply au (ID (s:=o) (iv _ _ (fG _ _ hK)))
   rw[dk.has uy]
   refine fC (λh1=>?_) λh1=>e8 h1 (no (by rw[h1];rfl))
   rw[h1,Bool.true_and] at yes no
   apply au (ID (s:=o) rM)
   rw[xW.has uy]
   refine fD (λh2=>?_) λh2=>ey h2 (yes (by rw[h2];rfl))
   rw[h2,Bool.false_or] at yes no
   refine(xW.get uy o (iB .. |>.mp h2)).elim λw' lT=>lT.elim λSZ lT=>?_
   have S5:kU found o=w':=by unfold kU;rw[lT.1];rfl
   rw[S5] at yes no
   apply au (z7 rM lT.2.1)
   refine lT.2.2 _ λYT Z S6 S7=>?_
   subst S6
   apply au (IE am S7)
   exact cb yes no
  ·refine h _ λo6 o7 ef fs found' e cN a dc ok t' bo=>?_
   subst e
   rw[foldl_nil] at t'
   subst t'
   have fG:=(cq.b H.length).trans cN
   exact hN _ _ (dm CY ((x.trans fG) _ _ (du hY) CY)) (.mk _ _ _ ef fs _ rfl (x.trans fG) a dc ok t (λs hs=>bs s (.tail _ hs)))
 ·refine h _ λo5 o6 o7 ef fs found e x a dc ok t bs=>?_
  subst e
  rw[foldl_nil] at t
  subst t
  exact q _ ef fs _ (x.ext (aA.aO _ _) (cg _)) (cg _) a dc ok)
end
abbrev Hr:=List (Nat×List Nat)
noncomputable abbrev hz(k:Nat):Int:=(k:Int)
theorem z9(a b:Nat)(h:hz a=hz b):a=b:=ofNat.inj h
noncomputable def oj(hp:Hr)(h:Nat):List Nat:=(uw hp h).getD []
noncomputable def sW(ps:List aH)(d:Int)(k:Nat)(ws:eY)(hp:Hr)(s:St):Hr:=if sS k s.1&&(lv ps d s.1&&(!ic hp s.1||sT (kU ws s) (oj hp s.1))) then lR hp s.1 (kU ws s) else hp
noncomputable def jx(kn:Kn)(ws:eY):Kn:=kn++ws.map λe=>(e.1,())
noncomputable def uz(ps:List aH)(d:Int)(kn:Kn)(ws:eY):eY:=(ws.map (·.1)).foldl (sU ps d kn ws) []
noncomputable def sX(ps:List aH)(d:Int)(k:Nat):Nat->Kn->eY->Hr->Hr
 |0,_,_,h=>h
 |f+1,kn,ws,h=>if h.isEmpty&&!ws.isEmpty then sX ps d k f (jx kn ws) (uz ps d (jx kn ws) ws) (((uz ps d (jx kn ws) ws).map (·.1)).foldl (sW ps d k (uz ps d (jx kn ws) ws)) h) else h
noncomputable def vS(l:List Nat):List Nat:=l.mergeSort λa b=>decide (a<=b)
noncomputable def ol(ps:List aH)(d:Int)(k:Nat):List (Nat×List Nat):=(vS ((sX ps d k 121 [] [((k,false),[k])] []).map (·.1))).map λh=>(h,oj (sX ps d k 121 [] [((k,false),[k])] []) h)
def CZ(b:Nat)(H:Hp)(p:Nat×List Nat)(v:V):Prop:=∀NrAtζ:Prop,(∀(l:Nat) (hb:b<=l) (e:v=.aC [nv p.1,.ref l]) (a:H[l]?=some (.list (aX p.2))),NrAtζ)->NrAtζ
theorem CZ.mk{b:Nat}{p:Nat×List Nat}(l:Nat)(hb:b<=l)(e:v=.aC [nv p.1,.ref l])(a:H[l]?=some (.list (aX p.2))):CZ b H p v:=λZ cm=>cm l hb e a
theorem S8{l:List Nat}{js:List Int}(h:js.Perm (l.map hz))(hs:js.Pairwise (·<=·)):js=(vS l).map hz:=SQ (h.trans ((List.mergeSort_perm l _).map hz).symm) hs (by
 have:=List.pairwise_mergeSort (le:=λa b:Nat=>decide (a<=b)) (λa b c h1 h2=>c9 (aR (cf h1) (cf h2))) (λa b=>by rw[Bool.or_eq_true];exact(Nat.le_total a b).imp (λh=>c9 h) λh=>c9 h) l
 exact Pairwise.map _ (λa b h=>ofNat_le.mpr (cf h)) this)
def om(n:Nat)(hp:Hr):Prop:=∀HOkζ:Prop,(∀(nd:(hp.map (·.1)).Nodup) (rg:∀h∈hp.map (·.1),h<n) (ln:∀e∈hp,e.2.length<=122),HOkζ)->HOkζ
theorem om.mk{hp:Hr}(nd:(hp.map (·.1)).Nodup)(rg:∀h∈hp.map (·.1),h<n)(ln:∀e∈hp,e.2.length<=122):om n hp:=λZ cm=>cm nd rg ln
theorem om.len{hp:Hr}(h:om n hp):hp.length<=n:=h _ λnd rg Z=>by rw[<-aS (f:=(·.1))];exact CT n _ nd rg
theorem om.put{hp:Hr}(h:om n hp){k:Nat}{w:List Nat}(hk:k<n)(hw:w.length<=122):om n (lR hp k w):=h _ λnd rg ln=>by
 refine(.mk (?_) (?_) (λe he=>(CS he).elim (ln e) λq=>by rw[q];exact hw))<;>rw[IB]<;>split
 ·exact nd
 ·rename_i hs
  exact nodup_append.mpr ⟨nd,lF.mpr ⟨not_mem_nil,nodup_nil⟩,λa ha b hb e=>by
   rw[cI.mp hb] at e
   exact hs (ux.mpr (e▸ha))⟩
 ·exact rg
 ·intro h hh
  exact(cF.mp hh).elim (rg h) λq=>by rw[cI.mp q];exact hk
section
variable{k:Nat}
theorem IJ{es:List (Int×V)}{s:Nat}(h:H[lw]?=some (.dict ew es))(e:hU es (hz s)=some v):fF (.ref lw) (nv s) H=some v:=by
 refine(?_:(match H[lw]?.bind so with|some vs=>nK vs (s:Int)|none=>(H[lw]?.bind iZ).bind λes=>hU es (hz s))=_)
 rw[h];exact e
theorem S9{es:List (Int×V)}{s:Nat}(h:H[lw]?=some (.dict ew es)):e7 .jH (nv s) (.ref lw) H=some (!gF es (hz s)):=by
 refine(?_:Option.map _ (match H[lw]?.bind iZ with|some es=>_|none=>_)=_)
 rw[h];rfl
theorem Ta{fs:List (Int×V)}{s:Nat}{k:Hp->Prop}(h:H[lf]?=some (.dict ef fs))(hs:fs.length<16000000)(q:∀ep,k (H.set lf (.dict ep (dput fs (hz s) v)))):sE (.ref lf) (nv s) v H k:=au h (cM (cP hs) q)
theorem Tb{b:Nat}{es:List (Int×V)}(h:H[a]?=some (.dict ea es))(h':H[b]?=some (.dict 0 [])):e7 .eq (.ref a) (.ref b) H=some es.isEmpty:=by
 refine(?_:kO H (.ref a) (.ref b)=_)
 have e1:ml H (.ref a)=some es.isEmpty:=by
  refine(?_:(match H[a]?.bind iZ with|some es=>some es.isEmpty|none=>_)=_)
  rw[h];rfl
 have e2:ml H (.ref b)=some true:=by
  refine(?_:(match H[b]?.bind iZ with|some es=>some es.isEmpty|none=>_)=_)
  rw[h'];rfl
 unfold kO
 rw[e1,e2]
 refine(?_:(if(es.isEmpty||true)=true then some (es.isEmpty&&true) else none)=_)
 rw[Bool.or_true,Bool.and_true];rfl
theorem Tc{b:Nat}{es:List ((Int×Bool)×V)}(h:H[a]?=some (.c6 ea es))(h':H[b]?=some (.dict 0 [])):e7 .ne (.ref a) (.ref b) H=some (!es.isEmpty):=by
 refine(?_:(kO H (.ref a) (.ref b)).map _=_)
 have e1:ml H (.ref a)=some es.isEmpty:=by
  refine(?_:(match H[a]?.bind iZ with|some es=>_|none=>(H[a]?.bind mi).map List.isEmpty)=_)
  rw[h];rfl
 have e2:ml H (.ref b)=some true:=by
  refine(?_:(match H[b]?.bind iZ with|some es=>some es.isEmpty|none=>_)=_)
  rw[h'];rfl
 unfold kO
 rw[e1,e2]
 refine(?_:(if(es.isEmpty||true)=true then some (es.isEmpty&&true) else none).map _=_)
 rw[Bool.or_true,Bool.and_true];rfl
theorem Td{es:List (Int×V)}(h:H[a]?=some (.dict ea es)):copyOf H (.ref a)=some (es.map λp=>.int p.1):=by
 refine(?_:(match H[a]?.bind iZ with|some es=>_|none=>_)=_)
 rw[h];rfl
theorem zh{ls:List Nat}(h:H[a]?=some (.list (aX ls))):kN H (.ref a)=some (ls.map hz):=by
 refine(?_:(eQ H (.ref a)).bind allInts=_)
 rw[cC h];exact z8 ls
theorem IK{α β:Type}{R:α->β->Prop}{as:List α}{bs:List β}(h:cz R as bs):bs.isEmpty=as.isEmpty:=h.casesOn rfl λZ Z=>rfl
theorem Te{A B:Type}[DecidableEq A]{ws:List (A×B)}{a:A}{b:B}(h:ic ws a=false):lR ws a b=ws++[(a,b)]:=bG (by rw[show(ws.any λp=>decide (p.1=a))=false from h];decide)
end
def C0(ps:List aH)(d:Int)(k l:Nat)(tot:Hr)(H:Hp)(f:Nat)(ρ:bB)(H':Hp):Prop:=∀NeIζ:Prop,(∀(o6 o7:Option V) (lw lk lh ew ek eh:Nat) (es ks:List ((Int×Bool)×V)) (hs:List (Int×V)) (kn:Kn) (ws:eY) (hp:Hr) (L:Nat) (e:ρ=[some (.ref l),some (nv k),some (.int d),some (.ref lw),some (.ref lk),some (.ref lh),o6,o7]) (x:aA H H') (bk:H.length<=lk) (bh:H.length<=lh) (ne:lw≠lk) (aw:H'[lw]?=some (.c6 ew es)) (ak:H'[lk]?=some (.c6 ek ks)) (ah:H'[lh]?=some (.dict eh hs)) (dw:eU kz (fX H.length H') ws es) (dk:eU kz (λ(_:Unit) _=>True) kn ks) (dh:eU hz (fX H.length H') hp hs) (ok:mz ps.length L (kn.map (·.1)) ws) (kr:∀s∈kn.map (·.1),s.1<ps.length) (oh:om ps.length hp) (hf:2*ps.length<f+kn.length) (hL:L+f=122) (t:sX ps d k f kn ws hp=tot),NeIζ)->NeIζ
theorem C0.mk{ps:List aH}{k:Nat}{tot:Hr}(o6 o7:Option V)(lw lk lh ew ek eh:Nat)(es ks:List ((Int×Bool)×V))(hs:List (Int×V))(kn:Kn)(ws:eY)(hp:Hr)(L:Nat)(e:ρ=[some (.ref l),some (nv k),some (.int d),some (.ref lw),some (.ref lk),some (.ref lh),o6,o7])(x:aA H H')(bk:H.length<=lk)(bh:H.length<=lh)(ne:lw≠lk)(aw:H'[lw]?=some (.c6 ew es))(ak:H'[lk]?=some (.c6 ek ks))(ah:H'[lh]?=some (.dict eh hs))(dw:eU kz (fX H.length H') ws es)(dk:eU kz (λ(_:Unit) _=>True) kn ks)(dh:eU hz (fX H.length H') hp hs)(ok:mz ps.length L (kn.map (·.1)) ws)(kr:∀s∈kn.map (·.1),s.1<ps.length)(oh:om ps.length hp)(hf:2*ps.length<f+kn.length)(hL:L+f=122)(t:sX ps d k f kn ws hp=tot):C0 ps d k l tot H f ρ H':=λZ cm=>cm o6 o7 lw lk lh ew ek eh es ks hs kn ws hp L e x bk bh ne aw ak ah dw dk dh ok kr oh hf hL t
def oU(tot:Kn)(lk:Nat)(x0 x1 x2 x3 x5 x7:Option V)(H₁:Hp)(as:List St)(ρ:bB)(H':Hp):Prop:=∀KnIζ:Prop,(∀(o6:Option V) (ek:Nat) (ks:List ((Int×Bool)×V)) (kd:Kn) (e:ρ=[x0,x1,x2,x3,some (.ref lk),x5,o6,x7]) (x:bK lk H₁ H') (a:H'[lk]?=some (.c6 ek ks)) (dk:eU kz (λ(_:Unit) _=>True) kd ks) (t:kd++as.map (λs=>(s,()))=tot),KnIζ)->KnIζ
theorem oU.mk{tot:Kn}{lk:Nat}{x7:Option V}{as:List St}(o6:Option V)(ek:Nat)(ks:List ((Int×Bool)×V))(kd:Kn)(e:ρ=[x0,x1,x2,x3,some (.ref lk),x5,o6,x7])(x:bK lk H₁ H')(a:H'[lk]?=some (.c6 ek ks))(dk:eU kz (λ(_:Unit) _=>True) kd ks)(t:kd++as.map (λs=>(s,()))=tot):oU tot lk x0 x1 x2 x3 x5 x7 H₁ as ρ H':=λZ cm=>cm o6 ek ks kd e x a dk t
def C1(ps:List aH)(F:Hr->St->Hr)(tot:Hr)(b lh:Nat)(x0 x1 x2 x3 x4:Option V)(H₁:Hp)(ss as:List St)(ρ:bB)(H':Hp):Prop:=∀HeIζ:Prop,(∀(o6 o7:Option V) (eh:Nat) (hs:List (Int×V)) (hp:Hr) (e:ρ=[x0,x1,x2,x3,x4,some (.ref lh),o6,o7]) (x:bK lh H₁ H') (a:H'[lh]?=some (.dict eh hs)) (dh:eU hz (fX b H') hp hs) (oh:om ps.length hp) (t:as.foldl F hp=tot) (sV:∀s∈as,s∈ss),HeIζ)->HeIζ
theorem C1.mk{ps:List aH}{F:Hr->St->Hr}{tot:Hr}{b:Nat}{ss as:List St}(o6 o7:Option V)(eh:Nat)(hs:List (Int×V))(hp:Hr)(e:ρ=[x0,x1,x2,x3,x4,some (.ref lh),o6,o7])(x:bK lh H₁ H')(a:H'[lh]?=some (.dict eh hs))(dh:eU hz (fX b H') hp hs)(oh:om ps.length hp)(t:as.foldl F hp=tot)(sV:∀s∈as,s∈ss):C1 ps F tot b lh x0 x1 x2 x3 x4 H₁ ss as ρ H':=λZ cm=>cm o6 o7 eh hs hp e x a dh oh t sV
theorem IL{ws:eY}(h:∀e∈ws,e.2.length<=L)(s:St):(kU ws s).length<=L:=by
 unfold kU uw
 cases hf:ws.find? λp=>decide (p.1=s) with
 |none=>exact gu _
 |some e=>exact h e (List.mem_of_find?_eq_some hf)
theorem IM(kn:Kn)(ws:eY):(jx kn ws).map (·.1)=kn.map (·.1)++ws.map (·.1):=by
 unfold jx;rw[map_append,map_map];rfl
theorem IP{α β γ:Type}{R:β->γ->Prop}{f:α->β}{g:α->γ}:∀l:List α,(∀a∈l,R (f a) (g a))->cz R (l.map f) (l.map g)
 |[],_=>.nil
 |a::r,h=>.cons (h a cJ) (IP r λa ha=>h a (.tail _ ha))
def IQ(H:Hp)(ns:List (Nat×List Nat))(Q:PQ):Prop:=∀lr vs H',ns.length<=60->(∀e∈ns,e.2.length<=122)->H.length<=lr->aA H H'->H'[lr]?=some (.list vs)->cz (CZ H.length H') ns vs->Q (.ref lr) H'
section
variable{k:Nat}
noncomputable abbrev Tf:S:=.aN (.J 7) (iI 6 0)
noncomputable abbrev Tg:S:=.br (.and [(.cmp .ne (.J 7) (.J 1)),(.call 0 [.J 0,.J 7,.J 2]),(.or [(.cmp .jH (.J 7) (.J 5)),(.cmp .lt (.aP (.J 3) (.J 6)) (.aP (.J 5) (.J 7)))])])
    [.kK (.J 5) (.J 7) (.aP (.J 3) (.J 6))]
    []
theorem Th{d:Int}{ps:List aH}{lf lk lh ef eh b:Nat}{fs:List ((Int×Bool)×V)}{hs:List (Int×V)}{hp:Hr}{s:St}{p':aH}{w:List Nat}{wv:V}{o7:Option V}{K:Out->Prop}{N:bB->Hp->Prop}(hA:H[l]?=some (.list (ps.map bQ)))(dB:ps[s.1]?=some p')(af:H[lf]?=some (.c6 ef fs))(fw:hU fs (kz s)=some wv)(ah:H[lh]?=some (.dict eh hs))(dh:eU hz (fX b H) hp hs)(lw:fX b H w wv)(sm:hs.length<16000000)
  (yes:(sS k s.1&&(d7 p' d&&(!ic hp s.1||sT w (oj hp s.1))))=true->∀ep,N [some (.ref l),some (nv k),some (.int d),some (.ref lf),some (.ref lk),some (.ref lh),some (sv s),some (nv s.1)] (H.set lh (.dict ep (dput hs (hz s.1) wv))))
  (no:(sS k s.1&&(d7 p' d&&(!ic hp s.1||sT w (oj hp s.1))))=false->N [some (.ref l),some (nv k),some (.int d),some (.ref lf),some (.ref lk),some (.ref lh),some (sv s),some (nv s.1)] H) :
  aG ⟨ay (n+4),Y⟩ [Tf,Tg] [some (.ref l),some (nv k),some (.int d),some (.ref lf),some (.ref lk),some (.ref lh),some (sv s),o7] H (oO K N):=by
 have yes:(sS k s.1&&(d7 p' d&&(!ic hp s.1||sT w (oj hp s.1))))=true->aI (fF (.ref lf) (sv s) H) λv=>sE (.ref lh) (nv s.1) v H λH'=>N [some (.ref l),some (nv k),some (.int d),some (.ref lf),some (.ref lk),some (.ref lh),some (sv s),some (nv s.1)] H':=λhc=>au (z7 af fw) (Ta ah sm (yes hc))
 refine(?_:bz (sS k s.1==true) _ _)
 refine fC (λh1=>?_) λh1=>e8 h1 (no (by rw[h1];rfl))
 rw[h1,Bool.true_and] at yes no
 refine b6 (nX hA dB ?_)
 refine(?_:bz (d7 p' d==true) _ _)
 refine fC (λh2=>?_) λh2=>e8 h2 (no (by rw[h2];rfl))
 rw[h2,Bool.true_and] at yes no
 apply au (S9 (s:=s.1) ah)
 rw[dh.has z9]
 refine fD (λh3=>?_) λh3=>ey h3 (yes (by rw[h3];rfl))
 rw[h3,Bool.false_or] at yes no
 refine(dh.get z9 s.1 (iB .. |>.mp h3)).elim λw' lT=>lT.elim λSZ lT=>?_
 rw[show oj hp s.1=w' by unfold oj;rw[lT.1];rfl] at yes no
 apply au (z7 af fw)
 apply au (IJ ah lT.2.1)
 refine lw _ λla Z ea aa=>?_
 refine lT.2.2 _ λlb Z eb ab=>?_
 rw[ea,eb]
 apply au (IE aa ab)
 exact cb yes no
theorem Ti{ps:List aH}{hs:List (Int×V)}{hp:Hr}(hl:ps.length<=60)(x:aA H H')(ah:H'[lh]?=some (.dict eh hs))(dh:eU hz (fX H.length H') hp hs)(oh:om ps.length hp)(q:IQ H ((vS (hp.map (·.1))).map λh=>(h,oj hp h)) Q):aG ⟨ay (n+4),Y⟩ (yI.drop 4) [some (.ref l),some (nv k),some (.int d),o3,o4,some (.ref lh),o6,o7] H' (bD Q):=by
 have fB:(hp.map (·.1)).length<=60:=by rw[aS];exact aR oh.len hl
 apply au (Td ah)
 rw[dh.keys (g:=V.int)]
 refine cM (cP (by rw[aS];exact bM fB (by decide))) ?_
 apply au (zh (ls:=hp.map (·.1)) (aZ _ _))
 refine And.intro (by rw[aS];exact bM fB (by decide)) λjs hj nU=>?_
 rw[S8 hj nU]
 apply au (cT (aZ _ _))
 have uA:(vS (hp.map (·.1))).length<=60:=aR (iX (List.mergeSort_perm _ _).length_eq) fB
 refine cM (cP (by rw[aS,aS];exact bM uA (by decide))) ?_
 refine(?_:iQ _ _ _ _ _ (((vS (hp.map (·.1))).map hz).map V.int) _ _ _ _)
 rw[map_map]
 have get:∀h∈vS (hp.map (·.1)),∃v,hU hs (hz h)=some v/\fX H.length H' (oj hp h) v:=λh hh=>(dh.get z9 h (ux.mpr ((List.mergeSort_perm _ _).mem_iff.mp hh))).elim λw hw=>hw.elim λv hv=>⟨v,hv.2.1,by unfold oj;rw[hv.1];exact hv.2.2⟩
 refine iF (P:=λZ=>true) (F:=λh=>.aC [nv h,(hU hs (hz h)).getD .none]) _ _ _ (λa Z T h=>h) (λh hh Z N hN=>(get h hh).elim λv hv=>?_) ?_
 ·refine au (IJ (be _ (be _ ah)) hv.1) ?_
  rw[hv.1] at hN
  exact hN
 ·rw[lS]
  have xx:∀a b c:List bt,aA H' (H'++a++b++c):=λa b c=>(aA.aO H' a).trans ((aA.aO _ b).trans (aA.aO _ c))
  refine q _ _ _ (by rw[aS];exact uA) (λe he=>(fj.mp he).elim λh hh=>hh.2▸?_) (x.trans ((aA.aO H' _).trans (aA.aO _ _))).len (x.trans (xx _ _ _)) (aZ _ _) ?_
  ·refine(?_:(oj hp h).length<=122)
   unfold oj uw
   cases hf:hp.find? λp=>decide (p.1=h) with
   |none=>exact gu _
   |some e=>exact oh _ λZ Z ln=>ln e (List.mem_of_find?_eq_some hf)
  ·exact IP _ λh hh=>(get h hh).elim λv hv=>hv.2 _ λlv hb ev av=>(.mk lv hb (by rw[hv.1,ev];rfl) (xx _ _ _ _ _ av))
theorem Tl{ps:List aH}(hW:dv ps)(hl:g7 ps)(hp:ps[k]?=some p)(hA:H[l]?=some (.list (ps.map bQ)))(q:IQ H (ol ps d k) Q):ay (n+5) 6 [.ref l,nv k,.int d] H Q Y:=Ri (by
 have Tn:=(dZ.mp hp).1
 have YU:=hl.1
 refine And.intro (be _ (aZ _ _)) λep=>?_
 generalize C2:(H++[bt.c6 0 []]++[bt.list [nv k]]).set H.length (.c6 ep [(kz (k,false),.ref (H++[bt.c6 0 []]).length)])=H₂
 have cq:aA H H₂:=by rw[<-C2];exact((aA.aO _ _).trans (aA.aO _ _)).set (cg _) _
 have mx:H₂[H.length]?=some (.c6 ep [(kz (k,false),.ref (H++[bt.c6 0 []]).length)]):=by rw[<-C2];exact eX (be _ (aZ _ _)) _
 have IR:H.length<(H++[bt.c6 0 []]).length:=by rw[bX];exact lt_succ_self _
 have To:H₂[(H++[bt.c6 0 []]).length]?=some (.list (aX [k])):=by rw[<-C2];exact d9 (aZ _ _) _ (eO IR)
 have len₂:=cG mx
 have cN:aA H₂ (H₂++[bt.c6 0 []]++[bt.dict 0 []]):=(aA.aO _ _).trans (aA.aO _ _)
 refine Cu (C0 ps d k l (sX ps d k 121 [] [((k,false),[k])] []) H) (λf ρ H' h T ht vN=>?_) _ 121 _ _ (show 121<(k:Int).natAbs+(d.natAbs+1000) by lia) (.mk none none H.length H₂.length ((H₂++[bt.c6 0 []]).length) ep 0 0 _ [] [] [] [((k,false),[k])] [] 1 rfl (cq.trans cN) (cO len₂) (aR (cO len₂) (by rw[bX];exact fM _ _)) (eO len₂) (cN _ _ mx) (be _ (aZ _ _)) (aZ _ _) (.cons ⟨rfl,(.mk _ (cO IR) rfl (cN _ _ To))⟩ .nil) .nil .nil (.mk (lF.mpr ⟨not_mem_nil,nodup_nil⟩) (λe he=>by rw[cI.mp he];exact Tn) (λe he=>by rw[cI.mp he];exact cg 1)) (λs h=>(nomatch h)) (.mk nodup_nil (λs h=>(nomatch h)) (λs h=>(nomatch h))) (by refine(?_:2*ps.length<121+0);lia) rfl rfl)
 refine h _ λo6 o7 lw lk lh ew ek eh es ks hs kn ws hp L e x bk bh ne aw ak ah dw dk dh ok kr oh hf hL t=>?_
 subst e
 have done:hp=sX ps d k 121 [] [((k,false),[k])] []->∀H'',aA H' H''->aG ⟨ay (n+4),Y⟩ (yI.drop 4) [some (.ref l),some (nv k),some (.int d),some (.ref lw),some (.ref lk),some (.ref lh),o6,o7] H'' (bD Q):=λtS H'' qy=>Ti hl.1 (x.trans qy) (qy _ _ ah) (dh.imp λZ Z h=>h.ext qy) oh (by unfold ol at q;rw[<-tS] at q;exact q)
 cases f with
 |zero=>exact absurd (CU (ok _ λnd Z Z=>(nodup_append.mp nd).1) kr) (by rw[aS];lia)
 |succ f=>
  have t':(if hp.isEmpty&&!ws.isEmpty then sX ps d k f (jx kn ws) (uz ps d (jx kn ws) ws) (((uz ps d (jx kn ws) ws).map (·.1)).foldl (sW ps d k (uz ps d (jx kn ws) ws)) hp) else hp)=_:=t
  apply au (Tb (be [.dict 0 []] ah) (aZ H' (.dict 0 [])))
  rw[IK dh]
  refine fC (λh1=>?_) λh1=>?_
  ·apply au (Tc (be _ (be [.dict 0 []] aw)) (aZ _ _))
   rw[IK dw]
   rw[h1,Bool.true_and] at t'
   refine(?_:T (!ws.isEmpty) _)
   cases hw:!ws.isEmpty with
   |false=>
    rw[hw] at t'
    exact vN _ (done t' _ ((aA.aO _ _).trans (aA.aO _ _)))
   |true=>
    rw[hw] at t'
    refine ht _ λN hN=>?_
    have xb:aA H' (H'++[bt.dict 0 []]++[bt.dict 0 []]):=(aA.aO _ _).trans (aA.aO _ _)
    generalize H'++[bt.dict 0 []]++[bt.dict 0 []]=Hb at xb ⊢
    have Aa:=xb _ _ aw
    have Ab:((jx kn ws).map (·.1)).Nodup:=by rw[IM];exact ok _ λnd Z Z=>nd
    have IS:∀s∈(jx kn ws).map (·.1),s.1<ps.length:=by
     rw[IM]
     exact λs hs=>(cF.mp hs).elim (kr s) λh=>(fj.mp h).elim λe he=>he.2▸ok _ λZ rg Z=>rg e he.1
    have len2:(jx kn ws).length<=120:=by rw[<-aS (f:=(·.1))];exact aR (CU Ab IS) (qO 2 hl.1)
    have nkh:lh≠lk:=λe=>by rw[e,ak] at ah;cases ah
    apply au (CV Aa)
    rw[dw.keys]
    refine fR (oU (jx kn ws) lk (some (.ref l)) (some (nv k)) (some (.int d)) (some (.ref lw)) (some (.ref lh)) o7 Hb) (λs as ρ H₃ h=>?_) (λρ H₃ h=>?_) _ _ _ (.mk o6 ek ks kn rfl (bK.refl _ _) (xb _ _ ak) dk (by unfold jx;rw[map_map];rfl))
    ·refine h _ λo6 ek ks kd e x3 a dk t=>?_
     subst e
     refine λN' j5=>?_
     have hs:ic kd s=false:=by
      cases h:ic kd s with
      |false=>rfl
      |true=>
       rw[<-t,gx] at Ab
       exact absurd rfl ((nodup_append.mp Ab).2.2 s (ux.mp h) s cJ)
     exact IF a (by rw[cz.len dk];exact qt t (aR len2 (by decide))) λep=>j5 _ _ (dm Aa ((x3.trans (bK.set _ _ _)) _ _ ne Aa)) (.mk _ ep _ (kd++[(s,())]) rfl (x3.trans (bK.set _ _ _)) (eX a _) (by rw[<-Te hs];exact eU.put uy dk trivial) (gh t))
    ·refine h _ λo6 ek ks kd e x3 a dk t=>?_
     subst e
     rw[map_nil,dO] at t
     subst t
     have xH3:aA H H₃:=x3.ext (x.trans xb) bk
     have up:∀{w v},fX H.length H' w v->fX H.length H₃ w v:=λh=>(h.ext xb).set (xb _ _ ak) (λvs h=>nomatch h) x3
     refine ok _ λnd rg ln=>?_
     refine b6 (SX (n:=n) hW hl (L:=L) (aR (aR (fM L _) (iX hL)) (by decide)) (xH3 _ _ hA) a dk (x3 _ _ ne Aa) (dw.imp λZ Z h=>up h) xH3.len Ab rg (IL ln) λlf ef fs H₄ fG blf af df okf=>?_)
     generalize Tp:(List.map (·.1) ws).foldl (sU ps d (jx kn ws) ws) []=W at df okf
     rw[show uz ps d (jx kn ws) ws=W from Tp] at t'
     have x4H:=xH3.trans fG
     apply au (CV af)
     rw[df.keys]
     have klt:=fh (cG a) blf
     refine fR (C1 ps (sW ps d k W) ((W.map (·.1)).foldl (sW ps d k W) hp) H.length lh (some (.ref l)) (some (nv k)) (some (.int d)) (some (.ref lf)) (some (.ref lk)) H₄ (W.map (·.1))) (λs as ρ H₅ h=>?_) (λρ H₅ h=>?_) _ _ _ (.mk o6 o7 eh hs hp rfl (bK.refl _ _) (fG _ _ (x3 _ _ nkh (xb _ _ ah))) (dh.imp λZ Z h=>(up h).ext fG) oh rfl (λs h=>h))
     ·refine h _ λo6 o7 eh hs hp e x5 uB vT oh t bs=>?_
      subst e
      refine λN' j5=>?_
      have sI:s.1<ps.length:=(fj.mp (bs s cJ)).elim λe he=>he.2▸okf _ λZ rg Z=>rg e he.1
      refine(at_of sI).elim λp' dB=>?_
      have x5H:aA H H₅:=x5.ext x4H bh
      have nfh:lf≠lh:=λe=>by rw[e,fG _ _ (x3 _ _ nkh (xb _ _ ah))] at af;cases af
      have IT:=x5 _ _ nfh af
      have st:∀c,fN [lf] H₄ (H₅.set lh c)=true:=λc=>dm af ((x5.trans (bK.set _ _ c)) _ _ nfh af)
      refine(df.get uy s (ux.mpr (bs s cJ))).elim λw hw=>hw.elim λwv hw=>?_
      have gw:kU W s=w:=by unfold kU;rw[hw.1];rfl
      have IU:fX H.length H₅ w wv:=hw.2.2.set (fG _ _ (x3 _ _ nkh (xb _ _ ah))) (λvs h=>nomatch h) x5
      rw[foldl_cons] at t
      have rt:∀s∈as,s∈W.map (·.1):=λs h=>bs s (.tail _ h)
      refine Th (n:=n) (x5H _ _ hA) dB IT hw.2.1 uB vT IU (by rw[cz.len vT];exact bM (aR oh.len hl.1) (by decide)) (λhc ep=>?_) λhc=>?_
      ·have x6:=bK.set lh H₅ (.dict ep (dput hs (hz s.1) wv))
       refine j5 _ _ (st _) (.mk _ _ ep _ (lR hp s.1 w) rfl (x5.trans x6) (eX uB _) (eU.put z9 (vT.imp λZ Z h=>h.set uB (λvs h=>nomatch h) x6) (IU.set uB (λvs h=>nomatch h) x6)) (oh.put sI (by rw[<-gw];exact IL (okf _ λZ Z ln=>λe he=>aR (ln e he) (by lia)) s)) (?_) rt)
       rw[show sW ps d k W hp s=lR hp s.1 w by unfold sW;rw[gw,i9 dB,if_pos hc]] at t
       exact t
      ·refine j5 _ _ (dm af IT) (.mk _ _ eh hs hp rfl x5 uB vT oh (?_) rt)
       rw[show sW ps d k W hp s=hp by unfold sW;rw[gw,i9 dB,if_neg (by rw[hc];decide)]] at t
       exact t
     ·refine h _ λo6 o7 eh hs hp e x5 uB vT oh t bs=>?_
      subst e
      rw[foldl_nil] at t
      rw[<-t] at t'
      have lkh:lk≠lh:=λe=>nkh e.symm
      have a5:=x5 _ _ lkh (fG _ _ a)
      have nfh:lf≠lh:=λe=>by rw[e,fG _ _ (x3 _ _ nkh (xb _ _ ah))] at af;cases af
      exact hN f _ _ (lt_succ_self f) (.mk o6 o7 lf lk lh ef _ eh fs _ hs (jx kn ws) W hp (L+1) rfl (x5.ext x4H bh) bk bh (fE klt) (x5 _ _ nfh af) a5 uB (df.imp λZ Z h=>h.set (fG _ _ (x3 _ _ nkh (xb _ _ ah))) (λvs h=>nomatch h) x5) dk vT okf IS oh (by
       have:1<=ws.length:=by
        cases ws with
        |nil=>cases hw
        |cons a r=>exact le_add_left _ _
       unfold jx
       rw[bX,aS]
       lia) (by lia) t')
  ·rw[h1,Bool.false_and] at t'
   refine(?_:T hp.isEmpty _)
   rw[h1]
   exact vN _ (done t' _ (aA.aO _ _)))
end
structure eA where
 a:Nat
 b:Nat
 day:Int
variable{ms:List eA}
structure fY where
 ff:Nat
 day:Int
 cQ:List (Nat×Rat)
noncomputable def dK(w:eA):V:=.aC [nv w.a,nv w.b,.int w.day]
noncomputable def jy(g:Nat×Rat):V:=.aC [nv g.1,rv g.2]
noncomputable def iG(gs:List (Nat×Rat)):V:=.aC (gs.map jy)
noncomputable def dS(w:fY):V:=.aC [nv w.ff,.int w.day,iG w.cQ]
noncomputable def nh(a k:Nat):Bool:=((a:Int)==(k:Int))
noncomputable def xX:Option Nat->V
 |none=>.none
 |some k=>nv k
noncomputable def ni(ps:List aH)(d:Int)(k:Nat):List eA->Option Nat
 |[]=>none
 |w::r=>if decide (w.day<=d)&&(nh w.a k&&lv ps d w.b) then some w.b else if decide (w.day<=d)&&(nh w.b k&&lv ps d w.a) then some w.a else ni ps d k r
noncomputable def jR(k:Nat)(d:Int):List fY->Int->List (Nat×Rat)->List (Nat×Rat)
 |[],_,g=>g
 |w::r,m,g=>if nh w.ff k&&(decide (m<=w.day)&&decide (w.day<=d)) then jR k d r w.day w.cQ else jR k d r m g
theorem C3{P:List (Nat×Rat)->Prop}{k:Nat}{d:Int}:∀(ws:List fY) (m:Int) (g:List (Nat×Rat)),(∀w∈ws,P w.cQ)->P g->P (jR k d ws m g)
 |[],_,g,_,h=>h
 |w::r,m,g,hw,h=>by
  unfold jR
  split
  ·exact C3 r _ _ (λw h=>hw w (.tail _ h)) (hw w cJ)
  ·exact C3 r _ _ (λw h=>hw w (.tail _ h)) h
def jz(n:Nat)(ms:List eA):Prop:=∀w∈ms,w.a<n/\w.b<n
def C4(ps:List aH)(d:Int)(k:Nat)(x0:V)(tot:Option Nat)(n:Nat)(H:Hp)(as:List eA)(ρ:bB)(H':Hp):Prop:=∀SpIζ:Prop,(∀(o3 o4 o5:Option V) (e:ρ=[some x0,some (nv k),some (.int d),o3,o4,o5]) (eh:H'=H) (t:ni ps d k as=tot) (b:jz n as),SpIζ)->SpIζ
theorem C4.mk{ps:List aH}{k:Nat}{x0:V}{tot:Option Nat}{as:List eA}(o3 o4 o5:Option V)(e:ρ=[some x0,some (nv k),some (.int d),o3,o4,o5])(eh:H'=H)(t:ni ps d k as=tot)(b:jz n as):C4 ps d k x0 tot n H as ρ H':=λZ cm=>cm o3 o4 o5 e eh t b
def C5(k:Nat)(d:Int)(x0:V)(tot:List (Nat×Rat))(H:Hp)(as:List fY)(ρ:bB)(H':Hp):Prop:=∀WiIζ:Prop,(∀(m:Int) (g:List (Nat×Rat)) (o5 o6 o7:Option V) (e:ρ=[some x0,some (nv k),some (.int d),some (.int m),some (iG g),o5,o6,o7]) (eh:H'=H) (t:jR k d as m g=tot),WiIζ)->WiIζ
theorem C5.mk{k:Nat}{x0:V}{tot:List (Nat×Rat)}{as:List fY}(m:Int)(g:List (Nat×Rat))(o5 o6 o7:Option V)(e:ρ=[some x0,some (nv k),some (.int d),some (.int m),some (iG g),o5,o6,o7])(eh:H'=H)(t:jR k d as m g=tot):C5 k d x0 tot H as ρ H':=λZ cm=>cm m g o5 o6 o7 e eh t
section
variable{k:Nat}
theorem Tq{ps:List aH}(hA:H[l]?=some (.list (ps.map bQ)))(hM:H[lm]?=some (.list (ms.map dK)))(hw:jz ps.length ms)(q:Q (xX (ni ps d k ms)) H):ay (n+2) 16 [.aC [.ref l,.ref lm,z],nv k,.int d] H Q Y:=Rt (by
 apply au (cT hM)
 refine fR (C4 ps d k (.aC [.ref l,.ref lm,z]) (ni ps d k ms) ps.length H) (λw as ρ H' h=>?_) (λρ H' h=>?_) _ _ _ (.mk none none none rfl rfl rfl hw)
 ·refine h _ λo3 o4 o5 e eh t b=>?_
  subst e eh
  refine λN hN=>?_
  have oW:=b w cJ
  refine(at_of oW.1).elim λpa ha=>(at_of oW.2).elim λpb hb=>?_
  have t:(if decide (w.day<=d)&&(nh w.a k&&lv ps d w.b) then some w.b else if decide (w.day<=d)&&(nh w.b k&&lv ps d w.a) then some w.a else ni ps d k as)=ni ps d k ms:=t
  rw[i9 ha,i9 hb] at t
  have no:(decide (w.day<=d)&&(nh w.a k&&d7 pb d))=false->(decide (w.day<=d)&&(nh w.b k&&d7 pa d))=false->N [some (.aC [.ref l,.ref lm,z]),some (nv k),some (.int d),some (nv w.a),some (nv w.b),some (.int w.day)] H':=λh1 h2=>hN _ _ (dm hM hM) (.mk _ _ _ rfl rfl (by rw[h1,h2] at t;exact t) (λw h=>b w (.tail _ h)))
  have second:(decide (w.day<=d)&&(nh w.a k&&d7 pb d))=false->aG ⟨ay (n+1),Y⟩ [.br (.and [(.cmp .le (.J 5) (.J 2)),(.cmp .eq (.J 4) (.J 1)),(.call 0 [(iI 0 0),.J 3,.J 2])]) [.ret (.J 3)] []] [some (.aC [.ref l,.ref lm,z]),some (nv k),some (.int d),some (nv w.a),some (nv w.b),some (.int w.day)] H' (oO (λo=>i0 o (λρ H=>aG ⟨ay (n+1),Y⟩ [.ret (.k .none)] ρ H (bD Q)) (bD Q o)) N):=λh1=>by
   have no:=no h1
   rw[h1] at t
   refine(?_:bz (decide (w.day<=d)==true) _ _)
   refine fC (λh2=>?_) λh2=>e8 h2 (no (by rw[h2];rfl))
   rw[h2] at t no
   refine(?_:bz (nh w.b k==true) _ _)
   refine fC (λh3=>?_) λh3=>e8 h3 (no (by rw[h3];rfl))
   rw[h3] at t no
   refine b6 (nX hA ha ?_)
   refine(?_:bz (d7 pa d) _ _)
   refine cb (λh4=>?_) λh4=>no (by rw[h4];rfl)
   rw[h4] at t
   rw[<-t] at q
   exact q
  refine(?_:bz (decide (w.day<=d)==true) _ _)
  refine fC (λh2=>?_) λh2=>e8 h2 (second (by rw[h2];rfl))
  rw[h2] at t second
  refine(?_:bz (nh w.a k==true) _ _)
  refine fC (λh3=>?_) λh3=>e8 h3 (second (by rw[h3];rfl))
  rw[h3] at t second
  refine b6 (nX hA hb ?_)
  refine(?_:bz (d7 pb d) _ _)
  refine cb (λh4=>?_) λh4=>second (by rw[h4];rfl)
  rw[h4] at t
  rw[<-t] at q
  exact q
 ·refine h _ λo3 o4 o5 e eh t b=>?_
  subst e eh
  rw[<-t] at q
  exact q)
theorem Tr{ws:List fY}{y:V}(hM:H[lw]?=some (.list (ws.map dS)))(q:Q (iG (jR k d ws (-1) [])) H):ay (n+1) 17 [.aC [y,z,.ref lw],nv k,.int d] H Q Y:=Ru (by
 apply au (cT hM)
 refine fR (C5 k d (.aC [y,z,.ref lw]) (jR k d ws (-1) []) H) (λw as ρ H' h=>?_) (λρ H' h=>?_) _ _ _ (.mk (-1) [] none none none rfl rfl rfl)
 ·refine h _ λm g o5 o6 o7 e eh t=>?_
  subst e eh
  refine λN hN=>?_
  have t:(if nh w.ff k&&(decide (m<=w.day)&&decide (w.day<=d)) then jR k d as w.day w.cQ else jR k d as m g)=jR k d ws (-1) []:=t
  have no:(nh w.ff k&&(decide (m<=w.day)&&decide (w.day<=d)))=false->N [some (.aC [y,z,.ref lw]),some (nv k),some (.int d),some (.int m),some (iG g),some (nv w.ff),some (.int w.day),some (iG w.cQ)] H':=λh=>hN _ _ (dm hM hM) (.mk m g _ _ _ rfl rfl (by rw[h] at t;exact t))
  refine(?_:bz (nh w.ff k==true) _ _)
  refine fC (λh1=>?_) λh1=>e8 h1 (no (by rw[h1];rfl))
  rw[h1] at t no
  refine(?_:bz (decide (m<=w.day)) _ _)
  refine cb (λh2=>?_) λh2=>no (by rw[h2];rfl)
  rw[h2] at t no
  refine(?_:bz (decide (w.day<=d)) _ _)
  refine cb (λh3=>?_) λh3=>no (by rw[h3];rfl)
  rw[h3] at t
  exact hN _ _ (dm hM hM) (.mk w.day w.cQ _ _ _ rfl rfl t)
 ·refine h _ λm g o5 o6 o7 e eh t=>?_
  subst e eh
  have t:g=_:=t
  rw[<-t] at q
  exact q)
theorem Ac{ps:List aH}(hA:H[l]?=some (.list (ps.map bQ)))(hp:ps[k]?=some p)(q:Q (.bool (d7 p d)) H):ay (n+1) 32 [.ref l,nv k,.int d] H Q Y:=RK (by
 have q:Q (.bool (decide (p.aQ<=d)&&before d p.bR)) H:=q
 apply au (ee hA hp)
 refine(?_:bz (decide (d<p.aQ)) _ _)
 refine rK (λh=>?_) λh=>?_
 ·rw[gv (not_le.mpr h)] at q;exact q
 ·rw[c9 (Int.not_lt.mp h),Bool.true_and] at q
  apply au (ee hA hp)
  unfold bQ
  cases hd:p.bR with
  |none=>rw[hd] at q;exact q
  |some e=>
   rw[hd] at q
   apply au (ee hA hp)
   unfold bQ
   rw[hd]
   exact q)
end
structure fZ where
 j4:Option Nat
 part:Rat
 how:Str
 line:List Nat
def C6(b lr:Nat)(H:Hp)(r:fZ)(v:V):Prop:=∀DealAtζ:Prop,(∀(l:Nat) (hb:b<=l) (hn:l≠lr) (e:v=.aC [xX r.j4,rv r.part,.str r.how,.ref l]) (a:H[l]?=some (.list (aX r.line))),DealAtζ)->DealAtζ
theorem C6.mk{b:Nat}{r:fZ}(l:Nat)(hb:b<=l)(hn:l≠lr)(e:v=.aC [xX r.j4,rv r.part,.str r.how,.ref l])(a:H[l]?=some (.list (aX r.line))):C6 b lr H r v:=λZ cm=>cm l hb hn e a
abbrev mA(b lr:Nat)(H:Hp):List fZ->List V->Prop:=cz (C6 b lr H)
theorem mA.b{b:Nat}{rs:List fZ}(h:mA b lr H rs vs)(x:bK lr H H'):mA b lr H' rs vs:=h.imp λZ Z h=>h _ λl hb hn e a=>(.mk l hb hn e (x l _ hn a))
noncomputable def vU(k:Nat)(s:Rat)(r:Row):fZ:=⟨some r.j4,s*r.n0,"will",k::r.line⟩
noncomputable def iH(ps:List aH)(d:Int)(k:Nat)(g:Nat×Rat):List fZ:=if lv ps d g.1 then[⟨some g.1,g.2,"will",[k,g.1]⟩] else(jv ps d 20 g.1).map (vU k g.2)
noncomputable def counts(ps:List aH)(d:Int)(g:Nat×Rat):Bool:=lv ps d g.1||(kids ps d g.1).any (gH ps d 20)
noncomputable def kW(ps:List aH)(d:Int)(t:Rat)(g:Nat×Rat):Rat:=if counts ps d g then t+g.2 else t
def nj(n:Nat)(gs:List (Nat×Rat)):Prop:=∀g∈gs,g.1<n/\Sm 10 g.2
def xY(N:Nat)(w:fY):Prop:=∀WlOkζ:Prop,(∀(gk:nj N w.cQ/\w.cQ.length<=10) (dy:0<=w.day) (ns:List Nat) (ov un:Nat) (h:un≠0) (e:w.cQ=ns.map λj=>(j,Rat.normalize ov un h)) (o1:1<=ov) (u1:un<1000) (le:ov*ns.length<=un) (nd:ns.Nodup/\w.ff∉ns/\ns≠[]),WlOkζ)->WlOkζ
theorem xY.mk{w:fY}(gk:nj N w.cQ/\w.cQ.length<=10)(dy:0<=w.day)(ns:List Nat)(ov un:Nat)(h:un≠0)(e:w.cQ=ns.map λj=>(j,Rat.normalize ov un h))(o1:1<=ov)(u1:un<1000)(le:ov*ns.length<=un)(nd:ns.Nodup/\w.ff∉ns/\ns≠[]):xY N w:=λZ cm=>cm gk dy ns ov un h e o1 u1 le nd
def IV(N:Nat)(ws:List fY):Prop:=∀w∈ws,nj N w.cQ/\w.cQ.length<=10
def Ad(N:Nat)(ws:List fY):Prop:=∀w∈ws,xY N w
theorem Sm.add{i:Nat}{x:Rat}(hx:Sm i x)(hy:Sm j y):Sm (i+j+1) (x+y):=by
 rw[Rat.add_def]
 refine Sm.qu _ (bM (Int.natAbs_add_le _ _) ?_) (fh (sQ hx.2 hy.2) (pow_le_pow_right (by decide) (le_succ _)))
 rw[natAbs_mul,natAbs_mul]
 exact H8 (sQ hx.1 hy.2) (by rw[add_comm];exact sQ hy.1 hx.2)
theorem Sm.kW{ps:List aH}{i:Nat}{t:Rat}{g:Nat×Rat}(ht:Sm i t)(hg:Sm 10 g.2):Sm (i+11) (kW ps d t g):=by
 unfold L.kW
 split
 ·exact ht.add hg
 ·exact ht.le (fM _ _)
theorem Ts{ps:List aH}{k:Nat}(h:(kids ps d k).any (gH ps d 20)=false):jv ps d 20 k=[]:=by
 have e:ju ps d (kids ps d k)=[]:=filter_eq_nil_iff.mpr λc hc=>by
  rw[any_eq_false] at h
  exact h c hc
 refine(?_:jb ps d (jv ps d 19) k (ju ps d (kids ps d k))=[])
 rw[e];rfl
theorem IW{ps:List aH}(hW:dv ps)(hl:g7 ps){k:Nat}{g:Nat×Rat}(hg:g.1<ps.length):(iH ps d k g).length<=1048576:=by
 unfold iH
 split
 ·exact(by decide:1<=1048576)
 ·rw[aS]
  exact aR (xT hW 20 g.1 _ (fL hg)) (zX hl _)
def C7(ps:List aH)(d:Int)(k l lr b:Nat)(x2:V)(H₁:Hp)(tot:List fZ)(sum:Rat)(as:List (Nat×Rat))(ρ:bB)(H':Hp):Prop:=∀GvIζ:Prop,(∀(o6 o7 o8 o9 o10:Option V) (s:Rat) (i:Nat) (rs:List fZ) (vs:List V) (e:ρ=[some (.ref l),some (nv k),some x2,some (.int d),some (.ref lr),some (rv s),o6,o7,o8,o9,o10]) (x:bK lr H₁ H') (a:H'[lr]?=some (.list vs)) (r:mA b lr H' rs vs) (t:rs++as.flatMap (iH ps d k)=tot) (ts:as.foldl (kW ps d) s=sum) (sm:Sm i s) (hi:i+11*as.length<=1000) (g:nj ps.length as),GvIζ)->GvIζ
theorem C7.mk{ps:List aH}{k b:Nat}{x2:V}{tot:List fZ}{sum:Rat}{as:List (Nat×Rat)}(o6 o7 o8 o9 o10:Option V)(s:Rat)(i:Nat)(rs:List fZ)(vs:List V)(e:ρ=[some (.ref l),some (nv k),some x2,some (.int d),some (.ref lr),some (rv s),o6,o7,o8,o9,o10])(x:bK lr H₁ H')(a:H'[lr]?=some (.list vs))(r:mA b lr H' rs vs)(t:rs++as.flatMap (iH ps d k)=tot)(ts:as.foldl (kW ps d) s=sum)(sm:Sm i s)(hi:i+11*as.length<=1000)(g:nj ps.length as):C7 ps d k l lr b x2 H₁ tot sum as ρ H':=λZ cm=>cm o6 o7 o8 o9 o10 s i rs vs e x a r t ts sm hi g
def C8(k lr b:Nat)(x0 x2 x3 x5 x6:Option V)(s:Rat)(H₁:Hp)(rest tot:List fZ)(as:List Row)(ρ:bB)(H':Hp):Prop:=∀GwIζ:Prop,(∀(o8 o9 o10:Option V) (rs:List fZ) (vs:List V) (e:ρ=[x0,some (nv k),x2,x3,some (.ref lr),x5,x6,some (rv s),o8,o9,o10]) (x:bK lr H₁ H') (a:H'[lr]?=some (.list vs)) (r:mA b lr H' rs vs) (t:rs++(as.map (vU k s)++rest)=tot),GwIζ)->GwIζ
theorem C8.mk{k b:Nat}{s:Rat}{rest tot:List fZ}{as:List Row}(o8 o9 o10:Option V)(rs:List fZ)(vs:List V)(e:ρ=[x0,some (nv k),x2,x3,some (.ref lr),x5,x6,some (rv s),o8,o9,o10])(x:bK lr H₁ H')(a:H'[lr]?=some (.list vs))(r:mA b lr H' rs vs)(t:rs++(as.map (vU k s)++rest)=tot):C8 k lr b x0 x2 x3 x5 x6 s H₁ rest tot as ρ H':=λZ cm=>cm o8 o9 o10 rs vs e x a r t
section
variable{k:Nat}
theorem Tt{d:Int}{ps:List aH}(hW:dv ps)(hl:g7 ps){gs:List (Nat×Rat)}(hg:nj ps.length gs)(gJ:gs.length<=10)(hA:H[l]?=some (.list (ps.map bQ)))
  (q:∀lr vs H',H.length<=lr->aA H H'->H'[lr]?=some (.list vs)->mA H.length lr H' (gs.flatMap (iH ps d k)) vs->Q (.aC [.ref lr,rv (gs.foldl (kW ps d) 0)]) H'):ay (n+64) 18 [.ref l,nv k,iG gs,.int d] H Q Y:=Rv (by
 have ht:(gs.flatMap (iH ps d k)).length<=16000000:=aR (zZ λg h=>IW hW hl (hg g h).1) (aR (Nat.mul_le_mul_right _ gJ) (by decide))
 refine fR (g:=jy) (C7 ps d k l H.length H.length (iG gs) (H++[.list []]) (gs.flatMap (iH ps d k)) (gs.foldl (kW ps d) 0)) (λg as ρ H' h=>?_) (λρ H' h=>?_) gs _ _ (.mk none none none none none 0 1 [] [] rfl (bK.refl _ _) (aZ _ _) .nil rfl rfl ⟨by decide,by decide⟩ (by lia) hg)
 ·refine h _ λo6 o7 o8 o9 o10 s i rs vs e x a r t ts sm hi hg=>?_
  subst e
  refine λN hN=>?_
  have vV:=hg g cJ
  have xH:aA H H':=x.ext (aA.aO _ _) (cg _)
  refine(at_of vV.1).elim λp hp=>?_
  rw[flatMap_cons,show iH ps d k g=if d7 p d then[⟨some g.1,g.2,"will",[k,g.1]⟩] else(jv ps d 20 g.1).map (vU k g.2) by rw[<-i9 hp];rfl] at t
  rw[foldl_cons,show kW ps d s g=if d7 p d||(kids ps d g.1).any (gH ps d 20) then s+g.2 else s by rw[<-i9 hp];rfl] at ts
  rw[iY] at hi
  have IX:i+10<=1000000:=by lia
  refine b6 (nX (xH _ _ hA) hp ?_)
  refine(?_:bz (d7 p d) _ _)
  refine cb (λh1=>?_) λh1=>?_
  ·rw[h1] at t ts
   have t:rs++(⟨some g.1,g.2,"will",[k,g.1]⟩::as.flatMap (iH ps d k))=_:=t
   refine gg a (gy (be _ a) (by rw[r.len];exact qt t ht) ?_)
   refine b6 (zU sm vV.2 IX ?_)
   exact hN _ _ rfl (.mk _ _ _ _ _ (s+g.2) (i+11) (rs++[⟨some g.1,g.2,"will",[k,g.1]⟩]) _ rfl (x.trans ((bK.aO _ _ _).trans (bK.set _ _ _))) (eX (be _ a) _) ((r.b ((bK.aO _ _ _).trans (bK.set _ _ _))).snoc (.mk H'.length xH.len (fE (cG a)) rfl (d9 (aZ _ _) _ (eO (cG a))))) (gh t) ts (sm.add vV.2) (by lia) (λg h=>hg g (.tail _ h)))
  ·rw[h1] at t ts
   have t:rs++((jv ps d 20 g.1).map (vU k g.2)++as.flatMap (iH ps d k))=_:=t
   refine b6 (xP (n:=n+61) (xH _ _ hA) hl.1 λlc H₂ CQ cq hc=>?_)
   apply au (cT hc)
   refine cM (cP (by rw[aS];exact bM (ur hl) (by decide))) ?_
   refine Io (n:=n+41) (i:=2) hW hl (λc' my=>ut hW hp my λq hq Z Z=>⟨q,hq⟩) rfl ((xH.trans cq) _ _ hA) hc λH₃ cN=>?_
   apply au (Ip (aZ _ _))
   rw[Iq]
   have uC:=cq.trans (cN.trans (aA.aO _ [.list ((kids ps d g.1).map λc=>.bool (gH ps d 20 c))]))
   generalize H₃++[bt.list ((kids ps d g.1).map λc=>.bool (gH ps d 20 c))]=H₄ at uC ⊢
   refine cb (λh2=>?_) λh2=>?_
   ·rw[h2] at ts
    refine b6 (zY (n:=n) hW hl (f:=20) (cg _) ((xH.trans uC) _ _ hA) hp (uq hl _) λlb us H₅ hb iv ab rb=>?_)
    have C9:=uC.trans iv
    have a':=C9 _ _ a
    have sR:=fh (fh (cG a) uC.len) hb
    apply au (cT ab)
    refine xS (R:=λr v=>r∈jv ps d 20 g.1/\nf (lb+1) H₅ r v) (C8 k H.length H.length (some (.ref l)) (some (iG gs)) (some (.int d)) (some (rv s)) (some (nv g.1)) g.2 H₅ (as.flatMap (iH ps d k)) (gs.flatMap (iH ps d k))) (λrw v bs ρ H₆ hv h=>?_) (λρ H₆ h=>?_) (rb.imp' λr v hr hv=>⟨hr,hv⟩) _ _ (.mk _ _ _ rs vs rfl (bK.refl _ _) a' (r.b (C9.b _)) t)
    ·refine hv.2 _ λll qw e al=>?_
     subst e
     refine h _ λo8 o9 o10 rs vs e gI a r t=>?_
     subst e
     refine λN' j5=>?_
     have sr:=uu hl 20 _ _ hv.1
     have nl:ll≠H.length:=fE (lt_trans sR qw)
     refine gg a (b6 (xR vV.2 sr.1 (by decide) ?_))
     refine lP (aZ _ _) (be _ (gI _ _ nl al)) (by rw[bX,aS];exact bM (lD sr.2 _) (show 1+(20+1)<16000000 by decide)) ?_
     have xZ:bK H.length H₆ _:=(bK.aO _ H₆ [bt.list [nv k]]).trans ((bK.aO _ _ [bt.list (aX (k::rw.line))]).trans (bK.set _ _ (.list (vs++[.aC [nv rw.j4,rv (g.2*rw.n0),.str "will",.ref (H₆++[bt.list [nv k]]).length]]))))
     have du:=cG (be [bt.list [nv k]] a)
     exact gy (be _ (be _ a)) (by rw[r.len];exact qt t ht) (j5 _ _ (dm ab ((gI.trans xZ) _ _ (fE sR) ab)) (.mk _ _ _ (rs++[vU k g.2 rw]) _ rfl (gI.trans xZ) (eX (be _ (be _ a)) _) ((r.b xZ).snoc (.mk ((H₆++[bt.list [nv k]]).length) (cO du) (fE du) rfl (d9 (aZ _ _) _ (eO du)))) (gh t)))
    ·refine h _ λo8 o9 o10 rs vs e gI a r t=>?_
     subst e
     refine b6 (zU sm vV.2 IX ?_)
     exact hN _ _ rfl (.mk _ _ _ _ _ (s+g.2) (i+11) rs vs rfl (x.trans ((C9.b _).trans gI)) a r t ts (sm.add vV.2) (by lia) (λg h=>hg g (.tail _ h)))
   ·rw[h2] at ts
    rw[Ts h2] at t
    exact hN _ _ rfl (.mk _ _ _ _ _ s i rs vs rfl (x.trans (uC.b _)) (uC _ _ a) (r.b (uC.b _)) t ts sm (by lia) (λg h=>hg g (.tail _ h)))
 ·refine h _ λo6 o7 o8 o9 o10 s i rs vs e x a r t ts sm hi hg=>?_
  subst e
  rw[flatMap_nil,dO] at t
  rw[foldl_nil] at ts
  subst t ts
  exact q _ vs _ (cg _) (x.ext (aA.aO _ _) (cg _)) a r)
end
noncomputable def sY(x:Rat):PyData:=.tuple [.int x.num,.int (x.den:Int)]
noncomputable def Dc(l:List Nat):PyData:=.list (l.map λi:Nat=>.int i)
noncomputable def IY(r:Row):PyData:=.tuple [.int r.j4,sY r.n0,Dc r.line]
section
variable{k:Nat}
theorem oo{m:Nat}{ds:List PyData}(h:H[l]?=some (.list vs))(e:d0 (rd H m) vs=some ds):rd H (m+1) (.ref l)=some (.list ds):=by
 refine(?_:((eQ H (.ref l)).bind λvs=>(d0 (rd H m) vs).map PyData.list)=_)
 rw[cC h]
 refine(?_:(d0 (rd H m) vs).map PyData.list=_)
 rw[e];rfl
theorem IZ{m:Nat}{w:List Nat}(h:H[l]?=some (.list (aX w))):rd H (m+1) (.ref l)=some (Dc w):=oo h (um m w)
theorem dH{f:V->Option PyData}{r:List V}{d:PyData}{ds:List PyData}(h:f v=some d)(hr:d0 f r=some ds):d0 f (v::r)=some (d::ds):=by
 refine(?_:(match f v,d0 f r with|some d,some ds=>some (d::ds)|_,_=>none)=_)
 rw[h,hr]
theorem Tu{α:Type}{R:α->V->Prop}{f:V->Option PyData}{g:α->PyData}{as:List α}(h:cz R as vs)(k:∀a v,R a v->f v=some (g a)):d0 f vs=some (as.map g):=h.rec (motive:=λas vs Z=>d0 f vs=some (as.map g)) rfl λr Z ih=>dH (k _ _ r) ih
theorem Ae(x:Rat)(m:Nat):rd H (m+1) (rv x)=some (sY x):=bU (Option.map PyData.tuple) (dH (pg _ _) (dH (pg _ _) rfl))
theorem Tv{b:Nat}{r:Row}(h:nf b H r v):rd H 9 v=some (IY r):=h _ λl Z e a=>by
 rw[e]
 exact bU (Option.map PyData.tuple) (dH rfl (dH (Ae _ _) (dH (IZ a) rfl)))
theorem none_list(h:H[l]?=some (.list vs)):ml H (.ref l)=none:=by
 refine(?_:(match H[l]?.bind iZ with|some es=>some es.isEmpty|none=>(H[l]?.bind mi).map List.isEmpty)=_)
 rw[h];rfl
theorem eq_nil{m:Nat}{ds:List PyData}(h:H[l]?=some (.list vs))(e:d0 (rd H 9) vs=some ds)(h':H[m]?=some (.list [])):e7 .eq (.ref l) (.ref m) H=some ds.isEmpty:=by
 refine(?_:kO H (.ref l) (.ref m)=_)
 unfold kO
 rw[none_list h,oo h e,oo h' (rfl:d0 (rd H 9) []=some [])]
 cases ds<;>rfl
theorem ne_nil{m:Nat}{ds:List PyData}(h:H[l]?=some (.list vs))(e:d0 (rd H 9) vs=some ds)(h':H[m]?=some (.list [])):e7 .ne (.ref l) (.ref m) H=some (!ds.isEmpty):=bU (Option.map (!·)) (eq_nil h e h')
end
section
variable{ws:List Nat}{t:dq}{α:Type}{R:α->V->Prop}
theorem I0{test:bB->Hp->(Bool->Hp->Prop)->Prop}{elt:bB->Hp->PQ->Prop}{Q:List V->Hp->Prop}(I:List α->List V->bB->Hp->Prop)(step:∀a v as acc ρ H,R a v->I (a::as) acc ρ H->aI (aN t v ρ) λck=>∀N:List V->Hp->Prop,(∀acc' H',fN ws H₀ H'=true->I as acc' ck H'->N acc' H')->test ck H λb H₁=>bz b (elt ck H₁ λy H₂=>N (acc++[y]) H₂) (N acc H₁))(fin:∀acc ρ H,I [] acc ρ H->Q acc H){as:List α}(h:cz R as vs):∀acc ρ H,I as acc ρ H->iQ ws H₀ t test elt vs ρ H acc Q:=
 h.rec (motive:=λas vs Z=>∀acc ρ H,I as acc ρ H->iQ ws H₀ t test elt vs ρ H acc Q) fin λr Z ih acc ρ H h=>xO (step _ _ _ acc ρ H r h) λck hb=>hb (λacc' H'=>fN ws H₀ H'=true/\iQ ws H₀ t test elt _ ck H' acc' Q) λacc' H' hs hi=>⟨hs,ih acc' ck H' hi⟩
end
noncomputable def Dd(m:Nat)(p:Nat×List Nat):Row:=⟨p.1,mkRat 1 m,p.2⟩
noncomputable def ya(ps:List aH)(d:Int)(k:Nat):List Row:=(ol ps d k).map (Dd (ol ps d k).length)
def De(b m:Nat)(d6:bB)(H:Hp)(tot:List (Nat×List Nat))(as:List (Nat×List Nat))(acc:List V)(ρ:bB)(H':Hp):Prop:=∀DgIζ:Prop,(∀(o o':Option V) (an:List (Nat×List Nat)) (e:ρ=o::o'::d6) (eh:H'=H) (r:cz (nf b H) (an.map (Dd m)) acc) (t:an++as=tot),DgIζ)->DgIζ
theorem De.mk{b m:Nat}{tot:List (Nat×List Nat)}{as:List (Nat×List Nat)}(o o':Option V)(an:List (Nat×List Nat))(e:ρ=o::o'::d6)(eh:H'=H)(r:cz (nf b H) (an.map (Dd m)) acc)(t:an++as=tot):De b m d6 H tot as acc ρ H':=λZ cm=>cm o o' an e eh r t
def Tw(H:Hp)(rs:List Row)(f:V->V)(Q:PQ):Prop:=∀lr vs H',H.length<=lr->aA H H'->H'[lr]?=some (.list vs)->jQ H.length H' rs vs->Q (f (.ref lr)) H'
noncomputable def gL(ps:List aH)(d:Int)(k:Nat)(p:aH):Str×List Row×Rat:=
 if !(jv ps d 20 k).isEmpty then("line",jv ps d 20 k,mkRat 1 4) else if !(vR ps d k p).isEmpty then("parents",vR ps d k p,mkRat 1 2) else("degree",ya ps d k,if(ol ps d k).isEmpty then 1 else mkRat 3 4)
def lU(rs:List Row):Prop:=∀KinOkζ:Prop,(∀(len:rs.length<=2097152) (sm:∀r∈rs,Sm 120 r.n0) (ln:∀r∈rs,r.line.length<=130),KinOkζ)->KinOkζ
theorem lU.mk{rs:List Row}(len:rs.length<=2097152)(sm:∀r∈rs,Sm 120 r.n0)(ln:∀r∈rs,r.line.length<=130):lU rs:=λZ cm=>cm len sm ln
theorem jQ.ext{b:Nat}(h:jQ b H rs vs)(x:aA H H')(hb:b'<=b):jQ b' H' rs vs:=h.imp λZ Z h=>h.mono λl c hl e=>⟨aR hb hl,x l c e⟩
theorem lU.of{rs:List Row}(hf:f<=22)(hl:rs.length<=2097152)(h:∀r∈rs,ng f r):lU rs:=(.mk hl (λr hr=>(h r hr).1.le (aR (qO 5 hf) (by decide))) (λr hr=>aR (h r hr).2 (aR (lE hf) (by decide))))
theorem lU.Tx{ps:List aH}{d:Int}{k:Nat}(h1:(ol ps d k).length<=60)(h2:∀e∈ol ps d k,e.2.length<=122):lU (ya ps d k):=(.mk (by unfold ya;rw[length_map];exact le_trans h1 (by decide)) (λr hr=>(mem_map.mp hr).elim λe he=>he.2▸(Sm.SA (λq=>absurd (List.eq_nil_of_length_eq_zero q) (ne_nil_of_mem he.1)) (Nat.lt_of_le_of_lt h1 (by decide))).le (by decide)) (λr hr=>(mem_map.mp hr).elim λe he=>he.2▸le_trans (h2 e he.1) (by decide)))
def Tz(H:Hp)(rs:List Row)(f:V->V)(Q:PQ):Prop:=lU rs->Tw H rs f Q
section
variable{k:Nat}
theorem Af{b:Nat}(h:jQ b H rs vs):d0 (rd H 9) vs=some (rs.map IY):=Tu h λZ Z h=>Tv h
theorem TA{ps:List aH}(hW:dv ps)(hl:g7 ps)(hp:ps[k]?=some p)(hA:H[l]?=some (.list (ps.map bQ)))(q:Tz H (gL ps d k p).2.1 (λr=>.aC [.str (gL ps d k p).1,r]) Q):ay (n+66) 19 [.ref l,nv k,.int d] H Q Y:=Rw (by
 refine b6 (zY (n:=n+2) hW hl (f:=20) (cg _) hA hp (uq hl _) λlr vs H₁ hb x a r=>?_)
 have r':=r.ext (aA.aO H₁ [.list []]) (aR hb (le_succ _))
 apply au (ne_nil (be _ a) (Af r') (aZ _ _))
 rw[mV]
 refine cb (λh1=>?_) λh1=>?_
 ·rw[show gL ps d k p=(("line":Str),jv ps d 20 k,mkRat 1 4) from bL h1] at q
  exact q (lU.of (by decide) (aR (xT hW 20 k p hp) (aR (zX hl _) (by decide))) (uu hl 20 k)) lr vs _ hb (x.trans (aA.aO _ _)) (be _ a) r'
 ·rw[show gL ps d k p=_ from bG (by rw[h1];decide)] at q
  have x1:=x.trans (aA.aO H₁ [.list []])
  generalize H₁++[bt.list []]=H₁' at x1 ⊢
  clear r' r a x
  refine b6 (SK (n:=n) hW hl hp (x1 _ _ hA) λlr vs H₂ hb x a r=>?_)
  have r':=r.ext (aA.aO H₂ [.list []]) (aR (aR x1.len hb) (le_succ _))
  apply au (ne_nil (be _ a) (Af r') (aZ _ _))
  rw[mV]
  refine cb (λh2=>?_) λh2=>?_
  ·rw[bL h2] at q
   exact q (lU.of (cg _) (Iw hW hl hp) (SJ hW hl hp)) lr vs _ (aR x1.len hb) ((x1.trans x).trans (aA.aO _ _)) (be _ a) r'
  ·rw[bG (by rw[h2];decide)] at q
   have x2:=(x1.trans x).trans (aA.aO H₂ [.list []])
   generalize H₂++[bt.list []]=H₂' at x2 ⊢
   clear r' r a x
   refine b6 (Tl (n:=n+60) hW hl hp (x2 _ _ hA) λlr vs H₃ uv TB hb x a r=>?_)
   have ok:=lU.Tx uv TB
   have x3:=x2.trans x
   apply au (cT a)
   refine cM (cP (by rw[r.len];exact bM uv (by decide))) ?_
   refine I0 (De H.length (ol ps d k).length [some (.ref l),some (nv k),some (.int d),_,some (.ref lr)] H₃ (ol ps d k)) (λe v as acc ρ H' hv h=>?_) (λacc ρ H' h=>?_) r _ _ _ (.mk none none [] rfl rfl .nil rfl)
   ·refine h _ λo o' an I1 eh ra t=>?_
    subst I1 eh
    refine hv _ λll qw ev al=>?_
    subst ev
    refine λN hN=>?_
    apply au (cC a)
    rw[r.len]
    have hm:(ol ps d k).length≠0:=λq=>by
     have:=tC q
     rw[this] at t
     cases an<;>cases t
    refine b6 (CF hm (bM uv (by decide)) ?_)
    exact hN _ _ (dm a a) (.mk _ _ (an++[e]) rfl rfl (by rw[gx];exact ra.snoc (.mk ll (aR x2.len qw) rfl al)) (gh t))
   ·refine h _ λo o' an I1 eh ra t=>?_
    rw[dO] at t
    subst eh t
    exact q ok _ acc _ x3.len (x3.trans (aA.aO _ _)) (aZ _ _) (jQ.ext ra (aA.aO _ _) (cg _)))
end
theorem I2:PyData.strOk "line"=true:=by decide +kernel
theorem I3:PyData.strOk "parents"=true:=by decide +kernel
theorem TC:PyData.strOk "degree"=true:=by decide +kernel
section
variable{k:Nat}
noncomputable def Df(how:Str)(rs:List Row):Rat:=if rs.isEmpty then 1 else if how=="line" then mkRat 1 4 else if how=="parents" then mkRat 1 2 else mkRat 3 4
theorem uD{a b:Str}(ha:PyData.strOk a=true)(hb:PyData.strOk b=true):e7 .eq (.str a) (.str b) H=some (a==b):=by
 have e:∀{s:Str},PyData.strOk s=true->rd H 10 (.str s)=some (.str s):=λh=>bL h
 refine(?_:(rd H 10 (.str a)).bind (λd=>(rd H 10 (.str b)).map λe=>PyData.eqv d e)=_)
 rw[e ha,e hb];rfl
theorem TF{b:Nat}(ho:PyData.strOk how=true)(a:H[lr]?=some (.list vs))(r:jQ b H rs vs)(q:∀H',aA H H'->Q (rv (Df how rs)) H'):ay (n+2) 20 [.str how,.ref lr] H Q Y:=Rx (by
 have q:=q _ (aA.aO H [.list []])
 unfold Df at q
 apply au (eq_nil (be _ a) (Af (r.ext (aA.aO _ _) (cg _))) (aZ _ _))
 rw[mV]
 refine cb (λh1=>?_) λh1=>?_
 ·rw[bL h1] at q;exact q
 ·rw[bG (by rw[h1];decide)] at q
  apply au (uD ho I2)
  refine cb (λh2=>?_) λh2=>?_
  ·rw[bL h2,<-mU (by decide)] at q
   exact b6 (ph (d:=4) _ q)
  ·rw[bG (by rw[h2];decide)] at q
   apply au (uD ho I3)
   refine cb (λh3=>?_) λh3=>?_
   ·rw[bL h3,<-mU (by decide)] at q
    exact b6 (ph (d:=2) _ q)
   ·rw[bG (by rw[h3];decide),<-mU (by decide)] at q
    exact b6 (ph (d:=4) _ q))
theorem TG(ps:List aH)(d:Int)(k:Nat)(p:aH):Df (gL ps d k p).1 (gL ps d k p).2.1=(gL ps d k p).2.2:=by
 unfold gL
 split
 ·rename_i h
  exact bG (by rw[jj .. |>.mp h];decide)
 ·split
  ·rename_i h
   exact bG (by rw[jj .. |>.mp h];decide)
  ·refine(?_:(if(ya ps d k).isEmpty=true then _ else _)=_)
   rw[show(ya ps d k).isEmpty=(ol ps d k).isEmpty from mV]
   split<;>rfl
theorem I4(ps:List aH)(d:Int)(k:Nat)(p:aH):PyData.strOk (gL ps d k p).1=true:=by
 unfold gL
 split
 ·exact I2
 ·split
  ·exact I3
  ·exact TC
end
noncomputable def pn(R:Rat)(how:Str)(r:Row):fZ:=⟨some r.j4,R*r.n0,how,r.line⟩
noncomputable def kX(ps:List aH)(d:Int)(gs:List (Nat×Rat)):Rat:=1 - gs.foldl (kW ps d) 0
noncomputable def vW(ps:List aH)(d:Int)(k:Nat)(p:aH)(gs:List (Nat×Rat))(sp:Option Nat):List fZ:=
 if(kX ps d gs).num==0 then gs.flatMap (iH ps d k) else match sp with
  |none=>if(gL ps d k p).2.1.isEmpty then gs.flatMap (iH ps d k)++[⟨none,kX ps d gs,"town",[k]⟩] else gs.flatMap (iH ps d k)++(gL ps d k p).2.1.map (pn (kX ps d gs) (gL ps d k p).1)
  |some s=>(gs.flatMap (iH ps d k)++[⟨some s,kX ps d gs*(gL ps d k p).2.2,"spouse",[k,s]⟩])++(gL ps d k p).2.1.map (pn (kX ps d gs - kX ps d gs*(gL ps d k p).2.2) (gL ps d k p).1)
def Ag(H:Hp)(rs:List fZ)(Q:PQ):Prop:=∀lr vs H',H.length<=lr->aA H H'->H'[lr]?=some (.list vs)->mA H.length lr H' rs vs->Q (.ref lr) H'
theorem Dg{ps:List aH}{d:Int}{n:Nat}:∀{gs:List (Nat×Rat)} {i:Nat} {s:Rat},nj n gs->Sm i s->Sm (i+11*gs.length) (gs.foldl (kW ps d) s)
 |[],i,s,_,h=>h
 |g::r,i,s,hg,h=>(Dg (gs:=r) (λg h=>hg g (.tail _ h)) (h.kW (hg g cJ).2)).le (by rw[iY];lia)
theorem Dh:Sm 1 (1:Rat):=⟨by decide,by decide⟩
theorem TH{ps:List aH}{gs:List (Nat×Rat)}(hg:nj n gs)(hl:gs.length<=10):Sm 200 (kX ps d gs):=(Dh.sub (Dg (i:=1) hg ⟨by decide,by decide⟩)).le (by lia)
def Di(k:Str)(R:Rat)(lr lk b:Nat)(x0 x1 x2 x3 x5 x9 uk:Option V)(H₁:Hp)(tot:List fZ)(as:List Row)(ρ:bB)(H':Hp):Prop:=∀TlIζ:Prop,(∀(bT jt iD:Option V) (rs:List fZ) (vs:List V) (e:ρ=[x0,x1,x2,x3,some (.ref lr),x5,some (rv R),some (.str k),some (.ref lk),x9,uk,bT,jt,iD]) (x:bK lr H₁ H') (a:H'[lr]?=some (.list vs)) (r:mA b lr H' rs vs) (t:rs++as.map (pn R k)=tot),TlIζ)->TlIζ
theorem Di.mk{k:Str}{lk b:Nat}{tot:List fZ}{as:List Row}(bT jt iD:Option V)(rs:List fZ)(vs:List V)(e:ρ=[x0,x1,x2,x3,some (.ref lr),x5,some (rv R),some (.str k),some (.ref lk),x9,uk,bT,jt,iD])(x:bK lr H₁ H')(a:H'[lr]?=some (.list vs))(r:mA b lr H' rs vs)(t:rs++as.map (pn R k)=tot):Di k R lr lk b x0 x1 x2 x3 x5 x9 uk H₁ tot as ρ H':=λZ cm=>cm bT jt iD rs vs e x a r t
theorem TI(ps:List aH)(d:Int)(k:Nat)(p:aH):Sm 5 (gL ps d k p).2.2:=by
 unfold gL
 split
 ·exact Sm.inv (m:=4) (by decide) (by decide)
 ·split
  ·exact Sm.inv (m:=2) (by decide) (by decide)
  ·refine(?_:Sm 5 (if(ol ps d k).isEmpty=true then 1 else mkRat 3 4))
   split
   ·exact Dh.le (by decide)
   ·rw[<-mU (by decide)];exact Sm.qu _ (by decide) (by decide)
section
variable{k:Nat}
theorem TJ{x:Rat}:((x.num==0)&&(((x.den:Int)==1)&&true))=(x.num==0):=by
 cases h:x.num==0 with
 |false=>rfl
 |true=>
  have e:x=0:=Rat.num_eq_zero.mp (eq_of_beq h)
  rw[e];rfl
theorem I5{how:Str}{R:Rat}{lr lk b i:Nat}{x0 x1 x2 x3 x5 x9 uk bT jt iD:Option V}{rs:List fZ}{vs us:List V}{kin:List Row}(hb:b<=lr)(a:H[lr]?=some (.list vs))(r:mA b lr H rs vs)(ak:H[lk]?=some (.list us))(rE:lk≠lr)(rk:jQ (lr+1) H kin us)(ok:lU kin)(sm:Sm i R)(hi:i<=1000)(TK:rs.length<=12000000)
  (q:∀jc H',bK lr H H'->H'[lr]?=some (.list jc)->mA b lr H' (rs++kin.map (pn R how)) jc->Q (.ref lr) H'):aG ⟨ay (n+2),Y⟩ (Bf.drop 10) [x0,x1,x2,x3,some (.ref lr),x5,some (rv R),some (.str how),some (.ref lk),x9,uk,bT,jt,iD] H (bD Q):=by
 refine ok _ λlen ksm kln=>?_
 have ht:(rs++kin.map (pn R how)).length<=16000000:=by rw[bX,aS];exact aR (jG TK len) (by decide)
 apply au (cT ak)
 refine xS (R:=λr v=>r∈kin/\nf (lr+1) H r v) (Di how R lr lk b x0 x1 x2 x3 x5 x9 uk H (rs++kin.map (pn R how))) (λrw v bs ρ H' hv h=>?_) (λρ H' h=>?_) (rk.imp' λr v hr hv=>⟨hr,hv⟩) _ _ (.mk _ _ _ rs vs rfl (bK.refl _ _) a r rfl)
 ·refine hv.2 _ λll qw e al=>?_
  subst e
  refine h _ λbT jt iD rs vs e x a r t=>?_
  subst e
  refine λN hN=>?_
  refine gg a (b6 (xR sm (ksm _ hv.1) (by lia) ?_))
  have nl:=fE qw
  exact gy a (by rw[r.len];exact qt t ht) (hN _ _ (dm ak ((x.trans (bK.set _ _ _)) _ _ rE ak)) (.mk _ _ _ (rs++[pn R how rw]) _ rfl (x.trans (bK.set _ _ _)) (eX a _) ((r.b (bK.set _ _ _)).snoc (.mk ll (aR hb (cO qw)) nl rfl ((x.trans (bK.set _ _ _)) _ _ nl al))) (gh t)))
 ·refine h _ λbT jt iD YV vs e x a r t=>?_
  subst e
  rw[map_nil,dO] at t
  subst t
  exact q _ _ x a r
end
structure dN where
 ps:List aH
 ms:List eA
 ws:List fY
variable{r r':dN}
def dg(r:dN):Prop:=∀RollOkζ:Prop,(∀(wf:dv r.ps) (len:g7 r.ps) (eZ:jz r.ps.length r.ms) (cQ:IV r.ps.length r.ws),RollOkζ)->RollOkζ
theorem dg.mk(wf:dv r.ps)(len:g7 r.ps)(eZ:jz r.ps.length r.ms)(cQ:IV r.ps.length r.ws):dg r:=λZ cm=>cm wf len eZ cQ
def cK(H:Hp)(r:dN)(l lm lw:Nat):Prop:=∀RollAtζ:Prop,(∀(ap:H[l]?=some (.list (r.ps.map bQ))) (am:H[lm]?=some (.list (r.ms.map dK))) (aw:H[lw]?=some (.list (r.ws.map dS))),RollAtζ)->RollAtζ
theorem cK.mk(ap:H[l]?=some (.list (r.ps.map bQ)))(am:H[lm]?=some (.list (r.ms.map dK)))(aw:H[lw]?=some (.list (r.ws.map dS))):cK H r l lm lw:=λZ cm=>cm ap am aw
noncomputable def oq(r:dN)(d:Int)(k:Nat):List (Nat×Rat):=jR k d r.ws (-1) []
noncomputable def rN(r:dN)(d:Int)(k:Nat)(p:aH):List fZ:=vW r.ps d k p (oq r d k) (ni r.ps d k r.ms)
theorem Ah(h:dg r)(d:Int)(k:Nat):nj r.ps.length (oq r d k)/\(oq r d k).length<=10:=h _ λZ Z Z g=>C3 (P:=λgs=>nj r.ps.length gs/\gs.length<=10) _ _ _ g ⟨λZ h=>(nomatch h),gu _⟩
theorem I6(h:dg r)(d:Int)(k:Nat):((oq r d k).flatMap (iH r.ps d k)).length<=10485760:=h _ λhW hl Z Z=>aR (zZ λg hg=>IW hW hl ((Ah h d k).1 g hg).1) (Nat.mul_le_mul_right 1048576 (Ah h d k).2)
def ot(r:fZ):Prop:=PyData.strOk r.how=true/\r.line.length<=1000
theorem I7:PyData.strOk "will"=true:=by decide +kernel
theorem TL:PyData.strOk "spouse"=true:=by decide +kernel
theorem TM:PyData.strOk "town"=true:=by decide +kernel
theorem Ai{r:dN}(hr:dg r){d:Int}{k:Nat}:∀x∈(oq r d k).flatMap (iH r.ps d k),ot x:=λx hx=>hr _ λZ hl Z Z=>(List.mem_flatMap.mp hx).elim λg hg=>by
 have h:=hg.2
 unfold iH at h
 split at h
 ·rw[cI.mp h];exact⟨I7,show 2<=1000 by decide⟩
 ·exact(fj.mp h).elim λy hy=>hy.2▸⟨I7,aR (lE (uu hl 20 _ _ hy.1).2) (by decide)⟩
theorem I8{ps:List aH}{d:Int}{k:Nat}{p:aH}(h:lU (gL ps d k p).2.1){R:Rat}:∀x∈(gL ps d k p).2.1.map (pn R (gL ps d k p).1),ot x:=λx hx=>(fj.mp hx).elim λy hy=>hy.2▸⟨I4 ps d k p,h _ λZ Z ln=>aR (ln y hy.1) (by decide)⟩
theorem TN{r:dN}(hr:dg r){d:Int}{k:Nat}{p:aH}(h:((kX r.ps d (oq r d k)).num==0)=false->lU (gL r.ps d k p).2.1):∀x∈rN r d k p,ot x:=by
 unfold rN vW
 cases h0:(kX r.ps d (oq r d k)).num==0 with
 |true=>exact Ai hr
 |false=>
  have ok:=h h0
  intro x hx
  rw[bG (by decide)] at hx
  cases hs:ni r.ps d k r.ms with
  |none=>
   rw[hs] at hx
   dsimp only at hx
   split at hx
   ·exact(cF.mp hx).elim (Ai hr x) λh=>by rw[cI.mp h];exact⟨TM,show 1<=1000 by decide⟩
   ·exact(cF.mp hx).elim (Ai hr x) (I8 ok x)
  |some s=>
   rw[hs] at hx
   exact(cF.mp hx).elim (λh=>(cF.mp h).elim (Ai hr x) λh=>by rw[cI.mp h];exact⟨TL,show 2<=1000 by decide⟩) (I8 ok x)
theorem TO(hr:dg r){k:Nat}(h:((kX r.ps d (oq r d k)).num==0)=false->lU (gL r.ps d k p).2.1):(rN r d k p).length<=14000000:=by
 have hg:=I6 hr d k
 unfold rN vW
 cases h0:(kX r.ps d (oq r d k)).num==0 with
 |true=>exact aR hg (by decide)
 |false=>
  have hk:(gL r.ps d k p).2.1.length<=2097152:=(h h0) _ λlen Z Z=>len
  rw[bG (by decide)]
  cases hs:ni r.ps d k r.ms with
  |none=>
   dsimp only
   split
   ·rw[bX];exact aR (mS hg 1) (by decide)
   ·rw[bX,aS];exact aR (jG hg hk) (by decide)
  |some s=>
   dsimp only
   rw[bX,bX,aS];exact aR (jG (mS hg 1) hk) (by decide)
section
variable{k:Nat}
theorem TP{r:dN}(hr:dg r)(at':cK H r l lm lw){p:aH}(hp:r.ps[k]?=some p){d:Int}(hd:p.bR=some d)(q:(∀x∈rN r d k p,ot x)->(rN r d k p).length<=14000000->Ag H (rN r d k p) Q):ay (n+67) 21 [.aC [.ref l,.ref lm,.ref lw],nv k] H Q Y:=Ry (by
 refine hr _ λhW hl hM hG=>at' _ λhA TQ TR=>?_
 have hg:nj r.ps.length (jR k d r.ws (-1) [])/\(jR k d r.ws (-1) []).length<=10:=Ah hr d k
 have gJ:((jR k d r.ws (-1) []).flatMap (iH r.ps d k)).length<=10485760:=I6 hr d k
 have qd:(((kX r.ps d (jR k d r.ws (-1) [])).num==0)=false->lU (gL r.ps d k p).2.1)->Ag H (vW r.ps d k p (jR k d r.ws (-1) []) (ni r.ps d k r.ms)) Q:=λh=>q (TN hr h) (TO hr h)
 apply au (ee hA hp)
 unfold bQ
 rw[hd]
 refine b6 (Tr TR ?_)
 generalize jR k d r.ws (-1) []=gs at hg gJ qd ⊢
 refine b6 (Tt (n:=n+2) hW hl hg.1 hg.2 hA λlr vs H₁ hb x a rr=>?_)
 have hT:Sm 199 (gs.foldl (kW r.ps d) 0):=(Dg (i:=1) hg.1 ⟨by decide,by decide⟩).le (by have:=hg.2;lia)
 refine b6 (Ia (x:=1) Dh hT (by decide) ?_)
 have hR:=TH (ps:=r.ps) (d:=d) hg.1 hg.2
 unfold vW at qd
 rw[show(1:Rat) - gs.foldl (kW r.ps d) 0=kX r.ps d gs from rfl]
 generalize kX r.ps d gs=R at hR qd ⊢
 generalize gs.flatMap (iH r.ps d k)=rs at rr gJ qd
 refine(?_:bz ((R.num==0)&&(((R.den:Int)==1)&&true)) _ _)
 rw[TJ]
 refine cb (λh1=>?_) λh1=>?_
 ·have qd:=qd λh=>absurd (h1.symm.trans h) (by decide)
  rw[bL h1] at qd
  exact qd lr vs _ hb x a rr
 ·refine b6 (TA (n:=n) hW hl hp (x _ _ hA) λok lk us H₂ TS cq ak rk=>?_)
  have qd:=qd λZ=>ok
  rw[bG (by rw[h1];decide)] at qd
  have x2:=x.trans cq
  have rE:=fh (cG a) TS
  refine b6 (Tq (x2 _ _ hA) (x2 _ _ TQ) hM ?_)
  have tU:=I4 r.ps d k p
  have Aj:=TI r.ps d k p
  have ebs:=TG r.ps d k p
  generalize gL r.ps d k p=kp at ok rk qd tU Aj ebs ⊢
  have a2:=cq _ _ a
  have r2:=mA.b rr (cq.b _)
  have TT:=bM hb (cG a2)
  generalize ni r.ps d k r.ms=sp at qd ⊢
  cases sp with
  |none=>
   have I9:=rk.ext (aA.aO H₂ [.list []]) (cG a)
   apply au (eq_nil (be _ ak) (Af I9) (aZ _ _))
   rw[mV]
   have qd:Ag H (if kp.2.1.isEmpty then rs++[⟨none,R,"town",[k]⟩] else rs++kp.2.1.map (pn R kp.1)) Q:=qd
   refine cb (λh2=>?_) λh2=>?_
   ·rw[bL h2] at qd
    have xx:∀a b c:List bt,aA H₂ (H₂++[bt.list []]++a++b++c):=λa b c=>(aA.aO H₂ _).trans ((aA.aO _ a).trans ((aA.aO _ b).trans (aA.aO _ c)))
    have je:∀a b:List bt,H₂.length<=(H₂++[bt.list []]++a++b).length:=λa b=>((aA.aO H₂ [.list []]).trans ((aA.aO _ a).trans (aA.aO _ b))).len
    have an:=aZ (H₂++[.list []]) (.list (aX [k]))
    have TU:H₂.length<(H₂++[bt.list []]).length:=by rw[bX];exact lt_succ_self _
    refine lP (be _ (be _ (be _ a2))) (aZ _ _) (by rw[bX,rr.len];exact bM (mS gJ 1) (by decide)) ?_
    refine qd _ _ _ (aR x2.len (je _ _)) (x2.trans (xx _ _ _)) (aZ _ _) (cz.snoc (r2.imp λZ Z h=>h _ λll hb hn e al=>(.mk ll hb (eO (fh (cG al) (je _ _))) e (xx _ _ _ _ _ al))) (.mk _ (aR x2.len (cO TU)) (eO (cG (be _ an))) rfl (be _ (be _ an))))
   ·rw[bG (by rw[h2];decide)] at qd
    exact I5 (n:=n+64) hb (be _ a2) (r2.b (bK.aO _ _ _)) (be _ ak) (fE rE) I9 ok hR (by decide) (aR gJ (by decide)) λjc H' x' a' r'=>qd _ _ _ hb (x'.ext (x2.trans (aA.aO _ _)) hb) a' r'
  |some s=>
   have qd:Ag H ((rs++[⟨some s,R*kp.2.2,"spouse",[k,s]⟩])++kp.2.1.map (pn (R - R*kp.2.2) kp.1)) Q:=qd
   refine b6 (TF tU ak rk λH₃ cN=>?_)
   rw[ebs]
   refine b6 (xR hR Aj (by decide) ?_)
   have a3:=cN _ _ a2
   refine gg a3 (gy (be _ a3) (by rw[rr.len];exact bM gJ (by decide)) ?_)
   refine b6 (Ia hR (hR.mul Aj) (by decide) ?_)
   have x4:bK lr H₃ _:=(bK.aO lr H₃ [bt.list (aX [k,s])]).trans (bK.set lr _ (.list (vs++[.aC [nv s,rv (R*kp.2.2),.str "spouse",.ref H₃.length]])))
   have nlk:=fE rE
   exact I5 (n:=n+64) hb (eX (be _ a3) _) (((r2.b (cN.b _)).b x4).snoc (.mk H₃.length (aR (cO TT) cN.len) (fE (cG a3)) rfl (d9 (aZ _ _) _ (eO (cG a3))))) (x4 _ _ nlk (cN _ _ ak)) nlk (rk.imp λZ Z h=>h.mono λll c hl e=>⟨aR (cG a) hl,x4 _ _ (fE (fh (cG a) hl)) (cN _ _ e)⟩) ok (hR.sub (hR.mul Aj)) (by decide) (by rw[bX];exact aR (mS gJ 1) (by decide)) λjc H' x' a' r'=>qd _ _ _ hb ((x4.trans x').ext (x2.trans cN) hb) a' r')
end
section
variable{K:Out->Prop}{r:List S}{t:dq}{a i:E}{x y:V}
theorem dU(h:WE C e ρ H λv H=>aI (aN t v ρ) λck=>aG C r ck H K):aG C (.aN t e::r) ρ H K:=h
theorem ba(h:ρ[j]?.join=some v)(q:Q v H):WE C (.J j) ρ H Q:=au h q
theorem qz(q:Q (.ref H.length) (H++[.list []])):WE C (.bH []) ρ H Q:=q
theorem cL{op:oE}(h:WE C a ρ H λx H=>WE C i ρ H λy H=>sG op x y H Q):WE C (.bin op a i) ρ H Q:=h
theorem cR{op:oE}{p q z:Int}(h:binI op p q=some z)(k:Q (.int z) H):sG op (.int p) (.int q) H Q:=au h k
theorem yb{it:It}{b:List S}(h:rq C it ρ H λp H=>pX p.2 H t (λρ H K=>aG C.xq b ρ H K) p.1 ρ H λo=>i0 o (λρ H=>aG C r ρ H K) (K o)):aG C (.for t it b::r) ρ H K:=h
theorem yc{R:List V×List Nat->Hp->Prop}(h:WE C a ρ H λx H=>WE C i ρ H λy H=>w9 x y λl=>R (l,[]) H):rq C (.range a i) ρ H R:=h
theorem bF(q:Q v H):WE C (.k v) ρ H Q:=q
end
section
variable{k:Nat}
end
theorem Ja:∀l:List Nat,PyData.eqvAll (l.map λi:Nat=>.int i) (l.map λi:Nat=>.int i)=true
 |[]=>rfl
 |a::r=>by
  refine(?_:(((a:Int)==(a:Int))&&PyData.eqvAll _ _)=true)
  rw[gr,Ja r];rfl
theorem TV(x:Rat):PyData.eqv (sY x) (sY x)=true:=by
 refine(?_:((x.num==x.num)&&(((x.den:Int)==(x.den:Int))&&true))=true)
 rw[gr,gr];rfl
section
variable{k:Nat}
end
theorem cK.ext(h:cK H r l lm lw)(x:aA H H'):cK H' r l lm lw:=h _ λa b c=>(.mk (x _ _ a) (x _ _ b) (x _ _ c))
section
variable{k:Nat}
end
def Dj(c:Int)(m:Nat)(H:Hp)(as:List Nat)(ρ:bB)(H':Hp):Prop:=∀StIζ:Prop,(∀(acc:List Int) (x:Int) (o:Option V) (e:ρ=[some (.int c),some (nv m),some (.ref H.length),some (.int x),o]) (ext:aA H H') (a:H'[H.length]?=some (.list (acc.map V.int))) (len:acc.length+as.length=m) (hx:0<=x/\x<2147483647) (ok:∀x∈acc,0<=x/\x<2147483647),StIζ)->StIζ
theorem Dj.mk{c:Int}{m:Nat}(acc:List Int)(x:Int)(o:Option V)(e:ρ=[some (.int c),some (nv m),some (.ref H.length),some (.int x),o])(ext:aA H H')(a:H'[H.length]?=some (.list (acc.map V.int)))(len:acc.length+as.length=m)(hx:0<=x/\x<2147483647)(ok:∀x∈acc,0<=x/\x<2147483647):Dj c m H as ρ H':=λZ cm=>cm acc x o e ext a len hx ok
section
variable{k:Nat}
theorem qA(a:Int){b:Int}(h:0<b):0<=a.fmod b/\a.fmod b<b:=by
 rw[Int.fmod_eq_emod_of_nonneg a (le_of_lt h)]
 exact⟨Int.emod_nonneg a (ne_of_gt h),Int.emod_lt_of_pos a h⟩
theorem jA(x:Int){k:Nat}(h:0<k):∃a:Nat,x.fmod (k:Int)=(a:Int)/\a<k:=
 have z:=qA x (jk.mpr h)
 ⟨(x.fmod (k:Int)).toNat,(Int.toNat_of_nonneg z.1).symm,(toNat_lt z.1).mpr z.2⟩
theorem TX{b:Nat}(h:0<=x/\x<b):x.natAbs<b:=by
 obtain⟨k,rfl⟩:=Int.eq_ofNat_of_zero_le h.1
 exact jk.mp h.2
theorem qB{k b c:Nat}(h:k<b)(hb:b<=c):(k:Int).natAbs<c:=fh h hb
theorem yd(x:Int){k c:Nat}(h:0<k)(hc:k<=c):∃r:Nat,1+x.fmod (k:Int)=(r:Int)/\0<r/\r<=c:=(jA x h).elim λa z=>⟨a+1,by rw[z.1];exact Int.add_comm _ _,succ_pos _,aR z.2 hc⟩
theorem mod2(x:Int){P:Int->Prop}(h0:P ((0:Nat):Int))(h1:P ((1:Nat):Int)):P (x.fmod 2):=(jA x (k:=2) (by decide)).elim λa z=>by
 rw[show x.fmod 2=(a:Int) from z.1]
 cases a with
 |zero=>exact h0
 |succ a=>cases a with
  |zero=>exact h1
  |succ a=>exact absurd z.2 (not_lt.mpr (le_add_left 2 a))
theorem TY(x:Int){P:Int->Prop}(h0:P ((0:Nat):Int))(h1:P ((1:Nat):Int))(h2:P ((2:Nat):Int)):P (x.fmod 3):=(jA x (k:=3) (by decide)).elim λa z=>by
 rw[show x.fmod 3=(a:Int) from z.1]
 cases a with
 |zero=>exact h0
 |succ a=>cases a with
  |zero=>exact h1
  |succ a=>cases a with
   |zero=>exact h2
   |succ a=>exact absurd z.2 (not_lt.mpr (le_add_left 3 a))
theorem gi{a b:Int}(h:b≠0):binI .mod a b=some (a.fmod b):=bG h
def TZ(H:Hp)(m:Nat)(Q:PQ):Prop:=∀(ls:Nat) (H':Hp) (xs:List Int),xs.length=m->(∀x∈xs,0<=x/\x<2147483647)->H.length<=ls->aA H H'->H'[ls]?=some (.list (xs.map V.int))->Q (.ref ls) H'
theorem vX{c:Int}{m:Nat}(hm:m<=1000)(q:TZ H m Q):ay (n+1) 28 [.int c,nv m] H Q Y:=RG (by
 unfold Bh
 refine dU (qz (au rfl ?_))
 refine dU (cL (ba rfl (bF (cR (gi (b:=2147483647) (by decide)) (au rfl ?_)))))
 refine yb (yc (bF (ba rfl (rL (bM hm (by decide)) ?_))))
 refine fR (Dj c m H) (λk as ρ H' h=>?_) (λρ H' h=>?_) _ _ _ (.mk [] _ none rfl (aA.aO _ _) (aZ _ _) (by rw[kH];exact zero_add m) (qA c (by decide)) (λZ h=>nomatch h))
 ·refine h _ λacc x o e ext a len hx ok=>?_
  subst e
  refine λN hN=>?_
  apply au (ja (i:=31) (j:=16) (a:=x) (b:=48271) (TX ⟨hx.1,Int.lt_trans hx.2 (by decide)⟩) (by decide) (by decide))
  have hy:=qA (x*48271+11+(k:Int)) (b:=2147483647) (by decide)
  rw[iY] at len
  exact gg a (gy a (by rw[aS];lia) (hN _ _ rfl (.mk (acc++[(x*48271+11+(k:Int)).fmod 2147483647]) _ _ rfl (ext.set (cg _) _) (by rw[gx];exact eX a _) (by rw[bX,<-len];exact(add_assoc _ 1 _).trans (by rw[add_comm 1])) hy (λy T1=>(cF.mp T1).elim (ok y) λh=>by rw[cI.mp h];exact hy))))
 ·refine h _ λacc x o e ext a len hx ok=>?_
  subst e
  exact q _ _ acc len ok (cg _) ext a)
theorem pick(he:es≠[])(h:H[l]?=some (.list (aX es)))(y:Int):∃j,j∈es/\fF (.ref l) (.int (y.fmod es.length)) H=some (nv j):=by
 have hl:0<es.length:=length_pos_iff.mpr he
 have hm:=qA y (jk.mpr hl)
 have hi:(y.fmod es.length).toNat<es.length:=by lia
 refine⟨es[(y.fmod es.length).toNat],getElem_mem hi,?_⟩
 have:=gf (k:=(y.fmod es.length).toNat) (v:=nv es[(y.fmod es.length).toNat]) h (by rw[g5,fL hi];rfl)
 rw[nv,Int.toNat_of_nonneg hm.1] at this
 exact this
theorem Jb(he:es≠[]):(es.length:Int)≠0:=λh=>he (tC (ofNat.inj h))
theorem Dk{y f:Int}(hE:H[l]?=some (.list (aX es)))(q:∀al H',(∀j∈al,j∈es)->jP al->(al=[]->es=[]\/f=0)->aA H H'->Q (.aC (aX al)) H'):ay (n+1) 29 [.ref l,.int y,.int f] H Q Y:=RH (by
 have x:=aA.aO H [.list []]
 have r0:es=[]\/f=0->Q (.aC []) (H++[.list []]):=λhz=>q [] _ (λZ h=>nomatch h) ⟨by decide,nodup_nil⟩ (λZ=>hz) x
 apply au (eq_nil (be _ hE) (um _ _) (aZ _ _))
 rw[mV]
 refine fD (λh0=>?_) λh0=>ey h0 (r0 (.inl (isEmpty_iff.mp h0)))
 have he:es≠[]:=λe=>by rw[e] at h0;cases h0
 have key:aG ⟨ay n,Y⟩ (Bj.drop 1) [some (.ref l),some (.int y),some (.int f),none,none] (H++[.list []]) (bD Q):=by
  have ye:=x _ _ hE
  generalize H++[.list []]=H₁ at x ye r0
  apply au (cC ye)
  rw[aS]
  apply au (gi (Jb he))
  refine(pick he ye y).elim λj hj=>?_
  apply au hj.2
  apply au (cC ye)
  rw[aS]
  apply au (gi (Jb he))
  refine(pick he ye (y.fdiv 60)).elim λj' pu=>?_
  apply au pu.2
  have r1:Q (.aC (aX [j])) H₁:=q [j] _ (λi h=>by rw[cI.mp h];exact hj.1) ⟨show 1<=2 by decide,lF.mpr ⟨not_mem_nil,nodup_nil⟩⟩ (λh=>nomatch h) x
  have r2:((j:Int)==(j':Int))=false->Q (.aC (aX [j,j'])) H₁:=λdQ=>q [j,j'] _ (λi h=>(cH.mp h).elim (λe=>e▸hj.1) λh=>by rw[cI.mp h];exact pu.1) ⟨show 2<=2 by decide,lF.mpr ⟨λh=>(by rw[cI.mp h,gr] at dQ;cases dQ),lF.mpr ⟨not_mem_nil,nodup_nil⟩⟩⟩ (λh=>nomatch h) x
  refine(?_:bz (((j:Int)==(j':Int))==false) _ _)
  refine fD (λh1=>?_) λh1=>ey h1 r1
  refine(?_:bz ((y.fdiv 3).fmod 4==0) _ _)
  exact cb (λZ=>r1) λZ=>r2 h1
 refine(?_:bz ((f==0)==true) _ _)
 refine fC (λh=>?_) λh=>e8 h key
 refine(?_:bz ((y.fdiv 7).fmod 5==0) _ _)
 exact cb (λZ=>r0 (.inr (eq_of_beq h))) λZ=>key)
end
noncomputable abbrev T2:S:=.aN (.J 7) (.bin .mul (.bin .add (.bin .mul (kI 5) (.bin .fdiv (.J 5) (kI 3))) (.bin .mod (.J 6) (kI 11))) (.J 3))
noncomputable abbrev T3:S:=.aN (.J 8) (.comp 1 (.J 0) (.J 0) (.range (kI 0) (.J 5)) [(.cmp .lt (.aP (.aP (.J 3) (.J 0)) (kI 0)) (.J 8))])
noncomputable abbrev T4:S:=.aN (.J 9) (.call 29 [(.iN (.J 8) (some (.neg (kI 7))) none),(.bin .fdiv (.J 6) (kI 11)),(kI 0)])
noncomputable abbrev T5:S:=.br (.and [(.cmp .gt (.J 5) (kI 0)),(.cmp .eq (.bin .mod (.bin .fdiv (.J 6) (kI 13)) (kI 3)) (kI 0)),(.cmp .eq (.comp 1 (.J 0) (.J 0) (.of (.aP (.aP (.J 2) (.bin .sub (.J 5) (kI 1))) (kI 1))) [(.cmp .jH (.J 0) (.J 9))]) (.bH []))])
   [.aN (.J 9) (.aP (.aP (.J 2) (.bin .sub (.J 5) (kI 1))) (kI 1))]
   []
noncomputable abbrev T6:S:=.br (.and [(.cmp .eq (.bin .mod (.bin .fdiv (.J 0) (kI 4)) (kI 3)) (kI 0)),(.cmp .lt (.J 5) (kI 12))])
   [.aN (.J 7) (.bin .mul (.bin .add (.bin .mul (kI 12) (.bin .fdiv (.J 5) (kI 2))) (.bin .mod (.J 6) (kI 11))) (.J 3)),
    .aN (.J 9) (.aP (.J 4) (.J 5))]
   []
noncomputable abbrev T7:S:=.aN (.J 10) (.k .none)
noncomputable abbrev T8:S:=.br (.cmp .gt (.bin .mod (.bin .fdiv (.J 6) (kI 500)) (.aP (.bH [(kI 4),(kI 9)]) (.bin .mod (.bin .fdiv (.J 0) (kI 12)) (kI 2)))) (kI 0))
   [.aN (.J 10) (.bin .add (.J 7) (.bin .mul (.bin .mod (.bin .fdiv (.J 6) (kI 1500)) (kI 40)) (.J 3)))]
   []
noncomputable abbrev T9:S:=.expr (.d8 .append (.J 2) [(.aC [.J 7,.J 9,(.k .none),.J 10])])
noncomputable def Jc:List (List Nat):=[[],[],[1,0],[1,0],[2],[3],[],[5],[3],[1],[],[2]]
noncomputable def Ak:List V:=Jc.map λl=>.aC (aX l)
section
variable{c sc b:Int}{m k:Nat}{K:Out->Prop}{ps:List aH}
noncomputable abbrev mB(c:Int)(m lp:Nat)(sc:Int)(lh k:Nat)(x:Int)(o7 o8 o9 o10:Option V):bB:=[some (.int c),some (nv m),some (.ref lp),some (.int sc),some (.ref lh),some (nv k),some (.int x),o7,o8,o9,o10]
theorem Jd(k:Nat)(d:Nat):Int.fdiv (k:Int) (d:Int)=((k/d:Nat):Int):=by rw[Int.fdiv_eq_ediv_of_nonneg _ (kJ d)];rfl
theorem pv{a b:Int}(h:b≠0):binI .fdiv a b=some (a.fdiv b):=bG h
theorem Al{sc:Int}(h:sc=1\/sc=600):0<sc/\sc.natAbs<2^10:=h.elim (λe=>e▸⟨by decide,by decide⟩) λe=>e▸⟨by decide,by decide⟩
def Am(b:Int):Prop:=0<=b/\b<=42000
theorem Je{sc:Int}(jf:sc=1\/sc=600){k:Nat}(hk:k<=70):Am ((k:Int)*sc):=by
 rcases jf with e|e<;>subst e<;>exact⟨by lia,by lia⟩
def Dm(k:Nat)(p:aH):Prop:=(∀j∈p.ca,j<k)/\p.aQ<=42000/\(∀d,p.bR=some d->p.aQ<=d/\d<=100000)/\∀x,p.ad=some x->p.aQ<=x.1/\x.1<=100000/\(∀d,p.bR=some d->x.1<d)/\x.2≠[]
def ox(ps:List aH):Prop:=∀(k:Nat) p,ps[k]?=some p->Dm k p
theorem p1(hk:k<20)(jf:sc=1\/sc=600)(h:∀b,Am b->aG ⟨ay n,Y⟩ rest (mB c m lp sc lh k x (some (.int b)) o8 o9 o10) H K):aG ⟨ay n,Y⟩ (T2::rest) (mB c m lp sc lh k x o7 o8 o9 o10) H K:=by
 refine(jA x (k:=11) (by decide)).elim λa ha=>?_
 have ea:x.fmod 11=(a:Int):=ha.1
 have hs:=Al jf
 have Jf:k/3<7:=Nat.div_lt_of_lt_mul (lt_trans hk (by decide))
 have h3:Int.fdiv (k:Int) 3=_:=Jd k 3
 refine dU (cL (cL (cL (bF (cL (ba rfl (bF ?_)))))))
 refine cR (pv (by decide)) (cR (ja (i:=3) (j:=10) (by decide) ?_ (by decide)) ?_)
 ·rw[h3];exact qB Jf (by decide)
 refine cL (ba rfl (bF ?_))
 refine cR (gi (by decide)) (cR rfl (ba rfl (cR (ja (i:=10) (j:=10) ?_ hs.2 (by decide)) (au rfl (h _ ?_)))))
 ·rw[h3,ea];exact qB (k:=5*(k/3)+a) (Nat.add_lt_add_of_le_of_lt (qO 5 (cO Jf)) ha.2) (by decide)
 ·rw[h3,ea];exact Je (k:=5*(k/3)+a) jf (by have:=ha.2;lia)
end
theorem An{t:Bool}{T:Bool->Hp->Prop}(h:T t H):bz t (T true H) (T false H):=by
 cases t<;>exact h
section
variable{a i:E}
theorem j8{nl:Nat}{t:dq}{it:It}{cs:List E}(h:rq C it ρ H λp H=>gT (oM p.1) (iQ p.2 H t (λρ H Q=>WT C.no cs ρ H Q) (λρ H Q=>WE C.no elt ρ H Q) p.1 (replicate nl none++ρ) H [] λvs H=>mm vs H Q)):WE C (.comp nl elt t it cs) ρ H Q:=h
end
theorem Jg(es:List Nat)(lo hi:Option Int):j1 (aX es) lo hi=aX (j1 es lo hi):=by
 unfold j1
 rw[aS,aX,<-List.map_take,<-List.map_drop]
theorem Ua{lo:Option Int}(h:j∈j1 es lo hi):j∈es:=List.mem_of_mem_take (List.mem_of_mem_drop h)
theorem Ub(es:List Nat)(lo hi:Option Int):(j1 es lo hi).length<=es.length:=by
 unfold j1
 rw[length_drop,length_take]
 exact aR (Nat.sub_le _ _) (min_le_right _ _)
section
variable{c sc b:Int}{m k le:Nat}{K:Out->Prop}{ps:List aH}
theorem Jh{ls:List Nat}(h:H[l]?=some (.list (aX ls))):e7 .jH (nv k) (.ref l) H=some (!decide (k∈ls)):=bU (Option.map (!·)) (Cw h)
theorem Ji{i:Int}(hi:i=(k:Int))(h:H[l]?=some (.list (ps.map bQ)))(hv:ps[k]?=some p):fF (.ref l) (.int i) H=some (bQ p):=hi▸ee h hv
noncomputable def rO(ps:List aH)(b:Int)(j:Nat):Bool:=(ps[j]?).elim false λp=>decide (p.aQ<b)
theorem Jj(h:rO ps b j=true):ib ps b j:=by
 unfold rO at h
 cases hp:ps[j]? with
 |none=>rw[hp] at h;cases h
 |some p=>rw[hp] at h;exact⟨p,hp,cf h⟩
theorem p2(hk:k<20)(hl:ps.length=k)(hA:H[lp]?=some (.list (ps.map bQ)))(h:∀es le H',(∀j∈es,ib ps b j)->es.length<=20->aA H H'->H'[le]?=some (.list (aX es))->aG ⟨ay n,Y⟩ rest (mB c m lp sc lh k x (some (.int b)) (some (.ref le)) o9 o10) H' K):aG ⟨ay n,Y⟩ (T3::rest) (mB c m lp sc lh k x (some (.int b)) o8 o9 o10) H K:=by
 refine dU (j8 (yc (bF (ba rfl (rL (lt_trans hk (by decide)) (cM (cP ?_) ?_))))))
 ·rw[aS,kH];exact lt_trans hk (by decide)
 refine iF (P:=rO ps b) (F:=nv) _ _ _ (λj hj T hT=>?_) (λj Z Z N hN=>hN) (au rfl (h _ _ _ (λj hj=>Jj (lG.mp hj).2) ?_ (aA.aO _ _) (aZ _ _)))
 ·have hj:=jl.mp hj
  rw[<-hl] at hj
  refine(at_of hj).elim λp hp=>?_
  apply au (ee hA hp)
  unfold rO at hT
  rw[hp] at hT
  exact An (T:=T) hT
 ·exact aR (ma _ _) (aR (iX kH) (cO hk))
theorem p3(hE:H[le]?=some (.list (aX es)))(vY:es.length<=20)(h:∀al H',(∀j∈al,j∈es)->jP al->aA H H'->aG ⟨ay (n+1),Y⟩ rest (mB c m lp sc lh k x o7 (some (.ref le)) (some (.aC (aX al))) o10) H' K):aG ⟨ay (n+1),Y⟩ (T4::rest) (mB c m lp sc lh k x o7 (some (.ref le)) o9 o10) H K:=by
 apply au (cC hE)
 refine cM (cP ?_) ?_
 ·rw[Jg,aS];exact bM (aR (Ub _ _ _) vY) (by decide)
 rw[Jg]
 exact b6 (Dk (aZ _ _) λal H' eW h2 Z x=>h al H' (λj hj=>Ua (eW j hj)) h2 ((aA.aO _ _).trans x))
theorem p4{al:List Nat}(hl:ps.length=k)(hA:H[lp]?=some (.list (ps.map bQ)))(hE:H[le]?=some (.list (aX es)))(Dn:∀p∈ps,jP p.ca)(eW:∀j∈al,j∈es)(px:jP al)(h:∀al H',(∀j∈al,j∈es)->jP al->aA H H'->aG ⟨ay n,Y⟩ rest (mB c m lp sc lh k x o7 (some (.ref le)) (some (.aC (aX al))) o10) H' K):aG ⟨ay n,Y⟩ (T5::rest) (mB c m lp sc lh k x o7 (some (.ref le)) (some (.aC (aX al))) o10) H K:=by
 have no:=h al H eW px (aA.refl H)
 refine(?_:bz (decide ((k:Int)>0)==true) _ _)
 refine fC (λh1=>?_) λh1=>e8 h1 no
 refine(?_:bz (((x.fdiv 13).fmod 3==0)==true) _ _)
 refine fC (λh2=>?_) λh2=>e8 h2 no
 have YW:0<k:=jk.mp (cf h1)
 have hi:(k:Int) - 1=((k - 1:Nat):Int):=by lia
 refine(at_of (show k - 1<ps.length by lia)).elim λp hp=>?_
 have h2:=Dn p (iz hp)
 apply au (Ji hi hA hp)
 refine cM (cP (by rw[aS];exact bM h2.1 (by decide))) ?_
 refine iF (P:=λj=>!decide (j∈es)) (F:=nv) _ _ _ (λj hj T hT=>?_) (λj Z Z N hN=>hN) ?_
 ·apply au (Jh hE)
  exact An (T:=T) hT
 ·apply au (eq_nil (be _ (aZ _ _)) (um _ _) (aZ _ _))
  rw[mV]
  have xx:∀a b:List bt,aA H (H++a++b):=λa b=>(aA.aO _ _).trans (aA.aO _ _)
  refine cb (λh3=>?_) λh3=>h al _ eW px (xx _ _)
  apply au (Ji hi (xx _ _ _ _ hA) hp)
  refine h p.ca _ (λj hj=>?_) h2 (xx _ _)
  have:=filter_eq_nil_iff.mp (isEmpty_iff.mp h3) j hj
  exact Decidable.not_not.mp λhn=>this (by rw[gv hn];rfl)
end
def sZ(sc:Int)(i:Nat)(b:Int):Prop:=12*((i/2:Nat):Int)*sc<=b/\b<=(12*((i/2:Nat):Int)+10)*sc
theorem Uc{sc:Int}(jf:sc=1\/sc=600){i:Nat}(h:j/2<i/2){b b':Int}(hi:sZ sc i b)(hj:sZ sc j b'):b'<b:=
 lt_of_le_of_lt hj.2 (Int.lt_of_lt_of_le (Int.mul_lt_mul_of_pos_right (jk.mpr (show 12*(j/2)+10<12*(i/2) from fh (Nat.add_lt_add_left (show 10<12 by decide) _) (qO 12 h))) (Al jf).1) hi.1)
theorem Ud:∀{k:Nat},k<12->∃ls,Jc[k]?=some ls/\(ls.length<=2/\ls.Nodup)/\∀j∈ls,j<k/\j/2<k/2:=by decide +kernel
section
variable{c sc b:Int}{m k le:Nat}{K:Out->Prop}{ps:List aH}
theorem p5{al:List Nat}(hk:k<20)(jf:sc=1\/sc=600)(hl:ps.length=k)(hH:H[lh]?=some (.list Ak))(eW:∀j∈al,ib ps b j)(px:jP al)(s6:Am b)(hI:((c.fdiv 4).fmod 3==0)=true->∀i p,i<12->ps[i]?=some p->sZ sc i p.aQ)
  (h:∀b al,(∀j∈al,ib ps b j)->jP al->Am b->(((c.fdiv 4).fmod 3==0)=true->k<12->sZ sc k b)->aG ⟨ay n,Y⟩ rest (mB c m lp sc lh k x (some (.int b)) o8 (some (.aC (aX al))) o10) H K):aG ⟨ay n,Y⟩ (T6::rest) (mB c m lp sc lh k x (some (.int b)) o8 (some (.aC (aX al))) o10) H K:=by
 refine(?_:bz (((c.fdiv 4).fmod 3==0)==true) _ _)
 refine fC (λh1=>?_) λh1=>e8 h1 (h b al eW px s6 λq=>absurd (h1.symm.trans q) (by decide))
 refine(?_:bz (decide ((k:Int)<12)) _ _)
 refine cb (λhk=>?_) λhk=>h b al eW px s6 λZ q=>absurd (show(k:Int)<12 from jk.mpr q) (of_decide_eq_false hk)
 have hk:k<12:=jk.mp (cf hk)
 refine(jA x (k:=11) (by decide)).elim λa ha=>?_
 have ea:x.fmod 11=(a:Int):=ha.1
 have h3:Int.fdiv (k:Int) 2=_:=Jd k 2
 have Jk:k/2<6:=Nat.div_lt_of_lt_mul hk
 refine(Ud hk).elim λls nk=>?_
 have hs:=Al jf
 refine dU (cL (cL (cL (bF (cL (ba rfl (bF ?_)))))))
 refine cR (pv (by decide)) (cR (ja (i:=4) (j:=10) (by decide) ?_ (by decide)) ?_)
 ·rw[h3];exact qB Jk (by decide)
 refine cL (ba rfl (bF ?_))
 refine cR (gi (by decide)) (cR rfl (ba rfl (cR (ja (i:=10) (j:=10) ?_ hs.2 (by decide)) (au rfl ?_))))
 ·rw[h3,ea];exact qB (k:=12*(k/2)+a) (Nat.add_lt_add_of_le_of_lt (qO 12 (cO Jk)) ha.2) (by decide)
 apply au (gf (v:=.aC (aX ls)) hH (by unfold Ak;rw[List.getElem?_map,nk.1];rfl))
 have hb:sZ sc k ((12*Int.fdiv (k:Int) 2+x.fmod 11)*sc):=by
  rw[h3,ea]
  exact⟨Int.mul_le_mul_of_nonneg_right (Int.le_add_of_nonneg_right (kJ _)) (le_of_lt hs.1),Int.mul_le_mul_of_nonneg_right (Int.add_le_add_left (ofNat_le.mpr (le_of_lt_succ ha.2)) _) (le_of_lt hs.1)⟩
 refine h _ ls (λj hj=>?_) nk.2.1 (by rw[h3,ea];exact Je (k:=12*(k/2)+a) jf (by have:=ha.2;lia)) λZ Z=>hb
 have hj:=nk.2.2 j hj
 refine(at_of (show j<ps.length from hl▸hj.1)).elim λp hp=>⟨p,hp,Uc jf hj.2 hb (hI h1 j p (lt_trans hj.1 hk) hp)⟩
theorem p7(jf:sc=1\/sc=600)(h:∀(di:Option Int) H',(∀d,di=some d->b<=d/\d<=b+23400)->aA H H'->aG ⟨ay n,Y⟩ rest (mB c m lp sc lh k x (some (.int b)) o8 o9 (some (fW di))) H' K):aG ⟨ay n,Y⟩ (T7::T8::rest) (mB c m lp sc lh k x (some (.int b)) o8 o9 o10) H K:=by
 refine(jA (x.fdiv 1500) (k:=40) (by decide)).elim λa ha=>?_
 have Ue:((x.fdiv 1500).fmod 40).natAbs<2^10:=by rw[show(x.fdiv 1500).fmod 40=(a:Int) from ha.1];exact qB ha.2 (by decide)
 have B3:=(Al jf).2
 have hs:∃z:Int,fF (.ref H.length) (.int ((c.fdiv 12).fmod 2)) (H++[.list [.int 4,.int 9]])=some (.int z)/\z≠0:=
  mod2 (c.fdiv 12) (P:=λi=>∃z:Int,fF (.ref H.length) (.int i) (H++[.list [.int 4,.int 9]])=some (.int z)/\z≠0) ⟨4,gf (aZ _ _) rfl,by decide⟩ ⟨9,gf (aZ _ _) rfl,by decide⟩
 refine hs.elim λz hz=>?_
 apply au hz.1
 apply au (gi hz.2)
 refine(?_:bz (decide ((x.fdiv 500).fmod z>0)) _ _)
 refine cb (λZ=>?_) λZ=>h none _ (λZ h=>nomatch h) (aA.aO _ _)
 refine dU (cL (ba rfl (cL (cL (cL (ba rfl (bF ?_)))))))
 refine cR (pv (by decide)) (bF (cR (gi (by decide)) (ba rfl (cR (ja (i:=10) (j:=10) Ue B3 (by decide)) (cR rfl (au rfl ?_))))))
 refine h (some _) _ (λd hd=>?_) (aA.aO _ _)
 cases hd
 rw[show(x.fdiv 1500).fmod 40=(a:Int) from ha.1]
 have:=ha.2
 rcases jf with e|e<;>subst e<;>exact⟨by lia,by lia⟩
theorem p8{di:Option Int}(hl:ps.length<=20)(hA:H[lp]?=some (.list (ps.map bQ)))(h:∀H',bK lp H H'->H'[lp]?=some (.list ((ps++[(⟨b,al,none,di⟩:aH)]).map bQ))->K (.next (mB c m lp sc lh k x (some (.int b)) o8 (some (.aC (aX al))) (some (fW di))) H')):aG ⟨ay n,Y⟩ [T9] (mB c m lp sc lh k x (some (.int b)) o8 (some (.aC (aX al))) (some (fW di))) H K:=
 gg hA (gy hA (by rw[aS];exact bM hl (by decide)) (h _ (bK.set _ _ _) (by rw[gx];exact eX hA _)))
end
noncomputable def en:Nat->List Int->List (Nat×Int)
 |_,[]=>[]
 |k,x::r=>(k,x)::en (k+1) r
noncomputable abbrev Do(p:Nat×Int):V:=.aC [nv p.1,.int p.2]
theorem Ao:∀(k:Nat) (xs:List Int),tK k (xs.map V.int)=(en k xs).map Do
 |_,[]=>rfl
 |k,x::r=>bU (Do (k,x)::·) (Ao (k+1) r)
theorem ib.aO{ps:List aH}{b:Int}(t:List aH)(h:ib ps b j):ib (ps++t) b j:=h.elim λq hq=>⟨q,by rw[tx (dZ.mp hq.1).1];exact hq.1,hq.2⟩
theorem nZ.aO{ps:List aH}(t:List aH)(h:nZ ps p):nZ (ps++t) p:=h _ λa b c d z=>(.mk (λj hj=>(a j hj).aO t) (λx hx j hj=>(b x hx j hj).aO t) c d z)
theorem Aq{α:Type}{ps:List α}{p:α}{P:Nat->α->Prop}(h:∀(i:Nat) q,ps[i]?=some q->P i q)(hp:P ps.length p):∀(i:Nat) q,(ps++[p])[i]?=some q->P i q:=by
 intro i q hq
 rcases Nat.lt_trichotomy i ps.length with hi|hi|hi
 ·rw[tx hi] at hq;exact h i q hq
 ·subst hi
  rw[List.getElem?_concat_length] at hq
  cases hq;exact hp
 ·rw[qP (by rw[bX];exact hi)] at hq;cases hq
def Dp(c:Int)(m lp:Nat)(sc:Int)(lh:Nat)(H₁:Hp)(as:List (Nat×Int))(ρ:bB)(H':Hp):Prop:=∀PeIζ:Prop,(∀(o5 o6 o7 o8 o9 o10:Option V) (xs:List Int) (ps:List aH) (e:ρ=[some (.int c),some (nv m),some (.ref lp),some (.int sc),some (.ref lh),o5,o6,o7,o8,o9,o10]) (x:bK lp H₁ H') (a:H'[lp]?=some (.list (ps.map bQ))) (ea:as=en ps.length xs) (len:ps.length+xs.length=m) (wf:dv ps) (rp:ox ps) (hI:((c.fdiv 4).fmod 3==0)=true->∀(i:Nat) p,i<12->ps[i]?=some p->sZ sc i p.aQ),PeIζ)->PeIζ
theorem Dp.mk{c:Int}{m:Nat}{sc:Int}{as:List (Nat×Int)}(o5 o6 o7 o8 o9 o10:Option V)(xs:List Int)(ps:List aH)(e:ρ=[some (.int c),some (nv m),some (.ref lp),some (.int sc),some (.ref lh),o5,o6,o7,o8,o9,o10])(x:bK lp H₁ H')(a:H'[lp]?=some (.list (ps.map bQ)))(ea:as=en ps.length xs)(len:ps.length+xs.length=m)(wf:dv ps)(rp:ox ps)(hI:((c.fdiv 4).fmod 3==0)=true->∀(i:Nat) p,i<12->ps[i]?=some p->sZ sc i p.aQ):Dp c m lp sc lh H₁ as ρ H':=λZ cm=>cm o5 o6 o7 o8 o9 o10 xs ps e x a ea len wf rp hI
section
variable{c:Int}{m:Nat}
theorem Ug(c:Int):∃sc:Int,fF (.ref (H++[bt.list []]).length) (.int (c.fmod 4)) (H++[bt.list []]++[.list [.int 1,.int 1,.int 1,.int 600]])=some (.int sc)/\(sc=1\/sc=600):=by
 have h4:=qA c (b:=4) (by decide)
 have:c.fmod 4=((0:Nat):Int)\/c.fmod 4=((1:Nat):Int)\/c.fmod 4=((2:Nat):Int)\/c.fmod 4=((3:Nat):Int):=by lia
 rcases this with h|h|h|h<;>rw[h]
 ·exact⟨1,gf (aZ _ _) rfl,.inl rfl⟩
 ·exact⟨1,gf (aZ _ _) rfl,.inl rfl⟩
 ·exact⟨1,gf (aZ _ _) rfl,.inl rfl⟩
 ·exact⟨600,gf (aZ _ _) rfl,.inr rfl⟩
theorem Uh(hm:m<=20)(q:∀lp H' ps,ps.length=m->dv ps->ox ps->aA H H'->H.length<=lp->H'[lp]?=some (.list (ps.map bQ))->Q (.ref lp) H'):ay (n+2) 30 [.int c,nv m] H Q Y:=RI (by
 refine(Ug (H:=H) c).elim λsc jf=>?_
 apply au jf.1
 have jf:=jf.2
 refine b6 (vX (n:=n) (aR hm (by decide)) λls H₂ xs uE Dq nk cq ax=>?_)
 have a0:=be [bt.list Ak] (be [.list [.int 1,.int 1,.int 1,.int 600]] (aZ H (.list [])))
 have hh:=aZ (H++[bt.list []]++[.list [.int 1,.int 1,.int 1,.int 600]]) (.list Ak)
 have l1:H.length<(H++[bt.list []]++[bt.list [.int 1,.int 1,.int 1,.int 600]]).length:=cG (be _ (aZ _ _))
 have l2:H.length<ls:=fh (cG a0) nk
 apply au (cC ax)
 rw[Ao]
 refine fR (Dp c m H.length sc (H++[bt.list []]++[bt.list [.int 1,.int 1,.int 1,.int 600]]).length H₂) (λkx as ρ H' h=>?_) (λρ H' h=>?_) _ _ _ (.mk none none none none none none xs [] rfl (bK.refl _ _) (cq _ _ a0) rfl (by rw[length_nil,zero_add];exact uE) (λk p h=>(nomatch h)) (λk p h=>(nomatch h)) (λZ i p Z h=>(nomatch h)))
 ·refine h _ λo5 o6 o7 o8 o9 o10 lO ps e x a ea len wf rp hI=>?_
  subst e
  cases lO with
  |nil=>cases ea
  |cons xx lO=>
   have ek:kx=(ps.length,xx):=(g9 ea).1
   have eas:as=en (ps.length+1) lO:=(g9 ea).2
   subst ek
   rw[iY] at len
   have hk:ps.length<20:=by lia
   refine λN hN=>?_
   have st:∀{H''},bK H.length H₂ H''->fN [ls] H₂ H''=true:=λx=>dm ax (x _ _ (fE l2) ax)
   refine p1 hk jf λb s6=>p2 hk rfl a λes le H₃ vY Ui cN nO=>p3 (n:=n) nO Ui λal H₄ eW px fG=>p4 rfl ((cN.trans fG) _ _ a) (fG _ _ nO) (λp hp=>(getElem?_of_mem hp).elim λi hi=>(wf i p hi) _ λZ Z c Z Z=>c) eW px λal H₅ eW px iv=>?_
   have xh:=(cN.trans fG).trans iv
   refine p5 hk jf rfl (xh _ _ (x _ _ (fE l1) (cq _ _ hh))) (λj hj=>vY j (eW j hj)) px s6 hI λb al eW px s6 hb=>p7 jf λdi H₆ Jl gI=>p8 (cO hk) ((xh.trans gI) _ _ a) λH₇ xZ Uj=>?_
   have x8:=x.trans (((xh.trans gI).b _).trans xZ)
   exact hN _ _ (st x8) (.mk _ _ _ _ _ _ lO (ps++[(⟨b,al,none,di⟩:aH)]) rfl x8 Uj (by rw[bX];exact eas) (by rw[bX,<-len];exact(add_assoc _ 1 _).trans (by rw[add_comm 1])) (Aq (P:=λ_ (p:aH)=>nZ (ps++[(⟨b,al,none,di⟩:aH)]) p) (λi q hq=>(wf i q hq).aO _) (.mk (λj hj=>(eW j hj).aO _) (λx hx=>(by cases hx)) px (λx hx=>(by cases hx)) s6.1)) (Aq (P:=Dm) rp ⟨λj hj=>(eW j hj).elim λq hq=>(dZ.mp hq.1).1,s6.2,λd hd=>⟨(Jl d hd).1,by have:=(Jl d hd).2;have:=s6.2;lia⟩,λx hx=>(by cases hx)⟩) (λh i p hi hp=>Aq (P:=λi (p:aH)=>i<12->sZ sc i p.aQ) (λi p hp hi=>hI h i p hi hp) (hb h) i p hp hi))
 ·refine h _ λo5 o6 o7 o8 o9 o10 lO ps e x a ea len wf rp hI=>?_
  subst e
  cases lO with
  |nil=>exact q _ _ ps len wf rp (x.ext (((aA.aO _ _).trans ((aA.aO _ _).trans (aA.aO _ _))).trans cq) (cg _)) (cg _) a
  |cons _ _=>cases ea)
end
def Ar(ps fS:List aH):Prop:=fS.length=ps.length/\∀(i:Nat) p',fS[i]?=some p'->(nZ ps p'/\Dm i p')/\∃p,ps[i]?=some p/\p'.aQ=p.aQ
theorem Ar.wf{ps fS:List aH}(h:Ar ps fS):dv fS:=by
 have up:∀{b j},ib ps b j->ib fS b j:=λ{b j} ho=>ho.elim λq hq=>(at_of (show j<fS.length by rw[h.1];exact(dZ.mp hq.1).1)).elim λp' dB=>(h.2 j p' dB).2.elim λp hp=>by
  rw[hp.1] at hq
  exact⟨p',dB,by rw[hp.2];cases hq.1;exact hq.2⟩
 exact λk p' dB=>(h.2 k p' dB).1.1 _ λa b c d z=>(.mk (λj hj=>up (a j hj)) (λx hx j hj=>up (b x hx j hj)) c d z)
def Dr(ps:List aH)(c:Int)(l la:Nat)(H₁:Hp)(as:List (Nat×Int))(ρ:bB)(H':Hp):Prop:=∀AdIζ:Prop,(∀(o3 o4 o5 o6 o7 o8 o9 o10:Option V) (k:Nat) (xs:List Int) (fS:List aH) (e:ρ=[some (.ref l),some (.int c),some (.ref la),o3,o4,o5,o6,o7,o8,o9,o10]) (x:bK la H₁ H') (a:H'[la]?=some (.list (fS.map bQ))) (ea:as=en k xs) (len:k+xs.length=ps.length) (ad:Ar ps fS),AdIζ)->AdIζ
theorem Dr.mk{ps:List aH}{c:Int}{as:List (Nat×Int)}(o3 o4 o5 o6 o7 o8 o9 o10:Option V)(k:Nat)(xs:List Int)(fS:List aH)(e:ρ=[some (.ref l),some (.int c),some (.ref la),o3,o4,o5,o6,o7,o8,o9,o10])(x:bK la H₁ H')(a:H'[la]?=some (.list (fS.map bQ)))(ea:as=en k xs)(len:k+xs.length=ps.length)(ad:Ar ps fS):Dr ps c l la H₁ as ρ H':=λZ cm=>cm o3 o4 o5 o6 o7 o8 o9 o10 k xs fS e x a ea len ad
section
variable{c:Int}
theorem oX(h:H[l]?=some (.list vs)):copyOf H (.ref l)=some vs:=by
 refine(?_:(match H[l]?.bind iZ with|some es=>_|none=>eQ H (.ref l))=_)
 rw[h];exact cC h
theorem Ds{k:Nat}{K:Hp->Prop}(h:H[l]?=some (.list vs))(hk:k<vs.length)(q:K (H.set l (.list (vs.set k v)))):sE (.ref l) (nv k) v H K:=au h (And.intro ⟨kJ k,jk.mpr hk⟩ q)
theorem Uk{ps:List aH}(hA:H[l]?=some (.list (ps.map bQ)))(hW:dv ps)(hl:ps.length<=20)(hR:ox ps)(q:∀la H' fS,fS.length=ps.length->dv fS->ox fS->aA H H'->H.length<=la->H'[la]?=some (.list (fS.map bQ))->Q (.ref la) H'):ay (n+2) 31 [.ref l,.int c] H Q Y:=RJ (by
 apply au (oX hA)
 refine cM (cP (by rw[aS];exact bM hl (by decide))) ?_
 apply au (cC (be _ hA))
 rw[aS]
 refine b6 (vX (n:=n) (aR hl (by decide)) λls H₂ xs uE Dq nk cq ax=>?_)
 have a0:=aZ H (.list (ps.map bQ))
 have l2:H.length<ls:=fh (cG a0) nk
 apply au (cC ax)
 rw[Ao]
 refine fR (Dr ps c l H.length H₂) (λkx as ρ H' h=>?_) (λρ H' h=>?_) _ _ _ (.mk none none none none none none none none 0 xs ps rfl (bK.refl _ _) (cq _ _ a0) rfl (by rw[zero_add];exact uE) ⟨rfl,λi p hp=>⟨⟨hW i p hp,hR i p hp⟩,p,hp,rfl⟩⟩)
 ·refine h _ λo3 o4 o5 o6 o7 o8 o9 o10 k lO fS e x a ea len ad=>?_
  subst e
  cases lO with
  |nil=>cases ea
  |cons xx lO=>
   have ek:kx=(k,xx):=(g9 ea).1
   have eas:as=en (k+1) lO:=(g9 ea).2
   subst ek
   rw[iY] at len
   have hk:k<ps.length:=by lia
   refine λN hN=>?_
   have xH:aA H H':=x.ext ((aA.aO _ _).trans cq) (cg _)
   have st:∀{H''},bK H.length H₂ H''->fN [ls] H₂ H''=true:=λx=>dm ax (x _ _ (fE l2) ax)
   refine(at_of hk).elim λp hp=>?_
   have j9:=xH _ _ hA
   apply au (ee j9 hp)
   apply au (cC j9)
   rw[aS]
   refine rL (bM hl (by decide)) (cM (cP (by rw[aS,kH];exact bM hl (by decide))) ?_)
   refine iF (P:=rO ps p.aQ) (F:=nv) _ _ _ (λj hj T hT=>?_) (λj Z Z N hN=>hN) ?_
   ·refine(at_of (jl.mp hj)).elim λpj Jm=>?_
    apply au (ee j9 Jm)
    unfold rO at hT
    rw[Jm] at hT
    exact An (T:=T) hT
   ·have vY:∀j∈(List.range ps.length).filter (rO ps p.aQ),ib ps p.aQ j:=λj hj=>Jj (lG.mp hj).2
    have ae:=aZ H' (.list (aX ((List.range ps.length).filter (rO ps p.aQ))))
    generalize (List.range ps.length).filter (rO ps p.aQ)=es at vY ae
    have no:∀{H''} {o3 o4 o5 o6 o7 o8 o9 o10},aA H' H''->N [some (.ref l),some (.int c),some (.ref H.length),o3,o4,o5,o6,o7,o8,o9,o10] H'':=λx'=>hN _ _ (st (x.trans (x'.b _))) (.mk _ _ _ _ _ _ _ _ (k+1) lO fS rfl (x.trans (x'.b _)) (x' _ _ a) eas (by lia) ad)
    have fin:∀{al H₃} {o3 o4 o5 o6 o7 o8 o9 o10},(∀j∈al,j∈es)->jP al->al≠[]->(∀d,p.bR=some d->p.aQ+xx.fmod 30<d)->aA H' H₃->sE (.ref H.length) (nv k) (.aC [.int p.aQ,.aC (aX p.ca),.aC [.int (p.aQ+xx.fmod 30),.aC (aX al)],fW p.bR]) H₃ (λH₄=>N [some (.ref l),some (.int c),some (.ref H.length),o3,o4,o5,o6,o7,o8,o9,o10] H₄):=λ{al H₃ _ _ _ _ _ _ _ _} eW h2 dQ du cN=>by
     have xM:k<fS.length:=by rw[ad.1];exact hk
     refine Ds (cN _ _ a) (by rw[aS];exact xM) ?_
     have x4:=x.trans ((cN.b _).trans (bK.set H.length H₃ (.list ((fS.map bQ).set k (.aC [.int p.aQ,.aC (aX p.ca),.aC [.int (p.aQ+xx.fmod 30),.aC (aX al)],fW p.bR])))))
     refine hN _ _ (st x4) (.mk _ _ _ _ _ _ _ _ (k+1) lO (fS.set k ⟨p.aQ,p.ca,some (p.aQ+xx.fmod 30,al),p.bR⟩) rfl x4 (?_) eas (by lia) ⟨by rw[kG];exact ad.1,λi p' dB=>?_⟩)
     ·rw[map_set];exact eX (cN _ _ a) _
     ·by_cases Jn:k=i
      ·subst Jn
       rw[sd xM] at dB
       cases dB
       exact⟨⟨(hW k p hp) _ λa' b' c' d' z'=>(.mk a' (λy hy j hj=>by cases hy;exact vY j (eW j hj)) c' (λy hy=>by cases hy;exact h2) z'),(hR k p hp).1,(hR k p hp).2.1,(hR k p hp).2.2.1,λy hy=>by
        cases hy
        have Ul:=qA xx (b:=30) (by decide)
        have:=(hR k p hp).2.1
        exact⟨by refine(?_:p.aQ<=p.aQ+xx.fmod 30);lia,by refine(?_:p.aQ+xx.fmod 30<=100000);lia,du,dQ⟩⟩,p,hp,rfl⟩
      ·rw[getElem?_set_ne Jn] at dB
       exact ad.2 i p' dB
    refine(?_:bz (((xx.fdiv 30).fmod 4==0)==true) _ _)
    refine fC (λh1=>?_) λh1=>e8 h1 (no (aA.aO _ _))
    apply au (ne_nil (be _ ae) (um _ _) (aZ _ _))
    rw[mV]
    have Dt:∀a b:List bt,aA H' (H'++a++b):=λa b=>(aA.aO _ _).trans (aA.aO _ _)
    refine fC (λh2=>?_) λh2=>e8 h2 (no (Dt _ _))
    have Um:es≠[]:=λe=>by rw[e] at h2;cases h2
    have sm:(∀d,p.bR=some d->p.aQ+xx.fmod 30<d)->∀(al:List Nat) (H₃:Hp),(∀j∈al,j∈es)->jP al->(al=[]->es=[]\/(1:Int)=0)->aA (H'++[.list (aX es)]++[.list []]) H₃->_:=λdu al H₃ eW h2 hz cN=>fin (o3:=some (nv k)) (o4:=some (.int xx)) (o5:=some (.int p.aQ)) (o6:=some (.aC (aX p.ca))) (o7:=some (mv p.ad)) (o8:=some (fW p.bR)) (o9:=some (.ref H'.length)) (o10:=some (.int (p.aQ+xx.fmod 30))) eW h2 (λe=>(hz e).elim Um (by decide)) du ((Dt _ _).trans cN)
    have Du:=no (o3:=some (nv k)) (o4:=some (.int xx)) (o5:=some (.int p.aQ)) (o6:=some (.aC (aX p.ca))) (o7:=some (mv p.ad)) (o8:=some (fW p.bR)) (o9:=some (.ref H'.length)) (o10:=some (.int (p.aQ+xx.fmod 30))) (Dt [.list (aX es)] [.list []])
    revert sm Du
    cases hd:p.bR with
    |none=>exact λsm Z=>b6 (Dk (be _ ae) (sm λZ h=>nomatch h))
    |some e=>
     intro sm Du
     refine(?_:bz (decide (p.aQ+xx.fmod 30<e)) _ _)
     exact cb (λdu=>b6 (Dk (be _ ae) (sm λd hd=>by cases hd;exact cf du))) λZ=>Du
 ·refine h _ λo3 o4 o5 o6 o7 o8 o9 o10 k lO fS e x a ea len ad=>?_
  subst e
  exact q _ _ fS ad.1 ad.wf (λi p' dB=>(ad.2 i p' dB).1.2) (x.ext ((aA.aO _ _).trans cq) (cg _)) (cg _) a)
end
section
variable{c:Int}
theorem Un{R:List V×List Nat->Hp->Prop}{a b:V}(h:ρ[j]?.join=some (.aC [a,b,z]))(q:R ([a,b],[]) H):rq C (.of (.iN (.J j) none (some (kI 2)))) ρ H R:=au h q
noncomputable def fH(ps:List aH)(j:Nat):Bool:=(ps[j]?).elim false λp=>p.bR.isSome
noncomputable def kZ(ps:List aH)(j:Nat):V:=(ps[j]?).elim .none λp=>fW p.bR
noncomputable def dI(ps:List aH)(j:Nat):Option Int:=ps[j]?.bind (·.bR)
noncomputable def jB(D:Int):Option Int->Option Int->Int
 |none,none=>D
 |some x,none=>x
 |none,some y=>y
 |some x,some y=>min x y
theorem Jo{ps:List aH}{b:Nat}(ha:a<ps.length)(hb:b<ps.length):∃is,allInts (([a,b].filter (fH ps)).map (kZ ps))=some is/\∀D,minOf is D=jB D (dI ps a) (dI ps b):=(at_of ha).elim λp hp=>(at_of hb).elim λp' dB=>by
 have e1:fH ps a=p.bR.isSome:=by unfold fH;rw[hp];rfl
 have e2:fH ps b=p'.bR.isSome:=by unfold fH;rw[dB];rfl
 have v1:kZ ps a=fW p.bR:=by unfold kZ;rw[hp];rfl
 have v2:kZ ps b=fW p'.bR:=by unfold kZ;rw[dB];rfl
 rw[filter_cons,filter_cons,e1,e2,filter_nil,show dI ps a=p.bR by unfold dI;rw[hp];rfl,show dI ps b=p'.bR by unfold dI;rw[dB];rfl]
 revert v1 v2
 generalize p.bR=o1
 generalize p'.bR=o2
 intro v1 v2
 cases o1 with
 |none=>
  cases o2 with
  |none=>exact⟨[],rfl,λZ=>rfl⟩
  |some y=>exact⟨[y],(by refine(?_:allInts [kZ ps b]=_);rw[v2];rfl),λZ=>rfl⟩
 |some x=>
  cases o2 with
  |none=>exact⟨[x],(by refine(?_:allInts [kZ ps a]=_);rw[v1];rfl),λZ=>rfl⟩
  |some y=>exact⟨[x,y],(by refine(?_:allInts [kZ ps a,kZ ps b]=_);rw[v1,v2];rfl),λZ=>rfl⟩
theorem Jp{C:Ct}{ps:List aH}{ws:List Nat}{b:Nat}{test:bB->Hp->(Bool->Hp->Prop)->Prop}{elt:bB->Hp->PQ->Prop}{R:List V->Hp->Prop}(ha:a<ps.length)(hb:b<ps.length)(ht:∀(j:Nat) p (T:Bool->Hp->Prop),ps[j]?=some p->T p.bR.isSome H->test (some (nv j)::d6) H T)(he:∀(j:Nat) p (N:PQ),ps[j]?=some p->N (fW p.bR) H->elt (some (nv j)::d6) H N)(q:R ([]++([a,b].filter (fH ps)).map (kZ ps)) H):iQ ws H (.J 0) test elt [nv a,nv b] (o::d6) H [] R:=by
 have oW:∀j∈[a,b],j<ps.length:=λj hj=>(cH.mp hj).elim (λe=>e▸ha) λh=>by rw[cI.mp h];exact hb
 refine iF (g:=nv) (P:=fH ps) (F:=kZ ps) [a,b] _ _ (λj hj T hT=>?_) (λj hj Z N hN=>?_) q
 ·refine(at_of (oW j hj)).elim λp hp=>ht j p T hp ?_
  unfold fH at hT
  rw[hp] at hT
  exact hT
 ·refine(at_of (oW j hj)).elim λp hp=>he j p N hp ?_
  unfold kZ at hN
  rw[hp] at hN
  exact hN
theorem Jq{ps:List aH}{b:Nat}(hA:H[l]?=some (.list (ps.map bQ)))(ha:a<ps.length)(hb:b<ps.length)(q:∀H',aA H H'->Q (.int (jB (10^9) (dI ps a) (dI ps b))) H'):ay (n+1) 36 [.ref l,.aC [nv a,nv b,z]] H Q Y:=RL (by
 unfold Bk
 refine dU (j8 (Un (j:=1) rfl (cM (cP (show 2<16000000 by decide)) ?_)))
 refine Jp (C:=⟨ay n,xq Y⟩) ha hb (λj p T hp hT=>?_) (λj p N hp hN=>?_) ?_
 ·apply au (ee hA hp)
  unfold bQ
  cases hd:p.bR with
  |none=>rw[hd] at hT;exact hT
  |some d=>rw[hd] at hT;exact hT
 ·apply au (ee hA hp)
  exact hN
 ·refine(Jo ha hb).elim λis yf=>?_
  have e:kN (H++[.list ([]++([a,b].filter (fH ps)).map (kZ ps))]) (.ref H.length)=some is:=by
   refine(?_:(eQ _ (.ref H.length)).bind allInts=_)
   rw[cC (aZ _ _)];exact yf.1
  apply au e
  have q:=q _ (aA.aO H [.list ([]++([a,b].filter (fH ps)).map (kZ ps))])
  rw[<-yf.2] at q
  exact q)
noncomputable def vZ(ps:List aH)(w u:eA):Bool:=decide (jB (10^9) (dI ps w.a) (dI ps w.b)>u.day)&&decide (jB (10^9) (dI ps u.a) (dI ps u.b)>w.day)
theorem Jr{ps:List aH}{b a':Nat}{d':Int}(hA:H[l]?=some (.list (ps.map bQ)))(ha:a<ps.length)(hb:b<ps.length)(qq:a'<ps.length)(lQ:b'<ps.length)(q:∀H',aA H H'->Q (.bool (vZ ps ⟨a,b,d⟩ ⟨a',b',d'⟩)) H'):ay (n+2) 37 [.ref l,.aC [nv a,nv b,.int d],.aC [nv a',nv b',.int d']] H Q Y:=RM (by
 refine b6 (Jq hA ha hb λH₁ yg=>?_)
 have q:∀H',aA H H'->Q (.bool (decide (jB (10^9) (dI ps a) (dI ps b)>d')&&decide (jB (10^9) (dI ps a') (dI ps b')>d))) H':=q
 refine(?_:bz (decide (jB (10^9) (dI ps a) (dI ps b)>d')==true) _ _)
 refine fC (λh1=>?_) λh1=>?_
 ·rw[h1] at q
  exact b6 (Jq (yg _ _ hA) qq lQ λH₂ cq=>q _ (yg.trans cq))
 ·have q:=q _ yg
  rw[h1] at q
  refine(?_:Q (.bool (decide (jB (10^9) (dI ps a) (dI ps b)>d'))) H₁)
  rw[h1];exact q)
end
noncomputable abbrev Uo:S:=.aN (.J 5) (.bin .mod (.J 4) (.bi .len [.J 0]))
noncomputable abbrev Up:S:=.aN (.J 6) (.bin .mod (.bin .fdiv (.J 4) (kI 60)) (.bi .len [.J 0]))
noncomputable abbrev Uq:S:=.aN (.J 7) (.bin .add (.bi .max2 [(.aP (.aP (.J 0) (.J 5)) (kI 0)),(.aP (.aP (.J 0) (.J 6)) (kI 0))]) (.bin .mod (.bin .fdiv (.J 4) (kI 3600)) (kI 40)))
noncomputable abbrev Ur:S:=.aN (.J 9) (.and [(.cmp .ne (.J 5) (.J 6)),(.call 32 [.J 0,.J 5,.J 7]),(.call 32 [.J 0,.J 6,.J 7])])
noncomputable abbrev Us:List S:=[.br (.or [(.cmp .jZ (.J 5) (.iN (.J 10) none (some (kI 2)))),(.cmp .jZ (.J 6) (.iN (.J 10) none (some (kI 2))))])
    [.aN (.J 9) (.and [.J 9,(.not (.call 37 [.J 0,.J 8,.J 10]))])]
    []]
noncomputable abbrev Ut:S:=.for (.J 10) (.of (.J 3)) Us
noncomputable abbrev mC(l:Nat)(c:Int)(m lf:Nat)(x:Int)(o5 o6 o7 o8 o9 o10:Option V):bB:=[some (.ref l),some (.int c),some (nv m),some (.ref lf),some (.int x),o5,o6,o7,o8,o9,o10]
noncomputable def lV(w u:eA):Bool:=(((u.a:Int)==(w.a:Int))||(((u.b:Int)==(w.a:Int))||false))||(((u.a:Int)==(w.b:Int))||(((u.b:Int)==(w.b:Int))||false))
noncomputable def clear(ps:List aH)(w u:eA):Bool:=!(lV w u&&vZ ps w u)
def Dv(ps:List aH)(w:eA):Prop:=w.a≠w.b/\lv ps w.day w.a=true/\lv ps w.day w.b=true/\0<=w.day/\w.day<=100000
def As(ps:List aH)(ms:List eA):Prop:=(∀w∈ms,Dv ps w)/\ms.Pairwise λu w=>clear ps w u=true
def Dw(ps:List aH)(t0:Bool)(ms:List eA)(l:Nat)(c:Int)(m lf:Nat)(x:Int)(a b:Nat)(d:Int)(N:Nat)(H:Hp)(as:List eA)(ρ:bB)(H':Hp):Prop:=∀WmIζ:Prop,(∀(t:Bool) (o10:Option V) (pre:List eA) (e:ρ=mC l c m lf x (some (nv a)) (some (nv b)) (some (.int d)) (some (.aC [nv a,nv b,.int d])) (some (.bool t)) o10) (ext:aA H H') (ok:jz N as) (tot:pre++as=ms) (nm:t=true->t0=true/\∀u∈pre,clear ps ⟨a,b,d⟩ u=true),WmIζ)->WmIζ
theorem Dw.mk{ps:List aH}{t0:Bool}{c:Int}{m:Nat}{b:Nat}{as:List eA}(t:Bool)(o10:Option V)(pre:List eA)(e:ρ=mC l c m lf x (some (nv a)) (some (nv b)) (some (.int d)) (some (.aC [nv a,nv b,.int d])) (some (.bool t)) o10)(ext:aA H H')(ok:jz N as)(tot:pre++as=ms)(nm:t=true->t0=true/\∀u∈pre,clear ps ⟨a,b,d⟩ u=true):Dw ps t0 ms l c m lf x a b d N H as ρ H':=λZ cm=>cm t o10 pre e ext ok tot nm
section
variable{c:Int}{m b:Nat}{K:Out->Prop}{ps:List aH}
theorem Au{ps:List aH}(h:0<ps.length):((ps.length:Nat):Int)≠0:=Int.ofNat_ne_zero.mpr (fE h)
theorem q5(hA:H[l]?=some (.list (ps.map bQ)))(h0:0<ps.length)(h:∀a,a<ps.length->aG ⟨ay n,Y⟩ rest (mC l c m lf x (some (nv a)) o6 o7 o8 o9 o10) H K):aG ⟨ay n,Y⟩ (Uo::rest) (mC l c m lf x o5 o6 o7 o8 o9 o10) H K:=by
 apply au (cC hA)
 rw[aS]
 apply au (gi (a:=x) (Au h0))
 refine(jA x h0).elim λa ha=>?_
 rw[ha.1]
 exact h a ha.2
theorem q6(hA:H[l]?=some (.list (ps.map bQ)))(h0:0<ps.length)(h:∀a,a<ps.length->aG ⟨ay n,Y⟩ rest (mC l c m lf x o5 (some (nv a)) o7 o8 o9 o10) H K):aG ⟨ay n,Y⟩ (Up::rest) (mC l c m lf x o5 o6 o7 o8 o9 o10) H K:=by
 apply au (cC hA)
 rw[aS]
 apply au (gi (a:=x.fdiv 60) (Au h0))
 refine(jA (x.fdiv 60) h0).elim λa ha=>?_
 rw[ha.1]
 exact h a ha.2
theorem q7(hW:dv ps)(hR:ox ps)(hA:H[l]?=some (.list (ps.map bQ)))(ha:a<ps.length)(hb:b<ps.length)(h:∀d,0<=d/\d<=100000->aG ⟨ay n,Y⟩ rest (mC l c m lf x (some (nv a)) (some (nv b)) (some (.int d)) o8 o9 o10) H K):aG ⟨ay n,Y⟩ (Uq::rest) (mC l c m lf x (some (nv a)) (some (nv b)) o7 o8 o9 o10) H K:=by
 refine(at_of ha).elim λp hp=>(at_of hb).elim λp' dB=>?_
 apply au (ee hA hp)
 apply au (ee hA dB)
 refine h _ ?_
 have YX:=qA (x.fdiv 3600) (b:=40) (by decide)
 have z1:0<=p.aQ:=(hW a p hp) _ λZ Z Z Z z=>z
 have z2:0<=p'.aQ:=(hW b p' dB) _ λZ Z Z Z z=>z
 have b1:=(hR a p hp).2.1
 have b2:=(hR b p' dB).2.1
 refine(?_:0<=max p.aQ p'.aQ+(x.fdiv 3600).fmod 40/\max p.aQ p'.aQ+(x.fdiv 3600).fmod 40<=100000)
 rcases Int.le_total p.aQ p'.aQ with nO|nO
 ·rw[Int.max_eq_right nO];exact⟨by lia,by lia⟩
 ·rw[Int.max_eq_left nO];exact⟨by lia,by lia⟩
theorem q9(hA:H[l]?=some (.list (ps.map bQ)))(ha:a<ps.length)(hb:b<ps.length)(h:∀t,(t=true->a≠b/\lv ps d a=true/\lv ps d b=true)->aG ⟨ay (n+1),Y⟩ rest (mC l c m lf x (some (nv a)) (some (nv b)) (some (.int d)) o8 (some (.bool t)) o10) H K):aG ⟨ay (n+1),Y⟩ (Ur::rest) (mC l c m lf x (some (nv a)) (some (nv b)) (some (.int d)) o8 o9 o10) H K:=by
 refine(at_of ha).elim λp hp=>(at_of hb).elim λp' dB=>?_
 refine(?_:bz ((!((a:Int)==(b:Int)))==true) _ _)
 refine fC (λh1=>?_) λh1=>h _ λe=>absurd (h1.symm.trans e) gq
 refine b6 (Ac hA hp ?_)
 refine(?_:bz (d7 p d==true) _ _)
 refine fC (λh2=>?_) λh2=>h _ λe=>absurd (h2.symm.trans e) gq
 exact b6 (Ac hA dB (h _ λh3=>⟨λe=>(by rw[e,gr] at h1;cases h1),(i9 hp).trans h2,(i9 dB).trans h3⟩))
theorem Uu{ms:List eA}{t:Bool}(hA:H[l]?=some (.list (ps.map bQ)))(ha:a<ps.length)(hb:b<ps.length)(hM:H[lf]?=some (.list (ms.map dK)))(ok:jz ps.length ms)(h:∀t' o10 H',(t'=true->t=true/\∀u∈ms,clear ps ⟨a,b,d⟩ u=true)->aA H H'->aG ⟨ay (n+2),Y⟩ rest (mC l c m lf x (some (nv a)) (some (nv b)) (some (.int d)) (some (.aC [nv a,nv b,.int d])) (some (.bool t')) o10) H' K):aG ⟨ay (n+2),Y⟩ (Ut::rest) (mC l c m lf x (some (nv a)) (some (nv b)) (some (.int d)) (some (.aC [nv a,nv b,.int d])) (some (.bool t)) o10) H K:=by
 apply au (cT hM)
 refine fR (Dw ps t ms l c m lf x a b d ps.length H) (λw as ρ H' hI=>?_) (λρ H' hI=>?_) _ _ _ (.mk t o10 [] rfl (aA.refl _) ok rfl λe=>⟨e,λZ h=>nomatch h⟩)
 ·refine hI _ λt' o10 pre e ext ok tot nm=>?_
  subst e
  refine λN hN=>?_
  have hw:=ok w cJ
  have no:∀t2 H'',(t2=true->t'=true/\clear ps ⟨a,b,d⟩ w=true)->aA H' H''->N (mC l c m lf x (some (nv a)) (some (nv b)) (some (.int d)) (some (.aC [nv a,nv b,.int d])) (some (.bool t2)) (some (dK w))) H'':=λt2 H'' ht x'=>hN _ _ (dm hM ((ext.trans x') _ _ hM)) (.mk t2 _ (pre++[w]) rfl (ext.trans x') (λw h=>ok w (.tail _ h)) (gh tot) λe=>⟨(nm (ht e).1).1,λu hu=>(cF.mp hu).elim ((nm (ht e).1).2 u) λhu=>by rw[cI.mp hu];exact(ht e).2⟩)
  have yes:lV ⟨a,b,d⟩ w=true->aG ⟨ay (n+2),Y⟩ [.aN (.J 9) (.and [.J 9,(.not (.call 37 [.J 0,.J 8,.J 10]))])] (mC l c m lf x (some (nv a)) (some (nv b)) (some (.int d)) (some (.aC [nv a,nv b,.int d])) (some (.bool t')) (some (dK w))) H' (λo=>i0 o N False):=λUv=>by
   refine(?_:bz (t'==true) _ _)
   refine fC (λh1=>?_) λh1=>no _ _ (λe=>absurd (h1.symm.trans e) gq) (aA.refl _)
   exact b6 (Jr (n:=n) (ext _ _ hA) ha hb hw.1 hw.2 λH'' x'=>no _ _ (λe=>⟨h1,by unfold clear;rw[Uv];exact e⟩) x')
  refine(?_:bz ((((w.a:Int)==(a:Int))||(((w.b:Int)==(a:Int))||false))==false) _ _)
  refine fD (λh1=>?_) λh1=>ey h1 (yes (by unfold lV;rw[h1];rfl))
  refine(?_:bz (((w.a:Int)==(b:Int))||(((w.b:Int)==(b:Int))||false)) _ _)
  exact cb (λh2=>yes (by unfold lV;rw[h2,Bool.or_true])) λh2=>no _ _ (λe=>⟨e,by unfold clear lV;rw[h1,h2];rfl⟩) (aA.refl _)
 ·refine hI _ λt' o10 pre e ext ok tot nm=>?_
  subst e
  rw[dO] at tot
  subst tot
  exact h _ _ _ nm ext
end
def Dy(ps:List aH)(c:Int)(m l lf N:Nat)(H₁:Hp)(as:List Int)(ρ:bB)(H':Hp):Prop:=∀WdIζ:Prop,(∀(o4 o5 o6 o7 o8 o9 o10:Option V) (ms:List eA) (e:ρ=[some (.ref l),some (.int c),some (nv m),some (.ref lf),o4,o5,o6,o7,o8,o9,o10]) (x:bK lf H₁ H') (a:H'[lf]?=some (.list (ms.map dK))) (ok:jz N ms) (wr:As ps ms) (len:ms.length+as.length<=m),WdIζ)->WdIζ
theorem Dy.mk{ps:List aH}{c:Int}{m:Nat}{as:List Int}(o4 o5 o6 o7 o8 o9 o10:Option V)(ms:List eA)(e:ρ=[some (.ref l),some (.int c),some (nv m),some (.ref lf),o4,o5,o6,o7,o8,o9,o10])(x:bK lf H₁ H')(a:H'[lf]?=some (.list (ms.map dK)))(ok:jz N ms)(wr:As ps ms)(len:ms.length+as.length<=m):Dy ps c m l lf N H₁ as ρ H':=λZ cm=>cm o4 o5 o6 o7 o8 o9 o10 ms e x a ok wr len
section
variable{c:Int}{m:Nat}
theorem Uw{ps:List aH}(hW:dv ps)(hR:ox ps)(hA:H[l]?=some (.list (ps.map bQ)))(h0:0<ps.length)(hm:m<=1000)(q:∀lm H' ms,jz ps.length ms->As ps ms->ms.length<=m->aA H H'->H.length<=lm->H'[lm]?=some (.list (ms.map dK))->Q (.ref lm) H'):ay (n+3) 38 [.ref l,.int c,nv m] H Q Y:=RN (by
 refine b6 (vX (n:=n+1) hm λls H₂ xs uE Dq nk cq ax=>?_)
 have a0:=aZ H (.list [])
 have l2:H.length<ls:=fh (cG a0) nk
 apply au (cT ax)
 refine fR (Dy ps c m l H.length ps.length H₂) (λx as ρ H' h=>?_) (λρ H' h=>?_) _ _ _ (.mk none none none none none none none [] rfl (bK.refl _ _) (cq _ _ a0) (λZ h=>(nomatch h)) ⟨λZ h=>(nomatch h),Pairwise.nil⟩ (by rw[length_nil,zero_add];exact iX uE))
 ·refine h _ λo4 o5 o6 o7 o8 o9 o10 ms e x' a ok wr len=>?_
  subst e
  refine λN hN=>?_
  rw[iY] at len
  have xH:aA H H':=x'.ext ((aA.aO _ _).trans cq) (cg _)
  have j9:=xH _ _ hA
  have st:∀{H''},bK H.length H₂ H''->fN [ls] H₂ H''=true:=λx=>dm ax (x _ _ (fE l2) ax)
  refine q5 j9 h0 λb hb=>q6 j9 h0 λb' lQ=>q7 hW hR j9 hb lQ λd hd=>?_
  refine dU ?_
  refine q9 (n:=n+1) j9 hb lQ λt ht=>Uu (n:=n) j9 hb lQ a ok λt' o10 H₃ hc cN=>?_
  have a3:=cN _ _ a
  refine(?_:bz t' _ _)
  refine cb (λh1=>?_) λZ=>hN _ _ (st (x'.trans (cN.b _))) (.mk _ _ _ _ _ _ _ ms rfl (x'.trans (cN.b _)) a3 ok wr (by lia))
  refine gg a3 (gy a3 (by rw[aS];lia) (hN _ _ (st ((x'.trans (cN.b _)).trans (bK.set _ _ _))) (.mk _ _ _ _ _ _ _ (ms++[⟨b,b',d⟩]) rfl ((x'.trans (cN.b _)).trans (bK.set _ _ _)) (?_) (λw hw=>(cF.mp hw).elim (ok w) λh=>by rw[cI.mp h];exact⟨hb,lQ⟩) ⟨λw hw=>(cF.mp hw).elim (wr.1 w) λh=>by rw[cI.mp h];exact⟨(ht (hc h1).1).1,(ht (hc h1).1).2.1,(ht (hc h1).1).2.2,hd⟩,List.pairwise_append.mpr ⟨wr.2,List.pairwise_singleton _ _,λu hu w hw=>by rw[cI.mp hw];exact(hc h1).2 u hu⟩⟩ (by rw[bX];refine(?_:ms.length+1+as.length<=m);lia))))
  rw[gx];exact eX a3 _
 ·refine h _ λo4 o5 o6 o7 o8 o9 o10 ms e x' a ok wr len=>?_
  subst e
  exact q _ _ ms ok wr (aR (fM _ _) len) (x'.ext ((aA.aO _ _).trans cq) (cg _)) (cg _) a)
end
noncomputable abbrev nq(ov un j:Nat):V:=.aC [nv j,nv ov,nv un]
def Dz(l kp:Nat)(x:Int)(r N:Nat)(H:Hp)(as:List Nat)(ρ:bB)(H':Hp):Prop:=∀GfIζ:Prop,(∀(o4 o5:Option V) (ns:List Nat) (e:ρ=[some (.ref l),some (nv kp),some (.int x),some (.ref H.length),o4,o5,none,none]) (ext:aA H H') (a:H'[H.length]?=some (.list (aX ns))) (ok:(∀j∈ns,j<N)/\ns.Nodup/\kp∉ns) (len:ns.length+as.length<=r) (small:∀k∈as,k<r),GfIζ)->GfIζ
theorem Dz.mk{kp:Nat}{r:Nat}{as:List Nat}(o4 o5:Option V)(ns:List Nat)(e:ρ=[some (.ref l),some (nv kp),some (.int x),some (.ref H.length),o4,o5,none,none])(ext:aA H H')(a:H'[H.length]?=some (.list (aX ns)))(ok:(∀j∈ns,j<N)/\ns.Nodup/\kp∉ns)(len:ns.length+as.length<=r)(small:∀k∈as,k<r):Dz l kp x r N H as ρ H':=λZ cm=>cm o4 o5 ns e ext a ok len small
section
variable{kp:Nat}
def Ux(H:Hp)(N kp:Nat)(Q:PQ):Prop:=∀(lg:Nat) (H':Hp) (ns:List Nat) (ov un:Nat),(∀j∈ns,j<N)/\ns.Nodup/\kp∉ns->ns.length<=10->ov<=3->1<=ov->ov*ns.length<=un->un<1000->aA H H'->H.length<=lg->H'[lg]?=some (.list (ns.map (nq ov un)))->Q (.ref lg) H'
theorem Uy(x:Int):∃(z:Int) (r:Nat),fF (.ref (H++[bt.list []]).length) (.int ((x.fdiv 30).fmod 3)) (H++[bt.list []]++[.list [.int 3,.int 3,.int 10]])=some (.int z)/\z≠0/\1+x.fmod z=(r:Int)/\r<=10:=
 have h3:=yd x (k:=3) (c:=10) (by decide) (by decide)
 have iu:=yd x (k:=10) (c:=10) (by decide) (by decide)
 TY (x.fdiv 30) (P:=λi=>∃(z:Int) (r:Nat),fF (.ref (H++[bt.list []]).length) (.int i) (H++[bt.list []]++[.list [.int 3,.int 3,.int 10]])=some (.int z)/\z≠0/\1+x.fmod z=(r:Int)/\r<=10)
  (h3.elim λr h=>⟨3,r,gf (aZ _ _) rfl,by decide,h.1,h.2.2⟩) (h3.elim λr h=>⟨3,r,gf (aZ _ _) rfl,by decide,h.1,h.2.2⟩) (iu.elim λr h=>⟨10,r,gf (aZ _ _) rfl,by decide,h.1,h.2.2⟩)
theorem Uz(x:Int):∃mo:Nat,fF (.ref H.length) (.int ((x.fdiv 7).fmod 2)) (H++[.list [.int ((x.fdiv 11340).fmod 4),.int ((x.fdiv 11340).fmod 900)]])=some (nv mo)/\mo<900:=
 (jA (x.fdiv 11340) (k:=4) (by decide)).elim λa ha=>(jA (x.fdiv 11340) (k:=900) (by decide)).elim λb hb=>mod2 (x.fdiv 7) (P:=λi=>∃mo:Nat,fF (.ref H.length) (.int i) (H++[.list [.int ((x.fdiv 11340).fmod 4),.int ((x.fdiv 11340).fmod 900)]])=some (nv mo)/\mo<900)
  ⟨a,(gf (aZ _ _) rfl).trans (by rw[show(x.fdiv 11340).fmod 4=(a:Int) from ha.1]),lt_trans ha.2 (by decide)⟩ ⟨b,(gf (aZ _ _) rfl).trans (by rw[show(x.fdiv 11340).fmod 900=(b:Int) from hb.1]),hb.2⟩
theorem Js{ps:List aH}(hA:H[l]?=some (.list (ps.map bQ)))(h0:0<ps.length)(q:Ux H ps.length kp Q):ay (n+1) 39 [.ref l,nv kp,.int x] H Q Y:=RP (by
 refine(Uy (H:=H) x).elim λz hz=>hz.elim λr hz=>?_
 apply au hz.1
 apply au (gi hz.2.1)
 refine cR (op:=.add) (p:=1) (q:=x.fmod z) (z:=(r:Int)) (bU some hz.2.2.1) ?_
 have hr:=hz.2.2.2
 refine rL (bM hr (by decide)) ?_
 refine fR (Dz l kp x r ps.length H) (λk as ρ H' h=>?_) (λρ H' h=>?_) _ _ _ (.mk none none [] rfl ((aA.aO _ _).trans (aA.aO _ _)) (be _ (aZ _ _)) ⟨λZ h=>(nomatch h),nodup_nil,λh=>(nomatch h)⟩ (by rw[kH,length_nil,zero_add];exact cg _) (λk hk=>jl.mp hk))
 ·refine h _ λo4 o5 ns e ext a ok len small=>?_
  subst e
  refine λN hN=>?_
  rw[iY] at len
  have hk:=small k cJ
  apply au (ja (i:=10) (j:=10) (a:=(k:Int)) (b:=1+(x.fdiv 540).fmod 7) (qB hk (aR hr (by decide))) ((yd (x.fdiv 540) (k:=7) (c:=1000) (by decide) (by decide)).elim λr h=>by rw[show 1+(x.fdiv 540).fmod 7=(r:Int) from h.1];exact qB (lt_succ_of_le h.2.2) (by decide)) (by decide))
  apply au (cC (ext _ _ hA))
  rw[aS]
  apply au (gi (a:=x.fdiv 90+(k:Int)*(1+(x.fdiv 540).fmod 7)) (Au h0))
  refine(jA (x.fdiv 90+(k:Int)*(1+(x.fdiv 540).fmod 7)) h0).elim λj hj=>?_
  rw[hj.1]
  have no:N [some (.ref l),some (nv kp),some (.int x),some (.ref H.length),some (nv k),some (nv j),none,none] H':=hN _ _ rfl (.mk _ _ ns rfl ext a ok (pP len) (λk hk=>small k (.tail _ hk)))
  refine(?_:bz ((!((j:Int)==(kp:Int)))==true) _ _)
  refine fC (λh1=>?_) λh1=>e8 h1 no
  apply au (Jh a)
  refine cb (λh2=>?_) λh2=>no
  have uF:j∉ns:=λhm=>by rw[c9 hm] at h2;cases h2
  exact gg a (gy a (by rw[aS];exact bM (aR (aR (fM _ _) len) hr) (by decide)) (hN _ _ rfl (.mk _ _ (ns++[j]) rfl (ext.set (cg _) _) (by rw[<-uo];exact eX a _) ⟨λi hi=>(cF.mp hi).elim (ok.1 i) λh=>by rw[cI.mp h];exact hj.2,nodup_append.mpr ⟨ok.2.1,lF.mpr ⟨not_mem_nil,nodup_nil⟩,λi hi i' tW e=>uF (cI.mp tW▸e▸hi)⟩,λhm=>(cF.mp hm).elim ok.2.2 λh=>by rw[cI.mp h,gr] at h1;cases h1⟩ (by rw[bX];refine(?_:ns.length+1+as.length<=r);rw[add_right_comm];exact len) (λk hk=>small k (.tail _ hk)))))
 ·refine h _ λo4 o5 ns e ext a ok len small=>?_
  subst e
  have mu:ns.length<=10:=aR (aR (fM _ _) len) hr
  refine(yd (x.fdiv 3780) (k:=3) (c:=3) (by decide) (cg _)).elim λov qr=>?_
  refine dU (cL (bF (cL (cL (ba rfl (bF ?_))))))
  refine cR (pv (by decide)) (bF (cR (gi (by decide)) (cR rfl ?_)))
  rw[show 1+(x.fdiv 3780).fmod 3=(ov:Int) from qr.1]
  refine au rfl ?_
  refine(Uz (H:=H') x).elim λmo Jt=>?_
  apply au Jt.1
  apply au (cT (be _ a))
  refine cM (cP (by rw[aS];exact bM mu (by decide))) ?_
  refine iF (P:=λZ=>true) (F:=nq ov (ov*ns.length+mo)) _ _ _ (λj Z T hT=>hT) (λj Z Z N hN=>?_) ?_
  ·apply au (cC (be _ a))
   rw[aS]
   apply au (ja (i:=10) (j:=10) (a:=(ov:Int)) (b:=(ns.length:Int)) (qB (lt_succ_of_le qr.2.2) (by decide)) (qB (lt_succ_of_le mu) (by decide)) (by decide))
   exact hN
  ·rw[lS]
   have hmul:ov*ns.length<=30:=aR (Nat.mul_le_mul qr.2.2 mu) (by decide)
   refine q _ _ ns ov (ov*ns.length+mo) ok mu qr.2.2 qr.2.1 (fM _ _) (fh (Nat.add_lt_add_of_le_of_lt hmul Jt.2) (by decide)) (ext.trans ((aA.aO _ _).trans (aA.aO _ _))) (aR ext.len (aA.aO _ _).len) (aZ _ _))
end
def s7(ps:List aH)(w:fY):Prop:=∃p,ps[w.ff]?=some p/\p.aQ<=w.day/\w.day<=100000/\∀d,p.bR=some d->w.day<=d
def DA(ps:List aH)(c:Int)(m l lf N:Nat)(H₁:Hp)(as:List Int)(ρ:bB)(H':Hp):Prop:=∀WlIζ:Prop,(∀(o4 o5 o6 o7:Option V) (ws:List fY) (e:ρ=[some (.ref l),some (.int c),some (nv m),some (.ref lf),o4,o5,o6,o7]) (x:bK lf H₁ H') (a:H'[lf]?=some (.list (ws.map dS))) (ok:Ad N ws) (wd:∀w∈ws,s7 ps w) (len:ws.length+as.length<=m),WlIζ)->WlIζ
theorem DA.mk{ps:List aH}{c:Int}{m:Nat}{as:List Int}(o4 o5 o6 o7:Option V)(ws:List fY)(e:ρ=[some (.ref l),some (.int c),some (nv m),some (.ref lf),o4,o5,o6,o7])(x:bK lf H₁ H')(a:H'[lf]?=some (.list (ws.map dS)))(ok:Ad N ws)(wd:∀w∈ws,s7 ps w)(len:ws.length+as.length<=m):DA ps c m l lf N H₁ as ρ H':=λZ cm=>cm o4 o5 o6 o7 ws e x a ok wd len
def DB(q:Rat)(d6:bB)(H:Hp)(tot as:List Nat)(acc:List V)(ρ:bB)(H':Hp):Prop:=∀TuIζ:Prop,(∀(o o' i8:Option V) (an:List Nat) (e:ρ=o::o'::i8::d6) (eh:H'=H) (ea:acc=an.map λj=>jy (j,q)) (t:an++as=tot),TuIζ)->TuIζ
theorem DB.mk{q:Rat}{tot:List Nat}(o o' i8:Option V)(an:List Nat)(e:ρ=o::o'::i8::d6)(eh:H'=H)(ea:acc=an.map λj=>jy (j,q))(t:an++as=tot):DB q d6 H tot as acc ρ H':=λZ cm=>cm o o' i8 an e eh ea t
theorem pz{α:Type}{f:V->Option PyData}{g:α->V}{d:α->PyData}(h:∀a,f (g a)=some (d a)):∀l:List α,d0 f (l.map g)=some (l.map d)
 |[]=>rfl
 |a::r=>dH (h a) (pz h r)
section
variable{c:Int}{m:Nat}
theorem UA{ps:List aH}(hW:dv ps)(hR:ox ps)(hA:H[l]?=some (.list (ps.map bQ)))(h0:0<ps.length)(hm:m<=1000)(q:∀lw H' ws,Ad ps.length ws->(∀w∈ws,s7 ps w)->ws.length<=m->aA H H'->H.length<=lw->H'[lw]?=some (.list (ws.map dS))->Q (.ref lw) H'):ay (n+2) 40 [.ref l,.int c,nv m] H Q Y:=RQ (by
 refine b6 (vX (n:=n) hm λls H₂ xs uE Dq nk cq ax=>?_)
 have a0:=aZ H (.list [])
 have l2:H.length<ls:=fh (cG a0) nk
 apply au (cT ax)
 refine fR (DA ps c m l H.length ps.length H₂) (λx as ρ H' h=>?_) (λρ H' h=>?_) _ _ _ (.mk none none none none [] rfl (bK.refl _ _) (cq _ _ a0) (λZ h=>(nomatch h)) (λZ h=>(nomatch h)) (by rw[length_nil,zero_add];exact iX uE))
 ·refine h _ λo4 o5 o6 o7 ws e x' a ok wd len=>?_
  subst e
  refine λN hN=>?_
  rw[iY] at len
  have xH:aA H H':=x'.ext ((aA.aO _ _).trans cq) (cg _)
  have j9:=xH _ _ hA
  have st:∀{H''},bK H.length H₂ H''->fN [ls] H₂ H''=true:=λx=>dm ax (x _ _ (fE l2) ax)
  apply au (cC j9)
  rw[aS]
  apply au (gi (a:=x) (Au h0))
  refine(jA x h0).elim λk hk=>?_
  rw[hk.1]
  refine(at_of hk.2).elim λp hp=>?_
  apply au (ee j9 hp)
  refine b6 (Js (n:=n) j9 h0 λlg H₃ ns ov un mu iu qr Ju nO Jv cN Z ag=>?_)
  have no:∀{H''} {o4 o5 o6 o7},aA H' H''->N [some (.ref l),some (.int c),some (nv m),some (.ref H.length),o4,o5,o6,o7] H'':=λqy=>hN _ _ (st (x'.trans (qy.b _))) (.mk _ _ _ _ ws rfl (x'.trans (qy.b _)) (qy _ _ a) ok wd (pP len))
  have x4:=cN.trans (aA.aO H₃ [.list []])
  have yh:=be [.list []] ag
  apply au (ne_nil yh (pz (d:=λj:Nat=>PyData.tuple [.int j,.int ov,.int un]) (λj=>rfl) ns) (aZ _ _))
  rw[mV]
  refine fC (λh1=>?_) λh1=>e8 h1 (no x4)
  have dQ:ns≠[]:=λe=>by rw[e] at h1;cases h1
  have hu:un≠0:=λe=>by have:1*1<=ov*ns.length:=Nat.mul_le_mul Ju (length_pos_iff.mpr dQ);exact absurd (aR this nO) (by rw[e];decide)
  generalize H₃++[bt.list []]=H₄ at x4 yh
  have a4:=x4 _ _ a
  have fin:∀{d:Int} (hd:0<=d/\s7 ps ⟨k,d,ns.map λj=>(j,Rat.normalize ov un hu)⟩) {o4 o5 o6 o7} {H₅:Hp},aA H₄ H₅->ro .append (.ref H.length) [.aC [nv k,.int d,.aC (ns.map λj=>jy (j,Rat.normalize ov un hu))]] H₅ (λZ H₆=>N [some (.ref l),some (.int c),some (nv m),some (.ref H.length),o4,o5,o6,o7] H₆):=λ{d} hd {_ _ _ _ H₅} x5=>by
   have a5:=x5 _ _ a4
   refine gy a5 (by rw[aS];exact bM (aR (fM _ _) len) (bM hm (by decide))) ?_
   have x6:=(x'.trans ((x4.trans x5).b _)).trans (bK.set H.length H₅ (.list (ws.map dS++[.aC [nv k,.int d,.aC (ns.map λj=>jy (j,Rat.normalize ov un hu))]])))
   refine hN _ _ (st x6) (.mk _ _ _ _ (ws++[⟨k,d,ns.map λj=>(j,Rat.normalize ov un hu)⟩]) rfl x6 (?_) (λw hw=>(cF.mp hw).elim (ok w) λh=>?_) (λw hw=>(cF.mp hw).elim (wd w) λh=>by rw[cI.mp h];exact hd.2) (by rw[bX];refine(?_:ws.length+1+as.length<=m);exact(by rw[add_right_comm];exact len)))
   ·rw[gx,eX a5]
    refine(?_:_=some (bt.list (_++[dS ⟨k,d,_⟩])))
    unfold dS iG
    rw[map_map];rfl
   ·rw[cI.mp h]
    refine(.mk ⟨λg hg=>(fj.mp hg).elim λj hj=>hj.2▸⟨mu.1 j hj.1,Sm.qu hu (show(ov:Int).natAbs<2^10 from qB (lt_succ_of_le qr) (by decide)) (show un<2^10 from lt_trans Jv (by decide))⟩,by rw[aS];exact iu⟩ hd.1 ns ov un hu rfl Ju Jv nO ⟨mu.2.1,mu.2.2,dQ⟩)
  have aC:∀{d:Int},0<=d/\s7 ps ⟨k,d,ns.map λj=>(j,Rat.normalize ov un hu)⟩->aG ⟨ay (n+1),Y⟩ [.expr (.d8 .append (.J 3) [(.aC [.J 5,.J 6,(.bi .tupleOf [(.comp 3 (.aC [.J 0,(.call 41 [.J 1,.J 2])]) (.aC [.J 0,.J 1,.J 2]) (.of (.J 7)) [])])])])] [some (.ref l),some (.int c),some (nv m),some (.ref H.length),some (.int x),some (nv k),some (.int d),some (.ref lg)] H₄ (λo=>i0 o N False):=λ{d} hd=>by
   refine gg a4 ?_
   apply au (cT yh)
   refine cM (cP (by rw[aS];exact bM iu (by decide))) ?_
   refine pf (g:=nq ov un) (DB (Rat.normalize ov un hu) [some (.ref l),some (.int c),some (nv m),some (.ref H.length),some (.int x),some (nv k),some (.int d),some (.ref lg)] H₄ ns) (λj as acc ρ H' h=>?_) (λacc ρ H' h=>?_) ns _ _ _ (.mk none none none [] rfl rfl rfl rfl)
   ·refine h _ λo o' i8 an e eh ea t=>?_
    subst e eh
    refine λN' j5=>b6 (CE hu ?_)
    exact j5 _ _ (dm yh yh) (.mk _ _ _ (an++[j]) rfl rfl (by rw[ea,gx];rfl) (gh t))
   ·refine h _ λo o' i8 an e eh ea t=>?_
    rw[dO] at t
    subst eh ea t
    apply au (cC (aZ _ _))
    exact fin hd (aA.aO _ _)
  have Jw:0<=p.aQ+(x.fdiv 60).fmod 30:=Int.add_nonneg ((hW k p hp) _ λZ Z Z Z z=>z) (qA _ (by decide)).1
  have Ul:=qA (x.fdiv 60) (b:=30) (by decide)
  have zM:p.aQ<=p.aQ+(x.fdiv 60).fmod 30:=by lia
  have Jx:p.aQ+(x.fdiv 60).fmod 30<=100000:=by have:=(hR k p hp).2.1;lia
  apply au (ee (x4 _ _ j9) hp)
  unfold bQ
  cases hd:p.bR with
  |none=>exact aC ⟨Jw,p,hp,zM,Jx,λd h=>by rw[hd] at h;cases h⟩
  |some dd=>
   apply au (ee (x4 _ _ j9) hp)
   unfold bQ
   rw[hd]
   refine(?_:bz (decide (p.aQ+(x.fdiv 60).fmod 30<=dd)) _ _)
   exact cb (λh9=>aC ⟨Jw,p,hp,zM,Jx,λd h=>by rw[hd] at h;cases h;exact cf h9⟩) λZ=>no x4
 ·refine h _ λo4 o5 o6 o7 ws e x' a ok wd len=>?_
  subst e
  exact q _ _ ws ok wd (aR (fM _ _) len) (x'.ext ((aA.aO _ _).trans cq) (cg _)) (cg _) a)
end
section
variable{K:Out->Prop}{r:List S}{t:dq}{a i E1 E2:E}{x y:V}{R:Bool->Hp->Prop}
theorem iR(h:Q (.ref H.length) (H++[.list vs])):mm vs H Q:=h
theorem iw{b c:List S}(h:tM C e ρ H λt H=>bz t (aG C b ρ H λo=>i0 o (λρ H=>aG C r ρ H K) (K o)) (aG C c ρ H λo=>i0 o (λρ H=>aG C r ρ H K) (K o))):aG C (.br e b c::r) ρ H K:=h
theorem pA{op:nG}(h:WE C a ρ H λx H=>WE C i ρ H λy H=>aI (e7 op x y H) λt=>R t H):tM C (.cmp op a i) ρ H R:=h
theorem pB(h:WE C a ρ H λx H=>aI (truthy H x) λb=>R b H):tM C a ρ H R:=h
theorem UB(h:WE C E1 ρ H λx H=>aI (truthy H x) λb=>R (!b) H):tM C (.not E1) ρ H R:=h
theorem DC(h:WE C E1 ρ H λx H=>aI (truthy H x) λb=>Q (.bool (!b)) H):WE C (.not E1) ρ H Q:=h
theorem nr{R:List V×List Nat->Hp->Prop}(h:WE C e ρ H λx H=>aI (keysOf H x) λvs=>R (vs,watch x) H):rq C (.of e) ρ H R:=h
theorem cD(h:WE C a ρ H λx H=>WE C i ρ H λy H=>aI (fF x y H) λv=>Q v H):WE C (.aP a i) ρ H Q:=h
theorem yi(h:R true H):WT C [] ρ H R:=h
theorem mr(h:K (.next ρ H)):aG C [] ρ H K:=h
theorem oy(h:WE C a ρ H λv H=>K (.ret v H)):aG C (.ret a::r) ρ H K:=h
theorem Jy(h:WE C e ρ H λZ H=>aG C r ρ H K):aG C (.expr e::r) ρ H K:=h
theorem jg{op:nG}(h:WE C E1 ρ H λx H=>WE C E2 ρ H λy H=>aI (e7 op x y H) λt=>Q (.bool t) H):WE C (.cmp op E1 E2) ρ H Q:=h
theorem Av(h:WE C E1 ρ H λx H=>aI (truthy H x) λt=>bz (t==true) (WE C E2 ρ H Q) (Q x H)):WE C (.and [E1,E2]) ρ H Q:=h
theorem yj(h:WE C E1 ρ H λx H=>aI (truthy H x) λt=>bz (t==false) (WE C E2 ρ H Q) (Q x H)):WE C (.or [E1,E2]) ρ H Q:=h
theorem ke{x y:E}(h:WE C x ρ H λu H=>WE C y ρ H λv H=>C.call f [u,v] H Q C.exc):WE C (.call f [x,y]) ρ H Q:=h
theorem v0{x y z:E}(h:WE C x ρ H λu H=>WE C y ρ H λv H=>WE C z ρ H λw H=>C.call f [u,v,w] H Q C.exc):WE C (.call f [x,y,z]) ρ H Q:=h
theorem DD(hj:ρ[j]?.join=some (.ref l))(h:H[l]?=some (.list vs))(q:Q (.int vs.length) H):WE C (.bi .len [.J j]) ρ H Q:=au hj (au (cC h) q)
end
theorem UC{m:Nat}{f:List V->Prop}(h:m<1000000)(k:f ((range' 1 m).map nv)):w9 (.int 1) (.int ((m:Int)+1)) f:=by
 refine⟨⟨by decide,lt_trans (show((m:Int)+1).natAbs<1000001 by lia) (by decide)⟩,?_⟩
 have e:pW 1 ((m:Int)+1)=(range' 1 m).map nv:=by
  unfold pW
  rw[show((m:Int)+1 - 1).toNat=m by lia,List.range'_eq_map_range,map_map]
  rfl
 rw[e];exact k
noncomputable def v5:Option Int->PyData
 |none=>.none
 |some d=>.int d
noncomputable def rP(l:List Nat):PyData:=.tuple (l.map λi:Nat=>.int i)
noncomputable def v6:Option (Int×List Nat)->PyData
 |none=>.none
 |some a=>.tuple [.int a.1,rP a.2]
noncomputable def v7(p:aH):PyData:=.tuple [.int p.aQ,rP p.ca,v6 p.ad,v5 p.bR]
noncomputable def s8(w:eA):PyData:=.tuple [.int w.a,.int w.b,.int w.day]
noncomputable def rQ(g:Nat×Rat):PyData:=.tuple [.int g.1,sY g.2]
noncomputable def uG(w:fY):PyData:=.tuple [.int w.ff,.int w.day,.tuple (w.cQ.map rQ)]
theorem yk{α:Type}{d:α->PyData}(h:∀a,PyData.eqv (d a) (d a)=true):∀l:List α,PyData.eqvAll (l.map d) (l.map d)=true
 |[]=>rfl
 |a::r=>by
  refine(?_:(PyData.eqv (d a) (d a)&&PyData.eqvAll _ _)=true)
  rw[h a,yk h r];rfl
theorem qC(i:Int):PyData.eqv (.int i) (.int i)=true:=gr i
theorem Jz(l:List Nat):PyData.eqv (rP l) (rP l)=true:=Ja l
theorem UD(a:Option (Int×List Nat)):PyData.eqv (v6 a) (v6 a)=true:=by
 cases a with
 |none=>rfl
 |some a=>
  refine(?_:(PyData.eqv (.int a.1) (.int a.1)&&(PyData.eqv (rP a.2) (rP a.2)&&true))=true)
  rw[qC,Jz];rfl
theorem UE(a:Option Int):PyData.eqv (v5 a) (v5 a)=true:=by
 cases a with
 |none=>rfl
 |some a=>exact qC a
theorem UG(p:aH):PyData.eqv (v7 p) (v7 p)=true:=by
 refine(?_:(PyData.eqv (.int p.aQ) (.int p.aQ)&&(PyData.eqv (rP p.ca) (rP p.ca)&&(PyData.eqv (v6 p.ad) (v6 p.ad)&&(PyData.eqv (v5 p.bR) (v5 p.bR)&&true))))=true)
 rw[qC,Jz,UD,UE];rfl
theorem UH(w:eA):PyData.eqv (s8 w) (s8 w)=true:=by
 refine(?_:(PyData.eqv (.int w.a) (.int w.a)&&(PyData.eqv (.int w.b) (.int w.b)&&(PyData.eqv (.int w.day) (.int w.day)&&true)))=true)
 rw[qC,qC,qC];rfl
theorem UI(g:Nat×Rat):PyData.eqv (rQ g) (rQ g)=true:=by
 refine(?_:(PyData.eqv (.int g.1) (.int g.1)&&(PyData.eqv (sY g.2) (sY g.2)&&true))=true)
 rw[qC,TV];rfl
theorem UJ(w:fY):PyData.eqv (uG w) (uG w)=true:=by
 refine(?_:(PyData.eqv (.int w.ff) (.int w.ff)&&(PyData.eqv (.int w.day) (.int w.day)&&(PyData.eqvAll (w.cQ.map rQ) (w.cQ.map rQ)&&true)))=true)
 rw[qC,qC,yk UI];rfl
theorem JA(ls:List Nat)(m:Nat):rd H (m+1) (.aC (aX ls))=some (rP ls):=bU (Option.map PyData.tuple) (um m ls)
theorem UK(p:aH):rd H 8 (bQ p)=some (v7 p):=by
 refine bU (Option.map PyData.tuple) (dH (pg _ _) (dH (JA _ _) (dH (d:=v6 p.ad) ?_ (dH (d:=v5 p.bR) ?_ rfl))))
 ·cases p.ad with
  |none=>rfl
  |some a=>exact bU (Option.map PyData.tuple) (dH (pg _ _) (dH (JA _ _) rfl))
 ·cases p.bR<;>rfl
theorem UL(w:eA):rd H 8 (dK w)=some (s8 w):=rfl
theorem UM(g:Nat×Rat):rd H 6 (jy g)=some (rQ g):=bU (Option.map PyData.tuple) (dH (pg _ _) (dH (Ae _ _) rfl))
theorem UN(gs:List (Nat×Rat)):rd H 7 (iG gs)=some (.tuple (gs.map rQ)):=bU (Option.map PyData.tuple) (pz UM gs)
theorem UO(w:fY):rd H 8 (dS w)=some (uG w):=bU (Option.map PyData.tuple) (dH (pg _ _) (dH (pg _ _) (dH (UN w.cQ) rfl)))
noncomputable def UP(r:dN):PyData:=.tuple [.list (r.ps.map v7),.list (r.ms.map s8),.list (r.ws.map uG)]
theorem JB(h:cK H r l lm lw):rd H 10 (.aC [.ref l,.ref lm,.ref lw])=some (UP r):=h _ λa b c=>bU (Option.map PyData.tuple) (dH (oo a (pz UK _)) (dH (oo b (pz UL _)) (dH (oo c (pz UO _)) rfl)))
theorem UQ(h:cK H r l lm lw)(h':cK H r l' kR kS):e7 .eq (.aC [.ref l,.ref lm,.ref lw]) (.aC [.ref l',.ref kR,.ref kS]) H=some true:=by
 refine(?_:(rd H 10 _).bind (λd=>(rd H 10 _).map λe=>PyData.eqv d e)=_)
 rw[JB h,JB h']
 refine(?_:some (PyData.eqvAll (r.ps.map v7) (r.ps.map v7)&&(PyData.eqvAll (r.ms.map s8) (r.ms.map s8)&&(PyData.eqvAll (r.ws.map uG) (r.ws.map uG)&&true)))=_)
 rw[yk UG,yk UH,yk UJ];rfl
def yl(r:dN):Prop:=ox r.ps/\As r.ps r.ms/\(∀w∈r.ws,s7 r.ps w)/\Ad r.ps.length r.ws
theorem UR{b:Nat}(hb:0<b)(lQ:b<=19)(q:∀r l lm lw H',dg r->yl r->0<r.ps.length->r.ps.length<=b->r.ms.length<=900->r.ws.length<=900->cK H' r l lm lw->aA H H'->Q (.aC [.ref l,.ref lm,.ref lw]) H'):ay (n+4) 43 [.fu,nv b] H Q Y:=RU (by
 refine b6 (oZ (k:=0) ?_)
 have uv:=qA (X.is.getD 0 0) (b:=(b:Int)) (jk.mpr hb)
 have hm:∃m:Nat,1+(X.is.getD 0 0).fmod b=(m:Int)/\0<m/\m<=19/\m<=b:=(yd _ hb (cg b)).imp λm h=>⟨h.1,h.2.1,aR h.2.2 lQ,h.2.2⟩
 refine hm.elim λm hm=>?_
 refine ba (v:=nv b) rfl (cR (gi (b:=(b:Int)) (ne_of_gt (jk.mpr hb))) (cR (bU some hm.1) ?_))
 refine b6 (oZ (k:=1) ?_)
 refine b6 (Uh (n:=n+1) (le_succ_of_le hm.2.2.1) λlp H₁ ps hl hW hR yg Z US=>?_)
 refine b6 (oZ (k:=2) ?_)
 refine b6 (Uk (n:=n+1) US hW (hl▸le_succ_of_le hm.2.2.1) hR λla H₂ fS gV DE DF cq Z mx=>?_)
 have h0:0<fS.length:=by rw[gV,hl];exact hm.2.1
 refine b6 (oZ (k:=3) ?_)
 refine b6 (oZ (k:=0) ?_)
 have UT:=jA ((X.is.getD 0 0).fdiv 12) (k:=13) (by decide)
 refine UT.elim λm1 vM=>?_
 refine bF (cR (pv (b:=12) (by decide)) (bF (cR ((gi (b:=13) (by decide)).trans (bU some vM.1)) ?_)))
 refine b6 (Uw (n:=n) DE DF mx h0 (aR (cO vM.2) (by decide)) λlm H₃ ms UU UV uH cN Z xU=>?_)
 refine b6 (oZ (k:=4) ?_)
 refine b6 (oZ (k:=0) ?_)
 have h9:=jA ((X.is.getD 0 0).fdiv 156) (k:=9) (by decide)
 refine h9.elim λm2 DG=>?_
 refine bF (cR (pv (b:=156) (by decide)) (bF (cR ((gi (b:=9) (by decide)).trans (bU some DG.1)) ?_)))
 refine b6 (UA (n:=n+1) DE DF (cN _ _ mx) h0 (aR (cO DG.2) (by decide)) λlw H₄ ws JC UW j7 fG Z rM=>?_)
 exact q ⟨fS,ms,ws⟩ la lm lw H₄ (.mk DE (by have e:fS.length<=19:=by {rw[gV,hl];exact hm.2.2.1};exact⟨aR e (by decide),bM (aR (ma _ _) e) (by decide)⟩) UU λw hw=>(JC w hw) _ λgk Z Z Z Z Z Z Z Z Z Z=>gk) ⟨DF,UV,UW,JC⟩ h0 (by refine(?_:fS.length<=b);rw[gV,hl];exact hm.2.2.2) (aR uH (aR (cO vM.2) (by decide))) (aR j7 (aR (cO DG.2) (by decide))) (.mk ((cN.trans fG) _ _ mx) (fG _ _ xU) rM) (yg.trans (cq.trans (cN.trans fG))))
def cw(B:Nat)(H H':Hp):Prop:=∀(l:Nat) (c:bt),(l<B\/B+5<=l)->H[l]?=some c->H'[l]?=some c
theorem aA.k(x:aA H H'):cw B H H':=λl c Z h=>x l c h
theorem cw.refl(B:Nat)(H:Hp):cw B H H:=λZ Z Z h=>h
theorem cw.trans(a:cw B H H₁)(b:cw B H₁ H₂):cw B H H₂:=λl c n h=>b l c n (a l c n h)
theorem cw.set(H:Hp){m:Nat}(h1:B<=m)(h2:m<B+5)(c:bt):cw B H (H.set m c):=λl c' n h=>d9 h c λe=>by lia
def rR(P:Nat->Prop)(H:Hp)(r:fZ)(v:V):Prop:=∃l,P l/\v=.aC [xX r.j4,rv r.part,.str r.how,.ref l]/\H[l]?=some (.list (aX r.line))
def iS(P:Nat->Prop)(H:Hp)(v:V):Prop:=∃lr vs rs,v=.ref lr/\P lr/\H[lr]?=some (.list vs)/\cz (rR P H) rs vs/\(∀x∈rs,ot x)/\rs≠[]/\rs.length<=14000000
theorem iS.k{P:Nat->Prop}(h:iS P H v)(x:∀l c,P l->H[l]?=some c->H'[l]?=some c):iS P H' v:=h.imp λlr h=>h.imp λvs h=>h.imp λrs h=>⟨h.1,h.2.1,x _ _ h.2.1 h.2.2.1,h.2.2.2.1.imp λZ Z q=>q.imp λl q=>⟨q.1,q.2.1,x _ _ q.1 q.2.2⟩,h.2.2.2.2⟩
theorem iS.wk{P P':Nat->Prop}(h:iS P H v)(x:∀l,l<H.length->P l->P' l):iS P' H v:=h.imp λlr h=>h.imp λvs h=>h.imp λrs h=>⟨h.1,x _ (cG h.2.2.1) h.2.1,h.2.2.1,h.2.2.2.1.imp λZ Z q=>q.imp λl q=>⟨x _ (cG q.2.2) q.1,q.2⟩,h.2.2.2.2⟩
abbrev uI(B:Nat)(H:Hp)(v:V):Prop:=iS (B+5<=·) H v
theorem uI.k(h:uI B H v)(x:cw B H H'):uI B H' v:=iS.k h λl c hl a=>x l c (.inr hl) a
noncomputable abbrev kg(B ld:Nat)(vf:V):bB:=[some (.ref (B+2)),some (.ref (B+3)),some (.ref (B+4)),some (.ref ld),some vf]
def dp(B:Nat)(H:Hp)(r:dN):Prop:=∀Z:Prop,(∀(ld ep:Nat) (vf:V) (es:List (Int×V)) (a0:H[B]?=some (.ci (kg B ld vf))) (a1:H[B+1]?=some (.obj B)) (ap:H[B+2]?=some (.list (r.ps.map bQ))) (am:H[B+3]?=some (.list (r.ms.map dK))) (aw:H[B+4]?=some (.list (r.ws.map dS))) (ad:H[ld]?=some (.dict ep es)) (hd:B+5<=ld) (de:∀e∈es,uI B H e.2),Z)->Z
theorem dp.mk(ld ep:Nat)(vf:V)(es:List (Int×V))(a0:H[B]?=some (.ci (kg B ld vf)))(a1:H[B+1]?=some (.obj B))(ap:H[B+2]?=some (.list (r.ps.map bQ)))(am:H[B+3]?=some (.list (r.ms.map dK)))(aw:H[B+4]?=some (.list (r.ws.map dS)))(ad:H[ld]?=some (.dict ep es))(hd:B+5<=ld)(de:∀e∈es,uI B H e.2):dp B H r:=λZ k=>k ld ep vf es a0 a1 ap am aw ad hd de
theorem dp.ext(b:dp B H r)(x:aA H H'):dp B H' r:=b _ λld ep vf es a0 a1 ap am aw ad hd de=>.mk ld ep vf es (x _ _ a0) (x _ _ a1) (x _ _ ap) (x _ _ am) (x _ _ aw) (x _ _ ad) hd λe he=>(de e he).k x.k
def cU(B:Nat)(H:Hp)(r:dN):Prop:=∀Z:Prop,(∀(ld ep:Nat) (vf:V) (es:List (Int×V)) (a0:H[B]?=some (.ci (kg B ld vf))) (a1:H[B+1]?=some (.obj B)) (ap:H[B+2]?=some (.list (r.ps.map bQ))) (am:H[B+3]?=some (.list (r.ms.map dK))) (aw:H[B+4]?=some (.list (r.ws.map dS))) (ad:H[ld]?=some (.dict ep es)) (hd:B+5<=ld) (de:∀e∈es,uI B H e.2) (dk:∀j:Nat,gF es (j:Int)=fH r.ps j),Z)->Z
theorem cU.mk(ld ep:Nat)(vf:V)(es:List (Int×V))(a0:H[B]?=some (.ci (kg B ld vf)))(a1:H[B+1]?=some (.obj B))(ap:H[B+2]?=some (.list (r.ps.map bQ)))(am:H[B+3]?=some (.list (r.ms.map dK)))(aw:H[B+4]?=some (.list (r.ws.map dS)))(ad:H[ld]?=some (.dict ep es))(hd:B+5<=ld)(de:∀e∈es,uI B H e.2)(dk:∀j:Nat,gF es (j:Int)=fH r.ps j):cU B H r:=λZ k=>k ld ep vf es a0 a1 ap am aw ad hd de dk
theorem cU.b(b:cU B H r):dp B H r:=b _ λld ep vf es a0 a1 ap am aw ad hd de Z=>.mk ld ep vf es a0 a1 ap am aw ad hd de
theorem cU.ext(b:cU B H r)(x:aA H H'):cU B H' r:=b _ λld ep vf es a0 a1 ap am aw ad hd de dk=>.mk ld ep vf es (x _ _ a0) (x _ _ a1) (x _ _ ap) (x _ _ am) (x _ _ aw) (x _ _ ad) hd (λe he=>(de e he).k x.k) dk
section
variable{i:Nat}{A:Prop}
theorem eD{P:V->Prop}(a1:H[B+1]?=some (.obj B))(a0:H[B]?=some (.ci fs))(hi:fs[i]?.join=some v)(q:P v):aI (cc H (.ref (B+1))) λt=>aI (pY H t) λfs=>aI (fs[i]?.join) λv=>P v:=au (bU (Option.bind · sq) a1) (au (bU (Option.bind · sy) a0) (au hi q))
theorem mc(a1:H[B+1]?=some (.obj B))(a0:H[B]?=some (.ci fs))(h:A):aI (cc H (.ref (B+1))) λt=>aI (pY H t) λZ=>A:=au (bU (Option.bind · sq) a1) (au (bU (Option.bind · sy) a0) h)
theorem DH{P:Nat->bB->Prop}(a1:H[B+1]?=some (.obj B))(a0:H[B]?=some (.ci fs))(h:P B fs):aI (cc H (.ref (B+1))) λt=>aI (pY H t) λfs=>P t fs:=au (bU (Option.bind · sq) a1) (au (bU (Option.bind · sy) a0) h)
noncomputable def sc:V->Bool
 |.none=>true
 |.bool _=>true
 |.int _=>true
 |.str s=>PyData.strOk s
 |_=>false
noncomputable def wh:V->Int->Int->Bool
 |.int i,lo,hi=>decide (lo<=i)&&decide (i<=hi)
 |_,_,_=>false
theorem mD{lo hi:Int}(h:wh v lo hi=true):∃i,v=.int i/\lo<=i/\i<=hi:=by
 cases v with
 |int i=>exact⟨i,rfl,cf (eJ.mp h).1,cf (eJ.mp h).2⟩
 |_=>cases h
theorem jS{m:Nat}(h:wh v 0 ((m:Int) - 1)=true):∃k:Nat,v=nv k/\k<m:=(mD h).elim λi hi=>⟨i.toNat,by rw[hi.1];exact bU V.int (Int.toNat_of_nonneg hi.2.1).symm,by have:=hi.2;lia⟩
theorem Aw{m k:Nat}(h:k<m):wh (nv k) 0 ((m:Int) - 1)=true:=eJ.mpr ⟨c9 (kJ k),c9 (by lia)⟩
theorem v8{lo hi:Int}(hv:sc v=true)(q:Q (.bool (wh v lo hi)) H):ay (n+1) 22 [v,.int lo,.int hi] H Q Y:=Rz (by
 cases v with
 |int i=>
  have q:Q (.bool (decide (lo<=i)&&decide (i<=hi))) H:=q
  refine(?_:bz (decide (lo<=i)) (Q (.bool (decide (i<=hi))) H) (Q (.bool false) H))
  refine cb (λh=>?_) λh=>?_
  ·rw[h] at q;exact q
  ·rw[h] at q;exact q
 |aC _=>cases hv
 |ref _=>cases hv
 |fu=>cases hv
 |_=>exact q)
theorem dt{k:Nat}(h:Y (.ref H.length) (H++[.exc k])):xq Y (.ref H.length) (H++[.exc k]):=⟨(bU (λo=>isSome (Option.bind o pV)) (aZ H (.exc k))).trans rfl,h⟩
theorem rS{ps:List aH}(a1:H[B+1]?=some (.obj B))(a0:H[B]?=some (.ci fs))(hf:fs[0]?.join=some (.ref (B+2)))(ap:H[B+2]?=some (.list (ps.map bQ)))(hv:sc v=true)(q:wh v 0 ((ps.length:Int) - 1)=true->Q .none H)(y:wh v 0 ((ps.length:Int) - 1)=false->Y (.ref H.length) (H++[.exc 0])):ay (n+2) 64 [.ref (B+1),v] H Q Y:=Sf (by
 refine eD (i:=0) a1 a0 hf ?_
 apply au (cC ap)
 rw[aS]
 refine b6 (v8 hv ?_)
 refine(?_:bz (!wh v 0 ((ps.length:Int) - 1)) _ _)
 refine cb (λh=>dt (y (by rw[jj] at h;exact h))) λh=>q (by rw[iB] at h;exact h))
theorem v9(hv:sc v=true)(q:wh v 0 100000=true->Q .none H)(y:wh v 0 100000=false->Y (.ref H.length) (H++[.exc 1])):ay (n+2) 23 [v] H Q Y:=RA (by
 refine b6 (v8 hv ?_)
 refine(?_:bz (!wh v 0 100000) _ _)
 refine cb (λh=>dt (y (by rw[jj] at h;exact h))) λh=>q (by rw[iB] at h;exact h))
theorem ints_map:∀is:List Int,allInts (is.map .int)=some is
 |[]=>rfl
 |a::r=>by
  refine(?_:(allInts (r.map .int)).map (a::·)=_)
  rw[ints_map r];rfl
theorem UX{is:List Int}(h:H[l]?=some (.list (is.map .int)))(hl:is.length<=1000)(q:∀t,(t=false↔is.Nodup)->Q (.bool t) H):ay (n+1) 24 [.ref l] H Q Y:=RB (by
 have e:kN H (.ref l)=some is:=(bU (Option.bind · allInts) (cC h)).trans (ints_map is)
 apply au e
 refine⟨hl,λm hm=>?_⟩
 apply au (cC h)
 rw[aS]
 refine(?_:Q (.bool (!((m:Int)==(is.length:Int)))) H)
 refine q _ ?_
 rw[<-hm,iB,beq_iff_eq]
 exact⟨ofNat.inj,bU _⟩)
end
theorem wa{α:Type}{g:α->V}{ws:List Nat}{H₀ H:Hp}{t:dq}{K:Out->Prop}{body:bB->Hp->(Out->Prop)->Prop}{ok:α->Bool}{R:bB->Prop}{as:List α}(st:fN ws H₀ H=true)
  (step:∀a,a∈as->∀ρ,R ρ->aI (aN t (g a) ρ) λck=>∀N:bB->Hp->Prop,(ok a=true->∀iC,R iC->N iC H)->body ck H (oO K N)) (fin:as.all ok=true->∀ρ,R ρ->K (.next ρ H)) {ρ:bB} (h:R ρ):pX ws H₀ t body (as.map g) ρ H K:=by
 refine fR (λbs ρ H'=>H'=H/\R ρ/\∃pre,pre++bs=as/\pre.all ok=true) (λa bs ρ H' hI=>?_) (λρ H' hI=>?_) as ρ H ⟨rfl,h,[],rfl,rfl⟩
 ·obtain⟨rfl,hr,pre,e,hp⟩:=hI
  exact xO (step a (e▸cF.mpr (.inr cJ)) ρ hr) λck hb N hN=>hb N λrT iC gG=>hN _ _ st ⟨rfl,gG,pre++[a],by rw[nF];exact e,by rw[all_append,hp,all_cons,rT];rfl⟩
 ·obtain⟨rfl,hr,pre,e,hp⟩:=hI
  rw[dO] at e
  exact fin (e▸hp) ρ hr
section
variable{A:Prop}
noncomputable def fq(ps:List aH):List Nat:=(List.range ps.length).filter (fH ps)
theorem JD{ps:List aH}{k:Nat}(h:k∈fq ps):∃p d,ps[k]?=some p/\p.bR=some d:=by
 have h:=lG.mp h
 refine(at_of (jl.mp h.1)).elim λp hp=>?_
 have h2:=h.2
 unfold fH at h2
 rw[hp] at h2
 exact(isSome_iff_exists.mp h2).elim λd hd=>⟨p,d,hp,hd⟩
theorem UY{ps:List aH}(a1:H[B+1]?=some (.obj B))(a0:H[B]?=some (.ci fs))(hf:fs[0]?.join=some (.ref (B+2)))(ap:H[B+2]?=some (.list (ps.map bQ)))(hl:ps.length<=60)(q:Q (.ref H.length) (H++[.list (aX (fq ps))])):ay (n+1) 76 [.ref (B+1)] H Q Y:=So (by
 refine eD (i:=0) a1 a0 hf ?_
 apply au (cC ap)
 rw[aS]
 refine rL (bM hl (by decide)) ?_
 refine cM (cP (by rw[aS,kH];exact bM hl (by decide))) ?_
 refine iF (P:=fH ps) (F:=nv) _ _ _ (λa ha T hT=>?_) (λa Z Z N hN=>hN) q
 refine(at_of (jl.mp ha)).elim λp hp=>?_
 refine(?_:aI (cc H (.ref (B+1))) _)
 refine eD (i:=0) a1 a0 hf ?_
 apply au (ee ap hp)
 unfold fH at hT
 rw[hp] at hT
 have hT:T p.bR.isSome H:=hT
 unfold bQ
 cases hd:p.bR with
 |none=>rw[hd] at hT;exact hT
 |some d=>rw[hd] at hT;exact hT)
noncomputable def JE:Option Nat->PyData
 |none=>.none
 |some k=>.int k
noncomputable def Ax(r:fZ):PyData:=.tuple [JE r.j4,sY r.part,.str r.how,Dc r.line]
theorem JF{P:Nat->Prop}{r:fZ}(h:rR P H r v)(ok:ot r):rd H 9 v=some (Ax r):=h.elim λl h=>by
 rw[h.2.1]
 refine bU (Option.map PyData.tuple) (dH (d:=JE r.j4) ?_ (dH (Ae _ _) (dH (d:=.str r.how) (show rd H 8 (.str r.how)=some (.str r.how) from bL ok.1) (dH (IZ h.2.2) rfl))))
 cases r.j4<;>rfl
theorem JG{P:Nat->Prop}(h:iS P H v):ml H v=none/\∃d,rd H 10 v=some d:=by
 obtain⟨lr,vs,rs,rfl,_,a,hr,ok⟩:=h
 have key:∀{rs:List fZ} {vs:List V},cz (rR P H) rs vs->(∀x∈rs,ot x)->∃ds,d0 (rd H 9) vs=some ds:=λhr=>hr.rec (motive:=λrs vs Z=>(∀x∈rs,ot x)->∃ds,d0 (rd H 9) vs=some ds) (λZ=>⟨[],rfl⟩) λh Z ih ok=>(ih λx hx=>ok x (.tail _ hx)).elim λds e=>⟨_,dH (JF h (ok _ cJ)) e⟩
 exact⟨none_list a,(key hr ok.1).elim λds e=>⟨_,oo a e⟩⟩
theorem UZ{P P':Nat->Prop}(h:iS P H v)(h':iS P' H u):∃t,e7 .ne v u H=some t:=by
 obtain⟨h1,d,h2⟩:=JG h
 obtain⟨_,d',h3⟩:=JG h'
 refine⟨!PyData.eqv d d',?_⟩
 refine(?_:(kO H v u).map (!·)=_)
 unfold kO
 rw[h1,h2,h3];rfl
theorem JH{es:List (Int×V)}(h:H[l]?=some (.dict ep es)):mj H (.ref l)=some es:=bU (Option.bind · iZ) h
theorem JI{es:List (Int×V)}{k:Int}(h:gF es k=true):∃e,e∈es/\hU es k=some e.2:=by
 unfold gF at h
 unfold hU
 cases hf:es.find? (λp=>decide (p.1=k)) with
 |none=>
  obtain⟨e,he,h2⟩:=nE.mp h
  exact absurd h2 (List.find?_eq_none.mp hf e he)
 |some e=>exact⟨e,List.mem_of_find?_eq_some hf,rfl⟩
theorem U0{es:List (Int×V)}{k:Int}{P:V->Prop}(h:∀e∈es,P e.2)(hv:P v):∀e∈dput es k v,P e.2:=by
 unfold dput
 split
 ·exact λe he=>(fj.mp he).elim λx hx=>by
   rw[<-hx.2]
   split
   ·exact hv
   ·exact h x hx.1
 ·exact λe he=>(cF.mp he).elim (h e) λhe=>by rw[cI.mp he];exact hv
theorem U1(es:List (Int×V))(k:Int)(v:V):(dput es k v).length<=es.length+1:=by
 unfold dput
 split
 ·rw[aS];exact le_succ _
 ·rw[bX];exact cg _
theorem U2{es:List (Int×V)}{k j:Int}:gF (dput es k v) j=(decide (k=j)||gF es j):=by
 unfold dput
 split
 ·rename_i h
  have e:gF (es.map λp=>if p.1=k then(p.1,v) else p) j=gF es j:=by
   unfold gF
   rw[List.any_map]
   refine bU (List.any es) (funext λp=>?_)
   refine(?_:decide ((if p.1=k then(p.1,v) else p).1=j)=_)
   split<;>rfl
  rw[e]
  by_cases hk:k=j
  ·subst hk
   rw[c9 rfl,Bool.true_or];exact h
  ·rw[gv hk,Bool.false_or]
 ·unfold gF
  rw[List.any_append,any_cons,List.any_nil,Bool.or_false,Bool.or_comm]
theorem U3{ps:List aH}:decide (j∈fq ps)=fH ps j:=by
 unfold fq
 cases h:fH ps j with
 |false=>exact gv λhm=>by have:=(lG.mp hm).2;rw[h] at this;cases this
 |true=>
  refine c9 (lG.mpr ⟨jl.mpr ?_,h⟩)
  unfold fH at h
  cases hp:ps[j]? with
  |none=>rw[hp] at h;cases h
  |some p=>exact(dZ.mp hp).1
theorem JJ{ps:List aH}{d:Int}:∀(f k:Nat),gH ps d f k=true->gH ps d (f+1) k=true
 |0,k,h=>by cases h
 |f+1,k,h=>by
  rcases jY.mp (show(lv ps d k||(kids ps d k).any (gH ps d f))=true from h) with h|h
  ·exact jY.mpr (.inl h)
  ·obtain⟨c,hc,hb⟩:=nE.mp h
   exact jY.mpr (.inr (nE.mpr ⟨c,hc,JJ f c hb⟩))
theorem JK{ps:List aH}(hW:dv ps){d:Int}:∀(f k:Nat) (p:aH),ps[k]?=some p->mw ps p.aQ<f->(kids ps d k).any (gH ps d 20)=true->jv ps d f k≠[]
 |0,k,p,_,hf,_=>absurd hf (not_lt_zero _)
 |f+1,k,p,hp,hf,h=>by
  obtain⟨c,hc,hb⟩:=nE.mp h
  refine(?_:jb ps d (jv ps d f) k (ju ps d (kids ps d k))≠[])
  intro e
  have z:=List.flatMap_eq_nil_iff.mp e c (lG.mpr ⟨hc,hb⟩)
  unfold rowsOf at z
  split at z
  ·cases z
  ·rename_i hl
   refine ut hW hp hc λq hq Z hy=>JK hW f c q hq (fh hy (le_of_lt_succ hf)) ?_ (map_eq_nil_iff.mp z)
   rcases jY.mp (show(lv ps d c||(kids ps d c).any (gH ps d 19))=true from hb) with h|h
   ·exact absurd h hl
   ·obtain⟨c',my,lQ⟩:=nE.mp h
    exact nE.mpr ⟨c',my,JJ 19 c' lQ⟩
theorem JL{ps:List aH}{d:Int}:∀(gs:List (Nat×Rat)) (t:Rat),(∀g∈gs,counts ps d g=false)->gs.foldl (kW ps d) t=t
 |[],t,_=>rfl
 |g::gs,t,h=>by
  rw[foldl_cons,show kW ps d t g=t from bG (by rw[h g cJ];decide)]
  exact JL gs t λg hg=>h g (.tail _ hg)
theorem U4(hr:dg r){k:Nat}:rN r d k p≠[]:=hr _ λhW hl Z Z=>by
 unfold rN vW
 split
 ·rename_i h0
  have e1:(oq r d k).foldl (kW r.ps d) 0=1:=by
   have z:kX r.ps d (oq r d k)=0:=Rat.num_eq_zero.mp (eq_of_beq h0)
   unfold kX at z
   grind
  have ex:∃g∈oq r d k,counts r.ps d g=true:=byContradiction λhn=>by
   rw[JL _ 0 λg hg=>Bool.eq_false_iff.mpr λh=>hn ⟨g,hg,h⟩] at e1
   exact absurd e1 (by decide)
  obtain⟨g,hg,hc⟩:=ex
  intro e
  have z:=List.flatMap_eq_nil_iff.mp e g hg
  unfold iH at z
  split at z
  ·cases z
  ·rename_i gV
   have du:=((Ah hr d k).1 g hg).1
   obtain⟨q,hq⟩:=at_of du
   refine JK hW 20 g.1 q hq (uq hl _) ?_ (map_eq_nil_iff.mp z)
   rcases jY.mp hc with h|h
   ·exact absurd h gV
   ·exact h
 ·cases ni r.ps d k r.ms with
  |some s=>exact λe=>by have e:=(append_eq_nil_iff.mp (append_eq_nil_iff.mp e).1).2;cases e
  |none=>
   dsimp only
   split
   ·exact λe=>by have e:=(append_eq_nil_iff.mp e).2;cases e
   ·rename_i h
    exact λe=>h (by rw[map_eq_nil_iff.mp (append_eq_nil_iff.mp e).2];rfl)
end
section
variable{K:Out->Prop}
theorem JM{es:List (Int×V)}{k:Nat}(h:H[l]?=some (.dict ep es)):tJ H (nv k) (.ref l)=some (gF es (k:Int)):=by
 refine(?_:(match mj H (.ref l) with|some es=>(intOf (nv k)).map λk=>gF es k|none=>_)=_)
 rw[JH h];rfl
theorem JN{es:List (Int×V)}{k:Nat}(h:H[l]?=some (.dict ep es))(hg:hU es (k:Int)=some v):fF (.ref l) (nv k) H=some v:=by
 have e:eQ H (.ref l)=none:=by
  refine(?_:H[l]?.bind so=none)
  rw[h];rfl
 refine(?_:(match eQ H (.ref l) with|some vs=>_|none=>(mj H (.ref l)).bind λes=>hU es (k:Int))=_)
 rw[e,JH h];exact hg
def Pd(B lf:Nat)(l:Nat):Prop:=B+5<=l/\l≠lf/\l≠lf+1
def DI(B lf lc ld:Nat)(D:List Nat)(r:dN)(H₀:Hp)(as:List Nat)(ρ:bB)(H':Hp):Prop:=∀Z:Prop,(∀(o2 o3:Option V) (rV ep:Nat) (mF es:List (Int×V)) (fr:List Nat) (e:ρ=[some (.ref (B+1)),some (.ref (lf+1)),o2,o3]) (x:cw B H₀ H') (a0:H'[B]?=some (.ci (kg B ld (.ref lf)))) (a1:H'[B+1]?=some (.obj B)) (at':cK H' r (B+2) (B+3) (B+4)) (ad:H'[ld]?=some (.dict rV mF)) (de:∀e∈mF,iS (Pd B lf) H' e.2) (af:H'[lf]?=some (.list (aX fr))) (an:H'[lf+1]?=some (.dict ep es)) (dn:∀e∈es,iS (Pd B lf) H' e.2) (ac:H'[lc]?=some (.list (aX D))) (len:fr.length+as.length<=60/\es.length+as.length<=60) (pre:List Nat) (tt:pre++as=fq r.ps) (kk:∀j:Nat,gF es (j:Int)=decide (j∈pre)),Z)->Z
theorem DI.mk{D:List Nat}(o2 o3:Option V)(rV ep:Nat)(mF es:List (Int×V))(fr:List Nat)(e:ρ=[some (.ref (B+1)),some (.ref (lf+1)),o2,o3])(x:cw B H₀ H')(a0:H'[B]?=some (.ci (kg B ld (.ref lf))))(a1:H'[B+1]?=some (.obj B))(at':cK H' r (B+2) (B+3) (B+4))(ad:H'[ld]?=some (.dict rV mF))(de:∀e∈mF,iS (Pd B lf) H' e.2)(af:H'[lf]?=some (.list (aX fr)))(an:H'[lf+1]?=some (.dict ep es))(dn:∀e∈es,iS (Pd B lf) H' e.2)(ac:H'[lc]?=some (.list (aX D)))(len:fr.length+as.length<=60/\es.length+as.length<=60)(pre:List Nat)(tt:pre++as=fq r.ps)(kk:∀j:Nat,gF es (j:Int)=decide (j∈pre)):DI B lf lc ld D r H₀ as ρ H':=λZ k=>k o2 o3 rV ep mF es fr e x a0 a1 at' ad de af an dn ac len pre tt kk
theorem cw.new(x:cw B H H'){m:Nat}(h:H.length<=m)(c:bt):cw B H (H'.set m c):=λl c' n e=>d9 (x l c' n e) c λq=>absurd (cG e) (not_lt.mpr (q▸h))
noncomputable abbrev U5:S:=.br (.or [(.cmp .jH (.J 2) (.attr (.J 0) 3)),(.cmp .ne (.aP (.attr (.J 0) 3) (.J 2)) (.J 3))]) [.expr (.d8 .append (.attr (.J 0) 4) [.J 2])] []
theorem U6{C:Ct}{ld lf k rV:Nat}{mF:List (Int×V)}{fr:List Nat}{v:V}{ρ:bB}(U7:ρ=[some (.ref (B+1)),some (.ref (lf+1)),some (nv k),some v])(a0:H[B]?=some (.ci (kg B ld (.ref lf))))(a1:H[B+1]?=some (.obj B))(ad:H[ld]?=some (.dict rV mF))(de:∀e∈mF,iS (Pd B lf) H e.2)(hv:iS (Pd B lf) H v)(af:H[lf]?=some (.list (aX fr)))(hl:fr.length<=60)
  (h1:aG C rest ρ H K) (h2:aG C rest ρ (H.set lf (.list (aX (fr++[k])))) K):aG C (U5::rest) ρ H K:=by
 subst U7
 have yes:aG C [.expr (.d8 .append (.attr (.J 0) 4) [.J 2])] [some (.ref (B+1)),some (.ref (lf+1)),some (nv k),some v] H (λo=>i0 o (λρ H=>aG C rest ρ H K) (K o)):=by
  refine eD (i:=4) a1 a0 rfl ?_
  refine gg af (gy af (by rw[aS];exact bM hl (by decide)) ?_)
  rw[<-uo] at h2
  exact h2
 refine eD (i:=3) a1 a0 rfl ?_
 have e1:e7 .jH (nv k) (.ref ld) H=some (!gF mF (k:Int)):=bU (Option.map (!·)) (JM ad)
 apply au e1
 refine(?_:bz ((!gF mF (k:Int))==false) _ _)
 refine fD (λh=>?_) λh=>ey h yes
 rw[iB] at h
 obtain⟨e,he,hg⟩:=JI h
 refine eD (i:=3) a1 a0 rfl ?_
 apply au (JN ad hg)
 obtain⟨t,ht⟩:=UZ (de e he) hv
 apply au ht
 refine(?_:bz t _ _)
 exact cb (λZ=>yes) λZ=>h1
theorem s9(hl:r.ps.length<=60)(hr:fq r.ps=[]\/dg r)(b:dp B H r)(q:∀H',cw B H H'->cU B H' r->Q .none H'):ay (n+68) 66 [.ref (B+1)] H Q Y:=Sh (b _ λld ep vf es a0 a1 ap am aw ad hd de=>by
 have hB:B+5<=H.length:=aR hd (cO (cG ad))
 refine(?_:aI (cc (H++[bt.list []]) (.ref (B+1))) _)
 refine DH (be _ a1) (be _ a0) ?_
 have fB:((H++[bt.list []]).set B (.ci ((kg B ld vf).set 4 (some (.ref H.length))))).length=H.length+1:=by rw[kG,bX];rfl
 have x1:cw B H ((H++[bt.list []]).set B (.ci ((kg B ld vf).set 4 (some (.ref H.length))))):=(aA.aO _ _).k.trans (cw.set _ (cg _) (by lia) _)
 have b0:((H++[bt.list []]).set B (.ci ((kg B ld vf).set 4 (some (.ref H.length)))))[B]?=some (.ci (kg B ld (.ref H.length))):=eX (be _ a0) _
 have ne:∀{l c},B≠l->H[l]?=some c->((H++[bt.list []]).set B (.ci ((kg B ld vf).set 4 (some (.ref H.length)))))[l]?=some c:=λhn h=>d9 (be _ h) _ hn
 have bf:((H++[bt.list []]).set B (.ci ((kg B ld vf).set 4 (some (.ref H.length)))))[H.length]?=some (.list (aX [])):=d9 (aZ _ _) _ (by lia)
 have b1:=ne (by lia) a1
 have bp:=ne (by lia) ap
 have bm:=ne (by lia) am
 have bw:=ne (by lia) aw
 have bd:=ne (by lia) ad
 have DJ:∀e∈es,iS (Pd B H.length) ((H++[bt.list []]).set B (.ci ((kg B ld vf).set 4 (some (.ref H.length))))) e.2:=λe he=>((de e he).wk (P':=λl=>Pd B H.length l/\l<H.length) λl hl h=>⟨⟨h,by lia,by lia⟩,hl⟩).k (λl c h a=>x1 l c (.inr h.1.1) a) |>.wk λl Z h=>h.1
 generalize ((H++[bt.list []]).set B (.ci ((kg B ld vf).set 4 (some (.ref H.length)))))=H1 at *
 refine(?_:aI (cc (H1++[bt.dict 0 []]) (.ref (B+1))) _)
 refine mc (be _ b1) (be _ b0) ?_
 refine b6 (UY (n:=n+66) (be _ b1) (be _ b0) rfl (be _ bp) hl ?_)
 have x2:aA H1 (H1++[bt.dict 0 []]++[bt.list (aX (fq r.ps))]):=(aA.aO _ _).trans (aA.aO _ _)
 have bn:(H1++[bt.dict 0 []]++[bt.list (aX (fq r.ps))])[H.length+1]?=some (.dict 0 []):=be _ (fB▸aZ _ _)
 have bc:=aZ (H1++[bt.dict 0 []]) (.list (aX (fq r.ps)))
 have U8:(H1++[bt.dict 0 []]).length=H.length+2:=by rw[bX,fB];rfl
 have JO:(fq r.ps).length<=60:=aR (ma _ _) (by rw[kH];exact hl)
 rw[U8] at bc ⊢
 rw[fB]
 generalize H1++[bt.dict 0 []]++[bt.list (aX (fq r.ps))]=H2 at *
 apply au (cT bc)
 have DK:=cG ad
 refine fR (DI B H.length (H.length+2) ld (fq r.ps) r H) (λk as ρ H' h=>?_) (λρ H' h=>?_) _ _ _ (.mk none none ep 0 es [] [] rfl (x1.trans x2.k) (x2 _ _ b0) (x2 _ _ b1) (.mk (x2 _ _ bp) (x2 _ _ bm) (x2 _ _ bw)) (x2 _ _ bd) (λe he=>(DJ e he).k λl c Z a=>x2 l c a) (x2 _ _ bf) bn (λZ h=>(nomatch h)) bc ⟨by rw[length_nil,zero_add];exact JO,by rw[length_nil,zero_add];exact JO⟩ [] rfl λj=>(gv not_mem_nil).symm)
 ·refine h _ λo2 o3 rV ep mF es fr e x a0 a1 at' ad de af an dn ac len pre tt kk=>?_
  subst e
  refine λN hN=>?_
  have hk:k∈fq r.ps:=tt▸cF.mpr (.inr cJ)
  have ok:dg r:=hr.resolve_left λe=>by rw[e] at hk;cases hk
  rw[iY] at len
  obtain⟨p,d,hp,rG⟩:=JD hk
  refine(?_:aI (cc H' (.ref (B+1))) _)
  refine eD (i:=0) a1 a0 rfl (eD (i:=1) a1 a0 rfl (eD (i:=2) a1 a0 rfl ?_))
  refine b6 (TP (n:=n) ok at' hp rG λdok dlen lr vs H₂ oi cq ar dr=>?_)
  have hH:H.length+2<H'.length:=cG ac
  have hv:iS (Pd B H.length) H₂ (.ref lr):=⟨lr,vs,_,rfl,⟨by lia,by lia,by lia⟩,ar,dr.imp λZ Z z=>z _ λl hb hn e a=>⟨l,⟨by lia,by lia,by lia⟩,e,a⟩,dok,U4 ok,dlen⟩
  have JP:∀{H₃:Hp} {fr':List Nat},fr'.length<=fr.length+1->(∀l c,l≠H.length->H₂[l]?=some c->H₃[l]?=some c)->H₃[H.length]?=some (.list (aX fr'))->cw B H H₃->aG ⟨ay (n+67),xq (xq Y)⟩ [.kK (.J 1) (.J 2) (.J 3)] [some (.ref (B+1)),some (.ref (H.length+1)),some (nv k),some (.ref lr)] H₃ (λo=>i0 o N False):=λ{H₃ fr'} hf x3 U9 xb=>by
   have up:∀{l c},l≠H.length->H'[l]?=some c->H₃[l]?=some c:=λhn h=>x3 _ _ hn (cq _ _ h)
   have JQ:=up (by lia) an
   refine au JQ (cM (cP (by have:=len.2;lia)) λsH=>?_)
   have un:∀{l c},l≠H.length->l≠H.length+1->H'[l]?=some c->(H₃.set (H.length+1) (.dict sH (dput es (k:Int) (.ref lr))))[l]?=some c:=λh1 h2 h=>d9 (up h1 h) _ (Ne.symm h2)
   have dk:∀{v},iS (Pd B H.length) H₂ v->iS (Pd B H.length) (H₃.set (H.length+1) (.dict sH (dput es (k:Int) (.ref lr)))) v:=λh=>h.k λl c hl a=>d9 (x3 l c hl.2.1 a) _ (Ne.symm hl.2.2)
   refine hN _ _ (dm bc (un (by lia) (by lia) ac)) (.mk _ _ rV sH mF (dput es (k:Int) (.ref lr)) fr' rfl (xb.new (by lia) _) (un (by lia) (by lia) a0) (un (by lia) (by lia) a1) (at' _ λz1 z2 z3=>.mk (un (by lia) (by lia) z1) (un (by lia) (by lia) z2) (un (by lia) (by lia) z3)) (un (by lia) (by lia) ad) (λe he=>dk ((de e he).k λl c Z a=>cq l c a)) (d9 U9 _ (by lia)) (eX JQ _) (U0 (λe he=>dk ((dn e he).k λl c Z a=>cq l c a)) (dk hv)) (un (by lia) (by lia) ac) ⟨by have:=len.1;lia,by have:=U1 es (k:Int) (.ref lr);have:=len.2;lia⟩ (pre++[k]) (gh tt) λj=>by rw[U2,kk];by_cases hj:k=j;{subst hj;rw[c9 rfl,Bool.true_or];exact(c9 (cF.mpr (.inr (cI.mpr rfl)))).symm};{rw[show decide ((k:Int)=(j:Int))=false from gv (λe=>hj (ofNat.inj e)),Bool.false_or];exact nC.mpr ⟨λh=>cF.mpr (.inl h),λh=>(cF.mp h).elim id λh=>absurd (cI.mp h).symm hj⟩})
  refine U6 rfl (cq _ _ a0) (cq _ _ a1) (cq _ _ ad) (λe he=>(de e he).k λl c Z a=>cq l c a) hv (cq _ _ af) (by have:=len.1;lia) ?_ ?_
  ·exact JP (le_succ _) (λl c Z a=>a) (cq _ _ af) (x.trans cq.k)
  ·exact JP (fr':=fr++[k]) (by rw[bX];exact cg _) (λl c hn a=>d9 a _ (Ne.symm hn)) (eX (cq _ _ af) _) ((x.trans cq.k).new (cg _) _)
 ·refine h _ λo2 o3 rV ep mF es fr e x a0 a1 at' ad de af an dn ac len pre tt kk=>?_
  subst e
  refine(?_:aI (cc H' (.ref (B+1))) _)
  refine DH a1 a0 ?_
  have un:∀{l c},B≠l->H'[l]?=some c->(H'.set B (.ci (kg B (H.length+1) (.ref H.length))))[l]?=some c:=λh1 h=>d9 h _ h1
  have xx:cw B H' (H'.set B (.ci (kg B (H.length+1) (.ref H.length)))):=cw.set _ (cg _) (by lia) _
  exact q _ (x.trans xx) (at' _ λz1 z2 z3=>.mk (H.length+1) ep (.ref H.length) es (eX a0 _) (un (by lia) a1) (un (by lia) z1) (un (by lia) z2) (un (by lia) z3) (un (by lia) an) (by lia) (λe he=>((dn e he).k λl c hl a=>xx l c (.inr hl.1) a).wk λl Z h=>h.1) λj=>by rw[kk,<-U3,<-tt,dO]))
end
section
variable{K:Out->Prop}
theorem dp.put(b:dp B H r)(ps:List aH):cw B H (H.set (B+2) (.list (ps.map bQ)))/\dp B (H.set (B+2) (.list (ps.map bQ))) ⟨ps,r.ms,r.ws⟩:=b _ λld ep vf es a0 a1 ap am aw ad hd de=>by
 have xx:cw B H (H.set (B+2) (.list (ps.map bQ))):=cw.set _ (by lia) (by lia) _
 have ne:∀{l c},B+2≠l->H[l]?=some c->(H.set (B+2) (.list (ps.map bQ)))[l]?=some c:=λhn h=>d9 h _ hn
 exact⟨xx,.mk ld ep vf es (ne (by lia) a0) (ne (by lia) a1) (eX ap _) (ne (by lia) am) (ne (by lia) aw) (ne (by lia) ad) hd λe he=>(de e he).k xx⟩
theorem dp.JR(b:dp B H r)(ms:List eA):cw B H (H.set (B+3) (.list (ms.map dK)))/\dp B (H.set (B+3) (.list (ms.map dK))) ⟨r.ps,ms,r.ws⟩:=b _ λld ep vf es a0 a1 ap am aw ad hd de=>by
 have xx:cw B H (H.set (B+3) (.list (ms.map dK))):=cw.set _ (by lia) (by lia) _
 have ne:∀{l c},B+3≠l->H[l]?=some c->(H.set (B+3) (.list (ms.map dK)))[l]?=some c:=λhn h=>d9 h _ hn
 exact⟨xx,.mk ld ep vf es (ne (by lia) a0) (ne (by lia) a1) (ne (by lia) ap) (eX am _) (ne (by lia) aw) (ne (by lia) ad) hd λe he=>(de e he).k xx⟩
theorem dp.JS(b:dp B H r)(ws:List fY):cw B H (H.set (B+4) (.list (ws.map dS)))/\dp B (H.set (B+4) (.list (ws.map dS))) ⟨r.ps,r.ms,ws⟩:=b _ λld ep vf es a0 a1 ap am aw ad hd de=>by
 have xx:cw B H (H.set (B+4) (.list (ws.map dS))):=cw.set _ (by lia) (by lia) _
 have ne:∀{l c},B+4≠l->H[l]?=some c->(H.set (B+4) (.list (ws.map dS)))[l]?=some c:=λhn h=>d9 h _ hn
 exact⟨xx,.mk ld ep vf es (ne (by lia) a0) (ne (by lia) a1) (ne (by lia) ap) (ne (by lia) am) (eX aw _) (ne (by lia) ad) hd λe he=>(de e he).k xx⟩
theorem DL{k:Nat}(b:dp B H r)(hk:k<r.ps.length)(q:∀H',cw B H H'->dp B H' ⟨r.ps.set k p,r.ms,r.ws⟩->Q .none H'):ay (n+1) 65 [.ref (B+1),nv k,bQ p] H Q Y:=Sg (b _ λld ep vf es a0 a1 ap am aw ad hd de=>by
 refine(?_:aI (cc H (.ref (B+1))) _)
 refine eD (i:=0) a1 a0 rfl ?_
 refine Ds ap (by rw[aS];exact hk) ?_
 have z:=b.put (r.ps.set k p)
 rw[map_set] at z
 exact q _ z.1 z.2)
theorem JT(b:dp B H r)(hl:r.ps.length<=60/\r.ms.length<=1000/\r.ws.length<=1000)(q:∀a c d H',aA H H'->cK H' r a c d->Q (.aC [.ref a,.ref c,.ref d]) H'):ay (n+1) 75 [.ref (B+1)] H Q Y:=Sl (b _ λld ep vf es a0 a1 ap am aw ad hd de=>by
 refine(?_:aI (cc H (.ref (B+1))) _)
 refine eD (i:=0) a1 a0 rfl ?_
 apply au (oX ap)
 refine cM (cP (by rw[aS];exact bM hl.1 (by decide))) ?_
 refine(?_:aI (cc (H++_) (.ref (B+1))) _)
 refine eD (i:=1) (be _ a1) (be _ a0) rfl ?_
 apply au (oX (be _ am))
 refine cM (cP (by rw[aS];exact bM hl.2.1 (by decide))) ?_
 refine(?_:aI (cc (H++_++_) (.ref (B+1))) _)
 refine eD (i:=2) (be _ (be _ a1)) (be _ (be _ a0)) rfl ?_
 apply au (oX (be _ (be _ aw)))
 refine cM (cP (by rw[aS];exact bM hl.2.2 (by decide))) ?_
 exact q _ _ _ _ ((aA.aO _ _).trans ((aA.aO _ _).trans (aA.aO _ _))) (.mk (be _ (be _ (aZ _ _))) (be _ (aZ _ _)) (aZ _ _)))
noncomputable def kh(ps:List aH)(vs:List V):Bool:=vs.all λv=>wh v 0 ((ps.length:Int) - 1)
noncomputable def natOf:V->Nat
 |.int i=>i.toNat
 |_=>0
noncomputable def dC:V->Int
 |.int i=>i
 |_=>0
theorem DM{ps:List aH}:∀{vs:List V},kh ps vs=true->vs=aX (vs.map natOf)/\∀k∈vs.map natOf,k<ps.length
 |[],_=>⟨rfl,λZ h=>nomatch h⟩
 |v::r,h=>by
  have h:=eJ.mp (show(wh v 0 ((ps.length:Int) - 1)&&kh ps r)=true from h)
  obtain⟨k,rfl,hk⟩:=jS h.1
  have ih:=DM h.2
  refine⟨bU (nv k::·) ih.1,λj hj=>(cH.mp hj).elim (λe=>?_) (ih.2 j)⟩
  rw[e];exact hk
noncomputable def tc(ps:List aH)(k:Nat):Int:=(ps[k]?).elim 0 (·.aQ)
noncomputable def gz(ps:List aH)(ks:List Nat)(d:Int):Bool:=(decide (2<ks.length)||decide (¬ks.Nodup))||ks.any λk=>decide (tc ps k≥d)
noncomputable def pC(ps:List aH)(v:V)(vs:List V):Option Nat:=if kh ps vs then(if wh v 0 100000 then(if gz ps (vs.map natOf) (dC v) then some 2 else if 60<=ps.length then some 6 else none) else some 1) else some 0
theorem JU{C:Ct}{ps:List aH}{ρf:Option V->bB}{j:Nat}(a1:H[B+1]?=some (.obj B))(a0:H[B]?=some (.ci fs))(hf:fs[0]?.join=some (.ref (B+2)))(ap:H[B+2]?=some (.list (ps.map bQ)))(hq:H[lq]?=some (.list vs))(hs:∀v∈vs,sc v=true)(hC:C.call=ay (n+2))(hx:xq C.exc=Y)(h0:∀o,(ρf o)[0]?.join=some (.ref (B+1)))(hj:∀v,(ρf (some v))[j]?.join=some v)(ha:∀v o,aN (.J j) v (ρf o)=some (ρf (some v))){o:Option V}
  (y:kh ps vs=false->Y (.ref H.length) (H++[.exc 0])) (q:kh ps vs=true->∀o,K (.next (ρf o) H)):pX [lq] H (.J j) (λρ H K=>aG C.xq [.expr (.dJ 64 (.J 0) [(.J j)])] ρ H K) vs (ρf o) H K:=by
 have e:vs=vs.map id:=(map_id vs).symm
 have key:=wa (g:=id) (as:=vs) (ws:=[lq]) (H₀:=H) (H:=H) (t:=.J j) (K:=K) (body:=λρ H K=>aG C.xq [.expr (.dJ 64 (.J 0) [(.J j)])] ρ H K) (ok:=λv=>wh v 0 ((ps.length:Int) - 1)) (R:=λρ=>∃o,ρ=ρf o) (dm hq hq) (λv hv ρ hr=>?_) (λqD ρ hr=>hr.elim λo e=>e▸q qD o) (ρ:=ρf o) ⟨o,rfl⟩
 ·rw[<-e] at key;exact key
 ·obtain⟨o,rfl⟩:=hr
  refine au (ha v o) λN hN=>?_
  refine au (h0 _) (mc a1 a0 (au (hj v) ?_))
  refine(?_:C.call 64 [.ref (B+1),v] H (λZ H=>oO K N (.next (ρf (some v)) H)) (xq C.exc))
  rw[hC]
  refine rS a1 a0 hf ap (hs v hv) (λh=>hN h _ ⟨_,rfl⟩) λh=>?_
  rw[hx]
  refine y ?_
  cases hh:kh ps vs with
  |false=>rfl
  |true=>exact absurd (h.symm.trans (iA.mp hh v hv)) gq
end
section
variable{K:Out->Prop}{Ex:PQ}
theorem JV(ks:List Nat):aX ks=(ks.map λk:Nat=>(k:Int)).map V.int:=by rw[map_map];rfl
theorem Ay(h:H[l]?=some (.list (aX ks)))(hl:ks.length<=1000)(q:Q (.bool (decide (¬ks.Nodup))) H):ay (n+1) 24 [.ref l] H Q Y:=by
 rw[JV] at h
 refine UX h (by rw[aS];exact hl) λt ht=>?_
 have e:(ks.map λk:Nat=>(k:Int)).Nodup↔ks.Nodup:=⟨λh=>Pairwise.of_map _ (λa b hn e=>hn (bU _ e)) h,λh=>Pairwise.map _ (λa b hn e=>hn (ofNat.inj e)) h⟩
 rw[e] at ht
 cases t with
 |false=>rw[gv (λh=>h (ht.mp rfl))] at q;exact q
 |true=>rw[show decide (¬ks.Nodup)=true from c9 λh=>absurd (ht.mpr h) (by decide)] at q;exact q
theorem Va{w:Str}(hC:C.call=ay (n+1))(hj:ρ[j]?.join=some (.ref lq))(hq:H[lq]?=some (.list (aX ks)))(hl:ks.length<=1000)(y:(decide (2<ks.length)||decide (¬ks.Nodup))=true->C.exc (.ref H.length) (H++[.exc 2]))(h:(decide (2<ks.length)||decide (¬ks.Nodup))=false->aG C rest ρ H K):aG C (.br (.or [(.cmp .gt (.bi .len [(.J j)]) (kI 2)),(.call 24 [(.J j)])]) [.raise 2 w] []::rest) ρ H K:=by
 refine au hj (au (cC hq) ?_)
 have e:(decide (((aX ks).length:Int)>2))=decide (2<ks.length):=by
  rw[aS]
  exact nC.mpr ⟨λh=>by lia,λh=>by lia⟩
 refine(?_:bz (decide (((aX ks).length:Int)>2)==false) _ _)
 refine fD (λh1=>?_) λh1=>ey h1 (y (by rw[<-e,h1];rfl))
 rw[e] at h1
 refine au hj ?_
 refine(?_:C.call 24 [.ref lq] H _ C.exc)
 rw[hC]
 refine Ay hq hl ?_
 refine(?_:bz (decide (¬ks.Nodup)) _ _)
 exact cb (λh2=>y (by rw[h2,Bool.or_true])) λh2=>h (by rw[h1,h2];rfl)
theorem Vb{k:Nat}{ps:List aH}(ap:H[l]?=some (.list (ps.map bQ)))(hk:k<ps.length):∃p,ps[k]?=some p/\tc ps k=p.aQ/\fF (.ref l) (nv k) H=some (bQ p):=(at_of hk).elim λp hp=>⟨p,hp,by unfold tc;rw[hp];rfl,ee ap hp⟩
theorem JW{C:Ct}{ps:List aH}{ρf:Option V->bB}{j jd:Nat}{w:Str}(a1:H[B+1]?=some (.obj B))(a0:H[B]?=some (.ci fs))(hf:fs[0]?.join=some (.ref (B+2)))(ap:H[B+2]?=some (.list (ps.map bQ)))(hq:H[lq]?=some (.list (aX ks)))(hk:∀k∈ks,k<ps.length)(h0:∀o,(ρf o)[0]?.join=some (.ref (B+1)))(hj:∀v,(ρf (some v))[j]?.join=some v)(hd:∀o,(ρf o)[jd]?.join=some (.int d))(ha:∀v o,aN (.J j) v (ρf o)=some (ρf (some v))){o:Option V}
  (y:(ks.any λk=>decide (tc ps k≥d))=true->xq C.exc (.ref H.length) (H++[.exc 2])) (q:(ks.any λk=>decide (tc ps k≥d))=false->∀o,K (.next (ρf o) H)):pX [lq] H (.J j) (λρ H K=>aG C.xq [.br (.cmp .ge (.aP (.aP (.attr (.J 0) 0) (.J j)) (kI 0)) (.J jd)) [.raise 2 w] []] ρ H K) (aX ks) (ρf o) H K:=by
 refine wa (g:=nv) (as:=ks) (ok:=λk=>!decide (tc ps k≥d)) (R:=λρ=>∃o,ρ=ρf o) (dm hq hq) (λk td ρ hr=>?_) (λqD ρ hr=>hr.elim λo e=>e▸q ?_ o) ⟨o,rfl⟩
 ·obtain⟨o,rfl⟩:=hr
  refine au (ha _ o) λN hN=>?_
  obtain⟨p,hp,eb,ix⟩:=Vb ap (hk k td)
  refine au (h0 _) (eD (i:=0) a1 a0 hf (au (hj _) ?_))
  apply au ix
  refine au (hd _) ?_
  refine(?_:bz (decide (p.aQ≥d)) _ _)
  rw[<-eb]
  exact cb (λh=>y (nE.mpr ⟨k,td,h⟩)) λh=>hN (by rw[h];rfl) _ ⟨_,rfl⟩
 ·cases hh:ks.any λk=>decide (tc ps k≥d) with
  |false=>rfl
  |true=>
   obtain⟨k,td,h⟩:=nE.mp hh
   have h2:=iA.mp qD k td
   rw[h] at h2;cases h2
theorem Vc{H1:Hp}{o1:Option V}(k4:r.ps.length<60)(hT:fq (r.ps++[p])=[]\/dg ⟨r.ps++[p],r.ms,r.ws⟩)(x:cw B H H1)(b2:dp B H1 ⟨r.ps++[p],r.ms,r.ws⟩)(q:∀H',cw B H H'->cU B H' ⟨r.ps++[p],r.ms,r.ws⟩->Q (nv r.ps.length) H'):aG ⟨ay (n+68),xq Y⟩ (yK.drop 6) [some (.ref (B+1)),o1,o2,o3] H1 (bD Q):=b2 _ λld ep vf es a0 a1 ap am aw ad hd de=>by
 refine(?_:aI (cc H1 (.ref (B+1))) _)
 refine mc a1 a0 ?_
 refine b6 (s9 (n:=n) (r:=⟨r.ps++[p],r.ms,r.ws⟩) (by rw[bX];exact k4) hT b2 λH2 x2 b3=>?_)
 refine b3.b _ λld ep vf es a0 a1 ap am aw ad hd de=>?_
 refine(?_:aI (cc H2 (.ref (B+1))) _)
 refine eD (i:=0) a1 a0 rfl ?_
 apply au (cC ap)
 rw[aS,bX]
 refine(?_:Q (.int (((r.ps.length+1:Nat):Int) - 1)) H2)
 rw[show(((r.ps.length+1:Nat):Int) - 1)=(r.ps.length:Int) by lia]
 exact q H2 (x.trans x2) b3
theorem Vd(b:dp B H r)(hl:r.ps.length<=60)(hq:H[lq]?=some (.list (aX ks)))(hk:∀k∈ks,k<r.ps.length)(je:ks.length<=1000)(JX:lq<B\/B+5<=lq)(y2:gz r.ps ks d=true->Y (.ref H.length) (H++[.exc 2]))(y6:gz r.ps ks d=false->60<=r.ps.length->Y (.ref H.length) (H++[.exc 6]))(hT:gz r.ps ks d=false->r.ps.length<60->fq (r.ps++[⟨d,ks,none,none⟩])=[]\/dg ⟨r.ps++[⟨d,ks,none,none⟩],r.ms,r.ws⟩)
  (q:gz r.ps ks d=false->r.ps.length<60->∀H',cw B H H'->cU B H' ⟨r.ps++[⟨d,ks,none,none⟩],r.ms,r.ws⟩->Q (nv r.ps.length) H') {o:Option V}:aG ⟨ay (n+68),xq Y⟩ (yK.drop 2) [some (.ref (B+1)),some (.int d),some (.ref lq),o] H (bD Q):=b _ λld ep vf es a0 a1 ap am aw ad hd de=>by
 refine Va (n:=n+67) rfl rfl hq je (λh=>dt (y2 (by unfold gz;rw[h];rfl))) λh1=>?_
 apply au (cT hq)
 refine JW (C:=⟨ay (n+68),xq Y⟩) (ρf:=λo=>[some (.ref (B+1)),some (.int d),some (.ref lq),o]) a1 a0 rfl ap hq hk (λZ=>rfl) (λZ=>rfl) (λZ=>rfl) (λZ Z=>rfl) (λh=>dt (dt (y2 (by unfold gz;rw[h,Bool.or_true])))) λh2 o=>?_
 have DN:gz r.ps ks d=false:=by unfold gz;rw[h1,h2];rfl
 refine(?_:aI (cc H (.ref (B+1))) _)
 refine eD (i:=0) a1 a0 rfl ?_
 apply au (cC ap)
 rw[aS]
 refine(?_:bz (decide ((r.ps.length:Int)≥60)) _ _)
 refine rK (λh=>dt (y6 DN (by lia))) λh=>?_
 have k4:r.ps.length<60:=by lia
 refine(?_:aI (cc H (.ref (B+1))) _)
 refine eD (i:=0) a1 a0 rfl ?_
 refine gg ap ?_
 apply au (cC hq)
 refine gy ap (by rw[aS];exact lt_trans k4 (by decide)) ?_
 have z:=b.put (r.ps++[⟨d,ks,none,none⟩])
 rw[gx] at z
 exact Vc k4 (hT DN k4) z.1 z.2 (q DN k4)
theorem JY(b:dp B H r)(hl:r.ps.length<=60)(hq:H[lq]?=some (.list vs))(hs:∀v∈vs,sc v=true)(hv:sc v=true)(je:vs.length<=1000)(JX:lq<B\/B+5<=lq)(y:∀k,pC r.ps v vs=some k->Y (.ref H.length) (H++[.exc k]))(hT:pC r.ps v vs=none->fq (r.ps++[⟨dC v,vs.map natOf,none,none⟩])=[]\/dg ⟨r.ps++[⟨dC v,vs.map natOf,none,none⟩],r.ms,r.ws⟩)
  (q:pC r.ps v vs=none->∀H',cw B H H'->cU B H' ⟨r.ps++[⟨dC v,vs.map natOf,none,none⟩],r.ms,r.ws⟩->Q (nv r.ps.length) H'):ay (n+69) 67 [.ref (B+1),v,.ref lq] H Q Y:=Si (b _ λld ep vf es a0 a1 ap am aw ad hd de=>by
 apply au (cT hq)
 refine JU (n:=n+66) (C:=⟨ay (n+68),xq Y⟩) (ρf:=λo=>[some (.ref (B+1)),some v,some (.ref lq),o]) a1 a0 rfl ap hq hs rfl rfl (λZ=>rfl) (λZ=>rfl) (λZ Z=>rfl) (λh=>dt (dt (y 0 (by unfold pC;rw[h];rfl)))) λh0 o=>?_
 have e1:pC r.ps v vs=if wh v 0 100000 then(if gz r.ps (vs.map natOf) (dC v) then some 2 else if 60<=r.ps.length then some 6 else none) else some 1:=bL h0
 refine(?_:ay (n+68) 23 [v] H _ _)
 refine v9 (n:=n+66) hv (λh1=>?_) λh1=>dt (y 1 (by rw[e1,h1];rfl))
 have e2:pC r.ps v vs=if gz r.ps (vs.map natOf) (dC v) then some 2 else if 60<=r.ps.length then some 6 else none:=e1.trans (bL h1)
 obtain⟨d,rfl,_⟩:=mD h1
 obtain⟨uJ,DO⟩:=DM h0
 refine Vd (ks:=vs.map natOf) (d:=d) b hl (uJ▸hq) DO (by rw[aS];exact je) JX (λh=>y 2 (e2.trans (bL h))) (λh h6=>y 6 (e2.trans ((bG (by rw[show gz r.ps (vs.map natOf) (dC (.int d))=false from h];decide)).trans (bL h6)))) (λh h6=>hT (e2.trans ((bG (by rw[show gz r.ps (vs.map natOf) (dC (.int d))=false from h];decide)).trans (bG (Nat.not_le.mpr h6))))) λh h6=>q (e2.trans ((bG (by rw[show gz r.ps (vs.map natOf) (dC (.int d))=false from h];decide)).trans (bG (Nat.not_le.mpr h6)))))
end
section
variable{k:Nat}{K:Out->Prop}{c:V}
noncomputable def te(p:aH)(d:Int):Bool:=decide (d<p.aQ)||(p.bR.elim false λe=>decide (d≥e))
noncomputable def pD(ps:List aH)(p:aH)(ks:List Nat)(d:Int):Option Nat:=if te p d then some 1 else if ks.isEmpty||gz ps ks p.aQ then some 2 else if p.ad.isSome then some 5 else none
noncomputable def qE(ps:List aH)(c v:V)(vs:List V):Option Nat:=if wh c 0 ((ps.length:Int) - 1)&&kh ps vs then(if wh v 0 100000 then(ps[natOf c]?).elim none λp=>pD ps p (vs.map natOf) (dC v) else some 1) else some 0
noncomputable abbrev lW(p:aH)(d:Int)(ks:List Nat):aH:=⟨p.aQ,p.ca,some (d,ks),p.bR⟩
theorem Ve(b:dp B H r)(hl:r.ps.length<=60)(hp:r.ps[k]?=some p)(hT:fq (r.ps.set k (lW p d ks))=[]\/dg ⟨r.ps.set k (lW p d ks),r.ms,r.ws⟩)(hq:H[lq]?=some (.list (aX ks)))(q:∀H',cw B H H'->cU B H' ⟨r.ps.set k (lW p d ks),r.ms,r.ws⟩->Q .none H'):aG ⟨ay (n+68),xq Y⟩ (u5.drop 8) [some (.ref (B+1)),some (nv k),some (.int d),some (.ref lq),o4,some (.int p.aQ),some (.aC (aX p.ca)),some (mv p.ad),some (fW p.bR)] H (bD Q):=b _ λld ep vf es a0 a1 ap am aw ad hd de=>by
 refine(?_:aI (cc H (.ref (B+1))) _)
 refine mc a1 a0 ?_
 apply au (cC hq)
 have hk:k<r.ps.length:=(dZ.mp hp).1
 refine(?_:ay (n+68) 65 [.ref (B+1),nv k,bQ (lW p d ks)] H _ _)
 refine DL b hk λH1 x1 b1=>?_
 refine b1 _ λld ep vf es a0 a1 ap am aw ad hd de=>?_
 refine(?_:aI (cc H1 (.ref (B+1))) _)
 refine mc a1 a0 ?_
 exact b6 (s9 (n:=n) (r:=⟨r.ps.set k (lW p d ks),r.ms,r.ws⟩) (by rw[kG];exact hl) hT b1 λH2 x2 b2=>q H2 (x1.trans x2) b2)
theorem Vf(b:dp B H r)(hl:r.ps.length<=60)(hp:r.ps[k]?=some p)(hq:H[lq]?=some (.list (aX ks)))(hk:∀k∈ks,k<r.ps.length)(je:ks.length<=1000)(y:∀j,pD r.ps p ks d=some j->Y (.ref H.length) (H++[.exc j]))(hT:pD r.ps p ks d=none->fq (r.ps.set k (lW p d ks))=[]\/dg ⟨r.ps.set k (lW p d ks),r.ms,r.ws⟩)(q:pD r.ps p ks d=none->∀H',cw B H H'->cU B H' ⟨r.ps.set k (lW p d ks),r.ms,r.ws⟩->Q .none H'):aG ⟨ay (n+68),xq Y⟩ (u5.drop 3) [some (.ref (B+1)),some (nv k),some (.int d),some (.ref lq),o4,o5,o6,o7,o8] H (bD Q):=b _ λld ep vf es a0 a1 ap am aw ad hd de=>by
 refine(?_:aI (cc H (.ref (B+1))) _)
 refine eD (i:=0) a1 a0 rfl ?_
 apply au (ee ap hp)
 have l1:te p d=true->xq Y (.ref H.length) (H++[.exc 1]):=λh=>dt (y 1 (bL h))
 have key:te p d=false->aG ⟨ay (n+68),xq Y⟩ (u5.drop 5) [some (.ref (B+1)),some (nv k),some (.int d),some (.ref lq),o4,some (.int p.aQ),some (.aC (aX p.ca)),some (mv p.ad),some (fW p.bR)] H (bD Q):=λh1=>by
  have e1:pD r.ps p ks d=if ks.isEmpty||gz r.ps ks p.aQ then some 2 else if p.ad.isSome then some 5 else none:=bG (by rw[h1];decide)
  have y2:(ks.isEmpty||gz r.ps ks p.aQ)=true->xq Y (.ref H.length) (H++[.exc 2]):=λh=>dt (y 2 (e1.trans (bL h)))
  have k2:(ks.isEmpty||(decide (2<ks.length)||decide (¬ks.Nodup)))=false->aG ⟨ay (n+68),xq Y⟩ (u5.drop 6) [some (.ref (B+1)),some (nv k),some (.int d),some (.ref lq),o4,some (.int p.aQ),some (.aC (aX p.ca)),some (mv p.ad),some (fW p.bR)] H (bD Q):=λh2=>by
   have h2:=qM.mp h2
   apply au (cT hq)
   refine JW (C:=⟨ay (n+68),xq Y⟩) (ρf:=λo=>[some (.ref (B+1)),some (nv k),some (.int d),some (.ref lq),o,some (.int p.aQ),some (.aC (aX p.ca)),some (mv p.ad),some (fW p.bR)]) a1 a0 rfl ap hq hk (λZ=>rfl) (λZ=>rfl) (λZ=>rfl) (λZ Z=>rfl) (λh=>dt (y2 (by unfold gz;rw[h,Bool.or_true,Bool.or_true]))) λh3 o=>?_
   have e2:pD r.ps p ks d=if p.ad.isSome then some 5 else none:=e1.trans (if_neg (by unfold gz;rw[h2.1,h2.2,h3];decide))
   cases ha:p.ad with
   |some a=>exact dt (y 5 (by rw[e2,ha];rfl))
   |none=>
    have e3:pD r.ps p ks d=none:=by rw[e2,ha];rfl
    have z:=Ve (n:=n) (Y:=Y) (o4:=o) b hl hp (hT e3) hq (q e3)
    rw[ha] at z
    exact z
  have e9:(decide (1<=((aX ks).length:Int))&&decide (((aX ks).length:Int)<=2))=!(ks.isEmpty||decide (2<ks.length)):=by
   rw[aS]
   cases ks with
   |nil=>rfl
   |cons a t=>
    rw[iY,List.isEmpty_cons,Bool.false_or,show decide (1<=((t.length+1:Nat):Int))=true from c9 (by lia),Bool.true_and,<-decide_not]
    exact nC.mpr ⟨λh=>by lia,λh=>by lia⟩
  apply au (cC hq)
  refine(?_:bz (decide (1<=((aX ks).length:Int))) _ _)
  refine cb (λh3=>?_) λh3=>?_
  ·rw[h3,Bool.true_and] at e9
   refine(?_:bz ((!decide (((aX ks).length:Int)<=2))==false) _ _)
   refine fD (λh4=>?_) λh4=>ey h4 (y2 ?_)
   ·rw[e9,Bool.not_not] at h4
    refine(?_:ay (n+68) 24 [.ref lq] H _ _)
    refine Ay hq je ?_
    refine(?_:bz (decide (¬ks.Nodup)) _ _)
    refine cb (λh5=>y2 ?_) λh5=>k2 ?_
    ·unfold gz;rw[h5,Bool.or_true,Bool.true_or,Bool.or_true]
    ·rw[h5,Bool.or_false];exact h4
   ·rw[e9,Bool.not_not] at h4
    unfold gz
    rcases jY.mp h4 with h|h
    ·rw[h];rfl
    ·rw[h,Bool.true_or,Bool.true_or,Bool.or_true]
  ·rw[h3,Bool.false_and] at e9
   have e9:(ks.isEmpty||decide (2<ks.length))=true:=by rw[<-iB];exact e9.symm
   refine y2 ?_
   unfold gz
   rcases jY.mp e9 with h|h
   ·rw[h];rfl
   ·rw[h,Bool.true_or,Bool.true_or,Bool.or_true]
 refine(?_:bz (decide (d<p.aQ)==false) _ _)
 refine fD (λh1=>?_) λh1=>ey h1 (l1 (by unfold te;rw[h1];rfl))
 cases hd:p.bR with
 |none=>
  have z:=key (by unfold te;rw[h1,hd];rfl)
  rw[hd] at z
  exact z
 |some e=>
  refine(?_:bz (decide (d≥e)) _ _)
  refine cb (λh2=>l1 (by unfold te;rw[hd];exact or_eq_true_iff.mpr (.inr h2))) λh2=>?_
  have z:=key (by unfold te;rw[h1,hd];exact h2)
  rw[hd] at z
  exact z
theorem Vg(b:dp B H r)(hl:r.ps.length<=60)(hq:H[lq]?=some (.list vs))(hs:∀v∈vs,sc v=true)(hv:sc v=true)(hc:sc c=true)(je:vs.length<=1000)(y:∀k,qE r.ps c v vs=some k->Y (.ref H.length) (H++[.exc k]))
  (hT:qE r.ps c v vs=none->∀p,r.ps[natOf c]?=some p->fq (r.ps.set (natOf c) (lW p (dC v) (vs.map natOf)))=[]\/dg ⟨r.ps.set (natOf c) (lW p (dC v) (vs.map natOf)),r.ms,r.ws⟩)
  (q:qE r.ps c v vs=none->∀p,r.ps[natOf c]?=some p->∀H',cw B H H'->cU B H' ⟨r.ps.set (natOf c) (lW p (dC v) (vs.map natOf)),r.ms,r.ws⟩->Q .none H'):ay (n+69) 68 [.ref (B+1),c,v,.ref lq] H Q Y:=Sj (b _ λld ep vf es a0 a1 ap am aw ad hd de=>by
 refine(?_:aI (cc H (.ref (B+1))) _)
 refine mc a1 a0 ?_
 refine(?_:ay (n+68) 64 [.ref (B+1),c] H _ _)
 refine rS (n:=n+66) a1 a0 rfl ap hc (λh0=>?_) λh0=>dt (y 0 (by unfold qE;rw[h0];rfl))
 apply au (cT hq)
 refine JU (n:=n+66) (C:=⟨ay (n+68),xq Y⟩) (ρf:=λo=>[some (.ref (B+1)),some c,some v,some (.ref lq),o,none,none,none,none]) a1 a0 rfl ap hq hs rfl rfl (λZ=>rfl) (λZ=>rfl) (λZ Z=>rfl) (λh=>dt (dt (y 0 (by unfold qE;rw[h,Bool.and_false];rfl)))) λh1 o=>?_
 have e1:qE r.ps c v vs=if wh v 0 100000 then(r.ps[natOf c]?).elim none λp=>pD r.ps p (vs.map natOf) (dC v) else some 1:=bL (by rw[h0,h1];rfl)
 refine(?_:ay (n+68) 23 [v] H _ _)
 refine v9 (n:=n+66) hv (λh2=>?_) λh2=>dt (y 1 (by rw[e1,h2];rfl))
 obtain⟨k,rfl,hk⟩:=jS h0
 obtain⟨d,rfl,_⟩:=mD h2
 obtain⟨uJ,DO⟩:=DM h1
 refine(at_of hk).elim λp hp=>?_
 have e2:qE r.ps (nv k) (.int d) vs=pD r.ps p (vs.map natOf) d:=e1.trans ((bL h2).trans (by rw[show natOf (nv k)=k from rfl,hp];rfl))
 exact Vf (ks:=vs.map natOf) (d:=d) (p:=p) b hl hp (uJ▸hq) DO (by rw[aS];exact je) (λj h=>y j (e2.trans h)) (λh=>hT (e2.trans h) p hp) λh=>q (e2.trans h) p hp)
end
section
variable{k:Nat}{K:Out->Prop}{ps:List aH}
theorem ym(a1:H[B+1]?=some (.obj B))(a0:H[B]?=some (.ci fs))(hf:fs[0]?.join=some (.ref (B+2)))(ap:H[B+2]?=some (.list (ps.map bQ)))(hk:k<ps.length)(q:Q .none H):ay (n+2) 64 [.ref (B+1),nv k] H Q Y:=rS a1 a0 hf ap rfl (λZ=>q) λh=>absurd (h.symm.trans (Aw hk)) gq
theorem DP(h:0<=d/\d<=100000)(q:Q .none H):ay (n+2) 23 [.int d] H Q Y:=v9 rfl (λZ=>q) λe=>absurd (e.symm.trans (eJ.mpr ⟨c9 h.1,c9 h.2⟩)) gq
noncomputable abbrev gM(p:aH)(d:Int):aH:=⟨p.aQ,p.ca,p.ad,some d⟩
theorem Vh(b:dp B H ⟨ps,[],[]⟩)(hl:ps.length<=60)(hp:ps[k]?=some p)(hd:p.bR=none)(ha:p.ad=none)(h:0<=d/\d<=100000)(hb:p.aQ<=d)(hT:dg ⟨ps.set k (gM p d),[],[]⟩)(q:∀H',cw B H H'->cU B H' ⟨ps.set k (gM p d),[],[]⟩->Q .none H'):ay (n+69) 71 [.ref (B+1),nv k,.int d] H Q Y:=HO (b _ λld ep vf es a0 a1 ap am aw ad oV de=>by
 have hk:k<ps.length:=(dZ.mp hp).1
 refine(?_:aI (cc H (.ref (B+1))) _)
 refine mc a1 a0 ?_
 refine(?_:ay (n+68) 64 [.ref (B+1),nv k] H _ _)
 refine ym (n:=n+66) a1 a0 rfl ap hk ?_
 refine(?_:ay (n+68) 23 [.int d] H _ _)
 refine DP (n:=n+66) h ?_
 refine(?_:aI (cc H (.ref (B+1))) _)
 refine eD (i:=0) a1 a0 rfl ?_
 apply au (ee ap hp)
 unfold bQ
 rw[hd,ha]
 refine(?_:bz (decide (d<p.aQ)==false) _ _)
 refine fD (λZ=>?_) λh1=>absurd (cf h1) (Int.not_lt.mpr hb)
 refine(?_:aI (cc H (.ref (B+1))) _)
 refine eD (i:=2) a1 a0 rfl ?_
 apply au (cT aw)
 refine(?_:aI (cc H (.ref (B+1))) _)
 refine eD (i:=1) a1 a0 rfl ?_
 apply au (cT am)
 refine(?_:aI (cc H (.ref (B+1))) _)
 refine mc a1 a0 ?_
 have Vi:dg ⟨ps.set k ⟨p.aQ,p.ca,none,some d⟩,[],[]⟩:=by have z:=hT;unfold gM at z;rw[ha] at z;exact z
 have q:∀H',cw B H H'->cU B H' ⟨ps.set k ⟨p.aQ,p.ca,none,some d⟩,[],[]⟩->Q .none H':=by have z:=q;unfold gM at z;rw[ha] at z;exact z
 refine(?_:ay (n+68) 65 [.ref (B+1),nv k,bQ ⟨p.aQ,p.ca,none,some d⟩] H _ _)
 refine DL (r:=⟨ps,[],[]⟩) b hk λH1 x1 b1=>?_
 refine b1 _ λld ep vf es a0 a1 ap am aw ad hd de=>?_
 refine(?_:aI (cc H1 (.ref (B+1))) _)
 refine mc a1 a0 ?_
 exact b6 (s9 (n:=n) (r:=⟨ps.set k ⟨p.aQ,p.ca,none,some d⟩,[],[]⟩) (by rw[kG];exact hl) (.inr Vi) b1 λH2 x2 b2=>q H2 (x1.trans x2) b2))
theorem Vj{i:Nat}{x y:V}(hi:ρ[i]?.join=some x)(hj:ρ[j]?.join=some y)(q:Q (.aC [x,y]) H):WE C (.aC [.J i,.J j]) ρ H Q:=au hi (au hj q)
theorem Az{b:Nat}(a1:H[B+1]?=some (.obj B))(a0:H[B]?=some (.ci fs))(hf:fs[0]?.join=some (.ref (B+2)))(ap:H[B+2]?=some (.list (ps.map bQ)))(ha:a<ps.length)(hb:b<ps.length)(q:∀H',aA H H'->Q (.int (jB 100001 (dI ps a) (dI ps b))) H'):ay (n+1) 69 [.ref (B+1),nv a,nv b] H Q Y:=Sk (by
 unfold Bu
 refine dU (j8 (nr (Vj (x:=nv a) (y:=nv b) rfl rfl ?_)))
 refine au (a:=[nv a,nv b]) rfl (cM (cP (show 2<16000000 by decide)) ?_)
 refine Jp (C:=⟨ay n,xq Y⟩) ha hb (λj p T hp hT=>?_) (λj p N hp hN=>?_) ?_
 ·refine(?_:aI (cc H (.ref (B+1))) _)
  refine eD (i:=0) a1 a0 hf ?_
  apply au (ee ap hp)
  unfold bQ
  cases hd:p.bR with
  |none=>rw[hd] at hT;exact hT
  |some d=>rw[hd] at hT;exact hT
 ·refine(?_:aI (cc H (.ref (B+1))) _)
  refine eD (i:=0) a1 a0 hf ?_
  apply au (ee ap hp)
  exact hN
 ·refine(Jo ha hb).elim λis yf=>?_
  have e:kN (H++[.list ([]++([a,b].filter (fH ps)).map (kZ ps))]) (.ref H.length)=some is:=by
   refine(?_:(eQ _ (.ref H.length)).bind allInts=_)
   rw[cC (aZ _ _)];exact yf.1
  apply au e
  have q:=q _ (aA.aO H [.list ([]++([a,b].filter (fH ps)).map (kZ ps))])
  rw[<-yf.2] at q
  exact q)
theorem AA{o1 o2:Option Int}(h:x<=100000):decide (jB 100001 o1 o2>x)=decide (jB (10^9) o1 o2>x):=by
 cases o1<;>cases o2<;>first|rfl|exact(c9 (show(100001:Int)>x by lia)).trans (c9 (show(10^9:Int)>x by lia)).symm
theorem JZ{w u:eA}:((((w.a:Int)==(u.a:Int))||(((w.b:Int)==(u.a:Int))||false))||(((w.a:Int)==(u.b:Int))||(((w.b:Int)==(u.b:Int))||false)))=lV w u:=by
 unfold lV
 rw[Bool.or_false,Bool.or_false,Bool.or_false,Bool.or_false,beq_comm (a:=(w.a:Int)),beq_comm (a:=(w.b:Int)),beq_comm (a:=(w.a:Int)) (b:=(u.b:Int)),beq_comm (a:=(w.b:Int)) (b:=(u.b:Int))]
 cases((u.a:Int)==(w.a:Int))<;>cases((u.a:Int)==(w.b:Int))<;>cases((u.b:Int)==(w.a:Int))<;>cases((u.b:Int)==(w.b:Int))<;>rfl
end
section
variable{b:Nat}{K:Out->Prop}
noncomputable abbrev oz(B a b:Nat)(d:Int)(o4 o5 o6:Option V):bB:=[some (.ref (B+1)),some (nv a),some (nv b),some (.int d),o4,o5,o6]
theorem Vk(k:dp B H r)(ha:a<r.ps.length)(hb:b<r.ps.length)(ok:jz r.ps.length r.ms)(hd:d<=100000)(hc:∀u∈r.ms,clear r.ps ⟨a,b,d⟩ u=true/\u.day<=100000)(q:∀o4 o5 o6 H',aA H H'->aG ⟨ay (n+68),xq Y⟩ (si.drop 5) (oz B a b d o4 o5 o6) H' (bD Q)):aG ⟨ay (n+68),xq Y⟩ (si.drop 4) (oz B a b d none none none) H (bD Q):=k _ λld ep vf es a0 a1 ap am aw ad oV de=>by
 refine(?_:aI (cc H (.ref (B+1))) _)
 refine eD (i:=1) a1 a0 rfl ?_
 apply au (cT am)
 refine fR (g:=dK) (λas ρ H'=>(∃o4 o5 o6,ρ=oz B a b d o4 o5 o6)/\aA H H'/\∀u∈as,u∈r.ms) (λu as ρ H' h=>?_) (λρ H' h=>?_) _ _ _ ⟨⟨none,none,none,rfl⟩,aA.refl _,λZ h=>h⟩
 ·obtain⟨⟨o4,o5,o6,rfl⟩,x,hm⟩:=h
  refine λN hN=>?_
  have hu:=hm u cJ
  have no:∀H'',aA H' H''->N (oz B a b d (some (nv u.a)) (some (nv u.b)) (some (.int u.day))) H'':=λH'' x'=>hN _ _ (dm am ((x.trans x') _ _ am)) ⟨⟨_,_,_,rfl⟩,x.trans x',λw h=>hm w (.tail _ h)⟩
  have cl:=hc u hu
  have yes:lV ⟨a,b,d⟩ u=true->aG ⟨ay (n+68),xq (xq Y)⟩ [.br (.and [(.cmp .gt (.dJ 69 (.J 0) [.J 4,.J 5]) (.J 3)),(.cmp .gt (.dJ 69 (.J 0) [.J 1,.J 2]) (.J 6))]) [.raise 5 "another marriage meets it"] []] (oz B a b d (some (nv u.a)) (some (nv u.b)) (some (.int u.day))) H' (λo=>i0 o N False):=λht=>by
   have me:(decide (jB 100001 (dI r.ps u.a) (dI r.ps u.b)>d)&&decide (jB 100001 (dI r.ps a) (dI r.ps b)>u.day))=false:=by
    have z:=cl.1
    unfold clear vZ at z
    rw[ht,Bool.true_and,jj,Bool.and_comm] at z
    rw[AA hd,AA cl.2]
    exact z
   refine(?_:aI (cc H' (.ref (B+1))) _)
   refine mc (x _ _ a1) (x _ _ a0) ?_
   refine(?_:ay (n+68) 69 [.ref (B+1),nv u.a,nv u.b] H' _ _)
   refine Az (x _ _ a1) (x _ _ a0) rfl (x _ _ ap) (ok u hu).1 (ok u hu).2 λH2 x2=>?_
   refine(?_:bz (decide (jB 100001 (dI r.ps u.a) (dI r.ps u.b)>d)==true) _ _)
   refine fC (λh1=>?_) λh1=>e8 h1 (no H2 x2)
   have x3:=x.trans x2
   refine(?_:aI (cc H2 (.ref (B+1))) _)
   refine mc (x3 _ _ a1) (x3 _ _ a0) ?_
   refine(?_:ay (n+68) 69 [.ref (B+1),nv a,nv b] H2 _ _)
   refine Az (x3 _ _ a1) (x3 _ _ a0) rfl (x3 _ _ ap) ha hb λH4 x4=>?_
   rw[h1,Bool.true_and] at me
   refine(?_:bz (decide (jB 100001 (dI r.ps a) (dI r.ps b)>u.day)) _ _)
   exact cb (λh2=>absurd (me.symm.trans h2) gq) λZ=>no H4 (x2.trans x4)
  refine(?_:bz ((((a:Int)==(u.a:Int))||(((b:Int)==(u.a:Int))||false))==false) _ _)
  have ti:=JZ (w:=⟨a,b,d⟩) (u:=u)
  refine fD (λh1=>?_) λh1=>ey h1 (yes (by rw[<-ti];exact jY.mpr (.inl h1)))
  refine(?_:bz (((a:Int)==(u.b:Int))||(((b:Int)==(u.b:Int))||false)) _ _)
  exact cb (λh2=>yes (by rw[<-ti];exact jY.mpr (.inr h2))) λh2=>no _ (aA.refl _)
 ·obtain⟨⟨o4,o5,o6,rfl⟩,x,hm⟩:=h
  exact q _ _ _ _ x
theorem Vl(k:dp B H r)(hl:r.ps.length<=60)(ha:a<r.ps.length)(hb:b<r.ps.length)(ok:jz r.ps.length r.ms)(uH:r.ms.length<=1000)(g:Dv r.ps ⟨a,b,d⟩)(hc:∀u∈r.ms,clear r.ps ⟨a,b,d⟩ u=true/\u.day<=100000)(hT:dg ⟨r.ps,r.ms++[⟨a,b,d⟩],r.ws⟩)(q:∀H',cw B H H'->cU B H' ⟨r.ps,r.ms++[⟨a,b,d⟩],r.ws⟩->Q .none H'):ay (n+69) 70 [.ref (B+1),nv a,nv b,.int d] H Q Y:=HN (k _ λld ep vf es a0 a1 ap am aw ad hd de=>by
 have gd:=g.2.2.2
 refine(?_:aI (cc H (.ref (B+1))) _)
 refine mc a1 a0 ?_
 refine(?_:ay (n+68) 64 [.ref (B+1),nv a] H _ _)
 refine ym (n:=n+66) a1 a0 rfl ap ha ?_
 refine(?_:aI (cc H (.ref (B+1))) _)
 refine mc a1 a0 ?_
 refine(?_:ay (n+68) 64 [.ref (B+1),nv b] H _ _)
 refine ym (n:=n+66) a1 a0 rfl ap hb ?_
 refine(?_:ay (n+68) 23 [.int d] H _ _)
 refine DP (n:=n+66) gd ?_
 refine(?_:bz (((a:Int)==(b:Int))==false) _ _)
 refine fD (λZ=>?_) λh1=>absurd (ofNat.inj (eq_of_beq h1)) g.1
 obtain⟨p,hp⟩:=at_of ha
 obtain⟨p',dB⟩:=at_of hb
 have l1:d7 p d=true:=(i9 hp).symm.trans g.2.1
 have l2:d7 p' d=true:=(i9 dB).symm.trans g.2.2.1
 refine(?_:aI (cc H (.ref (B+1))) _)
 refine eD (i:=0) a1 a0 rfl ?_
 refine(?_:ay (n+68) 0 [.ref (B+2),nv a,.int d] H _ _)
 refine nX ap hp ?_
 rw[l1]
 refine(?_:aI (cc H (.ref (B+1))) _)
 refine eD (i:=0) a1 a0 rfl ?_
 refine(?_:ay (n+68) 0 [.ref (B+2),nv b,.int d] H _ _)
 refine nX ap dB ?_
 rw[l2]
 refine Vk (n:=n) k ha hb ok gd.2 hc λo4 o5 o6 H1 x1=>?_
 have k1:=k.ext x1
 refine k1 _ λld ep vf es a0 a1 ap am aw ad hd de=>?_
 refine(?_:aI (cc H1 (.ref (B+1))) _)
 refine eD (i:=1) a1 a0 rfl ?_
 refine gg am (gy am (by rw[aS];exact bM uH (by decide)) ?_)
 have z:=k1.JR (r.ms++[⟨a,b,d⟩])
 rw[gx] at z
 refine z.2 _ λld ep vf es a0 a1 ap am aw ad hd de=>?_
 refine(?_:aI (cc (H1.set (B+3) _) (.ref (B+1))) _)
 refine mc a1 a0 ?_
 exact b6 (s9 (n:=n) (r:=⟨r.ps,r.ms++[(⟨a,b,d⟩:eA)],r.ws⟩) hl (.inr hT) z.2 λH2 x2 b2=>q H2 ((x1.k.trans z.1).trans x2) b2))
end
theorem Vm{un:Nat}(h:un≠0)(j:Nat):mkRat ((j*ov:Nat):Int) un+mkRat (ov:Int) un=mkRat (((j+1)*ov:Nat):Int) un:=by
 rw[Rat.mkRat_add_mkRat _ _ h h,Rat.mkRat_eq_iff (Nat.mul_ne_zero h h) h]
 have:(((j+1)*ov:Nat):Int)=((j*ov:Nat):Int)+(ov:Int):=by rw[Nat.succ_mul];rfl
 rw[this,Int.natCast_mul un un]
 grind
theorem J0{un m:Nat}(h:un≠0)(hm:m<=un):(mkRat (m:Int) un).num<=((mkRat (m:Int) un).den:Int):=by
 have e:(m:Int)*((mkRat (m:Int) un).den:Int)=(mkRat (m:Int) un).num*(un:Int):=(Rat.mkRat_eq_iff h (mkRat (m:Int) un).den_nz).mp (Rat.mkRat_self _).symm
 have h2:(m:Int)*((mkRat (m:Int) un).den:Int)<=(un:Int)*((mkRat (m:Int) un).den:Int):=Int.mul_le_mul_of_nonneg_right (ofNat_le.mpr hm) (kJ _)
 rw[e,Int.mul_comm (un:Int)] at h2
 exact Int.le_of_mul_le_mul_right h2 (jk.mpr (Nat.pos_of_ne_zero h))
theorem Vn{un:Nat}(h:un≠0)(o1:1<=ov)(le:ov<=un)(u1:un<1000):1<=(Rat.normalize ov un h).num/\(Rat.normalize ov un h).num<=1000/\1<=((Rat.normalize ov un h).den:Int)/\((Rat.normalize ov un h).den:Int)<=1000:=by
 have hn:=J0 h le
 rw[<-mU h] at hn
 have hd:(Rat.normalize (ov:Int) un h).den<=un:=by
  rw[Rat.normalize_eq];exact Nat.div_le_self _ _
 have hp:=(Rat.normalize (ov:Int) un h).den_pos
 have h1:1<=(Rat.normalize (ov:Int) un h).num:=by
  rw[Rat.normalize_eq]
  refine(?_:1<=(ov:Int)/(((ov:Int).natAbs.gcd un:Nat):Int))
  have hg:0<(ov:Int).natAbs.gcd un:=Nat.gcd_pos_of_pos_right _ (Nat.pos_of_ne_zero h)
  exact(Int.le_ediv_iff_mul_le (jk.mpr hg)).mpr (by rw[Int.one_mul];exact ofNat_le.mpr (Nat.gcd_le_left _ o1))
 exact⟨h1,by lia,by lia,by lia⟩
section
variable{kp:Nat}{K:Out->Prop}{q:Rat}
noncomputable abbrev rW(q:Rat)(j:Nat):V:=.aC [nv j,.int q.num,nv q.den]
theorem J1{i:Int}(h:1<=i/\i<=1000):wh (.int i) 1 1000=true:=eJ.mpr ⟨c9 h.1,c9 h.2⟩
def Vo(B kp lg ln lf ov un:Nat)(q:Rat)(ns:List Nat)(H₀:Hp)(as:List Nat)(ρ:bB)(H':Hp):Prop:=∃o6 o7 o8,∃an:List Nat,ρ=[some (.ref (B+1)),some (nv kp),some (.ref lg),some (.ref ln),some (.ref lf),some (rv (mkRat ((an.length*ov:Nat):Int) un)),o6,o7,o8]/\bK lf H₀ H'/\H'[lf]?=some (.list (an.map λj=>jy (j,q)))/\an++as=ns
theorem Vp{un:Nat}(hu:un≠0)(hq:q=Rat.normalize ov un hu)(o1:1<=ov)(u1:un<1000)(le:ov*ns.length<=un)(nd:ns.Nodup/\kp∉ns/\ns≠[])(iu:ns.length<=10)(ag:H[lg]?=some (.list (ns.map (rW q))))(k:∀H',aA H H'->Q (iG (ns.map λj=>(j,q))) H'):ay (n+3) 72 [.ref (B+1),nv kp,.ref lg] H Q Y:=HP (by
 have fB:1<=ns.length:=length_pos_iff.mpr nd.2.2
 have ov_le:ov<=un:=aR (Nat.le_mul_of_pos_right ov fB) le
 have qk:=Vn hu o1 ov_le u1
 rw[<-hq] at qk
 apply au (cC ag)
 rw[aS]
 refine(?_:bz (decide (1<=(ns.length:Int))) _ _)
 refine rK (λZ=>?_) λh=>absurd (ofNat_le.mpr fB) h
 refine(?_:bz (!decide ((ns.length:Int)<=10)) _ _)
 rw[show decide ((ns.length:Int)<=10)=true from c9 (ofNat_le.mpr iu)]
 apply au (cT ag)
 refine cM (cP (by rw[aS];exact bM iu (by decide))) ?_
 refine iF (P:=λZ=>true) (F:=nv) ns _ _ (λj Z T hT=>hT) (λj Z Z N hN=>hN) ?_
 rw[lS]
 have anm:=aZ H (.list ([]++aX ns))
 have x1:=aA.aO H [.list ([]++aX ns)]
 refine(?_:ay (n+2) 24 [.ref H.length] (H++[.list ([]++aX ns)]) _ _)
 refine Ay (n:=n+1) anm (aR iu (by decide)) ?_
 rw[gv (λh=>h nd.1)]
 apply au (Cw (k:=kp) anm)
 rw[gv nd.2.1]
 have a4:=aZ (H++[.list ([]++aX ns)]) (.list [])
 have x2:=x1.trans (aA.aO _ [.list []])
 have mG:lg≠(H++[bt.list ([]++aX ns)]).length:=by
  have:=cG ag
  rw[bX]
  exact eO (fh this (fM _ _))
 have nO:H.length<=(H++[bt.list ([]++aX ns)]).length:=by rw[bX];exact fM _ _
 apply au (cT (x2 _ _ ag))
 refine fR (g:=rW q) (Vo B kp lg H.length (H++[bt.list ([]++aX ns)]).length ov un q ns (H++[.list ([]++aX ns)]++[.list []])) (λj as ρ H' h=>?_) (λρ H' h=>?_) ns _ _ ⟨none,none,none,[],by rw[show mkRat (((([]:List Nat).length*ov:Nat)):Int) un=0 by rw[length_nil,zero_mul];exact Rat.zero_mkRat un];rfl,bK.refl _ _,a4,rfl⟩
 ·obtain⟨o6,o7,o8,an,rfl,x,a,t⟩:=h
  refine λN hN=>?_
  have eW:an.length+1<=ns.length:=by rw[<-t,bX,iY];exact lD (lE (gu _)) _
  refine(?_:ay (n+2) 22 [.int q.num,.int 1,.int 1000] H' _ _)
  refine v8 rfl ?_
  rw[J1 ⟨qk.1,qk.2.1⟩]
  refine(?_:ay (n+2) 22 [nv q.den,.int 1,.int 1000] H' _ _)
  refine v8 rfl ?_
  rw[J1 ⟨qk.2.2.1,qk.2.2.2⟩]
  refine gg a ?_
  refine(?_:ay (n+2) 7 [.int q.num,nv q.den] H' _ _)
  refine ph q.den_nz ?_
  rw[Rat.normalize_self]
  refine gy a (by rw[aS];exact bM (aR (pP eW) iu) (by decide)) ?_
  refine(?_:ay (n+2) 7 [.int q.num,nv q.den] (H'.set _ _) _ _)
  refine ph q.den_nz ?_
  rw[Rat.normalize_self]
  have hm:an.length*ov<2^10:=bM (aR (by rw[mul_comm];exact qO ov (pP eW)) le) (lt_trans u1 (by decide))
  have s1:Sm 10 (mkRat ((an.length*ov:Nat):Int) un):=by rw[<-mU hu];exact Sm.qu hu (show(((an.length*ov:Nat)):Int).natAbs<2^10 from hm) (lt_trans u1 (by decide))
  have s2:Sm 10 q:=by rw[hq];exact Sm.qu hu (show((ov:Nat):Int).natAbs<2^10 from bM ov_le (lt_trans u1 (by decide))) (lt_trans u1 (by decide))
  refine(?_:ay (n+2) 8 [rv (mkRat ((an.length*ov:Nat):Int) un),rv q] (H'.set _ _) _ _)
  refine zU (n:=n) s1 s2 (by decide) ?_
  rw[show mkRat ((an.length*ov:Nat):Int) un+q=mkRat ((((an++[j]).length*ov:Nat)):Int) un by rw[hq,mU,Vm hu,bX];rfl]
  refine hN _ _ (dm (x2 _ _ ag) (d9 (x _ _ mG (x2 _ _ ag)) _ (Ne.symm mG))) ⟨_,_,_,an++[j],rfl,x.trans (bK.set _ _ _),?_,gh t⟩
  rw[gx];exact eX a _
 ·obtain⟨o6,o7,o8,an,rfl,x,a,t⟩:=h
  rw[dO] at t
  subst t
  refine(?_:bz (decide ((mkRat ((an.length*ov:Nat):Int) un).num>((mkRat ((an.length*ov:Nat):Int) un).den:Int))) _ _)
  refine rK (λh=>absurd (J0 hu (m:=an.length*ov) (by rw[mul_comm];exact le)) (not_le.mpr h)) λZ=>?_
  apply au (cC a)
  have k:=k H' (x.ext x2 nO)
  unfold iG at k
  rw[map_map] at k
  exact k)
theorem Vq{w:fY}(b:dp B H r)(hl:r.ps.length<=60)(j7:r.ws.length<=1000)(hw:xY r.ps.length w)(hd:s7 r.ps w)(ag:H[lg]?=some (.list (w.cQ.map λg=>rW g.2 g.1)))(hT:dg ⟨r.ps,r.ms,r.ws++[w]⟩)(q:∀H',cw B H H'->cU B H' ⟨r.ps,r.ms,r.ws++[w]⟩->Q .none H'):ay (n+69) 73 [.ref (B+1),nv w.ff,.int w.day,.ref lg] H Q Y:=HQ (b _ λld ep vf es a0 a1 ap am aw ad oV de=>hw _ λgk dy ns ov un hu e o1 u1 le nd=>by
 obtain⟨p,hp,d1,d2,d3⟩:=hd
 have hk:w.ff<r.ps.length:=(dZ.mp hp).1
 refine(?_:aI (cc H (.ref (B+1))) _)
 refine mc a1 a0 ?_
 refine(?_:ay (n+68) 64 [.ref (B+1),nv w.ff] H _ _)
 refine ym (n:=n+66) a1 a0 rfl ap hk ?_
 apply au (cT ag)
 refine wa (ok:=λZ=>true) (as:=w.cQ) (R:=λρ=>∃o,ρ=[some (.ref (B+1)),some (nv w.ff),some (.int w.day),some (.ref lg),o,none,none,none,none]) (dm ag ag) (λg hg ρ hr=>?_) (λZ ρ hr=>?_) ⟨none,rfl⟩
 ·obtain⟨o,rfl⟩:=hr
  refine λN hN=>?_
  refine(?_:aI (cc H (.ref (B+1))) _)
  refine mc a1 a0 ?_
  refine(?_:ay (n+68) 64 [.ref (B+1),nv g.1] H _ _)
  exact ym (n:=n+66) a1 a0 rfl ap (gk.1 g hg).1 (hN rfl _ ⟨_,rfl⟩)
 ·obtain⟨o,rfl⟩:=hr
  refine(?_:ay (n+68) 23 [.int w.day] H _ _)
  refine DP (n:=n+66) ⟨dy,d2⟩ ?_
  refine(?_:aI (cc H (.ref (B+1))) _)
  refine eD (i:=0) a1 a0 rfl ?_
  apply au (ee ap hp)
  have key:∀{o4 o5 o6 o7 o8:Option V},aG ⟨ay (n+68),xq Y⟩ (u6.drop 5) [some (.ref (B+1)),some (nv w.ff),some (.int w.day),some (.ref lg),o4,o5,o6,o7,o8] H (bD Q):=λ{_ _ _ _ _}=>by
   refine(?_:aI (cc H (.ref (B+1))) _)
   refine eD (i:=2) a1 a0 rfl ?_
   refine gg aw ?_
   refine(?_:aI (cc H (.ref (B+1))) _)
   refine mc a1 a0 ?_
   refine(?_:ay (n+68) 72 [.ref (B+1),nv w.ff,.ref lg] H _ _)
   have eg:w.cQ.map (λg=>rW g.2 g.1)=ns.map (rW (Rat.normalize ov un hu)):=by rw[e,map_map];rfl
   have iu:ns.length<=10:=by have z:=gk.2;rw[e,aS] at z;exact z
   refine Vp (n:=n+65) hu rfl o1 u1 le nd iu (eg▸ag) λH1 x1=>?_
   rw[<-e]
   have b1:=b.ext x1
   refine b1 _ λld ep vf es a0 a1 ap am aw ad hd de=>?_
   refine gy aw (by rw[aS];exact bM j7 (by decide)) ?_
   have z:=b1.JS (r.ws++[w])
   rw[gx] at z
   refine z.2 _ λld ep vf es a0 a1 ap am aw ad hd de=>?_
   refine(?_:aI (cc (H1.set (B+4) _) (.ref (B+1))) _)
   refine mc a1 a0 ?_
   exact b6 (s9 (n:=n) (r:=⟨r.ps,r.ms,r.ws++[w]⟩) hl (.inr hT) z.2 λH2 x2 b2=>q H2 ((x1.k.trans z.1).trans x2) b2)
  refine(?_:bz (decide (w.day<p.aQ)==false) _ _)
  refine fD (λZ=>?_) λh1=>absurd (cf h1) (Int.not_lt.mpr d1)
  cases hd:p.bR with
  |none=>exact key
  |some e=>
   refine(?_:bz (decide (w.day>e)) _ _)
   exact rK (λh2=>absurd (d3 e hd) (not_le.mpr h2)) λZ=>key)
end
section
variable{G:Hp}{K:Out->Prop}
theorem yn{i:Nat}{c:bt}(he:∀Q:PQ,Q (.ref G.length) (G++[c])->WE C e ρ G Q)(h0:ρ[0]?.join=some (.ref (B+1)))(a1:G[B+1]?=some (.obj B))(a0:G[B]?=some (.ci fs))(k:∀G':Hp,G'.length=G.length+1->G'[B]?=some (.ci (fs.set i (some (.ref G.length))))->G'[G.length]?=some c->(∀l c',l≠B->G[l]?=some c'->G'[l]?=some c')->aG C rest ρ G' K):aG C (.setAttr (.J 0) i e::rest) ρ G K:=by
 refine he _ (au h0 (DH (be _ a1) (be _ a0) (k _ ?_ (eX (be _ a0) _) (d9 (aZ _ _) _ (eO (cG a0))) λl c' hn h=>d9 (be _ h) _ (Ne.symm hn))))
 rw[kG,bX];rfl
theorem Vr(hC:C.call=ay (n+1))(q:∀H',aA H H'->cU H.length H' ⟨[],[],[]⟩->Q (.ref (H.length+1)) H'):WE C (.new 63) ρ H Q:=by
 refine(?_:C.call 63 [.ref (H.length+1)] (H++[.ci (replicate gK.ci.length none)]++[.obj H.length]) _ _)
 rw[hC]
 refine Se ?_
 have e1:(H++[.ci (replicate gK.ci.length none)]++[.obj H.length])[H.length+1]?=some (.obj H.length):=by
  have z:=aZ (H++[.ci (replicate gK.ci.length none)]) (.obj H.length)
  rw[bX] at z;exact z
 have e0:(H++[.ci (replicate gK.ci.length none)]++[.obj H.length])[H.length]?=some (.ci [none,none,none,none,none]):=be _ (aZ _ _)
 have hl:(H++[bt.ci (replicate gK.ci.length none)]++[bt.obj H.length]).length=H.length+2:=by rw[bX,bX];rfl
 have x0:aA H (H++[.ci (replicate gK.ci.length none)]++[.obj H.length]):=(aA.aO _ _).trans (aA.aO _ _)
 generalize H++[.ci (replicate gK.ci.length none)]++[.obj H.length]=G at *
 have xx:∀{G G':Hp},aA H G->(∀l c',l≠H.length->G[l]?=some c'->G'[l]?=some c')->aA H G':=λx f l c h=>f l c (eO (cG h)) (x l c h)
 unfold Bt
 refine yn (c:=.list []) (λQ h=>h) rfl e1 e0 λG1 l1 b1 c1 f1=>?_
 refine yn (c:=.list []) (λQ h=>h) rfl (f1 _ _ (by lia) e1) b1 λG2 l2 b2 c2 f2=>?_
 refine yn (c:=.list []) (λQ h=>h) rfl (f2 _ _ (by lia) (f1 _ _ (by lia) e1)) b2 λG3 l3 b3 c3 f3=>?_
 refine yn (c:=.dict 0 []) (λQ h=>h) rfl (f3 _ _ (by lia) (f2 _ _ (by lia) (f1 _ _ (by lia) e1))) b3 λG4 l4 b4 c4 f4=>?_
 refine yn (c:=.list []) (λQ h=>h) rfl (f4 _ _ (by lia) (f3 _ _ (by lia) (f2 _ _ (by lia) (f1 _ _ (by lia) e1)))) b4 λG5 l5 b5 c5 f5=>?_
 rw[hl] at l1 c1 b5
 rw[l1] at l2 c2 b5
 rw[l2] at l3 c3 b5
 rw[l3] at l4 c4 b5
 exact⟨rfl,q G5 (xx (xx (xx (xx (xx x0 f1) f2) f3) f4) f5) (.mk (H.length+5) 0 _ [] b5 (f5 _ _ (by lia) (f4 _ _ (by lia) (f3 _ _ (by lia) (f2 _ _ (by lia) (f1 _ _ (by lia) e1))))) (f5 _ _ (by lia) (f4 _ _ (by lia) (f3 _ _ (by lia) (f2 _ _ (by lia) c1)))) (f5 _ _ (by lia) (f4 _ _ (by lia) (f3 _ _ (by lia) c2))) (f5 _ _ (by lia) (f4 _ _ (by lia) c3)) (f5 _ _ (by lia) c4) (cg _) (λZ h=>(nomatch h)) λZ=>rfl)⟩
noncomputable def pE:List Str:=["person","day","parents","match","will","again","full","dead"]
noncomputable def DQ(j:Nat):List Bool:=[hJ j 0,hJ j 1,hJ j 2,hJ j 3,hJ j 4,hJ j 5,hJ j 6,hJ j 7]
theorem Vs:∀j,j<8->(DQ j).count true=1/\(DQ j).idxOf? true=some j/\(pE[j]?).isSome=true:=by decide
theorem oA(h:H[l]?=some (.exc j)):excAt H (.ref l)=some j:=bU (Option.bind · pV) h
theorem DR:∀bs:List Bool,kM (bs.map V.bool)=some bs
 |[]=>rfl
 |b::r=>by
  refine(?_:(kM (r.map V.bool)).map (b::·)=_)
  rw[DR r];rfl
theorem Vt{bs:List Bool}(h:H[l]?=some (.list (bs.map V.bool)))(hl:bs.length<=1000)(q:Q (.int (bs.count true)) H):ro .count (.ref l) [.bool true] H Q:=au (cC h) (show aI (kM (bs.map V.bool)) (λrt=>(bs.map V.bool).length<=1000/\Q (.int (rt.count true)) H) from au (DR bs) ⟨by rw[aS];exact hl,q⟩)
theorem Vu{bs:List Bool}{i:Nat}(h:H[l]?=some (.list (bs.map V.bool)))(hl:bs.length<=1000)(hi:bs.idxOf? true=some i)(q:Q (nv i) H):ro .index (.ref l) [.bool true] H Q:=au (cC h) (show aI (kM (bs.map V.bool)) (λrt=>(bs.map V.bool).length<=1000/\aI (rt.idxOf? true) λi=>Q (nv i) H) from au (DR bs) ⟨by rw[aS];exact hl,au hi q⟩)
theorem J2{F:List V->Hp->Prop}(h:F [v] H):oP C [.k v] ρ H F:=h
theorem Vv{m:Nat}(h:G[l]?=some (.exc j))(a:G[m]?=some (.list ((DQ j).map V.bool)))(hj:j<8)(x:aA H G)(q:∀H',aA H H'->Q (.str (pE.getD j "")) H'):aG ⟨ay n,xq Y⟩ (Bm.drop 2) [some (.ref l),some (.ref m)] G (bD Q):=by
 have ok:=Vs j hj
 refine gg a ?_
 refine J2 ?_
 refine Vt a (show 8<=1000 by decide) ?_
 rw[ok.1]
 apply au (oA h)
 refine gg (be _ a) ?_
 refine J2 ?_
 refine Vu (be _ a) (show 8<=1000 by decide) ok.2.1 ?_
 obtain⟨w,hw⟩:=isSome_iff_exists.mp ok.2.2
 have q:=q _ (x.trans (aA.aO _ [.list (pE.map V.str)]))
 rw[getD_eq_getElem?_getD,hw] at q
 apply au (gf (v:=.str w) (aZ _ (.list (pE.map V.str))) (by rw[g5,hw];rfl))
 exact q
theorem DS(h:H[l]?=some (.exc j))(hj:j<8)(q:∀H',aA H H'->Q (.str (pE.getD j "")) H'):ay (n+1) 45 [.ref l] H Q Y:=RV (by
 apply au (oA h)
 apply au (oA h)
 apply au (oA h)
 apply au (oA h)
 have h1:=be [.list [.bool (hJ j 0),.bool (hJ j 1),.bool (hJ j 2),.bool (hJ j 3)]] h
 apply au (oA h1)
 apply au (oA h1)
 apply au (oA h1)
 apply au (oA h1)
 refine lP (be _ (aZ _ _)) (aZ _ _) (show 8<16000000 by decide) ?_
 exact Vv (be _ (be _ h1)) (aZ _ _) hj (((aA.aO _ _).trans (aA.aO _ _)).trans (aA.aO _ _)) q)
noncomputable def DT(j:Nat):V:=.aC [.str (pE.getD j ""),.none]
end
noncomputable def knd:Nat->Str
 |0=>"born"
 |1=>"adopted"
 |2=>"married"
 |3=>"died"
 |_=>"will"
theorem AB:∀i,i<5->PyData.strOk (knd i)=true:=by decide +kernel
theorem Vw:∀i,i<5->∀j,j<5->(knd i==knd j)=decide (i=j):=by decide +kernel
section
variable{K:Out->Prop}
theorem yq(i j:Nat)(hi:i<5:=by decide)(hj:j<5:=by decide):e7 .eq (.str (knd i)) (.str (knd j)) H=some (decide (i=j)):=(uD (AB i hi) (AB j hj)).trans (bU some (Vw i hi j hj))
noncomputable abbrev AC(v:V)(lq:Nat):V:=.aC [.str (knd 0),v,.ref lq]
noncomputable abbrev J3(c v:V)(lq:Nat):V:=.aC [.str (knd 1),c,v,.ref lq]
noncomputable abbrev rX(u v w:V):V:=.aC [.str (knd 2),u,v,w]
noncomputable abbrev jT(u v:V):V:=.aC [.str (knd 3),u,v]
noncomputable abbrev oB(u v:V)(lg:Nat):V:=.aC [.str (knd 4),u,v,.ref lg]
noncomputable abbrev DU(a b:Nat)(d:Int):V:=rX (nv a) (nv b) (.int d)
noncomputable abbrev DV(k:Nat)(d:Int):V:=jT (nv k) (.int d)
noncomputable abbrev J4(k:Nat)(d:Int)(lg:Nat):V:=oB (nv k) (.int d) lg
theorem kt{i m:Nat}{w:Str}{a:List S}(hj:ρ[j]?.join=some (.aC (.str (knd i)::vs)))(hw:w=knd m)(hi:i<5)(hm:m<5)(yes:i=m->aG C a ρ H (λo=>i0 o (λρ H=>aG C rest ρ H K) (K o)))(no:i≠m->aG C rest ρ H K):aG C (.br (.cmp .eq (.aP (.J j) (kI 0)) (.k (.str w))) a []::rest) ρ H K:=by
 subst hw
 refine iw (pA (cD (ba hj (bF ?_))))
 exact au (a:=V.str (knd i)) rfl (bF (au (yq i m hi hm) (rK yes no)))
theorem kF(i m:Nat){w:Str}{a:List S}(hj:ρ[j]?.join=some (.aC (.str (knd i)::vs)))(hw:w=knd m)(no:aG C rest ρ H K)(hi:i<5:=by decide)(hm:m<5:=by decide)(hn:i≠m:=by decide):aG C (.br (.cmp .eq (.aP (.J j) (kI 0)) (.k (.str w))) a []::rest) ρ H K:=kt hj hw hi hm (λh=>absurd h hn) λZ=>no
theorem kT(i:Nat){w:Str}{a:List S}(hj:ρ[j]?.join=some (.aC (.str (knd i)::vs)))(hw:w=knd i)(yes:aG C a ρ H (λo=>i0 o (λρ H=>aG C rest ρ H K) (K o)))(hi:i<5:=by decide):aG C (.br (.cmp .eq (.aP (.J j) (kI 0)) (.k (.str w))) a []::rest) ρ H K:=kt hj hw hi hi (λZ=>yes) λh=>absurd rfl h
theorem Vx(b:dp B H r)(h:ay n 67 [.ref (B+1),v,.ref lq] H Q (xq Y)):ay (n+1) 46 [.ref (B+1),AC v lq] H Q Y:=xN (b _ λld ep vf es a0 a1 ap am aw ad hd de=>by
 refine kT 0 rfl rfl ?_
 refine(?_:aI (cc H (.ref (B+1))) _)
 exact mc a1 a0 h)
theorem Vy{c:V}(b:dp B H r)(h:ay n 68 [.ref (B+1),c,v,.ref lq] H Q (xq Y)):ay (n+1) 46 [.ref (B+1),J3 c v lq] H Q Y:=xN (b _ λld ep vf es a0 a1 ap am aw ad hd de=>by
 refine kF 1 0 rfl rfl ?_
 refine kT 1 rfl rfl ?_
 refine(?_:aI (cc H (.ref (B+1))) _)
 exact mc a1 a0 h)
theorem J5{w:V}(k:dp B H r)(h:ay n 70 [.ref (B+1),u,v,w] H Q (xq Y)):ay (n+1) 46 [.ref (B+1),rX u v w] H Q Y:=xN (k _ λld ep vf es a0 a1 ap am aw ad hd de=>by
 refine kF 2 0 rfl rfl ?_
 refine kF 2 1 rfl rfl ?_
 refine kT 2 rfl rfl ?_
 refine(?_:aI (cc H (.ref (B+1))) _)
 exact mc a1 a0 h)
theorem DW(b:dp B H r)(h:ay n 71 [.ref (B+1),u,v] H Q (xq Y)):ay (n+1) 46 [.ref (B+1),jT u v] H Q Y:=xN (b _ λld ep vf es a0 a1 ap am aw ad hd de=>by
 refine kF 3 0 rfl rfl ?_
 refine kF 3 1 rfl rfl ?_
 refine kF 3 2 rfl rfl ?_
 refine kT 3 rfl rfl ?_
 refine(?_:aI (cc H (.ref (B+1))) _)
 exact mc a1 a0 h)
theorem J6(b:dp B H r)(h:ay n 73 [.ref (B+1),u,v,.ref lg] H Q (xq Y)):ay (n+1) 46 [.ref (B+1),oB u v lg] H Q Y:=xN (b _ λld ep vf es a0 a1 ap am aw ad hd de=>by
 refine kF 4 0 rfl rfl ?_
 refine kF 4 1 rfl rfl ?_
 refine kF 4 2 rfl rfl ?_
 refine kF 4 3 rfl rfl ?_
 refine(?_:aI (cc H (.ref (B+1))) _)
 exact mc a1 a0 h)
theorem Vz{okR:V->Hp->Prop}(h:∀Q' Y':PQ,(∀v H',okR v H'->Q' v H')->(∀j,err=some j->Y' (.ref H.length) (H++[.exc j]))->ay (n+1) 46 [.ref (B+1),D] H Q' Y')(q:∀v H',okR v H'->Q (.aC [.str "",v]) H')(y:∀j,err=some j->j<8/\∀H',aA H H'->Q (DT j) H'):ay (n+2) 47 [.ref (B+1),D] H Q Y:=HM (by
 refine h _ _ (λv H' ok=>q v H' ok) λj hj=>?_
 refine au (oA (aZ _ _)) ⟨by unfold hJ;rw[show((8:Nat)==8)=true from rfl,Bool.or_true],?_⟩
 refine(?_:ay (n+1) 45 [.ref H.length] (H++[.exc j]) _ _)
 exact DS (aZ _ _) (y j hj).1 λH' x=>(y j hj).2 H' ((aA.aO _ _).trans x))
end
section
variable{k:Nat}{K:Out->Prop}{c:V}{ps:List aH}
noncomputable def rY:V->Bool
 |.int _=>true
 |_=>false
theorem DX(hv:sc v=true)(q:Q (.bool (rY v)) H):ay (n+1) 27 [v] H Q Y:=RF (by
 cases v with
 |aC _=>cases hv
 |ref _=>cases hv
 |fu=>cases hv
 |_=>exact q)
theorem J7(hA:H[l]?=some (.list (ps.map bQ)))(hv:sc v=true)(q:Q (.bool (wh v 0 ((ps.length:Int) - 1))) H):ay (n+2) 48 [.ref l,v] H Q Y:=RW (by
 refine(?_:ay (n+1) 27 [v] H _ _)
 refine DX hv ?_
 cases v with
 |int i=>
  have q:Q (.bool (decide (0<=i)&&decide (i<=(ps.length:Int) - 1))) H:=q
  refine(?_:bz (decide (0<=i)) (WE ⟨ay (n+1),xq Y⟩ (.bi .len [.J 0]) [some (.ref l),some (.int i)] H λz H=>aI (e7 .lt (.int i) z H) λt=>Q (.bool t) H) (Q (.bool false) H))
  refine cb (λh=>?_) λh=>?_
  ·rw[h,Bool.true_and,show decide (i<=(ps.length:Int) - 1)=decide (i<(ps.length:Int)) from nC.mpr ⟨λh=>by lia,λh=>by lia⟩] at q
   apply au (cC hA)
   rw[aS]
   exact q
  ·rw[h] at q;exact q
 |aC _=>cases hv
 |ref _=>cases hv
 |fu=>cases hv
 |_=>exact q)
theorem AD(hv:sc v=true)(m:Nat):∃d,rd H m v=some d:=by
 cases v with
 |aC _=>cases hv
 |ref _=>cases hv
 |fu=>cases hv
 |str s=>cases m<;>exact⟨.str s,bL hv⟩
 |none=>cases m<;>exact⟨_,rfl⟩
 |bool b=>cases m<;>exact⟨_,rfl⟩
 |int i=>cases m<;>exact⟨_,rfl⟩
theorem J8:∀{vs:List V},(∀v∈vs,sc v=true)->∃ds,d0 (rd H 9) vs=some ds/\ds.isEmpty=vs.isEmpty
 |[],_=>⟨[],rfl,rfl⟩
 |v::r,h=>(AD (h v cJ) 9).elim λd hd=>(J8 λv hv=>h v (.tail _ hv)).elim λds hs=>⟨d::ds,dH hd hs.1,rfl⟩
theorem J9{α:Type}(P:α->Bool):∀vs:List α,(vs.filter λv=>!P v).isEmpty=vs.all P
 |[]=>rfl
 |a::t=>by
  rw[filter_cons,all_cons]
  cases h:P a with
  |true=>exact J9 P t
  |false=>rfl
theorem VA{R:Bool->Hp->Prop}{ws:List Nat}{test:bB->Hp->(Bool->Hp->Prop)->Prop}{elt:bB->Hp->PQ->Prop}{P:V->Bool}(hs:∀v∈vs,sc v=true)(ht:∀v∈vs,∀T:Bool->Hp->Prop,T (!P v) H->test (some v::d6) H T)(he:∀v (N:PQ),N v H->elt (some v::d6) H N)(q:∀H',aA H H'->R (!vs.all P) H'):iQ ws H (.J 0) test elt vs (o::d6) H [] λus H1=>mm us H1 λx H2=>WE C (.bH []) ρ H2 λy H3=>aI (e7 .ne x y H3) λt=>R t H3:=by
 have key:=iF (g:=id) (P:=λv=>!P v) (F:=id) (ws:=ws) (H:=H) (test:=test) (elt:=elt) (d6:=d6) (Q:=λus H1=>mm us H1 λx H2=>WE C (.bH []) ρ H2 λy H3=>aI (e7 .ne x y H3) λt=>R t H3) vs o [] (λv hv T hT=>ht v hv T hT) (λv hv Z N hN=>he v N hN) ?_
 ·rw[map_id] at key;exact key
 ·rw[map_id]
  have hf:∀v∈vs.filter (λv=>!P v),sc v=true:=λv hv=>hs v (lG.mp hv).1
  obtain⟨ds,hd,he⟩:=J8 (H:=H++[.list ([]++vs.filter λv=>!P v)]++[.list []]) hf
  refine iR (qz ?_)
  apply au (ne_nil (be _ (aZ _ _)) hd (aZ _ _))
  rw[he]
  rw[J9 P vs]
  exact q _ ((aA.aO _ _).trans (aA.aO _ _))
end
section
variable{k:Nat}{K:Out->Prop}{c:V}
noncomputable def tf(p:aH)(d:Int):Bool:=p.ad.elim false λx=>decide (d<=x.1)
noncomputable def jh(k:Nat)(d:Int)(w:fY):Bool:=((w.ff:Int)==(k:Int))&&decide (d<w.day)
noncomputable def jC(k:Nat)(d:Int)(m:eA):Bool:=(((m.a:Int)==(k:Int))||(((m.b:Int)==(k:Int))||false))&&decide (d<=m.day)
noncomputable def kj(r:dN)(p:aH)(k:Nat)(d:Int):Bool:=(decide (d<p.aQ)||tf p d)||(r.ws.any (jh k d)||r.ms.any (jC k d))
noncomputable def jU(r:dN)(p:aH)(k:Nat)(d:Int):Option Nat:=if p.bR.isSome then some 5 else if kj r p k d then some 1 else none
noncomputable def outD(r:dN)(c v:V):Option Nat:=if wh c 0 ((r.ps.length:Int) - 1) then(if wh v 0 100000 then(r.ps[natOf c]?).elim none λp=>jU r p (natOf c) (dC v) else some 1) else some 0
noncomputable abbrev dR(B k:Nat)(d:Int)(p:aH)(o7 o8 o9 o10 bT:Option V):bB:=[some (.ref (B+1)),some (nv k),some (.int d),some (.int p.aQ),some (.aC (aX p.ca)),some (mv p.ad),some (fW p.bR),o7,o8,o9,o10,bT]
theorem Ka{α:Type}{P:α->Bool}{as:List α}(h:(as.all λa=>!P a)=true):as.any P=false:=by
 cases hh:as.any P with
 |false=>rfl
 |true=>
  obtain⟨k,td,h1⟩:=nE.mp hh
  have h2:=iA.mp h k td
  rw[h1] at h2;cases h2
theorem VB(b:dp B H r)(hl:r.ps.length<=60)(hp:r.ps[k]?=some p)(hT:dg ⟨r.ps.set k (gM p d),r.ms,r.ws⟩)(q:∀H',cw B H H'->cU B H' ⟨r.ps.set k (gM p d),r.ms,r.ws⟩->Q .none H'):aG ⟨ay (n+68),xq Y⟩ (qT.drop 7) (dR B k d p o7 o8 o9 o10 bT) H (bD Q):=b _ λld ep vf es a0 a1 ap am aw ad hd de=>by
 have hk:k<r.ps.length:=(dZ.mp hp).1
 refine(?_:aI (cc H (.ref (B+1))) _)
 refine mc a1 a0 ?_
 refine(?_:ay (n+68) 65 [.ref (B+1),nv k,bQ (gM p d)] H _ _)
 refine DL b hk λH1 x1 b1=>?_
 refine b1 _ λld ep vf es a0 a1 ap am aw ad hd de=>?_
 refine(?_:aI (cc H1 (.ref (B+1))) _)
 refine mc a1 a0 ?_
 exact b6 (s9 (n:=n) (r:=⟨r.ps.set k (gM p d),r.ms,r.ws⟩) (by rw[kG];exact hl) (.inr hT) b1 λH2 x2 b2=>q H2 (x1.trans x2) b2)
theorem VC{o7 o10 bT:Option V}(b:dp B H r)(y:r.ms.any (jC k d)=true->Y (.ref H.length) (H++[.exc 1]))(h:r.ms.any (jC k d)=false->∀o7 o10 bT,aG ⟨ay (n+68),xq Y⟩ (qT.drop 7) (dR B k d p o7 o8 o9 o10 bT) H K):aG ⟨ay (n+68),xq Y⟩ (qT.drop 6) (dR B k d p o7 o8 o9 o10 bT) H K:=b _ λld ep vf es a0 a1 ap am aw ad hd de=>by
 refine(?_:aI (cc H (.ref (B+1))) _)
 refine eD (i:=1) a1 a0 rfl ?_
 apply au (cT am)
 refine wa (g:=dK) (as:=r.ms) (ok:=λm=>!jC k d m) (R:=λρ=>∃o7 o10 bT,ρ=dR B k d p o7 o8 o9 o10 bT) (dm am am) (λm hm ρ hr=>?_) (λqD ρ hr=>hr.elim λo7 e=>e.elim λo10 e=>e.elim λbT e=>e▸h (Ka qD) o7 o10 bT) ⟨_,_,_,rfl⟩
 obtain⟨o7,o10,bT,rfl⟩:=hr
 refine au (a:=dR B k d p (some (nv m.a)) o8 o9 (some (nv m.b)) (some (.int m.day))) rfl λN hN=>?_
 have no:jC k d m=false->N (dR B k d p (some (nv m.a)) o8 o9 (some (nv m.b)) (some (.int m.day))) H:=λe=>hN (by rw[e];rfl) _ ⟨_,_,_,rfl⟩
 refine(?_:bz ((((m.a:Int)==(k:Int))||(((m.b:Int)==(k:Int))||false))==true) _ _)
 refine fC (λh1=>?_) λh1=>e8 h1 (no (by unfold jC;rw[h1];rfl))
 refine(?_:bz (decide (d<=m.day)) _ _)
 exact cb (λh2=>dt (dt (y (any_eq_true.mpr ⟨m,hm,by unfold jC;rw[h1,h2];rfl⟩)))) λh2=>no (by unfold jC;rw[h2,Bool.and_false])
theorem VD{o7 o8 o9:Option V}(b:dp B H r)(y:r.ws.any (jh k d)=true->Y (.ref H.length) (H++[.exc 1]))(h:r.ws.any (jh k d)=false->∀o7 o8 o9,aG ⟨ay (n+68),xq Y⟩ (qT.drop 6) (dR B k d p o7 o8 o9 o10 bT) H K):aG ⟨ay (n+68),xq Y⟩ (qT.drop 5) (dR B k d p o7 o8 o9 o10 bT) H K:=b _ λld ep vf es a0 a1 ap am aw ad hd de=>by
 refine(?_:aI (cc H (.ref (B+1))) _)
 refine eD (i:=2) a1 a0 rfl ?_
 apply au (cT aw)
 refine wa (g:=dS) (as:=r.ws) (ok:=λm=>!jh k d m) (R:=λρ=>∃o7 o8 o9,ρ=dR B k d p o7 o8 o9 o10 bT) (dm aw aw) (λm hm ρ hr=>?_) (λqD ρ hr=>hr.elim λo7 e=>e.elim λo10 e=>e.elim λbT e=>e▸h (Ka qD) o7 o10 bT) ⟨_,_,_,rfl⟩
 obtain⟨o7,o8,o9,rfl⟩:=hr
 refine au (a:=dR B k d p (some (nv m.ff)) (some (.int m.day)) (some (iG m.cQ)) o10 bT) rfl λN hN=>?_
 have no:jh k d m=false->N (dR B k d p (some (nv m.ff)) (some (.int m.day)) (some (iG m.cQ)) o10 bT) H:=λe=>hN (by rw[e];rfl) _ ⟨_,_,_,rfl⟩
 refine(?_:bz (((m.ff:Int)==(k:Int))==true) _ _)
 refine fC (λh1=>?_) λh1=>e8 h1 (no (by unfold jh;rw[h1];rfl))
 refine(?_:bz (decide (d<m.day)) _ _)
 exact cb (λh2=>dt (dt (y (any_eq_true.mpr ⟨m,hm,by unfold jh;rw[h1,h2];rfl⟩)))) λh2=>no (by unfold jh;rw[h2,Bool.and_false])
theorem VE(b:dp B H r)(hl:r.ps.length<=60)(hp:r.ps[k]?=some p)(y:∀j,jU r p k d=some j->Y (.ref H.length) (H++[.exc j]))(hT:jU r p k d=none->dg ⟨r.ps.set k (gM p d),r.ms,r.ws⟩)(q:jU r p k d=none->∀H',cw B H H'->cU B H' ⟨r.ps.set k (gM p d),r.ms,r.ws⟩->Q .none H'):aG ⟨ay (n+68),xq Y⟩ (qT.drop 2) [some (.ref (B+1)),some (nv k),some (.int d),o3,o4,o5,o6,o7,o8,o9,o10,bT] H (bD Q):=b _ λld ep vf es a0 a1 ap am aw ad hd de=>by
 refine(?_:aI (cc H (.ref (B+1))) _)
 refine eD (i:=0) a1 a0 rfl ?_
 apply au (ee ap hp)
 unfold bQ
 cases hd:p.bR with
 |some e=>exact dt (y 5 (by unfold jU;rw[hd];rfl))
 |none=>
  have e1:jU r p k d=if kj r p k d then some 1 else none:=by unfold jU;rw[hd];rfl
  have y1:kj r p k d=true->Y (.ref H.length) (H++[.exc 1]):=λh=>y 1 (e1.trans (bL h))
  have key:(decide (d<p.aQ)||tf p d)=false->aG ⟨ay (n+68),xq Y⟩ (qT.drop 5) (dR B k d p o7 o8 o9 o10 bT) H (bD Q):=λh1=>by
   refine VD (n:=n) b (λh2=>y1 (by unfold kj;rw[h2];exact or_eq_true_iff.mpr (.inr rfl))) λh2 o7 o8 o9=>?_
   refine VC (n:=n) b (λh3=>y1 (by unfold kj;rw[h3,Bool.or_true,Bool.or_true])) λh3 o7 o10 bT=>?_
   have e2:jU r p k d=none:=e1.trans (if_neg (by unfold kj;rw[h1,h2,h3];decide))
   exact VB (n:=n) b hl hp (hT e2) (q e2)
  have l1:(decide (d<p.aQ)||tf p d)=true->xq Y (.ref H.length) (H++[.exc 1]):=λh=>dt (y1 (by unfold kj;rw[h];rfl))
  refine(?_:bz (decide (d<p.aQ)==false) _ _)
  refine fD (λh1=>?_) λh1=>ey h1 (l1 (by rw[h1];rfl))
  cases ha:p.ad with
  |none=>
   have z:=key (by unfold tf;rw[h1,ha];rfl)
   rw[show dR B k d p o7 o8 o9 o10 bT=[some (.ref (B+1)),some (nv k),some (.int d),some (.int p.aQ),some (.aC (aX p.ca)),some (mv none),some (fW none),o7,o8,o9,o10,bT] by unfold dR;rw[ha,hd]] at z
   exact z
  |some x=>
   refine(?_:bz (decide (d<=x.1)) _ _)
   refine cb (λh2=>l1 (by unfold tf;rw[ha];exact or_eq_true_iff.mpr (.inr h2))) λh2=>?_
   have z:=key (by unfold tf;rw[h1,ha];exact h2)
   rw[show dR B k d p o7 o8 o9 o10 bT=[some (.ref (B+1)),some (nv k),some (.int d),some (.int p.aQ),some (.aC (aX p.ca)),some (mv (some x)),some (fW none),o7,o8,o9,o10,bT] by unfold dR;rw[ha,hd]] at z
   exact z
theorem Kb(b:dp B H r)(hl:r.ps.length<=60)(hc:sc c=true)(hv:sc v=true)(y:∀j,outD r c v=some j->Y (.ref H.length) (H++[.exc j]))(hT:outD r c v=none->∀p,r.ps[natOf c]?=some p->dg ⟨r.ps.set (natOf c) (gM p (dC v)),r.ms,r.ws⟩)(q:outD r c v=none->∀p,r.ps[natOf c]?=some p->∀H',cw B H H'->cU B H' ⟨r.ps.set (natOf c) (gM p (dC v)),r.ms,r.ws⟩->Q .none H'):ay (n+69) 71 [.ref (B+1),c,v] H Q Y:=HO (b _ λld ep vf es a0 a1 ap am aw ad oV de=>by
 refine(?_:aI (cc H (.ref (B+1))) _)
 refine mc a1 a0 ?_
 refine(?_:ay (n+68) 64 [.ref (B+1),c] H _ _)
 refine rS (n:=n+66) a1 a0 rfl ap hc (λh1=>?_) λh1=>dt (y 0 (bG (by rw[h1];decide)))
 have e1:outD r c v=if wh v 0 100000 then(r.ps[natOf c]?).elim none λp=>jU r p (natOf c) (dC v) else some 1:=bL h1
 refine(?_:ay (n+68) 23 [v] H _ _)
 refine v9 (n:=n+66) hv (λh2=>?_) λh2=>dt (y 1 (e1.trans (bG (by rw[h2];decide))))
 obtain⟨k,rfl,hk⟩:=jS h1
 obtain⟨d,rfl,-,-⟩:=mD h2
 refine(at_of hk).elim λp hp=>?_
 have e2:outD r (nv k) (.int d)=jU r p k d:=(e1.trans (bL h2)).trans (by rw[show natOf (nv k)=k from rfl,hp];rfl)
 exact VE (n:=n) b hl hp (λj h=>y j (e2.trans h)) (λh=>hT (e2.trans h) p hp) λh=>q (e2.trans h) p hp)
end
section
variable{b:Nat}{K:Out->Prop}{w:V}
def AE(r:dN):Prop:=jz r.ps.length r.ms/\∀w∈r.ms,w.day<=100000
noncomputable def nu(r:dN)(w:eA):Option Nat:=if(((w.a:Int)==(w.b:Int))||(!lv r.ps w.day w.a||!lv r.ps w.day w.b)) then some 3 else if r.ms.all (clear r.ps w) then none else some 5
noncomputable def k7(r:dN)(u v w:V):Option Nat:=if wh u 0 ((r.ps.length:Int) - 1)&&wh v 0 ((r.ps.length:Int) - 1) then(if wh w 0 100000 then nu r ⟨natOf u,natOf v,dC w⟩ else some 1) else some 0
theorem VF(k:dp B H r)(ha:a<r.ps.length)(hb:b<r.ps.length)(ok:AE r)(hd:d<=100000)(y:r.ms.all (clear r.ps ⟨a,b,d⟩)=false->∀H',aA H H'->Y (.ref H'.length) (H'++[.exc 5]))(q:r.ms.all (clear r.ps ⟨a,b,d⟩)=true->∀o4 o5 o6 H',aA H H'->aG ⟨ay (n+68),xq Y⟩ (si.drop 5) (oz B a b d o4 o5 o6) H' (bD Q)):aG ⟨ay (n+68),xq Y⟩ (si.drop 4) (oz B a b d none none none) H (bD Q):=k _ λld ep vf es a0 a1 ap am aw ad oV de=>by
 refine(?_:aI (cc H (.ref (B+1))) _)
 refine eD (i:=1) a1 a0 rfl ?_
 apply au (cT am)
 refine fR (g:=dK) (λas ρ H'=>(∃o4 o5 o6,ρ=oz B a b d o4 o5 o6)/\aA H H'/\∃pre,pre++as=r.ms/\pre.all (clear r.ps ⟨a,b,d⟩)=true) (λu as ρ H' h=>?_) (λρ H' h=>?_) _ _ _ ⟨⟨none,none,none,rfl⟩,aA.refl _,[],rfl,rfl⟩
 ·obtain⟨⟨o4,o5,o6,rfl⟩,x,pre,e,rZ⟩:=h
  refine λN hN=>?_
  have hu:u∈r.ms:=e▸cF.mpr (.inr cJ)
  have no:clear r.ps ⟨a,b,d⟩ u=true->∀H'',aA H' H''->N (oz B a b d (some (nv u.a)) (some (nv u.b)) (some (.int u.day))) H'':=λhc H'' x'=>hN _ _ (dm am ((x.trans x') _ _ am)) ⟨⟨_,_,_,rfl⟩,x.trans x',pre++[u],by rw[nF];exact e,by rw[all_append,rZ,all_cons,hc];rfl⟩
  have bad:clear r.ps ⟨a,b,d⟩ u=false->∀H'',aA H' H''->xq (xq Y) (.ref H''.length) (H''++[.exc 5]):=λhc H'' x'=>dt (dt (y (by rw[<-e,all_append,all_cons,hc,Bool.false_and,Bool.and_false]) H'' (x.trans x')))
  have yes:lV ⟨a,b,d⟩ u=true->aG ⟨ay (n+68),xq (xq Y)⟩ [.br (.and [(.cmp .gt (.dJ 69 (.J 0) [.J 4,.J 5]) (.J 3)),(.cmp .gt (.dJ 69 (.J 0) [.J 1,.J 2]) (.J 6))]) [.raise 5 "another marriage meets it"] []] (oz B a b d (some (nv u.a)) (some (nv u.b)) (some (.int u.day))) H' (λo=>i0 o N False):=λht=>by
   have me:clear r.ps ⟨a,b,d⟩ u=!(decide (jB 100001 (dI r.ps u.a) (dI r.ps u.b)>d)&&decide (jB 100001 (dI r.ps a) (dI r.ps b)>u.day)):=by
    unfold clear vZ
    rw[ht,Bool.true_and,AA hd,AA (ok.2 u hu),Bool.and_comm]
   refine(?_:aI (cc H' (.ref (B+1))) _)
   refine mc (x _ _ a1) (x _ _ a0) ?_
   refine(?_:ay (n+68) 69 [.ref (B+1),nv u.a,nv u.b] H' _ _)
   refine Az (x _ _ a1) (x _ _ a0) rfl (x _ _ ap) (ok.1 u hu).1 (ok.1 u hu).2 λH2 x2=>?_
   refine(?_:bz (decide (jB 100001 (dI r.ps u.a) (dI r.ps u.b)>d)==true) _ _)
   refine fC (λh1=>?_) λh1=>e8 h1 (no (by rw[me,h1];rfl) H2 x2)
   have x3:=x.trans x2
   refine(?_:aI (cc H2 (.ref (B+1))) _)
   refine mc (x3 _ _ a1) (x3 _ _ a0) ?_
   refine(?_:ay (n+68) 69 [.ref (B+1),nv a,nv b] H2 _ _)
   refine Az (x3 _ _ a1) (x3 _ _ a0) rfl (x3 _ _ ap) ha hb λH4 x4=>?_
   rw[h1,Bool.true_and] at me
   refine(?_:bz (decide (jB 100001 (dI r.ps a) (dI r.ps b)>u.day)) _ _)
   exact cb (λh2=>bad (by rw[me,h2];rfl) H4 (x2.trans x4)) λh2=>no (by rw[me,h2];rfl) H4 (x2.trans x4)
  have cn:lV ⟨a,b,d⟩ u=false->clear r.ps ⟨a,b,d⟩ u=true:=λh=>by unfold clear;rw[h];rfl
  refine(?_:bz ((((a:Int)==(u.a:Int))||(((b:Int)==(u.a:Int))||false))==false) _ _)
  have ti:=JZ (w:=⟨a,b,d⟩) (u:=u)
  refine fD (λh1=>?_) λh1=>ey h1 (yes (by rw[<-ti];exact jY.mpr (.inl h1)))
  refine(?_:bz (((a:Int)==(u.b:Int))||(((b:Int)==(u.b:Int))||false)) _ _)
  exact cb (λh2=>yes (by rw[<-ti];exact jY.mpr (.inr h2))) λh2=>no (cn (by rw[<-ti];exact qM.mpr ⟨h1,h2⟩)) _ (aA.refl _)
 ·obtain⟨⟨o4,o5,o6,rfl⟩,x,pre,e,rZ⟩:=h
  rw[dO] at e
  exact q (e▸rZ) _ _ _ _ x
theorem VG(k:dp B H r)(hl:r.ps.length<=60)(ha:a<r.ps.length)(hb:b<r.ps.length)(ok:AE r)(uH:r.ms.length<=1000)(hd:d<=100000)(y:∀j,nu r ⟨a,b,d⟩=some j->∀H',aA H H'->Y (.ref H'.length) (H'++[.exc j]))(hT:nu r ⟨a,b,d⟩=none->fq r.ps=[]\/dg ⟨r.ps,r.ms++[⟨a,b,d⟩],r.ws⟩)(q:nu r ⟨a,b,d⟩=none->∀H',cw B H H'->cU B H' ⟨r.ps,r.ms++[⟨a,b,d⟩],r.ws⟩->Q .none H'):aG ⟨ay (n+68),xq Y⟩ (si.drop 3) (oz B a b d none none none) H (bD Q):=k _ λld ep vf es a0 a1 ap am aw ad oV de=>by
 obtain⟨p,hp⟩:=at_of ha
 obtain⟨p',dB⟩:=at_of hb
 have y3:(((a:Int)==(b:Int))||(!d7 p d||!d7 p' d))=true->xq Y (.ref H.length) (H++[.exc 3]):=λh=>dt (y 3 (bL (by rw[<-i9 hp,<-i9 dB] at h;exact h)) H (aA.refl _))
 have key:(((a:Int)==(b:Int))||(!d7 p d||!d7 p' d))=false->aG ⟨ay (n+68),xq Y⟩ (si.drop 4) (oz B a b d none none none) H (bD Q):=λh=>by
  have e1:nu r ⟨a,b,d⟩=if r.ms.all (clear r.ps ⟨a,b,d⟩) then none else some 5:=bG (by rw[<-i9 hp,<-i9 dB] at h;rw[h];decide)
  refine VF (n:=n) k ha hb ok hd (λh2=>y 5 (e1.trans (bG (by rw[h2];decide)))) λh2 o4 o5 o6 H1 x1=>?_
  have e2:nu r ⟨a,b,d⟩=none:=e1.trans (bL h2)
  have k1:=k.ext x1
  refine k1 _ λld ep vf es a0 a1 ap am aw ad hd de=>?_
  refine(?_:aI (cc H1 (.ref (B+1))) _)
  refine eD (i:=1) a1 a0 rfl ?_
  refine gg am (gy am (by rw[aS];exact bM uH (by decide)) ?_)
  have z:=k1.JR (r.ms++[⟨a,b,d⟩])
  rw[gx] at z
  refine z.2 _ λld ep vf es a0 a1 ap am aw ad hd de=>?_
  refine(?_:aI (cc (H1.set (B+3) _) (.ref (B+1))) _)
  refine mc a1 a0 ?_
  exact b6 (s9 (n:=n) (r:=⟨r.ps,r.ms++[(⟨a,b,d⟩:eA)],r.ws⟩) hl (hT e2) z.2 λH2 x2 b2=>q e2 H2 ((x1.k.trans z.1).trans x2) b2)
 refine(?_:bz (((a:Int)==(b:Int))==false) _ _)
 refine fD (λh1=>?_) λh1=>ey h1 (y3 (by rw[h1];rfl))
 refine(?_:aI (cc H (.ref (B+1))) _)
 refine eD (i:=0) a1 a0 rfl ?_
 refine(?_:ay (n+68) 0 [.ref (B+2),nv a,.int d] H _ _)
 refine nX ap hp ?_
 refine(?_:bz ((!d7 p d)==false) _ _)
 refine fD (λh2=>?_) λh2=>ey h2 (y3 (by rw[h2,Bool.true_or,Bool.or_true]))
 refine(?_:aI (cc H (.ref (B+1))) _)
 refine eD (i:=0) a1 a0 rfl ?_
 refine(?_:ay (n+68) 0 [.ref (B+2),nv b,.int d] H _ _)
 refine nX ap dB ?_
 refine(?_:bz (!d7 p' d) _ _)
 exact cb (λh3=>y3 (by rw[h3,Bool.or_true,Bool.or_true])) λh3=>key (by rw[h1,h2,h3];rfl)
theorem VH(k:dp B H r)(hl:r.ps.length<=60)(ok:AE r)(uH:r.ms.length<=1000)(hu:sc u=true)(hv:sc v=true)(hw:sc w=true)(y:∀j,k7 r u v w=some j->∀H',aA H H'->Y (.ref H'.length) (H'++[.exc j]))(hT:k7 r u v w=none->fq r.ps=[]\/dg ⟨r.ps,r.ms++[⟨natOf u,natOf v,dC w⟩],r.ws⟩)(q:k7 r u v w=none->∀H',cw B H H'->cU B H' ⟨r.ps,r.ms++[⟨natOf u,natOf v,dC w⟩],r.ws⟩->Q .none H'):ay (n+69) 70 [.ref (B+1),u,v,w] H Q Y:=HN (k _ λld ep vf es a0 a1 ap am aw ad hd de=>by
 refine(?_:aI (cc H (.ref (B+1))) _)
 refine mc a1 a0 ?_
 refine(?_:ay (n+68) 64 [.ref (B+1),u] H _ _)
 refine rS (n:=n+66) a1 a0 rfl ap hu (λh1=>?_) λh1=>dt (y 0 (bG (by rw[h1,Bool.false_and];decide)) H (aA.refl _))
 refine(?_:aI (cc H (.ref (B+1))) _)
 refine mc a1 a0 ?_
 refine(?_:ay (n+68) 64 [.ref (B+1),v] H _ _)
 refine rS (n:=n+66) a1 a0 rfl ap hv (λh2=>?_) λh2=>dt (y 0 (bG (by rw[h1,h2];decide)) H (aA.refl _))
 have e1:k7 r u v w=if wh w 0 100000 then nu r ⟨natOf u,natOf v,dC w⟩ else some 1:=bL (by rw[h1,h2];rfl)
 refine(?_:ay (n+68) 23 [w] H _ _)
 refine v9 (n:=n+66) hw (λh3=>?_) λh3=>dt (y 1 (e1.trans (bG (by rw[h3];decide))) H (aA.refl _))
 obtain⟨a,rfl,ha⟩:=jS h1
 obtain⟨b,rfl,hb⟩:=jS h2
 obtain⟨d,rfl,-,hd⟩:=mD h3
 have e2:k7 r (nv a) (nv b) (.int d)=nu r ⟨a,b,d⟩:=e1.trans (bL h3)
 exact VG (n:=n) k hl ha hb ok uH hd (λj h=>y j (e2.trans h)) (λh=>hT (e2.trans h)) λh=>q (e2.trans h))
theorem Kc{okR:V->Hp->Prop}(h:∀Q' Y':PQ,(∀v H',okR v H'->Q' v H')->(∀j,err=some j->∀H',aA H H'->Y' (.ref H'.length) (H'++[.exc j]))->ay (n+1) 46 [.ref (B+1),D] H Q' Y')(q:∀v H',okR v H'->Q (.aC [.str "",v]) H')(y:∀j,err=some j->j<8/\∀H',aA H H'->Q (DT j) H'):ay (n+2) 47 [.ref (B+1),D] H Q Y:=HM (by
 refine h _ _ (λv H' ok=>q v H' ok) λj hj H' x'=>?_
 refine au (oA (aZ _ _)) ⟨by unfold hJ;rw[show((8:Nat)==8)=true from rfl,Bool.or_true],?_⟩
 refine(?_:ay (n+1) 45 [.ref H'.length] (H'++[.exc j]) _ _)
 exact DS (aZ _ _) (y j hj).1 λH'' x=>(y j hj).2 H'' (x'.trans ((aA.aO _ _).trans x)))
end
section
variable{kp:Nat}{K:Out->Prop}{w:V}
abbrev Gf:=Nat×V×V
noncomputable def jV(g:Gf):V:=.aC [nv g.1,g.2.1,g.2.2]
noncomputable def iT(g:Gf):Bool:=wh g.2.1 1 1000&&wh g.2.2 1 1000
noncomputable def uK(g:Gf):Rat:=mkRat (dC g.2.1) (natOf g.2.2)
noncomputable def gP(g:Gf):Nat×Rat:=(g.1,uK g)
noncomputable def iU(gs:List Gf):Rat:=gs.foldl (λt g=>t+uK g) 0
noncomputable def mH(k:Nat)(gs:List Gf):Bool:=(!(decide (1<=gs.length)&&decide (gs.length<=10)))||(decide (¬(gs.map (·.1)).Nodup)||decide (k∈gs.map (·.1)))
noncomputable def ie(k:Nat)(gs:List Gf):Bool:=mH k gs||(!gs.all iT||decide ((iU gs).num>((iU gs).den:Int)))
theorem AF{g:Gf}(h:iT g=true){M:Prop}(f:∀o u:Nat,g.2.1=nv o->g.2.2=nv u->1<=o/\o<=1000->1<=u/\u<=1000->∀hu:u≠0,uK g=Rat.normalize o u hu->Sm 10 (uK g)->M):M:=by
 obtain⟨j,x,y⟩:=g
 have h:=eJ.mp h
 obtain⟨a,rfl,a1,a2⟩:=mD h.1
 obtain⟨b,rfl,b1,b2⟩:=mD h.2
 have ea:a=((a.toNat:Nat):Int):=by lia
 have eb:b=((b.toNat:Nat):Int):=by lia
 have hu:b.toNat≠0:=by lia
 have er:uK (j,.int a,.int b)=Rat.normalize ((a.toNat:Nat):Int) b.toNat hu:=by
  rw[mU,<-ea];rfl
 refine f a.toNat b.toNat (bU V.int ea) (bU V.int eb) ⟨by lia,by lia⟩ ⟨by lia,by lia⟩ hu er ?_
 rw[er]
 exact Sm.qu hu (show(((a.toNat:Nat)):Int).natAbs<2^10 by lia) (by lia)
theorem AG(gs:List Gf)(g:Gf):iU (gs++[g])=iU gs+uK g:=List.foldl_append
def VI(B kp lg ln lf:Nat)(gs:List Gf)(H₀:Hp)(as:List Gf)(ρ:bB)(H':Hp):Prop:=∃o6 o7 o8,∃an:List Gf,ρ=[some (.ref (B+1)),some (nv kp),some (.ref lg),some (.ref ln),some (.ref lf),some (rv (iU an)),o6,o7,o8]/\bK lf H₀ H'/\H'[lf]?=some (.list (an.map λg=>jy (gP g)))/\an++as=gs/\an.all iT=true/\Sm (1+11*an.length) (iU an)
theorem VJ{gs:List Gf}{ln:Nat}(hs:∀g∈gs,sc g.2.1=true/\sc g.2.2=true)(hl:gs.length<=10)(ag:H[lg]?=some (.list (gs.map jV)))(y:(!gs.all iT||decide ((iU gs).num>((iU gs).den:Int)))=true->∀H',aA H H'->Y (.ref H'.length) (H'++[.exc 4]))(q:(!gs.all iT||decide ((iU gs).num>((iU gs).den:Int)))=false->∀H',aA H H'->Q (iG (gs.map gP)) H'):aG ⟨ay (n+2),xq Y⟩ (yL.drop 3) [some (.ref (B+1)),some (nv kp),some (.ref lg),some (.ref ln),none,none,none,none,none] H (bD Q):=by
 have x2:=aA.aO H [.list []]
 have mG:lg≠H.length:=eO (cG ag)
 apply au (cT (x2 _ _ ag))
 refine fR (g:=jV) (VI B kp lg ln H.length gs (H++[.list []])) (λg as ρ H' h=>?_) (λρ H' h=>?_) gs _ _ ⟨none,none,none,[],rfl,bK.refl _ _,aZ _ _,rfl,rfl,⟨by decide,by decide⟩⟩
 ·obtain⟨o6,o7,o8,an,rfl,x,a,t,rT,sm⟩:=h
  refine λN hN=>?_
  have hg:g∈gs:=t▸cF.mpr (.inr cJ)
  have eW:an.length+1<=gs.length:=by rw[<-t,bX,iY];exact lD (lE (gu _)) _
  have xH:aA H H':=x.ext x2 (cg _)
  have bad:iT g=false->xq (xq Y) (.ref H'.length) (H'++[.exc 4]):=λh=>dt (dt (y (by rw[<-t,all_append,all_cons,h,Bool.false_and,Bool.and_false];rfl) H' xH))
  refine(?_:ay (n+2) 22 [g.2.1,.int 1,.int 1000] H' _ _)
  refine v8 (hs g hg).1 ?_
  refine(?_:bz ((!wh g.2.1 1 1000)==false) _ _)
  refine fD (λh1=>?_) λh1=>ey h1 (bad (by unfold iT;rw[(not_eq_true' _).mp h1];rfl))
  refine(?_:ay (n+2) 22 [g.2.2,.int 1,.int 1000] H' _ _)
  refine v8 (hs g hg).2 ?_
  refine(?_:bz (!wh g.2.2 1 1000) _ _)
  refine cb (λh2=>bad (by unfold iT;rw[(not_eq_true' _).mp h2,Bool.and_false])) λh2=>?_
  have ok:iT g=true:=eJ.mpr ⟨(iB _).mp h1,(iB _).mp h2⟩
  refine AF ok λov un e1 e2 r1 r2 hu er s2=>?_
  refine gg a ?_
  rw[e1,e2]
  refine(?_:ay (n+2) 7 [.int ov,nv un] H' _ _)
  refine ph hu ?_
  rw[<-er]
  refine gy a (by rw[aS];exact bM (aR (pP eW) hl) (by decide)) ?_
  refine(?_:ay (n+2) 7 [.int ov,nv un] (H'.set _ _) _ _)
  refine ph hu ?_
  rw[<-er]
  refine(?_:ay (n+2) 8 [rv (iU an),rv (uK g)] (H'.set _ _) _ _)
  refine zU (n:=n) sm s2 (by lia) ?_
  rw[<-AG]
  refine hN _ _ (dm (x2 _ _ ag) (d9 (x _ _ mG (x2 _ _ ag)) _ (Ne.symm mG))) ⟨_,_,_,an++[g],rfl,x.trans (bK.set _ _ _),?_,gh t,by rw[all_append,rT,all_cons,ok];rfl,?_⟩
  ·rw[gx];exact eX a _
  ·rw[AG,bX]
   exact(sm.add s2).le (by refine(?_:_<=1+11*(an.length+1));lia)
 ·obtain⟨o6,o7,o8,an,rfl,x,a,t,rT,sm⟩:=h
  rw[dO] at t
  subst t
  rw[rT] at y q
  have xH:aA H H':=x.ext x2 (cg _)
  refine(?_:bz (decide ((iU an).num>((iU an).den:Int))) _ _)
  refine cb (λh=>dt (y (by rw[h];rfl) H' xH)) λh=>?_
  apply au (cC a)
  have k:=q (by rw[h];rfl) H' xH
  unfold iG at k
  rw[map_map] at k
  exact k
theorem VK{gs:List Gf}(hs:∀g∈gs,sc g.2.1=true/\sc g.2.2=true)(hl:gs.length<=1000)(ag:H[lg]?=some (.list (gs.map jV)))(y:ie kp gs=true->∀H',aA H H'->Y (.ref H'.length) (H'++[.exc 4]))(q:ie kp gs=false->∀H',aA H H'->Q (iG (gs.map gP)) H'):ay (n+3) 72 [.ref (B+1),nv kp,.ref lg] H Q Y:=HP (by
 have y1:mH kp gs=true->∀H',aA H H'->xq Y (.ref H'.length) (H'++[.exc 4]):=λh H' x=>dt (y (by unfold ie;rw[h];rfl) H' x)
 apply au (cC ag)
 rw[aS]
 have eL:(decide (1<=(gs.length:Int))=decide (1<=gs.length))/\(decide ((gs.length:Int)<=10)=decide (gs.length<=10)):=⟨nC.mpr ⟨λh=>by lia,λh=>by lia⟩,nC.mpr ⟨λh=>by lia,λh=>by lia⟩⟩
 have key:gs.length<=10->(!(decide (1<=gs.length)&&decide (gs.length<=10)))=false->aG ⟨ay (n+2),xq Y⟩ (yL.drop 1) [some (.ref (B+1)),some (nv kp),some (.ref lg),none,none,none,none,none,none] H (bD Q):=λiu h0=>by
  apply au (cT ag)
  refine cM (cP (by rw[aS];exact bM iu (by decide))) ?_
  refine iF (P:=λZ=>true) (F:=λg:Gf=>nv g.1) gs _ _ (λj Z T hT=>hT) (λj Z Z N hN=>hN) ?_
  rw[lS,show gs.map (λg:Gf=>nv g.1)=aX (gs.map (·.1)) by rw[show aX (gs.map (·.1))=(gs.map (·.1)).map nv from rfl,map_map];rfl]
  have anm:=aZ H (.list ([]++aX (gs.map (·.1))))
  have x1:=aA.aO H [.list ([]++aX (gs.map (·.1)))]
  refine(?_:ay (n+2) 24 [.ref H.length] (H++[.list ([]++aX (gs.map (·.1)))]) _ _)
  refine Ay (n:=n+1) anm (by rw[aS];exact hl) ?_
  refine(?_:bz (decide (¬(gs.map (·.1)).Nodup)==false) _ _)
  refine fD (λh1=>?_) λh1=>ey h1 (y1 (by unfold mH;rw[h1,Bool.true_or,Bool.or_true]) _ x1)
  apply au (Cw (k:=kp) anm)
  refine(?_:bz (decide (kp∈gs.map (·.1))) _ _)
  refine cb (λh2=>y1 (by unfold mH;rw[h2,Bool.or_true,Bool.or_true]) _ x1) λh2=>?_
  have hf:mH kp gs=false:=by unfold mH;rw[h0,h1,h2];rfl
  have eb:ie kp gs=(!gs.all iT||decide ((iU gs).num>((iU gs).den:Int))):=by unfold ie;rw[hf];rfl
  exact VJ (n:=n) hs iu (x1 _ _ ag) (λh H' x=>y (eb.trans h) H' (x1.trans x)) λh H' x=>q (eb.trans h) H' (x1.trans x)
 refine(?_:bz (decide (1<=(gs.length:Int))) _ _)
 rw[eL.1]
 refine cb (λh1=>?_) λh1=>y1 (by unfold mH;rw[h1];rfl) H (aA.refl _)
 refine(?_:bz (!decide ((gs.length:Int)<=10)) _ _)
 rw[eL.2]
 refine cb (λh2=>y1 (by unfold mH;rw[(not_eq_true' _).mp h2,Bool.and_false];rfl) H (aA.refl _)) λh2=>?_
 have h2:=(iB _).mp h2
 exact key (cf h2) (by rw[h1,h2];rfl))
end
section
variable{k:Nat}{K:Out->Prop}{w:V}
abbrev Gv:=V×V×V
noncomputable def mI(g:Gv):V:=.aC [g.1,g.2.1,g.2.2]
noncomputable def gA(g:Gv):Gf:=(natOf g.1,g.2.1,g.2.2)
def wb(gs:List Gv):Prop:=∀g∈gs,sc g.1=true/\sc g.2.1=true/\sc g.2.2=true
noncomputable def nw(p:aH)(d:Int):Bool:=decide (d<p.aQ)||(p.bR.elim false λe=>decide (d>e))
noncomputable def okN(ps:List aH)(gs:List Gv):Bool:=gs.all λg=>wh g.1 0 ((ps.length:Int) - 1)
noncomputable def lX(p:aH)(k:Nat)(d:Int)(gs:List Gf):Option Nat:=if nw p d then some 1 else if ie k gs then some 4 else none
noncomputable def k8(r:dN)(u v:V)(gs:List Gv):Option Nat:=if wh u 0 ((r.ps.length:Int) - 1)&&okN r.ps gs then(if wh v 0 100000 then(r.ps[natOf u]?).elim none λp=>lX p (natOf u) (dC v) (gs.map gA) else some 1) else some 0
noncomputable abbrev mJ(k:Nat)(d:Int)(gs:List Gf):fY:=⟨k,d,gs.map gP⟩
theorem AH{ps:List aH}:∀{gs:List Gv},okN ps gs=true->gs.map mI=(gs.map gA).map jV
 |[],_=>rfl
 |g::gs,h=>by
  have h:=eJ.mp (show(wh g.1 0 ((ps.length:Int) - 1)&&okN ps gs)=true from h)
  obtain⟨k,e,-⟩:=jS h.1
  rw[jF,jF,jF,AH h.2]
  refine bU (·::_) ?_
  unfold mI jV gA
  rw[e];rfl
theorem VL{gs:List Gf}(b:dp B H r)(hl:r.ps.length<=60)(j7:r.ws.length<=1000)(hs:∀g∈gs,sc g.2.1=true/\sc g.2.2=true)(gJ:gs.length<=1000)(ag:H[lg]?=some (.list (gs.map jV)))(y:ie k gs=true->∀H',aA H H'->Y (.ref H'.length) (H'++[.exc 4]))(hT:ie k gs=false->fq r.ps=[]\/dg ⟨r.ps,r.ms,r.ws++[mJ k d gs]⟩)(q:ie k gs=false->∀H',cw B H H'->cU B H' ⟨r.ps,r.ms,r.ws++[mJ k d gs]⟩->Q .none H'):aG ⟨ay (n+68),xq Y⟩ (u6.drop 5) [some (.ref (B+1)),some (nv k),some (.int d),some (.ref lg),o4,o5,o6,o7,o8] H (bD Q):=b _ λld ep vf es a0 a1 ap am aw ad oV de=>by
 refine(?_:aI (cc H (.ref (B+1))) _)
 refine eD (i:=2) a1 a0 rfl ?_
 refine gg aw ?_
 refine(?_:aI (cc H (.ref (B+1))) _)
 refine mc a1 a0 ?_
 refine(?_:ay (n+68) 72 [.ref (B+1),nv k,.ref lg] H _ _)
 refine VK (n:=n+65) hs gJ ag (λh H' x=>dt (y h H' x)) λh H1 x1=>?_
 have b1:=b.ext x1
 refine b1 _ λld ep vf es a0 a1 ap am aw ad hd de=>?_
 refine gy aw (by rw[aS];exact bM j7 (by decide)) ?_
 have z:=b1.JS (r.ws++[mJ k d gs])
 rw[gx] at z
 refine z.2 _ λld ep vf es a0 a1 ap am aw ad hd de=>?_
 refine(?_:aI (cc (H1.set (B+4) _) (.ref (B+1))) _)
 refine mc a1 a0 ?_
 exact b6 (s9 (n:=n) (r:=⟨r.ps,r.ms,r.ws++[mJ k d gs]⟩) hl (hT h) z.2 λH2 x2 b2=>q h H2 ((x1.k.trans z.1).trans x2) b2)
theorem VM{gs:List Gf}(b:dp B H r)(hl:r.ps.length<=60)(j7:r.ws.length<=1000)(hp:r.ps[k]?=some p)(hs:∀g∈gs,sc g.2.1=true/\sc g.2.2=true)(gJ:gs.length<=1000)(ag:H[lg]?=some (.list (gs.map jV)))(y:∀j,lX p k d gs=some j->∀H',aA H H'->Y (.ref H'.length) (H'++[.exc j]))(hT:lX p k d gs=none->fq r.ps=[]\/dg ⟨r.ps,r.ms,r.ws++[mJ k d gs]⟩)(q:lX p k d gs=none->∀H',cw B H H'->cU B H' ⟨r.ps,r.ms,r.ws++[mJ k d gs]⟩->Q .none H'):aG ⟨ay (n+68),xq Y⟩ (u6.drop 3) [some (.ref (B+1)),some (nv k),some (.int d),some (.ref lg),o4,o5,o6,o7,o8] H (bD Q):=b _ λld ep vf es a0 a1 ap am aw ad oV de=>by
 refine(?_:aI (cc H (.ref (B+1))) _)
 refine eD (i:=0) a1 a0 rfl ?_
 apply au (ee ap hp)
 unfold bQ
 have l1:nw p d=true->xq Y (.ref H.length) (H++[.exc 1]):=λh=>dt (y 1 (bL h) H (aA.refl _))
 have key:nw p d=false->∀{o5 o6 o7 o8:Option V},aG ⟨ay (n+68),xq Y⟩ (u6.drop 5) [some (.ref (B+1)),some (nv k),some (.int d),some (.ref lg),o4,o5,o6,o7,o8] H (bD Q):=λh1 {_ _ _ _}=>by
  have e1:lX p k d gs=if ie k gs then some 4 else none:=bG (by rw[h1];decide)
  exact VL (n:=n) b hl j7 hs gJ ag (λh=>y 4 (e1.trans (bL h))) (λh=>hT (e1.trans (bG (by rw[h];decide)))) λh=>q (e1.trans (bG (by rw[h];decide)))
 refine(?_:bz (decide (d<p.aQ)==false) _ _)
 refine fD (λh1=>?_) λh1=>ey h1 (l1 (by unfold nw;rw[h1];rfl))
 cases hd:p.bR with
 |none=>exact key (by unfold nw;rw[h1,hd];rfl)
 |some e=>
  refine(?_:bz (decide (d>e)) _ _)
  exact cb (λh2=>l1 (by unfold nw;rw[hd];exact or_eq_true_iff.mpr (.inr h2))) λh2=>key (by unfold nw;rw[h1,hd];exact h2)
theorem VN{gs:List Gv}(b:dp B H r)(hl:r.ps.length<=60)(j7:r.ws.length<=1000)(hu:sc u=true)(hv:sc v=true)(hs:wb gs)(gJ:gs.length<=1000)(ag:H[lg]?=some (.list (gs.map mI)))(y:∀j,k8 r u v gs=some j->∀H',aA H H'->Y (.ref H'.length) (H'++[.exc j]))(hT:k8 r u v gs=none->fq r.ps=[]\/dg ⟨r.ps,r.ms,r.ws++[mJ (natOf u) (dC v) (gs.map gA)]⟩)(q:k8 r u v gs=none->∀H',cw B H H'->cU B H' ⟨r.ps,r.ms,r.ws++[mJ (natOf u) (dC v) (gs.map gA)]⟩->Q .none H'):ay (n+69) 73 [.ref (B+1),u,v,.ref lg] H Q Y:=HQ (b _ λld ep vf es a0 a1 ap am aw ad oV de=>by
 have y0:(wh u 0 ((r.ps.length:Int) - 1)&&okN r.ps gs)=false->Y (.ref H.length) (H++[.exc 0]):=λh=>y 0 (bG (by rw[h];decide)) H (aA.refl _)
 refine(?_:aI (cc H (.ref (B+1))) _)
 refine mc a1 a0 ?_
 refine(?_:ay (n+68) 64 [.ref (B+1),u] H _ _)
 refine rS (n:=n+66) a1 a0 rfl ap hu (λh1=>?_) λh1=>dt (y0 (by rw[h1];rfl))
 apply au (cT ag)
 refine wa (g:=mI) (ok:=λg:Gv=>wh g.1 0 ((r.ps.length:Int) - 1)) (as:=gs) (R:=λρ=>∃o,ρ=[some (.ref (B+1)),some u,some v,some (.ref lg),o,none,none,none,none]) (dm ag ag) (λg hg ρ hr=>?_) (λqD ρ hr=>?_) ⟨none,rfl⟩
 ·obtain⟨o,rfl⟩:=hr
  refine au (a:=[some (.ref (B+1)),some u,some v,some (.ref lg),some (mI g),none,none,none,none]) rfl λN hN=>?_
  refine(?_:aI (cc H (.ref (B+1))) _)
  refine mc a1 a0 ?_
  refine(?_:ay (n+68) 64 [.ref (B+1),g.1] H _ _)
  refine rS (n:=n+66) a1 a0 rfl ap (hs g hg).1 (λh=>hN h _ ⟨_,rfl⟩) λh=>dt (dt (y0 ?_))
  have e:okN r.ps gs=false:=by
   cases hh:okN r.ps gs with
   |false=>rfl
   |true=>have z:=iA.mp hh g hg;rw[h] at z;cases z
  rw[e,Bool.and_false]
 ·obtain⟨o,rfl⟩:=hr
  have e1:k8 r u v gs=if wh v 0 100000 then(r.ps[natOf u]?).elim none λp=>lX p (natOf u) (dC v) (gs.map gA) else some 1:=bL (by rw[h1,show okN r.ps gs=true from qD];rfl)
  refine(?_:ay (n+68) 23 [v] H _ _)
  refine v9 (n:=n+66) hv (λh2=>?_) λh2=>dt (y 1 (e1.trans (bG (by rw[h2];decide))) H (aA.refl _))
  obtain⟨k,rfl,hk⟩:=jS h1
  obtain⟨d,rfl,-,-⟩:=mD h2
  refine(at_of hk).elim λp hp=>?_
  have e2:k8 r (nv k) (.int d) gs=lX p k d (gs.map gA):=(e1.trans (bL h2)).trans (by rw[show natOf (nv k)=k from rfl,hp];rfl)
  exact VM (n:=n) b hl j7 hp (λg hg=>(fj.mp hg).elim λx hx=>hx.2▸(hs x hx.1).2) (by rw[aS];exact gJ) (AH qD▸ag) (λj h=>y j (e2.trans h)) (λh=>hT (e2.trans h)) λh=>q (e2.trans h))
end
noncomputable def jD:Option Nat->Str
 |none=>""
 |some j=>pE.getD j ""
section
variable{K:Out->Prop}{c:V}{ps:List aH}
theorem VO{w:V}(q:Q v H):ay (n+1) 50 [rX u w v] H Q Y:=Cs (by
 refine kT 2 rfl rfl ?_
 exact q)
theorem VP(q:Q v H):ay (n+1) 50 [jT u v] H Q Y:=Cs (by
 refine kF 3 2 rfl rfl ?_
 exact q)
theorem VQ(q:Q v H):ay (n+1) 50 [oB u v lg] H Q Y:=Cs (by
 refine kF 4 2 rfl rfl ?_
 exact q)
theorem VR{w:V}(q:∀la H',aA H H'->H'[la]?=some (.list [u,w])->Q (.ref la) H'):ay (n+1) 49 [rX u w v] H Q Y:=Cr (by
 refine kT 2 rfl rfl ?_
 exact q _ _ (aA.aO _ _) (aZ _ _))
theorem VS(q:∀la H',aA H H'->H'[la]?=some (.list [u])->Q (.ref la) H'):ay (n+1) 49 [jT u v] H Q Y:=Cr (by
 refine kF 3 2 rfl rfl ?_
 refine kT 3 rfl rfl ?_
 exact q _ _ (aA.aO _ _) (aZ _ _))
theorem VT{gs:List Gv}(ag:H[lg]?=some (.list (gs.map mI)))(hl:gs.length<=1000)(q:∀la H',aA H H'->H'[la]?=some (.list (u::gs.map (·.1)))->Q (.ref la) H'):ay (n+1) 49 [oB u v lg] H Q Y:=Cr (by
 refine kF 4 2 rfl rfl ?_
 refine kF 4 3 rfl rfl ?_
 have ag:=be [.list [u]] ag
 apply au (cT ag)
 refine cM (cP (by rw[aS];exact bM hl (by decide))) ?_
 refine iF (P:=λZ=>true) (F:=λg:Gv=>g.1) gs _ _ (λj Z T hT=>hT) (λj Z Z N hN=>hN) ?_
 rw[lS]
 refine(?_:sG .add (.ref H.length) (.ref (H++[bt.list [u]]).length) (H++[.list [u]]++[.list ([]++gs.map (·.1))]) _)
 refine lP (be _ (aZ _ _)) (aZ _ _) (by rw[bX,nil_append,aS];exact bM (lD hl 1) (by decide)) ?_
 exact q _ _ (((aA.aO _ _).trans (aA.aO _ _)).trans (aA.aO _ _)) (aZ _ _))
theorem DY(BV:∀Q Y:PQ,(∀la H',aA H H'->H'[la]?=some (.list us)->Q (.ref la) H')->ay (n+2) 49 [D] H Q Y)(VU:∀Q Y:PQ,Q v H->ay (n+2) 50 [D] H Q Y)(hA:H[l]?=some (.list (ps.map bQ)))(hs:∀u∈us,sc u=true)(VV:us.length<=1001)(hv:sc v=true)(q0:kh ps us=false->∀H',aA H H'->Q (.str "person") H')(q1:kh ps us=true->wh v 0 100000=false->∀H',aA H H'->Q (.str "day") H')
  (h:kh ps us=true->wh v 0 100000=true->∀H',aA H H'->aG ⟨ay (n+2),xq Y⟩ (u4.drop 4) [some (.aC [.ref l,.ref lm,.ref lw]),some D,some (.ref l),some v,none] H' (bD Q)):ay (n+3) 54 [.aC [.ref l,.ref lm,.ref lw],D] H Q Y:=R4 (by
 refine(?_:ay (n+2) 50 [D] H _ _)
 refine VU _ _ ?_
 refine(?_:ay (n+2) 49 [D] H _ _)
 refine BV _ _ λla H1 x1 a1=>?_
 apply au (cT a1)
 refine cM (cP (bM VV (by decide))) ?_
 refine VA (C:=⟨ay (n+2),xq Y⟩) (P:=λv=>wh v 0 ((ps.length:Int) - 1)) hs (λu hu T hT=>?_) (λv N hN=>hN) λH2 x2=>?_
 ·refine(?_:ay (n+2) 48 [.ref l,u] H1 _ _)
  refine J7 (x1 _ _ hA) (hs u hu) ?_
  exact An (T:=T) hT
 ·have x3:=x1.trans x2
  refine(?_:bz (!kh ps us) _ _)
  refine cb (λh0=>q0 (by rw[jj] at h0;exact h0) _ x3) λh0=>?_
  rw[iB] at h0
  refine(?_:ay (n+2) 27 [v] H2 _ _)
  refine DX hv ?_
  cases v with
  |int i=>
   have q1:kh ps us=true->(decide (0<=i)&&decide (i<=100000))=false->∀H',aA H H'->Q (.str "day") H':=q1
   refine(?_:bz (decide (0<=i)) _ _)
   refine cb (λh1=>?_) λh1=>q1 h0 (by rw[h1];rfl) _ x3
   refine(?_:bz (!decide (i<=100000)) _ _)
   refine cb (λh2=>q1 h0 (by rw[h1,Bool.true_and];rw[jj] at h2;exact h2) _ x3) λh2=>?_
   rw[iB] at h2
   exact h h0 (eJ.mpr ⟨h1,h2⟩) _ x3
  |aC _=>cases hv
  |ref _=>cases hv
  |fu=>cases hv
  |none=>exact q1 h0 rfl _ x3
  |bool b=>exact q1 h0 rfl _ x3
  |str s=>exact q1 h0 rfl _ x3)
theorem kA(i m:Nat){w:Str}{a:List S}(hj:ρ[j]?.join=some (.aC (.str (knd i)::vs)))(hw:w=knd m)(no:aG C rest ρ H K)(hi:i<5:=by decide)(hm:m<5:=by decide)(hn:i≠m:=by decide):aG C (.br (.and [(.cmp .eq (.aP (.J j) (kI 0)) (.k (.str w))),e2]) a []::rest) ρ H K:=by
 subst hw
 refine iw (pB (Av (jg (cD (ba hj (bF ?_))))))
 refine au (a:=V.str (knd i)) rfl (bF (au (yq i m hi hm) ?_))
 rw[gv hn]
 exact no
theorem VW{a b:V}{t:Bool}:fF (.ref H.length) (.int (if t then 1 else 0)) (H++[.list [a,b]])=some (if t then b else a):=by
 cases t
 ·exact gf (k:=0) (aZ _ _) rfl
 ·exact gf (k:=1) (aZ _ _) rfl
end
section
variable{k b:Nat}{K:Out->Prop}
theorem VX(g:Nat×Rat):rd H 7 (jy g)=some (rQ g):=bU (Option.map PyData.tuple) (dH (pg _ _) (dH (Ae _ _) rfl))
theorem Kd(w:fY):rd H 9 (dS w)=some (uG w):=bU (Option.map PyData.tuple) (dH (pg _ _) (dH (pg _ _) (dH (show rd H 8 (iG w.cQ)=some (.tuple (w.cQ.map rQ)) from bU (Option.map PyData.tuple) (pz VX w.cQ)) rfl)))
theorem DZ{α β:Type}(P:α->Bool)(f:α->β):∀vs:List α,(!((vs.filter P).map f).isEmpty)=vs.any P
 |[]=>rfl
 |a::t=>by
  rw[filter_cons,any_cons]
  cases h:P a with
  |true=>rfl
  |false=>exact DZ P f t
noncomputable abbrev VY:S:=.aN (.J 3) (.comp 1 (.J 0) (.J 0) (.of (iI 0 2)) [(.and [(.cmp .eq (iI 0 0) (.J 2)),(.cmp .gt (iI 0 1) (.J 3))])])
noncomputable abbrev VZ:S:=.aN (.J 4) (.comp 1 (.J 0) (.J 0) (.of (iI 0 1)) [(.and [(.cmp .jZ (.J 2) (.iN (.J 0) none (some (kI 2)))),(.cmp .ge (iI 0 2) (.J 3))])])
theorem V0{t:V}(ht:fF t (.int 2) H=some (.ref lw))(aw:H[lw]?=some (.list (r.ws.map dS)))(hl:r.ws.length<=1000)(h:aG C rest [some t,some (nv k),some (.int d),some (.ref H.length),o4,o5] (H++[.list ((r.ws.filter (jh k d)).map dS)]) K):aG C (VY::rest) [some t,some (nv k),some (.int d),o3,o4,o5] H K:=by
 apply au ht
 apply au (cT aw)
 refine cM (cP (by rw[aS];exact bM hl (by decide))) ?_
 refine iF (g:=dS) (P:=jh k d) (F:=dS) r.ws _ _ (λw Z T hT=>?_) (λj Z Z N hN=>hN) h
 refine(?_:bz (((w.ff:Int)==(k:Int))==true) _ _)
 unfold jh at hT
 refine fC (λh1=>?_) λh1=>?_
 ·refine(?_:bz (decide (w.day>d)) _ _)
  rw[h1,Bool.true_and] at hT
  exact cb (λh2=>by rw[show decide (d<w.day)=true from h2] at hT;exact hT) λh2=>by rw[show decide (d<w.day)=false from h2] at hT;exact hT
 ·rw[h1] at hT
  refine(?_:bz ((w.ff:Int)==(k:Int)) _ _)
  exact e8 h1 hT
theorem V1{t:V}(ht:fF t (.int 1) H=some (.ref lm))(am:H[lm]?=some (.list (r.ms.map dK)))(hl:r.ms.length<=1000)(h:aG C rest [some t,some (nv k),some (.int d),o3,some (.ref H.length),o5] (H++[.list ((r.ms.filter (jC k d)).map dK)]) K):aG C (VZ::rest) [some t,some (nv k),some (.int d),o3,o4,o5] H K:=by
 apply au ht
 apply au (cT am)
 refine cM (cP (by rw[aS];exact bM hl (by decide))) ?_
 refine iF (g:=dK) (P:=jC k d) (F:=dK) r.ms _ _ (λw Z T hT=>?_) (λj Z Z N hN=>hN) h
 refine(?_:bz ((((w.a:Int)==(k:Int))||(((w.b:Int)==(k:Int))||false))==true) _ _)
 unfold jC at hT
 refine fC (λh1=>?_) λh1=>?_
 ·refine(?_:bz (decide (w.day≥d)) _ _)
  rw[h1,Bool.true_and] at hT
  exact cb (λh2=>by rw[show decide (d<=w.day)=true from h2] at hT;exact hT) λh2=>by rw[show decide (d<=w.day)=false from h2] at hT;exact hT
 ·rw[h1] at hT
  refine(?_:bz (((w.a:Int)==(k:Int))||(((w.b:Int)==(k:Int))||false)) _ _)
  exact e8 h1 hT
theorem V2(at':cK H r l lm lw)(hl:r.ms.length<=1000/\r.ws.length<=1000)(hp:r.ps[k]?=some p)(q:∀H',aA H H'->Q (.bool (kj r p k d)) H'):ay (n+1) 51 [.aC [.ref l,.ref lm,.ref lw],nv k,.int d] H Q Y:=RX (at' _ λap am aw=>by
 refine V0 (r:=r) rfl aw hl.2 ?_
 refine V1 (r:=r) rfl (be _ am) hl.1 ?_
 have x:=(aA.aO H [.list ((r.ws.filter (jh k d)).map dS)]).trans (aA.aO _ [.list ((r.ms.filter (jC k d)).map dK)])
 have a3:=be [.list ((r.ms.filter (jC k d)).map dK)] (aZ H (.list ((r.ws.filter (jh k d)).map dS)))
 have a4:=aZ (H++[.list ((r.ws.filter (jh k d)).map dS)]) (.list ((r.ms.filter (jC k d)).map dK))
 generalize H++[.list ((r.ws.filter (jh k d)).map dS)]++[.list ((r.ms.filter (jC k d)).map dK)]=H1 at x a3 a4 ⊢
 generalize (H++[bt.list ((r.ws.filter (jh k d)).map dS)]).length=l4 at a4 ⊢
 apply au (ee (x _ _ ap) hp)
 refine(?_:aG _ [.ret _] [some (.aC [.ref l,.ref lm,.ref lw]),some (nv k),some (.int d),some (.ref H.length),some (.ref l4),some (mv p.ad)] H1 _)
 apply au (ee (x _ _ ap) hp)
 have q:∀H',aA H1 H'->Q (.bool ((decide (d<p.aQ)||tf p d)||(r.ws.any (jh k d)||r.ms.any (jC k d)))) H':=λH' x'=>q H' (x.trans x')
 refine(?_:bz (decide (d<p.aQ)==false) _ _)
 refine fD (λh1=>?_) λh1=>?_
 ·rw[h1,Bool.false_or] at q
  apply au (ne_nil (be [.list []] a3) (pz Kd _) (aZ H1 (.list [])))
  rw[DZ]
  refine(?_:bz (r.ws.any (jh k d)==false) _ _)
  refine fD (λh2=>?_) λh2=>?_
  ·rw[h2,Bool.false_or] at q
   apply au (ne_nil (be [.list []] (be [.list []] a4)) (pz (d:=s8) (λZ=>rfl) _) (aZ (H1++[.list []]) (.list [])))
   rw[DZ]
   refine(?_:bz (r.ms.any (jC k d)==false) _ _)
   have xx:∀c c':bt,aA H1 (H1++[c]++[c']):=λZ Z=>(aA.aO _ _).trans (aA.aO _ _)
   refine fD (λh3=>?_) λh3=>?_
   ·rw[h3,Bool.or_false] at q
    unfold tf at q
    cases ha:p.ad with
    |none=>rw[ha] at q;exact q _ (xx _ _)
    |some z=>
     rw[ha] at q
     exact q _ (xx _ _)
   ·rw[h3,Bool.or_true] at q
    rw[h3]
    exact q _ (xx _ _)
  ·rw[h2,Bool.true_or,Bool.or_true] at q
   rw[h2]
   exact q _ (aA.aO _ _)
 ·rw[h1] at q ⊢
  exact q _ (aA.refl _))
theorem V3(at':cK H r l lm lw)(ok:jz r.ps.length r.ms)(ha:a<r.ps.length)(hb:b<r.ps.length)(q:∀H',aA H H'->Q (.str (jD (nu r ⟨a,b,d⟩))) H'):ay (n+3) 53 [.aC [.ref l,.ref lm,.ref lw],nv a,nv b,.int d] H Q Y:=RZ (at' _ λap am aw=>by
 obtain⟨p,hp⟩:=at_of ha
 obtain⟨p',dB⟩:=at_of hb
 have e0:nu r ⟨a,b,d⟩=if(((a:Int)==(b:Int))||(!d7 p d||!d7 p' d)) then some 3 else if r.ms.all (clear r.ps ⟨a,b,d⟩) then none else some 5:=by rw[<-i9 hp,<-i9 dB];rfl
 have y3:(((a:Int)==(b:Int))||(!d7 p d||!d7 p' d))=true->Q (.str "match") H:=λh=>by
  have q:=q H (aA.refl _)
  rw[e0,bL h] at q
  exact q
 have key:(((a:Int)==(b:Int))||(!d7 p d||!d7 p' d))=false->aG ⟨ay (n+2),xq Y⟩ (Bo.drop 1) [some (.aC [.ref l,.ref lm,.ref lw]),some (nv a),some (nv b),some (.int d),none] H (bD Q):=λh=>by
  have e1:nu r ⟨a,b,d⟩=if r.ms.all (clear r.ps ⟨a,b,d⟩) then none else some 5:=e0.trans (bG (by rw[h];decide))
  apply au (cT am)
  refine fR (g:=dK) (λas ρ H'=>(∃o4,ρ=[some (.aC [.ref l,.ref lm,.ref lw]),some (nv a),some (nv b),some (.int d),o4])/\aA H H'/\∃pre,pre++as=r.ms/\pre.all (clear r.ps ⟨a,b,d⟩)=true) (λu as ρ H' h=>?_) (λρ H' h=>?_) _ _ _ ⟨⟨none,rfl⟩,aA.refl _,[],rfl,rfl⟩
  ·obtain⟨⟨o4,rfl⟩,x,pre,e,rZ⟩:=h
   refine λN hN=>?_
   have hu:u∈r.ms:=e▸cF.mpr (.inr cJ)
   have no:clear r.ps ⟨a,b,d⟩ u=true->∀H'',aA H' H''->N [some (.aC [.ref l,.ref lm,.ref lw]),some (nv a),some (nv b),some (.int d),some (dK u)] H'':=λhc H'' x'=>hN _ _ (dm am ((x.trans x') _ _ am)) ⟨⟨_,rfl⟩,x.trans x',pre++[u],by rw[nF];exact e,by rw[all_append,rZ,all_cons,hc];rfl⟩
   have yes:lV ⟨a,b,d⟩ u=true->aG ⟨ay (n+2),xq (xq Y)⟩ [.br (.call 37 [(iI 0 0),(.aC [.J 1,.J 2,.J 3]),.J 4]) [.ret (.k (.str "again"))] []] [some (.aC [.ref l,.ref lm,.ref lw]),some (nv a),some (nv b),some (.int d),some (dK u)] H' (λo=>i0 o N (oO (bD Q) N o)):=λht=>by
    have me:clear r.ps ⟨a,b,d⟩ u=!vZ r.ps ⟨a,b,d⟩ u:=by unfold clear;rw[ht];rfl
    refine(?_:ay (n+2) 37 [.ref l,.aC [nv a,nv b,.int d],.aC [nv u.a,nv u.b,.int u.day]] H' _ _)
    refine Jr (n:=n) (x _ _ ap) ha hb (ok u hu).1 (ok u hu).2 λH2 x2=>?_
    refine(?_:bz (vZ r.ps ⟨a,b,d⟩ u) _ _)
    refine cb (λh1=>?_) λh1=>no (by rw[me,h1];rfl) H2 x2
    have q:=q H2 (x.trans x2)
    rw[e1,bG (by rw[<-e,all_append,all_cons,me,h1,Bool.not_true,Bool.false_and,Bool.and_false];decide)] at q
    exact q
   have cn:lV ⟨a,b,d⟩ u=false->clear r.ps ⟨a,b,d⟩ u=true:=λh=>by unfold clear;rw[h];rfl
   refine(?_:bz ((((u.a:Int)==(a:Int))||(((u.b:Int)==(a:Int))||false))==false) _ _)
   refine fD (λh1=>?_) λh1=>ey h1 (yes (by unfold lV;rw[h1];rfl))
   refine(?_:bz (((u.a:Int)==(b:Int))||(((u.b:Int)==(b:Int))||false)) _ _)
   exact cb (λh2=>yes (by unfold lV;rw[h2,Bool.or_true])) λh2=>no (cn (by unfold lV;rw[h1,h2];rfl)) _ (aA.refl _)
  ·obtain⟨⟨o4,rfl⟩,x,pre,e,rZ⟩:=h
   rw[dO] at e
   have q:=q H' x
   rw[e1,bL (e▸rZ)] at q
   exact q
 refine(?_:bz (((a:Int)==(b:Int))==false) _ _)
 refine fD (λh1=>?_) λh1=>ey h1 (y3 (by rw[h1];rfl))
 refine(?_:ay (n+2) 32 [.ref l,nv a,.int d] H _ _)
 refine Ac (n:=n+1) ap hp ?_
 refine(?_:bz ((!d7 p d)==false) _ _)
 refine fD (λh2=>?_) λh2=>ey h2 (y3 (by rw[h2,Bool.true_or,Bool.or_true]))
 refine(?_:ay (n+2) 32 [.ref l,nv b,.int d] H _ _)
 refine Ac (n:=n+1) ap dB ?_
 refine(?_:bz (!d7 p' d) _ _)
 exact cb (λh3=>y3 (by rw[h3,Bool.or_true,Bool.or_true])) λh3=>key (by rw[h1,h2,h3];rfl))
end
section
variable{k:Nat}{K:Out->Prop}{gs:List Gf}
theorem Ke(h:rY v=false):wh v 1 1000=false:=by
 cases v with
 |int i=>cases h
 |_=>rfl
theorem Kf(h:rY v=true){M:Prop}(f:∀i,v=.int i->M):M:=by
 cases v with
 |int i=>exact f i rfl
 |_=>cases h
theorem V4{t:Rat}{o u:Nat}(hu:u≠0)(h:t.den*u≠0):Rat.normalize (t.num*(u:Int)+(o:Int)*(t.den:Int)) (t.den*u) h=t+Rat.normalize (o:Int) u hu:=by
 rw[mU,mU,<-Rat.mkRat_add_mkRat _ _ t.den_nz hu,Rat.mkRat_self]
theorem V5{a b c:E}(h:WE C a ρ H λx H=>aI (truthy H x) λt=>bz (t==false) (WE C b ρ H λx H=>aI (truthy H x) λt=>bz (t==false) (WE C c ρ H λx H=>aI (truthy H x) λt=>bz (t==false) (WE C e ρ H Q) (Q x H)) (Q x H)) (Q x H)):WE C (.or [a,b,c,e]) ρ H Q:=h
theorem Kg{x:E}(h:WE C x ρ H λu H=>C.call f [u] H Q C.exc):WE C (.call f [x]) ρ H Q:=h
theorem Kh{o1 o2:nG}{a b c:E}(h:WE C a ρ H λx H=>WE C b ρ H λy H=>aI (e7 o1 x y H) λt=>bz t (WE C c ρ H λz H=>aI (e7 o2 y z H) λt=>Q (.bool t) H) (Q (.bool false) H)):WE C (.jm o1 o2 a b c) ρ H Q:=h
theorem zc{i:Int}(hj:ρ[j]?.join=some (.int i))(q:Q (.bool (!(decide (1<=i)&&decide (i<=1000)))) H):WE C (.not (.jm .le .le (kI 1) (.J j) (kI 1000))) ρ H Q:=by
 refine DC (Kh (bF (ba hj (au (a:=decide (1<=i)) rfl ?_))))
 refine cb (λh=>?_) λh=>?_
 ·refine bF (au (a:=decide (i<=1000)) rfl (au (a:=decide (i<=1000)) rfl ?_))
  rw[h] at q;exact q
 ·rw[h] at q
  exact au (a:=false) rfl q
theorem Ki(hC:C.call=ay (n+1))(hj:ρ[j]?.join=some v)(hv:sc v=true)(q:Q (.bool (!rY v)) H):WE C (.not (.call 27 [(.J j)])) ρ H Q:=by
 refine DC (Kg (ba hj ?_))
 rw[hC]
 exact DX hv (au (a:=rY v) rfl q)
noncomputable abbrev Kj:S:=.br (.or [(.not (.call 27 [.J 4])),(.not (.call 27 [.J 5])),(.not (.jm .le .le (kI 1) (.J 4) (kI 1000))),(.not (.jm .le .le (kI 1) (.J 5) (kI 1000)))]) [.ret (.k (.bool true))] []
noncomputable abbrev Kk:S:=.aN (.J 2) (.call 41 [(.bin .add (.bin .mul (iI 2 0) (.J 5)) (.bin .mul (.J 4) (iI 2 1))),(.bin .mul (iI 2 1) (.J 5))])
theorem V6{g:Gf}(hC:C.call=ay (n+1))(h4:ρ[4]?.join=some g.2.1)(h5:ρ[5]?.join=some g.2.2)(hs:sc g.2.1=true/\sc g.2.2=true)(bad:iT g=false->K (.ret (.bool true) H))(ok:iT g=true->aG C rest ρ H K):aG C (Kj::rest) ρ H K:=by
 refine iw (pB (V5 (Ki (n:=n) hC h4 hs.1 (au (a:=!rY g.2.1) rfl ?_))))
 refine fD (λh1=>?_) λh1=>au (a:=!rY g.2.1) rfl (ey h1 (bad (by unfold iT;rw[Ke ((not_eq_true' _).mp h1)];rfl)))
 refine Ki (n:=n) hC h5 hs.2 (au (a:=!rY g.2.2) rfl ?_)
 refine fD (λh2=>?_) λh2=>au (a:=!rY g.2.2) rfl (ey h2 (bad (by unfold iT;rw[Ke ((not_eq_true' _).mp h2),Bool.and_false])))
 refine Kf ((iB _).mp h1) λi ei=>Kf ((iB _).mp h2) λj ej=>?_
 have eo:iT g=((decide (1<=i)&&decide (i<=1000))&&(decide (1<=j)&&decide (j<=1000))):=by unfold iT;rw[ei,ej];rfl
 rw[ei] at h4;rw[ej] at h5
 refine zc h4 (au (a:=!(decide (1<=i)&&decide (i<=1000))) rfl ?_)
 refine fD (λh3=>?_) λh3=>au (a:=!(decide (1<=i)&&decide (i<=1000))) rfl (ey h3 (bad (by rw[eo,(jj _).mp h3];rfl)))
 refine zc h5 (au (a:=!(decide (1<=j)&&decide (j<=1000))) rfl ?_)
 exact cb (λh4=>bad (by rw[eo,(jj _).mp h4,Bool.and_false])) λh4=>ok (by rw[eo,(iB _).mp h3,(iB _).mp h4];rfl)
theorem V7{t:Rat}{un i:Nat}(hC:C.call=ay (n+1))(hu:un≠0)(sm:Sm i t)(hi:i<=1000)(ho:ov<2^10)(hn:un<2^10)(h:aG C rest [x0,x1,some (rv (t+Rat.normalize (ov:Int) un hu)),x3,some (nv ov),some (nv un)] H K):aG C (Kk::rest) [x0,x1,some (rv t),x3,some (nv ov),some (nv un)] H K:=by
 have hd:t.den*un≠0:=Nat.mul_ne_zero t.den_nz hu
 refine dU (ke (cL (cL (cD (ba (v:=rv t) rfl (bF (au (a:=.int t.num) rfl (ba (v:=nv un) rfl (cR (ja (a:=t.num) (b:=(un:Int)) (j:=10) sm.1 (show((un:Nat):Int).natAbs<2^10 from hn) (aR (mS hi 10) (by decide))) ?_)))))))))
 refine cL (ba (v:=nv ov) rfl (cD (ba (v:=rv t) rfl (bF (au (a:=.int (t.den:Int)) rfl (cR (ja (a:=(ov:Int)) (b:=(t.den:Int)) (i:=10) (show((ov:Nat):Int).natAbs<2^10 from ho) sm.2 (by rw[add_comm];exact aR (mS hi 10) (by decide))) ?_))))))
 refine cR (z:=t.num*(un:Int)+(ov:Int)*(t.den:Int)) rfl ?_
 refine cL (cD (ba (v:=rv t) rfl (bF (au (a:=.int (t.den:Int)) rfl (ba (v:=nv un) rfl (cR (ja (a:=(t.den:Int)) (b:=(un:Int)) (j:=10) sm.2 (show((un:Nat):Int).natAbs<2^10 from hn) (aR (mS hi 10) (by decide))) ?_))))))
 rw[hC]
 refine(?_:ay (n+1) 41 [.int (t.num*(un:Int)+(ov:Int)*(t.den:Int)),nv (t.den*un)] H _ _)
 refine CE hd ?_
 rw[V4 hu hd]
 exact au (a:=[x0,x1,some (rv (t+Rat.normalize (ov:Int) un hu)),x3,some (nv ov),some (nv un)]) rfl h
theorem V8(hs:∀g∈gs,sc g.2.1=true/\sc g.2.2=true)(hl:gs.length<=10)(ag:H[lg]?=some (.list (gs.map jV)))(q:Q (.bool (!gs.all iT||decide ((iU gs).num>((iU gs).den:Int)))) H):aG ⟨ay (n+1),xq Y⟩ (yJ.drop 2) [some (nv k),some (.ref lg),some (rv 0),none,none,none] H (bD Q):=by
 apply au (cT ag)
 refine fR (g:=jV) (λas ρ H'=>H'=H/\∃o3 o4 o5,∃an:List Gf,ρ=[some (nv k),some (.ref lg),some (rv (iU an)),o3,o4,o5]/\an++as=gs/\an.all iT=true/\Sm (1+11*an.length) (iU an)) (λg as ρ H' h=>?_) (λρ H' h=>?_) gs _ _ ⟨rfl,none,none,none,[],rfl,rfl,rfl,⟨by decide,by decide⟩⟩
 ·obtain⟨rfl,o3,o4,o5,an,rfl,t,rT,sm⟩:=h
  refine au (a:=[some (nv k),some (.ref lg),some (rv (iU an)),some (nv g.1),some g.2.1,some g.2.2]) rfl λN hN=>?_
  have hg:g∈gs:=t▸cF.mpr (.inr cJ)
  have eW:an.length+1<=gs.length:=by rw[<-t,bX,iY];exact lD (lE (gu _)) _
  refine(?_:aG ⟨ay (n+1),xq (xq Y)⟩ [Kj,Kk] [some (nv k),some (.ref lg),some (rv (iU an)),some (nv g.1),some g.2.1,some g.2.2] H' (oO (bD Q) N))
  refine V6 (n:=n) (g:=g) rfl rfl rfl (hs g hg) (λh=>?_) λok=>?_
  ·rw[show gs.all iT=false by rw[<-t,all_append,all_cons,h,Bool.false_and,Bool.and_false]] at q
   exact q
  ·refine AF ok λov un e1 e2 r1 r2 hu er s2=>?_
   rw[e1,e2]
   refine V7 (n:=n) rfl hu sm (by lia) (by lia) (by lia) (mr ?_)
   rw[<-er,<-AG]
   refine hN _ _ (dm ag ag) ⟨rfl,_,_,_,an++[g],rfl,gh t,by rw[all_append,rT,all_cons,ok];rfl,?_⟩
   rw[AG,bX]
   exact(sm.add s2).le (by refine(?_:_<=1+11*(an.length+1));lia)
 ·obtain⟨rfl,o3,o4,o5,an,rfl,t,rT,sm⟩:=h
  rw[dO] at t
  subst t
  rw[rT] at q
  exact q
end
section
variable{k b:Nat}{K:Out->Prop}{gs:List Gf}{w:V}
theorem V9(h:WE C e ρ H λx H=>aI (kN H x) λis=>is.length<=1000/\∀n:Nat,(n=is.length↔is.Nodup)->Q (.int n) H):WE C (.bi .md [e]) ρ H Q:=h
theorem Wa(hj:ρ[j]?.join=some (.ref lg))(ag:H[lg]?=some (.list vs))(q:Q (.bool (!(decide (1<=vs.length)&&decide (vs.length<=10)))) H):WE C (.not (.jm .le .le (kI 1) (.bi .len [(.J j)]) (kI 10))) ρ H Q:=by
 refine DC (Kh (bF (DD hj ag (au (a:=decide (1<=vs.length)) (bU some (nC.mpr ⟨λh=>by lia,λh=>by lia⟩)) ?_))))
 refine cb (λh=>?_) λh=>?_
 ·refine bF (au (a:=decide (vs.length<=10)) (bU some (nC.mpr ⟨λh=>by lia,λh=>by lia⟩)) (au (a:=decide (vs.length<=10)) rfl ?_))
  rw[h] at q;exact q
 ·rw[h] at q
  exact au (a:=false) rfl q
theorem Wb:decide (¬(ks++[k]).Nodup)=(decide (¬ks.Nodup)||decide (k∈ks)):=by
 rw[<-Bool.decide_or]
 refine nC.mpr ?_
 rw[nodup_append]
 constructor
 ·intro h
  by_cases h1:ks.Nodup
  ·refine .inr (byContradiction λh2=>h ⟨h1,lF.mpr ⟨not_mem_nil,nodup_nil⟩,λa ha b hb e=>h2 ?_⟩)
   rw[cI.mp hb] at e;exact e▸ha
  ·exact .inl h1
 ·rintro(h|h) ⟨h1,-,h3⟩
  ·exact h h1
  ·exact h3 k h k (cI.mpr rfl) rfl
noncomputable abbrev Kl:S:=.br (.or [(.not (.jm .le .le (kI 1) (.bi .len [.J 1]) (kI 10))),(.cmp .ne (.bi .md [(.bin .add (.comp 1 (iI 0 0) (.J 0) (.of (.J 1)) []) (.bH [.J 0]))]) (.bin .add (.bi .len [.J 1]) (kI 1)))]) [.ret (.k (.bool true))] []
theorem Wc(h0:ρ[0]?.join=some (nv k))(h1:ρ[1]?.join=some (.ref lg))(ag:H[lg]?=some (.list (gs.map jV)))(hl:gs.length<=900)(bad:mH k gs=true->∀H',aA H H'->K (.ret (.bool true) H'))(h:mH k gs=false->∀H',aA H H'->aG C rest ρ H' K):aG C (Kl::rest) ρ H K:=by
 refine iw (pB (yj (Wa h1 ag (au (a:=!(decide (1<=(gs.map jV).length)&&decide ((gs.map jV).length<=10))) rfl ?_))))
 rw[aS]
 refine fD (λh2=>?_) λh2=>au (a:=!(decide (1<=gs.length)&&decide (gs.length<=10))) rfl (ey h2 (bad (by unfold mH;rw[h2];rfl) H (aA.refl _)))
 refine jg (V9 (cL (j8 (nr (ba h1 ?_)))))
 apply au (cT ag)
 refine cM (cP (by rw[aS];exact bM hl (by decide))) ?_
 refine iF (P:=λZ=>true) (F:=λg:Gf=>nv g.1) gs _ _ (λj Z T hT=>hT) (λj Z Z N hN=>hN) ?_
 rw[lS,show gs.map (λg:Gf=>nv g.1)=aX (gs.map (·.1)) by rw[show aX (gs.map (·.1))=(gs.map (·.1)).map nv from rfl,map_map];rfl]
 refine iR ?_
 refine au h0 ?_
 refine(?_:sG .add (.ref H.length) (.ref (H++[bt.list ([]++aX (gs.map (·.1)))]).length) (H++[.list ([]++aX (gs.map (·.1)))]++[.list [nv k]]) _)
 refine lP (be _ (aZ _ _)) (aZ _ _) (by rw[bX,nil_append,aS,aS];exact bM (mS hl 1) (by decide)) ?_
 have x:=((aA.aO H [.list ([]++aX (gs.map (·.1)))]).trans (aA.aO _ [.list [nv k]])).trans (aA.aO _ [.list (([]++aX (gs.map (·.1)))++[nv k])])
 have an:=aZ (H++[.list ([]++aX (gs.map (·.1)))]++[.list [nv k]]) (.list (([]++aX (gs.map (·.1)))++[nv k]))
 generalize H++[.list ([]++aX (gs.map (·.1)))]++[.list [nv k]]++[.list (([]++aX (gs.map (·.1)))++[nv k])]=H1 at x an ⊢
 have e1:([]++aX (gs.map (·.1)))++[nv k]=((gs.map (·.1)++[k]).map λj:Nat=>(j:Int)).map V.int:=by rw[nil_append,gx,gx,<-JV];rfl
 rw[e1] at an
 have e2:kN H1 (.ref (H++[bt.list ([]++aX (gs.map (λg:Gf=>g.1)))]++[bt.list [nv k]]).length)=some ((gs.map (·.1)++[k]).map λj:Nat=>(j:Int)):=(bU (Option.bind · allInts) (cC an)).trans (ints_map _)
 refine au e2 ⟨by rw[aS,bX,aS];exact aR (mS hl 1) (by decide),λm hm=>?_⟩
 refine cL (DD h1 (x _ _ ag) (bF (cR (z:=((gs.map jV).length:Int)+1) rfl ?_)))
 refine au (a:=!((m:Int)==((gs.map jV).length:Int)+1)) rfl (au (a:=!((m:Int)==((gs.map jV).length:Int)+1)) rfl ?_)
 have e3:(!((m:Int)==((gs.map jV).length:Int)+1))=(decide (¬(gs.map (·.1)).Nodup)||decide (k∈gs.map (·.1))):=by
  rw[<-Wb]
  have nd:((gs.map (·.1)++[k]).map λj:Nat=>(j:Int)).Nodup↔(gs.map (·.1)++[k]).Nodup:=⟨λh=>Pairwise.of_map _ (λa b hn e=>hn (bU _ e)) h,λh=>Pairwise.map _ (λa b hn e=>hn (ofNat.inj e)) h⟩
  rw[nd,aS,bX,aS] at hm
  rw[aS]
  by_cases h3:(gs.map (·.1)++[k]).Nodup
  ·rw[gv (λh=>h h3),hm.mpr h3]
   rw[iB,beq_iff_eq];rfl
  ·rw[c9 h3,jj,pO]
   exact λe=>h3 (hm.mp (by have e:(m:Int)=(gs.length:Int)+1:=e;refine(?_:m=gs.length+1);lia))
 rw[e3]
 exact cb (λh3=>bad (by unfold mH;rw[h3,Bool.or_true]) H1 x) λh3=>h (by unfold mH;rw[h2,h3];rfl) H1 x
theorem Wd(hs:∀g∈gs,sc g.2.1=true/\sc g.2.2=true)(hl:gs.length<=900)(ag:H[lg]?=some (.list (gs.map jV)))(q:∀H',aA H H'->Q (.bool (ie k gs)) H'):ay (n+2) 52 [nv k,.ref lg] H Q Y:=RY (by
 refine(?_:aG ⟨ay (n+1),xq Y⟩ (Kl::yJ.drop 2) [some (nv k),some (.ref lg),some (rv 0),none,none,none] H (bD Q))
 refine Wc rfl rfl ag hl (λh H' x=>?_) λh H' x=>?_
 ·have q:=q H' x
  unfold ie at q
  rw[h] at q;exact q
 ·have iu:gs.length<=10:=by
   unfold mH at h
   have z:=(qM.mp h).1
   rw[iB] at z
   exact cf (eJ.mp z).2
  refine V8 (n:=n) hs iu (x _ _ ag) ?_
  have q:=q H' x
  unfold ie at q
  rw[h] at q;exact q)
end
section
variable{k b:Nat}{K:Out->Prop}{w:V}{gs:List Gv}
theorem We(at':cK H r l lm lw)(ok:jz r.ps.length r.ms)(hu:sc u=true)(hv:sc v=true)(hw:sc w=true)(q:∀H',aA H H'->Q (.str (jD (k7 r u v w))) H'):ay (n+4) 54 [.aC [.ref l,.ref lm,.ref lw],rX u v w] H Q Y:=at' _ λap am aw=>by
 have e0:kh r.ps [u,v]=(wh u 0 ((r.ps.length:Int) - 1)&&wh v 0 ((r.ps.length:Int) - 1)):=by
  refine(?_:(_&&(_&&true))=_)
  rw[Bool.and_true]
 refine DY (n:=n+1) (us:=[u,v]) (v:=w) (λQ Y k=>VR (n:=n+2) k) (λQ Y k=>VO (n:=n+2) k) ap (λx hx=>(cH.mp hx).elim (λe=>e▸hu) λhx=>cI.mp hx▸hv) (show 2<=1001 by decide) hw (λh0 H' x=>?_) (λh0 h1 H' x=>?_) λh0 h1 H1 x1=>?_
 ·have q:=q H' x
  rw[show k7 r u v w=some 0 from bG (by rw[<-e0,h0];decide)] at q
  exact q
 ·have q:=q H' x
  rw[show k7 r u v w=some 1 from(bL (by rw[<-e0,h0])).trans (bG (by rw[h1];decide))] at q
  exact q
 ·have e2:k7 r u v w=nu r ⟨natOf u,natOf v,dC w⟩:=(bL (by rw[<-e0,h0])).trans (bL h1)
  rw[e0] at h0
  obtain⟨a,rfl,ha⟩:=jS (eJ.mp h0).1
  obtain⟨b,rfl,hb⟩:=jS (eJ.mp h0).2
  obtain⟨d,rfl,_⟩:=mD h1
  refine kT 2 rfl rfl ?_
  refine(?_:ay (n+3) 53 [.aC [.ref l,.ref lm,.ref lw],nv a,nv b,.int d] H1 _ _)
  refine V3 (n:=n) (r:=r) (.mk (x1 _ _ ap) (x1 _ _ am) (x1 _ _ aw)) ok ha hb λH2 x2=>?_
  have q:=q H2 (x1.trans x2)
  rw[e2] at q
  exact q
theorem Km(hD:D=.aC (.str (knd k)::nv a::vs))(hp:r.ps[a]?=some p)(ap:H[l]?=some (.list (r.ps.map bQ)))(h:aG C rest [some (.aC [.ref l,.ref lm,.ref lw]),some D,some (.ref l),some (.int d),some (fW p.bR)] H K):aG C (.aN (.J 4) (.aP (.aP (.J 2) (iI 1 1)) (kI 3))::rest) [some (.aC [.ref l,.ref lm,.ref lw]),some D,some (.ref l),some (.int d),o4] H K:=by
 subst hD
 refine dU (cD (cD (ba (v:=.ref l) rfl (cD (ba (v:=.aC (.str (knd k)::nv a::vs)) rfl (bF (au (a:=nv a) rfl (au (ee ap hp) (bF (au (a:=fW p.bR) rfl ?_))))))))))
 exact au (a:=[some (.aC [.ref l,.ref lm,.ref lw]),some (.aC (.str (knd k)::nv a::vs)),some (.ref l),some (.int d),some (fW p.bR)]) rfl h
theorem Wf(at':cK H r l lm lw)(hl:r.ms.length<=1000/\r.ws.length<=1000)(hu:sc u=true)(hv:sc v=true)(q:∀H',aA H H'->Q (.str (jD (outD r u v))) H'):ay (n+4) 54 [.aC [.ref l,.ref lm,.ref lw],jT u v] H Q Y:=at' _ λap am aw=>by
 have e0:kh r.ps [u]=wh u 0 ((r.ps.length:Int) - 1):=by
  refine(?_:(_&&true)=_)
  rw[Bool.and_true]
 refine DY (n:=n+1) (us:=[u]) (v:=v) (λQ Y k=>VS (n:=n+2) k) (λQ Y k=>VP (n:=n+2) k) ap (λx hx=>cI.mp hx▸hu) (show 1<=1001 by decide) hv (λh0 H' x=>?_) (λh0 h1 H' x=>?_) λh0 h1 H1 x1=>?_
 ·have q:=q H' x
  rw[show outD r u v=some 0 from bG (by rw[<-e0,h0];decide)] at q
  exact q
 ·have q:=q H' x
  rw[show outD r u v=some 1 from(bL (by rw[<-e0,h0])).trans (bG (by rw[h1];decide))] at q
  exact q
 ·have e1:outD r u v=(r.ps[natOf u]?).elim none λp=>jU r p (natOf u) (dC v):=(bL (by rw[<-e0,h0])).trans (bL h1)
  rw[e0] at h0
  obtain⟨k,rfl,hk⟩:=jS h0
  obtain⟨d,rfl,_⟩:=mD h1
  refine(at_of hk).elim λp hp=>?_
  have e2:outD r (nv k) (.int d)=jU r p k d:=e1.trans (by rw[show natOf (nv k)=k from rfl,hp];rfl)
  rw[e2] at q
  refine kF 3 2 rfl rfl ?_
  refine Km (k:=3) (a:=k) (vs:=[.int d]) rfl hp (x1 _ _ ap) ?_
  refine iw (pB (Av (jg (cD (ba (v:=jT (nv k) (.int d)) rfl (bF ?_))))))
  refine au (a:=V.str (knd 3)) rfl (bF (au (yq 3 3) ?_))
  cases hd:p.bR with
  |some e=>
   have q:=q H1 x1
   unfold jU at q
   rw[hd] at q
   exact q
  |none=>
   unfold jU at q
   rw[hd] at q
   refine(?_:aG ⟨ay (n+3),xq Y⟩ (u4.drop 7) [some (.aC [.ref l,.ref lm,.ref lw]),some (jT (nv k) (.int d)),some (.ref l),some (.int d),some (fW none)] H1 (bD Q))
   refine kT 3 rfl rfl ?_
   refine(?_:ay (n+3) 51 [.aC [.ref l,.ref lm,.ref lw],nv k,.int d] (H1++[.list [.str "",.str "day"]]) _ _)
   refine V2 (n:=n+2) (r:=r) (.mk (be _ (x1 _ _ ap)) (be _ (x1 _ _ am)) (be _ (x1 _ _ aw))) hl hp λH2 x2=>?_
   have q:=q H2 ((x1.trans (aA.aO _ _)).trans x2)
   have ix:=gf (k:=if kj r p k d then 1 else 0) (v:=.str (jD (if kj r p k d then some 1 else none))) (x2 _ _ (aZ H1 (.list [.str "",.str "day"]))) (by cases kj r p k d<;>rfl)
   refine(?_:aI (fF (.ref H1.length) (.int (if kj r p k d then 1 else 0)) H2) _)
   rw[show((if kj r p k d then 1 else 0:Int))=((if kj r p k d then 1 else 0:Nat):Int) by cases kj r p k d<;>rfl]
   exact au ix q
theorem Wg(at':cK H r l lm lw)(hu:sc u=true)(hv:sc v=true)(hs:wb gs)(gJ:gs.length<=900)(ag:H[lg]?=some (.list (gs.map mI)))(q:∀H',aA H H'->Q (.str (jD (k8 r u v gs))) H'):ay (n+4) 54 [.aC [.ref l,.ref lm,.ref lw],oB u v lg] H Q Y:=at' _ λap am aw=>by
 have e0:kh r.ps (u::gs.map (·.1))=(wh u 0 ((r.ps.length:Int) - 1)&&okN r.ps gs):=by
  refine(?_:(_&&List.all _ _)=_)
  rw[List.all_map];rfl
 refine DY (n:=n+1) (us:=u::gs.map (·.1)) (v:=v) (λQ Y k=>VT (n:=n+2) ag (aR gJ (by decide)) k) (λQ Y k=>VQ (n:=n+2) k) ap (λx hx=>(cH.mp hx).elim (λe=>e▸hu) λhx=>(fj.mp hx).elim λg hg=>hg.2▸(hs g hg.1).1) (by rw[iY,aS];exact aR (lE gJ) (by decide)) hv (λh0 H' x=>?_) (λh0 h1 H' x=>?_) λh0 h1 H1 x1=>?_
 ·have q:=q H' x
  rw[show k8 r u v gs=some 0 from bG (by rw[<-e0,h0];decide)] at q
  exact q
 ·have q:=q H' x
  rw[show k8 r u v gs=some 1 from(bL (by rw[<-e0,h0])).trans (bG (by rw[h1];decide))] at q
  exact q
 ·have e1:k8 r u v gs=(r.ps[natOf u]?).elim none λp=>lX p (natOf u) (dC v) (gs.map gA):=(bL (by rw[<-e0,h0])).trans (bL h1)
  rw[e0] at h0
  have hN:=(eJ.mp h0).2
  obtain⟨k,rfl,hk⟩:=jS (eJ.mp h0).1
  obtain⟨d,rfl,_⟩:=mD h1
  refine(at_of hk).elim λp hp=>?_
  have e2:k8 r (nv k) (.int d) gs=lX p k d (gs.map gA):=e1.trans (by rw[show natOf (nv k)=k from rfl,hp];rfl)
  rw[e2] at q
  refine kF 4 2 rfl rfl ?_
  refine Km (k:=4) (a:=k) (vs:=[.int d,.ref lg]) rfl hp (x1 _ _ ap) ?_
  refine kA 4 3 rfl rfl ?_
  refine kF 4 3 rfl rfl ?_
  have l1:nw p d=true->Q (.str "day") H1:=λh=>by
   have q:=q H1 x1
   rw[show lX p k d (gs.map gA)=some 1 from bL h] at q
   exact q
  have key:nw p d=false->∀{o:Option V},aG ⟨ay (n+3),xq Y⟩ (u4.drop 9) [some (.aC [.ref l,.ref lm,.ref lw]),some (oB (nv k) (.int d) lg),some (.ref l),some (.int d),o] H1 (bD Q):=λh {o}=>by
   have e3:lX p k d (gs.map gA)=if ie k (gs.map gA) then some 4 else none:=bG (by rw[h];decide)
   rw[e3] at q
   refine(?_:ay (n+3) 52 [nv k,.ref lg] (H1++[.list [.str "",.str "will"]]) _ _)
   refine Wd (n:=n+1) (gs:=gs.map gA) (λg hg=>(fj.mp hg).elim λx hx=>hx.2▸(hs x hx.1).2) (by rw[aS];exact gJ) (be _ (AH hN▸x1 _ _ ag)) λH2 x2=>?_
   have q:=q H2 ((x1.trans (aA.aO _ _)).trans x2)
   have ix:=gf (k:=if ie k (gs.map gA) then 1 else 0) (v:=.str (jD (if ie k (gs.map gA) then some 4 else none))) (x2 _ _ (aZ H1 (.list [.str "",.str "will"]))) (by cases ie k (gs.map gA)<;>rfl)
   refine(?_:aI (fF (.ref H1.length) (.int (if ie k (gs.map gA) then 1 else 0)) H2) _)
   rw[show((if ie k (gs.map gA) then 1 else 0:Int))=((if ie k (gs.map gA) then 1 else 0:Nat):Int) by cases ie k (gs.map gA)<;>rfl]
   exact au ix q
  refine(?_:aG ⟨ay (n+3),xq Y⟩ (u4.drop 8) [some (.aC [.ref l,.ref lm,.ref lw]),some (oB (nv k) (.int d) lg),some (.ref l),some (.int d),some (fW p.bR)] H1 (bD Q))
  apply au (ee (x1 _ _ ap) hp)
  refine(?_:bz (decide (d<p.aQ)==false) _ _)
  refine fD (λh1=>?_) λh1=>ey h1 (l1 (by unfold nw;rw[h1];rfl))
  cases hd:p.bR with
  |none=>exact key (by unfold nw;rw[h1,hd];rfl)
  |some e=>
   refine(?_:bz (decide (d>e)) _ _)
   exact cb (λh2=>l1 (by unfold nw;rw[hd];exact or_eq_true_iff.mpr (.inr h2))) λh2=>key (by unfold nw;rw[h1,hd];exact h2)
end
section
variable{k:Nat}{K:Out->Prop}{c:V}
theorem kE(i m:Nat){w:Str}{a b:List S}(hj:ρ[j]?.join=some (.aC (.str (knd i)::vs)))(hw:w=knd m)(no:aG C b ρ H (λo=>i0 o (λρ H=>aG C rest ρ H K) (K o)))(hi:i<5:=by decide)(hm:m<5:=by decide)(hn:i≠m:=by decide):aG C (.br (.cmp .eq (.aP (.J j) (kI 0)) (.k (.str w))) a b::rest) ρ H K:=by
 subst hw
 refine iw (pA (cD (ba hj (bF ?_))))
 exact au (a:=V.str (knd i)) rfl (bF (au (yq i m hi hm) (rK (λh=>absurd h hn) λZ=>no)))
theorem kY(i:Nat){w:Str}{a b:List S}(hj:ρ[j]?.join=some (.aC (.str (knd i)::vs)))(hw:w=knd i)(yes:aG C a ρ H (λo=>i0 o (λρ H=>aG C rest ρ H K) (K o)))(hi:i<5:=by decide):aG C (.br (.cmp .eq (.aP (.J j) (kI 0)) (.k (.str w))) a b::rest) ρ H K:=by
 subst hw
 refine iw (pA (cD (ba hj (bF ?_))))
 exact au (a:=V.str (knd i)) rfl (bF (au (yq i i hi hi) (rK (λZ=>yes) λh=>absurd rfl h)))
theorem AI(ok:r.ps.length<=60/\r.ms.length<=1000/\r.ws.length<=1000)(at':cK H r l lm lw)(h:∀H',aA H H'->H.length+3<=H'.length->cK H' r H.length (H.length+1) (H.length+2)->aG ⟨ay n,xq Y⟩ (Bp.drop 3) [some (.aC [.ref l,.ref lm,.ref lw]),some D,some (.ref H.length),some (.ref (H.length+1)),some (.ref (H.length+2)),none,none,none,none,none] H' (bD Q)):ay (n+1) 55 [.aC [.ref l,.ref lm,.ref lw],D] H Q Y:=R5 (at' _ λap am aw=>by
 apply au (oX ap)
 refine cM (cP (by rw[aS];exact bM ok.1 (by decide))) ?_
 apply au (oX (be _ am))
 refine cM (cP (by rw[aS];exact bM ok.2.1 (by decide))) ?_
 apply au (oX (be _ (be _ aw)))
 refine cM (cP (by rw[aS];exact bM ok.2.2 (by decide))) ?_
 have e1:(H++[bt.list (r.ps.map bQ)]).length=H.length+1:=bX
 have e2:(H++[bt.list (r.ps.map bQ)]++[bt.list (r.ms.map dK)]).length=H.length+2:=by rw[bX,e1];rfl
 have h:=h _ (((aA.aO H [.list (r.ps.map bQ)]).trans (aA.aO _ [.list (r.ms.map dK)])).trans (aA.aO _ [.list (r.ws.map dS)])) (by rw[bX,e2];exact cg _) (.mk (be _ (be _ (aZ _ _))) (be _ (e1▸aZ _ _)) (e2▸aZ _ _))
 rw[<-e2,<-e1] at h
 exact h)
theorem Wh(ok:r.ps.length<=60/\r.ms.length<=1000/\r.ws.length<=1000)(at':cK H r l lm lw)(hq:H[lq]?=some (.list (aX ks)))(q:∀a b c H',aA H H'->H.length<=a/\H.length<=b/\H.length<=c->cK H' ⟨r.ps++[⟨d,ks,none,none⟩],r.ms,r.ws⟩ a b c->Q (.aC [.ref a,.ref b,.ref c]) H'):ay (n+1) 55 [.aC [.ref l,.ref lm,.ref lw],AC (.int d) lq] H Q Y:=AI ok at' λH1 x1 hl qF=>qF _ λap am aw=>by
 refine kY 0 rfl rfl ?_
 refine gg ap ?_
 apply au (cC (x1 _ _ hq))
 refine gy ap (by rw[aS];exact bM ok.1 (by decide)) ?_
 have z:(H1.set H.length (.list (r.ps.map bQ++[bQ ⟨d,ks,none,none⟩])))[H.length]?=some (.list ((r.ps++[(⟨d,ks,none,none⟩:aH)]).map bQ)):=by rw[gx];exact eX ap _
 exact q _ _ _ _ (x1.set (cg _) _) ⟨cg _,fM _ _,fM _ _⟩ (.mk z (d9 am _ (by lia)) (d9 aw _ (by lia)))
end
theorem Wi{α:Type}{f1 f2 f3 F:α->V}{ws:List Nat}{test:bB->Hp->(Bool->Hp->Prop)->Prop}{elt:bB->Hp->PQ->Prop}{Q:List V->Hp->Prop}(as:List α)(ht:∀ρ (T:Bool->Hp->Prop),T true H->test ρ H T)(he:∀a∈as,∀N:PQ,N (F a) H->elt (some (f1 a)::some (f2 a)::some (f3 a)::d6) H N)(q:Q (as.map F) H):iQ ws H (.aC [.J 0,.J 1,.J 2]) test elt (as.map λa=>.aC [f1 a,f2 a,f3 a]) (o::o'::i8::d6) H [] Q:=by
 have st:fN ws H H=true:=iA.mpr λl Z=>c9 rfl
 refine pf (g:=λa=>.aC [f1 a,f2 a,f3 a]) (λbs acc ρ H'=>(∃o o' i8,ρ=o::o'::i8::d6)/\H'=H/\∃an,an++bs=as/\acc=an.map F) (λa bs acc ρ H' hI=>?_) (λacc ρ H' hI=>?_) _ _ _ _ ⟨⟨o,o',i8,rfl⟩,rfl,[],rfl,rfl⟩
 ·obtain⟨⟨o,o',i8,rfl⟩,rfl,an,t,rfl⟩:=hI
  refine au (a:=some (f1 a)::some (f2 a)::some (f3 a)::d6) rfl λN hN=>?_
  refine ht _ _ (ey rfl (he a (t▸cF.mpr (.inr cJ)) _ ?_))
  exact hN _ _ st ⟨⟨_,_,_,rfl⟩,rfl,an++[a],gh t,by rw[gx];rfl⟩
 ·obtain⟨_,rfl,an,t,rfl⟩:=hI
  rw[dO] at t
  subst t
  exact q
section
variable{k b:Nat}{K:Out->Prop}{w:V}{gs:List Gf}
theorem Wj(ok:r.ps.length<=60/\r.ms.length<=1000/\r.ws.length<=1000)(at':cK H r l lm lw)(q:∀l' kR kS H',aA H H'->H.length<=l'/\H.length<=kR/\H.length<=kS->cK H' ⟨r.ps,r.ms++[⟨a,b,d⟩],r.ws⟩ l' kR kS->Q (.aC [.ref l',.ref kR,.ref kS]) H'):ay (n+1) 55 [.aC [.ref l,.ref lm,.ref lw],rX (nv a) (nv b) (.int d)] H Q Y:=AI ok at' λH1 x1 hl qF=>qF _ λap am aw=>by
 refine kE 2 0 rfl rfl ?_
 refine kY 2 rfl rfl ?_
 refine gg am ?_
 refine gy am (by rw[aS];exact bM ok.2.1 (by decide)) ?_
 have z:(H1.set (H.length+1) (.list (r.ms.map dK++[dK ⟨a,b,d⟩])))[H.length+1]?=some (.list ((r.ms++[(⟨a,b,d⟩:eA)]).map dK)):=by rw[gx];exact eX am _
 exact q _ _ _ _ (x1.set (fM _ _) _) ⟨cg _,fM _ _,fM _ _⟩ (.mk (d9 ap _ (by lia)) z (d9 aw _ (by lia)))
theorem Ko(ok:r.ps.length<=60/\r.ms.length<=1000/\r.ws.length<=1000)(at':cK H r l lm lw)(hp:r.ps[k]?=some p)(q:∀l' kR kS H',aA H H'->H.length<=l'/\H.length<=kR/\H.length<=kS->cK H' ⟨r.ps.set k (gM p d),r.ms,r.ws⟩ l' kR kS->Q (.aC [.ref l',.ref kR,.ref kS]) H'):ay (n+1) 55 [.aC [.ref l,.ref lm,.ref lw],jT (nv k) (.int d)] H Q Y:=AI ok at' λH1 x1 hl qF=>qF _ λap am aw=>by
 refine kE 3 0 rfl rfl ?_
 refine kE 3 2 rfl rfl ?_
 refine kE 3 4 rfl rfl ?_
 apply au (ee ap hp)
 refine kY 3 rfl rfl ?_
 have hk:k<r.ps.length:=(dZ.mp hp).1
 refine(?_:sE (.ref H.length) (nv k) (bQ (gM p d)) H1 _)
 refine Ds ap (by rw[aS];exact hk) ?_
 have z:(H1.set H.length (.list ((r.ps.map bQ).set k (bQ (gM p d)))))[H.length]?=some (.list ((r.ps.set k (gM p d)).map bQ)):=by rw[map_set];exact eX ap _
 exact q _ _ _ _ (x1.set (cg _) _) ⟨cg _,fM _ _,fM _ _⟩ (.mk z (d9 am _ (by lia)) (d9 aw _ (by lia)))
theorem Wk(ok:r.ps.length<=60/\r.ms.length<=1000/\r.ws.length<=1000)(at':cK H r l lm lw)(ag:H[lg]?=some (.list (gs.map jV)))(hg:gs.all iT=true)(gJ:gs.length<=10)(q:∀l' kR kS H',aA H H'->H.length<=l'/\H.length<=kR/\H.length<=kS->cK H' ⟨r.ps,r.ms,r.ws++[mJ k d gs]⟩ l' kR kS->Q (.aC [.ref l',.ref kR,.ref kS]) H'):ay (n+2) 55 [.aC [.ref l,.ref lm,.ref lw],oB (nv k) (.int d) lg] H Q Y:=AI (n:=n+1) ok at' λH1 x1 hl qF=>qF _ λap am aw=>by
 refine kE 4 0 rfl rfl ?_
 refine kE 4 2 rfl rfl ?_
 refine kY 4 rfl rfl ?_
 refine dU (j8 (nr (cD (ba (v:=oB (nv k) (.int d) lg) rfl (bF (au (a:=.ref lg) rfl ?_))))))
 refine au (cT (x1 _ _ ag)) (cM (cP (by rw[aS];exact bM gJ (by decide))) ?_)
 refine Wi (f1:=λg:Gf=>nv g.1) (f2:=λg:Gf=>g.2.1) (f3:=λg:Gf=>g.2.2) (F:=λg=>jy (gP g)) gs (λρ T hT=>hT) (λg Wl N hN=>?_) ?_
 ·refine AF (iA.mp hg g Wl) λov un e1 e2 r1 r2 hu er s2=>?_
  rw[e1,e2]
  refine(?_:ay (n+1) 41 [nv ov,nv un] H1 _ _)
  refine CE hu ?_
  rw[<-er]
  exact hN
 ·refine iR ?_
  have AJ:=aZ H1 (.list (gs.map λg=>jy (gP g)))
  have AK:=be [.list (gs.map λg=>jy (gP g))] aw
  refine gg AK ?_
  apply au (cC AJ)
  rw[show gs.map (λg=>jy (gP g))=(gs.map gP).map jy by rw[map_map];rfl]
  rw[show gs.map (λg=>jy (gP g))=(gs.map gP).map jy by rw[map_map];rfl] at AK
  refine(?_:ro .append (.ref (H.length+2)) [dS (mJ k d gs)] _ _)
  refine gy AK (by rw[aS];exact bM ok.2.2 (by decide)) ?_
  have z:=eX AK (.list (r.ws.map dS++[dS (mJ k d gs)]))
  refine q _ _ _ _ ((x1.trans (aA.aO _ _)).set (fM _ _) _) ⟨cg _,fM _ _,fM _ _⟩ (.mk (d9 (be _ ap) _ (by lia)) (d9 (be _ am) _ (by lia)) ?_)
  refine(?_:_=some (bt.list ((r.ws++[mJ k d gs]).map dS)))
  rw[gx];exact z
end
theorem D0(he:vs≠[])(h:H[l]?=some (.list vs))(y:Int):∃v,v∈vs/\fF (.ref l) (.int (y.fmod vs.length)) H=some v:=by
 have hl:0<vs.length:=length_pos_iff.mpr he
 obtain⟨a,ha,du⟩:=jA y hl
 refine⟨vs[a],getElem_mem du,?_⟩
 rw[ha]
 exact gf h (fL du)
theorem Kq(he:vs≠[]):(vs.length:Int)≠0:=Int.ofNat_ne_zero.mpr (fE (length_pos_iff.mpr he))
theorem Kr{α:Type}{xs:List α}{lo:Option Int}{u:α}(hu:u∈j1 xs lo hi):u∈xs:=List.mem_of_mem_take (List.mem_of_mem_drop hu)
theorem D1{α:Type}(xs:List α)(lo hi:Option Int):(j1 xs lo hi).length<=xs.length:=by
 unfold j1
 rw[length_drop,length_take]
 exact aR (Nat.sub_le _ _) (min_le_right _ _)
theorem Ks{α:Type}{f1 f2 f3:α->V}{P:V->Prop}{ws:List Nat}{test:bB->Hp->(Bool->Hp->Prop)->Prop}{elt:bB->Hp->PQ->Prop}{Q:List V->Hp->Prop}(as:List α)(st:∀H',aA H H'->fN ws H H'=true)(ht:∀ρ H' (T:Bool->Hp->Prop),T true H'->test ρ H' T)(he:∀a∈as,∀H',aA H H'->∀N:PQ,(∀v H'',aA H' H''->P v->N v H'')->elt (some (f1 a)::some (f2 a)::some (f3 a)::d6) H' N)(q:∀vs H',aA H H'->vs.length=as.length->(∀v∈vs,P v)->Q vs H'):iQ ws H (.aC [.J 0,.J 1,.J 2]) test elt (as.map λa=>.aC [f1 a,f2 a,f3 a]) (o::o'::i8::d6) H [] Q:=by
 refine pf (g:=λa=>.aC [f1 a,f2 a,f3 a]) (λbs acc ρ H'=>(∃o o' i8,ρ=o::o'::i8::d6)/\aA H H'/\∃an,an++bs=as/\acc.length=an.length/\∀v∈acc,P v) (λa bs acc ρ H' hI=>?_) (λacc ρ H' hI=>?_) _ _ _ _ ⟨⟨o,o',i8,rfl⟩,aA.refl _,[],rfl,rfl,λZ h=>nomatch h⟩
 ·obtain⟨⟨o,o',i8,rfl⟩,x,an,t,hl,hp⟩:=hI
  refine au (a:=some (f1 a)::some (f2 a)::some (f3 a)::d6) rfl λN hN=>?_
  refine ht _ _ _ (ey rfl (he a (t▸cF.mpr (.inr cJ)) H' x _ λv H'' x' hv=>?_))
  exact hN _ _ (st _ (x.trans x')) ⟨⟨_,_,_,rfl⟩,x.trans x',an++[a],gh t,by rw[bX,bX,hl];rfl,λz hz=>(cF.mp hz).elim (hp z) λh=>by rw[cI.mp h];exact hv⟩
 ·obtain⟨_,x,an,t,hl,hp⟩:=hI
  rw[dO] at t
  subst t
  exact q acc H' x hl hp
def iy(v:V):Prop:=∃g:Gv,v=mI g/\sc g.1=true/\sc g.2.1=true/\sc g.2.2=true
theorem Kt:∀{vs:List V},(∀v∈vs,iy v)->∃gs:List Gv,vs=gs.map mI/\wb gs
 |[],_=>⟨[],rfl,λZ h=>nomatch h⟩
 |v::vs,h=>by
  obtain⟨g,e,hg⟩:=h v cJ
  obtain⟨gs,e',hs⟩:=Kt λv hv=>h v (.tail _ hv)
  exact⟨g::gs,by rw[e,e'];rfl,λz hz=>(cH.mp hz).elim (λe=>e▸hg) (hs z)⟩
section
variable{k m:Nat}{K:Out->Prop}{i:Int}{A:List S}
theorem AL(hs:H[ls]?=some (.list os))(dQ:os≠[])(hv:sc v=true)(ho:∀u∈os,sc u=true)(q:∀u,sc u=true->Q u H):ay (n+1) 57 [.int x,v,.ref ls] H Q Y:=R7 (by
 refine(?_:bz (decide (x.fmod 6>0)) _ _)
 refine cb (λZ=>q v hv) λZ=>?_
 apply au (cC hs)
 apply au (gi (Kq dQ))
 obtain⟨u,hu,e⟩:=D0 dQ hs (x.fdiv 6)
 apply au e
 exact q u (ho u hu))
theorem AM(h0:ρ[0]?.join=some (.int x))(yes:aG C A ρ H (λo=>i0 o (λρ H=>aG C rest ρ H K) (K o)))(no:aG C rest ρ H K):aG C (.br (.cmp .eq (.bin .mod (.J 0) (kI 7)) (.k (.int i))) A []::rest) ρ H K:=by
 refine iw (pA (cL (ba h0 (bF (cR (gi (b:=7) (by decide)) (bF (au (a:=(x.fmod 7==i)) rfl ?_)))))))
 exact cb (λZ=>yes) λZ=>no
def qG(H:Hp)(lg:Nat)(Q:PQ):Prop:=∀(pF:Nat) (H':Hp) (vs:List V),(∀v∈vs,iy v)->vs.length<=30->aA H H'->(pF=lg\/H.length<=pF)->H'[pF]?=some (.list vs)->Q (.ref pF) H'
theorem Ku{lo:Option Int}{a b:V}(ea:w6 a=some lo)(eb:w6 b=some hi)(hq:H[lg]?=some (.list vs))(hl:vs.length<=10)(q:Q (.ref H.length) (H++[.list (j1 vs lo hi)])):w8 (.ref lg) a b H Q:=au ea (au eb (au (cC hq) (cM (cP (bM (aR (D1 vs lo hi) hl) (by decide))) (iR q))))
theorem th{e3:E}(h:WE C e1 ρ H λa H=>WE C e2 ρ H λb H=>WE C e3 ρ H λc H=>Q (.aC [a,b,c]) H):WE C (.aC [e1,e2,e3]) ρ H Q:=h
theorem D2(ha:H[lg]?=some (.list vs))(hb:H[lb]?=some (.list us))(h1:∀v∈vs,iy v)(h2:∀v∈us,iy v)(hl:vs.length<=10/\us.length<=10)(q:∀ws,(∀v∈ws,iy v)->ws.length<=30->Q (.ref H.length) (H++[.list ws])):sG .add (.ref lg) (.ref lb) H Q:=
 lP ha hb (by rw[bX];exact bM (jG hl.1 hl.2) (by decide)) (q _ (λv hv=>(cF.mp hv).elim (h1 v) (h2 v)) (by rw[bX];exact aR (jG hl.1 hl.2) (by decide)))
theorem Wm(h1:ρ[1]?.join=some (.ref lg))(hG:H[lg]?=some (.list vs))(hs:∀v∈vs,iy v)(hl:vs.length<=10)(q:qG H lg Q):WE C (.bin .add (.J 1) (.iN (.J 1) none (some (kI 1)))) ρ H Q:=by
 refine cL (ba h1 ?_)
 refine au h1 ?_
 refine(?_:w8 (.ref lg) .none (.int 1) H _)
 refine Ku (lo:=none) (hi:=some 1) rfl rfl hG hl ?_
 exact D2 (be _ hG) (aZ _ _) hs (λv hv=>hs v (Kr hv)) ⟨hl,aR (D1 _ _ _) hl⟩ λws h1 h2=>q _ _ ws h1 h2 ((aA.aO _ _).trans (aA.aO _ _)) (.inr (aA.aO _ _).len) (aZ _ _)
theorem Kv{e0:E}(hy:ys≠[])(hl:(ys.length:Int)=5)(hx:∀H':Hp,∀Q:PQ,Q (.int x) H'->WE C e0 ρ H' Q)(he:∀H':Hp,∀Q:PQ,Q (.ref H'.length) (H'++[.list ys])->WE C e1 ρ H' Q)(q:∀u,u∈ys->Q u (H++[.list ys])):WE C (.aP e1 (.bin .mod (.bin .fdiv e0 (kI 7)) (kI 5))) ρ H Q:=by
 refine cD (he _ _ (cL (cL (hx _ _ (bF (cR (pv (b:=7) (by decide)) (bF (cR (gi (b:=5) (by decide)) ?_))))))))
 obtain⟨u,hu,e⟩:=D0 hy (aZ H (.list ys)) (x.fdiv 7)
 rw[hl] at e
 exact au e (q u hu)
noncomputable abbrev Kw:List V:=[.int 0,.int 1001,.bool true,.none,.int 1]
noncomputable abbrev Kx:List V:=[.int 0,.int 1001,.bool true,.str "1",.int 1000]
theorem Wn:PyData.strOk "1"=true:=by decide +kernel
theorem Wo:∀u∈Kw,sc u=true:=by
 intro u hu
 rcases cH.mp hu with rfl|hu
 ·rfl
 rcases cH.mp hu with rfl|hu
 ·rfl
 rcases cH.mp hu with rfl|hu
 ·rfl
 rcases cH.mp hu with rfl|hu
 ·rfl
 rw[cI.mp hu];rfl
theorem Wp:∀u∈Kx,sc u=true:=by
 intro u hu
 rcases cH.mp hu with rfl|hu
 ·rfl
 rcases cH.mp hu with rfl|hu
 ·rfl
 rcases cH.mp hu with rfl|hu
 ·rfl
 rcases cH.mp hu with rfl|hu
 ·exact Wn
 rw[cI.mp hu];rfl
theorem Wq{gs:List Gv}(h0:ρ[0]?.join=some (.int x))(h1:ρ[1]?.join=some (.ref lg))(hG:H[lg]?=some (.list (gs.map mI)))(hs:wb gs)(hl:gs.length<=10)(q:qG H lg Q):WE C (.comp 3 (.aC [.J 0,.J 1,(.aP (.bH [(kI 0),(kI 1001),(.k (.bool true)),(.k .none),(kI 1)]) (.bin .mod (.bin .fdiv (.J 3) (kI 7)) (kI 5)))]) (.aC [.J 0,.J 1,.J 2]) (.of (.J 1)) []) ρ H Q:=by
 refine j8 (nr (ba h1 (au (cT hG) ?_)))
 refine cM (cP (by rw[aS];exact bM hl (by decide))) ?_
 refine Ks (P:=iy) (f1:=λg:Gv=>g.1) (f2:=λg:Gv=>g.2.1) (f3:=λg:Gv=>g.2.2) gs (λH' x=>dm hG (x _ _ hG)) (λρ H' T hT=>hT) (λg hg H' xx N hN=>?_) λvs H' xx ny uJ=>?_
 ·refine th (ba rfl (ba rfl (Kv (x:=x) (e0:=.J 3) (e1:=.bH [(kI 0),(kI 1001),(.k (.bool true)),(.k .none),(kI 1)]) (ys:=Kw) (cons_ne_nil _ _) rfl (λH' Q q=>ba (v:=.int x) h0 q) (λH' Q q=>q) λu hu=>?_)))
  exact hN _ _ (aA.aO _ _) ⟨(g.1,g.2.1,u),rfl,(hs g hg).1,(hs g hg).2.1,Wo u hu⟩
 ·exact iR (q _ _ vs uJ (by rw[ny];exact aR hl (by decide)) (xx.trans (aA.aO _ _)) (.inr xx.len) (aZ _ _))
theorem Wr{gs:List Gv}(h0:ρ[0]?.join=some (.int x))(h1:ρ[1]?.join=some (.ref lg))(hG:H[lg]?=some (.list (gs.map mI)))(hs:wb gs)(hl:gs.length<=10)(q:qG H lg Q):WE C (.comp 3 (.aC [.J 0,(.aP (.bH [(kI 0),(kI 1001),(.k (.bool true)),(.k (.str "1")),(kI 1000)]) (.bin .mod (.bin .fdiv (.J 3) (kI 7)) (kI 5))),.J 2]) (.aC [.J 0,.J 1,.J 2]) (.of (.J 1)) []) ρ H Q:=by
 refine j8 (nr (ba h1 (au (cT hG) ?_)))
 refine cM (cP (by rw[aS];exact bM hl (by decide))) ?_
 refine Ks (P:=iy) (f1:=λg:Gv=>g.1) (f2:=λg:Gv=>g.2.1) (f3:=λg:Gv=>g.2.2) gs (λH' x=>dm hG (x _ _ hG)) (λρ H' T hT=>hT) (λg hg H' xx N hN=>?_) λvs H' xx ny uJ=>?_
 ·refine th (ba rfl (Kv (x:=x) (e0:=.J 3) (e1:=.bH [(kI 0),(kI 1001),(.k (.bool true)),(.k (.str "1")),(kI 1000)]) (ys:=Kx) (cons_ne_nil _ _) rfl (λH' Q q=>ba (v:=.int x) h0 q) (λH' Q q=>q) λu hu=>ba rfl ?_))
  exact hN _ _ (aA.aO _ _) ⟨(g.1,u,g.2.2),rfl,(hs g hg).1,Wp u hu,(hs g hg).2.2⟩
 ·exact iR (q _ _ vs uJ (by rw[ny];exact aR hl (by decide)) (xx.trans (aA.aO _ _)) (.inr xx.len) (aZ _ _))
theorem Wt(h0:ρ[0]?.join=some (.int x))(h2:ρ[2]?.join=some (nv m))(hm:0<m)(q:qG H lg Q):WE C (.comp 1 (.aC [(.bin .mod (.bin .mul (.J 0) (kI 7)) (.J 3)),(kI 1),(kI 20)]) (.J 0) (.range (kI 1) (.bin .add (kI 10) (.bin .mod (.bin .fdiv (.J 0) (kI 7)) (kI 3)))) []) ρ H Q:=by
 obtain⟨a,ea,ha⟩:=jA (x.fdiv 7) (k:=3) (by decide)
 refine j8 (yc ?_)
 refine bF (cL (bF (cL (cL (ba h0 (bF (cR (pv (b:=7) (by decide)) (bF (cR ((gi (b:=3) (by decide)).trans (bU some ea)) ?_)))))))))
 refine cR (z:=((9+a:Nat):Int)+1) (bU some (by lia)) ?_
 refine UC (m:=9+a) (by lia) ?_
 refine cM (cP (by rw[aS,List.length_range'];lia)) ?_
 refine iF (g:=nv) (P:=λZ=>true) (F:=λj=>mI (.int (((j:Int)*7).fmod m),.int 1,.int 20)) _ _ _ (λj Z T hT=>hT) (λj hj Z N hN=>?_) ?_
 ·have hj:=(List.mem_range'_1.mp hj).2
  refine th (cL (cL (ba (v:=nv j) rfl (bF (cR (ja (a:=(j:Int)) (b:=7) (i:=10) (j:=10) (by lia) (by decide) (by decide)) (ba (v:=nv m) h2 (cR (gi (b:=(m:Int)) (by lia)) (bF (bF ?_)))))))))
  exact hN
 ·rw[lS]
  refine iR (q _ _ _ (λv hv=>?_) (by rw[bX,aS,List.length_range'];refine(?_:0+(9+a)<=30);lia) (aA.aO _ _) (.inr (cg _)) (aZ _ _))
  obtain⟨j,_,rfl⟩:=fj.mp (nil_append _▸hv)
  exact⟨_,rfl,rfl,rfl,rfl⟩
end
section
variable{k m un:Nat}{K:Out->Prop}{i:Int}{A:List S}
theorem Wu(h:WE C e1 ρ H λx H=>WE C e2 ρ H λy H=>fy x λp=>fy y λq=>Q (.int (min p q)) H):WE C (.bi .min2 [e1,e2]) ρ H Q:=h
theorem Ky(h:WE C e1 ρ H λv H=>Q (.ref H.length) (H++[.list [v]])):WE C (.bH [e1]) ρ H Q:=h
theorem D3(h:WE C e1 ρ H λv H=>WE C e2 ρ H λu H=>Q (.ref H.length) (H++[.list [v,u]])):WE C (.bH [e1,e2]) ρ H Q:=h
theorem Wv{c:E}(hj:ρ[k]?.join=some (.ref lg))(h:WE C c ρ H λu H=>w8 (.ref lg) u .none H Q):WE C (.iN (.J k) (some c) none) ρ H Q:=au hj h
theorem D4(h:WE C e1 ρ H λx H=>aI (boolOf x) λb=>Q (.int (if b then 1 else 0)) H):WE C (.bi .oF [e1]) ρ H Q:=h
theorem Ww(h:iy v):∃d,rd H 9 v=some d:=by
 obtain⟨g,rfl,h1,h2,h3⟩:=h
 obtain⟨a,ha⟩:=AD (H:=H) h1 8
 obtain⟨b,hb⟩:=AD (H:=H) h2 8
 obtain⟨c,hc⟩:=AD (H:=H) h3 8
 exact⟨_,bU (Option.map PyData.tuple) (dH ha (dH hb (dH hc rfl)))⟩
theorem Kz:∀{vs:List V},(∀v∈vs,iy v)->∃ds,d0 (rd H 9) vs=some ds/\ds.isEmpty=vs.isEmpty
 |[],_=>⟨[],rfl,rfl⟩
 |v::r,h=>(Ww (H:=H) (h v cJ)).elim λd hd=>(Kz λv hv=>h v (.tail _ hv)).elim λds hs=>⟨d::ds,dH hd hs.1,rfl⟩
theorem Wx:iy (nq ov un j):=⟨(nv j,nv ov,nv un),rfl,rfl,rfl,rfl⟩
theorem D5:∀v∈ns.map (nq ov un),iy v:=λv hv=>(fj.mp hv).elim λj hj=>hj.2▸Wx
theorem Wy(h1:ρ[1]?.join=some (.ref lg))(hG:H[lg]?=some (.list ((j::ns).map (nq ov un))))(hl:(j::ns).length<=10)(q:qG H lg Q):WE C (.bin .add (.bH [(.aC [(.aP (iI 1 0) (kI 0)),(.bi .min2 [(kI 1000),(.bin .add (.aP (iI 1 0) (kI 1)) (kI 1))]),(.aP (iI 1 0) (kI 2))])]) (.iN (.J 1) (some (kI 1)) none)) ρ H Q:=by
 have e0:fF (.ref lg) (.int 0) H=some (nq ov un j):=gf (k:=0) hG rfl
 refine cL (Ky (th (cD (cD (ba h1 (bF (au e0 (bF (au (a:=nv j) rfl ?_)))))))))
 refine Wu (bF (cL (cD (cD (ba h1 (bF (au e0 (bF (au (a:=nv ov) rfl (bF (cR (z:=(ov:Int)+1) rfl ?_)))))))))))
 refine(?_:WE C (.aP (iI 1 0) (kI 2)) ρ H _)
 refine cD (cD (ba h1 (bF (au e0 (bF (au (a:=nv un) rfl ?_))))))
 have xg:iy (.aC [nv j,.int (min 1000 ((ov:Int)+1)),nv un]):=⟨(nv j,.int (min 1000 ((ov:Int)+1)),nv un),rfl,rfl,rfl,rfl⟩
 refine Wv h1 (bF ?_)
 refine Ku (lo:=some 1) (hi:=none) rfl rfl (be _ hG) (by rw[aS];exact hl) ?_
 exact D2 (be _ (aZ _ _)) (aZ _ _) (λv hv=>cI.mp hv▸xg) (λv hv=>D5 v (Kr hv)) ⟨show 1<=10 by decide,aR (D1 _ _ _) (by rw[aS];exact hl)⟩ λws h1 h2=>q _ _ ws h1 h2 (((aA.aO _ _).trans (aA.aO _ _)).trans (aA.aO _ _)) (.inr ((aA.aO _ _).trans (aA.aO _ _)).len) (aZ _ _)
noncomputable abbrev D6(m:Nat):List V:=[nv m,.int (-1),.none,.bool true]
theorem Wz:∀u∈D6 m,sc u=true:=by
 intro u hu
 rcases cH.mp hu with rfl|hu
 ·rfl
 rcases cH.mp hu with rfl|hu
 ·rfl
 rcases cH.mp hu with rfl|hu
 ·rfl
 rw[cI.mp hu];rfl
theorem WA(h0:ρ[0]?.join=some (.int x))(h1:ρ[1]?.join=some (.ref lg))(h2:ρ[2]?.join=some (nv m))(hG:H[lg]?=some (.list vs))(hs:∀v∈vs,iy v)(hl:vs.length<=10)(q:qG H lg Q):WE C (.bin .add (.J 1) (.bH [(.aC [(.aP (.bH [.J 2,(.neg (kI 1)),(.k .none),(.k (.bool true))]) (.bin .mod (.bin .fdiv (.J 0) (kI 7)) (kI 4))),(kI 1),(kI 999)])])) ρ H Q:=by
 refine cL (ba h1 (Ky (th (cD ?_))))
 refine au h2 ?_
 refine(?_:WE C (.bin .mod (.bin .fdiv (.J 0) (kI 7)) (kI 4)) ρ (H++[.list (D6 m)]) _)
 refine cL (cL (ba h0 (bF (cR (pv (b:=7) (by decide)) (bF (cR (gi (b:=4) (by decide)) ?_))))))
 obtain⟨u,hu,e⟩:=D0 (cons_ne_nil _ _) (aZ H (.list (D6 m))) (x.fdiv 7)
 refine au e (bF (bF ?_))
 have xg:iy (.aC [u,.int 1,.int 999]):=⟨(u,.int 1,.int 999),rfl,Wz u hu,rfl,rfl⟩
 exact D2 (be _ (be _ hG)) (aZ _ _) hs (λv hv=>cI.mp hv▸xg) ⟨hl,show 1<=10 by decide⟩ λws h1 h2=>q _ _ ws h1 h2 (((aA.aO _ _).trans (aA.aO _ _)).trans (aA.aO _ _)) (.inr ((aA.aO _ _).trans (aA.aO _ _)).len) (aZ _ _)
theorem WB(h0:ρ[0]?.join=some (.int x))(h1:ρ[1]?.join=some (.ref lg))(hG:H[lg]?=some (.list vs))(hs:∀v∈vs,iy v)(hl:vs.length<=10)(q:qG H lg Q):WE C (.aP (.bH [.J 1,(.bH [])]) (.bi .oF [(.cmp .eq (.bin .mod (.J 0) (kI 7)) (kI 4))])) ρ H Q:=by
 refine cD (D3 (ba h1 (qz (D4 (jg (cL (ba h0 (bF (cR (gi (b:=7) (by decide)) (bF (au (a:=(x.fmod 7==4)) rfl (au (a:=(x.fmod 7==4)) rfl ?_))))))))))))
 refine au VW ?_
 cases(x.fmod 7==4) with
 |false=>exact q lg _ vs hs (aR hl (by decide)) ((aA.aO _ _).trans (aA.aO _ _)) (.inl rfl) (be _ (be _ hG))
 |true=>exact q H.length _ [] (λZ h=>nomatch h) (by decide) ((aA.aO _ _).trans (aA.aO _ _)) (.inr (cg _)) (be _ (aZ _ _))
theorem WC(hm:0<m)(hG:H[lg]?=some (.list (ns.map (nq ov un))))(hl:ns.length<=10)(q:qG H lg Q):ay (n+1) 58 [.int x,.ref lg,nv m] H Q Y:=R8 (by
 have hs:∀v∈ns.map (nq ov un),iy v:=D5
 have gV:(ns.map (nq ov un)).length<=10:=by rw[aS];exact hl
 have eg:ns.map (nq ov un)=(ns.map λj=>((nv j,nv ov,nv un):Gv)).map mI:=by rw[map_map];rfl
 have gs:wb (ns.map λj=>((nv j,nv ov,nv un):Gv)):=λg hg=>(fj.mp hg).elim λj hj=>hj.2▸⟨rfl,rfl,rfl⟩
 unfold wA
 refine AM rfl (oy (Wm rfl hG hs gV q)) ?_
 refine AM rfl (oy (Wq rfl rfl (eg▸hG) gs (by rw[aS];exact hl) q)) ?_
 refine AM rfl (oy (Wr rfl rfl (eg▸hG) gs (by rw[aS];exact hl) q)) ?_
 refine iw (pB (yj (jg (cL (ba (v:=.int x) rfl (bF (cR (gi (b:=7) (by decide)) (bF (au (a:=(x.fmod 7==3)) rfl (au (a:=(x.fmod 7==3)) rfl ?_))))))))))
 have b3:∀C:Ct,WE C (.comp 1 (.aC [(.bin .mod (.bin .mul (.J 0) (kI 7)) (.J 3)),(kI 1),(kI 20)]) (.J 0) (.range (kI 1) (.bin .add (kI 10) (.bin .mod (.bin .fdiv (.J 0) (kI 7)) (kI 3)))) []) [some (.int x),some (.ref lg),some (nv m)] H Q:=λC=>Wt rfl rfl hm q
 have rest:aG ⟨ay n,xq Y⟩ (wA.drop 4) [some (.int x),some (.ref lg),some (nv m)] H (bD Q):=by
  refine iw (pB (Av (jg (cL (ba (v:=.int x) rfl (bF (cR (gi (b:=7) (by decide)) (bF (au (a:=(x.fmod 7==6)) rfl (au (a:=(x.fmod 7==6)) rfl ?_))))))))))
  have rest2:∀H',aA H H'->aG ⟨ay n,xq Y⟩ (wA.drop 5) [some (.int x),some (.ref lg),some (nv m)] H' (bD Q):=λH' xx=>by
   have q':qG H' lg Q:=λpF H'' vs h1 h2 x' h3 a=>q pF H'' vs h1 h2 (xx.trans x') (h3.imp id (aR xx.len)) a
   refine AM rfl (oy (WA rfl rfl rfl (xx _ _ hG) hs gV q')) ?_
   exact oy (WB rfl rfl (xx _ _ hG) hs gV q')
  refine fC (λZ=>?_) λh=>au (a:=(x.fmod 7==6)) rfl (e8 h (rest2 H (aA.refl _)))
  obtain⟨ds,hd,DJ⟩:=Kz (H:=H++[.list []]) hs
  refine jg (ba (v:=.ref lg) rfl (qz (au (ne_nil (be _ hG) hd (aZ _ _)) (au (a:=!ds.isEmpty) rfl ?_))))
  refine cb (λh=>?_) λZ=>rest2 _ (aA.aO _ _)
  have q':qG (H++[.list []]) lg Q:=λpF H'' vs h1 h2 x' h3 a=>q pF H'' vs h1 h2 ((aA.aO _ _).trans x') (h3.imp id (aR (aA.aO _ _).len)) a
  cases ns with
  |nil=>rw[DJ] at h;cases h
  |cons j ns=>exact oy (Wy rfl (be _ hG) hl q')
 refine fD (λZ=>?_) λh=>au (a:=(x.fmod 7==3)) rfl (ey h (oy (b3 _)))
 refine jg (ba (v:=nv m) rfl (bF (au (a:=decide ((m:Int)>20)) rfl (au (a:=decide ((m:Int)>20)) rfl ?_))))
 exact cb (λZ=>oy (b3 _)) λZ=>rest)
end
section
variable{k m:Nat}{K:Out->Prop}{i c:Int}{A:List S}
def r6(vs:List V):Prop:=∀v∈vs,∃i,v=.int i
theorem r6.aO(h:r6 vs)(h':r6 us):r6 (vs++us):=λv hv=>(cF.mp hv).elim (h v) (h' v)
theorem AN{α:Type}{f:α->V}{as:List α}(h:∀a∈as,∃i,f a=.int i):r6 (as.map f):=λv hv=>(fj.mp hv).elim λa ha=>ha.2▸h a ha.1
theorem AO{α:Type}{g F:α->V}{P:α->Bool}{as:List α}{cs:List E}(hl:as.length<=1000)(h1:∀Q:PQ,Q (.ref l) H->WE C e ρ H Q)(hA:H[l]?=some (.list (as.map g)))(ht:∀a∈as,∀T:Bool->Hp->Prop,T (P a) H->WT C.no cs (some (g a)::ρ) H T)(he:∀a∈as,P a=true->∀N:PQ,N (F a) H->WE C.no elt (some (g a)::ρ) H N)(q:Q (.ref H.length) (H++[.list ((as.filter P).map F)])):WE C (.comp 1 elt (.J 0) (.of e) cs) ρ H Q:=by
 refine j8 (nr (h1 _ (au (cT hA) ?_)))
 refine cM (cP (by rw[aS];exact bM hl (by decide))) ?_
 exact iF (g:=g) (P:=P) (F:=F) as none [] (λa ha T hT=>ht a ha T hT) (λa ha hp N hN=>he a ha hp N hN) (iR q)
theorem WD(at':cK H r l lm lw)(h0:0<r.ps.length)(hl:r.ps.length<=60/\r.ms.length<=1000/\r.ws.length<=1000)(q:∀ld ds H',aA H H'->ds≠[]->r6 ds->H'[ld]?=some (.list ds)->Q (.ref ld) H'):ay (n+1) 59 [.aC [.ref l,.ref lm,.ref lw]] H Q Y:=R9 (at' _ λap am aw=>by
 unfold Bq
 refine dU (cL (AO (g:=bQ) (P:=λZ=>true) (F:=λp:aH=>.int p.aQ) (aR hl.1 (by decide)) (λQ q=>cD (ba (v:=.aC [.ref l,.ref lm,.ref lw]) rfl (bF (au (a:=.ref l) rfl q)))) ap (λa Z T hT=>hT) (λa Z Z N hN=>hN) ?_))
 have yr:=be [.list ((r.ps.filter λZ=>true).map λp:aH=>.int p.aQ)] ap
 refine AO (g:=bQ) (P:=λp=>p.bR.isSome) (F:=λp:aH=>fW p.bR) (aR hl.1 (by decide)) (λQ q=>cD (ba (v:=.aC [.ref l,.ref lm,.ref lw]) rfl (bF (au (a:=.ref l) rfl q)))) yr (λp Z T hT=>?_) (λp Z hp N hN=>?_) ?_
 ·unfold bQ
  cases hd:p.bR with
  |none=>rw[hd] at hT;exact hT
  |some d=>rw[hd] at hT;exact hT
 ·exact hN
 ·refine lP (be _ (aZ _ _)) (aZ _ _) (by rw[bX,aS,aS];exact bM (jG (aR (ma _ _) hl.1) (aR (ma _ _) hl.1)) (by decide)) (au rfl ?_)
  have i1:r6 ((r.ps.filter λZ=>true).map λp:aH=>V.int p.aQ):=AN λp Z=>⟨_,rfl⟩
  have i2:r6 ((r.ps.filter λp=>p.bR.isSome).map λp:aH=>fW p.bR):=AN λp hp=>by
   have hp:=(lG.mp hp).2
   cases hd:p.bR with
   |none=>rw[hd] at hp;cases hp
   |some d=>exact⟨d,rfl⟩
  have n1:((r.ps.filter λZ=>true).map λp:aH=>V.int p.aQ)≠[]:=by
   rw[lS]
   exact λe=>absurd (bU List.length e) (by rw[aS];exact fE h0)
  have KA:(((r.ps.filter λZ=>true).map λp:aH=>V.int p.aQ)++((r.ps.filter λp=>p.bR.isSome).map λp:aH=>fW p.bR)).length<=120:=by rw[bX,aS,aS];exact jG (aR (ma _ _) hl.1) (aR (ma _ _) hl.1)
  have i12:=i1.aO i2
  have WF:(((r.ps.filter λZ=>true).map λp:aH=>V.int p.aQ)++((r.ps.filter λp=>p.bR.isSome).map λp:aH=>fW p.bR))≠[]:=λe=>n1 (append_eq_nil_iff.mp e).1
  generalize ((r.ps.filter λZ=>true).map λp:aH=>V.int p.aQ)=d1 at *
  generalize ((r.ps.filter λp=>p.bR.isSome).map λp:aH=>fW p.bR)=d2 at *
  have x1:aA H (H++[.list d1]++[.list d2]++[.list (d1++d2)]):=((aA.aO _ _).trans (aA.aO _ _)).trans (aA.aO _ _)
  have a1:=aZ (H++[.list d1]++[.list d2]) (.list (d1++d2))
  generalize (H++[bt.list d1]++[bt.list d2]).length=ld at a1 ⊢
  generalize H++[.list d1]++[.list d2]++[.list (d1++d2)]=H1 at x1 a1 ⊢
  generalize d1++d2=ds at *
  refine oy (cL (cL (ba (v:=.ref ld) rfl (AO (g:=dK) (P:=λZ=>true) (F:=λw:eA=>.int w.day) hl.2.1 (λQ q=>cD (ba (v:=.aC [.ref l,.ref lm,.ref lw]) rfl (bF (au (a:=.ref lm) rfl q)))) (x1 _ _ am) (λa Z T hT=>hT) (λa Z Z N hN=>hN) ?_))))
  refine lP (be _ a1) (aZ _ _) (by rw[bX,aS,lS];exact bM (jG KA hl.2.1) (by decide)) ?_
  have yt:=be [.list (ds++(r.ms.filter λZ=>true).map λw:eA=>.int w.day)] (be [.list ((r.ms.filter λZ=>true).map λw:eA=>.int w.day)] (x1 _ _ aw))
  refine AO (g:=dS) (P:=λZ=>true) (F:=λw:fY=>.int w.day) hl.2.2 (λQ q=>cD (ba (v:=.aC [.ref l,.ref lm,.ref lw]) rfl (bF (au (a:=.ref lw) rfl q)))) yt (λa Z T hT=>hT) (λa Z Z N hN=>hN) ?_
  refine lP (be _ (aZ _ _)) (aZ _ _) (by rw[bX,bX,aS,aS,lS,lS];exact bM (jG (jG KA hl.2.1) hl.2.2) (by decide)) ?_
  refine q _ _ _ (x1.trans ((((aA.aO _ _).trans (aA.aO _ _)).trans (aA.aO _ _)).trans (aA.aO _ _))) (λe=>WF (append_eq_nil_iff.mp (append_eq_nil_iff.mp e).1).1) ((i12.aO (AN λw Z=>⟨_,rfl⟩)).aO (AN λw Z=>⟨_,rfl⟩)) (aZ _ _))
end
section
variable{k m:Nat}{K:Out->Prop}{i c:Int}{A:List S}{b:Int}
def EI(C:Ct)(e:E)(ρ:bB)(H:Hp):Prop:=∃z:Int,∀Q:PQ,Q (.int z) H->WE C e ρ H Q
theorem EI.kk:EI C (.k (.int i)) ρ H:=⟨i,λQ q=>bF q⟩
theorem EI.fdiv(h:EI C e ρ H)(hb:b≠0):EI C (.bin .fdiv e (.k (.int b))) ρ H:=h.elim λz h=>⟨z.fdiv b,λQ q=>cL (h _ (bF (cR (pv hb) q)))⟩
theorem EI.mod(h:EI C e ρ H)(hb:b≠0):EI C (.bin .mod e (.k (.int b))) ρ H:=h.elim λz h=>⟨z.fmod b,λQ q=>cL (h _ (bF (cR (gi hb) q)))⟩
theorem EI.add(h:EI C e ρ H)(h':EI C e' ρ H):EI C (.bin .add e e') ρ H:=h.elim λz h=>h'.elim λz' h'=>⟨z+z',λQ q=>cL (h _ (h' _ (cR rfl q)))⟩
theorem EI.sub(h:EI C e ρ H)(h':EI C e' ρ H):EI C (.bin .sub e e') ρ H:=h.elim λz h=>h'.elim λz' h'=>⟨z - z',λQ q=>cL (h _ (h' _ (cR rfl q)))⟩
theorem EI.J(h:ρ[j]?.join=some (.int i)):EI C (.J j) ρ H:=⟨i,λQ q=>ba h q⟩
theorem wc(h:EI C e ρ H)(hl:∀Q:PQ,Q (.ref l) H->WE C e' ρ H Q)(ha:H[l]?=some (.list vs))(h0:vs≠[]):∃a,a<vs.length/\∀Q:PQ,Q (nv a) H->WE C (.bin .mod e (.bi .len [e'])) ρ H Q:=h.elim λz h=>by
 obtain⟨a,ea,du⟩:=jA z (k:=vs.length) (length_pos_iff.mpr h0)
 exact⟨a,du,λQ q=>cL (h _ (hl _ (au (cC ha) (cR ((gi (Kq h0)).trans (bU some ea)) q))))⟩
theorem AP(h:EI C e ρ H)(yes:aG C A ρ H (λo=>i0 o (λρ H=>aG C rest ρ H K) (K o)))(no:aG C rest ρ H K):aG C (.br (.cmp .eq e (.k (.int i))) A []::rest) ρ H K:=h.elim λz h=>iw (pA (h _ (bF (au (a:=(z==i)) rfl (cb (λZ=>yes) λZ=>no)))))
structure Dx(H:Hp)(r:dN)(l lm lw lx:Nat)(xs:List Int):Prop where
 at':cK H r l lm lw
 x:H[lx]?=some (.list (xs.map V.int))
 p:0<r.ps.length/\r.ps.length<=60/\r.ms.length<=1000/\r.ws.length<=1000
 n:xs.length=7
 w:jz r.ps.length r.ms
theorem Dx.ext(h:Dx H r l lm lw lx xs)(x:aA H H'):Dx H' r l lm lw lx xs:=⟨h.at'.ext x,x _ _ h.x,h.p,h.n,h.w⟩
theorem Dx.g(h:Dx H r l lm lw lx xs)(h3:ρ[3]?.join=some (.ref lx))(i:Nat)(hi:i<7:=by decide):EI C (.aP (.J 3) (.k (nv i))) ρ H:=⟨xs.getD i 0,λQ q=>cD (ba h3 (bF (au (gf h.x (by rw[g5,getD_eq_getElem?_getD,fL (by rw[h.n];exact hi)];rfl)) q)))⟩
noncomputable abbrev eB(l lm lw:Nat)(c:Int)(lx:Nat)(o4 o5 o6 o7 o8 o9 o10 bT:Option V):bB:=[some (.aC [.ref l,.ref lm,.ref lw]),some (.int c),some (.ref l),some (.ref lx),o4,o5,o6,o7,o8,o9,o10,bT]
noncomputable abbrev f2:S:=.aN (.J 4) (.bin .mod (iI 3 0) (.bi .len [.J 2]))
noncomputable abbrev f3:S:=.aN (.J 5) (.bin .mod (iI 3 1) (.bi .len [.J 2]))
noncomputable abbrev f5:S:=.aN (.J 7) (.bin .sub (.bin .add (.aP (.J 6) (.bin .mod (iI 3 2) (.bi .len [.J 6]))) (.bin .mod (iI 3 3) (kI 3))) (kI 1))
noncomputable abbrev f6:S:=.br (.cmp .eq (.bin .mod (.bin .fdiv (iI 3 3) (kI 3)) (kI 3)) (kI 0))
  [.aN (.J 7) (.bin .add (.aP (.aP (.J 2) (.J 4)) (kI 0)) (.bin .mod (iI 3 4) (kI 40)))]
  []
theorem t2(d:Dx H r l lm lw lx xs)(h:∀a,a<r.ps.length->aG C rest (eB l lm lw c lx (some (nv a)) o5 o6 o7 o8 o9 o10 bT) H K):aG C (f2::rest) (eB l lm lw c lx o4 o5 o6 o7 o8 o9 o10 bT) H K:=d.at' _ λap Z Z=>by
 have z:=List.ne_nil_of_length_pos d.p.1
 obtain⟨a,ha,q⟩:=wc (C:=C) (ρ:=eB l lm lw c lx o4 o5 o6 o7 o8 o9 o10 bT) (e':=.J 2) (d.g rfl 0) (λQ q=>ba (v:=.ref l) rfl q) ap (λe=>z (map_eq_nil_iff.mp e))
 rw[aS] at ha
 exact dU (q _ (au (a:=eB l lm lw c lx (some (nv a)) o5 o6 o7 o8 o9 o10 bT) rfl (h a ha)))
theorem t3(d:Dx H r l lm lw lx xs)(h:∀a,a<r.ps.length->aG C rest (eB l lm lw c lx o4 (some (nv a)) o6 o7 o8 o9 o10 bT) H K):aG C (f3::rest) (eB l lm lw c lx o4 o5 o6 o7 o8 o9 o10 bT) H K:=d.at' _ λap Z Z=>by
 have z:=List.ne_nil_of_length_pos d.p.1
 obtain⟨a,ha,q⟩:=wc (C:=C) (ρ:=eB l lm lw c lx o4 o5 o6 o7 o8 o9 o10 bT) (e':=.J 2) (d.g rfl 1) (λQ q=>ba (v:=.ref l) rfl q) ap (λe=>z (map_eq_nil_iff.mp e))
 rw[aS] at ha
 exact dU (q _ (au (a:=eB l lm lw c lx o4 (some (nv a)) o6 o7 o8 o9 o10 bT) rfl (h a ha)))
theorem t5(d:Dx H r l lm lw lx xs)(dQ:ds≠[])(D7:r6 ds)(aD:H[ld]?=some (.list ds))(h:∀z,aG C rest (eB l lm lw c lx o4 o5 (some (.ref ld)) (some (.int z)) o8 o9 o10 bT) H K):aG C (f5::rest) (eB l lm lw c lx o4 o5 (some (.ref ld)) o7 o8 o9 o10 bT) H K:=by
 have e1:EI C (.aP (.J 6) (.bin .mod (iI 3 2) (.bi .len [.J 6]))) (eB l lm lw c lx o4 o5 (some (.ref ld)) o7 o8 o9 o10 bT) H:=by
  obtain⟨a,ha,q⟩:=wc (C:=C) (ρ:=eB l lm lw c lx o4 o5 (some (.ref ld)) o7 o8 o9 o10 bT) (e':=.J 6) (d.g rfl 2) (λQ q=>ba (v:=.ref ld) rfl q) aD dQ
  obtain⟨z,ez⟩:=D7 ds[a] (getElem_mem ha)
  exact⟨z,λQ k=>cD (ba (v:=.ref ld) rfl (q _ (au (gf aD (fL ha)) (ez▸k))))⟩
 exact((e1.add ((d.g rfl 3).mod (by decide))).sub EI.kk).elim λz q=>dU (q _ (au (a:=eB l lm lw c lx o4 o5 (some (.ref ld)) (some (.int z)) o8 o9 o10 bT) rfl (h z)))
theorem t6(d:Dx H r l lm lw lx xs)(hk:k<r.ps.length)(h:∀z,aG C rest (eB l lm lw c lx (some (nv k)) o5 o6 (some (.int z)) o8 o9 o10 bT) H K):aG C (f6::rest) (eB l lm lw c lx (some (nv k)) o5 o6 (some (.int z0)) o8 o9 o10 bT) H K:=d.at' _ λap Z Z=>by
 refine AP (((d.g rfl 3).fdiv (by decide)).mod (by decide)) ?_ (h z0)
 obtain⟨p,hp⟩:=at_of hk
 have e1:EI C (.aP (.aP (.J 2) (.J 4)) (kI 0)) (eB l lm lw c lx (some (nv k)) o5 o6 (some (.int z0)) o8 o9 o10 bT) H:=⟨p.aQ,λQ q=>cD (cD (ba (v:=.ref l) rfl (ba (v:=nv k) rfl (au (ee ap hp) (bF (au rfl q))))))⟩
 exact(e1.add ((d.g rfl 4).mod (by decide))).elim λz q=>dU (q _ (au (a:=eB l lm lw c lx (some (nv k)) o5 o6 (some (.int z)) o8 o9 o10 bT) rfl (mr (h z))))
end
section
variable{k m:Nat}{K:Out->Prop}{i j c:Int}{A:List S}{b:Int}
theorem WG{a b c:E}(h:WE C a ρ H λx H=>aI (truthy H x) λt=>bz (t==true) (WE C b ρ H λx H=>aI (truthy H x) λt=>bz (t==true) (WE C c ρ H Q) (Q x H)) (Q x H)):WE C (.and [a,b,c]) ρ H Q:=h
theorem KB(hl:∀Q:PQ,Q (.ref l) H->WE C e' ρ H Q)(ha:H[l]?=some (.list vs))(hd:∃ds,d0 (rd (H++[.list []]) 9) vs=some ds/\ds.isEmpty=vs.isEmpty)(q:Q (.bool (!vs.isEmpty)) (H++[.list []])):WE C (.cmp .ne e' (.bH [])) ρ H Q:=hd.elim λds hd=>jg (hl _ (qz (au (ne_nil (be _ ha) hd.1 (aZ _ _)) (by rw[hd.2];exact q))))
theorem WH(h:EI C e ρ H)(hl:∀Q:PQ,Q (.ref l) H->WE C e' ρ H Q)(ha:H[l]?=some (.list vs))(hd:∃ds,d0 (rd (H++[.list []]) 9) vs=some ds/\ds.isEmpty=vs.isEmpty)(yes:vs≠[]->aG C A ρ (H++[.list []]) (λo=>i0 o (λρ H=>aG C rest ρ H K) (K o)))(no:∀H',aA H H'->aG C rest ρ H' K):aG C (.br (.and [(.cmp .eq e (.k (.int i))),(.cmp .ne e' (.bH []))]) A []::rest) ρ H K:=h.elim λz h=>by
 refine iw (pB (Av (jg (h _ (bF (au (a:=(z==i)) rfl (au (a:=(z==i)) rfl ?_)))))))
 refine fC (λZ=>?_) λh=>au (a:=(z==i)) rfl (e8 h (no H (aA.refl _)))
 refine KB hl ha hd (au (a:=!vs.isEmpty) rfl ?_)
 refine cb (λh=>yes λe=>?_) λZ=>no _ (aA.aO _ _)
 rw[e] at h;cases h
theorem WI(h:EI C e ρ H)(h':EI C HR ρ H)(hl:∀Q:PQ,Q (.ref l) H->WE C e' ρ H Q)(ha:H[l]?=some (.list vs))(hd:∃ds,d0 (rd (H++[.list []]) 9) vs=some ds/\ds.isEmpty=vs.isEmpty)(yes:vs≠[]->aG C A ρ (H++[.list []]) (λo=>i0 o (λρ H=>aG C rest ρ H K) (K o)))(no:∀H',aA H H'->aG C rest ρ H' K):aG C (.br (.and [(.cmp .eq e (.k (.int i))),(.cmp .eq HR (.k (.int j))),(.cmp .ne e' (.bH []))]) A []::rest) ρ H K:=h.elim λz h=>h'.elim λz' h'=>by
 refine iw (pB (WG (jg (h _ (bF (au (a:=(z==i)) rfl (au (a:=(z==i)) rfl ?_)))))))
 refine fC (λZ=>?_) λh=>au (a:=(z==i)) rfl (e8 h (no H (aA.refl _)))
 refine jg (h' _ (bF (au (a:=(z'==j)) rfl (au (a:=(z'==j)) rfl ?_))))
 refine fC (λZ=>?_) λh=>au (a:=(z'==j)) rfl (e8 h (no H (aA.refl _)))
 refine KB hl ha hd (au (a:=!vs.isEmpty) rfl ?_)
 refine cb (λh=>yes λe=>?_) λZ=>no _ (aA.aO _ _)
 rw[e] at h;cases h
theorem WJ(ws:List fY):∃ds,d0 (rd H 9) (ws.map dS)=some ds/\ds.isEmpty=(ws.map dS).isEmpty:=⟨_,pz Kd ws,by rw[mV,mV]⟩
theorem WK(ms:List eA):∃ds,d0 (rd H 9) (ms.map dK)=some ds/\ds.isEmpty=(ms.map dK).isEmpty:=⟨_,pz (d:=s8) (λZ=>rfl) ms,by rw[mV,mV]⟩
noncomputable abbrev f7:S:=.br (.and [(.cmp .eq (.bin .mod (.bin .fdiv (iI 3 3) (kI 9)) (kI 4)) (kI 0)),(.cmp .ne (iI 0 2) (.bH []))])
  [.aN (.J 4) (.aP (.aP (iI 0 2) (.bin .mod (iI 3 5) (.bi .len [(iI 0 2)]))) (kI 0)),
   .aN (.J 7) (.bin .sub (.bin .add (.aP (.aP (iI 0 2) (.bin .mod (iI 3 5) (.bi .len [(iI 0 2)]))) (kI 1)) (.bin .mod (iI 3 3) (kI 3))) (kI 1))]
  []
theorem uL(i:Nat){t:Nat}(h0:ρ[0]?.join=some (.aC [.ref l,.ref lm,.ref lw]))(hi:fF (.aC [.ref l,.ref lm,.ref lw]) (nv i) H=some (.ref t)):∀Q:PQ,Q (.ref t) H->WE C (.aP (.J 0) (.k (nv i))) ρ H Q:=λQ q=>cD (ba h0 (bF (au hi q)))
theorem t7(d:Dx H r l lm lw lx xs)(h:∀k z H',aA H H'->aG C rest (eB l lm lw c lx (some (nv k)) o5 o6 (some (.int z)) o8 o9 o10 bT) H' K){k0:Nat}:aG C (f7::rest) (eB l lm lw c lx (some (nv k0)) o5 o6 (some (.int z0)) o8 o9 o10 bT) H K:=d.at' _ λap am aw=>by
 refine WH (l:=lw) (((d.g rfl 3).fdiv (by decide)).mod (by decide)) (uL (t:=lw) 2 rfl rfl) aw (WJ _) (λdQ=>?_) λH' x=>h k0 z0 H' x
 have d1:=d.ext (aA.aO H [.list []])
 have yt:=be [.list []] aw
 have one:∀o4 o7:Option V,∃a,a<(r.ws.map dS).length/\∀Q:PQ,Q (nv a) (H++[.list []])->WE C (.bin .mod (iI 3 5) (.bi .len [(iI 0 2)])) (eB l lm lw c lx o4 o5 o6 o7 o8 o9 o10 bT) (H++[.list []]) Q:=λo4 o7=>wc (d1.g rfl 5) (uL (t:=lw) 2 rfl rfl) yt dQ
 obtain⟨a,ha,q⟩:=one (some (nv k0)) (some (.int z0))
 rw[aS] at ha
 have ia:fF (.ref lw) (nv a) (H++[.list []])=some (dS r.ws[a]):=gf yt (by rw[g5,fL ha];rfl)
 refine dU (cD (cD (uL (t:=lw) 2 rfl rfl _ (q _ (au ia (bF (au (a:=nv r.ws[a].ff) rfl ?_)))))))
 refine au (a:=eB l lm lw c lx (some (nv r.ws[a].ff)) o5 o6 (some (.int z0)) o8 o9 o10 bT) rfl ?_
 obtain⟨a',qq,q'⟩:=one (some (nv r.ws[a].ff)) (some (.int z0))
 rw[aS] at qq
 have WL:fF (.ref lw) (nv a') (H++[.list []])=some (dS r.ws[a']):=gf yt (by rw[g5,fL qq];rfl)
 have e1:EI C (.aP (.aP (iI 0 2) (.bin .mod (iI 3 5) (.bi .len [(iI 0 2)]))) (kI 1)) (eB l lm lw c lx (some (nv r.ws[a].ff)) o5 o6 (some (.int z0)) o8 o9 o10 bT) (H++[.list []]):=⟨r.ws[a'].day,λQ k=>cD (cD (uL (t:=lw) 2 rfl rfl _ (q' _ (au WL (bF (au rfl k))))))⟩
 exact((e1.add ((d1.g rfl 3).mod (by decide))).sub EI.kk).elim λz q=>dU (q _ (au (a:=eB l lm lw c lx (some (nv r.ws[a].ff)) o5 o6 (some (.int z)) o8 o9 o10 bT) rfl (mr (h _ z _ (aA.aO _ _)))))
noncomputable abbrev f9:S:=.aN (.J 9) (.bH [(.neg (kI 1)),(.bi .len [.J 2]),(.k (.bool true)),(.k (.bool false)),(.k .none),(.k (.str "0"))])
noncomputable abbrev tj(m:Nat):List V:=[.int (-1),nv m,.bool true,.bool false,.none,.str "0"]
theorem WM:PyData.strOk "0"=true:=by decide +kernel
theorem WN:PyData.strOk "5"=true:=by decide +kernel
theorem D8:∀u∈tj m,sc u=true:=by
 intro u hu
 rcases cH.mp hu with rfl|hu
 ·rfl
 rcases cH.mp hu with rfl|hu
 ·rfl
 rcases cH.mp hu with rfl|hu
 ·rfl
 rcases cH.mp hu with rfl|hu
 ·rfl
 rcases cH.mp hu with rfl|hu
 ·rfl
 rw[cI.mp hu];exact WM
theorem t9(d:Dx H r l lm lw lx xs)(h:aG C rest (eB l lm lw c lx o4 o5 o6 o7 o8 (some (.ref H.length)) o10 bT) (H++[.list (tj r.ps.length)]) K):aG C (f9::rest) (eB l lm lw c lx o4 o5 o6 o7 o8 o9 o10 bT) H K:=d.at' _ λap Z Z=>by
 apply au (cC ap)
 rw[aS]
 exact h
noncomputable def KC:List V:=[.int (-1),.int 100001,.bool true,.none,.str "5",.int (10^20),.int 100000,.int 0]
theorem WP:∀u∈KC,sc u=true:=by
 intro u hu
 rcases cH.mp hu with rfl|hu
 ·rfl
 rcases cH.mp hu with rfl|hu
 ·rfl
 rcases cH.mp hu with rfl|hu
 ·rfl
 rcases cH.mp hu with rfl|hu
 ·rfl
 rcases cH.mp hu with rfl|hu
 ·exact WN
 rcases cH.mp hu with rfl|hu
 ·rfl
 rcases cH.mp hu with rfl|hu
 ·rfl
 rw[cI.mp hu];rfl
end
section
variable{k m:Nat}{K:Out->Prop}{i j c:Int}{A:List S}{w:V}{b:Int}
noncomputable abbrev f8:S:=.aN (.J 8) (.call 39 [.J 2,.J 4,(iI 3 5)])
noncomputable abbrev KD:S:=.aN (.J 4) (.call 57 [(iI 3 6),.J 4,.J 9])
noncomputable abbrev KE:S:=.aN (.J 5) (.call 57 [(.bin .fdiv (iI 3 6) (kI 36)),.J 5,.J 9])
noncomputable abbrev KF:S:=.aN (.J 7) (.call 57 [(.bin .fdiv (iI 3 6) (kI 1296)),.J 7,(.bH [(.neg (kI 1)),(kI 100001),(.k (.bool true)),(.k .none),(.k (.str "5")),(.bin .pow (kI 10) (kI 20)),(kI 100000),(kI 0)])])
noncomputable abbrev KG:S:=.aN (.J 8) (.call 58 [(.bin .fdiv (iI 3 4) (kI 40)),.J 8,(.bi .len [.J 2])])
theorem t8(hC:C.call=ay (n+1))(d:Dx H r l lm lw lx xs)(h:∀(lg:Nat) (H':Hp) (ns:List Nat) (ov un:Nat),ns.length<=10->aA H H'->H.length<=lg->H'[lg]?=some (.list (ns.map (nq ov un)))->aG C rest (eB l lm lw c lx (some (nv k)) o5 o6 o7 (some (.ref lg)) o9 o10 bT) H' K):aG C (f8::rest) (eB l lm lw c lx (some (nv k)) o5 o6 o7 o8 o9 o10 bT) H K:=d.at' _ λap Z Z=>by
 obtain⟨z,q⟩:=d.g (C:=C) (ρ:=eB l lm lw c lx (some (nv k)) o5 o6 o7 o8 o9 o10 bT) rfl 5
 refine dU (v0 (ba (v:=.ref l) rfl (ba (v:=nv k) rfl (q _ ?_))))
 rw[hC]
 exact Js ap d.p.1 λlg H' ns ov un Z iu Z Z Z Z xx mG ag=>au (a:=eB l lm lw c lx (some (nv k)) o5 o6 o7 (some (.ref lg)) o9 o10 bT) rfl (h lg H' ns ov un iu xx mG ag)
theorem WQ(hC:C.call=ay (n+1))(d:Dx H r l lm lw lx xs)(as:H[ls]?=some (.list (tj m)))(hu:sc u=true)(h:∀u,sc u=true->aG C rest (eB l lm lw c lx (some u) o5 o6 o7 o8 (some (.ref ls)) o10 bT) H K):aG C (KD::rest) (eB l lm lw c lx (some u) o5 o6 o7 o8 (some (.ref ls)) o10 bT) H K:=by
 obtain⟨z,q⟩:=d.g (C:=C) (ρ:=eB l lm lw c lx (some u) o5 o6 o7 o8 (some (.ref ls)) o10 bT) rfl 6
 refine dU (v0 (q _ (ba (v:=u) rfl (ba (v:=.ref ls) rfl ?_))))
 rw[hC]
 exact AL as (cons_ne_nil _ _) hu D8 λu hu=>au (a:=eB l lm lw c lx (some u) o5 o6 o7 o8 (some (.ref ls)) o10 bT) rfl (h u hu)
theorem WR(hC:C.call=ay (n+1))(d:Dx H r l lm lw lx xs)(as:H[ls]?=some (.list (tj m)))(hu:sc u=true)(h:∀u,sc u=true->aG C rest (eB l lm lw c lx o4 (some u) o6 o7 o8 (some (.ref ls)) o10 bT) H K):aG C (KE::rest) (eB l lm lw c lx o4 (some u) o6 o7 o8 (some (.ref ls)) o10 bT) H K:=by
 obtain⟨z,q⟩:=(d.g (C:=C) (ρ:=eB l lm lw c lx o4 (some u) o6 o7 o8 (some (.ref ls)) o10 bT) rfl 6).fdiv (b:=36) (by decide)
 refine dU (v0 (q _ (ba (v:=u) rfl (ba (v:=.ref ls) rfl ?_))))
 rw[hC]
 exact AL as (cons_ne_nil _ _) hu D8 λu hu=>au (a:=eB l lm lw c lx o4 (some u) o6 o7 o8 (some (.ref ls)) o10 bT) rfl (h u hu)
theorem WU(q:Q (.ref H.length) (H++[.list KC])):WE C (.bH [(.neg (kI 1)),(kI 100001),(.k (.bool true)),(.k .none),(.k (.str "5")),(.bin .pow (kI 10) (kI 20)),(kI 100000),(kI 0)]) ρ H Q:=q
theorem WV(hC:C.call=ay (n+1))(d:Dx H r l lm lw lx xs)(hu:sc u=true)(h:∀u H',sc u=true->aA H H'->aG C rest (eB l lm lw c lx o4 o5 o6 (some u) o8 o9 o10 bT) H' K):aG C (KF::rest) (eB l lm lw c lx o4 o5 o6 (some u) o8 o9 o10 bT) H K:=by
 obtain⟨z,q⟩:=(d.g (C:=C) (ρ:=eB l lm lw c lx o4 o5 o6 (some u) o8 o9 o10 bT) rfl 6).fdiv (b:=1296) (by decide)
 refine dU (v0 (q _ (ba (v:=u) rfl (WU ?_))))
 rw[hC]
 exact AL (aZ _ _) (cons_ne_nil _ _) hu WP λu hu=>au (a:=eB l lm lw c lx o4 o5 o6 (some u) o8 o9 o10 bT) rfl (h u _ hu (aA.aO _ _))
theorem WW{un:Nat}(hC:C.call=ay (n+1))(d:Dx H r l lm lw lx xs)(ag:H[lg]?=some (.list (ns.map (nq ov un))))(hl:ns.length<=10){b0:Nat}(hb:b0<=lg)(lQ:b0<=H.length)(h:∀lg vs H',(∀v∈vs,iy v)->vs.length<=30->aA H H'->b0<=lg->H'[lg]?=some (.list vs)->aG C rest (eB l lm lw c lx o4 o5 o6 o7 (some (.ref lg)) o9 o10 bT) H' K):aG C (KG::rest) (eB l lm lw c lx o4 o5 o6 o7 (some (.ref lg)) o9 o10 bT) H K:=d.at' _ λap Z Z=>by
 obtain⟨z,q⟩:=(d.g (C:=C) (ρ:=eB l lm lw c lx o4 o5 o6 o7 (some (.ref lg)) o9 o10 bT) rfl 4).fdiv (b:=40) (by decide)
 refine dU (v0 (q _ (ba (v:=.ref lg) rfl (DD (l:=l) rfl ap ?_))))
 rw[hC,aS]
 refine WC (m:=r.ps.length) d.p.1 ag hl λpF H' vs h1 h2 x' h3 a=>au (a:=eB l lm lw c lx o4 o5 o6 o7 (some (.ref pF)) o9 o10 bT) rfl (h pF vs H' h1 h2 x' ?_ a)
 exact h3.elim (λe=>e▸hb) λh=>aR lQ h
noncomputable abbrev KH:S:=.br (.and [(.cmp .eq (.bin .mod (.bin .fdiv (.J 1) (kI 2)) (kI 3)) (kI 0)),(.cmp .eq (.bin .mod (.bin .fdiv (iI 3 4) (kI 7)) (kI 2)) (kI 0)),(.cmp .ne (iI 0 1) (.bH []))])
  [.aN (.aC [.J 10,.J 4,.J 11]) (.aP (iI 0 1) (.bin .mod (.bin .fdiv (iI 3 4) (kI 14)) (.bi .len [(iI 0 1)]))),
   .aN (.J 7) (.bin .sub (.bin .add (.or [(.aP (.aP (.J 2) (.J 10)) (kI 3)),.J 11]) (.bin .mod (.bin .fdiv (iI 3 4) (kI 400)) (kI 3))) (kI 1))]
  []
theorem WX{t:dq}(h:WE C e ρ H λv H=>aI (aN t v ρ) λck=>aG C rest ck H K):aG C (.aN t e::rest) ρ H K:=h
theorem WY(d:Dx H r l lm lw lx xs)(hu:sc u=true)(hw:sc w=true)(h:∀u w o10 bT H',sc u=true->sc w=true->aA H H'->aG C rest (eB l lm lw c lx (some u) o5 o6 (some w) o8 o9 o10 bT) H' K):aG C (KH::rest) (eB l lm lw c lx (some u) o5 o6 (some w) o8 o9 o10 bT) H K:=d.at' _ λap am aw=>by
 refine WI (l:=lm) (((EI.J rfl).fdiv (by decide)).mod (by decide)) (((d.g rfl 4).fdiv (by decide)).mod (by decide)) (uL (t:=lm) 1 rfl rfl) am (WK _) (λdQ=>?_) λH' x=>h u w _ _ H' hu hw x
 have d1:=d.ext (aA.aO H [.list []])
 have KI:=be [.list []] am
 have yr:=be [.list []] ap
 obtain⟨a,ha,q⟩:=wc (C:=C) (ρ:=eB l lm lw c lx (some u) o5 o6 (some w) o8 o9 o10 bT) ((d1.g rfl 4).fdiv (b:=14) (by decide)) (uL (t:=lm) 1 rfl rfl) KI dQ
 rw[aS] at ha
 have ia:fF (.ref lm) (nv a) (H++[.list []])=some (dK r.ms[a]):=gf KI (by rw[g5,fL ha];rfl)
 refine WX (cD (uL (t:=lm) 1 rfl rfl _ (q _ (au ia ?_))))
 refine au (a:=eB l lm lw c lx (some (nv r.ms[a].b)) o5 o6 (some w) o8 o9 (some (nv r.ms[a].a)) (some (.int r.ms[a].day))) rfl ?_
 obtain⟨p,hp⟩:=at_of (d.w r.ms[a] (getElem_mem ha)).1
 have e1:EI C (.or [(.aP (.aP (.J 2) (.J 10)) (kI 3)),.J 11]) (eB l lm lw c lx (some (nv r.ms[a].b)) o5 o6 (some w) o8 o9 (some (nv r.ms[a].a)) (some (.int r.ms[a].day))) (H++[.list []]):=by
  cases hd:p.bR with
  |none=>
   refine⟨r.ms[a].day,λQ k=>yj (cD (cD (ba (v:=.ref l) rfl (ba (v:=nv r.ms[a].a) rfl (au (ee yr hp) (bF (au (a:=.none) (by unfold bQ;rw[hd];rfl) (au (a:=false) rfl ?_))))))))⟩
   exact ba (C:=C) rfl k
  |some z=>
   cases hz:(z != 0) with
   |true=>
    refine⟨z,λQ k=>yj (cD (cD (ba (v:=.ref l) rfl (ba (v:=nv r.ms[a].a) rfl (au (ee yr hp) (bF (au (a:=.int z) (by unfold bQ;rw[hd];rfl) (au (a:=(z != 0)) rfl ?_))))))))⟩
    rw[hz]
    exact k
   |false=>
    refine⟨r.ms[a].day,λQ k=>yj (cD (cD (ba (v:=.ref l) rfl (ba (v:=nv r.ms[a].a) rfl (au (ee yr hp) (bF (au (a:=.int z) (by unfold bQ;rw[hd];rfl) (au (a:=(z != 0)) rfl ?_))))))))⟩
    rw[hz]
    exact ba (C:=C) rfl k
 exact((e1.add (((d1.g rfl 4).fdiv (by decide)).mod (by decide))).sub EI.kk).elim λz q=>dU (q _ (au (a:=eB l lm lw c lx (some (nv r.ms[a].b)) o5 o6 (some (.int z)) o8 o9 (some (nv r.ms[a].a)) (some (.int r.ms[a].day))) rfl (mr (h _ _ _ _ _ rfl rfl (aA.aO _ _)))))
structure KJ(H:Hp)(Q:PQ):Prop where
 m:∀u v w H',sc u=true->sc v=true->sc w=true->aA H H'->Q (rX u v w) H'
 d:∀u v H',sc u=true->sc v=true->aA H H'->Q (jT u v) H'
 w:∀u v lg vs H',sc u=true->sc v=true->(∀x∈vs,iy x)->vs.length<=30->H.length<=lg->H'[lg]?=some (.list vs)->aA H H'->Q (oB u v lg) H'
theorem WZ{H0:Hp}(q:KJ H0 Q)(x:aA H0 H)(hu:sc u=true)(hv:sc v=true)(hw:sc w=true)(hs:∀x∈vs,iy x)(hl:vs.length<=30)(hb:H0.length<=lg)(ag:H[lg]?=some (.list vs)):aG C (lI.drop 12) (eB l lm lw c lx (some u) (some v) o6 (some w) (some (.ref lg)) o9 o10 bT) H (bD Q):=by
 refine(?_:aG C (.br (.cmp .eq (.bin .mod (.bin .fdiv (.J 1) (kI 2)) (kI 3)) (kI 0)) [.ret (.aC [(.k (.str "married")),.J 4,.J 5,.J 7])] []::lI.drop 13) _ H _)
 refine AP (((EI.J rfl).fdiv (by decide)).mod (by decide)) (q.m u v w H hu hv hw x) ?_
 refine(?_:aG C (.br (.cmp .eq (.bin .mod (.bin .fdiv (.J 1) (kI 2)) (kI 3)) (kI 1)) [.ret (.aC [(.k (.str "died")),.J 4,.J 7])] []::lI.drop 14) _ H _)
 refine AP (((EI.J rfl).fdiv (by decide)).mod (by decide)) (q.d u w H hu hw x) ?_
 exact q.w u w lg vs H hu hw hs hl hb ag x
theorem W0(at':cK H r l lm lw)(hp:0<r.ps.length/\r.ps.length<=60/\r.ms.length<=1000/\r.ws.length<=1000)(hw:jz r.ps.length r.ms)(q:KJ H Q):ay (n+3) 60 [.aC [.ref l,.ref lm,.ref lw],.int c] H Q Y:=Sa (by
 refine(?_:ay (n+2) 28 [.int c,nv 7] H _ _)
 refine vX (n:=n+1) (by decide) λlx H1 xs D9 Z Z x1 ax=>?_
 have d1:Dx H1 r l lm lw lx xs:=⟨at'.ext x1,ax,hp,D9,hw⟩
 refine(?_:aG ⟨ay (n+2),xq Y⟩ (f2::lI.drop 3) (eB l lm lw c lx none none none none none none none none) H1 (bD Q))
 refine t2 d1 λa ha=>?_
 refine(?_:aG ⟨ay (n+2),xq Y⟩ (f3::lI.drop 4) (eB l lm lw c lx (some (nv a)) none none none none none none none) H1 (bD Q))
 refine t3 d1 λa' Z=>?_
 refine(?_:ay (n+2) 59 [.aC [.ref l,.ref lm,.ref lw]] H1 _ _)
 refine WD (n:=n+1) d1.at' hp.1 hp.2 λld ds H2 x2 dQ D7 aD=>?_
 have d2:=d1.ext x2
 refine(?_:aG ⟨ay (n+2),xq Y⟩ (f5::lI.drop 6) (eB l lm lw c lx (some (nv a)) (some (nv a')) (some (.ref ld)) none none none none none) H2 (bD Q))
 refine t5 d2 dQ D7 aD λz=>?_
 refine(?_:aG ⟨ay (n+2),xq Y⟩ (f6::lI.drop 7) (eB l lm lw c lx (some (nv a)) (some (nv a')) (some (.ref ld)) (some (.int z)) none none none none) H2 (bD Q))
 refine t6 d2 ha λz=>?_
 refine(?_:aG ⟨ay (n+2),xq Y⟩ (f7::lI.drop 8) (eB l lm lw c lx (some (nv a)) (some (nv a')) (some (.ref ld)) (some (.int z)) none none none none) H2 (bD Q))
 refine t7 d2 λk z H3 x3=>?_
 have d3:=d2.ext x3
 refine(?_:aG ⟨ay (n+2),xq Y⟩ (f8::lI.drop 9) (eB l lm lw c lx (some (nv k)) (some (nv a')) (some (.ref ld)) (some (.int z)) none none none none) H3 (bD Q))
 refine t8 (n:=n+1) rfl d3 λlg H4 ns ov un iu x4 mG ag=>?_
 have d4:=d3.ext x4
 have xx:aA H H4:=((x1.trans x2).trans x3).trans x4
 have hb:H.length<=lg:=aR ((x1.trans x2).trans x3).len mG
 refine(?_:aG ⟨ay (n+2),xq Y⟩ (f9::lI.drop 10) (eB l lm lw c lx (some (nv k)) (some (nv a')) (some (.ref ld)) (some (.int z)) (some (.ref lg)) none none none) H4 (bD Q))
 refine t9 d4 ?_
 have x5:=aA.aO H4 [.list (tj r.ps.length)]
 have d5:=d4.ext x5
 have as:=aZ H4 (.list (tj r.ps.length))
 have Ea:=x5 _ _ ag
 have AQ:=xx.trans x5
 generalize H4++[.list (tj r.ps.length)]=H5 at x5 d5 as Ea AQ ⊢
 have fin:∀{u v w:V} {lg vs H' o6 o9 o10 bT},aA H H'->Dx H' r l lm lw lx xs->sc u=true->sc v=true->sc w=true->(∀x∈vs,iy x)->vs.length<=30->H.length<=lg->H'[lg]?=some (.list vs)->aG ⟨ay (n+2),xq Y⟩ (lI.drop 11) (eB l lm lw c lx (some u) (some v) o6 (some w) (some (.ref lg)) o9 o10 bT) H' (bD Q):=λ{u v w lg vs H' o6 o9 o10 bT} x' d' hu hv hw hs hl hb ag=>by
  refine(?_:aG ⟨ay (n+2),xq Y⟩ (KH::lI.drop 12) (eB l lm lw c lx (some u) (some v) o6 (some w) (some (.ref lg)) o9 o10 bT) H' (bD Q))
  exact WY d' hu hw λu w o10 bT H'' hu hw qy=>WZ q (x'.trans qy) hu hv hw hs hl hb (qy _ _ ag)
 refine(?_:aG ⟨ay (n+2),xq Y⟩ (.br (.cmp .eq (.bin .mod (.J 1) (kI 2)) (kI 1)) [KD,KE,KF,KG] []::lI.drop 11) (eB l lm lw c lx (some (nv k)) (some (nv a')) (some (.ref ld)) (some (.int z)) (some (.ref lg)) (some (.ref H4.length)) none none) H5 (bD Q))
 refine AP ((EI.J rfl).mod (by decide)) ?_ (fin AQ d5 rfl rfl rfl D5 (by rw[aS];exact aR iu (by decide)) hb Ea)
 refine WQ (n:=n+1) rfl d5 as rfl λu hu=>WR (n:=n+1) rfl d5 as rfl λv hv=>WV (n:=n+1) rfl d5 rfl λw H6 hw x6=>?_
 refine WW (n:=n+1) rfl (d5.ext x6) (x6 _ _ Ea) iu (b0:=H.length) hb (AQ.trans x6).len λlg vs H7 hs hl x7 hb ag=>mr ?_
 exact fin ((AQ.trans x6).trans x7) ((d5.ext x6).ext x7) hu hv hw hs hl hb ag)
end
theorem Eb{H:Hp}{a:E}{w:Bool}(h:WE C a ρ H λx H=>Q (.bool (wy x==w)) H):WE C (.isNone w a) ρ H Q:=h
theorem Ec:copyOf H (.aC vs)=some vs:=rfl
inductive iJ where
 |aQ (p:aH)
 |bR (k:Nat) (e:Int)
 |adopt (k:Nat) (x:Int×List Nat)
 |eZ (w:eA)
 |nz (w:fY)
inductive fI(P:Nat->Prop)(H:Hp):iJ->V->Prop
 |aQ {p:aH} {lq:Nat}:P lq->H[lq]?=some (.list (aX p.ca))->fI P H (.aQ p) (AC (.int p.aQ) lq)
 |bR {k:Nat} {e:Int}:fI P H (.bR k e) (DV k e)
 |adopt {k:Nat} {x:Int×List Nat} {lq:Nat}:P lq->H[lq]?=some (.list (aX x.2))->fI P H (.adopt k x) (J3 (nv k) (.int x.1) lq)
 |eZ {w:eA}:fI P H (.eZ w) (DU w.a w.b w.day)
 |nz {w:fY} {lg:Nat}:P lg->H[lg]?=some (.list (w.cQ.map λg=>rW g.2 g.1))->fI P H (.nz w) (J4 w.ff w.day lg)
theorem fI.k{P P':Nat->Prop}{d:iJ}(h:fI P H d v)(x:∀l c,P l->H[l]?=some c->P' l/\H'[l]?=some c):fI P' H' d v:=h.casesOn (λh1 h2=>.aQ (x _ _ h1 h2).1 (x _ _ h1 h2).2) .bR (λh1 h2=>.adopt (x _ _ h1 h2).1 (x _ _ h1 h2).2) .eZ λh1 h2=>.nz (x _ _ h1 h2).1 (x _ _ h1 h2).2
theorem Ed{P:Nat->Prop}{ds:List iJ}(h:cz (fI P H) ds vs)(x:aA H H'):cz (fI P H') ds vs:=h.imp λZ Z h=>h.k λl c hp a=>⟨hp,x l c a⟩
def Bl(b ld:Nat)(l:Nat):Prop:=b<=l/\l<ld
def Bn(b ld:Nat)(l:Nat):Prop:=b<=l/\l≠ld
theorem Ee{b:Nat}{P:Nat->Prop}{ds:List iJ}(h:cz (fI P H) ds vs)(hp:∀l,P l->b<=l)(x:aA H H'):cz (fI (Bl b H.length) H') ds vs:=h.imp λZ Z h=>h.k λl c hl a=>⟨⟨hp l hl,cG a⟩,x l c a⟩
theorem KL{b:Nat}{ds:List iJ}(h:cz (fI (Bl b ld) H) ds vs):cz (fI (Bn b ld) H) ds vs:=h.imp λZ Z h=>h.k λl c hl a=>⟨⟨hl.1,eO hl.2⟩,a⟩
theorem cz.aO{α β:Type}{R:α->β->Prop}{as bs:List α}{us vs:List β}(h:cz R as us)(h':cz R bs vs):cz R (as++bs) (us++vs):=h.rec (motive:=λas us Z=>cz R (as++bs) (us++vs)) h' λr Z ih=>.cons r ih
noncomputable def AR(ps:List aH):List iJ:=(fq ps).map λk=>.bR k ((dI ps k).getD 0)
noncomputable def k9(ps:List aH)(js:List Nat):List iJ:=js.filterMap λk=>(ps[k]?).bind λp=>p.ad.map λx=>.adopt k x
noncomputable def qH(r:dN):List iJ:=((r.ps.map .aQ++AR r.ps)++k9 r.ps (List.range r.ps.length))++r.ms.map .eZ++r.ws.map .nz
section
variable{b:Nat}{K:Out->Prop}{ps:List aH}
noncomputable abbrev g8(l lm lw:Nat)(o2 o3 o4 o5 o6:Option V):bB:=[some (.aC [.ref l,.ref lm,.ref lw]),some (.ref l),o2,o3,o4,o5,o6]
theorem Ef{e3:E}(h:WE C e1 ρ H λa H=>WE C e2 ρ H λb H=>WE C e3 ρ H λc H=>Q (.aC [a,b,c]) H):WE C (.aC [e1,e2,e3]) ρ H Q:=h
theorem yu(h:WE C e ρ H λx H=>aI (copyOf H x) λvs=>tL vs H Q):WE C (.listOf e) ρ H Q:=h
noncomputable abbrev KM:S:=.aN (.J 2) (.comp 1 (.aC [(.k (.str "born")),(iI 0 0),(.listOf (iI 0 1))]) (.J 0) (.of (.J 1)) [])
theorem s1(hb:b<=H.length)(hA:H[l]?=some (.list (ps.map bQ)))(hl:ps.length<=60)(h2:∀p∈ps,p.ca.length<=2)(h:∀vs ld H',aA H H'->b<=ld->H'[ld]?=some (.list vs)->cz (fI (Bl b ld) H') (ps.map .aQ) vs->aG C rest (g8 l lm lw (some (.ref ld)) o3 o4 o5 o6) H' K):aG C (KM::rest) (g8 l lm lw o2 o3 o4 o5 o6) H K:=by
 refine dU (j8 ?_)
 apply au (cT hA)
 refine cM (cP (by rw[aS];exact bM hl (by decide))) ?_
 refine pf (g:=bQ) (λas acc ρ H'=>(∃o,ρ=o::g8 l lm lw o2 o3 o4 o5 o6)/\aA H H'/\∃an,an++as=ps/\cz (fI (b<=·) H') (an.map .aQ) acc) (λp as acc ρ H' hI=>?_) (λacc ρ H' hI=>?_) _ _ _ _ ⟨⟨none,rfl⟩,aA.refl _,[],rfl,.nil⟩
 ·obtain⟨⟨o,rfl⟩,x,an,t,ha⟩:=hI
  refine au (a:=some (bQ p)::g8 l lm lw o2 o3 o4 o5 o6) rfl λN hN=>?_
  refine yi (ey rfl ?_)
  have Dn:=h2 p (t▸cF.mpr (.inr cJ))
  refine Ef ?_
  refine bF ?_
  refine cD (ba (v:=bQ p) rfl (bF ?_))
  refine au (a:=V.int p.aQ) rfl ?_
  refine yu (cD (ba (v:=bQ p) rfl (bF ?_)))
  refine au (a:=V.aC (aX p.ca)) rfl ?_
  refine au (Ec (H:=H') (vs:=aX p.ca)) ?_
  refine(cM (cP (by rw[aS];exact bM Dn (by decide))) ?_)
  refine iR (hN _ _ (dm hA (be _ (x _ _ hA))) ⟨⟨_,rfl⟩,x.trans (aA.aO _ _),an++[p],gh t,?_⟩)
  rw[gx]
  exact(Ed ha (aA.aO _ _)).snoc (.aQ (aR hb x.len) (aZ _ _))
 ·obtain⟨_,x,an,t,ha⟩:=hI
  rw[dO] at t
  subst t
  exact iR (au rfl (h acc _ _ (x.trans (aA.aO _ _)) (aR hb x.len) (aZ _ _) (Ee ha (λZ h=>h) (aA.aO _ _))))
theorem KN{P:Nat->Prop}{H:Hp}{f:Nat->Int}:∀js:List Nat,cz (fI P H) (js.map λk=>.bR k (f k)) (js.map λk=>DV k (f k))
 |[]=>.nil
 |_::js=>.cons .bR (KN js)
noncomputable abbrev KP:S:=.aN (.J 2) (.bin .add (.J 2) (.comp 1 (.aC [(.k (.str "died")),.J 0,(.aP (.aP (.J 2) (.J 0)) (kI 3))]) (.J 0) (.range (kI 0) (.bi .len [.J 1])) [(.isNone false (.aP (.aP (.J 2) (.J 0)) (kI 3)))]))
theorem s2{ds:List iJ}(hb:b<=H.length)(hA:H[l]?=some (.list (ps.map bQ)))(hl:ps.length<=60)(ny:vs.length<=60)(hD:H[ld]?=some (.list vs))(hd:cz (fI (Bl b ld) H) ds vs)(h:∀vs ld H',aA H H'->b<=ld->vs.length<=120->H'[ld]?=some (.list vs)->cz (fI (Bl b ld) H') (ds++AR ps) vs->aG C rest (g8 l lm lw (some (.ref ld)) o3 o4 o5 o6) H' K):aG C (KP::rest) (g8 l lm lw (some (.ref ld)) o3 o4 o5 o6) H K:=by
 refine dU (cL (ba rfl (j8 ?_)))
 apply au (cC hA)
 rw[aS]
 refine rL (bM hl (by decide)) ?_
 refine cM (cP (by rw[aS,kH];exact bM hl (by decide))) ?_
 refine iF (P:=fH ps) (F:=λk=>DV k ((dI ps k).getD 0)) (List.range ps.length) _ _ (λj hj T hT=>?_) (λj hj hd N hN=>?_) ?_
 ·refine(at_of (jl.mp hj)).elim λp hp=>?_
  refine(?_:aI (fF (.ref l) (nv j) H) _)
  refine au (ee hA hp) ?_
  unfold fH at hT
  rw[hp] at hT
  have hT:T p.bR.isSome H:=hT
  unfold bQ
  cases hd:p.bR with
  |none=>rw[hd] at hT;exact hT
  |some d=>rw[hd] at hT;exact hT
 ·refine(at_of (jl.mp hj)).elim λp hp=>?_
  refine(?_:aI (fF (.ref l) (nv j) H) _)
  refine au (ee hA hp) ?_
  unfold fH at hd
  rw[hp] at hd
  obtain⟨e,he⟩:=isSome_iff_exists.mp hd
  unfold dI at hN
  rw[hp,show(some p).bind (·.bR)=some e from he] at hN
  unfold bQ
  rw[he]
  exact hN
 ·refine iR ?_
  have fB:((List.range ps.length).filter (fH ps)).length<=60:=aR (ma _ _) (by rw[kH];exact hl)
  refine lP (be _ hD) (aZ _ _) (by rw[bX,nil_append,aS];exact bM (jG ny fB) (by decide)) ?_
  refine au rfl (h _ _ _ ((aA.aO _ _).trans (aA.aO _ _)) (aR hb (aA.aO _ _).len) (by rw[bX,nil_append,aS];exact jG ny fB) (aZ _ _) ?_)
  refine(Ee (Ed hd (aA.aO _ _)) (λZ h=>h.1) (aA.aO _ _)).aO ?_
  unfold AR fq
  rw[nil_append]
  exact KN _
noncomputable abbrev W1:List S:=[.br (.isNone false (.aP (.aP (.J 1) (.J 3)) (kI 2)))
   [.expr (.d8 .append (.J 2) [(.aC [(.k (.str "adopted")),.J 3,(.aP (.aP (.aP (.J 1) (.J 3)) (kI 2)) (kI 0)),(.listOf (.aP (.aP (.aP (.J 1) (.J 3)) (kI 2)) (kI 1)))])])]
   []]
noncomputable abbrev KQ:S:=.for (.J 3) (.range (kI 0) (.bi .len [.J 1])) W1
theorem Eg{e3:E}(h:WE C e1 ρ H λa H=>WE C e2 ρ H λb H=>WE C e3 ρ H λc H=>WE C e4 ρ H λd H=>Q (.aC [a,b,c,d]) H):WE C (.aC [e1,e2,e3,e4]) ρ H Q:=h
theorem KR{an:List Nat}{k:Nat}(hp:ps[k]?=some p):k9 ps (an++[k])=k9 ps an++(match p.ad with|none=>[]|some x=>[iJ.adopt k x]):=by
 unfold k9
 rw[List.filterMap_append]
 congr 1
 refine(?_:List.filterMap _ [k]=_)
 rw[List.filterMap_cons,hp,List.filterMap_nil]
 rw[show((some p).bind λp=>p.ad.map λx=>iJ.adopt k x)=p.ad.map (λx=>iJ.adopt k x) from rfl]
 cases p.ad<;>rfl
theorem KS{lu:Nat}(hj:ρ[j]?.join=some (.ref lu))(hu:H[lu]?=some (.list us))(h:WE C e ρ H λv H1=>ro .append (.ref lu) [v] H1 Q):WE C (.d8 .append (.J j) [e]) ρ H Q:=au hj (gg hu h)
theorem s3{ds:List iJ}(hb:b<=ld)(hA:H[l]?=some (.list (ps.map bQ)))(hl:ps.length<=60)(h2:∀p∈ps,∀x,p.ad=some x->x.2.length<=2)(ny:vs.length<=120)(Eh:l<ld)(hD:H[ld]?=some (.list vs))(hd:cz (fI (Bl b ld) H) ds vs)(h:∀vs o3 H',bK ld H H'->vs.length<=180->H'[ld]?=some (.list vs)->cz (fI (Bn b ld) H') (ds++k9 ps (List.range ps.length)) vs->aG C rest (g8 l lm lw (some (.ref ld)) o3 o4 o5 o6) H' K):aG C (KQ::rest) (g8 l lm lw (some (.ref ld)) o3 o4 o5 o6) H K:=by
 refine yb (yc (bF ?_))
 apply au (cC hA)
 rw[aS]
 refine rL (bM hl (by decide)) ?_
 have DK:=cG hD
 refine fR (λas ρ H'=>(∃o3,ρ=g8 l lm lw (some (.ref ld)) o3 o4 o5 o6)/\bK ld H H'/\∃an jc,an++as=List.range ps.length/\H'[ld]?=some (.list jc)/\cz (fI (Bn b ld) H') (ds++k9 ps an) jc/\jc.length<=120+an.length) (λk as ρ H' hI=>?_) (λρ H' hI=>?_) _ _ _ ⟨⟨o3,rfl⟩,bK.refl _ _,[],vs,rfl,hD,by rw[show k9 ps []=[] from rfl,dO];exact KL hd,ny⟩
 ·obtain⟨⟨o,rfl⟩,x,an,jc,t,a,ha,gV⟩:=hI
  refine au (a:=g8 l lm lw (some (.ref ld)) (some (nv k)) o4 o5 o6) rfl λN hN=>?_
  have td:k∈List.range ps.length:=t▸cF.mpr (.inr cJ)
  have eW:an.length<=60:=aR (by rw[<-kH (n:=ps.length),<-t,bX];exact fM _ _) hl
  obtain⟨p,hp⟩:=at_of (jl.mp td)
  have j9:=x _ _ (eO Eh) hA
  have ix:=ee j9 hp
  have sn:=KR (an:=an) hp
  refine iw (pB (Eb (cD (cD (ba rfl (ba rfl (au ix (bF (au (a:=mv p.ad) rfl ?_)))))))))
  cases i7:p.ad with
  |none=>
   rw[i7] at sn
   refine au (a:=false) rfl (e8 rfl (hN _ _ rfl ⟨⟨_,rfl⟩,x,an++[k],jc,gh t,a,?_,by rw[bX];exact aR gV (lD (fM _ _) _)⟩))
   rw[sn,dO];exact ha
  |some z=>
   rw[i7] at sn
   refine au (a:=true) rfl (ey rfl (Jy (KS rfl a (Eg (bF (ba rfl (cD (cD (cD (ba rfl (ba rfl (au ix (bF (au (a:=mv p.ad) rfl (bF ?_)))))))))))))))
   rw[i7]
   refine au (a:=V.int z.1) rfl (yu (cD (cD (cD (ba rfl (ba rfl (au ix (bF (au (a:=mv p.ad) rfl (bF ?_))))))))))
   rw[i7]
   refine au (a:=V.aC (aX z.2)) rfl (au (Ec (vs:=aX z.2)) (cM (cP (by rw[aS];exact bM (h2 p (iz hp) z i7) (by decide))) (iR ?_)))
   have a':=be [.list (aX z.2)] a
   refine gy a' (bM gV (bM (lD eW _) (by decide))) ?_
   have je:ld<H'.length:=cG a
   refine(hN _ _ rfl ⟨⟨_,rfl⟩,x.trans ((bK.aO _ _ _).trans (bK.set _ _ _)),an++[k],_,gh t,eX a' _,?_,by rw[bX,bX];exact lE gV⟩)
   rw[sn,<-nF]
   refine(ha.imp λZ Z h=>h.k λl c hp a=>⟨hp,d9 (be _ a) _ (Ne.symm hp.2)⟩).snoc (.adopt ⟨aR hb (cO je),fE je⟩ (d9 (aZ _ _) _ (eO je)))
 ·obtain⟨⟨o,rfl⟩,x,an,jc,t,a,ha,gV⟩:=hI
  rw[dO] at t
  subst t
  exact h jc o H' x (aR gV (by rw[kH];exact lD hl _)) a ha
end
section
variable{b:Nat}{K:Out->Prop}{ps:List aH}{ws:List fY}
noncomputable abbrev KT:S:=.aN (.J 2) (.bin .add (.J 2) (.comp 3 (.aC [(.k (.str "married")),.J 0,.J 1,.J 2]) (.aC [.J 0,.J 1,.J 2]) (.of (iI 0 1)) []))
theorem KU{P:Nat->Prop}{H:Hp}:∀ms:List eA,cz (fI P H) (ms.map .eZ) (ms.map λw=>DU w.a w.b w.day)
 |[]=>.nil
 |_::ms=>.cons .eZ (KU ms)
theorem s4{ds:List iJ}(hb:b<=H.length)(hM:H[lm]?=some (.list (ms.map dK)))(hl:ms.length<=1000)(ny:vs.length<=180)(hD:H[ld]?=some (.list vs))(hd:cz (fI (Bn b ld) H) ds vs)(h:∀vs ld H',aA H H'->b<=ld->H.length<=ld->vs.length<=1180->H'[ld]?=some (.list vs)->cz (fI (Bl b ld) H') (ds++ms.map .eZ) vs->aG C rest (g8 l lm lw (some (.ref ld)) o3 o4 o5 o6) H' K):aG C (KT::rest) (g8 l lm lw (some (.ref ld)) o3 o4 o5 o6) H K:=by
 refine dU (cL (ba rfl (j8 (nr (cD (ba rfl (bF ?_)))))))
 refine au (a:=V.ref lm) rfl (au (cT hM) ?_)
 refine cM (cP (by rw[aS];exact bM hl (by decide))) ?_
 refine pf (g:=dK) (λas acc ρ H'=>(∃o o' i8,ρ=o::o'::i8::g8 l lm lw (some (.ref ld)) o3 o4 o5 o6)/\H'=H/\∃an,an++as=ms/\acc=an.map λw=>DU w.a w.b w.day) (λw as acc ρ H' hI=>?_) (λacc ρ H' hI=>?_) _ _ _ _ ⟨⟨none,none,none,rfl⟩,rfl,[],rfl,rfl⟩
 ·obtain⟨⟨o,o',i8,rfl⟩,rfl,an,t,rfl⟩:=hI
  refine au (a:=some (nv w.a)::some (nv w.b)::some (.int w.day)::g8 l lm lw (some (.ref ld)) o3 o4 o5 o6) rfl λN hN=>?_
  refine yi (ey rfl (Eg (bF (ba rfl (ba rfl (ba rfl ?_))))))
  exact hN _ _ (dm hM hM) ⟨⟨_,_,_,rfl⟩,rfl,an++[w],gh t,by rw[gx];rfl⟩
 ·obtain⟨_,rfl,an,t,rfl⟩:=hI
  rw[dO] at t
  subst t
  refine iR (lP (be _ hD) (aZ _ _) (by rw[bX,aS];exact bM (jG ny hl) (by decide)) ?_)
  refine au rfl (h _ _ _ ((aA.aO _ _).trans (aA.aO _ _)) (aR hb (aA.aO _ _).len) (aA.aO _ _).len (by rw[bX,aS];exact jG ny hl) (aZ _ _) ?_)
  exact(Ee (Ed hd (aA.aO _ _)) (λZ h=>h.1) (aA.aO _ _)).aO (KU _)
noncomputable abbrev KV:S:=.for (.aC [.J 4,.J 5,.J 6]) (.of (iI 0 2)) [.expr (.d8 .append (.J 2) [(.aC [(.k (.str "will")),.J 4,.J 5,(.comp 2 (.aC [.J 0,(iI 1 0),(iI 1 1)]) (.aC [.J 0,.J 1]) (.of (.J 6)) [])])])]
theorem s5{ds:List iJ}(hb:b<=ld)(hW:H[lw]?=some (.list (ws.map dS)))(j7:ws.length<=1000)(hg:∀w∈ws,w.cQ.length<=10)(ny:vs.length<=1180)(Eh:lw<ld)(hD:H[ld]?=some (.list vs))(hd:cz (fI (Bl b ld) H) ds vs)(h:∀vs o4 o5 o6 H',bK ld H H'->H'[ld]?=some (.list vs)->cz (fI (Bn b ld) H') (ds++ws.map .nz) vs->aG C rest (g8 l lm lw (some (.ref ld)) o3 o4 o5 o6) H' K):aG C (KV::rest) (g8 l lm lw (some (.ref ld)) o3 o4 o5 o6) H K:=by
 refine yb (nr (cD (ba rfl (bF ?_))))
 refine au (a:=V.ref lw) rfl (au (cT hW) ?_)
 refine fR (g:=dS) (λas ρ H'=>(∃o4 o5 o6,ρ=g8 l lm lw (some (.ref ld)) o3 o4 o5 o6)/\bK ld H H'/\∃an jc,an++as=ws/\H'[ld]?=some (.list jc)/\cz (fI (Bn b ld) H') (ds++an.map .nz) jc/\jc.length<=1180+an.length) (λw as ρ H' hI=>?_) (λρ H' hI=>?_) _ _ _ ⟨⟨o4,o5,o6,rfl⟩,bK.refl _ _,[],vs,rfl,hD,by rw[map_nil,dO];exact KL hd,ny⟩
 ·obtain⟨⟨o4,o5,o6,rfl⟩,x,an,jc,t,a,ha,gV⟩:=hI
  refine au (a:=g8 l lm lw (some (.ref ld)) o3 (some (nv w.ff)) (some (.int w.day)) (some (iG w.cQ))) rfl λN hN=>?_
  have eW:an.length<=1000:=aR (by rw[<-t,bX];exact fM _ _) j7
  have W2:=hg w (t▸cF.mpr (.inr cJ))
  have je:ld<H'.length:=cG a
  refine Jy (KS rfl a (Eg (bF (ba rfl (ba rfl (j8 (nr (ba rfl ?_))))))))
  refine au (a:=w.cQ.map jy) rfl (cM (cP (by rw[aS];exact bM W2 (by decide))) ?_)
  refine pf (g:=jy) (λas acc ρ H''=>(∃o o',ρ=o::o'::g8 l lm lw (some (.ref ld)) o3 (some (nv w.ff)) (some (.int w.day)) (some (iG w.cQ)))/\H''=H'/\∃an,an++as=w.cQ/\acc=an.map λg=>rW g.2 g.1) (λg as acc ρ H'' hI=>?_) (λacc ρ H'' hI=>?_) _ _ _ _ ⟨⟨none,none,rfl⟩,rfl,[],rfl,rfl⟩
  ·obtain⟨⟨o,o',rfl⟩,rfl,KW,t',rfl⟩:=hI
   refine au (a:=some (nv g.1)::some (rv g.2)::g8 l lm lw (some (.ref ld)) o3 (some (nv w.ff)) (some (.int w.day)) (some (iG w.cQ))) rfl λN' j5=>?_
   refine yi (ey rfl (Ef (ba rfl (cD (ba (v:=rv g.2) rfl (bF ?_))))))
   refine au (a:=V.int g.2.num) rfl (cD (ba (v:=rv g.2) rfl (bF ?_)))
   refine au (a:=nv g.2.den) rfl ?_
   exact j5 _ _ rfl ⟨⟨_,_,rfl⟩,rfl,KW++[g],gh t',by rw[gx];rfl⟩
  ·obtain⟨_,rfl,KW,t',rfl⟩:=hI
   rw[dO] at t'
   subst t'
   have a':=be [.list (w.cQ.map λg=>rW g.2 g.1)] a
   refine iR (gy a' (bM gV (bM (lD eW _) (by decide))) ?_)
   have hx:bK ld H ((H''++[bt.list (w.cQ.map λg=>rW g.2 g.1)]).set ld (.list (jc++[J4 w.ff w.day H''.length]))):=x.trans ((bK.aO _ _ _).trans (bK.set _ _ _))
   refine hN _ _ (dm hW (hx _ _ (eO Eh) hW)) ⟨⟨_,_,_,rfl⟩,hx,an++[w],_,gh t,eX a' _,?_,by rw[bX,bX];exact lE gV⟩
   rw[gx,<-nF]
   exact(ha.imp λZ Z h=>h.k λl c hp a=>⟨hp,d9 (be _ a) _ (Ne.symm hp.2)⟩).snoc (.nz ⟨aR hb (cO je),fE je⟩ (d9 (aZ _ _) _ (eO je)))
 ·obtain⟨⟨o4,o5,o6,rfl⟩,x,an,jc,t,a,ha,gV⟩:=hI
  rw[dO] at t
  subst t
  exact h jc o4 o5 o6 H' x a ha
theorem W3(hb:l<H.length/\lw<H.length)(at':cK H r l lm lw)(hl:r.ps.length<=60/\r.ms.length<=1000/\r.ws.length<=1000)(hW:dv r.ps)(hg:∀w∈r.ws,w.cQ.length<=10)(q:∀vs ld H',aA H H'->H.length<=ld->H'[ld]?=some (.list vs)->cz (fI (Bn H.length ld) H') (qH r) vs->Q (.ref ld) H'):ay (n+1) 56 [.aC [.ref l,.ref lm,.ref lw]] H Q Y:=R6 (at' _ λap am aw=>by
 have two:∀p∈r.ps,p.ca.length<=2:=λp hp=>(getElem?_of_mem hp).elim λi hi=>(hW i p hi) _ λZ Z c Z Z=>c.1
 have two':∀p∈r.ps,∀x,p.ad=some x->x.2.length<=2:=λp hp x hx=>(getElem?_of_mem hp).elim λi hi=>(hW i p hi) _ λZ Z Z d Z=>(d x hx).1
 refine(?_:aG ⟨ay n,xq Y⟩ (KM::tD.drop 2) (g8 l lm lw none none none none none) H (bD Q))
 refine s1 (b:=H.length) (cg _) ap hl.1 two λW4 W5 H1 x1 b1 a1 d1=>?_
 have v1:W4.length<=60:=by rw[d1.len,aS];exact hl.1
 refine(?_:aG ⟨ay n,xq Y⟩ (KP::tD.drop 3) (g8 l lm lw (some (.ref W5)) none none none none) H1 (bD Q))
 refine s2 (b:=H.length) x1.len (x1 _ _ ap) hl.1 v1 a1 d1 λYY KX H2 x2 b2 v2 a2 d2=>?_
 have we:=x1.trans x2
 refine(?_:aG ⟨ay n,xq Y⟩ (KQ::tD.drop 4) (g8 l lm lw (some (.ref KX)) none none none none) H2 (bD Q))
 refine s3 (b:=H.length) b2 (we _ _ ap) hl.1 two' v2 (fh hb.1 b2) a2 d2 λYZ o3 H3 x3 v3 a3 d3=>?_
 have Ei:aA H H3:=x3.ext we b2
 refine(?_:aG ⟨ay n,xq Y⟩ (KT::tD.drop 5) (g8 l lm lw (some (.ref KX)) o3 none none none) H3 (bD Q))
 refine s4 (b:=H.length) Ei.len (Ei _ _ am) hl.2.1 v3 a3 d3 λY0 KY H4 x4 b4 Z v4 a4 d4=>?_
 have wg:=Ei.trans x4
 refine(?_:aG ⟨ay n,xq Y⟩ (KV::tD.drop 6) (g8 l lm lw (some (.ref KY)) o3 none none none) H4 (bD Q))
 refine s5 (b:=H.length) b4 (wg _ _ aw) hl.2.2 hg v4 (fh hb.2 b4) a4 d4 λW6 o4 o5 o6 H5 x5 a5 d5=>?_
 exact q W6 KY H5 (x5.ext wg b4) b4 a5 d5)
end
noncomputable abbrev lY(p:aH):aH:=⟨p.aQ,p.ca,none,none⟩
inductive Acc:dN->iJ->dN->Prop
 |aQ {r:dN} {p:aH}:pC r.ps (.int p.aQ) (aX p.ca)=none->p.ca.length<=2->r.ps.length<=60->(fq (r.ps++[lY p])=[]\/dg ⟨r.ps++[lY p],r.ms,r.ws⟩)->Acc r (.aQ p) ⟨r.ps++[lY p],r.ms,r.ws⟩
 |bR {ps:List aH} {k:Nat} {e:Int} {p:aH}:ps[k]?=some p->p.bR=none->p.ad=none->0<=e/\e<=100000->p.aQ<=e->ps.length<=60->dg ⟨ps.set k (gM p e),[],[]⟩->Acc ⟨ps,[],[]⟩ (.bR k e) ⟨ps.set k (gM p e),[],[]⟩
 |adopt {r:dN} {k:Nat} {x:Int×List Nat} {p:aH}:qE r.ps (nv k) (.int x.1) (aX x.2)=none->r.ps[k]?=some p->x.2.length<=2->r.ps.length<=60->(fq (r.ps.set k (lW p x.1 x.2))=[]\/dg ⟨r.ps.set k (lW p x.1 x.2),r.ms,r.ws⟩)->Acc r (.adopt k x) ⟨r.ps.set k (lW p x.1 x.2),r.ms,r.ws⟩
 |eZ {r:dN} {w:eA}:r.ps.length<=60->w.a<r.ps.length/\w.b<r.ps.length->jz r.ps.length r.ms->r.ms.length<=1000->Dv r.ps w->(∀u∈r.ms,clear r.ps w u=true/\u.day<=100000)->dg ⟨r.ps,r.ms++[w],r.ws⟩->Acc r (.eZ w) ⟨r.ps,r.ms++[w],r.ws⟩
 |nz {r:dN} {w:fY}:r.ps.length<=60->r.ws.length<=1000->xY r.ps.length w->s7 r.ps w->dg ⟨r.ps,r.ms,r.ws++[w]⟩->Acc r (.nz w) ⟨r.ps,r.ms,r.ws++[w]⟩
inductive Runs:dN->List iJ->dN->Prop
 |nil {r:dN}:Runs r [] r
 |cons {r r' r'':dN} {d:iJ} {ds:List iJ}:Acc r d r'->Runs r' ds r''->Runs r (d::ds) r''
theorem Runs.aO{r'':dN}{ds es:List iJ}(h:Runs r ds r')(h':Runs r' es r''):Runs r (ds++es) r'':=h.rec (motive:=λr ds r' Z=>Runs r' es r''->Runs r (ds++es) r'') (λh=>h) (λa Z ih h=>.cons a (ih h)) h'
theorem uM:∀ks:List Nat,(aX ks).map natOf=ks
 |[]=>rfl
 |k::ks=>bU (k::·) (uM ks)
theorem KZ{ks:List Nat}:∀v∈aX ks,sc v=true:=λv hv=>(fj.mp hv).elim λk hk=>hk.2▸rfl
section
variable{d:iJ}{P:Nat->Prop}
def W7(B:Nat)(H:Hp)(r:dN)(v:V)(H':Hp):Prop:=cw B H H'/\cU B H' r
theorem W8(b:dp B H r)(a:Acc r d r')(h:fI P H d v)(hP:∀l,P l->B+5<=l)(q:∀u H',cw B H H'->cU B H' r'->Q (.aC [.str "",u]) H'):ay (n+71) 47 [.ref (B+1),v] H Q Y:=by
 refine Vz (n:=n+69) (okR:=W7 B H r') (err:=none) (λQ' Y' hq Z=>?_) (λu H' ok=>q u H' ok.1 ok.2) λj hj=>(nomatch hj)
 cases a with
 |aQ h1 h2 h3 h4=>
  cases h with
  |aQ p1 p2=>
   refine Vx b (JY (n:=n) b h3 p2 KZ rfl (by rw[aS];exact aR h2 (by decide)) (.inr (hP _ p1)) (λk hk=>by rw[h1] at hk;cases hk) (λZ=>?_) λZ H' x b'=>?_)
   ·rw[uM];exact h4
   ·rw[uM] at b';exact hq _ _ ⟨x,b'⟩
 |bR h1 h2 h3 h4 h5 h6 h7=>
  cases h with
  |bR=>exact DW b (Vh (n:=n) b h6 h1 h2 h3 h4 h5 h7 λH' x b'=>hq _ _ ⟨x,b'⟩)
 |adopt h1 h2 h3 h4 h5=>
  cases h with
  |adopt p1 p2=>
   refine Vy b (Vg (n:=n) b h4 p2 KZ rfl rfl (by rw[aS];exact aR h3 (by decide)) (λk hk=>by rw[h1] at hk;cases hk) (λZ p hp=>?_) λZ p hp H' x b'=>?_)
   ·have e:=dA (h2.symm.trans hp)
    rw[uM,<-e];exact h5
   ·have e:=dA (h2.symm.trans hp)
    rw[uM,<-e] at b';exact hq _ _ ⟨x,b'⟩
 |eZ h1 h2 h3 h4 h5 h6 h7=>
  cases h with
  |eZ=>exact J5 b (Vl (n:=n) b h1 h2.1 h2.2 h3 h4 h5 h6 h7 λH' x b'=>hq _ _ ⟨x,b'⟩)
 |nz h1 h2 h3 h4 h5=>
  cases h with
  |nz p1 p2=>exact J6 b (Vq (n:=n) b h1 h2 h3 h4 p2 h5 λH' x b'=>hq _ _ ⟨x,b'⟩)
noncomputable abbrev Ej:S:=.for (.J 3) (.of (.call 56 [.J 1]))
  [.br (.cmp .ne (.aP (.call 47 [.J 2,.J 3]) (kI 0)) (.k (.str "")))
   [.ret (.k (.bool false))]
   []]
theorem AS:PyData.strOk ""=true:=by decide +kernel
theorem K0:e7 .ne (.str "") (.str "") H=some false:=(bU (Option.map (!·)) (uD AS AS)).trans (by rw[gr];rfl)
end
section
variable{K:Out->Prop}
noncomputable abbrev gj(l lm lw B:Nat)(o3 o4 o5 o6 o7 o8 o9:Option V):bB:=[some .fu,some (.aC [.ref l,.ref lm,.ref lw]),some (.ref (B+1)),o3,o4,o5,o6,o7,o8,o9,none,none,none,none,none]
theorem dp.len(b:dp B H r):B+5<H.length:=b _ λZ Z Z Z Z Z Z Z Z ad hd Z=>bM hd (cG ad)
theorem W9{x:E}(h:WE C x ρ H λu H=>C.call f [u] H Q C.exc):WE C (.call f [x]) ρ H Q:=h
theorem Xa(hC:C.call=ay (n+71))(at':cK H r l lm lw)(hb:l<H.length/\lw<H.length)(hl:r.ps.length<=60/\r.ms.length<=1000/\r.ws.length<=1000)(hW:dv r.ps)(hg:∀w∈r.ws,w.cQ.length<=10)(b:cU B H ⟨[],[],[]⟩)(runs:Runs ⟨[],[],[]⟩ (qH r) r)(h:∀o3 H',cw B H H'->cU B H' r->aG C rest (gj l lm lw B o3 o4 o5 o6 o7 o8 o9) H' K):aG C (Ej::rest) (gj l lm lw B o3 o4 o5 o6 o7 o8 o9) H K:=by
 have hB:=b.b.len
 refine yb (nr (W9 (ba rfl ?_)))
 rw[hC]
 refine W3 (n:=n+70) hb at' hl hW hg λvs ld H1 x1 DK a1 d1=>?_
 refine au (cT a1) ?_
 refine xS (R:=fI (Bn H.length ld) H1) (λas ρ H'=>(∃o3,ρ=gj l lm lw B o3 o4 o5 o6 o7 o8 o9)/\cw B H1 H'/\∃rb,cU B H' rb/\Runs rb as r) (λd v as ρ H' hv hI=>?_) (λρ H' hI=>?_) d1 _ _ ⟨⟨o3,rfl⟩,cw.refl _ _,_,b.ext x1,runs⟩
 ·obtain⟨⟨o,rfl⟩,x,rb,bb,rr⟩:=hI
  refine au (a:=gj l lm lw B (some v) o4 o5 o6 o7 o8 o9) rfl λN hN=>?_
  cases rr with
  |cons ac rr=>
   refine iw (pA (cD (ke (ba rfl (ba rfl ?_)))))
   refine(?_:C.call 47 [.ref (B+1),v] H' _ (xq C.exc))
   rw[hC]
   have Xb:fI (Bn H.length ld) H' d v:=hv.k λl c hp a=>⟨hp,x l c (.inr (aR (cO hB) hp.1)) a⟩
   refine W8 (n:=n) bb.b ac Xb (λl hp=>aR (cO hB) hp.1) λu H2 x2 b2=>?_
   have x3:=x.trans x2
   exact bF (au (a:=V.str "") rfl (bF (au K0 (e8 rfl (hN _ _ (dm a1 (x3 _ _ (.inr (aR (cO hB) DK)) a1)) ⟨⟨_,rfl⟩,x3,_,b2,rr⟩)))))
 ·obtain⟨⟨o,rfl⟩,x,rb,bb,rr⟩:=hI
  cases rr with
  |nil=>exact h o H' (x1.k.trans x) bb
end
theorem Xc(s:Str):PyData.eqv (.str s) (.str s)=true:=gr s
section
variable{mK:Nat}{K:Out->Prop}{ss:List V}
theorem yv(hv:sc v=true)(m:Nat):∃d,rd H m v=some d/\PyData.eqv d d=true:=by
 cases v with
 |aC _=>cases hv
 |ref _=>cases hv
 |fu=>cases hv
 |str s=>cases m<;>exact⟨.str s,bL hv,Xc s⟩
 |none=>cases m<;>exact⟨_,rfl,rfl⟩
 |bool b=>cases m<;>exact⟨_,rfl,by cases b<;>rfl⟩
 |int i=>cases m<;>exact⟨_,rfl,qC i⟩
theorem K1(m:Nat):∀{us:List V},(∀v∈us,sc v=true)->∃ds,d0 (rd H m) us=some ds/\PyData.eqvAll ds ds=true
 |[],_=>⟨[],rfl,rfl⟩
 |v::r,h=>(yv (h v cJ) m).elim λd hd=>(K1 m λv hv=>h v (.tail _ hv)).elim λds hs=>⟨d::ds,dH hd.1 hs.1,by
   refine(?_:(PyData.eqv d d&&PyData.eqvAll ds ds)=true)
   rw[hd.2,hs.2];rfl⟩
theorem Xd(hs:∀v∈ss,sc v=true)(hu:∃ds,d0 (rd H 8) us=some ds/\PyData.eqvAll ds ds=true):∃ds,PyData.eqvAll ds ds=true/\∀lq,H[lq]?=some (.list us)->d0 (rd H 9) (ss++[.ref lq])=some ds:=by
 obtain⟨d2,e2,q2⟩:=hu
 have key:∀{ss:List V},(∀v∈ss,sc v=true)->∃ds,PyData.eqvAll ds ds=true/\∀lq,H[lq]?=some (.list us)->d0 (rd H 9) (ss++[.ref lq])=some ds:=by
  intro ss
  induction ss with
  |nil=>exact λZ=>⟨[.list d2],by
    refine(?_:(PyData.eqvAll d2 d2&&true)=true)
    rw[q2];rfl,λlq a=>dH (oo a e2) rfl⟩
  |cons v r ih=>exact λh=>(yv (H:=H) (h v cJ) 9).elim λd hd=>(ih λv hv=>h v (.tail _ hv)).elim λds nT=>⟨d::ds,by
    refine(?_:(PyData.eqv d d&&PyData.eqvAll ds ds)=true)
    rw[hd.2,nT.1];rfl,λlq a=>dH hd.1 (nT.2 lq a)⟩
 exact key hs
theorem Xe(hs:∀v∈ss,sc v=true)(hu:∃ds,d0 (rd H 8) us=some ds/\PyData.eqvAll ds ds=true)(hq:H[lq]?=some (.list us))(tm:H[mK]?=some (.list us))(ha:H[la]?=some (.list (ss++[.ref lq])))(hb:H[lb]?=some (.list (ss++[.ref mK]))):e7 .ne (.ref la) (.ref lb) H=some false:=by
 obtain⟨ds,q,e⟩:=Xd (H:=H) hs hu
 refine(?_:(kO H (.ref la) (.ref lb)).map (!·)=_)
 unfold kO
 rw[none_list ha,oo ha (e lq hq),oo hb (e mK tm)]
 refine(?_:some (!PyData.eqvAll ds ds)=_)
 rw[q];rfl
noncomputable abbrev yw:E:=.comp 1 (.br (.bi (.lH .list) [.J 0]) (.listOf (.J 0)) (.J 0)) (.J 0) (.of (.J 3)) []
theorem K2{c a b:E}(h:WE C c ρ H λx H=>aI (truthy H x) λt=>bz t (WE C a ρ H Q) (WE C b ρ H Q)):WE C (.br c a b) ρ H Q:=h
theorem K3(hv:sc v=true):vk H .list v=some false:=by
 cases v with
 |aC _=>cases hv
 |ref _=>cases hv
 |fu=>cases hv
 |_=>rfl
theorem handed(h3:ρ[3]?.join=some (.aC (ss++[.ref lq])))(hs:∀v∈ss,sc v=true)(hl:ss.length<=10)(hu:us.length<=30)(hq:H[lq]?=some (.list us))(q:∀mK lh H',aA H H'->H.length<=mK->H.length<=lh->H'[mK]?=some (.list us)->H'[lh]?=some (.list (ss++[.ref mK]))->Q (.ref lh) H'):WE C yw ρ H Q:=by
 refine j8 (nr (ba h3 (au (a:=ss++[.ref lq]) rfl ?_)))
 refine cM (cP (by rw[bX];exact bM (mS hl _) (show 11<16000000 by decide))) ?_
 have key:=pf (ws:=[]) (H₀:=H) (t:=.J 0) (test:=λρ H Q=>WT C.no [] ρ H Q) (elt:=λρ H Q=>WE C.no (.br (.bi (.lH .list) [.J 0]) (.listOf (.J 0)) (.J 0)) ρ H Q) (Q:=λvs H=>mm vs H Q) (g:=id) (λas acc ck H'=>(∃o,ck=o::ρ)/\((H'=H/\∃tl,as=tl++[.ref lq]/\acc++tl=ss)\/(as=[]/\∃mK,aA H H'/\H.length<=mK/\H'[mK]?=some (.list us)/\acc=ss++[.ref mK]))) (λv as acc ck H' hI=>?_) (λacc ck H' hI=>?_) (ss++[.ref lq]) [] (none::ρ) H ⟨⟨none,rfl⟩,.inl ⟨rfl,ss,rfl,rfl⟩⟩
 ·rw[map_id] at key;exact key
 ·obtain⟨⟨o,rfl⟩,hI|hI⟩:=hI
  ·obtain⟨rfl,tl,e,t⟩:=hI
   refine au (a:=some v::ρ) rfl λN hN=>yi (ey rfl (K2 ?_))
   cases tl with
   |nil=>
    obtain⟨rfl,rfl⟩:=g9 e
    rw[dO] at t
    subst t
    refine(?_:aI (vk H' .list (.ref lq)) _)
    refine au (a:=true) (bU (Option.map λZ=>true) (cC hq)) ?_
    refine(?_:WE C.no (.listOf (.J 0)) (some (.ref lq)::ρ) H' _)
    refine yu (ba rfl (au (oX hq) (cM (cP (bM hu (by decide))) (iR ?_))))
    exact hN _ _ rfl ⟨⟨_,rfl⟩,.inr ⟨rfl,_,aA.aO _ _,cg _,aZ _ _,rfl⟩⟩
   |cons u tl=>
    obtain⟨rfl,rfl⟩:=g9 e
    refine(?_:aI (vk H' .list v) _)
    refine au (K3 (hs v (t▸cF.mpr (.inr cJ)))) ?_
    refine au (a:=false) rfl (e8 rfl ?_)
    exact ba rfl (hN _ _ rfl ⟨⟨_,rfl⟩,.inl ⟨rfl,tl,rfl,gh t⟩⟩)
  ·cases hI.1
 ·obtain⟨⟨o,rfl⟩,hI|hI⟩:=hI
  ·obtain⟨_,tl,e,_⟩:=hI
   cases tl<;>cases e
  ·obtain⟨_,mK,x,h1,h2,rfl⟩:=hI
   exact iR (q mK _ _ (x.trans (aA.aO _ _)) h1 x.len (be _ h2) (aZ _ _))
theorem Xf(hs:∀v∈ss,sc v=true)(ha:H[la]?=some (.list ss))(hb:H[lb]?=some (.list ss)):e7 .ne (.ref la) (.ref lb) H=some false:=by
 obtain⟨ds,e,q⟩:=K1 (H:=H) 9 hs
 refine(?_:(kO H (.ref la) (.ref lb)).map (!·)=_)
 unfold kO
 rw[none_list ha,oo ha e,oo hb e]
 refine(?_:some (!PyData.eqvAll ds ds)=_)
 rw[q];rfl
theorem Xg(h3:ρ[3]?.join=some (.aC ss))(hs:∀v∈ss,sc v=true)(hl:ss.length<=10)(q:Q (.ref H.length) (H++[.list ss])):WE C yw ρ H Q:=by
 refine j8 (nr (ba h3 (au (a:=ss) rfl ?_)))
 refine cM (cP (bM hl (by decide))) ?_
 have key:=iF (g:=id) (P:=λZ=>true) (F:=id) (ws:=watch (.aC ss)) (H:=H) (test:=λρ H Q=>WT C.no [] ρ H Q) (elt:=λρ H Q=>WE C.no (.br (.bi (.lH .list) [.J 0]) (.listOf (.J 0)) (.J 0)) ρ H Q) (d6:=ρ) (Q:=λvs H=>mm vs H Q) ss none [] (λv Z T hT=>hT) (λv hv Z N hN=>?_) ?_
 ·rw[map_id] at key;exact key
 ·refine K2 ?_
  refine(?_:aI (vk H .list v) _)
  refine au (K3 (hs v hv)) (au (a:=false) rfl (e8 rfl ?_))
  exact ba rfl hN
 ·rw[lS,map_id]
  exact iR q
theorem K4:∀{vs:List V},(∀v∈vs,iy v)->∃ds,d0 (rd H 8) vs=some ds/\PyData.eqvAll ds ds=true
 |[],_=>⟨[],rfl,rfl⟩
 |v::r,h=>by
  obtain⟨g,rfl,h1,h2,h3⟩:=h v cJ
  obtain⟨a,ha,qa⟩:=yv (H:=H) h1 7
  obtain⟨b,hb,qb⟩:=yv (H:=H) h2 7
  obtain⟨c,hc,qc⟩:=yv (H:=H) h3 7
  obtain⟨ds,hd,qd⟩:=K4 λv hv=>h v (.tail _ hv)
  refine⟨.tuple [a,b,c]::ds,dH (show rd H 8 (mI g)=some (.tuple [a,b,c]) from bU (Option.map PyData.tuple) (dH ha (dH hb (dH hc rfl)))) hd,?_⟩
  refine(?_:((PyData.eqv a a&&(PyData.eqv b b&&(PyData.eqv c c&&true)))&&PyData.eqvAll ds ds)=true)
  rw[qa,qb,qc,qd];rfl
end
section
variable{ps:List aH}{c:V}{k:Nat}
theorem K5(hp:ps[k]?=some p)(hq:q.aQ=p.aQ){b:Int}(h:ib ps b j):ib (ps.set k q) b j:=h.elim λz hz=>by
 by_cases e:k=j
 ·subst e
  rw[hp] at hz
  cases hz.1
  exact⟨q,sd (dZ.mp hp).1,by rw[hq];exact hz.2⟩
 ·exact⟨z,(getElem?_set_ne e).trans hz.1,hz.2⟩
theorem Xh(wf:dv ps)(hp:ps[k]?=some p)(hq:q.aQ=p.aQ)(ho:nZ ps q):dv (ps.set k q):=λi z hz=>by
 have up:∀{z},nZ ps z->nZ (ps.set k q) z:=λh=>h _ λa b c d e=>.mk (λj hj=>K5 hp hq (a j hj)) (λx hx j hj=>K5 hp hq (b x hx j hj)) c d e
 by_cases e:k=i
 ·subst e
  rw[sd (dZ.mp hp).1] at hz
  cases hz
  exact up ho
 ·rw[getElem?_set_ne e] at hz
  exact up (wf i z hz)
theorem K6{q:aH}(hq:gX q=gX p):∀{ps:List aH} {k:Nat},ps[k]?=some p->((ps.set k q).filter gX).length=(ps.filter gX).length
 |x::l,0,h=>by
  cases h
  refine(?_:((q::l).filter gX).length=_)
  rw[filter_cons,filter_cons,hq]
  split<;>rfl
 |x::l,k+1,h=>by
  have ih:=K6 hq (ps:=l) (k:=k) h
  refine(?_:((x::l.set k q).filter gX).length=_)
  rw[filter_cons,filter_cons]
  split
  ·exact bU (·+1) ih
  ·exact ih
theorem Xi(h:g7 ps)(hp:ps[k]?=some p)(hq:gX q=gX p):g7 (ps.set k q):=⟨by rw[kG];exact h.1,by rw[K6 hq hp];exact h.2⟩
theorem K7(hr:dg r)(hp:r.ps[k]?=some p):dg ⟨r.ps.set k (gM p d),r.ms,r.ws⟩:=hr _ λwf len eZ cQ=>by
 have el:(r.ps.set k (gM p d)).length=r.ps.length:=kG
 exact .mk (Xh wf hp rfl ((wf k p hp) _ λa b c d e=>.mk a b c d e)) (Xi len hp rfl) (λw hw=>el▸eZ w hw) λw hw=>el▸cQ w hw
theorem Xj{w:eA}(hr:dg r)(h:w.a<r.ps.length/\w.b<r.ps.length):dg ⟨r.ps,r.ms++[w],r.ws⟩:=hr _ λwf len eZ cQ=>.mk wf len (λu hu=>(cF.mp hu).elim (eZ u) λe=>by rw[cI.mp e];exact h) cQ
theorem Xk{w:fY}(hr:dg r)(h:nj r.ps.length w.cQ/\w.cQ.length<=10):dg ⟨r.ps,r.ms,r.ws++[w]⟩:=hr _ λwf len eZ cQ=>.mk wf len eZ λu hu=>(cF.mp hu).elim (cQ u) λe=>by rw[cI.mp e];exact h
theorem Xl(hr:dg r)(hl:r.ps.length<60)(hd:0<=d):dg ⟨r.ps++[⟨d,[],none,none⟩],r.ms,r.ws⟩:=hr _ λwf len eZ cQ=>by
 have el:(r.ps++[(⟨d,[],none,none⟩:aH)]).length=r.ps.length+1:=bX
 refine .mk (Aq (p:=(⟨d,[],none,none⟩:aH)) (P:=λZ p=>nZ (r.ps++[(⟨d,[],none,none⟩:aH)]) p) (λi q hq=>(wf i q hq).aO _) (.mk (λj hj=>nomatch hj) (λx hx=>by cases hx) ⟨gu _,nodup_nil⟩ (λx hx=>by cases hx) hd)) ⟨?_,?_⟩ (λw hw=>?_) λw hw=>?_
 ·exact el▸hl
 ·rw[List.filter_append,bX]
  exact len.2
 ·have z:=eZ w hw
  exact⟨fh z.1 (el▸le_succ _),fh z.2 (el▸le_succ _)⟩
 ·exact⟨λg hg=>⟨fh ((cQ w hw).1 g hg).1 (el▸le_succ _),((cQ w hw).1 g hg).2⟩,(cQ w hw).2⟩
theorem Ek{w:V}(h:k7 r u v w=none):∃a b d,u=nv a/\v=nv b/\w=.int d/\a<r.ps.length/\b<r.ps.length/\d<=100000:=by
 unfold k7 at h
 split at h
 ·rename_i h0
  split at h
  ·rename_i h1
   obtain⟨a,ea,ha⟩:=jS (eJ.mp h0).1
   obtain⟨b,eb,hb⟩:=jS (eJ.mp h0).2
   obtain⟨d,ed,_,hd⟩:=mD h1
   exact⟨a,b,d,ea,eb,ed,ha,hb,hd⟩
  ·cases h
 ·cases h
theorem K8{w:V}(h:outD r u w=none):∃a d p,u=nv a/\w=.int d/\r.ps[a]?=some p:=by
 unfold outD at h
 split at h
 ·rename_i h0
  split at h
  ·rename_i h1
   obtain⟨a,ea,ha⟩:=jS h0
   obtain⟨d,ed,_⟩:=mD h1
   obtain⟨p,hp⟩:=at_of ha
   exact⟨a,d,p,ea,ed,hp⟩
  ·cases h
 ·cases h
theorem K9{w:V}{gs:List Gv}(h:k8 r u w gs=none):∃a d,u=nv a/\w=.int d/\okN r.ps gs=true/\ie a (gs.map gA)=false/\a<r.ps.length:=by
 unfold k8 at h
 split at h
 ·rename_i h0
  split at h
  ·rename_i h1
   obtain⟨a,ea,ha⟩:=jS (eJ.mp h0).1
   obtain⟨d,ed,_⟩:=mD h1
   obtain⟨p,hp⟩:=at_of ha
   refine⟨a,d,ea,ed,(eJ.mp h0).2,?_,ha⟩
   rw[ea,show natOf (nv a)=a from rfl,hp] at h
   have h:lX p a (dC w) (gs.map gA)=none:=h
   unfold lX at h
   split at h
   ·cases h
   ·split at h
    ·cases h
    ·rename_i h3;exact Bool.eq_false_iff.mpr h3
  ·cases h
 ·cases h
theorem El{gs:List Gf}(h:ie k gs=false):gs.length<=10/\gs.all iT=true:=by
 have h:=qM.mp h
 refine⟨?_,?_⟩
 ·have z:=(qM.mp h.1).1
  rw[iB] at z
  exact cf (eJ.mp z).2
 ·exact(iB _).mp (qM.mp h.2).1
theorem Xm{gs:List Gv}(hn:okN ps gs=true)(h:ie k (gs.map gA)=false):nj ps.length ((gs.map gA).map gP)/\((gs.map gA).map gP).length<=10:=by
 obtain⟨h1,h2⟩:=El h
 refine⟨λg hg=>?_,by rw[aS];exact h1⟩
 obtain⟨z,hz,rfl⟩:=fj.mp hg
 obtain⟨y,hy,rfl⟩:=fj.mp hz
 refine AF (iA.mp h2 _ hz) λZ Z Z Z Z Z Z Z s=>⟨?_,s⟩
 obtain⟨j,e,hj⟩:=jS (iA.mp hn y hy)
 refine(?_:natOf y.1<_)
 rw[e];exact hj
theorem Xn{w:V}(h:k7 r u v w=some j):j<8:=by
 unfold k7 nu at h
 split at h
 ·split at h
  ·split at h
   ·cases h;decide
   ·split at h
    ·cases h
    ·cases h;decide
  ·cases h;decide
 ·cases h;decide
theorem La(h:outD r u v=some j):j<8:=by
 unfold outD at h
 split at h
 ·split at h
  ·cases hp:r.ps[natOf u]? with
   |none=>rw[hp] at h;cases h
   |some p=>
    rw[hp] at h
    have h:jU r p (natOf u) (dC v)=some j:=h
    unfold jU at h
    split at h
    ·cases h;decide
    ·split at h
     ·cases h;decide
     ·cases h
  ·cases h;decide
 ·cases h;decide
theorem Xo{gs:List Gv}(h:k8 r u v gs=some j):j<8:=by
 unfold k8 at h
 split at h
 ·split at h
  ·cases hp:r.ps[natOf u]? with
   |none=>rw[hp] at h;cases h
   |some p=>
    rw[hp] at h
    have h:lX p (natOf u) (dC v) (gs.map gA)=some j:=h
    unfold lX at h
    split at h
    ·cases h;decide
    ·split at h
     ·cases h;decide
     ·cases h
  ·cases h;decide
 ·cases h;decide
end
theorem yx:∀j,j<8->PyData.strOk (pE.getD j "")=true/\(pE.getD j ""==("":Str))=false:=by decide +kernel
def eI(B x:Nat):Prop:=x<B\/B+5<=x
section
variable{i:Nat}{K:Out->Prop}{ss:List V}{f:V}{o:Option Nat}
theorem cK.k(h:cK H r l lm lw)(hl:eI B l/\eI B lm/\eI B lw)(x:cw B H H'):cK H' r l lm lw:=h _ λa b c=>.mk (x _ _ hl.1 a) (x _ _ hl.2.1 b) (x _ _ hl.2.2 c)
theorem Lb{s:Str}(h:PyData.strOk s=true):e7 .ne (.str s) (.str s) H=some false:=(bU (Option.map (!·)) (uD h h)).trans (by rw[gr];rfl)
theorem Lc(h:∀j,o=some j->j<8):PyData.strOk (jD o)=true:=by
 cases o with
 |none=>exact AS
 |some j=>exact(yx j (h j rfl)).1
theorem Ld(h:∀j,o=some j->j<8):e7 .eq (.str (jD o)) (.str "") H=some o.isNone:=(uD (Lc h) AS).trans (by
 cases o with
 |none=>rw[show(jD none==("":Str))=true from gr _];rfl
 |some j=>rw[show(jD (some j)==("":Str))=false from(yx j (h j rfl)).2];rfl)
noncomputable abbrev uN:S:=.br (.or [(.cmp .ne (.J 8) (.J 7)),(.isNone false (.J 9)),(.cmp .ne (.listOf (.J 3)) (.J 6))]) [.ret (.k (.bool false))] []
noncomputable abbrev wi:S:=.br (.cmp .eq (.J 7) (.k (.str ""))) [.aN (.J 1) (.call 55 [.J 1,.J 3])] []
noncomputable abbrev r7:S:=.br (.cmp .ne (.dJ 75 (.J 2) []) (.J 1)) [.ret (.k (.bool false))] []
theorem Le(h:cK H r l lm lw)(h':cK H r l' kR kS):e7 .ne (.aC [.ref l,.ref lm,.ref lw]) (.aC [.ref l',.ref kR,.ref kS]) H=some false:=bU (Option.map (!·)) (UQ h h')
theorem Lf(hC:C.call=ay (n+71))(b:dp B H r)(at':cK H r l lm lw)(hl:r.ps.length<=60/\r.ms.length<=1000/\r.ws.length<=1000)(h:∀H',aA H H'->aG C rest (gj l lm lw B o3 o4 o5 o6 o7 o8 o9) H' K):aG C (r7::rest) (gj l lm lw B o3 o4 o5 o6 o7 o8 o9) H K:=b _ λld ep vf es a0 a1 ap am aw ad hd de=>by
 refine iw (pA ?_)
 refine(?_:aI (cc H (.ref (B+1))) _)
 refine mc a1 a0 ?_
 refine(?_:C.call 75 [.ref (B+1)] H _ C.exc)
 rw[hC]
 refine JT b hl λa b' c H' x at2=>?_
 refine ba rfl ?_
 refine au (Le at2 (at' _ λz1 z2 z3=>.mk (x _ _ z1) (x _ _ z2) (x _ _ z3))) ?_
 exact e8 rfl (h H' x)
theorem Lg{a b c:E}(h:WE C a ρ H λx H=>aI (truthy H x) λt=>bz (t==false) (WE C b ρ H λx H=>aI (truthy H x) λt=>bz (t==false) (WE C c ρ H Q) (Q x H)) (Q x H)):WE C (.or [a,b,c]) ρ H Q:=h
theorem Lh(hj:∀j,o=some j->j<8)(uA:Dl.length<=11)(dQ:∀la H',aA H H'->H'[la]?=some (.list Dl)->e7 .ne (.ref la) (.ref lh) H'=some false)(h:∀H',aA H H'->aG C rest (gj l lm lw B (some (.aC Dl)) o4 o5 (some (.ref lh)) (some (.str (jD o))) (some (.str (jD o))) (some .none)) H' K):aG C (uN::rest) (gj l lm lw B (some (.aC Dl)) o4 o5 (some (.ref lh)) (some (.str (jD o))) (some (.str (jD o))) (some .none)) H K:=by
 refine iw (pB (Lg (jg (ba rfl (ba rfl (au (Lb (Lc hj)) ?_))))))
 refine au (a:=false) rfl (ey rfl (Eb (ba (v:=.none) rfl (au (a:=false) rfl (ey rfl ?_)))))
 refine jg (yu (ba rfl (au Ec (cM (cP (bM uA (by decide))) (iR (ba rfl ?_))))))
 refine au (dQ _ _ (aA.aO _ _) (aZ _ _)) ?_
 exact au (a:=false) rfl (e8 rfl (h _ (aA.aO _ _)))
end
section
variable{K:Out->Prop}{r2:dN}{o:Option Nat}
noncomputable abbrev wj:S:=.aN (.J 6) yw
noncomputable abbrev wl:S:=.aN (.J 7) (.call 54 [.J 1,.J 3])
noncomputable abbrev wm:S:=.aN (.aC [.J 8,.J 9]) (.call 47 [.J 2,.J 3])
def uO(K:Out->Prop)(B:Nat)(o4 o5:Option V)(H:Hp)(r2:dN):Prop:=∀a b c o3 o6 o7 o8 o9 H',cw B H H'->cK H' r2 a b c->cU B H' r2->eI B a/\eI B b/\eI B c->K (.next (gj a b c B o3 o4 o5 o6 o7 o8 o9) H')
theorem Em(hC:C.call=ay (n+71))(at':cK H r l lm lw)(b:cU B H r)(iV:eI B l/\eI B lm/\eI B lw)(hl:r.ps.length<=60/\r.ms.length<=1000/\r.ws.length<=1000)(uA:Dl.length<=11)(hj:∀j,o=some j->j<8)
  (hh:∀ρ Q,ρ[3]?.join=some (.aC Dl)->(∀lh H',aA H H'->(∀H'',cw B H' H''->∀la,H''[la]?=some (.list Dl)->e7 .ne (.ref la) (.ref lh) H''=some false)->Q (.ref lh) H')->WE C yw ρ H Q)
  (Xp:∀H',aA H H'->∀Q Y:PQ,(∀H'',aA H' H''->Q (.str (jD o)) H'')->ay (n+71) 54 [.aC [.ref l,.ref lm,.ref lw],.aC Dl] H' Q Y)
  (Xq:∀H',aA H H'->∀Q Y:PQ,(o=none->∀H'',cw B H' H''->cU B H'' r2->Q .none H'')->(∀j,o=some j->∀H'',aA H' H''->Y (.ref H''.length) (H''++[.exc j]))->ay (n+70) 46 [.ref (B+1),.aC Dl] H' Q Y)
  (Xr:o=none->∀H',cw B H H'->cK H' r l lm lw->∀Q Y:PQ,(∀a b c H'',aA H' H''->H'.length<=a/\H'.length<=b/\H'.length<=c->cK H'' r2 a b c->Q (.aC [.ref a,.ref b,.ref c]) H'')->ay (n+71) 55 [.aC [.ref l,.ref lm,.ref lw],.aC Dl] H' Q Y)
  (je:o=none->r2.ps.length<=60/\r2.ms.length<=1000/\r2.ws.length<=1000) (h0:uO K B o4 o5 H r) (h1:o=none->uO K B o4 o5 H r2):aG C [wj,wl,wm,uN,wi,r7] (gj l lm lw B (some (.aC Dl)) o4 o5 o6 o7 o8 o9) H K:=by
 refine dU (hh _ _ rfl λlh H1 x1 dQ=>au (a:=gj l lm lw B (some (.aC Dl)) o4 o5 (some (.ref lh)) o7 o8 o9) rfl ?_)
 refine dU (ke (ba rfl (ba rfl ?_)))
 rw[hC]
 refine Xp H1 x1 _ _ λH2 x2=>au (a:=gj l lm lw B (some (.aC Dl)) o4 o5 (some (.ref lh)) (some (.str (jD o))) o8 o9) rfl ?_
 have we:=x1.trans x2
 refine dU (ke (ba rfl (ba rfl ?_)))
 rw[hC]
 refine Kc (n:=n+69) (okR:=λu H3=>o=none/\u=.none/\cw B H2 H3/\cU B H3 r2) (err:=o) (λQ' Y' tm hy=>Xq H2 we Q' Y' (λe H3 x3 b3=>tm _ _ ⟨e,rfl,x3,b3⟩) hy) (λu H3 ok=>?_) λj pu=>⟨hj j pu,λH3 x3=>?_⟩
 ·obtain⟨e,rfl,x3,b3⟩:=ok
  refine au (a:=gj l lm lw B (some (.aC Dl)) o4 o5 (some (.ref lh)) (some (.str (jD o))) (some (.str "")) (some .none)) rfl ?_
  subst e
  refine Lh (o:=none) (λZ h=>(nomatch h)) uA (λla H' x uP=>dQ H' ((x2.k.trans x3).trans x.k) la uP) λH4 x4=>?_
  have En:cw B H H4:=((we.k.trans x3).trans x4.k)
  refine iw (pA (ba rfl (bF (au (Ld (o:=none) λZ h=>(nomatch h)) (ey rfl ?_)))))
  refine dU (ke (ba rfl (ba rfl ?_)))
  rw[hC]
  refine Xr rfl H4 En (at'.k iV En) _ _ λa b' c' H5 x5 oR AJ=>au (a:=gj a b' c' B (some (.aC Dl)) o4 o5 (some (.ref lh)) (some (.str (jD none))) (some (.str "")) (some .none)) rfl (mr ?_)
  have b5:=(b3.ext x4).ext x5
  have fB:B+5<=H4.length:=cO (b3.ext x4).b.len
  refine Lf (n:=n) (r:=r2) hC b5.b AJ (je rfl) λH6 x6=>mr ?_
  exact h1 rfl a b' c' _ _ _ _ _ H6 ((En.trans x5.k).trans x6.k) (AJ.ext x6) (b5.ext x6) ⟨.inr (aR fB oR.1),.inr (aR fB oR.2.1),.inr (aR fB oR.2.2)⟩
 ·refine au (a:=gj l lm lw B (some (.aC Dl)) o4 o5 (some (.ref lh)) (some (.str (jD o))) (some (.str (pE.getD j ""))) (some .none)) rfl ?_
  subst pu
  refine Lh (o:=some j) hj uA (λla H' x uP=>dQ H' ((x2.k.trans x3.k).trans x.k) la uP) λH4 x4=>?_
  refine iw (pA (ba rfl (bF (au (Ld (o:=some j) hj) (e8 rfl ?_)))))
  refine mr ?_
  have wg:=(we.trans x3).trans x4
  refine Lf (n:=n) (r:=r) hC (b.ext wg).b (at'.ext wg) hl λH6 x6=>mr ?_
  have Eo:=wg.trans x6
  exact h0 l lm lw _ _ _ _ _ H6 Eo.k (at'.ext Eo) (b.ext Eo) iV
end
section
variable{K:Out->Prop}{w:V}{t:Nat}
def Tj(t:Nat)(r:dN):Prop:=0<r.ps.length/\r.ms.length<=900+t/\r.ws.length<=900+t/\((∀w∈r.ms,w.day<=100000)/\∀w∈r.ws,w.ff<r.ps.length)/\dg r
theorem Tj.up(h:Tj t r):Tj (t+1) r:=⟨h.1,le_succ_of_le h.2.1,le_succ_of_le h.2.2.1,h.2.2.2⟩
theorem Tj.Xs(h:Tj t r):r.ps.length<=60:=h.2.2.2.2 _ λZ f Z Z=>f.1
theorem Tj.len(h:Tj t r)(ht:t<=20):r.ps.length<=60/\r.ms.length<=1000/\r.ws.length<=1000:=⟨h.Xs,aR h.2.1 (by lia),aR h.2.2.1 (by lia)⟩
theorem Tj.eZ(h:Tj t r):AE r:=⟨h.2.2.2.2 _ λZ Z w Z=>w,h.2.2.2.1.1⟩
theorem Li{ss:List V}(b:cU B H r)(hs:∀v∈ss,sc v=true)(hl:ss.length<=10):∀ρ Q,ρ[3]?.join=some (.aC ss)->(∀lh H',aA H H'->(∀H'',cw B H' H''->∀la,H''[la]?=some (.list ss)->e7 .ne (.ref la) (.ref lh) H''=some false)->Q (.ref lh) H')->WE C yw ρ H Q:=λρ Q h3 k=>Xg h3 hs hl (k _ _ (aA.aO _ _) λH'' x la uP=>Xf hs uP (x _ _ (.inr (cO b.b.len)) (aZ _ _)))
theorem Ep{i:Nat}(hi:i<5)(hu:sc u=true)(hv:sc v=true):∀z∈[V.str (knd i),u,v],sc z=true:=λz hz=>(cH.mp hz).elim (λe=>e▸AB i hi) λhz=>(cH.mp hz).elim (λe=>e▸hu) λhz=>cI.mp hz▸hv
theorem Xu(hC:C.call=ay (n+71))(at':cK H r l lm lw)(b:cU B H r)(iV:eI B l/\eI B lm/\eI B lw)(hj:Tj t r)(ht:t<12)(hu:sc u=true)(hv:sc v=true)(hw:sc w=true)(h:∀r2,Tj (t+1) r2->uO K B o4 o5 H r2):aG C [wj,wl,wm,uN,wi,r7] (gj l lm lw B (some (rX u v w)) o4 o5 o6 o7 o8 o9) H K:=by
 have hl:=hj.len (by lia)
 have Lj:k7 r u v w=none->dg ⟨r.ps,r.ms++[⟨natOf u,natOf v,dC w⟩],r.ws⟩:=λe=>by
  obtain⟨a,b,d,rfl,rfl,rfl,ha,hb,hd⟩:=Ek e
  exact Xj hj.2.2.2.2 ⟨ha,hb⟩
 have j2:k7 r u v w=none->Tj (t+1) ⟨r.ps,r.ms++[⟨natOf u,natOf v,dC w⟩],r.ws⟩:=λe=>by
  refine⟨hj.1,by rw[bX];exact lE hj.2.1,le_succ_of_le hj.2.2.1,⟨λz hz=>(cF.mp hz).elim (hj.2.2.2.1.1 z) λe'=>?_,hj.2.2.2.1.2⟩,Lj e⟩
  obtain⟨a,b,d,rfl,rfl,rfl,ha,hb,hd⟩:=Ek e
  rw[cI.mp e'];exact hd
 have hs:∀z∈[V.str (knd 2),u,v,w],sc z=true:=λz hz=>(cH.mp hz).elim (λe=>e▸AB 2 (by decide)) λhz=>(cH.mp hz).elim (λe=>e▸hu) λhz=>(cH.mp hz).elim (λe=>e▸hv) λhz=>cI.mp hz▸hw
 refine Em (n:=n) (Dl:=[.str (knd 2),u,v,w]) (o:=k7 r u v w) (r2:=⟨r.ps,r.ms++[⟨natOf u,natOf v,dC w⟩],r.ws⟩) hC at' b iV hl (show 4<=11 by decide) (λj h=>Xn h) (Li b hs (show 4<=10 by decide)) (λH' x Q Y q=>We (n:=n+67) (at'.ext x) hj.eZ.1 hu hv hw q) (λH' x Q Y q y=>J5 (n:=n+69) (b.ext x).b (VH (n:=n) (b.ext x).b hl.1 hj.eZ hl.2.1 hu hv hw (λj h H'' x'=>dt (y j h H'' x')) (λe=>.inr (Lj e)) λe H'' x' b'=>q e H'' x' b')) (λe H' x at2 Q Y q=>?_) (λe=>(j2 e).len (by lia)) (h _ hj.up) λe=>h _ (j2 e)
 obtain⟨a,b',d,rfl,rfl,rfl,ha,hb,hd⟩:=Ek e
 exact Wj (n:=n+70) hl at2 q
theorem Xv(hC:C.call=ay (n+71))(at':cK H r l lm lw)(b:cU B H r)(iV:eI B l/\eI B lm/\eI B lw)(hj:Tj t r)(ht:t<12)(hu:sc u=true)(hv:sc v=true)(h:∀r2,Tj (t+1) r2->uO K B o4 o5 H r2):aG C [wj,wl,wm,uN,wi,r7] (gj l lm lw B (some (jT u v)) o4 o5 o6 o7 o8 o9) H K:=by
 have hl:=hj.len (by lia)
 have ex:∃p:aH,∀q,r.ps[natOf u]?=some q->q=p:=by
  cases hp:r.ps[natOf u]? with
  |none=>exact⟨⟨0,[],none,none⟩,λq h=>nomatch h⟩
  |some p=>exact⟨p,λq h=>(dA h).symm⟩
 obtain⟨p,ep⟩:=ex
 have j2:outD r u v=none->Tj (t+1) ⟨r.ps.set (natOf u) (gM p (dC v)),r.ms,r.ws⟩:=λe=>by
  obtain⟨a,d,q,rfl,rfl,hq⟩:=K8 e
  have:=ep q hq
  subst this
  exact⟨by rw[kG];exact hj.1,le_succ_of_le hj.2.1,le_succ_of_le hj.2.2.1,⟨hj.2.2.2.1.1,λw hw=>by rw[kG];exact hj.2.2.2.1.2 w hw⟩,K7 hj.2.2.2.2 hq⟩
 refine Em (n:=n) (Dl:=[.str (knd 3),u,v]) (o:=outD r u v) (r2:=⟨r.ps.set (natOf u) (gM p (dC v)),r.ms,r.ws⟩) hC at' b iV hl (show 3<=11 by decide) (λj h=>La h) (Li b (Ep (by decide) hu hv) (show 3<=10 by decide)) (λH' x Q Y q=>Wf (n:=n+67) (at'.ext x) hl.2 hu hv q) (λH' x Q Y q y=>DW (n:=n+69) (b.ext x).b (Kb (n:=n) (b.ext x).b hl.1 hu hv (λj h=>dt (y j h H' (aA.refl _))) (λe q hq=>ep q hq▸(j2 e).2.2.2.2) λe p' dB H'' x' b'=>q e H'' x' (ep p' dB▸b'))) (λe H' x at2 Q Y q=>?_) (λe=>(j2 e).len (by lia)) (h _ hj.up) λe=>h _ (j2 e)
 obtain⟨a,d,p',rfl,rfl,dB⟩:=K8 e
 have:=ep p' dB
 subst this
 exact Ko (n:=n+70) hl at2 dB q
theorem Xw(hC:C.call=ay (n+71))(at':cK H r l lm lw)(b:cU B H r)(iV:eI B l/\eI B lm/\eI B lw)(hj:Tj t r)(ht:t<12)(hu:sc u=true)(hv:sc v=true)(hg:∀x∈vs,iy x)(gJ:vs.length<=30)(mG:B+5<=lg)(ag:H[lg]?=some (.list vs))(h:∀r2,Tj (t+1) r2->uO K B o4 o5 H r2):aG C [wj,wl,wm,uN,wi,r7] (gj l lm lw B (some (oB u v lg)) o4 o5 o6 o7 o8 o9) H K:=by
 have hl:=hj.len (by lia)
 obtain⟨gs,rfl,hs⟩:=Kt hg
 rw[aS] at gJ
 have j2:k8 r u v gs=none->Tj (t+1) ⟨r.ps,r.ms,r.ws++[mJ (natOf u) (dC v) (gs.map gA)]⟩:=λe=>by
  obtain⟨a,d,rfl,rfl,hn,hb,ha⟩:=K9 e
  exact⟨hj.1,le_succ_of_le hj.2.1,by rw[bX];exact lE hj.2.2.1,⟨hj.2.2.2.1.1,λw hw=>(cF.mp hw).elim (hj.2.2.2.1.2 w) λe=>by rw[cI.mp e];exact ha⟩,Xk hj.2.2.2.2 (Xm hn hb)⟩
 have hB:=b.b.len
 refine Em (n:=n) (Dl:=[.str (knd 4),u,v,.ref lg]) (o:=k8 r u v gs) (r2:=⟨r.ps,r.ms,r.ws++[mJ (natOf u) (dC v) (gs.map gA)]⟩) hC at' b iV hl (show 4<=11 by decide) (λj h=>Xo h) (λρ Q h3 k=>handed (ss:=[.str (knd 4),u,v]) h3 (Ep (by decide) hu hv) (show 3<=10 by decide) (by rw[aS];exact gJ) ag λmK lh H1 x1 Xx Xy Xz ah=>k lh H1 x1 λH'' x la uP=>?_) (λH' x Q Y q=>Wg (n:=n+67) (at'.ext x) hu hv hs (aR gJ (by decide)) (x _ _ ag) q) (λH' x Q Y q y=>J6 (n:=n+69) (b.ext x).b (VN (n:=n) (b.ext x).b hl.1 hl.2.2 hu hv hs (aR gJ (by decide)) (x _ _ ag) (λj h H'' x'=>dt (y j h H'' x')) (λe=>.inr (j2 e).2.2.2.2) λe H'' x' b'=>q e H'' x' b')) (λe H' x at2 Q Y q=>?_) (λe=>(j2 e).len (by lia)) (h _ hj.up) λe=>h _ (j2 e)
 ·exact Xe (ss:=[.str (knd 4),u,v]) (Ep (by decide) hu hv) (K4 hg) (x _ _ (.inr mG) (x1 _ _ ag)) (x _ _ (.inr (aR (cO hB) Xx)) Xz) uP (x _ _ (.inr (aR (cO hB) Xy)) ah)
 ·obtain⟨a,d,rfl,rfl,hn,hb,_⟩:=K9 e
  exact Wk (n:=n+69) hl at2 (AH hn▸x _ _ (.inr mG) ag) (El hb).2 (El hb).1 q
noncomputable abbrev Lk:S:=.aN (.J 3) (.call 60 [.J 1,(.bin .add (.call 26 [.J 0,(.bin .add (kI 5) (.bin .mod (.J 4) (kI 5)))]) (.J 5))])
noncomputable abbrev Er:S:=.for (.aC [.J 4,.J 5]) (.nH (.call 28 [(.call 26 [.J 0,(kI 11)]),(kI 10)])) [Lk,wj,wl,wm,uN,wi,r7]
theorem turn{k:Nat}(hC:C.call=ay (n+71))(at':cK H r l lm lw)(b:cU B H r)(iV:eI B l/\eI B lm/\eI B lw)(hj:Tj t r)(ht:t<12)(h:∀r2,Tj (t+1) r2->uO K B (some (nv k)) (some (.int x)) H r2):aG C [Lk,wj,wl,wm,uN,wi,r7] (gj l lm lw B o3 (some (nv k)) (some (.int x)) o6 o7 o8 o9) H K:=by
 have hl:=hj.len (by lia)
 refine dU (ke (ba rfl (cL (ke (ba rfl (cL (bF (cL (ba rfl (bF ?_))))))))))
 obtain⟨m,hm,_⟩:=jA (k:Int) (k:=5) (by decide)
 refine cR (gi (b:=5) (by decide)) ?_
 rw[show(k:Int).fmod 5=(m:Int) from hm]
 refine cR (z:=((5+m:Nat):Int)) (by refine(?_:some ((5:Int)+(m:Int))=_);rw[Int.natCast_add];rfl) ?_
 rw[hC]
 refine oZ (n:=n+70) (k:=5+m) ?_
 refine ba rfl (cR rfl ?_)
 have tk:∀{H1:Hp},aA H H1->∀r2,Tj (t+1) r2->uO K B (some (nv k)) (some (.int x)) H1 r2:=λx1 r2 z a b c o3 o6 o7 o8 o9 H' xx=>h _ z a b c o3 o6 o7 o8 o9 H' (x1.k.trans xx)
 refine W0 (n:=n+68) at' ⟨hj.1,hl⟩ hj.eZ.1 ⟨λu v w H1 hu hv hw x1=>?_,λu v H1 hu hv x1=>?_,λu v lg vs H1 hu hv hg gJ mG ag x1=>?_⟩
 ·exact au (a:=gj l lm lw B (some (rX u v w)) (some (nv k)) (some (.int x)) o6 o7 o8 o9) rfl (Xu (n:=n) hC (at'.ext x1) (b.ext x1) iV hj ht hu hv hw (tk x1))
 ·exact au (a:=gj l lm lw B (some (jT u v)) (some (nv k)) (some (.int x)) o6 o7 o8 o9) rfl (Xv (n:=n) hC (at'.ext x1) (b.ext x1) iV hj ht hu hv (tk x1))
 ·exact au (a:=gj l lm lw B (some (oB u v lg)) (some (nv k)) (some (.int x)) o6 o7 o8 o9) rfl (Xw (n:=n) hC (at'.ext x1) (b.ext x1) iV hj ht hu hv hg gJ (aR (cO b.b.len) mG) ag (tk x1))
end
section
variable{K:Out->Prop}{w:V}{t:Nat}
theorem Ll:∀(k:Nat) (xs:List Int),(en k xs).length=xs.length
 |_,[]=>rfl
 |k,x::r=>bU (·+1) (Ll (k+1) r)
theorem turns(hC:C.call=ay (n+71))(at':cK H r l lm lw)(b:cU B H r)(iV:eI B l/\eI B lm/\eI B lw)(hj:Tj 0 r)(h:∀a b c r2 o3 o4 o5 o6 o7 o8 o9 H',Tj 10 r2->cK H' r2 a b c->cU B H' r2->eI B a/\eI B b/\eI B c->aG C rest (gj a b c B o3 o4 o5 o6 o7 o8 o9) H' K):aG C (Er::rest) (gj l lm lw B o3 o4 o5 o6 o7 o8 o9) H K:=by
 refine yb ?_
 refine(?_:WE C (.call 28 [(.call 26 [.J 0,(kI 11)]),(kI 10)]) (gj l lm lw B o3 o4 o5 o6 o7 o8 o9) H _)
 refine ke (ke (ba rfl (bF ?_)))
 rw[hC]
 refine oZ (n:=n+70) (k:=11) (bF ?_)
 refine vX (n:=n+70) (m:=10) (by decide) λls H1 xs D9 Z nk x1 ax=>?_
 refine au (cC ax) ?_
 rw[Ao]
 have hB:=b.b.len
 refine fR (g:=Do) (λas ρ H'=>∃a b c r2 t o3 o4 o5 o6 o7 o8 o9,ρ=gj a b c B o3 o4 o5 o6 o7 o8 o9/\cK H' r2 a b c/\cU B H' r2/\(eI B a/\eI B b/\eI B c)/\Tj t r2/\t+as.length<=10/\cw B H1 H') (λkx as ρ H' hI=>?_) (λρ H' hI=>?_) _ _ _ ⟨l,lm,lw,r,0,o3,o4,o5,o6,o7,o8,o9,rfl,at'.ext x1,b.ext x1,iV,hj,by rw[Ll,D9];exact cg _,cw.refl _ _⟩
 ·obtain⟨a,b',c,r2,t,o3,o4,o5,o6,o7,o8,o9,rfl,at2,b2,wo,uF,ht,x⟩:=hI
  rw[iY] at ht
  refine au (a:=gj a b' c B o3 (some (nv kx.1)) (some (.int kx.2)) o6 o7 o8 o9) rfl λN hN=>?_
  refine turn (n:=n) (C:=C.xq) hC at2 b2 wo uF (by lia) λr3 XA a' b3 c' p3 p6 p7 p8 p9 H3 xx Es XB XC=>?_
  have x3:=x.trans xx
  exact hN _ _ (dm ax (x3 _ _ (.inr (aR (cO hB) nk)) ax)) ⟨a',b3,c',r3,t+1,_,_,_,_,_,_,_,rfl,Es,XB,XC,XA,by lia,x3⟩
 ·obtain⟨a,b',c,r2,t,o3,o4,o5,o6,o7,o8,o9,rfl,at2,b2,wo,uF,ht,x⟩:=hI
  have up:∀(m:Nat) {t:Nat},Tj t r2->Tj (t+m) r2:=λm=>m.rec (motive:=λm=>∀{t:Nat},Tj t r2->Tj (t+m) r2) (λh=>h) λm ih t h=>(ih h).up
  rw[length_nil] at ht
  have XD:Tj 10 r2:=by have z:=up (10 - t) uF;rw[show t+(10 - t)=10 by lia] at z;exact z
  exact h a b' c r2 o3 o4 o5 o6 o7 o8 o9 H' XD at2 b2 wo
theorem XE{e3:E}(h:WE C e1 ρ H λa H=>WE C e2 ρ H λb H=>WE C e3 ρ H λc H=>WE C e4 ρ H λd H=>Q (.aC [a,b,c,d]) H):WE C (.aC [e1,e2,e3,e4]) ρ H Q:=h
def Et(_:Nat):Prop:=True
theorem XF{P:Nat->Prop}{rs:List fZ}(h:cz (rR P H) rs vs)(ok:∀x∈rs,ot x):d0 (rd H 9) vs=some (rs.map Ax):=h.rec (motive:=λrs vs Z=>(∀x∈rs,ot x)->d0 (rd H 9) vs=some (rs.map Ax)) (λZ=>rfl) (λh Z ih ok=>dH (JF h (ok _ cJ)) (ih λx hx=>ok x (.tail _ hx))) ok
theorem XG{P:Nat->Prop}{rs:List fZ}(a:H[lr]?=some (.list vs))(h:cz (rR P H) rs vs)(ok:∀x∈rs,ot x)(hl:rs.length<=14000000)(q:∀lc us H',aA H H'->H'[lc]?=some (.list us)->cz (rR Et H') rs us->Q (.ref lc) H'):ay (n+1) 25 [.ref lr] H Q Y:=RC (by
 unfold Bg
 refine oy (j8 (nr (ba (v:=.ref lr) rfl (au (cT a) (cM (cP (show vs.length<16000000 by rw[h.len];exact bM hl (by decide))) ?_)))))
 refine I0 (R:=rR P H) (λas acc ρ H'=>(∃o1 o2 o3 o4,ρ=[o1,o2,o3,o4,some (.ref lr)])/\aA H H'/\∃an,an++as=rs/\cz (rR Et H') an acc) (λx v as acc ρ H' hv hI=>?_) (λacc ρ H' hI=>?_) h [] _ H ⟨⟨none,none,none,none,rfl⟩,aA.refl _,[],rfl,.nil⟩
 ·obtain⟨⟨o1,o2,o3,o4,rfl⟩,xx,an,t,ha⟩:=hI
  obtain⟨ll,hp,rfl,al⟩:=hv
  refine au (a:=[some (xX x.j4),some (rv x.part),some (.str x.how),some (.ref ll),some (.ref lr)]) rfl λN hN=>?_
  refine yi (ey rfl (XE (ba rfl (ba rfl (ba rfl (yu (ba rfl (au (oX (xx _ _ al)) (cM (cP ?_) (iR ?_))))))))))
  ·rw[aS]
   exact bM (ok x (t▸cF.mpr (.inr cJ))).2 (by decide)
  ·exact hN _ _ (dm a ((xx.trans (aA.aO _ _)) _ _ a)) ⟨⟨_,_,_,_,rfl⟩,xx.trans (aA.aO _ _),an++[x],gh t,(ha.imp λZ Z h=>h.imp λl h=>⟨h.1,h.2.1,be _ h.2.2⟩).snoc ⟨_,trivial,rfl,aZ _ _⟩⟩
 ·obtain⟨_,xx,an,t,ha⟩:=hI
  rw[dO] at t
  subst t
  exact iR (q _ acc _ (xx.trans (aA.aO _ _)) (aZ _ _) (ha.imp λZ Z h=>h.imp λl h=>⟨h.1,h.2.1,be _ h.2.2⟩)))
noncomputable def tn(r:dN)(u:V):Option Nat:=if wh u 0 ((r.ps.length:Int) - 1) then(if fH r.ps (natOf u) then none else some 7) else some 0
theorem XH(b:cU B H r)(hu:sc u=true)(y:∀j,tn r u=some j->Y (.ref H.length) (H++[.exc j]))(q:tn r u=none->∀lc us rs H',aA H H'->H'[lc]?=some (.list us)->cz (rR Et H') rs us->(∀x∈rs,ot x)->rs≠[]->Q (.ref lc) H'):ay (n+3) 77 [.ref (B+1),u] H Q Y:=Sp (b _ λld ep vf es a0 a1 ap am aw ad hd de dk=>by
 refine(?_:aI (cc H (.ref (B+1))) _)
 refine mc a1 a0 ?_
 refine(?_:ay (n+2) 64 [.ref (B+1),u] H _ _)
 refine rS (n:=n) a1 a0 rfl ap hu (λh1=>?_) λh1=>dt (y 0 (bG (by rw[h1];decide)))
 have e1:tn r u=if fH r.ps (natOf u) then none else some 7:=bL h1
 obtain⟨k,rfl,hk⟩:=jS h1
 rw[show natOf (nv k)=k from rfl] at e1
 refine(?_:aI (cc H (.ref (B+1))) _)
 refine eD (i:=3) a1 a0 rfl ?_
 have e2:e7 .jH (nv k) (.ref ld) H=some (!gF es (k:Int)):=bU (Option.map (!·)) (JM ad)
 apply au e2
 rw[dk]
 refine cb (λh=>dt (y 7 (e1.trans (bG (by rw[(jj _).mp h];decide))))) λh=>?_
 rw[iB] at h
 obtain⟨e,he,hg⟩:=JI ((dk k).trans h)
 refine(?_:aI (cc H (.ref (B+1))) _)
 refine eD (i:=3) a1 a0 rfl ?_
 apply au (JN ad hg)
 obtain⟨lr,vs,rs,ev,_,ar,hr,ok,dQ,fB⟩:=de e he
 rw[ev]
 refine(?_:ay (n+2) 25 [.ref lr] H _ _)
 exact XG (n:=n+1) ar hr ok fB λlc us H' x a' h'=>q (e1.trans (bL h)) lc us rs H' x a' h' ok dQ)
noncomputable def XI:Option Nat->Str
 |none=>"rows"
 |some j=>pE.getD j ""
theorem XJ(h:tn r u=some j):j<8:=by
 unfold tn at h
 split at h
 ·split at h
  ·cases h
  ·cases h;decide
 ·cases h;decide
theorem XK{m:Nat}(h:WE C e1 ρ H λx H=>aI (cc H x) λt=>aI (pY H t) λZ=>WE C e2 ρ H λy H=>C.call m [x,y] H Q C.exc):WE C (.dJ m e1 [e2]) ρ H Q:=h
end
section
variable{k i:Nat}{K:Out->Prop}{w:V}{t:Nat}{h:E}{c:Int}
theorem XM(x:WE ⟨C.call,λv H=>aI (excAt H v) λj=>hJ j k=true/\WE C.no h (ρ.set i (some v)) H λr H=>K (.ret r H)⟩ e ρ H λv H=>K (.ret v H)):aG C (.jI none e k i h::rest) ρ H K:=x
theorem Lm(b:cU B H r)(hu:sc u=true)(q:∀H',aA H H'->Q (.str (XI (tn r u))) H'):ay (n+5) 61 [.ref (B+1),u] H Q Y:=Sb (by
 unfold Br
 refine XM (cD (D3 (bF (bF (D4 (jg (XK (ba (v:=.ref (B+1)) rfl ?_))))))))
 have x1:=aA.aO H [.list [.str "",.str "rows"]]
 have b1:=b.ext x1
 refine b1 _ λld ep vf es a0 a1 ap am aw ad hd de dk=>?_
 refine mc a1 a0 (ba (v:=u) rfl ?_)
 refine(?_:ay (n+4) 77 [.ref (B+1),u] (H++[.list [.str "",.str "rows"]]) _ _)
 refine XH (n:=n+1) b1 hu (λj hj=>?_) λe lc us rs H2 x2 a2 h2 ok dQ=>?_
 ·refine au (oA (aZ _ _)) ⟨by unfold hJ;rw[show((8:Nat)==8)=true from rfl,Bool.or_true],?_⟩
  refine Kg (ba (v:=.ref (H++[bt.list [.str "",.str "rows"]]).length) rfl ?_)
  refine(?_:ay (n+4) 45 [.ref (H++[bt.list [.str "",.str "rows"]]).length] _ _ _)
  refine DS (n:=n+3) (aZ _ _) (XJ hj) λH3 x3=>?_
  have q:=q H3 ((x1.trans (aA.aO _ _)).trans x3)
  rw[hj] at q
  exact q
 ·refine qz (au (ne_nil (be _ a2) (XF (h2.imp λZ Z h=>h.imp λl h=>⟨h.1,h.2.1,be _ h.2.2⟩) ok) (aZ _ _)) ?_)
  rw[show(rs.map Ax).isEmpty=false by cases rs with|nil=>exact absurd rfl dQ|cons a l=>rfl]
  refine au (a:=true) rfl ?_
  have q:=q _ (x1.trans (x2.trans (aA.aO H2 [.list []])))
  rw[e] at q
  exact au (gf (k:=1) (be _ (x2 _ _ (aZ H (.list [.str "",.str "rows"])))) rfl) q)
noncomputable abbrev km(l lm lw B:Nat)(o3 o4 o5 o6 o7 o8 o9 o10 bT jt iD nW:Option V):bB:=[some .fu,some (.aC [.ref l,.ref lm,.ref lw]),some (.ref (B+1)),o3,o4,o5,o6,o7,o8,o9,o10,bT,jt,iD,nW]
noncomputable abbrev AU:S:=.aN (.J 14) (.call 57 [.J 10,(.bin .mod (.bin .fdiv (.J 10) (kI 36)) (.bi .len [(iI 1 0)])),(.bH [(.neg (kI 1)),(.bi .len [(iI 1 0)]),(.k (.bool true)),(.k (.bool false)),(.k .none),(.k (.str "0"))])])
noncomputable abbrev AV:S:=.br (.not (.call 48 [(iI 1 0),.J 14]))
  [.ret (.cmp .eq (.call 61 [.J 2,.J 14]) (.k (.str "person")))]
  []
noncomputable abbrev AW:S:=.ret (.cmp .eq (.call 61 [.J 2,.J 14]) (.aP (.bH [(.k (.str "rows")),(.k (.str "dead"))]) (.bi .oF [(.isNone true (.aP (.aP (iI 1 0) (.J 14)) (kI 3)))])))
theorem AX(h1:ρ[1]?.join=some (.aC [.ref l,.ref lm,.ref lw])):∀Q:PQ,Q (.ref l) H->WE C (iI 1 0) ρ H Q:=λQ q=>cD (ba h1 (bF (au (a:=.ref l) rfl q)))
theorem z5(hC:C.call=ay (n+71))(at':cK H r l lm lw)(h0:0<r.ps.length)(h:∀u H',sc u=true->aA H H'->aG C rest (km l lm lw B o3 o4 o5 o6 o7 o8 o9 (some (.int c)) bT jt iD (some u)) H' K):aG C (AU::rest) (km l lm lw B o3 o4 o5 o6 o7 o8 o9 (some (.int c)) bT jt iD nW) H K:=at' _ λap Z Z=>by
 obtain⟨a,ha,q⟩:=wc (C:=C) (ρ:=km l lm lw B o3 o4 o5 o6 o7 o8 o9 (some (.int c)) bT jt iD nW) ((EI.J (j:=10) (i:=c) rfl).fdiv (b:=36) (by decide)) (AX rfl) ap (λe=>absurd (bU List.length e) (by rw[aS];exact fE h0))
 refine dU (v0 (ba (v:=.int c) rfl (q _ ?_)))
 refine(?_:WE C (.bH [(.neg (kI 1)),(.bi .len [(iI 1 0)]),(.k (.bool true)),(.k (.bool false)),(.k .none),(.k (.str "0"))]) (km l lm lw B o3 o4 o5 o6 o7 o8 o9 (some (.int c)) bT jt iD nW) H _)
 apply au (cC ap)
 rw[aS]
 refine(?_:C.call 57 [.int c,nv a,.ref H.length] (H++[.list (tj r.ps.length)]) _ C.exc)
 rw[hC]
 exact AL (n:=n+70) (aZ _ _) (cons_ne_nil _ _) rfl D8 λu hu=>au (a:=km l lm lw B o3 o4 o5 o6 o7 o8 o9 (some (.int c)) bT jt iD (some u)) rfl (h u _ hu (aA.aO _ _))
theorem Eu{s:Str}(h:PyData.strOk s=true):e7 .eq (.str s) (.str s) H=some true:=(uD h h).trans (by rw[gr])
theorem XN:PyData.strOk "rows"=true:=by decide +kernel
theorem Ln(hC:C.call=ay (n+71))(at':cK H r l lm lw)(b:cU B H r)(hu:sc u=true)(q:∀H',K (.ret (.bool true) H')):aG C [AV,AW] (km l lm lw B o3 o4 o5 o6 o7 o8 o9 o10 bT jt iD (some u)) H K:=at' _ λap Z Z=>by
 refine iw (UB (ke (AX rfl _ (ba (v:=u) rfl ?_))))
 rw[hC]
 refine J7 (n:=n+69) ap hu (au (a:=wh u 0 ((r.ps.length:Int) - 1)) rfl ?_)
 refine cb (λh=>?_) λh=>?_
 ·refine oy (jg (ke (ba (v:=.ref (B+1)) rfl (ba (v:=u) rfl ?_))))
  rw[hC]
  refine Lm (n:=n+66) b hu λH2 x2=>?_
  rw[show tn r u=some 0 from bG (by rw[(jj _).mp h];decide)]
  exact bF (au (Eu (yx 0 (by decide)).1) (q _))
 ·have h:=(iB _).mp h
  refine mr ?_
  refine oy (jg (ke (ba (v:=.ref (B+1)) rfl (ba (v:=u) rfl ?_))))
  rw[hC]
  refine Lm (n:=n+66) b hu λH2 x2=>?_
  rw[show tn r u=if fH r.ps (natOf u) then none else some 7 from bL h]
  obtain⟨k,rfl,hk⟩:=jS h
  obtain⟨p,hp⟩:=at_of hk
  have XO:=be [.list [.str "rows",.str "dead"]] (x2 _ _ ap)
  refine cD (D3 (bF (bF (D4 (Eb (cD (cD (AX rfl _ (ba (v:=nv k) rfl (au (ee XO hp) (bF (au (a:=fW p.bR) rfl ?_))))))))))))
  have e:fH r.ps (natOf (nv k))=p.bR.isSome:=by
   rw[show natOf (nv k)=k from rfl]
   unfold fH;rw[hp];rfl
  rw[e]
  cases p.bR with
  |none=>exact au (a:=true) rfl (au (gf (k:=1) (aZ _ _) rfl) (au (Eu (yx 7 (by decide)).1) (q _)))
  |some z=>exact au (a:=false) rfl (au (gf (k:=0) (aZ _ _) rfl) (au (Eu XN) (q _)))
end
section
variable{k i m:Nat}{K:Out->Prop}{w:V}{t:Nat}{h:E}{c:Int}
theorem XQ{m:Nat}{e3:E}(h:WE C e1 ρ H λx H=>aI (cc H x) λt=>aI (pY H t) λZ=>WE C e2 ρ H λy H=>WE C e3 ρ H λz H=>C.call m [x,y,z] H Q C.exc):WE C (.dJ m e1 [e2,e3]) ρ H Q:=h
theorem Lo(b:cU B H r)(hl:r.ps.length<=60)(hu:sc u=true)(hv:sc v=true)(hT:outD r u v=none->∀p,r.ps[natOf u]?=some p->dg ⟨r.ps.set (natOf u) (gM p (dC v)),r.ms,r.ws⟩)(q0:outD r u v=none->∀p,r.ps[natOf u]?=some p->∀H',cw B H H'->cU B H' ⟨r.ps.set (natOf u) (gM p (dC v)),r.ms,r.ws⟩->Q (.aC [.str "",.none]) H')(q1:∀j,outD r u v=some j->∀H',aA H H'->Q (DT j) H'):ay (n+71) 47 [.ref (B+1),jT u v] H Q Y:=
 Kc (n:=n+69) (okR:=λx H3=>x=.none/\outD r u v=none/\∃p,r.ps[natOf u]?=some p/\cw B H H3/\cU B H3 ⟨r.ps.set (natOf u) (gM p (dC v)),r.ms,r.ws⟩) (err:=outD r u v) (λQ' Y' tm hy=>DW b.b (Kb (n:=n) b.b hl hu hv (λj hj=>dt (hy j hj H (aA.refl _))) hT λe p hp H3 x3 b3=>tm _ _ ⟨rfl,e,p,hp,x3,b3⟩)) (λx H3 ok=>by obtain⟨rfl,e,p,hp,x3,b3⟩:=ok;exact q0 e p hp H3 x3 b3) λj hj=>⟨La hj,q1 j hj⟩
theorem Lp(h:0<=d/\d<=100000):wh (.int d) 0 100000=true:=eJ.mpr ⟨c9 h.1,c9 h.2⟩
noncomputable abbrev pN(m:Nat):aH:=⟨(m:Int),[],none,none⟩
noncomputable abbrev r1(r:dN)(m:Nat):dN:=⟨r.ps++[pN m],r.ms,r.ws⟩
noncomputable abbrev r2(r:dN)(m:Nat):dN:=⟨(r.ps++[pN m]).set r.ps.length (gM (pN m) ((m:Int)+1)),r.ms,r.ws⟩
theorem Ew:(r.ps++[pN m])[r.ps.length]?=some (pN m):=by rw[qN (cg _),sub_self];rfl
theorem Ey:outD r (nv r.ps.length) (.int ((m:Int)+1))=some 0:=bG (by
 refine(?_:¬(decide (0<=((r.ps.length:Nat):Int))&&decide (((r.ps.length:Nat):Int)<=((r.ps.length:Nat):Int) - 1))=true)
 rw[gv (show ¬((r.ps.length:Nat):Int)<=((r.ps.length:Nat):Int) - 1 by lia),Bool.and_false];decide)
theorem XR(hj:Tj t r)(hm:m<100000):outD (r1 r m) (nv r.ps.length) (.int ((m:Int)+1))=none:=by
 have el:(r1 r m).ps.length=r.ps.length+1:=bX
 have w1:wh (.int ((m:Int)+1)) 0 100000=true:=Lp ⟨by lia,by lia⟩
 have w0:wh (nv r.ps.length) 0 (((r1 r m).ps.length:Int) - 1)=true:=Aw (by rw[el];exact lt_succ_self _)
 unfold outD
 rw[bL w0,bL w1]
 rw[show natOf (nv r.ps.length)=r.ps.length from rfl,show(r1 r m).ps[r.ps.length]?=some (pN m) from Ew]
 refine(?_:jU (r1 r m) (pN m) r.ps.length ((m:Int)+1)=none)
 unfold jU
 refine(bG (show ¬(pN m).bR.isSome=true from gq)).trans (bG ?_)
 have e1:(r.ws.any (jh r.ps.length ((m:Int)+1)))=false:=by
  rw[any_eq_false]
  intro w hw h
  have z:=hj.2.2.2.1.2 w hw
  have h:=(eJ.mp h).1
  exact absurd (ofNat.inj (eq_of_beq h)) (eO z)
 have e2:(r.ms.any (jC r.ps.length ((m:Int)+1)))=false:=by
  rw[any_eq_false]
  intro w hw h
  have z:=hj.eZ.1 w hw
  have h:=(eJ.mp h).1
  rw[Bool.or_false] at h
  exact(jY.mp h).elim (λh=>absurd (ofNat.inj (eq_of_beq h)) (eO z.1)) λh=>absurd (ofNat.inj (eq_of_beq h)) (eO z.2)
 refine(?_:¬kj (r1 r m) (pN m) r.ps.length ((m:Int)+1)=true)
 unfold kj
 rw[show(r1 r m).ws.any (jh r.ps.length ((m:Int)+1))=false from e1,show(r1 r m).ms.any (jC r.ps.length ((m:Int)+1))=false from e2,show decide ((m:Int)+1<(pN m).aQ)=false from gv (show ¬(m:Int)+1<(m:Int) by lia)]
 exact gq
theorem XS(hl:r.ps.length<60)(hm:m<100000):pC r.ps (.int (m:Int)) []=none:=by
 have w1:wh (.int (m:Int)) 0 100000=true:=Lp ⟨kJ m,by lia⟩
 have b1:gz r.ps [] (dC (.int (m:Int)))=false:=by
  unfold gz
  rw[List.any_nil,Bool.or_false];decide
 unfold pC
 rw[bL (show kh r.ps []=true from rfl),bL w1,map_nil,bG (by rw[b1];decide),bG (Nat.not_le.mpr hl)]
noncomputable abbrev XT:S:=.aN (.J 13) (.aC [(.k (.str "died")),.J 11,(.bin .add (.J 12) (kI 1))])
noncomputable abbrev Lq:S:=.br (.or [(.cmp .ne (.aP (.call 47 [.J 2,.J 13]) (kI 0)) (.k (.str "person"))),(.cmp .ne (.dJ 67 (.J 2) [.J 12,(.bH [])]) (.J 11)),(.cmp .ne (.aP (.call 47 [.J 2,.J 13]) (kI 0)) (.k (.str "")))])
   [.ret (.k (.bool false))]
   []
noncomputable abbrev Lr:S:=.aN (.J 1) (.call 55 [(.call 55 [.J 1,(.aC [(.k (.str "born")),.J 12,(.bH [])])]),(.aC [(.k (.str "died")),.J 11,(.bin .add (.J 12) (kI 1))])])
theorem XU(hC:C.call=ay (n+71))(b:cU B H r)(hj:Tj t r)(hl:r.ps.length<60)(hm:m<100000)(h:∀H',cw B H H'->cU B H' (r2 r m)->aG C rest (km l lm lw B o3 o4 o5 o6 o7 o8 o9 o10 (some (nv r.ps.length)) (some (nv m)) (some (jT (nv r.ps.length) (.int ((m:Int)+1)))) nW) H' K):aG C (Lq::rest) (km l lm lw B o3 o4 o5 o6 o7 o8 o9 o10 (some (nv r.ps.length)) (some (nv m)) (some (jT (nv r.ps.length) (.int ((m:Int)+1)))) nW) H K:=by
 have Ls:=Xl (d:=(m:Int)) hj.2.2.2.2 hl (kJ m)
 refine iw (pB (Lg (jg (cD (ke (ba (v:=.ref (B+1)) rfl (ba (v:=jT (nv r.ps.length) (.int ((m:Int)+1))) rfl ?_)))))))
 rw[hC]
 refine Lo (n:=n) b (cO hl) rfl rfl (λe=>by rw[Ey] at e;cases e) (λe=>by rw[Ey] at e;cases e) λj pu H1 x1=>?_
 rw[Ey] at pu;cases pu
 refine bF (au (a:=.str "person") rfl (bF (au (Lb (yx 0 (by decide)).1) (au (a:=false) rfl (ey rfl ?_)))))
 have b1:=b.ext x1
 refine jg (XQ (ba (v:=.ref (B+1)) rfl ?_))
 refine b1 _ λld ep vf es a0 a1 ap am aw ad hd de dk=>?_
 refine mc a1 a0 (ba (v:=nv m) rfl (qz ?_))
 have x2:=aA.aO H1 [.list []]
 have b2:=b1.ext x2
 rw[hC]
 refine JY (n:=n+2) (v:=nv m) (vs:=[]) b2.b (cO hl) (aZ H1 (.list [])) (λZ h=>nomatch h) rfl (gu _) (.inr (cO b1.b.len)) (λk hk=>by rw[show nv m=.int (m:Int) from rfl,XS hl hm] at hk;cases hk) (λZ=>.inr Ls) λZ H3 x3 b3=>?_
 refine ba (v:=nv r.ps.length) rfl (au (a:=false) (by refine(?_:some (!((r.ps.length:Int)==(r.ps.length:Int)))=_);rw[gr];rfl) (au (a:=false) rfl (ey rfl ?_)))
 have b3:cU B H3 (r1 r m):=b3
 refine jg (cD (ke (ba (v:=.ref (B+1)) rfl (ba (v:=jT (nv r.ps.length) (.int ((m:Int)+1))) rfl ?_))))
 rw[hC]
 have o2:=XR hj hm
 refine Lo (n:=n) (r:=r1 r m) b3 (by rw[bX];exact hl) rfl rfl (λe p hp=>?_) (λe p hp H4 x4 b4=>?_) λj pu=>by rw[o2] at pu;cases pu
 ·exact K7 Ls hp
 ·have hp:(r.ps++[pN m])[r.ps.length]?=some p:=hp
  rw[Ew] at hp
  cases hp
  refine bF (au (a:=.str "") rfl (bF (au K0 (au (a:=false) rfl (e8 rfl ?_)))))
  exact h H4 (((x1.trans x2).k.trans x3).trans x4) b4
theorem XV(hC:C.call=ay (n+71))(at':cK H r l lm lw)(hb:B+5<=H.length)(hl:r.ps.length<60/\r.ms.length<=1000/\r.ws.length<=1000)(h:∀a b c H',aA H H'->cK H' (r2 r m) a b c->eI B a/\eI B b/\eI B c->aG C rest (km a b c B o3 o4 o5 o6 o7 o8 o9 o10 (some (nv r.ps.length)) (some (nv m)) iD nW) H' K):aG C (Lr::rest) (km l lm lw B o3 o4 o5 o6 o7 o8 o9 o10 (some (nv r.ps.length)) (some (nv m)) iD nW) H K:=by
 refine dU (ke (ke (ba (v:=.aC [.ref l,.ref lm,.ref lw]) rfl (th (bF (ba (v:=nv m) rfl (qz ?_)))))))
 rw[hC]
 have x1:=aA.aO H [.list []]
 refine(?_:ay (n+71) 55 [.aC [.ref l,.ref lm,.ref lw],AC (.int (m:Int)) H.length] (H++[.list []]) _ _)
 refine Wh (n:=n+70) (ks:=[]) (d:=(m:Int)) ⟨cO hl.1,hl.2⟩ (at'.ext x1) (aZ _ _) λa b c H2 x2 oR at2=>?_
 refine th (bF (ba (v:=nv r.ps.length) rfl (cL (ba (v:=nv m) rfl (bF (cR (z:=(m:Int)+1) rfl ?_))))))
 refine(?_:ay (n+71) 55 [.aC [.ref a,.ref b,.ref c],jT (nv r.ps.length) (.int ((m:Int)+1))] H2 _ _)
 refine Ko (n:=n+70) (r:=r1 r m) (k:=r.ps.length) (p:=pN m) (d:=(m:Int)+1) ⟨by rw[bX];exact hl.1,hl.2⟩ at2 Ew λa' b' c' H3 x3 Ez Es=>?_
 have hB:B+5<=H2.length:=aR hb (x1.trans x2).len
 exact au (a:=km a' b' c' B o3 o4 o5 o6 o7 o8 o9 o10 (some (nv r.ps.length)) (some (nv m)) iD nW) rfl (h a' b' c' H3 ((x1.trans x2).trans x3) Es ⟨.inr (aR hB Ez.1),.inr (aR hB Ez.2.1),.inr (aR hB Ez.2.2)⟩)
theorem XW(hC:C.call=ay (n+71))(b:cU B H r)(at':cK H r l lm lw)(hl:r.ps.length<=60/\r.ms.length<=1000/\r.ws.length<=1000)(h:∀H',aA H H'->aG C rest (km l lm lw B o3 o4 o5 o6 o7 o8 o9 o10 bT jt iD nW) H' K):aG C (r7::rest) (km l lm lw B o3 o4 o5 o6 o7 o8 o9 o10 bT jt iD nW) H K:=b.b _ λld ep vf es a0 a1 ap am aw ad hd de=>by
 refine iw (pA ?_)
 refine(?_:aI (cc H (.ref (B+1))) _)
 refine mc a1 a0 ?_
 refine(?_:C.call 75 [.ref (B+1)] H _ C.exc)
 rw[hC]
 refine JT b.b hl λa b' c H' x at2=>?_
 refine ba rfl ?_
 refine au (Le at2 (at'.ext x)) ?_
 exact e8 rfl (h H' x)
end
section
variable{K:Out->Prop}
noncomputable abbrev EA:S:=.aN (.J 10) (.call 26 [.J 0,(kI 10)])
noncomputable abbrev EB:S:=.aN (.J 11) (.bi .len [(iI 1 0)])
noncomputable abbrev EC:S:=.aN (.J 12) (.bin .mod (.bin .fdiv (.J 10) (kI 7)) (kI 100000))
noncomputable abbrev ED:S:=.br (.cmp .lt (.J 11) (kI 60)) [XT,Lq,Lr,r7] []
theorem XX(hC:C.call=ay (n+71))(at':cK H r l lm lw)(b:cU B H r)(iV:eI B l/\eI B lm/\eI B lw)(hj:Tj 10 r)(q:∀H',K (.ret (.bool true) H')):aG C [EA,EB,EC,ED,AU,AV,AW] (gj l lm lw B o3 o4 o5 o6 o7 o8 o9) H K:=at' _ λap Z Z=>by
 have hl:=hj.len (by decide)
 refine dU (ke (ba (v:=.fu) rfl (bF ?_)))
 rw[hC]
 refine oZ (n:=n+70) (k:=10) ?_
 generalize X.is.getD 10 0=c
 refine au (a:=km l lm lw B o3 o4 o5 o6 o7 o8 o9 (some (.int c)) none none none none) rfl ?_
 refine dU (?_:WE C (.bi .len [(iI 1 0)]) _ H _)
 refine AX rfl _ (au (cC ap) ?_)
 rw[aS]
 refine au (a:=km l lm lw B o3 o4 o5 o6 o7 o8 o9 (some (.int c)) (some (nv r.ps.length)) none none none) rfl ?_
 obtain⟨m,em,hm⟩:=jA (c.fdiv 7) (k:=100000) (by decide)
 refine dU (cL (cL (ba (v:=.int c) rfl (bF (cR (pv (by decide)) (bF (cR (gi (by decide)) ?_)))))))
 rw[show(c.fdiv 7).fmod 100000=(m:Int) from em]
 refine au (a:=km l lm lw B o3 o4 o5 o6 o7 o8 o9 (some (.int c)) (some (nv r.ps.length)) (some (nv m)) none none) rfl ?_
 refine iw (pA (ba (v:=nv r.ps.length) rfl (bF (au (a:=decide ((r.ps.length:Int)<60)) rfl (cb (λh=>?_) λh=>?_)))))
 ·have k4:r.ps.length<60:=jk.mp (cf h)
  refine dU (th (bF (ba (v:=nv r.ps.length) rfl (cL (ba (v:=nv m) rfl (bF (cR (z:=(m:Int)+1) rfl ?_)))))))
  refine au (a:=km l lm lw B o3 o4 o5 o6 o7 o8 o9 (some (.int c)) (some (nv r.ps.length)) (some (nv m)) (some (jT (nv r.ps.length) (.int ((m:Int)+1)))) none) rfl ?_
  refine XU (n:=n) hC b hj k4 hm λH1 x1 b1=>?_
  have e2:(r2 r m).ps.length=r.ps.length+1:=kG.trans bX
  refine XV (n:=n) hC (at'.k iV x1) (cO b1.b.len) ⟨k4,hl.2⟩ λa b' c' H2 x2 at2 wo=>?_
  have b2:=b1.ext x2
  refine XW (n:=n) hC b2 at2 ⟨by rw[e2];exact k4,hl.2⟩ λH3 x3=>?_
  refine mr ?_
  refine z5 (n:=n) hC (at2.ext x3) (by rw[e2];exact succ_pos _) λu H4 hu x4=>?_
  exact Ln (n:=n) hC (at2.ext (x3.trans x4)) (b2.ext (x3.trans x4)) hu q
 ·refine mr ?_
  refine z5 (n:=n) hC at' hj.1 λu H4 hu x4=>?_
  exact Ln (n:=n) hC (at'.ext x4) (b.ext x4) hu q
end
noncomputable def ig:List aH:=(List.range 60).map λk:Nat=>⟨(k:Int),[],none,none⟩
noncomputable def uQ:dN:=⟨ig,[],[]⟩
theorem Lu(at':cK H r l lm lw)(hj:Tj 0 r)(runs:Runs ⟨[],[],[]⟩ (qH r) r)(q:∀H',Q (.bool true) H'):aG ⟨ay (n+71),xq Y⟩ (Bs.drop 2) [some .fu,some (.aC [.ref l,.ref lm,.ref lw]),none,none,none,none,none,none,none,none,none,none,none,none,none] H (bD Q):=at' _ λap am aw=>hj.2.2.2.2 _ λhW hF Y1 XY=>by
 have XZ:=hj.len (by decide)
 refine(?_:aG ⟨ay (n+71),xq Y⟩ (.aN (.J 2) (.new 63)::Ej::Er::[EA,EB,EC,ED,AU,AV,AW]) _ H (bD Q))
 refine dU (Vr (n:=n+70) (C:=⟨ay (n+71),xq Y⟩) rfl λH1 x1 b1=>au rfl ?_)
 have qF:cK H1 r l lm lw:=.mk (x1 _ _ ap) (x1 _ _ am) (x1 _ _ aw)
 refine(?_:aG ⟨ay (n+71),xq Y⟩ (Ej::Er::[EA,EB,EC,ED,AU,AV,AW]) (gj l lm lw H.length none none none none none none none) H1 (bD Q))
 have iV:eI H.length l/\eI H.length lm/\eI H.length lw:=⟨.inl (cG ap),.inl (cG am),.inl (cG aw)⟩
 refine Xa (n:=n) (C:=⟨ay (n+71),xq Y⟩) rfl qF ⟨cG (x1 _ _ ap),cG (x1 _ _ aw)⟩ XZ hW (λw hw=>(XY w hw).2) b1 runs λo3 H2 x2 b2=>?_
 refine turns (n:=n) (C:=⟨ay (n+71),xq Y⟩) rfl (qF.k iV x2) b2 iV hj λa b c r2 o3 o4 o5 o6 o7 o8 o9 H3 uF at2 b3 wo=>?_
 exact XX (n:=n) rfl at2 b3 wo uF λH'=>q H'
theorem X0(hR:∀r,dg r->yl r->r.ps.length<=8->r.ms.length<=1000->r.ws.length<=1000->Runs ⟨[],[],[]⟩ (qH r) r)(k4:Runs ⟨[],[],[]⟩ (qH uQ) uQ)(X1:dv ig)(q:∀H',Q (.bool true) H'):ay (n+72) 62 [.fu] H Q Y:=Sd (by
 refine(?_:ay (n+71) 43 [.fu,nv 8] H _ _)
 refine UR (n:=n+67) (b:=8) (by decide) (by decide) λr l lm lw H1 ok rr h0 h8 hm hw at' x1=>?_
 refine(?_:ay (n+71) 26 [.fu,nv 0] H1 _ _)
 refine oZ (n:=n+70) (k:=0) ?_
 refine(?_:bz ((((X.is.getD 0 0).fdiv 7).fmod 4)==3) _ _)
 refine cb (λZ=>?_) λZ=>Lu at' ⟨h0,hm,hw,⟨λw lT=>(rr.2.1.1 w lT).2.2.2.2,λw lT=>(rr.2.2.1 w lT).elim λp hp=>(dZ.mp hp.1).1⟩,ok⟩ (hR r ok rr h8 (aR hm (by decide)) (aR hw (by decide))) q
 refine dU (Ef (j8 (yc (bF (bF (rL (m:=60) (by decide) (cM (cP (by rw[aS,kH];decide)) ?_)))))))
 refine iF (P:=λZ=>true) (F:=λk:Nat=>bQ ⟨(k:Int),[],none,none⟩) (List.range 60) _ _ (λa Z T hT=>hT) (λa Z Z N hN=>hN) ?_
 rw[lS]
 have e:[]++(List.range 60).map (λk:Nat=>bQ ⟨(k:Int),[],none,none⟩)=ig.map bQ:=by unfold ig;rw[map_map];rfl
 rw[e]
 refine iR (qz (qz (au rfl ?_)))
 have hl:ig.length=60:=by unfold ig;rw[length_map,List.length_range]
 have hf:ig.filter gX=[]:=filter_eq_nil_iff.mpr λp hp=>by
  obtain⟨k,_,rfl⟩:=fj.mp (show p∈ig from hp)
  exact gq
 exact Lu (r:=uQ) (.mk (be _ (be _ (aZ _ _))) (be _ (aZ _ _)) (aZ _ _)) ⟨by refine(?_:0<ig.length);rw[hl];decide,by decide,by decide,⟨λw hw=>(nomatch hw),λw hw=>(nomatch hw)⟩,.mk X1 ⟨iX hl,by refine(?_:(ig.filter gX).length<20);rw[hf];decide⟩ (λw hw=>(nomatch hw)) λw hw=>(nomatch hw)⟩ k4 q)
section
variable{ps:List aH}
theorem Lw(h:∀p∈ps,p.bR=none):fq ps=[]:=filter_eq_nil_iff.mpr λk hk=>by
 obtain⟨p,hp⟩:=at_of (jl.mp hk)
 unfold fH
 rw[hp]
 refine(?_:¬p.bR.isSome=true)
 rw[h p (iz hp)]
 decide
theorem Lx(ok:dg r)(rr:yl r)(hl:r.ps.length<=60)(hm:r.ms.length<=1000):∀(as an:List eA),an++as=r.ms->Runs ⟨r.ps,an,[]⟩ (as.map .eZ) ⟨r.ps,r.ms,[]⟩
 |[],an,e=>by rw[dO] at e;rw[e];exact .nil
 |w::as,an,e=>ok _ λwf len eZ cQ=>by
  have hw:w∈r.ms:=e▸cF.mpr (.inr cJ)
  have sub:∀u∈an,u∈r.ms:=λu hu=>e▸cF.mpr (.inl hu)
  have e':(an++[w])++as=r.ms:=by rw[nF];exact e
  have pw:=rr.2.1.2
  rw[<-e] at pw
  refine .cons (.eZ hl (eZ w hw) (λu hu=>eZ u (sub u hu)) (aR (by rw[<-e,bX];exact fM _ _) hm) (rr.2.1.1 w hw) (λu hu=>⟨(List.pairwise_append.mp pw).2.2 u hu w cJ,(rr.2.1.1 u (sub u hu)).2.2.2.2⟩) (.mk wf len (λu hu=>eZ u (e'▸cF.mpr (.inl hu))) λZ h=>(nomatch h))) (Lx ok rr hl hm as (an++[w]) e')
theorem Ly(ok:dg r)(rr:yl r)(hl:r.ps.length<=60)(hw:r.ws.length<=1000):∀(as an:List fY),an++as=r.ws->Runs ⟨r.ps,r.ms,an⟩ (as.map .nz) r
 |[],an,e=>by rw[dO] at e;rw[e];exact .nil
 |w::as,an,e=>ok _ λwf len eZ cQ=>by
  have hm:w∈r.ws:=e▸cF.mpr (.inr cJ)
  have e':(an++[w])++as=r.ws:=by rw[nF];exact e
  exact .cons (.nz hl (aR (by rw[<-e,bX];exact fM _ _) hw) (rr.2.2.2 w hm) (rr.2.2.1 w hm) (.mk wf len eZ λu hu=>cQ u (e'▸cF.mpr (.inl hu)))) (Ly ok rr hl hw as (an++[w]) e')
def Lz(ps:List aH):Prop:=∀(k:Nat) p,ps[k]?=some p->(∀j∈p.ca,j<k/\ib ps p.aQ j)/\jP p.ca/\0<=p.aQ/\p.aQ<=100000
theorem LA{ks:List Nat}(h:∀k∈ks,k<ps.length):kh ps (aX ks)=true:=iA.mpr λv hv=>(fj.mp hv).elim λk hk=>hk.2▸Aw (h k hk.1)
theorem LB{ks:List Nat}(h2:jP ks)(h:∀k∈ks,ib ps d k):gz ps ks d=false:=by
 unfold gz
 rw[gv (not_lt.mpr h2.1),gv (λhn=>hn h2.2)]
 refine any_eq_false.mpr λk hk=>?_
 obtain⟨q,hq,du⟩:=h k hk
 unfold tc
 rw[hq,decide_eq_true_eq]
 exact not_le.mpr du
theorem EE(hB:Lz ps)(hl:ps.length<=60):∀(as an:List aH),an++as=ps->Runs ⟨an.map lY,[],[]⟩ (as.map .aQ) ⟨ps.map lY,[],[]⟩
 |[],an,e=>by rw[dO] at e;rw[e];exact .nil
 |p::as,an,e=>by
  have hp:ps[an.length]?=some p:=by rw[<-e,qN (cg _),sub_self];rfl
  obtain⟨h1,h2,h3,h4⟩:=hB an.length p hp
  have e':(an++[p])++as=ps:=by rw[nF];exact e
  have fB:(an.map lY).length=an.length:=aS _
  have du:an.length<60:=fh (dZ.mp hp).1 hl
  have old:∀j∈p.ca,ib (an.map lY) p.aQ j:=λj hj=>(h1 j hj).2.elim λq hq=>⟨lY q,by
   rw[g5]
   have:=hq.1
   rw[<-e,tx (h1 j hj).1] at this
   rw[this];rfl,hq.2⟩
  have ob:pC (an.map lY) (.int p.aQ) (aX p.ca)=none:=by
   unfold pC
   rw[bL (LA λk hk=>by rw[fB];exact(h1 k hk).1),bL (show wh (.int p.aQ) 0 100000=true from eJ.mpr ⟨c9 h3,c9 h4⟩),uM,bG (by rw[show gz (an.map lY) p.ca (dC (.int p.aQ))=false from LB h2 old];decide),bG (by rw[fB];exact Nat.not_le.mpr du)]
  have z:=EE hB hl as (an++[p]) e'
  rw[gx] at z
  refine .cons (.aQ ob h2.1 (by rw[fB];exact cO du) (.inl (Lw λq hq=>?_))) z
  rcases cF.mp hq with hq|hq
  ·obtain⟨x,_,rfl⟩:=fj.mp hq;rfl
  ·rw[cI.mp hq]
end
section
variable{ps qs:List aH}
def uR(ps qs:List aH):Prop:=qs.length=ps.length/\∀(k:Nat) p,ps[k]?=some p->∃q,qs[k]?=some q/\q.aQ=p.aQ/\q.ca=p.ca/\(q.ad=none\/q.ad=p.ad)
theorem uR.old(h:uR ps qs){b:Int}(o:ib ps b j):ib qs b j:=o.elim λz hz=>(h.2 j z hz.1).elim λq hq=>⟨q,hq.1,by rw[hq.2.1];exact hz.2⟩
theorem uR.wf(h:uR ps qs)(wf:dv ps):dv qs:=λk q hq=>by
 obtain⟨p,hp⟩:=at_of (show k<ps.length from h.1▸(dZ.mp hq).1)
 obtain⟨q',tm,e1,e2,e3⟩:=h.2 k p hp
 rw[hq] at tm
 cases tm
 exact(wf k p hp) _ λa b c d e=>.mk (by rw[e2,e1];exact λj hj=>h.old (a j hj)) (λx hx j hj=>by rw[e1];rcases e3 with e3|e3<;>rw[e3] at hx<;>first|cases hx|exact h.old (b x hx j hj)) (e2▸c) (λx hx=>by rcases e3 with e3|e3<;>rw[e3] at hx<;>first|cases hx|exact d x hx) (e1▸e)
def wq(ps:List aH)(as:List Nat)(qs:List aH):Prop:=qs.length=ps.length/\∀(k:Nat) p,ps[k]?=some p->qs[k]?=some (if k∈as then lY p else⟨p.aQ,p.ca,none,p.bR⟩)
def AY(ps:List aH)(as:List Nat)(qs:List aH):Prop:=qs.length=ps.length/\∀(k:Nat) p,ps[k]?=some p->qs[k]?=some (if k∈as then⟨p.aQ,p.ca,none,p.bR⟩ else p)
theorem wq.AZ(h:wq ps as qs):uR ps qs:=⟨h.1,λk p hp=>⟨_,h.2 k p hp,by split<;>rfl,by split<;>rfl,.inl (by split<;>rfl)⟩⟩
theorem AY.AZ(h:AY ps as qs):uR ps qs:=⟨h.1,λk p hp=>⟨_,h.2 k p hp,by split<;>rfl,by split<;>rfl,by split;exact .inl rfl;exact .inr rfl⟩⟩
theorem LC{EF:List aH}{f:Nat->aH->aH}(h:qs.length=ps.length/\∀(k:Nat) p,ps[k]?=some p->qs[k]?=some (f k p))(h':EF.length=ps.length/\∀(k:Nat) p,ps[k]?=some p->EF[k]?=some (f k p)):qs=EF:=ext_getElem? λk=>by
 cases hp:ps[k]? with
 |some p=>rw[h.2 k p hp,h'.2 k p hp]
 |none=>
  have hn:=qQ.mp hp
  rw[qQ.mpr (h.1▸hn),qQ.mpr (h'.1▸hn)]
theorem LD(h:uR ps qs)(wf:dv ps)(hl:ps.length<20):dg ⟨qs,[],[]⟩:=.mk (h.wf wf) ⟨h.1▸aR (cO hl) (by decide),bM (ma _ _) (h.1▸hl)⟩ (λZ h=>(nomatch h)) λZ h=>(nomatch h)
theorem LF(wf:dv ps)(rp:ox ps)(hl:ps.length<20){qf:List aH}(hf:wq ps [] qf):∀(as:List Nat) (qs:List aH),as.Nodup->(∀k∈as,k∈fq ps)->wq ps as qs->Runs ⟨qs,[],[]⟩ (as.map λk=>.bR k ((dI ps k).getD 0)) ⟨qf,[],[]⟩
 |[],qs,_,_,h=>by rw[LC h hf];exact .nil
 |k::as,qs,nd,hd,h=>by
  obtain⟨p,e,hp,he⟩:=JD (hd k cJ)
  have nd:=lF.mp nd
  have hk:=(dZ.mp hp).1
  have hq:qs[k]?=some (lY p):=(h.2 k p hp).trans (by rw[bL cJ])
  have hi:(dI ps k).getD 0=e:=by unfold dI;rw[hp];exact congrArg (Option.getD · 0) he
  have st:wq ps as (qs.set k (gM (lY p) e)):=⟨by rw[kG];exact h.1,λi q hi=>by
   by_cases ei:k=i
   ·subst ei
    rw[hp] at hi;cases hi
    rw[sd (h.1▸hk),bG nd.1,he]
   ·rw[getElem?_set_ne ei,h.2 i q hi]
    refine bU some ?_
    by_cases hm:i∈as
    ·rw[bL hm,bL (List.mem_cons_of_mem _ hm)]
    ·rw[bG hm,bG λhh=>(cH.mp hh).elim (λe=>ei e.symm) hm]⟩
  have rk:=(rp k p hp).2.2.1 e he
  have z0:0<=p.aQ:=(wf k p hp) _ λZ Z Z Z z=>z
  rw[jF,hi]
  exact .cons (.bR hq rfl rfl ⟨by lia,rk.2⟩ rk.1 (h.1▸aR (cO hl) (by decide)) (LD st.AZ wf hl)) (LF wf rp hl hf as _ nd.2 (λj hj=>hd j (.tail _ hj)) st)
theorem EG(wf:dv ps)(rp:ox ps)(hl:ps.length<20):∀(as:List Nat) (qs:List aH),as.Nodup->(∀k∈as,k<ps.length)->AY ps as qs->Runs ⟨qs,[],[]⟩ (k9 ps as) ⟨ps,[],[]⟩
 |[],qs,_,_,h=>by rw[LC (f:=λZ p=>p) h ⟨rfl,λk p hp=>hp⟩];exact .nil
 |k::as,qs,nd,hd,h=>by
  obtain⟨p,hp⟩:=at_of (hd k cJ)
  have nd:=lF.mp nd
  have hk:=(dZ.mp hp).1
  have hq:qs[k]?=some ⟨p.aQ,p.ca,none,p.bR⟩:=(h.2 k p hp).trans (by rw[bL cJ])
  have oth:∀{i q},k≠i->ps[i]?=some q->qs[i]?=some (if i∈as then⟨q.aQ,q.ca,none,q.bR⟩ else q):=λ{i q} ei hi=>by
   rw[h.2 i q hi]
   refine bU some ?_
   by_cases hm:i∈as
   ·rw[bL hm,bL (List.mem_cons_of_mem _ hm)]
   ·rw[bG hm,bG λhh=>(cH.mp hh).elim (λe=>ei e.symm) hm]
  have ds:k9 ps (k::as)=(match p.ad with|none=>[]|some x=>[iJ.adopt k x])++k9 ps as:=by
   have z2:k9 ps (k::as)=k9 ps ([]++[k])++k9 ps as:=by
    unfold k9
    rw[<-List.filterMap_append];rfl
   rw[z2,KR (an:=[]) hp];rfl
  rw[ds]
  cases i7:p.ad with
  |none=>
   refine EG wf rp hl as qs nd.2 (λj hj=>hd j (.tail _ hj)) ⟨h.1,λi q hi=>?_⟩
   by_cases ei:k=i
   ·subst ei
    rw[hp] at hi;cases hi
    rw[hq,bG nd.1,<-i7]
   ·exact oth ei hi
  |some x=>
   obtain⟨r1,r2,r3,r4⟩:=(rp k p hp).2.2.2 x i7
   have z0:0<=p.aQ:=(wf k p hp) _ λZ Z Z Z z=>z
   have h2:jP x.2:=(wf k p hp) _ λZ Z Z d Z=>d x i7
   have old:∀j∈x.2,ib qs p.aQ j:=(wf k p hp) _ λZ b Z Z Z=>λj hj=>h.AZ.old (b x i7 j hj)
   have st:AY ps as (qs.set k (lW ⟨p.aQ,p.ca,none,p.bR⟩ x.1 x.2)):=⟨by rw[kG];exact h.1,λi q hi=>by
    by_cases ei:k=i
    ·subst ei
     rw[hp] at hi;cases hi
     rw[sd (h.1▸hk),bG nd.1]
     obtain⟨pb,pp,pa,pd⟩:=p
     cases i7;rfl
    ·rw[getElem?_set_ne ei];exact oth ei hi⟩
   have oa:qE qs (nv k) (.int x.1) (aX x.2)=none:=by
    unfold qE
    rw[bL (eJ.mpr ⟨Aw (h.1▸hk),LA λj hj=>(old j hj).elim λz hz=>(dZ.mp hz.1).1⟩),bL (show wh (.int x.1) 0 100000=true from eJ.mpr ⟨c9 (by lia),c9 r2⟩),show natOf (nv k)=k from rfl,hq,uM]
    refine(?_:pD qs ⟨p.aQ,p.ca,none,p.bR⟩ x.2 x.1=none)
    unfold pD
    rw[bG,bG,bG]
    ·exact gq
    ·rw[show gz qs x.2 p.aQ=false from LB h2 old,Bool.or_false]
     exact λhh=>r4 (isEmpty_iff.mp hh)
    ·unfold te
     rw[gv (Int.not_lt.mpr r1),Bool.false_or]
     cases rG:p.bR with
     |none=>exact gq
     |some e=>exact λhh=>absurd (r3 e rG) (Int.not_lt.mpr (cf hh))
   exact .cons (.adopt oa hq h2.1 (h.1▸aR (cO hl) (by decide)) (.inr (LD st.AZ wf hl))) (EG wf rp hl as _ nd.2 (λj hj=>hd j (.tail _ hj)) st)
theorem X2(wf:dv ps)(rp:ox ps):Lz ps:=λk p hp=>(wf k p hp) _ λa b c d e=>⟨λj hj=>⟨(rp k p hp).1 j hj,a j hj⟩,c,e,Int.le_trans (rp k p hp).2.1 (by decide)⟩
theorem X3(f:aH->aH):(ps.map f).length=ps.length/\∀(k:Nat) p,ps[k]?=some p->(ps.map f)[k]?=some (f p):=⟨aS _,λk p hp=>by rw[g5,hp];rfl⟩
theorem X4(ok:dg r)(rr:yl r)(hl:r.ps.length<=8)(hm:r.ms.length<=1000)(hw:r.ws.length<=1000):Runs ⟨[],[],[]⟩ (qH r) r:=ok _ λwf len eZ cQ=>by
 have k4:r.ps.length<=60:=aR hl (by decide)
 have LG:r.ps.length<20:=bM hl (by decide)
 unfold qH
 refine(((Runs.aO (r':=⟨r.ps.map lY,[],[]⟩) (r'':=⟨r.ps.map λp=>⟨p.aQ,p.ca,none,p.bR⟩,[],[]⟩) (EE (X2 wf rr.1) k4 r.ps [] rfl) ?_).aO ?_).aO (Lx ok rr k4 hm r.ms [] rfl)).aO (Ly ok rr k4 hw r.ws [] rfl)
 ·refine LF wf rr.1 LG (X3 _:wq r.ps [] _) (fq r.ps) _ (Pairwise.filter _ List.nodup_range) (λk h=>h) ⟨aS _,λk p hp=>?_⟩
  rw[g5,hp]
  refine bU some ?_
  by_cases hk:k∈fq r.ps
  ·rw[bL hk]
  ·rw[bG hk]
   have:p.bR=none:=by
    cases hd:p.bR with
    |none=>rfl
    |some e=>exact absurd (List.mem_filter.mpr ⟨List.mem_range.mpr (List.getElem?_eq_some_iff.mp hp).1,by unfold fH;rw[hp];refine(?_:p.bR.isSome=true);rw[hd];rfl⟩) hk
   rw[this]
 ·refine EG wf rr.1 LG _ _ List.nodup_range (λk h=>jl.mp h) ⟨aS _,λk p hp=>?_⟩
  rw[g5,hp,bL (jl.mpr (dZ.mp hp).1)];rfl
end
theorem A0{k:Nat}(h:ig[k]?=some p):∃j:Nat,j<60/\p=⟨(j:Int),[],none,none⟩:=by
 unfold ig at h
 obtain⟨j,hj,e⟩:=fj.mp (iz h)
 exact⟨j,jl.mp hj,e.symm⟩
theorem X5:dv ig:=λk p hp=>by
 obtain⟨j,_,rfl⟩:=A0 hp
 exact .mk (λZ h=>(nomatch h)) (λZ h=>(nomatch h)) ⟨gu _,nodup_nil⟩ (λZ h=>(nomatch h)) (kJ j)
theorem X6:ig.length=60:=by unfold ig;rw[length_map,List.length_range]
theorem X7:ig.map lY=ig:=by unfold ig;rw[map_map];rfl
theorem X8:fq ig=[]:=Lw λp hp=>(getElem?_of_mem hp).elim λk hk=>(A0 hk).elim λj hj=>by rw[hj.2]
theorem X9:k9 ig (List.range ig.length)=[]:=by
 unfold k9
 refine List.filterMap_eq_nil_iff.mpr λk hk=>?_
 obtain⟨p,hp⟩:=at_of (jl.mp hk)
 obtain⟨j,_,rfl⟩:=A0 hp
 rw[hp];rfl
theorem Yb:Runs ⟨[],[],[]⟩ (qH uQ) uQ:=by
 have z:=EE (ps:=ig) (λk p hp=>by
  obtain⟨j,hj,rfl⟩:=A0 hp
  exact⟨λZ h=>(nomatch h),⟨gu _,nodup_nil⟩,kJ j,by refine(?_:(j:Int)<=100000);lia⟩) (iX X6) ig [] rfl
 rw[X7] at z
 have e:qH uQ=ig.map .aQ:=by
  unfold qH uQ AR
  rw[X8,X9,map_nil,dO,dO,map_nil,dO,map_nil,dO]
 rw[e]
 exact z
theorem Yc(q:∀H',Q (.bool true) H'):ay (n+72) 62 [.fu] H Q Y:=X0 (λr ok rr hl hm hw=>X4 ok rr hl hm hw) Yb X5 q
end Mine.L
set_option tactic.hygienic true
section
open PySem PySem.W PyProof.Rows
namespace Mine
theorem Yd{c:ClaimW}{cl:Str->Option Addr}{mean:ExcName->Option Value}{args:List WData}{cj:Shared}{h':Heap}{tk:Nat}(hk:∀b o,cj.heap.get? b=some o->h'.get? b=some o)(hg:cj.gens=#[])
  (hn:∀cls,c.raises args cls=false) (hp:c.post args (.bool true) args=true):GoodWG c cl mean args cj (.ok (.ret (.bool true))) {cj with heap:=h',toks:=tk}:=
 ⟨.inl ⟨_,_,_,rfl,hn,.bool true,hp,λZ=>⟨.nil,λZ ha=>nomatch ha⟩⟩,⟨λb o e=>.inl (hk b o e),λb o e=>⟨o,hk b o e⟩⟩,rfl,.of_eq hg⟩
noncomputable def uS:Hook:=⟨Heap,λs=>s.heap,λw=>H.H1 w.params,λw h=>∀b o,(H.H1 w.params).get? b=some o->h.get? b=some o,λw s e=>e▸λZ Z x=>x,λw h h' x k b o e=>k b o (x b o e)⟩
theorem left:LeftO H.pp H.qv H.lo H.Xt (Hook.obs uS) (Hook.val uS) 20000:=
 LeftO.of_pieces (H₀:=boot_heap) (H₁:=H.H1) (m₀:=11) (ann:=H.an) H.Ra H.size H.run (by decide) λw=>funext λos=>H.pr (H.k1 w os) (H.pr (H.sn w os) rfl)
end Mine
set_option maxHeartbeats 40000000 in
theorem Mine.ws:PySem.Challenge.rw_uf020001_11.wellSaid=true:=by
 unfold OpenLaw.wellSaid OpenRow.wellSaid OpenRow.partSaid
 repeat' with_reducible refine look_both ?_ ?_
 all_goals decide +kernel
set_option maxHeartbeats 40000000 in
theorem PySem.Challenge.cw_uf020001_11_holds : PySem.Challenge.rw_uf020001_11.Holds := by
 w_on
 refine holds_law Mine.ws λsaid=>?_
 refine holds_open (q:=Mine.H.qv) (loose:=Mine.H.lo) (Xt:=Mine.H.Xt) (XP:=XL Mine.H.qv Mine.H.lv) (Yf:=Hook.obs Mine.uS) (Ya:=Hook.val Mine.uS) (YP:=Hook.says Mine.uS) (N:=20000) Mine.left Mine.uS.of Mine.uS.keeps (λs e=>xl_of s (Bool.and_eq_true_iff.mp e).1) XL.keeps (d:=Mine.H.uj) (kwd:=[]) Mine.H.d1 Mine.H.d2 Mine.H.d3 (λs e=>recFacts_of (Bool.and_eq_true_iff.mp e).2) (by rfl) said (by decide +kernel) ⟨rfl,rfl,rfl,rfl,rfl,by decide +kernel⟩ ?hw ?hc
 case hw=>w_witness2
 intro w B2 cj mg mb G Y fa o pm cd doc dV kV ho hd vw hD Ye hg args vals as rZ Yg Yh j7 iV
 refine Ground.open G ?_
 intro T B D TE TW
 wrow_args rZ Yg Yh j7 iV
 rename_i ns _ _ _ _ _ _ _ lJ vs _ hL _ _ _ hI _ hc _
 refine Mine.Q3 (Pr:=w.params) T Y ?_ Mine.LY ?_ ?_ rfl hL hI ?_ rfl Ye (Mine.L.Yc (n:=0) λZ=>rfl) ?_
 ·kernel_rfl
 ·decide +kernel
 ·decide +kernel
 ·omega
 ·intro h' tk hk
  exact Mine.Yd hk hg (λZ=>rfl) (by with_unfolding_all rfl)
end
