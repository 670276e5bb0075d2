import PyProof.Rows.All
import Open.Line
import Open.Boot
import Open.Tree
import PyProof.Claim2
import PyProof.P3Statements
import PyProof.Methods
import PyProof.NoPylong
import PyProof.CodeObjX
import PyProof.Ends
import PyProof.Rows.TupIn
import PyProof.Rows.Own
import PyProof.Rows.PlainObj
import PyProof.Seq
import PyProof.Cells
import PyProof.TupleIter
import PyProof.PlainList
import PyProof.DictRoads
import PyProof.DictKinds
import PyProof.DictIter
import PyProof.DictRoadsH
import PyProof.EqKinds
import PyProof.DictTruth
import PyProof.ListMulRoad
import PyProof.EqAt
import PyProof.DictWalks
import PyProof.RaisesMany
import PyProof.RulesTry
import PyProof.RulesAs
import PyProof.CompFree
import PyProof.SliceSyntax
import PyProof.SliceList
import PyProof.Rows.TupMore
import KE.LcSums
import PyProof.AutoSeq1
import PyProof.FactsAll.list_3
import PyProof.FactsAll.list_4
import PyProof.MinMaxWalk
import PyProof.WalkInts
import PyProof.TupleOfSeq
import PyProof.Conv_int_bool
import PyProof.Rows.SortWalk
import PyProof.Rows.CallKwBuiltin
import PyProof.Rows.SetFrom
import PyProof.SetRoads
import PyProof.IsiNone
import PyProof.DictDisplay
import PyProof.ListRange
import PyProof.ListNew
import PyProof.Rows.TupDisplay
import PyProof.ObjNew
import PyProof.InstLoad
import PyProof.AssignAttr
import PyProof.Rows.PlainNoArg
import PyProof.Rows.Catch
import PyProof.ExcClass2
import PyProof.ExcAttrAll.ValueError
import PyProof.Rows.RuleN_isinstance
import PyProof.Rows.PlainStore
import PyProof.Rows.Nodes
import PyProof.DictCalls
import PyProof.FactsAll.dict_3
import PyProof.ZipIter
import PyProof.Rows.ZipGen
import PySem.Challenge.RW_uf020001_12
set_option Elab.async false
set_option compiler.extract_closed false
set_option genSizeOfSpec false
set_option genSizeOf false
set_option genInjectivity false
set_option linter.defProp false
set_option autoImplicit false
set_option linter.unusedVariables false
set_option linter.unusedSimpArgs false
set_option maxRecDepth 100000
set_option tactic.hygienic false
open List(replicate map_map size_toArray filter_cons length_nil length_append any_cons find?_cons foldl_cons isEmpty_iff nil_append filter_nil countP_cons Pairwise forIn_cons drop_zero contains_cons sum_cons map_nil length_pos_iff map_append length_drop ext_getElem? contains_iff_mem any_eq_false ne_nil_of_mem flatMap_cons foldl_nil map_id length_map mem_map any_eq_true drop_nil flatMap_nil map_set all_append all_cons cons_ne_nil countP)
open PySem.Heap(ExtBut SameBut Ns)
open Nat(not_le le_trans lt_or_ge lt_irrefl succ_pos add_assoc add_right_comm le_of_lt_succ lt_succ_of_le le_refl min_eq_left min_le_right zero_lt_succ not_lt_zero one_mul zero_mul mul_comm)
open Int(gcd le_of_lt ne_of_gt lt_of_le_of_lt natAbs_mul lt_trans toNat_lt)
open Bool(or_eq_true_iff beq_comm toNat_le)
open Option(map_eq_some_iff or_none isSome)
open Classical(propDecidable)
namespace Mine
open PySem PySem.Calls PyProof.Rows PyProof
def iA:=@Bool.and_eq_true_iff
def dH:=@Option.some.inj
def cu:=@of_decide_eq_true
def EF:=@Classical.byContradiction
def pn:=@Int.ofNat_le
def sL:=@List.getElem?_append_left
def d7:=@List.getElem?_eq_some_iff
def ub:=@Bool.or_eq_false_iff
def nY:=@Heap.get?_push_of_some
def qh:=@Classical.em
def cY:=@List.mem_append
def dI:=@List.mem_singleton
def b7:=@congrArg
def vv:=@List.getElem?_nil
def bj:=@wpAny_bind
def bH:=@if_neg
def gM:=@Bool.false_ne_true
def bU:=@wpAny_pure
def uc:=@wpAny_call_entry
def i6:=@List.cons.inj
def hX:=@beq_self_eq_true
def iB:=@List.getElem?_eq_getElem
def ie:=@List.mem_of_getElem?
def nh:=@Heap.lt_size
def fv:=@Nat.not_lt
def b6:=@length_append
def sM:=@List.nodup_append
def pv:=@List.getElem?_append_right
def bX:=@le_refl
def qi:=@Nat.sub_self
def iC:=@Nat.le_of_eq
def gR:=@List.length_set
def sN:=@List.getElem?_set_self
def ud:=@List.getElem?_set_ne
def gS:=@Ne.symm
def nZ:=@List.lookup_cons
def aG:=@le_trans
def lU:=@Nat.add_le_add_right
def kL:=@Nat.add_le_add_left
def oi:=@Nat.mul_le_mul_left
def ig:=@wpAny_mono
def bQ:=@if_pos
def lE:=@size_toArray
def bJ:=@length_map
def ue:=@wpAny_truthy_bool
def jo:=@Heap.get?_push_size
def cW:=@Nat.le_of_lt
def iD:=@Nat.zero_le
def jG:=@Nat.succ_le_succ
def gB:=@List.mem_cons
def xC:=@decide_eq_decide
def BZ:=@wpAny_dictEntries
def rC:=@beq_eq_false_iff_ne
def EG:=@wpAny_richCompare_same_room
def zH:=@wpAny_isInstance
def px:=@wpAny_loadPart'
def xD:=@Int.toNat_natCast
def sO:=@List.getElem?_eq_none
def xE:=@List.drop_eq_nil_iff
def gE:=@decide_eq_false
def dj:=@decide_eq_true
def lF:=@List.length_cons
def cG:=@Nat.lt_of_le_of_lt
def uf:=@plainId_quiet
def xF:=@codeAny_builtin
def zI:=@Around.under_plainId
def xG:=@List.getElem?_toArray
def pz:=@Nat.lt_of_succ_lt
def xI:=@Array.length_toList
def rD:=@or_eq_true_iff
def oj:=@Bool.not_eq_true'
def kM:=@Int.not_lt
def cL:=@Nat.lt_of_lt_of_le
def xJ:=@wpAny_items_nil
def ug:=@wpAny_items_cons
def uh:=@wpAny_holding
def vw:=@wpAny_Call_NameR
def pA:=@Nat.le_of_succ_le
def zJ:=@List.idxOf_lt_length_of_mem
def B2:=@wpAny_Return_some
def vx:=@wpAny_execs_nil
def jH:=@Nat.lt_succ_self
def ui:=@wpAny_execs_cons
def B3:=@wpAny_callSpecial?_slot
def zK:=@Array.getElem?_eq_getElem
def B4:=@SameBut.update
def j1:=@List.all_eq_true
def sP:=@List.getElem?_eq_none_iff
def i7:=@List.getElem?_map
def jI:=@List.length_range
def kN:=@Int.ofNat_lt
def xK:=@wpAny_newObj_type
def EH:=@F.slot_dict_keyiterator_next
def EJ:=@wpAny_typeNameOfWhole_keyiter
def EK:=@wpAny_typeNameOf_keyiter
def ni:=@Int.natCast_nonneg
def sQ:=@Heap.get?_update_self
def zL:=@Obj.data_mapFields
def B5:=@Array.getElem?_toList
def qj:=@Nat.zero_add
def uj:=@Nat.succ_ne_self
def kO:=@Nat.le_succ
def xM:=@Heap.get?_update_other
def pB:=@wpAny_field
def eV:=@Nat.le_add_right
def uk:=@Option.isSome_iff_exists
def nj:=@List.nodup_cons
def ii:=@mem_map
def nk:=@List.map_cons
def vy:=@Nat.le_add_left
def pC:=@Nat.add_comm
def dq:=@Nat.ne_of_lt
def vz:=@List.length_take
def ul:=@Nat.le_of_not_lt
def zM:=@Calls.callWith_builtin
def ql:=@List.nodup_nil
def rE:=@any_eq_true
def zN:=@List.getD_eq_getElem?_getD
def vA:=@PySem.F.plain_min_loop
def zO:=@wpAny_seqItems
def zP:=@wpAny_tryCatch
def xN:=@wpAny_updateSeq
def dm:=@Nat.ne_of_gt
def lG:=@Nat.lt_succ_of_lt
def zQ:=@List.filter_eq_nil_iff
def fN:=@List.append_nil
def vB:=@typeLookup_type
def xO:=@builtinLookup_eq_fast
def EL:=@PySem.F.typeOf_object_class
def ol:=@wpAny_loadPart_at
def vC:=@wpAny_isSubtype_exc
def jO:=@map_append
def dD:=@List.mem_cons_self
def mA:=@List.append_assoc
def i8:=@List.mem_range
def B6:=@Int.fmod_eq_emod_of_nonneg
def om:=@Int.ofNat.inj
def zR:=@of_decide_eq_false
def jp:=@Nat.lt_trans
def rF:=@Bool.false_or
def oo:=@List.length_filter_le
def nq:=@List.mem_filter
def zS:=@Nat.pow_le_pow_right
def oq:=@Nat.add_le_add
def sR:=@Rat.normalize_eq_mkRat
def vD:=@List.eq_nil_of_length_eq_zero
def sS:=@List.not_mem_nil
def um:=@Bool.not_eq_false'
def sT:=@List.isEmpty_map
def EM:=@Int.mul_le_mul_of_nonneg_right
def xP:=@Nat.lt_add_of_pos_right
def vE:=@Nat.le_succ_of_le
end Mine
namespace Mine
open PySem
inductive V where
 |none
 |bool (b:Bool)
 |int (i:Int)
 |str (s:Str)
 |aF (vs:List V)
 |ref (l:Nat)
 |i9
 deriving Inhabited
inductive aI where
 |list (vs:List V)
 |dict (ep:Nat) (es:List (Int×V))
 |dY (ep:Nat) (es:List ((Int×Bool)×V))
 |exc (k:Nat)
 |obj (t:Nat)
 |cC (fs:List (Option V))
 |gO (vs:List V)
 |jx
 deriving Inhabited
noncomputable def xQ:V->Bool
 |.none=>true
 |_=>false
noncomputable instance:DecidableEq V:=λa b=>propDecidable (a=b)
noncomputable instance:DecidableEq aI:=λa b=>propDecidable (a=b)
abbrev Hp:=List aI
abbrev bv:=List (Option V)
inductive Out where
 |next (ρ:bv) (h:Hp)
 |ret (v:V) (h:Hp)
inductive qm where|add|sub|mul|fdiv|mod|pow
 deriving DecidableEq
inductive pD where|eq|ne|lt|le|gt|ge|ot|jP
inductive Ty where|int|bool|list
inductive Bi where
 |len|mB (t:Ty)|any|max2|rG|tupleOf|B7|EN|qo
inductive Me where
 |append|count|index|reverse|clear
set_option genSizeOf true in
set_option genSizeOfSpec true in
inductive d8 where
 |J (i:Nat)
 |aF (ts:List d8)
mutual
inductive E where
 |k (v:V)
 |J (i:Nat)
 |gk (j:Nat)
 |bin (op:qm) (a b:E)
 |neg (a:E)
 |not (a:E)
 |and (es:List E)
 |or (es:List E)
 |cmp (op:pD) (a b:E)
 |uo (op sU:pD) (a b c:E)
 |isNone (y:Bool) (a:E)
 |aF (es:List E)
 |aP (es:List E)
 |br (a i:E)
 |kP (a:E) (lo hi:Option E)
 |call (f:Nat) (es:List E)
 |bi (b:Bi) (es:List E)
 |cR (m:Me) (a:E) (es:List E)
 |comp (nl:Nat) (elt:E) (t:d8) (it:It) (cs:List E)
 |listOf (e:E)
 |lH
 |qp
 |zT (a b:E)
 |bD (c a b:E)
 |attr (a:E) (i:Nat)
 |cQ (f:Nat) (a:E) (es:List E)
 |new (f:Nat)
 |ox (k:Option Nat) (a:E)
 |tab (es:List E)
 |gF (a:E) (i:Nat)
 |get (a i:E)
inductive It where
 |of (e:E)
 |range (a b:E)
 |oy (e:E)
 |zip (a b:E)
end
noncomputable abbrev kI(i:Int):E:=.k (.int i)
noncomputable abbrev iI(j:Nat)(i:Int):E:=.br (.J j) (.k (.int i))
inductive S where
 |expr (e:E)
 |aY (t:d8) (e:E)
 |ij (a i e:E)
 |setAttr (a:E) (i:Nat) (e:E)
 |ret (e:E)
 |bD (c:E) (a b:List S)
 |for (t:d8) (it:It) (body:List S)
 |while (c:E) (body:List S)
 |raise (k:Nat) (w:Str)
 |lV (r:Option d8) (e:E) (k i:Nat) (h:E)
 |qq (e:E) (k:Nat)
abbrev PQ:=V->Hp->Prop
structure Ct where
 call:Nat->List V->Hp->PQ->PQ->Prop
 exc:PQ
structure Fn where
 name:Str
 np:Nat
 nl:Nat
 body:List S
structure CK where
 pE:List (Bool×Str)
 B8:List Str
 uq:List Str
 cls:Str
 cC:List Str
structure Sn where
 sc:Scope
 ns:List Str
 hd:Bool
namespace P
noncomputable def Je:List S:=
 [.aY (.aF [.J 3,.J 4,.J 5,.J 6]) (.br (.J 0) (.J 1)),
  .ret (.and [(.cmp .le (.J 3) (.J 2)),(.or [(.isNone true (.J 6)),(.cmp .lt (.J 2) (.J 6))])])]
noncomputable def Jf:List S:=
 [.aY (.aF [.J 3,.J 4,.J 5,.J 6]) (.br (.J 0) (.J 1)),
  .bD (.and [(.isNone false (.J 5)),(.cmp .le (iI 5 0) (.J 2))])
  [.ret (iI 5 1)]
  [],
  .ret (.J 4)]
noncomputable def Jg:List S:=
 [.aY (.J 3) (.aP []),
  .for (.J 4) (.range (kI 0) (.bi .len [.J 0]))
  [.bD (.and [(.cmp .le (.br (.br (.J 0) (.J 4)) (kI 0)) (.J 2)),(.cmp .ot (.J 1) (.call 1 [.J 0,.J 4,.J 2]))])
   [.expr (.cR .append (.J 3) [.J 4])]
   []],
  .ret (.J 3)]
noncomputable def Jh:List S:=
 [.bD (.call 0 [.J 0,.J 1,.J 2])
  [.ret (.k (.bool true))]
  [],
  .for (.J 3) (.of (.call 2 [.J 0,.J 1,.J 2]))
  [.bD (.call 3 [.J 0,.J 3,.J 2])
   [.ret (.k (.bool true))]
   []],
  .ret (.k (.bool false))]
noncomputable def Ji:List S:=
 [.aY (.aF [.J 3,.J 4]) (.J 1),
  .aY (.J 5) (.comp 1 (.aF [.J 0,(.k (.bool true))]) (.J 0) (.of (.call 2 [.J 0,.J 3,.J 2])) []),
  .bD (.not (.J 4))
  [.aY (.J 5) (.bin .add (.J 5) (.comp 1 (.aF [.J 0,(.k (.bool false))]) (.J 0) (.of (.call 1 [.J 0,.J 3,.J 2])) []))]
  [],
  .ret (.J 5)]
noncomputable def Jj:List S:=
 [.aY (.J 4) .qp,
  .for (.J 5) (.of (.J 2))
  [.for (.J 6) (.of (.call 4 [.J 0,.J 5,.J 3]))
   [.aY (.J 7) (.bin .add (.br (.J 2) (.J 5)) (.aP [(iI 6 0)])),
    .bD (.and [(.cmp .jP (.J 6) (.J 1)),(.or [(.cmp .jP (.J 6) (.J 4)),(.cmp .lt (.J 7) (.br (.J 4) (.J 6)))])])
    [.ij (.J 4) (.J 6) (.J 7)]
    []]],
  .ret (.J 4)]
noncomputable def B9:List S:=
 [.aY (.J 3) (.zT (.aF [.J 1,(.k (.bool false))]) (.aP [.J 1])),
  .aY (.J 4) .qp,
  .aY (.J 5) .lH,
  .while (.and [(.cmp .eq (.J 5) .lH),(.cmp .ne (.J 3) .lH)])
  [.for (.J 6) (.of (.J 3))
   [.ij (.J 4) (.J 6) (.k (.bool true))],
   .aY (.J 3) (.call 5 [.J 0,.J 4,.J 3,.J 2]),
   .for (.J 6) (.of (.J 3))
   [.aY (.J 7) (iI 6 0),
    .bD (.and [(.cmp .ne (.J 7) (.J 1)),(.call 0 [.J 0,.J 7,.J 2]),(.or [(.cmp .jP (.J 7) (.J 5)),(.cmp .lt (.br (.J 3) (.J 6)) (.br (.J 5) (.J 7)))])])
    [.ij (.J 5) (.J 7) (.br (.J 3) (.J 6))]
    []]],
  .ret (.comp 1 (.aF [.J 0,(.br (.J 6) (.J 0))]) (.J 0) (.of (.bi .B7 [(.listOf (.J 5))])) [])]
noncomputable def EO:List S:=
 [.aY (.J 2) (.J 0),
  .aY (.J 3) (.J 1),
  .while (.cmp .gt (.J 3) (kI 0))
  [.aY (.J 4) (.bin .mod (.J 2) (.J 3)),
   .aY (.J 2) (.J 3),
   .aY (.J 3) (.J 4)],
  .ret (.aF [(.bin .fdiv (.J 0) (.J 2)),(.bin .fdiv (.J 1) (.J 2))])]
noncomputable def Jk:List S:=
 [.ret (.call 7 [(.bin .add (.bin .mul (iI 0 0) (iI 1 1)) (.bin .mul (iI 1 0) (iI 0 1))),(.bin .mul (iI 0 1) (iI 1 1))])]
noncomputable def Jl:List S:=
 [.ret (.call 7 [(.bin .sub (.bin .mul (iI 0 0) (iI 1 1)) (.bin .mul (iI 1 0) (iI 0 1))),(.bin .mul (iI 0 1) (iI 1 1))])]
noncomputable def Jm:List S:=
 [.ret (.call 7 [(.bin .mul (iI 0 0) (iI 1 0)),(.bin .mul (iI 0 1) (iI 1 1))])]
noncomputable def Jn:List S:=
 [.ret (.call 7 [(iI 0 0),(.bin .mul (iI 0 1) (.J 1))])]
noncomputable def Jo:List S:=
 [.aY (.J 4) (.comp 1 (.J 0) (.J 0) (.of (.J 2)) [(.call 3 [.J 1,.J 0,.J 4])]),
  .aY (.J 5) (.aP []),
  .for (.J 6) (.of (.J 4))
  [.aY (.J 7) (.call 11 [(.gk 0),(.bi .len [.J 4])]),
   .bD (.call 0 [.J 0,.J 6,.J 3])
   [.expr (.cR .append (.J 5) [(.aF [.J 6,.J 7,(.aP [.J 1,.J 6])])])]
   [.for (.aF [.J 8,.J 9,.J 10]) (.of (.call 13 [.J 0,.J 6,.J 3]))
    [.expr (.cR .append (.J 5) [(.aF [.J 8,(.call 10 [.J 7,.J 9]),(.bin .add (.aP [.J 1]) (.J 10))])])]]],
  .ret (.J 5)]
noncomputable def Jp:List S:=
 [.ret (.call 12 [.J 0,.J 1,(.call 2 [.J 0,.J 1,.J 2]),.J 2])]
noncomputable def Jq:List S:=
 [.ret (.comp 1 (.J 0) (.J 0) (.of (.call 2 [.J 0,.J 1,.J 3])) [(.cmp .ne (.J 0) (.J 3))])]
noncomputable def Jr:List S:=
 [.aY (.J 3) (.aP []),
  .for (.J 4) (.of (.call 1 [.J 0,.J 1,.J 2]))
  [.aY (.J 5) (.call 14 [.J 0,.J 4,.J 1,.J 2]),
   .bD (.or [(.call 0 [.J 0,.J 4,.J 2]),(.bi .any [(.comp 1 (.call 3 [.J 1,.J 0,.J 3]) (.J 0) (.of (.J 5)) [])])])
   [.expr (.cR .append (.J 3) [.J 4])]
   []],
  .aY (.J 6) (.aP []),
  .for (.J 4) (.of (.J 3))
  [.aY (.J 7) (.call 11 [(.gk 0),(.bi .len [.J 3])]),
   .bD (.call 0 [.J 0,.J 4,.J 2])
   [.expr (.cR .append (.J 6) [(.aF [.J 4,.J 7,(.aP [.J 1,.J 4])])])]
   [.for (.aF [.J 8,.J 9,.J 10]) (.of (.call 12 [.J 0,.J 4,(.call 14 [.J 0,.J 4,.J 1,.J 2]),.J 2]))
    [.expr (.cR .append (.J 6) [(.aF [.J 8,(.call 10 [.J 7,.J 9]),(.bin .add (.aP [.J 1]) (.J 10))])])]]],
  .ret (.J 6)]
noncomputable def Js:List S:=
 [.for (.aF [.J 3,.J 4,.J 5]) (.of (iI 0 1))
  [.bD (.and [(.cmp .le (.J 5) (.J 2)),(.cmp .eq (.J 3) (.J 1)),(.call 0 [(iI 0 0),.J 4,.J 2])])
   [.ret (.J 4)]
   [],
   .bD (.and [(.cmp .le (.J 5) (.J 2)),(.cmp .eq (.J 4) (.J 1)),(.call 0 [(iI 0 0),.J 3,.J 2])])
   [.ret (.J 3)]
   []],
  .ret (.k .none)]
noncomputable def Jt:List S:=
 [.aY (.J 3) (.neg (kI 1)),
  .aY (.J 4) (.aF []),
  .for (.aF [.J 5,.J 6,.J 7]) (.of (iI 0 2))
  [.bD (.and [(.cmp .eq (.J 5) (.J 1)),(.uo .le .le (.J 3) (.J 6) (.J 2))])
   [.aY (.J 3) (.J 6),
    .aY (.J 4) (.J 7)]
   []],
  .ret (.J 4)]
noncomputable def Ju:List S:=
 [.aY (.J 4) (.aP []),
  .aY (.J 5) (.gk 1),
  .for (.aF [.J 6,.J 7]) (.of (.J 2))
  [.bD (.call 0 [.J 0,.J 6,.J 3])
   [.expr (.cR .append (.J 4) [(.aF [.J 6,.J 7,(.k (.str "will")),(.aP [.J 1,.J 6])])]),
    .aY (.J 5) (.call 8 [.J 5,.J 7])]
   [.bD (.bi .any [(.comp 1 (.call 3 [.J 1,.J 0,.J 4]) (.J 0) (.of (.call 2 [.J 0,.J 6,.J 3])) [])])
    [.for (.aF [.J 8,.J 9,.J 10]) (.of (.call 13 [.J 0,.J 6,.J 3]))
     [.expr (.cR .append (.J 4) [(.aF [.J 8,(.call 10 [.J 7,.J 9]),(.k (.str "will")),(.bin .add (.aP [.J 1]) (.J 10))])])],
     .aY (.J 5) (.call 8 [.J 5,.J 7])]
    []]],
  .ret (.aF [.J 4,.J 5])]
noncomputable def Jv:List S:=
 [.aY (.J 3) (.call 13 [.J 0,.J 1,.J 2]),
  .bD (.cmp .ne (.J 3) (.aP []))
  [.ret (.aF [(.k (.str "line")),.J 3])]
  [],
  .aY (.J 3) (.call 15 [.J 0,.J 1,.J 2]),
  .bD (.cmp .ne (.J 3) (.aP []))
  [.ret (.aF [(.k (.str "parents")),.J 3])]
  [],
  .aY (.J 4) (.call 6 [.J 0,.J 1,.J 2]),
  .ret (.aF [(.k (.str "degree")),(.comp 2 (.aF [.J 0,(.call 11 [(.gk 0),(.bi .len [.J 6])]),.J 1]) (.aF [.J 0,.J 1]) (.of (.J 4)) [])])]
noncomputable def Jw:List S:=
 [.bD (.cmp .eq (.J 1) (.aP []))
  [.ret (.gk 0)]
  [],
  .bD (.cmp .eq (.J 0) (.k (.str "line")))
  [.ret (.call 7 [(kI 1),(kI 4)])]
  [],
  .bD (.cmp .eq (.J 0) (.k (.str "parents")))
  [.ret (.call 7 [(kI 1),(kI 2)])]
  [],
  .ret (.call 7 [(kI 3),(kI 4)])]
noncomputable def EP:List S:=
 [.aY (.J 2) (iI 0 0),
  .aY (.J 3) (.br (.br (.J 2) (.J 1)) (kI 3)),
  .bD (.isNone true (.J 3))
  [.raise 7 "a person who is not dead"]
  [],
  .aY (.aF [.J 4,.J 5]) (.call 18 [.J 2,.J 1,(.call 17 [.J 0,.J 1,.J 3]),.J 3]),
  .aY (.J 6) (.call 9 [(.gk 0),.J 5]),
  .bD (.cmp .eq (.J 6) (.gk 1))
  [.ret (.J 4)]
  [],
  .aY (.aF [.J 7,.J 8]) (.call 19 [.J 2,.J 1,.J 3]),
  .aY (.J 9) (.call 16 [.J 0,.J 1,.J 3]),
  .bD (.and [(.isNone true (.J 9)),(.cmp .eq (.J 8) (.aP []))])
  [.ret (.bin .add (.J 4) (.aP [(.aF [(.k .none),.J 6,(.k (.str "town")),(.aP [.J 1])])]))]
  [],
  .bD (.isNone false (.J 9))
  [.aY (.J 10) (.call 10 [.J 6,(.call 20 [.J 7,.J 8])]),
   .expr (.cR .append (.J 4) [(.aF [.J 9,.J 10,(.k (.str "spouse")),(.aP [.J 1,.J 9])])]),
   .aY (.J 6) (.call 9 [.J 6,.J 10])]
  [],
  .for (.aF [.J 11,.J 12,.J 13]) (.of (.J 8))
  [.expr (.cR .append (.J 4) [(.aF [.J 11,(.call 10 [.J 6,.J 12]),.J 7,.J 13])])],
  .ret (.J 4)]
noncomputable def Jx:List S:=
 [.ret (.and [(.bi (.mB .int) [.J 0]),(.not (.bi (.mB .bool) [.J 0])),(.uo .le .le (.J 1) (.J 0) (.J 2))])]
noncomputable def Jy:List S:=
 [.bD (.not (.call 22 [.J 0,(kI 0),(.gk 2)]))
  [.raise 1 "no day"]
  []]
noncomputable def Jz:List S:=
 [.ret (.cmp .ne (.bi .qo [.J 0]) (.bi .len [.J 0]))]
noncomputable def EQ:List S:=
 [.ret (.comp 4 (.aF [.J 0,.J 1,.J 2,(.listOf (.J 3))]) (.aF [.J 0,.J 1,.J 2,.J 3]) (.of (.J 0)) [])]
noncomputable def JA:List S:=
 [.bD (.cmp .lt (.J 1) (.bi .len [.J 0]))
  [.ret (.br (.J 0) (.J 1))]
  [],
  .ret (kI 0)]
noncomputable def ER:List S:=
 [.aY (.J 2) (.aP []),
  .aY (.J 3) (.bin .mod (.J 0) (kI 2147483647)),
  .for (.J 4) (.range (kI 0) (.J 1))
  [.aY (.J 3) (.bin .mod (.bin .add (.bin .add (.bin .mul (.J 3) (kI 48271)) (kI 11)) (.J 4)) (kI 2147483647)),
   .expr (.cR .append (.J 2) [.J 3])],
  .ret (.J 2)]
noncomputable def ES:List S:=
 [.bD (.or [(.cmp .eq (.J 0) (.aP [])),(.and [(.cmp .eq (.J 2) (kI 0)),(.cmp .eq (.bin .mod (.bin .fdiv (.J 1) (kI 7)) (kI 5)) (kI 0))])])
  [.ret (.aF [])]
  [],
  .aY (.J 3) (.br (.J 0) (.bin .mod (.J 1) (.bi .len [.J 0]))),
  .aY (.J 4) (.br (.J 0) (.bin .mod (.bin .fdiv (.J 1) (kI 60)) (.bi .len [.J 0]))),
  .bD (.or [(.cmp .eq (.J 3) (.J 4)),(.cmp .eq (.bin .mod (.bin .fdiv (.J 1) (kI 3)) (kI 4)) (kI 0))])
  [.ret (.aF [.J 3])]
  [],
  .ret (.aF [.J 3,.J 4])]
noncomputable def JB:List S:=
 [.aY (.J 2) (.aP []),
  .aY (.J 3) (.br (.aP [(kI 1),(kI 1),(kI 1),(kI 600)]) (.bin .mod (.J 0) (kI 4))),
  .aY (.J 4) (.aP [(.aF []),(.aF []),(.aF [(kI 1),(kI 0)]),(.aF [(kI 1),(kI 0)]),(.aF [(kI 2)]),(.aF [(kI 3)]),(.aF []),(.aF [(kI 5)]),(.aF [(kI 3)]),(.aF [(kI 1)]),(.aF []),(.aF [(kI 2)])]),
  .for (.aF [.J 5,.J 6]) (.oy (.call 28 [(.bin .fdiv (.J 0) (kI 4)),.J 1]))
  [.aY (.J 7) (.bin .mul (.bin .add (.bin .mul (kI 5) (.bin .fdiv (.J 5) (kI 3))) (.bin .mod (.J 6) (kI 11))) (.J 3)),
   .aY (.J 8) (.comp 1 (.J 0) (.J 0) (.range (kI 0) (.J 5)) [(.cmp .lt (.br (.br (.J 3) (.J 0)) (kI 0)) (.J 8))]),
   .aY (.J 9) (.call 29 [(.kP (.J 8) (some (.neg (kI 7))) none),(.bin .fdiv (.J 6) (kI 11)),(kI 0)]),
   .bD (.and [(.cmp .gt (.J 5) (kI 0)),(.cmp .eq (.bin .mod (.bin .fdiv (.J 6) (kI 13)) (kI 3)) (kI 0)),(.cmp .eq (.comp 1 (.J 0) (.J 0) (.of (.br (.br (.J 2) (.bin .sub (.J 5) (kI 1))) (kI 1))) [(.cmp .jP (.J 0) (.J 9))]) (.aP []))])
   [.aY (.J 9) (.br (.br (.J 2) (.bin .sub (.J 5) (kI 1))) (kI 1))]
   [],
   .bD (.and [(.cmp .eq (.bin .mod (.bin .fdiv (.J 0) (kI 4)) (kI 3)) (kI 0)),(.cmp .lt (.J 5) (kI 12))])
   [.aY (.J 7) (.bin .mul (.bin .add (.bin .mul (kI 12) (.bin .fdiv (.J 5) (kI 2))) (.bin .mod (.J 6) (kI 11))) (.J 3)),
    .aY (.J 9) (.br (.J 4) (.J 5))]
   [],
   .aY (.J 10) (.k .none),
   .bD (.cmp .gt (.bin .mod (.bin .fdiv (.J 6) (kI 500)) (.br (.aP [(kI 4),(kI 9)]) (.bin .mod (.bin .fdiv (.J 0) (kI 12)) (kI 2)))) (kI 0))
   [.aY (.J 10) (.bin .add (.J 7) (.bin .mul (.bin .mod (.bin .fdiv (.J 6) (kI 1500)) (kI 40)) (.J 3)))]
   [],
   .expr (.cR .append (.J 2) [(.aF [.J 7,.J 9,(.k .none),.J 10])])],
  .ret (.J 2)]
noncomputable def JC:List S:=
 [.aY (.J 2) (.listOf (.J 0)),
  .for (.aF [.J 3,.J 4]) (.oy (.call 28 [.J 1,(.bi .len [.J 0])]))
  [.aY (.aF [.J 5,.J 6,.J 7,.J 8]) (.br (.J 0) (.J 3)),
   .aY (.J 9) (.comp 1 (.J 0) (.J 0) (.range (kI 0) (.bi .len [.J 0])) [(.cmp .lt (.br (.br (.J 1) (.J 0)) (kI 0)) (.J 6))]),
   .aY (.J 10) (.bin .add (.J 5) (.bin .mod (.J 4) (kI 30))),
   .bD (.and [(.cmp .eq (.bin .mod (.bin .fdiv (.J 4) (kI 30)) (kI 4)) (kI 0)),(.cmp .ne (.J 9) (.aP [])),(.or [(.isNone true (.J 8)),(.cmp .lt (.J 10) (.J 8))])])
   [.ij (.J 2) (.J 3) (.aF [.J 5,.J 6,(.aF [.J 10,(.call 29 [.J 9,(.bin .fdiv (.J 4) (kI 120)),(kI 1)])]),.J 8])]
   []],
  .ret (.J 2)]
noncomputable def JD:List S:=
 [.bD (.cmp .lt (.J 2) (.br (.br (.J 0) (.J 1)) (kI 0)))
  [.ret (.k (.bool false))]
  [],
  .ret (.or [(.isNone true (.br (.br (.J 0) (.J 1)) (kI 3))),(.cmp .gt (.br (.br (.J 0) (.J 1)) (kI 3)) (.J 2))])]
noncomputable def ET:List S:=
 [.aY (.J 2) (.comp 1 (.br (.br (.J 1) (.J 0)) (kI 3)) (.J 0) (.of (.kP (.J 1) none (some (kI 2)))) [(.isNone false (.br (.br (.J 1) (.J 0)) (kI 3)))]),
  .ret (.bi .rG [.J 2,(.bin .pow (kI 10) (kI 9))])]
noncomputable def JE:List S:=
 [.ret (.and [(.cmp .gt (.call 36 [.J 0,.J 1]) (iI 2 2)),(.cmp .gt (.call 36 [.J 0,.J 2]) (iI 1 2))])]
noncomputable def JF:List S:=
 [.aY (.J 3) (.aP []),
  .for (.J 4) (.of (.call 28 [.J 1,.J 2]))
  [.aY (.J 5) (.bin .mod (.J 4) (.bi .len [.J 0])),
   .aY (.J 6) (.bin .mod (.bin .fdiv (.J 4) (kI 60)) (.bi .len [.J 0])),
   .aY (.J 7) (.bin .add (.bi .max2 [(.br (.br (.J 0) (.J 5)) (kI 0)),(.br (.br (.J 0) (.J 6)) (kI 0))]) (.bin .mod (.bin .fdiv (.J 4) (kI 3600)) (kI 40))),
   .aY (.J 8) (.aF [.J 5,.J 6,.J 7]),
   .aY (.J 9) (.and [(.cmp .ne (.J 5) (.J 6)),(.call 32 [.J 0,.J 5,.J 7]),(.call 32 [.J 0,.J 6,.J 7])]),
   .for (.J 10) (.of (.J 3))
   [.bD (.or [(.cmp .ot (.J 5) (.kP (.J 10) none (some (kI 2)))),(.cmp .ot (.J 6) (.kP (.J 10) none (some (kI 2))))])
    [.aY (.J 9) (.and [.J 9,(.not (.call 37 [.J 0,.J 8,.J 10]))])]
    []],
   .bD (.J 9)
   [.expr (.cR .append (.J 3) [.J 8])]
   []],
  .ret (.J 3)]
noncomputable def JG:List S:=
 [.aY (.J 3) (.aP []),
  .for (.J 4) (.range (kI 0) (.bin .add (kI 1) (.bin .mod (.J 2) (.br (.aP [(kI 3),(kI 3),(kI 10)]) (.bin .mod (.bin .fdiv (.J 2) (kI 30)) (kI 3))))))
  [.aY (.J 5) (.bin .mod (.bin .add (.bin .fdiv (.J 2) (kI 90)) (.bin .mul (.J 4) (.bin .add (kI 1) (.bin .mod (.bin .fdiv (.J 2) (kI 540)) (kI 7))))) (.bi .len [.J 0])),
   .bD (.and [(.cmp .ne (.J 5) (.J 1)),(.cmp .jP (.J 5) (.J 3))])
   [.expr (.cR .append (.J 3) [.J 5])]
   []],
  .aY (.J 6) (.bin .add (kI 1) (.bin .mod (.bin .fdiv (.J 2) (kI 3780)) (kI 3))),
  .aY (.J 7) (.br (.aP [(.bin .mod (.bin .fdiv (.J 2) (kI 11340)) (kI 4)),(.bin .mod (.bin .fdiv (.J 2) (kI 11340)) (kI 900))]) (.bin .mod (.bin .fdiv (.J 2) (kI 7)) (kI 2))),
  .ret (.comp 1 (.aF [.J 0,.J 7,(.bin .add (.bin .mul (.J 7) (.bi .len [.J 4])) (.J 8))]) (.J 0) (.of (.J 3)) [])]
noncomputable def JH:List S:=
 [.aY (.J 3) (.aP []),
  .for (.J 4) (.of (.call 28 [.J 1,.J 2]))
  [.aY (.J 5) (.bin .mod (.J 4) (.bi .len [.J 0])),
   .aY (.J 6) (.bin .add (.br (.br (.J 0) (.J 5)) (kI 0)) (.bin .mod (.bin .fdiv (.J 4) (kI 60)) (kI 30))),
   .aY (.J 7) (.call 39 [.J 0,.J 5,(.bin .fdiv (.J 4) (kI 1800))]),
   .bD (.and [(.cmp .ne (.J 7) (.aP [])),(.or [(.isNone true (.br (.br (.J 0) (.J 5)) (kI 3))),(.cmp .le (.J 6) (.br (.br (.J 0) (.J 5)) (kI 3)))])])
   [.expr (.cR .append (.J 3) [(.aF [.J 5,.J 6,(.bi .tupleOf [(.comp 3 (.aF [.J 0,(.call 41 [.J 1,.J 2])]) (.aF [.J 0,.J 1,.J 2]) (.of (.J 7)) [])])])])]
   []],
  .ret (.J 3)]
noncomputable def JI:List S:=
 [.aY (.J 2) (.J 0),
  .aY (.J 3) (.J 1),
  .while (.cmp .gt (.J 3) (kI 0))
  [.aY (.J 4) (.bin .mod (.J 2) (.J 3)),
   .aY (.J 2) (.J 3),
   .aY (.J 3) (.J 4)],
  .ret (.aF [(.bin .fdiv (.J 0) (.J 2)),(.bin .fdiv (.J 1) (.J 2))])]
noncomputable def JJ:List S:=
 [.aY (.J 2) (.bin .add (kI 1) (.bin .mod (.call 26 [.J 0,(kI 0)]) (.J 1))),
  .aY (.J 3) (.call 31 [(.call 30 [(.call 26 [.J 0,(kI 1)]),.J 2]),(.call 26 [.J 0,(kI 2)])]),
  .aY (.J 4) (.call 38 [.J 3,(.call 26 [.J 0,(kI 3)]),(.bin .mod (.bin .fdiv (.call 26 [.J 0,(kI 0)]) (kI 12)) (kI 13))]),
  .ret (.aF [.J 3,.J 4,(.call 40 [.J 3,(.call 26 [.J 0,(kI 4)]),(.bin .mod (.bin .fdiv (.call 26 [.J 0,(kI 0)]) (kI 156)) (kI 9))])])]
noncomputable def EU:List S:=
 [.ret (.comp 1 (.J 0) (.J 0) (.range (kI 0) (.bi .len [.J 0])) [(.isNone false (.br (.br (.J 1) (.J 0)) (kI 3)))])]
noncomputable def EV:List S:=
 [.aY (.J 1) (.aP [(.ox (some 0) (.J 0)),(.ox (some 1) (.J 0)),(.ox (some 2) (.J 0)),(.ox (some 3) (.J 0))]),
  .aY (.J 1) (.bin .add (.J 1) (.aP [(.ox (some 4) (.J 0)),(.ox (some 5) (.J 0)),(.ox (some 6) (.J 0)),(.ox (some 7) (.J 0))])),
  .bD (.or [(.cmp .ne (.cR .count (.J 1) [(.k (.bool true))]) (kI 1)),(.not (.ox none (.J 0)))])
  [.ret (.k (.str "unlike"))]
  [],
  .ret (.br (.aP [(.k (.str "person")),(.k (.str "day")),(.k (.str "parents")),(.k (.str "match")),(.k (.str "will")),(.k (.str "again")),(.k (.str "full")),(.k (.str "dead"))]) (.cR .index (.J 1) [(.k (.bool true))]))]
noncomputable def JK:List S:=
 [.bD (.cmp .eq (iI 1 0) (.k (.str "born")))
  [.ret (.cQ 60 (.J 0) [(iI 1 1),(iI 1 2)])]
  [],
  .bD (.cmp .eq (iI 1 0) (.k (.str "adopted")))
  [.ret (.cQ 61 (.J 0) [(iI 1 1),(iI 1 2),(iI 1 3)])]
  [],
  .bD (.cmp .eq (iI 1 0) (.k (.str "married")))
  [.ret (.cQ 63 (.J 0) [(iI 1 1),(iI 1 2),(iI 1 3)])]
  [],
  .bD (.cmp .eq (iI 1 0) (.k (.str "died")))
  [.ret (.cQ 64 (.J 0) [(iI 1 1),(iI 1 2)])]
  [],
  .ret (.cQ 66 (.J 0) [(iI 1 1),(iI 1 2),(iI 1 3)])]
noncomputable def JL:List S:=
 [.lV (some (.J 2)) (.call 46 [.J 0,.J 1]) 8 3 (.aF [(.call 45 [.J 3]),(.k .none)]),
  .ret (.aF [(.k (.str "")),.J 2])]
noncomputable def sV:List S:=
 [.aY (.J 2) (.listOf (iI 0 0)),
  .aY (.J 3) (.listOf (iI 0 1)),
  .aY (.J 4) (.listOf (iI 0 2)),
  .bD (.cmp .eq (iI 1 0) (.k (.str "born")))
  [.expr (.cR .append (.J 2) [(.aF [(iI 1 1),(.bi .tupleOf [(iI 1 2)]),(.k .none),(.k .none)])])]
  [.bD (.cmp .eq (iI 1 0) (.k (.str "married")))
   [.expr (.cR .append (.J 3) [(.aF [(iI 1 1),(iI 1 2),(iI 1 3)])])]
   [.bD (.cmp .eq (iI 1 0) (.k (.str "will")))
    [.aY (.J 5) (.comp 3 (.aF [.J 0,(.call 41 [.J 1,.J 2])]) (.aF [.J 0,.J 1,.J 2]) (.of (iI 1 3)) []),
     .expr (.cR .append (.J 4) [(.aF [(iI 1 1),(iI 1 2),(.bi .tupleOf [.J 5])])])]
    [.aY (.aF [.J 6,.J 7,.J 8,.J 9]) (.br (.J 2) (iI 1 1)),
     .bD (.cmp .eq (iI 1 0) (.k (.str "died")))
     [.aY (.J 9) (iI 1 2)]
     [.aY (.J 8) (.aF [(iI 1 2),(.bi .tupleOf [(iI 1 3)])])],
     .ij (.J 2) (iI 1 1) (.aF [.J 6,.J 7,.J 8,.J 9])]]],
  .ret (.aF [.J 2,.J 3,.J 4])]
noncomputable def JM:List S:=
 [.aY (.J 1) (iI 0 0),
  .aY (.J 2) (.comp 1 (.aF [(.k (.str "born")),(iI 0 0),(.listOf (iI 0 1))]) (.J 0) (.of (.J 1)) []),
  .aY (.J 2) (.bin .add (.J 2) (.comp 1 (.aF [(.k (.str "died")),.J 0,(.br (.br (.J 2) (.J 0)) (kI 3))]) (.J 0) (.range (kI 0) (.bi .len [.J 1])) [(.isNone false (.br (.br (.J 2) (.J 0)) (kI 3)))])),
  .for (.J 3) (.range (kI 0) (.bi .len [.J 1]))
  [.bD (.isNone false (.br (.br (.J 1) (.J 3)) (kI 2)))
   [.expr (.cR .append (.J 2) [(.aF [(.k (.str "adopted")),.J 3,(.br (.br (.br (.J 1) (.J 3)) (kI 2)) (kI 0)),(.listOf (.br (.br (.br (.J 1) (.J 3)) (kI 2)) (kI 1)))])])]
   []],
  .aY (.J 2) (.bin .add (.J 2) (.comp 3 (.aF [(.k (.str "married")),.J 0,.J 1,.J 2]) (.aF [.J 0,.J 1,.J 2]) (.of (iI 0 1)) [])),
  .for (.aF [.J 4,.J 5,.J 6]) (.of (iI 0 2))
  [.expr (.cR .append (.J 2) [(.aF [(.k (.str "will")),.J 4,.J 5,(.comp 2 (.aF [.J 0,(iI 1 0),(iI 1 1)]) (.aF [.J 0,.J 1]) (.of (.J 6)) [])])])],
  .ret (.J 2)]
noncomputable def Cb:List S:=
 [.aY (.J 2) (iI 0 0),
  .aY (.J 3) (.call 28 [.J 1,(kI 7)]),
  .aY (.J 4) (.bin .mod (iI 3 0) (.bi .len [.J 2])),
  .aY (.J 5) (.bin .mod (iI 3 1) (.bi .len [.J 2])),
  .aY (.J 6) (.bin .add (.br (.br (.J 2) (.J 4)) (kI 0)) (.bin .mod (iI 3 2) (kI 45))),
  .aY (.J 7) (.comp 1 (.J 0) (.J 0) (.range (kI 0) (.bi .len [.J 2])) [(.cmp .lt (.br (.br (.J 3) (.J 0)) (kI 0)) (.br (.br (.J 3) (.J 5)) (kI 0)))]),
  .bD (.and [(.cmp .eq (.bin .mod (iI 3 3) (kI 5)) (kI 0)),(.cmp .lt (.bi .len [.J 2]) (kI 8))])
  [.ret (.aF [(.k (.str "born")),.J 6,(.listOf (.call 29 [(.comp 1 (.J 0) (.J 0) (.range (kI 0) (.bi .len [.J 2])) [(.cmp .lt (.br (.br (.J 3) (.J 0)) (kI 0)) (.J 7))]),(iI 3 4),(kI 0)]))])]
  [],
  .bD (.cmp .eq (.bin .mod (iI 3 3) (kI 5)) (kI 1))
  [.ret (.aF [(.k (.str "adopted")),.J 4,(.bin .add (.br (.br (.J 2) (.J 4)) (kI 0)) (.bin .mod (iI 3 2) (kI 9))),(.listOf (.call 29 [.J 7,(iI 3 4),(kI 1)]))])]
  [],
  .bD (.cmp .eq (.bin .mod (iI 3 3) (kI 5)) (kI 2))
  [.ret (.aF [(.k (.str "married")),.J 4,.J 5,(.bi .max2 [.J 6,(.br (.br (.J 2) (.J 5)) (kI 0))])])]
  [],
  .bD (.cmp .eq (.bin .mod (iI 3 3) (kI 5)) (kI 3))
  [.ret (.aF [(.k (.str "will")),.J 4,.J 6,(.call 39 [.J 2,.J 4,(iI 3 5)])])]
  [],
  .ret (.aF [(.k (.str "died")),.J 4,.J 6])]
noncomputable def EW:List S:=
 [.bD (.cmp .eq (.J 1) (kI 0))
  [.aY (.J 4) (.cQ 67 (.J 0) [])]
  [.bD (.cmp .eq (.J 1) (kI 1))
   [.aY (.J 4) (.cQ 69 (.J 0) [])]
   [.bD (.cmp .eq (.J 1) (kI 2))
    [.aY (.J 4) (.cQ 68 (.J 0) []),
     .expr (.cR .append (.J 3) [(.aF [.J 4,(.aF [(.listOf (iI 4 0)),(.listOf (iI 4 1)),(.listOf (iI 4 2))])])]),
     .ret (.J 4)]
    [.aY (.J 4) (.comp 1 (.cQ 70 (.J 1) [.J 0]) (.J 0) (.of (.J 2)) []),
     .expr (.cR .append (.J 3) [(.aF [.J 4,(.comp 1 (.comp 4 (.aF [.J 0,.J 1,.J 2,(.listOf (.J 3))]) (.aF [.J 0,.J 1,.J 2,.J 3]) (.of (.J 0)) []) (.J 0) (.of (.J 4)) [])])]),
     .ret (.J 4)]]],
  .expr (.cR .append (.J 3) [(.aF [.J 4,(.listOf (.J 4))])]),
  .ret (.J 4)]
noncomputable def JN:List S:=
 [.aY (.J 4) .lH,
  .aY (.J 5) (.call 44 [(.br (.gF (.J 1) 0) (kI 0))]),
  .for (.J 6) (.range (kI 0) (kI 4))
  [.aY (.J 7) (.bin .mod (.bin .add (.J 2) (.bin .mul (.J 6) (.br (.aP [(kI 1),(kI 3)]) (.bin .fdiv (.J 2) (kI 4))))) (kI 4)),
   .ij (.J 4) (.J 7) (.call 51 [.J 0,.J 7,.J 5,.J 3])],
  .aY (.J 8) (.comp 1 (.br (.gF (.J 2) 1) (.J 0)) (.J 0) (.of (.J 5)) []),
  .bD (.or [(.not (.bi (.mB .list) [(iI 4 0)])),(.not (.bi (.mB .list) [(iI 4 1)])),(.cmp .ne (iI 4 1) (.J 5)),(.cmp .ne (iI 4 0) (.gF (.J 1) 2))])
  [.ret (.k (.bool false))]
  [],
  .for (.J 9) (.range (kI 0) (.bi .len [(.br (.gF (.J 1) 0) (kI 0))]))
  [.bD (.cmp .jP (.J 9) (.J 5))
   [.qq (.cQ 70 (.J 0) [.J 9]) 7]
   []],
  .ret (.and [(.cmp .eq (iI 4 3) (.J 8)),(.cmp .eq (iI 4 2) (.gF (.J 1) 0))])]
noncomputable def JO:List S:=
 [.aY (.J 2) (.call 48 [(.gF (.J 0) 0),.J 1]),
  .aY (.J 3) .lH,
  .aY (.J 4) (.aP []),
  .for (.J 5) (.of (.call 44 [(iI 2 0)]))
  [.ij (.J 3) (.J 5) (.call 21 [.J 2,.J 5]),
   .bD (.cmp .ne (.br (.J 3) (.J 5)) (.get (.gF (.J 0) 1) (.J 5)))
   [.expr (.cR .append (.J 4) [.J 5])]
   []],
  .ret (.tab [.J 2,.J 3,.J 4])]
noncomputable def JP:List S:=
 [.aY (.J 2) (.call 43 [.J 0,(kI 5)]),
  .aY (.J 3) (.tab [(.aF [(.aP []),(.aP []),(.aP [])]),.lH,(.aP [])]),
  .aY (.J 4) (.call 49 [.J 2]),
  .for (.aF [.J 5,.J 6]) (.oy (.J 4))
  [.bD (.cmp .ne (.br (.call 47 [.J 1,.J 6]) (kI 0)) (.k (.str "")))
   [.ret (.k .none)]
   [],
   .bD (.cmp .lt (.J 5) (.bin .sub (.bi .len [.J 4]) (kI 1)))
   [.aY (.J 3) (.tab [(.call 48 [(.gF (.J 3) 0),.J 6]),.lH,(.aP [])])]
   []],
  .for (.J 7) (.of (.call 44 [(.br (.gF (.J 3) 0) (kI 0))]))
  [.ij (.gF (.J 3) 1) (.J 7) (.call 21 [(.gF (.J 3) 0),.J 7])],
  .ret (.call 53 [.J 3,(.br (.J 4) (.neg (kI 1)))])]
noncomputable def JQ:List S:=
 [.aY (.J 1) (.aP [(.new 56),(.new 56)]),
  .bD (.or [(.cmp .ne (.cQ 67 (iI 1 0) []) (.aP [])),(.cmp .ne (.cQ 69 (iI 1 0) []) (.aP [])),(.cmp .ne (.cQ 68 (iI 1 0) []) (.aF [(.aP []),(.aP []),(.aP [])]))])
  [.ret (.k (.bool false))]
  [],
  .aY (.J 2) (.aP [(.call 54 [(.kP (.J 0) none (some (kI 5))),(iI 1 0)]),(.call 54 [(.comp 1 (.bin .fdiv (.J 0) (kI 7)) (.J 0) (.of (.kP (.J 0) none (some (kI 5)))) []),(iI 1 1)])]),
  .aY (.J 3) (.aP []),
  .for (.J 4) (.of (.kP (.J 0) (some (kI 5)) (some (kI 15))))
  [.aY (.J 5) (.bin .mod (.J 4) (kI 2)),
   .aY (.J 6) (.br (.J 2) (.J 5)),
   .bD (.isNone true (.J 6))
   [.ret (.k (.bool false))]
   [],
   .aY (.J 7) (.call 50 [(.gF (.J 6) 0),(.bin .fdiv (.J 4) (kI 2))]),
   .aY (.aF [.J 8,.J 9]) (.call 47 [(.br (.J 1) (.J 5)),.J 7]),
   .bD (.cmp .eq (.J 8) (.k (.str "")))
   [.ij (.J 2) (.J 5) (.call 53 [.J 6,.J 7])]
   [],
   .for (.J 10) (.of (.J 7))
   [.bD (.bi (.mB .list) [.J 10])
    [.expr (.cR .append (.J 10) [(kI 0)]),
     .expr (.cR .reverse (.J 10) [])]
    []],
   .bD (.not (.call 52 [(.br (.J 1) (.J 5)),(.br (.J 2) (.J 5)),(.bin .mod (.bin .fdiv (.J 4) (kI 4)) (kI 8)),.J 3]))
   [.ret (.k (.bool false))]
   []],
  .for (.aF [.J 11,.J 6]) (.zip (.J 1) (.J 2))
  [.bD (.or [(.isNone true (.J 6)),(.not (.call 52 [.J 11,.J 6,(.bin .mod (.call 26 [.J 0,(kI 0)]) (kI 8)),.J 3]))])
   [.ret (.k (.bool false))]
   []],
  .for (.aF [.J 11,.J 6]) (.zip (.J 1) (.J 2))
  [.expr (.cR .append (.br (.cQ 68 (.J 11) []) (kI 0)) [(.aF [(kI 0),(.aF []),(.k .none),(.k .none)])]),
   .expr (.cR .clear (.br (.cQ 68 (.J 11) []) (kI 2)) []),
   .for (.J 12) (.of (.cQ 69 (.J 11) []))
   [.for (.J 13) (.of (.cQ 70 (.J 11) [.J 12]))
    [.expr (.cR .append (iI 13 3) [(kI 0)])],
    .expr (.cR .clear (.cQ 70 (.J 11) [.J 12]) [])],
   .expr (.cR .append (.cQ 69 (.J 11) []) [(kI 0)]),
   .expr (.cR .append (.cQ 67 (.J 11) []) [(kI 0)]),
   .bD (.not (.call 52 [.J 11,.J 6,(kI 0),.J 3]))
   [.ret (.k (.bool false))]
   []],
  .ret (.cmp .eq (.comp 1 (.J 0) (.J 0) (.of (.J 3)) [(.cmp .ne (iI 0 0) (iI 0 1))]) (.aP []))]
noncomputable def EX:List S:=
 [.setAttr (.J 0) 0 (.aP []),
  .setAttr (.J 0) 1 (.aP []),
  .setAttr (.J 0) 2 (.aP []),
  .setAttr (.J 0) 3 .lH,
  .setAttr (.J 0) 4 (.aP [])]
noncomputable def JR:List S:=
 [.bD (.not (.call 22 [.J 1,(kI 0),(.bin .sub (.bi .len [(.attr (.J 0) 0)]) (kI 1))]))
  [.raise 0 "no person"]
  []]
noncomputable def JS:List S:=
 [.ij (.attr (.J 0) 0) (.J 1) (.J 2)]
noncomputable def JT:List S:=
 [.setAttr (.J 0) 4 (.aP []),
  .aY (.J 1) .lH,
  .for (.J 2) (.of (.cQ 69 (.J 0) []))
  [.aY (.J 3) (.call 21 [(.aF [(.attr (.J 0) 0),(.attr (.J 0) 1),(.attr (.J 0) 2)]),.J 2]),
   .bD (.or [(.cmp .jP (.J 2) (.attr (.J 0) 3)),(.cmp .ne (.br (.attr (.J 0) 3) (.J 2)) (.J 3))])
   [.expr (.cR .append (.attr (.J 0) 4) [.J 2])]
   [],
   .ij (.J 1) (.J 2) (.J 3)],
  .setAttr (.J 0) 3 (.J 1)]
noncomputable def Cc:List S:=
 [.for (.J 3) (.of (.J 2))
  [.expr (.cQ 57 (.J 0) [.J 3])],
  .expr (.call 23 [.J 1]),
  .bD (.or [(.cmp .gt (.bi .len [.J 2]) (kI 2)),(.call 24 [.J 2])])
  [.raise 2 "more than two, or like ones"]
  [],
  .for (.J 3) (.of (.J 2))
  [.bD (.cmp .ge (.br (.br (.attr (.J 0) 0) (.J 3)) (kI 0)) (.J 1))
   [.raise 2 "one was born on that day or later"]
   []],
  .bD (.cmp .ge (.bi .len [(.attr (.J 0) 0)]) (.gk 3))
  [.raise 6 "no more persons"]
  [],
  .expr (.cR .append (.attr (.J 0) 0) [(.aF [.J 1,(.bi .tupleOf [.J 2]),(.k .none),(.k .none)])]),
  .expr (.cQ 59 (.J 0) []),
  .ret (.bin .sub (.bi .len [(.attr (.J 0) 0)]) (kI 1))]
noncomputable def xR:List S:=
 [.expr (.cQ 57 (.J 0) [.J 1]),
  .for (.J 4) (.of (.J 3))
  [.expr (.cQ 57 (.J 0) [.J 4])],
  .expr (.call 23 [.J 2]),
  .aY (.aF [.J 5,.J 6,.J 7,.J 8]) (.br (.attr (.J 0) 0) (.J 1)),
  .bD (.or [(.cmp .lt (.J 2) (.J 5)),(.and [(.isNone false (.J 8)),(.cmp .ge (.J 2) (.J 8))])])
  [.raise 1 "the child does not live then"]
  [],
  .bD (.or [(.not (.uo .le .le (kI 1) (.bi .len [.J 3]) (kI 2))),(.call 24 [.J 3])])
  [.raise 2 "none, more than two, or like ones"]
  [],
  .for (.J 4) (.of (.J 3))
  [.bD (.cmp .ge (.br (.br (.attr (.J 0) 0) (.J 4)) (kI 0)) (.J 5))
   [.raise 2 "one was born not earlier than the child"]
   []],
  .bD (.isNone false (.J 7))
  [.raise 5 "adopted already"]
  [],
  .expr (.cQ 58 (.J 0) [.J 1,(.aF [.J 5,.J 6,(.aF [.J 2,(.bi .tupleOf [.J 3])]),.J 8])]),
  .expr (.cQ 59 (.J 0) [])]
noncomputable def EY:List S:=
 [.aY (.J 3) (.comp 1 (.br (.br (.attr (.J 1) 0) (.J 0)) (kI 3)) (.J 0) (.of (.aF [.J 1,.J 2])) [(.isNone false (.br (.br (.attr (.J 1) 0) (.J 0)) (kI 3)))]),
  .ret (.bi .rG [.J 3,(.bin .add (.gk 2) (kI 1))])]
noncomputable def xS:List S:=
 [.expr (.cQ 57 (.J 0) [.J 1]),
  .expr (.cQ 57 (.J 0) [.J 2]),
  .expr (.call 23 [.J 3]),
  .bD (.or [(.cmp .eq (.J 1) (.J 2)),(.not (.call 0 [(.attr (.J 0) 0),.J 1,.J 3])),(.not (.call 0 [(.attr (.J 0) 0),.J 2,.J 3]))])
  [.raise 3 "one person, or one who does not live then"]
  [],
  .for (.aF [.J 4,.J 5,.J 6]) (.of (.attr (.J 0) 1))
  [.bD (.or [(.cmp .ot (.J 4) (.aF [.J 1,.J 2])),(.cmp .ot (.J 5) (.aF [.J 1,.J 2]))])
   [.bD (.and [(.cmp .gt (.cQ 62 (.J 0) [.J 4,.J 5]) (.J 3)),(.cmp .gt (.cQ 62 (.J 0) [.J 1,.J 2]) (.J 6))])
    [.raise 5 "another marriage meets it"]
    []]
   []],
  .expr (.cR .append (.attr (.J 0) 1) [(.aF [.J 1,.J 2,.J 3])]),
  .expr (.cQ 59 (.J 0) [])]
noncomputable def sW:List S:=
 [.expr (.cQ 57 (.J 0) [.J 1]),
  .expr (.call 23 [.J 2]),
  .aY (.aF [.J 3,.J 4,.J 5,.J 6]) (.br (.attr (.J 0) 0) (.J 1)),
  .bD (.isNone false (.J 6))
  [.raise 5 "dead already"]
  [],
  .bD (.or [(.cmp .lt (.J 2) (.J 3)),(.and [(.isNone false (.J 5)),(.cmp .le (.J 2) (iI 5 0))])])
  [.raise 1 "earlier than the birth, or not later than the adoption"]
  [],
  .for (.aF [.J 7,.J 8,.J 9]) (.of (.attr (.J 0) 2))
  [.bD (.and [(.cmp .eq (.J 7) (.J 1)),(.cmp .lt (.J 2) (.J 8))])
   [.raise 1 "earlier than a will"]
   []],
  .for (.aF [.J 7,.J 10,.J 11]) (.of (.attr (.J 0) 1))
  [.bD (.and [(.cmp .ot (.J 1) (.aF [.J 7,.J 10])),(.cmp .le (.J 2) (.J 11))])
   [.raise 1 "not later than a marriage"]
   []],
  .expr (.cQ 58 (.J 0) [.J 1,(.aF [.J 3,.J 4,.J 5,.J 2])]),
  .expr (.cQ 59 (.J 0) [])]
noncomputable def JU:List S:=
 [.bD (.not (.uo .le .le (kI 1) (.bi .len [.J 2]) (.gk 4)))
  [.raise 4 "no gifts, or too many"]
  [],
  .aY (.J 3) (.comp 1 (iI 0 0) (.J 0) (.of (.J 2)) []),
  .bD (.or [(.call 24 [.J 3]),(.cmp .ot (.J 1) (.J 3))])
  [.raise 4 "one named twice, or the one whose will it is"]
  [],
  .aY (.J 4) (.aP []),
  .aY (.J 5) (.gk 1),
  .for (.aF [.J 6,.J 7,.J 8]) (.of (.J 2))
  [.bD (.or [(.not (.call 22 [.J 7,(kI 1),(.gk 5)])),(.not (.call 22 [.J 8,(kI 1),(.gk 5)]))])
   [.raise 4 "no numbers of a part"]
   [],
   .expr (.cR .append (.J 4) [(.aF [.J 6,(.call 7 [.J 7,.J 8])])]),
   .aY (.J 5) (.call 8 [.J 5,(.call 7 [.J 7,.J 8])])],
  .bD (.cmp .gt (iI 5 0) (iI 5 1))
  [.raise 4 "more than the whole"]
  [],
  .ret (.bi .tupleOf [.J 4])]
noncomputable def EZ:List S:=
 [.expr (.cQ 57 (.J 0) [.J 1]),
  .for (.J 4) (.of (.J 3))
  [.expr (.cQ 57 (.J 0) [(iI 4 0)])],
  .expr (.call 23 [.J 2]),
  .aY (.aF [.J 5,.J 6,.J 7,.J 8]) (.br (.attr (.J 0) 0) (.J 1)),
  .bD (.or [(.cmp .lt (.J 2) (.J 5)),(.and [(.isNone false (.J 8)),(.cmp .gt (.J 2) (.J 8))])])
  [.raise 1 "earlier than the birth, or later than the death"]
  [],
  .expr (.cR .append (.attr (.J 0) 2) [(.aF [.J 1,.J 2,(.cQ 65 (.J 0) [.J 1,.J 3])])]),
  .expr (.cQ 59 (.J 0) [])]
noncomputable def JV:List S:=
 [.ret (.listOf (.attr (.J 0) 4))]
noncomputable def JW:List S:=
 [.ret (.aF [(.listOf (.attr (.J 0) 0)),(.listOf (.attr (.J 0) 1)),(.listOf (.attr (.J 0) 2))])]
noncomputable def JX:List S:=
 [.ret (.comp 1 (.J 0) (.J 0) (.range (kI 0) (.bi .len [(.attr (.J 0) 0)])) [(.isNone false (.br (.br (.attr (.J 1) 0) (.J 0)) (kI 3)))])]
noncomputable def JY:List S:=
 [.expr (.cQ 57 (.J 0) [.J 1]),
  .bD (.cmp .jP (.J 1) (.attr (.J 0) 3))
  [.raise 7 "a person who is not dead"]
  [],
  .ret (.call 25 [(.br (.attr (.J 0) 3) (.J 1))])]
end P
open P
noncomputable def Cd:List Fn:=[
 ⟨"lives",3,4,Je⟩,
 ⟨"parents_on",3,4,Jf⟩,
 ⟨"children_on",3,2,Jg⟩,
 ⟨"has_line",3,1,Jh⟩,
 ⟨"steps_from",3,3,Ji⟩,
 ⟨"further",4,4,Jj⟩,
 ⟨"nearest",3,5,B9⟩,
 ⟨"part",2,3,EO⟩,
 ⟨"added",2,0,Jk⟩,
 ⟨"less",2,0,Jl⟩,
 ⟨"times",2,0,Jm⟩,
 ⟨"shared",2,0,Jn⟩,
 ⟨"lines_to",4,7,Jo⟩,
 ⟨"by_lines",3,0,Jp⟩,
 ⟨"others_of",4,0,Jq⟩,
 ⟨"by_parents",3,8,Jr⟩,
 ⟨"spouse_on",3,3,Js⟩,
 ⟨"will_on",3,5,Jt⟩,
 ⟨"given",4,7,Ju⟩,
 ⟨"kin_of",3,2,Jv⟩,
 ⟨"spouse_part",2,0,Jw⟩,
 ⟨"dealt",2,12,EP⟩,
 ⟨"is_whole",3,0,Jx⟩,
 ⟨"need_day",1,0,Jy⟩,
 ⟨"are_alike",1,0,Jz⟩,
 ⟨"copied",1,0,EQ⟩,
 ⟨"_law_cell_at",2,0,JA⟩,
 ⟨"_law_whole",999,0,[]⟩,
 ⟨"_law_stream",2,3,ER⟩,
 ⟨"_law_some",3,2,ES⟩,
 ⟨"_law_people",2,9,JB⟩,
 ⟨"_law_adopting",2,9,JC⟩,
 ⟨"_law_lives",3,0,JD⟩,
 ⟨"_law_parents",999,0,[]⟩,
 ⟨"_law_children",999,0,[]⟩,
 ⟨"_law_lined",999,0,[]⟩,
 ⟨"_law_ends",2,1,ET⟩,
 ⟨"_law_meets",3,0,JE⟩,
 ⟨"_law_weddings",3,8,JF⟩,
 ⟨"_law_gifts",3,5,JG⟩,
 ⟨"_law_wills",3,5,JH⟩,
 ⟨"_law_lowest",2,3,JI⟩,
 ⟨"_law_is_part",999,0,[]⟩,
 ⟨"_law_roll",2,3,JJ⟩,
 ⟨"_law_dead",1,0,EU⟩,
 ⟨"_law_class",1,1,EV⟩,
 ⟨"_law_called",2,0,JK⟩,
 ⟨"_law_tell",2,2,JL⟩,
 ⟨"_law_done",2,8,sV⟩,
 ⟨"_law_deeds",1,6,JM⟩,
 ⟨"_law_deed_by",2,6,Cb⟩,
 ⟨"_law_rows",4,1,EW⟩,
 ⟨"_law_stands",4,6,JN⟩,
 ⟨"_law_moved",2,4,JO⟩,
 ⟨"_law_begun",2,6,JP⟩,
 ⟨"law",1,13,JQ⟩,
 ⟨"__init__",1,0,EX⟩,
 ⟨"need_person",2,0,JR⟩,
 ⟨"put",3,0,JS⟩,
 ⟨"told",1,3,JT⟩,
 ⟨"born",3,1,Cc⟩,
 ⟨"adopted",4,5,xR⟩,
 ⟨"end_of",3,1,EY⟩,
 ⟨"married",4,3,xS⟩,
 ⟨"died",3,9,sW⟩,
 ⟨"need_gifts",3,6,JU⟩,
 ⟨"will",4,5,EZ⟩,
 ⟨"anew",1,0,JV⟩,
 ⟨"roll",1,0,JW⟩,
 ⟨"dead",1,0,JX⟩,
 ⟨"deal",2,0,JY⟩]
noncomputable def E0:List (List Str):=["people","person","day","born","parents","adopted","died"]::["people","person","day","born","parents","adopted","died"]::["people","person","day","found","child"]::["people","person","day","child"]::["people","state","day","person","down","found"]::["people","known","ways","day","found","state","other","way"]::["people","person","day","ways","known","heirs","state","heir"]::["over","under","one","other","rest"]::["one","other"]::["one","other"]::["one","other"]::["one","many"]::["people","person","children","day","takers","rows","child","share","heir","piece","line"]::["people","person","day"]::["people","parent","person","day"]::["people","person","day","takers","parent","others","rows","share","heir","piece","line"]::["roll","person","day","one","other","begun"]::["roll","person","day","latest","found","one","told","gifts"]::["people","person","gifts","day","rows","total","named","piece","heir","share","line"]::["people","person","day","rows","near"]::["how","kin"]::["roll","person","people","day","rows","total","rest","how","kin","spouse","piece","heir","share","line"]::["thing","low","high"]::["day"]::["persons"]::["rows"]::["_law_script","_law_k"]::[]::["_law_cell","_law_many","_law_found","_law_number","_law_k"]::["_law_elders","_law_y","_law_fewest","_law_one","_law_other"]::["_law_cell","_law_many","_law_people_here","_law_scale","_law_house","_law_k","_law_x","_law_born","_law_elders","_law_parents_here","_law_died"]::["_law_people_here","_law_cell","_law_found","_law_k","_law_x","_law_born","_law_parents_here","_law_adopted","_law_died","_law_elders","_law_day"]::["_law_people_here","_law_person","_law_day"]::[]::[]::[]::["_law_people_here","_law_marriage","_law_ends_here"]::["_law_people_here","_law_one","_law_other"]::["_law_people_here","_law_cell","_law_many","_law_found","_law_x","_law_one","_law_other","_law_day","_law_new","_law_fits","_law_marriage"]::["_law_people_here","_law_person","_law_x","_law_named","_law_k","_law_one","_law_over","_law_more"]::["_law_people_here","_law_cell","_law_many","_law_found","_law_x","_law_person","_law_day","_law_gifts_here"]::["_law_over","_law_under","_law_a","_law_b","_law_c"]::[]::["_law_script","_law_most","_law_many","_law_people_here","_law_weddings_here"]::["_law_people_here"]::["_law_e","_law_told"]::["_law_book","_law_deed"]::["_law_book","_law_deed","_law_found","_law_e"]::["_law_roll_here","_law_deed","_law_people_here","_law_weddings_here","_law_wills_here","_law_gifts_here","_law_born","_law_parents_here","_law_adopted","_law_died"]::["_law_roll_here","_law_people_here","_law_deeds_here","_law_k","_law_one","_law_day","_law_gifts_here"]::["_law_roll_here","_law_cell","_law_people_here","_law_xs","_law_one","_law_other","_law_day","_law_elders"]::["_law_book","_law_side","_law_dead_here","_law_held","_law_found"]::["_law_book","_law_state","_law_first","_law_held","_law_told","_law_dead_here","_law_k","_law_side","_law_due","_law_one"]::["_law_state","_law_deed","_law_roll_here","_law_deals","_law_anew","_law_one"]::["_law_script","_law_book","_law_roll_here","_law_state","_law_deeds_here","_law_k","_law_deed","_law_one"]::["_law_script","_law_books","_law_states","_law_held","_law_cell","_law_which","_law_state","_law_deed","_law_told","_law_found","_law_thing","_law_book","_law_one","_law_row"]::["self"]::["self","person"]::["self","person","row"]::["self","deals","person","rows"]::["self","day","parents","parent"]::["self","child","day","parents","parent","born","first","own","died"]::["self","one","other","ends"]::["self","one","other","day","first","second","begun"]::["self","person","day","born","parents","own","dead","one","told","gifts","other","begun"]::["self","person","gifts","named","found","total","one","over","under"]::["self","person","day","gifts","gift","born","parents","own","died"]::["self"]::["self"]::["self"]::["self","person"]::[]
noncomputable def QZ:List (Bool×Str):=("lives"::"parents_on"::"children_on"::"has_line"::"steps_from"::"further"::"nearest"::"part"::"added"::"less"::"times"::"shared"::"lines_to"::"by_lines"::"others_of"::"by_parents"::"spouse_on"::"will_on"::"given"::"kin_of"::"spouse_part"::"dealt"::"is_whole"::"need_day"::"are_alike"::"copied"::"_law_cell_at"::"_law_whole"::"_law_stream"::"_law_some"::"_law_people"::"_law_adopting"::"_law_lives"::"_law_parents"::"_law_children"::"_law_lined"::"_law_ends"::"_law_meets"::"_law_weddings"::"_law_gifts"::"_law_wills"::"_law_lowest"::"_law_is_part"::"_law_roll"::"_law_dead"::"_law_class"::"_law_called"::"_law_tell"::"_law_done"::"_law_deeds"::"_law_deed_by"::"_law_rows"::"_law_stands"::"_law_moved"::"_law_begun"::"law"::[]:List Str).map (Prod.mk false)++("__init__"::"need_person"::"put"::"told"::"born"::"adopted"::"end_of"::"married"::"died"::"need_gifts"::"will"::"anew"::"roll"::"dead"::"deal"::[]:List Str).map (Prod.mk true)
noncomputable def gK:CK:=⟨QZ,["WHOLE","NOTHING","MOST_DAY","MOST_PEOPLE","MOST_GIFTS","MOST_NUMBER"],["NoPerson","NoDay","NoParents","NoMatch","NoWill","Again","Full","NotDead","EstateError"],"Book",["people","marriages","wills","deals","fresh"]⟩
noncomputable def zU:List V:=[(.aF [(.int 1),(.int 1)]),(.aF [(.int 0),(.int 1)]),(.int 100000),(.int 60),(.int 10),(.int 1000)]
noncomputable def iP(j k:Nat):Bool:=j==k||k==8
noncomputable def qr:List Str:=["roll","deals","anew"]
noncomputable def xT:List Nat:=[45]
noncomputable def intOf:V->Option Int
 |.int i=>some i
 |_=>none
noncomputable def Q0:Option NameKind->Bool
 |some .local=>true
 |some .cell=>true
 |some .free=>true
 |_=>false
noncomputable def xU:Option NameKind->Bool
 |some .local=>true
 |some .cell=>true
 |_=>false
noncomputable def pF(ns:List Str)(i:Nat)(x:Str):Bool:=decide (ns.idxOf x=i)&&decide (i<ns.length)
noncomputable def qt(σ:Sn)(x:Str):Bool:=decide (σ.sc.names.lookup x=some .globalImplicit)&&!(x==("__debug__":Str))
noncomputable def E3:V->Option Const
 |.none=>some .none
 |.bool b=>some (.bool b)
 |.int i=>some (.int i)
 |.str s=>some (.str s)
 |_=>none
noncomputable def ur:qm->Operator
 |.add=>.Add
 |.sub=>.Sub
 |.mul=>.Mult
 |.fdiv=>.FloorDiv
 |.mod=>.Mod
 |.pow=>.Pow
noncomputable def vF:pD->CmpOp
 |.eq=>.Eq
 |.ne=>.NotEq
 |.lt=>.Lt
 |.le=>.LtE
 |.gt=>.Gt
 |.ge=>.GtE
 |.ot=>.In
 |.jP=>.NotIn
noncomputable def lW:Ty->String
 |.int=>"int"
 |.bool=>"bool"
 |.list=>"list"
noncomputable def zV:Bi->Option (Str×Nat)
 |.len=>some ("len",1)
 |.any=>some ("any",1)
 |.max2=>some ("max",2)
 |.tupleOf=>some ("tuple",1)
 |.B7=>some ("sorted",1)
 |.EN=>some ("int",1)
 |_=>none
noncomputable def xV:Me->Str×Nat
 |.append=>("append",1)
 |.count=>("count",1)
 |.index=>("index",1)
 |.reverse=>("reverse",0)
 |.clear=>("clear",0)
noncomputable def xW(x:Expr):Bool:=decide (x.ctorIdx=23)
noncomputable def vG(x:Expr):Bool:=decide (x.ctorIdx=25)
theorem got{c:Prop}[i:Decidable c]{t:c->Bool}(h:(if hc:c then t hc else false)=true):c:=
 match i,h with
 |.isTrue hc,_=>hc
theorem aW{a b:Bool}{G:Prop}(h:(a&&b)=true)(k:a=true->b=true->G):G:=k (iA.mp h).1 (iA.mp h).2
noncomputable def lX(x:Expr)(f:Const->Bool):Bool:=if h:x.ctorIdx=19 then Expr.Constant.elim (motive_1:=λζ=>Bool) x h (λc ζ ζ=>f c) else false
theorem lX.k{G:Expr->Prop}{x:Expr}{f:Const->Bool}(h:lX x f=true)(k:∀a0 a1 a2,f a0=true->G (.Constant a0 a1 a2)):G x:=
 Expr.Constant.elim (motive_1:=λx=>lX x f=true->G x) x (got h) k h
noncomputable def gV(x:Expr)(f:Str->Bool):Bool:=if h:x.ctorIdx=23 then Expr.Name.elim (motive_1:=λζ=>Bool) x h (λy ζ=>f y) else false
theorem gV.k{G:Expr->Prop}{x:Expr}{f:Str->Bool}(h:gV x f=true)(k:∀a0 a1,f a0=true->G (.Name a0 a1)):G x:=
 Expr.Name.elim (motive_1:=λx=>gV x f=true->G x) x (got h) k h
noncomputable def zW(x:Expr)(f:Expr->Operator->Expr->Bool):Bool:=if h:x.ctorIdx=2 then Expr.BinOp.elim (motive_1:=λζ=>Bool) x h (λl o r ζ=>f l o r) else false
theorem zW.k{G:Expr->Prop}{x:Expr}{f:Expr->Operator->Expr->Bool}(h:zW x f=true)(k:∀a0 a1 a2 a3,f a0 a1 a2=true->G (.BinOp a0 a1 a2 a3)):G x:=
 Expr.BinOp.elim (motive_1:=λx=>zW x f=true->G x) x (got h) k h
noncomputable def vH(x:Expr)(f:UnaryOp->Expr->Bool):Bool:=if h:x.ctorIdx=3 then Expr.UnaryOp.elim (motive_1:=λζ=>Bool) x h (λo y ζ=>f o y) else false
theorem vH.k{G:Expr->Prop}{x:Expr}{f:UnaryOp->Expr->Bool}(h:vH x f=true)(k:∀a0 a1 a2,f a0 a1=true->G (.UnaryOp a0 a1 a2)):G x:=
 Expr.UnaryOp.elim (motive_1:=λx=>vH x f=true->G x) x (got h) k h
noncomputable def vI(x:Expr)(f:BoolOp->List Expr->Bool):Bool:=if h:x.ctorIdx=0 then Expr.BoolOp.elim (motive_1:=λζ=>Bool) x h (λo ys ζ=>f o ys) else false
theorem vI.k{G:Expr->Prop}{x:Expr}{f:BoolOp->List Expr->Bool}(h:vI x f=true)(k:∀a0 a1 a2,f a0 a1=true->G (.BoolOp a0 a1 a2)):G x:=
 Expr.BoolOp.elim (motive_1:=λx=>vI x f=true->G x) x (got h) k h
noncomputable def sX(x:Expr)(f:Expr->List CmpOp->List Expr->Bool):Bool:=if h:x.ctorIdx=15 then Expr.Compare.elim (motive_1:=λζ=>Bool) x h (λl os rs ζ=>f l os rs) else false
theorem sX.k{G:Expr->Prop}{x:Expr}{f:Expr->List CmpOp->List Expr->Bool}(h:sX x f=true)(k:∀a0 a1 a2 a3,f a0 a1 a2=true->G (.Compare a0 a1 a2 a3)):G x:=
 Expr.Compare.elim (motive_1:=λx=>sX x f=true->G x) x (got h) k h
noncomputable def qu(x:Expr)(f:List Expr->Bool):Bool:=if h:x.ctorIdx=25 then Expr.Tuple.elim (motive_1:=λζ=>Bool) x h (λys ζ ζ=>f ys) else false
theorem qu.k{G:Expr->Prop}{x:Expr}{f:List Expr->Bool}(h:qu x f=true)(k:∀a0 a1 a2,f a0=true->G (.Tuple a0 a1 a2)):G x:=
 Expr.Tuple.elim (motive_1:=λx=>qu x f=true->G x) x (got h) k h
noncomputable def zX(x:Expr)(f:List Expr->Bool):Bool:=if h:x.ctorIdx=24 then Expr.List.elim (motive_1:=λζ=>Bool) x h (λys ζ=>f ys) else false
theorem zX.k{G:Expr->Prop}{x:Expr}{f:List Expr->Bool}(h:zX x f=true)(k:∀a0 a1,f a0=true->G (.List a0 a1)):G x:=
 Expr.List.elim (motive_1:=λx=>zX x f=true->G x) x (got h) k h
noncomputable def qw(x:Expr)(f:Expr->Expr->Bool):Bool:=if h:x.ctorIdx=21 then Expr.Subscript.elim (motive_1:=λζ=>Bool) x h (λy z ζ=>f y z) else false
theorem qw.k{G:Expr->Prop}{x:Expr}{f:Expr->Expr->Bool}(h:qw x f=true)(k:∀a0 a1 a2,f a0 a1=true->G (.Subscript a0 a1 a2)):G x:=
 Expr.Subscript.elim (motive_1:=λx=>qw x f=true->G x) x (got h) k h
noncomputable def zY(x:Expr)(f:Option Expr->Option Expr->Option Expr->Bool):Bool:=if h:x.ctorIdx=26 then Expr.Slice.elim (motive_1:=λζ=>Bool) x h (λl u t ζ=>f l u t) else false
theorem zY.k{G:Expr->Prop}{x:Expr}{f:Option Expr->Option Expr->Option Expr->Bool}(h:zY x f=true)(k:∀a0 a1 a2 a3,f a0 a1 a2=true->G (.Slice a0 a1 a2 a3)):G x:=
 Expr.Slice.elim (motive_1:=λx=>zY x f=true->G x) x (got h) k h
noncomputable def gG(x:Expr)(f:Expr->List Expr->List Keyword->Pos->Bool):Bool:=if h:x.ctorIdx=16 then Expr.Call.elim (motive_1:=λζ=>Bool) x h (λg ys ks p=>f g ys ks p) else false
theorem gG.k{G:Expr->Prop}{x:Expr}{f:Expr->List Expr->List Keyword->Pos->Bool}(h:gG x f=true)(k:∀a0 a1 a2 a3,f a0 a1 a2 a3=true->G (.Call a0 a1 a2 a3)):G x:=
 Expr.Call.elim (motive_1:=λx=>gG x f=true->G x) x (got h) k h
noncomputable def sY(x:Expr):Bool:=decide (x.ctorIdx≠16)||gG x λg ζ ζ ζ=>!xW g
noncomputable def oz(x:Expr)(f:Expr->Str->Pos->Bool):Bool:=if h:x.ctorIdx=20 then Expr.Attribute.elim (motive_1:=λζ=>Bool) x h (λo y p=>f o y p) else false
theorem oz.k{G:Expr->Prop}{x:Expr}{f:Expr->Str->Pos->Bool}(h:oz x f=true)(k:∀a0 a1 a2,f a0 a1 a2=true->G (.Attribute a0 a1 a2)):G x:=
 Expr.Attribute.elim (motive_1:=λx=>oz x f=true->G x) x (got h) k h
noncomputable def xX(x:Expr)(f:Expr->List Comprehension->Scope->Bool):Bool:=if h:x.ctorIdx=8 then Expr.ListComp.elim (motive_1:=λζ=>Bool) x h (λe gs c ζ=>f e gs c) else false
theorem xX.k{G:Expr->Prop}{x:Expr}{f:Expr->List Comprehension->Scope->Bool}(h:xX x f=true)(k:∀a0 a1 a2 a3,f a0 a1 a2=true->G (.ListComp a0 a1 a2 a3)):G x:=
 Expr.ListComp.elim (motive_1:=λx=>xX x f=true->G x) x (got h) k h
noncomputable def zZ(x:Expr)(f:Expr->Expr->Expr->Bool):Bool:=if h:x.ctorIdx=5 then Expr.IfExp.elim (motive_1:=λζ=>Bool) x h (λc a b ζ=>f c a b) else false
theorem zZ.k{G:Expr->Prop}{x:Expr}{f:Expr->Expr->Expr->Bool}(h:zZ x f=true)(k:∀a0 a1 a2 a3,f a0 a1 a2=true->G (.IfExp a0 a1 a2 a3)):G x:=
 Expr.IfExp.elim (motive_1:=λx=>zZ x f=true->G x) x (got h) k h
noncomputable def z8(x:Stmt)(f:Option Expr->Option Expr->Bool):Bool:=if h:x.ctorIdx=16 then Stmt.Raise.elim (motive_2:=λζ=>Bool) x h (λe c ζ=>f e c) else false
theorem z8.k{G:Stmt->Prop}{x:Stmt}{f:Option Expr->Option Expr->Bool}(h:z8 x f=true)(k:∀a0 a1 a2,f a0 a1=true->G (.Raise a0 a1 a2)):G x:=
 Stmt.Raise.elim (motive_2:=λx=>z8 x f=true->G x) x (got h) k h
noncomputable def vJ(x:Stmt)(f:List Stmt->List ExceptHandler->List Stmt->List Stmt->Bool):Bool:=if h:x.ctorIdx=17 then Stmt.Try.elim (motive_2:=λζ=>Bool) x h (λa b c d ζ=>f a b c d) else false
theorem vJ.k{G:Stmt->Prop}{x:Stmt}{f:List Stmt->List ExceptHandler->List Stmt->List Stmt->Bool}(h:vJ x f=true)(k:∀a0 a1 a2 a3 a4,f a0 a1 a2 a3=true->G (.Try a0 a1 a2 a3 a4)):G x:=
 Stmt.Try.elim (motive_2:=λx=>vJ x f=true->G x) x (got h) k h
noncomputable def vK(x:Stmt)(f:Expr->Bool):Bool:=if h:x.ctorIdx=24 then Stmt.Expr.elim (motive_2:=λζ=>Bool) x h (λe ζ=>f e) else false
theorem vK.k{G:Stmt->Prop}{x:Stmt}{f:Expr->Bool}(h:vK x f=true)(k:∀a0 a1,f a0=true->G (.Expr a0 a1)):G x:=
 Stmt.Expr.elim (motive_2:=λx=>vK x f=true->G x) x (got h) k h
noncomputable def qx(x:Stmt)(f:List Expr->Expr->Bool):Bool:=if h:x.ctorIdx=5 then Stmt.Assign.elim (motive_2:=λζ=>Bool) x h (λts e ζ=>f ts e) else false
theorem qx.k{G:Stmt->Prop}{x:Stmt}{f:List Expr->Expr->Bool}(h:qx x f=true)(k:∀a0 a1 a2,f a0 a1=true->G (.Assign a0 a1 a2)):G x:=
 Stmt.Assign.elim (motive_2:=λx=>qx x f=true->G x) x (got h) k h
noncomputable def qA(x:Stmt)(f:Option Expr->Bool):Bool:=if h:x.ctorIdx=3 then Stmt.Return.elim (motive_2:=λζ=>Bool) x h (λe ζ=>f e) else false
theorem qA.k{G:Stmt->Prop}{x:Stmt}{f:Option Expr->Bool}(h:qA x f=true)(k:∀a0 a1,f a0=true->G (.Return a0 a1)):G x:=
 Stmt.Return.elim (motive_2:=λx=>qA x f=true->G x) x (got h) k h
noncomputable def vL(x:Stmt)(f:Expr->List Stmt->List Stmt->Bool):Bool:=if h:x.ctorIdx=12 then Stmt.If.elim (motive_2:=λζ=>Bool) x h (λt a b ζ=>f t a b) else false
theorem vL.k{G:Stmt->Prop}{x:Stmt}{f:Expr->List Stmt->List Stmt->Bool}(h:vL x f=true)(k:∀a0 a1 a2 a3,f a0 a1 a2=true->G (.If a0 a1 a2 a3)):G x:=
 Stmt.If.elim (motive_2:=λx=>vL x f=true->G x) x (got h) k h
noncomputable def z9(x:Stmt)(f:Expr->Expr->List Stmt->List Stmt->Bool):Bool:=if h:x.ctorIdx=9 then Stmt.For.elim (motive_2:=λζ=>Bool) x h (λt i a b ζ=>f t i a b) else false
theorem z9.k{G:Stmt->Prop}{x:Stmt}{f:Expr->Expr->List Stmt->List Stmt->Bool}(h:z9 x f=true)(k:∀a0 a1 a2 a3 a4,f a0 a1 a2 a3=true->G (.For a0 a1 a2 a3 a4)):G x:=
 Stmt.For.elim (motive_2:=λx=>z9 x f=true->G x) x (got h) k h
noncomputable def Aa(x:Stmt)(f:Expr->List Stmt->List Stmt->Bool):Bool:=if h:x.ctorIdx=11 then Stmt.While.elim (motive_2:=λζ=>Bool) x h (λt a b ζ=>f t a b) else false
theorem Aa.k{G:Stmt->Prop}{x:Stmt}{f:Expr->List Stmt->List Stmt->Bool}(h:Aa x f=true)(k:∀a0 a1 a2 a3,f a0 a1 a2=true->G (.While a0 a1 a2 a3)):G x:=
 Stmt.While.elim (motive_2:=λx=>Aa x f=true->G x) x (got h) k h
noncomputable def qB(x:Expr)(f:List (Option Expr)->List Expr->Bool):Bool:=if h:x.ctorIdx=6 then Expr.Dict.elim (motive_1:=λζ=>Bool) x h (λa b ζ=>f a b) else false
theorem qB.k{G:Expr->Prop}{x:Expr}{f:List (Option Expr)->List Expr->Bool}(h:qB x f=true)(k:∀a0 a1 a2,f a0 a1=true->G (.Dict a0 a1 a2)):G x:=
 Expr.Dict.elim (motive_1:=λx=>qB x f=true->G x) x (got h) k h
noncomputable def if1{α:Type}(l:List α)(f:α->Bool):Bool:=match l with
 |[a]=>f a
 |_=>false
noncomputable def if2{α:Type}(l:List α)(f:α->α->Bool):Bool:=match l with
 |[a,b]=>f a b
 |_=>false
noncomputable def pG{α:Type}(l:List α)(f:α->List α->Bool):Bool:=match l with
 |a::r=>f a r
 |_=>false
noncomputable def gm{α:Type}(l:Option α)(f:α->Bool):Bool:=match l with
 |some a=>f a
 |_=>false
theorem if1.k{α:Type}{G:List α->Prop}{l:List α}{f:α->Bool}(h:if1 l f=true)(k:∀a,f a=true->G [a]):G l:=by
 rcases l with _|⟨a,_|⟨b,l⟩⟩
 ·exact Bool.noConfusion h
 ·exact k a h
 ·exact Bool.noConfusion h
theorem if2.k{α:Type}{G:List α->Prop}{l:List α}{f:α->α->Bool}(h:if2 l f=true)(k:∀a b,f a b=true->G [a,b]):G l:=by
 rcases l with _|⟨a,_|⟨b,_|⟨c,l⟩⟩⟩
 ·exact Bool.noConfusion h
 ·exact Bool.noConfusion h
 ·exact k a b h
 ·exact Bool.noConfusion h
theorem pG.k{α:Type}{G:List α->Prop}{l:List α}{f:α->List α->Bool}(h:pG l f=true)(k:∀a r,f a r=true->G (a::r)):G l:=by
 cases l
 ·exact Bool.noConfusion h
 ·exact k _ _ h
theorem gm.k{α:Type}{G:Option α->Prop}{l:Option α}{f:α->Bool}(h:gm l f=true)(k:∀a,f a=true->G (some a)):G l:=by
 cases l
 ·exact Bool.noConfusion h
 ·exact k _ h
theorem fH{α:Type}{G:List α->Prop}{l:List α}(h:l.isEmpty=true)(k:G []):G l:=by cases l;exact k;cases h
theorem xY{α:Type}{G:Option α->Prop}{l:Option α}(h:l.isNone=true)(k:G none):G l:=by cases l;exact k;cases h
noncomputable def Ab(a:E):Bool:=if h:a.ctorIdx=0 then E.k.elim (motive_1:=λζ=>Bool) a h (λv=>decide (intOf v=some 0)) else false
theorem bK{P:Prop}{α:Type}{x:Option α}{y:α}(h:x=none)(h':x=some y):P:=by rw[h] at h';cases h'
theorem intOf.k{v:V}{i:Int}(h:intOf v=some i)(P:V->Prop)(k:P (.int i)):P v:=
 V.casesOn (motive_1:=λv=>intOf v=some i->P v) v (λh=>bK rfl h) (λζ h=>bK rfl h) (λζ h=>dH h▸k) (λζ h=>bK rfl h) (λζ h=>bK rfl h) (λζ h=>bK rfl h) (λh=>bK rfl h) h
theorem Ab.k{a:E}{G:E->Prop}(h:Ab a=true)(k:G (kI 0)):G a:=
 E.k.elim (motive_1:=λa=>Ab a=true->G a) a (got h) (λv h=>intOf.k (cu h) (λv=>G (.k v)) k) h
noncomputable def Ac(g:Comprehension)(f:Expr->Expr->List Expr->Bool):Bool:=decide (g.is_async=0)&&f g.target g.iter g.ifs
theorem Ac.k{G:Comprehension->Prop}{g:Comprehension}{f:Expr->Expr->List Expr->Bool}(h:Ac g f=true)(k:∀tg it ifs,f tg it ifs=true->G ⟨tg,it,ifs,0⟩):G g:=by
 obtain⟨tg,it,ifs,a⟩:=g
 refine aW h λh1 h2=>?_
 obtain rfl:a=0:=cu h1
 exact k tg it ifs h2
noncomputable def Ad(g:Keyword)(f:Str->Expr->Bool):Bool:=gm g.arg λy=>f y g.value
theorem Ad.k{G:Keyword->Prop}{g:Keyword}{f:Str->Expr->Bool}(h:Ad g f=true)(k:∀y v p,f y v=true->G ⟨some y,v,p⟩):G g:=by
 obtain⟨n,v,p⟩:=g
 exact gm.k (G:=λn=>G ⟨n,v,p⟩) h λy h=>k y v p h
mutual
noncomputable def lI(σ:Sn):d8->Expr->Bool
 |.J i,e=>gV e λx=>pF σ.ns i x&&xU (σ.sc.names.lookup x)
 |.aF ts,e=>qu e λes=>!σ.hd&&Ae σ ts es
noncomputable def Ae(σ:Sn):List d8->List Expr->Bool
 |[],es=>es.isEmpty
 |t::ts,es=>pG es λe es=>lI σ t e&&Ae σ ts es
end
noncomputable def Q1(x:Expr):List Str:=if h:x.ctorIdx=23 then Expr.Name.elim (motive_1:=λζ=>List Str) x h (λy ζ=>[y]) else[]
noncomputable def Q2(x:Expr):List Expr:=if h:x.ctorIdx=25 then Expr.Tuple.elim (motive_1:=λζ=>List Expr) x h (λy ζ ζ=>y) else[]
mutual
noncomputable def jJ:d8->Expr->List Str
 |.J _,e=>Q1 e
 |.aF ts,e=>xZ ts (Q2 e)
noncomputable def xZ:List d8->List Expr->List Str
 |t::ts,e::es=>jJ t e++xZ ts es
 |_,_=>[]
end
noncomputable def E4(a:Arguments)(ps:List Str):Bool:=
 a.posonlyargs.isEmpty&&(a.vararg.isNone&&(a.kwonlyargs.isEmpty&&(a.kw_defaults.isEmpty&&(a.kwarg.isNone&&(a.defaults.isEmpty&&decide (a.args.map (·.arg)=ps))))))
noncomputable def E5:Option NameKind->Bool
 |some .cell=>true
 |some .free=>true
 |_=>false
noncomputable def Af(σ:Sn)(loc:List Str)(sc:Scope):Bool:=
 decide (sc.kind=.function)&&(!sc.isGenerator&&(!sc.isCoroutine&&(decide ((sc.names.map (·.1)).Nodup) &&
 (sc.names.all (λp=>match p.2 with
  |.local=>p.1==(".0":Str)||loc.contains p.1
  |.cell=>false
  |.free=>σ.ns.contains p.1&&(!loc.contains p.1&&E5 (σ.sc.names.lookup p.1))
  |.globalImplicit=>true
  |.globalExplicit=>false) &&
 (loc.all (λx=>decide (sc.names.lookup x=some .local))&&!σ.ns.contains (".0":Str))))))
noncomputable def ya(it:It)(tg:Expr):Bool:=match it with
 |.oy _=>vG tg
 |.zip _ _=>vG tg
 |_=>vG tg||xW tg
noncomputable def JZ(σ:Sn)(i:Nat)(x:Str):Bool:=pF σ.ns i x&&(Q0 (σ.sc.names.lookup x)&&(!(x==("__debug__":Str))&&!(x==("__classdict__":Str))))
noncomputable def fR(σ:Sn)(nm:Str)(g:Expr):Bool:=gV g λx=>(x==nm)&&qt σ nm
noncomputable def yb(x:ExceptHandler)(f:Option Expr->Option Str->List Stmt->Bool):Bool:=match x with
 |.ExceptHandler t n b _=>f t n b
theorem yb.k{G:ExceptHandler->Prop}{x:ExceptHandler}{f:Option Expr->Option Str->List Stmt->Bool}(h:yb x f=true)(k:∀a0 a1 a2 a3,f a0 a1 a2=true->G (.ExceptHandler a0 a1 a2 a3)):G x:=by
 cases x;exact k _ _ _ _ h
noncomputable def pH(σ:Sn)(k:Option Nat)(nm:Expr):Bool:=match k with
 |some k=>gV nm λy=>decide (gK.uq[k]?=some y)&&qt σ y
 |none=>fR σ "ValueError" nm
noncomputable def Ag:List (Option Expr)->List Str->Bool
 |[],ws=>ws.isEmpty
 |k::ks,ws=>pG ws λw ws=>gm k λk=>lX k λc=>decide (c=.str w)&&Ag ks ws
mutual
noncomputable def cH(σ:Sn):E->Expr->Bool
 |.k v,x=>lX x λc=>decide (E3 v=some c)
 |.J i,x=>gV x (JZ σ i)
 |.gk j,x=>gV x λx=>decide (gK.B8[j]?=some x)&&qt σ x
 |.bin op a b,x=>zW x λl o r=>decide (o=ur op)&&(cH σ a l&&cH σ b r)
 |.neg a,x=>vH x λo y=>decide (o=.USub)&&cH σ a y
 |.not a,x=>vH x λo y=>decide (o=.Not)&&cH σ a y
 |.and es,x=>vI x λo xs=>decide (o=.And)&&ja σ es xs
 |.or es,x=>vI x λo xs=>decide (o=.Or)&&ja σ es xs
 |.cmp op a b,x=>sX x λl os rs=>if1 os λo=>if1 rs λr=>decide (o=vF op)&&(cH σ a l&&cH σ b r)
 |.uo op sU a b c,x=>sX x λl os rs=>if2 os λo o'=>if2 rs λr r'=>decide (o=vF op)&&(decide (o'=vF sU)&&(cH σ a l&&(cH σ b r&&cH σ c r')))
 |.isNone w a,x=>sX x λl os rs=>if1 os λo=>decide (o=if w then .Is else .IsNot)&&if1 rs λr=>lX r λc=>decide (c=.none)&&cH σ a l
 |.aF es,x=>qu x λxs=>decide (es.length<1000)&&ja σ es xs
 |.aP es,x=>zX x λxs=>decide (es.length<1000)&&ja σ es xs
 |.br a i,x=>qw x λv s=>cH σ a v&&cH σ i s
 |.kP a lo hi,x=>qw x λv s=>zY s λl u t=>t.isNone&&(cH σ a v&&(E6 σ lo l&&E6 σ hi u))
 |.call f es,x=>gG x λg xs kws ζ=>kws.isEmpty&&gV g λx=>decide (gK.pE[f]?=some (false,x))&&(qt σ x&&((!σ.hd||xT.contains f)&&ja σ es xs))
 |.bi b es,x=>gG x λg xs kws ζ=>!σ.hd&&match b with
   |.mB t=>kws.isEmpty&&(fR σ "isinstance" g&&if2 xs λe nm=>fR σ (Str.ofString (lW t)) nm&&ja σ es [e])
   |.rG=>fR σ "min" g&&if1 kws λkw=>Ad kw λy v=>(y==("default":Str))&&if1 xs λe=>ja σ es [e,v]
   |.qo=>kws.isEmpty&&(fR σ "len" g&&if1 xs λe=>gG e λg xs kws ζ=>kws.isEmpty&&(fR σ "set" g&&if1 xs λe=>ja σ es [e]))
   |b=>kws.isEmpty&&gm (zV b) λq=>fR σ q.1 g&&(decide (xs.length=q.2)&&ja σ es xs)
 |.cR m a es,x=>gG x λg xs kws pos=>kws.isEmpty&&oz g λo y apos=>(y==(xV m).1)&&(sY o&&((apos.endLine==pos.line)&&(decide (xs.length=(xV m).2)&&(cH σ a o&&ja σ es xs))))
 |.comp nl elt t it cs,x=>xX x λe gs eZ=>if1 gs λg=>Ac g λtg iter ifs=>
  !σ.hd&&(decide ((jJ t tg).length=nl)&&(Af σ (jJ t tg) eZ&&(Ce σ it iter&&(ya it tg&&(lI ⟨eZ,jJ t tg++σ.ns,false⟩ t tg&&(cH ⟨eZ,jJ t tg++σ.ns,false⟩ elt e&&ja ⟨eZ,jJ t tg++σ.ns,false⟩ cs ifs))))))
 |.listOf a,x=>gG x λg xs kws ζ=>!σ.hd&&(kws.isEmpty&&(fR σ "list" g&&if1 xs λe=>cH σ a e))
 |.lH,x=>qB x λks vs=>ks.isEmpty&&vs.isEmpty
 |.qp,x=>qB x λks vs=>ks.isEmpty&&vs.isEmpty
 |.zT a b,x=>qB x λks vs=>if1 ks λk=>gm k λk=>if1 vs λv=>cH σ a k&&cH σ b v
 |.bD c a b,x=>zZ x λt y z=>cH σ c t&&(cH σ a y&&cH σ b z)
 |.attr a i,x=>oz x λo y ζ=>decide (gK.cC[i]?=some y)&&(xW o&&cH σ a o)
 |.cQ f a es,x=>gG x λg xs kws pos=>kws.isEmpty&&oz g λo y apos=>decide (gK.pE[f]?=some (true,y))&&(!gK.cC.contains y&&(sY o&&((apos.endLine==pos.line)&&(decide (xs.length<20)&&(!σ.hd&&(cH σ a o&&ja σ es xs))))))
 |.new f,x=>gG x λg xs kws ζ=>kws.isEmpty&&(xs.isEmpty&&(decide (gK.pE[f]?=some (true,Str.ofString "__init__"))&&(!σ.hd&&fR σ gK.cls g)))
 |.ox k a,x=>gG x λg xs kws ζ=>kws.isEmpty&&(fR σ "isinstance" g&&if2 xs λe nm=>pH σ k nm&&cH σ a e)
 |.tab es,x=>qB x λks vs=>!σ.hd&&(Ag ks qr&&(decide (es.length=3)&&ja σ es vs))
 |.gF a i,x=>qw x λv s=>cH σ a v&&lX s λc=>decide (qr[i]?.map Const.str=some c)
 |.get a i,x=>gG x λg xs kws pos=>kws.isEmpty&&oz g λo y apos=>(y==("get":Str))&&(sY o&&((apos.endLine==pos.line)&&(!σ.hd&&(cH σ a o&&if1 xs λe=>cH σ i e))))
noncomputable def ja(σ:Sn):List E->List Expr->Bool
 |[],xs=>xs.isEmpty
 |e::es,xs=>pG xs λx xs=>cH σ e x&&ja σ es xs
noncomputable def E6(σ:Sn):Option E->Option Expr->Bool
 |none,x=>x.isNone
 |some e,x=>gm x λx=>cH σ e x
noncomputable def Ce(σ:Sn):It->Expr->Bool
 |.range a b,x=>gG x λg xs kws ζ=>kws.isEmpty&&(fR σ "range" g&&(if1 xs (λe=>Ab a&&cH σ b e)||if2 xs λe1 e2=>cH σ a e1&&cH σ b e2))
 |.oy a,x=>gG x λg xs kws ζ=>kws.isEmpty&&(fR σ "enumerate" g&&if1 xs λe=>cH σ a e)
 |.of e,x=>cH σ e x
 |.zip a b,x=>gG x λg xs kws ζ=>kws.isEmpty&&(fR σ "zip" g&&if2 xs λe1 e2=>cH σ a e1&&cH σ b e2)
end
noncomputable def yc(a b:Expr):Bool:=!(vG a&&vG b)
noncomputable def pI(x:Expr):Bool:=decide (x.ctorIdx≠8/\x.ctorIdx≠9/\x.ctorIdx≠10)
noncomputable def Q3(e:E):Bool:=decide (e.ctorIdx=18)
noncomputable def J0(σ:Sn)(r:Option d8)(e:E)(st:Stmt):Bool:=match r with
 |some t=>qx st λts x=>if1 ts λtg=>lI σ t tg&&(cH σ e x&&(pI x&&yc tg x))
 |none=>qA st λx=>gm x λx=>cH σ e x
noncomputable def J1(x:Stmt):Bool:=decide (x.ctorIdx=27)
noncomputable def J2(s:S)(f:E->List S->List S->Bool):Bool:=if h:s.ctorIdx=5 then S.bD.elim (motive_1:=λζ=>Bool) s h (λc a b=>f c a b) else false
noncomputable def J3(s:S)(f:E->Nat->Bool):Bool:=if h:s.ctorIdx=10 then S.qq.elim (motive_1:=λζ=>Bool) s h (λe k=>f e k) else false
noncomputable def J4(σ:Sn)(body:List S)(ss:List Stmt):Bool:=if1 body λs=>if1 ss λst=>J2 s λc a b=>b.isEmpty&&if1 a λs2=>J3 s2 λe k=>vL st λt x y=>y.isEmpty&&(cH σ c t&&if1 x λj2=>vJ j2 λbd hs o f=>o.isEmpty&&(f.isEmpty&&(!σ.hd&&if2 bd λb1 b2=>(vK b1 λx=>pI x&&cH σ e x)&&((qA b2 λx=>gm x λx=>lX x λc=>decide (c=.bool false))&&if1 hs λhd=>yb hd λt n hb=>n.isNone&&gm t λt=>pH σ (some k) t&&if1 hb λs=>J1 s))))
mutual
noncomputable def J5(σ:Sn):S->Stmt->Bool
 |.expr e,st=>vK st λx=>pI x&&cH σ e x
 |.aY t e,st=>qx st λts x=>if1 ts λtg=>lI σ t tg&&(cH σ e x&&((xW tg&&Q3 e||pI x)&&yc tg x))
 |.ij a i e,st=>qx st λts x=>if1 ts λtg=>qw tg λo j=>pI x&&(cH σ a o&&(cH σ i j&&cH σ e x))
 |.setAttr a i e,st=>qx st λts x=>if1 ts λtg=>oz tg λo y ζ=>decide (gK.cC[i]?=some y)&&(pI x&&(sY o&&(cH σ a o&&cH σ e x)))
 |.ret e,st=>qA st λx=>gm x λx=>cH σ e x
 |.bD c a b,st=>vL st λt x y=>cH σ c t&&(ut σ a x&&ut σ b y)
 |.for t it body,st=>z9 st λtg iter b o=>!σ.hd&&(o.isEmpty&&(lI σ t tg&&(ya it tg&&(Ce σ it iter&&(ut σ body b||J4 σ body b)))))
 |.qq _ _,_=>false
 |.while c body,st=>Aa st λt b o=>!σ.hd&&(o.isEmpty&&(cH σ c t&&ut σ body b))
 |.raise k w,st=>z8 st λe c=>c.isNone&&(!σ.hd&&gm e λe=>gG e λg xs kws ζ=>kws.isEmpty&&gV g λx=>decide (gK.uq[k]?=some x)&&(qt σ x&&if1 xs λa=>lX a λc=>decide (c=.str w)))
 |.lV r e k i h,st=>vJ st λbd hs o f=>o.isEmpty&&(f.isEmpty&&(!σ.hd&&if1 bd λb=>J0 σ r e b&&if1 hs λhd=>yb hd λt n hb=>gm t λt=>pH σ (some k) t&&gm n λn=>(pF σ.ns i n&&decide (σ.sc.names.lookup n=some .local))&&if1 hb λs=>qA s λx=>gm x λx=>cH ⟨σ.sc,σ.ns,true⟩ h x))
noncomputable def ut(σ:Sn):List S->List Stmt->Bool
 |[],ss=>ss.isEmpty
 |s::r,ss=>pG ss λx t=>J5 σ s x&&ut σ r t
end
structure j3 where
 name:Str
 params:Arguments
 body:List Stmt
 scope:Scope
noncomputable def J6(hd:Bool)(d:j3)(ns:List Str)(f:Fn):Bool:=
 decide (f.name=d.name)&&(E4 d.params (ns.take f.np)&&(decide (ns.length=f.np+f.nl)&&(decide ns.Nodup &&
 (decide (d.scope.kind=.function)&&(!d.scope.isGenerator&&(!d.scope.isCoroutine&&(decide ((d.scope.names.map (·.1)).Nodup) &&
 (d.scope.names.all (λp=>decide (p.2=.globalImplicit)||(xU (some p.2)&&ns.contains p.1)) &&
 (ns.all (λx=>xU (d.scope.names.lookup x)) &&
 ut ⟨d.scope,ns,hd⟩ f.body d.body)))))))))
noncomputable def Q4(x:Stmt):Option j3:=if h:x.ctorIdx=0 then Stmt.FunctionDef.elim (motive_2:=λζ=>Option j3) x h (λn a b ζ ζ ζ sc ζ ζ ζ=>some ⟨n,a,b,sc⟩) else none
noncomputable def defsOf(l:List Stmt):List j3:=l.filterMap Q4
noncomputable def Cf(ds:List j3)(nss:List (List Str))(fs:List Fn):Bool:=
 (List.range fs.length).all λi=>gm fs[i]? λf=>gm ds[i]? λd=>gm nss[i]? λn=>decide (f.np=999)||J6 (xT.contains i) d n f
end Mine
namespace Mine
open PySem PySem.Calls PyProof.Rows
noncomputable abbrev lY(xs:List Value)(n:Nat):Obj:={cls:=.type "tuple",data:=.seq xs.toArray n}
noncomputable abbrev jb(xs:List Value)(n:Nat):Obj:={cls:=.type "list",data:=.seq xs.toArray n}
structure nu where
 prog:Program
 w:World
 mC:Addr
 is:List Int
 mg:Str->Option Value
 mb:Str->Option Value
 bk:Addr
 bN:Addr
 mN:Str->Option Value
 exc:List Addr
 defs:List j3
 s:Shared
noncomputable abbrev nu.M(Y:nu):Model:=model Y.prog Y.w
noncomputable abbrev nu.fC(Y:nu):Heap:=Y.s.heap
noncomputable def rH:List (Str×Value):=[("len",.builtin "len"),("isinstance",.builtin "isinstance"),("int",.type "int"),("bool",.type "bool"),("tuple",.type "tuple"),("list",.type "list"),
 ("range",.type "range"),("enumerate",.type "enumerate"),("ValueError",.type "ValueError"),("sorted",.builtin "sorted"),("any",.builtin "any"),("min",.builtin "min"),("max",.builtin "max"),("set",.type "set"),("zip",.type "zip")]
noncomputable def ny(q:Bool×Str):Str:=if q.1 then gK.cls++"."++q.2 else q.2
inductive Ah(Y:nu)(f:Nat)(q:Bool×Str):Prop
 |mk (a:Addr) (o:Obj) (d:j3) (pm cd doc:Value) (e1:Y.defs[f]?=some d) (e3:(if q.1 then Y.mN q.2 else Y.mg q.2)=some (.ref a)) (e4:Y.fC.get? a=some o) (ec:q.1=true->o.cls=.type "function") (e5:o.data=.func (methDef d.name (ny q) d.params d.body d.scope pm cd doc)) (e6:Y.fC.CodeRec cd (ny q)):Ah Y f q
noncomputable def Cg:List (Str×Option Value):=[("__getattribute__",some (.builtin "BaseException.__getattribute__")),("__getattr__",none),("__class__",some (.builtin "object.__class__"))]
inductive Ci(Y:nu)(k:Nat)(x:Str):Prop
 |mk (C:Addr) (bm:List Value) (newId initId B:String) (O:OwnCls x C bm newId Y.mg Y.fC) (F:ExcBaseFacts B newId initId bm) (e:Y.exc[k]?=some C) (v:bm.contains (.type "ValueError")=true/\bm.contains (.type "object")=true)
  (m:∀o cd,Y.fC.get? C=some o->o.data=.cls cd->∀j D,Y.exc[j]?=some D->cd.mro.contains (.ref D)=iP k j)
  (lk:∀q,q∈Cg->∀(A:Around) (Ex:Value->Shared->Prop) (h:Heap) (g:Array GenState) (d:Drawn) (t:Nat) (os:OsState) (Q:Option Value->Shared->Prop),(∀b o,Y.fC.get? b=some o->h.get? b=some o)->Q q.2 ⟨h,g,d,t,os⟩->wpAny Y.M A (typeLookup (.ref C) q.1) Q Ex ⟨h,g,d,t,os⟩):Ci Y k x
structure Good(Y:nu):Prop where
 g:Y.fC.Ns mainGlobals Y.mg
 b:Y.fC.Ns builtinsNs Y.mb
 bi:∀p,p∈rH->Y.mg p.1=none/\Y.mb p.1=some p.2
 fn:∀(f:Nat) (q:Bool×Str),gK.pE[f]?=some q->Ah Y f q
 gk:∀(j:Nat) (x:Str),gK.B8[j]?=some x->(∃i t,zU[j]?=some (.int i)/\Y.mg x=some (.int i t))\/∃(a:Addr) (is:List Int) (vs:List Value) (n:Nat),zU[j]?=some (.aF (is.map .int))/\Y.mg x=some (.ref a)/\Y.fC.get? a=some (lY vs n)/\IntsAre vs is/\is.length<=1000
 ex:∀(k:Nat) (x:Str),gK.uq[k]?=some x->Ci Y k x
 J7:Y.exc.length=gK.uq.length
 bk:Y.mg gK.cls=some (.ref Y.bk)
 bc:ClsAt Y.fC Y.bk Y.bN Y.mN
 bq:∀n,n∈(["__setattr__","__getattribute__","__getattr__"]:List Str)++gK.cC->Y.mN n=none
 nolimit:Y.fC.NoLimit
 seer:Y.fC.NoSeer
 tree:Y.prog.given.tree=none
 i9:∃xs:List Value,Y.fC.IsList Y.mC xs.toArray/\IntsAre xs Y.is
 short:Y.is.length<=63
 low:∃o,Y.fC.get? cStatics=some o
 bm:∃b o,Y.mg "__builtins__"=some (.ref b)/\b≠builtinsNs/\Y.fC.get? b=some o/\o.cls=.type "module"/\o.dict=some builtinsNs/\o.data=.plain
 J8:Cf Y.defs E0 Cd=true
abbrev NE:Value->Shared->Prop:=λζ ζ=>False
def Run(Y:nu):Prop:=∀(fa:Addr) (Q:Value->Shared->Prop),Y.mg "law"=some (.ref fa)->(∀h' tk,(∀b o,Y.s.heap.get? b=some o->h'.get? b=some o)->Q (.bool true) {Y.s with heap:=h',toks:=tk})->wpAny Y.M callerA (call (.ref fa) [.ref Y.mC]) Q NE Y.s
noncomputable def X:nu:=@Classical.epsilon nu ⟨⟨default,⟨λζ ζ=>0,{strHash:=λζ=>0,shareClass:=λζ=>0,mergeTok:=id,idOf:=λζ=>0,idOfShared:=λζ ζ=>0,followText:=λζ=>false,idOfImm:=λζ=>0}⟩,0,[],λζ=>none,λζ=>none,0,0,λζ=>none,[],[],{}⟩⟩ λY=>Good Y/\¬Run Y
theorem Q5(h:Good X->Run X)(Y:nu)(g:Good Y):Run Y:=EF λn=>
 have e:Good X/\¬Run X:=Classical.epsilon_spec (p:=λY=>Good Y/\¬Run Y) ⟨Y,g,n⟩
 e.2 (h e.1)
end Mine
namespace Mine
open PySem
noncomputable def Q6(c:Str)(x:Stmt):List Stmt:=if h:x.ctorIdx=2 then Stmt.ClassDef.elim (motive_2:=λζ=>List Stmt) x h (λn ζ ζ b ζ ζ ζ ζ ζ ζ ζ=>if n=c then b else[]) else[]
noncomputable def E7(q:Program)(c:Str):List Stmt:=q.main.body.flatMap (Q6 c)
theorem Q7:Cf (defsOf PySem.Challenge.pw_uf020001_12.main.body++defsOf (E7 PySem.Challenge.pw_uf020001_12 gK.cls)) E0 Cd=true:=by decide +kernel
end Mine
namespace Mine.H
open PySem PySem.W PyProof.Rows
noncomputable abbrev pp:Program:=PySem.Challenge.pw_uf020001_12
noncomputable def ob(c:Value)(d:Data):Obj:=⟨c,none,d,#[]⟩
noncomputable def tu(l:List Value):Obj:=ob (.type "tuple") (.seq l.toArray 0)
noncomputable def fl(c:Value)(l:List Value):Obj:=ob c (.fields l.toArray)
noncomputable def ri(n:Nat):Value:=.int n 0
noncomputable def ss(l:List Str):Nat->List Value:=List.rec (λζ=>[]) (λs ζ f t=>.str s t::f (t+1)) l
noncomputable def en(n:Str)(t:Nat)(v:Value)(P:Params):DictEntry:=⟨PyData.keyHash P n,.str n t,v⟩
noncomputable abbrev er(n:Str)(t a:Nat):=en n t (.ref a)
noncomputable abbrev ei(n:Str)(t:Nat)(i:Int)(u:Nat):=en n t (.int i u)
noncomputable def di(P:Params)(l:List (Params->DictEntry))(ep:Nat):Obj:=ob (.type "dict") (.dict (l.map λf=>f P).toArray ep)
noncomputable def fi:Str:="/claim/cut.py"
noncomputable def co(nm qn:Str)(t ln np fg fr:Nat)(f:Bool)(v1 v2 v3:Value)(u:Nat):Obj:=fl (.type "code") [.str nm t,.str qn (t+1),.str fi (t+2),ri ln,ri np,ri 0,ri 0,ri fg,.ref fr,.bool f,ri 181,.ref (fr+1),.none,v1,v2,v3,ri u,ri ln,.str fi (u+1)]
noncomputable def fx(o:Option j3)(qn:j3->Str)(full:Bool)(a t ln:Nat)(pm:Value)(vs:List Str)(tl:List Obj):List Obj:=
 o.elim tl λd=>tu []::fl .none []::cond full
  (tu (ss vs (t+3))::tu []::ob .none (.func {name:=d.name,qualname:=qn d,params:=d.params,body:=.stmts d.body,scope:=d.scope,globals:=builtinsNs,closure:=[],defaults:=.none,kwdefaults:=.none})::co d.name (qn d) t ln d.params.args.length 3 a true (.ref (a+2)) (.ref (a+3)) (.ref (a+4)) (t+3+vs.length)::ob (.type "function") (.func (methDef d.name (qn d) d.params d.body d.scope pm (.ref (a+5)) .none))::tl)
  (ob .none (.func {name:=d.name,qualname:=qn d,params:=d.params,body:=.stmts d.body,scope:=d.scope,globals:=builtinsNs,closure:=[],defaults:=.none,kwdefaults:=.none})::co d.name (qn d) t ln d.params.args.length 3 a true .none .none (.ref (a+2)) (t+3)::ob (.type "function") (.func (methDef d.name (qn d) d.params d.body d.scope pm (.ref (a+3)) .none))::tl)
noncomputable abbrev fd(k:Nat):=fx (defsOf pp.main.body)[k]? (·.name)
noncomputable abbrev fm(k:Nat)(q:Str):=fx (defsOf (E7 pp gK.cls))[k]? λζ=>q
noncomputable abbrev cn(o:Obj)(tl:List Obj):List Obj:=o::tl
noncomputable def bf(s:String)(v:Value):Obj:=fl (.type "builtin_function_or_method") [.builtin s,v]
noncomputable def fr(c l:Nat)(m:Value):Obj:=⟨.type "frame",none,.plain,#[some (.ref c),some (.ref 3),some (.ref l),none,some m,none,some (.ref 0)]⟩
noncomputable def cl(nm:Str)(C N:Nat)(bs mro sb:List Value)(b:Option Value)(t:Nat)(new:String)(tl:List Obj):List Obj:=⟨.type "type",none,.cls {name:=nm,bases:=bs,mro:=.ref C::mro,ns:=N,qualname:=nm,subclasses:=sb},#[b,none,some (.str nm t),some (.str nm (t+8)),some (.builtin new),some (.bool true)]⟩::tl
noncomputable def su(C:Nat)(tl:List Obj):List Obj:=fl (.type "super") [.ref C,.ref C,.ref C]::bf "object.__init_subclass__" (.ref C)::tl
noncomputable def gs(n:Str)(t C:Nat)(g:String)(s:Value)(tl:List Obj):List Obj:=fl (.type "getset_descriptor") [.str n t,.ref C,.builtin g,s]::tl
noncomputable def ch(P:Params)(nm:Str)(b:Obj)(a t ln:Nat)(m:Value)(ms:List (Params->DictEntry))(sa sA ep:Nat)(tab:List Value)(vs:List Value)(more:List (Params->DictEntry))(mid:List Obj->List Obj)(tl:List Obj):List Obj:=
 b::bf "type.__prepare__" (.type "type")::di P (en "__module__" (t+7) m::en "__qualname__" (t+9) (.str nm (t+8))::en "__firstlineno__" (t+11) (.int ln (t+10))::(ms++[er "__static_attributes__" sa sA])) (4+ms.length)
  :: tu []::fl .none tab::co nm nm (t+2) ln 0 0 (a+3) false .none .none .none (t+5)::fr (a+5) (a+2) m::mid (tu vs::di P (en "__module__" (t+7) m::en "__firstlineno__" (t+11) (.int ln (t+10))::(ms++er "__static_attributes__" sa sA::more)) ep::tl)
noncomputable def mE:Value:=.str "estateroll.errors" 264
noncomputable def vm:List Value:=[.type "ValueError",.type "Exception",.type "BaseException",.type "object"]
noncomputable def xe(P:Params)(sb:List Value)(a t ln:Nat)(tl:List Obj):List Obj:=
 ch P "EstateError" (tu [.type "ValueError"]) a t ln mE [] (t+12) (a+7) 3 [] [] [er "__weakref__" (t+14) (a+10),en "__doc__" (t+15) .none] id <| cl "EstateError" (a+9) (a+8) [.type "ValueError"] vm sb (some (.ref a)) t "ValueError.__new__" <| gs "__weakref__" (t+13) (a+9) "ExceptionGroup.__weakref__" .none <| su (a+9) tl
noncomputable def xc(P:Params)(nm:Str)(a t ln:Nat)(tl:List Obj):List Obj:=
 ch P nm (tu [.ref 69]) a t ln mE [] (t+12) (a+7) 2 [] [] [en "__doc__" (t+13) .none] id <| cl nm (a+9) (a+8) [.ref 69] (.ref 69::vm) [] (some (.ref a)) t "ValueError.__new__" <| su (a+9) tl
noncomputable def J9(c:Nat)(l:List (Nat×Nat)):List Value:=l.flatMap λp=>[ri p.1,ri c,.ref p.2]
noncomputable def m0:Value:=.str "__main__" 164
noncomputable def m1:Value:=.str "estateroll.kin" 187
noncomputable def m2:Value:=.str "estateroll.degrees" 236
noncomputable def m3:Value:=.str "estateroll.parts" 412
noncomputable def m4:Value:=.str "estateroll.lines" 457
noncomputable def m5:Value:=.str "estateroll.deals" 489
noncomputable def m6:Value:=.str "estateroll.books" 560
noncomputable def m7:Value:=.str "law_uf020001_12" 769
noncomputable def e3:List (Params->DictEntry):=[en "__doc__" 166 (.none),en "__package__" 167 (.none),en "__loader__" 168 (.builtin "__main__.__loader__#opaque"),en "__spec__" 169 (.none),en "__annotations__" 170 (.ref 6),en "__builtins__" 171 (.ref 4),en "__file__" 173 (.str "/claim/cut.py" 172),en "__cached__" 174 (.none),er "lives" 201 21,er "parents_on" 214 28,er "children_on" 225 35,er "has_line" 235 42,er "steps_from" 243 47,er "further" 257 54,er "nearest" 263 59,er "EstateError" 283 69,er "NoPerson" 299 82,er "NoDay" 315 94,er "NoParents" 331 106,er "NoMatch" 347 118,er "NoWill" 363 130,er "Again" 379 142,er "Full" 395 154,er "NotDead" 411 166,er "part" 424 175,er "added" 432 182,er "less" 440 189,er "times" 448 196,er "shared" 456 203,er "WHOLE" 461 204,er "lines_to" 467 209,er "by_lines" 476 216,er "others_of" 482 221,er "by_parents" 488 226,er "NOTHING" 493 227,er "spouse_on" 505 234,er "will_on" 519 241,er "given" 525 246,er "kin_of" 531 251,er "spouse_part" 539 258,er "dealt" 559 265,ei "MOST_DAY" 563 100000 562,ei "MOST_PEOPLE" 565 60 564,ei "MOST_GIFTS" 567 10 566,ei "MOST_NUMBER" 569 1000 568,er "is_whole" 578 272,er "need_day" 585 279,er "are_alike" 592 286,er "copied" 598 291,er "Book" 768 400,er "_law_cell_at" 778 411,er "_law_whole" 785 418,er "_law_stream" 796 425,er "_law_some" 807 432,er "_law_people" 813 437,er "_law_adopting" 819 442,er "_law_lives" 828 449,er "_law_parents" 837 456,er "_law_children" 848 463,er "_law_lined" 860 470,er "_law_ends" 866 475,er "_law_meets" 875 482,er "_law_weddings" 892 489,er "_law_gifts" 898 494,er "_law_wills" 904 499,er "_law_lowest" 915 506,er "_law_is_part" 923 513,er "_law_roll" 934 520,er "_law_dead" 940 525,er "_law_class" 948 532,er "_law_called" 956 539,er "_law_tell" 966 546,er "_law_done" 972 551,er "_law_deeds" 978 556,er "_law_deed_by" 984 561,er "_law_rows" 990 566,er "_law_stands" 996 571,er "_law_moved" 1008 578,er "_law_begun" 1022 585,er "law" 1028 590]
noncomputable def tb:List (Nat×Nat):=[(2,20),(5,27),(10,34),(16,41),(24,46),(30,53),(38,58),(52,65),(54,78),(56,90),(58,102),(60,114),(62,126),(64,138),(66,150),(68,162),(71,174),(79,181),(81,188),(83,195),(85,202),(89,208),(100,215),(102,220),(104,225),(121,233),(128,240),(136,245),(148,250),(157,257),(165,264),(190,271),(192,278),(195,285),(197,290),(199,297),(335,410),(339,417),(341,424),(348,431),(356,436),(374,441),(383,448),(387,455),(391,462),(397,469),(408,474),(411,481),(413,488),(427,493),(436,498),(445,505),(453,512),(457,519),(462,524),(464,531),(470,538),(480,545),(486,550),(505,555),(516,560),(532,565),(547,570),(564,577),(573,584),(585,589)]
noncomputable def bm:List (Params->DictEntry):=[er "__init__" 617 305,er "need_person" 625 312,er "put" 634 319,er "told" 644 326,er "born" 654 333,er "adopted" 669 340,er "end_of" 675 345,er "married" 688 352,er "died" 706 359,er "need_gifts" 712 364,er "will" 727 371,er "anew" 734 378,er "roll" 741 385,er "dead" 747 390,er "deal" 755 397]
noncomputable def bk(P:Params)(a t ln:Nat)(ms:List Obj->List Obj)(tl:List Obj):List Obj:=
 ch P "Book" (tu []) a t ln m6 bm 761 398 4 (J9 4 [(201,304),(208,311),(212,318),(215,325),(225,332),(240,339),(258,344),(262,351),(275,358),(292,363),(309,370),(320,377),(323,384),(326,389),(329,396)]) (ss ["deals","fresh","marriages","people","wills"] 756) [er "__dict__" 763 401,er "__weakref__" 765 402,en "__doc__" 766 .none] ms <| cl "Book" 400 399 [.type "object"] [.type "object"] [] none t "object.__new__" <| gs "__dict__" 762 400 "function.__dict__" (.builtin "function.__dict__#set") <| gs "__weakref__" 764 400 "ExceptionGroup.__weakref__" .none <| su 400 tl
noncomputable def c0(P:Params)(sb:List Value)(tl:List Obj):List Obj:=
 fd 0 true 15 189 2 m1 ["people","person","day","born","parents","adopted","died"] <| fd 1 true 22 202 5 m1 ["people","person","day","born","parents","adopted","died"] <| fd 2 true 29 215 10 m1 ["people","person","day","found","child"] <| fd 3 true 36 226 16 m1 ["people","person","day","child"] <| fd 4 false 43 238 24 m2 [] <| fd 5 true 48 244 30 m2 ["people","known","ways","day","found","state","other","way"] <| fd 6 false 55 258 38 m2 [] <| xe P sb 60 266 52 <| xc P "NoPerson" 73 284 54 <| xc P "NoDay" 85 300 56 <| tl
noncomputable def c1(P:Params)(tl:List Obj):List Obj:=
 xc P "NoParents" 97 316 58 <| xc P "NoMatch" 109 332 60 <| xc P "NoWill" 121 348 62 <| xc P "Again" 133 364 64 <| tl
noncomputable def c2(P:Params)(tl:List Obj):List Obj:=
 xc P "Full" 145 380 66 <| xc P "NotDead" 157 396 68 <| fd 7 true 169 414 71 m3 ["over","under","one","other","rest"] <| fd 8 true 176 425 79 m3 ["one","other"] <| fd 9 true 183 433 81 m3 ["one","other"] <| fd 10 true 190 441 83 m3 ["one","other"] <| fd 11 true 197 449 85 m3 ["one","many"] <| cn (tu [.int 1 459,.int 1 460]) <| fd 12 false 205 462 89 m4 [] <| fd 13 true 210 468 100 m4 ["people","person","day"] <| fd 14 false 217 477 102 m4 [] <| fd 15 false 222 483 104 m4 [] <| cn (tu [.int 0 491,.int 1 492]) <| fd 16 true 228 494 121 m5 ["roll","person","day","one","other","begun"] <| fd 17 true 235 506 128 m5 ["roll","person","day","latest","found","one","told","gifts"] <| fd 18 false 242 520 136 m5 [] <| fd 19 false 247 526 148 m5 [] <| fd 20 true 252 532 157 m5 ["how","kin"] <| fd 21 true 259 540 165 m5 ["roll","person","people","day","rows","total","rest","how","kin","spouse","piece","heir","share","line"] <| tl
noncomputable def c3(P:Params)(tl:List Obj):List Obj:=
 fd 22 true 266 570 190 m6 ["thing","low","high"] <| fd 23 true 273 579 192 m6 ["day"] <| fd 24 true 280 586 195 m6 ["persons"] <| fd 25 false 287 593 197 m6 [] <| bk P 292 599 199 (λtl=>fm 0 "Book.__init__" true 299 611 201 m6 ["self"] <| fm 1 "Book.need_person" true 306 618 208 m6 ["self","person"] <| fm 2 "Book.put" true 313 626 212 m6 ["self","person","row"] <| fm 3 "Book.told" true 320 635 215 m6 ["self","deals","person","rows"] <| fm 4 "Book.born" true 327 645 225 m6 ["self","day","parents","parent"] <| fm 5 "Book.adopted" true 334 655 240 m6 ["self","child","day","parents","parent","born","first","own","died"] <| fm 6 "Book.end_of" false 341 670 258 m6 [] <| fm 7 "Book.married" true 346 676 262 m6 ["self","one","other","day","first","second","begun"] <| fm 8 "Book.died" true 353 689 275 m6 ["self","person","day","born","parents","own","dead","one","told","gifts","other","begun"] <| fm 9 "Book.need_gifts" false 360 707 292 m6 [] <| fm 10 "Book.will" true 365 713 309 m6 ["self","person","day","gifts","gift","born","parents","own","died"] <| fm 11 "Book.anew" true 372 728 320 m6 ["self"] <| fm 12 "Book.roll" true 379 735 323 m6 ["self"] <| fm 13 "Book.dead" false 386 742 326 m6 [] <| fm 14 "Book.deal" true 391 748 329 m6 ["self","person"] <| tl) <| tl
noncomputable def c4(P:Params)(tl:List Obj):List Obj:=
 fd 26 true 405 771 335 m7 ["_law_script","_law_k"] <| fd 27 true 412 779 339 m7 ["_law_found"] <| fd 28 true 419 786 341 m7 ["_law_cell","_law_many","_law_found","_law_number","_law_k"] <| fd 29 true 426 797 348 m7 ["_law_elders","_law_y","_law_fewest","_law_one","_law_other"] <| fd 30 false 433 808 356 m7 [] <| fd 31 false 438 814 374 m7 [] <| fd 32 true 443 820 383 m7 ["_law_people_here","_law_person","_law_day"] <| fd 33 true 450 829 387 m7 ["_law_people_here","_law_person","_law_day"] <| fd 34 true 457 838 391 m7 ["_law_people_here","_law_person","_law_day","_law_found","_law_one"] <| fd 35 true 464 849 397 m7 ["_law_people_here","_law_day","_law_lined_here","_law_one","_law_turn","_law_parent"] <| fd 36 false 471 861 408 m7 [] <| fd 37 true 476 867 411 m7 ["_law_people_here","_law_one","_law_other"] <| fd 38 true 483 876 413 m7 ["_law_people_here","_law_cell","_law_many","_law_found","_law_x","_law_one","_law_other","_law_day","_law_new","_law_fits","_law_marriage"] <| fd 39 false 490 893 427 m7 [] <| fd 40 false 495 899 436 m7 [] <| fd 41 true 500 905 445 m7 ["_law_over","_law_under","_law_a","_law_b","_law_c"] <| fd 42 true 507 916 453 m7 ["_law_found","_law_due"] <| fd 43 true 514 924 457 m7 ["_law_script","_law_most","_law_many","_law_people_here","_law_weddings_here"] <| fd 44 false 521 935 462 m7 [] <| fd 45 true 526 941 464 m7 ["_law_e","_law_told"] <| fd 46 true 533 949 470 m7 ["_law_book","_law_deed"] <| fd 47 true 540 957 480 m7 ["_law_book","_law_deed","_law_found","_law_e"] <| fd 48 false 547 967 486 m7 [] <| fd 49 false 552 973 505 m7 [] <| fd 50 false 557 979 516 m7 [] <| fd 51 false 562 985 532 m7 [] <| fd 52 false 567 991 547 m7 [] <| fd 53 true 572 997 564 m7 ["_law_state","_law_deed","_law_roll_here","_law_deals","_law_anew","_law_one"] <| fd 54 true 579 1009 573 m7 ["_law_script","_law_book","_law_roll_here","_law_state","_law_deeds_here","_law_k","_law_deed","_law_one"] <| fd 55 false 586 1023 585 m7 [] <| tl
noncomputable def st(P:Params)(nm:Value)(k m:Nat)(rest:List Obj):List Obj:=
 boot_o_0 P::boot_o_1 P::boot_o_2 P::di P (en "__name__" 165 nm::e3.take k) (k+1)::boot_o_4 P::boot_o_5 P::boot_o_6 P::boot_o_7 P::boot_o_8 P::boot_o_9 P::boot_o_10 P::tu []::fl .none (J9 0 (tb.take m))::co "<module>" "<module>" 182 1 0 0 11 false .none .none .none 185::fr 13 3 m0::rest
noncomputable def sp(l:List Obj):List Obj×List Obj:=List.rec ([],[]) (λx ζ p=>(x::p.2,p.1)) l
noncomputable def tr(n:Nat):List Obj->BT:=Nat.rec (λζ=>.nil) (λζ f l=>List.rec .nil (λx t ζ=>.node x (f (sp t).1) (f (sp t).2)) l) n
noncomputable def yd(l:Params->List Obj)(n k:Nat)(w:World)(os:OsState):SharedT:=⟨tr 11 (l w.params),n,(boot_heap w.params).life,Array.mk [],boot_drawn,k,os⟩
noncomputable def ye:List Value:=[.ref 82,.ref 94,.ref 106,.ref 118,.ref 130,.ref 142,.ref 154,.ref 166]
noncomputable def an:Option Value:=some (.ref 6)
noncomputable def bE:List Stmt:=behindTheImports pp
noncomputable def env:Env:={scope:=pp.main.scope,locals:=mainNs,globals:=mainNs,cells:=[],code:=.ref 13,frame:=some 14}
noncomputable def cE:Code:=.body bE env
noncomputable def ps(a b c d:Nat):Pos:={line:=a,col:=b,endLine:=c,endCol:=d}
noncomputable def l0(P:Params):List Obj:=st P m0 8 0 []
noncomputable def l1(P:Params):List Obj:=st P mE 18 10 (c0 P (ye.take 2) [])
noncomputable def l2(P:Params):List Obj:=st P mE 22 14 (c0 P (ye.take 6) (c1 P []))
noncomputable def l3(P:Params):List Obj:=st P m5 41 31 (c0 P (ye.take 8) (c1 P (c2 P [])))
noncomputable def l4(P:Params):List Obj:=st P m6 50 36 (c0 P (ye.take 8) (c1 P (c2 P (c3 P []))))
noncomputable def l5(P:Params):List Obj:=st P m7 80 66 (c0 P (ye.take 8) (c1 P (c2 P (c3 P (c4 P [])))))
noncomputable abbrev s0:=yd l0 15 187
noncomputable abbrev s1:=yd l1 97 316
noncomputable abbrev s2:=yd l2 145 380
noncomputable abbrev s3:=yd l3 266 560
noncomputable abbrev s4:=yd l4 405 769
noncomputable abbrev s5:=yd l5 591 1029
noncomputable def H1(P:Params):Heap:=⟨Array.mk (l5 P),(boot_heap P).life⟩
end Mine.H
namespace Mine
open PySem
def aO{α:Type}(o:Option α)(f:α->Prop):Prop:=match o with|some a=>f a|none=>False
def cD(t:Bool)(A B:Prop):Prop:=match t with|true=>A|false=>B
def gn(t:Bool)(A:Prop):Prop:=match t with|true=>A|false=>False
def gH(x:V)(f:Int->Prop):Prop:=match x with | .int i=>f i|_=>False
def w1(vs:List V)(f:V->Prop):Prop:=match vs with | [x]=>f x|_=>False
def w2(vs:List V)(f:V->V->Prop):Prop:=match vs with | [x,y]=>f x y|_=>False
def Ck{α:Type}(l:List α)(A B:Prop):Prop:=match l with | []=>A|_::_=>B
noncomputable def qC{α:Type}(l:List α):Bool:=decide (l.length<16000000)
noncomputable def yf(a b:Int):Bool:=!(decide (Builtin.Int.intBits a>shortFactorBits)&&decide (Builtin.Int.intBits b>shortFactorBits)&&Builtin.Int.intTooBig (Builtin.Int.intBits a+Builtin.Int.intBits b))
noncomputable def gp(f:V->Option PyData):List V->Option (List PyData)
 |[]=>some []
 |v::r=>match f v,gp f r with
  |some d,some ds=>some (d::ds)
  |_,_=>none
noncomputable def uu:aI->Option (List V)
 |.list vs=>some vs
 |_=>none
noncomputable def jQ:aI->Option (List (Int×V))
 |.dict _ es=>some es
 |_=>none
noncomputable def nA:aI->Option (List ((Int×Bool)×V))
 |.dY _ es=>some es
 |_=>none
noncomputable def pJ:aI->Option Nat
 |.exc k=>some k
 |_=>none
noncomputable def uv:aI->Option Nat
 |.obj t=>some t
 |_=>none
noncomputable def uw:aI->Option bv
 |.cC fs=>some fs
 |_=>none
noncomputable def yg:aI->Option (List V)
 |.gO vs=>some vs
 |_=>none
noncomputable def cellAt{β:Type}(f:aI->Option β)(H:Hp):V->Option β
 |.ref l=>H[l]?.bind f
 |_=>none
noncomputable abbrev dJ(H:Hp):V->Option (List V):=cellAt uu H
noncomputable abbrev j6(H:Hp):V->Option (List (Int×V)):=cellAt jQ H
noncomputable abbrev recAt(H:Hp):V->Option (List V):=cellAt yg H
noncomputable abbrev excAt(H:Hp):V->Option Nat:=cellAt pJ H
noncomputable abbrev iQ(H:Hp):V->Option Nat:=cellAt uv H
noncomputable abbrev ux(H:Hp):V->Option (List ((Int×Bool)×V)):=cellAt nA H
noncomputable def Cm:V->Option PyData
 |.none=>some .none
 |.bool b=>some (.bool b)
 |.int i=>some (.int i)
 |.str s=>if PyData.strOk s=true then some (.str s) else none
 |_=>none
noncomputable def rd(H:Hp):Nat->V->Option PyData
 |0,v=>Cm v
 |n+1,.aF vs=>(gp (rd H n) vs).map .tuple
 |n+1,.ref l=>(dJ H (.ref l)).bind λvs=>(gp (rd H n) vs).map .list
 |_+1,v=>Cm v
noncomputable def truthy(H:Hp):V->Option Bool
 |.none=>some false
 |.bool b=>some b
 |.int i=>some (i != 0)
 |.aF vs=>some (!vs.isEmpty)
 |.ref l=>(dJ H (.ref l)).map λvs=>!vs.isEmpty
 |_=>none
noncomputable def mD(H:Hp):V->Option (List V)
 |.aF vs=>some vs
 |.ref l=>dJ H (.ref l)
 |.i9=>some (X.is.map .int)
 |_=>none
section
variable{K:Type}[DecidableEq K]
noncomputable def fO(es:List (K×V))(k:K):Option V:=(es.find? (λp=>decide (p.1=k))).map (·.2)
noncomputable def dput(es:List (K×V))(k:K)(v:V):List (K×V):=if es.any (λp=>decide (p.1=k)) then es.map (λp=>if p.1=k then(p.1,v) else p) else es++[(k,v)]
noncomputable def fy(es:List (K×V))(k:K):Bool:=es.any λp=>decide (p.1=k)
end
noncomputable def boolOf:V->Option Bool
 |.bool b=>some b
 |_=>none
noncomputable def uy:V->Option (List V)
 |.aF vs=>some vs
 |_=>none
noncomputable def two{α β:Type}(l:List α)(f:α->α->Option β):Option β:=match l with
 |[a,b]=>f a b
 |_=>none
noncomputable def pairOf(x:V):Option (Int×Bool):=(uy x).bind λvs=>two vs λa b=>(intOf a).bind λi=>(boolOf b).map λb=>(i,b)
noncomputable def allInts:List V->Option (List Int)
 |[]=>some []
 |v::r=>(intOf v).bind λi=>(allInts r).map (i::·)
noncomputable def lZ:List V->Option (List Bool)
 |[]=>some []
 |v::r=>(boolOf v).bind λb=>(lZ r).map (b::·)
noncomputable def nB(H:Hp)(x:V):Option (List Int):=(dJ H x).bind allInts
noncomputable def oA:List Int->List Int->Bool
 |_,[]=>false
 |[],_::_=>true
 |a::r,b::t=>if a=b then oA r t else decide (a<b)
noncomputable def E8(x y:V)(H:Hp):Option Bool:=match x,y with
 |.int a,.int b=>some (decide (a<b))
 |.ref l,.ref m=>(nB H (.ref l)).bind λa=>(nB H (.ref m)).map λb=>oA a b
 |_,_=>none
noncomputable def uz(x y:V)(f:Int->Int->Bool):Option Bool:=(intOf x).bind λa=>(intOf y).map λb=>f a b
noncomputable def mF(H:Hp)(x:V):Option Bool:=match j6 H x with
 |some es=>some es.isEmpty
 |none=>(ux H x).map (·.isEmpty)
noncomputable def kQ(H:Hp)(x y:V):Option Bool:=match mF H x with
 |some a=>(mF H y).bind λb=>if a||b then some (a&&b) else none
 |none=>(rd H 10 x).bind λd=>(rd H 10 y).map λe=>PyData.eqv d e
noncomputable def vM(H:Hp)(x y:V):Option Bool:=match j6 H y with
 |some es=>(intOf x).map λk=>fy es k
 |none=>match ux H y with
  |some es=>(pairOf x).map λq=>fy es q
  |none=>(mD H y).bind λvs=>(gp (rd H 10) vs).bind λds=>(rd H 10 x).map λd=>ds.any λe=>PyData.eqv e d
noncomputable def gP(op:pD)(x y:V)(H:Hp):Option Bool:=match op with
 |.eq=>kQ H x y
 |.ne=>(kQ H x y).map (!·)
 |.lt=>E8 x y H
 |.gt=>uz x y λa b=>decide (a>b)
 |.le=>uz x y λa b=>decide (a<=b)
 |.ge=>uz x y λa b=>decide (a≥b)
 |.ot=>vM H x y
 |.jP=>(vM H x y).map (!·)
noncomputable def jR{α:Type}(l:List α)(k:Int):Option α:=
 if 0<=k then l[k.toNat]? else if -(l.length:Int)<=k then l[(k+l.length).toNat]? else none
noncomputable def ik(x i:V)(H:Hp):Option V:=match i with
 |.int k=>match mD H x with
  |some vs=>jR vs k
  |none=>(j6 H x).bind λes=>fO es k
 |i=>(pairOf i).bind λq=>(ux H x).bind λes=>fO es q
noncomputable def Ai(n:Nat)(d:Nat):Option Int->Nat
 |none=>d
 |some k=>(max (0:Int) (min (if k<0 then k+n else k) n)).toNat
noncomputable def jS{α:Type}(l:List α)(lo hi:Option Int):List α:=
 (l.take (Ai l.length l.length hi)).drop (Ai l.length 0 lo)
noncomputable def Aj:V->Option (Option Int)
 |.none=>some none
 |.int k=>if k.natAbs<2^60 then some (some k) else none
 |_=>none
mutual
noncomputable def aY:d8->V->bv->Option bv
 |.J i,v,ρ=>if i<ρ.length then some (ρ.set i (some v)) else none
 |.aF ts,.aF vs,ρ=>Ak ts vs ρ
 |.aF _,_,_=>none
noncomputable def Ak:List d8->List V->bv->Option bv
 |[],[],ρ=>some ρ
 |t::ts,v::vs,ρ=>(aY t v ρ).bind (Ak ts vs)
 |_,_,_=>none
end
def uA(x i v:V)(H:Hp)(k:Hp->Prop):Prop:=match x with
 |.ref l=>aO H[l]? λc=>match c with
  |.list xs=>gH i λj=>(0<=j/\j<xs.length)/\k (H.set l (.list (xs.set j.toNat v)))
  |.dict _ es=>gH i λj=>gn (qC es) (∀ep,k (H.set l (.dict ep (dput es j v))))
  |.dY _ es=>aO (pairOf i) λj=>gn (qC es) (∀ep,k (H.set l (.dY ep (dput es j v))))
  |_=>False
 |_=>False
noncomputable def oB(q:Int×Bool):V:=.aF [.int q.1,.bool q.2]
noncomputable def keysOf(H:Hp)(x:V):Option (List V):=match j6 H x with
 |some es=>some (es.map λp=>.int p.1)
 |none=>match ux H x with
  |some es=>some (es.map λp=>oB p.1)
  |none=>mD H x
noncomputable def copyOf(H:Hp)(x:V):Option (List V):=match j6 H x with
 |some es=>some (es.map λp=>.int p.1)
 |none=>match uy x with
  |some vs=>some vs
  |none=>dJ H x
noncomputable def watch:V->List Nat
 |.ref l=>[l]
 |_=>[]
noncomputable def fS(ws:List Nat)(H₀ H:Hp):Bool:=ws.all λl=>decide (H[l]?=H₀[l]?)
noncomputable def uB(a b:Int):List V:=(List.range (b - a).toNat).map λ(i:Nat)=>.int (a+(i:Int))
noncomputable def rI:Nat->List V->List V
 |_,[]=>[]
 |k,v::r=>.aF [.int k,v]::rI (k+1) r
noncomputable def vN:List V->List V->List V
 |a::r,b::t=>.aF [a,b]::vN r t
 |_,_=>[]
noncomputable def weight:bv->Nat
 |[]=>1000
 |some (.int i)::r=>i.natAbs+weight r
 |_::r=>weight r
def oC(vs:List V)(H:Hp)(Q:PQ):Prop:=Q (.ref H.length) (H++[.list vs])
def vO(vs:List V)(H:Hp)(Q:PQ):Prop:=gn (qC vs) (oC vs H Q)
noncomputable def binI(op:qm)(a b:Int):Option Int:=match op with
 |.add=>some (a+b)
 |.sub=>some (a - b)
 |.mul=>if yf a b then some (a*b) else none
 |.fdiv=>if b=0 then none else some (a.fdiv b)
 |.mod=>if b=0 then none else some (a.fmod b)
 |.pow=>if a=10/\0<=b/\b<=64 then some (10^b.toNat) else none
def Ka(op:qm)(xs:List V)(y:V)(H:Hp)(Q:PQ):Prop:=match op with
 |.add=>aO (dJ H y) λys=>vO (xs++ys) H Q
 |.mul=>gH y λn=>(n=2/\xs.length<=1000)/\oC (xs++xs) H Q
 |_=>False
def uC(op:qm)(x y:V)(H:Hp)(Q:PQ):Prop:=match x with
 |.int a=>gH y λb=>aO (binI op a b) λi=>Q (.int i) H
 |x=>aO (dJ H x) λxs=>Ka op xs y H Q
noncomputable def Co(H:Hp)(t:Ty)(x:V):Option Bool:=match x,t with
 |.bool _,.bool=>some true
 |.bool _,.int=>some true
 |.int _,.int=>some true
 |.ref l,.list=>(dJ H (.ref l)).map λζ=>true
 |.ref l,_=>(dJ H (.ref l)).map λζ=>false
 |.i9,_=>none
 |_,_=>some false
noncomputable def minOf(is:List Int)(d:Int):Int:=match is with
 |[]=>d
 |a::r=>r.foldl min a
def E9(b:Bi)(vs:List V)(H:Hp)(Q:PQ):Prop:=match b with
 |.len=>w1 vs λx=>aO (mD H x) λl=>Q (.int l.length) H
 |.mB t=>w1 vs λx=>aO (Co H t x) λb=>Q (.bool b) H
 |.any=>w1 vs λx=>aO ((dJ H x).bind lZ) λbs=>Q (.bool (bs.any id)) H
 |.max2=>w2 vs λx y=>gH x λa=>gH y λb=>Q (.int (max a b)) H
 |.rG=>w2 vs λx d=>gH d λd=>aO (nB H x) λis=>Q (.int (minOf is d)) H
 |.tupleOf=>w1 vs λx=>aO (dJ H x) λxs=>Q (.aF xs) H
 |.EN=>w1 vs λx=>aO (boolOf x) λb=>Q (.int (if b then 1 else 0)) H
 |.B7=>w1 vs λx=>aO (nB H x) λis=>is.length<64/\∀js:List Int,js.Perm is->js.Pairwise (·<=·)->oC (js.map .int) H Q
 |.qo=>w1 vs λx=>aO (nB H x) λis=>is.length<=1000/\∀n:Nat,(n=is.length↔is.Nodup)->Q (.int n) H
def uD(x:V)(vs:List V)(H:Hp)(Q:PQ):Prop:=match x with
 |.ref l=>Q .none (H.set l (.list vs))
 |_=>False
def oD(m:Me)(x:V)(vs:List V)(H:Hp)(Q:PQ):Prop:=aO (dJ H x) λxs=>match m with
 |.append=>w1 vs λv=>gn (qC xs) (uD x (xs++[v]) H Q)
 |.count=>w1 vs λv=>aO (boolOf v) λb=>aO (lZ xs) λbs=>xs.length<=1000/\Q (.int (bs.count b)) H
 |.index=>w1 vs λv=>aO (boolOf v) λb=>aO (lZ xs) λbs=>xs.length<=1000/\aO (bs.idxOf? b) λi=>Q (.int i) H
 |.reverse=>Ck vs (uD x xs.reverse H Q) False
 |.clear=>Ck vs (uD x [] H Q) False
def Kb(x lo hi:V)(H:Hp)(Q:PQ):Prop:=aO (Aj lo) λl=>aO (Aj hi) λh=>match x with
 |.aF vs=>aO h λk=>gn (l.isNone&&decide (0<=k)) (Q (.aF (vs.take k.toNat)) H)
 |x=>aO (mD H x) λvs=>vO (jS vs l h) H Q
def Al(x y:V)(f:List V->Prop):Prop:=gH x λi=>gH y λj=>(i.natAbs<2^60/\j.natAbs<2^60)/\f (uB i j)
def mG(o:Out)(f:bv->Hp->Prop)(A:Prop):Prop:=match o with | .next ρ H=>f ρ H | .ret _ _=>A
def fA(Q:PQ)(o:Out):Prop:=match o with | .ret v H=>Q v H | .next _ H=>Q .none H
def qD(K:Out->Prop)(N:bv->Hp->Prop)(o:Out):Prop:=match o with
 |.next ρ H=>N ρ H
 |.ret v H=>K (.ret v H)
def iR(ws:List Nat)(H₀:Hp)(t:d8)(test:bv->Hp->(Bool->Hp->Prop)->Prop)(elt:bv->Hp->PQ->Prop):List V->bv->Hp->List V->(List V->Hp->Prop)->Prop
 |[],_,H,acc,Q=>Q acc H
 |v::vs,ρ,H,acc,Q=>aO (aY t v ρ) λcg=>test cg H λb H₁=>
   cD b (elt cg H₁ λy H₂=>fS ws H₀ H₂=true/\iR ws H₀ t test elt vs cg H₂ (acc++[y]) Q) (fS ws H₀ H₁=true/\iR ws H₀ t test elt vs cg H₁ acc Q)
def pL(ws:List Nat)(H₀:Hp)(t:d8)(body:bv->Hp->(Out->Prop)->Prop):List V->bv->Hp->(Out->Prop)->Prop
 |[],ρ,H,K=>K (.next ρ H)
 |v::vs,ρ,H,K=>aO (aY t v ρ) λcg=>body cg H (qD K λgW H₁=>fS ws H₀ H₁=true/\pL ws H₀ t body vs gW H₁ K)
def Cp(test:bv->Hp->(Bool->Hp->Prop)->Prop)(body:bv->Hp->(Out->Prop)->Prop):Nat->bv->Hp->(Out->Prop)->Prop
 |0,_,_,_=>False
 |n+1,ρ,H,K=>test ρ H λb H=>cD b (body ρ H (qD K λgW H₁=>Cp test body n gW H₁ K)) (K (.next ρ H))
def xq(Y:PQ):PQ:=λv H=>(excAt H v).isSome=true/\Y v H
noncomputable abbrev Ct.xq(C:Ct):Ct:=⟨C.call,Mine.xq C.exc⟩
noncomputable abbrev Ct.no(C:Ct):Ct:=⟨C.call,λζ ζ=>False⟩
noncomputable def rJ(H:Hp)(t:Nat):Option bv:=H[t]?.bind uw
noncomputable def Kc(j:Nat)(k:Option Nat):Bool:=match k with
 |some k=>iP j k
 |none=>true
def Q8(r:Option d8)(ρ:bv)(K:Out->Prop)(v:V)(H:Hp):Prop:=match r with
 |some t=>aO (aY t v ρ) λcg=>K (.next cg H)
 |none=>K (.ret v H)
mutual
def WE:Ct->E->bv->Hp->PQ->Prop
 |_,.k v,_,H,Q=>Q v H
 |_,.J i,ρ,H,Q=>aO (ρ[i]?.join) λv=>Q v H
 |_,.gk j,_,H,Q=>aO zU[j]? λv=>Q v H
 |C,.bin op a b,ρ,H,Q=>WE C a ρ H λx H=>WE C b ρ H λy H=>uC op x y H Q
 |C,.neg a,ρ,H,Q=>WE C a ρ H λx H=>gH x λi=>Q (.int (-i)) H
 |C,.not a,ρ,H,Q=>WE C a ρ H λx H=>aO (truthy H x) λb=>Q (.bool (!b)) H
 |C,.and es,ρ,H,Q=>yh C true es ρ H Q
 |C,.or es,ρ,H,Q=>yh C false es ρ H Q
 |C,.cmp op a b,ρ,H,Q=>WE C a ρ H λx H=>WE C b ρ H λy H=>aO (gP op x y H) λt=>Q (.bool t) H
 |C,.uo op sU a b c,ρ,H,Q=>WE C a ρ H λx H=>WE C b ρ H λy H=>aO (gP op x y H) λt=>cD t (WE C c ρ H λz H=>aO (gP sU y z H) λt=>Q (.bool t) H) (Q (.bool false) H)
 |C,.isNone w a,ρ,H,Q=>WE C a ρ H λx H=>Q (.bool (xQ x==w)) H
 |C,.aF es,ρ,H,Q=>nC C es ρ H λvs H=>Q (.aF vs) H
 |C,.aP es,ρ,H,Q=>nC C es ρ H λvs H=>oC vs H Q
 |C,.br a i,ρ,H,Q=>WE C a ρ H λx H=>WE C i ρ H λy H=>aO (ik x y H) λv=>Q v H
 |C,.kP a lo hi,ρ,H,Q=>WE C a ρ H λx H=>WO C lo ρ H λl H=>WO C hi ρ H λh H=>Kb x l h H Q
 |C,.call f es,ρ,H,Q=>nC C es ρ H λvs H=>C.call f vs H Q C.exc
 |C,.bi b es,ρ,H,Q=>nC C es ρ H λvs H=>E9 b vs H Q
 |C,.cR m a es,ρ,H,Q=>WE C a ρ H λx H=>gn (dJ H x).isSome (nC C es ρ H λvs H=>oD m x vs H Q)
 |C,.comp nl elt t it cs,ρ,H,Q=>qE C it ρ H λp H=>gn (qC p.1) (iR p.2 H t (λρ H Q=>WT C.no cs ρ H Q) (λρ H Q=>WE C.no elt ρ H Q) p.1 (replicate nl none++ρ) H [] λvs H=>oC vs H Q)
 |C,.listOf e,ρ,H,Q=>WE C e ρ H λx H=>aO (copyOf H x) λvs=>vO vs H Q
 |_,.lH,_,H,Q=>Q (.ref H.length) (H++[.dict 0 []])
 |_,.qp,_,H,Q=>Q (.ref H.length) (H++[.dY 0 []])
 |C,.zT a b,ρ,H,Q=>WE C a ρ (H++[.dY 0 []]) λx H1=>WE C b ρ H1 λy H2=>aO (pairOf x) λk=>H2[H.length]?=some (.dY 0 [])/\∀ep,Q (.ref H.length) (H2.set H.length (.dY ep [(k,y)]))
 |C,.bD c a b,ρ,H,Q=>WE C c ρ H λx H=>aO (truthy H x) λt=>cD t (WE C a ρ H Q) (WE C b ρ H Q)
 |C,.attr a i,ρ,H,Q=>WE C a ρ H λx H=>aO (iQ H x) λt=>aO (rJ H t) λfs=>aO (fs[i]?.join) λv=>Q v H
 |C,.cQ f a es,ρ,H,Q=>WE C a ρ H λx H=>aO (iQ H x) λt=>aO (rJ H t) λζ=>nC C es ρ H λvs H=>C.call f (x::vs) H Q C.exc
 |C,.new f,_,H,Q=>C.call f [.ref (H.length+1)] (H++[.cC (replicate gK.cC.length none)]++[.obj H.length]) (λv H'=>v=.none/\Q (.ref (H.length+1)) H') λζ ζ=>False
 |C,.ox k a,ρ,H,Q=>WE C a ρ H λx H=>aO (excAt H x) λj=>Q (.bool (Kc j k)) H
 |C,.tab es,ρ,H,Q=>nC C es ρ (H++[.gO []]) λvs H'=>H'[H.length]?=some (.gO [])/\Q (.ref H.length) (H'.set H.length (.gO vs))
 |C,.gF a i,ρ,H,Q=>WE C a ρ H λx H=>aO (recAt H x) λvs=>aO vs[i]? λv=>Q v H
 |C,.get a i,ρ,H,Q=>WE C a ρ H λx H=>gn (j6 H x).isSome (WE C i ρ H λy H=>aO (j6 H x) λes=>gH y λk=>Q ((fO es k).getD .none) H)
def nC:Ct->List E->bv->Hp->(List V->Hp->Prop)->Prop
 |_,[],_,H,Q=>Q [] H
 |C,e::r,ρ,H,Q=>WE C e ρ H λv H=>nC C r ρ H λvs H=>Q (v::vs) H
def WO:Ct->Option E->bv->Hp->PQ->Prop
 |_,none,_,H,Q=>Q .none H
 |C,some e,ρ,H,Q=>WE C e ρ H Q
def yh:Ct->Bool->List E->bv->Hp->PQ->Prop
 |_,_,[],_,_,_=>False
 |C,w,e::r,ρ,H,Q=>WE C e ρ H λx H=>Ck r (Q x H) (aO (truthy H x) λt=>cD (t==w) (yh C w r ρ H Q) (Q x H))
def WT:Ct->List E->bv->Hp->(Bool->Hp->Prop)->Prop
 |_,[],_,H,Q=>Q true H
 |C,e::r,ρ,H,Q=>WE C e ρ H λx H=>aO (truthy H x) λt=>cD t (WT C r ρ H Q) (Q false H)
def qE:Ct->It->bv->Hp->(List V×List Nat->Hp->Prop)->Prop
 |C,.of e,ρ,H,Q=>WE C e ρ H λx H=>aO (keysOf H x) λvs=>Q (vs,watch x) H
 |C,.range a b,ρ,H,Q=>WE C a ρ H λx H=>WE C b ρ H λy H=>Al x y λl=>Q (l,[]) H
 |C,.oy e,ρ,H,Q=>WE C e ρ H λx H=>aO (dJ H x) λvs=>Q (rI 0 vs,watch x) H
 |C,.zip a b,ρ,H,Q=>WE C a ρ H λx H=>WE C b ρ H λy H=>aO (dJ H x) λxs=>aO (dJ H y) λys=>xs.length<=ys.length/\Q (vN xs ys,H.length::(watch x++watch y)) (H++[.jx])
end
def vP(C:Ct)(e:E)(ρ:bv)(H:Hp)(Q:Bool->Hp->Prop):Prop:=WE C e ρ H λx H=>aO (truthy H x) λt=>Q t H
mutual
def WS:Ct->S->bv->Hp->(Out->Prop)->Prop
 |C,.expr e,ρ,H,K=>WE C e ρ H λζ H=>K (.next ρ H)
 |C,.aY t e,ρ,H,K=>WE C e ρ H λv H=>aO (aY t v ρ) λcg=>K (.next cg H)
 |C,.ij a i e,ρ,H,K=>WE C e ρ H λv H=>WE C a ρ H λx H=>WE C i ρ H λk H=>uA x k v H λH'=>K (.next ρ H')
 |C,.setAttr a i e,ρ,H,K=>WE C e ρ H λv H=>WE C a ρ H λx H=>aO (iQ H x) λt=>aO (rJ H t) λfs=>K (.next ρ (H.set t (.cC (fs.set i (some v)))))
 |C,.ret e,ρ,H,K=>WE C e ρ H λv H=>K (.ret v H)
 |C,.raise k _,ρ,H,_=>C.exc (.ref H.length) (H++[.exc k])
 |C,.lV r e k i h,ρ,H,K=>WE ⟨C.call,λv H=>aO (excAt H v) λj=>iP j k=true/\WE C.no h (ρ.set i (some v)) H λr H=>K (.ret r H)⟩ e ρ H λv H=>Q8 r ρ K v H
 |C,.qq e k,ρ,H,K=>WE ⟨C.call,λv H=>aO (excAt H v) λj=>iP j k=true/\K (.next ρ H)⟩ e ρ H λζ H=>K (.ret (.bool false) H)
 |C,.bD c a b,ρ,H,K=>vP C c ρ H λt H=>cD t (aX C a ρ H K) (aX C b ρ H K)
 |C,.for t it body,ρ,H,K=>qE C it ρ H λp H=>pL p.2 H t (λρ H K=>aX C.xq body ρ H K) p.1 ρ H K
 |C,.while c body,ρ,H,K=>Cp (λρ H Q=>vP C.no c ρ H Q) (λρ H K=>aX C.no body ρ H K) (weight ρ) ρ H K
def aX:Ct->List S->bv->Hp->(Out->Prop)->Prop
 |_,[],ρ,H,K=>K (.next ρ H)
 |C,s::r,ρ,H,K=>WS C s ρ H λo=>mG o (λρ H=>aX C r ρ H K) (K o)
end
def aH:Nat->Nat->List V->Hp->PQ->PQ->Prop
 |0,_,_,_,_,_=>False
 |n+1,f,vs,H,Q,Y=>aO Cd[f]? λd=>(vs.length=d.np/\d.np≠999)/\aX ⟨aH n,xq Y⟩ d.body (vs.map some++replicate d.nl none) H (fA Q)
theorem Q9(i n:Nat):min (i:Int) (n:Int)=((min i n:Nat):Int):=by
 rcases Nat.le_total i n with h|h
 ·rw[Int.min_eq_left (pn.mpr h),min_eq_left h]
 ·rw[Int.min_eq_right (pn.mpr h),Nat.min_eq_right h]
structure Ws where
 φ:List Addr
 h:Heap
mutual
inductive bx(p:Ws):V->Value->Prop
 |none:bx p .none .none
 |bool (b:Bool):bx p (.bool b) (.bool b)
 |int (i:Int) (t:Tok):bx p (.int i) (.int i t)
 |str (s:Str) (t:Tok):bx p (.str s) (.str s t)
 |aF {a:Addr} {n:Nat} {vs:List V} {xs:List Value}:p.h.get? a=some (lY xs n)->bF p vs xs->vs.length<=16000000->a∉p.φ->bx p (.aF vs) (.ref a)
 |ref {l:Nat} {a:Addr}:p.φ[l]?=some a->bx p (.ref l) (.ref a)
 |i9:bx p .i9 (.ref X.mC)
inductive bF(p:Ws):List V->List Value->Prop
 |nil:bF p [] []
 |cons {v:V} {x:Value} {vs:List V} {xs:List Value}:bx p v x->bF p vs xs->bF p (v::vs) (x::xs)
end
def bx.Inv(p:Ws)(P:Value->Prop):V->Prop
 |.none=>P .none
 |.bool b=>P (.bool b)
 |.int i=>∀t,P (.int i t)
 |.str s=>∀t,P (.str s t)
 |.aF vs=>∀a n xs,p.h.get? a=some (lY xs n)->bF p vs xs->vs.length<=16000000->a∉p.φ->P (.ref a)
 |.ref l=>∀a,p.φ[l]?=some a->P (.ref a)
 |.i9=>P (.ref X.mC)
theorem bx.inv{p:Ws}{v:V}{x:Value}(r:bx p v x)(P:Value->Prop):bx.Inv p P v->P x:=
 bx.casesOn (motive_1:=λv x ζ=>bx.Inv p P v->P x) r (λk=>k) (λζ k=>k) (λζ t k=>k t) (λζ t k=>k t) (λe q z n k=>k _ _ _ e q z n) (λe k=>k _ e) (λk=>k)
def bF.Inv(p:Ws)(P:List Value->Prop):List V->Prop
 |[]=>P []
 |v::vs=>∀x xs,bx p v x->bF p vs xs->P (x::xs)
theorem bF.inv{p:Ws}{vs:List V}{xs:List Value}(r:bF p vs xs)(P:List Value->Prop):bF.Inv p P vs->P xs:=
 bF.casesOn (motive_2:=λvs xs ζ=>bF.Inv p P vs->P xs) r (λk=>k) (λa b k=>k _ _ a b)
theorem bF.ind{p:Ws}{M:List V->List Value->Prop}(n:M [] [])(c:∀{v x vs xs},bx p v x->bF p vs xs->M vs xs->M (v::vs) (x::xs)){vs:List V}{xs:List Value}(r:bF p vs xs):M vs xs:=
 bF.rec (motive_1:=λζ ζ ζ=>True) (motive_2:=λvs xs ζ=>M vs xs) trivial (λζ=>trivial) (λζ ζ=>trivial) (λζ ζ=>trivial) (λζ ζ ζ ζ ζ=>trivial) (λζ=>trivial) trivial n (λa b ζ m=>c a b m) r
theorem Cr{α:Type}{l r:List α}{i:Nat}{a:α}(e:l[i]?=some a):(l++r)[i]?=some a:=by rw[sL (d7.mp e).1];exact e
noncomputable def fT(o:Obj):Bool:=match o.data with
 |.dict _ _=>true
 |_=>false
noncomputable def il(o:Obj):Bool:=match o.data with
 |.fields vs=>o.cls==.type "traceback"&&decide (3<vs.size)
 |_=>false
noncomputable def fz(o:Obj):Bool:=match o.data with
 |.seq _ _=>o.cls==.type "tuple"
 |.fields vs=>o.cls==.type "traceback"&&decide (3<vs.size)
 |_=>false
theorem Am{o:Obj}{es:Array DictEntry}{ep:Nat}(h:o.data=.dict es ep):fz o=false:=by unfold fz;rw[h]
theorem Ra{o:Obj}{v:Option Value}(h:o.data=.cell v):fz o=false:=by unfold fz;rw[h]
theorem oE{o:Obj}{c:Value}(hc:o.cls=c)(hn:(c==.type "tuple"||c==.type "traceback")=false):fz o=false:=by
 have h:=ub.mp hn
 unfold fz;rw[hc,h.1,h.2]
 cases o.data<;>rfl
theorem Cs{o:Obj}{es:Array DictEntry}{ep:Nat}(h:o.data=.dict es ep):fT o=true:=by unfold fT;rw[h]
theorem td{o:Obj}{vs:Array Value}(h:o.data=.fields vs):fT o=false:=by unfold fT;rw[h]
theorem Rb{o:Obj}{v:Option Value}(h:o.data=.cell v):fT o=false:=by unfold fT;rw[h]
theorem no{P:Prop}{b:Bool}(h:b=true)(h':b=false):P:=by rw[h] at h';cases h'
theorem Fa{o:Obj}(h:fT o=true):il o=false:=by
 unfold fT at h;unfold il
 cases e:o.data<;>rw[e] at h<;>first|rfl|cases h
theorem Kd{o:Obj}(h:il o=true):fz o=true:=by
 unfold il at h;unfold fz
 cases e:o.data<;>rw[e] at h<;>first|exact h|cases h
structure kR(o o':Obj):Prop where
 eq:fT o=false->il o=false->o'=o
 data:il o=false->o'.data=o.data/\o'.cls=o.cls
 tb:il o=true->il o'=true
theorem kR.refl{o:Obj}:kR o o:=⟨λζ ζ=>rfl,λζ=>⟨rfl,rfl⟩,id⟩
theorem kR.dd{o o':Obj}(h:kR o o')(hb:il o=false):fT o'=fT o/\il o'=false/\fz o'=fz o:=by
 have x:=h.data hb
 unfold fT il fz
 rw[x.1,x.2]
 exact⟨rfl,hb,rfl⟩
theorem kR.trans{a b c:Obj}(h:kR a b)(k:kR b c):kR a c:=
 ⟨λh1 h2=>have x:=h.dd h2;(k.eq (x.1.trans h1) x.2.1).trans (h.eq h1 h2),λh2=>have x:=h.dd h2;have y:=k.data x.2.1;have z:=h.data h2;⟨y.1.trans z.1,y.2.trans z.2⟩,λh2=>k.tb (h.tb h2)⟩
theorem kR.fT{o o':Obj}(h:kR o o')(hd:Mine.fT o=true):Mine.fT o'=true:=(h.dd (Fa hd)).1.trans hd
theorem kR.fz{o o':Obj}(h:kR o o')(hf:Mine.fz o=true):Mine.fz o'=true:=by
 cases e:il o with
 |true=>exact Kd (h.tb e)
 |false=>exact(h.dd e).2.2.trans hf
structure Kp(p q:Ws):Prop where
 pre:∀(l:Nat) (a:Addr),p.φ[l]?=some a->q.φ[l]?=some a
 Cu:∀a o,fz o=true->p.h.get? a=some o->a∉p.φ->(∃o',q.h.get? a=some o'/\kR o o')/\a∉q.φ
structure ca(own:Addr->Prop)(p q:Ws):Prop where
 pre:∀(l:Nat) (a:Addr),p.φ[l]?=some a->q.φ[l]?=some a
 keep:∀a o,p.h.get? a=some o->a∉p.φ->(own a->fz o=true)->∃o',q.h.get? a=some o'/\kR o o'
 fresh:∀a,a∈q.φ->a∉p.φ->p.h.get? a=none
 alive:∀a o,p.h.get? a=some o->∃o',q.h.get? a=some o'/\(a∉p.φ->fT o=true->fT o'=true)
abbrev je:Addr->Prop:=λζ=>False
def Ch(io:Addr->Prop)(h h':Heap):Prop:=∀a o,h.get? a=some o->(io a->fz o=true)->h'.get? a=some o
def aC(h h':Heap):Prop:=∀a o,h.get? a=some o->h'.get? a=some o
section
variable{own own' io:Addr->Prop}{p q r:Ws}{h h':Heap}{a:Addr}{o:Obj}
theorem aC.push(o:Obj):aC h (h.push o):=λζ ζ e=>nY o e
theorem aC.ch(e:aC h h'):Ch io h h':=λa o x ζ=>e a o x
theorem Ch.but{b:Addr}(e:ExtBut b h h')(hb:∀o,h.get? b=some o->fz o=false):Ch (·=b) h h':=λa o x hf=>(qh (a=b)).elim (λe'=>no (hf e') (hb o (e'▸x))) λhn=>e a o hn x
theorem ca.refl:ca own p p:=⟨λζ ζ e=>e,λζ o e ζ ζ=>⟨o,e,.refl⟩,λζ h1 h2=>absurd h1 h2,λζ o e=>⟨o,e,λζ h=>h⟩⟩
theorem ca.rK(S:ca own p q)(ho:p.h.get? a=some o)(ha:a∉p.φ):a∉q.φ:=λhm=>bK (S.fresh a hm ha) ho
theorem ca.dead(S:ca own p q)(hn:q.h.get? a=none):p.h.get? a=none:=by
 cases e:p.h.get? a with
 |none=>rfl
 |some o=>exact(S.alive a o e).elim λζ e'=>bK hn e'.1
theorem ca.same(S:ca own p q)(e:p.h.get? a=some o)(hn:a∉p.φ)(h:own a->fz o=true)(hd:fT o=false)(ht:il o=false):q.h.get? a=some o:=(S.keep a o e hn h).elim λo' x=>x.2.eq hd ht▸x.1
theorem ca.trans(S:ca own p q)(T:ca own q r):ca own p r:=
 ⟨λl a e=>T.pre l a (S.pre l a e),λa o e h1 h2=>(S.keep a o e h1 h2).elim λo1 x=>(T.keep a o1 x.1 (S.rK e h1) λh=>x.2.fz (h2 h)).imp λo2 y=>⟨y.1,x.2.trans y.2⟩,λa h1 h2=>(qh (a∈q.φ)).elim (λh=>S.fresh a h h2) λh=>S.dead (T.fresh a h1 h),
  λa o e=>(S.alive a o e).elim λo1 x=>(T.alive a o1 x.1).imp λo2 y=>⟨y.1,λh1 h2=>y.2 (S.rK e h1) (x.2 h1 h2)⟩⟩
theorem ca.ow(S:ca own p q)(hs:∀a,own a->own' a\/p.h.get? a=none):ca own' p q:=
 ⟨S.pre,λa o e h1 h2=>S.keep a o e h1 λhm=>(hs a hm).elim h2 λhn=>bK hn e,S.fresh,S.alive⟩
theorem ca.nil(S:ca je p q):ca own p q:=S.ow λζ h=>h.elim
theorem ca.ch(S:ca own p q)(c:Ch io q.h h')(fj:∀a,io a->p.h.get? a=none\/own a/\∃o',h'.get? a=some o'/\∀o,q.h.get? a=some o->fT o=true->fT o'=true):ca own p ⟨q.φ,h'⟩:=
 ⟨S.pre,λa o e h1 h2=>(S.keep a o e h1 h2).imp λo1 x=>⟨c a o1 x.1 λhi=>(fj a hi).elim (λhn=>bK hn e) λy=>x.2.fz (h2 y.1),x.2⟩,S.fresh,
  λa o e=>(S.alive a o e).elim λo1 x=>(qh (io a)).elim (λhi=>(fj a hi).elim (λhn=>bK hn e) λy=>y.2.imp λo2 z=>⟨z.1,λh1 h2=>z.2 o1 x.1 (x.2 h1 h2)⟩) λhn=>⟨o1,c a o1 x.1 λhi=>absurd hi hn,x.2⟩⟩
theorem ca.ext(S:ca own p q)(e:aC q.h h'):ca own p ⟨q.φ,h'⟩:=S.ch (io:=je) e.ch λζ h=>h.elim
theorem ca.cell(S:ca own p q)(ha:a∈q.φ)(e:ExtBut a q.h h')(ho:h'.get? a=some o):ca own p ⟨q.φ,h'⟩:=
 ⟨S.pre,λb o' x h1 h2=>(S.keep b o' x h1 h2).imp λo1 y=>⟨e b o1 (λe'=>bK (S.fresh b (e'▸ha) h1) x) y.1,y.2⟩,S.fresh,
  λb o' x=>(qh (b=a)).elim (λe'=>⟨o,e'▸ho,λh1 ζ=>bK (S.fresh b (e'▸ha) h1) x⟩) λhn=>(S.alive b o' x).imp λo1 y=>⟨e b o1 hn y.1,y.2⟩⟩
theorem ca.adopt{D:Addr}(S:ca own p q)(hD:p.h.get? D=none):ca own p ⟨q.φ++[D],q.h⟩:=
 ⟨λl a e=>Cr (S.pre l a e),S.keep,λa h1 h2=>(cY.mp h1).elim (λh=>S.fresh a h h2) λh=>dI.mp h▸hD,S.alive⟩
theorem ca.kp(S:ca own p q):Kp p q:=⟨S.pre,λa o z e hn=>⟨S.keep a o e hn (λζ=>z),S.rK e hn⟩⟩
theorem Ch.kp{φ:List Addr}(c:Ch io h h'):Kp ⟨φ,h⟩ ⟨φ,h'⟩:=⟨λζ ζ e=>e,λa o z e hn=>⟨⟨o,c a o e λζ=>z,.refl⟩,hn⟩⟩
theorem Kp.refl:Kp p p:=⟨λζ ζ e=>e,λζ o ζ e hn=>⟨⟨o,e,.refl⟩,hn⟩⟩
theorem Kp.trans(S:Kp p q)(T:Kp q r):Kp p r:=⟨λl a e=>T.pre l a (S.pre l a e),λa o z e hn=>have h:=S.Cu a o z e hn;h.1.elim λo1 x=>have k:=T.Cu a o1 (x.2.fz z) x.1 h.2;⟨k.1.imp λo2 y=>⟨y.1,x.2.trans y.2⟩,k.2⟩⟩
theorem Kp.adopt{D:Addr}{φ:List Addr}(hD:∀o,h.get? D=some o->fz o=false):Kp ⟨φ,h⟩ ⟨φ++[D],h⟩:=
 ⟨λl a e=>Cr e,λa o z e hn=>⟨⟨o,e,.refl⟩,λhm=>(cY.mp hm).elim hn λh=>no z (hD o (dI.mp h▸e))⟩⟩
theorem Kp.aF(K:Kp p q){xs:List Value}{n:Nat}(e:p.h.get? a=some (lY xs n))(hn:a∉p.φ):q.h.get? a=some (lY xs n)/\a∉q.φ:=have h:=K.Cu _ _ rfl e hn;⟨h.1.elim λo x=>x.2.eq rfl rfl▸x.1,h.2⟩
theorem bx.kp(K:Kp p q){v:V}{x:Value}(r:bx p v x):bx q v x:=
 bx.rec (motive_1:=λv x ζ=>bx q v x) (motive_2:=λvs xs ζ=>bF q vs xs) .none .bool .int .str (λe ζ z hn m=>have h:=K.aF e hn;.aF h.1 m z h.2) (λe=>.ref (K.pre _ _ e)) .i9 .nil (λζ ζ a b=>.cons a b) r
theorem bF.kp(K:Kp p q){vs:List V}{xs:List Value}(r:bF p vs xs):bF q vs xs:=
 bF.ind (M:=λvs xs=>bF q vs xs) .nil (λa ζ m=>.cons (a.kp K) m) r
theorem bx.mono(S:ca own p q){v:V}{x:Value}(r:bx p v x):bx q v x:=r.kp S.kp
theorem bF.mono(S:ca own p q){v:List V}{x:List Value}(r:bF p v x):bF q v x:=r.kp S.kp
end
section
variable{p:Ws}{vs ws:List V}{xs ys:List Value}{v:V}{x:Value}
theorem bF.k1(r:bF p [v] xs)(T:List Value->Prop)(k:∀x,bx p v x->T [x]):T xs:=r.inv T λx ζ r1 r2=>r2.inv (λxs=>T (x::xs)) (k x r1)
theorem bF.k2{u:V}(r:bF p [u,v] xs)(T:List Value->Prop)(k:∀x y,bx p u x->bx p v y->T [x,y]):T xs:=r.inv T λx ζ r1 r2=>r2.k1 (λxs=>T (x::xs)) λy r2=>k x y r1 r2
theorem bF.length(r:bF p vs xs):vs.length=xs.length:=bF.ind (M:=λvs xs=>vs.length=xs.length) rfl (λζ ζ m=>b7 (·+1) m) r
theorem bF.append(r:bF p vs xs)(q:bF p ws ys):bF p (vs++ws) (xs++ys):=bF.ind (M:=λvs xs=>bF p (vs++ws) (xs++ys)) q (λa ζ m=>.cons a m) r
theorem bF.one(r:bx p v x):bF p [v] [x]:=.cons r .nil
theorem bF.get'(r:bF p vs xs):∀{i:Nat} {v:V},vs[i]?=some v->∃x,xs[i]?=some x/\bx p v x:=
 bF.ind (M:=λvs xs=>∀{i:Nat} {v:V},vs[i]?=some v->∃x,xs[i]?=some x/\bx p v x) (λe=>bK vv e) (λ{_ x _ _} a _ m i=>match i with|0=>λe=>⟨x,rfl,dH e▸a⟩|i+1=>λe=>m (i:=i) e) r
theorem bF.get{P:Prop}{i:Nat}(r:bF p vs xs)(e:vs[i]?=some v)(k:∀x,xs[i]?=some x->bx p v x->P):P:=(r.get' e).elim λx h=>k x h.1 h.2
theorem bF.take(r:bF p vs xs):∀k,bF p (vs.take k) (xs.take k):=
 bF.ind (M:=λvs xs=>∀k,bF p (vs.take k) (xs.take k)) (λk=>by rw[List.take_nil,List.take_nil];exact .nil) (λa ζ m k=>match k with|0=>.nil|k+1=>.cons a (m k)) r
theorem bF.drop(r:bF p vs xs):∀k,bF p (vs.drop k) (xs.drop k):=
 bF.ind (M:=λvs xs=>∀k,bF p (vs.drop k) (xs.drop k)) (λk=>by rw[drop_nil,drop_nil];exact .nil) (λa b m k=>match k with|0=>.cons a b|k+1=>m k) r
theorem bF.set(r:bF p vs xs)(q:bx p v x):∀k,bF p (vs.set k v) (xs.set k x):=
 bF.ind (M:=λvs xs=>∀k,bF p (vs.set k v) (xs.set k x)) (λζ=>.nil) (λa b m k=>match k with|0=>.cons q b|k+1=>.cons a (m k)) r
end
inductive L2{α β:Type}(M:α->β->Prop):List α->List β->Prop
 |nil:L2 M [] []
 |cons {a:α} {b:β} {as:List α} {bs:List β}:M a b->L2 M as bs->L2 M (a::as) (b::bs)
section
variable{α β:Type}{M N:α->β->Prop}{as iS:List α}{bs te:List β}
theorem L2.imp(h:L2 M as bs)(k:∀a b,M a b->N a b):L2 N as bs:=h.rec .nil λa ζ m=>.cons (k _ _ a) m
theorem L2.length(h:L2 M as bs):as.length=bs.length:=h.rec rfl λζ ζ m=>b7 (·+1) m
theorem L2.snoc{a:α}{b:β}(h:L2 M as bs)(q:M a b):L2 M (as++[a]) (bs++[b]):=h.rec (.cons q .nil) λa ζ m=>.cons a m
theorem L2.map{f:α->α}{g:β->β}(h:L2 M as bs)(k:∀a b,M a b->M (f a) (g b)):L2 M (as.map f) (bs.map g):=h.rec .nil λa ζ m=>.cons (k _ _ a) m
theorem L2.any{f:α->Bool}{g:β->Bool}(h:L2 M as bs)(k:∀a b,M a b->f a=g b):as.any f=bs.any g:=h.rec rfl λa ζ m=>by rw[any_cons,any_cons,k _ _ a,m]
theorem L2.get(h:L2 M as bs):∀{i:Nat} {a:α} {b:β},as[i]?=some a->bs[i]?=some b->M a b:=by
 induction h with
 |nil=>exact λe ζ=>bK vv e
 |cons q _ m=>
  intro i
  cases i with
  |zero=>exact λe e'=>dH e▸dH e'▸q
  |succ i=>exact λe e'=>m (i:=i) e e'
theorem L2.find{f:α->Bool}{g:β->Bool}(h:L2 M as bs)(k:∀a b,M a b->f a=g b):(as.find? f=none/\bs.find? g=none)\/∃a b,as.find? f=some a/\bs.find? g=some b/\M a b:=
 h.rec (.inl ⟨rfl,rfl⟩) λ{a b _ _} q _ m=>by
  rw[find?_cons,find?_cons,k _ _ q]
  cases g b with
  |true=>exact .inr ⟨a,b,rfl,rfl,q⟩
  |false=>exact m
end
def pM(p:Ws)(e:Int×V)(kv:Int×Value):Prop:=e.1=kv.1/\bx p e.2 kv.2
def qF(p:Ws)(e:(Int×Bool)×V)(kv:List Int×Addr×Value):Prop:=kv.1=[e.1.1,if e.1.2 then 1 else 0]/\bx p (oB e.1) (.ref kv.2.1)/\bx p e.2 kv.2.2
theorem pM.kp{p q:Ws}(K:Kp p q)(e:Int×V)(kv:Int×Value)(h:pM p e kv):pM q e kv:=⟨h.1,h.2.kp K⟩
theorem qF.kp{p q:Ws}(K:Kp p q)(e:(Int×Bool)×V)(kv:List Int×Addr×Value)(h:qF p e kv):qF q e kv:=⟨h.1,h.2.1.kp K,h.2.2.kp K⟩
noncomputable def Ke(k:Int):Value->Bool
 |.int i _=>i==k
 |.bool b=>(if b then(1:Int) else 0)==k
 |_=>false
end Mine
namespace Mine
open PySem
section
variable{A:Around}{E:Value->Shared->Prop}{s:Shared}
noncomputable def bI(b:Bool):Int:=if b then 1 else 0
theorem Rc{b:Bool}{Q:Int->Shared->Prop}(h:Q (hashInt (bI b)) {s with toks:=s.toks+1}):wpAny (model X.prog X.w) A (pyHash (.bool b)) Q E s:=by
 unfold pyHash
 refine bj ?_
 rw[cRoomFor,bH (by exact gM)]
 refine bU (bj (wpAny_specialOf (show s.TypeIs (.bool b) "bool" from rfl) F.slot_bool_hash.lookup ((?_:wpAny _ _ (if(some (Value.builtin "int.__hash__")==some Value.none)=true then _ else _) Q E s))))
 rw[bH (by rw[beq_builtin_none];exact gM)]
 refine bj (wpAny_specialOf (show s.TypeIs (.bool b) "bool" from rfl) F.slot_bool_hash.lookup ((?_:wpAny _ _ (callSpecialIfBoundUnlessNone? (.bool b) "__hash__" _ >>= _) Q E s)))
 refine bj (wpAny_callSpecialIfBoundUnlessNone?_slot (show s.TypeIs (.bool b) "bool" from rfl) F.slot_bool_hash
  (uc F.slot_bool_hash (show s.TypeIs (.bool b) "bool" from rfl) entry_int_hash
   (show wpAny _ _ (do ret (<-mkInt (rawHash (bI b)))) _ _ s from wpAny_ret_mkInt ?_) (args_int_hash _)))
 cases b<;>exact bU h
theorem An{k:Int}{v:Value}(h:Ke k v=true){P:Value->Prop}(ki:∀t,P (.int k t))(kb:∀b,bI b=k->P (.bool b)):P v:=by
 cases v with
 |int i t=>obtain rfl:=eq_of_beq h;exact ki t
 |bool b=>exact kb b (eq_of_beq h)
 |_=>exact Bool.noConfusion h
noncomputable def vQ:KeyKind X.prog X.w Int where
 is:=Ke
 hash:=hashInt
 inj:=λv a b h1 h2=>by cases v with
  |int i t=>exact(eq_of_beq h1).symm.trans (eq_of_beq h2)
  |bool b=>exact(eq_of_beq h1).symm.trans (eq_of_beq h2)
  |_=>exact Bool.noConfusion h1
 byValue:=λk v h=>An (P:=λv=>carriedByValue v=true) h (λζ=>rfl) λζ ζ=>rfl
 pyHash:=λ{A E s k v Q} hv h=>An (P:=λv=>wpAny (model X.prog X.w) A (PySem.pyHash v) Q E s) hv (λζ=>wpAny_pyHash_int h) λb e=>Rc (e▸h)
 eqBool:=λ{A E s a b u v Q} hu hv h=>by
  refine An (P:=λu=>wpAny (model X.prog X.w) A (PySem.eqBool u v) Q E s) hu (λt=>?_) λc e=>?_
  ·refine An (P:=λv=>wpAny (model X.prog X.w) A (PySem.eqBool _ v) Q E s) hv (λt'=>SeqAt.EqAt.int_int _ _ _ _ _ _ _ _ h) λd e'=>?_
   subst e'
   exact SeqAt.EqAt.int_bool _ _ _ _ _ _ _ h
  ·subst e
   refine An (P:=λv=>wpAny (model X.prog X.w) A (PySem.eqBool _ v) Q E s) hv (λt'=>SeqAt.EqAt.bool_int _ _ _ _ _ _ _ h) λd e'=>?_
   subst e'
   refine SeqAt.EqAt.bool_bool _ _ _ _ _ _ ?_
   cases c<;>cases d<;>exact h
 «strs»:=λk x t v h=>Bool.noConfusion h
noncomputable abbrev kS:KeyKind X.prog X.w Int:=intKind X.prog X.w
noncomputable abbrev yi:KeyKind X.prog X.w Str:=strKind X.prog X.w
noncomputable abbrev pN:HeapKind X.prog X.w (List Int):=tupleKind vQ
noncomputable def pK(q:Int×Bool):List Int:=[q.1,bI q.2]
theorem Kf{q q':Int×Bool}(h:pK q=pK q'):q=q':=by
 obtain⟨i,b⟩:=q
 obtain⟨j,c⟩:=q'
 have h1:i=j:=(i6 h).1
 have h2:bI b=bI c:=(i6 (i6 h).2).1
 clear h
 subst h1
 cases b<;>cases c<;>first|rfl|exact absurd h2 (by decide)
theorem Ao{p:Ws}{q:Int×Bool}{a:Addr}(r:bx p (oB q) (.ref a)):pN.is p.h (pK q) a:=by
 have key:∀x,bx p (oB q) x->x=.ref a->pN.is p.h (pK q) a:=λx r=>r.inv (λx=>x=.ref a->pN.is p.h (pK q) a) λb n xs e rl ζ ζ h=>by
  cases h
  refine⟨_,_,n,e,rfl,rfl,((?_:ItemsAre vQ (pK q) xs))⟩
  exact rl.inv (λxs=>ItemsAre vQ (pK q) xs) λx xs r1 rl=>r1.inv (λx=>ItemsAre vQ (pK q) (x::xs)) λt=>rl.inv (λxs=>ItemsAre vQ (pK q) (_::xs)) λy ys r2 rl=>
   r2.inv (λy=>ItemsAre vQ (pK q) (_::y::ys)) (rl.inv (λys=>ItemsAre vQ (pK q) (_::_::ys)) (.cons (hX _) (.cons (hX _) .nil)))
 exact key _ r rfl
end
noncomputable def lk(ns:List Str)(ρ:bv)(x:Str):Option V:=(ρ[ns.idxOf x]?).join
inductive kU(p:Ws):Option V->Option Value->Prop
 |none:kU p none none
 |some {v:V} {x:Value}:bx p v x->kU p (some v) (some x)
theorem kU.kp{p q:Ws}(K:Kp p q){v:Option V}{x:Option Value}(r:kU p v x):kU q v x:=r.casesOn (motive:=λv x ζ=>kU q v x) .none λr=>.some (r.kp K)
theorem kU.inv{p:Ws}{v:V}{u:Option V}{x:Option Value}(r:kU p u x)(e:u=Option.some v)(P:Option Value->Prop)(k:∀y,bx p v y->P (Option.some y)):P x:=
 r.casesOn (motive:=λu x ζ=>u=Option.some v->P x) (λe=>bK rfl e) (λr e=>k _ (dH e▸r)) e
def yj(p:Ws)(vs:Array Value)(T:Addr)(o:Obj):Prop:=vs[1]?=some (.ref T)/\p.h.get? T=some o/\il o=true/\T∉p.φ/\X.fC.get? T=none
def Aq(p:Ws)(vs:Array Value):Prop:=vs[1]?=some .none\/∃T o,yj p vs T o
theorem yj.kp{p q:Ws}{vs:Array Value}{T:Addr}{o:Obj}(K:Kp p q)(x:yj p vs T o):∃o',yj q vs T o':=have y:=K.Cu T o (Kd x.2.2.1) x.2.1 x.2.2.2.1;y.1.imp λo' z=>⟨x.1,z.1,z.2.tb x.2.2.1,y.2,x.2.2.2.2⟩
theorem Aq.kp{p q:Ws}{vs:Array Value}(K:Kp p q)(h:Aq p vs):Aq q vs:=h.imp id λh=>h.imp λT h=>h.elim λo x=>x.kp K
structure yk(p:Ws)(fs:bv)(m:Str->Option Value):Prop where
 len:fs.length=gK.cC.length
 at':∀x,x∈gK.cC->kU p (lk gK.cC fs x) (m x)
 out:∀x,x∉gK.cC->m x=none
theorem yk.kp{p q:Ws}{fs:bv}{m:Str->Option Value}(K:Kp p q)(h:yk p fs m):yk q fs m:=⟨h.len,λx hx=>(h.at' x hx).kp K,h.out⟩
inductive fW(p:Ws)(a:Addr):aI->Prop
 |list {vs:List V} {xs:List Value} {n:Nat}:p.h.get? a=some (jb xs n)->bF p vs xs->vs.length<=16000000->fW p a (.list vs)
 |dict {es:List (Int×V)} {o:Obj} {en:Array DictEntry} {ep:Nat} {kvs:List (Int×Value)}:p.h.get? a=some o->o.ExactDict->o.data=.dict en ep->KeysOf kS en->Pairs kS en.toList kvs->(kvs.map (·.1)).Nodup->L2 (pM p) es kvs->(a==sysModules)=false->es.length<=16000000->fW p a (.dict ep es)
 |dY {es:List ((Int×Bool)×V)} {o:Obj} {en:Array DictEntry} {ep:Nat} {xs:List (List Int×Addr×Value)}:p.h.get? a=some o->o.ExactDict->o.data=.dict en ep->en.toList=xs.map (entryOfKey pN)->(xs.map (·.1)).Nodup->L2 (qF p) es xs->(a==sysModules)=false->es.length<=16000000->fW p a (.dY ep es)
 |exc {k:Nat} {o:Obj} {C:Addr} {vs:Array Value}:p.h.get? a=some o->X.exc[k]?=some C->o.cls=.ref C->o.data=.fields vs->Aq p vs->fW p a (.exc k)
 |obj {t:Nat} {o:Obj} {d:Addr}:p.h.get? a=some o->o.cls=.ref X.bk->(∀c,o.data≠.cls c)->o.dict=some d->p.φ[t]?=some d->fW p a (.obj t)
 |cC {fs:bv} {m:Str->Option Value}:p.h.Ns1 a m->yk p fs m->fW p a (.cC fs)
 |gO {vs:List V} {kvs:List (Str×Value)}:p.h.DictOf yi a kvs->kvs.map (·.1)=qr.take vs.length->bF p vs (kvs.map (·.2))->(a==sysModules)=false->fW p a (.gO vs)
 |jx {x y:Value}:p.h.get? a=some (lY [x,y] 0)->fW p a .jx
def fW.Inv(p:Ws)(a:Addr)(G:Prop):aI->Prop
 |.list vs=>∀xs n,p.h.get? a=some (jb xs n)->bF p vs xs->vs.length<=16000000->G
 |.dict ep es=>∀o en kvs,p.h.get? a=some o->o.ExactDict->o.data=.dict en ep->KeysOf kS en->Pairs kS en.toList kvs->(kvs.map (·.1)).Nodup->L2 (pM p) es kvs->(a==sysModules)=false->es.length<=16000000->G
 |.dY ep es=>∀o en xs,p.h.get? a=some o->o.ExactDict->o.data=.dict en ep->en.toList=xs.map (entryOfKey pN)->(xs.map (·.1)).Nodup->L2 (qF p) es xs->(a==sysModules)=false->es.length<=16000000->G
 |.exc k=>∀o C vs,p.h.get? a=some o->X.exc[k]?=some C->o.cls=.ref C->o.data=.fields vs->Aq p vs->G
 |.obj t=>∀o d,p.h.get? a=some o->o.cls=.ref X.bk->(∀c,o.data≠.cls c)->o.dict=some d->p.φ[t]?=some d->G
 |.cC fs=>∀m,p.h.Ns1 a m->yk p fs m->G
 |.gO vs=>∀kvs,p.h.DictOf yi a kvs->kvs.map (·.1)=qr.take vs.length->bF p vs (kvs.map (·.2))->(a==sysModules)=false->G
 |.jx=>∀x y,p.h.get? a=some (lY [x,y] 0)->G
theorem fW.inv{p:Ws}{a:Addr}{c:aI}(h:fW p a c)(G:Prop):fW.Inv p a G c->G:=
 h.casesOn (motive:=λc ζ=>fW.Inv p a G c->G) (λe r z k=>k _ _ e r z) (λe x1 x2 x3 x4 x5 r z n k=>k _ _ _ e x1 x2 x3 x4 x5 r z n) (λe x1 x2 x3 x4 r z n k=>k _ _ _ e x1 x2 x3 x4 r z n) (λe x1 x2 x3 x4 k=>k _ _ _ e x1 x2 x3 x4) (λe x1 x2 x3 x4 k=>k _ _ e x1 x2 x3 x4) (λe x k=>k _ e x) (λe x r z k=>k _ e x r z) (λe k=>k _ _ e)
structure SR(p:Ws)(H:Hp):Prop where
 keep:aC X.fC p.h
 fresh:∀a,a∈p.φ->X.fC.get? a=none
 nodup:p.φ.Nodup
 len:p.φ.length=H.length
 cell:∀(l:Nat) (c:aI),H[l]?=some c->∃a,p.φ[l]?=some a/\fW p a c
def Ap(p:Ws)(a:Addr):Prop:=a∉p.φ/\X.fC.get? a=none
section
variable{own io:Addr->Prop}{p q:Ws}{h h':Heap}{H:Hp}{a:Addr}{c:aI}{o:Obj}{l:Nat}
theorem fW.kp(K:Kp p q)(ha:∀o,p.h.get? a=some o->q.h.get? a=some o)(r:fW p a c):fW q a c:=
 fW.casesOn (motive:=λc ζ=>fW q a c) r (λe r z=>.list (ha _ e) (r.kp K) z) (λe x1 x2 x3 x4 x5 r z n=>.dict (ha _ e) x1 x2 x3 x4 x5 (r.imp (pM.kp K)) z n) (λe x1 x2 x3 x4 r z n=>.dY (ha _ e) x1 x2 x3 x4 (r.imp (qF.kp K)) z n)
  (λe x1 x2 x3 x4=>.exc (ha _ e) x1 x2 x3 (x4.kp K)) (λe x1 x2 x3 x4=>.obj (ha _ e) x1 x2 x3 (K.pre _ _ x4)) (λe x=>.cC (e.at ha) (x.kp K)) (λe x r z=>.gO (e.imp λo h=>h.imp λζ h=>h.imp λζ h=>⟨ha _ h.1,h.2⟩) x (r.kp K) z) (λe=>.jx (ha _ e))
theorem fW.ob(r:fW p a c):∃o,p.h.get? a=some o:=
 r.casesOn (λe ζ ζ=>⟨_,e⟩) (λe ζ ζ ζ ζ ζ ζ ζ ζ=>⟨_,e⟩) (λe ζ ζ ζ ζ ζ ζ ζ=>⟨_,e⟩) (λe ζ ζ ζ ζ=>⟨_,e⟩) (λe ζ ζ ζ ζ=>⟨_,e⟩) (λe ζ=>e.elim λo x=>x.elim λζ x=>x.elim λζ x=>⟨o,x.1⟩) (λe ζ ζ ζ=>e.elim λo h=>h.elim λζ h=>h.elim λζ h=>⟨o,h.1⟩) (λe=>⟨_,e⟩)
theorem SR.at{G:Prop}(R:SR p H)(e:H[l]?=some c)(k:∀a,p.φ[l]?=some a->fW p a c->G):G:=(R.cell l c e).elim λa h=>k a h.1 h.2
theorem SR.obj(R:SR p H)(ha:a∈p.φ):∃o,p.h.get? a=some o:=
 (List.mem_iff_getElem?.mp ha).elim λl e=>R.at (l:=l) (iB (R.len▸(d7.mp e).1)) λb hb r=>dH (hb.symm.trans e)▸r.ob
theorem SR.ch(R:SR ⟨p.φ,h⟩ H)(fj:∀a,io a->Ap p a)(c:Ch io h h'):SR ⟨p.φ,h'⟩ H:=
 ⟨λa o e=>c a o (R.keep a o e) λhi=>bK (fj a hi).2 e,R.fresh,R.nodup,R.len,λl x e=>R.at e λa ha r=>⟨a,ha,r.kp c.kp λo e=>c a o e λhi=>absurd (ie ha) (fj a hi).1⟩⟩
theorem SR.ext(R:SR ⟨p.φ,h⟩ H)(e:aC h h'):SR ⟨p.φ,h'⟩ H:=R.ch (io:=je) (λζ h=>h.elim) e.ch
theorem jq(h:Heap){b:Addr}(hb:h.objs.size<=b):h.get? b=none:=by
 cases e:h.get? b with
 |none=>rfl
 |some o=>exact absurd (nh e) (fv.mpr hb)
theorem SR.new(R:SR p H)(hn:p.h.get? a=none):Ap p a:=
 ⟨λhm=>(R.obj hm).elim λζ e=>bK hn e,by
  cases e:X.fC.get? a with
  |none=>rfl
  |some o=>exact bK hn (R.keep a o e)⟩
theorem Fb{α:Type}{l:List α}(hn:l.Nodup){i j:Nat}{x:α}(hi:l[i]?=some x)(hj:l[j]?=some x):i=j:=(List.getElem?_inj (d7.mp hi).1 hn).mp (hi.trans hj.symm)
theorem SR.adopt(R:SR p H)(hD:Ap p a)(hf:∀o,p.h.get? a=some o->fz o=false)(hc:fW p a c):SR ⟨p.φ++[a],p.h⟩ (H++[c]):=by
 have K:Kp p ⟨p.φ++[a],p.h⟩:=Kp.adopt (φ:=p.φ) (h:=p.h) hf
 refine⟨R.keep,λb hb=>(cY.mp hb).elim (R.fresh b) λh=>dI.mp h▸hD.2,?_,by rw[b6,b6,R.len];rfl,λl x e=>?_⟩
 ·exact sM.mpr ⟨R.nodup,List.pairwise_singleton _ _,λx hx y hy e=>hD.1 (dI.mp hy▸e▸hx)⟩
 ·rcases lt_or_ge l H.length with hl|hl
  ·rw[sL hl] at e
   exact R.at e λb hb r=>⟨b,K.pre l b hb,r.kp K λζ e=>e⟩
  ·have gX:l=H.length:=Nat.le_antisymm (Nat.lt_succ_iff.mp (by simpa using (d7.mp e).1)) hl
   subst gX
   rw[pv (bX _),qi] at e
   exact⟨a,by rw[pv (iC R.len),R.len,qi];rfl,dH e▸hc.kp K λζ e=>e⟩
theorem SR.Kg(R:SR p H)(ha:p.φ[l]?=some a)(K:Kp p ⟨p.φ,h'⟩)(h0:aC X.fC h')(e:∀b o,b∈p.φ->b≠a->p.h.get? b=some o->h'.get? b=some o)(hc:fW ⟨p.φ,h'⟩ a c):SR ⟨p.φ,h'⟩ (H.set l c):=by
 refine⟨h0,R.fresh,R.nodup,by rw[gR];exact R.len,λk x hx=>?_⟩
 by_cases hk:k=l
 ·subst hk
  rw[sN (R.len▸(d7.mp ha).1)] at hx
  exact⟨a,ha,dH hx▸hc⟩
 ·rw[ud (gS hk)] at hx
  exact R.at hx λb hb r=>⟨b,hb,r.kp K λo y=>e b o (ie hb) (λe'=>hk (Fb R.nodup hb (e'▸ha))) y⟩
theorem Kh(ha:p.φ[l]?=some a)(e:ExtBut a p.h h'):Kp p ⟨p.φ,h'⟩:=⟨λζ ζ e=>e,λb o z x hn=>⟨⟨o,e b o (λe'=>hn (e'▸ie ha)) x,.refl⟩,hn⟩⟩
theorem SR.set(R:SR p H)(ha:p.φ[l]?=some a)(e:ExtBut a p.h h')(hc:fW ⟨p.φ,h'⟩ a c):SR ⟨p.φ,h'⟩ (H.set l c):=
 R.Kg ha (Kh ha e) (λb o x=>e b o (λe'=>bK (R.fresh b (e'▸ie ha)) x) (R.keep b o x)) (λb o ζ hn x=>e b o hn x) hc
end
end Mine
namespace Mine
open PySem PySem.Calls
def tf(k:Option NameKind):Prop:=E5 k=true
def oF(env:Env)(a:Addr):Prop:=a=env.locals\/∃x,env.cells.lookup x=some a
structure Fc(env:Env):Prop where
 fn:env.scope.kind=.function
 glob:env.globals=mainGlobals
 blt:env.builtins=builtinsNs
 gen:env.scope.isGenerator=false/\env.scope.isCoroutine=false/\interactive env=false
 apart:∀x y c,env.cells.lookup x=some c->env.cells.lookup y=some c->x=y
 ne:∀q,q∈env.cells->q.2≠env.locals
structure FR(env:Env)(ns:List Str)(ρ:bv)(p:Ws):Prop where
 fc:Fc env
 len:ρ.length=ns.length
 loc:∃m,p.h.Ns env.locals m/\∀x,x∈ns->env.kindOf x=some .local->kU p (lk ns ρ x) (m x)
 vR:∀x,x∈ns->tf (env.kindOf x)->∃c v,env.cells.lookup x=some c/\p.h.IsCell c v/\kU p (lk ns ρ x) v
 ap:∀a,oF env a->Ap p a
 live:∀a,oF env a->∃o,p.h.get? a=some o
section
variable{env:Env}{ns:List Str}{ρ:bv}{own io:Addr->Prop}{p q:Ws}{h h':Heap}
theorem mem_lookup{α:Type}{x:Str}{c:α}:∀{l:List (Str×α)},l.lookup x=some c->(x,c)∈l
 |(y,d)::r,h=>by
  rw[nZ] at h
  cases e:x==y with
  |true=>rw[e] at h;rw[eq_of_beq e,dH h];exact .head _
  |false=>rw[e] at h;exact .tail _ (mem_lookup h)
theorem yl{x:Str}{c:Addr}(h:env.cells.lookup x=some c):oF env c:=.inr ⟨x,h⟩
theorem Rd{a:Addr}{m:Str->Option Value}(hn:h.Ns a m)(e:∀o,h.get? a=some o->h'.get? a=some o):h'.Ns a m:=
 hn.imp λo h=>h.imp λes h=>h.imp λep h=>⟨e o h.1,h.2⟩
theorem Fd{a:Addr}{v:Option Value}(hn:h.IsCell a v)(e:∀o,h.get? a=some o->h'.get? a=some o):h'.IsCell a v:=hn.imp λo h=>⟨e o h.1,h.2⟩
theorem Ki{a:Addr}{m:Str->Option Value}(hn:h.Ns a m)(e:∀o,h.get? a=some o->∃o',h'.get? a=some o'/\kR o o'):h'.Ns a m:=
 hn.elim λo x=>x.elim λes x=>x.elim λep x=>(e o x.1).elim λo' y=>⟨o',es,ep,y.1,(y.2.data (Fa (Cs x.2.1))).1.trans x.2.1,x.2.2⟩
theorem Rf{a:Addr}{v:Option Value}(hn:h.IsCell a v)(e:∀o,h.get? a=some o->∃o',h'.get? a=some o'/\kR o o'):h'.IsCell a v:=hn.elim λo x=>(e o x.1).elim λo' y=>⟨o',y.1,(y.2.data (by unfold il;rw[x.2])).1.trans x.2⟩
theorem FR.kp(F:FR env ns ρ p)(K:Kp p q)(hk:∀a,oF env a->(∀o,p.h.get? a=some o->∃o',q.h.get? a=some o'/\kR o o')/\a∉q.φ):FR env ns ρ q:=
 ⟨F.fc,F.len,F.loc.imp λm h=>⟨Ki h.1 (hk _ (.inl rfl)).1,λx hx hl=>(h.2 x hx hl).kp K⟩,λx hx hc=>(F.vR x hx hc).imp λc h=>h.imp λv h=>⟨h.1,Rf h.2.1 (hk c (yl h.1)).1,h.2.2.kp K⟩,
  λa ha=>⟨(hk a ha).2,(F.ap a ha).2⟩,λa ha=>(F.live a ha).elim λo e=>((hk a ha).1 o e).imp λζ x=>x.1⟩
theorem FR.mono(F:FR env ns ρ p)(S:ca own p q)(hn:∀a,oF env a->¬own a):FR env ns ρ q:=
 F.kp S.kp λa ha=>⟨λo e=>S.keep a o e (F.ap a ha).1 λho=>absurd ho (hn a ha),(F.live a ha).elim λo e=>S.rK e (F.ap a ha).1⟩
theorem FR.ch(F:FR env ns ρ ⟨p.φ,h⟩)(c:Ch io h h')(hn:∀a,oF env a->¬io a):FR env ns ρ ⟨p.φ,h'⟩:=
 F.kp c.kp λa ha=>⟨λo e=>⟨o,c a o e λho=>absurd ho (hn a ha),.refl⟩,(F.ap a ha).1⟩
end
theorem jT(i:Nat)(h:i<rH.length):rH[i]'h∈rH:=List.getElem_mem h
structure nD(A:Around)(n:Nat):Prop where
 depth:A.depth+n+110<=recursionLimit
 units:A.units+5*n+200<=cLine
 frames:∃fe outer,A.frames=some (fe::outer)/\fe.scope.isGenerator=false/\fe.scope.isCoroutine=false/\fe.builtins=builtinsNs/\fe.globals=mainGlobals
theorem nD.less{A:Around}{n m:Nat}(rm:nD A n)(h:m<=n):nD A m:=⟨by have:=rm.depth;exact aG (lU (kL h _) _) this,by have:=rm.units;exact aG (lU (kL (oi 5 h) _) _) this,rm.frames⟩
noncomputable def lJ(A:Around):List Env:=A.frames.getD []
def pO(A:Around)(p:Ws):Prop:=∀e,e∈lJ A->e.scope.kind=.function/\∃L o,e.frame=some L/\p.h.get? L=some o/\fT o=true/\Ap p L
theorem pO.l7{A:Around}{own:Addr->Prop}{p q:Ws}(F:pO A p)(S:ca own p q):pO A q:=λe he=>
 ⟨(F e he).1,(F e he).2.imp λL x=>x.elim λo x=>(S.alive L o x.2.1).imp λo' y=>⟨x.1,y.1,y.2 x.2.2.2.1 x.2.2.1,S.rK x.2.1 x.2.2.2.1,x.2.2.2.2⟩⟩
noncomputable abbrev upd(s:Shared)(h:Heap)(tk:Nat):Shared:={s with heap:=h,toks:=tk}
structure Pt where
 A:Around
 φ:List Addr
 H:Hp
 s:Shared
 Ex:Value->Shared->Prop
 rm:nD A 0
 R:SR ⟨φ,s.heap⟩ H
 fr:pO A ⟨φ,s.heap⟩
noncomputable abbrev Pt.w(P:Pt):Ws:=⟨P.φ,P.s.heap⟩
theorem Pt.u1(P:Pt):P.A.units+1<cLine:=by have:=P.rm.units;lia
structure Nx(P:Pt)(H:Hp)where
 φ:List Addr
 h:Heap
 tk:Nat
 R:SR ⟨φ,h⟩ H
 S:ca je P.w ⟨φ,h⟩
section
variable{P:Pt}{H H':Hp}
noncomputable abbrev Nx.w(N:Nx P H):Ws:=⟨N.φ,N.h⟩
noncomputable abbrev Nx.s(N:Nx P H):Shared:=(upd P.s N.h N.tk)
noncomputable abbrev Nx.pt(N:Nx P H):Pt:=⟨P.A,N.φ,H,N.s,P.Ex,P.rm,N.R,P.fr.l7 N.S⟩
noncomputable abbrev Nx.then(N:Nx P H)(N':Nx N.pt H'):Nx P H':=⟨N'.φ,N'.h,N'.tk,N'.R,N.S.trans N'.S⟩
noncomputable abbrev Pt.gY(P:Pt)(tk:Nat):Nx P P.H:=⟨P.φ,P.s.heap,tk,P.R,.refl⟩
noncomputable abbrev Pt.ext(P:Pt){h':Heap}(e:aC P.s.heap h')(tk:Nat):Nx P P.H:=⟨P.φ,h',tk,P.R.ext (p:=P.w) e,ca.ext (q:=P.w) .refl e⟩
noncomputable abbrev Pt.set(P:Pt){l:Nat}{a:Addr}{c:aI}{h':Heap}(ha:P.φ[l]?=some a)(e:ExtBut a P.s.heap h')(hc:fW ⟨P.φ,h'⟩ a c)(tk:Nat):Nx P (P.H.set l c):=
 ⟨P.φ,h',tk,SR.set (p:=P.w) P.R ha e hc,hc.ob.elim λζ ho=>ca.cell (q:=P.w) .refl (ie ha) e ho⟩
theorem Pt.vS(P:Pt){l:Nat}{a:Addr}{h':Heap}(ha:P.φ[l]?=some a)(e:ExtBut a P.s.heap h'):Kp P.w ⟨P.φ,h'⟩:=Kh (p:=P.w) ha e
end
theorem ym{α:Type}{A:Around}{m:Sem α}{Q:α->Shared->Prop}{E:Value->Shared->Prop}{s:Shared}(h:wpAny X.M A m Q NE s):wpAny X.M A m Q E s:=ig h (λζ ζ q=>q) λζ ζ h=>h.elim
def Kn(P:Pt)(post:PQ)(Q:Value->Shared->Prop):Prop:=∀v H,post v H->∀(N:Nx P H) x,bx N.w v x->Q x N.s
def Fe(P:Pt)(m:Nat)(post:List V->Hp->Prop)(Q:List Value->Shared->Prop):Prop:=∀v H,post v H->v.length=m->∀(N:Nx P H) x,bF N.w v x->Q x N.s
def Ar(P:Pt)(post:PQ)(Q:Bool->Shared->Prop):Prop:=∀v H,post v H->aO (truthy H v) λb=>∀(N:Nx P H),Q b N.s
theorem aO.i{α:Type}{o:Option α}{f:α->Prop}{a:α}(e:o=some a)(h:f a):aO o f:=by rw[e];exact h
theorem aO.m{α:Type}{o:Option α}{f g:α->Prop}(h:aO o f)(k:∀a,f a->g a):aO o g:=by
 cases o
 ·exact h
 ·exact k _ h
theorem aO.at{α:Type}{o:Option α}{f:α->Prop}{a:α}(e:o=some a)(h:aO o f):f a:=by rw[e] at h;exact h
def Cw(P:Pt)(post:Bool->Hp->Prop)(Q:Bool->Shared->Prop):Prop:=∀v H,post v H->∀(N:Nx P H),Q v N.s
section
variable{P:Pt}{H:Hp}{Q:Value->Shared->Prop}
theorem Kn.nx{post:PQ}(k:Kn P post Q)(N:Nx P H):Kn N.pt post Q:=λv H' p N' x r=>k v H' p (N.then N') x r
theorem Ar.nx{post:PQ}{Q:Bool->Shared->Prop}(k:Ar P post Q)(N:Nx P H):Ar N.pt post Q:=λv H' p=>(k v H' p).m λb h N'=>h (N.then N')
theorem Cw.nx{post:Bool->Hp->Prop}{Q:Bool->Shared->Prop}(k:Cw P post Q)(N:Nx P H):Cw N.pt post Q:=λv H' p N'=>k v H' p (N.then N')
theorem Kn.now{post:PQ}{v:V}{x:Value}(k:Kn P post Q)(p:post v P.H)(r:bx P.w v x)(tk:Nat):Q x (upd P.s P.s.heap tk):=k v P.H p (P.gY tk) x r
theorem Kn.list{post:PQ}{vs:List V}{xs:List Value}{h':Heap}{c:Nat}(k:Kn P post Q)(e:aC P.s.heap h')(D:Addr)(hD:P.s.heap.get? D=none)(hg:h'.get? D=some (jb xs c))(r:bF P.w vs xs)(hz:vs.length<=16000000)(p:oC vs P.H post)(tk:Nat):Q (.ref D) (upd P.s h' tk):=
 have K:=(ca.ext (own:=je) (p:=P.w) (q:=P.w) .refl e)
 have fr:=P.R.new (a:=D) hD
 have qG:Ap ⟨P.φ,h'⟩ D:=fr
 k _ _ p ⟨P.φ++[D],h',tk,SR.adopt (p:=⟨P.φ,h'⟩) (c:=.list vs) (P.R.ext (p:=P.w) e) qG (λo x=>by rw[hg] at x;cases x;exact oE rfl rfl) (.list hg (r.mono K) hz),K.adopt hD⟩ _
  (.ref (by rw[<-P.R.len,pv (bX _),qi];rfl))
end
def Kj(a b:Option NameKind):Prop:=a=b\/(tf a/\tf b)
def Kinds(sc:Scope)(env:Env):Prop:=∀x,Kj (sc.names.lookup x) (env.kindOf x)
structure Lv where
 n:Nat
 m:Nat
 f:Sn
 x:PQ
noncomputable abbrev Lv.c(σ:Lv):Ct:=⟨aH σ.m,σ.x⟩
noncomputable abbrev Lv.ex(σ:Lv)(x:PQ):Lv:=⟨σ.n,σ.m,σ.f,x⟩
noncomputable abbrev Lv.no(σ:Lv):Lv:=σ.ex λζ ζ=>False
def uE(own:Addr->Prop)(w:Ws)(s:Shared)(x:PQ)(Ex:Value->Shared->Prop):Prop:=∀v H,x v H->∀(φ:List Addr) (h:Heap) (tk:Nat),SR ⟨φ,h⟩ H->ca own w ⟨φ,h⟩->∀y,bx ⟨φ,h⟩ v y->Ex y (upd s h tk)
structure Fp(σ:Lv)extends Pt where
 env:Env
 ρ:bv
 own:Addr->Prop
 kd:Kinds σ.f.sc env
 F:FR env σ.f.ns ρ ⟨φ,s.heap⟩
 rn:nD A σ.n
 hf:∃fe,(lJ A).head?=some fe/\fe.frame=env.frame
 calm:σ.f.hd=false->A.handled=none
 kx:uE own ⟨φ,s.heap⟩ s σ.x Ex
noncomputable abbrev Fp.to{σ:Lv}(P:Fp σ){H:Hp}(N:Nx P.toPt H):Fp σ:=⟨N.pt,P.env,P.ρ,P.own,P.kd,P.F.mono N.S λζ ζ h=>h,P.rn,P.hf,P.calm,λv H' p φ h tk R S y r=>P.kx v H' p φ h tk R (N.S.nil.trans S) y r⟩
noncomputable abbrev Fp.ex{σ:Lv}(P:Fp σ)(x:PQ)(Ex:Value->Shared->Prop)(kx:uE P.own P.w P.s x Ex):Fp (σ.ex x):=⟨⟨P.A,P.φ,P.H,P.s,Ex,P.rm,P.R,P.fr⟩,P.env,P.ρ,P.own,P.kd,P.F,P.rn,P.hf,P.calm,kx⟩
noncomputable abbrev Fp.no{σ:Lv}(P:Fp σ):Fp σ.no:=P.ex _ NE λζ ζ h=>h.elim
theorem Fp.kn{σ:Lv}(P:Fp σ):Kn P.toPt σ.x P.Ex:=λv H p N y r=>P.kx v H p N.φ N.h N.tk N.R N.S.nil y r
def cy(σ:Lv)(c:E)(e:Expr):Prop:=
 ∀(P:Fp σ) (post:PQ) (Q:Value->Shared->Prop),WE σ.c c P.ρ P.H post->Kn P.toPt post Q->wpAny X.M P.A (eval e P.env) Q P.Ex P.s
def vT(σ:Lv)(c:E)(e:Expr):Prop:=
 ∀(P:Fp σ) (post:PQ) (Q:Bool->Shared->Prop),WE σ.c c P.ρ P.H post->Ar P.toPt post Q->wpAny X.M P.A (isTrue e P.env (eval e P.env)) Q P.Ex P.s
def yn(m:Nat):Prop:=
 ∀(P:Pt) (f:Nat) (q:Bool×Str) (a:Addr) (vs:List V) (xs:List Value) (post x:PQ) (Q:Value->Shared->Prop),nD P.A (2*m)->(xT.contains f=false->P.A.handled=none) ->
  gK.pE[f]?=some q->(if q.1 then X.mN q.2 else X.mg q.2)=some (.ref a)->bF P.w vs xs->aH m f vs P.H post x->Kn P post Q->Kn P x P.Ex->wpAny X.M P.A (call (.ref a) xs) Q P.Ex P.s
end Mine
namespace Mine
open PySem PySem.Calls PyProof.Rows
section
variable{α:Type}{G:Prop}{H:Hp}{x:V}{vs:List V}
theorem aO.k{o:Option α}{f:α->Prop}(h:aO o f)(k:∀a,o=some a->f a->G):G:=by
 cases o
 ·exact h.elim
 ·exact k _ rfl h
theorem gn.k{t:Bool}{A:Prop}(h:gn t A)(k:t=true->A->G):G:=by
 cases t
 ·exact h.elim
 ·exact k rfl h
theorem gH.k{f:Int->Prop}(h:gH x f)(P:V->Prop)(k:∀i,f i->P (.int i)):P x:=
 V.casesOn (motive_1:=λx=>gH x f->P x) x (λh=>h.elim) (λζ h=>h.elim) (λi h=>k i h) (λζ h=>h.elim) (λζ h=>h.elim) (λζ h=>h.elim) (λh=>h.elim) h
theorem w1.k{f:V->Prop}(h:w1 vs f)(P:List V->Prop)(k:∀x,f x->P [x]):P vs:=by
 rcases vs with _|⟨a,_|⟨b,l⟩⟩<;>first|exact k _ h|exact h.elim
theorem w2.k{f:V->V->Prop}(h:w2 vs f)(P:List V->Prop)(k:∀x y,f x y->P [x,y]):P vs:=by
 rcases vs with _|⟨a,_|⟨b,_|⟨c,l⟩⟩⟩<;>first|exact k _ _ h|exact h.elim
theorem jf{β:Type}{o:Option α}{f:α->Option β}{b:β}(h:o.bind f=some b)(k:∀a,o=some a->f a=some b->G):G:=by
 cases o
 ·cases h
 ·exact k _ rfl h
theorem iE{β:Type}{o:Option α}{f:α->β}(P:β->Prop){b:β}(h:o.map f=some b)(k:∀a,o=some a->P (f a)):P b:=by
 cases o
 ·cases h
 ·exact dH h▸k _ rfl
theorem vU{c:Prop}[Decidable c]{a b:α}(h:(if c then some a else none)=some b)(P:α->Prop)(k:c->P a):P b:=by
 by_cases hc:c
 ·rw[bQ hc] at h;exact dH h▸k hc
 ·rw[bH hc] at h;cases h
theorem Kk{c:Prop}[Decidable c]{a b:α}(h:(if c then none else some a)=some b)(P:α->Prop)(k:¬c->P a):P b:=by
 by_cases hc:c
 ·rw[bQ hc] at h;cases h
 ·rw[bH hc] at h;exact dH h▸k hc
theorem cellAt.k{β:Type}{f:aI->Option β}{b:β}(h:cellAt f H x=some b)(P:V->Prop)(k:∀l c,H[l]?=some c->f c=some b->P (.ref l)):P x:=
 V.casesOn (motive_1:=λx=>cellAt f H x=some b->P x) x (λh=>bK rfl h) (λζ h=>bK rfl h) (λζ h=>bK rfl h) (λζ h=>bK rfl h) (λζ h=>bK rfl h) (λl h=>jf h λc e h=>k l c e h) (λh=>bK rfl h) h
theorem uu.k{c:aI}(P:aI->Prop)(h:uu c=some vs)(k:P (.list vs)):P c:=
 c.casesOn (motive:=λc=>uu c=some vs->P c) (λζ h=>dH h▸k) (λζ ζ h=>bK rfl h) (λζ ζ h=>bK rfl h) (λζ h=>bK rfl h) (λζ h=>bK rfl h) (λζ h=>bK rfl h) (λζ h=>bK rfl h) (λh=>bK rfl h) h
theorem jQ.k{c:aI}{es:List (Int×V)}(P:aI->Prop)(h:jQ c=some es)(k:∀ep,P (.dict ep es)):P c:=
 c.casesOn (motive:=λc=>jQ c=some es->P c) (λζ h=>bK rfl h) (λep ζ h=>dH h▸k ep) (λζ ζ h=>bK rfl h) (λζ h=>bK rfl h) (λζ h=>bK rfl h) (λζ h=>bK rfl h) (λζ h=>bK rfl h) (λh=>bK rfl h) h
theorem nA.k{c:aI}{es:List ((Int×Bool)×V)}(P:aI->Prop)(h:nA c=some es)(k:∀ep,P (.dY ep es)):P c:=
 c.casesOn (motive:=λc=>nA c=some es->P c) (λζ h=>bK rfl h) (λζ ζ h=>bK rfl h) (λep ζ h=>dH h▸k ep) (λζ h=>bK rfl h) (λζ h=>bK rfl h) (λζ h=>bK rfl h) (λζ h=>bK rfl h) (λh=>bK rfl h) h
theorem pJ.k{c:aI}{j:Nat}(P:aI->Prop)(h:pJ c=some j)(k:P (.exc j)):P c:=
 c.casesOn (motive:=λc=>pJ c=some j->P c) (λζ h=>bK rfl h) (λζ ζ h=>bK rfl h) (λζ ζ h=>bK rfl h) (λζ h=>dH h▸k) (λζ h=>bK rfl h) (λζ h=>bK rfl h) (λζ h=>bK rfl h) (λh=>bK rfl h) h
theorem uv.k{c:aI}{j:Nat}(P:aI->Prop)(h:uv c=some j)(k:P (.obj j)):P c:=
 c.casesOn (motive:=λc=>uv c=some j->P c) (λζ h=>bK rfl h) (λζ ζ h=>bK rfl h) (λζ ζ h=>bK rfl h) (λζ h=>bK rfl h) (λζ h=>dH h▸k) (λζ h=>bK rfl h) (λζ h=>bK rfl h) (λh=>bK rfl h) h
theorem uw.k{c:aI}{fs:bv}(P:aI->Prop)(h:uw c=some fs)(k:P (.cC fs)):P c:=
 c.casesOn (motive:=λc=>uw c=some fs->P c) (λζ h=>bK rfl h) (λζ ζ h=>bK rfl h) (λζ ζ h=>bK rfl h) (λζ h=>bK rfl h) (λζ h=>bK rfl h) (λζ h=>dH h▸k) (λζ h=>bK rfl h) (λh=>bK rfl h) h
theorem yg.k{c:aI}(P:aI->Prop)(h:yg c=some vs)(k:P (.gO vs)):P c:=
 c.casesOn (motive:=λc=>yg c=some vs->P c) (λζ h=>bK rfl h) (λζ ζ h=>bK rfl h) (λζ ζ h=>bK rfl h) (λζ h=>bK rfl h) (λζ h=>bK rfl h) (λζ h=>bK rfl h) (λζ h=>dH h▸k) (λh=>bK rfl h) h
theorem boolOf.k{b:Bool}(h:boolOf x=some b)(P:V->Prop)(k:P (.bool b)):P x:=
 V.casesOn (motive_1:=λx=>boolOf x=some b->P x) x (λh=>bK rfl h) (λζ h=>dH h▸k) (λζ h=>bK rfl h) (λζ h=>bK rfl h) (λζ h=>bK rfl h) (λζ h=>bK rfl h) (λh=>bK rfl h) h
theorem uy.k(h:uy x=some vs)(P:V->Prop)(k:P (.aF vs)):P x:=
 V.casesOn (motive_1:=λx=>uy x=some vs->P x) x (λh=>bK rfl h) (λζ h=>bK rfl h) (λζ h=>bK rfl h) (λζ h=>bK rfl h) (λζ h=>dH h▸k) (λζ h=>bK rfl h) (λh=>bK rfl h) h
theorem two.k{α β:Type}{l:List α}{f:α->α->Option β}{b:β}(h:two l f=some b)(P:List α->Prop)(k:∀a c,f a c=some b->P [a,c]):P l:=
 match l,h with
 |[],h=>bK rfl h
 |[_],h=>bK rfl h
 |[a,c],h=>k a c h
 |_::_::_::_,h=>bK rfl h
theorem pairOf.k{q:Int×Bool}(h:pairOf x=some q)(P:V->Prop)(k:P (oB q)):P x:=
 jf h λvs e h=>uy.k e P (two.k h (λvs=>P (.aF vs)) λa b h=>jf h λi e h=>intOf.k e (λa=>P (.aF [a,b])) (iE (λq=>P (oB q)->P (.aF [.int i,b])) h (λc e k=>boolOf.k e (λb=>P (.aF [.int i,b])) k) k))
end
section
variable{P:Pt}{v u:V}{x y:Value}{vs:List V}{l:Nat}
theorem Pt.cell{c:aI}(r:bx P.w (.ref l) x)(e:P.H[l]?=some c)(T:Value->Prop)(k:∀a,P.φ[l]?=some a->fW P.w a c->T (.ref a)):T x:=
 r.inv T λa ha=>P.R.at e λb hb h=>by rw[ha] at hb;cases hb;exact k a ha h
theorem Pt.list(r:bx P.w (.ref l) x)(e:P.H[l]?=some (.list vs))(T:Value->Prop)(k:∀a xs n,P.φ[l]?=some a->P.s.heap.get? a=some (jb xs n)->bF P.w vs xs->vs.length<=16000000->T (.ref a)):T x:=
 P.cell r e T λa ha h=>h.inv _ λxs n h1 h2 h3=>k a xs n ha h1 h2 h3
theorem aP(r:bx P.w v x)(e:dJ P.H v=some vs)(T:Value->Prop)(k:∀l a xs n,v=.ref l->P.H[l]?=some (.list vs)->P.φ[l]?=some a->P.s.heap.get? a=some (jb xs n)->bF P.w vs xs->vs.length<=16000000->T (.ref a)):T x:=
 cellAt.k e (λu=>v=u->T x) (λl c hl hc=>uu.k (λc=>P.H[l]?=some c->v=.ref l->T x) hc (λhl ev=> P.list (ev▸r) hl T λa xs n h1 h2 h3 h4=>k l a xs n ev hl h1 h2 h3 h4) hl) rfl
theorem As{h:Heap}{a:Addr}{xs:List Value}{n:Nat}(e:h.get? a=some (lY xs n)):IsTup h a xs.toArray:=⟨_,e,rfl,n,rfl⟩
theorem lK{h:Heap}{a:Addr}{xs:List Value}{n:Nat}(e:h.get? a=some (jb xs n)):h.IsList a xs.toArray:=⟨_,e,rfl,n,rfl⟩
theorem small{xs:List Value}{p:Ws}(r:bF p vs xs)(hz:vs.length<=16000000):(xs.toArray.size:Int)<2^63:=by
 rw[lE,<-r.length];exact lt_of_le_of_lt (pn.mpr hz) (by decide)
theorem Ff{p:Ws}{xs:List Value}{is:List Int}(h:IntsAre xs is):bF p (is.map .int) xs:=h.rec (motive:=λxs is ζ=>bF p (is.map .int) xs) .nil λζ ζ ζ ζ ζ ih=>.cons (.int _ _) ih
theorem Gl.mC(G:Good X)(P:Pt){T:Prop}(k:∀xs:List Value,P.s.heap.IsList X.mC xs.toArray->bF P.w (X.is.map .int) xs->X.is.length<=1000->T):T:=
 G.i9.elim λxs h=>k xs (h.1.imp λo h=>⟨P.R.keep _ _ h.1,h.2⟩) (Ff h.2) (aG G.short (by decide))
theorem items(G:Good X)(r:bx P.w v x)(e:mD P.H v=some vs)(T:Value->Prop)
  (kt:v=.aF vs->∀a xs n,P.s.heap.get? a=some (lY xs n)->bF P.w vs xs->vs.length<=16000000->a∉P.φ->T (.ref a)) (kl:∀a xs,P.s.heap.IsList a xs.toArray->bF P.w vs xs->vs.length<=16000000->T (.ref a)):T x:=by
 cases v with
 |aF us=>cases e;exact r.inv T λa n xs h1 h2 h3 h4=>kt rfl a xs n h1 h2 h3 h4
 |ref l=>exact aP r e T λζ a xs n ζ ζ ζ h1 h2 h3=>kl a xs (lK h1) h2 h3
 |i9=>cases e;exact r.inv T (Gl.mC G P λxs h1 h2 h3=>kl _ xs h1 h2 (by rw[bJ];exact aG h3 (by decide)))
 |_=>cases e
theorem empty_eq{p:Ws}{xs:List Value}(r:bF p vs xs):xs.toArray.isEmpty=vs.isEmpty:=bF.ind (M:=λvs xs=>xs.toArray.isEmpty=vs.isEmpty) rfl (λζ ζ ζ=>rfl) r
theorem Fg{b:Bool}{Q:Bool->Shared->Prop}(r:bx P.w v x)(e:truthy P.H v=some b)(k:∀tk,Q b (upd P.s P.s.heap tk)):wpAny X.M P.A (PySem.truthy x) Q P.Ex P.s:=by
 cases v with
 |none=>cases e;exact r.inv (λx=>wpAny X.M P.A (PySem.truthy x) Q P.Ex P.s) (truthy_none (k _))
 |bool b'=>cases e;exact r.inv (λx=>wpAny X.M P.A (PySem.truthy x) Q P.Ex P.s) (ue (k _))
 |int i=>cases e;exact r.inv (λx=>wpAny X.M P.A (PySem.truthy x) Q P.Ex P.s) λt=>truthy_int (k _)
 |aF vs=>cases e;exact r.inv (λx=>wpAny X.M P.A (PySem.truthy x) Q P.Ex P.s) λa n xs h1 h2 h3 ζ=>truthy_tuple (As h1) (small h2 h3) (empty_eq h2▸k _)
 |ref l=>exact iE (λb=>(∀tk,Q b (upd P.s P.s.heap tk))->wpAny X.M P.A (PySem.truthy x) Q P.Ex P.s) e (λvs e k=>aP r e (λx=>wpAny X.M P.A (PySem.truthy x) Q P.Ex P.s) λζ a xs n ζ ζ ζ h1 h2 h3=>wpAny_truthy_list (lK h1) (small h2 h3) (empty_eq h2▸k _)) k
 |_=>cases e
theorem Rg(G:Good X)(P:Pt):PylongRoom X.M P.A P.s:=
 P.rm.frames.elim λfe h=>h.elim λouter h=>PylongRoom.of (G.nolimit.keeps P.R.keep) (by have:=P.rm.depth;refine(?_:P.A.depth+100<_);lia) (SeerAt.of (G.seer.keeps P.R.keep) G.tree h.1 h.2.1 h.2.2.1 h.2.2.2.1 h.2.2.2.2)
theorem Rh{op:qm}{a b i:Int}{t t':Tok}{Q:Value->Shared->Prop}(G:Good X)(P:Pt)(e:binI op a b=some i)(k:∀tk t,Q (.int i t) (upd P.s P.s.heap tk)):wpAny X.M P.A (binaryOp (ur op) (.int a t) (.int b t')) Q P.Ex P.s:=by
 cases op with
 |add=>cases e;exact add_int (k _ _)
 |sub=>cases e;exact sub_int (k _ _)
 |mul=>exact vU e (λi=>(∀tk t,Q (.int i t) (upd P.s P.s.heap tk))->_) (λhm k=>mul_int (k _ _) λhc=>by unfold yf at hm;rw[hc] at hm;cases hm) k
 |fdiv=>exact Kk e (λi=>(∀tk t,Q (.int i t) (upd P.s P.s.heap tk))->_) (λhb k=>floordiv_int hb (k _ _) (.inr (Rg G P))) k
 |mod=>exact Kk e (λi=>(∀tk t,Q (.int i t) (upd P.s P.s.heap tk))->_) (λhb k=>mod_int' hb (k _ _)) k
 |pow=>exact vU e (λi=>(∀tk t,Q (.int i t) (upd P.s P.s.heap tk))->_) (λh k=>by
   obtain⟨rfl,h1,h2⟩:=h
   exact pow_int h1 (by rw[show Builtin.Int.intBits 10=4 by decide];lia) (k _ _)) k
theorem mul_list{a:Addr}{xs:List Value}{n:Nat}{t:Tok}{A:Around}{Ex Q:Value->Shared->Prop}{s:Shared}{M:Model}(prog:Program)(w:World)(eM:M=model prog w)(ha:s.heap.get? a=some (jb xs n))(hz:xs.length<=1000)(k:Q (.ref s.heap.objs.size) {s with heap:=s.heap.push (jb (xs++xs) 0)}):wpAny M A (binaryOp .Mult (.ref a) (.int 2 t)) Q Ex s:=by
 subst eM
 have e:List.foldl (λx1 x2=>x1++x2) #[] (replicate (if xs.toArray.isEmpty=true then 0 else(2:Int).toNat) xs.toArray)=(xs++xs).toArray:=by
  cases xs with
  |nil=>rfl
  |cons x r=>rw[bH (by exact gM)];exact(b7 (·++_) (Array.empty_append)).trans (List.append_toArray _ _)
 refine wpAny_binaryOp_repeat_ref (T:="list") (U:="int") (by decide) ⟨_,ha,rfl⟩ (λs'=>typeIs_int s' 2 t) noFill_list_mul PySem.F.fills_int_mul PySem.F.slot_int_rmul repeat_list PySem.F.slot_int_index.lookup
  (call_meets PySem.F.slot_int_rmul (typeIs_int s 2 t) PySem.F.entry_int_rmul (PySem.F.args_int_rmul_2 _ _) (int___rmul___int_list 2 t a xs.toArray n)
   ⟨ha,rfl,⟨_,ha,rfl⟩,call_meets PySem.F.slot_list_mul ⟨_,ha,rfl⟩ PySem.F.entry_list_mul (PySem.F.args_list_mul_2 _ _) (AutoListH.list___mul___list_int_3 a xs.toArray n 2 t (by decide) ?_ ?_) ⟨ha,?_⟩⟩)
 ·rw[lE];show ¬(xs.length*2>(2^63 - 1)/8);lia
 ·unfold Builtin.List.listTooLong
  rw[lE]
  exact λh=>absurd (cu h) (by show ¬(xs.length*2>16777216);lia)
 ·rw[e];exact k
theorem Ri{op:qm}{post:PQ}{Q:Value->Shared->Prop}(G:Good X)(P:Pt)(r1:bx P.w v x)(r2:bx P.w u y)(p:uC op v u P.H post)(k:Kn P post Q):wpAny X.M P.A (binaryOp (ur op) x y) Q P.Ex P.s:=by
 have key:(aO (dJ P.H v) λxs=>Ka op xs u P.H post)->wpAny X.M P.A (binaryOp (ur op) x y) Q P.Ex P.s:=λp=>aO.k p λxs e1 p=>aP r1 e1 (λx=>wpAny X.M P.A (binaryOp (ur op) x y) Q P.Ex P.s) λζ a xa ka ζ ζ ζ q1 q2 q3=>by
  cases op with
  |add=>
   refine aO.k p λys e2 p=>gn.k p λhz p=>aP r2 e2 (λy=>wpAny X.M P.A (binaryOp .Add _ y) Q P.Ex P.s) λζ b xb kb ζ ζ ζ t1 t2 t3=>?_
   have hl:(xs++ys).length<16000000:=cu hz
   refine PySem.P.add_list (items:=xa.toArray) (items2:=xb.toArray) q1 t1 ?_ (by rw[size_toArray,size_toArray,<-q2.length,<-t2.length,<-length_append];unfold sizeLine;exact le_trans (Nat.le_of_lt hl) (by decide))
   rw[List.append_toArray]
   exact k.list (.push _) _ (jq _ (bX _)) (jo _ rfl) (q2.append t2) (cW hl) p _
  |mul=>
   exact gH.k p (λu=>bx P.w u y->_) (λn p r2=>by
    obtain⟨⟨rfl,hz⟩,p⟩:=p
    exact r2.inv (λy=>wpAny X.M P.A (binaryOp .Mult _ y) Q P.Ex P.s) λt=>mul_list X.prog X.w rfl q1 (by rw[<-q2.length];exact hz) (k.list (.push _) _ (jq _ (bX _)) (jo _ rfl) (q2.append q2) (by rw[b6];lia) p _)) r2
  |_=>exact p.elim
 cases v with
 |int a=>exact gH.k p (λu=>bx P.w u y->_) (λb p r2=>aO.k p λi e p=>r1.inv (λx=>wpAny X.M P.A (binaryOp (ur op) x y) Q P.Ex P.s) λt=>r2.inv (λy=>wpAny X.M P.A (binaryOp (ur op) _ y) Q P.Ex P.s) λt'=>Rh G P e λtk t=>k.now p (.int _ _) tk) r2
 |_=>exact key p
end
inductive rL(h:Heap)(m:Nat)(d:PyData)(x:Value):Prop
 |mk (as:List Addr) (r:Reads h x d as) (c:d.canLay0=true) (l:d.depth<=m):rL h m d x
inductive Fh(h:Heap)(m:Nat)(ds:List PyData)(xs:List Value):Prop
 |mk (as:List Addr) (r:ReadsAll h xs ds as) (c:PyData.canLayAll0 ds=true) (l:PyData.depthAll ds<=m):Fh h m ds xs
theorem Rj(d:PyData)(ds:List PyData):PyData.canLayAll0 (d::ds)=(d.canLay0&&PyData.canLayAll0 ds):=rfl
theorem Rk(d:PyData)(ds:List PyData):PyData.depthAll (d::ds)=max d.depth (PyData.depthAll ds):=rfl
section
variable{P:Pt}{v u:V}{x y:Value}{vs:List V}{l m:Nat}
theorem Cy{h:Heap}{p:Ws}{f:V->Option PyData}(hf:∀v d x,f v=some d->bx p v x->rL h m d x){xs:List Value}(r:bF p vs xs):∀ds,gp f vs=some ds->Fh h m ds xs:=
 bF.ind (M:=λvs xs=>∀ds,gp f vs=some ds->Fh h m ds xs) (λds e=>dH e▸⟨_,.nil,rfl,iD _⟩) (λ{v x vs xs} r1 _ ih ds e=>by
  unfold gp at e
  cases e1:f v with
  |none=>rw[e1] at e;cases e
  |some d=>
   cases e2:gp f vs with
   |none=>rw[e1,e2] at e;cases e
   |some nE=>
    rw[e1,e2] at e
    cases e
    exact(hf v d x e1 r1).casesOn λas q1 q2 q3=>(ih nE e2).casesOn λbs t1 t2 t3=>⟨_,.cons q1 t1,by rw[Rj,q2,t2];rfl,by rw[Rk];exact Nat.max_le.mpr ⟨q3,t3⟩⟩) r
theorem Kl{d:PyData}(e:Cm v=some d)(r:bx P.w v x):rL P.s.heap m d x:=
 V.casesOn (motive_1:=λv=>Cm v=some d->bx P.w v x->rL P.s.heap m d x) v (λe r=>r.inv _ (dH e▸⟨_,.none,rfl,iD _⟩)) (λζ e r=>r.inv _ (dH e▸⟨_,.bool _,rfl,iD _⟩)) (λζ e r=>r.inv _ λt=>dH e▸⟨_,.int _ _,rfl,iD _⟩)
  (λζ e r=>r.inv _ λt=>vU e (λd=>rL P.s.heap m d (.str _ t)) λhs=>⟨_,.str _ _,hs,iD _⟩) (λζ e=>bK rfl e) (λζ e=>bK rfl e) (λe=>bK rfl e) e r
theorem Au(P:Pt)(m:Nat):∀(v:V) (d:PyData) (x:Value),rd P.H m v=some d->bx P.w v x->rL P.s.heap m d x:=by
 induction m with
 |zero=>exact λv d x e r=>Kl e r
 |succ m ih=>
  intro v d x e r
  cases v with
  |aF vs=>exact iE (λd=>rL P.s.heap (m+1) d x) e λds e1=>r.inv (λx=>rL P.s.heap (m+1) (.tuple ds) x) λa n xs h1 h2 ζ ζ=>(Cy ih h2 ds e1).casesOn λas q1 q2 q3=>⟨_,reads_tuple_at h1 rfl rfl q1,q2,jG q3⟩
  |ref l=>exact jf e λvs e0 e=>iE (λd=>rL P.s.heap (m+1) d x) e λds e1=>aP r e0 (λx=>rL P.s.heap (m+1) (.list ds) x) λζ a xs n ζ ζ ζ h1 h2 ζ=>(Cy ih h2 ds e1).casesOn λas q1 q2 q3=>⟨_,reads_list_at h1 rfl rfl q1,q2,jG q3⟩
  |i9=>cases e
  |_=>exact Kl e r
theorem Cz{d:PyData}(h1:d.canLay0=true)(h2:d.depth<=10):SeqAt.shaped d=true:=by
 unfold SeqAt.shaped;rw[h1,Bool.true_and];exact decide_eq_true (by lia)
theorem Fi(P:Pt):P.A.units+64<cLine:=by have:=P.rm.units;lia
theorem Rl{x y:Value}{Q:Value->Shared->Prop}(h:wpAny X.M P.A (compareOp .In x y) (λr s'=>∃b,r=.bool b/\Q (.bool (!b)) s') P.Ex P.s):wpAny X.M P.A (compareOp .NotIn x y) Q P.Ex P.s:=by
 intro Γ p Rm
 have:=h Γ p Rm
 change Sem.wp _ _ (contains y x >>= λb=>pure (Value.bool b)) _ _ _ _ at this
 refine(?_:Sem.wp _ _ (contains y x >>= λb=>pure (Value.bool (!b))) _ _ _ _)
 rw[Sem.wp_bind'] at this ⊢
 refine Sem.wp_mono _ _ _ (λb p' s' h'=>?_) (λζ ζ ζ h'=>h') _ _ this
 rw[Sem.wp_pure'] at h' ⊢
 exact h'.elim λb' h'=>by cases h'.1;exact h'.2
theorem th(r:bx P.w v x){es:List (Int×V)}(G:Good X)(e:j6 P.H v=some es)(T:Value->Prop)(k:∀l ep a kvs,v=.ref l->P.H[l]?=some (.dict ep es)->P.φ[l]?=some a->P.s.heap.DictOf kS a kvs->L2 (pM P.w) es kvs->(a==sysModules)=false->es.length<=16000000->T (.ref a)):T x:=
 cellAt.k e (λu=>v=u->T x) (λl c hl hc=>jQ.k (λc=>P.H[l]?=some c->v=.ref l->T x) hc (λep hl ev=>P.cell (ev▸r) hl T λa ha h=>h.inv _ λo en kvs x0 x1 x2 x3 x4 x5 r z n=>k l ep a kvs ev hl ha ⟨o,en,ep,x0,x1,x2,x3,x4,x5⟩ r z n) hl) rfl
theorem qp(r:bx P.w v x){es:List ((Int×Bool)×V)}(G:Good X)(e:ux P.H v=some es)(T:Value->Prop)(k:∀l ep a kvs,v=.ref l->P.H[l]?=some (.dY ep es)->P.φ[l]?=some a->P.s.heap.DictOfH pN a kvs->L2 (qF P.w) es kvs->(a==sysModules)=false->es.length<=16000000->T (.ref a)):T x:=
 cellAt.k e (λu=>v=u->T x) (λl c hl hc=>nA.k (λc=>P.H[l]?=some c->v=.ref l->T x) hc (λep hl ev=>P.cell (ev▸r) hl T λa ha h=>h.inv _ λo en kvs x0 x1 x2 x3 x4 r z n=>k l ep a kvs ev hl ha (by
  refine⟨o,en,ep,x0,x1,x2,x3,?_,x4⟩
  clear x3 x4 n
  exact r.rec (motive:=λζ kvs ζ=>∀q:List Int×Addr×Value,q∈kvs->pN.is P.s.heap q.1 q.2.1) (λq hq=>nomatch hq) λ{a b _ _} m _ ih q hq=>(gB.mp hq).elim (λe=>by subst e;rw[m.1];exact Ao m.2.1) (ih q)) r z n) hl) rfl
theorem Fj{es:List (Int×V)}{kvs:List (Int×Value)}{p:Ws}(h:L2 (pM p) es kvs)(k:Int):(fO es k=none/\valueAt kvs k=none)\/∃v x,fO es k=some v/\valueAt kvs k=some x/\bx p v x:=
 (h.find (f:=λq=>decide (q.1=k)) (g:=λq=>decide (q.1=k)) λa b m=>by rw[m.1]).imp (λh=>⟨b7 _ h.1,b7 _ h.2⟩) λh=>h.elim λa h=>h.elim λb h=>⟨a.2,b.2,b7 _ h.1,b7 _ h.2.1,h.2.2.2⟩
theorem Fk{es:List ((Int×Bool)×V)}{kvs:List (List Int×Addr×Value)}{p:Ws}(h:L2 (qF p) es kvs)(k:Int×Bool):(fO es k=none/\atKey kvs (pK k)=none)\/∃v a x,fO es k=some v/\atKey kvs (pK k)=some (a,x)/\bx p v x:=
 (h.find (f:=λq=>decide (q.1=k)) (g:=λq=>decide (q.1=pK k)) λa b m=>by rw[m.1];exact xC.mpr ⟨λe=>e▸rfl,Kf⟩).imp (λh=>⟨b7 _ h.1,b7 _ h.2⟩) λh=>h.elim λa h=>h.elim λb h=>⟨a.2,b.2.1,b.2.2,b7 _ h.1,b7 _ h.2.1,h.2.2.2.2⟩
theorem Fl{K:Type}[DecidableEq K](es:List (K×V))(k:K):fy es k=(fO es k).isSome:=by
 unfold fy fO
 rw[Option.isSome_map,List.isSome_find?]
end
section
variable{A:Around}{E:Value->Shared->Prop}{s:Shared}{a b:Addr}{oa ob:Obj}{es nF:Array DictEntry}{ep fF:Nat}
theorem Km(b:Bool):(b==true)=b:=by cases b<;>rfl
theorem Ko(b:Bool):(b==false)=!b:=by cases b<;>rfl
theorem Kq{nm:String}{Q:Bool->Shared->Prop}(ha:(a==sysModules)=false)(hb:(b==sysModules)=false)(tj:s.heap.get? a=some oa)(Av:oa.data=.dict es ep)(CA:s.heap.get? b=some ob)(CB:ob.data=.dict nF fF)
  (h0:es.size=0\/nF.size=0) (h:Q (es.size==nF.size) s):wpAny X.M A (Builtin.Dict.samePairs nm a b) Q E s:=by
 unfold Builtin.Dict.samePairs Builtin.Dict.showsAll
 rw[bH (show ¬(a==sysModules)=true by rw[ha];exact gM),bH (show ¬(b==sysModules)=true by rw[hb];exact gM)]
 refine bj (bU (bj (bU (bj (BZ tj Av ?_)))))
 dsimp only
 refine bj (BZ CA CB ?_)
 by_cases mH:es.size=nF.size
 ·rw[bH (by rw[mH,bne_self_eq_false];exact gM)]
  have hz:es.size=0:=h0.elim id λh=>mH.trans h
  rw[<-mH,hX] at h
  refine bj (wpAny_dictEpoch tj Av ?_)
  rw[hz,Std.Legacy.Range.forIn_eq_forIn_range']
  exact bj (bU (bU h))
 ·rw[bQ (bne_iff_ne.mpr mH)]
  rw[rC.mpr mH] at h
  exact bj (wpAny_rule (bU h))
theorem Rn{Q:Value->Shared->Prop}(ta:s.TypeIs (.ref a) "dict")(tb:s.TypeIs (.ref b) "dict")(ha:(a==sysModules)=false)(hb:(b==sysModules)=false)(tj:s.heap.get? a=some oa)(Av:oa.data=.dict es ep)(CA:s.heap.get? b=some ob)(CB:ob.data=.dict nF fF)
  (h0:es.size=0\/nF.size=0) (hu:A.units<cLine) :
  (Q (.bool (es.size==nF.size)) s->wpAny X.M A (compareOp .Eq (.ref a) (.ref b)) Q E s)/\(Q (.bool (!(es.size==nF.size))) s->wpAny X.M A (compareOp .NotEq (.ref a) (.ref b)) Q E s):=by
 refine⟨λh=>EG (op:=.Eq) ta tb PySem.F.slot_dict_eq (uc PySem.F.slot_dict_eq ta PySem.F.entry_dict_eq ?_ (PySem.F.args_dict_eq_2 _ _)) hu,λh=>EG (op:=.NotEq) ta tb PySem.F.slot_dict_ne (uc PySem.F.slot_dict_ne ta PySem.F.entry_dict_ne ?_ (PySem.F.args_dict_ne_2 _ _)) hu⟩
 ·refine(?_:wpAny _ _ (Builtin.Dict.dictSlotArgs "__eq__" ⟨[.ref a,.ref b],[]⟩ >>= _) _ _ s)
  refine bj (bj (wpAny_notOrdered_dict ta (bU (bj (zH (T:="dict") tb PySem.F.sub_dict_dict ((?_:wpAny _ _ (Builtin.Dict.addrOf (.ref a) >>= _) _ _ s)))))))
  exact bj (bU (bj (bU (bj (Kq ha hb tj Av CA CB h0 (bU ⟨_,rfl,nofun,by rw[Km];exact h⟩))))))
 ·refine(?_:wpAny _ _ (Builtin.Dict.dictSlotArgs "__ne__" ⟨[.ref a,.ref b],[]⟩ >>= _) _ _ s)
  refine bj (bj (wpAny_notOrdered_dict ta (bU (bj (zH (T:="dict") tb PySem.F.sub_dict_dict ((?_:wpAny _ _ (Builtin.Dict.addrOf (.ref a) >>= _) _ _ s)))))))
  exact bj (bU (bj (bU (bj (Kq ha hb tj Av CA CB h0 (bU ⟨_,rfl,nofun,by rw[Ko];exact h⟩))))))
open AutoSeq1 (wpAny_loadPart') in
open MeetsSeq MeetsSeq3 in
theorem Ro(l b:Addr)(ns ms:List Int)(ts us:Nat->Tok)(n n2:Nat)(items items2:Array Value)(h1:∀j:Nat,items[j]?=ns[j]?.map λi=>.int i (ts j))(h2:∀j:Nat,items2[j]?=ms[j]?.map λi=>.int i (us j))(k:Nat):
  ∀i:Nat,ns.length - i=k->Meets (Builtin.«list.__eq__.loop» ⟨[.ref l,.ref b,rawInt i,rawInt 0],[]⟩)
   (λA R s=>s.heap.get? l=some {cls:=.type "list",dict:=none,data:=.seq items n,slots:=#[]}/\s.heap.get? b=some {cls:=.type "list",dict:=none,data:=.seq items2 n2,slots:=#[]}/\i<=ns.length/\i<=ms.length/\items.size=ns.length/\items2.size=ms.length /\
    R (.ok (.ret (.bool (oA (ns.drop i) (ms.drop i))))) s):=by
 induction k with
 |zero=>
  intro i hk X.prog X.w A R s h
  obtain⟨hp,g,d,tk,os⟩:=s;obtain⟨hl,hb,kW,Rp,mI,rM,h⟩:=h
  wp_walk using px hl,px hb
  have CC:items[((i:Nat):Int).toNat]?=none:=by rw[xD,h1,sO (Nat.sub_eq_zero_iff_le.mp hk)];rfl
  rw[CC]
  wp_walk using px hl,px hb
  refine(?_:R (.ok (.ret (.bool (decide (items.size<items2.size))))) _)
  have hd:ns.drop i=[]:=xE.mpr (Nat.sub_eq_zero_iff_le.mp hk)
  rw[hd] at h
  have e:oA [] (ms.drop i)=decide (items.size<items2.size):=by
   cases hm:ms.drop i with
   |nil=>exact(gE (by have:=xE.mp hm;exact(by rw[mI,rM];exact fv.mpr (aG this kW)))).symm
   |cons x r=>exact(dj (by have:=b7 List.length hm;rw[length_drop,lF] at this;exact(by rw[mI,rM];exact cG (Nat.sub_eq_zero_iff_le.mp hk) (Nat.sub_pos_iff_lt.mp (by rw[this];exact succ_pos _))))).symm
  rw[<-e];exact h
 |succ k ih=>
  intro i hk X.prog X.w A R s h
  obtain⟨hp,g,d,tk,os⟩:=s;obtain⟨hl,hb,kW,Rp,mI,rM,h⟩:=h
  wp_walk using px hl,px hb
  have ey:i<ns.length:=Nat.sub_pos_iff_lt.mp (by rw[hk];exact succ_pos _)
  have CC:items[((i:Nat):Int).toNat]?=some (.int ns[i] (ts i)):=by rw[xD,h1,iB ey];rfl
  have Rq:ns.drop i=ns[i]::ns.drop (i+1):=List.drop_eq_getElem_cons ey
  rw[CC]
  rcases lt_or_ge i ms.length with Fm|yo
  ·have CD:items2[((i:Nat):Int).toNat]?=some (.int ms[i] (us i)):=by rw[xD,h2,iB Fm];rfl
   have Rr:ms.drop i=ms[i]::ms.drop (i+1):=List.drop_eq_getElem_cons Fm
   have hc:((i:Int)+1)=((i+1:Nat):Int):=by push_cast;rfl
   rw[Rq,Rr] at h
   rw[CD]
   refine bj (SeqAt.EqAt.int_int _ _ _ _ X.prog X.w _ _ ?_)
   by_cases e:ns[i]=ms[i]
   ·rw[beq_iff_eq.mpr e]
    wp_walk
    rw[hc]
    have e':oA (ns[i]::ns.drop (i+1)) (ms[i]::ms.drop (i+1))=oA (ns.drop (i+1)) (ms.drop (i+1)):=bQ e
    rw[e'] at h
    exact⟨uf plain_eq_loop _,xF entry_eq_loop (by
     rw[zI plain_eq_loop _]
     exact ih (i+1) (by rw[Nat.sub_succ,hk];rfl) X.prog X.w A R _ ⟨hl,hb,ey,Fm,mI,rM,h⟩)⟩
   ·rw[rC.mpr e]
    wp_walk using px hl,px hb
    rw[CC,CD]
    have e':oA (ns[i]::ns.drop (i+1)) (ms[i]::ms.drop (i+1))=decide (ns[i]<ms[i]):=bH e
    rw[e'] at h
    exact bj (PyProof.Rows.lt_int (bU h))
  ·have CD:items2[((i:Nat):Int).toNat]?=none:=by rw[xD,h2,sO yo];rfl
   rw[CD]
   wp_walk using px hl,px hb
   refine(?_:R (.ok (.ret (.bool (decide (items.size<items2.size))))) _)
   have hd:ms.drop i=[]:=xE.mpr yo
   rw[hd] at h
   have e:oA (ns.drop i) []=decide (items.size<items2.size):=by
    rw[gE (by rw[mI,rM];exact fv.mpr (aG yo (cW ey)))]
    cases ns.drop i<;>rfl
   rw[<-e];exact h
open AutoSeq1 (wpAny_loadPart') in
open MeetsSeq MeetsSeq3 in
theorem lt_meets(l b:Addr)(ns ms:List Int)(ts us:Nat->Tok)(n n2:Nat)(items items2:Array Value)(h1:∀j:Nat,items[j]?=ns[j]?.map λi=>.int i (ts j))(h2:∀j:Nat,items2[j]?=ms[j]?.map λi=>.int i (us j))(z1:items.size=ns.length)(z2:items2.size=ms.length):
  Meets (Builtin.«list.__lt__» ⟨[.ref l,.ref b],[]⟩) (λA R s=>s.heap.get? l=some {cls:=.type "list",dict:=none,data:=.seq items n,slots:=#[]}/\s.heap.get? b=some {cls:=.type "list",dict:=none,data:=.seq items2 n2,slots:=#[]}/\R (.ok (.ret (.bool (oA ns ms)))) s):=by
 intro X.prog X.w A R s h
 obtain⟨hp,g,d,tk,os⟩:=s;obtain⟨hl,hb,h⟩:=h
 have f3:=AutoSeq1.sub_list_list
 wp_walk using px hl,px hb
 exact⟨uf plain_eq_loop _,xF entry_eq_loop (by
  rw[zI plain_eq_loop _]
  exact Ro l b ns ms ts us n n2 items items2 h1 h2 _ 0 rfl X.prog X.w A R _ ⟨hl,hb,iD _,iD _,z1,z2,h⟩)⟩
end
section
variable{P:Pt}{v u:V}{x y:Value}{vs:List V}{l m:Nat}{Q:Value->Shared->Prop}{b:Bool}
theorem CE{p:Ws}{xs:List Value}(r:bF p vs xs):∀is,allInts vs=some is->is.length=xs.length/\∃ts:Nat->Tok,∀j:Nat,xs.toArray[j]?=is[j]?.map λi=>.int i (ts j):=
 bF.ind (M:=λvs xs=>∀is,allInts vs=some is->is.length=xs.length/\∃ts:Nat->Tok,∀j:Nat,xs.toArray[j]?=is[j]?.map λi=>.int i (ts j)) (λis e=>dH e▸⟨rfl,λζ=>0,λj=>rfl⟩) (λ{v x vs xs} r1 _ ih is e=>jf e λi ei e=>iE (λis=>is.length=(x::xs).length/\∃ts:Nat->Tok,∀j:Nat,(x::xs).toArray[j]?=is[j]?.map λi=>.int i (ts j)) e λjs ej=>
  intOf.k ei (λv=>bx p v x->_) (λr1=>r1.inv (λx=>(i::js).length=(x::xs).length/\∃ts:Nat->Tok,∀j:Nat,(x::xs).toArray[j]?=(i::js)[j]?.map λi=>.int i (ts j)) λt=>have h:=ih js ej;⟨b7 (·+1) h.1,h.2.elim λts h=>⟨λj=>match j with|0=>t|j+1=>ts j,λj=>match j with
   |0=>rfl
   |j+1=>by rw[xG,List.getElem?_cons_succ,List.getElem?_cons_succ,<-h j,xG]⟩⟩) r1) r
theorem Rt{a c:Addr}{xs ys:List Value}{us:List V}{ka kc:Nat}{is js:List Int}(h1:P.s.heap.get? a=some (jb xs ka))(h2:P.s.heap.get? c=some (jb ys kc))(r1:bF P.w vs xs)(r2:bF P.w us ys)(e1:allInts vs=some is)(e2:allInts us=some js)(k:Q (.bool (oA is js)) P.s):wpAny X.M P.A (compareOp .Lt (.ref a) (.ref c)) Q P.Ex P.s:=
 have q1:=CE r1 is e1
 have q2:=CE r2 js e2
 q1.2.elim λts Fo=>q2.2.elim λRu Rv=>EG (op:=.Lt) (lK h1).typeIs (lK h2).typeIs PySem.F.slot_list_lt
  (call_meets PySem.F.slot_list_lt (lK h1).typeIs PySem.F.entry_list_lt (PySem.F.args_list_lt_2 _ _) (lt_meets a c is js ts Ru ka kc _ _ Fo Rv q1.1.symm q2.1.symm) ⟨h1,h2,nofun,k⟩) (by have:=P.rm.units;exact pz P.u1)
theorem mF.k(r:bx P.w v x)(e:mF P.H v=some b)(T:Value->Prop)(k:∀a o en ep,P.s.heap.get? a=some o->o.cls=.type "dict"->o.data=.dict en ep->b=decide (en.size=0)->(a==sysModules)=false->T (.ref a)):T x:=by
 have sz:∀{α β:Type} {as:List α} {bs:List β} {M:α->β->Prop} {en:Array DictEntry},L2 M as bs->en.toList.length=bs.length->as.isEmpty=decide (en.size=0):=λ{α β as bs M en} h e=>by
  rw[<-xI,e,<-h.length]
  cases as<;>rfl
 unfold mF at e
 cases ed:j6 P.H v with
 |some es=>
  rw[ed] at e
  exact cellAt.k ed (λu=>v=u->T x) (λl c hl hc=>jQ.k (λc=>P.H[l]?=some c->v=.ref l->T x) hc (λep hl ev=>P.cell (ev▸r) hl T λa ha h=>h.inv _ λo en kvs x0 x1 x2 x3 x4 x5 r z n=>k a o en ep x0 x1.1 x2 (dH e▸sz r x4.length) z) hl) rfl
 |none=>
  rw[ed] at e
  exact iE (λb=>(∀a o en ep,P.s.heap.get? a=some o->o.cls=.type "dict"->o.data=.dict en ep->b=decide (en.size=0)->(a==sysModules)=false->T (.ref a))->T x) e (λes ed k=>cellAt.k ed (λu=>v=u->T x) (λl c hl hc=>nA.k (λc=>P.H[l]?=some c->v=.ref l->T x) hc (λep hl ev=>P.cell (ev▸r) hl T λa ha h=>h.inv _ λo en kvs x0 x1 x2 x3 x4 r z n=>k a o en ep x0 x1.1 x2 (sz r (by rw[x3,bJ])) z) hl) rfl) k
theorem Kr(r1:bx P.w v x)(r2:bx P.w u y)(e:kQ P.H v u=some b):(Q (.bool b) P.s->wpAny X.M P.A (compareOp .Eq x y) Q P.Ex P.s)/\(Q (.bool (!b)) P.s->wpAny X.M P.A (compareOp .NotEq x y) Q P.Ex P.s):=by
 unfold kQ at e
 cases eN:mF P.H v with
 |some c=>
  rw[eN] at e
  refine jf e λd ed e=>vU e (λb=>(Q (.bool b) P.s->wpAny X.M P.A (compareOp .Eq x y) Q P.Ex P.s)/\(Q (.bool (!b)) P.s->wpAny X.M P.A (compareOp .NotEq x y) Q P.Ex P.s)) λyq=>mF.k r1 eN (λx=>(Q (.bool (c&&d)) P.s->wpAny X.M P.A (compareOp .Eq x y) Q P.Ex P.s)/\(Q (.bool (!(c&&d))) P.s->wpAny X.M P.A (compareOp .NotEq x y) Q P.Ex P.s)) λa o en ep a1 a2 a3 a4 a5=>mF.k r2 ed (λy=>(Q (.bool (c&&d)) P.s->wpAny X.M P.A (compareOp .Eq _ y) Q P.Ex P.s)/\(Q (.bool (!(c&&d))) P.s->wpAny X.M P.A (compareOp .NotEq _ y) Q P.Ex P.s)) λa' o' CF fF b1 b2 b3 b4 b5=>?_
  subst a4 b4
  have h0:en.size=0\/CF.size=0:=(rD.mp yq).imp cu cu
  have hb:(decide (en.size=0)&&decide (CF.size=0))=(en.size==CF.size):=by
   rcases h0 with h|h<;>rw[h]<;>cases en.size<;>cases CF.size<;>rfl
  rw[hb]
  exact Rn ⟨o,a1,a2⟩ ⟨o',b1,b2⟩ a5 b5 a1 a3 b1 b3 h0 (by have:=P.rm.units;exact pz P.u1)
 |none=>
  rw[eN] at e
  exact jf e λd e1 e=>iE (λb=>(Q (.bool b) P.s->wpAny X.M P.A (compareOp .Eq x y) Q P.Ex P.s)/\(Q (.bool (!b)) P.s->wpAny X.M P.A (compareOp .NotEq x y) Q P.Ex P.s)) e λd' e2=>(Au P 10 v d x e1 r1).casesOn λas q1 q2 q3=>(Au P 10 u d' y e2 r2).casesOn λbs p1 p2 p3=>⟨eq_dataH q1 p1 (Cz q2 q3) (Cz p2 p3) (Fi P),ne_dataH q1 p1 (Cz q2 q3) (Cz p2 p3) (Fi P)⟩
theorem Ks(G:Good X)(r1:bx P.w v x)(r2:bx P.w u y)(e:vM P.H v u=some b)(k:∀tk,Q (.bool b) (upd P.s P.s.heap tk)):wpAny X.M P.A (compareOp .In x y) Q P.Ex P.s:=by
 unfold vM at e
 cases ed:j6 P.H u with
 |some es=>
  rw[ed] at e
  exact iE (λb=>(∀tk,Q (.bool b) (upd P.s P.s.heap tk))->_) e (λi ei k=>intOf.k ei (λv=>bx P.w v x->_) (λr1=>r1.inv (λx=>wpAny X.M P.A (compareOp .In x y) Q P.Ex P.s) λt=>th r2 G ed (λy=>wpAny X.M P.A (compareOp .In _ y) Q P.Ex P.s) λζ ζ a kvs ζ ζ ζ h2 h3 h1 h4=>
   wpAny_in_of (knd:=kS) (k:=i) (hX i) h1 h2.mapOf (by
    have h:=Fl es i
    rcases Fj h3 i with⟨w1,w2⟩|⟨_,_,w1,w2,_⟩<;>rw[w1] at h<;>rw[w2]<;>exact h▸k _)) r1) k
 |none=>
  rw[ed] at e
  cases ep:ux P.H u with
  |some es=>
   rw[ep] at e
   exact iE (λb=>(∀tk,Q (.bool b) (upd P.s P.s.heap tk))->_) e (λi ei k=>pairOf.k ei (λv=>bx P.w v x->_) (λr1=>qp r2 G ep (λy=>wpAny X.M P.A (compareOp .In _ y) Q P.Ex P.s) λζ ζ a kvs ζ ζ ζ h2 h3 h1 h4=>r1.inv (λx=>bx P.w (oB i) x->wpAny X.M P.A (compareOp .In x _) Q P.Ex P.s) (λc n xs ζ ζ ζ ζ r1=>
    wpAny_in_heap (knd:=pN) (k:=pK i) (by refine(?_:P.A.units+1<cLine);have:=P.rm.units;exact P.u1) (Ao r1) h1 h2 (by
     have h:=Fl es i
     rcases Fk h3 i with⟨w1,w2⟩|⟨_,_,_,w1,w2,_⟩<;>rw[w1] at h<;>rw[w2]<;>exact h▸k _)) r1) r1) k
  |none=>
   rw[ep] at e
   refine jf e λvs ev e=>jf e λds eds e=>iE (λb=>(∀tk,Q (.bool b) (upd P.s P.s.heap tk))->_) e (λd e2 k=>(Au P 10 v d x e2 r1).casesOn λbs p1 p2 p3=>?_) k
   have hu:∀{m:Nat},P.A.units+1+min m d.depth<cLine:=by have:=Fi P;exact λ{_}=>cG (kL (aG (min_le_right _ _) p3) _) (cG (kL (show 11<=64 by decide) _) this)
   exact items G r2 ev (λy=>wpAny X.M P.A (compareOp .In x y) Q P.Ex P.s) (λζ a xs n h1 h2 ζ ζ=>(Cy (Au P 10) h2 ds eds).casesOn λas q1 q2 q3=>SeqAt.in_tuple_reads (reads_tuple_at h1 rfl rfl q1) p1 q2 p2 hu (k _)) λa xs h1 h2 ζ=>(Cy (Au P 10) h2 ds eds).casesOn λas q1 q2 q3=>h1.elim λo h1=>h1.2.2.elim λn hd=>SeqAt.in_list_reads (reads_list_at h1.1 h1.2.1 hd q1) p1 q2 p2 hu (k _)
theorem uz.k{f:Int->Int->Bool}(e:uz v u f=some b)(r1:bx P.w v x)(r2:bx P.w u y)(T:Value->Value->Bool->Prop)(k:∀i j t t',T (.int i t) (.int j t') (f i j)):T x y b:=
 jf e λi ei e=>iE (λb=>T x y b) e λj ej=>intOf.k ei (λv=>bx P.w v x->_) (λr1=>intOf.k ej (λu=>bx P.w u y->_) (λr2=>r1.inv (λx=>T x y _) λt=>r2.inv (λy=>T _ y _) λt'=>k i j t t') r2) r1
theorem yr{op:pD}(G:Good X)(r1:bx P.w v x)(r2:bx P.w u y)(e:gP op v u P.H=some b)(k:∀tk,Q (.bool b) (upd P.s P.s.heap tk)):wpAny X.M P.A (compareOp (vF op) x y) Q P.Ex P.s:=by
 cases op with
 |eq=>exact(Kr r1 r2 e).1 (k _)
 |ne=>exact iE (λb=>(∀tk,Q (.bool b) (upd P.s P.s.heap tk))->_) e (λc e k=>(Kr r1 r2 e).2 (k _)) k
 |ot=>exact Ks G r1 r2 e k
 |jP=>exact iE (λb=>(∀tk,Q (.bool b) (upd P.s P.s.heap tk))->_) e (λc e k=>Rl (Ks G r1 r2 e λtk=>⟨_,rfl,k tk⟩)) k
 |le=>exact uz.k e r1 r2 (λx y b=>(∀tk,Q (.bool b) (upd P.s P.s.heap tk))->wpAny X.M P.A (compareOp .LtE x y) Q P.Ex P.s) (λζ ζ ζ ζ k=>le_int (k _)) k
 |gt=>exact uz.k e r1 r2 (λx y b=>(∀tk,Q (.bool b) (upd P.s P.s.heap tk))->wpAny X.M P.A (compareOp .Gt x y) Q P.Ex P.s) (λζ ζ ζ ζ k=>gt_int (k _)) k
 |ge=>exact uz.k e r1 r2 (λx y b=>(∀tk,Q (.bool b) (upd P.s P.s.heap tk))->wpAny X.M P.A (compareOp .GtE x y) Q P.Ex P.s) (λζ ζ ζ ζ k=>ge_int (k _)) k
 |lt=>
  change E8 v u P.H=some b at e
  unfold E8 at e
  split at e
  ·cases e;exact r1.inv (λx=>wpAny X.M P.A (compareOp .Lt x y) Q P.Ex P.s) λt=>r2.inv (λy=>wpAny X.M P.A (compareOp .Lt _ y) Q P.Ex P.s) λt'=>lt_int (k _)
  ·exact jf e λis e1 e=>iE (λb=>(∀tk,Q (.bool b) (upd P.s P.s.heap tk))->_) e (λjs e2 k=>jf e1 λvs e3 e1=>jf e2 λus e4 e2=>aP r1 e3 (λx=>wpAny X.M P.A (compareOp .Lt x y) Q P.Ex P.s) λζ a xs n ζ ζ ζ h1 h2 ζ=>aP r2 e4 (λy=>wpAny X.M P.A (compareOp .Lt _ y) Q P.Ex P.s) λζ c ys n' ζ ζ ζ q1 q2 ζ=>Rt h1 q1 h2 q2 e1 e2 (k _)) k
  ·cases e
end
section
variable{σ:Lv}{P:Fp σ}{Q:Value->Shared->Prop}{x:Str}{pos:Pos}
theorem Rw{k:Option NameKind}(h:tf k){G:Prop}(kc:k=some .cell->G)(kf:k=some .free->G):G:=by
 cases k with
 |none=>cases h
 |some k=>cases k<;>first|cases h;done|exact kc rfl|exact kf rfl
theorem pF.k{ns:List Str}{i:Nat}{G:Prop}(h:pF ns i x=true)(k:ns.idxOf x=i->x∈ns->G):G:=aW h λh1 h2=>by
 have h1:=cu h1
 exact k h1 (List.idxOf_lt_length_iff.mp (h1▸cu h2))
theorem Rx{i:Nat}(h:JZ σ.f i x=true):cy σ (.J i) (.Name x pos):=λP post Q p k=>
 aW h λh1 h=>aW h λh2 h=>aW h λh3 h4=>pF.k h1 λhi hx=>aO.k p λv hv p=>by
  rw[<-hi] at hv
  refine wpAny_Name ?_ (oj _▸h3)
  have key:P.env.kindOf x=some .local\/tf (P.env.kindOf x):=by
   rcases P.kd x with e|⟨_,e⟩
   ·rw[<-e]
    revert h2
    cases σ.f.sc.names.lookup x with
    |none=>exact λh=>Bool.noConfusion h
    |some k=>cases k<;>first|exact λh=>Bool.noConfusion h|exact λζ=>.inl rfl|exact λζ=>.inr rfl
   ·exact .inr e
  rcases key with hk|hk
  ·exact P.F.loc.elim λm h=>(h.2 x hx hk).inv hv (λy=>m x=y->_) (λy r e=>wpAny_loadName_local P.F.fc.fn hk h.1 e (k.now p r _)) rfl
  ·exact(P.F.vR x hx hk).elim λc h=>h.elim λy h=>h.2.2.inv hv (λy=>P.s.heap.IsCell c y->_) (λy r e=>Rw hk (λhk=>wpAny_loadName_cell P.F.fc.fn hk h.1 e (k.now p r _)) λhk=>wpAny_loadName_free P.F.fc.fn hk h.1 e (k.now p r _) (oj _▸h4)) h.2.1
theorem Kinds.glob{env:Env}(kd:Kinds σ.f.sc env){G:Prop}(h:qt σ.f x=true)(k:env.kindOf x=some .globalImplicit->(x==("__debug__":Str))=false->G):G:=aW h λh1 h2=>by
 have h1:=cu h1
 rcases kd x with e|⟨e,_⟩
 ·exact k (e▸h1) (oj _▸h2)
 ·rw[h1] at e;cases e
theorem yt(G:Good X)(P:Fp σ){y:Value}(e:X.mg x=some y)(h:qt σ.f x=true)(hQ:Q y P.s):wpAny X.M P.A (eval (.Name x pos) P.env) Q P.Ex P.s:=
 P.kd.glob h λk1 k2=>Name_function_global P.F.fc.fn k1 (loadGlobal_global (by rw[P.F.fc.glob];exact G.g.keeps P.R.keep) e hQ) k2
theorem uF(G:Good X)(P:Fp σ){y:Value}(e:(x,y)∈rH)(h:qt σ.f x=true)(hQ:Q y P.s):wpAny X.M P.A (eval (.Name x pos) P.env) Q P.Ex P.s:=
 P.kd.glob h λk1 k2=>have e:=G.bi _ e;Name_function_global P.F.fc.fn k1 (loadGlobal_builtin (by rw[P.F.fc.glob];exact G.g.keeps P.R.keep) e.1 (by rw[P.F.fc.blt];exact G.b.keeps P.R.keep) e.2 hQ) k2
theorem Ry{j:Nat}(G:Good X)(h1:gK.B8[j]?=some x)(h2:qt σ.f x=true):cy σ (.gk j) (.Name x pos):=λP post Q p k=>
 aO.k p λv hv p=>(G.gk j x h1).elim (λh=>h.elim λi h=>h.elim λu h=>yt G P h.2 h2 (k.now p (dH (h.1.symm.trans hv)▸bx.int i u) _)) λh=>h.elim λa h=>h.elim λis h=>h.elim λvs h=>h.elim λn h=>yt G P h.2.1 h2 (k.now p (dH (h.1.symm.trans hv)▸bx.aF (P.R.keep _ _ h.2.2.1) (Ff h.2.2.2.1) (by rw[bJ];exact aG h.2.2.2.2 (by decide)) λhm=>bK (P.R.fresh _ hm) h.2.2.1) _)
end
section
variable{P:Pt}{Q:Value->Shared->Prop}{v u:V}{x y:Value}{vs:List V}
theorem jR.k{xs:List Value}{p:Ws}{k:Int}{G:Prop}(r:bF p vs xs)(e:jR vs k=some v)
  (kk:∀j z,seqIndex? k xs.length=some j->xs[j]?=some z->bx p v z->((0<=k/\j=k.toNat)\/(k<0/\-(xs.length:Int)<=k/\j=(k+xs.length).toNat))->G):G:=by
 have hl:=r.length
 unfold jR at e
 by_cases h0:0<=k
 ·rw[bQ h0] at e
  refine r.get e λz hz rz=>kk k.toNat z ?_ hz rz (.inl ⟨h0,rfl⟩)
  have ey:=(d7.mp hz).1
  unfold seqIndex?
  rw[bH (kM.mpr h0),bQ (by rw[dj h0,dj ((toNat_lt h0).mp ey)];rfl)]
 ·rw[bH h0] at e
  have h1:k<0:=Int.not_le.mp h0
  rw[hl] at e
  by_cases h2:-(xs.length:Int)<=k
  ·rw[bQ h2] at e
   refine r.get e λz hz rz=>kk _ z ?_ hz rz (.inr ⟨h1,h2,rfl⟩)
   unfold seqIndex?
   rw[bQ h1,bQ (by rw[dj (by lia),dj (by lia)];rfl)]
  ·rw[bH h2] at e;cases e
noncomputable def Fq(e:Expr):Bool:=decide (e.ctorIdx≠26)
theorem Aw{e:Expr}(h:Fq e=true)(o i:Value):subscripted e false o i=operate [o,i] (getItem o i):=by
 cases e<;>first|rfl|cases h
theorem Rz{i:V}{value slice:Expr}(G:Good X)(P:Pt)(hs:Fq slice=true)(r1:bx P.w v x)(r2:bx P.w i y)(e:ik v i P.H=some u)(k:∀tk z,bx P.w u z->Q z (upd P.s P.s.heap tk)):wpAny X.M P.A (subscriptTail value slice x y) Q P.Ex P.s:=by
 have two:(pairOf i).bind (λq=>(ux P.H v).bind λes=>fO es q)=some u->wpAny X.M P.A (subscriptTail value slice x y) Q P.Ex P.s:=λe=>
  jf e λq eq e=>jf e λes ees e=>pairOf.k eq (λi=>bx P.w i y->_) (λr2=>r2.inv (λy=>bx P.w (oB q) y->wpAny X.M P.A (subscriptTail value slice x y) Q P.Ex P.s) (λa n xs ζ ζ ζ ζ r2=>qp r1 G ees (λx=>wpAny X.M P.A (subscriptTail value slice x _) Q P.Ex P.s) λζ ζ d kvs ζ ζ ζ h2 h3 ζ ζ=>
   tail_any h2.typeIs PySem.slot_dict_getitem.lookup (by
    rcases Fk h3 q with⟨w1,_⟩|⟨_,_,_,w1,w2,w3⟩
    ·exact bK w1 e
    ·rw[w1] at e;cases e
     exact wpAny_getItem_heap (knd:=pN) (k:=pK q) (by refine(?_:P.A.units+1<cLine);have:=P.rm.units;exact P.u1) (Ao r2) h2 w2 (k _ _ w3)) (Aw hs _ _)) r2) r2
 cases i with
 |int j=>
  refine r2.inv (λy=>wpAny X.M P.A (subscriptTail value slice x y) Q P.Ex P.s) λt=>?_
  change (match mD P.H v with|some vs=>jR vs j|none=>(j6 P.H v).bind λes=>fO es j)=some u at e
  cases hi:mD P.H v with
  |some vs=>
   rw[hi] at e
   have bd:∀{m:Nat} {l:List Value},vs.length=l.length->vs.length<=16000000->m<l.length->(0<=j/\m=j.toNat)\/(j<0/\-(l.length:Int)<=j/\m=(j+l.length).toNat)->-(2:Int)^63<=j/\j<2^63:=λe hz hm h=>h.elim (λa=>⟨Int.le_trans (by decide) a.1,lt_trans ((toNat_lt a.1).mp (show j.toNat<16000000 from a.2▸cL hm (e▸hz))) (by decide)⟩) λa=>⟨Int.le_trans (Int.le_trans (show -(2:Int)^63<=-16000000 by decide) (Int.neg_le_neg (pn.mpr (e▸hz)))) a.2.1,lt_trans a.1 (by decide)⟩
   refine items G r1 hi (λx=>wpAny X.M P.A (subscriptTail value slice x _) Q P.Ex P.s) (λζ a xs n h1 h2 h3 ζ=>jR.k h2 e λm z q1 q2 q3 q4=>?_) λa xs h1 h2 h3=>jR.k h2 e λm z q1 q2 q3 q4=>?_
   ·have b:=bd h2.length h3 (d7.mp q2).1 q4
    exact item_tupleT (As h1) b.1 b.2 q1 q2 (k _ z q3) (Aw hs _ _)
   ·have b:=bd h2.length h3 (d7.mp q2).1 q4
    refine tail_any h1.typeIs PySem.slot_list_getitem.lookup ?_ (Aw hs _ _)
    rcases q4 with⟨q4,rfl⟩|⟨q4,q5,rfl⟩
    ·exact wpAny_getItem_list h1 q4 b.2 (by rw[xG];exact q2) (k _ z q3)
    ·exact wpAny_getItem_list_neg h1 q4 q5 b.1 (by rw[xG];exact q2) (k _ z q3)
  |none=>
   rw[hi] at e
   exact jf e λes ees e=>th r1 G ees (λx=>wpAny X.M P.A (subscriptTail value slice x _) Q P.Ex P.s) λζ ζ d kvs ζ ζ ζ h2 h3 ζ ζ=>tail_any h2.typeIs PySem.slot_dict_getitem.lookup (by
    rcases Fj h3 j with⟨w1,_⟩|⟨_,_,w1,w2,w3⟩
    ·exact bK w1 e
    ·rw[w1] at e;cases e
     exact wpAny_getItem_of (knd:=kS) (k:=j) (hX j) h2.mapOf w2 (k _ _ w3)) (Aw hs _ _)
 |_=>exact two e
end
noncomputable def uG(w:Bool):BoolOp:=if w then .And else .Or
section
variable{σ:Lv}{A:Around}{env:Env}{s:Shared}{Ex:Value->Shared->Prop}
theorem RA{w:Bool}{Kt Ku:Expr}{rest:List Expr}{pos:Pos}{Q:Value->Shared->Prop}(h:wpAny X.M A (eval Kt env) (λv ci=>wpAny X.M A (PySem.truthy v) (λc fI=>cD (c==w) (wpAny X.M A (eval (.BoolOp (uG w) (Ku::rest) pos) env) Q Ex fI) (Q v fI)) Ex ci) Ex s):
  wpAny X.M A (eval (.BoolOp (uG w) (Kt::Ku::rest) pos) env) Q Ex s:=by
 cases w
 ·exact BoolOp_or (ig h (λv ci h=>ig h (λc fI h=>by cases c<;>exact h) λζ ζ h=>h) λζ ζ h=>h)
 ·exact BoolOp_and (ig h (λv ci h=>ig h (λc fI h=>by cases c<;>exact h) λζ ζ h=>h) λζ ζ h=>h)
theorem RB{w:Bool}{e:Expr}{rest:List Expr}{Q:Bool->Shared->Prop}(h:wpAny X.M A (isTrue e env (eval e env)) (λc ci=>cD (c==w) (wpAny X.M A (allTrue (uG w) rest env) Q Ex ci) (Q c ci)) Ex s):wpAny X.M A (allTrue (uG w) (e::rest) env) Q Ex s:=by
 cases w
 ·exact wpAny_allTrue_Or_cons (ig h (λc fI h=>by cases c<;>exact h) λζ ζ h=>h)
 ·exact wpAny_allTrue_And_cons (ig h (λc fI h=>by cases c<;>exact h) λζ ζ h=>h)
theorem RC{w:Bool}{Q:Bool->Shared->Prop}(h:Q w s):wpAny X.M A (allTrue (uG w) [] env) Q Ex s:=by
 cases w<;>exact bU h
structure fX(σ:Lv)(cs:List E)(es:List Expr):Prop where
 len:cs.length=es.length
 rN:∀(P:Fp σ) (post:List V->Hp->Prop) (Q:List Value->Shared->Prop) (pos:Pos),nC σ.c cs P.ρ P.H post->Fe P.toPt cs.length post Q->wpAny X.M P.A (spliced (backTo pos (starEach es P.env))) Q P.Ex P.s
 plain:∀(env:Env) (pos:Pos),(backTo pos (starEach es env)).any (·.1)=false
 get:∀(i:Nat) c e,cs[i]?=some c->es[i]?=some e->cy σ c e/\vT σ c e
 bo:∀(w:Bool) (P:Fp σ) (post:PQ) (Q:Value->Shared->Prop) (pos:Pos),yh σ.c w cs P.ρ P.H post->Kn P.toPt post Q->wpAny X.M P.A (eval (.BoolOp (uG w) es pos) P.env) Q P.Ex P.s
 CG:∀(w:Bool) (P:Fp σ) (post:PQ) (Q:Bool->Shared->Prop) ,yh σ.c w cs P.ρ P.H post->Ar P.toPt post Q->wpAny X.M P.A (allTrue (uG w) es P.env) Q P.Ex P.s
 CH:∀(P:Fp σ) (post:Bool->Hp->Prop) (Q:Bool->Shared->Prop) ,WT σ.c cs P.ρ P.H post->Cw P.toPt post Q ->
  wpAny X.M P.A (forIn es true λc r=>if r=true then do let ok <-isTrue c P.env (eval c P.env);pure (ForInStep.yield ok) else pure (ForInStep.yield r)) Q P.Ex P.s
theorem RD{es:List Expr}{Q:Bool->Shared->Prop}(h:Q false s):
  wpAny X.M A (forIn es false λc r=>if r=true then do let ok <-isTrue c env (eval c env);pure (ForInStep.yield ok) else pure (ForInStep.yield r)) Q Ex s:=by
 induction es with
 |nil=>exact bU h
 |cons e r ih=>rw[forIn_cons];exact bj (bU ih)
theorem tm{c:E}{e:Expr}(h:cH σ.f c e=true)(env:Env)(rest:List Expr):starEach (e::rest) env=(false,eval e env)::starEach rest env:=by
 cases e<;>first|rfl|skip
 exfalso
 cases c<;>exact Bool.noConfusion h
theorem fX.nil:fX σ [] [] where
 len:=rfl
 rN:=λP post Q pos p k=>xJ (k _ _ p rfl (P.gY _) _ .nil)
 plain:=λζ ζ=>rfl
 get:=λi c e h=>bK vv h
 bo:=λw P post Q pos p=>p.elim
 CG:=λw P post Q p=>p.elim
 CH:=λP post Q p k=>bU (k _ _ p (P.gY _))
theorem fX.cons{c:E}{cs:List E}{e:Expr}{es:List Expr}(h0:cH σ.f c e=true)(he:cy σ c e/\vT σ c e)(hs:fX σ cs es):fX σ (c::cs) (e::es) where
 len:=b7 (·+1) hs.len
 rN:=λP post Q pos p k=>ug (he.1 P _ _ p (λv H1 p1 N x r=>hs.rN (P.to N) _ _ pos p1 (λvs H2 p2 hl N2 xs r2=>k _ _ p2 (b7 (·+1) hl) (N.then N2) _ (.cons (r.mono N2.S) r2)))) (tm h0 P.env es)
 get:=λi c' e' h1 h2=>by
  cases i with
  |zero=>cases h1;cases h2;exact he
  |succ i=>exact hs.get i c' e' h1 h2
 plain:=λenv pos=>by
  rw[tm h0 env es]
  exact hs.plain env pos
 bo:=λw P post Q pos p k=>by
  cases cs with
  |nil=>
   cases es with
   |nil=>exact BoolOp_one (he.1 P _ _ p k)
   |cons _ _=>cases hs.len
  |cons c2 cs=>
   cases es with
   |nil=>cases hs.len
   |cons e2 es=>
    refine RA (he.1 P _ _ p (λv H1 p1 N x r=>aO.k p1 λb hb p1=>Fg (P:=N.pt) r hb λtk=>?_))
    cases hw:b==w with
    |true=>rw[hw] at p1;exact hs.bo w (P.to (N.then (N.pt.gY tk))) _ _ pos p1 (k.nx _)
    |false=>rw[hw] at p1;exact k _ _ p1 (N.then (N.pt.gY tk)) _ r
 CG:=λw P post Q p k=>by
  refine RB ?_
  cases cs with
  |nil=>
   cases es with
   |cons _ _=>cases hs.len
   |nil=>
    refine he.2 P _ _ p (λv H1 p1=>(k v H1 p1).m λb h N=>?_)
    cases hw:b==w with
    |true=>exact RC (eq_of_beq hw▸h N)
    |false=>exact h N
  |cons c2 cs=>
   refine he.2 P _ _ p (λv H1 p1=>aO.k p1 λb hb p1=>.i hb λN=>?_)
   cases hw:b==w with
   |true=>rw[hw] at p1;exact hs.CG w (P.to N) _ _ p1 (k.nx N)
   |false=>rw[hw] at p1;exact aO.at hb (k v H1 p1) N
 CH:=λP post Q p k=>by
  rw[forIn_cons]
  refine bj (bj (he.2 P _ _ p (λv H1 p1=>p1.m λb p1 N=>bU ?_)))
  cases b with
  |true=>exact hs.CH (P.to N) _ _ p1 (k.nx N)
  |false=>exact RD (k _ _ p1 N)
end
section
variable{σ:Lv}{a b c:E}{l r r':Expr}{pos:Pos}
def cb(σ:Lv)(c:E)(e:Expr):Prop:=cy σ c e/\vT σ c e
theorem cy.t{e:Expr}(ev:cy σ c e)(he:∀env,isTrue e env (eval e env)=(do let v <-eval e env;standAt e.pos;holding [v] (PySem.truthy v))):cb σ c e:=
 ⟨ev,λP post Q p k=>wpAny_isTrue_value (ev P _ _ p (λv H1 p1 N x r=>aO.k (k v H1 p1) λb hb h=>Fg (P:=N.pt) r hb λtk=>h (N.then (N.pt.gY tk)))) (he _)⟩
theorem vV(ha:cy σ a l)(hb:cy σ b r)(P:Fp σ){post:V->V->Hp->Prop}{Q:Value->Value->Shared->Prop}(p:WE σ.c a P.ρ P.H λx H=>WE σ.c b P.ρ H λy H=>post x y H)
  (k:∀v u H,post v u H->∀(N:Nx P.toPt H) x y,bx N.w v x->bx N.w u y->Q x y N.s):wpAny X.M P.A (eval l P.env) (λx ci=>wpAny X.M P.A (eval r P.env) (λy fI=>Q x y fI) P.Ex ci) P.Ex P.s:=
 ha P _ _ p (λv H1 p1 N x r1=>hb (P.to N) _ _ p1 (λu H2 p2 N2 y r2=>k v u H2 p2 (N.then N2) x y (r1.mono N2.S) r2))
theorem Fs{v:V}{c:Const}{k:Nat}(h:E3 v=some c):cy σ (.k v) (.Constant c k pos):=λP post Q p k=>
 V.casesOn (motive_1:=λv=>E3 v=some c->post v P.H->wpAny X.M P.A (eval (.Constant c _ pos) P.env) Q P.Ex P.s) v (λh p=>dH h▸wpAny_Constant_none (k.now p .none _)) (λζ h p=>dH h▸wpAny_Constant_bool (k.now p (.bool _) _)) (λζ h p=>dH h▸wpAny_Constant_int (k.now p (.int _ _) _))
  (λζ h p=>dH h▸wpAny_Constant_str (k.now p (.str _ _) _)) (λζ h=>bK rfl h) (λζ h=>bK rfl h) (λh=>bK rfl h) h p
theorem RF{op:qm}(G:Good X)(ha:cy σ a l)(hb:cy σ b r):cy σ (.bin op a b) (.BinOp l (ur op) r pos):=λP post Q p k=>
 wpAny_BinOp (vV ha hb P p (λv u H q N x y r1 r2=>Ri G N.pt r1 r2 q (k.nx N)))
theorem RG(ha:cy σ a l):cy σ (.neg a) (.UnaryOp .USub l pos):=λP post Q p k=>
 wpAny_UnaryOp (ha P _ _ p (λv H1 p1 N x r=>gH.k p1 (λv=>bx N.w v x->_) (λi p1 r=>r.inv (λx=>wpAny X.M P.A (unaryOp .USub x) Q P.Ex N.s) λt=>neg_int (k _ _ p1 (N.then (N.pt.gY _)) _ (.int _ _))) r))
theorem RH(ha:cb σ a l):cb σ (.not a) (.UnaryOp .Not l pos):=
 ⟨λP post Q p k=>wpAny_UnaryOp (ha.1 P _ _ p (λv H1 p1 N x r=>aO.k p1 λb hb p1=>not_of (Fg (P:=N.pt) r hb λtk=>k _ _ p1 (N.then (N.pt.gY tk)) _ (.bool _)))),
  λP post Q p k=>wpAny_isTrue_Not (ha.2 P _ _ p (λv H1 p1=>p1.m λb p1=>k _ _ p1))⟩
theorem Kv{w:Bool}{cs:List E}{es:List Expr}(h:fX σ cs es)(hw:∀ρ H post,WE σ.c c ρ H post->yh σ.c w cs ρ H post):cb σ c (.BoolOp (uG w) es pos):=
 ⟨λP post Q p k=>h.bo w P post Q pos (hw _ _ _ p) k,λP post Q p k=>wpAny_isTrue_BoolOp (h.CG w P post Q (hw _ _ _ p) k)⟩
theorem CI{c:E}{e:Expr}(h:cH σ.f c e=true)(o:CmpOp):behindInMarks o e=false:=by
 cases e<;>first|rfl|skip
 exfalso
 cases c<;>exact Bool.noConfusion h
theorem RI{op:pD}(G:Good X)(h0:cH σ.f b r=true)(ha:cy σ a l)(hb:cy σ b r):cb σ (.cmp op a b) (.Compare l [vF op] [r] pos):=
 ⟨λP post Q p k=>wpAny_Compare1 (vV ha hb P p (λv u H q N x y r1 r2=>aO.k q λt ht q=>yr (P:=N.pt) G r1 r2 ht λtk=>k _ _ q (N.then (N.pt.gY tk)) _ (.bool _))) (CI h0 _),
  λP post Q p k=>wpAny_isTrue_Compare1 (vV ha hb P p (λv u H q N x y r1 r2=>aO.k q λt ht q=>yr (P:=N.pt) G r1 r2 ht λtk=>ue (k _ _ q (N.then (N.pt.gY tk))))) (CI h0 _)⟩
theorem RJ{op sU:pD}(G:Good X)(h0:cH σ.f c r'=true)(ha:cy σ a l)(hb:cy σ b r)(hc:cy σ c r'):cb σ (.uo op sU a b c) (.Compare l [vF op,vF sU] [r,r'] pos):=by
 refine⟨λP post Q p k=>Compare_chain (ha P _ _ p (λv H1 p1 N x r1=>chain_link (hb (P.to N) _ _ p1 (λu H2 p2 N2 y r2=>aO.k p2 λt ht p2=>yr (P:=N2.pt) G (r1.mono N2.S) r2 ht λtk=>ue ?_)))) (CI h0 _),
  λP post Q p k=>isTrue_chain (ha P _ _ p (λv H1 p1 N x r1=>test_link (hb (P.to N) _ _ p1 (λu H2 p2 N2 y r2=>aO.k p2 λt ht p2=>yr (P:=N2.pt) G (r1.mono N2.S) r2 ht λtk=>ue ?_)))) (CI h0 _)⟩
 ·have N3:=(N.then N2).then (N2.pt.gY tk)
  cases t with
  |true=>exact chain_last (hc (P.to ((N.then N2).then (N2.pt.gY tk))) _ _ p2 (λw H4 p4 N4 z r4=>aO.k p4 λt' vW p4=>yr (P:=N4.pt) G (r2.mono N4.S) r4 vW λrO=>k _ _ p4 ((N.then N2).then ((N2.pt.gY tk).then (N4.then (N4.pt.gY rO)))) _ (.bool _)))
  |false=>exact k _ _ p2 ((N.then N2).then (N2.pt.gY tk)) _ (.bool _)
 ·cases t with
  |true=>exact test_last (hc (P.to ((N.then N2).then (N2.pt.gY tk))) _ _ p2 (λw H4 p4 N4 z r4=>aO.k p4 λt' vW p4=>yr (P:=N4.pt) G (r2.mono N4.S) r4 vW λrO=>ue (k _ _ p4 ((N.then N2).then ((N2.pt.gY tk).then (N4.then (N4.pt.gY rO)))))))
  |false=>exact k _ _ p2 ((N.then N2).then (N2.pt.gY tk))
theorem Ft{p:Ws}{v:V}{x:Value}(r:bx p v x):plainIs x .none=true/\(x==Value.none)=xQ v:=
 r.casesOn (motive_1:=λv x ζ=>plainIs x .none=true/\(x==Value.none)=xQ v) ⟨rfl,rfl⟩ (λζ=>⟨rfl,rfl⟩) (λζ ζ=>⟨rfl,rfl⟩) (λζ ζ=>⟨rfl,rfl⟩) (λζ ζ ζ ζ=>⟨rfl,rfl⟩) (λζ=>⟨rfl,rfl⟩) ⟨rfl,rfl⟩
theorem is_none{P:Pt}{w:Bool}{v:V}{x:Value}{Q:Value->Shared->Prop}(r:bx P.w v x)(h:Q (.bool (xQ v==w)) P.s):wpAny X.M P.A (compareOp (if w then .Is else .IsNot) x .none) Q P.Ex P.s:=by
 rw[<-(Ft r).2] at h
 cases w
 ·rw[Ko] at h;exact wpAny_isNot_plain (Ft r).1 h
 ·rw[Km] at h;exact wpAny_is_plain (Ft r).1 h
theorem RK{w:Bool}{k:Nat}{kp:Pos}(ha:cy σ a l):cb σ (.isNone w a) (.Compare l [if w then .Is else .IsNot] [.Constant .none k kp] pos):=
 ⟨λP post Q p k=>wpAny_Compare1 (ha P _ _ p (λv H1 p1 N x r1=>wpAny_Constant_none (is_none (P:=N.pt) r1 (k _ _ p1 N _ (.bool _))))) rfl,
  λP post Q p k=>wpAny_isTrue_Compare1 (ha P _ _ p (λv H1 p1 N x r1=>wpAny_Constant_none (is_none (P:=N.pt) r1 (ue (k _ _ p1 N))))) rfl⟩
theorem Kw{cs:List E}{vs:List V}{xs:List Value}{p:Ws}(hc:cs.length<1000)(hl:vs.length=cs.length)(r:bF p vs xs):xs.length<=sizeLine/\vs.length<=16000000:=by
 rw[<-r.length,hl];unfold sizeLine;lia
theorem RL{cs:List E}{es:List Expr}{k:Nat}(hc:cs.length<1000)(h:fX σ cs es):cy σ (.aF cs) (.Tuple es k pos):=λP post Q p k=>
 wpAny_Tuple_spliced (h.rN P _ _ pos p (λvs H1 p1 hl N xs r=>have z:=Kw hc hl r;⟨z.1,k _ _ p1 (N.then (N.pt.ext (.push _) N.tk)) _ (.aF (n:=0) (jo _ rfl) (r.mono (ca.ext (own:=je) (p:=N.w) (q:=N.w) .refl (.push _))) z.2 (N.R.new (jq _ (bX _))).1)⟩))
theorem RM{cs:List E}{es:List Expr}(hc:cs.length<1000)(h:fX σ cs es):cy σ (.aP cs) (.List es pos):=λP post Q p k=>
 wpAny_List_spliced (h.rN P _ _ pos p (λvs H1 p1 hl N xs r=>have z:=Kw hc hl r;⟨z.1,Kn.list (P:=N.pt) (k.nx N) (.push _) _ (jq _ (bX _)) (jo _ rfl) r z.2 p1 _⟩))
theorem RN{c:E}{e:Expr}(h:cH σ.f c e=true):Fq e=true:=by
 cases e<;>first|rfl|skip
 exfalso
 cases c<;>exact Bool.noConfusion h
theorem RP(G:Good X)(h0:cH σ.f b r=true)(ha:cy σ a l)(hb:cy σ b r):cy σ (.br a b) (.Subscript l r pos):=λP post Q p k=>
 Subscript_ (vV ha hb P p (λv u H q N x y r1 r2=>aO.k q λw hw q=>Rz G N.pt (RN h0) r1 r2 hw λtk z rz=>k _ _ q (N.then (N.pt.gY tk)) _ rz))
theorem tn{A:Around}{s:Shared}{f:Value}{args:List (Bool×Sem Value)}{Q:Args->Shared->Prop}{Ex:Value->Shared->Prop}(hp:args.any (·.1)=false)(h:wpAny X.M A (spliced args) (λvs s'=>Q ⟨vs,[]⟩ s') Ex s):wpAny X.M A (evalArgs f true args []) Q Ex s:=by
 cases args with
 |nil=>
  exact(bj (ig h (λvs s' h'=>bj (bU (uh (bj (bU (bj (bU (bU h')))))))) λζ ζ x=>x):wpAny X.M A (spliced [] >>= _) Q Ex s)
 |cons a r=>
  obtain⟨b,t⟩:=a
  cases b with
  |false=>exact Calls.evalArgs_plain h
  |true=>cases hp
theorem RQ{f:Nat}{x:Str}{cs:List E}{es:List Expr}{np:Pos}(G:Good X)(hc:yn σ.m)(hn:2*σ.m+1<=σ.n)(h1:gK.pE[f]?=some (false,x))(h2:qt σ.f x=true)(hh:(!σ.f.hd||xT.contains f)=true)(h:fX σ cs es):cy σ (.call f cs) (.Call (.Name x np) es [] pos):=λP post Q p k=>
 (G.fn f _ h1).casesOn λa o d pm cd doc e1 e3 e4 ζ e5 ζ=>vw (yt G P e3 h2 (Calls.callWith_function (o:=o) (tn (h.plain P.env pos) (h.rN P _ _ pos p (λvs H1 p1 ζ N xs r=>⟨⟨N.R.keep _ _ e4,e5⟩,hc N.pt f _ a vs xs post σ.x Q (P.rn.less (pA hn)) (λhg=>P.calm (by rw[hg,Bool.or_false] at hh;exact oj _▸hh)) h1 e3 r p1 (k.nx N) (P.kn.nx N)⟩)))))
end
structure Sx{σ:Lv}(P:Fp σ)(ρ:bv)(H:Hp)where
 φ:List Addr
 h:Heap
 tk:Nat
 R:SR ⟨φ,h⟩ H
 F:FR P.env σ.f.ns ρ ⟨φ,h⟩
 S:ca P.own P.w ⟨φ,h⟩
section
variable{σ:Lv}{P:Fp σ}{ρ cg:bv}{H H':Hp}
noncomputable abbrev Sx.w(N:Sx P ρ H):Ws:=⟨N.φ,N.h⟩
noncomputable abbrev Sx.s(N:Sx P ρ H):Shared:=(upd P.s N.h N.tk)
noncomputable abbrev Sx.fp(N:Sx P ρ H):Fp σ:=⟨⟨P.A,N.φ,H,N.s,P.Ex,P.rm,N.R,P.fr.l7 N.S⟩,P.env,ρ,P.own,P.kd,N.F,P.rn,P.hf,P.calm,λv H' p φ h tk R S y r=>P.kx v H' p φ h tk R (N.S.trans S) y r⟩
noncomputable abbrev Sx.then(N:Sx P ρ H)(N':Sx N.fp cg H'):Sx P cg H':=⟨N'.φ,N'.h,N'.tk,N'.R,N'.F,N.S.trans N'.S⟩
noncomputable abbrev Sx.un{x:PQ}{Ex:Value->Shared->Prop}{kx:uE P.own P.w P.s x Ex}(N:Sx (P.ex x Ex kx) ρ H):Sx P ρ H:=⟨N.φ,N.h,N.tk,N.R,N.F,N.S⟩
noncomputable abbrev Nx.sx(N:Nx P.toPt H):Sx P P.ρ H:=⟨N.φ,N.h,N.tk,N.R,P.F.mono N.S λζ ζ h=>h,N.S.nil⟩
end
def Fu(env:Env)(own:Addr->Prop)(x:Str):Prop:=(env.kindOf x=some .local/\own env.locals)\/(env.kindOf x=some .cell/\∀c,env.cells.lookup x=some c->own c)
section
variable{σ:Lv}
theorem Kx{ns:List Str}{i:Nat}{x z:Str}{v:Option V}{ρ:bv}(hx:x∈ns)(hz:z∈ns)(hi:ns.idxOf x=i)(hl:i<ρ.length):lk ns (ρ.set i v) z=if z=x then v else lk ns ρ z:=by
 unfold lk
 by_cases e:z=x
 ·rw[bQ e,e,hi,sN hl];rfl
 ·rw[bH e,ud λe'=>e ?_]
  have h1:=zJ hx
  have h2:=zJ hz
  rw[<-hi] at e'
  have e1:ns[ns.idxOf x]?=some x:=by rw[iB h1,List.getElem_idxOf]
  have e2:ns[ns.idxOf z]?=some z:=by rw[iB h2,List.getElem_idxOf]
  rw[e'] at e1
  exact dH (e2.symm.trans e1)
theorem Ky{Ex:Value->Shared->Prop}{P:Fp σ}{x:Str}{i:Nat}{v:V}{y:Value}{Q:Unit->Shared->Prop}(hi:σ.f.ns.idxOf x=i)(hx:x∈σ.f.ns)(ho:Fu P.env P.own x)(r:bx P.w v y)(k:∀N:Sx P (P.ρ.set i (some v)) P.H,Q () N.s):wpAny X.M P.A (storeName P.env x y) Q Ex P.s:=by
 have yu:i<P.ρ.length:=by rw[P.F.len,<-hi];exact zJ hx
 have tq:∀z,z∈σ.f.ns->lk σ.f.ns (P.ρ.set i (some v)) z=if z=x then some v else lk σ.f.ns P.ρ z:=λz hz=>Kx hx hz hi yu
 have key:∀(a:Addr) (h':Heap) (tk:Nat),oF P.env a->P.own a->ExtBut a P.s.heap h'->(∀o,P.s.heap.get? a=some o->fz o=false)->(∃o',h'.get? a=some o'/\∀o,P.s.heap.get? a=some o->fT o=true->fT o'=true) ->
   (∀(S:ca P.own P.w ⟨P.φ,h'⟩) (keep:∀b,b≠a->∀o,P.s.heap.get? b=some o->h'.get? b=some o),(∃m,h'.Ns P.env.locals m/\∀z,z∈σ.f.ns->P.env.kindOf z=some .local->kU ⟨P.φ,h'⟩ (lk σ.f.ns (P.ρ.set i (some v)) z) (m z)) /\
    ∀z,z∈σ.f.ns->tf (P.env.kindOf z)->∃c v',P.env.cells.lookup z=some c/\h'.IsCell c v'/\kU ⟨P.φ,h'⟩ (lk σ.f.ns (P.ρ.set i (some v)) z) v')->Q () (upd P.s h' tk):=λa h' tk ha tj he hf hl hF=>
  have c:Ch (·=a) P.s.heap h':=.but he hf
  have S:ca P.own P.w ⟨P.φ,h'⟩:=ca.ch (io:=(·=a)) (q:=P.w) .refl c λb hb=>.inr (hb▸⟨tj,hl⟩)
  have q:=hF S λb hb o e=>he b o hb e
  k ⟨P.φ,h',tk,P.R.ch (p:=P.w) (io:=(·=a)) (λb hb=>hb▸P.F.ap a ha) c,⟨P.F.fc,by rw[gR];exact P.F.len,q.1,q.2,P.F.ap,λb hb=>(P.F.live b hb).elim λo e=>(S.alive b o e).imp λζ x=>x.1⟩,S⟩
 rcases ho with⟨hk,hL⟩|⟨hk,hc⟩
 ·refine P.F.loc.elim λm hm=>wpAny_storeName_local hk hm.1 (λh' hn hs=>(key P.env.locals h' _ (.inl rfl) hL hs.extBut (λo e=>hm.1.elim λo' q=>q.elim λζ q=>q.elim λζ q=>by rw[q.1] at e;cases e;exact Am q.2.1) (hn.imp λo q=>q.elim λζ q=>q.elim λζ q=>⟨q.1,λζ ζ ζ=>Cs q.2.1⟩) λS keep=>⟨⟨_,hn,λz hz qH=>?_⟩,λz hz qH=>?_⟩)) (by rw[P.F.fc.fn];rfl)
  ·rw[tq z hz]
   by_cases e:z=x
   ·rw[bQ e,bQ e];exact .some (r.mono S)
   ·rw[bH e,bH e];exact(hm.2 z hz qH).kp S.kp
  ·refine(P.F.vR z hz qH).imp λc q=>q.imp λv' q=>⟨q.1,Fd q.2.1 (keep c (P.F.fc.ne _ (mem_lookup q.1))),?_⟩
   rw[tq z hz,bH λe=>by rw[e,hk] at qH;cases qH]
   exact q.2.2.kp S.kp
 ·refine(P.F.vR x hx (by rw[hk];rfl)).elim λc q=>q.elim λv' q=>wpAny_storeName_cell P.F.fc.fn hk q.1 q.2.1 λh' hn hs=>key c h' _ (yl q.1) (hc c q.1) hs.extBut (λo e=>q.2.1.elim λo' q=>by rw[q.1] at e;cases e;exact Ra q.2) (hn.imp λo x=>⟨x.1,λo' e hd=>q.2.1.elim λo2 y=>by rw[y.1] at e;cases e;exact no hd (Rb y.2)⟩) λS keep=>⟨P.F.loc.imp λm hm=>⟨Rd hm.1 (keep _ (P.F.fc.ne _ (mem_lookup q.1)).symm),λz hz qH=>?_⟩,λz hz qH=>?_⟩
  ·rw[tq z hz,bH λe=>by rw[e,hk] at qH;cases qH]
   exact(hm.2 z hz qH).kp S.kp
  ·rw[tq z hz]
   by_cases e:z=x
   ·rw[bQ e,e];exact⟨c,some y,q.1,hn,.some (r.mono S)⟩
   ·rw[bH e]
    exact(P.F.vR z hz qH).imp λc' q'=>q'.imp λv2 q'=>⟨q'.1,Fd q'.2.1 (keep c' λe'=>e (P.F.fc.apart z x c (e'▸q'.1) q.1)),q'.2.2.kp S.kp⟩
theorem RT{P:Fp σ}{x:Str}{i:Nat}{v:V}{y:Value}{Q:Unit->Shared->Prop}(hi:σ.f.ns.idxOf x=i)(hx:x∈σ.f.ns)(ho:Fu P.env P.own x)(r:bx P.w v y)(k:∀N:Sx P (P.ρ.set i (some v)) P.H,Q () N.s):wpAny X.M P.A (bindName P.env x y) Q P.Ex P.s:=wpAny_bindName (Ky hi hx ho r k)
def vX(env:Env)(own:Addr->Prop)(xs:List Str):Prop:=∀x,x∈xs->Fu env own x
theorem Fv{h h':Heap}(he:ExtBut h.objs.size h h'):aC h h':=λa o e=>he a o (λe'=>bK (jq h (iC e'.symm)) e) e
theorem CJ{t:d8}{e:Expr}{env:Env}(h:lI σ.f t e=true)(es:List Expr):assignEach (e::es) env=(false,assign e env)::assignEach es env:=by
 cases t with
 |J i=>exact gV.k (G:=λe=>assignEach (e::es) env=(false,assign e env)::assignEach es env) h λζ ζ ζ=>rfl
 |aF ts=>exact qu.k (G:=λe=>assignEach (e::es) env=(false,assign e env)::assignEach es env) h λζ ζ ζ ζ=>rfl
theorem Kz:∀{ts:List d8} {es:List Expr} {vs:List V} {ρ cg:bv},Ae σ.f ts es=true->Ak ts vs ρ=some cg->∀env,(assignEach es env).length=vs.length/\(assignEach es env).findIdx? (·.1)=none
 |[],es,[],_,_,h,_,env=>fH (G:=λes=>(assignEach es env).length=0/\(assignEach es env).findIdx? (·.1)=none) h ⟨rfl,rfl⟩
 |[],es,_::_,_,_,h,ea,env=>bK rfl ea
 |_::_,es,[],_,_,h,ea,env=>bK rfl ea
 |t::ts,es,v::vs,ρ,cg,h,ea,env=>pG.k (G:=λes=>(assignEach es env).length=vs.length+1/\(assignEach es env).findIdx? (·.1)=none) h λe es h=>aW h λh1 h2=>jf ea λKA e1 e2=>by
  have q:=Kz h2 e2 env
  rw[CJ h1 es]
  exact⟨b7 (·+1) q.1,by rw[List.findIdx?_cons,q.2];rfl⟩
mutual
theorem yv:∀(t:d8) (e:Expr) (P:Fp σ) (v:V) (y:Value) (cg:bv) (Q:Unit->Shared->Prop) ,lI σ.f t e=true->vX P.env P.own (jJ t e)->bx P.w v y->aY t v P.ρ=some cg->(∀N:Sx P cg P.H,Q () N.s)->wpAny X.M P.A (assign e P.env y) Q P.Ex P.s
 |.J i,e,P,v,y,cg,Q,h,ho,r,ea,k=>gV.k (G:=λe=>vX P.env P.own (jJ (.J i) e)->wpAny X.M P.A (assign e P.env y) Q P.Ex P.s) h (λx pos h ho=>aW h λh1 ζ=>pF.k h1 λhi hx=>vU ea (λcg=>(∀N:Sx P cg P.H,Q () N.s)->_) (λζ k=>by
   rw[PySem.assign_Name]
   exact bj (wpAny_standAt (RT hi hx (ho x (dI.mpr rfl)) r k))) k) ho
 |.aF ts,e,P,v,y,cg,Q,h,ho,r,ea,k=>qu.k (G:=λe=>vX P.env P.own (jJ (.aF ts) e)->wpAny X.M P.A (assign e P.env y) Q P.Ex P.s) h (λes j pos h ho=>by
   have hh:=(iA.mp h).1
   have h:=(iA.mp h).2
   have hv:∃vs,v=.aF vs:=by cases v<;>first|cases ea;done|exact⟨_,rfl⟩
   obtain⟨vs,rfl⟩:=hv
   change Ak ts vs P.ρ=some cg at ea
   have q:=Kz h ea P.env
   exact r.inv (λy=>wpAny X.M P.A (assign (.Tuple es j pos) P.env y) Q P.Ex P.s) λa m xs h1 h2 ζ ζ=>wpAny_assign_Tuple (P.calm (oj _▸hh)) ⟨_,h1,rfl,m,rfl⟩ (by rw[q.1,lE,h2.length]) q.2 λh' he=>
    KB ts es (P.to (P.toPt.ext (Fv he) P.s.toks)) vs xs cg Q h ho (h2.mono (P.toPt.ext (Fv he) P.s.toks).S) ea λN=>k ((P.toPt.ext (Fv he) P.s.toks).sx.then N)) ho
theorem KB:∀(ts:List d8) (es:List Expr) (P:Fp σ) (vs:List V) (ys:List Value) (cg:bv) (Q:Unit->Shared->Prop) ,Ae σ.f ts es=true->vX P.env P.own (xZ ts es)->bF P.w vs ys->Ak ts vs P.ρ=some cg->(∀N:Sx P cg P.H,Q () N.s)->wpAny X.M P.A (assignInOrder ((assignEach es P.env).map (·.2)) ys) Q P.Ex P.s
 |[],es,P,vs,ys,cg,Q,h,ho,r,ea,k=>fH (G:=λes=>wpAny X.M P.A (assignInOrder ((assignEach es P.env).map (·.2)) ys) Q P.Ex P.s) h (by
   cases vs with
   |nil=>cases ea;exact r.inv (λys=>wpAny X.M P.A (assignInOrder [] ys) Q P.Ex P.s) (bU (k (P.toPt.gY _).sx))
   |cons _ _=>cases ea)
 |t::ts,es,P,vs,ys,cg,Q,h,ho,r,ea,k=>pG.k (G:=λes=>vX P.env P.own (xZ (t::ts) es)->wpAny X.M P.A (assignInOrder ((assignEach es P.env).map (·.2)) ys) Q P.Ex P.s) h (λe es h ho=>aW h λh1 h2=>by
   cases vs with
   |nil=>cases ea
   |cons v vs=>
    rw[CJ h1 es]
    exact jf ea λKA e1 e2=>r.inv (λys=>wpAny X.M P.A (assignInOrder (((false,assign e P.env)::assignEach es P.env).map (·.2)) ys) Q P.Ex P.s) λy ys r1 r2=>wpAny_assignInOrder_more (yv t e P v y KA _ h1 (λx hx=>ho x (cY.mpr (.inl hx))) r1 e1 λN=>
     KB ts es N.fp vs ys cg Q h2 (λx hx=>ho x (cY.mpr (.inr hx))) (r2.mono N.S) e2 λN'=>k (N.then N'))) ho
end
end
structure KO{σ:Lv}(P:Fp σ)(K:Out->Prop)(Q:Flow->Shared->Prop):Prop where
 next:∀ρ H,K (.next ρ H)->∀N:Sx P ρ H,Q .next N.s
 ret:∀v H,K (.ret v H)->∀(φ:List Addr) (h:Heap) (tk:Nat),SR ⟨φ,h⟩ H->ca P.own P.w ⟨φ,h⟩->∀x,bx ⟨φ,h⟩ v x->Q (.ret x) (upd P.s h tk)
def vY(env:Env)(own:Addr->Prop)(ns:List Str):Prop:=vX env own ns/\∀a,own a->oF env a
section
variable{σ:Lv}{P:Fp σ}{K:Out->Prop}{Q:Flow->Shared->Prop}{ρ:bv}{H:Hp}
theorem KO.nx(k:KO P K Q)(N:Sx P ρ H):KO N.fp K Q:=⟨λcg H' p N'=>k.next cg H' p (N.then N'),λv H' p φ h tk R S x r=>k.ret v H' p φ h tk R (N.S.trans S) x r⟩
def tv(σ:Lv)(cs:List S)(ss:List Stmt):Prop:=
 ∀(P:Fp σ) (K:Out->Prop) (Q:Flow->Shared->Prop) ,vY P.env P.own σ.f.ns->aX σ.c cs P.ρ P.H K->KO P K Q->wpAny X.M P.A (execs ss P.env) Q P.Ex P.s
def SS(σ:Lv)(c:S)(st:Stmt):Prop:=
 ∀(P:Fp σ) (K:Out->Prop) (Q:Flow->Shared->Prop) ,vY P.env P.own σ.f.ns->WS σ.c c P.ρ P.H K->KO P K Q->wpAny X.M P.A (exec st P.env) Q P.Ex P.s
mutual
theorem Ax:∀(t:d8) (e:Expr),lI σ.f t e=true->∀x,x∈jJ t e->x∈σ.f.ns
 |.J i,e,h=>gV.k (G:=λe=>∀x,x∈jJ (.J i) e->x∈σ.f.ns) h λy p h x hx=>aW h λh1 ζ=>pF.k h1 λζ hy=>dI.mp hx▸hy
 |.aF ts,e,h=>qu.k (G:=λe=>∀x,x∈jJ (.aF ts) e->x∈σ.f.ns) h λes ζ ζ h x hx=>KC ts es (iA.mp h).2 x hx
theorem KC:∀(ts:List d8) (es:List Expr),Ae σ.f ts es=true->∀x,x∈xZ ts es->x∈σ.f.ns
 |[],es,h,x,hx=>nomatch hx
 |t::ts,es,h,x,hx=>pG.k (G:=λes=>x∈xZ (t::ts) es->x∈σ.f.ns) h (λe es h hx=>aW h λh1 h2=>(cY.mp hx).elim (Ax t e h1 x) (KC ts es h2 x)) hx
end
theorem yw{x:Expr}{o:Option Expr}{env:Env}(h:pI x=true)(line:Nat):swapsWith x o line env=pure false:=by
 cases x<;>first|rfl|cases h
theorem RU{e:E}{x:Expr}{pos:Pos}(hn:pI x=true)(he:cy σ e x):SS σ (.expr e) (.Expr x pos):=λP K Q ho p k=>
 wpAny_Expr_any (he P _ _ p (λv H1 p1 N x r=>k.next _ _ p1 N.sx)) P.F.fc.gen.2.2 (yw hn _)
theorem KD{t:d8}{e:E}{tg x:Expr}{pos:Pos}(yx:swapsWithSole [tg] x pos.line P.env=pure false)(ht:lI σ.f t tg=true)(hx:yc tg x=true)(he:cy σ e x)(ho:vY P.env P.own σ.f.ns)(p:WS σ.c (.aY t e) P.ρ P.H K)(k:KO P K Q):wpAny X.M P.A (exec (.Assign [tg] x pos) P.env) Q P.Ex P.s:=by
 refine wpAny_Assign_stores (he P _ _ p (λv H1 p1 N y r=>aO.k p1 λcg ha p1=>?_)) yx ?_
 ·rw[CJ ht []]
  exact yv t tg (P.to N) v y cg _ ht (λz hz=>ho.1 z (Ax t tg ht z hz)) r ha λN'=>k.next _ _ p1 (N.sx.then N')
 ·cases t with
  |J i=>exact gV.k (G:=λtg=>swappedStores [tg] x P.env=pure none) ht λζ ζ ζ=>rfl
  |aF ts=>exact qu.k (G:=λtg=>yc tg x=true->swappedStores [tg] x P.env=pure none) ht (λζ ζ ζ ζ hx=>by cases x<;>first|rfl|cases hx) hx
theorem RV{t:d8}{e:E}{tg x:Expr}{pos:Pos}(hn:pI x=true)(ht:lI σ.f t tg=true)(hx:yc tg x=true)(he:cy σ e x):SS σ (.aY t e) (.Assign [tg] x pos):=λP K Q ho p k=>KD (yw hn _) ht hx he ho p k
theorem RW{e:E}{x:Expr}{pos:Pos}(he:cy σ e x):SS σ (.ret e) (.Return (some x) pos):=λP K Q ho p k=>
 B2 (he P _ _ p (λv H1 p1 N x r=>k.ret _ _ p1 _ _ _ N.R N.S.nil _ r))
theorem RX{c:E}{a b:List S}{t:Expr}{x y:List Stmt}{pos:Pos}(hc:vT σ c t)(ha:tv σ a x)(hb:tv σ b y):SS σ (.bD c a b) (.If t x y pos):=λP K Q ho p k=>
 wpAny_If (hc P _ _ p (λv H1 p1=>p1.m λt p1 N=>by
  cases t
  ·exact hb N.sx.fp K Q ho p1 (k.nx N.sx)
  ·exact ha N.sx.fp K Q ho p1 (k.nx N.sx)))
theorem KO.ex(k:KO P K Q){x:PQ}{Ex:Value->Shared->Prop}(kx:uE P.own P.w P.s x Ex):KO (P.ex x Ex kx) K Q:=⟨λρ H p N=>k.next ρ H p N.un,λv H p φ h tk R S y r=>k.ret v H p φ h tk R S y r⟩
inductive KE(P:Fp σ)(c:E)(b:List S)(K:Out->Prop)(k:Nat)(s:Shared):Prop
 |mk (ρ:bv) (H:Hp) (N:Sx P ρ H) (e:s=N.s) (p:Cp (λρ H Q=>vP σ.c c ρ H Q) (λρ H K=>aX σ.c b ρ H K) k ρ H K):KE P c b K k s
theorem RY{c:E}{b:List S}{t:Expr}{y:List Stmt}{pos:Pos}(hc:vT σ.no c t)(hb:tv σ.no b y):SS σ (.while c b) (.While t y [] pos):=λP K Q ho p k=>by
 refine wpAny_While (codeAny_whileLoop (KE P.no c b K) (λj s' w=>w.casesOn λρ H N e p'=>?_) _ ⟨P.ρ,P.H,(P.no.toPt.gY P.s.toks).sx,rfl,p⟩)
 subst e
 have k:=k.ex (x:=λζ ζ=>False) (Ex:=NE) λζ ζ h=>h.elim
 cases j with
 |zero=>exact p'.elim
 |succ j=>
  refine ym (hc N.fp _ _ p' (λv H1 p1=>p1.m λb' p1 N1=>?_))
  cases b' with
  |false=>exact vx (k.next _ _ p1 (N.then N1.sx))
  |true=>exact ym (hb (N.then N1.sx).fp _ _ ho p1 ⟨λcg H' p2 N2=>⟨j,jH _,cg,H',(N.then N1.sx).then N2,rfl,p2⟩,λv H' p2 φ h tk R S x r=>k.ret v H' p2 φ h tk R ((N.then N1.sx).S.trans S) x r⟩)
theorem uH:tv σ [] []:=λP K Q ho p k=>vx (k.next _ _ p (P.toPt.gY P.s.toks).sx)
theorem RZ{c:S}{cs:List S}{st:Stmt}{ss:List Stmt}(h1:SS σ c st)(h2:tv σ cs ss):tv σ (c::cs) (st::ss):=λP K Q ho p k=>
 ui (h1 P _ _ ho p ⟨λcg H' p1 N=>h2 N.fp K Q ho p1 (k.nx N),λv H' p1 φ h tk R S x r=>k.ret v H' p1 φ h tk R S x r⟩)
theorem R4{A:Around}{E:Value->Shared->Prop}{s:Shared}{l:Addr}{xs:List Value}{n:Nat}{k:Int}{t:Tok}{v:Value}{Q:Unit->Shared->Prop}(ho:s.heap.get? l=some (jb xs n))(h0:0<=k)(KF:k<2^63)(hn:k<xs.length)
  (hQ:Q () {s with heap:=s.heap.update l (Obj.mapSeq (·.setIfInBounds k.toNat v))}):wpAny (model X.prog X.w) A (setItem (.ref l) (.int k t) v) Q E s:=by
 have hl:s.heap.IsList l xs.toArray:=lK ho
 unfold setItem
 refine uh (bj (wpAny_sequenceKey hl.typeIs (by decide) (bj (B3 (name:=Str.ofString "__setitem__") hl.typeIs PySem.slot_list_setitem
  (uc PySem.slot_list_setitem hl.typeIs PySem.entry_list_setitem ?_ (PySem.args_list_setitem _ _ _))))))
 refine(bj (wpAny_listSubscript_int (fitsIndex_of h0 KF) ?_):wpAny _ _ (Builtin.List.listSubscript? (.int k t) >>= _) _ _ s)
 clear KF
 obtain⟨j,rfl⟩:=Int.eq_ofNat_of_zero_le h0
 have hj:j<xs.toArray.size:=by rw[lE];lia
 refine(bj (bj (wpAny_seqItemAt ho rfl (bU ?_))):wpAny _ _ ((seqItemAt l j >>= λr=>pure (r.map (j,·))) >>= _) _ _ s)
 rw[zK hj]
 refine(bj (wpAny_setSeqItemAt ho rfl ?_):wpAny _ _ (setSeqItemAt l j v >>= _) _ _ s)
 first
  |exact bj (bU (bU ⟨.none,rfl,bU hQ⟩))
  |exact bU ⟨.none,rfl,bU hQ⟩
theorem KG{K:Type}[DecidableEq K](es:List (K×V))(k:K)(v:V):(dput es k v).length<=es.length+1:=by
 unfold dput
 split
 ·rw[bJ];lia
 ·rw[b6];exact bX _
theorem R5{es:List (Int×V)}{kvs:List (Int×Value)}{p:Ws}{v:V}{x:Value}(h:L2 (pM p) es kvs)(r:bx p v x)(k:Int):L2 (pM p) (dput es k v) (stored kvs k x):=by
 unfold dput stored
 rw[h.any (f:=λq=>decide (q.1=k)) (g:=λq=>decide (q.1=k)) λa b m=>by rw[m.1]]
 split
 ·exact h.map λa b m=>by
   by_cases e:a.1=k
   ·rw[bQ e,bQ (m.1▸e)];exact⟨m.1,r⟩
   ·rw[bH e,bH (m.1▸e)];exact m
 ·exact h.snoc ⟨rfl,r⟩
theorem R6{es:List ((Int×Bool)×V)}{kvs:List (List Int×Addr×Value)}{p:Ws}{v:V}{x:Value}{a:Addr}{k:Int×Bool}(h:L2 (qF p) es kvs)(r:bx p v x)(rk:bx p (oB k) (.ref a)):L2 (qF p) (dput es k v) (storedH kvs (pK k) a x):=by
 unfold dput storedH
 have e:es.any (λq=>decide (q.1=k))=(atKey kvs (pK k)).isSome:=by
  rw[show es.any (λq=>decide (q.1=k))=fy es k from rfl,Fl]
  rcases Fk h k with⟨w1,w2⟩|⟨_,_,_,w1,w2,_⟩<;>rw[w1,w2]<;>rfl
 rw[e]
 split
 ·exact h.map λa b m=>by
   unfold putAt
   by_cases e:a.1=k
   ·rw[bQ e,bQ (by rw[m.1,<-e];rfl)];exact⟨m.1,m.2.1,r⟩
   ·rw[bH e,bH λe'=>e (Kf (m.1.symm.trans e'))];exact m
 ·exact h.snoc ⟨rfl,rk,r⟩
theorem R7{P:Pt}{l:Nat}{xs:List V}{i v:V}{z kz y:Value}{k:Hp->Prop}{Q:Unit->Shared->Prop}(r2:bx P.w (.ref l) z)(r3:bx P.w i kz)(rv:bx P.w v y)(hl:P.H[l]?=some (.list xs))(p:gH i λj=>(0<=j/\j<xs.length)/\k (P.H.set l (.list (xs.set j.toNat v))))(fin:∀H,k H->∀N:Nx P H,Q () N.s):wpAny X.M P.A (setItem z kz y) Q P.Ex P.s:=
 gH.k p (λi=>bx P.w i kz->_) (λj p r3=>r3.inv (λkz=>wpAny X.M P.A (setItem z kz y) Q P.Ex P.s) λt=>P.list r2 hl (λz=>wpAny X.M P.A (setItem z _ y) Q P.Ex P.s) λad ys m jr q1 q2 q3=>
  R4 q1 p.1.1 (by lia) (by rw[<-q2.length];exact p.1.2) (
   have he:=(B4 P.s.heap ad (Obj.mapSeq (·.setIfInBounds j.toNat y))).extBut
   fin _ p.2 (P.set jr he (.list (n:=m) (by rw[Heap.get?_update_self _ q1 rfl];simp[Obj.mapSeq]) ((q2.set rv j.toNat).kp (P.vS jr he)) (by rw[List.length_set];exact q3)) P.s.toks))) r3
theorem R8{P:Pt}{l ep:Nat}{es:List (Int×V)}{i v:V}{z kz y:Value}{k:Hp->Prop}{Q:Unit->Shared->Prop}(G:Good X)(r2:bx P.w (.ref l) z)(r3:bx P.w i kz)(rv:bx P.w v y)(hl:P.H[l]?=some (.dict ep es))(p:gH i λj=>gn (qC es) (∀ep,k (P.H.set l (.dict ep (dput es j v)))))(fin:∀H,k H->∀N:Nx P H,Q () N.s):wpAny X.M P.A (setItem z kz y) Q P.Ex P.s:=
 gH.k p (λi=>bx P.w i kz->_) (λj p r3=>gn.k p λhz p=>r3.inv (λkz=>wpAny X.M P.A (setItem z kz y) Q P.Ex P.s) λt=>P.cell r2 hl (λz=>wpAny X.M P.A (setItem z _ y) Q P.Ex P.s) λad jr hc=>hc.inv _ λo' en kvs x0 x1 x2 x3 x4 x5 q z m=>by
  have hz:es.length<16000000:=cu hz
  refine wpAny_setItem_pairs (knd:=kS) (k:=j) (beq_self_eq_true j) ⟨o',en,ep,x0,x1,x2,x3,x4,x5⟩ (λh4 yy Ay=>?_) (by rw[<-q.length];unfold sizeLine;lia)
  exact yy.elim λo4 w=>w.elim λR9 w=>w.elim λFw w=>fin _ (p Fw) (P.set jr Ay.extBut (.dict w.1 w.2.1 w.2.2.1 w.2.2.2.1 w.2.2.2.2.1 w.2.2.2.2.2 ((R5 q rv j).imp (pM.kp (P.vS jr Ay.extBut))) z (aG (KG es j v) hz)) _)) r3
theorem Sa{P:Pt}{l ep:Nat}{es:List ((Int×Bool)×V)}{i v:V}{z kz y:Value}{k:Hp->Prop}{Q:Unit->Shared->Prop}(G:Good X)(r2:bx P.w (.ref l) z)(r3:bx P.w i kz)(rv:bx P.w v y)(hl:P.H[l]?=some (.dY ep es))(p:aO (pairOf i) λj=>gn (qC es) (∀ep,k (P.H.set l (.dY ep (dput es j v)))))(fin:∀H,k H->∀N:Nx P H,Q () N.s):wpAny X.M P.A (setItem z kz y) Q P.Ex P.s:=
 aO.k p λj ej p=>pairOf.k ej (λi=>bx P.w i kz->_) (λr3=>gn.k p λhz p=>r3.inv (λkz=>bx P.w (oB j) kz->wpAny X.M P.A (setItem z kz y) Q P.Ex P.s) (λka ζ ζ ζ ζ ζ ζ r3=>qp r2 G (show(P.H[l]?).bind nA=some es by rw[hl];rfl) (λz=>wpAny X.M P.A (setItem z _ y) Q P.Ex P.s) λl' fF ad kvs el ζ jr hD q z l9=>by
  have hz:es.length<16000000:=cu hz
  cases el
  refine wpAny_setItem_heap (knd:=pN) (k:=pK j) (by refine(?_:P.A.units+1<cLine);have:=P.rm.units;lia) (Ao r3) hD (λh4 yy Ay=>?_) (by rw[<-q.length];unfold sizeLine;lia)
  exact yy.elim λo4 w=>w.elim λR9 w=>w.elim λFw w=>fin _ (p Fw) (P.set jr Ay.extBut (.dY w.1 w.2.1 w.2.2.1 w.2.2.2.1 w.2.2.2.2.2 ((R6 q rv r3).imp (qF.kp (P.vS jr Ay.extBut))) z (aG (KG es j v) hz)) _)) r3) r3
theorem Sb{a i e:E}{o j x:Expr}{sp pos:Pos}(G:Good X)(hn:pI x=true)(ha:cy σ a o)(hi:cy σ i j)(he:cy σ e x):SS σ (.ij a i e) (.Assign [.Subscript o j sp] x pos):=λP K Q ho p k=>by
 refine wpAny_Assign_Subscript (he P _ _ p (λv H1 p1 N y r=>vV ha hi (P.to N) p1 (λu w H2 p2 N2 z kz r2 r3=>?_))) (yw hn _)
 have fin:∀H3,K (.next P.ρ H3)->∀N3:Nx N2.pt H3,Q .next N3.s:=λH3 p3 N3=>k.next _ _ p3 (N.then (N2.then N3)).sx
 cases u with
 |ref l=>
  refine aO.k p2 λc hl p2=>?_
  cases c with
  |list xs=>exact R7 (P:=N2.pt) r2 r3 (r.mono N2.S) hl p2 fin
  |dict ep es=>exact R8 (P:=N2.pt) G r2 r3 (r.mono N2.S) hl p2 fin
  |dY ep es=>exact Sa (P:=N2.pt) G r2 r3 (r.mono N2.S) hl p2 fin
  |_=>exact p2.elim
 |_=>exact p2.elim
end
noncomputable def CL:List String:=["enumerate","zip","dict_itemiterator","dict_reverseitemiterator","odict_iterator","itertools.zip_longest","itertools.pairwise"]
structure nG(tg:Expr)(eQ:Ws)(H₀:Hp)(ws:List Nat)(vs:List V)(I:Addr)(io:Addr->Prop)(St:Nat->Heap->Prop):Prop where
 keep:∀i h h',St i h->(∀a,io a->∀o,h.get? a=some o->h'.get? a=some o)->St i h'
 live:∀i h,St i h->∀a,io a->∃o,h.get? a=some o/\fT o=false/\il o=false
 item:∀(P:Pt) (i:Nat) (v:V) (Q:Value->Shared->Prop),P.A.handled=none->Kp eQ P.w->fS ws H₀ P.H=true->St i P.s.heap->(∀a,io a->Ap P.w a)->vs[i]?=some v ->
  (∀h' tk y,SR ⟨P.φ,h'⟩ P.H->ca io P.w ⟨P.φ,h'⟩->St (i+1) h'->bx ⟨P.φ,h'⟩ v y->Q y (upd P.s h' tk)) ->
  wpAny X.M P.A (pyNext (.ref I)) (λr ci=>aO r λy=>wpAny X.M P.A (letOwnedTupleGo tg (.ref I) y) (λζ fI=>Q y fI) P.Ex ci) P.Ex P.s
 done:∀(P:Pt) (i:Nat) (Q:Option Value->Shared->Prop),P.A.handled=none->Kp eQ P.w->fS ws H₀ P.H=true->St i P.s.heap->(∀a,io a->Ap P.w a)->vs[i]?=none ->
  (∀h' tk,Ch io P.s.heap h'->Q none (upd P.s h' tk))->wpAny X.M P.A (pyNext (.ref I)) Q P.Ex P.s
 self:∀(A:Around) (s:Shared) (Q Ex:Value->Shared->Prop),St 0 s.heap->Q (.ref I) s->wpAny X.M A (pyIter (.ref I)) Q Ex s
theorem nG.from{tg:Expr}{eQ Az:Ws}{H₀:Hp}{ws:List Nat}{vs:List V}{I:Addr}{io:Addr->Prop}{St:Nat->Heap->Prop}(h:nG tg eQ H₀ ws vs I io St)(K:Kp eQ Az):nG tg Az H₀ ws vs I io St:=
 ⟨h.keep,h.live,λP i v Q hh kp=>h.item P i v Q hh (K.trans kp),λP i Q hh kp=>h.done P i Q hh (K.trans kp),h.self⟩
section
variable{tg:Expr}{eQ:Ws}{H₀:Hp}{ws:List Nat}{vs:List V}{I a:Addr}
theorem Se{A:Around}{s:Shared}{y:Value}{o:Obj}{nm:String}{Q:Unit->Shared->Prop}{Ex:Value->Shared->Prop}(ho:s.heap.get? I=some o)(hc:o.cls=.type nm)(hn:CL.contains nm=false)(hQ:Q () s):wpAny X.M A (letOwnedTupleGo tg (.ref I) y) Q Ex s:=by
 have key:∀a,wpAny X.M A (do
  let o <-load I
  match o.cls,o.data with
  |.type n,.fields vs=>
   if CL.contains n&&vs[0]?==some (rawInt a) then
    rule "for.unpacks-the-owned-tuple"
    updateField I 0 .none
  |_,_=>pure ()) Q Ex s:=by
  intro a
  refine bj (wpAny_load ho ?_)
  rw[hc]
  cases o.data with
  |fields vs=>
   refine(?_:wpAny X.M A (if(CL.contains nm&&vs[0]?==some (rawInt a))=true then _ else _) Q Ex s)
   rw[hn,Bool.false_and,bH gM]
   exact bU hQ
  |_=>exact bU hQ
 unfold letOwnedTupleGo
 cases tg<;>first|exact bU hQ|(cases y<;>first|exact bU hQ|exact key _)
theorem Fx{o:Obj}{nm:String}(hc:o.cls=.type nm)(hn:(Value.type nm==.type "traceback")=false)(hd:fT o=false):fT o=false/\il o=false:=⟨hd,by
 unfold il;rw[hc,hn]
 cases o.data<;>rfl⟩
theorem CM{nm:String}{St:Nat->Heap->Prop}(Sf:(CL.contains nm||(Value.type nm==.type "tuple"||Value.type nm==.type "traceback"))=false)(vZ:∀i h,St i h->∃o,h.get? I=some o/\o.cls=.type nm/\fT o=false)(keep:∀i h h',St i h->(∀o,h.get? I=some o->h'.get? I=some o)->St i h')
  (next:∀(P:Pt) (i:Nat) (v:V) (Q:Option Value->Shared->Prop),P.A.handled=none->Kp eQ P.w->fS ws H₀ P.H=true->St i P.s.heap->vs[i]?=some v->(∀h' tk y,St (i+1) h'->ExtBut I P.s.heap h'->bx P.w v y->Q (some y) (upd P.s h' tk))->wpAny X.M P.A (pyNext (.ref I)) Q P.Ex P.s)
  (stop:∀(P:Pt) (i:Nat) (Q:Option Value->Shared->Prop),P.A.handled=none->Kp eQ P.w->fS ws H₀ P.H=true->St i P.s.heap->vs[i]?=none->(∀h',ExtBut I P.s.heap h'->Q none {P.s with heap:=h'})->wpAny X.M P.A (pyNext (.ref I)) Q P.Ex P.s)
  (self:∀(A:Around) (s:Shared) (Q Ex:Value->Shared->Prop),St 0 s.heap->Q (.ref I) s->wpAny X.M A (pyIter (.ref I)) Q Ex s):nG tg eQ H₀ ws vs I (·=I) St:=
 have h1:=ub.mp Sf
 have h2:=ub.mp h1.2
 have KH:∀{i h},St i h->∀o,h.get? I=some o->fz o=false:=λst o e=>(vZ _ _ st).elim λo' q=>by rw[e] at q;cases q.1;exact oE q.2.1 h1.2
 {keep:=λi h h' st hk=>keep i h h' st (hk I rfl)
  live:=λi h st a ha=>(vZ i h st).imp λo q=>⟨ha▸q.1,Fx q.2.1 h2.2 q.2.2⟩
  item:=λP i v Q hh kp hw st fj hv k=>next P i v _ hh kp hw st hv λh' tk y yz he r=>
   have c:Ch (·=I) P.s.heap h':=.but he (KH st)
   (vZ _ _ yz).elim λo q=>Se (s:=(upd P.s h' tk)) q.1 q.2.1 h1.1 (k h' tk y (P.R.ch (p:=P.w) fj c) (ca.ch (io:=(·=I)) (q:=P.w) .refl c λb hb=>.inr ⟨hb,o,hb▸q.1,λo1 e hd=>(vZ _ _ st).elim λo2 w=>by rw[hb] at e;rw[show P.s.heap.get? I=some o1 from e] at w;cases w.1;exact no hd w.2.2⟩) yz (r.kp c.kp))
  done:=λP i Q hh kp hw st fj hv k=>stop P i Q hh kp hw st hv λh' he=>k h' P.s.toks (.but he (KH st))
  self:=self}
def wa(eQ:Ws)(H₀:Hp)(ws:List Nat)(vs:List V)(a:Addr):Prop:=
 ∀(P:Pt),Kp eQ P.w->fS ws H₀ P.H=true->∃xs,P.s.heap.IsList a xs.toArray/\bF P.w vs xs
theorem CN{H:Hp}{l:Nat}(h:fS ws H₀ H=true)(hl:l∈ws):H[l]?=H₀[l]?:=cu (j1.mp h l hl)
theorem KI(ws:List Nat)(H:Hp):fS ws H H=true:=j1.mpr λζ ζ=>dj rfl
theorem Fy{l:Nat}(hl:eQ.φ[l]?=some a)(e:H₀[l]?=some (.list vs))(hw:l∈ws):wa eQ H₀ ws vs a:=λP kp hs=>
 P.R.at ((CN hs hw).trans e) λb hb hc=>hc.inv _ λxs m h1 h2 ζ=>by
  rw[kp.pre l a hl] at hb;cases hb
  exact⟨xs,lK h1,h2⟩
theorem Sg(G:Good X):wa eQ H₀ ws (X.is.map .int) X.mC:=λP ζ ζ=>Gl.mC G P λxs h1 h2 ζ=>⟨xs,h1,h2⟩
theorem yA(xs:List Value)(i:Nat):xs.toArray[i]?=xs[i]?:=xG ..
theorem none_of{p:Ws}{xs:List Value}{i:Nat}(r:bF p vs xs)(h:vs[i]?=none):xs.toArray[i]?=none:=by
 rw[yA];exact sO (r.length▸sP.mp h)
theorem KJ(uI:wa eQ H₀ ws vs a):nG tg eQ H₀ ws vs I (·=I) (λi h=>h.IsListIter I a i):=
 CM (nm:="list_iterator") rfl (λi h st=>st.imp λo q=>⟨q.1,q.2.1,td q.2.2⟩) (λi h h' st hk=>st.imp λo q=>⟨hk o q.1,q.2⟩)
  (λP i v Q hh kp hw st hv k=>(uI P kp hw).elim λxs h=>h.2.get hv λy hy r=>wpAny_pyNext_list_item st h.1 (by rw[yA];exact hy) λh' gI hs=>k h' P.s.toks y gI hs.extBut r)
  (λP i Q hh kp hw st hv k=>(uI P kp hw).elim λxs h=>wpAny_pyNext_list_end hh st h.1 (none_of h.2 hv) k) λA s Q Ex st h=>wpAny_pyIter_listiter st h
theorem Sh{xs:List Value}{m:Nat}(e0:eQ.h.get? a=some (lY xs m))(AA:a∉eQ.φ)(r0:bF eQ vs xs):nG tg eQ H₀ ws vs I (·=I) (λi h=>h.IsTupleIter I a i):=
 CM (nm:="tuple_iterator") rfl (λi h st=>st.imp λo q=>⟨q.1,q.2.1,td q.2.2⟩) (λi h h' st hk=>st.imp λo q=>⟨hk o q.1,q.2⟩)
  (λP i v Q hh kp hw st hv k=>(r0.kp kp).get hv λy hy r=>wpAny_pyNext_tuple_item st ⟨_,(kp.aF e0 AA).1,rfl,m,rfl⟩ (by rw[yA];exact hy) λh' gI hs=>k h' P.s.toks y gI hs.extBut r)
  (λP i Q hh kp hw st hv k=>wpAny_pyNext_tuple_end hh st ⟨_,(kp.aF e0 AA).1,rfl,m,rfl⟩ (none_of (r0.kp kp) hv) k) λA s Q Ex st h=>wpAny_pyIter_tupleiter st h
theorem KL{i:Nat}{x y:Int}:(uB x y)[i]?=if i<(y - x).toNat then some (.int (x+i)) else none:=by
 unfold uB
 rw[i7]
 by_cases h:i<(y - x).toNat
 ·rw[bQ h,List.getElem?_range h];rfl
 ·rw[bH h,sO (by rw[jI];exact fv.mp h)];rfl
theorem Si{x y:Int}:nG tg eQ H₀ ws (uB x y) I (·=I) (λi h=>IsRangeIter h I (x+i) (((y - x).toNat:Int) - i) 1):=
 CM (nm:="range_iterator") rfl (λi h st=>⟨_,st,rfl,rfl⟩) (λi h h' st hk=>hk _ st)
  (λP i v Q hh kp hw st hv k=>vU (KL▸hv) (λv=>(∀h' tk y',IsRangeIter h' I (x+((i+1:Nat):Int)) (((y - x).toNat:Int) - ((i+1:Nat):Int)) 1->ExtBut I P.s.heap h'->bx P.w v y'->Q (some y') (upd P.s h' tk))->_) (λhi k=>wpAny_pyNext_range_item st (Int.sub_pos_of_lt (kN.mpr hi)) λh' gI hs=>k h' _ _ (by
   have e1:x+((i+1:Nat):Int)=x+i+1:=(Int.add_assoc x (i:Int) 1).symm
   have e2:(((y - x).toNat:Int) - ((i+1:Nat):Int))=((y - x).toNat:Int) - i - 1:=(Int.sub_sub _ (i:Int) 1).symm
   rw[e1,e2];exact gI) hs.extBut (.int _ _)) k)
  (λP i Q hh kp hw st hv k=>wpAny_pyNext_range_end hh st (by
   rw[KL] at hv
   by_cases h:i<(y - x).toNat
   ·rw[bQ h] at hv;cases hv
   ·exact Int.sub_nonpos_of_le (pn.mpr (fv.mp h))) k) λA s Q Ex st h=>wpAny_pyIter_rangeiter st h
end
section
variable{A:Around}{E:Value->Shared->Prop}{s:Shared}{it d:Addr}{i ep:Nat}{od:Obj}{es:Array DictEntry}
theorem KM{Q:Value->Shared->Prop}(hd:(d==sysModules)=false)(yB:s.heap.get? d=some od)(yq:od.cls=.type "dict")(pP:od.data=.dict es ep)
  (hQ:Q (.ref s.heap.objs.size) {s with heap:=s.heap.push {cls:=.type "dict_keyiterator",data:=.fields #[.ref d,.int 0 0,.int es.size 0,.int ep 0]}}):wpAny X.M A (pyIter (.ref d)) Q E s:=by
 have hT:s.TypeIs (.ref d) "dict":=⟨od,yB,yq⟩
 refine wpAny_pyIter_slot hT F.slot_dict_iter (uc F.slot_dict_iter hT F.entry_dict_iter ?_ (F.args_dict_iter_1 _))
 unfold Builtin.«dict.__iter__»
 refine bj (bj (wpAny_notOrdered_dict hT (bU ((?_:wpAny _ _ (Builtin.Dict.showsAll d >>= _) _ _ s)))))
 unfold Builtin.Dict.showsAll
 rw[bH (by rw[hd];exact gM)]
 exact bj (bU (bj (BZ yB pP (bj (wpAny_dictEpoch yB pP (bj (xK (bU ⟨_,rfl,"dict_keyiterator",_,⟨_,jo _ rfl,rfl⟩,EH.lookup,hQ⟩))))))))
theorem KN{Q:Option Value->Shared->Prop}(hh:A.handled=none)(gI:s.heap.IsKeyIter it d i es.size ep)(yB:s.heap.get? d=some od)(pP:od.data=.dict es ep)
  (hQ:∀(ey:i<es.size) h',h'.IsKeyIter it d (i+1) es.size ep->SameBut it s.heap h'->Q (some es[i].key) {s with heap:=h'}) (hE:es.size<=i->∀h',ExtBut it s.heap h'->Q none {s with heap:=h'}):wpAny X.M A (pyNext (.ref it)) Q E s:=by
 obtain⟨o,ho,hc,hd⟩:=id gI
 unfold pyNext
 refine bj (wpAny_attempt (B3 (name:=Str.ofString "__next__") gI.typeIs EH
  (uc EH gI.typeIs F.entry_dict_keyiterator_next ?_ (F.args_dict_keyiterator_next_1 _))))
 refine bj (bU (bj (bj ?_)))
 first|refine bj (EJ gI.typeIs (bU ?_))|refine bj (EK gI.typeIs (bU ?_))
 refine bj (wpAny_fieldsOf ho hd ((?_:wpAny _ _ (if(Value.ref d==Value.none)=true then _ else _) _ _ s)))
 rw[bH (show ¬((Value.ref d==Value.none)=true) from gM)]
 refine bj (bU (bj (BZ yB pP ?_)))
 rw[bH (by rw[bne_self_eq_false];exact gM)]
 refine bj (bU (bj (wpAny_dictEpoch yB pP ?_)))
 rw[bH (by rw[bne_self_eq_false];exact gM)]
 refine bU ?_
 dsimp only
 rcases lt_or_ge i es.size with ey|yo
 ·rw[bH (show ¬((i:Int)<0) from kM.mpr (ni i)),xD,zK ey]
  refine bj ?_
  first|refine bj (EJ gI.typeIs (bU ?_))|refine bj (EK gI.typeIs (bU ?_))
  refine bj (wpAny_isOneOf_keyiter gI.typeIs (((bj (wpAny_setField ho hd (Nat.lt_of_sub_pos (by exact zero_lt_succ _)) ?_)):wpAny _ _ (setField (.ref it) 1 (rawInt ((i:Int)+1)) >>= _) _ _ s)))
  have wb:(s.heap.update it (Obj.mapFields (·.setIfInBounds 1 (rawInt ((i:Int)+1))))).IsKeyIter it d (i+1) es.size ep:=
   ⟨_,sQ _ ho (Obj.isFreed_of_fields (zL hd _)),(Obj.cls_mapFields ..).trans hc,by rw[zL hd];rfl⟩
  exact bj (uh (bj (wpAny_isOneOf_keyiter (s:={s with heap:=s.heap.update it (Obj.mapFields (·.setIfInBounds 1 (rawInt ((i:Int)+1))))}) wb.typeIs ((bU (bU ⟨_,rfl,bU (hQ ey _ wb (B4 ..))⟩):wpAny _ _ (pure es[i].key) _ _ _)))))
 ·rw[bH (show ¬((i:Int)<0) from kM.mpr (ni i)),xD,Array.getElem?_eq_none yo]
  refine bj ?_
  first|refine bj (EJ gI.typeIs (bU ?_))|refine bj (EK gI.typeIs (bU ?_))
  refine((bj (wpAny_setField ho hd (Nat.lt_of_sub_pos (by exact zero_lt_succ _)) ?_)):wpAny _ _ (setField (.ref it) 0 .none >>= _) _ _ s)
  refine((wpAny_bind (wpAny_bind (wpAny_newObj_type (wpAny_bind (m:=firstArgMember _ _) (wpAny_of_eq (a:=Value.none) (by first|rfl|(simp only[firstArgMember];rfl)) (wpAny_newObj_type ?_ (by size_fits)))) (by size_fits)))):wpAny _ _ (newExc (.type "StopIteration") [] >>= _) _ _ _)
  refine bj (wpAny_handled ?_)
  rw[show A.in1.handled=none from hh]
  refine bj (bU (wpAny_throw ?_))
  exact bj (zH (T:="StopIteration") (b:=true) ⟨_,jo _ rfl,rfl⟩ isSubtype_stop (bU (hE yo _ (((B4 ..).extBut.push _).push _))))
end
section
variable{tg:Expr}{eQ:Ws}{H₀:Hp}{ws:List Nat}{vs:List V}{I a:Addr}
def Fz(eQ:Ws)(H₀:Hp)(ws:List Nat)(vs:List V)(a:Addr)(m ep:Nat):Prop:=
 ∀(P:Pt),Kp eQ P.w->fS ws H₀ P.H=true->∃o en,P.s.heap.get? a=some o/\o.data=.dict en ep/\en.size=m/\vs.length=m/\∀i v,vs[i]?=some v->∃h:i<en.size,bx P.w v en[i].key
theorem KP{m ep:Nat}(uI:Fz eQ H₀ ws vs a m ep):nG tg eQ H₀ ws vs I (·=I) (λi h=>h.IsKeyIter I a i m ep):=
 CM (nm:="dict_keyiterator") rfl (λi h st=>st.imp λo q=>⟨q.1,q.2.1,td q.2.2⟩) (λi h h' st hk=>st.imp λo q=>⟨hk o q.1,q.2⟩)
  (λP i v Q hh kp hw st hv k=>(uI P kp hw).elim λo h=>h.elim λen h=>(h.2.2.2.2 i v hv).elim λhl r=>KN hh (h.2.2.1▸st) h.1 h.2.1 (λζ h' gI hs=>k h' P.s.toks _ (h.2.2.1▸gI) hs.extBut r) λhg=>absurd hl (fv.mpr hg))
  (λP i Q hh kp hw st hv k=>(uI P kp hw).elim λo h=>h.elim λen h=>KN hh (h.2.2.1▸st) h.1 h.2.1 (λhl=>absurd hl (fv.mpr (by rw[h.2.2.1,<-h.2.2.2.1];exact sP.mp hv))) λζ=>k) λA s Q Ex st h=>wpAny_pyIter_keyiter st h
end
def qI(P:Pt)(tg:Expr)(post:List V×List Nat->Hp->Prop)(Q:Value->Shared->Prop):Prop:=
 ∀p H,post p H->∀(N:Nx P H) I io St,nG tg N.w H p.2 p.1 I io St->St 0 N.h->(∀a,io a->Ap N.w a/\P.s.heap.get? a=none)->Q (.ref I) N.s
def j8(σ:Lv)(it:It)(e:Expr):Prop:=
 (∀env x,foldedSetIterable e env x=pure x)/\∀(P:Fp σ) (tg:Expr) (post:List V×List Nat->Hp->Prop) (Q:Value->Shared->Prop),ya it tg=true->qE σ.c it P.ρ P.H post->qI P.toPt tg post Q->wpAny X.M P.A (eval e P.env) (λx ci=>wpAny X.M P.A (pyIter x) Q P.Ex ci) P.Ex P.s
section
variable{σ:Lv}{tg:Expr}{Q:Value->Shared->Prop}{post:List V×List Nat->Hp->Prop}{P:Pt}{H:Hp}
theorem qI.nx(k:qI P tg post Q)(N:Nx P H):qI N.pt tg post Q:=λp H' q N' I io St it st fj=>k p H' q (N.then N') I io St it st λa ha=>have h:=fj a ha;⟨h.1,N.S.dead h.2⟩
theorem CO{x:Int}(h:x.natAbs<2^60):-2^62<=x/\x<2^62:=by lia
theorem yC(k:qI P tg post Q){vs:List V}{ws:List Nat}(o:Obj){St:Nat->Heap->Prop}(p:post (vs,ws) P.H)(it:nG tg (P.ext (.push o) P.s.toks).w P.H ws vs P.s.heap.objs.size (·=P.s.heap.objs.size) St)(st:St 0 (P.s.heap.push o)):Q (.ref P.s.heap.objs.size) {P.s with heap:=P.s.heap.push o}:=
 k _ _ p (P.ext (.push o) P.s.toks) _ _ _ it st λa ha=>by
  subst ha
  have hn:=jq P.s.heap (bX _)
  exact⟨P.R.new (p:=P.w) hn,hn⟩
theorem Sj{eQ:Ws}{H₀:Hp}{ws:List Nat}{l ep:Nat}{es:List (Int×V)}{a:Addr}(hl:eQ.φ[l]?=some a)(e:H₀[l]?=some (.dict ep es))(hw:l∈ws):Fz eQ H₀ ws (es.map λp=>.int p.1) a es.length ep:=λP kp hs=>
 P.R.at ((CN hs hw).trans e) λb hb hc=>hc.inv _ λo en kvs x0 x1 x2 x3 x4 x5 q z m=>by
  rw[kp.pre l a hl] at hb;cases hb
  have hz:en.size=es.length:=by rw[q.length,<-x4.length,xI]
  refine⟨o,en,x0,x2,hz,bJ _,λi v hv=>?_⟩
  rw[i7] at hv
  refine iE (λv=>∃h:i<en.size,bx P.w v en[i].key) hv λe' he=>?_
  have hi:=(d7.mp he).1
  have wc:i<en.size:=hz▸hi
  have hk:i<kvs.length:=q.length▸hi
  refine⟨wc,?_⟩
  have h1:=(x4.get? (e:=en[i]) (k:=(kvs[i]).1) (v:=(kvs[i]).2) (by rw[B5,zK wc]) (iB hk)).1
  have h2:e'.1=(kvs[i]).1:=(q.get he (iB hk)).1
  obtain⟨t,ht⟩:=Value.isInt_shape h1
  rw[ht,<-h2];exact .int _ _
theorem Sk{eQ:Ws}{H₀:Hp}{ws:List Nat}{l ep:Nat}{es:List ((Int×Bool)×V)}{a:Addr}(hl:eQ.φ[l]?=some a)(e:H₀[l]?=some (.dY ep es))(hw:l∈ws):Fz eQ H₀ ws (es.map λp=>oB p.1) a es.length ep:=λP kp hs=>
 P.R.at ((CN hs hw).trans e) λb hb hc=>hc.inv _ λo en kvs x0 x1 x2 x3 x4 q z m=>by
  rw[kp.pre l a hl] at hb;cases hb
  have hz:en.size=es.length:=by rw[q.length,<-xI,x3,bJ]
  refine⟨o,en,x0,x2,hz,bJ _,λi v hv=>?_⟩
  rw[i7] at hv
  refine iE (λv=>∃h:i<en.size,bx P.w v en[i].key) hv λe' he=>?_
  have hi:=(d7.mp he).1
  have wc:i<en.size:=hz▸hi
  have hk:i<kvs.length:=q.length▸hi
  refine⟨wc,?_⟩
  have h1:=entry_at (knd:=pN) x3 i
  rw[zK wc,iB hk] at h1
  rw[dH h1]
  exact(q.get he (iB hk)).2.1
theorem Sl{v:V}{x:Value}{us:List V}(G:Good X)(r:bx P.w v x)(e:keysOf P.H v=some us)(k:qI P tg post Q)(p:post (us,watch v) P.H):wpAny X.M P.A (pyIter x) Q P.Ex P.s:=by
 unfold keysOf at e
 cases ed:j6 P.H v with
 |some es=>
  rw[ed] at e;cases e
  exact th r G ed (λx=>wpAny X.M P.A (pyIter x) Q P.Ex P.s) λl ep a kvs ev hl ha ζ ζ hs ζ=>by
   subst ev
   refine P.R.at hl λb hb hc=>hc.inv _ λo en kvs x0 x1 x2 x3 x4 x5 q z m=>?_
   rw[ha] at hb;cases hb
   have hz:en.size=es.length:=by rw[q.length,<-x4.length,xI]
   exact KM hs x0 x1.1 x2 (yC k _ p (KP (Sj (l:=l) (ep:=ep) ha hl (.head _))) ⟨_,jo _ rfl,rfl,by rw[hz];rfl⟩)
 |none=>
  rw[ed] at e
  cases eP:ux P.H v with
  |some es=>
   rw[eP] at e;cases e
   exact qp r G eP (λx=>wpAny X.M P.A (pyIter x) Q P.Ex P.s) λl ep a kvs ev hl ha ζ ζ hs ζ=>by
    subst ev
    refine P.R.at hl λb hb hc=>hc.inv _ λo en kvs x0 x1 x2 x3 x4 q z m=>?_
    rw[ha] at hb;cases hb
    have hz:en.size=es.length:=by rw[q.length,<-xI,x3,bJ]
    exact KM hs x0 x1.1 x2 (yC k _ p (KP (Sk (l:=l) (ep:=ep) ha hl (.head _))) ⟨_,jo _ rfl,rfl,by rw[hz];rfl⟩)
  |none=>
   rw[eP] at e
   cases v with
   |aF du=>cases e;exact r.inv (λx=>wpAny X.M P.A (pyIter x) Q P.Ex P.s) λa m xs h1 h2 ζ h4=>wpAny_pyIter_tuple ⟨_,h1,rfl,m,rfl⟩ (yC k _ p (Sh (nY _ h1) h4 (h2.mono (P.ext (.push _) P.s.toks).S)) ⟨_,jo _ rfl,rfl,rfl⟩)
   |ref l=>
    exact aP r e (λx=>wpAny X.M P.A (pyIter x) Q P.Ex P.s) λl' a xs m ev hl ha h1 h2 ζ=>by
     cases ev
     exact wpAny_pyIter_list (lK h1) (yC k _ p (KJ (Fy (l:=l) ha hl (.head _))) ⟨_,jo _ rfl,rfl,rfl⟩)
   |i9=>cases e;exact r.inv (λx=>wpAny X.M P.A (pyIter x) Q P.Ex P.s) (Gl.mC G P λxs h1 h2 ζ=>wpAny_pyIter_list h1 (yC k _ p (KJ (Sg G)) ⟨_,jo _ rfl,rfl,rfl⟩))
   |_=>cases e
theorem So{c:E}{e:Expr}(h:cH σ.f c e=true)(env:Env)(x:Value):foldedSetIterable e env x=pure x:=by
 cases e<;>first|rfl|skip
 exfalso
 cases c<;>exact Bool.noConfusion h
theorem Sq{c:E}{e:Expr}(G:Good X)(h0:cH σ.f c e=true)(he:cy σ c e):j8 σ (.of c) e:=
 ⟨So h0,λP tg post Q ζ p k=>he P _ _ p (λv H1 p1 N x r=>aO.k p1 λus hi p1=>Sl (P:=N.pt) G r hi (k.nx N) p1)⟩
theorem KQ{x y:Int}{r:Addr}{t u w:Tok}(k:qI P tg post Q)(hr:IsRange P.s.heap r x y 1 t u w)(hx:x.natAbs<2^60/\y.natAbs<2^60)(p:post (uB x y,[]) P.H):wpAny X.M P.A (pyIter (.ref r)) Q P.Ex P.s:=by
 refine wpAny_pyIter_range hr (small_one ((CO hx.1).1) ((CO hx.1).2) ((CO hx.2).1) ((CO hx.2).2)) (yC k _ p (Si (x:=x) (y:=y)) ?_)
 have e1:x+((0:Nat):Int)=x:=Int.add_zero x
 have e2:(((y - x).toNat:Int) - ((0:Nat):Int))=Builtin.Range.rangeSize x y 1:=by rw[rangeSize_one];split<;>lia
 refine(?_:IsRangeIter _ _ (x+((0:Nat):Int)) (((y - x).toNat:Int) - ((0:Nat):Int)) 1)
 rw[e1,e2]
 exact jo _ rfl
theorem we{P:Fp σ}{g:Expr}{nm:Str}{y:Value}{cs:List E}{es:List Expr}{pos:Pos}{post:List V->Hp->Prop}(G:Good X)(hg:fR σ.f nm g=true)(hm:(nm,y)∈rH)(hy:∃T,y=.type T)(h:fX σ cs es)(p:nC σ.c cs P.ρ P.H post)(k:Fe P.toPt cs.length post λxs ci=>wpAny X.M P.A (call y xs) Q P.Ex ci):wpAny X.M P.A (eval (.Call g es [] pos) P.env) Q P.Ex P.s:=
 gV.k (G:=λg=>wpAny X.M P.A (eval (.Call g es [] pos) P.env) Q P.Ex P.s) hg λx np hg=>aW hg λe ho=>by
  obtain rfl:=eq_of_beq e
  obtain⟨T,rfl⟩:=hy
  exact vw (uF G P hm ho (PySem.callWith_type (h.plain P.env pos) (tn (h.plain P.env pos) (h.rN P _ _ pos p k))))
theorem Sr{b:E}{g e:Expr}{pos:Pos}(G:Good X)(hg:fR σ.f "range" g=true)(h:fX σ [b] [e]):j8 σ (.range (kI 0) b) (.Call g [e] [] pos):=
 ⟨λζ ζ=>rfl,λP tg post Q ζ p k=>we (post:=λvs H=>w1 vs λy=>gH y λj=>((0:Int).natAbs<2^60/\j.natAbs<2^60)/\post (uB 0 j,[]) H) G hg (jT 6 (by decide)) ⟨_,rfl⟩ h p (λvs H1 p1 ζ N xs r=>w1.k p1 (λvs=>bF N.w vs xs->_) (λv p1 r=>gH.k p1 (λv=>bF N.w [v] xs->_) (λj p1 r=>
  r.k1 (λxs=>wpAny X.M P.A (call (.type "range") xs) (λx ci=>wpAny X.M P.A (pyIter x) Q P.Ex ci) P.Ex N.s) λx r=>r.inv (λx=>wpAny X.M P.A (call (.type "range") [x]) (λx ci=>wpAny X.M P.A (pyIter x) Q P.Ex ci) P.Ex N.s) λt=>call_range_1 (KQ (P:=(N.pt.ext (.push _) _).pt) ((k.nx N).nx (N.pt.ext (.push _) _)) (IsRange.new _ _ _ _ _ _ _) p1.1 p1.2)) r) r)⟩
theorem Ss{a b:E}{g e e':Expr}{pos:Pos}(G:Good X)(hg:fR σ.f "range" g=true)(h:fX σ [a,b] [e,e']):j8 σ (.range a b) (.Call g [e,e'] [] pos):=
 ⟨λζ ζ=>rfl,λP tg post Q ζ p k=>we (post:=λvs H=>w2 vs λx y=>Al x y λl=>post (l,[]) H) G hg (jT 6 (by decide)) ⟨_,rfl⟩ h p (λvs H1 p1 ζ N xs r=>w2.k p1 (λvs=>bF N.w vs xs->_) (λu v p1 r=>gH.k p1 (λu=>bF N.w [u,v] xs->_) (λi p1 r=>gH.k p1 (λv=>bF N.w [.int i,v] xs->_) (λj p1 r=>
  r.k2 (λxs=>wpAny X.M P.A (call (.type "range") xs) (λx ci=>wpAny X.M P.A (pyIter x) Q P.Ex ci) P.Ex N.s) λx y r1 r2=>r1.inv (λx=>wpAny X.M P.A (call (.type "range") [x,y]) (λx ci=>wpAny X.M P.A (pyIter x) Q P.Ex ci) P.Ex N.s) λt=>r2.inv (λy=>wpAny X.M P.A (call (.type "range") [_,y]) (λx ci=>wpAny X.M P.A (pyIter x) Q P.Ex ci) P.Ex N.s) λt'=>call_range_2 (KQ (P:=(N.pt.ext (.push _) _).pt) ((k.nx N).nx (N.pt.ext (.push _) _)) (IsRange.new _ _ _ _ _ _ _) p1.1 p1.2)) r) r) r)⟩
end
theorem Ch.KR{h h':Heap}{a b:Addr}(k:∀c o,c≠a->c≠b->h.get? c=some o->h'.get? c=some o)(fa:∀o,h.get? a=some o->fz o=false)(fb:∀o,h.get? b=some o->fz o=false):Ch (λc=>c=a\/c=b) h h':=λc o e hf=>
 (qh (c=a)).elim (λe'=>no (hf (.inl e')) (fa o (e'▸e))) λha=>(qh (c=b)).elim (λe'=>no (hf (.inr e')) (fb o (e'▸e))) λhb=>k c o ha hb e
section
variable{σ:Lv}{tg:Expr}{eQ:Ws}{H₀:Hp}{ws:List Nat}{vs:List V}{a e it:Addr}
theorem FA:∀{us:List V} {k i:Nat},(rI k us)[i]?=us[i]?.map λu=>.aF [.int ((k+i:Nat):Int),u]
 |[],k,i=>rfl
 |u::us,k,0=>rfl
 |u::us,k,i+1=>by
  rw[rI,List.getElem?_cons_succ,List.getElem?_cons_succ,FA,add_right_comm];rfl
theorem Su(tw:vG tg=true)(uI:wa eQ H₀ ws vs a)(fG:e≠it):nG tg eQ H₀ ws (rI 0 vs) e (λc=>c=e\/c=it) (λi h=>(∃old,IsEnum h e it i old)/\h.IsListIter it a i) where
 keep:=λi h h' st hk=>⟨st.1.imp λold q=>hk e (.inl rfl) _ q,st.2.imp λo q=>⟨hk it (.inr rfl) o q.1,q.2⟩⟩
 live:=λi h st b hb=>hb.elim (λhb=>st.1.elim λold q=>⟨_,hb▸q,rfl,rfl⟩) λhb=>st.2.imp λo q=>⟨hb▸q.1,Fx q.2.1 rfl (td q.2.2)⟩
 item:=λP i v Q hh kp hw st fj hv k=>(uI P kp hw).elim λxs hx=>iE (λv=>(∀h' tk y,SR ⟨P.φ,h'⟩ P.H->ca (λc=>c=e\/c=it) P.w ⟨P.φ,h'⟩->((∃old,IsEnum h' e it ((i+1:Nat):Int) old)/\h'.IsListIter it a (i+1))->bx ⟨P.φ,h'⟩ v y->Q y (upd P.s h' tk))->_) (FA▸hv) (λu hu k=>hx.2.get hu λy hy ry=>st.1.elim λold e1=>st.2.elim λo q=>by
  refine wpAny_pyNext_enum_item e1 st.2 hx.1 (by rw[yA];exact hy) fG λh' q1 q2 q3 q4 q5=>Expr.Tuple.elim (motive_1:=λtg=>wpAny X.M P.A (letOwnedTupleGo tg (.ref e) (.ref P.s.heap.objs.size)) (λζ fI=>Q (.ref P.s.heap.objs.size) fI) P.Ex (upd P.s h' (P.s.toks+1))) tg (cu tw) λζ ζ ζ=>wpAny_letOwnedTupleGo_enum (s:=upd P.s h' (P.s.toks+1)) q1 λh2 w1 w2=>?_
  replace w2:SameBut e h' h2:=w2
  have hs:P.s.heap.objs.size≠e:=λe'=>bK (jq P.s.heap (iC e')) e1
  have keep:∀b o,b≠e->b≠it->P.s.heap.get? b=some o->h2.get? b=some o:=λb o n1 n2 x=>w2.extBut b o n1 (q5 b o n1 n2 x)
  have c:Ch (λc=>c=e\/c=it) P.s.heap h2:=.KR keep (λo x=>by rw[e1] at x;cases x;exact oE rfl rfl) (λo' x=>by rw[q.1] at x;cases x;exact oE q.2.1 rfl)
  refine q2.elim λo' q2=>?_
  have gI:h2.get? it=some o':=w2.extBut _ _ fG.symm q2.1
  have S:ca (λc=>c=e\/c=it) P.w ⟨P.φ,h2⟩:=ca.ch (io:=λc=>c=e\/c=it) (q:=P.w) .refl c λb hb=>.inr ⟨hb,hb.elim (λhb=>⟨_,hb▸w1,λo1 x hd=>by rw[hb,show P.w.h.get? e=_ from e1] at x;cases x;exact Bool.noConfusion hd⟩) λhb=>⟨_,hb▸gI,λo1 x hd=>by rw[hb,show P.w.h.get? it=_ from q.1] at x;cases x;exact no hd (td q.2.2)⟩⟩
  have hc:((i+1:Nat):Int)=(i:Int)+1:=rfl
  have h0:((0+i:Nat):Int)=(i:Int):=by rw[qj]
  exact k h2 _ _ (P.R.ch (p:=P.w) fj c) S ⟨⟨y,w1⟩,o',gI,q2.2⟩ (.aF (w2.extBut _ _ hs q3) (.cons (h0▸.int _ _) (.cons (ry.mono S) .nil)) (Nat.le_of_ble_eq_true rfl) (P.R.new (p:=P.w) (jq _ (bX _))).1)) k
 done:=λP i Q hh kp hw st fj hv k=>(uI P kp hw).elim λxs hx=>st.1.elim λold e1=>st.2.elim λo q=>wpAny_pyNext_enum_end hh e1 st.2 hx.1 (none_of hx.2 (Option.map_eq_none_iff.mp (FA▸hv))) λh' he=>
  k h' P.s.toks (.KR (λc o ζ hc x=>he c o hc x) (λo x=>by rw[e1] at x;cases x;exact oE rfl rfl) (λo' x=>by rw[q.1] at x;cases x;exact oE q.2.1 rfl))
 self:=λA s Q Ex st h=>st.1.elim λold e1=>wpAny_pyIter_enum e1 h
theorem Sv{c:E}{g x:Expr}{pos:Pos}(G:Good X)(hg:fR σ.f "enumerate" g=true)(h:fX σ [c] [x]):j8 σ (.oy c) (.Call g [x] [] pos):=
 ⟨λζ ζ=>rfl,λP tg post Q tw p k=>we (post:=λvs H=>w1 vs λy=>aO (dJ H y) λus=>post (rI 0 us,watch y) H) G hg (jT 7 (by decide)) ⟨_,rfl⟩ h p (λvs H1 p1 ζ N xs r=>w1.k p1 (λvs=>bF N.w vs xs->_) (λv p1 r=>aO.k p1 λus hl p1=>r.k1 (λxs=>wpAny X.M P.A (call (.type "enumerate") xs) (λx ci=>wpAny X.M P.A (pyIter x) Q P.Ex ci) P.Ex N.s) λy r=>
  aP (P:=N.pt) r hl (λy=>wpAny X.M P.A (call (.type "enumerate") [y]) (λx ci=>wpAny X.M P.A (pyIter x) Q P.Ex ci) P.Ex N.s) λl a xs m ev gX ha h1 h2 ζ=>by
   subst ev
   refine call_enumerate_list (s:=N.s) (lK h1) λh2 w1 w2 w3 w4=>wpAny_pyIter_enum (s:=upd P.s h2 N.tk) w1 ?_
   have fr:∀b,N.h.objs.size<=b->Ap (N.pt.ext (h':=h2) w4 N.tk).w b/\P.s.heap.get? b=none:=λb hb=>have hn:=jq N.h hb;⟨N.R.new (p:=N.w) hn,N.S.dead hn⟩
   exact k _ _ p1 (N.then (N.pt.ext w4 N.tk)) _ _ _ (Su tw (Fy ha gX (.head _)) (uj _)) ⟨⟨.none,w1⟩,w2⟩ λb hb=>hb.elim (λhb=>fr b (hb▸kO _)) λhb=>fr b (iC hb.symm)) r)⟩
end
section
variable{P:Pt}{l k:Nat}{a:Addr}{Q:Unit->Shared->Prop}{Ex:Value->Shared->Prop}
def uJ(p:Ws)(a:Addr):Prop:=∃oe vs T oT,p.h.get? a=some oe/\oe.data=.fields vs/\yj p vs T oT
theorem KS{o:Obj}{G:Prop}(h:il o=true)(k:∀ts,o.data=.fields ts->3<ts.size->G):G:=by
 unfold il at h
 cases e:o.data with
 |fields ts=>rw[e] at h;exact k ts e (cu (iA.mp h).2)
 |_=>rw[e] at h;cases h
theorem Sw{vs:Array Value}(h:3<vs.size):il {cls:=.type "traceback",data:=.fields vs}=true:=dj h
noncomputable abbrev Pt.soft(P:Pt){h':Heap}(hc:∀b o,b∈P.φ->P.s.heap.get? b=some o->h'.get? b=some o)(h0:aC X.fC h')(hk:∀b o,P.s.heap.get? b=some o->∃o',h'.get? b=some o'/\kR o o')(tk:Nat):Nx P P.H:=
 have K:Kp P.w ⟨P.φ,h'⟩:=⟨λζ ζ e=>e,λb o ζ e hn=>⟨hk b o e,hn⟩⟩
 ⟨P.φ,h',tk,⟨h0,P.R.fresh,P.R.nodup,P.R.len,λl c e=>P.R.at e λb hb r=>⟨b,hb,r.kp K λo y=>hc b o (ie hb) y⟩⟩,
  ⟨λζ ζ e=>e,λb o e ζ ζ=>hk b o e,λζ h1 h2=>absurd h1 h2,λb o e=>(hk b o e).imp λo' x=>⟨x.1,λζ hd=>x.2.fT hd⟩⟩⟩
theorem KT{T:Addr}{oT:Obj}{z:Value}(e:P.s.heap.get? T=some oT)(ht:il oT=true)(hn:T∉P.φ)(h0:X.fC.get? T=none)(kq:∀N:Nx P P.H,(∀b,b≠T->N.h.get? b=P.s.heap.get? b)->Q () N.s):wpAny X.M P.A (setField (.ref T) 3 z) Q Ex P.s:=
 KS ht λts hd hz=>wpAny_setField e hd hz (by
  have hs:=sQ (Obj.mapFields (·.setIfInBounds 3 z)) e (Obj.isFreed_of_fields (zL hd _))
  have ho:∀b,b≠T->(P.s.heap.update T (Obj.mapFields (·.setIfInBounds 3 z))).get? b=P.s.heap.get? b:=λb hb=>xM _ _ (gS hb)
  have vW:il (Obj.mapFields (·.setIfInBounds 3 z) oT)=true:=by
   unfold il at ht ⊢
   rw[zL hd,Obj.cls_mapFields]
   rw[hd] at ht
   exact(b7 (λn=>_&&decide (3<n)) (Array.size_setIfInBounds)).trans ht
  refine kq (P.soft (λb o hb x=>(ho b λe'=>hn (e'▸hb)).trans x) (λb o x=>(ho b λe'=>bK h0 (e'▸x)).trans (P.R.keep b o x)) (λb o x=>?_) P.s.toks) ho
  by_cases e':b=T
  ·subst e'
   rw[e] at x;cases x
   exact⟨_,hs,λζ h=>no ht h,λh=>no ht h,λζ=>vW⟩
  ·exact⟨o,(ho b e').trans x,.refl⟩)
theorem yD{fr:Option Addr}(h:uJ P.w a)(ha:P.φ[l]?=some a)(kq:∀N:Nx P P.H,uJ N.w a->Q () N.s):wpAny X.M P.A (setFlight (.ref a) fr) Q Ex P.s:=by
 obtain⟨oe,vs,T,oT,e1,e2,e3⟩:=h
 unfold setFlight
 refine bj (pB e1 e2 e3.1 ?_)
 rw[bQ (show(Value.ref T != Value.none)=true from rfl)]
 exact KT e3.2.1 e3.2.2.1 e3.2.2.2.1 e3.2.2.2.2 λN hN=>(e3.kp N.S.kp).elim λo' y=>kq N ⟨oe,vs,T,o',(hN a λe=>e3.2.2.2.1 (e▸ie ha)).trans e1,e2,y⟩
theorem KU{α:Type}{l:List α}{i:Nat}{a:α}(h:l[i]?=some a):l.set i a=l:=by
 apply ext_getElem?
 intro j
 rw[List.getElem?_set]
 split
 ·rename_i e;subst e
  rw[bQ (d7.mp h).1,h]
 ·rfl
theorem Sy{T:Addr}{oe oT:Obj}{C:Addr}{vs:Array Value}(hl:P.H[l]?=some (.exc k))(ha:P.φ[l]?=some a)(e1:P.s.heap.get? a=some oe)(e2:X.exc[k]?=some C)(e3:oe.cls=.ref C)(e4:oe.data=.fields vs)(mH:1<vs.size)(eT:P.s.heap.get? T=some oT)(ht:il oT=true)(hn:T∉P.φ)(h0:X.fC.get? T=none)
  (kq:∀N:Nx P P.H,uJ N.w a->Q () N.s):wpAny X.M P.A (setField (.ref a) 1 (.ref T)) Q Ex P.s:=
 wpAny_setField e1 e4 mH (by
  have hd:=zL e4 (·.setIfInBounds 1 (.ref T))
  have hs:=sQ (Obj.mapFields (·.setIfInBounds 1 (.ref T))) e1 (Obj.isFreed_of_fields hd)
  have he:ExtBut a P.s.heap (P.s.heap.update a (Obj.mapFields (·.setIfInBounds 1 (.ref T)))):=λb o hb x=>(xM _ _ (gS hb)).trans x
  have Sz:T≠a:=λe=>hn (e▸ie ha)
  have tb:yj ⟨P.φ,P.s.heap.update a (Obj.mapFields (·.setIfInBounds 1 (.ref T)))⟩ (vs.setIfInBounds 1 (.ref T)) T oT:=⟨by rw[Array.getElem?_setIfInBounds_self];exact bQ mH,he T oT Sz eT,ht,hn,h0⟩
  have c:fW ⟨P.φ,P.s.heap.update a (Obj.mapFields (·.setIfInBounds 1 (.ref T)))⟩ a (.exc k):=.exc hs e2 ((Obj.cls_mapFields _ _).trans e3) hd (.inr ⟨T,oT,tb⟩)
  have N:=P.set ha he c P.s.toks
  exact kq ⟨P.φ,_,P.s.toks,KU hl▸SR.set (p:=P.w) P.R ha he c,c.ob.elim λζ ho=>ca.cell (q:=P.w) .refl (ie ha) he ho⟩ ⟨_,_,T,oT,hs,hd,tb⟩)
theorem SA{e:Value}{env fe:Env}(h:fe.frame=env.frame):noteFrame e env=noteFrame e fe:=by unfold noteFrame PySem.frameOf;rw[h]
theorem pO.KV{A:Around}{p:Ws}:∀{l:List Env},(∀e,e∈l->e.scope.kind=.function/\∃L o,e.frame=some L/\p.h.get? L=some o/\fT o=true/\Ap p L)->p.h.FunFrames X.fC l/\∀b,b∈l.filterMap (·.frame)->∃o,p.h.get? b=some o/\fT o=true/\Ap p b
 |[],_=>⟨trivial,λζ h=>nomatch h⟩
 |e::l,H=>by
  have x:=H e (.head _)
  have r:=pO.KV (A:=A) λe he=>H e (.tail _ he)
  obtain⟨hk,L,o,h1,h2,h3,h4⟩:=x
  refine And.intro ⟨(by rw[hk];exact λh=>nomatch h),⟨L,o,h1,h4.2,h2,λvs hv=>no h3 (td hv)⟩,r.1⟩ λb hb=>?_
  rw[List.filterMap_cons,h1] at hb
  exact(gB.mp hb).elim (λe=>e▸⟨o,h2,h3,h4⟩) (r.2 b)
theorem SD{fe:Env}{outer:List Env}{L:Addr}{Q:Value->Shared->Prop}(hA:P.A.frames=some (fe::outer))(hL:fe.frame=some L)(kq:∀N:Nx P P.H,(∀b,b∈P.φ->N.h.get? b=P.s.heap.get? b)->Q (.ref L) N.s):wpAny X.M P.A (PySem.frameOf fe) Q Ex P.s:=by
 have jU:lJ P.A=fe::outer:=by unfold lJ;rw[hA];rfl
 have fr:=pO.KV (A:=P.A) (p:=P.w) (l:=fe::outer) λe he=>P.fr e (jU▸he)
 refine wpAny_frameOf_fun hA fr.1 hL λiq hs=>?_
 have ho:∀b o,P.s.heap.get? b=some o->fT o=false->iq.get? b=some o:=λb o e hd=>(hs.2.1 b λhm=>(fr.2 b hm).elim λo' x=>by rw[show P.w.h.get? b=some o from e] at x;cases x.1;exact no x.2.1 hd).trans e
 have AA:∀b,Ap P.w b\/iq.get? b=P.s.heap.get? b:=λb=>(qh (b∈(fe::outer).filterMap (·.frame))).elim (λh=>(fr.2 b h).elim λζ x=>.inl x.2.2) λh=>.inr (hs.2.1 b h)
 have hc:∀b,b∈P.φ->iq.get? b=P.s.heap.get? b:=λb hb=>(AA b).elim (λh=>absurd hb h.1) id
 exact kq (P.soft (h':=iq) (λb o hb x=>(hc b hb).trans x) (λb o x=>(AA b).elim (λh=>bK h.2 x) λh=>h.trans (P.R.keep b o x)) (λb o x=>(hs.2.2 b o x).elim λsl y=>by
  cases hd:fT o with
  |true=>exact⟨_,y,λh=>no hd h,λζ=>⟨rfl,rfl⟩,λh=>no h (Fa hd)⟩
  |false=>exact⟨o,ho b o x hd,.refl⟩) P.s.toks) hc
theorem KW{fe:Env}{outer:List Env}{L:Addr}{head:Value}{nx:Bool}{oe:Obj}{C:Addr}{vs:Array Value}(hA:P.A.frames=some (fe::outer))(hL:fe.frame=some L)(hl:P.H[l]?=some (.exc k))(ha:P.φ[l]?=some a)(e1:P.s.heap.get? a=some oe)(e2:X.exc[k]?=some C)(e3:oe.cls=.ref C)(e4:oe.data=.fields vs)(mH:1<vs.size)(kq:∀N:Nx P P.H,uJ N.w a->Q () N.s):
  wpAny X.M P.A (do let f <-PySem.frameOf fe;let pl <-entryPlaceOf L nx;let b <-EntryCells.newEntry head f .none (rawInt L) .none pl;setField (.ref a) 1 b) Q Ex P.s:=by
 refine bj (SD hA hL λN hN=>bj (wpAny_entryPlaceOf λpl oG=>?_))
 unfold EntryCells.newEntry newFields
 refine bj (xK ?_ (oG.sizeOk5 _ _ _ _ _))
 have hn:=jq N.h (bX _)
 have ap:=N.R.new (p:=N.w) hn
 exact Sy (P:=(N.pt.ext (.push _) N.tk).pt) hl (N.S.pre _ _ ha) (nY _ ((hN a (ie ha)).trans e1)) e2 e3 e4 mH (jo _ rfl) (by
  refine Sw ?_
  rw[lE,b6]
  exact cL (show 3<5 by decide) (eV _ _)) ap.1 ap.2 λN2 h2=>kq (N.then ((N.pt.ext (.push _) N.tk).then N2)) h2
theorem CP{env:Env}(hf:∃fe,(lJ P.A).head?=some fe/\fe.frame=env.frame)(hl:P.H[l]?=some (.exc k))(ha:P.φ[l]?=some a)(kq:∀N:Nx P P.H,uJ N.w a->Q () N.s):wpAny X.M P.A (noteFrame (.ref a) env) Q Ex P.s:=by
 obtain⟨fe,outer,hA,_⟩:=P.rm.frames
 have jU:lJ P.A=fe::outer:=by unfold lJ;rw[hA];rfl
 obtain⟨fe',h1,h2⟩:=hf
 rw[jU] at h1
 cases h1
 rw[SA h2]
 obtain⟨_,L,oL,hL,_⟩:=P.fr fe (jU▸.head _)
 refine P.R.at hl λb hb hc=>?_
 rw[ha] at hb;cases hb
 refine hc.inv _ λoe Ca vs e1 e2 e3 e4 e5=>?_
 unfold noteFrame
 simp only[hL]
 rcases e5 with e5|⟨T,oT,e5⟩
 ·refine bj (pB e1 e4 e5 ?_)
  rw[bH (by decide)]
  exact KW hA hL hl ha e1 e2 e3 e4 (Array.getElem?_eq_some_iff.mp e5).1 kq
 ·refine bj (pB e1 e4 e5.1 ?_)
  rw[bQ (show(Value.ref T != Value.none)=true from rfl)]
  refine KS e5.2.2.1 λts f2 f3=>bj (pB e5.2.1 f2 (zK f3) ?_)
  by_cases hz:(ts[3]==rawInt L)=true
  ·rw[bQ hz]
   exact bU (kq (P.gY P.s.toks) ⟨oe,vs,T,oT,e1,e4,e5⟩)
  ·rw[bH hz]
   exact bj (KT e5.2.1 e5.2.2.1 e5.2.2.2.1 e5.2.2.2.2 λN hN=>KW (P:=N.pt) hA hL hl (N.S.pre _ _ ha) ((hN a λe=>e5.2.2.2.1 (e▸ie ha)).trans e1) e2 e3 e4 (Array.getElem?_eq_some_iff.mp e5.1).1 λN2 h2=>kq (N.then N2) h2)
theorem SE{env:Env}(hf:∃fe,(lJ P.A).head?=some fe/\fe.frame=env.frame)(hl:P.H[l]?=some (.exc k))(ha:P.φ[l]?=some a)(kq:∀N:Nx P P.H,uJ N.w a->Q () N.s):wpAny X.M P.A (leaving env (.ref a)) Q Ex P.s:=
 bj (CP hf hl ha λN hN=>yD (P:=N.pt) hN (N.S.pre _ _ ha) λN2 h2=>kq (N.then N2) h2)
theorem SF{env:Env}(hf:∃fe,(lJ P.A).head?=some fe/\fe.frame=env.frame)(hl:P.H[l]?=some (.exc k))(ha:P.φ[l]?=some a)(kq:∀N:Nx P P.H,Ex (.ref a) N.s):notedBy X.M P.A env (λe s'=>cameBackBy X.M P.A env Ex e s') (.ref a) P.s:=
 CP hf hl ha λN hN=>by
  obtain⟨oe,vs,T,oT,e1,e2,e3⟩:=id hN
  unfold cameBackBy
  refine bj (pB e1 e2 e3.1 ((?_:wpAny X.M P.A (if(Value.ref T==Value.none)=true then _ else setFlight (.ref a) env.frame) _ _ _)))
  rw[bH (show ¬((Value.ref T==Value.none)=true) from gM)]
  exact yD (P:=N.pt) hN (N.S.pre _ _ ha) λN2 ζ=>kq (N.then N2)
theorem Fp.back{σ:Lv}(P:Fp σ):uE P.own P.w P.s (xq σ.x) (notedBy X.M P.A P.env λe s'=>cameBackBy X.M P.A P.env P.Ex e s'):=λv H p φ h tk R S y r=>
 (uk.mp p.1).elim λj ej=>cellAt.k ej (λv=>σ.x v H->bx ⟨φ,h⟩ v y->_) (λl c hl hc q r=>pJ.k (λc=>H[l]?=some c->_) hc (λhl=>r.inv (λy=>notedBy X.M P.A P.env (λe s'=>cameBackBy X.M P.A P.env P.Ex e s') y (upd P.s h tk)) λa ha=>
  SF (P:=⟨P.A,φ,H,upd P.s h tk,P.Ex,P.rm,R,P.fr.l7 S⟩) P.hf hl ha λN=>P.kx _ _ q N.φ N.h N.tk N.R (S.trans N.S.nil) _ (.ref (N.S.pre _ _ ha))) hl) p.2 r
end
section
variable{A:Around}{R:Result->Shared->Prop}{s:Shared}
theorem SG{target:Expr}{it:Value}{body:List Stmt}{env:Env}{Ex:Value->Shared->Prop}(eE:Ex=notedBy X.M A env λe s'=>R (.error e) s')(I:Nat->Shared->Prop)
  (turn:∀n s,I n s->wpAny X.M A (pyNext it) (λr ci=>r=none/\R (.ok .next) ci) NE s\/wpAny X.M A (pyNext it) (λr ci=>aO r λv=>
    wpAny X.M A (letOwnedTupleGo target it v) (λζ ci=>wpAny X.M A (assign target env v) (λζ fI=>wpAny X.M A (execs body env) (λf ma=>match f with
     |.next | .cont=>∃m,m<n/\I m ma
     |.brk=>R (.ok .next) ma
     |.ret v=>R (.ok (.ret v)) ma) Ex fI) Ex ci) NE ci) NE s)
  (n:Nat) (h:I n s):codeAny X.M A (.forLoop target it body [] env) R s:=by
 subst eE
 refine codeAny_loop' rfl I (λn s hI=>((wpAny_noted (bj (wpAny_standAt (bj (wpAny_onRaise ((turn n s hI).elim (λht=>ig ht (λr ci iq=>?_) λζ ζ h'=>h'.elim) λht=>ig ht (λr ci iq=>?_) λζ ζ h'=>h'.elim))))):wpAny _ _ ((forTurn target it body [] env).onRaise (λx=>do noteFrame x env;theTreesLotGoes x)) _ _ s))) n h
 ·rw[iq.1];exact bU (.inr ⟨rfl,codeAny_block (vx iq.2)⟩)
 ·refine aO.k iq λv e iq=>?_
  subst e
  refine bj (ig iq (λζ fI kX=>bj (ig kX (λζ fI kX=>bj (ig kX (λf ma wg=>?_) λζ ζ h'=>h')) λζ ζ h'=>h')) λζ ζ h'=>h'.elim)
  cases f with
  |next=>exact bU (.inl ⟨rfl,wg⟩)
  |cont=>exact bU (.inl ⟨rfl,wg⟩)
  |brk=>exact bU wg
  |ret v=>exact bU wg
end
section
variable{σ:Lv}{tg:Expr}{io:Addr->Prop}{St:Nat->Heap->Prop}{ρ:bv}{H:Hp}
theorem Sx.ch{P:Fp σ}{h':Heap}(N:Sx P ρ H)(c:Ch io N.h h')(fj:∀a,io a->Ap N.w a)(oH:∀a,io a->P.s.heap.get? a=none)(tk:Nat):∃N':Sx P ρ H,N'.φ=N.φ/\N'.h=h'/\N'.tk=tk:=
 ⟨⟨N.φ,h',tk,N.R.ch (p:=N.w) fj c,N.F.ch (p:=N.w) c λa ha hi=>(P.F.live a ha).elim λo e=>bK (oH a hi) e,ca.ch (q:=N.w) N.S c λa hi=>.inl (oH a hi)⟩,rfl,rfl,rfl⟩
noncomputable abbrev Sx.AB{P:Fp σ}{h':Heap}(N:Sx P ρ H)(R:SR ⟨N.φ,h'⟩ H)(S:ca io N.w ⟨N.φ,h'⟩)(oH:∀a,io a->P.s.heap.get? a=none)(tk:Nat):Sx P ρ H:=
 ⟨N.φ,h',tk,R,N.F.mono S λa ha hi=>(P.F.live a ha).elim λo e=>bK (oH a hi) e,ca.ow (own:=λa=>P.own a\/io a) ((N.S.ow λζ h=>.inl (.inl h)).trans (S.ow λζ h=>.inl (.inr h))) λa h=>h.imp id λhi=>oH a hi⟩
inductive FC(P:Fp σ)(eQ:Ws)(H₀:Hp)(ws:List Nat)(vs:List V)(io:Addr->Prop)(St:Nat->Heap->Prop)(t:d8)(body:List S)(K:Out->Prop)(j:Nat)(s:Shared):Prop
 |mk (i:Nat) (ρ:bv) (H:Hp) (N:Sx P ρ H) (e:s=N.s) (ej:j=(vs.drop i).length+1) (kp:Kp eQ N.w) (hw:fS ws H₀ H=true) (st:St i N.h) (fj:∀a,io a->Ap N.w a) (p:pL ws H₀ t (λρ H K=>aX σ.c body ρ H K) (vs.drop i) ρ H K):FC P eQ H₀ ws vs io St t body K j s
theorem drop_cons{α:Type}{l:List α}{i:Nat}{a:α}(h:l[i]?=some a):l.drop i=a::l.drop (i+1):=by
 have h:=d7.mp h
 rw[List.drop_eq_getElem_cons h.1,h.2]
def iT(σ:Lv)(cs:List S)(ss:List Stmt):Prop:=
 ∀(P:Fp σ) (K:Out->Prop) (Q:Flow->Shared->Prop),(∀ρ H,K (.next ρ H)->∀N:Sx P ρ H,Q .cont N.s)->vY P.env P.own σ.f.ns->aX σ.c cs P.ρ P.H K->KO P K Q->wpAny X.M P.A (execs ss P.env) Q P.Ex P.s
theorem SH{t:d8}{it:It}{iter:Expr}{body:List S}{bs:List Stmt}{pos:Pos}(hh:σ.f.hd=false)(ht:lI σ.f t tg=true)(tw:ya it tg=true)(gI:j8 σ it iter)(hb:iT (σ.ex (xq σ.x)) body bs):SS σ (.for t it body) (.For tg iter bs [] pos):=λP K Q ho p k=>by
 refine wpAny_For (gI.2 P tg _ _ tw p (λq H1 p1 N0 I io St pQ qJ fj=>?_)) (gI.1 P.env)
 have oH:∀a,io a->P.s.heap.get? a=none:=λa ha=>(fj a ha).2
 have uK:∀{a:Addr} {G:Prop},io a->P.own a->G:=λha tj=>(P.F.live _ (ho.2 _ tj)).elim λo e=>bK (oH _ ha) e
 have k:=k.ex P.back
 refine SG rfl (FC (P.ex _ _ P.back) N0.w H1 q.2 q.1 io St t body K) (λj s' w=>w.casesOn λi ρ H N e ej kp hw st wi p'=>?_) (q.1.length+1) ⟨0,P.ρ,H1,⟨N0.φ,N0.h,N0.tk,N0.R,P.F.mono N0.S λζ ζ h=>h,N0.S.nil⟩,rfl,by rw[drop_zero],.refl,KI _ _,qJ,λa ha=>(fj a ha).1,by rw[drop_zero];exact p1⟩
 subst e ej
 cases hv:q.1[i]? with
 |none=>
  refine .inl (pQ.done N.fp.no.toPt i _ (P.calm hh) kp hw st wi hv λh2 lL c=>⟨rfl,?_⟩)
  rw[xE.mpr (sP.mp hv)] at p'
  exact(N.ch c wi oH lL).elim λN' e=>by have:=k.next _ _ p' N';rw[show N'.s=upd P.s N'.h N'.tk from rfl,e.2.1,e.2.2] at this;exact this
 |some v=>
  have hd:=drop_cons hv
  rw[hd] at p'
  refine aO.k p' λAC ha p'=>.inr (pQ.item N.fp.no.toPt i v _ (P.calm hh) kp hw st wi hv λh2 lL y R2 S2 j2 r2=>yv t tg (N.AB R2 S2 oH lL).fp v y AC _ ht (λx hx=>ho.1 x (Ax (σ:=σ) t tg ht x hx)) r2 ha λN3=>?_)
  have kn:∀CQ H4,qD K (λgW H₁=>fS q.2 H1 H₁=true/\pL q.2 H1 t (λρ H K=>aX σ.c.xq body ρ H K) (q.1.drop (i+1)) gW H₁ K) (.next CQ H4)->∀N4:Sx ((N.AB R2 S2 oH lL).then N3).fp CQ H4,∃m,m<(q.1[i]? |>.elim 0 λζ=>(q.1.drop i).length+1)/\FC (P.ex _ _ P.back) N0.w H1 q.2 q.1 io St t body K m N4.s:=λCQ H4 p4 N4=>by
    have hk:∀a,io a->∀o,h2.get? a=some o->N4.h.get? a=some o:=λa ha o e=>(pQ.live _ _ j2 a ha).elim λo' x=>by
     rw[show h2.get? a=some o' from x.1] at e;cases e
     exact N4.S.same (N3.S.same x.1 (wi a ha).1 (λh=>uK ha h) x.2.1 x.2.2) (N3.S.rK x.1 (wi a ha).1) (λh=>uK ha h) x.2.1 x.2.2
    exact⟨(q.1.drop (i+1)).length+1,by rw[hv,hd];exact jH _,i+1,CQ,H4,((N.AB R2 S2 oH lL).then N3).then N4,rfl,rfl,(kp.trans S2.kp).trans (N3.S.kp.trans N4.S.kp),p4.1,pQ.keep _ _ _ j2 hk,λa ha=>⟨(pQ.live _ _ j2 a ha).elim λo e=>(N3.S.trans N4.S).rK e.1 (wi a ha).1,(wi a ha).2⟩,p4.2⟩
  rw[hv] at kn
  exact hb ((N.AB R2 S2 oH lL).then N3).fp _ _ kn ho p' ⟨kn,λv4 H4 p4 φ h tk R S x r=>k.ret v4 H4 p4 φ h tk R (((N.AB R2 S2 oH lL).then N3).S.trans S) x r⟩
end
theorem FD{env:Env}{G:Prop}:∀(names:List (Str×NameKind)) (acc:List (Str×Addr)),(∀p,p∈acc->env.cells.lookup p.1=some p.2)->(∀p,p∈names->p.2=.free->∃c,env.cells.lookup p.1=some c) ->
  (∀cl:List (Str×Addr),(forIn names acc λ(x:Str×NameKind) (cs:List (Str×Addr))=>if(x.2==NameKind.free)=true then(do let c <-cellOf env x.1;pure (ForInStep.yield ((x.1,c)::cs))) else pure (ForInStep.yield cs):Sem (List (Str×Addr)))=pure cl ->
   (∀p,p∈cl->env.cells.lookup p.1=some p.2)->(∀p,p∈acc->p∈cl)->(∀x,(x,NameKind.free)∈names->∃c,(x,c)∈cl)->G)->G
 |[],acc,h,_,k=>k acc rfl h (λζ h=>h) λζ h=>nomatch h
 |(x,j)::r,acc,h,hn,k=>by
  by_cases hk:(j==NameKind.free)=true
  ·obtain rfl:=eq_of_beq hk
   exact(hn (x,.free) (.head _) rfl).elim λc hc=>FD r ((x,c)::acc) (λp hp=>(gB.mp hp).elim (λe=>e▸hc) (h p)) (λp hp=>hn p (.tail _ hp)) λcl e h1 h2 h3=>k cl (by
    rw[forIn_cons,if_pos hk,show cellOf env (x,NameKind.free).1=pure c by unfold cellOf;rw[hc]]
    exact e) h1 (λp hp=>h2 p (.tail _ hp)) λy hy=>(gB.mp hy).elim (λe=>⟨c,h2 _ (by rw[(Prod.mk.inj e).1];exact .head _)⟩) (h3 y)
  ·exact FD r acc h (λp hp=>hn p (.tail _ hp)) λcl e h1 h2 h3=>k cl (by rw[forIn_cons,bH hk];exact e) h1 h2 λy hy=>(gB.mp hy).elim (λe=>absurd (beq_iff_eq.mpr (Prod.mk.inj e).2.symm) hk) (h3 y)
theorem KX{α:Type}{x:Str}{c:α}:∀{l:List (Str×α)},(x,c)∈l->∃d,l.lookup x=some d
 |(y,e)::r,h=>by
  rw[nZ]
  cases hb:x==y with
  |true=>exact⟨_,rfl⟩
  |false=>exact(gB.mp h).elim (λh=>by rw[(Prod.mk.inj h).1,hX] at hb;cases hb) KX
theorem KY{x:Str}{k:NameKind}:∀{l:List (Str×NameKind)},(l.map (·.1)).Nodup->(x,k)∈l->l.lookup x=some k
 |(y,j)::r,hn,h=>by
  rw[nZ]
  have hn:=nj.mp hn
  cases hb:x==y with
  |true=>exact(gB.mp h).elim (λe=>by rw[(Prod.mk.inj e).2]) λh=>absurd (ii.mpr ⟨(x,k),h,eq_of_beq hb⟩) hn.1
  |false=>exact(gB.mp h).elim (λe=>by rw[(Prod.mk.inj e).1,hX] at hb;cases hb) (KY hn.2)
def AD(f:Sn)(loc:List Str)(x:Str):NameKind->Prop
 |.local=>x=(".0":Str)\/x∈loc
 |.cell=>False
 |.free=>x∈f.ns/\x∉loc/\tf (f.sc.names.lookup x)
 |.globalImplicit=>True
 |.globalExplicit=>False
structure rP(f:Sn)(loc:List Str)(cs:Scope):Prop where
 kind:cs.kind=.function
 gen:cs.isGenerator=false/\cs.isCoroutine=false
 nodup:(cs.names.map (·.1)).Nodup
 all:∀p,p∈cs.names->AD f loc p.1 p.2
 SI:∀x,x∈loc->cs.names.lookup x=some .local
 SJ:(".0":Str)∉f.ns
theorem CR{b:Bool}(h:(!b)=true):b=false:=by cases b<;>first|rfl|cases h
theorem wj{x:Str}{l:List Str}(h:(!l.contains x)=true):x∉l:=λhm=>by rw[contains_iff_mem.mpr hm] at h;cases h
theorem AD.of{f:Sn}{loc:List Str}{p:Str×NameKind}(h:(match p.2 with
  |.local=>p.1==(".0":Str)||loc.contains p.1
  |.cell=>false
  |.free=>f.ns.contains p.1&&(!loc.contains p.1&&E5 (f.sc.names.lookup p.1))
  |.globalImplicit=>true
  |.globalExplicit=>false)=true):AD f loc p.1 p.2:=by
 cases p with
 |mk x k=>
  cases k with
  |«local»=>exact(rD.mp h).imp eq_of_beq contains_iff_mem.mp
  |free=>exact aW h λa b=>aW b λb c=>⟨contains_iff_mem.mp a,wj b,c⟩
  |globalImplicit=>trivial
  |_=>cases h
theorem Af.sc{f:Sn}{cs:Scope}{loc:List Str}(h:Af f loc cs=true):rP f loc cs:=
 aW h λh1 h=>aW h λh2 h=>aW h λh3 h=>aW h λh4 h=>aW h λh5 h=>aW h λh6 h7=>
  ⟨cu h1,⟨CR h2,CR h3⟩,cu h4,λp hp=>AD.of (j1.mp h5 p hp),λx hx=>cu (j1.mp h6 x hx),wj h7⟩
section
variable{σ:Lv}{cs:Scope}{ns loc:List Str}{env:Env}{h':Heap}{cl:List (Str×Addr)}{D:Addr}
theorem K0{x:Str}(G:Option NameKind->Option NameKind->Prop)(h1:∀k,G k k)(h2:G (some .free) (some .cell)):G (cs.names.lookup x) ((relabel cs env).names.lookup x):=by
 unfold relabel
 refine(?_:G (cs.names.lookup x) ((cs.names.map _).lookup x))
 induction cs.names with
 |nil=>exact h1 _
 |cons p r ih=>
  obtain⟨y,k⟩:=p
  rw[nk]
  refine(?_:G _ (((if(k==NameKind.free&&env.scope.kind==.function&&env.kindOf y==some .cell)=true then(y,NameKind.cell) else(y,k))::_).lookup x))
  by_cases hc:(k==NameKind.free&&env.scope.kind==.function&&env.kindOf y==some .cell)=true
  ·rw[bQ hc,nZ,nZ]
   cases hx:x==y with
   |true=>exact aW hc λa ζ=>aW a λa ζ=>by rw[eq_of_beq a];exact h2
   |false=>exact ih
  ·rw[bH hc,nZ,nZ]
   cases hx:x==y with
   |true=>exact h1 _
   |false=>exact ih
theorem SK:Kinds cs (compEnvC cs cl D env):=λx=>K0 (env:=env) (λa b=>Kj a b) (λζ=>.inl rfl) (.inr ⟨rfl,rfl⟩)
theorem K1(P:Fp σ){x:Str}(h:tf (σ.f.sc.names.lookup x)):tf (P.env.kindOf x):=(P.kd x).elim (λe=>e▸h) λe=>e.2
theorem SM{x:Str}{k:NameKind}(h:(relabel cs env).names.lookup x=some k):cs.names.lookup x=some k\/(k=.cell/\cs.names.lookup x=some .free):=
 K0 (cs:=cs) (env:=env) (x:=x) (λa b=>b=some k->a=some k\/(k=.cell/\a=some .free)) (λζ h=>.inl h) (λh=>.inr ⟨(dH h).symm,rfl⟩) h
theorem rP.nm{f:Sn}(c:rP f loc cs){x:Str}{k:NameKind}(h:cs.names.lookup x=some k):AD f loc x k:=c.all _ (mem_lookup h)
theorem rP.fc{env':Env}(P:Fp σ)(hk:env'.scope.kind=.function)(hg:env'.scope.isGenerator=false/\env'.scope.isCoroutine=false)(h1:env'.globals=mainGlobals)(h2:env'.builtins=builtinsNs)(kZ:∀p,p∈env'.cells->P.env.cells.lookup p.1=some p.2)(hC:P.s.heap.get? env'.locals=none):Fc env':=
 ⟨hk,h1,h2,⟨hg.1,hg.2,by unfold interactive;rw[hk];rfl⟩,
  λx y c h1 h2=>P.F.fc.apart x y c (kZ _ (mem_lookup h1)) (kZ _ (mem_lookup h2)),λq hq e=>(P.F.live _ (yl (kZ q hq))).elim λo e'=>bK (e▸hC) e'⟩
theorem K2{x:Str}{ρl ρ:bv}(hl:ρl.length=loc.length)(hx:x∈loc):lk (loc++ns) (ρl++ρ) x=lk loc ρl x:=by
 unfold lk
 rw[List.idxOf_append,bQ hx,sL (by rw[hl];exact zJ hx)]
theorem K3{x:Str}{ρl ρ:bv}(hl:ρl.length=loc.length)(hx:x∉loc):lk (loc++ns) (ρl++ρ) x=lk ns ρ x:=by
 unfold lk
 rw[List.idxOf_append,bH hx,pv (by rw[hl];exact vy _ _),hl,Nat.add_sub_cancel]
theorem FE{x:Str}:lk loc (replicate loc.length none) x=none:=by
 unfold lk
 rw[List.getElem?_replicate]
 split<;>rfl
theorem rP.fr{env':Env}{ρl:bv}{m:Str->Option Value}(c:rP σ.f loc cs)(P:Fp σ)(fc:Fc env')(hk:∀x k,env'.kindOf x=some k->cs.names.lookup x=some k\/(k=.cell/\cs.names.lookup x=some .free))(kZ:∀p,p∈env'.cells->P.env.cells.lookup p.1=some p.2)(AE:∀x,(x,NameKind.free)∈cs.names->∃c,(x,c)∈env'.cells)(hC:P.s.heap.get? env'.locals=none)(e:aC P.s.heap h')(hn:h'.Ns env'.locals m)
  (hl:ρl.length=loc.length) (hm:∀x,x∈loc->kU ⟨P.φ,h'⟩ (lk loc ρl x) (m x)):FR env' (loc++σ.f.ns) (ρl++P.ρ) ⟨P.φ,h'⟩:=
 ⟨fc,by rw[b6,b6,hl,P.F.len],
  ⟨_,hn,λx hx h=>(hk x _ h).elim (λh=>(qh (x∈loc)).elim (λhx=>by rw[K2 hl hx];exact hm x hx) λwl=>((c.nm h).elim (λe=>absurd (e▸(cY.mp hx).resolve_left wl) c.SJ) λhl=>absurd hl wl)) λh=>nomatch h.1⟩,
  λx hx h=>by
   have hf:cs.names.lookup x=some .free:=by
    cases ek:env'.kindOf x with
    |none=>rw[ek] at h;cases h
    |some k=>
     rw[ek] at h
     exact(hk x k ek).elim (λe=>by
      cases k with
      |free=>exact e
      |cell=>exact(c.nm e).elim
      |_=>cases h) λe=>e.2
   have q:=c.nm hf
   exact(AE x (mem_lookup hf)).elim λd hd=>(KX hd).elim λd hd=>(P.F.vR x q.1 (K1 P q.2.2)).elim λc1 w=>w.elim λv w=>by
    have:=kZ _ (mem_lookup hd)
    rw[show P.env.cells.lookup x=some d from this] at w
    cases w.1
    exact⟨d,v,hd,Fd w.2.1 (e _),by rw[K3 hl q.2.1];exact w.2.2.kp (P.toPt.ext e 0).S.kp⟩,
  λa ha=>ha.elim (λea=>(by rw[ea];exact P.R.new (p:=P.w) hC)) λw=>w.elim λy hy=>P.F.ap _ (yl (kZ _ (mem_lookup hy))),
  λa ha=>ha.elim (λea=>by rw[ea];exact hn.imp λo w=>w.elim λζ w=>w.elim λζ w=>w.1) λw=>w.elim λy hy=>(P.F.live _ (yl (kZ _ (mem_lookup hy)))).imp λo x=>e _ _ x⟩
theorem rP.frame(c:rP σ.f loc cs)(P:Fp σ)(kZ:∀p,p∈cl->P.env.cells.lookup p.1=some p.2)(AE:∀x,(x,NameKind.free)∈cs.names->∃c,(x,c)∈cl)(hC:P.s.heap.get? D=none)(e:aC P.s.heap h')(hn:h'.Ns D (λζ=>none)):FR (compEnvC cs cl D P.env) (loc++σ.f.ns) (replicate loc.length none++P.ρ) ⟨P.φ,h'⟩:=
 c.fr P (rP.fc P c.kind c.gen P.F.fc.glob P.F.fc.blt kZ hC) (λx k h=>SM (cs:=cs) (env:=P.env) h) kZ AE hC e hn List.length_replicate λx hx=>by rw[FE];exact .none
end
section
variable{A:Around}{R:Result->Shared->Prop}{s:Shared}
theorem SN{elt target iter:Expr}{ifs:List Expr}{scope:Scope}{pos:Pos}{it acc:Value}{env:Env}(I:Nat->Shared->Prop)
  (turn:∀n s,I n s->wpAny X.M A (pyNext it) (λr ci=>r=none/\R (.ok .next) ci) NE s\/wpAny X.M A (pyNext it) (λr ci=>aO r λv=>
    wpAny X.M A (letOwnedTupleGo target it v) (λζ FF=>wpAny X.M A (assign target env v) (λζ fI=>
     wpAny X.M A (forIn ifs true λc r=>if r=true then do let ok <-isTrue c env (eval c env);pure (ForInStep.yield ok) else pure (ForInStep.yield r)) (λok ma=>
      cD ok (wpAny X.M A (eval elt env) (λx K4=>wpAny X.M A (call (.builtin "list.append") [acc,x]) (λζ K5=>∃m,m<n/\I m K5) NE K4) NE ma) (∃m,m<n/\I m ma)) NE fI) NE FF) NE ci) NE s)
  (n:Nat) (h:I n s):codeAny X.M A (.compLoop (.ListComp elt [⟨target,iter,ifs,0⟩] scope pos) 0 it acc env) R s:=by
 refine codeAny_loop rfl I (λn s hI=>((wpAny_noted ?_:wpAny _ A ((compTurn (.ListComp elt [⟨target,iter,ifs,0⟩] scope pos) 0 it acc env).onRaise (λx=>do noteFrame x env;theTreesLotGoes x)) _ _ s))) n h
 rw[compTurn_list]
 refine bj (wpAny_standAt (bj ((turn n s hI).elim (λht=>ig ht (λr ci iq=>?_) λζ ζ h'=>h'.elim) λht=>ig ht (λr ci iq=>?_) λζ ζ h'=>h'.elim)))
 ·rw[iq.1];exact bU iq.2
 ·refine aO.k iq λv e iq=>?_
  subst e
  refine bj (ig iq (λζ FF fC=>bj (ig fC (λζ fI kX=>bj (ig kX (λok ma wg=>?_) λζ ζ h'=>h'.elim)) λζ ζ h'=>h'.elim)) λζ ζ h'=>h'.elim)
  cases ok with
  |false=>exact bU ⟨rfl,wg⟩
  |true=>exact bj (bj (ig wg (λx K4 SO=>bj (ig SO (λζ K5 SP=>bU (bU ⟨rfl,SP⟩)) λζ ζ h'=>h'.elim)) λζ ζ h'=>h'.elim))
end
section
variable{σ:Lv}{io own:Addr->Prop}{St:Nat->Heap->Prop}{eQ:Ws}{D:Addr}{i:Nat}{acc:List V}{ρ cg:bv}{H H':Hp}
structure Cx(P₀:Pt)(P:Fp σ.no)(D:Addr)(io:Addr->Prop)(St:Nat->Heap->Prop)(i:Nat)(acc:List V)(ρ:bv)(H:Hp)where
 φ:List Addr
 h:Heap
 tk:Nat
 ys:List Value
 k:Nat
 R:SR ⟨φ,h⟩ H
 F:FR P.env σ.f.ns ρ ⟨φ,h⟩
 fr:pO P.A ⟨φ,h⟩
 S:ca je P₀.w ⟨φ,h⟩
 kp:Kp P.w ⟨φ,h⟩
 st:St i h
 fj:∀a,io a->Ap ⟨φ,h⟩ a
 aD:Ap ⟨φ,h⟩ D
 hD:h.get? D=some (jb ys k)
 ra:bF ⟨φ,h⟩ acc ys
structure Cn(P₀:Pt)(P:Fp σ.no)(D:Addr)(io:Addr->Prop):Prop where
 new:∀a,a=P.env.locals\/a=D\/io a->P₀.s.heap.get? a=none
 ne:∀a,oF P.env a->a≠D/\¬io a
 D:¬io D
variable{P₀:Pt}{P:Fp σ.no}
noncomputable abbrev Cx.w(c:Cx P₀ P D io St i acc ρ H):Ws:=⟨c.φ,c.h⟩
noncomputable abbrev Cx.s(c:Cx P₀ P D io St i acc ρ H):Shared:=upd P.s c.h c.tk
noncomputable abbrev Cx.fp(c:Cx P₀ P D io St i acc ρ H):Fp σ.no:=⟨⟨P.A,c.φ,H,c.s,NE,P.rm,c.R,c.fr⟩,P.env,ρ,(·=P.env.locals),P.kd,c.F,P.rn,P.hf,P.calm,λζ ζ h=>h.elim⟩
theorem ca.uL{p q r:Ws}(S:ca je p q)(T:ca own q r)(h:∀a,own a->p.h.get? a=none):ca je p r:=ca.ow (S.nil.trans T) λa ha=>.inr (h a ha)
noncomputable abbrev Cx.step(c:Cx P₀ P D io St i acc ρ H)(z:Cn P₀ P D io)(it:∀i h h',St i h->(∀a,io a->∀o,h.get? a=some o->h'.get? a=some o)->St i h')(lv:∀i h,St i h->∀a,io a->∃o,h.get? a=some o/\fT o=false/\il o=false)(N:Sx c.fp cg H'):Cx P₀ P D io St i acc cg H':=
 have hl:∀{a},oF P.env a->a=D\/io a->False:=λha h=>h.elim (z.ne _ ha).1 (z.ne _ ha).2
 {φ:=N.φ,h:=N.h,tk:=N.tk,ys:=c.ys,k:=c.k,R:=N.R,F:=N.F,fr:=c.fr.l7 N.S,S:=c.S.uL N.S λa ha=>z.new a (.inl ha),kp:=c.kp.trans N.S.kp
  st:=it _ _ _ c.st λa ha o e=>(lv _ _ c.st a ha).elim λo' x=>by rw[x.1] at e;cases e;exact N.S.same x.1 (c.fj a ha).1 (λho=>(hl (.inl ho) (.inr ha)).elim) x.2.1 x.2.2
  fj:=λa ha=>⟨(lv _ _ c.st a ha).elim λo e=>N.S.rK e.1 (c.fj a ha).1,(c.fj a ha).2⟩
  aD:=⟨N.S.rK c.hD c.aD.1,c.aD.2⟩
  hD:=N.S.same c.hD c.aD.1 (λho=>(hl (.inl ho) (.inl rfl)).elim) rfl rfl
  ra:=c.ra.mono N.S}
noncomputable abbrev Cx.item{h':Heap}(c:Cx P₀ P D io St i acc ρ H)(z:Cn P₀ P D io)(R:SR ⟨c.φ,h'⟩ H)(S:ca io c.w ⟨c.φ,h'⟩)(st:St (i+1) h')(tk:Nat):Cx P₀ P D io St (i+1) acc ρ H:=
 {φ:=c.φ,h:=h',tk:=tk,ys:=c.ys,k:=c.k,R:=R,F:=c.F.mono S λa ha=>(z.ne a ha).2,fr:=c.fr.l7 S,S:=c.S.uL S λa ha=>z.new a (.inr (.inr ha)),kp:=c.kp.trans S.kp,st:=st,fj:=c.fj,aD:=c.aD,hD:=S.same c.hD c.aD.1 (λho=>absurd ho z.D) rfl rfl,ra:=c.ra.mono S}
noncomputable abbrev Cx.aT{h':Heap}{v:V}{x:Value}{k:Nat}(c:Cx P₀ P D io St i acc ρ H)(z:Cn P₀ P D io)(it:∀i h h',St i h->(∀a,io a->∀o,h.get? a=some o->h'.get? a=some o)->St i h')(r:bx c.w v x)(hD:h'.get? D=some (jb (c.ys++[x]) k))(e:ExtBut D c.h h')(tk:Nat):Cx P₀ P D io St i (acc++[v]) ρ H:=
 have hc:Ch (·=D) c.h h':=.but e λo e'=>by rw[c.hD] at e';cases e';exact oE rfl rfl
 {φ:=c.φ,h:=h',tk:=tk,ys:=c.ys++[x],k:=k,R:=c.R.ch (p:=c.w) (io:=(·=D)) (λa ha=>ha▸c.aD) hc,F:=c.F.ch (p:=c.w) hc λa ha e=>(z.ne a ha).1 e,fr:=c.fr.l7 (ca.ch (own:=(·=D)) (io:=(·=D)) (q:=c.w) .refl hc λb hb=>.inr ⟨hb,jb (c.ys++[x]) k,by rw[hb];exact hD,λo1 x hd=>by rw[hb,show c.w.h.get? D=_ from c.hD] at x;cases x;exact Bool.noConfusion hd⟩),S:=ca.ch (q:=c.w) c.S hc λa ha=>.inl (z.new a (.inr (.inl ha))),kp:=c.kp.trans hc.kp
  st:=it _ _ _ c.st λa ha o e'=>e a o (λe=>z.D (e▸ha)) e',fj:=c.fj,aD:=c.aD,hD:=hD,ra:=(c.ra.append (.one r)).kp hc.kp}
theorem SQ{v:V}{x:Value}{Q:Value->Shared->Prop}(c:Cx P₀ P D io St i acc ρ H)(z:Cn P₀ P D io)(it:∀i h h',St i h->(∀a,io a->∀o,h.get? a=some o->h'.get? a=some o)->St i h')(r:bx c.w v x)(hz:acc.length<=sizeLine)(k:∀c':Cx P₀ P D io St i (acc++[v]) ρ H,Q .none c'.s):wpAny X.M P.A (call (.builtin "list.append") [.ref D,x]) Q NE c.s:=
 wpAny_list_append_plain (items:=c.ys.toArray) ⟨c.k,c.hD⟩ (λh6 SU SV=>SU.elim λk6 SW=>k (c.aT z it r (k:=k6) (by rw[SW,List.push_toArray]) SV.extBut c.tk)) (by rw[lE,<-c.ra.length];exact hz)
inductive K6(P₀:Pt)(P:Fp σ.no)(H₀:Hp)(ws:List Nat)(us:List V)(QQ:List V->Hp->Prop)(D:Addr)(io:Addr->Prop)(St:Nat->Heap->Prop)(t:d8)(cs:List E)(elt:E)(j:Nat)(s':Shared):Prop
 |mk (i:Nat) (ρ:bv) (H:Hp) (acc:List V) (c:Cx P₀ P D io St i acc ρ H) (e:s'=c.s) (ej:j=(us.drop i).length+1) (hw:fS ws H₀ H=true) (gd:acc.length+(us.drop i).length<=us.length) (p:iR ws H₀ t (λρ H Q=>WT σ.no.c cs ρ H Q) (λρ H Q=>WE σ.no.c elt ρ H Q) (us.drop i) ρ H acc QQ):K6 P₀ P H₀ ws us QQ D io St t cs elt j s'
theorem SX{elt:E}{t:d8}{cs:List E}{e tg iter:Expr}{ifs:List Expr}{sc':Scope}{pos:Pos}{H₀:Hp}{ws:List Nat}{us:List V}{QQ:List V->Hp->Prop}{I:Addr}{RR:Result->Shared->Prop}(z:Cn P₀ P D io)
  (hh:P.A.handled=none) (uK:vX P.env (·=P.env.locals) (jJ t tg)) (ht:lI σ.f t tg=true) (SY:cy σ.no elt e) (SZ:fX σ.no cs ifs) (it:nG tg P.w H₀ ws us I io St) (c0:Cx P₀ P D io St 0 [] P.ρ P.H) (e0:c0.s=P.s) (hw:fS ws H₀ P.H=true) (eR:us.length<16000000)
  (p:iR ws H₀ t (λρ H Q=>WT σ.no.c cs ρ H Q) (λρ H Q=>WE σ.no.c elt ρ H Q) us P.ρ P.H [] QQ)
  (fin:∀vs H φ h tk ρ ys k,QQ vs H->vs.length<16000000->SR ⟨φ,h⟩ H->ca je P₀.w ⟨φ,h⟩->FR P.env σ.f.ns ρ ⟨φ,h⟩->h.get? D=some (jb ys k)->bF ⟨φ,h⟩ vs ys->D∉φ->RR (.ok .next) (upd P.s h tk)) :
  codeAny X.M P.A (.compLoop (.ListComp e [⟨tg,iter,ifs,0⟩] sc' pos) 0 (.ref I) (.ref D) P.env) RR P.s:=by
 refine SN (K6 P₀ P H₀ ws us QQ D io St t cs elt) (λj s' w=>w.casesOn λi ρ H acc c e ej hw gd p'=>?_) (us.length+1) ⟨0,P.ρ,P.H,[],c0,e0.symm,by rw[drop_zero],hw,by rw[drop_zero];exact iC (qj _),by rw[drop_zero];exact p⟩
 subst e ej
 cases hv:us[i]? with
 |none=>
  refine .inl (it.done c.fp.toPt i _ hh c.kp hw c.st c.fj hv λh2 lL ch=>⟨rfl,?_⟩)
  rw[xE.mpr (sP.mp hv)] at p' gd
  exact fin acc H c.φ h2 lL ρ c.ys c.k p' (cG gd eR) (c.R.ch (p:=c.w) c.fj ch) (ca.ch (q:=c.w) c.S ch λa ha=>.inl (z.new a (.inr (.inr ha)))) (c.F.ch (p:=c.w) ch λa ha=>(z.ne a ha).2) (ch _ _ c.hD λho=>absurd ho z.D) (c.ra.kp ch.kp) c.aD.1
 |some v=>
  have hd:=drop_cons hv
  rw[hd] at p' gd
  refine aO.k p' λAC ha p'=>.inr (it.item c.fp.toPt i v _ hh c.kp hw c.st c.fj hv λh2 lL y R2 S2 j2 r2=>yv t tg (c.item z R2 S2 j2 lL).fp v y AC _ ht uK r2 ha λN3=>?_)
  have lt:(us.drop (i+1)).length+1<(us.drop i).length+1:=by rw[hd];exact jH _
  exact SZ.CH ((c.item z R2 S2 j2 lL).step z it.keep it.live N3).fp _ _ p' (λb H4 p4 N4=>by
   cases b with
   |false=>exact⟨_,lt,i+1,AC,H4,acc,((c.item z R2 S2 j2 lL).step z it.keep it.live N3).step z it.keep it.live N4.sx,rfl,rfl,p4.1,pA gd,p4.2⟩
   |true=>
    refine SY (((c.item z R2 S2 j2 lL).step z it.keep it.live N3).step z it.keep it.live N4.sx).fp _ _ p4 (λy5 H5 p5 N5 x5 r5=>?_)
    exact SQ ((((c.item z R2 S2 j2 lL).step z it.keep it.live N3).step z it.keep it.live N4.sx).step z it.keep it.live N5.sx) z it.keep r5 (aG (cW (cG (aG (eV _ _) gd) eR)) (by decide)) λc'=>⟨_,lt,i+1,AC,H5,acc++[y5],c',rfl,rfl,p5.1,by rw[b6,add_assoc,pC [y5].length];exact gd,p5.2⟩)
end
section
variable{σ:Lv}{eZ:Scope}{loc:List Str}{elt:E}{t:d8}{it:It}{cs:List E}{e tg iter:Expr}{ifs:List Expr}
structure AF(σ:Lv)(eZ:Scope)(loc:List Str)(elt:E)(t:d8)(it:It)(cs:List E)(e tg iter:Expr)(ifs:List Expr):Prop where
 hh:σ.f.hd=false
 c:rP σ.f loc eZ
 hl:jJ t tg=loc
 ht:lI ⟨eZ,loc++σ.f.ns,false⟩ t tg=true
 hg:ya it tg=true
 hi:j8 σ it iter
 he:cy ⟨σ.n,σ.m,⟨eZ,loc++σ.f.ns,false⟩,λζ ζ=>False⟩ elt e
 hs:fX ⟨σ.n,σ.m,⟨eZ,loc++σ.f.ns,false⟩,λζ ζ=>False⟩ cs ifs
theorem S5{pos:Pos}{QQ:List V->Hp->Prop}{H1:Hp}{q:List V×List Nat}{I D B:Addr}{io:Addr->Prop}{St:Nat->Heap->Prop}{kX:Heap}{cl:List (Str×Addr)}{RR:Result->Shared->Prop}(k:AF σ eZ loc elt t it cs e tg iter ifs)(P:Fp σ)(N:Nx P.toPt H1)
  (kZ:∀p,p∈cl->P.env.cells.lookup p.1=some p.2) (AE:∀x,(x,NameKind.free)∈eZ.names->∃c,(x,c)∈cl) (pQ:nG tg N.w H1 q.2 q.1 I io St) (qJ:St 0 N.h) (fj:∀a,io a->Ap N.w a/\P.s.heap.get? a=none)
  (hD:N.h.get? D=none) (hB:N.h.get? B=none) (uM:B≠D) (old:aC N.h kX) (gD:kX.get? D=some (jb [] 0)) (iF:kX.Ns B λζ=>none) (hz:qC q.1=true)
  (p1:iR q.2 H1 t (λρ H Q=>WT σ.c.no cs ρ H Q) (λρ H Q=>WE σ.c.no elt ρ H Q) q.1 (replicate loc.length none++P.ρ) H1 [] QQ)
  (fin:∀vs H φ h tk ys j m,QQ vs H->vs.length<16000000->SR ⟨φ,h⟩ H->ca je P.w ⟨φ,h⟩->h.get? D=some (jb ys j)->bF ⟨φ,h⟩ vs ys->D∉φ->Ap ⟨φ,h⟩ B->h.Ns B m->RR (.ok .next) (upd P.s h tk)) :
  codeAny X.M P.A (.compStart (.ListComp e [⟨tg,iter,ifs,0⟩] eZ pos) 0 (.ref I) (.ref D) (compEnvC eZ cl B P.env)) RR (upd P.s kX N.tk):=by
 have lv:∀{a},io a->N.h.get? a=none->False:=λha hn=>(pQ.live _ _ qJ _ ha).elim λo e=>bK hn e.1
 have j2:=pQ.keep _ _ _ qJ λa ζ o e=>old a o e
 have F:=k.c.frame (cl:=cl) (P.to N) kZ AE hB old iF
 have S:ca je P.w ⟨N.φ,kX⟩:=ca.ext (q:=N.w) N.S old
 have R:=SR.ext (p:=N.w) N.R old
 have aD:Ap ⟨N.φ,kX⟩ D:=N.R.new (p:=N.w) hD
 have loop:=SX (iter:=iter) (sc':=eZ) (pos:=pos) (P₀:=P.toPt) (σ:=⟨σ.n,σ.m,⟨eZ,loc++σ.f.ns,false⟩,λζ ζ=>False⟩) (P:=⟨⟨P.A,N.φ,H1,upd P.s kX N.tk,NE,P.rm,R,P.fr.l7 S⟩,compEnvC eZ cl B P.env,replicate loc.length none++P.ρ,(·=B),SK,F,P.rn,P.hf,λζ=>P.calm k.hh,λζ ζ h=>h.elim⟩) (D:=D) (RR:=RR)
  ⟨λa ha=>ha.elim (λe=>N.S.dead (e▸hB)) λha=>ha.elim (λe=>N.S.dead (e▸hD)) λha=>(fj a ha).2,λa ha=>ha.elim (λe=>⟨λe'=>uM (e.symm.trans e'),λh=>lv h (e▸hB)⟩) λw=>w.elim λy hy=>(P.F.live _ (yl (kZ _ (mem_lookup hy)))).elim λo x=>⟨λe=>bK (N.S.dead (e▸hD)) x,λh=>bK (fj _ h).2 x⟩,λh=>lv h hD⟩
  (P.calm k.hh) (λx hx=>.inl ⟨lookup_relabel_local (k.c.SI x (k.hl▸hx)),rfl⟩) k.ht k.he k.hs (pQ.from (ca.ext (own:=je) (p:=N.w) (q:=N.w) .refl old).kp) ⟨N.φ,kX,N.tk,[],0,R,F,P.fr.l7 S,S,.refl,j2,λa ha=>(fj a ha).1,aD,gD,.nil⟩ rfl (KI _ _) (cu hz) p1
  λvs H φ h tk ρ ys j q hl R S F hD r hn=>F.loc.elim λm hm=>fin vs H φ h tk ys j m q hl R S hD r hn (F.ap _ (.inl rfl)) hm.1
 exact codeAny_compStart_list loop (pQ.self P.A _ _ _ j2 loop)
theorem K7{pos p0:Pos}{use:Option (Value->Sem Unit)}{Q:Value->Shared->Prop}{QQ:List V->Hp->Prop}(k:AF σ eZ loc elt t it cs e tg iter ifs)(P:Fp σ)
  (p:qE σ.c it P.ρ P.H λp H=>gn (qC p.1) (iR p.2 H t (λρ H Q=>WT σ.c.no cs ρ H Q) (λρ H Q=>WE σ.c.no elt ρ H Q) p.1 (replicate loc.length none++P.ρ) H [] QQ))
  (fin:∀vs H φ h tk D B ys j m,QQ vs H->vs.length<16000000->SR ⟨φ,h⟩ H->ca je P.w ⟨φ,h⟩->h.get? D=some (jb ys j)->bF ⟨φ,h⟩ vs ys->D∉φ->P.s.heap.get? D=none->Ap ⟨φ,h⟩ B->P.s.heap.get? B=none->B≠D->h.Ns B m->compPost X.M P.A P.Ex use Q (.ref D) B (.ok .next) (upd P.s h tk)) :
  wpAny X.M P.A (comprehension (.ListComp e [⟨tg,iter,ifs,0⟩] eZ pos) eZ P.env p0 (newList []) false (eval iter P.env) use) Q P.Ex P.s:=by
 refine FD (env:=P.env) eZ.names [] (λζ h=>nomatch h) (λq hq hk=>?_) λcl kZ S6 ζ S7=>?_
 ·have:=k.c.all q hq
  rw[hk] at this
  exact(P.F.vR _ this.1 (K1 P this.2.2)).imp λc w=>w.elim λζ w=>w.1
 refine wpAny_comprehension_free (cl:=cl) rfl (k.hi.1 P.env) (by unfold closureFor;rw[bind_pure];exact kZ) k.c.kind (λx hx hl=>KY k.c.nodup (by rw[<-hl];exact hx)) (k.hi.2 P tg _ _ k.hg p (λq H1 p1 N I io St pQ qJ fj=>gn.k p1 λhz p1=>(wpAny_newObj_type (wpAny_newFunctionEnv (λx hx hk=>by have:=k.c.all x hx;rw[hk] at this;exact this) (λy hy=>nomatch hy) (λkX iF wm=>?_) k.c.kind))))
 have sz:(N.h.push {cls:=.type "list",data:=.seq #[]}).objs.size=N.h.objs.size+1:=Heap.size_push _ _
 have old2:aC (N.h.push {cls:=.type "list",data:=.seq #[]}) kX:=λa o e=>wm.extBut a o (dq (nh e)) (nY _ e)
 have hD:=jq N.h (bX N.h.objs.size)
 have hB:N.h.get? (N.h.push {cls:=.type "list",data:=.seq #[]}).objs.size=none:=jq N.h (by rw[sz];exact kO _)
 have uM:(N.h.push {cls:=.type "list",data:=.seq #[]}).objs.size≠N.h.objs.size:=by rw[sz];exact uj _
 exact S5 (D:=N.h.objs.size) k P N S6 S7 pQ qJ fj hD hB uM (λa o e=>old2 a o (nY _ e)) (old2 _ _ (jo _ rfl)) iF hz p1 λvs H φ h tk ys j m q hl R S hg r hn aB hm=>fin vs H φ h tk _ _ ys j m q hl R S hg r hn (N.S.dead hD) aB (N.S.dead hB) uM hm
noncomputable abbrev Pt.FG{P:Pt}{H:Hp}{φ:List Addr}{h:Heap}{D:Addr}{ys:List Value}{j:Nat}{vs:List V}(R:SR ⟨φ,h⟩ H)(S:ca je P.w ⟨φ,h⟩)(hg:h.get? D=some (jb ys j))(r:bF ⟨φ,h⟩ vs ys)(hn:D∉φ)(hD:P.s.heap.get? D=none)(hl:vs.length<16000000)(tk:Nat):Nx P (H++[.list vs]):=
 ⟨φ++[D],h,tk,SR.adopt (p:=⟨φ,h⟩) R ⟨hn,(P.R.new (p:=P.w) hD).2⟩ (λo x=>by rw[hg] at x;cases x;exact oE rfl rfl) (.list hg r (cW hl)),ca.adopt (q:=⟨φ,h⟩) S hD⟩
theorem CT{H:Hp}{φ:List Addr}{h:Heap}{D:Addr}(R:SR ⟨φ,h⟩ H):bx ⟨φ++[D],h⟩ (.ref H.length) (.ref D):=.ref (by rw[<-R.len,pv (bX _),qi];rfl)
theorem K8{h h':Heap}{B:Addr}{m:Str->Option Value}(hm:h.Ns B m)(e:SameBut B h h'):Ch (·=B) h h':=.but e.extBut λo x=>hm.elim λo' w=>w.elim λζ w=>w.elim λζ w=>by rw[w.1] at x;cases x;exact Am w.2.1
theorem K9{pos:Pos}(k:AF σ eZ loc elt t it cs e tg iter ifs):cy σ (.comp loc.length elt t it cs) (.ListComp e [⟨tg,iter,ifs,0⟩] eZ pos):=λP post Q p kq=>by
 rw[eval_ListComp]
 exact K7 k P p λvs H φ h tk D B ys j m q hl R S hg r hn hD aB hB uM hm=>⟨m,hm,λh3 CU=>
  have c:Ch (·=B) h h3:=K8 hm CU
  have R3:=SR.ch (p:=⟨φ,h⟩) (io:=(·=B)) R (λa ha=>ha▸aB) c
  kq _ _ q (Pt.FG R3 (ca.ch (q:=⟨φ,h⟩) S c λa ha=>.inl (ha▸hB)) (c _ _ hg λe=>absurd e.symm uM) (r.kp c.kp) hn hD hl tk) _ (CT R3)⟩
theorem S8{u:d8}{y:Str}{py cpos pos:Pos}(k:AF σ eZ loc elt t it cs e tg iter ifs)(hu:lI σ.f u (.Name y py)=true):SS σ (.aY u (.comp loc.length elt t it cs)) (.Assign [.Name y py] (.ListComp e [⟨tg,iter,ifs,0⟩] eZ cpos) pos):=λP K Q ho p kq=>by
 have yx:∃b,swapsWith (.ListComp e [⟨tg,iter,ifs,0⟩] eZ cpos) (some (.Name y py)) pos.line P.env=pure b:=⟨_,rfl⟩
 obtain⟨b,yx⟩:=yx
 cases b with
 |false=>exact KD yx hu rfl (K9 k) ho p kq
 |true=>
  rw[exec_Assign_Name_used _ _ _ _ yx]
  refine bj (wpAny_standAt (bj ((bj (ig (Q:=λζ s'=>Q .next s') ?_ (λζ s' hq=>bU (bU hq)) λζ ζ e=>e):wpAny _ P.A (do let _ <-comprehension (.ListComp e [⟨tg,iter,ifs,0⟩] eZ cpos) eZ P.env _ (newList []) false (eval iter P.env) (some (assign (.Name y py) P.env))) _ _ P.s))))
  exact K7 k P p λvs H φ h tk D B ys j m q hl R S hg r hn hD aB hB uM hm=>aO.k q λcg ha q=>by
   refine yv u (.Name y py) (P.to (Pt.FG R S hg r hn hD hl tk)) (.ref H.length) (.ref D) cg _ hu (λx hx=>ho.1 x (Ax u _ hu x hx)) (CT R) ha λN=>?_
   have aB':B∉φ++[D]:=λhm=>(cY.mp hm).elim aB.1 λh=>uM (dI.mp h)
   have yy:N.h.Ns B m:=Ki hm λo e=>N.S.keep _ _ e aB' λh=>(P.F.live _ (ho.2 _ h)).elim λo e=>bK hB e
   have aB4:Ap N.w B:=⟨hm.elim λo w=>w.elim λζ w=>w.elim λζ w=>N.S.rK w.1 aB',aB.2⟩
   exact⟨m,yy,λh5 S9=>(Sx.ch ((Nx.sx (P:=P) (Pt.FG R S hg r hn hD hl tk)).then N) (K8 yy S9) (λa ha=>ha▸aB4) (λa ha=>ha▸hB) N.tk).elim λN' e=>by
    have:=kq.next _ _ q N'
    rw[show N'.s=upd P.s N'.h N'.tk from rfl,e.2.1,e.2.2] at this
    exact this⟩
end
theorem Ta(lo hi:Option Int)(n:Nat):sliceBounds lo hi none n=(((Ai n 0 lo:Nat):Int),((Ai n n hi:Nat):Int),1):=by
 have key:∀(k:Option Int) (d:Nat),(match k with|none=>(d:Int)|some i=>if(1:Int)>0 then max 0 (min (if i<0 then i+n else i) n) else max (-1) (min (if i<0 then i+n else i) ((n:Int) - 1)))=((Ai n d k:Nat):Int):=λk d=>by
  cases k with
  |none=>rfl
  |some k=>exact(Int.toNat_of_nonneg (Int.le_max_left _ _)).symm
 exact Prod.ext (key lo 0) (Prod.ext (key hi n) rfl)
theorem Tb(xs:List Value)(lo hi:Option Int):slicePick xs.toArray lo hi none=(jS xs lo hi).toArray:=by
 unfold slicePick jS
 rw[lE,Ta]
 refine(?_:((sliceRange _ _ 1).filterMap _).toArray=_)
 rw[sliceRange_one,pick_run,List.drop_take]
section
variable{σ:Lv}{A:Around}{s:Shared}
theorem bF.slice{p:Ws}{vs:List V}{xs:List Value}(r:bF p vs xs)(lo hi:Option Int):bF p (jS vs lo hi) (jS xs lo hi):=by
 unfold jS
 rw[r.length]
 exact(r.take _).drop _
theorem Tc{t sl:Addr}{xs:List Value}{b:Nat}{u:Tok}{Q Ex:Value->Shared->Prop}(ht:IsTup s.heap t xs.toArray)(hs:s.heap.IsSliceOf sl .none (.int b u) .none)(hz:xs.length<=sizeLine)
  (h:b<xs.length->Q (.ref s.heap.objs.size) {s with heap:=s.heap.push (lY (xs.take b) 0)}) (h':xs.length<=b->Q (.ref t) s):wpAny X.M A (getItem (.ref t) (.ref sl)) Q Ex s:=by
 have mH:sizeOk (.seq (xs.take b).toArray):=by
  refine(?_:(xs.take b).toArray.size<=sizeLine)
  rw[lE,vz];exact aG (min_le_right _ _) hz
 obtain⟨os,CV,uN,tx⟩:=id hs
 have Td:s.TypeIs (.ref sl) "slice":=⟨os,CV,uN⟩
 unfold getItem
 try with_reducible refine uh ?_
 first|refine bj (bU ?_)|skip
 refine bj (wpAny_sequenceKey ht.typeIs (by decide) (bj (B3 (name:=Str.ofString "__getitem__") ht.typeIs slot_tuple_getitem
  (uc slot_tuple_getitem ht.typeIs entry_tuple_getitem ?_ (args_tuple_getitem _ _)))))
 refine(?_:wpAny _ _ (Builtin.Tuple.tupleItemsOf (.ref t) >>= _) _ _ s)
 refine bj (tupleItemsOf_ ht (bj (wpAny_typeOf Td ?_)))
 rw[bQ (by decide)]
 refine bj ?_
 unfold Builtin.Slice.sliceApplied Builtin.Slice.sliceFields
 refine bj (bj (pB CV tx (x:=.none) rfl (bj (pB CV tx (x:=.int b u) rfl (bj (pB CV tx (x:=.none) rfl (bU (bj (slicePart_none ((?_:wpAny _ _ (if((1:Int)==0)=true then _ else _) _ _ s)))))))))))
 rw[bH (by decide)]
 refine bj (slicePart_none (bj (slicePart_int (bj (bU ?_)))))
 obtain⟨m,hm⟩:∃m,m=min b xs.length:=⟨_,rfl⟩
 have e1:Builtin.Slice.sliceAdjust none (some (b:Int)) 1 ((xs.toArray.size:Nat):Int)=(0,(m:Int)):=by
  refine(?_:((0:Int),(if(b:Int)<0 then max ((b:Int)+(xs.toArray.size:Nat)) 0 else min (b:Int) (xs.toArray.size:Nat)))=_)
  rw[lE,bH (kM.mpr (ni b))]
  exact Prod.ext rfl (show min (b:Int) xs.length=m from(Q9 _ _).trans (by rw[hm]))
 have e2:Builtin.Slice.slicePlaces 0 (m:Int) 1=m:=by
  refine(?_:((if(0:Int)<m then((m:Int) - 0 - 1)/1+1 else 0):Int).toNat=m)
  rw[Int.ediv_one];split<;>lia
 refine(?_:wpAny _ _ (match Builtin.Slice.sliceAdjust none (some (b:Int)) 1 ((xs.toArray.size:Nat):Int) with|(lo,hi)=>pure (lo,(1:Int),Builtin.Slice.slicePlaces lo hi 1)) _ _ s)
 rw[e1]
 refine(?_:wpAny _ _ (pure ((0:Int),(1:Int),Builtin.Slice.slicePlaces (0:Int) (m:Int) 1)) _ _ s)
 rw[e2]
 refine bU ?_
 have Te:((List.range m).filterMap λ(k:Nat)=>xs.toArray[((0:Int)+(k:Int)*1).toNat]?).toArray=(xs.take m).toArray:=by
  have e:(λ(k:Nat)=>xs.toArray[((0:Int)+(k:Int)*1).toNat]?)=(λx=>xs.toArray[x]?) ∘ λk=>0+k:=funext λk=>by
   refine(?_:xs.toArray[((0:Int)+(k:Int)*1).toNat]?=xs.toArray[0+k]?)
   rw[show((0:Int)+(k:Int)*1).toNat=0+k by rw[Int.mul_one,Int.zero_add,qj];rfl]
  rw[e,<-List.filterMap_map,pick_run]
  rfl
 refine(?_:wpAny _ _ (if((0:Int)==0&&(1:Int)==1&&m==xs.toArray.size)=true then _ else _) _ _ s)
 by_cases hb:b<xs.length
 ·have Tf:m=b:=hm.trans (min_eq_left (cW hb))
  subst Tf
  rw[bH λe=>absurd (eq_of_beq (iA.mp e).2) (by rw[lE];exact dq hb),Te]
  have h:=h hb
  first
   |exact bj (m:=Builtin.Tuple.tupleExact _) (xK (bU ⟨_,rfl,bU h⟩) mH)
   |exact bj (m:=Builtin.Tuple.tupleExact _) (xK (bj (bU (bU ⟨_,rfl,bU h⟩))) mH)
   |exact bj (bj (m:=Builtin.Tuple.tupleExact _) (xK (bU (bU ⟨_,rfl,bU h⟩)) mH))
   |exact bj (bj (m:=Builtin.Tuple.tupleExact _) (xK (bU ⟨_,rfl,bU h⟩) mH))
 ·have h:=h' (ul hb)
  have hc:((0:Int)==0&&(1:Int)==1&&m==xs.toArray.size)=true:=by
   rw[lE,show m=xs.length from hm.trans (Nat.min_eq_right (fv.mp hb)),hX,hX,hX];rfl
  rw[bQ hc]
  unfold Builtin.Tuple.tupleIsExact
  refine bj (bj (wpAny_typeOf ht.typeIs (bU ?_)))
  rw[bQ (by decide)]
  exact bj (wpAny_rule (bU ⟨_,rfl,bU h⟩))
def wo(σ:Lv)(c:Option E)(e:Option Expr):Prop:=
 ∀(P:Fp σ) (post:PQ) (Q:Value->Shared->Prop),WO σ.c c P.ρ P.H post->Kn P.toPt post Q->wpAny X.M P.A (evalPart e P.env) Q P.Ex P.s
theorem Tg:wo σ none none:=λP post Q p k=>by rw[evalPart_none];exact bU (k.now p .none P.s.toks)
theorem Th{c:E}{e:Expr}(h:cy σ c e):wo σ (some c) (some e):=λP post Q p k=>by rw[evalPart_some];exact h P post Q p k
theorem La{v:V}{x:Value}{k:Option Int}{p:Ws}(r:bx p v x)(e:Aj v=some k):IsPart x k:=by
 cases v with
 |none=>cases e;exact r.inv (λx=>IsPart x _) .none
 |int i=>exact vU e (λk=>IsPart x k) λζ=>r.inv (λx=>IsPart x _) λt=>.int _ _
 |_=>cases e
theorem bF.Ti{vs:List V}{k:Nat}(hz:vs.length<=16000000):(vs.take k).length<=16000000:=by rw[vz];exact aG (min_le_right _ _) hz
theorem Lb{P:Pt}{us:List V}{xs:List Value}{ad sa:Addr}{v sl:Expr}{z w:Value}{l h:Option Int}{post:PQ}{Q:Value->Shared->Prop}{ops:Value->Value->List Value}(hs:∀o i,subscripted sl false o i=operate (ops o i) (getItem o i))(q:P.s.heap.IsSliceOf sa z w .none)(q1:IsPart z l)(q2:IsPart w h)(hL:P.s.heap.IsList ad xs.toArray)(r:bF P.w us xs)(hz:us.length<=16000000)(p:vO (jS us l h) P.H post)(k:Kn P post Q):
  wpAny X.M P.A (subscriptTail v sl (.ref ad) (.ref sa)) Q P.Ex P.s:=gn.k p λCW p=>
 tail_any hL.typeIs PySem.slot_list_getitem.lookup (wpAny_getItem_list_slice hL q q1 q2 .none (λe=>nomatch e) (by
  rw[Tb]
  exact Kn.list k (.push _) _ (jq _ (le_refl _)) (Heap.get?_push_size _ rfl) (r.slice l h) (Nat.le_of_lt (of_decide_eq_true CW)) p P.s.toks) (by rw[size_toArray,<-r.length];unfold sizeLine;lia)) (hs _ _)
theorem Tj{P:Pt}{us:List V}{sa:Addr}{v sl:Expr}{y z w:Value}{l h:Option Int}{post:PQ}{Q:Value->Shared->Prop}{ops:Value->Value->List Value}(hs:∀o i,subscripted sl false o i=operate (ops o i) (getItem o i))(q:P.s.heap.IsSliceOf sa z w .none)(q1:IsPart z l)(q2:IsPart w h)(r:bx P.w (.aF us) y)(p:aO h λk=>gn (l.isNone&&decide (0<=k)) (post (.aF (us.take k.toNat)) P.H))(k:Kn P post Q):
  wpAny X.M P.A (subscriptTail v sl y (.ref sa)) Q P.Ex P.s:=by
 refine aO.k p λj ej p1=>gn.k p1 λhj p2=>aW hj λhl hj=>?_
 have Tl:=cu hj
 clear p p1 hj
 subst ej
 obtain⟨m,rfl⟩:=Int.eq_ofNat_of_zero_le Tl
 cases q1 with
 |int i t=>cases hl
 |none=>
  cases q2 with
  |int i t=>
   exact r.inv (λy=>wpAny X.M P.A (subscriptTail v sl y (.ref sa)) Q P.Ex P.s) λa n' xs h1 h2 h3 h4=>
    tail_any (As h1).typeIs slot_tuple_getitem.lookup (Tc (As h1) q (by rw[<-h2.length];unfold sizeLine;lia)
     (λζ=>k _ _ p2 (P.ext (.push _) P.s.toks) _ (.aF (n:=0) (jo _ rfl) ((h2.take m).mono (P.ext (.push _) P.s.toks).S) (bF.Ti h3) (P.R.new (p:=P.w) (jq _ (bX _))).1)) λhb=>by
      rw[show us.take ((m:Nat):Int).toNat=us from List.take_of_length_le (by rw[h2.length];exact hb)] at p2
      exact k.now p2 (.aF (n:=n') h1 h2 h3 h4) P.s.toks) (hs _ _)
theorem Tn{P:Pt}{a lv hv:V}{sa:Addr}{v sl:Expr}{y z w:Value}{post:PQ}{Q:Value->Shared->Prop}(G:Good X){ops:Value->Value->List Value}(hs:∀o i,subscripted sl false o i=operate (ops o i) (getItem o i))(q:P.s.heap.IsSliceOf sa z w .none)(ra:bx P.w a y)(rl:bx P.w lv z)(rh:bx P.w hv w)(p:Kb a lv hv P.H post)(k:Kn P post Q):
  wpAny X.M P.A (subscriptTail v sl y (.ref sa)) Q P.Ex P.s:=by
 refine aO.k p λl el p=>aO.k p λh eh p=>?_
 have q1:=La rl el
 have q2:=La rh eh
 cases a with
 |aF us=>exact Tj hs q q1 q2 ra p k
 |ref li=>exact aO.k p λus hi p=>aP ra hi (λy=>wpAny X.M P.A (subscriptTail v sl y (.ref sa)) Q P.Ex P.s) λζ a xs n' ζ ζ ζ h1 h2 h3=>Lb hs q q1 q2 (lK h1) h2 h3 p k
 |i9=>exact aO.k p λus hi p=>items G ra hi (λy=>wpAny X.M P.A (subscriptTail v sl y (.ref sa)) Q P.Ex P.s) (λe=>nomatch e) λa xs h1 h2 h3=>Lb hs q q1 q2 h1 h2 h3 p k
 |_=>exact p.elim
theorem To{a:E}{lo hi:Option E}{v:Expr}{l u:Option Expr}{p0 pos:Pos}(G:Good X)(ha:cy σ a v)(hl:wo σ lo l)(hu:wo σ hi u):cy σ (.kP a lo hi) (.Subscript v (.Slice l u none p0) pos):=λP post Q p k=>
 Subscript_ (ha P _ _ p (λx H1 p1 N y r=>wpAny_Slice (hl (P.to N) _ _ p1 (λlv H2 p2 N2 z r2=>hu ((P.to N).to N2) _ _ p2 (λhv H3 p3 N3 w r3=>by
  rw[evalPart_none]
  exact bU (Tn (P:=(N3.pt.ext (.push _) N3.tk).pt) G (λζ ζ=>rfl) (Heap.IsSliceOf.new N3.h z w .none) ((r.mono (N2.then N3).S).mono (N3.pt.ext (.push _) N3.tk).S) ((r2.mono N3.S).mono (N3.pt.ext (.push _) N3.tk).S) (r3.mono (N3.pt.ext (.push _) N3.tk).S) p3 (((k.nx N).nx (N2.then N3)).nx _)))))))
end
section
variable{σ:Lv}{Q:Value->Shared->Prop}{P:Pt}{post:PQ}{v:V}{x:Value}
theorem FH{o:Expr}(h:sY o=true)(x:Str)(env:Env)(w:Sem Value):attributeBase o x env w=w:=by
 cases o with
 |Call g es ks p=>
  cases g with
  |Name x q=>cases h
  |_=>rfl
 |_=>rfl
theorem FI{es:List Expr}{cs:List E}{pos:Pos}(h:fX σ cs es)(hl:es.length<20)(env:Env):((backTo pos (starEach es env)).all (λx=>!x.1)&&(backToKw pos (keywordEach [] env)).all (λx=>x.1.isSome)
   && decide (es.length+([]:List Keyword).length+(if([]:List Keyword).isEmpty then 0 else 1)<30))=true:=by
 have h2:(backTo pos (starEach es env)).all (λx=>!x.1)=true:=j1.mpr λx hx=>by
  have:=any_eq_false.mp (h.plain env pos) x hx
  cases e:x.1
  ·rfl
  ·exact absurd e this
 rw[h2]
 exact dj (show es.length+0+0<30 by lia)
structure wq(m:Me)(id:String):Prop where
 slot:Slot "list" (xV m).1 id
 ty:typeOf (.builtin id)=pure (.type "method_descriptor")
 run:∀(P:Pt) (v:V) (x:Value) (us:List V) (zs:List Value) (post:PQ) (Q:Value->Shared->Prop),bx P.w v x->bF P.w us zs->oD m v us P.H post->Kn P post Q->wpAny X.M P.A (call (.builtin id) (x::zs)) Q P.Ex P.s
theorem Tp(P:Pt)(v:V)(x:Value)(r:bx P.w v x)(h:(dJ P.H v).isSome=true):P.s.TypeIs x "list"/\∀a,x=.ref a->∃ob,P.s.heap.get? a=some ob/\ob.dict=none:=
 (uk.mp h).elim λvs e=>aP r e (λx=>P.s.TypeIs x "list"/\∀a,x=.ref a->∃ob,P.s.heap.get? a=some ob/\ob.dict=none) λζ a xs m ζ ζ ζ h1 ζ ζ=>⟨(lK h1).typeIs,λb e=>Value.ref.inj e▸⟨_,h1,rfl⟩⟩
theorem Tq{m:Me}{id:String}{a:E}{o:Expr}{cs:List E}{es:List Expr}{ap pos:Pos}(M:wq m id)(ho:sY o=true)(wu:(ap.endLine==pos.line)=true)(hl:es.length=(xV m).2)(ha:cy σ a o)(h:fX σ cs es):cy σ (.cR m a cs) (.Call (.Attribute o (xV m).1 ap) es [] pos):=λP post Q p k=>
 wpAny_Call_method (FH ho _ P.env _) (FI h (by rw[hl];cases m<;>decide) P.env) wu PySem.F.plainAttrs_list M.slot M.ty (ha P _ _ p (λv H1 p1 N x r=>gn.k p1 λhk p1=>
  have q:=Tp N.pt v x r hk
  ⟨q.1,q.2,zM (h.plain P.env pos) (tn (h.plain P.env pos) (h.rN (P.to N) _ _ pos p1 (λus H2 p2 ζ N2 zs r2=>M.run N2.pt v x us zs post Q (r.mono N2.S) r2 p2 ((k.nx N).nx N2))))⟩))
theorem Kn.uD{l:Nat}{a:Addr}{vs:List V}{ys:List Value}{j:Nat}{h':Heap}(k:Kn P post Q)(ha:P.φ[l]?=some a)(he:ExtBut a P.s.heap h')(hg:h'.get? a=some (jb ys j))(r:bF P.w vs ys)(hz:vs.length<=16000000)(p:uD (.ref l) vs P.H post)(tk:Nat):Q .none (upd P.s h' tk):=
 k _ _ p (P.set ha he (.list hg (r.kp (P.vS ha he)) hz) tk) _ .none
theorem bF.rev{p:Ws}{vs:List V}{xs:List Value}(r:bF p vs xs):bF p vs.reverse xs.reverse:=bF.ind (M:=λvs xs=>bF p vs.reverse xs.reverse) .nil (λa ζ m=>by rw[List.reverse_cons,List.reverse_cons];exact m.append (.one a)) r
theorem Lc{id:String}{B:Builtin}{f:Array Value->Array Value}(slot:∃y,Slot "list" y id)(en:entryFor table id=some B)(ar:∀a,argsOk id ⟨[a],[]⟩)(me:∀(l:Addr) (items:Array Value) (n:Nat),items.size<=sizeLine->Meets (B ⟨[.ref l],[]⟩) (λζ R s=>s.heap.get? l=some {cls:=.type "list",dict:=none,data:=.seq items n,slots:=#[]}/\R (.ok (.ret Value.none)) {s with heap:=s.heap.update l (Obj.mapSeq f),toks:=s.toks}))
  {us xs ys:List V} {zs:List Value} (r:bx P.w v x) (rz:bF P.w us zs) (e:dJ P.H v=some xs) (hf:∀zs:List Value,bF P.w xs zs->∃CX,f zs.toArray=CX.toArray/\bF P.w ys CX) (hl:ys.length<=xs.length) (p:Ck us (uD v ys P.H post) False) (k:Kn P post Q):wpAny X.M P.A (call (.builtin id) (x::zs)) Q P.Ex P.s:=
 aP r e (λx=>wpAny X.M P.A (call (.builtin id) (x::zs)) Q P.Ex P.s) λl a ws m ev ζ ha h1 h2 h3=>by
  cases us with
  |cons _ _=>exact p.elim
  |nil=>
   refine rz.inv (λzs=>wpAny X.M P.A (call (.builtin id) (.ref a::zs)) Q P.Ex P.s) ?_
   obtain⟨y,sl⟩:=slot
   obtain⟨CX,e1,r1⟩:=hf ws h2
   refine call_meets sl ⟨_,h1,rfl⟩ en (ar _) (me a ws.toArray m (by rw[size_toArray,<-h2.length];unfold sizeLine;lia)) ⟨h1,?_⟩
   subst ev
   obtain⟨n',hn⟩:∃n',Obj.mapSeq f (jb ws m)=jb CX n':=by
    have e2:Obj.mapSeq f (jb ws m)={cls:=.type "list",data:=.seq (f ws.toArray) (if(f ws.toArray).size==ws.toArray.size then m else m+1)}:=rfl
    rw[e2,e1];exact⟨_,rfl⟩
   exact k.uD (l:=l) ha (B4 _ _ _).extBut ((sQ (Obj.mapSeq f) h1 rfl).trans (b7 some hn)) r1 (aG hl h3) p P.s.toks
theorem Tr:wq .reverse "list.reverse" where
 slot:=PySem.F.slot_list_reverse
 ty:=PySem.F.type_list_reverse
 run:=λP v x us zs post Q r rz p k=>aO.k p λxs e p=>Lc ⟨_,PySem.F.slot_list_reverse⟩ PySem.F.entry_list_reverse PySem.F.args_list_reverse_1 AutoSeq1.list_reverse_list_0 r rz e (λzs h=>⟨zs.reverse,by rw[List.reverse_toArray],h.rev⟩) (by rw[List.length_reverse];exact bX _) p k
theorem Ts:wq .clear "list.clear" where
 slot:=PySem.F.slot_list_clear
 ty:=PySem.F.type_list_clear
 run:=λP v x us zs post Q r rz p k=>aO.k p λxs e p=>Lc ⟨_,PySem.F.slot_list_clear⟩ PySem.F.entry_list_clear PySem.F.args_list_clear_1 AutoSeq1.list_clear_list_0 r rz e (λzs h=>⟨[],rfl,.nil⟩) (iD _) p k
theorem Tt:wq .append "list.append" where
 slot:=PySem.F.slot_list_append
 ty:=PySem.F.type_list_append
 run:=λP v x us zs post Q r rz p k=>aO.k p λxs e p=>w1.k p (λus=>bF P.w us zs->_) (λu p rz=>gn.k p λhz p=>rz.k1 (λzs=>wpAny X.M P.A (call (.builtin "list.append") (x::zs)) Q P.Ex P.s) λz rz=>aP r e (λx=>wpAny X.M P.A (call (.builtin "list.append") [x,z]) Q P.Ex P.s) λl a ys m ev ζ ha h1 h2 h3=>
  wpAny_list_append_plain (items:=ys.toArray) ⟨m,h1⟩ (λh' hp hs=>hp.elim λj hj=>k.uD (l:=l) (vs:=xs++[u]) ha hs.extBut (by rw[hj,List.push_toArray]) (h2.append (.one rz)) (by rw[length_append];exact of_decide_eq_true hz) (ev▸p) P.s.toks) (by rw[size_toArray,<-h2.length];unfold sizeLine;lia)) rz
noncomputable def CY(b:Bool):Value->Bool
 |.bool c=>c==b
 |_=>false
theorem Ld{b:Bool}{y:Value}(h:∃c,y=.bool c):MeetsSeq.EqGives y (.bool b) (CY b y):=λζ ζ ζ ζ ζ ζ hq=>by
 obtain⟨c,rfl⟩:=h
 exact SeqAt.EqAt.bool_bool _ _ _ _ _ _ hq
theorem bF.bools{p:Ws}{vs:List V}{xs:List Value}(r:bF p vs xs):∀{bs:List Bool},lZ vs=some bs->xs=bs.map .bool:=
 bF.ind (M:=λvs xs=>∀{bs:List Bool},lZ vs=some bs->xs=bs.map .bool) (λe=>by cases e;rfl) (λ{v x vs xs} a _ m bs e=>jf e λb e1 e=>iE (λbs=>x::xs=bs.map .bool) e λbs e2=>boolOf.k e1 (λv=>bx p v x->_) (λr=>r.inv (λx=>x::xs=(b::bs).map .bool) (b7 (Value.bool b::·) (m e2))) a) r
theorem Le{bs:List Bool}(y:Value)(h:y∈(bs.map Value.bool).toArray):∃c,y=.bool c:=(ii.mp (List.mem_toArray.mp h)).imp λc x=>x.2.symm
theorem Tu:wq .count "list.count" where
 slot:=PySem.F.slot_list_count
 ty:=PySem.F.type_list_count
 run:=λP v x us zs post Q r rz p k=>aO.k p λxs e p=>w1.k p (λus=>bF P.w us zs->_) (λu p rz=>rz.k1 (λzs=>wpAny X.M P.A (call (.builtin "list.count") (x::zs)) Q P.Ex P.s) λz rz=>aP r e (λx=>wpAny X.M P.A (call (.builtin "list.count") [x,z]) Q P.Ex P.s) λl a ys m ev ζ ha h1 h2 h3=>
  aO.k p λb eb p=>aO.k p λbs ebs p=>boolOf.k eb (λu=>bx P.w u z->_) (λrz=>rz.inv (λz=>wpAny X.M P.A (call (.builtin "list.count") [.ref a,z]) Q P.Ex P.s) (by
   have e2:=h2.bools ebs
   subst e2
   refine call_meets PySem.F.slot_list_count ⟨_,h1,rfl⟩ PySem.F.entry_list_count (PySem.F.args_list_count_2 _ _) (MeetsSeq.list_count a _ m (.bool b) (CY b) λy hy=>Ld (Le y hy)) ⟨h1,?_⟩
   have ec:(bs.map Value.bool).toArray.toList.countP (CY b)=bs.count b:=List.countP_map
   rw[ec]
   exact k.now p.2 (.int _ _) _)) rz) rz
theorem Tv:wq .index "list.index" where
 slot:=PySem.F.slot_list_index
 ty:=PySem.F.type_list_index
 run:=λP v x us zs post Q r rz p k=>aO.k p λxs e p=>w1.k p (λus=>bF P.w us zs->_) (λu p rz=>rz.k1 (λzs=>wpAny X.M P.A (call (.builtin "list.index") (x::zs)) Q P.Ex P.s) λz rz=>aP r e (λx=>wpAny X.M P.A (call (.builtin "list.index") [x,z]) Q P.Ex P.s) λl a ys m ev ζ ha h1 h2 h3=>
  aO.k p λb eb p=>aO.k p λbs ebs p=>boolOf.k eb (λu=>bx P.w u z->_) (λrz=>rz.inv (λz=>wpAny X.M P.A (call (.builtin "list.index") [.ref a,z]) Q P.Ex P.s) (aO.k p.2 λi ei p'=>by
   have e2:=h2.bools ebs
   have hl:bs.length<=1000:=by have:=p.1;rw[h2.length,e2,bJ] at this;exact this
   subst e2
   obtain⟨hi,he,Tw⟩:=List.findIdx?_eq_some_iff_getElem.mp ei
   exact call_meets PySem.F.slot_list_index ⟨_,h1,rfl⟩ PySem.F.entry_list_index (PySem.F.args_list_index_2 _ _) (MeetsSeq.list_index a _ m (.bool b) (CY b) (λy hy=>Ld (Le y hy)) i (by rw[lE,bJ];exact hi) (by lia) (by rw[List.getElem_toArray,List.getElem_map];exact he) λj hj Tx=>by
    rw[List.getElem_toArray,List.getElem_map];exact Bool.not_eq_true _▸Tw j Tx) ⟨h1,k.now p' (.int _ _) _⟩)) rz) rz
end
section
variable{σ:Lv}{Q:Value->Shared->Prop}{P:Pt}{post:PQ}{v:V}{x:Value}
theorem Lf:∀{vs:List V} {is:List Int},allInts vs=some is->vs=is.map .int
 |[],is,h=>dH h▸rfl
 |v::r,is,h=>jf h λi h1 h=>by
  cases v with
  |int j=>exact iE (λis=>V.int j::r=is.map .int) h λjs e=>by rw[nk,<-Lf e,dH h1]
  |_=>cases h1
theorem Lg:∀{vs:List V} {is:List Bool},lZ vs=some is->vs=is.map .bool
 |[],is,h=>dH h▸rfl
 |v::r,is,h=>jf h λi h1 h=>boolOf.k h1 (λv=>v::r=is.map .bool) (iE (λis=>V.bool i::r=is.map .bool) h λjs e=>by rw[nk,<-Lg e])
theorem intsAre_of{p:Ws}:∀{is:List Int} {xs:List Value},bF p (is.map .int) xs->IntsAre xs is
 |[],xs,r=>r.inv (λxs=>IntsAre xs []) .nil
 |i::is,xs,r=>r.inv (λxs=>IntsAre xs (i::is)) λx xs r1 r2=>r1.inv (λx=>IntsAre (x::xs) (i::is)) λt=>.cons _ _ (intsAre_of r2)
theorem FJ{is:List Int}(r:bx P.w v x)(e:nB P.H v=some is)(T:Value->Prop)(k:∀a xs,P.s.heap.IsList a xs.toArray->IntsAre xs is->T (.ref a)):T x:=
 jf e λvs h1 h2=>aP r h1 T λζ a xs m ζ ζ ζ g1 g2 ζ=>k a xs (lK g1) (intsAre_of (by rw[<-Lf h2];exact g2))
theorem Kn.later{x:Value}{h':Heap}(k:Kn P post Q)(p:post v P.H)(r:bx P.w v x)(e:aC P.s.heap h')(tk:Nat):Q x (upd P.s h' tk):=k _ _ p (P.ext e tk) _ (r.mono (P.ext e tk).S)
theorem Tz(G:Good X)(r:bx P.w v x)(p:aO (mD P.H v) λl=>post (.int l.length) P.H)(k:Kn P post Q):wpAny X.M P.A (call (.builtin "len") [x]) Q P.Ex P.s:=
 aO.k p λl e p=>items G r e (λx=>wpAny X.M P.A (call (.builtin "len") [x]) Q P.Ex P.s) (λζ a xs m h1 h2 h3 ζ=>PyProof.Rows.len_tuple (As h1) (small h2 h3) (k.now (v:=.int l.length) p (by rw[lE,<-h2.length];exact .int _ _) _)) λa xs h1 h2 h3=>call_len_list h1 (small h2 h3) (k.now (v:=.int l.length) p (by rw[lE,<-h2.length];exact .int _ _) _)
theorem TA{t:Ty}(r:bx P.w v x)(p:aO (Co P.H t v) λb=>post (.bool b) P.H)(k:Kn P post Q):wpAny X.M P.A (call (.builtin "isinstance") [x,.type (lW t)]) Q P.Ex P.s:=by
 refine aO.k p λb e p=>?_
 have fin:∀tk,Q (.bool b) (upd P.s P.s.heap tk):=λtk=>k.now p (.bool _) tk
 cases v with
 |bool c=>
  refine r.inv (λx=>wpAny X.M P.A (call (.builtin "isinstance") [x,.type (lW t)]) Q P.Ex P.s) ?_
  cases t<;>cases e
  ·exact IsiPair.bool_int (fin _)
  ·exact IsiPair.bool_bool (fin _)
  ·exact IsiPair.bool_list (fin _)
 |int i=>
  refine r.inv (λx=>wpAny X.M P.A (call (.builtin "isinstance") [x,.type (lW t)]) Q P.Ex P.s) λtk=>?_
  cases t<;>cases e
  ·exact IsiPair.int_int (fin _)
  ·exact IsiPair.int_bool (fin _)
  ·exact IsiPair.int_list (fin _)
 |none=>
  refine r.inv (λx=>wpAny X.M P.A (call (.builtin "isinstance") [x,.type (lW t)]) Q P.Ex P.s) ?_
  cases t<;>cases e
  ·exact IsiPair.NoneType_int (fin _)
  ·exact IsiPair.NoneType_bool (fin _)
  ·exact IsiPair.NoneType_list (fin _)
 |str z=>
  refine r.inv (λx=>wpAny X.M P.A (call (.builtin "isinstance") [x,.type (lW t)]) Q P.Ex P.s) λtk=>?_
  cases t<;>cases e
  ·exact IsiPair.str_int (fin _)
  ·exact IsiPair.str_bool (fin _)
  ·exact IsiPair.str_list (fin _)
 |aF vs=>
  refine r.inv (λx=>wpAny X.M P.A (call (.builtin "isinstance") [x,.type (lW t)]) Q P.Ex P.s) λa m xs h1 ζ ζ ζ=>?_
  cases t<;>cases e
  ·exact IsiPair.tuple_int h1 rfl (fin _)
  ·exact IsiPair.tuple_bool h1 rfl (fin _)
  ·exact IsiPair.tuple_list h1 rfl (fin _)
 |ref l=>
  have key:∀b',(dJ P.H (.ref l)).map (λζ=>b')=some b->(∀a xs m,P.s.heap.get? a=some (jb xs m)->(∀tk,Q (.bool b') (upd P.s P.s.heap tk))->wpAny X.M P.A (call (.builtin "isinstance") [.ref a,.type (lW t)]) Q P.Ex P.s)->wpAny X.M P.A (call (.builtin "isinstance") [x,.type (lW t)]) Q P.Ex P.s:=λb' e h=>
   iE (λb=>(∀tk,Q (.bool b) (upd P.s P.s.heap tk))->_) e (λvs e fin=>aP r e (λx=>wpAny X.M P.A (call (.builtin "isinstance") [x,.type (lW t)]) Q P.Ex P.s) λζ a xs m ζ ζ ζ h1 ζ ζ=>h a xs m h1 fin) fin
  cases t
  ·exact key false e λa xs m h1 fin=>IsiPair.list_int h1 rfl (fin _)
  ·exact key false e λa xs m h1 fin=>IsiPair.list_bool h1 rfl (fin _)
  ·exact key true e λa xs m h1 fin=>IsiPair.list_list h1 rfl (fin _)
 |i9=>cases t<;>cases e
theorem TB(hh:P.A.handled=none)(r:bx P.w v x)(p:aO ((dJ P.H v).bind lZ) λbs=>post (.bool (bs.any id)) P.H)(k:Kn P post Q):wpAny X.M P.A (call (.builtin "any") [x]) Q P.Ex P.s:=
 aO.k p λbs e p=>jf e λvs e1 e2=>aP r e1 (λx=>wpAny X.M P.A (call (.builtin "any") [x]) Q P.Ex P.s) λζ a xs m ζ ζ ζ h1 h2 ζ=>by
  rw[Lg e2] at h2
  refine call_any_walk (wpAny_pyIter_list (lK h1) ⟨P.s.heap.objs.size,[P.s.heap.objs.size,a],[P.s.heap.objs.size],xs.toArray.size,_,_,λi=>(bs[i]?).getD false,rfl,Walks.list (A:=P.A.in1) hh _ a (dq (nh h1)) xs.toArray,
   ⟨⟨_,jo _ rfl,rfl,rfl⟩,(lK h1).push _⟩,λi w s' Q' E' hP hQ=>?_,λh' tk hk=>?_⟩)
  ·have Lh:xs[i]?=some w:=by rw[<-xG];exact hP
   have yu:i<bs.length:=by rw[<-bJ (f:=V.bool),h2.length];exact(d7.mp Lh).1
   refine h2.get (i:=i) (v:=.bool bs[i]) (by rw[i7,iB yu];rfl) λy hy ry=>?_
   rw[Lh] at hy;cases hy
   have hQ:Q' ((bs[i]?).getD false) s':=hQ
   rw[show(bs[i]?).getD false=bs[i] by rw[iB yu];rfl] at hQ
   exact ry.inv (λw=>wpAny X.M P.A.in1 (PySem.truthy w) Q' E' s') (ue hQ)
  ·rw[show((List.range xs.toArray.size).any λi=>(bs[i]?).getD false)=bs.any id by rw[lE,<-h2.length,bJ];exact LSm.range_any bs]
   exact k.later p (.bool _) (LSm.kept_iter hk) tk
theorem TC(hh:P.A.handled=none){a b:Int}{t u:Tok}(p:post (.int (max a b)) P.H)(k:Kn P post Q):wpAny X.M P.A (call (.builtin "max") [.int a t,.int b u]) Q P.Ex P.s:=
 max_two_ints hh λh' tk hk=>by
  by_cases CZ:b>a
  ·rw[bQ CZ];exact k.later p (by rw[Int.max_eq_right (le_of_lt CZ)];exact .int _ _) hk tk
  ·rw[bH CZ];exact k.later p (by rw[Int.max_eq_left (kM.mp CZ)];exact .int _ _) hk tk
theorem TF(r:bx P.w v x)(p:aO (dJ P.H v) λxs=>post (.aF xs) P.H)(k:Kn P post Q):wpAny X.M P.A (call (.type "tuple") [x]) Q P.Ex P.s:=
 aO.k p λvs e p=>aP r e (λx=>wpAny X.M P.A (call (.type "tuple") [x]) Q P.Ex P.s) λζ a xs m ζ ζ ζ h1 h2 h3=>call_tuple_list (lK h1) (λh' hk=>
  have e:aC P.s.heap (h'.push (lY xs 0)):=λb o x=>nY _ (hk b o x)
  k _ _ p (P.ext e P.s.toks) _ (.aF (n:=0) (Heap.get?_push_size _ rfl) (h2.mono (P.ext e P.s.toks).S) h3 (SR.new (p:=⟨P.φ,h'⟩) (SR.ext (p:=P.w) P.R hk) (jq _ (le_refl _))).1)) (by rw[size_toArray,<-h2.length];unfold sizeLine;exact le_trans h3 (by decide))
theorem TG{b:Bool}(p:post (.int (if b then 1 else 0)) P.H)(k:Kn P post Q):wpAny X.M P.A (call (.type "int") [.bool b]) Q P.Ex P.s:=call_int_bool (k.now p (.int _ _) _)
theorem FK:∀(l acc:List Int),(l.foldl step_dedup acc).length<=acc.length+l.length/\((l.foldl step_dedup acc).length=acc.length+l.length↔l.Nodup/\∀x,x∈l->x∉acc)
 |[],acc=>⟨bX _,⟨λζ=>⟨ql,λζ h=>nomatch h⟩,λζ=>rfl⟩⟩
 |a::r,acc=>by
  rw[foldl_cons,lF,nj]
  by_cases h:a∈acc
  ·rw[show step_dedup acc a=acc from bQ (c:=(acc.any λx=>x==a)=true) (rE.mpr ⟨a,h,hX a⟩)]
   have:=FK r acc
   refine⟨by lia,⟨λe=>absurd e (by lia),λe=>absurd h (e.2 a (.head _))⟩⟩
  ·rw[show step_dedup acc a=acc++[a] from bH λe=>(rE.mp e).elim λb x=>h ((eq_of_beq x.2:b=a)▸x.1)]
   have:=FK r (acc++[a])
   rw[b6,List.length_singleton] at this
   refine⟨by lia,⟨λe=>?_,λe=>?_⟩⟩
   ·have x:=this.2.mp (by lia)
    exact⟨⟨λhm=>x.2 a hm (cY.mpr (.inr (.head _))),x.1⟩,λy hy=>(gB.mp hy).elim (λe=>e▸h) λhy hm=>x.2 y hy (cY.mpr (.inl hm))⟩
   ·have x:=this.2.mpr ⟨e.1.2,λy hy hm=>(cY.mp hm).elim (e.2 y (.tail _ hy)) λhm=>e.1.1 (dI.mp hm▸hy)⟩
    lia
theorem FL(is:List Int):(List.range is.length).map (λi=>is.getD i 0)=is:=by
 apply ext_getElem?
 intro i
 rw[i7]
 by_cases h:i<is.length
 ·rw[List.getElem?_range h,iB h,Option.map_some,zN,iB h];rfl
 ·rw[sO (fv.mp h),sO (by rw[jI];exact fv.mp h)];rfl
theorem TH(hh:P.A.handled=none)(r:bx P.w v x)(p:aO (nB P.H v) λis=>is.length<=1000/\∀n:Nat,(n=is.length↔is.Nodup)->post (.int n) P.H)(k:Kn P post Q):wpAny X.M P.A (call (.type "set") [x]) (λy ci=>wpAny X.M P.A (call (.builtin "len") [y]) Q P.Ex ci) P.Ex P.s:=
 aO.k p λis e p=>FJ r e (λx=>wpAny X.M P.A (call (.type "set") [x]) (λy ci=>wpAny X.M P.A (call (.builtin "len") [y]) Q P.Ex ci) P.Ex P.s) λa xs h1 hI=>by
  have hl:xs.toArray.size=is.length:=by rw[lE,hI.length]
  refine PySem.call_set_list hh h1 hI (by rw[hl];have:=p.1;show is.length+1<4096;lia) λh' tk hs hk=>?_
  obtain⟨o,es,ep,t,e1,e2,e3,_,_,_,e4,e5⟩:=hs
  have em:firstMet (λi=>is.getD i 0) xs.toArray.size=is.foldl step_dedup []:=by unfold firstMet;rw[hl,FL]
  rw[em] at e5
  have d:=FK is []
  rw[length_nil,qj] at d
  have ext:aC P.s.heap h':=λb o x=>hk b o (nh x) x
  exact call_len_set (s:=upd P.s h' tk) e1 e2 e3 e4 (by have:=p.1;lia) (k.later (p.2 es.size (by rw[e5];exact d.2.trans ⟨λx=>x.1,λx=>⟨x,λζ ζ h=>nomatch h⟩⟩)) (.int _ _) ext _)
theorem TJ(r:bx P.w v x)(p:aO (nB P.H v) λis=>is.length<64/\∀js:List Int,js.Perm is->js.Pairwise (·<=·)->oC (js.map .int) P.H post)(k:Kn P post Q):wpAny X.M P.A (call (.builtin "sorted") [x]) Q P.Ex P.s:=
 aO.k p λis e p=>FJ r e (λx=>wpAny X.M P.A (call (.builtin "sorted") [x]) Q P.Ex P.s) λa xs h1 hI=>sorted_ints h1 hI (by rw[hI.length];exact p.1) λout js q1 q2 q3=>(sortedAll_at P.s.heap xs out).elim λc he=>Kn.list k (λb o x=>sortedAll_old x) _ (jq _ (kO _)) he (Ff q1) (by rw[bJ,q2.length_eq];exact aG (cW p.1) (by decide)) (p.2 js q2 q3) P.s.toks
end
section
variable{A:Around}{E:Value->Shared->Prop}{s:Shared}{R:Result->Shared->Prop}{kw:List (Str×Value)}
theorem C0:(toString "min"++toString ".loop":String)="min.loop":=by decide
theorem TK{i j:Int}{t u:Tok}{Q:Value->Shared->Prop}(h:Q (.bool (decide (i<j))) s):wpAny X.M A (richCompare .Lt (.int i t) (.int j u)) Q E s:=
 richCompare_gives (op:=.Lt) (typeIs_int s _ t) (typeIs_int s _ u) PySem.F.slot_int_lt PySem.F.entry_int_lt (PySem.F.args_int_lt_2 _ _) (gives_int_lt _ _ t u) (λx=>nomatch x) h
theorem ww{h:Heap}{a b:Addr}{o:Obj}{f:Obj->Obj}(hn:b≠a)(e:h.get? b=some o):(h.update a f).get? b=some o:=(xM _ _ (gS hn)).trans e
theorem TL{I S a:Addr}{vs:Array Value}(hh:A.handled=none)(C1:a≠I)(rQ:S≠I)(C2:S≠a){xs:List Value}{is:List Int}(hI:IntsAre xs is):∀(j:Nat) (s:Shared) (m:Int) (t:Tok) (c:Nat),vs.toList.drop j=xs->s.heap.IsListIter I a j->s.heap.IsList a vs ->
  s.heap.get? S=some {cls:=.type "list",dict:=none,data:=.seq #[.int m t,.int m t] c,slots:=#[]} ->
  (∀t' h' tk,(∀b o,b≠I->b≠S->s.heap.get? b=some o->h'.get? b=some o)->R (.ok (.ret (.int (is.foldl min m) t'))) {s with heap:=h',toks:=tk}) ->
  codeAny X.M A (.builtin "min.loop" ⟨[.ref I,.none,.ref S],kw⟩) R s:=by
 induction hI with
 |nil=>
  intro j s m t c hd gI hl hS hR
  refine xF PySem.F.entry_min_loop ?_
  rw[zI vA _]
  refine(bj (zO hS rfl ?_):wpAny _ A.in1 (seqItems? (.ref S) >>= _) _ _ s)
  refine((bj (zP (wpAny_pyNext_list_end hh gI hl (by rw[<-B5];exact sP.mpr (xE.mp hd)) λh' he=>?_))):wpAny _ A.in1 (tryCatch (pyNext (.ref I)) _ >>= _) _ _ s)
  refine(?_:wpAny _ A.in1 (updateSeq S (λζ=>#[]) >>= _) _ _ _)
  exact bj (xN (he S _ rQ hS) rfl (bj (wpAny_letGo (bU (hR t _ s.toks λb o hI hS e=>ww hS (he b o hI e))))))
 |cons i u h ih=>
  intro j s m t c hd gI hl hS hR
  have hx:vs[j]?=some (.int i u):=by rw[<-B5,<-List.head?_drop,hd];rfl
  have yE:=(List.tail_drop (l:=vs.toList) (i:=j)).symm.trans (b7 List.tail hd)
  refine xF PySem.F.entry_min_loop ?_
  rw[zI vA _]
  refine(bj (zO hS rfl ?_):wpAny _ A.in1 (seqItems? (.ref S) >>= _) _ _ s)
  refine(bj (zP (wpAny_pyNext_list_item gI hl hx λh' wb pR=>?_)):wpAny _ A.in1 (tryCatch (pyNext (.ref I)) _ >>= _) _ _ s)
  have rR:=pR.extBut S _ rQ hS
  have gX:=hl.extBut pR.extBut C1
  refine(?_:wpAny _ A.in1 (tryCatch (holding [Value.int i u,Value.int i u] (richCompare .Lt (Value.int i u) (Value.int m t) >>= _)) _ >>= _) _ _ _)
  refine bj (zP (uh (bj (TK (bj (uh (ue (bj (wpAny_letGo (bU ?_))))))))))
  by_cases hb:i<m
  ·rw[dj hb]
   refine bj (xN rR rfl (bj (wpAny_letGo ?_)))
   rw[C0]
   exact bU ⟨uf vA _,ih (j+1) _ i u _ yE (wb.at λo e=>ww rQ.symm e) (gX.at λo e=>ww C2.symm e) (sQ _ rR rfl) λt' AG tk hk=>by
    have:=hR t' AG tk λb o hI hS e=>hk b o hI hS (ww hS (pR.extBut b o hI e))
    rw[foldl_cons,Int.min_eq_right (le_of_lt hb)] at this
    exact this⟩
  ·rw[gE hb]
   refine bj (wpAny_letGo ?_)
   rw[C0]
   exact bU ⟨uf vA _,ih (j+1) _ m t c yE wb gX rR λt' AG tk hk=>by
    have:=hR t' AG tk λb o hI hS e=>hk b o hI hS (pR.extBut b o hI e)
    rw[foldl_cons,Int.min_eq_left (kM.mp hb)] at this
    exact this⟩
theorem TM{I S a:Addr}{dn:Str}{d:Value}{c:Nat}{xs:List Value}{is:List Int}(hh:A.handled=none)(C1:a≠I)(rQ:S≠I)(C2:S≠a)(hI:IntsAre xs is)(gI:s.heap.IsListIter I a 0)(hl:s.heap.IsList a xs.toArray)
  (hS:s.heap.get? S=some {cls:=.type "list",dict:=none,data:=.seq #[] c,slots:=#[]})
  (hR:∀v h' tk,(is=[]/\v=d\/∃i r t,is=i::r/\v=.int (r.foldl min i) t)->(∀b o,b≠I->b≠S->s.heap.get? b=some o->h'.get? b=some o)->R (.ok (.ret v)) {s with heap:=h',toks:=tk}) :
  codeAny X.M A (.builtin "min.loop" ⟨[.ref I,.none,.ref S],[(dn,d)]⟩) R s:=by
 refine xF PySem.F.entry_min_loop ?_
 rw[zI vA _]
 refine(bj (zO hS rfl ?_):wpAny _ A.in1 (seqItems? (.ref S) >>= _) _ _ s)
 refine(?_:wpAny _ A.in1 (tryCatch (pyNext (.ref I)) _ >>= _) _ _ s)
 cases hI with
 |nil=>exact bj (zP (wpAny_pyNext_list_end hh gI hl rfl λh' he=>bj (wpAny_rule (bU (hR d h' s.toks (.inl ⟨rfl,rfl⟩) λb o hI ζ e=>he b o hI e)))))
 |cons i u h=>
  refine bj (zP (wpAny_pyNext_list_item gI hl (x:=.int i u) rfl λh' wb pR=>?_))
  have rR:=pR.extBut S _ rQ hS
  refine(?_:wpAny _ A.in1 (updateSeq S (λζ=>#[.int i u,.int i u]) >>= _) _ _ _)
  refine bj (xN rR rfl ?_)
  rw[C0]
  exact bU ⟨uf vA _,TL hh C1 rQ C2 h 1 _ i u _ rfl (wb.at λo e=>ww rQ.symm e) ((hl.extBut pR.extBut C1).at λo e=>ww C2.symm e) (sQ _ rR rfl) λt' AG tk hk=>hR _ AG tk (.inr ⟨i,_,t',rfl,rfl⟩) λb o hI hS e=>hk b o hI hS (ww hS (pR.extBut b o hI e))⟩
theorem TN{id:String}{b:Builtin}{args:List Value}{Q:Value->Shared->Prop}(hk:builtinKind id=none)(hp:plainId id=true)(hb:entryFor table id=some b)(ha:argsOk id ⟨args,kw⟩)
  (hc:wpAny X.M A.in1 (b ⟨args,kw⟩) (λfin s'=>match fin with
   |.done f=>(match(Except.ok f:Result) with | .ok (.ret v)=>Q v s' | .ok _=>False | .error e=>E e s')
   |.again c'=>c'.quiet=true/\codeAny X.M A c' (λr s'=>match r with | .ok (.ret v)=>Q v s' | .ok _=>False | .error e=>E e s') s') E s) :
  wpAny X.M A (call (.builtin id) args kw) Q E s:=by
 refine wpAny_call (codeAny_call_builtin hp hb ?_)
 rw[checkBuiltinCall,hk]
 cases TP:Manifest.signature? id with
 |none=>exact bU hc
 |some sig=>
  have oI:Bind.checkArgs id sig ⟨args,kw⟩=pure ():=by simpa only[argsOk,TP] using ha
  simp only[oI]
  exact bU hc
theorem TQ{Q:Value->Shared->Prop}{l:Addr}{xs:List Value}{is:List Int}{d:Value}(hh:A.handled=none)(hl:s.heap.IsList l xs.toArray)(hI:IntsAre xs is)
  (hQ:∀v h' tk,(is=[]/\v=d\/∃i r t,is=i::r/\v=.int (r.foldl min i) t)->(∀b o,s.heap.get? b=some o->h'.get? b=some o)->Q v {s with heap:=h',toks:=tk}) :
  wpAny X.M A (call (.builtin "min") [.ref l] [("default",d)]) Q E s:=by
 have ey:l<s.heap.objs.size:=hl.elim λζ e=>nh e.1
 refine TN PySem.F.kind_min PySem.F.plain_min PySem.F.entry_min (by unfold argsOk;rfl) ((wpAny_bind (wpAny_of_eq (show Builtin.Builtins.bindParams "min" ["key","default"] 0 ⟨[],[("default",d)]⟩=pure [none,some d] from rfl) (wpAny_bind (wpAny_pure (wpAny_bind (wpAny_pyIter_list hl (wpAny_bind (wpAny_newObj_type ?_))))))):wpAny _ A.in1 (Builtin.Builtins.bindParams "min" ["key","default"] 0 ⟨[],[("default",d)]⟩ >>= _) _ _ s))
 rw[C0]
 have e1:(s.heap.push {cls:=.type "list_iterator",data:=.fields #[.ref l,.int 0 0]}).objs.size=s.heap.objs.size+1:=Heap.size_push ..
 exact bU ⟨uf vA _,TM (I:=s.heap.objs.size) (S:=(s.heap.push {cls:=.type "list_iterator",data:=.fields #[.ref l,.int 0 0]}).objs.size) hh (dq ey) (by rw[e1];exact uj _) (by rw[e1];exact dm (lG ey)) hI ⟨_,nY _ (jo _ rfl),rfl,rfl⟩ ((hl.push _).push _) (jo _ rfl)
  λv h' tk hv hk=>hQ v h' tk hv λb o e=>hk b o (dq (nh e)) (by rw[e1];exact dq (lG (nh e))) (nY _ (nY _ e))⟩
end
section
variable{σ:Lv}{cs:List E}{es:List Expr}{g:Expr}{pos:Pos}
theorem TR{T:Value->List Value->Prop}{post:List V->Hp->Prop}{P:Fp σ}{Q:Value->Shared->Prop}{nm:Str}{y:Value}(G:Good X)(hg:fR σ.f nm g=true)(hm:(nm,y)∈rH)(hy:(∃T,y=.type T)\/∃T,y=.builtin T)(h:fX σ cs es)(p:nC σ.c cs P.ρ P.H post)(k:Fe P.toPt cs.length post λxs ci=>wpAny X.M P.A (call y xs) Q P.Ex ci):wpAny X.M P.A (eval (.Call g es [] pos) P.env) Q P.Ex P.s:=
 hy.elim (λhy=>we G hg hm hy h p k) λhy=>gV.k (G:=λg=>wpAny X.M P.A (eval (.Call g es [] pos) P.env) Q P.Ex P.s) hg λx np hg=>aW hg λe ho=>by
  obtain rfl:=eq_of_beq e
  obtain⟨T,rfl⟩:=hy
  exact vw (uF G P hm ho (zM (h.plain P.env pos) (tn (h.plain P.env pos) (h.rN P _ _ pos p k))))
theorem TS{b:Bi}{q:Str×Nat}(hb:zV b=some q)(G:Good X){T:Prop}(k:∀y,(q.1,y)∈rH->((∃T,y=.type T)\/∃T,y=.builtin T) ->
  (∀(P:Pt) (vs:List V) (xs:List Value) (post:PQ) (Q:Value->Shared->Prop),P.A.handled=none->bF P.w vs xs->E9 b vs P.H post->Kn P post Q->wpAny X.M P.A (call y xs) Q P.Ex P.s)->T):T:=by
 have one:∀{y:Value} {f:Hp->V->PQ->Prop},(∀(P:Pt) (v:V) (x:Value) (post:PQ) (Q:Value->Shared->Prop),P.A.handled=none->bx P.w v x->f P.H v post->Kn P post Q->wpAny X.M P.A (call y [x]) Q P.Ex P.s) ->
   ∀(P:Pt) (vs:List V) (xs:List Value) (post:PQ) (Q:Value->Shared->Prop),P.A.handled=none->bF P.w vs xs->w1 vs (λv=>f P.H v post)->Kn P post Q->wpAny X.M P.A (call y xs) Q P.Ex P.s:=λh P vs xs post Q hh r p k=>
  w1.k p (λvs=>bF P.w vs xs->_) (λv p r=>r.k1 (λxs=>wpAny X.M P.A (call _ xs) Q P.Ex P.s) λx r=>h P v x post Q hh r p k) r
 cases b with
 |len=>cases hb;exact k _ (jT 0 (by decide)) (.inr ⟨_,rfl⟩) (one (f:=λH v post=>aO (mD H v) λl=>post (.int l.length) H) λP v x post Q hh r p k=>Tz G r p k)
 |any=>cases hb;exact k _ (jT 10 (by decide)) (.inr ⟨_,rfl⟩) (one (f:=λH v post=>aO ((dJ H v).bind lZ) λbs=>post (.bool (bs.any id)) H) λP v x post Q hh r p k=>TB hh r p k)
 |max2=>cases hb;exact k _ (jT 12 (by decide)) (.inr ⟨_,rfl⟩) λP vs xs post Q hh r p k=>w2.k p (λvs=>bF P.w vs xs->_) (λu v p r=>r.k2 (λxs=>wpAny X.M P.A (call _ xs) Q P.Ex P.s) λx y rx ry=>gH.k p (λu=>bx P.w u x->_) (λa p rx=>gH.k p (λv=>bx P.w v y->_) (λb p ry=>rx.inv (λx=>wpAny X.M P.A (call _ [x,y]) Q P.Ex P.s) λt=>ry.inv (λy=>wpAny X.M P.A (call _ [_,y]) Q P.Ex P.s) λt'=>TC hh p k) ry) rx) r
 |tupleOf=>cases hb;exact k _ (jT 4 (by decide)) (.inl ⟨_,rfl⟩) (one (f:=λH v post=>aO (dJ H v) λxs=>post (.aF xs) H) λP v x post Q hh r p k=>TF r p k)
 |B7=>cases hb;exact k _ (jT 9 (by decide)) (.inr ⟨_,rfl⟩) (one (f:=λH v post=>aO (nB H v) λis=>is.length<64/\∀js:List Int,js.Perm is->js.Pairwise (·<=·)->oC (js.map .int) H post) λP v x post Q hh r p k=>TJ r p k)
 |EN=>cases hb;exact k _ (jT 2 (by decide)) (.inl ⟨_,rfl⟩) (one (f:=λH v post=>aO (boolOf v) λb=>post (.int (if b then 1 else 0)) H) λP v x post Q hh r p k=>aO.k p λb e p=>boolOf.k e (λv=>bx P.w v x->_) (λr=>r.inv (λx=>wpAny X.M P.A (call _ [x]) Q P.Ex P.s) (TG p k)) r)
 |_=>cases hb
theorem TT{b:Bi}{q:Str×Nat}(hh:σ.f.hd=false)(G:Good X)(hb:zV b=some q)(hg:fR σ.f q.1 g=true)(h:fX σ cs es):cy σ (.bi b cs) (.Call g es [] pos):=λP post Q p k=>
 TS hb G λy hm hy run=>TR (T:=λζ ζ=>True) G hg hm hy h p (λvs H1 p1 ζ N xs r=>run N.pt vs xs post Q (P.calm hh) r p1 (k.nx N))
theorem TU(t:Ty):(Str.ofString (lW t),Value.type (lW t))∈rH:=by
 cases t
 ·exact jT 2 (by decide)
 ·exact jT 3 (by decide)
 ·exact jT 5 (by decide)
theorem TV{t:Ty}{e nm:Expr}{c:E}(G:Good X)(hg:fR σ.f "isinstance" g=true)(hn:fR σ.f (Str.ofString (lW t)) nm=true)(h0:cH σ.f c e=true)(he:cy σ c e):cy σ (.bi (.mB t) [c]) (.Call g [e,nm] [] pos):=λP post Q p k=>
 gV.k (G:=λg=>wpAny X.M P.A (eval (.Call g [e,nm] [] pos) P.env) Q P.Ex P.s) hg λx np hg=>aW hg λe1 ho=>gV.k (G:=λnm=>wpAny X.M P.A (eval (.Call _ [e,nm] [] pos) P.env) Q P.Ex P.s) hn λy yp hn=>aW hn λe2 TX=>by
  obtain rfl:=eq_of_beq e1
  obtain rfl:=eq_of_beq e2
  have oG:(backTo pos (starEach [e,.Name (Str.ofString (lW t)) yp] P.env)).any (·.1)=false:=by rw[tm h0 P.env];rfl
  exact vw (uF G P (jT 1 (by decide)) ho (zM oG (tn oG (ug (he P _ _ p (λv H1 p1 N x r=>(ug (uF G (P.to N) (y:=.type (lW t)) (TU t) TX (xJ (TA (P:=N.pt) r p1 (k.nx N)))) rfl))) (tm h0 P.env _)))))
theorem TY(hh:σ.f.hd=false){c d:E}{e v:Expr}{kp:Pos}(G:Good X)(hg:fR σ.f "min" g=true)(h0:cH σ.f c e=true)(he:cy σ c e)(hv:cy σ d v):cy σ (.bi .rG [c,d]) (.Call g [e] [⟨some "default",v,kp⟩] pos):=λP post Q p k=>
 gV.k (G:=λg=>wpAny X.M P.A (eval (.Call g [e] [⟨some "default",v,kp⟩] pos) P.env) Q P.Ex P.s) hg λx np hg=>aW hg λe1 ho=>by
  obtain rfl:=eq_of_beq e1
  obtain⟨y,hy⟩:∃y,backTo pos (starEach [e] P.env)=[(false,y)]:=⟨_,by rw[tm h0 P.env];rfl⟩
  refine((bj (uF G P (y:=.builtin "min") (jT 11 (by decide)) ho (callWith_builtin_kwB (by rw[hy];rfl) rfl ?_))):wpAny X.M P.A (do callWith pos (<-eval (.Name "min" np) P.env) [] (backTo pos (starEach [e] P.env)) (backToKw pos (keywordEach [⟨some "default",v,kp⟩] P.env))) Q P.Ex P.s)
  rw[hy]
  refine evalArgs_kwB rfl ?_
  rw[<-hy]
  exact ug (he P _ _ p (λu H1 p1 N x r=>xJ (kws_cons (hv (P.to N) _ _ p1 (λw H2 p2 N2 z r2=>kws_nil (gH.k p2 (λw=>bx N2.w w z->_) (λd p2 r2=>aO.k p2 λis ei p2=>FJ (P:=N2.pt) (r.mono N2.S) ei (λx=>wpAny X.M P.A (call (.builtin "min") [x] [("default",z)]) Q P.Ex N2.s) λa xs h1 hI=>TQ (P.calm hh) h1 hI λy h' tk hy hk=>
   ((k.nx N).nx N2).later p2 (by
    rcases hy with⟨rfl,rfl⟩|⟨i,r,t,rfl,rfl⟩
    ·exact r2
    ·exact .int _ _) hk tk) r2)))))) (tm h0 P.env _)
theorem TZ{c:E}{e g':Expr}{pos':Pos}(hh:σ.f.hd=false)(G:Good X)(hg:fR σ.f "len" g=true)(T1:fR σ.f "set" g'=true)(h:fX σ [c] [e]):cy σ (.bi .qo [c]) (.Call g [.Call g' [e] [] pos'] [] pos):=λP post Q p k=>
 gV.k (G:=λg=>wpAny X.M P.A (eval (.Call g [.Call g' [e] [] pos'] [] pos) P.env) Q P.Ex P.s) hg λx np hg=>aW hg λe1 ho=>by
  obtain rfl:=eq_of_beq e1
  have oG:(backTo pos (starEach [.Call g' [e] [] pos'] P.env)).any (·.1)=false:=rfl
  exact vw (uF G P (jT 0 (by decide)) ho (zM oG (tn oG (ug (we (post:=λvs H=>w1 vs λx=>aO (nB H x) λis=>is.length<=1000/\∀n:Nat,(n=is.length↔is.Nodup)->post (.int n) H) G T1 (jT 13 (by decide)) ⟨_,rfl⟩ h p λvs H1 p1 ζ N xs r=>w1.k p1 (λvs=>bF N.w vs xs->_) (λv p1 r=>r.k1 (λxs=>wpAny X.M P.A (call (.type "set") xs) _ P.Ex N.s) λx r=>ig (TH (P:=N.pt) (P.calm hh) r p1 (k.nx N)) (λy ci h=>xJ h) λζ ζ h=>h) r) rfl))))
end
section
variable{A:Around}{E:Value->Shared->Prop}{s:Shared}{d:Addr}{kvs:List (Int×Value)}{ep:Nat}
theorem T2{Q:Bool->Shared->Prop}(hT:s.TypeIs (.ref d) "dict")(h:Q false s):wpAny X.M A (Builtin.List.listLengthHint (.ref d)) Q E s:=by
 unfold Builtin.List.listLengthHint
 refine bj (wpAny_specialOf hT PySem.F.slot_dict_len.lookup ?_)
 generalize jx:("dict.__len__":String)=T3
 wp_delta
 rw[show splitId T3=some ("dict","__len__") from by subst jx;decide +kernel]
 subst jx
 exact bj (zH (T:="dict") (b:=true) hT (by rw[isSubtype_type];kernel_rfl) (wpAny_ite_split (λmJ=>absurd mJ (by decide)) (λζ=>(wpAny_ite_split (λζ=>(bj (wpAny_typeOf hT (bU h)))) (λmJ=>absurd (by decide +kernel) mJ)))))
abbrev FN(kvs:List (Int×Value))(i:Nat)(v:Value):Prop:=∃k x,kvs[i]?=some (k,x)/\kS.is k v=true
theorem T4{R:Result->Shared->Prop}{S:Addr}{C3:Nat}(hh:A.handled=none)(lo:(d==sysModules)=false)(hD:s.heap.DictAt kS d kvs ep)(yF:S≠d)(hn:kvs.length<=sizeLine)
  (hS:s.heap.get? S=some {cls:=.type "list",data:=.seq #[] C3})
  (hR:∀h' tk acc c',(∀b o,b≠S->s.heap.get? b=some o->h'.get? b=some o)->h'.get? S=some {cls:=.type "list",dict:=none,data:=.seq acc c',slots:=#[]}->ItemsOf (FN kvs) acc kvs.length->R (.ok (.ret .none)) {s with heap:=h',toks:=tk}) :
  wpAny X.M A.in1 (Builtin.List.listExtendWith (.ref S) (.ref d) .none)
   (λfin s'=>match fin with | .done f=>R (.ok f) s' | .again c'=>c'.quiet=true/\codeAny X.M A c' R s') (λe s'=>R (.error e) s') s:=by
 have hT:s.TypeIs (.ref d) "dict":=hD.dictOf.typeIs
 have rQ:S≠s.heap.objs.size:=dq (nh hS)
 have T5:S∉[s.heap.objs.size,d]:=by
  intro hm
  rcases gB.mp hm with e|hm
  ·exact rQ e
  ·exact yF (dI.mp hm)
 have W:=Walks.dictKeys (A:=A.in1) (knd:=kS) hh s.heap.objs.size d (dq hD.lt_size) kvs ep
 have go:∀(h:Heap) (FO tk:Nat),h.IsKeyIter s.heap.objs.size d 0 kvs.length ep->h.DictAt kS d kvs ep->(∀b o,b≠S->s.heap.get? b=some o->h.get? b=some o)->h.get? S=some {cls:=.type "list",data:=.seq #[] FO} ->
   codeAny X.M A (.builtin "list.extend.loop" ⟨[.ref S,.ref s.heap.objs.size,.none],[]⟩) R {s with heap:=h,toks:=tk}:=by
  intro h FO tk i1 i2 hk AH
  refine codeAny_extend_loopS W.toS hn S T5 .none kvs.length 0 _ #[] FO rfl (iD _) ⟨i1,i2⟩ AH (ItemsOf.nil _) λs' acc c' hm rR FP=>?_
  rw[Moved.eq_with hm]
  refine hR s'.heap s'.toks acc c' (λb o hb e=>hm.heap b o (λyG=>?_) (hk b o hb e)) rR FP
  rcases gB.mp yG with e'|yG
  ·exact hb e'
  ·rw[dI.mp yG] at e
   exact absurd (nh e) (lt_irrefl _)
 unfold Builtin.List.listExtendWith
 refine bj (wpAny_typeOf (T:="dict") hT ?_)
 have h1:Builtin.List.listSameRef (.ref S) (.ref d)=false:=by simp[Builtin.List.listSameRef,yF]
 simp only[h1,show(Value.type "dict"==Value.type "list")=false from by decide,show(Value.type "dict"==Value.type "tuple")=false from by decide,Bool.or_false,Bool.false_eq_true,if_false]
 refine bj (wpAny_pyIter_dict lo hD ?_)
 have AH:=nY {cls:=.type "dict_keyiterator",data:=.fields #[.ref d,.int 0 0,.int kvs.length 0,.int ep 0]} hS
 have i1:(s.heap.push {cls:=.type "dict_keyiterator",data:=.fields #[.ref d,.int 0 0,.int kvs.length 0,.int ep 0]}).IsKeyIter s.heap.objs.size d 0 kvs.length ep:=⟨_,jo _ rfl,rfl,rfl⟩
 have i2:=hD.push {cls:=.type "dict_keyiterator",data:=.fields #[.ref d,.int 0 0,.int kvs.length 0,.int ep 0]}
 refine bj (uh (T2 i2.dictOf.typeIs (wpAny_ite_split (λζ=>(bj (wpAny_rule (bj ((bj (xN AH rfl ?_):wpAny _ _ (updateSeq S (·.push .none) >>= λζ=>updateSeq S (·.pop)) _ _ _)))))) (λζ=>bU ⟨uf PySem.F.plain_extend_loop _,go _ C3 _ i1 i2 (λb o ζ e=>nY _ e) AH⟩))))
 have C4:=sQ (Obj.mapSeq (·.push Value.none)) AH rfl
 refine xN (hz:=by seq_fits) C4 rfl ?_
 have T6:=sQ (Obj.mapSeq (·.pop)) C4 rfl
 have oth:∀b o,b≠S->(s.heap.push {cls:=.type "dict_keyiterator",data:=.fields #[.ref d,.int 0 0,.int kvs.length 0,.int ep 0]}).get? b=some o->(((s.heap.push {cls:=.type "dict_keyiterator",data:=.fields #[.ref d,.int 0 0,.int kvs.length 0,.int ep 0]}).update S (Obj.mapSeq (·.push Value.none))).update S (Obj.mapSeq (·.pop))).get? b=some o:=
  λb o hb e=>(xM _ _ (gS hb)).trans ((xM _ _ (gS hb)).trans e)
 exact bU ⟨uf PySem.F.plain_extend_loop _,go _ _ _ (i1.at λo e=>oth _ o rQ.symm e) (i2.at' λo e=>oth _ o yF.symm e) (λb o hb e=>oth b o hb (nY _ e)) T6⟩
theorem T7{Q:Value->Shared->Prop}(hh:A.handled=none)(lo:(d==sysModules)=false)(hD:s.heap.DictAt kS d kvs ep)(hn:kvs.length<=sizeLine)
  (hQ:∀h' tk acc c',(∀b o,s.heap.get? b=some o->h'.get? b=some o)->h'.get? s.heap.objs.size=some {cls:=.type "list",dict:=none,data:=.seq acc c',slots:=#[]}->ItemsOf (FN kvs) acc kvs.length->Q (.ref s.heap.objs.size) {s with heap:=h',toks:=tk}) :
  wpAny X.M A (call (.type "list") [.ref d]) Q E s:=by
 refine callType_codes (Q₁:=λobj ci=>obj=.ref s.heap.objs.size/\ci={s with heap:=s.heap.push {cls:=.type "list",data:=.seq #[]}}) PySem.F.called_list (PySem.F.typeCall_list_1 _) PySem.F.entry_list_init
  (code_list_new _ ⟨rfl,rfl⟩) λobj ci iq=>?_
 obtain⟨rfl,rfl⟩:=iq
 have hS:(s.heap.push {cls:=.type "list",data:=.seq #[]}).get? s.heap.objs.size=some {cls:=.type "list",data:=.seq #[]}:=jo _ rfl
 have yF:s.heap.objs.size≠d:=dm hD.lt_size
 refine⟨⟨_,hS,rfl⟩,PySem.F.args_list_init_2 _ _,((bj ?_:wpAny _ _ (do let old <-Builtin.List.listItems (.ref s.heap.objs.size);Builtin.List.listUpdate (.ref s.heap.objs.size) (λζ=>#[]);letGo old.toList.reverse;Builtin.List.listExtendWith (.ref s.heap.objs.size) (.ref d) .none) _ _ _))⟩
 unfold Builtin.List.listItems
 refine bj (zO hS rfl (bU ((bj (xN hS rfl ?_):wpAny _ _ (updateSeq s.heap.objs.size (λζ=>#[]) >>= λζ=>letGo (#[]:Array Value).toList.reverse >>= λζ=>Builtin.List.listExtendWith (.ref s.heap.objs.size) (.ref d) .none) _ _ _))))
 have C4:=sQ (Obj.mapSeq (λζ=>(#[]:Array Value))) hS rfl
 have oth:∀b o,b≠s.heap.objs.size->(s.heap.push {cls:=.type "list",data:=.seq #[]}).get? b=some o->((s.heap.push {cls:=.type "list",data:=.seq #[]}).update s.heap.objs.size (Obj.mapSeq (λζ=>(#[]:Array Value)))).get? b=some o:=
  λb o hb e=>(xM _ _ (gS hb)).trans e
 exact bj (wpAny_letGo (T4 (A:=A.in1) hh lo ((hD.push _).at' λo e=>oth _ o yF.symm e) yF hn C4 λh' tk acc c' hk rR FP=>⟨rfl,hQ h' tk acc c' (λb o e=>hk b o (dq (nh e)) (oth b o (dq (nh e)) (nY _ e))) rR FP⟩))
end
section
variable{σ:Lv}{Q:Value->Shared->Prop}{P:Pt}{post:PQ}{H:Hp}
theorem FQ(G:Good X)(P:Pt):(P.s.heap.objs.size==sysModules)=false:=
 G.low.elim λo ho=>rC.mpr λe=>absurd (nh (P.R.keep _ _ ho)) (by rw[e];decide)
theorem C5(P:Pt):P.s.heap.get? P.s.heap.objs.size=none:=jq _ (bX _)
theorem T8{h:Heap}{D:Addr}{o o':Obj}{en:Array DictEntry}{ep:Nat}(e:h.get? D=some o)(hd:o.data=.dict en ep)(e':h.get? D=some o'):fz o'=false:=by rw[e] at e';cases e';exact Am hd
noncomputable abbrev uO:Obj:={cls:=.type "dict",data:=.dict #[]}
noncomputable abbrev Pt.newD(P:Pt){c:aI}(hc:fW ⟨P.φ,P.s.heap.push uO⟩ P.s.heap.objs.size c):Nx P (P.H++[c]):=
 ⟨P.φ++[P.s.heap.objs.size],P.s.heap.push uO,P.s.toks,SR.adopt (p:=⟨P.φ,P.s.heap.push uO⟩) (SR.ext (p:=P.w) P.R (.push _)) (P.R.new (p:=P.w) (C5 P)) (λo e=>T8 (jo _ rfl) rfl e) hc,ca.adopt (q:=⟨P.φ,P.s.heap.push uO⟩) (ca.ext (q:=P.w) .refl (.push _)) (C5 P)⟩
theorem Pt.C6(P:Pt):(P.φ++[P.s.heap.objs.size])[P.H.length]?=some P.s.heap.objs.size:=by rw[<-P.R.len,pv (bX _),qi];rfl
theorem T9(G:Good X)(P:Pt):fW ⟨P.φ,P.s.heap.push uO⟩ P.s.heap.objs.size (.dict 0 []):=.dict (kvs:=[]) (en:=#[]) (jo _ rfl) ⟨rfl,rfl,rfl⟩ rfl (λe he=>absurd he (Array.not_mem_empty e)) .nil .nil .nil (FQ G P) (iD _)
theorem Li(G:Good X)(P:Pt):fW ⟨P.φ,P.s.heap.push uO⟩ P.s.heap.objs.size (.dY 0 []):=.dY (xs:=[]) (en:=#[]) (jo _ rfl) ⟨rfl,rfl,rfl⟩ rfl rfl .nil .nil (FQ G P) (iD _)
theorem Ua{pos:Pos}(G:Good X):cy σ .lH (.Dict [] [] pos):=λP post Q p k=>wpAny_Dict_empty (k _ _ p (P.toPt.newD (T9 G P.toPt)) _ (.ref P.toPt.C6))
theorem Ub{pos:Pos}(G:Good X):cy σ .qp (.Dict [] [] pos):=λP post Q p k=>wpAny_Dict_empty (k _ _ p (P.toPt.newD (Li G P.toPt)) _ (.ref P.toPt.C6))
theorem Uc{c d:E}{k v:Expr}{pos:Pos}{post:V->V->Hp->Prop}(P:Fp σ){ce:aI}(hc:fW ⟨P.φ,P.s.heap.push uO⟩ P.s.heap.objs.size ce)(hk:cy σ c k)(hv:cy σ d v)(p:WE σ.c c P.ρ (P.H++[ce]) λx H=>WE σ.c d P.ρ H λy H=>post x y H)
  (kn:∀u w H,post u w H->∀(N:Nx P.toPt H) x y,N.φ[P.H.length]?=some P.s.heap.objs.size->bx N.w u x->bx N.w w y->wpAny X.M P.A (dictSet P.s.heap.objs.size x y) (λζ fI=>Q (.ref P.s.heap.objs.size) fI) P.Ex N.s):wpAny X.M P.A (eval (.Dict [some k] [v] pos) P.env) Q P.Ex P.s:=
 wpAny_Dict_any rfl rfl (λe=>nomatch e) (show(1:Nat)<=15 by decide) (pairTrees_cons_walk (vV hk hv (P.to (P.toPt.newD hc)) p (λu w H q N x y r1 r2=>pairTrees_nil_walk (bj (bj (ig (kn u w H q ((P.toPt.newD hc).then N) x y (N.S.pre _ _ P.toPt.C6) r1 r2) (λζ fI h=>bU (bU h)) λζ ζ h=>h))))))
theorem Ud{c d:E}{k v:Expr}{pos:Pos}(G:Good X)(hk:cy σ c k)(hv:cy σ d v):cy σ (.zT c d) (.Dict [some k] [v] pos):=λP post Q p kn=>
 Uc P (Li G P.toPt) hk hv p (λu w H q N x y AI r1 r2=>aO.k q λj ej q=>pairOf.k ej (λu=>bx N.w u x->_) (λr1=>r1.inv (λx=>bx N.w (oB j) x->wpAny X.M P.A (dictSet P.s.heap.objs.size x y) (λζ fI=>Q (.ref P.s.heap.objs.size) fI) P.Ex N.s) (λka ζ ζ ζ ζ ζ ζ r1=>N.R.at q.1 λa ha hc=>hc.inv _ λo en kvs x0 x1 x2 x3 x4 q' z m=>by
  rw[show N.φ[P.H.length]?=some a from ha] at AI
  cases AI
  cases q'
  refine wpAny_dictSet_heap (knd:=pN) (k:=pK j) (xs:=[]) (by refine(?_:P.A.units<cLine);have:=P.rm.units;exact pz (Pt.u1 _)) (Ao r1) ⟨o,en,0,x0,x1,x2,x3,(λq hq=>nomatch hq),x4⟩ (λh3 hm hs=>hm.elim λo3 w3=>w3.elim λen w3=>w3.elim λep w3=>?_) (iD _)
  have K:=N.pt.vS ha hs.extBut
  exact kn _ _ (q.2 ep) (N.then (N.pt.set ha hs.extBut (.dY w3.1 w3.2.1 w3.2.2.1 w3.2.2.2.1 w3.2.2.2.2.2 (.cons ⟨rfl,r1.kp K,r2.kp K⟩ .nil) z (show(1:Nat)<=16000000 by decide)) _)) _ (.ref ha)) r1) r1)
end
section
variable{σ:Lv}{Q:Value->Shared->Prop}{P:Pt}{post:PQ}{H:Hp}
theorem Lj{p:Ws}:∀{vs:List V} {xs:List Value},vs.length=xs.length->(∀(j:Nat) v x,vs[j]?=some v->xs[j]?=some x->bx p v x)->bF p vs xs
 |[],[],_,_=>.nil
 |[],_::_,h,_=>nomatch h
 |_::_,[],h,_=>nomatch h
 |v::vs,x::xs,h,k=>.cons (k 0 v x rfl rfl) (Lj (Nat.succ.inj h) λj v x h1 h2=>k (j+1) v x h1 h2)
theorem Ue{p:Ws}{es:List (Int×V)}{kvs:List (Int×Value)}{acc:Array Value}(q:L2 (pM p) es kvs)(h:ItemsOf (FN kvs) acc kvs.length):bF p (es.map λp=>.int p.1) acc.toList:=
 Lj (by rw[bJ,q.length,xI];exact h.1.symm) λj v x h1 h2=>by
  rw[i7] at h1
  refine iE (λv=>bx p v x) h1 λe he=>?_
  exact(h.2 j x (by rw[<-B5];exact h2)).elim λk w=>w.elim λy w=>by
   obtain⟨t,rfl⟩:=Value.isInt_shape w.2
   rw[(q.get he w.1).1]
   exact .int _ _
theorem oJ(hh:P.A.handled=none){v:V}{x:Value}{us:List V}(G:Good X)(r:bx P.w v x)(e:copyOf P.H v=some us)(k:Kn P post Q)(p:vO us P.H post):wpAny X.M P.A (call (.type "list") [x]) Q P.Ex P.s:=by
 refine gn.k p λhz p=>?_
 have hz:=cW (cu hz)
 have seq:∀{a xs T o c},T="list"\/T="tuple"->P.s.heap.get? a=some o->o.cls=.type T->o.data=.seq (List.toArray xs) c->bF P.w us xs->wpAny X.M P.A (call (.type "list") [.ref a]) Q P.Ex P.s:=λt1 t2 t3 t4 r=>
  call_list_seq _ t1 t2 t3 t4 (λh2 c' w1 w2=>k.list w1 _ (C5 P) w2 r hz p P.s.toks) (by rw[size_toArray,<-r.length];unfold sizeLine;exact le_trans hz (by decide))
 unfold copyOf at e
 cases ed:j6 P.H v with
 |some es=>
  rw[ed] at e;cases e
  exact th r G ed (λx=>wpAny X.M P.A (call (.type "list") [x]) Q P.Ex P.s) λl ep a kvs ev hl ha hD q hs hn=>hD.dictAt.elim λepc Ug=>
   T7 hh hs Ug (by rw[<-q.length];unfold sizeLine;exact le_trans hn (by decide)) λh2 lL acc c' w1 w2 w3=>k.list (xs:=acc.toList) w1 _ (C5 P) (by rw[w2]) (Ue q w3) hz p lL
 |none=>
  rw[ed] at e
  cases et:uy v with
  |some vs=>rw[et] at e;cases e;exact uy.k et (λv=>bx P.w v x->_) (λr=>r.inv (λx=>wpAny X.M P.A (call (.type "list") [x]) Q P.Ex P.s) λa m xs h1 h2 ζ ζ=>seq (.inr rfl) h1 rfl rfl h2) r
  |none=>rw[et] at e;exact aP r e (λx=>wpAny X.M P.A (call (.type "list") [x]) Q P.Ex P.s) λζ a xs m ζ ζ ζ h1 h2 ζ=>seq (.inl rfl) h1 rfl rfl h2
theorem Uh(hh:σ.f.hd=false){a:E}{g e:Expr}{pos:Pos}(G:Good X)(hg:fR σ.f "list" g=true)(h:fX σ [a] [e]):cy σ (.listOf a) (.Call g [e] [] pos):=λP post Q p k=>
 we (post:=λvs H=>w1 vs λx=>aO (copyOf H x) λvs=>vO vs H post) G hg (jT 5 (by decide)) ⟨_,rfl⟩ h p (λvs H1 p1 ζ N xs r=>w1.k p1 (λvs=>bF N.w vs xs->_) (λv p1 r=>r.k1 (λxs=>wpAny X.M P.A (call (.type "list") xs) Q P.Ex N.s) λx r=>aO.k p1 λus e p1=>oJ (P:=N.pt) (P.calm hh) G r e (k.nx N) p1) r)
end
theorem FS{α:Type}:∀{ps:List Str} {xs:List α} {i:Nat} {x:Str} {v:α},ps.Nodup->ps[i]?=some x->xs[i]?=some v->(ps.zip xs).lookup x=some v
 |[],_,i,x,v,_,h,_=>bK vv h
 |p::ps,[],i,x,v,_,_,h=>bK vv h
 |p::ps,y::xs,0,x,v,_,h1,h2=>by rw[List.zip_cons_cons,<-dH h1,List.lookup_cons_self];exact h2
 |p::ps,y::xs,i+1,x,v,hn,h1,h2=>by
  have hn:=nj.mp hn
  rw[List.zip_cons_cons,nZ,show(x==p)=false from rC.mpr λe=>hn.1 (e▸ie h1)]
  exact FS (i:=i) hn.2 h1 h2
theorem Ll{α:Type}:∀{ps:List Str} {xs:List α} {f:Str->Option α},ps.length=xs.length->(∀(i:Nat) (x:Str) (v:α),ps[i]?=some x->xs[i]?=some v->f x=some v)->ps.filterMap (λn=>(f n).map (n,·))=ps.zip xs
 |[],[],_,_,_=>rfl
 |[],_::_,_,h,_=>nomatch h
 |_::_,[],_,h,_=>nomatch h
 |p::ps,x::xs,f,h,hf=>by
  rw[List.filterMap_cons,hf 0 p x rfl rfl]
  exact b7 ((p,x)::·) (Ll (Nat.succ.inj h) λi y v h1 h2=>hf (i+1) y v h1 h2)
theorem Ui{α:Type}{ps:List Str}{xs:List α}(hn:ps.Nodup)(hl:ps.length=xs.length):((ps.filter λn=>((ps.zip xs).lookup n).isNone).isEmpty)=true:=by
 rw[isEmpty_iff,zQ]
 intro x hx h
 obtain⟨i,hi,rfl⟩:=List.getElem_of_mem hx
 rw[FS hn (iB hi) (iB (hl▸hi))] at h
 cases h
noncomputable abbrev C7(ar:List Arg):Arguments:=⟨[],ar,none,[],[],none,[]⟩
theorem Uj{a:Arguments}{ps:List Str}(h:E4 a ps=true)(G:Arguments->Prop)(k:∀ar:List Arg,ar.map (·.arg)=ps->G (C7 ar)):G a:=
 have key:∀po ar va ko kd kw df,(po.isEmpty&&(va.isNone&&(ko.isEmpty&&(kd.isEmpty&&(kw.isNone&&(df.isEmpty&&decide (ar.map Arg.arg=ps)))))))=true->G ⟨po,ar,va,ko,kd,kw,df⟩:=λpo ar va ko kd kw df h=>
  aW h λh1 h=>aW h λh2 h=>aW h λh3 h=>aW h λh4 h=>aW h λh5 h=>aW h λh6 h=>fH (G:=λpo=>G ⟨po,ar,va,ko,kd,kw,df⟩) h1 (xY (G:=λva=>G ⟨[],ar,va,ko,kd,kw,df⟩) h2 (fH (G:=λko=>G ⟨[],ar,none,ko,kd,kw,df⟩) h3 (fH (G:=λkd=>G ⟨[],ar,none,[],kd,kw,df⟩) h4 (xY (G:=λkw=>G ⟨[],ar,none,[],[],kw,df⟩) h5 (fH (G:=λdf=>G ⟨[],ar,none,[],[],none,df⟩) h6 (k ar (cu h)))))))
 by cases a;exact key _ _ _ _ _ _ _ h
theorem Uk{fd:FuncData}{ar:List Arg}{xs:List Value}(hd:fd.defaults=.none)(hp:fd.params=C7 ar)(hn:(ar.map (·.arg)).Nodup)(hl:(ar.map (·.arg)).length=xs.length):bindArgs fd ⟨xs,[]⟩=pure ((ar.map (·.arg)).zip xs):=by
 obtain⟨a1,a2,a3,a4,a5,a6,a7,a8,a9,nH,a11,a12,a13,a14,a15⟩:=fd
 cases hd;cases hp
 have hD:(([]:List Value).drop (0 - (ar.map Arg.arg).length))=[]:=drop_nil
 generalize Ul:(([]:List Value).drop (0 - (ar.map Arg.arg).length))=D at hD
 change (if(decide (xs.length>(ar.map Arg.arg).length)&&true)=true then _ else(if(!((((ar.map Arg.arg).take ((ar.map Arg.arg).length - (([]:List Value).drop (0 - (ar.map Arg.arg).length)).length)).filter λn=>(((ar.map Arg.arg).zip xs).lookup n).isNone).isEmpty))=true then _ else(forIn (((ar.map Arg.arg).drop ((ar.map Arg.arg).length - (([]:List Value).drop (0 - (ar.map Arg.arg).length)).length)).zip (([]:List Value).drop (0 - (ar.map Arg.arg).length))) ((ar.map Arg.arg).zip xs) _ >>= _:Sem _)))=_
 rw[bH (λe=>absurd (cu (iA.mp e).1) (by rw[hl];exact lt_irrefl _)),Ul,hD,List.zip_nil_right,List.forIn_nil]
 rw[show(ar.map Arg.arg).length - ([]:List Value).length=(ar.map Arg.arg).length from rfl,List.take_length,bH (by rw[Ui hn hl];exact gM)]
 exact b7 (pure (f:=Sem)) ((b7 (List.filterMap _) (fN _)).trans (Ll hl λi x v h1 h2=>FS hn h1 h2))
theorem C8{T:Prop}(G:Good X)(k:∀{nm q bs sn sub col dd k0 k1 k2 k3 k5},X.fC.get? X.bk=some (excClassObj nm q X.bk X.bN bs [.type "object"] true sn sub false col dd k0 k1 k2 k3 k5 "object.__new__")->T):T:=by
 obtain⟨nm,q,bs,sn,sub,col,dd,k0,k1,k2,k3,k5,hC⟩:=G.bc.obj
 exact k hC
theorem Lm:∀x,x∈gK.cC->typeLookup (.type "object") x=pure none:=by
 intro x hx
 refine(?_:typeLookup (.type "object") x=pure none)
 rcases gB.mp hx with rfl|hx
 ·rw[vB,xO];kernel_rfl
 rcases gB.mp hx with rfl|hx
 ·rw[vB,xO];kernel_rfl
 rcases gB.mp hx with rfl|hx
 ·rw[vB,xO];kernel_rfl
 rcases gB.mp hx with rfl|hx
 ·rw[vB,xO];kernel_rfl
 rw[dI.mp hx,vB,xO];kernel_rfl
section
variable{P:Pt}{v:V}{x:Value}{t:Nat}{fs:bv}
theorem book(r:bx P.w v x)(e:iQ P.H v=some t)(ef:rJ P.H t=some fs)(T:Value->Prop)(k:∀l a d m o,v=.ref l->P.φ[l]?=some a->P.φ[t]?=some d->P.H[t]?=some (.cC fs)->P.s.heap.get? a=some o->o.dict=some d->a≠d->P.s.heap.Inst a X.bk m->P.s.heap.Ns1 d m->yk P.w fs m->T (.ref a)):T x:=
 cellAt.k e (λu=>v=u->T x) (λl c hl hc=>uv.k (λc=>P.H[l]?=some c->v=.ref l->T x) hc (λhl ev=>P.cell (ev▸r) hl T λa ha h=>h.inv _ λo d e1 e2 e3 e4 e5=>jf ef λc2 Um ef=>uw.k (λc2=>P.H[t]?=some c2->T (.ref a)) ef (λht=>P.R.at ht λb hb FT=>FT.inv _ λm n1 n2=>by
  rw[show P.φ[t]?=some d from e5] at hb;cases hb
  have fG:a≠d:=λe'=>by
   have:l=t:=Fb P.R.nodup ha (e'▸e5)
   subst this
   rw[hl] at ht;cases ht
  exact k l a d m o ev ha e5 ht e1 e4 fG ⟨o,e1,e2,e3,.inr ⟨d,e4,fG.symm,n1⟩⟩ n1 n2) Um) hl) rfl
theorem handed{p:Ws}{v:V}{x:Value}(r:bx p v x):handedOut x=pure x:=r.inv (λx=>handedOut x=pure x) (by cases v<;>first|rfl|exact λζ=>rfl|exact λζ ζ=>rfl|exact λζ ζ ζ ζ ζ ζ ζ=>rfl)
theorem Ln{i:Nat}{y:Str}(h:gK.cC[i]?=some y):y∈gK.cC/\gK.cC.idxOf y=i:=by
 have hm:=ie h
 have nd:gK.cC.Nodup:=by decide
 exact⟨hm,Fb nd (d7.mpr ⟨zJ hm,List.getElem_idxOf _⟩) h⟩
end
section
variable{σ:Lv}{a:E}{o:Expr}{i:Nat}{y:Str}{pos:Pos}
theorem Un(G:Good X)(hi:gK.cC[i]?=some y)(ho:xW o=true)(ha:cy σ a o):cy σ (.attr a i) (.Attribute o y pos):=λP post Q p k=>
 Expr.Name.elim (motive_1:=λo=>cy σ a o->wpAny X.M P.A (eval (.Attribute o y pos) P.env) Q P.Ex P.s) o (cu ho) (λn np ha=>Attribute_name (ha P _ _ p λv H1 p1 N x r=>aO.k p1 λt et p1=>aO.k p1 λfs ef p1=>aO.k p1 λu eu p1=>
  book (P:=N.pt) r et ef (λx=>wpAny X.M P.A (getAttr x y true) Q P.Ex N.s) λl b d m ob ζ ζ ζ ζ ζ ζ ζ I ζ fr=>by
   have hy:=Ln hi
   refine C8 G λhC=>(fr.at' y hy.1).inv (v:=u) (by unfold lk;rw[hy.2];exact eu) (λz=>m y=z->_) (λz rz ez=>?_) rfl
   exact load_attr (N.R.keep _ _ hC) (G.bc.ns.keeps N.R.keep) (G.bq _ (by decide)) (G.bq _ (cY.mpr (.inr hy.1))) (Lm y hy.1) I ez (handed rz) (k _ _ p1 (N.then (N.pt.gY (N.tk+1))) _ rz))) ha
theorem Uo(x:Str):∃r,typeLookup (.type "object") x=pure r:=by
 rw[vB]
 unfold builtinLookup
 rw[show builtinMro "object"=some [.type "object"] by rw[builtinMro_eq_fast];kernel_rfl]
 exact⟨_,rfl⟩
theorem Up{o o':Obj}(h1:o'.cls=o.cls)(h2:o'.data=o.data)(h3:o'.slots=o.slots)(h4:o'.dict=o.dict):o'=o:=by
 obtain⟨a,b,c,d⟩:=o
 obtain⟨a',b',c',d'⟩:=o'
 cases h1;cases h2;cases h3;cases h4;rfl
theorem Uq{P:Pt}{v u:V}{x z:Value}{t:Nat}{fs:bv}{Q:Unit->Shared->Prop}(G:Good X)(hi:gK.cC[i]?=some y)(r:bx P.w v x)(ru:bx P.w u z)(e:iQ P.H v=some t)(ef:rJ P.H t=some fs)(k:∀N:Nx P (P.H.set t (.cC (fs.set i (some u)))),Q () N.s):wpAny X.M P.A (setAttr x y z) Q P.Ex P.s:=
 book r e ef (λx=>wpAny X.M P.A (setAttr x y z) Q P.Ex P.s) λl b d m ob ζ hb hd ht eb ed fG I n1 fr=>by
  have hy:=Ln hi
  refine C8 G λhC=>store_attr PySem.F.store_object (P.R.keep _ _ hC) (G.bc.ns.keeps P.R.keep) (G.bq _ (by decide)) (G.bq _ (cY.mpr (.inr hy.1))) (Lm y hy.1) (λe'=>bK (P.R.fresh _ (ie hb)) (e'▸hC)) I (λh' rO I' hk hs=>((hs ob eb).elim λo1 x1=>?_)) (ns:=gK.cC) (λz hz=>EF λhn=>hz (fr.out z hn)) (by decide)
  have eo:o1=ob:=Up x1.2.1 x1.2.2.1 x1.2.2.2.1 ((x1.2.2.2.2 d ed).trans ed.symm)
  subst eo
  have he:ExtBut d P.s.heap h':=λc oc hc ec=>(qh (c=b)).elim (λe'=>by subst e';rw[show P.s.heap.get? c=some o1 from eb] at ec;cases ec;exact x1.1) λhn=>hk c oc hn (λo0 dx e1 e2=>by rw[eb] at e1;cases e1;rw[ed] at e2;cases e2;exact hc) ec
  have n2:h'.Ns1 d (λw=>if w=y then some z else m w):=by
   obtain⟨o2,f1,_,_,f2⟩:=I'
   rw[x1.1] at f1;cases f1
   rcases f2 with⟨f2,_⟩|⟨d',f2,_,f3⟩
   ·rw[ed] at f2;cases f2
   ·rw[ed] at f2;cases f2;exact f3
  have K:=P.vS hd he
  have yu:i<fs.length:=by rw[fr.len];exact(d7.mp hi).1
  exact k (P.set hd he (.cC n2 ⟨by rw[gR];exact fr.len,λw hw=>by
   rw[Kx hy.1 hw hy.2 yu]
   by_cases e':w=y
   ·rw[bQ e',bQ e'];exact .some (ru.kp K)
   ·rw[bH e',bH e'];exact(fr.at' w hw).kp K,λw hw=>(bH λe':w=y=>hw (e'▸hy.1)).trans (fr.out w hw)⟩) rO)
theorem Ur{e:E}{x:Expr}{sp:Pos}(G:Good X)(hi:gK.cC[i]?=some y)(hn:pI x=true)(ha:cy σ a o)(he:cy σ e x):SS σ (.setAttr a i e) (.Assign [.Attribute o y sp] x pos):=λP K Q ho p k=>
 plainObj_wpAny_Assign_Attribute (vV he ha P p λu v H1 p1 N z w r1 r2=>aO.k p1 λt et p1=>aO.k p1 λfs ef p1=>Uq (P:=N.pt) G hi r2 r1 et ef λN2=>k.next _ _ p1 (N.then N2).sx) (yw hn _)
theorem Us{P:Fp σ}{ap:Pos}{cs:List E}{es:List Expr}{Q:Value->Shared->Prop}(ho:sY o=true)(hl:es.length<20)(wu:(ap.endLine==pos.line)=true)(h:fX σ cs es)
  (hk:wpAny X.M P.A (eval o P.env) (λov ci=>wpAny X.M P.A (getMethod ov y (do return (<-importBound o P.env).getD true)) (λq fI=>wpAny X.M P.A (callWith pos q.1 q.2 (backTo pos (starEach es P.env)) []) Q P.Ex fI) P.Ex ci) P.Ex P.s) :
  wpAny X.M P.A (eval (.Call (.Attribute o y ap) es [] pos) P.env) Q P.Ex P.s:=by
 rw[arm_eval_Call,FH ho]
 refine bj (ig hk (λov ci iq=>bj (wpAny_standAt ?_)) λζ ζ e=>e)
 have Ut:methodCallForm (es.length+([]:List Keyword).length) (backTo pos (starEach es P.env)) (backToKw pos (keywordEach [] P.env))=true:=FI h hl P.env
 have Uu:methodCallPos true o P.env ap pos=pure pos:=by unfold methodCallPos;rw[wu];rfl
 unfold methodCall
 rw[Ut]
 exact bj (uh (ig iq (λq fI kX=>bj (wpAny_of_eq Uu kX)) λζ ζ e=>e))
theorem Uv{f:Nat}{cs:List E}{es:List Expr}{ap:Pos}(G:Good X)(hc:yn σ.m)(hn:2*σ.m+1<=σ.n)(hh:σ.f.hd=false)(h1:gK.pE[f]?=some (true,y))(hy:y∉gK.cC)(ho:sY o=true)(wu:(ap.endLine==pos.line)=true)(hl:es.length<20)(ha:cy σ a o)(h:fX σ cs es):cy σ (.cQ f a cs) (.Call (.Attribute o y ap) es [] pos):=λP post Q p k=>
 (G.fn f _ h1).casesOn λfa fo d pm cd doc e1 e3 e4 ec e5 ζ=>Us ho hl wu h (ha P _ _ p λv H1 p1 N x r=>aO.k p1 λt et p1=>aO.k p1 λfs ef p1=>
  book (P:=N.pt) r et ef (λx=>wpAny X.M P.A (getMethod x y _) _ P.Ex N.s) λl b d m ob ev hb ζ ζ ζ ζ ζ I ζ fr=>by
   refine C8 G λhC=>(Uo y).elim λr0 hB=>method_of (N.R.keep _ _ hC) (G.bc.ns.keeps N.R.keep) (G.bq _ (by decide)) (G.bq _ (by decide)) e3 (N.R.keep _ _ e4) (ec rfl) hB I (fr.out y hy) ?_
   exact Calls.callWith_function (o:=fo) (tn (h.plain P.env pos) (h.rN (P.to N) _ _ pos p1 λus H2 p2 ζ N2 zs r2=>⟨⟨(N.then N2).R.keep _ _ e4,e5⟩,hc (N.then N2).pt f _ fa (v::us) (.ref b::zs) post σ.x Q (P.rn.less (pA hn)) (λζ=>P.calm hh) h1 e3 (.cons (ev▸.ref ((N2.S.pre _ _ hb))) r2) p2 (k.nx (N.then N2)) (P.kn.nx (N.then N2))⟩)))
theorem nD.under{A:Around}{n:Nat}{C:Addr}(rm:nD A (n+1)):nD (A.under (.builtin "type.__call__" ⟨[.ref C],[]⟩)) n:=
 ⟨by have:=rm.depth;refine(?_:A.depth+1+n+110<=_);lia,by have:=rm.units;refine(?_:A.units+1+5*n+200<=_);lia,rm.frames.elim λfe h=>h.elim λou h=>⟨fe,ou,by refine(?_:pushEnvs [] A.frames=_);rw[h.1];rfl,h.2⟩⟩
theorem Uw{f:Nat}{g:Expr}(G:Good X)(hc:yn σ.m)(hn:2*σ.m+1<=σ.n)(hh:σ.f.hd=false)(h1:gK.pE[f]?=some (true,Str.ofString "__init__"))(hg:fR σ.f gK.cls g=true):cy σ (.new f) (.Call g [] [] pos):=λP post Q p k=>
 gV.k (G:=λg=>wpAny X.M P.A (eval (.Call g [] [] pos) P.env) Q P.Ex P.s) hg λx np hg=>aW hg λe1 ho=>(G.fn f _ h1).casesOn λfa fo d pm cd doc ζ e3 e4 ec e5 ζ=>by
  obtain rfl:=eq_of_beq e1
  refine vw (yt G P G.bk ho (callWith_cls0 G.bc P.R.keep (C8 G λhC=>wpAny_call_obj_init PySem.F.objNew (P.R.keep _ _ hC) (G.bc.ns.keeps P.R.keep) e3 (P.R.keep _ _ e4) (ec rfl) λh' b dx M=>?_)))
  obtain⟨ob,i1,i2,i3,i4⟩:=M.inst
  have hd:=M.dict ob i1
  rcases i4 with⟨i4,_⟩|⟨d',i4,fG,n1⟩
  ·rw[hd] at i4;cases i4
  rw[hd] at i4;cases i4
  have S1:ca je P.w ⟨P.φ,h'⟩:=ca.ext (q:=P.w) .refl M.keeps
  have R1:SR ⟨P.φ,h'⟩ P.H:=SR.ext (p:=P.w) P.R M.keeps
  have a1:=P.R.new (p:=P.w) M.newD
  have a2:=P.R.new (p:=P.w) M.newX
  have R2:SR ⟨P.φ++[dx],h'⟩ (P.H++[.cC (replicate gK.cC.length none)]):=SR.adopt (p:=⟨P.φ,h'⟩) R1 a1 (λo e=>n1.elim λo' w=>w.elim λζ w=>w.elim λζ w=>by rw[show h'.get? dx=some o' from w.1] at e;cases e;exact Am w.2.1) (.cC n1 ⟨List.length_replicate,λx hx=>by rw[FE];exact .none,λζ ζ=>rfl⟩)
  have e1:(P.φ++[dx])[P.H.length]?=some dx:=by rw[<-P.R.len,pv (bX _),qi];rfl
  have R3:=SR.adopt (p:=⟨P.φ++[dx],h'⟩) (a:=b) (c:=.obj P.H.length) R2 ⟨λhm=>(cY.mp hm).elim a2.1 λh=>fG (dI.mp h).symm,a2.2⟩ (λo e=>by rw[show h'.get? b=some ob from i1] at e;cases e;exact oE i2 rfl) (.obj i1 i2 i3 hd e1)
  have S3:ca je P.w ⟨P.φ++[dx]++[b],h'⟩:=ca.adopt (q:=⟨P.φ++[dx],h'⟩) (ca.adopt (q:=⟨P.φ,h'⟩) S1 M.newD) M.newX
  have eR:(P.H++[aI.cC (replicate gK.cC.length none)]).length=P.H.length+1:=by rw[b6];rfl
  have rb:bx ⟨P.φ++[dx]++[b],h'⟩ (.ref (P.H.length+1)) (.ref b):=eR▸CT R2
  refine hc ⟨P.A.under (.builtin "type.__call__" ⟨[.ref X.bk],[]⟩),P.φ++[dx]++[b],_,upd P.s h' P.s.toks,P.Ex,nD.under ((P.rn.less hn).less (by lia)),R3,λe he=>P.fr.l7 S3 e (by
    obtain⟨fe,ou,hA,_⟩:=P.rm.frames
    unfold lJ at he ⊢
    rw[show(P.A.under (.builtin "type.__call__" ⟨[.ref X.bk],[]⟩)).frames=pushEnvs [] P.A.frames from rfl,hA] at he
    rw[hA];exact he)⟩ f _ fa [.ref (P.H.length+1)] [.ref b] _ _ _ (nD.under (P.rn.less hn)) (λζ=>P.calm hh) h1 e3 (.one rb) p (λv H1 p1 N x r=>?_) λζ ζ h=>h.elim
  obtain⟨rfl,p1⟩:=p1
  exact r.inv (λx=>x=.none/\Q (.ref b) N.s) ⟨rfl,k _ _ p1 ⟨N.φ,N.h,N.tk,N.R,S3.trans N.S⟩ _ (rb.mono N.S)⟩
end
section
variable{σ:Lv}{k:Nat}{x w:Str}
theorem Ux{np cp ap pos:Pos}{kk:Nat}(G:Good X)(hh:σ.f.hd=false)(hx:gK.uq[k]?=some x)(ho:qt σ.f x=true):SS σ (.raise k w) (.Raise (some (.Call (.Name x np) [.Constant (.str w) kk ap] [] cp)) none pos):=λP K Q ζ p ζ=>by
 refine(G.ex k x hx).casesOn λCa bm newId initId B O FB hC ζ ζ ζ=>?_
 obtain⟨tl,N,nm,q,bs,hdct,sn,sub,ab,col,dd,k0,k1,k2,k3,k5,mN,gC,gN,FU,T⟩:=O.obj
 refine wpAny_Raise_call_subT (C:=Ca) (nm:=nm) (q:=q) (N:=N) (bs:=bs) (bm:=tl) (hdct:=hdct) (sn:=sn) (sub:=sub) (ab:=ab) (col:=col) (dd:=dd) (k0:=k0) (k1:=k1) (k2:=k2) (k3:=k3) (k5:=k5) FB (mN:=mN) (T.hasType FB.hasBase) (P.calm hh) rfl FU (yt G P O.bound ho ⟨rfl,tn rfl (ug (wpAny_Constant_str (xJ ⟨rfl,show(1:Nat)<=sizeLine by decide,P.R.keep _ _ gC,gN.keeps P.R.keep,T.keeps P.R.keep,λh' e hm=>?_⟩)) rfl)⟩)
 obtain⟨t,he,_,_⟩:=hm.there
 have R1:SR ⟨P.φ,h'⟩ P.H:=SR.ext (p:=P.w) P.R hm.keeps
 exact P.kn _ _ p ⟨P.φ++[e],h',P.s.toks+1,SR.adopt (p:=⟨P.φ,h'⟩) R1 (P.R.new (p:=P.w) hm.new) (λo x=>by rw[he] at x;cases x;exact oE rfl rfl) (.exc he hC rfl rfl (.inl rfl)),ca.adopt (q:=⟨P.φ,h'⟩) (ca.ext (q:=P.w) .refl hm.keeps) hm.new⟩ _ (CT R1)
theorem Uy{P:Pt}{v:V}{y:Value}{j:Nat}(r:bx P.w v y)(e:excAt P.H v=some j)(T:Value->Prop)(kk:∀l a o C,P.H[l]?=some (.exc j)->P.φ[l]?=some a->v=.ref l->P.s.heap.get? a=some o->o.cls=.ref C->X.exc[j]?=some C->T (.ref a)):T y:=
 cellAt.k e (λu=>v=u->T y) (λl c hl hc=>pJ.k (λc=>P.H[l]?=some c->v=.ref l->T y) hc (λhl ev=>P.cell (ev▸r) hl T λa ha h=>h.inv _ λo C vs e1 e2 e3 ζ ζ=>kk l a o C hl ha ev e1 e3 e2) hl) rfl
theorem AJ{T:Prop}{C:Addr}{j:Nat}(G:Good X)(e:X.exc[j]?=some C)(kk:∀{nm q N bs bm hdct sn sub ab col dd k0 k1 k2 k3 k5 newId},X.fC.get? C=some (excClassObj nm q C N bs bm hdct sn sub ab col dd k0 k1 k2 k3 k5 newId)->bm.contains (.type "BaseException")=true->bm.contains (.type "ValueError")=true->(∀k D,X.exc[k]?=some D->(Value.ref C::bm).contains (.ref D)=iP j k)->T):T:=by
 have hj:j<gK.uq.length:=G.J7▸(d7.mp e).1
 refine(G.ex j _ (iB hj)).casesOn λC' bm newId initId B O FB hC hv hm ζ=>?_
 rw[e] at hC;cases hC
 obtain⟨tl,N,nm,q,bs,hdct,sn,sub,ab,col,dd,k0,k1,k2,k3,k5,mN,gC,gN,FU,T'⟩:=O.obj
 exact kk gC (T'.hasType FB.hasBase) (T'.hasType hv.1) λk D hD=>hm _ _ gC rfl k D hD
end
section
variable{A:Around}{Ex:Value->Shared->Prop}{h:Heap}{g:Array GenState}{d:Drawn}{t:Nat}{os:OsState}{a C D:Addr}{o:Obj}{nm q:Str}{N:Addr}{bs bm:List Value}{hdct:Bool}{sn:List Str}{sub:List Value}{ab:Bool}{col:Option Bool}{dd:Option Addr}{k0 k1 k2 k3 k5:Option Value}{newId:String}
abbrev qK(h:Heap)(C:Addr)(n:Str)(y:Option Value):Prop:=∀{A:Around} {Ex:Value->Shared->Prop} {g:Array GenState} {d:Drawn} {t:Nat} {os:OsState} {Q:Option Value->Shared->Prop},Q y ⟨h,g,d,t,os⟩->wpAny X.M A (typeLookup (.ref C) n) Q Ex ⟨h,g,d,t,os⟩
theorem Uz{R:Result->Shared->Prop}(hC:h.get? C=some (excClassObj nm q C N bs bm hdct sn sub ab col dd k0 k1 k2 k3 k5 newId))(hO:bm.contains (.type "object")=true)(hx:h.get? a=some o)(hc:o.cls=.ref C)(hq:R (.ok (.ret (.ref C))) ⟨h,g,d,t,os⟩):
  codeAny X.M A (.call (.builtin "getset_descriptor.__get__") ⟨[.builtin "object.__class__",.ref a,.ref C],[]⟩) R ⟨h,g,d,t,os⟩:=by
 have Lo:(⟨h,g,d,t,os⟩:Shared).TypeIs (.builtin "object.__class__") "getset_descriptor":=EL
 have wx:(Value.ref C::bm).contains (.type (".".intercalate ("object.__class__".cutAt '.').dropLast))=true:=by rw[PySem.F.owner_object_class,contains_cons,hO];rfl
 refine codeAny_call_builtin PySem.F.slot_gs_get.plain PySem.F.entry_gs_get (PySem.F.slot_gs_get.check _ _ _ _ _ _ _ _ Lo (PySem.F.args_gs_get _ _ _) ?_)
 repeat (any_goals (first|assumption|(with_reducible refine ol hx ?_;rw[hc])|(with_reducible refine vC hC ?_;rw[wx])|wp_step))
 refine⟨Code.quiet_builtin _ (by decide +kernel),xF PySem.F.entry_object_class ?_⟩
 repeat (any_goals (first|assumption|(with_reducible refine ol hx ?_;rw[hc])|wp_step))
theorem UA{tk:Tok}{Q:PySem.Fin->Shared->Prop}(hC:h.get? C=some (excClassObj nm q C N bs bm hdct sn sub ab col dd k0 k1 k2 k3 k5 newId))(hO:bm.contains (.type "object")=true)(l3:qK h C "__class__" (some (.builtin "object.__class__")))(hx:h.get? a=some o)(hc:o.cls=.ref C)(hq:Q (.done (.ret (.ref C))) ⟨h,g,d,t,os⟩):
  wpAny X.M A (Builtin.«object.__getattribute__» ⟨[.ref a,.str "__class__" tk],[]⟩) Q Ex ⟨h,g,d,t,os⟩:=by
 have Lo:(⟨h,g,d,t,os⟩:Shared).TypeIs (.builtin "object.__class__") "getset_descriptor":=EL
 have f5:=EL
 have f6:=PySem.F.slot_gs_get.lookup
 have f7:=PySem.F.slot_gs_set.lookup
 repeat (any_goals (first|assumption|(with_reducible refine ol hx ?_;rw[hc])|with_reducible refine l3 ?_|wp_step))
 refine Uz hC hO hx hc ?_
 repeat (any_goals (first|assumption|wp_step))
theorem UB{nameV:Value}{Q:Unit->Shared->Prop}(hC:h.get? C=some (excClassObj nm q C N bs bm hdct sn sub ab col dd k0 k1 k2 k3 k5 newId))(hB:bm.contains (.type "BaseException")=true)(hx:h.get? a=some o)(hc:o.cls=.ref C)(hq:Q () ⟨h,g,d,t,os⟩):wpAny X.M A (checkBuiltinCall "BaseException.__getattribute__" ⟨[.ref a,nameV],[]⟩) Q Ex ⟨h,g,d,t,os⟩:=by
 have hk:builtinKind "BaseException.__getattribute__"=some .slot:=by decide +kernel
 have UC:splitId "BaseException.__getattribute__"=some ("BaseException","__getattribute__"):=by decide +kernel
 have wx:(Value.ref C::bm).contains (.type "BaseException")=true:=by rw[contains_cons,hB];rfl
 have ha:=PySem.F.args_bexc_ga (.ref a) nameV
 simp only[checkBuiltinCall,hk,UC]
 refine bj ?_
 unfold isInstance
 repeat (first|(with_reducible refine ol hx ?_;rw[hc])|(with_reducible refine vC hC ?_;rw[wx])|wp_step)
 exact hq
theorem UD{tk:Tok}{fill expr:Bool}{Q:Value->Shared->Prop}(hC:h.get? C=some (excClassObj nm q C N bs bm hdct sn sub ab col dd k0 k1 k2 k3 k5 newId))(hB:bm.contains (.type "BaseException")=true)(hO:bm.contains (.type "object")=true)(l1:qK h C "__getattribute__" (some (.builtin "BaseException.__getattribute__")))(l2:qK h C "__getattr__" none)(l3:qK h C "__class__" (some (.builtin "object.__class__")))(hx:h.get? a=some o)(hc:o.cls=.ref C)(hq:Q (.ref C) ⟨h,g,d,t,os⟩):wpAny X.M A (getAttrBy (.ref a) (.str "__class__" tk) fill expr) Q Ex ⟨h,g,d,t,os⟩:=by
 have ga:=PySem.F.attr_ValueError.ga
 have f3:=ga.bind (.ref a)
 have hx0:(expr&&onTheHeap (Value.builtin "BaseException.__getattribute__"))=false:=by cases expr<;>rfl
 have UE:(Value.builtin "BaseException.__getattribute__"==Value.builtin "object.__getattribute__")=false:=by decide +kernel
 have hx1:(onTheHeap (Value.ref C)&&Value.builtin "BaseException.__getattribute__"==Value.builtin "object.__getattribute__")=false:=by rw[UE];rfl
 repeat (any_goals (first|assumption|(with_reducible refine ol hx ?_;rw[hc])|with_reducible refine l1 ?_|with_reducible refine l2 ?_|wp_step))
 refine codeAny_call_builtin ga.plain PySem.F.entry_bexc_ga (UB hC hB hx hc (UA hC hO l3 hx hc ?_))
 repeat (any_goals (first|assumption|wp_step))
theorem UG{Q:Option Value->Shared->Prop}(hC:h.get? C=some (excClassObj nm q C N bs bm hdct sn sub ab col dd k0 k1 k2 k3 k5 newId))(hB:bm.contains (.type "BaseException")=true)(hO:bm.contains (.type "object")=true)(l1:qK h C "__getattribute__" (some (.builtin "BaseException.__getattribute__")))(l2:qK h C "__getattr__" none)(l3:qK h C "__class__" (some (.builtin "object.__class__")))(hx:h.get? a=some o)(hc:o.cls=.ref C)(hq:Q (some (.ref C)) ⟨h,g,d,t+1,os⟩):wpAny X.M A (getAttr? (.ref a) "__class__") Q Ex ⟨h,g,d,t,os⟩:=by
 unfold getAttr? getAttrBy?
 repeat (any_goals (first|assumption|with_reducible apply UD hC hB hO l1 l2 l3 hx hc|wp_step))
theorem UH{dep:Int}{tk:Tok}{b:Bool}{th:Option Addr}{cd:ClassData}{sl:Array (Option Value)}{Q:PySem.Fin->Shared->Prop}(hC:h.get? C=some (excClassObj nm q C N bs bm hdct sn sub ab col dd k0 k1 k2 k3 k5 newId))(hB:bm.contains (.type "BaseException")=true)(hO:bm.contains (.type "object")=true)(l1:qK h C "__getattribute__" (some (.builtin "BaseException.__getattribute__")))(l2:qK h C "__getattr__" none)(l3:qK h C "__class__" (some (.builtin "object.__class__")))(hx:h.get? a=some o)(hc:o.cls=.ref C)(hD:h.get? D=some {cls:=.type "type",dict:=th,data:=.cls cd,slots:=sl})(hb:(Value.ref C::bm).contains (.ref D)=b)(hq:∀rO,Q (.done (.ret (.bool b))) ⟨h,g,d,rO,os⟩):
  wpAny X.M A (Builtin.«isinstance.nested» ⟨[.ref a,.ref D,.int dep tk],[]⟩) Q Ex ⟨h,g,d,t,os⟩:=by
 cases he:(Value.ref C==Value.ref D) with
 |true=>
  have uP:b=true:=by rw[<-hb,contains_cons,show(Value.ref D==Value.ref C)=true from beq_iff_eq.mpr (beq_iff_eq.mp he).symm,Bool.true_or]
  subst uP
  repeat (any_goals (first|assumption|(with_reducible refine ol hx ?_;rw[hc])|wp_step))
  exact hq _
 |false=>
  cases b with
  |true=>
   repeat (any_goals (first|assumption|(with_reducible refine ol hx ?_;rw[hc])|with_reducible refine ol hD ?_|(with_reducible refine vC hC ?_;rw[hb])|wp_step))
   exact hq _
  |false=>
   repeat (any_goals (first|assumption|(with_reducible refine ol hx ?_;rw[hc])|with_reducible refine ol hD ?_|(with_reducible refine vC hC ?_;rw[hb])|with_reducible apply UG hC hB hO l1 l2 l3 hx hc|wp_step))
   exact hq _
theorem UI{dep:Int}{tk:Tok}{Q:PySem.Fin->Shared->Prop}(hC:h.get? C=some (excClassObj nm q C N bs bm hdct sn sub ab col dd k0 k1 k2 k3 k5 newId))(hV:bm.contains (.type "ValueError")=true)(hx:h.get? a=some o)(hc:o.cls=.ref C)(hq:Q (.done (.ret (.bool true))) ⟨h,g,d,t,os⟩):
  wpAny X.M A (Builtin.«isinstance.nested» ⟨[.ref a,.type "ValueError",.int dep tk],[]⟩) Q Ex ⟨h,g,d,t,os⟩:=by
 have hty:typeOf (.type "ValueError")=pure (.type "type"):=by kernel_rfl
 have wx:(Value.ref C::bm).contains (.type "ValueError")=true:=by rw[contains_cons,hV];rfl
 repeat (any_goals (first|assumption|(with_reducible refine ol hx ?_;rw[hc])|(with_reducible refine vC hC ?_;rw[wx])|wp_step))
end
section
variable{σ:Lv}{a:E}{e nm g:Expr}{pos:Pos}
inductive C9:Option Nat->Value->Prop
 |own {k:Nat} {D:Addr}:X.exc[k]?=some D->C9 (some k) (.ref D)
 |ve:C9 none (.type "ValueError")
theorem UJ{P:Pt}{v:V}{y c:Value}{j:Nat}{Q:Value->Shared->Prop}{k:Option Nat}(G:Good X)(hk:C9 k c)(r:bx P.w v y)(ej:excAt P.H v=some j)(kq:∀tk,Q (.bool (Kc j k)) (upd P.s P.s.heap tk)):wpAny X.M P.A (call (.builtin "isinstance") [y,c]) Q P.Ex P.s:=
 Uy r ej (λy=>wpAny X.M P.A (call (.builtin "isinstance") [y,c]) Q P.Ex P.s) λl a o C hl ha ev e1 e2 e3=>by
  have hj:j<gK.uq.length:=G.J7▸(d7.mp e3).1
  refine(G.ex j _ (iB hj)).casesOn λC' bm newId initId B O FB hC hv hm lk=>?_
  obtain rfl:C=C':=dH (e3.symm.trans hC)
  obtain⟨tl,N,nm,q,bs,hdct,sn,sub,ab,col,dd,k0,k1,k2,k3,k5,mN,gC,gN,FU,T'⟩:=O.obj
  have hO:tl.contains (.type "object")=true:=T'.hasType hv.2
  obtain⟨A,φ,H,⟨hp,gs,d,t,os⟩,Ex,rm,R,fr⟩:=P
  have l:∀q,q∈Cg->qK hp C q.1 q.2:=λq hq ζ ζ ζ ζ ζ ζ ζ z=>lk q hq _ _ _ _ _ _ _ _ R.keep z
  cases hk with
  |own hD=>exact AJ G hD λgD ζ ζ ζ=>call_isinstance_of (UH (R.keep _ _ gC) (T'.hasType FB.hasBase) hO (l _ (.head _)) (l _ (.tail _ (.head _))) (l _ (.tail _ (.tail _ (.head _)))) e1 e2 (R.keep _ _ gD) (hm _ _ gC rfl _ _ hD) kq) (λh=>by cases h)
  |ve=>exact call_isinstance_of (UI (R.keep _ _ gC) (T'.hasType hv.1) e1 e2 (kq _)) (λh=>by cases h)
end
section
variable{σ:Lv}{a b c:E}{e nm g t y z:Expr}{pos:Pos}{k:Option Nat}
theorem UK(hc:vT σ c t)(ha:cb σ a y)(hb:cb σ b z):cb σ (.bD c a b) (.IfExp t y z pos):=
 ⟨λP post Q p k=>IfExp_ (hc P _ _ p λv H1 p1=>p1.m λt p1 N=>by
  cases t
  ·exact hb.1 (P.to N) _ _ p1 (k.nx N)
  ·exact ha.1 (P.to N) _ _ p1 (k.nx N)),λP post Q p k=>isTrue_IfExp (hc P _ _ p λv H1 p1=>p1.m λt p1 N=>by
  cases t
  ·exact hb.2 (P.to N) _ _ p1 (k.nx N)
  ·exact ha.2 (P.to N) _ _ p1 (k.nx N))⟩
theorem FV{T:Expr->Prop}(G:Good X)(hn:pH σ.f k nm=true)(kk:∀y p,(∀(P:Fp σ) (Q:Value->Shared->Prop),(∀c,C9 k c->Q c P.s)->wpAny X.M P.A (eval (.Name y p) P.env) Q P.Ex P.s)->T (.Name y p)):T nm:=by
 cases k with
 |none=>
  exact gV.k (G:=T) hn λx np h=>aW h λe1 ho=>kk x np λP Q kq=>by
   obtain rfl:=eq_of_beq e1
   exact uF G P (y:=.type "ValueError") (jT 8 (by decide)) ho (kq _ .ve)
 |some k=>exact gV.k (G:=T) hn λx np h=>aW h λe1 ho=>kk x np λP Q kq=>(G.ex k x (cu e1)).casesOn λC bm newId initId B O FB hC hv hm lk=>yt G P O.bound ho (kq _ (.own hC))
theorem UL(G:Good X)(hg:fR σ.f "isinstance" g=true)(hn:pH σ.f k nm=true)(h0:cH σ.f c e=true)(he:cy σ c e):cy σ (.ox k c) (.Call g [e,nm] [] pos):=λP post Q p kq=>
 gV.k (G:=λg=>wpAny X.M P.A (eval (.Call g [e,nm] [] pos) P.env) Q P.Ex P.s) hg λx np hg=>aW hg λe1 ho=>FV (T:=λnm=>wpAny X.M P.A (eval (.Call (.Name x np) [e,nm] [] pos) P.env) Q P.Ex P.s) G hn λy yp hy=>by
  obtain rfl:=eq_of_beq e1
  have oG:(backTo pos (starEach [e,.Name y yp] P.env)).any (·.1)=false:=by rw[tm h0 P.env];rfl
  exact vw (uF G P (jT 1 (by decide)) ho (zM oG (tn oG (ug (he P _ _ p (λv H1 p1 N x r=>(ug (hy (P.to N) _ λc hc=>xJ (aO.k p1 λj ej p1=>UJ (P:=N.pt) G hc r ej λtk=>(kq.nx N).now p1 (.bool _) tk)) rfl))) (tm h0 P.env _)))))
end
section
variable{M:Model}{A:Around}{E:Value->Shared->Prop}{h:Heap}{g:Array GenState}{d:Drawn}{t:Nat}{os:OsState}{e C D:Addr}{oe:Obj}{nm q:Str}{N:Addr}{bs bm:List Value}{hdct:Bool}{sn:List Str}{sub:List Value}{ab:Bool}{col:Option Bool}{dd:Option Addr}{k0 k1 k2 k3 k5:Option Value}{newId:String}{UM q':Str}{N':Addr}{te FW:List Value}{UN:Bool}{UO:List Str}{sub':List Value}{UP:Bool}{col':Option Bool}{UQ:Option Addr}{UR US UT UU UV:Option Value}{newId':String}
theorem Lp{Q:Bool->Shared->Prop}(hC:h.get? C=some (excClassObj nm q C N bs bm hdct sn sub ab col dd k0 k1 k2 k3 k5 newId))(hD:h.get? D=some (excClassObj UM q' D N' te FW UN UO sub' UP col' UQ UR US UT UU UV newId'))(he:h.get? e=some oe)(UW:oe.cls=.ref C)(UX:FW.contains (.type "BaseException")=true)(hb:(Value.ref C::bm).contains (.ref D)=true)
  (hq:Q true ⟨h,g,d,t,os⟩):wpAny M A (excMatches (.ref e) (.ref D)) Q E ⟨h,g,d,t,os⟩:=by
 have wx:(Value.ref D::FW).contains (.type "BaseException")=true:=by rw[contains_cons,UX,Bool.or_true]
 have f:=tc_notTuple
 unfold excMatches
 repeat (first|(with_reducible refine ol he ?_;rw[UW])|with_reducible refine ol hD ?_|(with_reducible refine vC hD ?_;rw[wx])|(with_reducible refine vC hC ?_;rw[hb])|wp_step)
 exact hq
end
section
variable{σ:Lv}{r:Option d8}{e h:E}{k i j l:Nat}{b:Stmt}{t x:Expr}{n:Str}{rp hp pos:Pos}{K:Out->Prop}{Q:Flow->Shared->Prop}
noncomputable abbrev Lv.hd(σ:Lv):Lv:=⟨σ.n,σ.m,⟨σ.f.sc,σ.f.ns,true⟩,λζ ζ=>False⟩
noncomputable abbrev Fp.hd(P:Fp σ)(y:Value):Fp σ.hd:=
 ⟨⟨P.A.mark (some y),P.φ,P.H,P.s,NE,⟨P.rm.depth,P.rm.units,P.rm.frames⟩,P.R,P.fr⟩,P.env,P.ρ,P.own,P.kd,P.F,⟨P.rn.depth,P.rn.units,P.rn.frames⟩,P.hf,λh=>(nomatch h),λζ ζ h=>h.elim⟩
theorem UY{P:Fp σ}{a:Addr}(G:Good X)(ht:pH σ.f (some k) t=true)(hn:pF σ.f.ns i n=true)(yH:σ.f.sc.names.lookup n=some .local)(hx:cy σ.hd h x)(hl:P.H[l]?=some (.exc j))(ha:P.φ[l]?=some a)(hT:uJ P.w a)(hs:iP j k=true)(ho:vY P.env P.own σ.f.ns)(p:WE σ.hd.c h (P.ρ.set i (some (.ref l))) P.H λr H=>K (.ret r H))(kq:KO P K Q):
  wpAny X.M P.A (handleBy (.ref a) P.env [.ExceptHandler (some t) (some n) [.Return (some x) rp] hp]) Q P.Ex P.s:=by
 refine wpAny_handleBy_cons (codeAny_handlers_test (FV (σ:=σ.hd) (k:=some k) (T:=λt=>wpAny X.M (P.A.mark (some (.ref a))) (eval t P.env) _ _ P.s) G ht λy yp hy=>ym (hy (P.hd (.ref a)) _ λc hc=>?_))) (λe=>nomatch e)
 cases hc with
 |own hD=>
  refine P.R.at hl λa' oI hc=>?_
  rw[show P.φ[l]?=some a' from oI] at ha;cases ha
  refine hc.inv _ λoe Ca vs e1 e2 e3 e4 e5=>AJ G e2 λgC ζ ζ hm=>AJ G hD λgD hB ζ ζ=>Lp (P.R.keep _ _ gC) (P.R.keep _ _ gD) e1 e3 hB ((hm _ _ hD).trans hs) (codeAny_handlers_suite_as (yD (P:=(P.hd (.ref a)).toPt) hT oI λN hN=>pF.k hn λhi yG=>?_))
  have rS:=ho.1 n yG
  refine Ky (P:=(P.hd (.ref a)).to N) hi yG rS (.ref (N.S.pre _ _ oI)) λN2=>ui (B2 (ym (hx N2.fp _ _ p λv H1 p1 N3 y r=>?_)))
  have hk:P.env.kindOf n=some .local:=by
   rcases P.kd n with e|⟨e,_⟩
   ·rw[<-e];exact yH
   ·rw[yH] at e;cases e
  have uK:P.own P.env.locals:=by
   rcases rS with h|h
   ·exact h.2
   ·rw[hk] at h;cases h.1
  have F3:=N2.F.mono N3.S λζ ζ h=>h
  obtain⟨m,uQ,_⟩:=F3.loc
  refine wpAny_nameGoes hk uQ (by rw[P.F.fc.fn];rfl) λh' m' Dc pR=>?_
  have c:Ch (·=P.env.locals) N3.h h':=.but pR.extBut λo e=>uQ.elim λo' q=>q.elim λζ q=>q.elim λζ q=>by rw[q.1] at e;cases e;exact Am q.2.1
  have S3:ca P.own P.w N3.w:=(N.S.nil.trans N2.S).trans N3.S.nil
  have S4:ca P.own N3.w ⟨N3.φ,h'⟩:=ca.ch (io:=(·=P.env.locals)) (q:=N3.w) .refl c λb hb=>.inr (hb▸⟨uK,Dc.imp λo q=>q.elim λζ q=>q.elim λζ q=>⟨q.1,λζ ζ ζ=>Cs q.2.1⟩⟩)
  exact kq.ret _ _ p1 N3.φ h' _ (N3.R.ch (p:=N3.w) (io:=(·=P.env.locals)) (λb hb=>hb▸F3.ap _ (.inl rfl)) c) (S3.trans S4) _ (r.mono S4)
theorem UZ{P:Fp σ}(G:Good X)(ht:pH σ.f (some k) t=true)(hn:pF σ.f.ns i n=true)(yH:σ.f.sc.names.lookup n=some .local)(hx:cy σ.hd h x)(ho:vY P.env P.own σ.f.ns)(kq:KO P K Q):
  uE je P.w P.s (λv H=>aO (excAt H v) λj=>iP j k=true/\WE σ.c.no h (P.ρ.set i (some v)) H λr H=>K (.ret r H))
   (λe ci=>wpAny X.M P.A (noteFrame e P.env) (λζ fI=>wpAny X.M P.A (setFlight e none) (λζ ma=>wpAny X.M P.A (handleBy e P.env [.ExceptHandler (some t) (some n) [.Return (some x) rp] hp]) Q P.Ex ma) P.Ex fI) P.Ex ci):=λv H p φ hh tk R S y ry=>
 aO.k p λj ej p1=>cellAt.k ej (λu=>v=u->wpAny X.M P.A (noteFrame y P.env) _ P.Ex (upd P.s hh tk)) (λl c hl hc=>pJ.k (λc=>H[l]?=some c->v=.ref l->wpAny X.M P.A (noteFrame y P.env) _ P.Ex (upd P.s hh tk)) hc (λhl ev=>by
  subst ev
  have N:Nx P.toPt H:=⟨φ,hh,tk,R,S⟩
  refine ry.inv (λy=>wpAny X.M P.A (noteFrame y P.env) (λζ fI=>wpAny X.M P.A (setFlight y none) (λζ ma=>wpAny X.M P.A (handleBy y P.env [.ExceptHandler (some t) (some n) [.Return (some x) rp] hp]) Q P.Ex ma) P.Ex fI) P.Ex (upd P.s hh tk)) λa ha=>CP (P:=(⟨φ,hh,tk,R,S⟩:Nx P.toPt H).pt) P.hf hl ha λN1 h1=>yD (P:=N1.pt) h1 (N1.S.pre _ _ ha) λN2 h2=>?_
  exact UY (P:=P.to ((⟨φ,hh,tk,R,S⟩:Nx P.toPt H).then (N1.then N2))) G ht hn yH hx hl (N2.S.pre _ _ (N1.S.pre _ _ ha)) h2 p1.1 ho p1.2 (kq.nx ((⟨φ,hh,tk,R,S⟩:Nx P.toPt H).then (N1.then N2)).sx)) hl) rfl
noncomputable abbrev Fp.FX(P:Fp σ)(x:PQ)(Ex:Value->Shared->Prop)(kx:uE je P.w P.s x Ex):Fp (σ.ex x):=⟨⟨P.A,P.φ,P.H,P.s,Ex,P.rm,P.R,P.fr⟩,P.env,P.ρ,je,P.kd,P.F,P.rn,P.hf,P.calm,kx⟩
theorem U0(G:Good X)(ht:pH σ.f (some k) t=true)(hn:pF σ.f.ns i n=true)(yH:σ.f.sc.names.lookup n=some .local)(hx:cy σ.hd h x)(hb:J0 σ.f r e b=true)(he:∀x' y,cH σ.f e x'=true->cy (σ.ex y) e x'):SS σ (.lV r e k i h) (.Try [b] [.ExceptHandler (some t) (some n) [.Return (some x) rp] hp] [] [] pos):=λP K Q ho p kq=>by
 refine wpAny_Try_except (ui ?_)
 have kx:=UZ (rp:=rp) (hp:=hp) G ht hn yH hx ho kq
 cases r with
 |none=>exact qA.k (G:=λb=>wpAny X.M P.A (exec b P.env) _ _ P.s) hb λx' U1 h=>gm.k (G:=λx'=>wpAny X.M P.A (exec (.Return x' U1) P.env) _ _ P.s) h λx' h=>B2 (he x' _ h (P.FX _ _ kx) _ _ p λv H1 p1 N y ry=>kq.ret _ _ p1 _ _ _ N.R N.S.nil _ ry)
 |some t=>
  exact qx.k (G:=λb=>wpAny X.M P.A (exec b P.env) _ _ P.s) hb λts x' ap h=>if1.k (G:=λts=>wpAny X.M P.A (exec (.Assign ts x' ap) P.env) _ _ P.s) h λtg h=>aW h λh1 h=>aW h λh2 h=>aW h λh3 h4=>by
   refine wpAny_Assign_stores (he x' _ h2 (P.FX _ _ kx) _ _ p (λv H1 p1 N y ry=>aO.k p1 λcg ha p1=>?_)) (yw h3 _) ?_
   ·rw[CJ h1 []]
    exact ym (yv t tg (P.no.to (⟨N.φ,N.h,N.tk,N.R,N.S⟩:Nx P.no.toPt H1)) v y cg _ h1 (λz hz=>ho.1 z (Ax t tg h1 z hz)) ry ha λN'=>vx (vx (kq.next _ _ p1 ⟨N'.φ,N'.h,N'.tk,N'.R,N'.F,N.S.nil.trans N'.S⟩)))
   ·cases t with
    |J i=>exact gV.k (G:=λtg=>swappedStores [tg] x' P.env=pure none) h1 λζ ζ ζ=>rfl
    |aF ts=>exact qu.k (G:=λtg=>yc tg x'=true->swappedStores [tg] x' P.env=pure none) h1 (λζ ζ ζ ζ hx=>by cases x'<;>first|rfl|cases hx) h4
theorem U2{P:Fp σ}{a:Addr}{cp:Pos}(G:Good X)(ht:pH σ.f (some k) t=true)(hl:P.H[l]?=some (.exc j))(ha:P.φ[l]?=some a)(hT:uJ P.w a)(hs:iP j k=true)(hq:∀ρ H,K (.next ρ H)->∀N:Sx P ρ H,Q .cont N.s)(p:K (.next P.ρ P.H)):
  wpAny X.M P.A (handleBy (.ref a) P.env [.ExceptHandler (some t) none [.Continue cp] hp]) Q P.Ex P.s:=by
 refine wpAny_handleBy_cons (codeAny_handlers_test (FV (σ:=σ.hd) (k:=some k) (T:=λt=>wpAny X.M (P.A.mark (some (.ref a))) (eval t P.env) _ _ P.s) G ht λy yp hy=>ym (hy (P.hd (.ref a)) _ λc hc=>?_))) (λe=>nomatch e)
 cases hc with
 |own hD=>
  refine P.R.at hl λa' oI hc=>?_
  rw[show P.φ[l]?=some a' from oI] at ha;cases ha
  exact hc.inv _ λoe Ca vs e1 e2 e3 e4 e5=>AJ G e2 λgC ζ ζ hm=>AJ G hD λgD hB ζ ζ=>Lp (P.R.keep _ _ gC) (P.R.keep _ _ gD) e1 e3 hB ((hm _ _ hD).trans hs) (codeAny_handlers_suite (yD (P:=(P.hd (.ref a)).toPt) hT oI λN hN=>ui (wpAny_Continue (hq _ _ p ⟨N.φ,N.h,N.tk,N.R,P.F.mono N.S λζ ζ h=>h,N.S.nil⟩))))
theorem U3{P:Fp σ}{cp:Pos}(G:Good X)(ht:pH σ.f (some k) t=true)(hq:∀ρ H,K (.next ρ H)->∀N:Sx P ρ H,Q .cont N.s):
  uE je P.w P.s (λv H=>aO (excAt H v) λj=>iP j k=true/\K (.next P.ρ H))
   (λe ci=>wpAny X.M P.A (noteFrame e P.env) (λζ fI=>wpAny X.M P.A (setFlight e none) (λζ ma=>wpAny X.M P.A (handleBy e P.env [.ExceptHandler (some t) none [.Continue cp] hp]) Q P.Ex ma) P.Ex fI) P.Ex ci):=λv H p φ hh tk R S y ry=>
 aO.k p λj ej p1=>cellAt.k ej (λu=>v=u->wpAny X.M P.A (noteFrame y P.env) _ P.Ex (upd P.s hh tk)) (λl c hl hc=>pJ.k (λc=>H[l]?=some c->v=.ref l->wpAny X.M P.A (noteFrame y P.env) _ P.Ex (upd P.s hh tk)) hc (λhl ev=>by
  subst ev
  refine ry.inv (λy=>wpAny X.M P.A (noteFrame y P.env) (λζ fI=>wpAny X.M P.A (setFlight y none) (λζ ma=>wpAny X.M P.A (handleBy y P.env [.ExceptHandler (some t) none [.Continue cp] hp]) Q P.Ex ma) P.Ex fI) P.Ex (upd P.s hh tk)) λa ha=>CP (P:=(⟨φ,hh,tk,R,S⟩:Nx P.toPt H).pt) P.hf hl ha λN1 h1=>yD (P:=N1.pt) h1 (N1.S.pre _ _ ha) λN2 h2=>?_
  exact U2 (P:=P.to ((⟨φ,hh,tk,R,S⟩:Nx P.toPt H).then (N1.then N2))) G ht hl (N2.S.pre _ _ (N1.S.pre _ _ ha)) h2 p1.1 (λρ H q M=>hq ρ H q (((⟨φ,hh,tk,R,S⟩:Nx P.toPt _).then (N1.then N2)).sx.then M)) p1.2) hl) rfl
theorem U4{c:E}{tc:Expr}{ep cp bp ip:Pos}{kb:Nat}(G:Good X)(hc:vT σ c tc)(ht:pH σ.f (some k) t=true)(hn:pI x=true)(he:∀y,cy (σ.ex y) e x):iT σ [.bD c [.qq e k] []] [.If tc [.Try [.Expr x ep,.Return (some (.Constant (.bool false) kb bp)) rp] [.ExceptHandler (some t) none [.Continue cp] hp] [] [] pos] [] ip]:=λP K Q hq ho p kq=>by
 refine ui (wpAny_If (hc P _ _ p λv H1 p1=>p1.m λb p1 N=>?_))
 cases b
 ·exact vx (vx (kq.next _ _ p1 N.sx))
 ·refine ui (wpAny_Try_except (ui (wpAny_Expr_any (he _ ((P.to N).FX _ _ (U3 (K:=K) G ht ?_)) _ _ p1 λv2 H2 p2 N2 y ry=>?_) P.F.fc.gen.2.2 (yw hn _))))
  ·exact λρ H q M=>hq ρ H q (N.sx.then M)
  ·exact ui (B2 (wpAny_Constant_bool (kq.ret _ _ p2 _ _ _ N2.R (N.S.trans N2.S).nil _ (.bool false))))
end
section
variable{σ:Lv}{Q:Value->Shared->Prop}{P:Pt}{post:PQ}{a b:E}{l o e:Expr}{pos ap p0:Pos}{v:V}{x:Value}{vs:List V}
theorem U5(r:bx P.w v x)(e:recAt P.H v=some vs)(T:Value->Prop)(k:∀a kvs,P.s.heap.DictOf yi a kvs->kvs.map (·.1)=qr.take vs.length->bF P.w vs (kvs.map (·.2))->T (.ref a)):T x:=
 cellAt.k e (λu=>v=u->T x) (λl c hl hc=>yg.k (λc=>P.H[l]?=some c->v=.ref l->T x) hc (λhl ev=>P.cell (ev▸r) hl T λa ha h=>h.inv _ λkvs x0 x1 x2 ζ=>k a kvs x0 x1 x2) hl) rfl
theorem keys_nodup{n:Nat}:(qr.take n).Nodup:=List.Nodup.sublist (List.take_sublist _ _) (by decide)
theorem U6{kvs:List (Str×Value)}{n i:Nat}{w:Str}{z:Value}(hk:kvs.map (·.1)=qr.take n)(hi:i<n)(hw:qr[i]?=some w)(hz:(kvs.map (·.2))[i]?=some z):valueAt kvs w=some z:=by
 rw[i7] at hz
 obtain⟨q,hq,rfl⟩:=map_eq_some_iff.mp hz
 have e:=b7 (λl:List Str=>l[i]?) hk
 have e:(kvs.map (·.1))[i]?=(qr.take n)[i]?:=e
 rw[i7,hq,List.getElem?_take_of_lt hi,hw] at e
 have e:q.1=w:=dH e
 exact valueAt_of_get (hk▸keys_nodup) (i:=i) (by rw[hq,<-e])
theorem U7{i k0:Nat}{w:Str}(hw:qr[i]?=some w)(ha:cy σ a l):cy σ (.gF a i) (.Subscript l (.Constant (.str w) k0 p0) pos):=λP post Q p k=>
 Subscript_ (ha P _ _ p (λv H1 p1 N x r1=>(Fs (v:=.str w) rfl) (P.to N) (λy H=>y=.str w/\aO (recAt H v) λvs=>aO vs[i]? λv=>post v H) _ ⟨rfl,p1⟩ (λu H2 p2 N2 y r2=>by
  obtain⟨rfl,p2⟩:=p2
  refine r2.inv (λy=>wpAny X.M P.A (subscriptTail l (.Constant (.str w) k0 p0) x y) Q P.Ex N2.s) λt=>aO.k p2 λvs e p2=>aO.k p2 λu hu p2=>U5 (P:=N2.pt) (r1.mono N2.S) e (λx=>wpAny X.M P.A (subscriptTail l (.Constant (.str w) k0 p0) x _) Q P.Ex N2.s) λa kvs hD hk hr=>tail_any hD.typeIs PySem.slot_dict_getitem.lookup (hr.get hu λz hz rz=>?_) (Aw rfl _ _)
  exact wpAny_getItem_of (knd:=yi) (k:=w) (hX w) hD.mapOf (U6 hk (d7.mp hu).1 hw hz) (k _ _ p2 ((N.then N2).then ((N.then N2).pt.gY _)) _ rz))))
theorem U8(G:Good X)(P:Pt)(v:V)(x:Value)(r:bx P.w v x)(h:(j6 P.H v).isSome=true):P.s.TypeIs x "dict"/\∀a,x=.ref a->∃ob,P.s.heap.get? a=some ob/\ob.dict=none:=
 (uk.mp h).elim λes e=>th r G e (λx=>P.s.TypeIs x "dict"/\∀a,x=.ref a->∃ob,P.s.heap.get? a=some ob/\ob.dict=none) λζ ζ a kvs ζ ζ ζ hD ζ ζ ζ=>⟨hD.typeIs,hD.mapOf.noDict⟩
theorem U9(G:Good X)(ho:sY o=true)(wu:(ap.endLine==pos.line)=true)(h0:cH σ.f b e=true)(ha:cy σ a o)(hb:cy σ b e)(h:fX σ [b] [e]):cy σ (.get a b) (.Call (.Attribute o "get" ap) [e] [] pos):=λP post Q p k=>
 wpAny_Call_method (FH ho _ P.env _) (FI h (show 1<20 by decide) P.env) wu PySem.F.plainAttrs_dict PySem.F.slot_dict_get PySem.F.type_dict_get (ha P _ _ p (λv H1 p1 N x r=>gn.k p1 λhk p1=>by
  have q:=U8 G N.pt v x r hk
  refine⟨q.1,q.2,?_⟩
  obtain⟨es,he⟩:=uk.mp hk
  refine th (P:=N.pt) r G he (λx=>bx N.w v x->wpAny X.M P.A (callWith pos (.builtin "dict.get") [x] (backTo pos (starEach [e] P.env)) (backToKw pos (keywordEach [] P.env))) Q P.Ex N.s) (λζ ζ d ζ ζ ζ ζ ζ ζ hs ζ r=>?_) r
  rw[tm h0 P.env]
  refine wpAny_dict_get1 (knd:=kS) hs (hb (P.to N) _ _ p1 (λu H2 p2 N2 y r2=>aO.k p2 λVa e2 p2=>th (P:=N2.pt) (r.mono N2.S) G e2 (λx=>x=.ref d->∃k f,kS.is k y=true/\N2.s.heap.MapOf kS d f/\Q ((f k).getD .none) {N2.s with toks:=N2.s.toks+1}) (λζ ζ d2 kvs ζ ζ ζ hD hr ζ ζ e=>?_) rfl))
  cases e
  cases u with
  |int i=>
   refine r2.inv (λy=>∃k f,kS.is k y=true/\N2.s.heap.MapOf kS d f/\Q ((f k).getD .none) {N2.s with toks:=N2.s.toks+1}) λt=>⟨i,_,hX i,hD.mapOf,?_⟩
   have p2:post ((fO Va i).getD .none) H2:=p2
   rcases Fj hr i with⟨w1,w2⟩|⟨v',x',w1,w2,w3⟩
   ·rw[w1] at p2;rw[w2];exact k _ _ p2 ((N.then N2).then ((N.then N2).pt.gY _)) _ .none
   ·rw[w1] at p2;rw[w2];exact k _ _ p2 ((N.then N2).then ((N.then N2).pt.gY _)) _ w3
  |_=>exact p2.elim))
theorem Lq{σ:Lv}{pos:Pos}:∀{ks:List (Option Expr)} {ws:List Str} {es:List E} {xs:List Expr} {P:Fp σ} {post:List V->Hp->Prop} {Q:List (Value×Value)->Shared->Prop},Ag ks ws=true->es.length=xs.length->ws.length=es.length->(∀(i:Nat) c x,es[i]?=some c->xs[i]?=some x->cy σ c x)->nC σ.c es P.ρ P.H post ->
  (∀vs H,post vs H->∀(N:Nx P.toPt H) (qs:List (Value×Value)) (kvs:List (Str×Value)),Carries yi qs kvs->kvs.map (·.1)=ws->bF N.w vs (kvs.map (·.2))->Q qs N.s)->wpAny X.M P.A (evalPairs (pairTrees ks xs P.env pos)) Q P.Ex P.s
 |[],ws,es,xs,P,post,Q,hk,hx,hl,he,p,k=>by
  cases ws with
  |cons _ _=>cases hk
  |nil=>cases es with
   |cons _ _=>cases hl
   |nil=>cases xs with
    |cons _ _=>cases hx
    |nil=>exact pairTrees_nil_walk (k _ _ p (P.toPt.gY P.s.toks) [] [] trivial rfl .nil)
 |k0::ks,[],es,xs,P,post,Q,hk,hx,hl,he,p,k=>by cases hk
 |k0::ks,w::ws,[],xs,P,post,Q,hk,hx,hl,he,p,k=>by cases hl
 |k0::ks,w::ws,c::es,[],P,post,Q,hk,hx,hl,he,p,k=>by cases hx
 |k0::ks,w::ws,c::es,x::xs,P,post,Q,hk,hx,hl,he,p,k=>
  gm.k (G:=λk0=>wpAny X.M P.A (evalPairs (pairTrees (k0::ks) (x::xs) P.env pos)) Q P.Ex P.s) hk λke hk=>lX.k (G:=λke=>wpAny X.M P.A (evalPairs (pairTrees (some ke::ks) (x::xs) P.env pos)) Q P.Ex P.s) hk λcw kn kp hk=>aW hk λh1 hk=>by
   refine pairTrees_cons_walk ((Fs (v:=.str w) (b7 some (cu h1).symm)) P (λy H=>y=.str w/\nC σ.c (c::es) P.ρ H post) _ ⟨rfl,p⟩ (λu H1 p1 N y r1=>?_))
   obtain⟨rfl,p1⟩:=p1
   exact he 0 c x rfl rfl (P.to N) _ _ p1 (λv H2 p2 N2 z rz=>Lq (P:=(P.to N).to N2) hk (Nat.succ.inj hx) (Nat.succ.inj hl) (λi c x h h'=>he (i+1) c x h h') p2 λvs H3 p3 N3 qs kvs hc hw hr=>r1.inv (λy=>Q ((y,z)::qs) N3.s) λt=>k _ _ p3 ((N.then N2).then N3) _ ((w,z)::kvs) ⟨hX w,rfl,hc⟩ (b7 (w::·) hw) (.cons (rz.mono N3.S) hr))
theorem Lr(G:Good X)(P:Pt):fW ⟨P.φ,P.s.heap.push uO⟩ P.s.heap.objs.size (.gO []):=.gO (kvs:=[]) (Heap.DictOf.new _) rfl .nil (FQ G P)
theorem Ls:∀(kvs acc:List (Str×Value)),((acc++kvs).map (·.1)).Nodup->merged acc kvs=acc++kvs
 |[],acc,_=>(fN acc).symm
 |q::kvs,acc,h=>by
  have e:stored acc q.1 q.2=acc++[q]:=by
   unfold stored
   rw[bH]
   intro hh
   obtain⟨x,hx,hq⟩:=rE.mp hh
   rw[jO] at h
   exact(sM.mp h).2.2 x.1 (ii.mpr ⟨x,hx,rfl⟩) q.1 dD (cu hq)
  refine(?_:merged (stored acc q.1 q.2) kvs=_)
  rw[e,Ls kvs (acc++[q]) (by rw[mA];exact h),mA];rfl
theorem Vb{es:List E}{ks:List (Option Expr)}{xs:List Expr}(G:Good X)(hk:Ag ks qr=true)(hl:es.length=3)(h:fX σ es xs)(eR:ks.length=3/\ks.all (·.isSome)=true):cy σ (.tab es) (.Dict ks xs pos):=λP post Q p k=>by
 refine wpAny_Dict_any eR.2 (eR.1.trans (h.len▸hl).symm) (λe=>by rw[e] at eR;cases eR.1) (by rw[eR.1];decide) (Lq (P:=P.to (P.toPt.newD (Lr G P.toPt))) hk h.len hl.symm (λi c x h1 h2=>(h.get i c x h1 h2).1) p λvs H2 p2 N qs kvs hc hw hr=>?_)
 obtain⟨p1,p2⟩:=p2
 have AI:=N.S.pre _ _ P.toPt.C6
 refine N.R.at p1 λa ha h=>h.inv _ λVc d0 d1 d2 hs=>?_
 rw[show N.φ[P.H.length]?=some a from ha] at AI
 cases AI
 have e0:Vc=[]:=List.map_eq_nil_iff.mp (d1.trans rfl)
 subst e0
 refine wpAny_storeAll (knd:=yi) qs kvs [] N.s _ hc d0 (by have:=b7 List.length hw;rw[bJ] at this;rw[this];decide) λh' hD hb=>?_
 rw[Ls kvs [] (by rw[nil_append,hw];decide),nil_append] at hD
 have K:=N.pt.vS ha hb.extBut
 have hv:vs.length=3:=by rw[hr.length,bJ,<-bJ (f:=(·.1)),hw];rfl
 exact k _ _ p2 ((P.toPt.newD (Lr G P.toPt)).then (N.then (N.pt.set ha hb.extBut (.gO hD (by rw[hw,hv];rfl) (hr.kp K) hs) _))) _ (.ref ha)
end
theorem Lu:∀{us vs:List V} {i:Nat} {v:V},(vN us vs)[i]?=some v->∃u w,us[i]?=some u/\vs[i]?=some w/\v=.aF [u,w]
 |[],_,i,v,h=>bK vv h
 |_::_,[],i,v,h=>bK vv h
 |a::r,b::t,0,v,h=>⟨a,b,rfl,rfl,(dH h).symm⟩
 |a::r,b::t,i+1,v,h=>Lu (us:=r) (vs:=t) (i:=i) h
theorem Lw:∀{us vs:List V} {i:Nat},us.length<=vs.length->(vN us vs)[i]?=none->us[i]?=none
 |[],_,i,_,_=>rfl
 |a::r,[],i,hl,h=>absurd hl (Nat.not_succ_le_zero _)
 |a::r,b::t,0,_,h=>bK h rfl
 |a::r,b::t,i+1,hl,h=>Lw (us:=r) (vs:=t) (i:=i) (Nat.le_of_succ_le_succ hl) h
section
variable{A:Around}{E:Value->Shared->Prop}{s:Shared}
theorem Vd{z TI TO i1 i2 l1 l2:Addr}{k:Nat}{xs:Array Value}{Q:Option Value->Shared->Prop}(hh:A.handled=none)(D:ZipApart z TI TO i1 i2 l1 l2)
  (hz:IsZip s.heap z TI TO .none) (Ve:IsPair s.heap TI (.ref i1) (.ref i2)) (h1:s.heap.IsListIter i1 l1 k) (rT:s.heap.IsList l1 xs) (hx:xs[k]?=none)
  (hQ:∀h',(∀c o,c≠z->c≠i1->s.heap.get? c=some o->h'.get? c=some o)->Q none {s with heap:=h'}):wpAny X.M A (pyNext (.ref z)) Q E s:=by
 have hT:s.TypeIs (.ref z) "zip":=⟨_,hz,rfl⟩
 unfold pyNext
 refine bj (wpAny_attempt (B3 (name:=Str.ofString "__next__") hT PySem.F.slot_zip_next (uc PySem.F.slot_zip_next hT PySem.F.entry_zip_next ((bj (pB hz rfl (x:=.bool false) rfl ((bj (pB hz rfl (x:=.ref TI) rfl (bj (zO Ve rfl ((bj (bj (pB hz rfl (x:=.none) rfl (bU ?_))):wpAny _ _ (Builtin.SmallTypes.ownedTupleIsFree (.ref z) >>= _) _ _ _))))):wpAny _ _ (field (.ref z) 3 >>= _) _ _ _))):wpAny _ _ (field (.ref z) 2 >>= _) _ _ _)) (PySem.F.args_zip_next_1 _))))
 simp only[if_true]
 refine bj (wpAny_rule (bj (pB hz rfl (x:=.ref TO) rfl (bj (wpAny_setField_rec hz (by exact zero_lt_succ _) λg1 FY mI=>?_)))))
 replace FY:IsZip g1 z TI TO .ellipsis:=FY
 refine bj ?_
 simp only[List.zipIdx_cons,List.zipIdx_nil,forIn_cons,List.forIn_nil]
 refine bj (bj (wpAny_onRaise ((?_:wpAny _ _ (Builtin.SmallTypes.nextOf (.ref i1) >>= _) _ _ _))))
 refine bj (wpAny_nextOf_list_end hh (h1.extBut mI.extBut D.i1z) (rT.extBut mI.extBut D.l1z) hx λg2 e rM he=>he.elim λoe he=>?_)
 have CW:IsZip g2 z TI TO .ellipsis:=rM _ _ D.i1z.symm FY
 have Vf:e≠z:=λx=>by subst x;rw[CW] at he;cases he.1;simp at he
 exact wpAny_setField_rec CW (by exact zero_lt_succ _) λg3 ζ CU=>bj (zH (T:="StopIteration") (b:=true) ⟨oe,CU.extBut _ _ Vf he.1,he.2⟩ isSubtype_stop (bU (hQ _ λc o c1 c3 x=>CU.extBut _ _ c1 (rM _ _ c3 (mI.extBut _ _ c1 x)))))
end
section
variable{σ:Lv}{tg:Expr}{eQ:Ws}{H₀:Hp}{ws:List Nat}{us vs:List V}
theorem Heap.IsListIter.at{h h':Heap}{a l:Addr}{i:Nat}(x:h.IsListIter a l i)(k:∀o,h.get? a=some o->h'.get? a=some o):h'.IsListIter a l i:=x.imp λo q=>⟨k o q.1,q.2⟩
theorem FZ{h:Heap}{a l:Addr}{i:Nat}(x:h.IsListIter a l i)(o:Obj)(e:h.get? a=some o):fz o=false:=x.elim λo' q=>by rw[q.1] at e;cases e;exact oE q.2.1 rfl
theorem Lx{h:Heap}{a l:Addr}{i:Nat}(x:h.IsListIter a l i):∃o,h.get? a=some o/\fT o=false/\il o=false:=x.imp λo q=>⟨q.1,Fx q.2.1 rfl (td q.2.2)⟩
inductive tB(z TI i1 i2:Addr)(c:Addr):Prop
 |z (e:c=z):tB z TI i1 i2 c
 |i1 (e:c=i1):tB z TI i1 i2 c
 |i2 (e:c=i2):tB z TI i1 i2 c
 |t (e:c=TI):tB z TI i1 i2 c
theorem Vg{z TI TO i1 i2 l1 l2:Addr}{lz:Nat}(tw:vG tg=true)(D:ZipApart z TI TO i1 i2 l1 l2)(l9:us.length<=vs.length)(mI:wa eQ H₀ ws us l1)(rM:wa eQ H₀ ws vs l2)(Vh:eQ.φ[lz]?=some TO)(hH:H₀[lz]?=some .jx)(Vi:lz∈ws):
  nG tg eQ H₀ ws (vN us vs) z (tB z TI i1 i2) (λi h=>IsZip h z TI TO .none/\IsPair h TI (.ref i1) (.ref i2)/\h.IsListIter i1 l1 i/\h.IsListIter i2 l2 i) where
 keep:=λi h h' st hk=>⟨hk z (.z rfl) _ st.1,hk TI (.t rfl) _ st.2.1,Heap.IsListIter.at st.2.2.1 (hk i1 (.i1 rfl)),Heap.IsListIter.at st.2.2.2 (hk i2 (.i2 rfl))⟩
 live:=λi h st b hb=>hb.casesOn (λe=>⟨_,e▸st.1,rfl,rfl⟩) (λe=>e▸Lx st.2.2.1) (λe=>e▸Lx st.2.2.2) (λe=>⟨_,e▸st.2.1,rfl,rfl⟩)
 item:=λP i v Q hh kp hw st fj hv k=>(mI P kp hw).elim λxs a=>(rM P kp hw).elim λys b=>(Lu hv).elim λu h=>h.elim λt h=>a.2.get h.1 λx hx rx=>b.2.get h.2.1 λy hy ry=>by
  have eH:=(CN hw Vi).trans hH
  have F0:=kp.pre lz TO Vh
  refine P.R.at eH λc hc FT=>FT.inv _ λp1 p2 Vj=>?_
  rw[show P.w.φ[lz]?=some TO from F0] at hc;cases hc
  refine wpAny_pyNext_zip_item (a:=p1) (b:=p2) D st.1 st.2.1 Vj st.2.2.1 st.2.2.2 a.1 b.1 (by rw[yA];exact hx) (by rw[yA];exact hy) λh' q1 q2 q3 q4 q5 q6 q7=>Expr.Tuple.elim (motive_1:=λtg=>wpAny X.M P.A (letOwnedTupleGo tg (.ref z) (.ref P.s.heap.objs.size)) (λζ fI=>Q (.ref P.s.heap.objs.size) fI) P.Ex (upd P.s h' P.s.toks)) tg (cu tw) λζ ζ ζ=>wpAny_letOwnedTupleGo_zip (s:=upd P.s h' P.s.toks) q1 λh2 w1 w2=>?_
  replace w2:SameBut z h' h2:=w2
  have keep:∀c o,c≠TO->P.s.heap.get? c=some o->(tB z TI i1 i2 c->fz o=true)->h2.get? c=some o:=λc o n2 e hf=>
   have n1:c≠z:=λe'=>no (hf (.z e')) (by rw[e',st.1] at e;cases e;exact oE rfl rfl)
   w2.extBut c o n1 (q7 c o n1 n2 (λe'=>no (hf (.i1 e')) (FZ st.2.2.1 o (e'▸e))) (λe'=>no (hf (.i2 e')) (FZ st.2.2.2 o (e'▸e))) e)
  have Lz:h2.get? TO=some (lY [x,y] 0):=w2.extBut _ _ D.TOz q2
  have g1:h2.IsListIter i1 l1 (i+1):=q3.extBut w2.extBut D.i1z
  have g2:h2.IsListIter i2 l2 (i+1):=q4.extBut w2.extBut D.i2z
  have gT:h2.get? TI=some _:=keep TI _ D.TITO st.2.1 λζ=>rfl
  have zd:∀{c o},tB z TI i1 i2 c->P.s.heap.get? c=some o->fT o=false:=λ{c o} hz e=>hz.casesOn (λe'=>by rw[e',st.1] at e;cases e;rfl) (λe'=>st.2.2.1.elim λo2 q=>by rw[e',q.1] at e;cases e;exact td q.2.2) (λe'=>st.2.2.2.elim λo2 q=>by rw[e',q.1] at e;cases e;exact td q.2.2) (λe'=>by rw[e',st.2.1] at e;cases e;rfl)
  have hm:TO∈P.φ:=ie F0
  have S:ca (tB z TI i1 i2) P.w ⟨P.φ,h2⟩:=⟨λζ ζ e=>e,λc o e hn hf=>⟨o,keep c o (λe'=>hn (e'▸hm)) e hf,.refl⟩,λζ m1 m2=>absurd m1 m2,λc o e=>(qh (c=TO)).elim (λe'=>⟨_,e'▸Lz,λhn=>absurd (e'▸hm) hn⟩) λn2=>
   (qh (tB z TI i1 i2 c)).elim (λhz=>(show ∃o',h2.get? c=some o' from hz.casesOn (λe=>⟨_,e▸w1⟩) (λe=>g1.imp λo q=>e▸q.1) (λe=>g2.imp λo q=>e▸q.1) (λe=>⟨_,e▸gT⟩)).imp λo' x=>⟨x,λζ hd=>no hd (zd hz e)⟩) λhz=>⟨o,keep c o n2 e λh=>absurd h hz,λζ h=>h⟩⟩
  have R2:SR ⟨P.φ,h2⟩ P.H:=KU eH▸SR.Kg (p:=P.w) P.R F0 S.kp (λb o e=>keep b o (λe'=>bK (P.R.fresh b (e'▸hm)) e) (P.R.keep b o e) λhi=>bK (fj b hi).2 e) (λb o hb hn e=>keep b o hn e λhi=>absurd hb (fj b hi).1) (.jx Lz)
  rw[h.2.2] at k
  exact k h2 P.s.toks _ R2 S ⟨w1,gT,g1,g2⟩ (.aF (w2.extBut _ _ (λe'=>bK (jq P.s.heap (iC e')) st.1) q5) (.cons (rx.mono S) (.cons (ry.mono S) .nil)) (Nat.le_of_ble_eq_true rfl) (P.R.new (p:=P.w) (jq _ (bX _))).1)
 done:=λP i Q hh kp hw st fj hv k=>(mI P kp hw).elim λxs a=>Vd hh D st.1 st.2.1 st.2.2.1 a.1 (none_of a.2 (Lw l9 hv)) λh' hk=>
  k h' P.s.toks λc o e hf=>hk c o (λe'=>no (hf (.z e')) (by rw[e',st.1] at e;cases e;exact oE rfl rfl)) (λe'=>no (hf (.i1 e')) (FZ st.2.2.1 o (e'▸e))) e
 self:=λA s Q Ex st h=>wpAny_pyIter_zip st.1 h
theorem LA{P:Pt}{l:Nat}{Az:Ws}{a:Addr}{ws:List Nat}(ha:P.φ[l]?=some a)(e:P.H[l]?=some (.list us))(kp:Kp P.w Az)(hw:l∈ws)(c:aI):wa Az (P.H++[c]) ws us a:=
 Fy (kp.pre l a ha) (by rw[sL (d7.mp e).1];exact e) hw
theorem Vk{c d:E}{g e f:Expr}{pos:Pos}(G:Good X)(hg:fR σ.f "zip" g=true)(h:fX σ [c,d] [e,f]):j8 σ (.zip c d) (.Call g [e,f] [] pos):=
 ⟨λζ ζ=>rfl,λP tg post Q tw p k=>we (post:=λvs H=>w2 vs λx y=>aO (dJ H x) λvs=>aO (dJ H y) λus=>vs.length<=us.length/\post (vN vs us,H.length::(watch x++watch y)) (H++[aI.jx])) G hg (jT 14 (by decide)) ⟨_,rfl⟩ h p (λvs H1 p1 ζ N xs r=>w2.k p1 (λvs=>bF N.w vs xs->_) (λu v p1 r=>aO.k p1 λus rT p1=>aO.k p1 λvs jV p1=>r.k2 (λxs=>wpAny X.M P.A (call (.type "zip") xs) (λx ci=>wpAny X.M P.A (pyIter x) Q P.Ex ci) P.Ex N.s) λx y r1 r2=>
  aP (P:=N.pt) r1 rT (λx=>wpAny X.M P.A (call (.type "zip") [x,y]) (λx ci=>wpAny X.M P.A (pyIter x) Q P.Ex ci) P.Ex N.s) λl a xs m ev uQ ha h1 q1 ζ=>aP (P:=N.pt) r2 jV (λy=>wpAny X.M P.A (call (.type "zip") [_,y]) (λx ci=>wpAny X.M P.A (pyIter x) Q P.Ex ci) P.Ex N.s) λl' b ys m' wy AK hb h2 q2 ζ=>by
   subst ev wy
   refine call_zip_2 (s:=N.s) (lK h1) (lK h2) λh' z1 z2 z3 z4 z5 z6 z7=>wpAny_pyIter_zip (s:=upd P.s h' N.tk) z1 ?_
   have fr:∀b,N.h.objs.size<=b->Ap ⟨N.φ,h'⟩ b/\N.h.get? b=none:=λb hb=>have hn:=jq N.h hb;⟨N.R.new (p:=N.w) hn,hn⟩
   have hT:=fr (N.h.objs.size+3) (eV _ _)
   have K:Kp N.w ⟨N.φ++[N.h.objs.size+3],h'⟩:=⟨λl a e=>Cr e,λa o ζ e hn=>⟨⟨o,z7 a o e,.refl⟩,λhm=>(cY.mp hm).elim hn λhm=>bK (dI.mp hm▸hT.2) e⟩⟩
   have R3:SR ⟨N.φ++[N.h.objs.size+3],h'⟩ (H1++[.jx]):=by
    have R0:SR ⟨N.φ,h'⟩ H1:=SR.ext (p:=N.w) N.R z7
    refine⟨R0.keep,λb hb=>(cY.mp hb).elim (R0.fresh b) λh=>dI.mp h▸hT.1.2,sM.mpr ⟨R0.nodup,List.pairwise_singleton _ _,λx hx y hy e=>hT.1.1 (dI.mp hy▸e▸hx)⟩,(by rw[b6,b6,show N.φ.length=H1.length from N.R.len];rfl),λl x e=>?_⟩
    rcases lt_or_ge l H1.length with hl|hl
    ·rw[sL hl] at e
     exact N.R.at e λb hb r=>⟨b,Cr hb,r.kp K λo y=>z7 b o y⟩
    ·have gX:l=H1.length:=Nat.le_antisymm (Nat.lt_succ_iff.mp (by have:=(d7.mp e).1;rw[b6] at this;exact this)) hl
     subst gX
     rw[pv (bX _),qi] at e
     exact⟨_,(by rw[pv (iC N.R.len),show N.φ.length=H1.length from N.R.len,qi];rfl),(by cases dH e;exact fW.jx z3)⟩
   refine k _ _ p1.2 ⟨N.φ++[N.h.objs.size+3],h',N.tk,R3,ca.adopt (q:=⟨N.φ,h'⟩) (N.S.ext z7) (N.S.dead hT.2)⟩ (N.h.objs.size+4) _ _ (Vg (lz:=H1.length) tw (zipApart_new (nh h1) (nh h2)) p1.1 (LA (P:=N.pt) ha uQ K (.tail _ (.head _)) _) (LA (P:=N.pt) hb AK K (.tail _ (.tail _ (.head _))) _) ?_ ?_ (.head _)) ⟨z1,z2,z4,z5⟩ λc hc=>?_
   ·refine(?_:(N.φ++[N.h.objs.size+3])[H1.length]?=_)
    rw[<-show N.φ.length=H1.length from N.R.len,pv (bX _),qi];rfl
   ·rw[pv (bX _),qi];rfl
   ·have key:∀c,N.h.objs.size<=c->c≠N.h.objs.size+3->Ap ⟨N.φ++[N.h.objs.size+3],h'⟩ c/\P.s.heap.get? c=none:=λc hc fG=>have q:=fr c hc;⟨⟨λhm=>(cY.mp hm).elim q.1.1 λh=>fG (dI.mp h),q.1.2⟩,N.S.dead q.2⟩
    have ne:∀{a:Nat},a≠3->N.h.objs.size+a≠N.h.objs.size+3:=λh e=>h (Nat.add_left_cancel e)
    exact hc.casesOn (λe=>e▸key _ (eV _ _) (ne (by decide))) (λe=>e▸key _ (bX _) (ne (a:=0) (by decide))) (λe=>e▸key _ (eV _ _) (ne (by decide))) (λe=>e▸key _ (eV _ _) (ne (by decide)))) r)⟩
end
def Ok(σ:Lv):Prop:=Good X/\yn σ.m/\2*σ.m+1<=σ.n
def RE(c:E):Prop:=∀(σ:Lv) (e:Expr),Ok σ->cH σ.f c e=true->cb σ c e
def tC(c:It):Prop:=∀(σ:Lv) (e:Expr),Ok σ->Ce σ.f c e=true->j8 σ c e
def md(c:List E):Prop:=∀(σ:Lv) (e:List Expr),Ok σ->ja σ.f c e=true->fX σ c e
def RO(c:Option E):Prop:=∀(σ:Lv) (e:Option Expr),Ok σ->E6 σ.f c e=true->wo σ c e
section
variable{a b c:E}{es:List E}
theorem nt{b:Bool}(h:(!b)=true):b=false:=oj _▸h
theorem Vl{v:V}:RE (.k v):=λσ e og h=>lX.k (G:=λe=>cb σ _ e) h λc k p h=>(Fs (cu h)).t λζ=>rfl
theorem Vm{i:Nat}:RE (.J i):=λσ e og h=>gV.k (G:=λe=>cb σ _ e) h λx p h=>(Rx h).t λζ=>rfl
theorem Vn{j:Nat}:RE (.gk j):=λσ e og h=>gV.k (G:=λe=>cb σ _ e) h λx p h=>aW h λh1 h2=>(Ry og.1 (cu h1) h2).t λζ=>rfl
theorem Vo{op:qm}(ra:RE a)(rb:RE b):RE (.bin op a b):=λσ e og h=>zW.k (G:=λe=>cb σ _ e) h λl o r p h=>aW h λh1 h=>aW h λh2 h3=>cu h1▸(RF og.1 (ra σ l og h2).1 (rb σ r og h3).1).t λζ=>rfl
theorem Vp(ra:RE a):RE (.neg a):=λσ e og h=>vH.k (G:=λe=>cb σ _ e) h λo y p h=>aW h λh1 h=>cu h1▸(RG (ra σ y og h).1).t λζ=>rfl
theorem Vq(ra:RE a):RE (.not a):=λσ e og h=>vH.k (G:=λe=>cb σ _ e) h λo y p h=>aW h λh1 h=>cu h1▸RH (ra σ y og h)
theorem Vr(r:md es):RE (.and es):=λσ e og h=>vI.k (G:=λe=>cb σ _ e) h λo xs p h=>aW h λh1 h=>cu h1▸Kv (w:=true) (r σ xs og h) λζ ζ ζ p=>p
theorem Vs(r:md es):RE (.or es):=λσ e og h=>vI.k (G:=λe=>cb σ _ e) h λo xs p h=>aW h λh1 h=>cu h1▸Kv (w:=false) (r σ xs og h) λζ ζ ζ p=>p
theorem Vt{op:pD}(ra:RE a)(rb:RE b):RE (.cmp op a b):=λσ e og h=>sX.k (G:=λe=>cb σ _ e) h λl os rs p h=>if1.k (G:=λos=>cb σ _ (.Compare l os rs p)) h λo h=>if1.k (G:=λrs=>cb σ _ (.Compare l [o] rs p)) h λr h=>aW h λh1 h=>aW h λh2 h3=>cu h1▸RI og.1 h3 (ra σ l og h2).1 (rb σ r og h3).1
theorem Vu{op sU:pD}(ra:RE a)(rb:RE b)(rc:RE c):RE (.uo op sU a b c):=λσ e og h=>sX.k (G:=λe=>cb σ _ e) h λl os rs p h=>if2.k (G:=λos=>cb σ _ (.Compare l os rs p)) h λo o' h=>if2.k (G:=λrs=>cb σ _ (.Compare l [o,o'] rs p)) h λr r' h=>aW h λh1 h=>aW h λFo h=>aW h λh2 h=>aW h λh3 h4=>cu h1▸cu Fo▸RJ og.1 h4 (ra σ l og h2).1 (rb σ r og h3).1 (rc σ r' og h4).1
theorem Vv{w:Bool}(ra:RE a):RE (.isNone w a):=λσ e og h=>sX.k (G:=λe=>cb σ _ e) h λl os rs p h=>if1.k (G:=λos=>cb σ _ (.Compare l os rs p)) h λo h=>aW h λh1 h=>if1.k (G:=λrs=>cb σ _ (.Compare l [o] rs p)) h λr h=>lX.k (G:=λr=>cb σ _ (.Compare l [o] [r] p)) h λc k kp h=>aW h λh2 h=>cu h1▸cu h2▸RK (ra σ l og h).1
theorem Vw(r:md es):RE (.aF es):=λσ e og h=>qu.k (G:=λe=>cb σ _ e) h λxs k p h=>aW h λh1 h=>(RL (cu h1) (r σ xs og h)).t λζ=>rfl
theorem Vx(r:md es):RE (.aP es):=λσ e og h=>zX.k (G:=λe=>cb σ _ e) h λxs p h=>aW h λh1 h=>(RM (cu h1) (r σ xs og h)).t λζ=>rfl
theorem Vy(ra:RE a)(rb:RE b):RE (.br a b):=λσ e og h=>qw.k (G:=λe=>cb σ _ e) h λv s p h=>aW h λh1 h2=>(RP og.1 h2 (ra σ v og h1).1 (rb σ s og h2).1).t λζ=>rfl
theorem Vz{lo hi:Option E}(ra:RE a)(rl:RO lo)(rh:RO hi):RE (.kP a lo hi):=λσ e og h=>qw.k (G:=λe=>cb σ _ e) h λv s p h=>zY.k (G:=λs=>cb σ _ (.Subscript v s p)) h λl u t sp h=>aW h λh0 h=>aW h λh1 h=>aW h λh2 h3=>xY (G:=λt=>cb σ _ (.Subscript v (.Slice l u t sp) p)) h0 ((To og.1 (ra σ v og h1).1 (rl σ l og h2) (rh σ u og h3)).t λζ=>rfl)
theorem VA{f:Nat}(r:md es):RE (.call f es):=λσ e og h=>gG.k (G:=λe=>cb σ _ e) h λg xs kws p h=>aW h λh0 h=>fH (G:=λkws=>cb σ _ (.Call g xs kws p)) h0 (gV.k (G:=λg=>cb σ _ (.Call g xs [] p)) h λx np h=>aW h λh1 h=>aW h λh2 h=>aW h λh4 h3=>(RQ og.1 og.2.1 og.2.2 (cu h1) h2 h4 (r σ xs og h3)).t λζ=>rfl)
theorem VB:RE .lH:=λσ e og h=>qB.k (G:=λe=>cb σ _ e) h λks vs p h=>aW h λh1 h2=>fH (G:=λks=>cb σ _ (.Dict ks vs p)) h1 (fH (G:=λvs=>cb σ _ (.Dict [] vs p)) h2 ((Ua og.1).t λζ=>rfl))
theorem VC:RE .qp:=λσ e og h=>qB.k (G:=λe=>cb σ _ e) h λks vs p h=>aW h λh1 h2=>fH (G:=λks=>cb σ _ (.Dict ks vs p)) h1 (fH (G:=λvs=>cb σ _ (.Dict [] vs p)) h2 ((Ub og.1).t λζ=>rfl))
theorem VD(ra:RE a)(rb:RE b):RE (.zT a b):=λσ e og h=>qB.k (G:=λe=>cb σ _ e) h λks vs p h=>if1.k (G:=λks=>cb σ _ (.Dict ks vs p)) h λk h=>gm.k (G:=λk=>cb σ _ (.Dict [k] vs p)) h λk h=>if1.k (G:=λvs=>cb σ _ (.Dict [some k] vs p)) h λv h=>aW h λh1 h2=>(Ud og.1 (ra σ k og h1).1 (rb σ v og h2).1).t λζ=>rfl
theorem AL{σ:Lv}{e:Expr}(ra:RE a)(og:Ok σ)(h:cH σ.f a e=true):fX σ [a] [e]:=.cons h (ra σ e og h) .nil
theorem VE(ra:RE a):RE (.listOf a):=λσ e og h=>gG.k (G:=λe=>cb σ _ e) h λg xs kws p h=>aW h λhh h=>aW h λh0 h=>fH (G:=λkws=>cb σ _ (.Call g xs kws p)) h0 (aW h λh1 h=>if1.k (G:=λxs=>cb σ _ (.Call g xs [] p)) h λe h=>(Uh (nt hh) og.1 h1 (AL ra og h)).t λζ=>rfl)
theorem VF{m:Me}(ra:RE a)(r:md es):RE (.cR m a es):=λσ e og h=>gG.k (G:=λe=>cb σ _ e) h λg xs kws p h=>aW h λh0 h=>fH (G:=λkws=>cb σ _ (.Call g xs kws p)) h0 (oz.k (G:=λg=>cb σ _ (.Call g xs [] p)) h λo y ap h=>aW h λh1 h=>aW h λh2 h=>aW h λh3 h=>aW h λh4 h=>aW h λh5 h6=>by
 obtain rfl:=eq_of_beq h1
 have key:∀{id:String},wq m id->cb σ (.cR m a es) (.Call (.Attribute o (xV m).1 ap) xs [] p):=λM=>(Tq M h2 h3 (cu h4) (ra σ o og h5).1 (r σ xs og h6)).t λζ=>rfl
 cases m with
 |append=>exact key Tt
 |count=>exact key Tu
 |index=>exact key Tv
 |reverse=>exact key Tr
 |clear=>exact key Ts)
theorem VG(rc:RE c)(ra:RE a)(rb:RE b):RE (.bD c a b):=λσ e og h=>zZ.k (G:=λe=>cb σ _ e) h λt y z p h=>aW h λh1 h=>aW h λh2 h3=>UK (rc σ t og h1).2 (ra σ y og h2) (rb σ z og h3)
theorem VH{i:Nat}(ra:RE a):RE (.attr a i):=λσ e og h=>oz.k (G:=λe=>cb σ _ e) h λo y p h=>aW h λh1 h=>aW h λh2 h3=>(Un og.1 (cu h1) h2 (ra σ o og h3).1).t λζ=>rfl
theorem VI{f:Nat}(ra:RE a)(r:md es):RE (.cQ f a es):=λσ e og h=>gG.k (G:=λe=>cb σ _ e) h λg xs kws p h=>aW h λh0 h=>fH (G:=λkws=>cb σ _ (.Call g xs kws p)) h0 (oz.k (G:=λg=>cb σ _ (.Call g xs [] p)) h λo y ap h=>aW h λh1 h=>aW h λh2 h=>aW h λh3 h=>aW h λh4 h=>aW h λh5 h=>aW h λh6 h=>aW h λh7 h8=>(Uv og.1 og.2.1 og.2.2 (nt h6) (cu h1) (λhm=>by rw[contains_iff_mem.mpr hm] at h2;cases h2) h3 h4 (cu h5) (ra σ o og h7).1 (r σ xs og h8)).t λζ=>rfl)
theorem VJ{f:Nat}:RE (.new f):=λσ e og h=>gG.k (G:=λe=>cb σ _ e) h λg xs kws p h=>aW h λh0 h=>fH (G:=λkws=>cb σ _ (.Call g xs kws p)) h0 (aW h λh1 h=>fH (G:=λxs=>cb σ _ (.Call g xs [] p)) h1 (aW h λh2 h=>aW h λh3 h4=>(Uw og.1 og.2.1 og.2.2 (nt h3) (cu h2) h4).t λζ=>rfl))
theorem VK{k:Option Nat}(ra:RE a):RE (.ox k a):=λσ e og h=>gG.k (G:=λe=>cb σ _ e) h λg xs kws p h=>aW h λh0 h=>fH (G:=λkws=>cb σ _ (.Call g xs kws p)) h0 (aW h λh1 h=>if2.k (G:=λxs=>cb σ _ (.Call g xs [] p)) h λe nm h=>aW h λh2 h3=>(UL og.1 h1 h2 h3 (ra σ e og h3).1).t λζ=>rfl)
theorem VL{i:Nat}(ra:RE a):RE (.gF a i):=λσ e og h=>qw.k (G:=λe=>cb σ _ e) h λv s p h=>aW h λh1 h=>lX.k (G:=λs=>cb σ _ (.Subscript v s p)) h λc k0 p0 h=>by
 obtain⟨w,hw,rfl⟩:=map_eq_some_iff.mp (cu h)
 exact(U7 hw (ra σ v og h1).1).t λζ=>rfl
theorem VM(ra:RE a)(rb:RE b):RE (.get a b):=λσ e og h=>gG.k (G:=λe=>cb σ _ e) h λg xs kws p h=>aW h λh0 h=>fH (G:=λkws=>cb σ _ (.Call g xs kws p)) h0 (oz.k (G:=λg=>cb σ _ (.Call g xs [] p)) h λo y ap h=>aW h λh1 h=>aW h λh2 h=>aW h λh3 h=>aW h λh4 h=>aW h λh5 h=>if1.k (G:=λxs=>cb σ _ (.Call (.Attribute o y ap) xs [] p)) h λe h6=>by
 obtain rfl:=eq_of_beq h1
 exact(U9 og.1 h2 h3 h6 (ra σ o og h5).1 (rb σ e og h6).1 (AL rb og h6)).t λζ=>rfl)
theorem F1:∀{ks:List (Option Expr)} {ws:List Str},Ag ks ws=true->ks.length=ws.length/\ks.all (·.isSome)=true
 |[],ws,h=>fH (G:=λws=>0=ws.length/\true=true) h ⟨rfl,rfl⟩
 |k::ks,ws,h=>pG.k (G:=λws=>(k::ks).length=ws.length/\(k::ks).all (·.isSome)=true) h λw ws h=>gm.k (G:=λk=>(k::ks).length=(w::ws).length/\(k::ks).all (·.isSome)=true) h λk h=>lX.k (G:=λζ=>_) h λc ζ ζ h=>aW h λζ h=>⟨b7 (·+1) (F1 h).1,(F1 h).2⟩
theorem VN(r:md es):RE (.tab es):=λσ e og h=>qB.k (G:=λe=>cb σ _ e) h λks vs p h=>aW h λh0 h=>aW h λh1 h=>aW h λh2 h3=>by
 have h2:=cu h2
 exact(Vb og.1 h1 h2 (r σ vs og h3) (F1 h1)).t λζ=>rfl
end
section
variable{a b c:E}{es:List E}
theorem F2{σ:Lv}{x:Expr}(h:ja σ.f es [x]=true)(G:List E->Prop)(k:∀a,cH σ.f a x=true->G [a]):G es:=by
 cases es with
 |nil=>cases h
 |cons a r=>
  refine aW (show(cH σ.f a x&&ja σ.f r [])=true from h) λh1 h2=>?_
  cases r with
  |nil=>exact k a h1
  |cons _ _=>cases h2
theorem VO{bi:Bi}(r:md es):RE (.bi bi es):=λσ e og h=>gG.k (G:=λe=>cb σ (.bi bi es) e) h λg xs kws p h=>aW h λhh h=>by
 have hh:=nt hh
 have plain:(kws.isEmpty&&gm (zV bi) λq=>fR σ.f q.1 g&&(decide (xs.length=q.2)&&ja σ.f es xs))=true->cb σ (.bi bi es) (.Call g xs kws p):=λh=>aW h λh0 h=>fH (G:=λkws=>cb σ (.bi bi es) (.Call g xs kws p)) h0 (by
  cases hb:zV bi with
  |none=>rw[hb] at h;cases h
  |some q=>
   rw[hb] at h
   exact aW (show(fR σ.f q.1 g&&(decide (xs.length=q.2)&&ja σ.f es xs))=true from h) λh1 h=>aW h λh2 h3=>(TT hh og.1 hb h1 (r σ xs og h3)).t λζ=>rfl)
 cases bi with
 |mB t=>
  refine aW (show(kws.isEmpty&&(fR σ.f "isinstance" g&&if2 xs λe nm=>fR σ.f (Str.ofString (lW t)) nm&&ja σ.f es [e]))=true from h) λh0 h=>fH (G:=λkws=>cb σ (.bi (.mB t) es) (.Call g xs kws p)) h0 (aW h λh1 h=>if2.k (G:=λxs=>cb σ (.bi (.mB t) es) (.Call g xs [] p)) h λe nm h=>aW h λh2 h3=>?_)
  have rs:=r σ [e] og h3
  exact F2 h3 (λes=>fX σ es [e]->cb σ (.bi (.mB t) es) (.Call g [e,nm] [] p)) (λa h4 rs=>(TV og.1 h1 h2 h4 (rs.get 0 a e rfl rfl).1).t λζ=>rfl) rs
 |rG=>
  refine aW (show(fR σ.f "min" g&&if1 kws λkw=>Ad kw λy v=>(y==("default":Str))&&if1 xs λe=>ja σ.f es [e,v])=true from h) λh1 h=>if1.k (G:=λkws=>cb σ (.bi .rG es) (.Call g xs kws p)) h λkw h=>Ad.k (G:=λkw=>cb σ (.bi .rG es) (.Call g xs [kw] p)) h λy v kp h=>aW h λh2 h=>if1.k (G:=λxs=>cb σ (.bi .rG es) (.Call g xs [⟨some y,v,kp⟩] p)) h λe h9=>?_
  obtain rfl:=eq_of_beq h2
  have rs:=r σ [e,v] og h9
  cases es with
  |nil=>cases h9
  |cons a nF=>
   exact aW (show(cH σ.f a e&&ja σ.f nF [v])=true from h9) λh3 h4=>F2 h4 (λnF=>fX σ (a::nF) [e,v]->cb σ (.bi .rG (a::nF)) (.Call g [e] [⟨some "default",v,kp⟩] p)) (λd h5 rs=>(TY hh og.1 h1 h3 (rs.get 0 a e rfl rfl).1 (rs.get 1 d v rfl rfl).1).t λζ=>rfl) rs
 |qo=>
  refine aW (show(kws.isEmpty&&(fR σ.f "len" g&&if1 xs λe=>gG e λg xs kws ζ=>kws.isEmpty&&(fR σ.f "set" g&&if1 xs λe=>ja σ.f es [e])))=true from h) λh0 h=>fH (G:=λkws=>cb σ (.bi .qo es) (.Call g xs kws p)) h0 (aW h λh1 h=>if1.k (G:=λxs=>cb σ (.bi .qo es) (.Call g xs [] p)) h λe h=>gG.k (G:=λe=>cb σ (.bi .qo es) (.Call g [e] [] p)) h λg' mK kws' p' h=>aW h λh2 h=>fH (G:=λkws=>cb σ (.bi .qo es) (.Call g [.Call g' mK kws p'] [] p)) h2 (aW h λh3 h=>if1.k (G:=λxs=>cb σ (.bi .qo es) (.Call g [.Call g' xs [] p'] [] p)) h λe h=>?_))
  have rs:=r σ [e] og h
  exact F2 h (λes=>fX σ es [e]->cb σ (.bi .qo es) (.Call g [.Call g' [e] [] p'] [] p)) (λa ζ rs=>(TZ hh og.1 h1 h3 rs).t λζ=>rfl) rs
 |_=>exact plain h
theorem LB{σ:Lv}{elt:E}{t:d8}{it:It}{eZ:Scope}{e tg iter:Expr}{ifs:List Expr}(re:RE elt)(ri:tC it)(r:md es)(og:Ok σ)(hh:σ.f.hd=false)
  (h:(Af σ.f (jJ t tg) eZ&&(Ce σ.f it iter&&(ya it tg&&(lI ⟨eZ,jJ t tg++σ.f.ns,false⟩ t tg&&(cH ⟨eZ,jJ t tg++σ.f.ns,false⟩ elt e&&ja ⟨eZ,jJ t tg++σ.f.ns,false⟩ es ifs)))))=true):AF σ eZ (jJ t tg) elt t it es e tg iter ifs:=
 aW h λh1 h=>aW h λh2 h=>aW h λh3 h=>aW h λh4 h=>aW h λh5 h6=>⟨hh,Af.sc h1,rfl,h4,h3,ri σ iter og h2,(re ⟨σ.n,σ.m,⟨eZ,jJ t tg++σ.f.ns,false⟩,λζ ζ=>False⟩ e og h5).1,r ⟨σ.n,σ.m,⟨eZ,jJ t tg++σ.f.ns,false⟩,λζ ζ=>False⟩ ifs og h6⟩
theorem VP{nl:Nat}{elt:E}{t:d8}{it:It}(re:RE elt)(ri:tC it)(r:md es):RE (.comp nl elt t it es):=λσ e og h=>xX.k (G:=λe=>cb σ (.comp nl elt t it es) e) h λe gs eZ p h=>if1.k (G:=λgs=>cb σ (.comp nl elt t it es) (.ListComp e gs eZ p)) h λg h=>Ac.k (G:=λg=>cb σ (.comp nl elt t it es) (.ListComp e [g] eZ p)) h λtg iter ifs h=>aW h λhh h=>aW h λh1 h=>cu h1▸(K9 (LB re ri r og (nt hh) h)).t λζ=>rfl
theorem LC(ra:RE a):tC (.of a):=λσ e og h=>Sq og.1 h (ra σ e og h).1
theorem LD{σ:Lv}{e f:Expr}(ra:RE a)(rb:RE b)(og:Ok σ)(h:cH σ.f a e=true)(h':cH σ.f b f=true):fX σ [a,b] [e,f]:=.cons h (ra σ e og h) (AL rb og h')
theorem LF(ra:RE a)(rb:RE b):tC (.range a b):=λσ e og h=>gG.k (G:=λe=>j8 σ (.range a b) e) h λg xs kws p h=>aW h λh0 h=>fH (G:=λkws=>j8 σ (.range a b) (.Call g xs kws p)) h0 (aW h λh1 h=>(rD.mp h).elim
 (λh=>if1.k (G:=λxs=>j8 σ (.range a b) (.Call g xs [] p)) h λe h=>aW h λh2 h3=>Ab.k (G:=λa=>j8 σ (.range a b) (.Call g [e] [] p)) h2 (Sr og.1 h1 (AL rb og h3)))
 λh=>if2.k (G:=λxs=>j8 σ (.range a b) (.Call g xs [] p)) h λe f h=>aW h λh2 h3=>Ss og.1 h1 (LD ra rb og h2 h3))
theorem LG(ra:RE a):tC (.oy a):=λσ e og h=>gG.k (G:=λe=>j8 σ (.oy a) e) h λg xs kws p h=>aW h λh0 h=>fH (G:=λkws=>j8 σ (.oy a) (.Call g xs kws p)) h0 (aW h λh1 h=>if1.k (G:=λxs=>j8 σ (.oy a) (.Call g xs [] p)) h λe h=>Sv og.1 h1 (AL ra og h))
theorem LH(ra:RE a)(rb:RE b):tC (.zip a b):=λσ e og h=>gG.k (G:=λe=>j8 σ (.zip a b) e) h λg xs kws p h=>aW h λh0 h=>fH (G:=λkws=>j8 σ (.zip a b) (.Call g xs kws p)) h0 (aW h λh1 h=>if2.k (G:=λxs=>j8 σ (.zip a b) (.Call g xs [] p)) h λe f h=>aW h λh2 h3=>Vk og.1 h1 (LD ra rb og h2 h3))
theorem LJ:md []:=λσ e og h=>fH (G:=λe=>fX σ [] e) h .nil
theorem LK(ra:RE a)(r:md es):md (a::es):=λσ e og h=>pG.k (G:=λe=>fX σ (a::es) e) h λx xs h=>aW h λh1 h2=>.cons h1 (ra σ x og h1) (r σ xs og h2)
theorem VQ:RO none:=λσ e og h=>xY (G:=λe=>wo σ none e) h Tg
theorem VR(ra:RE a):RO (some a):=λσ e og h=>gm.k (G:=λe=>wo σ (some a) e) h λx h=>Th (ra σ x og h).1
theorem jy(c:E):RE c:=
 E.rec (motive_1:=RE) (motive_2:=tC) (motive_3:=md) (motive_4:=RO) (λζ=>Vl) (λζ=>Vm) (λζ=>Vn) (λζ ζ ζ ra rb=>Vo ra rb) (λζ ra=>Vp ra) (λζ ra=>Vq ra) (λζ r=>Vr r) (λζ r=>Vs r) (λζ ζ ζ ra rb=>Vt ra rb) (λζ ζ ζ ζ ζ ra rb rc=>Vu ra rb rc) (λζ ζ ra=>Vv ra) (λζ r=>Vw r) (λζ r=>Vx r) (λζ ζ ra rb=>Vy ra rb)
  (λζ ζ ζ ra rl rh=>Vz ra rl rh) (λζ ζ r=>VA r) (λζ ζ r=>VO r) (λζ ζ ζ ra r=>VF ra r) (λζ ζ ζ ζ ζ re ri r=>VP re ri r) (λζ ra=>VE ra) VB VC (λζ ζ ra rb=>VD ra rb) (λζ ζ ζ rc ra rb=>VG rc ra rb) (λζ ζ ra=>VH ra) (λζ ζ ζ ra r=>VI ra r) (λζ=>VJ) (λζ ζ ra=>VK ra) (λζ r=>VN r) (λζ ζ ra=>VL ra) (λζ ζ ra rb=>VM ra rb) (λζ ra=>LC ra) (λζ ζ ra rb=>LF ra rb) (λζ ra=>LG ra) (λζ ζ ra rb=>LH ra rb) LJ (λζ ζ ra r=>LK ra r) VQ (λζ ra=>VR ra) c
end
def RS(c:S):Prop:=∀(σ:Lv) (e:Stmt),Ok σ->J5 σ.f c e=true->SS σ c e
def tD(c:List S):Prop:=∀(σ:Lv) (e:List Stmt),Ok σ->ut σ.f c e=true->tv σ c e
section
variable{e a i:E}{es:List E}{b b':List S}
theorem LL(c:It):tC c:=
 It.casesOn (motive_2:=tC) c (λa=>LC (jy a)) (λa b=>LF (jy a) (jy b)) (λa=>LG (jy a)) (λa b=>LH (jy a) (jy b))
theorem LM:∀es:List E,md es
 |[]=>LJ
 |a::es=>LK (jy a) (LM es)
theorem VS:RS (.expr e):=λσ st og h=>vK.k (G:=λst=>SS σ (.expr e) st) h λx p h=>aW h λh1 h2=>RU h1 (jy e σ x og h2).1
theorem VT:RS (.ij a i e):=λσ st og h=>qx.k (G:=λst=>SS σ (.ij a i e) st) h λts x p h=>if1.k (G:=λts=>SS σ (.ij a i e) (.Assign ts x p)) h λtg h=>qw.k (G:=λtg=>SS σ (.ij a i e) (.Assign [tg] x p)) h λo j sp h=>aW h λh1 h=>aW h λh2 h=>aW h λh3 h4=>Sb og.1 h1 (jy a σ o og h2).1 (jy i σ j og h3).1 (jy e σ x og h4).1
theorem VU{i:Nat}:RS (.setAttr a i e):=λσ st og h=>qx.k (G:=λst=>SS σ (.setAttr a i e) st) h λts x p h=>if1.k (G:=λts=>SS σ (.setAttr a i e) (.Assign ts x p)) h λtg h=>oz.k (G:=λtg=>SS σ (.setAttr a i e) (.Assign [tg] x p)) h λo y sp h=>aW h λh1 h=>aW h λh2 h=>aW h λh3 h=>aW h λh4 h5=>Ur og.1 (cu h1) h2 (jy a σ o og h4).1 (jy e σ x og h5).1
theorem VV{k:Nat}{w:Str}:RS (.raise k w):=λσ st og h=>z8.k (G:=λst=>SS σ (.raise k w) st) h λe c p h=>aW h λh0 h=>xY (G:=λc=>SS σ (.raise k w) (.Raise e c p)) h0 (aW h λhh h=>gm.k (G:=λe=>SS σ (.raise k w) (.Raise e none p)) h λe h=>gG.k (G:=λe=>SS σ (.raise k w) (.Raise (some e) none p)) h λg xs kws cp h=>aW h λh1 h=>fH (G:=λkws=>SS σ (.raise k w) (.Raise (some (.Call g xs kws cp)) none p)) h1 (gV.k (G:=λg=>SS σ (.raise k w) (.Raise (some (.Call g xs [] cp)) none p)) h λx np h=>aW h λh2 h=>aW h λh3 h=>if1.k (G:=λxs=>SS σ (.raise k w) (.Raise (some (.Call (.Name x np) xs [] cp)) none p)) h λa h=>lX.k (G:=λa=>SS σ (.raise k w) (.Raise (some (.Call (.Name x np) [a] [] cp)) none p)) h λc kk ap h=>cu h▸Ux og.1 (nt hh) (cu h2) h3))
theorem VW{r:Option d8}{k i:Nat}{h:E}:RS (.lV r e k i h):=λσ st og hs=>vJ.k (G:=λst=>SS σ (.lV r e k i h) st) hs λbd tx o f p hs=>aW hs λh0 hs=>fH (G:=λo=>SS σ (.lV r e k i h) (.Try bd tx o f p)) h0 (aW hs λh0 hs=>fH (G:=λf=>SS σ (.lV r e k i h) (.Try bd tx [] f p)) h0 (aW hs λhh hs=>if1.k (G:=λbd=>SS σ (.lV r e k i h) (.Try bd tx [] [] p)) hs λb hs=>aW hs λh1 hs=>if1.k (G:=λtx=>SS σ (.lV r e k i h) (.Try [b] tx [] [] p)) hs λhd hs=>yb.k (G:=λhd=>SS σ (.lV r e k i h) (.Try [b] [hd] [] [] p)) hs λt n hb hp hs=>gm.k (G:=λt=>SS σ (.lV r e k i h) (.Try [b] [.ExceptHandler t n hb hp] [] [] p)) hs λt hs=>aW hs λh2 hs=>gm.k (G:=λn=>SS σ (.lV r e k i h) (.Try [b] [.ExceptHandler (some t) n hb hp] [] [] p)) hs λn hs=>aW hs λh3 hs=>aW h3 λh3 h4=>if1.k (G:=λhb=>SS σ (.lV r e k i h) (.Try [b] [.ExceptHandler (some t) (some n) hb hp] [] [] p)) hs λs hs=>qA.k (G:=λs=>SS σ (.lV r e k i h) (.Try [b] [.ExceptHandler (some t) (some n) [s] hp] [] [] p)) hs λx rp hs=>gm.k (G:=λx=>SS σ (.lV r e k i h) (.Try [b] [.ExceptHandler (some t) (some n) [.Return x rp] hp] [] [] p)) hs λx hs=>U0 og.1 h2 h3 (cu h4) (jy h σ.hd x og hs).1 h1 λx' y h5=>(jy e (σ.ex y) x' og h5).1))
theorem VX:RS (.ret e):=λσ st og h=>qA.k (G:=λst=>SS σ (.ret e) st) h λx p h=>gm.k (G:=λx=>SS σ (.ret e) (.Return x p)) h λx h=>RW (jy e σ x og h).1
theorem VY(ra:tD b)(rb:tD b'):RS (.bD e b b'):=λσ st og h=>vL.k (G:=λst=>SS σ (.bD e b b') st) h λt x y p h=>aW h λh1 h=>aW h λh2 h3=>RX (jy e σ t og h1).2 (ra σ x og h2) (rb σ y og h3)
theorem VZ{σ:Lv}{bs:List Stmt}(og:Ok σ)(h:J4 σ.f b bs=true):iT (σ.ex (xq σ.x)) b bs:=by
 refine if1.k (G:=λb=>iT (σ.ex (xq σ.x)) b bs) h λs h=>if1.k (G:=λbs=>iT (σ.ex (xq σ.x)) [s] bs) h λst h=>S.bD.elim (motive_1:=λs=>J2 s _=true->iT (σ.ex (xq σ.x)) [s] [st]) s (got h) (λc a b' h=>?_) h
 refine aW (a:=b'.isEmpty) h λh0 h=>fH (G:=λb'=>iT (σ.ex (xq σ.x)) [.bD c a b'] [st]) h0 (if1.k (G:=λa=>iT (σ.ex (xq σ.x)) [.bD c a []] [st]) h λs2 h=>S.qq.elim (motive_1:=λs2=>J3 s2 _=true->iT (σ.ex (xq σ.x)) [.bD c [s2] []] [st]) s2 (got h) (λe k h=>?_) h)
 refine vL.k (G:=λst=>iT (σ.ex (xq σ.x)) [.bD c [.qq e k] []] [st]) h λt x y p h=>aW h λh1 h=>fH (G:=λy=>iT (σ.ex (xq σ.x)) _ [.If t x y p]) h1 (aW h λh2 h=>if1.k (G:=λx=>iT (σ.ex (xq σ.x)) _ [.If t x [] p]) h λj2 h=>vJ.k (G:=λj2=>iT (σ.ex (xq σ.x)) _ [.If t [j2] [] p]) h λbd hs o f tp h=>aW h λh3 h=>fH (G:=λo=>iT (σ.ex (xq σ.x)) _ [.If t [.Try bd hs o f tp] [] p]) h3 (aW h λh4 h=>fH (G:=λf=>iT (σ.ex (xq σ.x)) _ [.If t [.Try bd hs [] f tp] [] p]) h4 (aW h λh5 h=>if2.k (G:=λbd=>iT (σ.ex (xq σ.x)) _ [.If t [.Try bd hs [] [] tp] [] p]) h λb1 b2 h=>aW h λh6 h=>aW h λh7 h=>vK.k (G:=λb1=>iT (σ.ex (xq σ.x)) _ [.If t [.Try [b1,b2] hs [] [] tp] [] p]) h6 λx ep h6=>aW h6 λh8 h9=>qA.k (G:=λb2=>iT (σ.ex (xq σ.x)) _ [.If t [.Try [_,b2] hs [] [] tp] [] p]) h7 λrx rp h7=>gm.k (G:=λrx=>iT (σ.ex (xq σ.x)) _ [.If t [.Try [_,.Return rx rp] hs [] [] tp] [] p]) h7 λrx h7=>lX.k (G:=λrx=>iT (σ.ex (xq σ.x)) _ [.If t [.Try [_,.Return (some rx) rp] hs [] [] tp] [] p]) h7 λrc k0 kp h7=>if1.k (G:=λhs=>iT (σ.ex (xq σ.x)) _ [.If t [.Try _ hs [] [] tp] [] p]) h λhd h=>yb.k (G:=λhd=>iT (σ.ex (xq σ.x)) _ [.If t [.Try _ [hd] [] [] tp] [] p]) h λht hn hb hp h=>aW h λjg h=>xY (G:=λhn=>iT (σ.ex (xq σ.x)) _ [.If t [.Try _ [.ExceptHandler ht hn hb hp] [] [] tp] [] p]) jg ?_)))
 obtain rfl:=cu h7
 cases ht with
 |none=>cases h
 |some ht=>
  obtain⟨F4,h⟩:=iA.mp (show(pH σ.f (some k) ht&&if1 hb λs=>J1 s)=true from h)
  exact if1.k (G:=λhb=>iT (σ.ex (xq σ.x)) [.bD c [.qq e k] []] [.If t [.Try [.Expr x ep,.Return (some (.Constant (.bool false) k0 kp)) rp] [.ExceptHandler (some ht) none hb hp] [] [] tp] [] p]) h λcs h=>Stmt.Continue.elim (motive_2:=λcs=>iT (σ.ex (xq σ.x)) [.bD c [.qq e k] []] [.If t [.Try [.Expr x ep,.Return (some (.Constant (.bool false) k0 kp)) rp] [.ExceptHandler (some ht) none [cs] hp] [] [] tp] [] p]) cs (cu h) λcp=>U4 (σ:=σ.ex (xq σ.x)) og.1 (jy c (σ.ex (xq σ.x)) t og h2).2 F4 h8 λy=>(jy e ((σ.ex (xq σ.x)).ex y) x og h9).1
theorem V0{t:d8}{it:It}(rb:tD b):RS (.for t it b):=λσ st og h=>z9.k (G:=λst=>SS σ (.for t it b) st) h λtg iter bs o p h=>aW h λhh h=>aW h λh0 h=>fH (G:=λo=>SS σ (.for t it b) (.For tg iter bs o p)) h0 (aW h λh1 h=>aW h λh2 h=>aW h λh3 h4=>SH (nt hh) h1 h2 (LL it σ iter og h3) ((rD.mp h4).elim (λh4 P K Q ζ ho p k=>rb (σ.ex (xq σ.x)) bs og h4 P K Q ho p k) (VZ og)))
theorem V1(rb:tD b):RS (.while e b):=λσ st og h=>Aa.k (G:=λst=>SS σ (.while e b) st) h λt bs o p h=>aW h λhh h=>aW h λh0 h=>fH (G:=λo=>SS σ (.while e b) (.While t bs o p)) h0 (aW h λh1 h2=>RY (jy e σ.no t og h1).2 (rb σ.no bs og h2))
theorem V2{u:d8}{nl:Nat}{elt:E}{t:d8}{it:It}{σ:Lv}{tg x:Expr}{p:Pos}(og:Ok σ)(h1:lI σ.f u tg=true)(h2:cH σ.f (.comp nl elt t it es) x=true)(h3:xW tg=true):SS σ (.aY u (.comp nl elt t it es)) (.Assign [tg] x p):=
 Expr.Name.elim (motive_1:=λtg=>lI σ.f u tg=true->SS σ (.aY u (.comp nl elt t it es)) (.Assign [tg] x p)) tg (cu h3) (λy py h1=>xX.k (G:=λx=>SS σ (.aY u (.comp nl elt t it es)) (.Assign [.Name y py] x p)) h2 λe gs eZ cp h=>if1.k (G:=λgs=>SS σ (.aY u (.comp nl elt t it es)) (.Assign [.Name y py] (.ListComp e gs eZ cp) p)) h λg h=>Ac.k (G:=λg=>SS σ (.aY u (.comp nl elt t it es)) (.Assign [.Name y py] (.ListComp e [g] eZ cp) p)) h λtg iter ifs h=>aW h λhh h=>aW h λh4 h=>cu h4▸S8 (LB (jy elt) (LL it) (LM es) og (nt hh) h) h1) h1
theorem V3{t:d8}:RS (.aY t e):=λσ st og h=>qx.k (G:=λst=>SS σ (.aY t e) st) h λts x p h=>if1.k (G:=λts=>SS σ (.aY t e) (.Assign ts x p)) h λtg h=>aW h λh1 h=>aW h λh2 h=>aW h λh3 h4=>(rD.mp h3).elim (λh3=>aW h3 λh5 h6=>E.comp.elim (motive_1:=λe=>cH σ.f e x=true->SS σ (.aY t e) (.Assign [tg] x p)) e (cu h6) (λnl elt t' it cs h2=>V2 og h1 h2 h5) h2) λh3=>RV h3 h1 h4 (jy e σ x og h2).1
theorem V4:tD []:=λσ e og h=>fH (G:=λe=>tv σ [] e) h uH
theorem V5{c:S}(r:RS c)(rs:tD b):tD (c::b):=λσ e og h=>pG.k (G:=λe=>tv σ (c::b) e) h λx xs h=>aW h λh1 h2=>RZ (r σ x og h1) (rs σ xs og h2)
theorem V6(b:List S):tD b:=
 S.rec_1 (motive_1:=RS) (motive_2:=tD) (λζ=>VS) (λζ ζ=>V3) (λζ ζ ζ=>VT) (λζ ζ ζ=>VU) (λζ=>VX) (λζ ζ ζ ra rb=>VY ra rb) (λζ ζ ζ rb=>V0 rb) (λζ ζ rb=>V1 rb) (λζ ζ=>VV) (λζ ζ ζ ζ ζ=>VW) (λζ ζ σ ζ ζ h=>Bool.noConfusion h) V4 (λζ ζ r rs=>V5 r rs) b
end
theorem De{x:Str}:∀{names:List (Str×NameKind)} {k:Nat} {acc:List (Str×Addr)},names.lookup x=some .cell\/(∃c,acc.lookup x=some c)->∃c,(cellsFrom k names acc).lookup x=some c
 |[],_,_,h=>h.elim (λe=>nomatch e) id
 |(y,kd)::r,k,acc,h=>by
  rw[nZ] at h
  by_cases hk:(kd==NameKind.cell)=true
  ·rw[show cellsFrom k ((y,kd)::r) acc=cellsFrom (k+1) r ((y,k)::acc) from bQ hk]
   refine De ?_
   rw[nZ]
   cases hy:x==y with
   |true=>exact .inr ⟨_,rfl⟩
   |false=>rw[hy] at h;exact h
  ·rw[show cellsFrom k ((y,kd)::r) acc=cellsFrom k r acc from bH hk]
   refine De (h.elim (λh=>?_) .inr)
   cases hy:x==y with
   |true=>rw[hy] at h;exact absurd (by rw[dH h];rfl) hk
   |false=>rw[hy] at h;exact .inl h
theorem lookup_none{α:Type}{x:Str}{l:List (Str×α)}(h:x∉l.map (·.1)):l.lookup x=none:=by
 cases e:l.lookup x with
 |none=>rfl
 |some v=>exact absurd (ii.mpr ⟨_,mem_lookup e,rfl⟩) h
theorem LN{kf:Str->Option NameKind}{x:Str}(hk:kf x=some .local):∀{bs:List (Str×Value)} {m:Str->Option Value},(bs.map (·.1)).Nodup->PySem.bindL kf bs m x=(bs.lookup x).or (m x)
 |[],m,_=>rfl
 |(y,v)::r,m,hn=>by
  have hn:=nj.mp hn
  refine(?_:PySem.bindL kf r (if kf y=some .local then λz=>if z=y then some v else m z else m) x=_)
  rw[LN hk hn.2,nZ]
  by_cases e:x=y
  ·rw[e] at hk ⊢
   rw[lookup_none hn.1,bQ hk,bQ rfl,hX];rfl
  ·rw[rC.mpr e]
   split
   ·exact b7 _ (bH e)
   ·rfl
theorem LO{kf:Str->Option NameKind}{x:Str}(hk:kf x=some .cell):∀{bs:List (Str×Value)} {m:Str->Option Value},(bs.map (·.1)).Nodup->PySem.bindC kf bs m x=(bs.lookup x).or (m x)
 |[],m,_=>rfl
 |(y,v)::r,m,hn=>by
  have hn:=nj.mp hn
  refine(?_:PySem.bindC kf r (if kf y=some .local then m else λz=>if z=y then some v else m z) x=_)
  rw[LO hk hn.2,nZ]
  by_cases e:x=y
  ·rw[e] at hk ⊢
   rw[lookup_none hn.1,bH (by rw[hk];exact λh=>nomatch h),bQ rfl,hX];rfl
  ·rw[rC.mpr e]
   split
   ·rfl
   ·exact b7 _ (bH e)
theorem LP{p:Ws}{x:Str}:∀{ps:List Str} {vs:List V} {xs:List Value},ps.length=vs.length->bF p vs xs->kU p (lk ps (vs.map some) x) ((ps.zip xs).lookup x)
 |[],vs,xs,hl,r=>by
  cases vs with
  |nil=>exact .none
  |cons _ _=>cases hl
 |q::ps,vs,xs,hl,r=>by
  cases vs with
  |nil=>cases hl
  |cons v vs=>
   refine r.inv (λxs=>kU p (lk (q::ps) ((v::vs).map some) x) (((q::ps).zip xs).lookup x)) λy ys r1 r2=>(?_:kU p (lk (q::ps) ((v::vs).map some) x) (List.lookup x ((q,y)::ps.zip ys)))
   rw[nZ]
   unfold lk
   by_cases e:x=q
   ·rw[e,List.idxOf_cons_self,hX];exact .some r1
   ·rw[rC.mpr e,List.idxOf_cons,rC.mpr (gS e)]
    exact LP (Nat.succ.inj hl) r2
theorem V7{p:Ws}{ns:List Str}{np nl:Nat}{vs:List V}{xs:List Value}(eR:ns.length=np+nl)(hv:vs.length=np)(r:bF p vs xs)(x:Str):kU p (lk ns (vs.map some++replicate nl none) x) (((ns.take np).zip xs).lookup x):=by
 have hl:(ns.take np).length=vs.length:=by rw[vz,hv,eR];exact min_eq_left (eV _ _)
 have e:=List.take_append_drop np ns
 have h0:∀y,lk ns (vs.map some++replicate nl none) y=lk (ns.take np++ns.drop np) (vs.map some++replicate nl none) y:=λy=>by rw[e]
 rw[h0]
 by_cases hx:x∈ns.take np
 ·rw[K2 (by rw[bJ,hl]) hx];exact LP hl r
 ·rw[K3 (by rw[bJ,hl]) hx,show nl=(ns.drop np).length by rw[length_drop,eR,Nat.add_sub_cancel_left],FE,lookup_none λhm=>hx ?_]
  ·exact .none
  ·rw[List.map_fst_zip (by rw[hl,r.length];exact bX _)] at hm;exact hm
structure wz(A:Around)(n:Nat):Prop where
 depth:A.depth+n+110<=recursionLimit
 units:A.units+5*n+200<=cLine
 frames:∃l,A.frames=some l
theorem nD.V8{A:Around}{n:Nat}(rm:nD A n):wz A n:=⟨rm.depth,rm.units,rm.frames.elim λfe h=>h.elim λl h=>⟨_,h.1⟩⟩
theorem wz.deeper{A:Around}{n:Nat}{env:Env}(rm:wz A (n+1))(h1:env.scope.isGenerator=false)(h2:env.scope.isCoroutine=false)(h3:env.builtins=builtinsNs)(h4:env.globals=mainGlobals):nD (A.deeper env) n:=by
 obtain⟨l,e⟩:=rm.frames
 refine⟨?_,?_,env,l,?_,h1,h2,h3,h4⟩
 ·have:=rm.depth;refine(?_:A.depth+1+n+110<=_);exact(by rw[add_right_comm A.depth];exact this)
 ·have:=rm.units;refine(?_:A.units+3+5*n+200<=_);lia
 ·refine(?_:A.frames.map (env::·)=_);rw[e];rfl
theorem wz.lJ{A:Around}{n:Nat}(rm:wz A n)(env:Env):lJ (A.deeper env)=env::lJ A:=by
 obtain⟨l,e⟩:=rm.frames
 refine(?_:(A.frames.map (env::·)).getD []=env::A.frames.getD [])
 rw[e];rfl
theorem pO.deeper{A A':Around}{p:Ws}{env':Env}{L:Addr}(F:pO A p)(hA:lJ A'=env'::lJ A)(hk:env'.scope.kind=.function)(hf:env'.frame=some L)(hn:∃m,p.h.Ns L m)(ha:Ap p L):pO A' p:=λe he=>by
 rw[hA] at he
 exact(gB.mp he).elim (λe'=>e'▸⟨hk,L,hn.elim λm x=>x.imp λo x=>x.elim λes x=>x.elim λep x=>⟨hf,x.1,Cs x.2.1,ha⟩⟩) (F e)
section
variable{φ:List Addr}{H:Hp}{s:Shared}
def LQ(φ:List Addr)(s:Shared)(post:PQ)(Q:Value->Shared->Prop):Prop:=∀v H',post v H'->∀tE h' tk x,SR ⟨tE,h'⟩ H'->ca je ⟨φ,s.heap⟩ ⟨tE,h'⟩->bx ⟨tE,h'⟩ v x->Q x (upd s h' tk)
structure AM(hd:Bool)(d:j3)(ns:List Str)(f:Fn):Prop where
 cf:E4 d.params (ns.take f.np)=true
 len:ns.length=f.np+f.nl
 nd:ns.Nodup
 kind:d.scope.kind=.function
 gen:d.scope.isGenerator=false/\d.scope.isCoroutine=false
 own:∀x,x∈ns->d.scope.names.lookup x=some .local\/d.scope.names.lookup x=some .cell
 body:ut ⟨d.scope,ns,hd⟩ f.body d.body=true
theorem xU.k{k:Option NameKind}(h:xU k=true):k=some .local\/k=some .cell:=by
 cases k with
 |none=>cases h
 |some k=>cases k<;>first|exact .inl rfl|exact .inr rfl|cases h
theorem V9{hd:Bool}{d:j3}{ns:List Str}{f:Fn}(h:J6 hd d ns f=true):AM hd d ns f:=
 aW h λζ h=>aW h λh2 h=>aW h λh3 h=>aW h λh4 h=>aW h λh5 h=>aW h λh6 h=>aW h λh7 h=>aW h λζ h=>aW h λζ h=>aW h λjg F4=>
  ⟨h2,cu h3,cu h4,cu h5,⟨CR h6,CR h7⟩,λx hx=>xU.k (j1.mp jg x hx),F4⟩
theorem Wa{hh:Bool}{d:j3}{ns:List Str}{f:Fn}{env:Env}{vs:List V}{xs:List Value}{ci:Shared}(o:AM hh d ns f)(R:SR ⟨φ,s.heap⟩ H)(r:bF ⟨φ,s.heap⟩ vs xs)(hv:vs.length=f.np)(eL:env.locals=s.heap.objs.size)(eS:env.scope=d.scope)(eG:env.globals=mainGlobals)(eB:env.builtins=builtinsNs)(eC:∀x,d.scope.names.lookup x=some .cell->∃c,env.cells.lookup x=some c)
  (kW:InCallC s env.locals (PySem.bindL env.kindOf ((ns.take f.np).zip xs) λζ=>none) env.cells (PySem.bindC env.kindOf ((ns.take f.np).zip xs) λζ=>none) ci):FR env ns (vs.map some++replicate f.nl none) ⟨φ,ci.heap⟩:=by
 have keep:aC s.heap ci.heap:=kW.toInCall.keep
 have S0:ca je ⟨φ,s.heap⟩ ⟨φ,ci.heap⟩:=ca.ext (q:=⟨φ,s.heap⟩) .refl keep
 have eK:∀x,env.kindOf x=d.scope.names.lookup x:=λx=>by unfold Env.kindOf;rw[eS]
 have LR:(((ns.take f.np).zip xs).map (·.1)).Nodup:=by
  rw[List.map_fst_zip (by rw[vz,<-r.length,hv];exact Nat.min_le_left _ _)]
  exact o.nd.sublist (List.take_sublist _ _)
 have rep:=V7 o.len hv (r.mono S0)
 have ap:∀c,s.heap.objs.size<=c->Ap ⟨φ,ci.heap⟩ c:=λc hc=>SR.new (p:=⟨φ,s.heap⟩) R (jq _ hc)
 have abv:∀{x c},env.cells.lookup x=some c->s.heap.objs.size<=c:=λh=>cW (eL▸kW.above _ _ (mem_lookup h))
 refine⟨⟨by rw[eS];exact o.kind,eG,eB,⟨by rw[eS];exact o.gen.1,by rw[eS];exact o.gen.2,by unfold interactive;rw[eS,o.kind];rfl⟩,λx y c h1 h2=>name_of_addr kW.apart (mem_lookup h1) (mem_lookup h2),λq hq e=>absurd (kW.above q.1 q.2 hq) (by rw[e];exact lt_irrefl _)⟩,by rw[length_append,length_map,List.length_replicate,hv,o.len],⟨_,kW.toInCall.ns,λx hx hk=>?_⟩,λx hx hk=>?_,λa ha=>ha.elim (λe=>ap a (by rw[e,eL];exact le_refl _)) λw=>w.elim λx hx=>ap a (abv hx),λa ha=>ha.elim (λe=>e▸kW.toInCall.ns.imp λo w=>w.elim λζ w=>w.elim λζ w=>w.1) λw=>w.elim λx hx=>(kW.cell x a hx).imp λo w=>w.1⟩
 ·rw[LN hk LR,or_none];exact rep x
 ·have AN:env.kindOf x=some .cell:=(o.own x hx).elim (λh=>by rw[eK,h] at hk;cases hk) λh=>(eK x).trans h
  exact(eC x ((eK x).symm.trans AN)).elim λc hc=>⟨c,_,hc,kW.cell x c hc,by rw[LO AN LR,or_none];exact rep x⟩
theorem LS{m:Nat}{hh:Bool}{f:Fn}{q:Bool×Str}{d:j3}{ns:List Str}{A:Around}{a:Addr}{o:Obj}{pm cd doc:Value}{vs:List V}{xs:List Value}{post Y:PQ}{Q Ex:Value->Shared->Prop}(G:Good X)(hc:yn m)(rm:wz A (2*m+2))(hA:hh=false->A.handled=none)(R:SR ⟨φ,s.heap⟩ H)(fr:pO A ⟨φ,s.heap⟩)
  (ok:AM hh d ns f) (ho:X.fC.get? a=some o) (hd:o.data=.func (methDef d.name (ny q) d.params d.body d.scope pm cd doc)) (yq:X.fC.CodeRec cd (ny q)) (r:bF ⟨φ,s.heap⟩ vs xs) (hv:vs.length=f.np)
  (p:aX ⟨aH m,xq Y⟩ f.body (vs.map some++replicate f.nl none) H (fA post)) (kq:LQ φ s post Q) (kx:LQ φ s Y Ex):wpAny X.M A (call (.ref a) xs) Q Ex s:=by
 obtain⟨ar,hp,F5⟩:∃ar,d.params=C7 ar/\ar.map (·.arg)=ns.take f.np:=Uj ok.cf (λq=>∃ar,q=C7 ar/\ar.map (·.arg)=ns.take f.np) λar e=>⟨ar,rfl,e⟩
 have hb:=Uk (fd:=methDef d.name (ny q) d.params d.body d.scope pm cd doc) (ar:=ar) (xs:=xs) rfl hp (by rw[F5];exact ok.nd.sublist (List.take_sublist _ _)) (by rw[F5,vz,<-r.length,hv,ok.len];exact min_eq_left (eV _ _))
 rw[F5] at hb
 refine wpAny_call (codeAny_call_cells (by have:=rm.depth;lia) (R.keep _ _ ho) hd (G.nolimit.keeps R.keep) (yq.keeps R.keep) rfl hb rfl (λx hx=>(ok.own _ (List.mem_of_mem_take (List.of_mem_zip hx).1)).imp id λh=>⟨h,(De (.inl h)).elim λc e=>by rw[e];rfl⟩) (λci kW=>?_) ok.gen.2 ok.gen.1 ok.kind)
 have Wb:Kinds d.scope (callEnvC (methDef d.name (ny q) d.params d.body d.scope pm cd doc) s.heap.objs.size a):=λx=>.inl rfl
 have hF:=Wa (env:=callEnvC (methDef d.name (ny q) d.params d.body d.scope pm cd doc) s.heap.objs.size a) ok R r hv rfl rfl rfl rfl (λx h=>De (.inl h)) kW
 have abv:∀b,oF (callEnvC (methDef d.name (ny q) d.params d.body d.scope pm cd doc) s.heap.objs.size a) b->s.heap.get? b=none:=λb hb=>jq _ (hb.elim (λe=>iC e.symm) λw=>w.elim λx h=>cW (kW.above _ _ (mem_lookup h)))
 have uK:vY (callEnvC (methDef d.name (ny q) d.params d.body d.scope pm cd doc) s.heap.objs.size a) (oF (callEnvC (methDef d.name (ny q) d.params d.body d.scope pm cd doc) s.heap.objs.size a)) ns:=⟨λx hx=>(ok.own x hx).imp (λh=>⟨h,.inl rfl⟩) λh=>⟨h,λc hc=>.inr ⟨x,hc⟩⟩,λζ h=>h⟩
 have F6:=rm.deeper (env:=callEnvC (methDef d.name (ny q) d.params d.body d.scope pm cd doc) s.heap.objs.size a) ok.gen.1 ok.gen.2 rfl rfl
 have jU:=rm.lJ (callEnvC (methDef d.name (ny q) d.params d.body d.scope pm cd doc) s.heap.objs.size a)
 have hL:(callEnvC (methDef d.name (ny q) d.params d.body d.scope pm cd doc) s.heap.objs.size a).frame=some s.heap.objs.size:=rfl
 have keep:aC s.heap ci.heap:=kW.toInCall.keep
 have iF:∃m,ci.heap.Ns s.heap.objs.size m:=⟨_,kW.toInCall.ns⟩
 obtain⟨iq,Wc,Wd⟩:=kW.toInCall.same
 clear hb kW
 generalize callEnvC (methDef d.name (ny q) d.params d.body d.scope pm cd doc) s.heap.objs.size a=env at *
 subst Wd
 have S0:ca je ⟨φ,s.heap⟩ ⟨φ,iq⟩:=ca.ext (q:=⟨φ,s.heap⟩) .refl keep
 have jz:=(fr.l7 S0).deeper jU hF.fc.fn hL iF (SR.new (p:=⟨φ,s.heap⟩) R (jq _ (bX _)))
 have hf:∃fe,(lJ (A.deeper env)).head?=some fe/\fe.frame=env.frame:=⟨env,by rw[jU];rfl,rfl⟩
 refine ig (V6 f.body ⟨2*m+1,m,⟨d.scope,ns,hh⟩,xq Y⟩ d.body ⟨G,hc,bX _⟩ ok.body ⟨⟨A.deeper env,φ,H,upd s iq Wc,λe s'=>wpAny X.M (A.deeper env) (leaving env e) (λζ wA=>Ex e wA) (λe' wA=>Ex e' wA) s',F6.less (iD _),SR.ext (p:=⟨φ,s.heap⟩) R keep,jz⟩,env,_,oF env,Wb,hF,F6,hf,hA,λv H' pe tE h' rO R' S' y r'=>?_⟩ (fA post) (λfl s'=>Q (match fl with | .ret v=>v|_=>.none) s') uK p
  ⟨λρ H p N=>kq _ _ p N.φ N.h N.tk _ N.R (S0.uL N.S abv) .none,λv H p tE h' tk R' S' x r'=>kq _ _ p tE h' tk x R' (S0.uL S' abv) r'⟩) (λfl s' q=>by cases fl<;>exact q) (λe s' q=>q)
 exact(uk.mp pe.1).elim λj ej=>cellAt.k ej (λv=>Y v H'->bx ⟨tE,h'⟩ v y->_) (λl c hl hc q r=>pJ.k (λc=>H'[l]?=some c->_) hc (λhl=>r.inv (λy=>wpAny X.M (A.deeper env) (leaving env y) (λζ wA=>Ex y wA) (λe' wA=>Ex e' wA) (upd s h' rO)) λb hb=>
  SE (P:=⟨A.deeper env,tE,H',upd s h' rO,NE,F6.less (iD _),R',jz.l7 S'⟩) hf hl hb λN ζ=>kx _ _ q N.φ N.h N.tk _ N.R (S0.uL (S'.trans N.S.nil) abv) (.ref (N.S.pre _ _ hb))) hl) pe.2 r'
end
theorem LU{ds:List j3}{nss:List (List Str)}{fs:List Fn}{i:Nat}{f:Fn}{d:j3}(h:Cf ds nss fs=true)(hf:fs[i]?=some f)(hd:ds[i]?=some d)(hn:f.np≠999):∃ns,AM (xT.contains i) d ns f:=by
 have hi:=(d7.mp hf).1
 have h:=j1.mp h i (i8.mpr hi)
 rw[hf,hd] at h
 refine gm.k (G:=λζ=>∃ns,AM (xT.contains i) d ns f) (l:=nss[i]?) h λns h=>⟨ns,V9 ((rD.mp h).resolve_left λh=>hn (cu h))⟩
theorem LV(G:Good X):∀n,yn n
 |0=>λP f q a vs xs post x Q rm hh h1 h2 r p=>p.elim
 |n+1=>λP f q a vs xs post x Q rm hh h1 h2 r p k kx=>(G.fn f q h1).casesOn λa' o d pm cd doc e1 e3 e4 ec e5 e6=>by
  rw[h2] at e3;cases e3
  exact aO.k p λfn hf p=>(LU G.J8 hf e1 p.1.2).elim λns ok=>LS G (LV G n) (rm.less (iC (by lia))).V8 hh P.R P.fr ok e4 e5 e6 r p.1.1 p.2 (λv H p φ h tk x R S r=>k v H p ⟨φ,h,tk,R,S⟩ x r) (λv H p φ h tk x R S r=>kx v H p ⟨φ,h,tk,R,S⟩ x r)
end Mine
namespace Mine
open PySem PySem.Calls PyProof.Rows PySem.W
noncomputable def We(d:DefRec):j3:=⟨d.name,d.params,d.body,d.scope⟩
noncomputable abbrev dT:List j3:=defsOf H.pp.main.body
noncomputable abbrev dM:List j3:=defsOf (E7 H.pp gK.cls)
noncomputable def Wg(q:Program)(loose:List Str):Bool:=rH.all λp=>!startupNames.contains p.1&&(!loose.contains p.1&&(!((recsOf q).map (·.name)).contains p.1&&(!((litsOf q).map (·.1)).contains p.1&&(!((clssOf q loose).map (·.name)).contains p.1 &&
 (!(p.1==("__name__":Str))&&decide (bootBuiltins p.1=some p.2))))))
theorem Wh(F7:gK.pE[55]?=some (false,Str.ofString "law"))(F8:aH 73 55 [.i9] [] (λv ζ=>v=.bool true) λζ ζ=>False)(G:Good X):Run X:=λfa Q yI hQ=>by
 have R0:SR ⟨[],X.s.heap⟩ []:=⟨λζ ζ e=>e,λa ha=>(nomatch ha),.nil,rfl,λl c e=>(nomatch e)⟩
 refine(G.fn 55 _ F7).casesOn λa' o d pm cd doc e1 e3 e4 ec e5 e6=>?_
 have e3:X.mg "law"=some (.ref a'):=e3
 rw[yI] at e3;cases e3
 refine aO.k F8 λfn hf hr=>(LU G.J8 hf e1 hr.1.2).elim λnn ok=>?_
 have rm:wz callerA (2*72+2):=⟨by decide,by decide,_,rfl⟩
 refine LS G (LV G 72) rm (λζ=>rfl) R0 (λe he=>(nomatch he)) ok e4 e5 e6 (.cons .i9 .nil) hr.1.1 hr.2 (λv H p tE h' tk x R1 S1 r1=>?_) λv H p=>p.elim
 cases p
 exact r1.inv (λx=>Q x (upd X.s h' tk)) (hQ h' tk R1.keep)
theorem Wi:gK.pE=(dT.map λd=>(false,d.name))++dM.map λd=>(true,d.name):=by kernel_rfl
theorem Wj{Y:nu}(hT:∀d,d∈dT->∃a o pm cd doc,Y.mg d.name=some (.ref a)/\Y.fC.get? a=some o/\o.data=.func (docDef d.name d.params d.body d.scope pm cd doc)/\Y.fC.CodeRec cd d.name)
  (hM:∀d,d∈dM->∃a o pm cd doc,Y.mN d.name=some (.ref a)/\Y.fC.get? a=some o/\o.cls=.type "function"/\o.data=.func (methDef d.name (gK.cls++"."++d.name) d.params d.body d.scope pm cd doc)/\Y.fC.CodeRec cd (gK.cls++"."++d.name)) (hd:Y.defs=dT++dM) (f:Nat) (q:Bool×Str) (hx:gK.pE[f]?=some q):Ah Y f q:=by
 rw[Wi,List.getElem?_append,bJ] at hx
 have e:Y.defs[f]?=_:=(b7 (λl:List j3=>l[f]?) hd).trans List.getElem?_append
 by_cases hf:f<dT.length
 ·rw[bQ hf,i7] at hx
  rw[bQ hf] at e
  exact iE (λq=>Ah Y f q) hx λd h1=>(hT d (ie h1)).elim λa y=>y.elim λo y=>y.elim λpm y=>y.elim λcd y=>y.elim λdoc y=>⟨a,o,d,pm,cd,doc,e.trans h1,y.1,y.2.1,λh=>(nomatch h),y.2.2.1,y.2.2.2⟩
 ·rw[bH hf,i7] at hx
  rw[bH hf] at e
  exact iE (λq=>Ah Y f q) hx λd h1=>(hM d (ie h1)).elim λa y=>y.elim λo y=>y.elim λpm y=>y.elim λcd y=>y.elim λdoc y=>⟨a,o,d,pm,cd,doc,e.trans h1,y.1,y.2.1,λζ=>y.2.2.1,y.2.2.2.1,y.2.2.2.2⟩
noncomputable def pS:List (Str×Nat×Nat×Bool):=[("NoPerson",82,284,false),("NoDay",94,300,false),("NoParents",106,316,false),("NoMatch",118,332,false),("NoWill",130,348,false),("Again",142,364,false),("Full",154,380,false),("NotDead",166,396,false),("EstateError",69,266,true)]
noncomputable abbrev Df(e:Bool):List Value:=cond e H.vm (.ref 69::H.vm)
noncomputable def Dg(r:Str×Nat×Nat×Bool):Obj:=excClassObj r.1 r.1 r.2.1 (r.2.1 - 1) (cond r.2.2.2 [.type "ValueError"] [.ref 69]) (Df r.2.2.2) true [] (cond r.2.2.2 H.ye []) false none none (some (.ref (r.2.1 - 9))) none (some (.str r.1 r.2.2.1)) (some (.str r.1 (r.2.2.1+8))) (some (.bool true)) "ValueError.__new__"
noncomputable def F9:List Str:=["__init__","__getattribute__","__getattr__","__class__"]
theorem Wk(P:Params):(pS.map λr=>(H.H1 P).get? r.2.1)=pS.map λr=>some (Dg r):=by kernel_rfl
theorem Wl(P:Params):(pS.all λr=>(H.H1 P).isNs (r.2.1 - 1)&&F9.all λn=>((H.H1 P).nsMap (r.2.1 - 1) n).isNone)=true:=by kernel_rfl
theorem Wm(P:Params):(pS.map λr=>(H.H1 P).nsMap mainGlobals r.1)=pS.map λr=>some (.ref r.2.1):=by kernel_rfl
theorem Wn:((List.range 9).all λk=>(List.range 9).all λj=>match pS[k]?,pS[j]? with|some r,some r'=>(Value.ref r.2.1::Df r.2.2.2).contains (.ref r'.2.1)==iP k j|_,_=>true)=true:=by decide +kernel
theorem Ga{α β:Type}{f g:α->β}:∀{l:List α},l.map f=l.map g->∀a,a∈l->f a=g a
 |b::l,h,a,ha=>(gB.mp ha).elim (λe=>e▸(i6 h).1) λm=>Ga (i6 h).2 a m
theorem Wo:typeLookup (.type "ValueError") "__class__"=pure (some (.builtin "object.__class__")):=by rw[vB,xO];kernel_rfl
theorem Wp(p:Str×Option Value)(hp:p∈Cg):p.1∈F9/\typeLookup (.type "ValueError") p.1=pure p.2:=by
 unfold Cg at hp
 rcases gB.mp hp with e|hp
 ·subst e;exact⟨.tail _ (.head _),F.attr_ValueError.ga.lookup⟩
 rcases gB.mp hp with e|hp
 ·subst e;exact⟨.tail _ (.tail _ (.head _)),F.attrBase_ValueError.noGetattr⟩
 rcases gB.mp hp with e|hp
 ·subst e;exact⟨.tail _ (.tail _ (.tail _ (.head _))),Wo⟩
 ·cases hp
theorem Wq{M:Model}{A:Around}{Ex:Value->Shared->Prop}{h:Heap}{g:Array GenState}{d:Drawn}{t:Nat}{os:OsState}{Q:Option Value->Shared->Prop}{r r0:Str×Nat×Nat×Bool}{n:Str}{y:Option Value}{m m0:Str->Option Value}
  (hC:h.get? r.2.1=some (Dg r)) (hN:h.Ns (r.2.1 - 1) m) (hm:m n=none) (h0:r0.2.1=69) (Wr:h.get? r0.2.1=some (Dg r0)) (Wt:h.Ns (r0.2.1 - 1) m0) (Wu:m0 n=none) (hB:typeLookup (.type "ValueError") n=pure y) (hq:Q y ⟨h,g,d,t,os⟩):wpAny M A (typeLookup (.ref r.2.1) n) Q Ex ⟨h,g,d,t,os⟩:=by
 have hr:lookupAlong H.vm n=pure y:=by rw[typeLookup_eq,show mroOf (.type "ValueError")=pure H.vm from F.excBase_ValueError.mroIs] at hB;exact hB
 rw[typeLookup_eq]
 refine bj (wpAny_mroOf_exc hC ?_)
 rw[lookupAlong_cons]
 refine bj (wpAny_classOwn_exc hC hN ?_)
 rw[hm]
 obtain⟨x,C,t,e⟩:=r
 cases e with
 |true=>refine(?_:wpAny M A (lookupAlong H.vm n) Q Ex _);rw[hr];exact bU hq
 |false=>
  refine(?_:wpAny M A (lookupAlong (.ref 69::H.vm) n) Q Ex _)
  rw[lookupAlong_cons]
  refine bj ?_
  rw[<-h0]
  refine wpAny_classOwn_exc Wr Wt ?_
  rw[Wu]
  refine(?_:wpAny M A (lookupAlong H.vm n) Q Ex _)
  rw[hr];exact bU hq
theorem Wv{Y:nu}{Pr:Params}(hh:∀b o,(H.H1 Pr).get? b=some o->Y.fC.get? b=some o)(hg:Y.mg=(H.H1 Pr).nsMap mainGlobals)(he:Y.exc=pS.map (·.2.1))(k:Nat)(x:Str)(hx:gK.uq[k]?=some x):Ci Y k x:=by
 have wl:(pS.map (·.1))[k]?=some x:=hx
 rw[i7] at wl
 have at':∀r,r∈pS->Y.fC.get? r.2.1=some (Dg r)/\Y.fC.Ns (r.2.1 - 1) ((H.H1 Pr).nsMap (r.2.1 - 1))/\∀n,n∈F9->(H.H1 Pr).nsMap (r.2.1 - 1) n=none:=λr hr=>
  aW (j1.mp (Wl Pr) r hr) λh1 h2=>⟨hh _ _ (Ga (Wk Pr) r hr),(Ns.of_isNs h1).keeps hh,λn hn=>Option.isNone_iff_eq_none.mp (j1.mp h2 n hn)⟩
 refine iE (λx=>Ci Y k x) wl λr hr=>?_
 have hm:=ie hr
 have A:=at' r hm
 have r0:((Str.ofString "EstateError",69,266,true):Str×Nat×Nat×Bool)∈pS:=.tail _ (.tail _ (.tail _ (.tail _ (.tail _ (.tail _ (.tail _ (.tail _ (.head _))))))))
 have B:=at' _ r0
 have hk:k<9:=(d7.mp hr).1
 refine⟨r.2.1,H.vm,"ValueError.__new__",_,"ValueError",⟨?_,?_⟩,F.excBase_ValueError,?_,⟨by decide,by decide⟩,λo cd ho hd j D hj=>?_,λp hp A' Ex h g d t os Q hk hq=>?_⟩
 ·rw[hg];exact Ga (Wm Pr) r hm
 ·refine⟨Df r.2.2.2,r.2.1 - 1,_,_,_,_,_,_,_,_,_,_,_,_,_,_,_,A.1,A.2.1,A.2.2 _ (.head _),?_⟩
  obtain⟨x,C,t,e⟩:=r
  cases e with
  |true=>exact .base
  |false=>exact .own B.1 B.2.1 (B.2.2 _ (.head _)) .base
 ·rw[he,i7,hr];rfl
 ·rw[A.1] at ho;cases ho;cases hd
  rw[he,i7] at hj
  refine iE (λD=>(Value.ref r.2.1::Df r.2.2.2).contains (.ref D)=iP k j) hj λr' yJ=>?_
  have q:=j1.mp (j1.mp Wn k (i8.mpr hk)) j (i8.mpr (d7.mp yJ).1)
  rw[hr,yJ] at q
  exact eq_of_beq q
 ·have z:=Wp p hp
  exact Wq (r:=r) (r0:=(Str.ofString "EstateError",69,266,true)) (hk _ _ A.1) (A.2.1.keeps hk) (A.2.2 _ z.1) rfl (hk _ _ B.1) (B.2.1.keeps hk) (B.2.2 _ z.1) z.2 hq
noncomputable def LW:ClsRec:=⟨gK.cls,none,[],gK.cC,0,dM.map λd=>⟨d.name,d.params,d.body,d.scope⟩⟩
theorem Ww(P:Params):(H.H1 P).plainShapeAt LW=some LW.plainShape:=by kernel_rfl
theorem Wx(P:Params):(H.H1 P).isNs mainGlobals=true:=by kernel_rfl
theorem Wy(P:Params):(["MOST_DAY","MOST_PEOPLE","MOST_GIFTS","MOST_NUMBER"]:List Str).map ((H.H1 P).nsMap mainGlobals)=[some (.int 100000 562),some (.int 60 564),some (.int 10 566),some (.int 1000 568)]:=by kernel_rfl
theorem Wz(P:Params):(["WHOLE","NOTHING"]:List Str).map ((H.H1 P).nsMap mainGlobals)=[some (.ref 204),some (.ref 227)]:=by kernel_rfl
theorem WA(P:Params):(H.H1 P).get? 204=some (lY [.int 1 459,.int 1 460] 0):=by kernel_rfl
theorem WB(P:Params):(H.H1 P).get? 227=some (lY [.int 0 491,.int 1 492] 0):=by kernel_rfl
theorem WC{Y:nu}{Pr:Params}(hh:∀b o,(H.H1 Pr).get? b=some o->Y.fC.get? b=some o)(hg:Y.mg=(H.H1 Pr).nsMap mainGlobals)(j:Nat)(x:Str)(hx:gK.B8[j]?=some x):
  (∃i t,zU[j]?=some (.int i)/\Y.mg x=some (.int i t))\/∃(a:Addr) (is:List Int) (vs:List Value) (n:Nat),zU[j]?=some (.aF (is.map .int))/\Y.mg x=some (.ref a)/\Y.fC.get? a=some (lY vs n)/\IntsAre vs is/\is.length<=1000:=by
 rw[hg]
 have I:=Wy Pr
 have T:=Wz Pr
 match j,hx with
 |0,hx=>cases hx;exact .inr ⟨204,[1,1],_,_,rfl,(i6 T).1,hh _ _ (WA Pr),.cons _ _ (.cons _ _ .nil),by decide⟩
 |1,hx=>cases hx;exact .inr ⟨227,[0,1],_,_,rfl,(i6 (i6 T).2).1,hh _ _ (WB Pr),.cons _ _ (.cons _ _ .nil),by decide⟩
 |2,hx=>cases hx;exact .inl ⟨_,_,rfl,(i6 I).1⟩
 |3,hx=>cases hx;exact .inl ⟨_,_,rfl,(i6 (i6 I).2).1⟩
 |4,hx=>cases hx;exact .inl ⟨_,_,rfl,(i6 (i6 (i6 I).2).2).1⟩
 |5,hx=>cases hx;exact .inl ⟨_,_,rfl,(i6 (i6 (i6 (i6 I).2).2).2).1⟩
 |j+6,hx=>cases hx
theorem WD{q prog:Program}{loose:List Str}{mean:ExcName->Option Value}{mg mb:Str->Option Value}{w:World}{ci:Shared}{mC:Addr}{vs:List Value}{ns:List Int}{fa:Addr}{Pr:Params}{Q Ex:Value->Shared->Prop}
  (T:Top q loose mean mg mb ci.heap) (hh:∀b o,(H.H1 Pr).get? b=some o->ci.heap.get? b=some o) (hK:dT=(recsOf q).map We) (WF:Cf (dT++dM) E0 Cd=true) (WG:Wg q loose=true) (WH:importsNone q=true) (WI:prog.given.tree=none)
  (hL:ci.heap.IsList mC vs.toArray) (hI:IntsAre vs ns) (eR:ns.length<=63) (F7:gK.pE[55]?=some (false,Str.ofString "law")) (yI:mg "law"=some (.ref fa))
  (F8:aH 73 55 [.i9] [] (λv ζ=>v=.bool true) λζ ζ=>False)
  (hQ:∀h' tk,(∀b o,ci.heap.get? b=some o->h'.get? b=some o)->Q (.bool true) {ci with heap:=h',toks:=tk}):wpAny (model prog w) callerA (call (.ref fa) [.ref mC]) Q Ex ci:=by
 have hg:mg=(H.H1 Pr).nsMap mainGlobals:=T.g.eq_nsMap.trans ((Ns.of_isNs (Wx Pr)).keeps hh).eq_nsMap.symm
 obtain⟨C,N,hC,PL⟩:=plainAt_of_shape (Ww Pr)
 have PL:=PL.keeps hh
 refine ig (Q5 (Wh F7 F8) ⟨prog,w,mC,ns,mg,mb,C,N,(H.H1 Pr).nsMap N,pS.map (·.2.1),dT++dM,ci⟩ (⟨T.g,T.b,λp hp=>?_,Wj (λd hd=>?_) (λd hd=>?_) rfl,WC hh hg,Wv hh hg rfl,rfl,hg▸hC,PL.cls,PL.quiet,T.nolimit,T.seer WH,WI,⟨vs,hL,hI⟩,eR,?_,T.bmain,WF⟩) fa Q yI hQ) (λζ ζ q=>q) λζ ζ h=>h.elim
 ·exact aW (j1.mp WG p hp) λh1 h=>aW h λh2 h=>aW h λh3 h=>aW h λh4 h=>aW h λh5 h=>aW h λh6 h7=>⟨T.free p.1 (wj h1) (wj h2) (wj h3) (wj h4) (wj h5),(T.builtins p.1 (λe=>by rw[e] at h6;exact absurd h6 (by decide))).trans (cu h7)⟩
 ·rw[hK] at hd
  exact(ii.mp hd).elim λr y=>y.2▸T.fn r y.1
 ·exact PL.meths _ (ii.mpr ⟨d,hd,rfl⟩)
 ·exact T.nodigits.elim λmc h=>h.1.imp λo h=>h.elim λζ h=>h.elim λζ h=>h.1
end Mine
namespace Mine.H
open PySem PySem.W PyProof.Rows
theorem pre(w:World)(os:OsState):topGo treeTable pp w 11 an 12 ⟨boot_heap w.params,Array.mk [],boot_drawn,boot_toks,os⟩ (topStub pp)=some ((s0 w os).abs,⟨denote treeTable cE,cE,ps 0 0 0 0,[topFrame (ps 0 0 0 0)]⟩):=by kernel_rfl
theorem WJ(w:World)(os:OsState):segRun treeTable pp w 11 an 1 1 (s0 w os).abs (blockOf bE env cE (ps 0 0 0 0) [topFrame (ps 0 0 0 0)])=some (.next,(s0 w os).abs,cE,ps 0 0 0 0):=by kernel_rfl
noncomputable abbrev r0:List Stmt:=bE
theorem g0(w:World)(os:OsState):segRunT treeTable pp w 11 an 1 2000 (s0 w os) (piecesOf (r0.take 13) env cE (ps 0 0 0 0) [topFrame (ps 0 0 0 0)])=some (.next,s1 w os,cE,ps 56 0 57 8):=by kernel_rfl
noncomputable abbrev r1:List Stmt:=r0.drop 13
theorem g1(w:World)(os:OsState):segRunT treeTable pp w 11 an 1 2000 (s1 w os) (piecesOf (r1.take 4) env cE (ps 56 0 57 8) [topFrame (ps 0 0 0 0)])=some (.next,s2 w os,cE,ps 64 0 65 8):=by kernel_rfl
noncomputable abbrev r2:List Stmt:=r1.drop 4
theorem g2(w:World)(os:OsState):segRunT treeTable pp w 11 an 1 2000 (s2 w os) (piecesOf (r2.take 22) env cE (ps 64 0 65 8) [topFrame (ps 0 0 0 0)])=some (.next,s3 w os,cE,ps 165 0 184 15):=by kernel_rfl
noncomputable abbrev r3:List Stmt:=r2.drop 22
theorem g3(w:World)(os:OsState):segRunT treeTable pp w 11 an 1 2000 (s3 w os) (piecesOf (r3.take 10) env cE (ps 165 0 184 15) [topFrame (ps 0 0 0 0)])=some (.next,s4 w os,cE,ps 199 0 333 41):=by kernel_rfl
noncomputable abbrev r4:List Stmt:=r3.drop 10
theorem g4(w:World)(os:OsState):segRunT treeTable pp w 11 an 1 2000 (s4 w os) (piecesOf (r4.take 31) env cE (ps 199 0 333 41) [topFrame (ps 0 0 0 0)])=some (.next,s5 w os,cE,ps 585 0 620 87):=by kernel_rfl
noncomputable abbrev r5:List Stmt:=r4.drop 31
theorem fin(w:World)(os:OsState):topRun treeTable pp w 11 an 5 (s5 w os).abs (restOf r5 env cE (ps 585 0 620 87) [topFrame (ps 0 0 0 0)])=some ⟨H1 w.params,Array.mk [],boot_drawn,1029,os⟩:=by kernel_rfl
theorem pc{w:World}{n N m:Nat}{s s' r:Shared}{l:List Stmt}{pos p':Pos}(h:segRun treeTable pp w 11 an 1 n s (piecesOf (l.take m) env cE pos [topFrame (ps 0 0 0 0)])=some (.next,s',cE,p'))(k:topRun treeTable pp w 11 an N s' (restOf (l.drop m) env cE p' [topFrame (ps 0 0 0 0)])=some r):topRun treeTable pp w 11 an (n+N) s (restOf l env cE pos [topFrame (ps 0 0 0 0)])=some r:=by
 have e:=piece_app h k
 rw[List.take_append_drop] at e
 exact e
theorem run(w:World)(os:OsState):topRun treeTable pp w 11 an (12+(1+(2000+(2000+(2000+(2000+(2000+5))))))) ⟨boot_heap w.params,Array.mk [],boot_drawn,boot_toks,os⟩ (topStub pp)=some ⟨H1 w.params,Array.mk [],boot_drawn,1029,os⟩:=
 go_top (pre w os) (piece_block (WJ w os) (pc (segRun_of (g0 w os)) (pc (segRun_of (g1 w os)) (pc (segRun_of (g2 w os)) (pc (segRun_of (g3 w os)) (pc (segRun_of (g4 w os)) (fin w os)))))))
noncomputable def pk(ns:List Nat):List Stmt->List Stmt:=List.rec (λζ=>[]) (λn ζ f l=>l.take n++f (l.drop (n+1))) ns
noncomputable def qv:Program:={pp with main:={pp.main with body:=pk [0,4,3,9,5,5,7,9,30] pp.main.body}}
noncomputable def wB:DefRec:=(recsOf qv).getLastD ⟨Str.empty,default,[],default,default⟩
theorem d1:defOf qv PySem.Challenge.rw_uf020001_12.row.name=some (wB,[]):=by kernel_rfl
theorem d2:pp.theDef PySem.Challenge.rw_uf020001_12.row.name=some (wB.params,wB.body,wB.scope):=by kernel_rfl
theorem d3:kwWritten? wB.params.kwonlyargs wB.params.kw_defaults=some []:=by kernel_rfl
noncomputable abbrev lo:List Str:=[]
noncomputable abbrev lv:List (Str×WData):=[]
noncomputable abbrev WK:OpenRow:=PySem.Challenge.rw_uf020001_12.row
noncomputable abbrev Xt(s:Shared):Bool:=xlAt qv lv s&&recOk (RowW.records WK.toRowW) s
noncomputable abbrev sF(w:World)(os:OsState):Shared:=⟨H1 w.params,Array.mk [],boot_drawn,1029,os⟩
theorem size(w:World):((boot_heap w.params).isNs mainGlobals&&(Array.mk []:Array GenState).size==0,(boot_heap w.params).objs.size,(boot_heap w.params).nsMap mainGlobals "__annotations__")=(true,11,an):=by kernel_rfl
theorem WL(w:World):(fencedOpening treeTable pp w 20000).map (λs=>(s.heap,s.gens,s.drawn,s.toks))=some (boot_heap w.params,Array.mk [],boot_drawn,boot_toks):=boot_open (by kernel_rfl) (by decide) (λs=>by kernel_rfl) w
theorem k1(w:World)(os:OsState):(staticsOk (importedModules pp.main.body) (boot_heap w.params) (H1 w.params)&&namesBound pp (H1 w.params)&&gensDone (sF w os)&&laidKept (boot_heap w.params) (H1 w.params))=true:=by kernel_rfl
theorem n1(w:World)(os:OsState):seen ((recsOf qv).map (·.name)) (ownsOf qv) [] {sF w os with gens:=#[]}=expectedOf qv:=by kernel_rfl
theorem n2(w:World)(os:OsState):(sF w os).heap.bltView=bltViewBooted:=by kernel_rfl
theorem n3(w:World)(os:OsState):((sF w os).heap.keysOk (looseW qv lo) ((recsOf qv).map (·.name)) ((litsOf qv).map (·.1)) ((clssOf qv (looseW qv lo)).map (·.name))&&(sF w os).heap.accountedOkI (importedModules pp.main.body)&&(sF w os).heap.isNs mainGlobals&&(sF w os).heap.isNs builtinsNs&&tablesOk qv (sF w os).heap&&Xt (sF w os)&&(if true then(sF w os).gens.size==0 else !leftWithCleanup (sF w os).gens))=true:=by kernel_rfl
theorem n4(w:World)(os:OsState):tabsOk qv (sF w os)=true:=by kernel_rfl
theorem n5(w:World)(os:OsState):pinSeenD qv (drecsOf qv) (sF w os)=pinGoodD (drecsOf qv):=by kernel_rfl
theorem n6(w:World)(os:OsState):plainSeenE qv (looseW qv lo) (sF w os)=plainGoodE qv (looseW qv lo):=by kernel_rfl
theorem n7(w:World)(os:OsState):plainSeenD qv lo (sF w os)=plainGoodD qv lo:=by kernel_rfl
theorem n8(w:World)(os:OsState):wideSeen qv (sF w os)=wideGood qv:=by kernel_rfl
theorem n9(w:World)(os:OsState):clsSeenW qv lo (sF w os)=clsGoodW qv lo:=by kernel_rfl
theorem pr{α β:Type}{a a':α}{b b':β}(x:a=a')(y:b=b'):(a,b)=(a',b'):=by rw[x,y]
theorem sn(w:World)(os:OsState):openSeen qv lo (importedModules pp.main.body) Xt true (sF w os)=openGood qv lo:=pr (n1 w os) (pr (n2 w os) (pr (n3 w os) (pr (n4 w os) (pr (n5 w os) (pr (n6 w os) (pr (n7 w os) (pr (n8 w os) (n9 w os))))))))
end Mine.H
namespace Mine.P
open PySem
noncomputable abbrev Wf(n:Nat)(Y Q:PQ)(H:Hp)(b:List S)(ρ:bv):Prop:=aX ⟨aH n,xq Y⟩ b ρ H (fA Q)
variable{n:Nat}{x0 x1 x2 x3:V}{H:Hp}{Q Y:PQ}
theorem WM(h:Wf n Y Q H Je [some x0,some x1,some x2,none,none,none,none]):aH (n+1) 0 [x0,x1,x2] H Q Y:=⟨⟨rfl,by decide⟩,h⟩
theorem WN(h:Wf n Y Q H Jf [some x0,some x1,some x2,none,none,none,none]):aH (n+1) 1 [x0,x1,x2] H Q Y:=⟨⟨rfl,by decide⟩,h⟩
theorem WP(h:Wf n Y Q H Jg [some x0,some x1,some x2,none,none]):aH (n+1) 2 [x0,x1,x2] H Q Y:=⟨⟨rfl,by decide⟩,h⟩
theorem WQ(h:Wf n Y Q H Jh [some x0,some x1,some x2,none]):aH (n+1) 3 [x0,x1,x2] H Q Y:=⟨⟨rfl,by decide⟩,h⟩
theorem WR(h:Wf n Y Q H Ji [some x0,some x1,some x2,none,none,none]):aH (n+1) 4 [x0,x1,x2] H Q Y:=⟨⟨rfl,by decide⟩,h⟩
theorem WU(h:Wf n Y Q H Jj [some x0,some x1,some x2,some x3,none,none,none,none]):aH (n+1) 5 [x0,x1,x2,x3] H Q Y:=⟨⟨rfl,by decide⟩,h⟩
theorem WV(h:Wf n Y Q H B9 [some x0,some x1,some x2,none,none,none,none,none]):aH (n+1) 6 [x0,x1,x2] H Q Y:=⟨⟨rfl,by decide⟩,h⟩
theorem WW(h:Wf n Y Q H EO [some x0,some x1,none,none,none]):aH (n+1) 7 [x0,x1] H Q Y:=⟨⟨rfl,by decide⟩,h⟩
theorem WX(h:Wf n Y Q H Jk [some x0,some x1]):aH (n+1) 8 [x0,x1] H Q Y:=⟨⟨rfl,by decide⟩,h⟩
theorem WY(h:Wf n Y Q H Jl [some x0,some x1]):aH (n+1) 9 [x0,x1] H Q Y:=⟨⟨rfl,by decide⟩,h⟩
theorem WZ(h:Wf n Y Q H Jm [some x0,some x1]):aH (n+1) 10 [x0,x1] H Q Y:=⟨⟨rfl,by decide⟩,h⟩
theorem W0(h:Wf n Y Q H Jn [some x0,some x1]):aH (n+1) 11 [x0,x1] H Q Y:=⟨⟨rfl,by decide⟩,h⟩
theorem W1(h:Wf n Y Q H Jo [some x0,some x1,some x2,some x3,none,none,none,none,none,none,none]):aH (n+1) 12 [x0,x1,x2,x3] H Q Y:=⟨⟨rfl,by decide⟩,h⟩
theorem W2(h:Wf n Y Q H Jp [some x0,some x1,some x2]):aH (n+1) 13 [x0,x1,x2] H Q Y:=⟨⟨rfl,by decide⟩,h⟩
theorem W3(h:Wf n Y Q H Jq [some x0,some x1,some x2,some x3]):aH (n+1) 14 [x0,x1,x2,x3] H Q Y:=⟨⟨rfl,by decide⟩,h⟩
theorem W4(h:Wf n Y Q H Jr [some x0,some x1,some x2,none,none,none,none,none,none,none,none]):aH (n+1) 15 [x0,x1,x2] H Q Y:=⟨⟨rfl,by decide⟩,h⟩
theorem W5(h:Wf n Y Q H Js [some x0,some x1,some x2,none,none,none]):aH (n+1) 16 [x0,x1,x2] H Q Y:=⟨⟨rfl,by decide⟩,h⟩
theorem W6(h:Wf n Y Q H Jt [some x0,some x1,some x2,none,none,none,none,none]):aH (n+1) 17 [x0,x1,x2] H Q Y:=⟨⟨rfl,by decide⟩,h⟩
theorem W7(h:Wf n Y Q H Ju [some x0,some x1,some x2,some x3,none,none,none,none,none,none,none]):aH (n+1) 18 [x0,x1,x2,x3] H Q Y:=⟨⟨rfl,by decide⟩,h⟩
theorem W8(h:Wf n Y Q H Jv [some x0,some x1,some x2,none,none]):aH (n+1) 19 [x0,x1,x2] H Q Y:=⟨⟨rfl,by decide⟩,h⟩
theorem W9(h:Wf n Y Q H Jw [some x0,some x1]):aH (n+1) 20 [x0,x1] H Q Y:=⟨⟨rfl,by decide⟩,h⟩
theorem Xa(h:Wf n Y Q H EP [some x0,some x1,none,none,none,none,none,none,none,none,none,none,none,none]):aH (n+1) 21 [x0,x1] H Q Y:=⟨⟨rfl,by decide⟩,h⟩
theorem Xb(h:Wf n Y Q H Jx [some x0,some x1,some x2]):aH (n+1) 22 [x0,x1,x2] H Q Y:=⟨⟨rfl,by decide⟩,h⟩
theorem Xc(h:Wf n Y Q H Jy [some x0]):aH (n+1) 23 [x0] H Q Y:=⟨⟨rfl,by decide⟩,h⟩
theorem Xd(h:Wf n Y Q H Jz [some x0]):aH (n+1) 24 [x0] H Q Y:=⟨⟨rfl,by decide⟩,h⟩
theorem Xe(h:Wf n Y Q H EQ [some x0]):aH (n+1) 25 [x0] H Q Y:=⟨⟨rfl,by decide⟩,h⟩
theorem Xf(h:Wf n Y Q H JA [some x0,some x1]):aH (n+1) 26 [x0,x1] H Q Y:=⟨⟨rfl,by decide⟩,h⟩
theorem Xg(h:Wf n Y Q H ER [some x0,some x1,none,none,none]):aH (n+1) 28 [x0,x1] H Q Y:=⟨⟨rfl,by decide⟩,h⟩
theorem Xh(h:Wf n Y Q H ES [some x0,some x1,some x2,none,none]):aH (n+1) 29 [x0,x1,x2] H Q Y:=⟨⟨rfl,by decide⟩,h⟩
theorem Xi(h:Wf n Y Q H JB [some x0,some x1,none,none,none,none,none,none,none,none,none]):aH (n+1) 30 [x0,x1] H Q Y:=⟨⟨rfl,by decide⟩,h⟩
theorem Xj(h:Wf n Y Q H JC [some x0,some x1,none,none,none,none,none,none,none,none,none]):aH (n+1) 31 [x0,x1] H Q Y:=⟨⟨rfl,by decide⟩,h⟩
theorem Xk(h:Wf n Y Q H JD [some x0,some x1,some x2]):aH (n+1) 32 [x0,x1,x2] H Q Y:=⟨⟨rfl,by decide⟩,h⟩
theorem Xl(h:Wf n Y Q H ET [some x0,some x1,none]):aH (n+1) 36 [x0,x1] H Q Y:=⟨⟨rfl,by decide⟩,h⟩
theorem Xm(h:Wf n Y Q H JE [some x0,some x1,some x2]):aH (n+1) 37 [x0,x1,x2] H Q Y:=⟨⟨rfl,by decide⟩,h⟩
theorem Xn(h:Wf n Y Q H JF [some x0,some x1,some x2,none,none,none,none,none,none,none,none]):aH (n+1) 38 [x0,x1,x2] H Q Y:=⟨⟨rfl,by decide⟩,h⟩
theorem Xo(h:Wf n Y Q H JG [some x0,some x1,some x2,none,none,none,none,none]):aH (n+1) 39 [x0,x1,x2] H Q Y:=⟨⟨rfl,by decide⟩,h⟩
theorem Xp(h:Wf n Y Q H JH [some x0,some x1,some x2,none,none,none,none,none]):aH (n+1) 40 [x0,x1,x2] H Q Y:=⟨⟨rfl,by decide⟩,h⟩
theorem Xq(h:Wf n Y Q H JI [some x0,some x1,none,none,none]):aH (n+1) 41 [x0,x1] H Q Y:=⟨⟨rfl,by decide⟩,h⟩
theorem Xr(h:Wf n Y Q H JJ [some x0,some x1,none,none,none]):aH (n+1) 43 [x0,x1] H Q Y:=⟨⟨rfl,by decide⟩,h⟩
theorem Xs(h:Wf n Y Q H EU [some x0]):aH (n+1) 44 [x0] H Q Y:=⟨⟨rfl,by decide⟩,h⟩
theorem Xu(h:Wf n Y Q H EV [some x0,none]):aH (n+1) 45 [x0] H Q Y:=⟨⟨rfl,by decide⟩,h⟩
theorem AO(h:Wf n Y Q H JK [some x0,some x1]):aH (n+1) 46 [x0,x1] H Q Y:=⟨⟨rfl,by decide⟩,h⟩
theorem Xv(h:Wf n Y Q H JL [some x0,some x1,none,none]):aH (n+1) 47 [x0,x1] H Q Y:=⟨⟨rfl,by decide⟩,h⟩
theorem Xw(h:Wf n Y Q H sV [some x0,some x1,none,none,none,none,none,none,none,none]):aH (n+1) 48 [x0,x1] H Q Y:=⟨⟨rfl,by decide⟩,h⟩
theorem Xx(h:Wf n Y Q H JM [some x0,none,none,none,none,none,none]):aH (n+1) 49 [x0] H Q Y:=⟨⟨rfl,by decide⟩,h⟩
theorem Xy(h:Wf n Y Q H Cb [some x0,some x1,none,none,none,none,none,none]):aH (n+1) 50 [x0,x1] H Q Y:=⟨⟨rfl,by decide⟩,h⟩
theorem Dj(h:Wf n Y Q H EW [some x0,some x1,some x2,some x3,none]):aH (n+1) 51 [x0,x1,x2,x3] H Q Y:=⟨⟨rfl,by decide⟩,h⟩
theorem Xz(h:Wf n Y Q H JN [some x0,some x1,some x2,some x3,none,none,none,none,none,none]):aH (n+1) 52 [x0,x1,x2,x3] H Q Y:=⟨⟨rfl,by decide⟩,h⟩
theorem XA(h:Wf n Y Q H JO [some x0,some x1,none,none,none,none]):aH (n+1) 53 [x0,x1] H Q Y:=⟨⟨rfl,by decide⟩,h⟩
theorem XB(h:Wf n Y Q H JP [some x0,some x1,none,none,none,none,none,none]):aH (n+1) 54 [x0,x1] H Q Y:=⟨⟨rfl,by decide⟩,h⟩
theorem XC(h:Wf n Y Q H JQ [some x0,none,none,none,none,none,none,none,none,none,none,none,none,none]):aH (n+1) 55 [x0] H Q Y:=⟨⟨rfl,by decide⟩,h⟩
theorem XD(h:Wf n Y Q H EX [some x0]):aH (n+1) 56 [x0] H Q Y:=⟨⟨rfl,by decide⟩,h⟩
theorem XE(h:Wf n Y Q H JR [some x0,some x1]):aH (n+1) 57 [x0,x1] H Q Y:=⟨⟨rfl,by decide⟩,h⟩
theorem XF(h:Wf n Y Q H JS [some x0,some x1,some x2]):aH (n+1) 58 [x0,x1,x2] H Q Y:=⟨⟨rfl,by decide⟩,h⟩
theorem XG(h:Wf n Y Q H JT [some x0,none,none,none]):aH (n+1) 59 [x0] H Q Y:=⟨⟨rfl,by decide⟩,h⟩
theorem XH(h:Wf n Y Q H Cc [some x0,some x1,some x2,none]):aH (n+1) 60 [x0,x1,x2] H Q Y:=⟨⟨rfl,by decide⟩,h⟩
theorem XI(h:Wf n Y Q H xR [some x0,some x1,some x2,some x3,none,none,none,none,none]):aH (n+1) 61 [x0,x1,x2,x3] H Q Y:=⟨⟨rfl,by decide⟩,h⟩
theorem XJ(h:Wf n Y Q H EY [some x0,some x1,some x2,none]):aH (n+1) 62 [x0,x1,x2] H Q Y:=⟨⟨rfl,by decide⟩,h⟩
theorem XK(h:Wf n Y Q H xS [some x0,some x1,some x2,some x3,none,none,none]):aH (n+1) 63 [x0,x1,x2,x3] H Q Y:=⟨⟨rfl,by decide⟩,h⟩
theorem XM(h:Wf n Y Q H sW [some x0,some x1,some x2,none,none,none,none,none,none,none,none,none]):aH (n+1) 64 [x0,x1,x2] H Q Y:=⟨⟨rfl,by decide⟩,h⟩
theorem LX(h:Wf n Y Q H JU [some x0,some x1,some x2,none,none,none,none,none,none]):aH (n+1) 65 [x0,x1,x2] H Q Y:=⟨⟨rfl,by decide⟩,h⟩
theorem XN(h:Wf n Y Q H EZ [some x0,some x1,some x2,some x3,none,none,none,none,none]):aH (n+1) 66 [x0,x1,x2,x3] H Q Y:=⟨⟨rfl,by decide⟩,h⟩
theorem XO(h:Wf n Y Q H JV [some x0]):aH (n+1) 67 [x0] H Q Y:=⟨⟨rfl,by decide⟩,h⟩
theorem XQ(h:Wf n Y Q H JW [some x0]):aH (n+1) 68 [x0] H Q Y:=⟨⟨rfl,by decide⟩,h⟩
theorem XR(h:Wf n Y Q H JX [some x0]):aH (n+1) 69 [x0] H Q Y:=⟨⟨rfl,by decide⟩,h⟩
theorem XS(h:Wf n Y Q H JY [some x0,some x1]):aH (n+1) 70 [x0,x1] H Q Y:=⟨⟨rfl,by decide⟩,h⟩
end Mine.P
namespace Mine.L
open Mine.P PySem
variable{H H' H1 H₀ H4 G H₁ H₂:Hp}{Y Q:PQ}{k n l B j m i lw f lh lm a ld lq lf ep lb w s ew lx un la m' b' L ov lg B0 B1 N cf ef ea lr lp B' lc g k' eh l' Gb Gc kp tF N0 ldd:Nat}{vs us bs ss:List V}{v u v' s' dv z st D:V}{d c x lo hi:Int}{C:Ct}{ρ fs eW cg:bv}{rest:List S}{fr ks ws es ls as al pre ns cs:List Nat}{e e2 e1 e3 e4:E}{o7 o8 o9 o4 o6 o10 o5 cM o3 cK cq o2 v4 v5 v6 o v2 v7 o1 v3:Option V}{t:Bool}{is:List Int}{y R q':Rat}{how:Str}
theorem aA{α:Type}{o:Option α}{f:α->Prop}{a:α}(e:o=some a)(h:f a):aO o f:=by rw[e];exact h
theorem wC{α:Type}{o:Option α}{f g:α->Prop}(h:aO o f)(k:∀a,f a->g a):aO o g:=by
 cases o
 ·exact h
 ·exact k _ h
section
variable{t:d8}{K:Out->Prop}
theorem Gd{body:bv->Hp->(Out->Prop)->Prop}(I:List V->bv->Hp->Prop)(step:∀v vs ρ H,I (v::vs) ρ H->aO (aY t v ρ) λcg=>∀N:bv->Hp->Prop,(∀gW H₁,fS ws H₀ H₁=true->I vs gW H₁->N gW H₁)->body cg H (qD K N))(fin:∀ρ H,I [] ρ H->K (.next ρ H)):∀vs ρ H,I vs ρ H->pL ws H₀ t body vs ρ H K
 |[],ρ,H,h=>fin ρ H h
 |v::vs,ρ,H,h=>wC (step v vs ρ H h) λcg hb=>hb _ λgW H₁ hs hi=>⟨hs,Gd I step fin vs gW H₁ hi⟩
theorem Ge{test:bv->Hp->(Bool->Hp->Prop)->Prop}{body:bv->Hp->(Out->Prop)->Prop}(I:Nat->bv->Hp->Prop)(step:∀n ρ H,I n ρ H->∀T:Bool->Hp->Prop,(∀H',(∀N:bv->Hp->Prop,(∀m gW H₁,m<n->I m gW H₁->N gW H₁)->body ρ H' (qD K N))->T true H')->(∀H',K (.next ρ H')->T false H')->test ρ H T):∀k n ρ H,n<k->I n ρ H->Cp test body k ρ H K
 |0,n,ρ,H,hk,h=>absurd hk (not_lt_zero _)
 |k+1,n,ρ,H,hk,h=>step n ρ H h _ (λH' hb=>hb _ λm gW H₁ hm hi=>Ge I step k m gW H₁ (cL hm (le_of_lt_succ hk)) hi) (λH' hk=>hk)
end
open Mine.P
noncomputable def LY(ζ:Prop)(a b:Int)(H:Hp)(n:Nat)(ρ:bv)(H':Hp):Prop:=∀(x y:Int) (z:Option V) (e:ρ=[some (.int a),some (.int b),some (.int x),some (.int y),z]) (eh:H'=H) (hy:0<=y) (hn:n=y.toNat) (hg:gcd x y=gcd a b) (hx:y=0->0<=x),ζ
def Gf:=λa b H n ρ H'=>∀ζ:Prop,LY ζ a b H n ρ H'->ζ
theorem Gf.mk{a b H n ρ H'}:LY (Gf a b H n ρ H') a b H n ρ H':=λx0 x1 x2 x3 x4 x5 x6 x7 x8 ζ k=>k x0 x1 x2 x3 x4 x5 x6 x7 x8
theorem LZ{a b:Int}(hb:0<b)(k:Q (.aF [.int (a.fdiv (gcd a b)),.int (b.fdiv (gcd a b))]) H):aX C EO [some (.int a),some (.int b),none,none,none] H (fA Q):=by
 refine Ge (K:=_) (Gf a b H) (λm ρ H' h T ht hf=>?_) _ b.toNat _ _ ?_ (.mk a b none rfl rfl (le_of_lt hb) rfl rfl (λe=>absurd e (ne_of_gt hb)))
 ·refine h _ λx y z e eh hy hn hg hx=>?_
  subst e eh
  refine(?_:T (decide (y>0)) _)
  by_cases wD:y>0
  ·rw[dj wD]
   refine ht _ λN hN=>(aA (a:=x.fmod y) (bH (ne_of_gt wD)) ?_:aO (binI .mod x y) _)
   have hm:x.fmod y=x - (x/y)*y:=by rw[B6 x hy,Int.emod_def,Int.mul_comm]
   exact hN (x.fmod y).toNat _ _ (by rw[hn,B6 x hy];exact(Int.toNat_lt_toNat wD).mpr (Int.emod_lt_of_pos x wD)) (.mk y (x.fmod y) _ rfl rfl (by rw[B6 x hy];exact Int.emod_nonneg x (ne_of_gt wD)) rfl (by rw[hm,Int.gcd_sub_mul_right_right,Int.gcd_comm];exact hg) (λζ=>hy))
  ·rw[gE wD]
   refine hf _ ?_
   obtain rfl:y=0:=Int.le_antisymm (kM.mp wD) hy
   have wl:x=((gcd a b:Nat):Int):=by rw[<-hg,Int.gcd_zero_right];exact(Int.natAbs_of_nonneg (hx rfl)).symm
   have L0:((gcd a b:Nat):Int)≠0:=λh=>absurd (Int.gcd_eq_zero_iff.mp (om h)).2 (ne_of_gt hb)
   subst wl
   exact aA (bH L0) (aA (bH L0) k)
 ·refine(?_:b.toNat<a.natAbs+(b.natAbs+(a.natAbs+(b.natAbs+1000))))
  lia
section
variable{a b:Int}(hb:0<b)(kq:Q (.aF [.int (a.fdiv (gcd a b)),.int (b.fdiv (gcd a b))]) H)
include hb kq
theorem XT:aH (n+1) 7 [.int a,.int b] H Q Y:=WW (LZ hb kq)
theorem XU:aH (n+1) 41 [.int a,.int b] H Q Y:=Xq (LZ hb kq)
end
open Mine.P
theorem dp{A B:Prop}(h1:t=true->A)(h2:t=false->B):cD t A B:=by
 cases t
 ·exact h2 rfl
 ·exact h1 rfl
theorem uR{sv:V}(hs:mD H sv=some (is.map .int))(q:Q (.int (is.getD k 0)) H):aH (n+1) 26 [sv,.int k] H Q Y:=Xf (by
 refine aA hs ((dp (λh=>?_) λh=>?_:cD (decide ((k:Int)<((is.map V.int).length:Int))) _ _))
 ·have hk:k<is.length:=by have:=cu h;rw[bJ] at this;exact kN.mp this
  have e:ik sv (.int k) H=jR (is.map V.int) (k:Int):=by
   refine(?_:(match mD H sv with|some vs=>jR vs (k:Int)|none=>_)=_)
   rw[hs]
  refine aA (a:=.int (is.getD k 0)) ?_ q
  rw[e,show jR (is.map V.int) (k:Int)=(is.map V.int)[k]? from bQ (ni k),i7,iB hk,zN,iB hk];rfl
 ·have hk:¬k<is.length:=λhk=>absurd (zR h) (not_not_intro (by rw[bJ];exact kN.mpr hk))
  rw[zN,sP.mpr (ul hk)] at q
  exact q)
open Mine.P
noncomputable abbrev nv(k:Nat):V:=.int (k:Int)
noncomputable abbrev aS(l:List Nat):List V:=l.map nv
structure bb where
 aZ:Int
 cf:List Nat
 ad:Option (Int×List Nat)
 bS:Option Int
variable{ps:List bb}{p q p':bb}
noncomputable def jA:Option Int->V
 |none=>.none
 |some d=>.int d
noncomputable def mL:Option (Int×List Nat)->V
 |none=>.none
 |some a=>.aF [.int a.1,.aF (aS a.2)]
noncomputable def bW(p:bb):V:=.aF [.int p.aZ,.aF (aS p.cf),mL p.ad,jA p.bS]
noncomputable def before(d:Int):Option Int->Bool
 |none=>true
 |some e=>decide (d<e)
noncomputable def g8(p:bb)(d:Int):Bool:=decide (p.aZ<=d)&&before d p.bS
noncomputable def j9(p:bb)(d:Int):List Nat:=match p.ad with
 |none=>p.cf
 |some a=>if a.1<=d then a.2 else p.cf
def aC(H H':Hp):Prop:=∀(l:Nat) (c:aI),H[l]?=some c->H'[l]?=some c
theorem aC.refl(H:Hp):aC H H:=λζ ζ h=>h
theorem aC.trans(a:aC H H₁)(b:aC H₁ H₂):aC H H₂:=λl c h=>b l c (a l c h)
theorem bZ{c:aI}(h:H[l]?=some c):l<H.length:=(d7.mp h).1
theorem bu{c:aI}(t:List aI)(h:H[l]?=some c):(H++t)[l]?=some c:=(sL (bZ h)).trans h
theorem aC.aT(H t:Hp):aC H (H++t):=λl c h=>bu t h
theorem bz(H:Hp)(c:aI):(H++[c])[H.length]?=some c:=List.getElem?_concat_length
theorem d9{c:aI}(h:H[l]?=some c)(c':aI):(H.set l c')[l]?=some c':=sN (bZ h)
theorem dK{c:aI}(h:H[l]?=some c)(c':aI)(hn:m≠l):(H.set m c')[l]?=some c:=(ud hn).trans h
theorem aC.set(h:aC H H'){r:Nat}(hr:H.length<=r)(c:aI):aC H (H'.set r c):=λl c' e=>dK (h l c' e) c λq=>absurd (bZ e) (fv.mpr (q▸hr))
theorem aC.len(h:aC H H'):H.length<=H'.length:=by
 cases e:H.length with
 |zero=>exact iD _
 |succ k=>exact bZ (h k _ (iB (by rw[e];exact jH k)))
theorem ck{as:List V}(h:aH n f as H Q Y):aH n f as H Q Y:=h
theorem cU(h:H[l]?=some (.list vs)):dJ H (.ref l)=some vs:=b7 (Option.bind · uu) h
theorem dU(h:H[l]?=some (.list vs)):keysOf H (.ref l)=some vs:=by
 refine(?_:(match H[l]?.bind jQ with|some es=>_|none=>_)=_)
 rw[h]
 refine(?_:(match H[l]?.bind nA with|some es=>_|none=>mD H (.ref l))=_)
 rw[h]
 exact cU h
theorem XV{α:Type}{l:List α}{a:α}(h:l[k]?=some a):jR l (k:Int)=some a:=(bQ (ni k)).trans h
theorem iU(h:H[l]?=some (.list vs))(hv:vs[k]?=some v):ik (.ref l) (nv k) H=some v:=by
 refine(?_:(match dJ H (.ref l) with|some vs=>jR vs (k:Int)|none=>_)=_)
 rw[cU h];exact XV hv
theorem fY(h:H[l]?=some (.list (ps.map bW)))(hv:ps[k]?=some p):ik (.ref l) (nv k) H=some (bW p):=iU h (by rw[i7,hv];rfl)
theorem uS{c:Prop}[Decidable c]{A B:Prop}(h1:c->A)(h2:¬c->B):cD (decide c) A B:=dp (λh=>h1 (cu h)) λh=>h2 (zR h)
theorem ir{A B:Prop}(h1:t=true->A)(h2:t=false->B):cD (t==true) A B:=by
 cases t
 ·exact h2 rfl
 ·exact h1 rfl
theorem mM{A B:Prop}(h1:t=false->A)(h2:t=true->B):cD (t==false) A B:=by
 cases t
 ·exact h1 rfl
 ·exact h2 rfl
theorem rU(hA:H[l]?=some (.list (ps.map bW)))(hp:ps[k]?=some p)(q:Q (.bool (g8 p d)) H):aH (n+1) 0 [.ref l,nv k,.int d] H Q Y:=WM (by
 refine aA (fY hA hp) ((ir (λh=>?_) λh=>?_:cD (decide (p.aZ<=d)==true) _ _))
 ·have q:Q (.bool (decide (p.aZ<=d)&&before d p.bS)) H:=q
  rw[h] at q
  cases hd:p.bS with
  |none=>rw[hd] at q;exact q
  |some e=>rw[hd] at q;exact q
 ·have q:Q (.bool (decide (p.aZ<=d)&&before d p.bS)) H:=q
  rw[h] at q
  refine(?_:Q (.bool (decide (p.aZ<=d))) H)
  rw[h];exact q)
section
variable{t:d8}{K:Out->Prop}{α:Type}{g:α->V}
theorem gq{body:bv->Hp->(Out->Prop)->Prop}(I:List α->bv->Hp->Prop)(step:∀a as ρ H,I (a::as) ρ H->aO (aY t (g a) ρ) λcg=>∀N:bv->Hp->Prop,(∀gW H₁,fS ws H₀ H₁=true->I as gW H₁->N gW H₁)->body cg H (qD K N))(fin:∀ρ H,I [] ρ H->K (.next ρ H)):∀as ρ H,I as ρ H->pL ws H₀ t body (as.map g) ρ H K
 |[],ρ,H,h=>fin ρ H h
 |a::as,ρ,H,h=>wC (step a as ρ H h) λcg hb=>hb _ λgW H₁ hs hi=>⟨hs,gq I step fin as gW H₁ hi⟩
theorem AP{test:bv->Hp->(Bool->Hp->Prop)->Prop}{elt:bv->Hp->PQ->Prop}{Q:List V->Hp->Prop}(I:List α->List V->bv->Hp->Prop)(step:∀a as acc ρ H,I (a::as) acc ρ H->aO (aY t (g a) ρ) λcg=>∀N:List V->Hp->Prop,(∀acc' H',fS ws H₀ H'=true->I as acc' cg H'->N acc' H')->test cg H λb H₁=>cD b (elt cg H₁ λy H₂=>N (acc++[y]) H₂) (N acc H₁))(fin:∀acc ρ H,I [] acc ρ H->Q acc H):∀as acc ρ H,I as acc ρ H->iR ws H₀ t test elt (as.map g) ρ H acc Q
 |[],acc,ρ,H,h=>fin acc ρ H h
 |a::as,acc,ρ,H,h=>wC (step a as acc ρ H h) λcg hb=>hb (λacc' H'=>fS ws H₀ H'=true/\iR ws H₀ t test elt (as.map g) cg H' acc' Q) λacc' H' hs hi=>⟨hs,AP I step fin as acc' cg H' hi⟩
end
theorem cZ{A:Prop}(e:t=true)(h:A):gn t A:=by rw[e];exact h
theorem c8{α:Type}{l:List α}(h:l.length<16000000):qC l=true:=dj h
theorem e7{α β:Type}{xs:List α}{f:α->β}(h:xs.length<=k)(hk:k<N:=by decide):(xs.map f).length<N:=by rw[bJ];exact cG h hk
theorem gf{A:Prop}(h:H[l]?=some (.list vs))(a:A):gn ((dJ H (.ref l)).isSome) A:=cZ (b7 isSome (cU h)) a
theorem gg(h:H[l]?=some (.list vs))(hs:vs.length<16000000)(q:Q .none (H.set l (.list (vs++[v])))):oD .append (.ref l) [v] H Q:=aA (cU h) (cZ (c8 hs) q)
theorem pT{f:List V->Prop}(h:m<1000000)(k:f ((List.range m).map nv)):Al (.int 0) (.int m) f:=by
 refine⟨⟨by decide,jp (show(m:Int).natAbs<1000000 from h) (by decide)⟩,?_⟩
 have e:uB 0 m=(List.range m).map nv:=by
  unfold uB
  rw[Int.sub_zero]
  exact List.map_congr_left λi ζ=>b7 V.int (Int.zero_add _)
 rw[e];exact k
theorem dE{c:aI}(h:H[l]?=some c)(h':H'[l]?=some c):fS [l] H H'=true:=by
 refine(?_:(decide (H'[l]?=H[l]?)&&true)=true)
 rw[h,h',dj rfl];rfl
theorem uT(i:Int):∀m,rd H m (.int i)=some (.int i)
 |0=>rfl
 |_+1=>rfl
theorem uU(m:Nat):∀ls:List Nat,gp (rd H m) (aS ls)=some (ls.map λi=>.int i)
 |[]=>rfl
 |a::r=>by
  refine(?_:(match rd H m (nv a),gp (rd H m) (aS r) with|some d,some ds=>some (d::ds)|_,_=>none)=_)
  rw[uT,uU m r];rfl
theorem L1(k:Nat):∀ls:List Nat,((ls.map λi:Nat=>PyData.int i).any λe=>PyData.eqv e (.int k))=decide (k∈ls)
 |[]=>rfl
 |a::r=>by
  rw[nk,any_cons,L1 k r]
  refine(?_:(((a:Int)==(k:Int))||decide (k∈r))=_)
  by_cases h:k=a
  ·rw[h,hX];exact(dj (dD)).symm
  ·rw[show((a:Int)==(k:Int))=false from rC.mpr λe=>h (om e).symm,rF]
   exact xC.mpr ⟨λm=>.tail _ m,λm=>(gB.mp m).resolve_left h⟩
theorem L3:vM H (nv k) (.aF (aS ls))=some (decide (k∈ls)):=by
 refine(?_:((gp (rd H 10) (aS ls)).bind λds=>some (ds.any λe=>PyData.eqv e (.int k)))=_)
 rw[uU]
 exact b7 some (L1 k ls)
theorem L4(h:H[l]?=some (.list (aS ls))):vM H (nv k) (.ref l)=some (decide (k∈ls)):=by
 refine(?_:(match H[l]?.bind jQ with|some es=>_|none=>_)=_)
 rw[h]
 refine(?_:(match H[l]?.bind nA with|some es=>_|none=>(dJ H (.ref l)).bind _)=_)
 rw[h,cU h]
 exact L3 (ls:=ls)
theorem rV{α:Type}{acc:List α}{a:α}{r tot:List α}(e:acc++(a::r)=tot)(h:tot.length<=B):acc.length<B:=by
 rw[<-e,b6,lF] at h;lia
theorem iV{α:Type}{acc:List α}{a:α}{r tot:List α}(e:acc++(a::r)=tot):(acc++[a])++r=tot:=by rw[mA];exact e
theorem Gg(hA:H[l]?=some (.list (ps.map bW)))(hp:ps[k]?=some p)(q:Q (.aF (aS (j9 p d))) H):aH (n+1) 1 [.ref l,nv k,.int d] H Q Y:=WN (by
 apply aA (fY hA hp)
 have q:Q (.aF (aS (match p.ad with|none=>p.cf|some a=>if a.1<=d then a.2 else p.cf))) H:=q
 unfold bW
 cases ha:p.ad with
 |none=>rw[ha] at q;exact q
 |some a=>
  rw[ha] at q
  exact uS (λh=>by rw[show(match(some a:Option (Int×List Nat)) with|none=>p.cf|some a=>if a.1<=d then a.2 else p.cf)=a.2 from bQ h] at q;exact q) λh=>by rw[show(match(some a:Option (Int×List Nat)) with|none=>p.cf|some a=>if a.1<=d then a.2 else p.cf)=p.cf from bH h] at q;exact q)
noncomputable def qL(ps:List bb)(d:Int)(k c:Nat):Bool:=match ps[c]? with
 |some q=>decide (q.aZ<=d)&&decide (k∈j9 q d)
 |none=>false
noncomputable def kids(ps:List bb)(d:Int)(k:Nat):List Nat:=(List.range ps.length).filter (qL ps d k)
noncomputable def L5(ζ:Prop)(ps:List bb)(d:Int)(k l:Nat)(H:Hp)(as:List Nat)(ρ:bv)(H':Hp):Prop:=∀(acc:List Nat) (o:Option V) (e:ρ=[some (.ref l),some (nv k),some (.int d),some (.ref H.length),o]) (x:aC H H') (a:H'[H.length]?=some (.list (aS acc))) (t:acc++as.filter (qL ps d k)=kids ps d k) (b:∀c∈as,c<ps.length),ζ
def Gh:=λps d k l H as ρ H'=>∀ζ:Prop,L5 ζ ps d k l H as ρ H'->ζ
theorem Gh.mk{ps d k l H as ρ H'}:L5 (Gh ps d k l H as ρ H') ps d k l H as ρ H':=λx0 x1 x2 x3 x4 x5 x6 ζ k=>k x0 x1 x2 x3 x4 x5 x6
theorem uV(l:List Nat)(c:Nat):aS l++[nv c]=aS (l++[c]):=(jO (l₁:=l) (l₂:=[c])).symm
theorem at_of{α:Type}{l:List α}(h:k<l.length):∃a,l[k]?=some a:=⟨_,iB h⟩
theorem uW(ps:List bb)(d:Int)(k:Nat):(kids ps d k).length<=ps.length:=aG (oo _ _) (iC jI)
noncomputable abbrev XW(f:Nat):List S:=
 [.aY (.J 3) (.aP []),
  .for (.J 4) (.range (kI 0) (.bi .len [.J 0]))
  [.bD (.and [(.cmp .le (.br (.br (.J 0) (.J 4)) (kI 0)) (.J 2)),(.cmp .ot (.J 1) (.call f [.J 0,.J 4,.J 2]))])
   [.expr (.cR .append (.J 3) [.J 4])]
   []],
  .ret (.J 3)]
theorem XX(hf:∀{H:Hp} {Q Y:PQ} {c:Nat} {p:bb},H[l]?=some (.list (ps.map bW))->ps[c]?=some p->Q (.aF (aS (j9 p d))) H->aH (n+1) f [.ref l,nv c,.int d] H Q Y)(hA:H[l]?=some (.list (ps.map bW)))(hl:ps.length<=20)(q:∀lc H',H.length<=lc->aC H H'->H'[lc]?=some (.list (aS (kids ps d k)))->Q (.ref lc) H'):aX ⟨aH (n+1),Y⟩ (XW f) [some (.ref l),some (nv k),some (.int d),none,none] H (fA Q):=by
 apply aA (cU (bu [.list []] hA))
 rw[bJ]
 refine pT (cG hl (by decide)) (gq (Gh ps d k l H) (λc as ρ H' h=>?_) (λρ H' h=>?_) _ _ _ (.mk [] none rfl (aC.aT _ _) (bz _ _) rfl (λc hc=>i8.mp hc)))
 ·refine h _ λacc o e x a t b=>?_
  subst e
  refine λN hN=>(at_of (b c dD)).elim λp hc=>aA (fY (x l _ hA) hc) ?_
  have ht:acc++(if qL ps d k c then c::as.filter (qL ps d k) else as.filter (qL ps d k))=kids ps d k:=by rw[<-filter_cons];exact t
  rw[show qL ps d k c=(decide (p.aZ<=d)&&decide (k∈j9 p d)) by unfold qL;rw[hc]] at ht
  have no:∀o,(decide (p.aZ<=d)&&decide (k∈j9 p d))=false->N [some (.ref l),some (nv k),some (.int d),some (.ref H.length),o] H':=λo e=>hN _ _ rfl (.mk acc o rfl x a (by rw[e] at ht;exact ht) (λc hc=>b c (.tail _ hc)))
  refine(ir (λh1=>?_) λh1=>?_:cD (decide (p.aZ<=d)==true) _ _)
  ·refine ck (hf (x l _ hA) hc (aA (L3) (dp (λh2=>?_) λh2=>no _ (by rw[h2,Bool.and_false]))))
   rw[h1,h2] at ht
   exact gf a (gg a (by rw[bJ];exact rV ht (aG (uW ps d k) (aG hl (by decide)))) (hN _ _ rfl (.mk (acc++[c]) _ rfl (x.set (bX _) _) (by rw[<-uV];exact d9 a _) (iV ht) (λc hc=>b c (.tail _ hc)))))
  ·exact(dp (λh2=>absurd (h1.symm.trans h2) gM) λζ=>no _ (by rw[h1,Bool.false_and]))
 ·refine h _ λacc o e x a t b=>?_
  subst e
  rw[filter_nil,fN] at t
  exact q _ _ (bX _) x (t▸a)
theorem AQ(hA:H[l]?=some (.list (ps.map bW)))(hl:ps.length<=20)(q:∀lc H',H.length<=lc->aC H H'->H'[lc]?=some (.list (aS (kids ps d k)))->Q (.ref lc) H'):aH (n+2) 2 [.ref l,nv k,.int d] H Q Y:=WP (XX (λa b q=>Gg a b q) hA hl q)
noncomputable def hZ(ps:List bb)(b:Int):Nat:=ps.countP λq=>decide (b<q.aZ)
theorem XY{b b':Int}(h:b<=b')(ps:List bb):hZ ps b'<=hZ ps b:=List.countP_mono_left λq ζ hq=>dj (lt_of_le_of_lt h (cu hq))
theorem Gi{b:Int}{q:bb}(hb:b<q.aZ):∀{ps:List bb},q∈ps->hZ ps q.aZ<hZ ps b
 |p::r,h=>by
  refine(?_:countP _ (p::r)<countP _ (p::r))
  rw[countP_cons,countP_cons]
  rcases gB.mp h with e|h
  ·rw[<-e,gE (Int.lt_irrefl _),dj hb]
   exact lt_succ_of_le (XY (le_of_lt hb) r)
  ·refine Nat.add_lt_add_of_lt_of_le (Gi hb h) ?_
   by_cases h1:q.aZ<p.aZ
   ·rw[dj h1,dj (lt_trans hb h1)];exact bX _
   ·rw[gE h1];exact iD _
theorem AR(h:q∈ps):hZ ps q.aZ<ps.length:=cL (Gi (b:=q.aZ - 1) (Int.sub_lt_self _ (by decide)) h) List.countP_le_length
def jt(ps:List bb)(b:Int)(j:Nat):Prop:=∃q,ps[j]?=some q/\q.aZ<b
def kg(l:List Nat):Prop:=l.length<=2/\l.Nodup
noncomputable def L6(ζ:Prop)(ps:List bb)(p:bb):Prop:=∀(a:∀j∈p.cf,jt ps p.aZ j) (b:∀x,p.ad=some x->∀j∈x.2,jt ps p.aZ j) (c:kg p.cf) (d:∀x,p.ad=some x->kg x.2) (z:0<=p.aZ),ζ
def oK:=λps p=>∀ζ:Prop,L6 ζ ps p->ζ
theorem oK.mk{ps p}:L6 (oK ps p) ps p:=λx0 x1 x2 x3 x4 ζ k=>k x0 x1 x2 x3 x4
def fk(ps:List bb):Prop:=∀(k:Nat) p,ps[k]?=some p->oK ps p
theorem L7{ps:List bb}{P:List Nat->Prop}(h1:P p.cf)(h2:∀x,p.ad=some x->P x.2)(d:Int):P (j9 p d):=by
 unfold j9
 cases h:p.ad with
 |none=>exact h1
 |some a=>
  refine(?_:P (if a.1<=d then a.2 else p.cf))
  split
  ·exact h2 a h
  ·exact h1
theorem AS(hW:fk ps){p:bb}(hp:ps[k]?=some p)(d:Int):∀j∈j9 p d,jt ps p.aZ j:=(hW k p hp) _ λa b ζ ζ ζ=>L7 (ps:=ps) (P:=λl=>∀j∈l,jt ps p.aZ j) a b d
theorem XZ(hW:fk ps)(hp:ps[k]?=some p)(d:Int):kg (j9 p d):=(hW k p hp) _ λζ ζ a b ζ=>L7 (ps:=ps) (P:=kg) a b d
theorem L8(hW:fk ps)(hp:ps[k]?=some p)(d:Int):(j9 p d).length<=2:=(XZ hW hp d).1
theorem L9{c:Nat}{M:Prop}(h:qL ps d k c=true)(f:∀q,ps[c]?=some q->k∈j9 q d->M):M:=by
 unfold qL at h
 cases hq:ps[c]? with
 |none=>rw[hq] at h;exact absurd h gM
 |some q=>rw[hq] at h;exact f q hq (cu (iA.mp h).2)
theorem yK(hW:fk ps){c:Nat}(hp:ps[k]?=some p){M:Prop}(h:c∈kids ps d k)(f:∀q,ps[c]?=some q->p.aZ<q.aZ->hZ ps q.aZ<hZ ps p.aZ->M):M:=
 L9 (nq.mp h).2 λq hq hm=>(AS hW hq d k hm).elim λq2 h2=>by
  rw[hp] at h2
  obtain⟨e,ey⟩:=h2
  cases e
  exact f q hq ey (Gi ey (ie hq))
noncomputable def lv(ps:List bb)(d:Int)(k:Nat):Bool:=match ps[k]? with
 |some p=>g8 p d
 |none=>false
theorem mf(h:ps[k]?=some p):lv ps d k=g8 p d:=by unfold lv;rw[h]
noncomputable def kh(ps:List bb)(d:Int):Nat->Nat->Bool
 |0,_=>false
 |f+1,k=>lv ps d k||(kids ps d k).any (kh ps d f)
noncomputable def Ma(ζ:Prop)(ps:List bb)(d:Int)(f k l lc:Nat)(H:Hp)(as:List Nat)(ρ:bv)(H':Hp):Prop:=∀(o:Option V) (e:ρ=[some (.ref l),some (nv k),some (.int d),o]) (x:aC H H') (a:H'[lc]?=some (.list (aS (kids ps d k)))) (t:as.any (kh ps d f)=kh ps d (f+1) k) (b:∀c∈as,c∈kids ps d k),ζ
def Gj:=λps d f k l lc H as ρ H'=>∀ζ:Prop,Ma ζ ps d f k l lc H as ρ H'->ζ
theorem Gj.mk{ps d f k l lc H as ρ H'}:Ma (Gj ps d f k l lc H as ρ H') ps d f k l lc H as ρ H':=λx0 x1 x2 x3 x4 x5 ζ k=>k x0 x1 x2 x3 x4 x5
theorem Gk{d:Int}{ps:List bb}(hW:fk ps)(hl:ps.length<=20){n:Nat}:∀{f k:Nat} {p:bb} {H:Hp} {Q Y:PQ},H[l]?=some (.list (ps.map bW))->ps[k]?=some p->hZ ps p.aZ<f->(∀H',aC H H'->Q (.bool (kh ps d f k)) H')->aH (n+f+2) 3 [.ref l,nv k,.int d] H Q Y
 |0,k,p,H,Q,Y,_,_,hf,_=>absurd hf (not_lt_zero _)
 |f+1,k,p,H,Q,Y,hA,hp,hf,q=>WQ (by
  have e0:kh ps d (f+1) k=(g8 p d||(kids ps d k).any (kh ps d f)):=by rw[<-mf hp];rfl
  refine ck (rU hA hp ((dp (λh=>?_) λh=>?_:cD (g8 p d) _ _)))
  ·rw[h] at e0
   have:=q H (aC.refl H)
   rw[e0] at this
   exact this
  ·rw[h] at e0
   refine ck (AQ (n:=n+f) hA hl λlc H₁ ζ x hc=>aA (dU hc) (gq (Gj ps d f k l lc H) (λc as ρ H' h=>?_) (λρ H' h=>?_) _ _ _ (.mk _ rfl x hc e0.symm (λc h=>h))))
   ·refine h _ λo e x' a t b=>?_
    subst e
    refine λN hN=>yK hW hp (b c dD) λp' fJ ζ hy=>?_
    rw[any_cons] at t
    refine ck (Gk hW hl (x' l _ hA) fJ (cL hy (le_of_lt_succ hf)) λH₂ cN=>(dp (λh2=>?_) λh2=>?_:cD (kh ps d f c) _ _))
    ·rw[h2] at t
     have:=q H₂ (x'.trans cN)
     rw[<-t] at this
     exact this
    ·rw[h2] at t
     exact hN _ _ (dE hc (cN _ _ a)) (.mk _ rfl (x'.trans cN) (cN _ _ a) t (λc hc=>b c (.tail _ hc)))
   ·refine h _ λo e x' a t b=>?_
    subst e
    have:=q H' x'
    rw[<-t] at this
    exact this)
noncomputable def rv(x:Rat):V:=.aF [.int x.num,.int (x.den:Int)]
def Sm(b:Nat)(x:Rat):Prop:=x.num.natAbs<2^b/\x.den<2^b
theorem Mb{a:Int}{d:Nat}(hd:d≠0):rv (Rat.normalize a d hd)=.aF [.int (a.fdiv (gcd a d)),.int ((d:Int).fdiv (gcd a d))]:=by
 rw[Rat.normalize_eq,Int.fdiv_eq_ediv_of_nonneg _ (ni _),Int.fdiv_eq_ediv_of_nonneg _ (ni _)]
 rfl
theorem Sm.tG{b:Nat}{a:Int}{d:Nat}(hd:d≠0)(ha:a.natAbs<2^b)(h:d<2^b):Sm b (Rat.normalize a d hd):=by
 rw[Rat.normalize_eq]
 exact⟨cG (Int.natAbs_ediv_le_natAbs _ _) ha,cG (Nat.div_le_self _ _) h⟩
theorem uX{b:Nat}(ha:a<2^i)(hb:b<2^j):a*b<2^(i+j):=by
 rw[Nat.pow_add]
 exact Nat.mul_lt_mul_of_lt_of_le ha (cW hb) (Nat.two_pow_pos j)
theorem Sm.le{b c:Nat}{x:Rat}(h:Sm b x)(e:b<=c):Sm c x:=⟨cL h.1 (zS (by decide) e),cL h.2 (zS (by decide) e)⟩
theorem Sm.mul{x:Rat}(hx:Sm i x)(hy:Sm j y):Sm (i+j) (x*y):=by
 rw[Rat.mul_def]
 exact Sm.tG _ (by rw[natAbs_mul];exact uX hx.1 hy.1) (uX hx.2 hy.2)
theorem Mc{b:Nat}(ha:a<2^i)(hb:b<2^i):a+b<2^(i+1):=by rw[Nat.pow_succ,Nat.mul_two];exact Nat.add_lt_add ha hb
theorem Sm.sub{x:Rat}(hx:Sm i x)(hy:Sm j y):Sm (i+j+1) (x - y):=by
 rw[Rat.sub_def]
 refine Sm.tG _ (cG (Int.natAbs_sub_le _ _) ?_) (cL (uX hx.2 hy.2) (zS (by decide) (kO _)))
 rw[natAbs_mul,natAbs_mul]
 exact Mc (uX hx.1 hy.2) (by rw[pC];exact uX hy.1 hx.2)
theorem Md{a:Int}(h:a.natAbs<2^i):Builtin.Int.intBits a<=i:=by
 unfold Builtin.Int.intBits
 split
 ·exact iD _
 ·rename_i h0
  exact(Nat.log2_lt λe=>h0 (by rw[Int.natAbs_eq_zero.mp e];rfl)).mpr h
theorem mh{a b:Int}(ha:a.natAbs<2^i)(hb:b.natAbs<2^j)(h:i+j<=1000000):binI .mul a b=some (a*b):=by
 refine bQ ?_
 have e:Builtin.Int.intTooBig (Builtin.Int.intBits a+Builtin.Int.intBits b)=false:=gE λq=>absurd (aG (oq (Md ha) (Md hb)) h) (not_le.mpr (cG (by decide:1000000<=bitsLine) (kN.mp q)))
 unfold yf
 rw[e,Bool.and_false];rfl
section
variable{a:Int}{d:Nat}
theorem tH(hd:d≠0)(k:Q (rv (Rat.normalize a d hd)) H):aH (n+1) 7 [.int a,nv d] H Q Y:=XT (kN.mpr (Nat.pos_of_ne_zero hd)) (Mb hd▸k)
theorem Mf(hd:d≠0)(k:Q (rv (Rat.normalize a d hd)) H):aH (n+1) 41 [.int a,nv d] H Q Y:=XU (kN.mpr (Nat.pos_of_ne_zero hd)) (Mb hd▸k)
section
variable{x:Rat}(hx:Sm i x)(hy:Sm j y)(h:i+j<=1000000)
include hx hy h
theorem AU(k:Q (rv (x*y)) H):aH (n+2) 10 [rv x,rv y] H Q Y:=WZ (by
 refine aA (mh hx.1 hy.1 h) (aA (mh (a:=(x.den:Int)) (b:=(y.den:Int)) hx.2 hy.2 h) ?_)
 rw[Rat.mul_def] at k
 exact ck (tH _ k))
theorem Gm(k:Q (rv (x+y)) H):aH (n+2) 8 [rv x,rv y] H Q Y:=WX (by
 refine aA (mh (b:=(y.den:Int)) hx.1 hy.2 h) (aA (mh (b:=(x.den:Int)) hy.1 hx.2 (by rw[pC];exact h)) (aA (mh (a:=(x.den:Int)) (b:=(y.den:Int)) hx.2 hy.2 h) ?_))
 rw[Rat.add_def] at k
 exact ck (tH _ k))
theorem Mg(k:Q (rv (x - y)) H):aH (n+2) 9 [rv x,rv y] H Q Y:=WY (by
 refine aA (mh (b:=(y.den:Int)) hx.1 hy.2 h) (aA (mh (b:=(x.den:Int)) hy.1 hx.2 (by rw[pC];exact h)) (aA (mh (a:=(x.den:Int)) (b:=(y.den:Int)) hx.2 hy.2 h) ?_))
 rw[Rat.sub_def] at k
 exact ck (tH _ k))
end
theorem Gn(hm:m≠0)(hb:m<2^5)(k:Q (rv (mkRat 1 m)) H):aH (n+2) 11 [.aF [.int 1,.int 1],nv m] H Q Y:=W0 (by
 have e:∀m',m'=m->∀h,Q (rv (Rat.normalize 1 m' h)) H:=by intro m' e h;rw[sR,e];exact k
 exact ck (tH (d:=1*m) (by rw[one_mul];exact hm) (e _ (one_mul m) _)))
theorem Sm.inv(hm:m≠0)(hb:m<2^5):Sm 5 (mkRat 1 m):=by rw[<-sR hm];exact Sm.tG hm (by decide) hb
end
def bO(r:Nat)(H H':Hp):Prop:=∀(l:Nat) (c:aI),l≠r->H[l]?=some c->H'[l]?=some c
theorem bO.refl(r:Nat)(H:Hp):bO r H H:=λζ ζ ζ h=>h
theorem bO.trans{r:Nat}(a:bO r H H₁)(b:bO r H₁ H₂):bO r H H₂:=λl c n h=>b l c n (a l c n h)
theorem aC.b(h:aC H H')(r:Nat):bO r H H':=λl c ζ e=>h l c e
theorem bO.aT(r:Nat)(H t:Hp):bO r H (H++t):=(aC.aT H t).b r
theorem bO.set(r:Nat)(H:Hp)(c:aI):bO r H (H.set r c):=λl c' n h=>dK h c λe=>n e.symm
theorem bO.ext{r:Nat}(h:bO r H₁ H')(x:aC H H₁)(hr:H.length<=r):aC H H':=λl c e=>h l c (λq=>absurd (bZ e) (fv.mpr (q▸hr))) (x l c e)
inductive ct{α β:Type}(R:α->β->Prop):List α->List β->Prop
 |nil:ct R [] []
 |cons {a:α} {v:β} {as:List α} {vs:List β}:R a v->ct R as vs->ct R (a::as) (v::vs)
theorem ct.imp{α β:Type}{R R':α->β->Prop}{as:List α}{vs:List β}(h:ct R as vs)(f:∀a v,R a v->R' a v):ct R' as vs:=h.rec (motive:=λas vs ζ=>ct R' as vs) .nil λr ζ ih=>.cons (f _ _ r) ih
theorem ct.imp'{α β:Type}{R R':α->β->Prop}{as:List α}{vs:List β}(h:ct R as vs):(∀a v,a∈as->R a v->R' a v)->ct R' as vs:=h.rec (motive:=λas vs ζ=>(∀a v,a∈as->R a v->R' a v)->ct R' as vs) (λζ=>.nil) λr ζ ih f=>.cons (f _ _ dD r) (ih λa v m=>f a v (.tail _ m))
theorem ct.snoc{α β:Type}{R:α->β->Prop}{as:List α}{vs:List β}(h:ct R as vs){a:α}{v:β}(r:R a v):ct R (as++[a]) (vs++[v]):=h.rec (motive:=λas vs ζ=>ct R (as++[a]) (vs++[v])) (.cons r .nil) λr ζ ih=>.cons r ih
theorem ct.len{α β:Type}{R:α->β->Prop}{as:List α}{vs:List β}(h:ct R as vs):vs.length=as.length:=by
 induction h with
 |nil=>rfl
 |cons _ _ ih=>exact b7 Nat.succ ih
section
variable{t:d8}{K:Out->Prop}{α:Type}{R:α->V->Prop}
theorem AV{body:bv->Hp->(Out->Prop)->Prop}(I:List α->bv->Hp->Prop)(step:∀a v as ρ H,R a v->I (a::as) ρ H->aO (aY t v ρ) λcg=>∀N:bv->Hp->Prop,(∀gW H₁,fS ws H₀ H₁=true->I as gW H₁->N gW H₁)->body cg H (qD K N))(fin:∀ρ H,I [] ρ H->K (.next ρ H)){as:List α}(h:ct R as vs):∀ρ H,I as ρ H->pL ws H₀ t body vs ρ H K:=
 h.rec (motive:=λas vs ζ=>∀ρ H,I as ρ H->pL ws H₀ t body vs ρ H K) fin λr ζ ih ρ H h=>wC (step _ _ _ ρ H r h) λcg hb=>hb _ λgW H₁ hs hi=>⟨hs,ih gW H₁ hi⟩
end
structure Row where
 gr:Nat
 rW:Rat
 line:List Nat
noncomputable def Mh(ζ:Prop)(b:Nat)(H:Hp)(r:Row)(v:V):Prop:=∀(l:Nat) (hb:b<=l) (e:v=.aF [nv r.gr,rv r.rW,.ref l]) (a:H[l]?=some (.list (aS r.line))),ζ
def pU:=λb H r v=>∀ζ:Prop,Mh ζ b H r v->ζ
theorem pU.mk{b H r v}:Mh (pU b H r v) b H r v:=λx0 x1 x2 x3 ζ k=>k x0 x1 x2 x3
theorem pU.mono{b:Nat}{r:Row}(h:pU b H r v)(f:∀(l:Nat) c,b<=l->H[l]?=some c->b'<=l/\H'[l]?=some c):pU b' H' r v:=h _ λl hb e a=>(.mk l ((f l _ hb a).1) e ((f l _ hb a).2))
abbrev mO(b:Nat)(H:Hp):List Row->List V->Prop:=ct (pU b H)
theorem mO.b{r:Nat}{rs:List Row}(h:mO (r+1) H rs vs)(x:bO r H H'):mO (r+1) H' rs vs:=h.imp λζ ζ h=>h.mono λl c hb e=>⟨hb,x l c (dm hb) e⟩
noncomputable def mi(ps:List bb)(d:Int)(cs:List Nat):List Nat:=cs.filter (kh ps d 20)
noncomputable def up(k:Nat)(s:Rat)(r:Row):Row:=⟨r.gr,s*r.rW,k::r.line⟩
noncomputable def rowsOf(ps:List bb)(d:Int)(rec:Nat->List Row)(k:Nat)(s:Rat)(c:Nat):List Row:=if lv ps d c then[⟨c,s,[k,c]⟩] else(rec c).map (up k s)
noncomputable def kj(ps:List bb)(d:Int)(rec:Nat->List Row)(k:Nat)(ts:List Nat):List Row:=ts.flatMap (rowsOf ps d rec k (mkRat 1 ts.length))
noncomputable def lM(ps:List bb)(d:Int):Nat->Nat->List Row
 |0,_=>[]
 |f+1,k=>kj ps d (lM ps d f) k (mi ps d (kids ps d k))
def Dk(H:Hp)(rs:List Row)(Q:PQ):Prop:=∀lr vs H',H.length<=lr->aC H H'->H'[lr]?=some (.list vs)->mO (lr+1) H' rs vs->Q (.ref lr) H'
noncomputable def Mi(ζ:Prop)(ps:List bb)(d:Int)(eW:bv)(H:Hp)(cs as:List Nat)(acc:List V)(ρ:bv)(H':Hp):Prop:=∀(o:Option V) (an:List Nat) (e:ρ=o::eW) (x:aC H H') (ea:acc=aS an) (t:an++mi ps d as=mi ps d cs) (b:∀c∈as,c∈cs),ζ
def Go:=λps d eW H cs as acc ρ H'=>∀ζ:Prop,Mi ζ ps d eW H cs as acc ρ H'->ζ
theorem Go.mk{ps d eW H cs as acc ρ H'}:Mi (Go ps d eW H cs as acc ρ H') ps d eW H cs as acc ρ H':=λx0 x1 x2 x3 x4 x5 x6 ζ k=>k x0 x1 x2 x3 x4 x5 x6
noncomputable def Mj(ζ:Prop)(ps:List bb)(d:Int)(rec:Nat->List Row)(l k lc lt lr:Nat)(H₁:Hp)(s:Rat)(tot:List Row)(ts as:List Nat)(ρ:bv)(H':Hp):Prop:=∀(a6 a7 a8 a9 nH:Option V) (rs:List Row) (vs:List V) (e:ρ=[some (.ref l),some (nv k),some (.ref lc),some (.int d),some (.ref lt),some (.ref lr),a6,a7,a8,a9,nH]) (x:bO lr H₁ H') (a:H'[lr]?=some (.list vs)) (r:mO (lr+1) H' rs vs) (t:rs++as.flatMap (rowsOf ps d rec k s)=tot) (b:∀c∈as,c∈ts),ζ
def Gp:=λps d rec l k lc lt lr H₁ s tot ts as ρ H'=>∀ζ:Prop,Mj ζ ps d rec l k lc lt lr H₁ s tot ts as ρ H'->ζ
theorem Gp.mk{ps d rec l k lc lt lr H₁ s tot ts as ρ H'}:Mj (Gp ps d rec l k lc lt lr H₁ s tot ts as ρ H') ps d rec l k lc lt lr H₁ s tot ts as ρ H':=λx0 x1 x2 x3 x4 x5 x6 x7 x8 x9 dz fK eA ζ k=>k x0 x1 x2 x3 x4 x5 x6 x7 x8 x9 dz fK eA
noncomputable def Mk(ζ:Prop)(l k lr:Nat)(x2 x3 x4 x5 x6:Option V)(H₁:Hp)(s:Rat)(tot rest:List Row)(as:List Row)(ρ:bv)(H':Hp):Prop:=∀(a8 a9 nH:Option V) (rs:List Row) (vs:List V) (e:ρ=[some (.ref l),some (nv k),x2,x3,x4,x5,x6,some (rv s),a8,a9,nH]) (x:bO lr H₁ H') (a:H'[lr]?=some (.list vs)) (r:mO (lr+1) H' rs vs) (t:rs++(as.map (up k s)++rest)=tot),ζ
def Dl:=λl k lr x2 x3 x4 x5 x6 H₁ s tot rest as ρ H'=>∀ζ:Prop,Mk ζ l k lr x2 x3 x4 x5 x6 H₁ s tot rest as ρ H'->ζ
theorem Dl.mk{l k lr x2 x3 x4 x5 x6 H₁ s tot rest as ρ H'}:Mk (Dl l k lr x2 x3 x4 x5 x6 H₁ s tot rest as ρ H') l k lr x2 x3 x4 x5 x6 H₁ s tot rest as ρ H':=λx0 x1 x2 x3 x4 x5 x6 x7 x8 x9 ζ k=>k x0 x1 x2 x3 x4 x5 x6 x7 x8 x9
theorem tI{b:Nat}{xs ys:List V}(ha:H[a]?=some (.list xs))(hb:H[b]?=some (.list ys))(hs:(xs++ys).length<16000000)(q:Q (.ref H.length) (H++[.list (xs++ys)])):uC .add (.ref a) (.ref b) H Q:=by
 exact aA (cU ha) (aA (cU hb) (cZ (c8 hs) q))
def oM(f:Nat)(r:Row):Prop:=Sm (5*f) r.rW/\r.line.length<=f+1
theorem Ml{d:Int}{ps:List bb}(hW:fk ps)(hl:ps.length<=20){rec:Nat->List Row}{cs:List Nat}(kZ:cs.length<=20)(uN:∀c∈cs,∃p,ps[c]?=some p)(hr:∀c∈cs,∀r∈rec c,oM 21 r)(ht:(kj ps d rec k (mi ps d cs)).length<=16000000)
  (IH:∀c∈cs,∀(H:Hp) (Q Y:PQ),H[l]?=some (.list (ps.map bW))->Dk H (rec c) Q->aH (n+23) 13 [.ref l,nv c,.int d] H Q Y)
  (hA:H[l]?=some (.list (ps.map bW))) (hC:H[lc]?=some (.list (aS cs))) (q:Dk H (kj ps d rec k (mi ps d cs)) Q):aH (n+24) 12 [.ref l,nv k,.ref lc,.int d] H Q Y:=W1 (by
 refine aA (dU hC) (cZ (c8 (e7 kZ)) (AP (Go ps d [some (.ref l),some (nv k),some (.ref lc),some (.int d),none,none,none,none,none,none,none] H cs) (λc as acc ρ H' h=>?_) (λacc ρ H' h=>?_) _ _ _ _ (.mk none [] rfl (aC.refl H) rfl rfl (λc h=>h))))
 ·refine h _ λo an e x ea t b=>?_
  subst e
  refine λN hN=>(uN c (b c dD)).elim λp hp=>?_
  have t':an++(if kh ps d 20 c then c::mi ps d as else mi ps d as)=mi ps d cs:=by rw[<-t];unfold mi;rw[filter_cons]
  refine ck (Gk (n:=n+1) (f:=20) hW hl (x l _ hA) hp (cL (AR (ie hp)) hl) λH₂ cN=>?_)
  have st:fS [lc] H H₂=true:=dE hC ((x.trans cN) _ _ hC)
  refine dp (λh2=>?_) λh2=>?_
  ·rw[h2] at t'
   exact hN _ _ st (.mk _ (an++[c]) rfl (x.trans cN) (by rw[ea];exact uV an c) (iV t') (λc hc=>b c (.tail _ hc)))
  ·rw[h2] at t'
   exact hN _ _ st (.mk _ an rfl (x.trans cN) ea t' (λc hc=>b c (.tail _ hc)))
 ·refine h _ λo an e x ea t b=>?_
  subst ea
  rw[show mi ps d []=[] from rfl,fN] at t
  subst t
  generalize yL:mi ps d cs=ts at *
  have hm:∀c∈ts,c∈cs:=λc h=>(nq.mp (show c∈cs.filter _ from yL▸h)).1
  have ey:ts.length<=20:=aG (aG (iC (b7 List.length yL.symm)) (oo _ _)) kZ
  generalize hs:mkRat 1 ts.length=s
  have Gq:ts≠[]->Sm 5 s:=λh=>hs▸Sm.inv (λe=>h (vD e)) (cG ey (by decide))
  have a1:(H'++[aI.list (aS ts)]++[aI.list []])[H'.length]?=some (.list (aS ts)):=bu _ (bz _ _)
  apply aA (dU a1)
  have oN:H'.length<(H'++[aI.list (aS ts)]).length:=by rw[b6];exact jH _
  refine gq (Gp ps d rec l k lc H'.length (H'++[aI.list (aS ts)]).length (H'++[aI.list (aS ts)]++[aI.list []]) s (kj ps d rec k ts) ts) (λc as ρ H₂ h=>?_) (λρ H₂ h=>?_) _ _ _ (.mk none none none none none [] [] rfl (bO.refl _ _) (bz _ _) .nil (by rw[<-hs];rfl) (λc h=>h))
  ·refine h _ λa6 a7 a8 a9 nH rs vs e cN a r t b=>?_
   subst e
   refine λN hN=>?_
   have nI:=cN _ _ (dq oN) a1
   have c6:aC H H₂:=cN.ext (x.trans ((aC.aT _ _).trans (aC.aT _ _))) (aG x.len (cW oN))
   have hc:=b c dD
   have fG:ts≠[]:=ne_nil_of_mem hc
   refine(uN c (hm c hc)).elim λp hp=>?_
   rw[flatMap_cons,show rowsOf ps d rec k s c=if g8 p d then[⟨c,s,[k,c]⟩] else(rec c).map (up k s) by rw[<-mf hp];rfl] at t
   apply aA (cU nI)
   rw[bJ]
   refine ck (Gn (λe=>fG (vD e)) (cG ey (by decide)) ?_)
   rw[hs]
   refine ck (rU (c6 l _ hA) hp ((dp (λh2=>?_) λh2=>?_:cD (g8 p d) _ _)))
   ·rw[h2] at t
    have t:rs++(⟨c,s,[k,c]⟩::as.flatMap (rowsOf ps d rec k s))=kj ps d rec k ts:=t
    refine gf a (gg (bu _ a) (by rw[r.len];exact rV t ht) (hN _ _ (dE a1 (dK (bu _ nI) _ (dm oN))) (.mk _ _ _ _ _ (rs++[⟨c,s,[k,c]⟩]) _ rfl (cN.trans ((bO.aT _ _ _).trans (bO.set _ _ _))) (d9 (bu _ a) _) ((r.b ((bO.aT _ _ _).trans (bO.set _ _ _))).snoc (.mk H₂.length (bZ a) rfl (dK (bz _ _) _ (dq (bZ a))))) (iV t) (λc hc=>b c (.tail _ hc)))))
   ·rw[h2] at t
    have t:rs++((rec c).map (up k s)++as.flatMap (rowsOf ps d rec k s))=kj ps d rec k ts:=t
    refine ck (IH c (hm c hc) _ _ _ (c6 l _ hA) λlb us H₃ hb gu ab rb=>?_)
    have a':=gu _ _ a
    have oO:=cL (bZ a) hb
    refine aA (dU ab) (AV (R:=λr v=>r∈rec c/\pU (lb+1) H₃ r v) (Dl l k (H'++[aI.list (aS ts)]).length (some (.ref lc)) (some (.int d)) (some (.ref H'.length)) (some (.ref (H'++[aI.list (aS ts)]).length)) (some (nv c)) H₃ s (kj ps d rec k ts) (as.flatMap (rowsOf ps d rec k s))) (λrw v bs ρ H₄ hv h=>?_) (λρ H₄ h=>?_) (rb.imp' λr v hr hv=>⟨hr,hv⟩) _ _ (.mk _ _ _ rs vs rfl (bO.refl _ _) a' (r.b (gu.b _)) t))
    ·refine hv.2 _ λll rX e al=>?_
     subst e
     refine h _ λa8 a9 nH rs vs e ju a r t=>?_
     subst e
     refine λN' mP=>?_
     have sr:=hr c (hm c hc) _ hv.1
     have nl:ll≠(H'++[aI.list (aS ts)]).length:=dm (jp oO rX)
     refine gf a (ck (AU (Gq fG) sr.1 (by decide) (tI (bz _ _) (bu _ (ju _ _ nl al)) (by rw[b6,bJ];exact cG (kL sr.2 _) (show 1+(21+1)<16000000 by decide)) ?_)))
     have iu:bO (H'++[aI.list (aS ts)]).length H₄ _:=(bO.aT _ H₄ [aI.list [nv k]]).trans ((bO.aT _ _ [aI.list (aS (k::rw.line))]).trans (bO.set _ _ (.list (vs++[.aF [nv rw.gr,rv (s*rw.rW),.ref (H₄++[aI.list [nv k]]).length]]))))
     refine gg (bu _ (bu _ a)) (by rw[r.len];exact rV t ht) (mP _ _ (dE ab ((ju.trans iu) _ _ (dm oO) ab)) (.mk _ _ _ (rs++[up k s rw]) _ rfl (ju.trans iu) (d9 (bu _ (bu _ a)) _) ((r.b iu).snoc (.mk ((H₄++[aI.list [nv k]]).length) (bZ (bu _ a)) rfl (dK (bz _ _) _ (dq (bZ (bu _ a)))))) (iV t)))
    ·refine h _ λa8 a9 nH rs vs e ju a r t=>?_
     subst e
     have iu:=(gu.b (H'++[aI.list (aS ts)]).length).trans ju
     exact hN _ _ (dE a1 (iu _ _ (dq oN) nI)) (.mk _ _ _ _ _ rs vs rfl (cN.trans iu) a r t (λc hc=>b c (.tail _ hc)))
  ·refine h _ λa6 a7 a8 a9 nH rs vs e cN a r t b=>?_
   subst e
   rw[flatMap_nil,fN] at t
   exact q _ vs _ (aG x.len (cW oN)) (cN.ext (x.trans ((aC.aT _ _).trans (aC.aT _ _))) (aG x.len (cW oN))) a (t▸r))
noncomputable def wt(w:Int->Nat)(b:Int)(q:bb):Nat:=if b<q.aZ then w q.aZ else 0
theorem Mm(w:Int->Nat)(b:Int):∀l:List bb,(l.map (wt w (b - 1))).sum=(l.map (wt w b)).sum+l.countP (λq=>decide (q.aZ=b))*w b
 |[]=>by rw[List.countP_nil,zero_mul];rfl
 |q::r=>by
  rw[nk,nk,sum_cons,sum_cons,Mm w b r,countP_cons,Nat.add_mul]
  unfold wt
  by_cases h:q.aZ=b
  ·rw[bQ (by rw[h];exact Int.sub_lt_self b (by decide)),bH (by rw[h];exact Int.lt_irrefl b),dj h,h]
   simp only[if_true,one_mul];lia
  ·rw[gE h]
   by_cases h2:b<q.aZ
   ·rw[bQ h2,bQ (lt_of_le_of_lt (Int.sub_le_self b (by decide)) h2)]
    simp only[Bool.false_eq_true,if_false,zero_mul];lia
   ·rw[bH h2,bH (kM.mpr (Int.le_sub_one_of_lt (Int.lt_iff_le_and_ne.mpr ⟨kM.mp h2,h⟩)))]
    simp only[Bool.false_eq_true,if_false,zero_mul];lia
theorem Mn(b:Int):∀l:List bb,hZ l (b - 1)=hZ l b+l.countP (λq=>decide (q.aZ=b))
 |[]=>rfl
 |q::r=>by
  have ih:=Mn b r
  unfold hZ at *
  rw[countP_cons,countP_cons,countP_cons,ih]
  by_cases h:q.aZ=b
  ·rw[dj h,dj (show b - 1<q.aZ by rw[h];exact Int.sub_lt_self b (by decide)),gE (show ¬b<q.aZ by rw[h];exact Int.lt_irrefl _)];rfl
  ·rw[gE h]
   by_cases h2:b<q.aZ
   ·rw[dj h2,dj (show b - 1<q.aZ from lt_of_le_of_lt (Int.sub_le_self b (by decide)) h2)];exact add_right_comm _ _ 1
   ·rw[gE h2,gE (show ¬b - 1<q.aZ from kM.mpr (Int.le_sub_one_of_lt (Int.lt_iff_le_and_ne.mpr ⟨kM.mp h2,h⟩)))];rfl
theorem Mo(ps:List bb)(B:Int)(hB:∀q∈ps,q.aZ<=B):∀j:Nat,(ps.map (wt (λb=>2^hZ ps b) (B - j))).sum<2^hZ ps (B - j)
 |0=>by
  have e:∀l:List bb,(∀q∈l,q.aZ<=B)->(l.map (wt (λb=>2^hZ ps b) (B - (0:Nat)))).sum=0:=λl=>l.rec (motive:=λl=>(∀q∈l,q.aZ<=B)->(l.map (wt (λb=>2^hZ ps b) (B - (0:Nat)))).sum=0) (λζ=>rfl) λq r ih hl=>by
   rw[nk,sum_cons,ih λq hq=>hl q (.tail _ hq)]
   exact bH (by have:=hl q dD;exact kM.mpr (by rw[show B - ((0:Nat):Int)=B from Int.sub_zero B];exact this))
  rw[e ps hB];exact Nat.two_pow_pos _
 |j+1=>by
  have ih:=Mo ps B hB j
  rw[show B - ((j+1:Nat):Int)=B - (j:Int) - 1 from(Int.sub_sub B (j:Int) 1).symm,Mm,Mn,Nat.pow_add]
  generalize ps.countP (λq=>decide (q.aZ=B - (j:Int)))=e
  have h1:e+1<=2^e:=Nat.lt_two_pow_self
  have h2:=Nat.mul_le_mul_right (2^hZ ps (B - (j:Int))) h1
  rw[Nat.add_mul,one_mul] at h2
  rw[mul_comm (2^hZ ps (B - (j:Int))) (2^e)]
  exact cL (by rw[pC];exact Nat.add_lt_add_left ih _) h2
theorem Mp:∀ps:List bb,∃B,∀q∈ps,q.aZ<=B
 |[]=>⟨0,λζ h=>nomatch h⟩
 |p::r=>(Mp r).elim λB h=>⟨max B p.aZ,λq hq=>(gB.mp hq).elim (λe=>e▸Int.le_max_right _ _) λhr=>Int.le_trans (h q hr) (Int.le_max_left _ _)⟩
theorem X0(ps:List bb)(b:Int):(ps.map (wt (λb=>2^hZ ps b) b)).sum<2^hZ ps b:=(Mp ps).elim λB hB=>by
 have h:=Mo ps (max B b) (λq hq=>Int.le_trans (hB q hq) (Int.le_max_left _ _)) (max B b - b).toNat
 rw[show max B b - ((max B b - b).toNat:Int)=b by lia] at h
 exact h
theorem Mq{α:Type}{P:α->Bool}{h g:α->Nat}:∀l:List α,(∀c∈l,P c=true->h c<=g c)->((l.filter P).map h).sum<=(l.map g).sum
 |[],_=>bX _
 |a::r,f=>by
  have ih:=Mq r λc hc=>f c (.tail _ hc)
  rw[filter_cons,nk,sum_cons]
  split
  ·rename_i hp
   rw[nk,sum_cons];exact oq (f a dD hp) ih
  ·exact aG ih (vy _ _)
theorem FL{α:Type}(ps:List α):(List.range ps.length).map (λi=>ps[i]?)=ps.map some:=by
 apply ext_getElem?
 intro i
 rw[i7,i7]
 by_cases h:i<ps.length
 ·rw[List.getElem?_range h,iB h];exact b7 some (iB h)
 ·rw[sO (by rw[jI];exact fv.mp h),sO (fv.mp h)];rfl
theorem X1{b:Int}{P:Nat->Bool}{h:Nat->Nat}(hh:∀c,P c=true->∃q,ps[c]?=some q/\b<q.aZ/\h c<=2^hZ ps q.aZ):(((List.range ps.length).filter P).map h).sum<2^hZ ps b:=by
 refine cG (Mq (g:=λc=>(ps[c]?).elim 0 (wt (λb=>2^hZ ps b) b)) _ λc ζ hc=>?_) (cG (iC ?_) (X0 ps b))
 ·obtain⟨q,h1,h2,h3⟩:=hh c hc
  rw[h1]
  exact aG h3 (iC (bQ h2).symm)
 ·have e:=b7 (λl=>(l.map λo:Option bb=>o.elim 0 (wt (λb=>2^hZ ps b) b)).sum) (FL ps)
  rw[map_map,map_map] at e
  exact e
theorem oM.up{s:Rat}{r:Row}(hs:Sm 5 s)(h:oM f r):oM (f+1) (up k s r):=⟨(hs.mul h.1).le (iC (pC 5 (5*f))),jG h.2⟩
theorem oM.le{r:Row}(h:oM f r)(e:f<=g):oM g r:=⟨h.1.le (oi 5 e),aG h.2 (jG e)⟩
theorem Gr{ps:List bb}{d:Int}{rec:Nat->List Row}{k:Nat}{ts:List Nat}(hl:ts.length<=20)(h:∀c∈ts,∀r∈rec c,oM f r):∀r∈kj ps d rec k ts,oM (f+1) r:=by
 intro r hr
 obtain⟨c,hc,hr⟩:=List.mem_flatMap.mp hr
 have hs:Sm 5 (mkRat 1 ts.length):=Sm.inv (λe=>absurd (vD e) (ne_nil_of_mem hc)) (cG hl (by decide))
 unfold rowsOf at hr
 split at hr
 ·rw[dI.mp hr]
  exact⟨hs.le (vy 5 (5*f)),vy 2 f⟩
 ·obtain⟨r',yJ,rfl⟩:=ii.mp hr
  exact(h c hc r' yJ).up hs
theorem Mr(ps:List bb)(d:Int)(cs:List Nat):(mi ps d cs).length<=cs.length:=oo _ _
theorem wF{ps:List bb}{d:Int}(hl:ps.length<=20):∀(f k:Nat),∀r∈lM ps d f k,oM f r
 |0,k=>λr hr=>nomatch hr
 |f+1,k=>Gr (aG (Mr _ _ _) (aG (uW ps d k) hl)) λc ζ=>wF hl f c
theorem Ms(hW:fk ps){rec:Nat->List Row}(hp:ps[k]?=some p){P:Nat->Bool}(hP:∀c,P c=true->qL ps d k c=true)(h:∀c q,ps[c]?=some q->(rec c).length<=2^hZ ps q.aZ):(kj ps d rec k' ((List.range ps.length).filter P)).length<2^hZ ps p.aZ:=by
 unfold kj
 rw[List.length_flatMap]
 refine X1 λc hc=>L9 (hP c hc) λq hq hm=>(AS hW hq d k hm).elim λq2 h2=>?_
 rw[hp] at h2
 refine⟨q,hq,by cases h2.1;exact h2.2,?_⟩
 unfold rowsOf
 split
 ·exact Nat.two_pow_pos _
 ·rw[bJ];exact h c q hq
theorem AW{ps:List bb}(hW:fk ps){d:Int}:∀(f k:Nat) (p:bb),ps[k]?=some p->(lM ps d f k).length<=2^hZ ps p.aZ
 |0,k,p,_=>iD _
 |f+1,k,p,hp=>by
  refine(?_:(kj ps d (lM ps d f) k (((List.range ps.length).filter (qL ps d k)).filter (kh ps d 20))).length<=_)
  rw[List.filter_filter]
  exact cW (Ms hW hp (λc h=>(iA.mp h).2) (AW hW f))
theorem Dm(hl:ps.length<=20)(b:Int):2^hZ ps b<=1048576:=zS (n:=2) (j:=20) (by decide) (aG List.countP_le_length hl)
theorem Dn{d:Int}{ps:List bb}(hW:fk ps)(hl:ps.length<=20):∀{f k:Nat} {p:bb} {H:Hp} {Q Y:PQ},f<=20->H[l]?=some (.list (ps.map bW))->ps[k]?=some p->hZ ps p.aZ<f->Dk H (lM ps d f k) Q->aH (n+2*f+23) 13 [.ref l,nv k,.int d] H Q Y
 |0,k,p,H,Q,Y,_,_,_,hf,_=>absurd hf (not_lt_zero _)
 |f+1,k,p,H,Q,Y,wG,hA,hp,hf,q=>W2 (by
  refine ck (AQ (n:=n+2*f+22) hA hl λlc H₁ ζ x hc=>(ck (Ml (n:=n+2*f) (rec:=lM ps d f) hW hl (aG (uW ps d k) hl) (λc hc=>yK hW hp hc λq hq ζ ζ=>⟨q,hq⟩) (λc ζ r hr=>(wF hl f c r hr).le (aG (pA wG) (by decide))) (aG (AW hW (f+1) k p hp) (aG (Dm hl _) (by decide))) (λc hc H₂ Q₂ Y₂ X2 X3=>yK hW hp hc λq hq ζ hy=>Dn hW hl (pA wG) X2 hq (cL hy (le_of_lt_succ hf)) X3) (x _ _ hA) hc ?_)))
  exact λlr vs H' hr x' a r=>q lr vs H' (aG x.len hr) (x.trans x') a r)
noncomputable def uY(k c:Nat):Bool:=!((c:Int)==(k:Int))
noncomputable def others(ps:List bb)(d:Int)(k cf:Nat):List Nat:=(kids ps d cf).filter (uY k)
noncomputable def Mt(ζ:Prop)(eW:bv)(H:Hp)(F:Nat->Bool)(tot:List Nat)(as:List Nat)(acc:List V)(ρ:bv)(H':Hp):Prop:=∀(o:Option V) (an:List Nat) (e:ρ=o::eW) (eh:H'=H) (ea:acc=aS an) (t:an++as.filter F=tot),ζ
def Gs:=λeW H F tot as acc ρ H'=>∀ζ:Prop,Mt ζ eW H F tot as acc ρ H'->ζ
theorem Gs.mk{eW H F tot as acc ρ H'}:Mt (Gs eW H F tot as acc ρ H') eW H F tot as acc ρ H':=λx0 x1 x2 x3 x4 x5 ζ k=>k x0 x1 x2 x3 x4 x5
theorem Gu{α:Type}{F:α->Bool}{acc as tot:List α}{a:α}(t:acc++(a::as).filter F=tot){M:Prop}(h1:F a=true->(acc++[a])++as.filter F=tot->M)(h2:F a=false->acc++as.filter F=tot->M):M:=by
 rw[filter_cons] at t
 cases h:F a with
 |true=>rw[h] at t;exact h1 h (iV t)
 |false=>rw[h] at t;exact h2 h t
theorem Mu(hA:H[l]?=some (.list (ps.map bW)))(hl:ps.length<=20)(q:∀lc H',H.length<=lc->aC H H'->H'[lc]?=some (.list (aS (others ps d k cf)))->Q (.ref lc) H'):aH (n+3) 14 [.ref l,nv cf,nv k,.int d] H Q Y:=W3 (by
 refine ck (AQ (n:=n) hA hl λlc H₁ hb x hc=>(aA (dU hc) (cZ (c8 (e7 (aG (uW ps d cf) hl))) (AP (Gs [some (.ref l),some (nv cf),some (nv k),some (.int d)] H₁ (uY k) (others ps d k cf)) (λc as acc ρ H' h=>?_) (λacc ρ H' h=>?_) _ _ _ _ (.mk none [] rfl rfl rfl rfl)))))
 ·refine h _ λo an e eh ea t=>?_
  subst e eh
  exact λN hN=>((Gu t (λh t=>by rw[h];exact hN _ _ (dE hc hc) (.mk _ (an++[c]) rfl rfl (by rw[ea];exact uV an c) t)) λh t=>by rw[h];exact hN _ _ (dE hc hc) (.mk _ an rfl rfl ea t)):cD (uY k c) _ _)
 ·refine h _ λo an e eh ea t=>?_
  subst eh ea
  rw[filter_nil,fN] at t
  subst t
  exact q _ _ (aG hb (cW (bZ hc))) (x.trans (aC.aT _ _)) (bz _ _))
inductive X4{α:Type}(eW:bv)(H:Hp)(F:α->V)(cs as:List α)(acc:List V)(ρ:bv)(H':Hp):Prop
 |mk (o:Option V) (an:List α) (e:ρ=o::eW) (x:aC H H') (ea:acc=an.map F) (t:an++as=cs)
theorem Mv{d:Int}{ps:List bb}(hW:fk ps)(hl:ps.length<=20){cs:List Nat}(uN:∀c∈cs,∃p,ps[c]?=some p){r:bv}{i lc:Nat}(hr:r[i]?.join=some (.int d))(hA:H[l]?=some (.list (ps.map bW))){C3:aI}(hC:H[lc]?=some C3){Q:List V->Hp->Prop}(q:∀H',aC H H'->Q (cs.map λc=>.bool (kh ps d 20 c)) H'):
  iR [lc] H (.J 0) (λρ H Q=>WT ⟨aH (n+22),Y⟩ [] ρ H Q) (λρ H Q=>WE ⟨aH (n+22),Y⟩ (.call 3 [.J 1,.J 0,.J (i+2)]) ρ H Q) (aS cs) (none::some (.ref l)::r) H [] Q:=by
 refine AP (X4 (some (.ref l)::r) H (λc=>.bool (kh ps d 20 c)) cs) (λc as acc ρ H' h=>?_) (λacc ρ H' h=>?_) _ _ _ _ ⟨none,[],rfl,aC.refl H,rfl,rfl⟩
 ·refine h.casesOn λo an e x ea t=>?_
  subst e
  exact λN hN=>(uN c (t▸List.mem_append_right _ dD)).elim λp hp=>aA (show((some (nv c)::some (V.ref l)::r)[i+2]?).join=some (.int d) from hr) (ck (Gk (n:=n) (f:=20) hW hl (x l _ hA) hp (cL (AR (ie hp)) hl) λH₂ cN=>hN _ _ (dE hC ((x.trans cN) _ _ hC)) ⟨_,an++[c],rfl,x.trans cN,by rw[ea,jO];rfl,iV t⟩))
 ·refine h.casesOn λo an e x ea t=>?_
  rw[fN] at t
  subst ea t
  exact q _ x
theorem all_bools{α:Type}(b:α->Bool):∀cs:List α,lZ (cs.map λc=>.bool (b c))=some (cs.map b)
 |[]=>rfl
 |c::r=>by
  refine(?_:((lZ (r.map λc=>.bool (b c))).map (b c::·))=_)
  rw[all_bools b r];rfl
theorem Mw{α:Type}{b:α->Bool}{cs:List α}(h:H[m]?=some (.list (cs.map λc=>.bool (b c)))):(dJ H (.ref m)).bind lZ=some (cs.map b):=by rw[cU h];exact all_bools b cs
theorem Mx{α:Type}(b:α->Bool)(cs:List α):(cs.map b).any id=cs.any b:=List.any_map
theorem ia{A B:Prop}(h:t=true)(a:A):cD t A B:=by rw[h];exact a
theorem fL{A B:Prop}(h:t=false)(b:B):cD t A B:=by rw[h];exact b
theorem X5{α:Type}{acc:List α}{a:α}{r tot:List α}(e:(acc++[a])++r=tot)(h:tot.length<=B):acc.length<B:=rV ((mA acc [a] r).symm.trans e) h
noncomputable def AX(ps:List bb)(d:Int)(k cf:Nat):Bool:=lv ps d cf||(others ps d k cf).any (kh ps d 20)
noncomputable def AY(ps:List bb)(d:Int)(k:Nat)(p:bb):List Nat:=(j9 p d).filter (AX ps d k)
noncomputable def lN(ps:List bb)(d:Int)(k cf:Nat):List Row:=kj ps d (lM ps d 20) cf (mi ps d (others ps d k cf))
noncomputable def yM(ps:List bb)(d:Int)(k:Nat)(p:bb):List Row:=kj ps d (lN ps d k) k (AY ps d k p)
theorem Gv(ps:List bb)(d:Int)(k cf:Nat):(others ps d k cf).length<=ps.length:=aG (oo _ _) (uW ps d cf)
theorem My(hW:fk ps)(hl:ps.length<=20)(hq:ps[cf]?=some q):(lN ps d k cf).length<=1048576:=by
 unfold lN mi others kids
 rw[List.filter_filter,List.filter_filter]
 exact aG (cW (Ms hW hq (λc h=>(iA.mp h).2) (AW hW 20))) (Dm hl _)
theorem Mz{ps:List bb}(hl:ps.length<=20){d:Int}{k cf:Nat}:∀r∈lN ps d k cf,oM 21 r:=Gr (aG (Mr _ _ _) (aG (Gv ps d k cf) hl)) λc ζ=>wF hl 20 c
theorem Do{α β:Type}{f:α->List β}{B:Nat}:∀{l:List α},(∀a∈l,(f a).length<=B)->(l.flatMap f).length<=l.length*B
 |[],_=>iD _
 |a::r,h=>by
  rw[flatMap_cons,b6,lF,Nat.succ_mul,pC]
  exact oq (Do λa ha=>h a (.tail _ ha)) (h a dD)
theorem MA{c:Nat}(h:c∈AY ps d k p):c∈j9 p d:=(nq.mp h).1
theorem Dp(hW:fk ps)(hp:ps[k']?=some p):(AY ps d k p).length<=2:=aG (oo _ _) (L8 hW hp d)
theorem MB(hW:fk ps)(hl:ps.length<=20)(hp:ps[k]?=some p):(yM ps d k p).length<=2097152:=
 aG (Do (B:=1048576) λc hc=>by
  unfold rowsOf
  split
  ·exact(by decide:1<=1048576)
  ·rw[bJ]
   exact(AS hW hp d c (MA hc)).elim λq hq=>My hW hl hq.1) (Nat.mul_le_mul_right 1048576 (Dp hW hp))
theorem X6{ps:List bb}(hW:fk ps)(hl:ps.length<=20){d:Int}{k:Nat}{p:bb}(hp:ps[k]?=some p):∀r∈yM ps d k p,oM 22 r:=Gr (aG (Dp hW hp) (by decide)) λc ζ=>Mz hl
noncomputable def MC(ζ:Prop)(ps:List bb)(d:Int)(k l:Nat)(p:bb)(H:Hp)(as:List Nat)(ρ:bv)(H':Hp):Prop:=∀(o4 o5:Option V) (acc:List Nat) (e:ρ=[some (.ref l),some (nv k),some (.int d),some (.ref H.length),o4,o5,none,none,none,none,none]) (x:aC H H') (a:H'[H.length]?=some (.list (aS acc))) (t:acc++as.filter (AX ps d k)=AY ps d k p) (b:∀c∈as,c∈j9 p d),ζ
def Gw:=λps d k l p H as ρ H'=>∀ζ:Prop,MC ζ ps d k l p H as ρ H'->ζ
theorem Gw.mk{ps d k l p H as ρ H'}:MC (Gw ps d k l p H as ρ H') ps d k l p H as ρ H':=λx0 x1 x2 x3 x4 x5 x6 x7 ζ k=>k x0 x1 x2 x3 x4 x5 x6 x7
noncomputable def MD(ζ:Prop)(ps:List bb)(d:Int)(rec:Nat->List Row)(l k lt lr:Nat)(H₁:Hp)(s:Rat)(tot:List Row)(ts as:List Nat)(ρ:bv)(H':Hp):Prop:=∀(a4 a5 a7 a8 a9 nH:Option V) (rs:List Row) (vs:List V) (e:ρ=[some (.ref l),some (nv k),some (.int d),some (.ref lt),a4,a5,some (.ref lr),a7,a8,a9,nH]) (x:bO lr H₁ H') (a:H'[lr]?=some (.list vs)) (r:mO (lr+1) H' rs vs) (t:rs++as.flatMap (rowsOf ps d rec k s)=tot) (b:∀c∈as,c∈ts),ζ
def Gx:=λps d rec l k lt lr H₁ s tot ts as ρ H'=>∀ζ:Prop,MD ζ ps d rec l k lt lr H₁ s tot ts as ρ H'->ζ
theorem Gx.mk{ps d rec l k lt lr H₁ s tot ts as ρ H'}:MD (Gx ps d rec l k lt lr H₁ s tot ts as ρ H') ps d rec l k lt lr H₁ s tot ts as ρ H':=λx0 x1 x2 x3 x4 x5 x6 x7 x8 x9 dz fK eA fZ ζ k=>k x0 x1 x2 x3 x4 x5 x6 x7 x8 x9 dz fK eA fZ
theorem X7(hW:fk ps)(hl:ps.length<=20)(hp:ps[k]?=some p)(hA:H[l]?=some (.list (ps.map bW)))(q:Dk H (yM ps d k p) Q):aH (n+65) 15 [.ref l,nv k,.int d] H Q Y:=W4 (by
 refine ck (Gg (bu _ hA) hp ?_)
 have ME:=AS hW hp d
 refine gq (Gw ps d k l p H) (λc as ρ H' h=>?_) (λρ H' h=>?_) _ _ _ (.mk none none [] rfl (aC.aT _ _) (bz _ _) rfl (λc h=>h))
 ·refine h _ λo4 o5 acc e x a t b=>?_
  subst e
  refine λN hN=>(ME c (b c dD)).elim λpq rY=>ck (Mu (n:=n+61) (x _ _ hA) hl λlo H₂ Gy cN ao=>?_)
  have ext:=x.trans cN
  have qM:∀c∈as,c∈j9 p d:=λc hc=>b c (.tail _ hc)
  have yes:∀H₃,aC H₂ H₃->AX ps d k c=true->gn ((dJ H₃ (.ref H.length)).isSome) (oD .append (.ref H.length) [nv c] H₃ λζ H₄=>N [some (.ref l),some (nv k),some (.int d),some (.ref H.length),some (nv c),some (.ref lo),none,none,none,none,none] H₄):=λH₃ c6 hk=>by
   have AZ:=c6 _ _ (cN _ _ a)
   exact Gu t (λζ t=>gf AZ (gg AZ (by rw[bJ];exact X5 t (aG (Dp hW hp) (by decide))) (hN _ _ rfl (.mk _ _ (acc++[c]) rfl ((ext.trans c6).set (bX _) _) (by rw[<-uV];exact d9 AZ _) t qM)))) λh ζ=>absurd (hk.symm.trans h) (by decide)
  have no:∀H₃,aC H₂ H₃->AX ps d k c=false->N [some (.ref l),some (nv k),some (.int d),some (.ref H.length),some (nv c),some (.ref lo),none,none,none,none,none] H₃:=λH₃ c6 hk=>Gu t (λh ζ=>absurd (hk.symm.trans h) (by decide)) λζ t=>hN _ _ rfl (.mk _ _ acc rfl (ext.trans c6) (c6 _ _ (cN _ _ a)) t qM)
  have ek:AX ps d k c=(g8 pq d||(others ps d k c).any (kh ps d 20)):=by rw[<-mf rY.1];rfl
  refine ck (rU (ext _ _ hA) rY.1 ((mM (λh2=>?_) λh2=>?_:cD (g8 pq d==false) _ _)))
  ·rw[h2,rF] at ek
   refine aA (dU ao) (cZ (c8 (e7 (aG (Gv ps d k c) hl))) (Mv (n:=n+42) (i:=1) hW hl (λc' pV=>yK hW rY.1 (nq.mp pV).1 λq hq ζ ζ=>⟨q,hq⟩) rfl (ext _ _ hA) ao λH₃ c6=>aA (Mw (bz _ _)) ?_))
   rw[Mx]
   refine dp (λh3=>?_) λh3=>?_
   ·exact yes _ (c6.trans (aC.aT _ _)) (ek.trans h3)
   ·exact no _ (c6.trans (aC.aT _ _)) (ek.trans h3)
  ·rw[h2,Bool.true_or] at ek
   exact ia h2 (yes _ (aC.refl _) ek)
 ·refine h _ λo4 o5 ts e x a1 t b=>?_
  subst e
  rw[filter_nil,fN] at t
  subst t
  generalize yL:AY ps d k p=ts at *
  have hm:∀c∈ts,c∈j9 p d:=λc h=>MA (yL▸h)
  have ey:ts.length<=2:=yL▸Dp hW hp
  have ht:=MB hW hl (d:=d) hp
  rw[show yM ps d k p=kj ps d (lN ps d k) k ts by rw[<-yL];rfl] at ht q
  generalize hs:mkRat 1 ts.length=s
  have Gq:ts≠[]->Sm 5 s:=λh=>hs▸Sm.inv (λe=>h (vD e)) (cG ey (by decide))
  have oN:=bZ a1
  have Gz:H.length<=H'.length:=cW oN
  have Dq:=bu [.list []] a1
  refine aA (dU Dq) (gq (Gx ps d (lN ps d k) l k H.length H'.length (H'++[.list []]) s (kj ps d (lN ps d k) k ts) ts) (λc as ρ H₂ h=>?_) (λρ H₂ h=>?_) _ _ _ (.mk _ _ none none none none [] [] rfl (bO.refl _ _) (bz _ _) .nil (by rw[<-hs];rfl) (λc h=>h)))
  ·refine h _ λa4 a5 a7 a8 a9 nH rs vs e cN a r t b=>?_
   subst e
   refine λN hN=>?_
   have nI:=cN _ _ (dq oN) Dq
   have c6:aC H H₂:=cN.ext (x.trans (aC.aT _ _)) Gz
   have hc:=b c dD
   have fG:ts≠[]:=ne_nil_of_mem hc
   refine(ME c (hm c hc)).elim λpq rY=>?_
   have rY:=rY.1
   rw[flatMap_cons,show rowsOf ps d (lN ps d k) k s c=if g8 pq d then[⟨c,s,[k,c]⟩] else(lN ps d k c).map (up k s) by rw[<-mf rY];rfl] at t
   apply aA (cU nI)
   rw[bJ]
   refine ck (Gn (λe=>fG (vD e)) (cG ey (by decide)) ?_)
   rw[hs]
   refine ck (rU (c6 l _ hA) rY ((dp (λh2=>?_) λh2=>?_:cD (g8 pq d) _ _)))
   ·rw[h2] at t
    have t:rs++(⟨c,s,[k,c]⟩::as.flatMap (rowsOf ps d (lN ps d k) k s))=kj ps d (lN ps d k) k ts:=t
    exact gf a (gg (bu _ a) (by rw[r.len];exact rV t (aG ht (by decide))) (hN _ _ (dE Dq (dK (bu _ nI) _ (dm oN))) (.mk _ _ _ _ _ _ (rs++[⟨c,s,[k,c]⟩]) _ rfl (cN.trans ((bO.aT _ _ _).trans (bO.set _ _ _))) (d9 (bu _ a) _) ((r.b ((bO.aT _ _ _).trans (bO.set _ _ _))).snoc (.mk H₂.length (bZ a) rfl (dK (bz _ _) _ (dq (bZ a))))) (iV t) (λc hc=>b c (.tail _ hc)))))
   ·rw[h2] at t
    have t:rs++((lN ps d k c).map (up k s)++as.flatMap (rowsOf ps d (lN ps d k) k s))=kj ps d (lN ps d k) k ts:=t
    refine ck (Mu (n:=n+61) (c6 _ _ hA) hl λlo Ho hbo xo ao=>?_)
    have MF:∀c'∈others ps d k c,∃p,ps[c']?=some p:=λc' pV=>yK hW rY (nq.mp pV).1 λq hq ζ ζ=>⟨q,hq⟩
    refine ck (Ml (n:=n+40) (rec:=lM ps d 20) hW hl (aG (Gv ps d k c) hl) MF (λc ζ r hr=>(wF hl 20 c r hr).le (by decide)) (aG (My hW hl rY) (by decide)) (λc' pV H₅ Q₅ Y₅ X8 X9=>(MF c' pV).elim λpc MG=>Dn (n:=n) hW hl (f:=20) (bX _) X8 MG (cL (AR (ie MG)) hl) X9) ((c6.trans xo) _ _ hA) ao λlb us H₃ hb Yb ab rb=>?_)
    have gu:=xo.trans Yb
    have hb:=aG xo.len hb
    have a':=gu _ _ a
    have oO:=cL (bZ a) hb
    refine aA (dU ab) (AV (R:=λr v=>r∈lN ps d k c/\pU (lb+1) H₃ r v) (Dl l k H'.length (some (.int d)) (some (.ref H.length)) (some (nv c)) a5 (some (.ref H'.length)) H₃ s (kj ps d (lN ps d k) k ts) (as.flatMap (rowsOf ps d (lN ps d k) k s))) (λrw v bs ρ H₄ hv h=>?_) (λρ H₄ h=>?_) (rb.imp' λr v hr hv=>⟨hr,hv⟩) _ _ (.mk _ _ _ rs vs rfl (bO.refl _ _) a' (r.b (gu.b _)) t))
    ·refine hv.2 _ λll rX e al=>?_
     subst e
     refine h _ λa8 a9 nH rs vs e ju a r t=>?_
     subst e
     refine λN' mP=>?_
     have sr:=Mz hl _ hv.1
     have nl:ll≠H'.length:=dm (jp oO rX)
     refine gf a (ck (AU (Gq fG) sr.1 (by decide) (tI (bz _ _) (bu _ (ju _ _ nl al)) (by rw[b6,bJ];exact cG (kL sr.2 _) (show 1+(21+1)<16000000 by decide)) ?_)))
     have iu:bO H'.length H₄ _:=(bO.aT _ H₄ [aI.list [nv k]]).trans ((bO.aT _ _ [aI.list (aS (k::rw.line))]).trans (bO.set _ _ (.list (vs++[.aF [nv rw.gr,rv (s*rw.rW),.ref (H₄++[aI.list [nv k]]).length]]))))
     exact gg (bu _ (bu _ a)) (by rw[r.len];exact rV t (aG ht (by decide))) (mP _ _ (dE ab ((ju.trans iu) _ _ (dm oO) ab)) (.mk _ _ _ (rs++[up k s rw]) _ rfl (ju.trans iu) (d9 (bu _ (bu _ a)) _) ((r.b iu).snoc (.mk ((H₄++[aI.list [nv k]]).length) (bZ (bu _ a)) rfl (dK (bz _ _) _ (dq (bZ (bu _ a)))))) (iV t)))
    ·refine h _ λa8 a9 nH rs vs e ju a r t=>?_
     subst e
     have iu:=(gu.b H'.length).trans ju
     exact hN _ _ (dE Dq (iu _ _ (dq oN) nI)) (.mk _ _ _ _ _ _ rs vs rfl (cN.trans iu) a r t (λc hc=>b c (.tail _ hc)))
  ·refine h _ λa4 a5 a7 a8 a9 nH rs vs e cN a r t b=>?_
   subst e
   rw[flatMap_nil,fN] at t
   exact q _ vs _ Gz (cN.ext (x.trans (aC.aT _ _)) Gz) a (t▸r))
theorem Yc{l m:List Int}(h:l.Perm m)(a:l.Pairwise (·<=·))(b:m.Pairwise (·<=·)):l=m:=h.eq_of_pairwise (λx y ζ ζ h1 h2=>Int.le_antisymm h1 h2) a b
section
variable{A B K:Type}[DecidableEq A][DecidableEq K]
noncomputable def wH(ws:List (A×B))(a:A):Option B:=(ws.find? λp=>decide (p.1=a)).map (·.2)
noncomputable def mQ(ws:List (A×B))(a:A)(b:B):List (A×B):=if ws.any (λp=>decide (p.1=a)) then ws.map (λp=>if p.1=a then(p.1,b) else p) else ws++[(a,b)]
noncomputable def jh(ws:List (A×B))(a:A):Bool:=ws.any λp=>decide (p.1=a)
def gQ(f:A->K)(S:B->V->Prop):List (A×B)->List (K×V)->Prop:=ct λw e=>e.1=f w.1/\S w.2 e.2
variable{f:A->K}(hf:∀a b,f a=f b->a=b){S:B->V->Prop}{ws:List (A×B)}{es:List (K×V)}
include hf
theorem MH{a b:A}{k:K}(e:k=f b):decide (k=f a)=decide (b=a):=xC.mpr ⟨λh=>hf _ _ (e▸h),λh=>e.trans (b7 f h)⟩
theorem gQ.has(h:gQ f S ws es)(a:A):fy es (f a)=jh ws a:=h.rec (motive:=λws es ζ=>fy es (f a)=jh ws a) rfl λr ζ ih=>by
 refine(?_:(decide (_=f a)||fy _ (f a))=(decide (_=a)||jh _ a))
 rw[ih,MH hf r.1]
theorem gQ.get(h:gQ f S ws es)(a:A):jh ws a=true->∃b v,wH ws a=some b/\fO es (f a)=some v/\S b v:=h.rec (motive:=λws es ζ=>jh ws a=true->∃b v,wH ws a=some b/\fO es (f a)=some v/\S b v) (λh=>absurd h gM) λ{w e ws es} r _ ih h=>by
 unfold wH fO
 rw[find?_cons,find?_cons,MH hf r.1]
 cases hd:decide (w.1=a) with
 |true=>exact⟨w.2,e.2,rfl,rfl,r.2⟩
 |false=>
  refine ih ?_
  have h:(decide (w.1=a)||jh ws a)=true:=h
  rw[hd] at h;exact h
theorem gQ.put(h:gQ f S ws es){a:A}{b:B}(r:S b v):gQ f S (mQ ws a b) (dput es (f a) v):=by
 unfold mQ dput
 rw[show(es.any λp=>decide (p.1=f a))=_ from gQ.has hf h a]
 cases ha:jh ws a with
 |false=>
  rw[show(ws.any λp=>decide (p.1=a))=false from ha]
  exact ct.snoc h ⟨rfl,r⟩
 |true=>
  rw[show(ws.any λp=>decide (p.1=a))=true from ha]
  refine h.rec (motive:=λws es ζ=>gQ f S (ws.map λp:A×B=>if p.1=a then(p.1,b) else p) (es.map λp:K×V=>if p.1=f a then(p.1,v) else p)) .nil λ{w e ws es} r' _ ih=>.cons ((?_:(if e.1=f a then(e.1,v) else e).1=f (if w.1=a then(w.1,b) else w).1/\S (if w.1=a then(w.1,b) else w).2 (if e.1=f a then(e.1,v) else e).2)) ih
  by_cases hd:w.1=a
  ·rw[bQ hd,bQ (by rw[r'.1,hd])];exact⟨r'.1,r⟩
  ·rw[bH hd,bH λq=>hd (hf _ _ (r'.1▸q))];exact r'
omit hf
theorem wI{a:A}:jh ws a=true↔a∈ws.map (·.1):=by
 unfold jh
 rw[rE,ii]
 exact⟨λ⟨p,h1,h2⟩=>⟨p,h1,cu h2⟩,λ⟨p,h1,h2⟩=>⟨p,h1,dj h2⟩⟩
theorem MI(a:A)(b:B):(mQ ws a b).map (·.1)=if jh ws a then ws.map (·.1) else ws.map (·.1)++[a]:=by
 unfold mQ
 refine(?_:(if jh ws a=true then _ else _:List (A×B)).map _=_)
 split
 ·rw[map_map]
  exact List.map_congr_left λp ζ=>by refine(?_:(if p.1=a then(p.1,b) else p).1=p.1);split<;>rfl
 ·rw[jO];rfl
theorem GA{a:A}{b:B}{p:A×B}(h:p∈mQ ws a b):p∈ws\/p=(a,b):=by
 unfold mQ at h
 split at h
 ·obtain⟨q,hq,e⟩:=ii.mp h
  split at e
  ·rename_i h1;exact .inr (by rw[<-e,h1])
  ·exact .inl (e▸hq)
 ·rcases cY.mp h with h|h
  ·exact .inl h
  ·exact .inr (dI.mp h)
omit [DecidableEq A] [DecidableEq K] in
theorem gQ.keys{g:K->V}(h:gQ f S ws es):es.map (λp=>g p.1)=(ws.map (·.1)).map λa=>g (f a):=h.rec (motive:=λws es ζ=>es.map (λp=>g p.1)=(ws.map (·.1)).map λa=>g (f a)) rfl λr ζ ih=>by
 rw[nk,nk,nk,ih,r.1]
omit [DecidableEq A] [DecidableEq K] in
theorem gQ.imp{S':B->V->Prop}(h:gQ f S ws es)(k:∀b v,S b v->S' b v):gQ f S' ws es:=ct.imp h λζ ζ r=>⟨r.1,k _ _ r.2⟩
end
theorem GB:∀(n:Nat) (l:List Nat),l.Nodup->(∀k∈l,k<n)->l.length<=n
 |0,l,_,h=>by
  cases l with
  |nil=>exact bX 0
  |cons a r=>exact absurd (h a dD) (not_lt_zero a)
 |n+1,l,hn,h=>by
  have ih:=GB n (l.erase n) (hn.erase _) λk hk=>Nat.lt_of_le_of_ne (le_of_lt_succ (h k ((hn.mem_erase_iff).mp hk).2)) ((hn.mem_erase_iff).mp hk).1
  rw[List.length_erase] at ih
  split at ih<;>lia
abbrev St:=Nat×Bool
noncomputable abbrev sv(s:St):V:=.aF [nv s.1,.bool s.2]
noncomputable abbrev kz(s:St):Int×Bool:=((s.1:Int),s.2)
theorem wJ(a b:St)(h:kz a=kz b):a=b:=Prod.ext (om (b7 (λp:Int×Bool=>p.1) h)) (b7 (λp:Int×Bool=>p.2) h)
noncomputable def A0(ps:List bb)(d:Int)(p:bb)(k:Nat)(down:Bool):List St:=(kids ps d k).map (λc=>(c,true))++(if down then[] else(j9 p d).map λc=>(c,false))
theorem mj{α:Type}{g:α->V}{ws:List Nat}{test:bv->Hp->(Bool->Hp->Prop)->Prop}{elt:bv->Hp->PQ->Prop}{Q:List V->Hp->Prop}{eW:bv}{P:α->Bool}{F:α->V}:∀(as:List α) (o:Option V) (acc:List V),(∀a,a∈as->∀T:Bool->Hp->Prop,T (P a) H->test (some (g a)::eW) H T)->(∀a,a∈as->P a=true->∀N:PQ,N (F a) H->elt (some (g a)::eW) H N)->Q (acc++(as.filter P).map F) H->iR ws H (.J 0) test elt (as.map g) (o::eW) H acc Q
 |[],o,acc,_,_,q=>by rw[filter_nil,map_nil,fN] at q;exact q
 |a::as,o,acc,ht,he,q=>by
  have st:fS ws H H=true:=j1.mpr λl ζ=>dj rfl
  refine aA (a:=some (g a)::eW) rfl (ht a dD _ ?_)
  rw[filter_cons] at q
  have go:∀acc',Q (acc'++(as.filter P).map F) H->iR ws H (.J 0) test elt (as.map g) (some (g a)::eW) H acc' Q:=λacc'=>mj as _ acc' (λa ha=>ht a (.tail _ ha)) λa ha=>he a (.tail _ ha)
  cases hp:P a with
  |true=>
   rw[hp] at q
   exact he a dD hp _ ⟨st,go _ (by rw[mA];exact q)⟩
  |false=>
   rw[hp] at q
   exact⟨st,go _ q⟩
theorem yN{α:Type}(l:List α):l.filter (λζ=>true)=l:=List.filter_eq_self.mpr λζ ζ=>rfl
theorem Yd(hW:fk ps)(hl:ps.length<=20)(hp:ps[k]?=some p)(down:Bool)(hA:H[l]?=some (.list (ps.map bW)))(q:∀lc H',H.length<=lc->aC H H'->H'[lc]?=some (.list ((A0 ps d p k down).map sv))->Q (.ref lc) H'):aH (n+3) 4 [.ref l,sv (k,down),.int d] H Q Y:=WR (by
 have hk:=cG (aG (uW ps d k) hl) (show 20<16000000 by decide)
 refine ck (AQ (n:=n) hA hl λlc H₁ hb x hc=>(aA (dU hc) (cZ (c8 (by rw[bJ];exact hk)) (mj (P:=λζ=>true) (F:=λc=>sv (c,true)) _ _ _ (λa ζ T h=>h) (λa ζ ζ N h=>h) ?_))))
 rw[yN]
 have a1:=bz H₁ (.list ((kids ps d k).map λc=>sv (c,true)))
 have h1:=aG hb (cW (bZ hc))
 cases down with
 |true=>exact q _ _ h1 (x.trans (aC.aT _ _)) (by unfold A0;rw[map_append,map_map];refine(?_:_=some (aI.list (_++[])));rw[List.append_nil];exact a1)
 |false=>
  refine ck (Gg (bu _ (x _ _ hA)) hp ?_)
  have h2:=L8 hW hp d
  refine cZ (c8 (e7 h2)) (mj (P:=λζ=>true) (F:=λc=>sv (c,false)) _ _ _ (λa ζ T h=>h) (λa ζ ζ N h=>h) ?_)
  rw[yN]
  refine tI (bu _ a1) (bz _ _) (by rw[b6,nil_append,bJ,bJ];exact cG (oq (aG (uW ps d k) hl) h2) (by decide)) ?_
  exact q _ _ (le_trans h1 (by rw[length_append,length_append,add_assoc];exact Nat.le_add_right _ _)) ((x.trans (aC.aT _ _)).trans ((aC.aT _ _).trans (aC.aT _ _))) (by rw[bz];unfold A0;rw[map_append,map_map];refine(?_:_=some (aI.list (_++((j9 p d).map λc=>(c,false)).map sv)));rw[map_map];rfl))
abbrev iG:=List (St×List Nat)
abbrev Kn:=List (St×Unit)
noncomputable def MJ(ζ:Prop)(b:Nat)(H:Hp)(w:List Nat)(v:V):Prop:=∀(l:Nat) (hb:b<=l) (e:v=.ref l) (a:H[l]?=some (.list (aS w))),ζ
def iW:=λb H w v=>∀ζ:Prop,MJ ζ b H w v->ζ
theorem iW.mk{b H w v}:MJ (iW b H w v) b H w v:=λx0 x1 x2 x3 ζ k=>k x0 x1 x2 x3
theorem iW.ext{b:Nat}{w:List Nat}(h:iW b H w v)(x:aC H H'):iW b H' w v:=h _ λl hb e a=>(.mk l hb e (x _ _ a))
theorem iW.set{b:Nat}{w:List Nat}{c:aI}(h:iW b H w v)(hf:H[lf]?=some c)(hc:∀vs,c≠.list vs)(x:bO lf H H'):iW b H' w v:=h _ λl hb e a=>(.mk l hb e (x l _ (λq=>hc _ (by rw[<-q] at hf;exact dH (hf.symm.trans a))) a))
noncomputable def uZ(a b:List Nat):Bool:=oA (a.map λi:Nat=>(i:Int)) (b.map λi:Nat=>(i:Int))
noncomputable def mm(ws:iG)(s:St):List Nat:=(wH ws s).getD []
noncomputable def l7(kn:Kn)(way:List Nat)(found:iG)(o:St):iG:=if !jh kn o&&(!jh found o||uZ (way++[o.1]) (mm found o)) then mQ found o (way++[o.1]) else found
noncomputable def MK(ps:List bb)(d:Int)(s:St):List St:=match ps[s.1]? with
 |some p=>A0 ps d p s.1 s.2
 |none=>[]
noncomputable def u0(ps:List bb)(d:Int)(kn:Kn)(ws:iG)(found:iG)(s:St):iG:=(MK ps d s).foldl (l7 kn (mm ws s)) found
noncomputable def ML(ζ:Prop)(n L:Nat)(ks:List St)(ws:iG):Prop:=∀(nd:(ks++ws.map (·.1)).Nodup) (rg:∀e∈ws,e.1.1<n) (ln:∀e∈ws,e.2.length<=L),ζ
def qN:=λn L ks ws=>∀ζ:Prop,ML ζ n L ks ws->ζ
theorem qN.mk{n L ks ws}:ML (qN n L ks ws) n L ks ws:=λx0 x1 x2 ζ k=>k x0 x1 x2
theorem Ye{a b:St}(e:2*a.1+a.2.toNat=2*b.1+b.2.toNat):a=b:=by
 have h1:=toNat_le a.2
 have h2:=toNat_le b.2
 refine Prod.ext (by lia) ?_
 have e2:a.2.toNat=b.2.toNat:=by lia
 revert e2
 cases a.2<;>cases b.2<;>first|(intro;rfl)|(intro h;cases h)
theorem GC{l:List St}(h:l.Nodup)(hr:∀s∈l,s.1<n):l.length<=2*n:=by
 have h':(l.map λs:St=>2*s.1+s.2.toNat).Nodup:=Pairwise.map _ (λa b mJ e=>mJ (Ye e)) h
 have:=GB (2*n) _ h' λk hk=>by
  obtain⟨s,hs,rfl⟩:=ii.mp hk
  have:=hr s hs
  have:=toNat_le s.2
  lia
 rw[bJ] at this;exact this
theorem qN.len{ks:List St}{ws:iG}(h:qN n L ks ws):ws.length<=2*n:=h _ λnd rg ζ=>by
 rw[<-bJ (f:=(·.1))]
 exact GC (sM.mp nd).2.1 λs hs=>(ii.mp hs).elim λe he=>he.2▸rg e he.1
theorem qN.put{ks:List St}{ws:iG}(h:qN n L ks ws){s:St}{w:List Nat}(hk:s∉ks)(hn:s.1<n)(hw:w.length<=L):qN n L ks (mQ ws s w):=h _ λnd rg ln=>by
 refine(.mk (?_) (λe he=>(GA he).elim (rg e) λq=>by rw[q];exact hn) (λe he=>(GA he).elim (ln e) λq=>by rw[q];exact hw))
 rw[MI]
 split
 ·exact nd
 ·rename_i hs
  have hs:s∉ws.map (·.1):=λm=>hs (wI.mpr m)
  rw[<-mA]
  exact sM.mpr ⟨nd,nj.mpr ⟨sS,ql⟩,λa ha b hb e=>by
   rw[dI.mp hb] at e
   exact(cY.mp (e▸ha)).elim hk hs⟩
theorem Dr{es:List ((Int×Bool)×V)}{s:St}(h:H[lw]?=some (.dY ew es))(e:fO es (kz s)=some v):ik (.ref lw) (sv s) H=some v:=by
 refine(?_:((H[lw]?.bind nA).bind λes=>fO es (kz s))=_)
 rw[h];exact e
theorem MM{es:List ((Int×Bool)×V)}{s:St}(h:H[lw]?=some (.dY ew es)):gP .jP (sv s) (.ref lw) H=some (!fy es (kz s)):=by
 refine(?_:Option.map _ (match H[lw]?.bind jQ with|some es=>_|none=>_)=_)
 rw[h]
 refine(?_:Option.map _ (match H[lw]?.bind nA with|some es=>_|none=>_)=_)
 rw[h];rfl
theorem Ds:∀l:List Nat,allInts (aS l)=some (l.map λi:Nat=>(i:Int))
 |[]=>rfl
 |a::r=>by
  refine(?_:((allInts (aS r)).map ((a:Int)::·))=_)
  rw[Ds r];rfl
theorem MN{b:Nat}{x y:List Nat}(ha:H[a]?=some (.list (aS x)))(hb:H[b]?=some (.list (aS y))):gP .lt (.ref a) (.ref b) H=some (uZ x y):=by
 refine(?_:(((dJ H (.ref a)).bind allInts).bind λp=>((dJ H (.ref b)).bind allInts).map λq=>oA p q)=_)
 rw[cU ha,cU hb]
 refine(?_:((allInts (aS x)).bind λp=>(allInts (aS y)).map λq=>oA p q)=_)
 rw[Ds,Ds];rfl
theorem MO{fs:List ((Int×Bool)×V)}{s:St}{k:Hp->Prop}(h:H[lf]?=some (.dY ef fs))(hs:fs.length<16000000)(q:∀ep,k (H.set lf (.dY ep (dput fs (kz s) v)))):uA (.ref lf) (sv s) v H k:=aA h (cZ (c8 hs) q)
theorem GD{es:List ((Int×Bool)×V)}(h:H[lw]?=some (.dY ew es)):keysOf H (.ref lw)=some (es.map λp=>oB p.1):=by
 refine(?_:(match H[lw]?.bind jQ with|some es=>_|none=>_)=_)
 rw[h]
 refine(?_:(match H[lw]?.bind nA with|some es=>_|none=>_)=_)
 rw[h];rfl
noncomputable def MP(ζ:Prop)(ps:List bb)(F:iG->St->iG)(tot:iG)(ks:List St)(L b lf:Nat)(x0 x1 x2 x3:V)(H₁:Hp)(ss as:List St)(ρ:bv)(H':Hp):Prop:=∀(o5 o6 o7:Option V) (ef:Nat) (fs:List ((Int×Bool)×V)) (found:iG) (e:ρ=[some x0,some x1,some x2,some x3,some (.ref lf),o5,o6,o7]) (x:bO lf H₁ H') (a:H'[lf]?=some (.dY ef fs)) (dc:gQ kz (iW b H') found fs) (ok:qN ps.length L ks found) (t:as.foldl F found=tot) (MQ:∀s∈as,s∈ss),ζ
def GF:=λps F tot ks L b lf x0 x1 x2 x3 H₁ ss as ρ H'=>∀ζ:Prop,MP ζ ps F tot ks L b lf x0 x1 x2 x3 H₁ ss as ρ H'->ζ
theorem GF.mk{ps F tot ks L b lf x0 x1 x2 x3 H₁ ss as ρ H'}:MP (GF ps F tot ks L b lf x0 x1 x2 x3 H₁ ss as ρ H') ps F tot ks L b lf x0 x1 x2 x3 H₁ ss as ρ H':=λx0 x1 x2 x3 x4 x5 x6 x7 x8 x9 dz fK eA ζ k=>k x0 x1 x2 x3 x4 x5 x6 x7 x8 x9 dz fK eA
noncomputable def MR(ζ:Prop)(ps:List bb)(F:iG->St->iG)(tot:iG)(ks:List St)(L b lf:Nat)(x0 x1 x2 x3 x5:V)(H₁:Hp)(as:List St)(ρ:bv)(H':Hp):Prop:=∀(o6 o7:Option V) (ef:Nat) (fs:List ((Int×Bool)×V)) (found:iG) (e:ρ=[some x0,some x1,some x2,some x3,some (.ref lf),some x5,o6,o7]) (x:bO lf H₁ H') (a:H'[lf]?=some (.dY ef fs)) (dc:gQ kz (iW b H') found fs) (ok:qN ps.length L ks found) (t:as.foldl F found=tot) (MQ:∀o∈as,o.1<ps.length),ζ
def GG:=λps F tot ks L b lf x0 x1 x2 x3 x5 H₁ as ρ H'=>∀ζ:Prop,MR ζ ps F tot ks L b lf x0 x1 x2 x3 x5 H₁ as ρ H'->ζ
theorem GG.mk{ps F tot ks L b lf x0 x1 x2 x3 x5 H₁ as ρ H'}:MR (GG ps F tot ks L b lf x0 x1 x2 x3 x5 H₁ as ρ H') ps F tot ks L b lf x0 x1 x2 x3 x5 H₁ as ρ H':=λx0 x1 x2 x3 x4 x5 x6 x7 x8 x9 dz fK ζ k=>k x0 x1 x2 x3 x4 x5 x6 x7 x8 x9 dz fK
theorem Yg{ps:List bb}(hW:fk ps){d:Int}{p:bb}{k:Nat}(hp:ps[k]?=some p){down:Bool}:∀o∈A0 ps d p k down,o.1<ps.length:=by
 intro o ho
 rcases cY.mp ho with h|h
 ·obtain⟨c,hc,rfl⟩:=ii.mp h
  exact i8.mp (nq.mp hc).1
 ·cases down with
  |true=>cases h
  |false=>
   obtain⟨c,hc,rfl⟩:=ii.mp (show o∈(j9 p d).map λc=>(c,false) from h)
   exact(AS hW hp d c hc).elim λq hq=>(d7.mp hq.1).1
theorem Yh{d:Int}{ps:List bb}(hW:fk ps)(hl:ps.length<=20){kn:Kn}{ws:iG}{ks es:List ((Int×Bool)×V)}{ek ew lk lw b L:Nat}(hL:L<=1000)(hA:H[l]?=some (.list (ps.map bW)))(hK:H[lk]?=some (.dY ek ks))(dk:gQ kz (λ(_:Unit) _=>True) kn ks)(hY:H[lw]?=some (.dY ew es))(dw:gQ kz (iW b H) ws es)(hb:b<=H.length)(nd:(kn.map (·.1)).Nodup)(rg:∀e∈ws,e.1.1<ps.length)(ln:∀s,(mm ws s).length<=L)
  (q:∀lf ef fs H',aC H H'->H.length<=lf->H'[lf]?=some (.dY ef fs)->gQ kz (iW b H') ((ws.map (·.1)).foldl (u0 ps d kn ws) []) fs->qN ps.length (L+1) (kn.map (·.1)) ((ws.map (·.1)).foldl (u0 ps d kn ws) [])->Q (.ref lf) H'):aH (n+4) 5 [.ref l,.ref lk,.ref lw,.int d] H Q Y:=WU (by
 have ey:∀{m c},H[m]?=some c->m≠H.length:=λh=>dq (bZ h)
 have GH:=bu [.dY 0 []] hY
 apply aA (GD GH)
 rw[dw.keys]
 refine gq (GF ps (u0 ps d kn ws) ((ws.map (·.1)).foldl (u0 ps d kn ws) []) (kn.map (·.1)) (L+1) b H.length (.ref l) (.ref lk) (.ref lw) (.int d) (H++[.dY 0 []]) (ws.map (·.1))) (λs as ρ H' h=>?_) (λρ H' h=>?_) _ _ _ (.mk none none none 0 [] [] rfl (bO.refl _ _) (bz _ _) .nil (.mk (by rw[map_nil,fN];exact nd) (λζ h=>(nomatch h)) (λζ h=>(nomatch h))) rfl (λs h=>h))
 ·refine h _ λo5 o6 o7 ef fs found e x a dc ok t bs=>?_
  subst e
  refine λN hN=>?_
  have x':aC H H':=x.ext (aC.aT _ _) (bX _)
  refine(ii.mp (bs s dD)).elim λe he=>(at_of (he.2▸rg e he.1:s.1<ps.length)).elim λp hp=>ck (Yd (n:=n) hW hl hp s.2 (x' _ _ hA) λlc H₂ Gy cN hc=>(dw.get wJ s (wI.mpr (bs s dD))).elim λw hw=>hw.elim λwv hw=>aA (dU hc) ?_)
  have Dt:H.length<lc:=cL (bZ a) Gy
  refine gq (GG ps (l7 kn (mm ws s)) (u0 ps d kn ws found s) (kn.map (·.1)) (L+1) b H.length (.ref l) (.ref lk) (.ref lw) (.int d) (sv s) H₂) (λo os ρ H₃ h=>?_) (λρ H₃ h=>?_) _ _ _ (.mk o6 o7 ef fs found rfl (bO.refl _ _) (cN _ _ a) (dc.imp λζ ζ h=>h.ext cN) ok (by unfold u0 MK;rw[hp]) (Yg hW hp))
  ·refine h _ λo6 o7 ef fs found e c6 a dc ok t bo=>?_
   subst e
   refine λN' mP=>?_
   have gu:aC H H₃:=c6.ext (x'.trans cN) (bX _)
   refine hw.2.2 _ λlv hbv ev av=>?_
   subst ev
   have gw:mm ws s=w:=by unfold mm;rw[hw.1];rfl
   have qO:=ln s
   rw[gw] at qO t
   have ho:=bo o dD
   have MS:∀o∈os,o.1<ps.length:=λo h=>bo o (.tail _ h)
   refine aA (Dr (gu _ _ hY) hw.2.1) (tI (bu _ (gu _ _ av)) (bz _ _) (by rw[b6,bJ];exact cG (lU (aG qO hL) _) (show 1000+1<16000000 by decide)) ?_)
   have am:=bz (H₃++[aI.list [nv o.1]]) (.list (aS w++[nv o.1]))
   rw[uV w o.1] at am ⊢
   generalize hm:(H₃++[aI.list [nv o.1]]).length=m at *
   have Yi:b<=m:=by rw[<-hm];exact aG (aG hb gu.len) (by rw[b6];exact eV _ _)
   have ju:aC H₃ (H₃++[aI.list [nv o.1]]++[aI.list (aS (w++[o.1]))]):=(aC.aT _ _).trans (aC.aT _ _)
   generalize H₃++[aI.list [nv o.1]]++[aI.list (aS (w++[o.1]))]=H₄ at *
   have tJ:=ju _ _ a
   have A1:gQ kz (iW b H₄) found fs:=dc.imp λζ ζ h=>h.ext ju
   rw[foldl_cons] at t
   have yes:(!jh kn o&&(!jh found o||uZ (w++[o.1]) (mm found o)))=true->uA (.ref H.length) (sv o) (.ref m) H₄ (λH'=>N' [some (.ref l),some (.ref lk),some (.ref lw),some (.int d),some (.ref H.length),some (sv s),some (sv o),some (.ref m)] H'):=λpV=>by
    refine MO tJ (by rw[ct.len A1];exact cG (aG ok.len (oi 2 hl)) (by decide)) λep=>?_
    have iu:=bO.set H.length H₄ (.dY ep (dput fs (kz o) (.ref m)))
    refine mP _ _ (dE hc (((c6.trans (ju.b _)).trans iu) _ _ (dm Dt) hc)) (.mk _ _ ep _ (mQ found o (w++[o.1])) rfl ((c6.trans (ju.b _)).trans iu) (d9 tJ _) (?_) (ok.put ?_ ho (by rw[b6];exact jG qO)) (?_) MS)
    ·exact gQ.put wJ (A1.imp λζ ζ h=>h.set tJ (λvs h=>nomatch h) iu) ((iW.mk m Yi rfl am:iW b H₄ (w++[o.1]) (.ref m)).set tJ (λvs h=>nomatch h) iu)
    ·exact λhm=>absurd (wI.mpr hm) (by rw[Bool.not_eq_true];exact(oj _).mp (iA.mp pV).1)
    ·rw[show l7 kn w found o=mQ found o (w++[o.1]) from bQ pV] at t;rw[gw];exact t
   have no:(!jh kn o&&(!jh found o||uZ (w++[o.1]) (mm found o)))=false->N' [some (.ref l),some (.ref lk),some (.ref lw),some (.int d),some (.ref H.length),some (sv s),some (sv o),some (.ref m)] H₄:=λpV=>
    mP _ _ (dE hc ((c6.trans (ju.b _)) _ _ (dm Dt) hc)) (.mk _ _ ef fs found rfl (c6.trans (ju.b _)) tJ A1 ok (by rw[show l7 kn w found o=found from bH (by rw[pV];decide)] at t;rw[gw];exact t) MS)
   apply aA (MM (s:=o) (ju _ _ (gu _ _ hK)))
   rw[dk.has wJ]
   refine ir (λh1=>?_) λh1=>fL h1 (no (by rw[h1];rfl))
   rw[h1,Bool.true_and] at yes no
   apply aA (MM (s:=o) tJ)
   rw[A1.has wJ]
   refine mM (λh2=>?_) λh2=>ia h2 (yes (by rw[h2];rfl))
   rw[h2,rF] at yes no
   refine(A1.get wJ o (um .. |>.mp h2)).elim λw' qP=>qP.elim λYj qP=>?_
   have Yk:mm found o=w':=by unfold mm;rw[qP.1];rfl
   rw[Yk] at yes no
   refine aA (Dr tJ qP.2.1) (qP.2.2 _ λlv' ζ wy Yl=>?_)
   subst wy
   exact aA (MN am Yl) (dp yes no)
  ·refine h _ λo6 o7 ef fs found' e c6 a dc ok t' bo=>?_
   subst e
   rw[foldl_nil] at t'
   subst t'
   have gu:=(cN.b H.length).trans c6
   exact hN _ _ (dE GH ((x.trans gu) _ _ (ey hY) GH)) (.mk _ _ _ ef fs _ rfl (x.trans gu) a dc ok t (λs hs=>bs s (.tail _ hs)))
 ·refine h _ λo5 o6 o7 ef fs found e x a dc ok t bs=>?_
  subst e
  rw[foldl_nil] at t
  subst t
  exact q _ ef fs _ (x.ext (aC.aT _ _) (bX _)) (bX _) a dc ok)
abbrev Hr:=List (Nat×List Nat)
noncomputable abbrev hz(k:Nat):Int:=(k:Int)
theorem Du(a b:Nat)(h:hz a=hz b):a=b:=om h
noncomputable def pW(hp:Hr)(h:Nat):List Nat:=(wH hp h).getD []
noncomputable def u4(ps:List bb)(d:Int)(k:Nat)(ws:iG)(hp:Hr)(s:St):Hr:=if uY k s.1&&(lv ps d s.1&&(!jh hp s.1||uZ (mm ws s) (pW hp s.1))) then mQ hp s.1 (mm ws s) else hp
noncomputable def km(kn:Kn)(ws:iG):Kn:=kn++ws.map λe=>(e.1,())
noncomputable def wK(ps:List bb)(d:Int)(kn:Kn)(ws:iG):iG:=(ws.map (·.1)).foldl (u0 ps d kn ws) []
noncomputable def wL(ps:List bb)(d:Int)(k:Nat):Nat->Kn->iG->Hr->Hr
 |0,_,_,h=>h
 |f+1,kn,ws,h=>if h.isEmpty&&!ws.isEmpty then wL ps d k f (km kn ws) (wK ps d (km kn ws) ws) (((wK ps d (km kn ws) ws).map (·.1)).foldl (u4 ps d k (wK ps d (km kn ws) ws)) h) else h
noncomputable def yO(l:List Nat):List Nat:=l.mergeSort λa b=>decide (a<=b)
noncomputable def pX(ps:List bb)(d:Int)(k:Nat):List (Nat×List Nat):=(yO ((wL ps d k 41 [] [((k,false),[k])] []).map (·.1))).map λh=>(h,pW (wL ps d k 41 [] [((k,false),[k])] []) h)
noncomputable def MT(ζ:Prop)(b:Nat)(H:Hp)(p:Nat×List Nat)(v:V):Prop:=∀(l:Nat) (hb:b<=l) (e:v=.aF [nv p.1,.ref l]) (a:H[l]?=some (.list (aS p.2))),ζ
def GI:=λb H p v=>∀ζ:Prop,MT ζ b H p v->ζ
theorem GI.mk{b H p v}:MT (GI b H p v) b H p v:=λx0 x1 x2 x3 ζ k=>k x0 x1 x2 x3
theorem Ym{l:List Nat}{js:List Int}(h:js.Perm (l.map hz))(hs:js.Pairwise (·<=·)):js=(yO l).map hz:=Yc (h.trans ((List.mergeSort_perm l _).map hz).symm) hs (by
 have:=List.pairwise_mergeSort (le:=λa b:Nat=>decide (a<=b)) (λa b c h1 h2=>dj (aG (cu h1) (cu h2))) (λa b=>by rw[Bool.or_eq_true];exact(Nat.le_total a b).imp (λh=>dj h) λh=>dj h) l
 exact Pairwise.map _ (λa b h=>pn.mpr (cu h)) this)
noncomputable def MU(ζ:Prop)(n:Nat)(hp:Hr):Prop:=∀(nd:(hp.map (·.1)).Nodup) (rg:∀h∈hp.map (·.1),h<n) (ln:∀e∈hp,e.2.length<=42),ζ
def rZ:=λn hp=>∀ζ:Prop,MU ζ n hp->ζ
theorem rZ.mk{n hp}:MU (rZ n hp) n hp:=λx0 x1 x2 ζ k=>k x0 x1 x2
theorem rZ.len{hp:Hr}(h:rZ n hp):hp.length<=n:=h _ λnd rg ζ=>by rw[<-bJ (f:=(·.1))];exact GB n _ nd rg
theorem rZ.put{hp:Hr}(h:rZ n hp){w:List Nat}(hk:k<n)(hw:w.length<=42):rZ n (mQ hp k w):=h _ λnd rg ln=>by
 refine(.mk (?_) (?_) (λe he=>(GA he).elim (ln e) λq=>by rw[q];exact hw))<;>rw[MI]<;>split
 ·exact nd
 ·rename_i hs
  exact sM.mpr ⟨nd,nj.mpr ⟨sS,ql⟩,λa ha b hb e=>by
   rw[dI.mp hb] at e
   exact hs (wI.mpr (e▸ha))⟩
 ·exact rg
 ·intro h hh
  exact(cY.mp hh).elim (rg h) λq=>by rw[dI.mp q];exact hk
theorem MV{es:List (Int×V)}(h:H[lw]?=some (.dict ew es))(e:fO es (hz s)=some v):ik (.ref lw) (nv s) H=some v:=by
 refine(?_:(match H[lw]?.bind uu with|some vs=>jR vs (s:Int)|none=>(H[lw]?.bind jQ).bind λes=>fO es (hz s))=_)
 rw[h];exact e
theorem Yn{es:List (Int×V)}(h:H[lw]?=some (.dict ew es)):gP .jP (nv s) (.ref lw) H=some (!fy es (hz s)):=by
 refine(?_:Option.map _ (match H[lw]?.bind jQ with|some es=>_|none=>_)=_)
 rw[h];rfl
theorem Yo{fs:List (Int×V)}{k:Hp->Prop}(h:H[lf]?=some (.dict ef fs))(hs:fs.length<16000000)(q:∀ep,k (H.set lf (.dict ep (dput fs (hz s) v)))):uA (.ref lf) (nv s) v H k:=aA h (cZ (c8 hs) q)
theorem Yp{b:Nat}{es:List (Int×V)}(h:H[a]?=some (.dict ea es))(h':H[b]?=some (.dict 0 [])):gP .eq (.ref a) (.ref b) H=some es.isEmpty:=by
 refine(?_:kQ H (.ref a) (.ref b)=_)
 have e1:mF H (.ref a)=some es.isEmpty:=by
  refine(?_:(match H[a]?.bind jQ with|some es=>some es.isEmpty|none=>_)=_)
  rw[h];rfl
 have e2:mF H (.ref b)=some true:=by
  refine(?_:(match H[b]?.bind jQ with|some es=>some es.isEmpty|none=>_)=_)
  rw[h'];rfl
 unfold kQ
 rw[e1,e2]
 refine(?_:(if(es.isEmpty||true)=true then some (es.isEmpty&&true) else none)=_)
 rw[Bool.or_true,Bool.and_true];rfl
theorem Yq{b:Nat}{es:List ((Int×Bool)×V)}(h:H[a]?=some (.dY ea es))(h':H[b]?=some (.dict 0 [])):gP .ne (.ref a) (.ref b) H=some (!es.isEmpty):=by
 refine(?_:(kQ H (.ref a) (.ref b)).map _=_)
 have e1:mF H (.ref a)=some es.isEmpty:=by
  refine(?_:(match H[a]?.bind jQ with|some es=>_|none=>(H[a]?.bind nA).map List.isEmpty)=_)
  rw[h];rfl
 have e2:mF H (.ref b)=some true:=by
  refine(?_:(match H[b]?.bind jQ with|some es=>some es.isEmpty|none=>_)=_)
  rw[h'];rfl
 unfold kQ
 rw[e1,e2]
 refine(?_:(if(es.isEmpty||true)=true then some (es.isEmpty&&true) else none).map _=_)
 rw[Bool.or_true,Bool.and_true];rfl
theorem Yr{es:List (Int×V)}(h:H[a]?=some (.dict ea es)):copyOf H (.ref a)=some (es.map λp=>.int p.1):=by
 refine(?_:(match H[a]?.bind jQ with|some es=>_|none=>_)=_)
 rw[h];rfl
theorem CE(h:H[a]?=some (.list (aS ls))):nB H (.ref a)=some (ls.map hz):=by
 refine(?_:(dJ H (.ref a)).bind allInts=_)
 rw[cU h];exact Ds ls
theorem MW{α β:Type}{R:α->β->Prop}{as:List α}{bs:List β}(h:ct R as bs):bs.isEmpty=as.isEmpty:=h.casesOn rfl λζ ζ=>rfl
theorem Ys{A B:Type}[DecidableEq A]{ws:List (A×B)}{a:A}{b:B}(h:jh ws a=false):mQ ws a b=ws++[(a,b)]:=bH (by rw[show(ws.any λp=>decide (p.1=a))=false from h];decide)
noncomputable def MX(ζ:Prop)(ps:List bb)(d:Int)(k l:Nat)(tot:Hr)(H:Hp)(f:Nat)(ρ:bv)(H':Hp):Prop:=∀(o6 o7:Option V) (lw lk lh ew ek eh:Nat) (es ks:List ((Int×Bool)×V)) (hs:List (Int×V)) (kn:Kn) (ws:iG) (hp:Hr) (L:Nat) (e:ρ=[some (.ref l),some (nv k),some (.int d),some (.ref lw),some (.ref lk),some (.ref lh),o6,o7]) (x:aC H H') (bk:H.length<=lk) (bh:H.length<=lh) (ne:lw≠lk) (aw:H'[lw]?=some (.dY ew es)) (ak:H'[lk]?=some (.dY ek ks)) (ah:H'[lh]?=some (.dict eh hs)) (dw:gQ kz (iW H.length H') ws es) (dk:gQ kz (λ(_:Unit) _=>True) kn ks) (dh:gQ hz (iW H.length H') hp hs) (ok:qN ps.length L (kn.map (·.1)) ws) (kr:∀s∈kn.map (·.1),s.1<ps.length) (oh:rZ ps.length hp) (hf:2*ps.length<f+kn.length) (hL:L+f=42) (t:wL ps d k f kn ws hp=tot),ζ
def GJ:=λps d k l tot H f ρ H'=>∀ζ:Prop,MX ζ ps d k l tot H f ρ H'->ζ
theorem GJ.mk{ps d k l tot H f ρ H'}:MX (GJ ps d k l tot H f ρ H') ps d k l tot H f ρ H':=λx0 x1 x2 x3 x4 x5 x6 x7 x8 x9 dz fK eA fZ jW ku qQ wM A2 A3 A4 A5 GK tK Yt A6 Yu Yv Yw Yx Yy Yz ζ k=>k x0 x1 x2 x3 x4 x5 x6 x7 x8 x9 dz fK eA fZ jW ku qQ wM A2 A3 A4 A5 GK tK Yt A6 Yu Yv Yw Yx Yy Yz
noncomputable def MY(ζ:Prop)(tot:Kn)(lk:Nat)(x0 x1 x2 x3 x5 x7:Option V)(H₁:Hp)(as:List St)(ρ:bv)(H':Hp):Prop:=∀(o6:Option V) (ek:Nat) (ks:List ((Int×Bool)×V)) (kd:Kn) (e:ρ=[x0,x1,x2,x3,some (.ref lk),x5,o6,x7]) (x:bO lk H₁ H') (a:H'[lk]?=some (.dY ek ks)) (dk:gQ kz (λ(_:Unit) _=>True) kd ks) (t:kd++as.map (λs=>(s,()))=tot),ζ
def qI:=λtot lk x0 x1 x2 x3 x5 x7 H₁ as ρ H'=>∀ζ:Prop,MY ζ tot lk x0 x1 x2 x3 x5 x7 H₁ as ρ H'->ζ
theorem qI.mk{tot lk x0 x1 x2 x3 x5 x7 H₁ as ρ H'}:MY (qI tot lk x0 x1 x2 x3 x5 x7 H₁ as ρ H') tot lk x0 x1 x2 x3 x5 x7 H₁ as ρ H':=λx0 x1 x2 x3 x4 x5 x6 x7 x8 ζ k=>k x0 x1 x2 x3 x4 x5 x6 x7 x8
noncomputable def MZ(ζ:Prop)(ps:List bb)(F:Hr->St->Hr)(tot:Hr)(b lh:Nat)(x0 x1 x2 x3 x4:Option V)(H₁:Hp)(ss as:List St)(ρ:bv)(H':Hp):Prop:=∀(o6 o7:Option V) (eh:Nat) (hs:List (Int×V)) (hp:Hr) (e:ρ=[x0,x1,x2,x3,x4,some (.ref lh),o6,o7]) (x:bO lh H₁ H') (a:H'[lh]?=some (.dict eh hs)) (dh:gQ hz (iW b H') hp hs) (oh:rZ ps.length hp) (t:as.foldl F hp=tot) (MQ:∀s∈as,s∈ss),ζ
def GL:=λps F tot b lh x0 x1 x2 x3 x4 H₁ ss as ρ H'=>∀ζ:Prop,MZ ζ ps F tot b lh x0 x1 x2 x3 x4 H₁ ss as ρ H'->ζ
theorem GL.mk{ps F tot b lh x0 x1 x2 x3 x4 H₁ ss as ρ H'}:MZ (GL ps F tot b lh x0 x1 x2 x3 x4 H₁ ss as ρ H') ps F tot b lh x0 x1 x2 x3 x4 H₁ ss as ρ H':=λx0 x1 x2 x3 x4 x5 x6 x7 x8 x9 dz fK ζ k=>k x0 x1 x2 x3 x4 x5 x6 x7 x8 x9 dz fK
theorem M0{ws:iG}(h:∀e∈ws,e.2.length<=L)(s:St):(mm ws s).length<=L:=by
 unfold mm wH
 cases hf:ws.find? λp=>decide (p.1=s) with
 |none=>exact iD _
 |some e=>exact h e (List.mem_of_find?_eq_some hf)
theorem M1(kn:Kn)(ws:iG):(km kn ws).map (·.1)=kn.map (·.1)++ws.map (·.1):=by
 unfold km;rw[map_append,map_map];rfl
theorem M2{α β γ:Type}{R:β->γ->Prop}{f:α->β}{g:α->γ}:∀l:List α,(∀a∈l,R (f a) (g a))->ct R (l.map f) (l.map g)
 |[],_=>.nil
 |a::r,h=>.cons (h a dD) (M2 r λa ha=>h a (.tail _ ha))
def M3(H:Hp)(ns:List (Nat×List Nat))(Q:PQ):Prop:=∀lr vs H',ns.length<=20->(∀e∈ns,e.2.length<=42)->H.length<=lr->aC H H'->H'[lr]?=some (.list vs)->ct (GI H.length H') ns vs->Q (.ref lr) H'
noncomputable abbrev YA:S:=.aY (.J 7) (iI 6 0)
noncomputable abbrev YB:S:=.bD (.and [(.cmp .ne (.J 7) (.J 1)),(.call 0 [.J 0,.J 7,.J 2]),(.or [(.cmp .jP (.J 7) (.J 5)),(.cmp .lt (.br (.J 3) (.J 6)) (.br (.J 5) (.J 7)))])])
    [.ij (.J 5) (.J 7) (.br (.J 3) (.J 6))]
    []
theorem YC{d:Int}{ps:List bb}{lf lk lh ef eh b:Nat}{fs:List ((Int×Bool)×V)}{hs:List (Int×V)}{hp:Hr}{s:St}{p':bb}{w:List Nat}{wv:V}{o7:Option V}{K:Out->Prop}{N:bv->Hp->Prop}(hA:H[l]?=some (.list (ps.map bW)))(fJ:ps[s.1]?=some p')(af:H[lf]?=some (.dY ef fs))(fw:fO fs (kz s)=some wv)(ah:H[lh]?=some (.dict eh hs))(dh:gQ hz (iW b H) hp hs)(lw:iW b H w wv)(sm:hs.length<16000000)
  (yes:(uY k s.1&&(g8 p' d&&(!jh hp s.1||uZ w (pW hp s.1))))=true->∀ep,N [some (.ref l),some (nv k),some (.int d),some (.ref lf),some (.ref lk),some (.ref lh),some (sv s),some (nv s.1)] (H.set lh (.dict ep (dput hs (hz s.1) wv))))
  (no:(uY k s.1&&(g8 p' d&&(!jh hp s.1||uZ w (pW hp s.1))))=false->N [some (.ref l),some (nv k),some (.int d),some (.ref lf),some (.ref lk),some (.ref lh),some (sv s),some (nv s.1)] H) :
  aX ⟨aH (n+4),Y⟩ [YA,YB] [some (.ref l),some (nv k),some (.int d),some (.ref lf),some (.ref lk),some (.ref lh),some (sv s),o7] H (qD K N):=by
 have yes:(uY k s.1&&(g8 p' d&&(!jh hp s.1||uZ w (pW hp s.1))))=true->aO (ik (.ref lf) (sv s) H) λv=>uA (.ref lh) (nv s.1) v H λH'=>N [some (.ref l),some (nv k),some (.int d),some (.ref lf),some (.ref lk),some (.ref lh),some (sv s),some (nv s.1)] H':=λhc=>aA (Dr af fw) (Yo ah sm (yes hc))
 refine((ir (λh1=>?_) λh1=>fL h1 (no (by rw[h1];rfl))):cD (uY k s.1==true) _ _)
 rw[h1,Bool.true_and] at yes no
 refine ck (rU hA fJ (((ir (λh2=>?_) λh2=>fL h2 (no (by rw[h2];rfl))):cD (g8 p' d==true) _ _)))
 rw[h2,Bool.true_and] at yes no
 apply aA (Yn (s:=s.1) ah)
 rw[dh.has Du]
 refine mM (λh3=>?_) λh3=>ia h3 (yes (by rw[h3];rfl))
 rw[h3,rF] at yes no
 refine(dh.get Du s.1 (um .. |>.mp h3)).elim λw' qP=>qP.elim λYj qP=>?_
 rw[show pW hp s.1=w' by unfold pW;rw[qP.1];rfl] at yes no
 refine aA (Dr af fw) (aA (MV ah qP.2.1) (lw _ λla ζ ea aa=>qP.2.2 _ λlb ζ eb ab=>?_))
 rw[ea,eb]
 exact aA (MN aa ab) (dp yes no)
theorem YD{hs:List (Int×V)}{hp:Hr}(hl:ps.length<=20)(x:aC H H')(ah:H'[lh]?=some (.dict eh hs))(dh:gQ hz (iW H.length H') hp hs)(oh:rZ ps.length hp)(q:M3 H ((yO (hp.map (·.1))).map λh=>(h,pW hp h)) Q):aX ⟨aH (n+4),Y⟩ (B9.drop 4) [some (.ref l),some (nv k),some (.int d),o3,o4,some (.ref lh),o6,o7] H' (fA Q):=by
 have eR:(hp.map (·.1)).length<=20:=by rw[bJ];exact aG oh.len hl
 apply aA (Yr ah)
 rw[dh.keys (g:=V.int)]
 refine cZ (c8 (e7 eR)) (aA (CE (ls:=hp.map (·.1)) (bz _ _)) (And.intro (e7 eR) λjs hj pR=>?_))
 rw[Ym hj pR]
 apply aA (dU (bz _ _))
 have M4:(yO (hp.map (·.1))).length<=20:=aG (iC (List.mergeSort_perm _ _).length_eq) eR
 refine cZ (c8 (by rw[bJ,bJ];exact cG M4 (by decide))) ((?_:iR _ _ _ _ _ (((yO (hp.map (·.1))).map hz).map V.int) _ _ _ _))
 rw[map_map]
 have get:∀h∈yO (hp.map (·.1)),∃v,fO hs (hz h)=some v/\iW H.length H' (pW hp h) v:=λh hh=>(dh.get Du h (wI.mpr ((List.mergeSort_perm _ _).mem_iff.mp hh))).elim λw hw=>hw.elim λv hv=>⟨v,hv.2.1,by unfold pW;rw[hv.1];exact hv.2.2⟩
 refine mj (P:=λζ=>true) (F:=λh=>.aF [nv h,(fO hs (hz h)).getD .none]) _ _ _ (λa ζ T h=>h) (λh hh ζ N hN=>(get h hh).elim λv hv=>?_) ?_
 ·refine aA (MV (bu _ (bu _ ah)) hv.1) ?_
  rw[hv.1] at hN
  exact hN
 ·rw[yN]
  have xx:∀a b c:List aI,aC H' (H'++a++b++c):=λa b c=>(aC.aT H' a).trans ((aC.aT _ b).trans (aC.aT _ c))
  refine q _ _ _ (by rw[bJ];exact M4) (λe he=>(ii.mp he).elim λh hh=>hh.2▸?_) (x.trans ((aC.aT H' _).trans (aC.aT _ _))).len (x.trans (xx _ _ _)) (bz _ _) ?_
  ·refine(?_:(pW hp h).length<=42)
   unfold pW wH
   cases hf:hp.find? λp=>decide (p.1=h) with
   |none=>exact iD _
   |some e=>exact oh _ λζ ζ ln=>ln e (List.mem_of_find?_eq_some hf)
  ·exact M2 _ λh hh=>(get h hh).elim λv hv=>hv.2 _ λlv hb ev av=>(.mk lv hb (by rw[hv.1,ev];rfl) (xx _ _ _ _ _ av))
theorem YE(hW:fk ps)(hl:ps.length<=20)(hp:ps[k]?=some p)(hA:H[l]?=some (.list (ps.map bW)))(q:M3 H (pX ps d k) Q):aH (n+5) 6 [.ref l,nv k,.int d] H Q Y:=WV (by
 have YF:=(d7.mp hp).1
 refine And.intro (bu _ (bz _ _)) λep=>?_
 generalize GN:(H++[aI.dY 0 []]++[aI.list [nv k]]).set H.length (.dY ep [(kz (k,false),.ref (H++[aI.dY 0 []]).length)])=H₂
 have cN:aC H H₂:=by rw[<-GN];exact((aC.aT _ _).trans (aC.aT _ _)).set (bX _) _
 have nI:H₂[H.length]?=some (.dY ep [(kz (k,false),.ref (H++[aI.dY 0 []]).length)]):=by rw[<-GN];exact d9 (bu _ (bz _ _)) _
 have M5:H.length<(H++[aI.dY 0 []]).length:=by rw[b6];exact jH _
 have YG:H₂[(H++[aI.dY 0 []]).length]?=some (.list (aS [k])):=by rw[<-GN];exact dK (bz _ _) _ (dq M5)
 have len₂:=bZ nI
 have c6:aC H₂ (H₂++[aI.dY 0 []]++[aI.dict 0 []]):=(aC.aT _ _).trans (aC.aT _ _)
 refine Ge (GJ ps d k l (wL ps d k 41 [] [((k,false),[k])] []) H) (λf ρ H' h T ht yI=>?_) _ 41 _ _ (show 41<(k:Int).natAbs+(d.natAbs+1000) by lia) (.mk none none H.length H₂.length ((H₂++[aI.dY 0 []]).length) ep 0 0 _ [] [] [] [((k,false),[k])] [] 1 rfl (cN.trans c6) (cW len₂) (aG (cW len₂) (by rw[b6];exact eV _ _)) (dq len₂) (c6 _ _ nI) (bu _ (bz _ _)) (bz _ _) (.cons ⟨rfl,(.mk _ (cW M5) rfl (c6 _ _ YG))⟩ .nil) .nil .nil (.mk (nj.mpr ⟨sS,ql⟩) (λe he=>by rw[dI.mp he];exact YF) (λe he=>by rw[dI.mp he];exact bX 1)) (λs h=>(nomatch h)) (.mk ql (λs h=>(nomatch h)) (λs h=>(nomatch h))) (by refine(?_:2*ps.length<41+0);lia) rfl rfl)
 refine h _ λo6 o7 lw lk lh ew ek eh es ks hs kn ws hp L e x bk bh ne aw ak ah dw dk dh ok kr oh hf hL t=>?_
 subst e
 have done:hp=wL ps d k 41 [] [((k,false),[k])] []->∀H'',aC H' H''->aX ⟨aH (n+4),Y⟩ (B9.drop 4) [some (.ref l),some (nv k),some (.int d),some (.ref lw),some (.ref lk),some (.ref lh),o6,o7] H'' (fA Q):=λvW H'' wN=>YD hl (x.trans wN) (wN _ _ ah) (dh.imp λζ ζ h=>h.ext wN) oh (by unfold pX at q;rw[<-vW] at q;exact q)
 cases f with
 |zero=>exact absurd (GC (ok _ λnd ζ ζ=>(sM.mp nd).1) kr) (by rw[bJ];lia)
 |succ f=>
  have t':(if hp.isEmpty&&!ws.isEmpty then wL ps d k f (km kn ws) (wK ps d (km kn ws) ws) (((wK ps d (km kn ws) ws).map (·.1)).foldl (u4 ps d k (wK ps d (km kn ws) ws)) hp) else hp)=_:=t
  apply aA (Yp (bu [.dict 0 []] ah) (bz H' (.dict 0 [])))
  rw[MW dh]
  refine ir (λh1=>?_) λh1=>?_
  ·apply aA (Yq (bu _ (bu [.dict 0 []] aw)) (bz _ _))
   rw[MW dw]
   rw[h1,Bool.true_and] at t'
   cases hw:!ws.isEmpty with
   |false=>
    rw[hw] at t'
    exact yI _ (done t' _ ((aC.aT _ _).trans (aC.aT _ _)))
   |true=>
    rw[hw] at t'
    refine ht _ λN hN=>?_
    have xb:aC H' (H'++[aI.dict 0 []]++[aI.dict 0 []]):=(aC.aT _ _).trans (aC.aT _ _)
    generalize H'++[aI.dict 0 []]++[aI.dict 0 []]=Hb at xb ⊢
    have Dv:=xb _ _ aw
    have Dw:((km kn ws).map (·.1)).Nodup:=by rw[M1];exact ok _ λnd ζ ζ=>nd
    have M6:∀s∈(km kn ws).map (·.1),s.1<ps.length:=by
     rw[M1]
     exact λs hs=>(cY.mp hs).elim (kr s) λh=>(ii.mp h).elim λe he=>he.2▸ok _ λζ rg ζ=>rg e he.1
    have len2:(km kn ws).length<=40:=by rw[<-bJ (f:=(·.1))];exact aG (GC Dw M6) (oi 2 hl)
    have nkh:lh≠lk:=λe=>by rw[e,ak] at ah;cases ah
    apply aA (GD Dv)
    rw[dw.keys]
    refine gq (qI (km kn ws) lk (some (.ref l)) (some (nv k)) (some (.int d)) (some (.ref lw)) (some (.ref lh)) o7 Hb) (λs as ρ H₃ h=>?_) (λρ H₃ h=>?_) _ _ _ (.mk o6 ek ks kn rfl (bO.refl _ _) (xb _ _ ak) dk (by unfold km;rw[map_map];rfl))
    ·refine h _ λo6 ek ks kd e x3 a dk t=>?_
     subst e
     refine λN' mP=>?_
     have hs:jh kd s=false:=by
      cases h:jh kd s with
      |false=>rfl
      |true=>
       rw[<-t,jO] at Dw
       exact absurd rfl ((sM.mp Dw).2.2 s (wI.mp h) s dD)
     exact MO a (by rw[ct.len dk];exact rV t (aG len2 (by decide))) λep=>mP _ _ (dE Dv ((x3.trans (bO.set _ _ _)) _ _ ne Dv)) (.mk _ ep _ (kd++[(s,())]) rfl (x3.trans (bO.set _ _ _)) (d9 a _) (by rw[<-Ys hs];exact gQ.put wJ dk trivial) (iV t))
    ·refine h _ λo6 ek ks kd e x3 a dk t=>?_
     subst e
     rw[map_nil,fN] at t
     subst t
     have xH3:aC H H₃:=x3.ext (x.trans xb) bk
     have up:∀{w v},iW H.length H' w v->iW H.length H₃ w v:=λh=>(h.ext xb).set (xb _ _ ak) (λvs h=>nomatch h) x3
     refine ok _ λnd rg ln=>ck (Yh (n:=n) hW hl (L:=L) (aG (aG (eV L _) (iC hL)) (by decide)) (xH3 _ _ hA) a dk (x3 _ _ ne Dv) (dw.imp λζ ζ h=>up h) xH3.len Dw rg (M0 ln) λlf ef fs H₄ gu blf af df okf=>?_)
     generalize YH:(List.map (·.1) ws).foldl (u0 ps d (km kn ws) ws) []=W at df okf
     rw[show wK ps d (km kn ws) ws=W from YH] at t'
     have x4H:=xH3.trans gu
     apply aA (GD af)
     rw[df.keys]
     have klt:=cL (bZ a) blf
     refine gq (GL ps (u4 ps d k W) ((W.map (·.1)).foldl (u4 ps d k W) hp) H.length lh (some (.ref l)) (some (nv k)) (some (.int d)) (some (.ref lf)) (some (.ref lk)) H₄ (W.map (·.1))) (λs as ρ H₅ h=>?_) (λρ H₅ h=>?_) _ _ _ (.mk o6 o7 eh hs hp rfl (bO.refl _ _) (gu _ _ (x3 _ _ nkh (xb _ _ ah))) (dh.imp λζ ζ h=>(up h).ext gu) oh rfl (λs h=>h))
     ·refine h _ λo6 o7 eh hs hp e x5 qR yP oh t bs=>?_
      subst e
      refine λN' mP=>?_
      have mI:s.1<ps.length:=(ii.mp (bs s dD)).elim λe he=>he.2▸okf _ λζ rg ζ=>rg e he.1
      refine(at_of mI).elim λp' fJ=>?_
      have x5H:aC H H₅:=x5.ext x4H bh
      have nfh:lf≠lh:=λe=>by rw[e,gu _ _ (x3 _ _ nkh (xb _ _ ah))] at af;cases af
      have M7:=x5 _ _ nfh af
      have st:∀c,fS [lf] H₄ (H₅.set lh c)=true:=λc=>dE af ((x5.trans (bO.set _ _ c)) _ _ nfh af)
      refine(df.get wJ s (wI.mpr (bs s dD))).elim λw hw=>hw.elim λwv hw=>?_
      have gw:mm W s=w:=by unfold mm;rw[hw.1];rfl
      have M8:iW H.length H₅ w wv:=hw.2.2.set (gu _ _ (x3 _ _ nkh (xb _ _ ah))) (λvs h=>nomatch h) x5
      rw[foldl_cons] at t
      have te:∀s∈as,s∈W.map (·.1):=λs h=>bs s (.tail _ h)
      refine YC (n:=n) (x5H _ _ hA) fJ M7 hw.2.1 qR yP M8 (by rw[ct.len yP];exact cG (aG oh.len hl) (by decide)) (λhc ep=>?_) λhc=>?_
      ·have x6:=bO.set lh H₅ (.dict ep (dput hs (hz s.1) wv))
       refine mP _ _ (st _) (.mk _ _ ep _ (mQ hp s.1 w) rfl (x5.trans x6) (d9 qR _) (gQ.put Du (yP.imp λζ ζ h=>h.set qR (λvs h=>nomatch h) x6) (M8.set qR (λvs h=>nomatch h) x6)) (oh.put mI (by rw[<-gw];exact M0 (okf _ λζ ζ ln=>λe he=>aG (ln e he) (by lia)) s)) (?_) te)
       rw[show u4 ps d k W hp s=mQ hp s.1 w by unfold u4;rw[gw,mf fJ,if_pos hc]] at t
       exact t
      ·refine mP _ _ (dE af M7) (.mk _ _ eh hs hp rfl x5 qR yP oh (?_) te)
       rw[show u4 ps d k W hp s=hp by unfold u4;rw[gw,mf fJ,if_neg (by rw[hc];decide)]] at t
       exact t
     ·refine h _ λo6 o7 eh hs hp e x5 qR yP oh t bs=>?_
      subst e
      rw[foldl_nil] at t
      rw[<-t] at t'
      have lkh:lk≠lh:=λe=>nkh e.symm
      have a5:=x5 _ _ lkh (gu _ _ a)
      have nfh:lf≠lh:=λe=>by rw[e,gu _ _ (x3 _ _ nkh (xb _ _ ah))] at af;cases af
      exact hN f _ _ (jH f) (.mk o6 o7 lf lk lh ef _ eh fs _ hs (km kn ws) W hp (L+1) rfl (x5.ext x4H bh) bk bh (dm klt) (x5 _ _ nfh af) a5 qR (df.imp λζ ζ h=>h.set (gu _ _ (x3 _ _ nkh (xb _ _ ah))) (λvs h=>nomatch h) x5) dk yP okf M6 oh (by
       have:1<=ws.length:=by
        cases ws with
        |nil=>cases hw
        |cons a r=>exact vy _ _
       unfold km
       rw[b6,bJ]
       lia) (by lia) t')
  ·rw[h1,Bool.false_and] at t'
   rw[h1]
   exact yI _ (done t' _ (aC.aT _ _)))
structure gh where
 a:Nat
 b:Nat
 day:Int
variable{ms:List gh}
structure iw where
 fP:Nat
 day:Int
 dO:List (Nat×Rat)
noncomputable def iH(w:gh):V:=.aF [nv w.a,nv w.b,.int w.day]
noncomputable def nJ(g:Nat×Rat):V:=.aF [nv g.1,rv g.2]
noncomputable def jX(gs:List (Nat×Rat)):V:=.aF (gs.map nJ)
noncomputable def iX(w:iw):V:=.aF [nv w.fP,.int w.day,jX w.dO]
noncomputable def oP(a k:Nat):Bool:=((a:Int)==(k:Int))
noncomputable def Dx:Option Nat->V
 |none=>.none
 |some k=>nv k
noncomputable def qS(ps:List bb)(d:Int)(k:Nat):List gh->Option Nat
 |[]=>none
 |w::r=>if decide (w.day<=d)&&(oP w.a k&&lv ps d w.b) then some w.b else if decide (w.day<=d)&&(oP w.b k&&lv ps d w.a) then some w.a else qS ps d k r
noncomputable def lO(k:Nat)(d:Int):List iw->Int->List (Nat×Rat)->List (Nat×Rat)
 |[],_,g=>g
 |w::r,m,g=>if oP w.fP k&&(decide (m<=w.day)&&decide (w.day<=d)) then lO k d r w.day w.dO else lO k d r m g
theorem GO{P:List (Nat×Rat)->Prop}{k:Nat}{d:Int}:∀(ws:List iw) (m:Int) (g:List (Nat×Rat)),(∀w∈ws,P w.dO)->P g->P (lO k d ws m g)
 |[],_,g,_,h=>h
 |w::r,m,g,hw,h=>by
  unfold lO
  split
  ·exact GO r _ _ (λw h=>hw w (.tail _ h)) (hw w dD)
  ·exact GO r _ _ (λw h=>hw w (.tail _ h)) h
def u5(n:Nat)(ms:List gh):Prop:=∀w∈ms,w.a<n/\w.b<n
noncomputable def M9(ζ:Prop)(ps:List bb)(d:Int)(k:Nat)(x0:V)(tot:Option Nat)(n:Nat)(H:Hp)(as:List gh)(ρ:bv)(H':Hp):Prop:=∀(o3 o4 o5:Option V) (e:ρ=[some x0,some (nv k),some (.int d),o3,o4,o5]) (eh:H'=H) (t:qS ps d k as=tot) (b:u5 n as),ζ
def GP:=λps d k x0 tot n H as ρ H'=>∀ζ:Prop,M9 ζ ps d k x0 tot n H as ρ H'->ζ
theorem GP.mk{ps d k x0 tot n H as ρ H'}:M9 (GP ps d k x0 tot n H as ρ H') ps d k x0 tot n H as ρ H':=λx0 x1 x2 x3 x4 x5 x6 ζ k=>k x0 x1 x2 x3 x4 x5 x6
noncomputable def Na(ζ:Prop)(k:Nat)(d:Int)(x0:V)(tot:List (Nat×Rat))(H:Hp)(as:List iw)(ρ:bv)(H':Hp):Prop:=∀(m:Int) (g:List (Nat×Rat)) (o5 o6 o7:Option V) (e:ρ=[some x0,some (nv k),some (.int d),some (.int m),some (jX g),o5,o6,o7]) (eh:H'=H) (t:lO k d as m g=tot),ζ
def GQ:=λk d x0 tot H as ρ H'=>∀ζ:Prop,Na ζ k d x0 tot H as ρ H'->ζ
theorem GQ.mk{k d x0 tot H as ρ H'}:Na (GQ k d x0 tot H as ρ H') k d x0 tot H as ρ H':=λx0 x1 x2 x3 x4 x5 x6 x7 ζ k=>k x0 x1 x2 x3 x4 x5 x6 x7
theorem YI(hA:H[l]?=some (.list (ps.map bW)))(hM:H[lm]?=some (.list (ms.map iH)))(hw:u5 ps.length ms)(q:Q (Dx (qS ps d k ms)) H):aH (n+2) 16 [.aF [.ref l,.ref lm,z],nv k,.int d] H Q Y:=W5 (by
 refine aA (dU hM) (gq (GP ps d k (.aF [.ref l,.ref lm,z]) (qS ps d k ms) ps.length H) (λw as ρ H' h=>?_) (λρ H' h=>?_) _ _ _ (.mk none none none rfl rfl rfl hw))
 ·refine h _ λo3 o4 o5 e eh t b=>?_
  subst e eh
  refine λN hN=>?_
  have mJ:=b w dD
  refine(at_of mJ.1).elim λpa ha=>(at_of mJ.2).elim λpb hb=>?_
  have t:(if decide (w.day<=d)&&(oP w.a k&&lv ps d w.b) then some w.b else if decide (w.day<=d)&&(oP w.b k&&lv ps d w.a) then some w.a else qS ps d k as)=qS ps d k ms:=t
  rw[mf ha,mf hb] at t
  have no:(decide (w.day<=d)&&(oP w.a k&&g8 pb d))=false->(decide (w.day<=d)&&(oP w.b k&&g8 pa d))=false->N [some (.aF [.ref l,.ref lm,z]),some (nv k),some (.int d),some (nv w.a),some (nv w.b),some (.int w.day)] H':=λh1 h2=>hN _ _ (dE hM hM) (.mk _ _ _ rfl rfl (by rw[h1,h2] at t;exact t) (λw h=>b w (.tail _ h)))
  have second:(decide (w.day<=d)&&(oP w.a k&&g8 pb d))=false->aX ⟨aH (n+1),Y⟩ [.bD (.and [(.cmp .le (.J 5) (.J 2)),(.cmp .eq (.J 4) (.J 1)),(.call 0 [(iI 0 0),.J 3,.J 2])]) [.ret (.J 3)] []] [some (.aF [.ref l,.ref lm,z]),some (nv k),some (.int d),some (nv w.a),some (nv w.b),some (.int w.day)] H' (qD (λo=>mG o (λρ H=>aX ⟨aH (n+1),Y⟩ [.ret (.k .none)] ρ H (fA Q)) (fA Q o)) N):=λh1=>by
   have no:=no h1
   rw[h1] at t
   refine((ir (λh2=>?_) λh2=>fL h2 (no (by rw[h2];rfl))):cD (decide (w.day<=d)==true) _ _)
   rw[h2] at t no
   refine((ir (λh3=>?_) λh3=>fL h3 (no (by rw[h3];rfl))):cD (oP w.b k==true) _ _)
   rw[h3] at t no
   refine ck (rU hA ha (((dp (λh4=>?_) λh4=>no (by rw[h4];rfl)):cD (g8 pa d) _ _)))
   rw[h4] at t
   rw[<-t] at q
   exact q
  refine((ir (λh2=>?_) λh2=>fL h2 (second (by rw[h2];rfl))):cD (decide (w.day<=d)==true) _ _)
  rw[h2] at t second
  refine((ir (λh3=>?_) λh3=>fL h3 (second (by rw[h3];rfl))):cD (oP w.a k==true) _ _)
  rw[h3] at t second
  refine ck (rU hA hb (((dp (λh4=>?_) λh4=>second (by rw[h4];rfl)):cD (g8 pb d) _ _)))
  rw[h4] at t
  rw[<-t] at q
  exact q
 ·refine h _ λo3 o4 o5 e eh t b=>?_
  subst e eh
  rw[<-t] at q
  exact q)
theorem YJ{ws:List iw}{y:V}(hM:H[lw]?=some (.list (ws.map iX)))(q:Q (jX (lO k d ws (-1) [])) H):aH (n+1) 17 [.aF [y,z,.ref lw],nv k,.int d] H Q Y:=W6 (by
 refine aA (dU hM) (gq (GQ k d (.aF [y,z,.ref lw]) (lO k d ws (-1) []) H) (λw as ρ H' h=>?_) (λρ H' h=>?_) _ _ _ (.mk (-1) [] none none none rfl rfl rfl))
 ·refine h _ λm g o5 o6 o7 e eh t=>?_
  subst e eh
  refine λN hN=>?_
  have t:(if oP w.fP k&&(decide (m<=w.day)&&decide (w.day<=d)) then lO k d as w.day w.dO else lO k d as m g)=lO k d ws (-1) []:=t
  have no:(oP w.fP k&&(decide (m<=w.day)&&decide (w.day<=d)))=false->N [some (.aF [y,z,.ref lw]),some (nv k),some (.int d),some (.int m),some (jX g),some (nv w.fP),some (.int w.day),some (jX w.dO)] H':=λh=>hN _ _ (dE hM hM) (.mk m g _ _ _ rfl rfl (by rw[h] at t;exact t))
  refine((ir (λh1=>?_) λh1=>fL h1 (no (by rw[h1];rfl))):cD (oP w.fP k==true) _ _)
  rw[h1] at t no
  refine((dp (λh2=>?_) λh2=>no (by rw[h2];rfl)):cD (decide (m<=w.day)) _ _)
  rw[h2] at t no
  refine((dp (λh3=>?_) λh3=>no (by rw[h3];rfl)):cD (decide (w.day<=d)) _ _)
  rw[h3] at t
  exact hN _ _ (dE hM hM) (.mk w.day w.dO _ _ _ rfl rfl t)
 ·refine h _ λm g o5 o6 o7 e eh t=>?_
  subst e eh
  have t:g=_:=t
  rw[<-t] at q
  exact q)
theorem Nb(hA:H[l]?=some (.list (ps.map bW)))(hp:ps[k]?=some p)(q:Q (.bool (g8 p d)) H):aH (n+1) 32 [.ref l,nv k,.int d] H Q Y:=Xk (by
 have q:Q (.bool (decide (p.aZ<=d)&&before d p.bS)) H:=q
 refine aA (fY hA hp) ((uS (λh=>?_) λh=>?_:cD (decide (d<p.aZ)) _ _))
 ·rw[gE (Int.not_le.mpr h)] at q;exact q
 ·rw[dj (kM.mp h),Bool.true_and] at q
  apply aA (fY hA hp)
  unfold bW
  cases hd:p.bS with
  |none=>rw[hd] at q;exact q
  |some e=>
   rw[hd] at q
   apply aA (fY hA hp)
   unfold bW
   rw[hd]
   exact q)
structure fM where
 gr:Option Nat
 part:Rat
 how:Str
 line:List Nat
variable{rs:List fM}
noncomputable def Nc(ζ:Prop)(b lr:Nat)(H:Hp)(r:fM)(v:V):Prop:=∀(l:Nat) (hb:b<=l) (hn:l≠lr) (e:v=.aF [Dx r.gr,rv r.part,.str r.how,.ref l]) (a:H[l]?=some (.list (aS r.line))),ζ
def GR:=λb lr H r v=>∀ζ:Prop,Nc ζ b lr H r v->ζ
theorem GR.mk{b lr H r v}:Nc (GR b lr H r v) b lr H r v:=λx0 x1 x2 x3 x4 ζ k=>k x0 x1 x2 x3 x4
abbrev qT(b lr:Nat)(H:Hp):List fM->List V->Prop:=ct (GR b lr H)
theorem qT.b{b:Nat}(h:qT b lr H rs vs)(x:bO lr H H'):qT b lr H' rs vs:=h.imp λζ ζ h=>h _ λl hb hn e a=>(.mk l hb hn e (x l _ hn a))
noncomputable def A7(k:Nat)(s:Rat)(r:Row):fM:=⟨some r.gr,s*r.rW,"will",k::r.line⟩
noncomputable def jY(ps:List bb)(d:Int)(k:Nat)(g:Nat×Rat):List fM:=if lv ps d g.1 then[⟨some g.1,g.2,"will",[k,g.1]⟩] else(lM ps d 20 g.1).map (A7 k g.2)
noncomputable def counts(ps:List bb)(d:Int)(g:Nat×Rat):Bool:=lv ps d g.1||(kids ps d g.1).any (kh ps d 20)
noncomputable def pY(ps:List bb)(d:Int)(t:Rat)(g:Nat×Rat):Rat:=if counts ps d g then t+g.2 else t
def u6(n:Nat)(gs:List (Nat×Rat)):Prop:=∀g∈gs,g.1<n/\Sm 10 g.2
noncomputable def Nd(ζ:Prop)(N:Nat)(w:iw):Prop:=∀(gk:u6 N w.dO/\w.dO.length<=10) (dy:0<=w.day) (ns:List Nat) (ov un:Nat) (h:un≠0) (e:w.dO=ns.map λj=>(j,Rat.normalize ov un h)) (o1:1<=ov) (u1:un<1000) (le:ov*ns.length<=un) (nd:ns.Nodup/\w.fP∉ns/\ns≠[]),ζ
def u7:=λN w=>∀ζ:Prop,Nd ζ N w->ζ
theorem u7.mk{N w}:Nd (u7 N w) N w:=λx0 x1 x2 x3 x4 x5 x6 x7 x8 x9 dz ζ k=>k x0 x1 x2 x3 x4 x5 x6 x7 x8 x9 dz
def GS(N:Nat)(ws:List iw):Prop:=∀w∈ws,u7 N w
theorem Sm.add{x:Rat}(hx:Sm i x)(hy:Sm j y):Sm (i+j+1) (x+y):=by
 rw[Rat.add_def]
 refine Sm.tG _ (cG (Int.natAbs_add_le _ _) ?_) (cL (uX hx.2 hy.2) (zS (by decide) (kO _)))
 rw[natAbs_mul,natAbs_mul]
 exact Mc (uX hx.1 hy.2) (by rw[pC];exact uX hy.1 hx.2)
theorem Sm.pY{t:Rat}{g:Nat×Rat}(ht:Sm i t)(hg:Sm 10 g.2):Sm (i+11) (pY ps d t g):=by
 unfold L.pY
 split
 ·exact ht.add hg
 ·exact ht.le (eV _ _)
theorem YK(h:(kids ps d k).any (kh ps d 20)=false):lM ps d 20 k=[]:=by
 have e:mi ps d (kids ps d k)=[]:=zQ.mpr λc hc=>by
  rw[any_eq_false] at h
  exact h c hc
 refine(?_:kj ps d (lM ps d 19) k (mi ps d (kids ps d k))=[])
 rw[e];rfl
theorem Nf(hW:fk ps)(hl:ps.length<=20){g:Nat×Rat}(hg:g.1<ps.length):(jY ps d k g).length<=1048576:=by
 unfold jY
 split
 ·exact(by decide:1<=1048576)
 ·rw[bJ]
  exact aG (AW hW 20 g.1 _ (iB hg)) (Dm hl _)
noncomputable def Ng(ζ:Prop)(ps:List bb)(d:Int)(k l lr b:Nat)(x2:V)(H₁:Hp)(tot:List fM)(sum:Rat)(as:List (Nat×Rat))(ρ:bv)(H':Hp):Prop:=∀(o6 o7 o8 o9 o10:Option V) (s:Rat) (i:Nat) (rs:List fM) (vs:List V) (e:ρ=[some (.ref l),some (nv k),some x2,some (.int d),some (.ref lr),some (rv s),o6,o7,o8,o9,o10]) (x:bO lr H₁ H') (a:H'[lr]?=some (.list vs)) (r:qT b lr H' rs vs) (t:rs++as.flatMap (jY ps d k)=tot) (ts:as.foldl (pY ps d) s=sum) (sm:Sm i s) (hi:i+11*as.length<=1000) (g:u6 ps.length as),ζ
def GU:=λps d k l lr b x2 H₁ tot sum as ρ H'=>∀ζ:Prop,Ng ζ ps d k l lr b x2 H₁ tot sum as ρ H'->ζ
theorem GU.mk{ps d k l lr b x2 H₁ tot sum as ρ H'}:Ng (GU ps d k l lr b x2 H₁ tot sum as ρ H') ps d k l lr b x2 H₁ tot sum as ρ H':=λx0 x1 x2 x3 x4 x5 x6 x7 x8 x9 dz fK eA fZ jW ku qQ wM ζ k=>k x0 x1 x2 x3 x4 x5 x6 x7 x8 x9 dz fK eA fZ jW ku qQ wM
noncomputable def Nh(ζ:Prop)(k lr b:Nat)(x0 x2 x3 x5 x6:Option V)(s:Rat)(H₁:Hp)(rest tot:List fM)(as:List Row)(ρ:bv)(H':Hp):Prop:=∀(o8 o9 o10:Option V) (rs:List fM) (vs:List V) (e:ρ=[x0,some (nv k),x2,x3,some (.ref lr),x5,x6,some (rv s),o8,o9,o10]) (x:bO lr H₁ H') (a:H'[lr]?=some (.list vs)) (r:qT b lr H' rs vs) (t:rs++(as.map (A7 k s)++rest)=tot),ζ
def GV:=λk lr b x0 x2 x3 x5 x6 s H₁ rest tot as ρ H'=>∀ζ:Prop,Nh ζ k lr b x0 x2 x3 x5 x6 s H₁ rest tot as ρ H'->ζ
theorem GV.mk{k lr b x0 x2 x3 x5 x6 s H₁ rest tot as ρ H'}:Nh (GV k lr b x0 x2 x3 x5 x6 s H₁ rest tot as ρ H') k lr b x0 x2 x3 x5 x6 s H₁ rest tot as ρ H':=λx0 x1 x2 x3 x4 x5 x6 x7 x8 x9 ζ k=>k x0 x1 x2 x3 x4 x5 x6 x7 x8 x9
theorem YL{d:Int}{ps:List bb}(hW:fk ps)(hl:ps.length<=20){gs:List (Nat×Rat)}(hg:u6 ps.length gs)(u9:gs.length<=10)(hA:H[l]?=some (.list (ps.map bW)))
  (q:∀lr vs H',H.length<=lr->aC H H'->H'[lr]?=some (.list vs)->qT H.length lr H' (gs.flatMap (jY ps d k)) vs->Q (.aF [.ref lr,rv (gs.foldl (pY ps d) 0)]) H'):aH (n+64) 18 [.ref l,nv k,jX gs,.int d] H Q Y:=W7 (by
 have ht:(gs.flatMap (jY ps d k)).length<=16000000:=aG (Do λg h=>Nf hW hl (hg g h).1) (aG (Nat.mul_le_mul_right _ u9) (by decide))
 refine gq (g:=nJ) (GU ps d k l H.length H.length (jX gs) (H++[.list []]) (gs.flatMap (jY ps d k)) (gs.foldl (pY ps d) 0)) (λg as ρ H' h=>?_) (λρ H' h=>?_) gs _ _ (.mk none none none none none 0 1 [] [] rfl (bO.refl _ _) (bz _ _) .nil rfl rfl ⟨by decide,by decide⟩ (by lia) hg)
 ·refine h _ λo6 o7 o8 o9 o10 s i rs vs e x a r t ts sm hi hg=>?_
  subst e
  refine λN hN=>?_
  have yQ:=hg g dD
  have xH:aC H H':=x.ext (aC.aT _ _) (bX _)
  refine(at_of yQ.1).elim λp hp=>?_
  rw[flatMap_cons,show jY ps d k g=if g8 p d then[⟨some g.1,g.2,"will",[k,g.1]⟩] else(lM ps d 20 g.1).map (A7 k g.2) by rw[<-mf hp];rfl] at t
  rw[foldl_cons,show pY ps d s g=if g8 p d||(kids ps d g.1).any (kh ps d 20) then s+g.2 else s by rw[<-mf hp];rfl] at ts
  rw[lF] at hi
  have Ni:i+10<=1000000:=by lia
  refine ck (rU (xH _ _ hA) hp ((dp (λh1=>?_) λh1=>?_:cD (g8 p d) _ _)))
  ·rw[h1] at t ts
   have t:rs++(⟨some g.1,g.2,"will",[k,g.1]⟩::as.flatMap (jY ps d k))=_:=t
   exact gf a (gg (bu _ a) (by rw[r.len];exact rV t ht) (ck (Gm sm yQ.2 Ni (hN _ _ rfl (.mk _ _ _ _ _ (s+g.2) (i+11) (rs++[⟨some g.1,g.2,"will",[k,g.1]⟩]) _ rfl (x.trans ((bO.aT _ _ _).trans (bO.set _ _ _))) (d9 (bu _ a) _) ((r.b ((bO.aT _ _ _).trans (bO.set _ _ _))).snoc (.mk H'.length xH.len (dm (bZ a)) rfl (dK (bz _ _) _ (dq (bZ a))))) (iV t) ts (sm.add yQ.2) (by lia) (λg h=>hg g (.tail _ h)))))))
  ·rw[h1] at t ts
   have t:rs++((lM ps d 20 g.1).map (A7 k g.2)++as.flatMap (jY ps d k))=_:=t
   refine ck (AQ (n:=n+61) (xH _ _ hA) hl λlc H₂ Gy cN hc=>(aA (dU hc) (cZ (c8 (e7 (aG (uW ps d g.1) hl))) (Mv (n:=n+41) (i:=2) hW hl (λc' pV=>yK hW hp pV λq hq ζ ζ=>⟨q,hq⟩) rfl ((xH.trans cN) _ _ hA) hc λH₃ c6=>aA (Mw (bz _ _)) ?_))))
   rw[Mx]
   have tK:=cN.trans (c6.trans (aC.aT _ [.list ((kids ps d g.1).map λc=>.bool (kh ps d 20 c))]))
   generalize H₃++[aI.list ((kids ps d g.1).map λc=>.bool (kh ps d 20 c))]=H₄ at tK ⊢
   refine dp (λh2=>?_) λh2=>?_
   ·rw[h2] at ts
    refine ck (Dn (n:=n) hW hl (f:=20) (bX _) ((xH.trans tK) _ _ hA) hp (cL (AR (ie hp)) hl) λlb us H₅ hb ju ab rb=>?_)
    have A6:=tK.trans ju
    have a':=A6 _ _ a
    have oO:=cL (cL (bZ a) tK.len) hb
    refine aA (dU ab) (AV (R:=λr v=>r∈lM ps d 20 g.1/\pU (lb+1) H₅ r v) (GV k H.length H.length (some (.ref l)) (some (jX gs)) (some (.int d)) (some (rv s)) (some (nv g.1)) g.2 H₅ (as.flatMap (jY ps d k)) (gs.flatMap (jY ps d k))) (λrw v bs ρ H₆ hv h=>?_) (λρ H₆ h=>?_) (rb.imp' λr v hr hv=>⟨hr,hv⟩) _ _ (.mk _ _ _ rs vs rfl (bO.refl _ _) a' (r.b (A6.b _)) t))
    ·refine hv.2 _ λll rX e al=>?_
     subst e
     refine h _ λo8 o9 o10 rs vs e iu a r t=>?_
     subst e
     refine λN' mP=>?_
     have sr:=wF hl 20 _ _ hv.1
     have nl:ll≠H.length:=dm (jp oO rX)
     refine gf a (ck (AU yQ.2 sr.1 (by decide) (tI (bz _ _) (bu _ (iu _ _ nl al)) (by rw[b6,bJ];exact cG (kL sr.2 _) (show 1+(20+1)<16000000 by decide)) ?_)))
     have A8:bO H.length H₆ _:=(bO.aT _ H₆ [aI.list [nv k]]).trans ((bO.aT _ _ [aI.list (aS (k::rw.line))]).trans (bO.set _ _ (.list (vs++[.aF [nv rw.gr,rv (g.2*rw.rW),.str "will",.ref (H₆++[aI.list [nv k]]).length]]))))
     have ey:=bZ (bu [aI.list [nv k]] a)
     exact gg (bu _ (bu _ a)) (by rw[r.len];exact rV t ht) (mP _ _ (dE ab ((iu.trans A8) _ _ (dm oO) ab)) (.mk _ _ _ (rs++[A7 k g.2 rw]) _ rfl (iu.trans A8) (d9 (bu _ (bu _ a)) _) ((r.b A8).snoc (.mk ((H₆++[aI.list [nv k]]).length) (cW ey) (dm ey) rfl (dK (bz _ _) _ (dq ey)))) (iV t)))
    ·refine h _ λo8 o9 o10 rs vs e iu a r t=>?_
     subst e
     exact ck (Gm sm yQ.2 Ni (hN _ _ rfl (.mk _ _ _ _ _ (s+g.2) (i+11) rs vs rfl (x.trans ((A6.b _).trans iu)) a r t ts (sm.add yQ.2) (by lia) (λg h=>hg g (.tail _ h)))))
   ·rw[h2] at ts
    rw[YK h2] at t
    exact hN _ _ rfl (.mk _ _ _ _ _ s i rs vs rfl (x.trans (tK.b _)) (tK _ _ a) (r.b (tK.b _)) t ts sm (by lia) (λg h=>hg g (.tail _ h)))
 ·refine h _ λo6 o7 o8 o9 o10 s i rs vs e x a r t ts sm hi hg=>?_
  subst e
  rw[flatMap_nil,fN] at t
  rw[foldl_nil] at ts
  subst t ts
  exact q _ vs _ (bX _) (x.ext (aC.aT _ _) (bX _)) a r)
noncomputable def k4(x:Rat):PyData:=.tuple [.int x.num,.int (x.den:Int)]
noncomputable def GW(l:List Nat):PyData:=.list (l.map λi:Nat=>.int i)
noncomputable def Nj(r:Row):PyData:=.tuple [.int r.gr,k4 r.rW,GW r.line]
theorem r6{ds:List PyData}(h:H[l]?=some (.list vs))(e:gp (rd H m) vs=some ds):rd H (m+1) (.ref l)=some (.list ds):=by
 refine(?_:((dJ H (.ref l)).bind λvs=>(gp (rd H m) vs).map PyData.list)=_)
 rw[cU h]
 refine(?_:(gp (rd H m) vs).map PyData.list=_)
 rw[e];rfl
theorem GX{w:List Nat}(h:H[l]?=some (.list (aS w))):rd H (m+1) (.ref l)=some (GW w):=r6 h (uU m w)
theorem gv{f:V->Option PyData}{r:List V}{d:PyData}{ds:List PyData}(h:f v=some d)(hr:gp f r=some ds):gp f (v::r)=some (d::ds):=by
 refine(?_:(match f v,gp f r with|some d,some ds=>some (d::ds)|_,_=>none)=_)
 rw[h,hr]
theorem YM{α:Type}{R:α->V->Prop}{f:V->Option PyData}{g:α->PyData}{as:List α}(h:ct R as vs)(k:∀a v,R a v->f v=some (g a)):gp f vs=some (as.map g):=h.rec (motive:=λas vs ζ=>gp f vs=some (as.map g)) rfl λr ζ ih=>gv (k _ _ r) ih
theorem Dy(x:Rat)(m:Nat):rd H (m+1) (rv x)=some (k4 x):=b7 (Option.map PyData.tuple) (gv (uT _ _) (gv (uT _ _) rfl))
theorem YN{b:Nat}{r:Row}(h:pU b H r v):rd H 9 v=some (Nj r):=h _ λl ζ e a=>by
 rw[e]
 exact b7 (Option.map PyData.tuple) (gv rfl (gv (Dy _ _) (gv (GX a) rfl)))
theorem none_list(h:H[l]?=some (.list vs)):mF H (.ref l)=none:=by
 refine(?_:(match H[l]?.bind jQ with|some es=>some es.isEmpty|none=>(H[l]?.bind nA).map List.isEmpty)=_)
 rw[h];rfl
theorem eq_nil{ds:List PyData}(h:H[l]?=some (.list vs))(e:gp (rd H 9) vs=some ds)(h':H[m]?=some (.list [])):gP .eq (.ref l) (.ref m) H=some ds.isEmpty:=by
 refine(?_:kQ H (.ref l) (.ref m)=_)
 unfold kQ
 rw[none_list h,r6 h e,r6 h' (rfl:gp (rd H 9) []=some [])]
 cases ds<;>rfl
theorem ne_nil{ds:List PyData}(h:H[l]?=some (.list vs))(e:gp (rd H 9) vs=some ds)(h':H[m]?=some (.list [])):gP .ne (.ref l) (.ref m) H=some (!ds.isEmpty):=b7 (Option.map (!·)) (eq_nil h e h')
section
variable{t:d8}{α:Type}{R:α->V->Prop}
theorem YO{test:bv->Hp->(Bool->Hp->Prop)->Prop}{elt:bv->Hp->PQ->Prop}{Q:List V->Hp->Prop}(I:List α->List V->bv->Hp->Prop)(step:∀a v as acc ρ H,R a v->I (a::as) acc ρ H->aO (aY t v ρ) λcg=>∀N:List V->Hp->Prop,(∀acc' H',fS ws H₀ H'=true->I as acc' cg H'->N acc' H')->test cg H λb H₁=>cD b (elt cg H₁ λy H₂=>N (acc++[y]) H₂) (N acc H₁))(fin:∀acc ρ H,I [] acc ρ H->Q acc H){as:List α}(h:ct R as vs):∀acc ρ H,I as acc ρ H->iR ws H₀ t test elt vs ρ H acc Q:=
 h.rec (motive:=λas vs ζ=>∀acc ρ H,I as acc ρ H->iR ws H₀ t test elt vs ρ H acc Q) fin λr ζ ih acc ρ H h=>wC (step _ _ _ acc ρ H r h) λcg hb=>hb (λacc' H'=>fS ws H₀ H'=true/\iR ws H₀ t test elt _ cg H' acc' Q) λacc' H' hs hi=>⟨hs,ih acc' cg H' hi⟩
end
noncomputable def Nk(m:Nat)(p:Nat×List Nat):Row:=⟨p.1,mkRat 1 m,p.2⟩
noncomputable def A9(ps:List bb)(d:Int)(k:Nat):List Row:=(pX ps d k).map (Nk (pX ps d k).length)
noncomputable def Nl(ζ:Prop)(b m:Nat)(eW:bv)(H:Hp)(tot:List (Nat×List Nat))(as:List (Nat×List Nat))(acc:List V)(ρ:bv)(H':Hp):Prop:=∀(o o':Option V) (an:List (Nat×List Nat)) (e:ρ=o::o'::eW) (eh:H'=H) (r:ct (pU b H) (an.map (Nk m)) acc) (t:an++as=tot),ζ
def GY:=λb m eW H tot as acc ρ H'=>∀ζ:Prop,Nl ζ b m eW H tot as acc ρ H'->ζ
theorem GY.mk{b m eW H tot as acc ρ H'}:Nl (GY b m eW H tot as acc ρ H') b m eW H tot as acc ρ H':=λx0 x1 x2 x3 x4 x5 x6 ζ k=>k x0 x1 x2 x3 x4 x5 x6
def YQ(H:Hp)(rs:List Row)(f:V->V)(Q:PQ):Prop:=∀lr vs H',H.length<=lr->aC H H'->H'[lr]?=some (.list vs)->mO H.length H' rs vs->Q (f (.ref lr)) H'
noncomputable def iy(ps:List bb)(d:Int)(k:Nat)(p:bb):Str×List Row×Rat:=
 if !(lM ps d 20 k).isEmpty then("line",lM ps d 20 k,mkRat 1 4) else if !(yM ps d k p).isEmpty then("parents",yM ps d k p,mkRat 1 2) else("degree",A9 ps d k,if(pX ps d k).isEmpty then 1 else mkRat 3 4)
noncomputable def Nm(ζ:Prop)(rs:List Row):Prop:=∀(len:rs.length<=2097152) (sm:∀r∈rs,Sm 120 r.rW) (ln:∀r∈rs,r.line.length<=50),ζ
def mR:=λrs=>∀ζ:Prop,Nm ζ rs->ζ
theorem mR.mk{rs}:Nm (mR rs) rs:=λx0 x1 x2 ζ k=>k x0 x1 x2
theorem mO.ext{b:Nat}{rs:List Row}(h:mO b H rs vs)(x:aC H H')(hb:b'<=b):mO b' H' rs vs:=h.imp λζ ζ h=>h.mono λl c hl e=>⟨aG hb hl,x l c e⟩
theorem mR.of{rs:List Row}(hf:f<=22)(hl:rs.length<=2097152)(h:∀r∈rs,oM f r):mR rs:=(.mk hl (λr hr=>(h r hr).1.le (aG (oi 5 hf) (by decide))) (λr hr=>aG (h r hr).2 (aG (jG hf) (by decide))))
theorem mR.YR{ps:List bb}{d:Int}{k:Nat}(h1:(pX ps d k).length<=20)(h2:∀e∈pX ps d k,e.2.length<=42):mR (A9 ps d k):=(.mk (by unfold A9;rw[length_map];exact le_trans h1 (by decide)) (λr hr=>(mem_map.mp hr).elim λe he=>he.2▸(Sm.inv (λq=>absurd (List.eq_nil_of_length_eq_zero q) (ne_nil_of_mem he.1)) (Nat.lt_of_le_of_lt h1 (by decide))).le (by decide)) (λr hr=>(mem_map.mp hr).elim λe he=>he.2▸le_trans (h2 e he.1) (by decide)))
def YS(H:Hp)(rs:List Row)(f:V->V)(Q:PQ):Prop:=mR rs->YQ H rs f Q
theorem Dz{b:Nat}{rs:List Row}(h:mO b H rs vs):gp (rd H 9) vs=some (rs.map Nj):=YM h λζ ζ h=>YN h
theorem YT(hW:fk ps)(hl:ps.length<=20)(hp:ps[k]?=some p)(hA:H[l]?=some (.list (ps.map bW)))(q:YS H (iy ps d k p).2.1 (λr=>.aF [.str (iy ps d k p).1,r]) Q):aH (n+66) 19 [.ref l,nv k,.int d] H Q Y:=W8 (by
 refine ck (Dn (n:=n+2) hW hl (f:=20) (bX _) hA hp (cL (AR (ie hp)) hl) λlr vs H₁ hb x a r=>?_)
 have r':=r.ext (aC.aT H₁ [.list []]) (aG hb (kO _))
 apply aA (ne_nil (bu _ a) (Dz r') (bz _ _))
 rw[sT]
 refine dp (λh1=>?_) λh1=>?_
 ·rw[show iy ps d k p=(("line":Str),lM ps d 20 k,mkRat 1 4) from bQ h1] at q
  exact q (mR.of (by decide) (aG (AW hW 20 k p hp) (aG (Dm hl _) (by decide))) (wF hl 20 k)) lr vs _ hb (x.trans (aC.aT _ _)) (bu _ a) r'
 ·rw[show iy ps d k p=_ from bH (by rw[h1];decide)] at q
  have x1:=x.trans (aC.aT H₁ [.list []])
  generalize H₁++[aI.list []]=H₁' at x1 ⊢
  clear r' r a x
  refine ck (X7 (n:=n) hW hl hp (x1 _ _ hA) λlr vs H₂ hb x a r=>?_)
  have r':=r.ext (aC.aT H₂ [.list []]) (aG (aG x1.len hb) (kO _))
  apply aA (ne_nil (bu _ a) (Dz r') (bz _ _))
  rw[sT]
  refine dp (λh2=>?_) λh2=>?_
  ·rw[bQ h2] at q
   exact q (mR.of (bX _) (MB hW hl hp) (X6 hW hl hp)) lr vs _ (aG x1.len hb) ((x1.trans x).trans (aC.aT _ _)) (bu _ a) r'
  ·rw[bH (by rw[h2];decide)] at q
   have x2:=(x1.trans x).trans (aC.aT H₂ [.list []])
   generalize H₂++[aI.list []]=H₂' at x2 ⊢
   clear r' r a x
   refine ck (YE (n:=n+60) hW hl hp (x2 _ _ hA) λlr vs H₃ wG YU hb x a r=>?_)
   have ok:=mR.YR wG YU
   have x3:=x2.trans x
   apply aA (dU a)
   refine cZ (c8 (by rw[r.len];exact cG wG (by decide))) (YO (GY H.length (pX ps d k).length [some (.ref l),some (nv k),some (.int d),_,some (.ref lr)] H₃ (pX ps d k)) (λe v as acc ρ H' hv h=>?_) (λacc ρ H' h=>?_) r _ _ _ (.mk none none [] rfl rfl .nil rfl))
   ·refine h _ λo o' an Nn eh ra t=>?_
    subst Nn eh
    refine hv _ λll rX ev al=>?_
    subst ev
    refine λN hN=>aA (cU a) ?_
    rw[r.len]
    have hm:(pX ps d k).length≠0:=λq=>by
     have:=vD q
     rw[this] at t
     cases an<;>cases t
    exact ck (Gn hm (cG wG (by decide)) (hN _ _ (dE a a) (.mk _ _ (an++[e]) rfl rfl (by rw[jO];exact ra.snoc (.mk ll (aG x2.len rX) rfl al)) (iV t))))
   ·refine h _ λo o' an Nn eh ra t=>?_
    rw[fN] at t
    subst eh t
    exact q ok _ acc _ x3.len (x3.trans (aC.aT _ _)) (bz _ _) (mO.ext ra (aC.aT _ _) (bX _)))
theorem Np:PyData.strOk "line"=true:=by decide +kernel
theorem Nq:PyData.strOk "parents"=true:=by decide +kernel
theorem YV:PyData.strOk "degree"=true:=by decide +kernel
noncomputable def GZ(how:Str)(rs:List Row):Rat:=if rs.isEmpty then 1 else if how=="line" then mkRat 1 4 else if how=="parents" then mkRat 1 2 else mkRat 3 4
theorem yR{a b:Str}(ha:PyData.strOk a=true)(hb:PyData.strOk b=true):gP .eq (.str a) (.str b) H=some (a==b):=by
 have e:∀{s:Str},PyData.strOk s=true->rd H 10 (.str s)=some (.str s):=λh=>bQ h
 refine(?_:(rd H 10 (.str a)).bind (λd=>(rd H 10 (.str b)).map λe=>PyData.eqv d e)=_)
 rw[e ha,e hb];rfl
theorem YW{b:Nat}{rs:List Row}(ho:PyData.strOk how=true)(a:H[lr]?=some (.list vs))(r:mO b H rs vs)(q:∀H',aC H H'->Q (rv (GZ how rs)) H'):aH (n+2) 20 [.str how,.ref lr] H Q Y:=W9 (by
 have q:=q _ (aC.aT H [.list []])
 unfold GZ at q
 apply aA (eq_nil (bu _ a) (Dz (r.ext (aC.aT _ _) (bX _))) (bz _ _))
 rw[sT]
 refine dp (λh1=>?_) λh1=>?_
 ·rw[bQ h1] at q;exact q
 ·rw[bH (by rw[h1];decide)] at q
  refine aA (yR ho Np) (dp (λh2=>?_) λh2=>?_)
  ·rw[bQ h2,<-sR (by decide)] at q
   exact ck (tH (d:=4) _ q)
  ·rw[bH (by rw[h2];decide)] at q
   refine aA (yR ho Nq) (dp (λh3=>?_) λh3=>?_)
   ·rw[bQ h3,<-sR (by decide)] at q
    exact ck (tH (d:=2) _ q)
   ·rw[bH (by rw[h3];decide),<-sR (by decide)] at q
    exact ck (tH (d:=4) _ q))
theorem YX(ps:List bb)(d:Int)(k:Nat)(p:bb):GZ (iy ps d k p).1 (iy ps d k p).2.1=(iy ps d k p).2.2:=by
 unfold iy
 split
 ·rename_i h
  exact bH (by rw[oj .. |>.mp h];decide)
 ·split
  ·rename_i h
   exact bH (by rw[oj .. |>.mp h];decide)
  ·refine(?_:(if(A9 ps d k).isEmpty=true then _ else _)=_)
   rw[show(A9 ps d k).isEmpty=(pX ps d k).isEmpty from sT]
   split<;>rfl
theorem Nr(ps:List bb)(d:Int)(k:Nat)(p:bb):PyData.strOk (iy ps d k p).1=true:=by
 unfold iy
 split
 ·exact Np
 ·split
  ·exact Nq
  ·exact YV
noncomputable def r7(R:Rat)(how:Str)(r:Row):fM:=⟨some r.gr,R*r.rW,how,r.line⟩
noncomputable def nK(ps:List bb)(d:Int)(gs:List (Nat×Rat)):Rat:=1 - gs.foldl (pY ps d) 0
noncomputable def Ba(ps:List bb)(d:Int)(k:Nat)(p:bb)(gs:List (Nat×Rat))(sp:Option Nat):List fM:=
 if(nK ps d gs).num==0 then gs.flatMap (jY ps d k) else match sp with
  |none=>if(iy ps d k p).2.1.isEmpty then gs.flatMap (jY ps d k)++[⟨none,nK ps d gs,"town",[k]⟩] else gs.flatMap (jY ps d k)++(iy ps d k p).2.1.map (r7 (nK ps d gs) (iy ps d k p).1)
  |some s=>(gs.flatMap (jY ps d k)++[⟨some s,nK ps d gs*(iy ps d k p).2.2,"spouse",[k,s]⟩])++(iy ps d k p).2.1.map (r7 (nK ps d gs - nK ps d gs*(iy ps d k p).2.2) (iy ps d k p).1)
def DA(H:Hp)(rs:List fM)(Q:PQ):Prop:=∀lr vs H',H.length<=lr->aC H H'->H'[lr]?=some (.list vs)->qT H.length lr H' rs vs->Q (.ref lr) H'
theorem G0{ps:List bb}{d:Int}{n:Nat}:∀{gs:List (Nat×Rat)} {i:Nat} {s:Rat},u6 n gs->Sm i s->Sm (i+11*gs.length) (gs.foldl (pY ps d) s)
 |[],i,s,_,h=>h
 |g::r,i,s,hg,h=>(G0 (gs:=r) (λg h=>hg g (.tail _ h)) (h.pY (hg g dD).2)).le (by rw[lF];lia)
theorem G6:Sm 1 (1:Rat):=⟨by decide,by decide⟩
theorem YY{gs:List (Nat×Rat)}(hg:u6 n gs)(hl:gs.length<=10):Sm 200 (nK ps d gs):=(G6.sub (G0 (i:=1) hg ⟨by decide,by decide⟩)).le (by lia)
noncomputable def Nt(ζ:Prop)(k:Str)(R:Rat)(lr lk b:Nat)(x0 x1 x2 x3 x5 x9 dz:Option V)(H₁:Hp)(tot:List fM)(as:List Row)(ρ:bv)(H':Hp):Prop:=∀(cM cK cq:Option V) (rs:List fM) (vs:List V) (e:ρ=[x0,x1,x2,x3,some (.ref lr),x5,some (rv R),some (.str k),some (.ref lk),x9,dz,cM,cK,cq]) (x:bO lr H₁ H') (a:H'[lr]?=some (.list vs)) (r:qT b lr H' rs vs) (t:rs++as.map (r7 R k)=tot),ζ
def G7:=λk R lr lk b x0 x1 x2 x3 x5 x9 dz H₁ tot as ρ H'=>∀ζ:Prop,Nt ζ k R lr lk b x0 x1 x2 x3 x5 x9 dz H₁ tot as ρ H'->ζ
theorem G7.mk{k R lr lk b x0 x1 x2 x3 x5 x9 dz H₁ tot as ρ H'}:Nt (G7 k R lr lk b x0 x1 x2 x3 x5 x9 dz H₁ tot as ρ H') k R lr lk b x0 x1 x2 x3 x5 x9 dz H₁ tot as ρ H':=λx0 x1 x2 x3 x4 x5 x6 x7 x8 x9 ζ k=>k x0 x1 x2 x3 x4 x5 x6 x7 x8 x9
theorem YZ(ps:List bb)(d:Int)(k:Nat)(p:bb):Sm 5 (iy ps d k p).2.2:=by
 unfold iy
 split
 ·exact Sm.inv (m:=4) (by decide) (by decide)
 ·split
  ·exact Sm.inv (m:=2) (by decide) (by decide)
  ·refine(?_:Sm 5 (if(pX ps d k).isEmpty=true then 1 else mkRat 3 4))
   split
   ·exact G6.le (by decide)
   ·rw[<-sR (by decide)];exact Sm.tG _ (by decide) (by decide)
theorem Y0{x:Rat}:((x.num==0)&&(((x.den:Int)==1)&&true))=(x.num==0):=by
 cases h:x.num==0 with
 |false=>rfl
 |true=>
  have e:x=0:=Rat.num_eq_zero.mp (eq_of_beq h)
  rw[e];rfl
theorem Nu{how:Str}{R:Rat}{lr lk b i:Nat}{x0 x1 x2 x3 x5 x9 dz cM cK cq:Option V}{rs:List fM}{vs us:List V}{kin:List Row}(hb:b<=lr)(a:H[lr]?=some (.list vs))(r:qT b lr H rs vs)(ak:H[lk]?=some (.list us))(tq:lk≠lr)(rk:mO (lr+1) H kin us)(ok:mR kin)(sm:Sm i R)(hi:i<=1000)(Y1:rs.length<=12000000)
  (q:∀iY H',bO lr H H'->H'[lr]?=some (.list iY)->qT b lr H' (rs++kin.map (r7 R how)) iY->Q (.ref lr) H'):aX ⟨aH (n+2),Y⟩ (EP.drop 10) [x0,x1,x2,x3,some (.ref lr),x5,some (rv R),some (.str how),some (.ref lk),x9,dz,cM,cK,cq] H (fA Q):=by
 refine ok _ λlen ksm kln=>?_
 have ht:(rs++kin.map (r7 R how)).length<=16000000:=by rw[b6,bJ];exact aG (oq Y1 len) (by decide)
 refine aA (dU ak) (AV (R:=λr v=>r∈kin/\pU (lr+1) H r v) (G7 how R lr lk b x0 x1 x2 x3 x5 x9 dz H (rs++kin.map (r7 R how))) (λrw v bs ρ H' hv h=>?_) (λρ H' h=>?_) (rk.imp' λr v hr hv=>⟨hr,hv⟩) _ _ (.mk _ _ _ rs vs rfl (bO.refl _ _) a r rfl))
 ·refine hv.2 _ λll rX e al=>?_
  subst e
  refine h _ λcM cK cq rs vs e x a r t=>?_
  subst e
  refine λN hN=>gf a (ck (AU sm (ksm _ hv.1) (by lia) ?_))
  have nl:=dm rX
  exact gg a (by rw[r.len];exact rV t ht) (hN _ _ (dE ak ((x.trans (bO.set _ _ _)) _ _ tq ak)) (.mk _ _ _ (rs++[r7 R how rw]) _ rfl (x.trans (bO.set _ _ _)) (d9 a _) ((r.b (bO.set _ _ _)).snoc (.mk ll (aG hb (cW rX)) nl rfl ((x.trans (bO.set _ _ _)) _ _ nl al))) (iV t)))
 ·refine h _ λcM cK cq rs' vs e x a r t=>?_
  subst e
  rw[map_nil,fN] at t
  subst t
  exact q _ _ x a r
structure cV where
 ps:List bb
 ms:List gh
 ws:List iw
variable{r ro r' r0:cV}
noncomputable abbrev R3(r:cV):Prop:=r.ps.length<=60/\r.ms.length<=1000/\r.ws.length<=1000
noncomputable def Nv(ζ:Prop)(r:cV):Prop:=∀(wf:fk r.ps) (len:r.ps.length<=20) (dW:u5 r.ps.length r.ms) (dO:GS r.ps.length r.ws),ζ
def dC:=λr=>∀ζ:Prop,Nv ζ r->ζ
theorem dC.mk{r}:Nv (dC r) r:=λx0 x1 x2 x3 ζ k=>k x0 x1 x2 x3
noncomputable def Nw(ζ:Prop)(H:Hp)(r:cV)(l lm lw:Nat):Prop:=∀(ap:H[l]?=some (.list (r.ps.map bW))) (am:H[lm]?=some (.list (r.ms.map iH))) (aw:H[lw]?=some (.list (r.ws.map iX))),ζ
def eX:=λH r l lm lw=>∀ζ:Prop,Nw ζ H r l lm lw->ζ
theorem eX.mk{H r l lm lw}:Nw (eX H r l lm lw) H r l lm lw:=λx0 x1 x2 ζ k=>k x0 x1 x2
noncomputable def tL(r:cV)(d:Int)(k:Nat):List (Nat×Rat):=lO k d r.ws (-1) []
noncomputable def r8(r:cV)(d:Int)(k:Nat)(p:bb):List fM:=Ba r.ps d k p (tL r d k) (qS r.ps d k r.ms)
theorem G8(h:dC r)(d:Int)(k:Nat):u6 r.ps.length (tL r d k)/\(tL r d k).length<=10:=h _ λζ ζ ζ g=>GO (P:=λgs=>u6 r.ps.length gs/\gs.length<=10) _ _ _ (λw hw=>(g w hw) _ λgk ζ ζ ζ ζ ζ ζ ζ ζ ζ ζ=>gk) ⟨λζ h=>(nomatch h),iD _⟩
theorem Ny(h:dC r)(d:Int)(k:Nat):((tL r d k).flatMap (jY r.ps d k)).length<=10485760:=h _ λhW hl ζ ζ=>aG (Do λg hg=>Nf hW hl ((G8 h d k).1 g hg).1) (Nat.mul_le_mul_right 1048576 (G8 h d k).2)
def oQ(r:fM):Prop:=PyData.strOk r.how=true/\r.line.length<=1000
theorem Nz:PyData.strOk "will"=true:=by decide +kernel
theorem Y2:PyData.strOk "spouse"=true:=by decide +kernel
theorem Y3:PyData.strOk "town"=true:=by decide +kernel
theorem DB{r:cV}(hr:dC r){d:Int}{k:Nat}:∀x∈(tL r d k).flatMap (jY r.ps d k),oQ x:=λx hx=>hr _ λζ hl ζ ζ=>(List.mem_flatMap.mp hx).elim λg hg=>by
 have h:=hg.2
 unfold jY at h
 split at h
 ·rw[dI.mp h];exact⟨Nz,show 2<=1000 by decide⟩
 ·exact(ii.mp h).elim λy hy=>hy.2▸⟨Nz,aG (jG (wF hl 20 _ _ hy.1).2) (by decide)⟩
theorem NA{ps:List bb}{d:Int}{k:Nat}{p:bb}(h:mR (iy ps d k p).2.1){R:Rat}:∀x∈(iy ps d k p).2.1.map (r7 R (iy ps d k p).1),oQ x:=λx hx=>(ii.mp hx).elim λy hy=>hy.2▸⟨Nr ps d k p,h _ λζ ζ ln=>aG (ln y hy.1) (by decide)⟩
theorem Y4{r:cV}(hr:dC r){d:Int}{k:Nat}{p:bb}(h:((nK r.ps d (tL r d k)).num==0)=false->mR (iy r.ps d k p).2.1):∀x∈r8 r d k p,oQ x:=by
 unfold r8 Ba
 cases h0:(nK r.ps d (tL r d k)).num==0 with
 |true=>exact DB hr
 |false=>
  have ok:=h h0
  intro x hx
  rw[bH (by decide)] at hx
  cases hs:qS r.ps d k r.ms with
  |none=>
   rw[hs] at hx
   dsimp only at hx
   split at hx
   ·exact(cY.mp hx).elim (DB hr x) λh=>by rw[dI.mp h];exact⟨Y3,show 1<=1000 by decide⟩
   ·exact(cY.mp hx).elim (DB hr x) (NA ok x)
  |some s=>
   rw[hs] at hx
   exact(cY.mp hx).elim (λh=>(cY.mp h).elim (DB hr x) λh=>by rw[dI.mp h];exact⟨Y2,show 2<=1000 by decide⟩) (NA ok x)
theorem Y5(hr:dC r)(h:((nK r.ps d (tL r d k)).num==0)=false->mR (iy r.ps d k p).2.1):(r8 r d k p).length<=14000000:=by
 have hg:=Ny hr d k
 unfold r8 Ba
 cases h0:(nK r.ps d (tL r d k)).num==0 with
 |true=>exact aG hg (by decide)
 |false=>
  have hk:(iy r.ps d k p).2.1.length<=2097152:=(h h0) _ λlen ζ ζ=>len
  rw[bH (by decide)]
  cases hs:qS r.ps d k r.ms with
  |none=>
   dsimp only
   split
   ·rw[b6];exact aG (lU hg 1) (by decide)
   ·rw[b6,bJ];exact aG (oq hg hk) (by decide)
  |some s=>
   dsimp only
   rw[b6,b6,bJ];exact aG (oq (lU hg 1) hk) (by decide)
theorem Y6{r:cV}(hr:dC r)(at':eX H r l lm lw){p:bb}(hp:r.ps[k]?=some p){d:Int}(hd:p.bS=some d)(q:(∀x∈r8 r d k p,oQ x)->(r8 r d k p).length<=14000000->DA H (r8 r d k p) Q):aH (n+67) 21 [.aF [.ref l,.ref lm,.ref lw],nv k] H Q Y:=Xa (by
 refine hr _ λhW hl hM hG=>at' _ λhA Y7 Y8=>?_
 have hg:u6 r.ps.length (lO k d r.ws (-1) [])/\(lO k d r.ws (-1) []).length<=10:=G8 hr d k
 have u9:((lO k d r.ws (-1) []).flatMap (jY r.ps d k)).length<=10485760:=Ny hr d k
 have qd:(((nK r.ps d (lO k d r.ws (-1) [])).num==0)=false->mR (iy r.ps d k p).2.1)->DA H (Ba r.ps d k p (lO k d r.ws (-1) []) (qS r.ps d k r.ms)) Q:=λh=>q (Y4 hr h) (Y5 hr h)
 apply aA (fY hA hp)
 unfold bW
 rw[hd]
 refine ck (YJ Y8 ?_)
 generalize lO k d r.ws (-1) []=gs at hg u9 qd ⊢
 refine ck (YL (n:=n+2) hW hl hg.1 hg.2 hA λlr vs H₁ hb x a rr=>?_)
 have hT:Sm 199 (gs.foldl (pY r.ps d) 0):=(G0 (i:=1) hg.1 ⟨by decide,by decide⟩).le (by have:=hg.2;lia)
 refine ck (Mg (x:=1) G6 hT (by decide) ?_)
 have hR:=YY (ps:=r.ps) (d:=d) hg.1 hg.2
 unfold Ba at qd
 rw[show(1:Rat) - gs.foldl (pY r.ps d) 0=nK r.ps d gs from rfl]
 generalize nK r.ps d gs=R at hR qd ⊢
 generalize gs.flatMap (jY r.ps d k)=rs at rr u9 qd
 refine(?_:cD ((R.num==0)&&(((R.den:Int)==1)&&true)) _ _)
 rw[Y0]
 refine dp (λh1=>?_) λh1=>?_
 ·have qd:=qd λh=>absurd (h1.symm.trans h) (by decide)
  rw[bQ h1] at qd
  exact qd lr vs _ hb x a rr
 ·refine ck (YT (n:=n) hW hl hp (x _ _ hA) λok lk us H₂ Y9 cN ak rk=>?_)
  have qd:=qd λζ=>ok
  rw[bH (by rw[h1];decide)] at qd
  have x2:=x.trans cN
  have tq:=cL (bZ a) Y9
  refine ck (YI (x2 _ _ hA) (x2 _ _ Y7) hM ?_)
  have vZ:=Nr r.ps d k p
  have nL:=YZ r.ps d k p
  have ebs:=YX r.ps d k p
  generalize iy r.ps d k p=kp at ok rk qd vZ nL ebs ⊢
  have a2:=cN _ _ a
  have r2:=qT.b rr (cN.b _)
  have Bb:=cG hb (bZ a2)
  generalize qS r.ps d k r.ms=sp at qd ⊢
  cases sp with
  |none=>
   have NB:=rk.ext (aC.aT H₂ [.list []]) (bZ a)
   apply aA (eq_nil (bu _ ak) (Dz NB) (bz _ _))
   rw[sT]
   have qd:DA H (if kp.2.1.isEmpty then rs++[⟨none,R,"town",[k]⟩] else rs++kp.2.1.map (r7 R kp.1)) Q:=qd
   refine dp (λh2=>?_) λh2=>?_
   ·rw[bQ h2] at qd
    have xx:∀a b c:List aI,aC H₂ (H₂++[aI.list []]++a++b++c):=λa b c=>(aC.aT H₂ _).trans ((aC.aT _ a).trans ((aC.aT _ b).trans (aC.aT _ c)))
    have jV:∀a b:List aI,H₂.length<=(H₂++[aI.list []]++a++b).length:=λa b=>((aC.aT H₂ [.list []]).trans ((aC.aT _ a).trans (aC.aT _ b))).len
    have an:=bz (H₂++[.list []]) (.list (aS [k]))
    have G9:H₂.length<(H₂++[aI.list []]).length:=by rw[b6];exact jH _
    refine tI (bu _ (bu _ (bu _ a2))) (bz _ _) (by rw[b6,rr.len];exact cG (lU u9 1) (by decide)) (qd _ _ _ (aG x2.len (jV _ _)) (x2.trans (xx _ _ _)) (bz _ _) (ct.snoc (r2.imp λζ ζ h=>h _ λll hb hn e al=>(.mk ll hb (dq (cL (bZ al) (jV _ _))) e (xx _ _ _ _ _ al))) (.mk _ (aG x2.len (cW G9)) (dq (bZ (bu _ an))) rfl (bu _ (bu _ an)))))
   ·rw[bH (by rw[h2];decide)] at qd
    exact Nu (n:=n+64) hb (bu _ a2) (r2.b (bO.aT _ _ _)) (bu _ ak) (dm tq) NB ok hR (by decide) (aG u9 (by decide)) λiY H' x' a' r'=>qd _ _ _ hb (x'.ext (x2.trans (aC.aT _ _)) hb) a' r'
  |some s=>
   have qd:DA H ((rs++[⟨some s,R*kp.2.2,"spouse",[k,s]⟩])++kp.2.1.map (r7 (R - R*kp.2.2) kp.1)) Q:=qd
   refine ck (YW vZ ak rk λH₃ c6=>?_)
   rw[ebs]
   refine ck (AU hR nL (by decide) ?_)
   have a3:=c6 _ _ a2
   refine gf a3 (gg (bu _ a3) (by rw[rr.len];exact cG u9 (by decide)) (ck (Mg hR (hR.mul nL) (by decide) ?_)))
   have x4:bO lr H₃ _:=(bO.aT lr H₃ [aI.list (aS [k,s])]).trans (bO.set lr _ (.list (vs++[.aF [nv s,rv (R*kp.2.2),.str "spouse",.ref H₃.length]])))
   have nlk:=dm tq
   exact Nu (n:=n+64) hb (d9 (bu _ a3) _) (((r2.b (c6.b _)).b x4).snoc (.mk H₃.length (aG (cW Bb) c6.len) (dm (bZ a3)) rfl (dK (bz _ _) _ (dq (bZ a3))))) (x4 _ _ nlk (c6 _ _ ak)) nlk (rk.imp λζ ζ h=>h.mono λll c hl e=>⟨aG (bZ a) hl,x4 _ _ (dm (cL (bZ a) hl)) (c6 _ _ e)⟩) ok (hR.sub (hR.mul nL)) (by decide) (by rw[b6];exact aG (lU u9 1) (by decide)) λiY H' x' a' r'=>qd _ _ _ hb ((x4.trans x').ext (x2.trans c6) hb) a' r')
section
variable{K:Out->Prop}{r:List S}{t:d8}{a i:E}{x y:V}
theorem eD(h:WE C e ρ H λv H=>aO (aY t v ρ) λcg=>aX C r cg H K):aX C (.aY t e::r) ρ H K:=h
theorem aU(h:ρ[j]?.join=some v)(q:Q v H):WE C (.J j) ρ H Q:=aA h q
theorem oR(q:Q (.ref H.length) (H++[.list []])):WE C (.aP []) ρ H Q:=q
theorem f9{op:qm}(h:WE C a ρ H λx H=>WE C i ρ H λy H=>uC op x y H Q):WE C (.bin op a i) ρ H Q:=h
theorem fD{op:qm}{p q z:Int}(h:binI op p q=some z)(k:Q (.int z) H):uC op (.int p) (.int q) H Q:=aA h k
theorem oS{it:It}{b:List S}(h:qE C it ρ H λp H=>pL p.2 H t (λρ H K=>aX C.xq b ρ H K) p.1 ρ H λo=>mG o (λρ H=>aX C r ρ H K) (K o)):aX C (.for t it b::r) ρ H K:=h
theorem wO{R:List V×List Nat->Hp->Prop}(h:WE C a ρ H λx H=>WE C i ρ H λy H=>Al x y λl=>R (l,[]) H):qE C (.range a i) ρ H R:=h
theorem bP(q:Q v H):WE C (.k v) ρ H Q:=q
end
theorem DC:∀l:List Nat,PyData.eqvAll (l.map λi:Nat=>.int i) (l.map λi:Nat=>.int i)=true
 |[]=>rfl
 |a::r=>by
  refine(?_:(((a:Int)==(a:Int))&&PyData.eqvAll _ _)=true)
  rw[hX,DC r];rfl
theorem NC(x:Rat):PyData.eqv (k4 x) (k4 x)=true:=by
 refine(?_:((x.num==x.num)&&(((x.den:Int)==(x.den:Int))&&true))=true)
 rw[hX,hX];rfl
noncomputable def ND(ζ:Prop)(c:Int)(m:Nat)(H:Hp)(as:List Nat)(ρ:bv)(H':Hp):Prop:=∀(acc:List Int) (x:Int) (o:Option V) (e:ρ=[some (.int c),some (nv m),some (.ref H.length),some (.int x),o]) (ext:aC H H') (a:H'[H.length]?=some (.list (acc.map V.int))) (len:acc.length+as.length=m) (hx:0<=x/\x<2147483647) (ok:∀x∈acc,0<=x/\x<2147483647),ζ
def Ha:=λc m H as ρ H'=>∀ζ:Prop,ND ζ c m H as ρ H'->ζ
theorem Ha.mk{c m H as ρ H'}:ND (Ha c m H as ρ H') c m H as ρ H':=λx0 x1 x2 x3 x4 x5 x6 x7 x8 ζ k=>k x0 x1 x2 x3 x4 x5 x6 x7 x8
theorem r9(a:Int){b:Int}(h:0<b):0<=a.fmod b/\a.fmod b<b:=by
 rw[B6 a (le_of_lt h)]
 exact⟨Int.emod_nonneg a (ne_of_gt h),Int.emod_lt_of_pos a h⟩
theorem k7(x:Int)(h:0<k):∃a:Nat,x.fmod (k:Int)=(a:Int)/\a<k:=
 have z:=r9 x (kN.mpr h)
 ⟨(x.fmod (k:Int)).toNat,(Int.toNat_of_nonneg z.1).symm,(toNat_lt z.1).mpr z.2⟩
theorem Za{b:Nat}(h:0<=x/\x<b):x.natAbs<b:=by
 obtain⟨k,rfl⟩:=Int.eq_ofNat_of_zero_le h.1
 exact kN.mp h.2
theorem se{b c:Nat}(h:k<b)(hb:b<=c):(k:Int).natAbs<c:=cL h hb
theorem Bc(x:Int){c:Nat}(h:0<k)(hc:k<=c):∃r:Nat,1+x.fmod (k:Int)=(r:Int)/\0<r/\r<=c:=(k7 x h).elim λa z=>⟨a+1,by rw[z.1];exact Int.add_comm _ _,succ_pos _,aG z.2 hc⟩
theorem mod2(x:Int){P:Int->Prop}(h0:P ((0:Nat):Int))(h1:P ((1:Nat):Int)):P (x.fmod 2):=(k7 x (k:=2) (by decide)).elim λa z=>by
 rw[show x.fmod 2=(a:Int) from z.1]
 cases a with
 |zero=>exact h0
 |succ a=>cases a with
  |zero=>exact h1
  |succ a=>exact absurd z.2 (fv.mpr (vy 2 a))
theorem Zc(x:Int){P:Int->Prop}(h0:P ((0:Nat):Int))(h1:P ((1:Nat):Int))(h2:P ((2:Nat):Int)):P (x.fmod 3):=(k7 x (k:=3) (by decide)).elim λa z=>by
 rw[show x.fmod 3=(a:Int) from z.1]
 cases a with
 |zero=>exact h0
 |succ a=>cases a with
  |zero=>exact h1
  |succ a=>cases a with
   |zero=>exact h2
   |succ a=>exact absurd z.2 (fv.mpr (vy 3 a))
theorem k8{a b:Int}(h:b≠0):binI .mod a b=some (a.fmod b):=bH h
def Zd(H:Hp)(m:Nat)(Q:PQ):Prop:=∀(ls:Nat) (H':Hp) (xs:List Int),xs.length=m->(∀x∈xs,0<=x/\x<2147483647)->H.length<=ls->aC H H'->H'[ls]?=some (.list (xs.map V.int))->Q (.ref ls) H'
theorem Bd(hm:m<=1000)(q:Zd H m Q):aH (n+1) 28 [.int c,nv m] H Q Y:=Xg (by
 unfold ER
 refine eD (oR (aA rfl (eD (f9 (aU rfl (bP (fD (k8 (b:=2147483647) (by decide)) (aA rfl (oS (wO (bP (aU rfl (pT (cG hm (by decide)) (gq (Ha c m H) (λk as ρ H' h=>?_) (λρ H' h=>?_) _ _ _ (.mk [] _ none rfl (aC.aT _ _) (bz _ _) (by rw[jI];exact qj m) (r9 c (by decide)) (λζ h=>nomatch h))))))))))))))))
 ·refine h _ λacc x o e ext a len hx ok=>?_
  subst e
  refine λN hN=>aA (mh (i:=31) (j:=16) (a:=x) (b:=48271) (Za ⟨hx.1,lt_trans hx.2 (by decide)⟩) (by decide) (by decide)) ?_
  have hy:=r9 (x*48271+11+(k:Int)) (b:=2147483647) (by decide)
  rw[lF] at len
  exact gf a (gg a (by rw[bJ];lia) (hN _ _ rfl (.mk (acc++[(x*48271+11+(k:Int)).fmod 2147483647]) _ _ rfl (ext.set (bX _) _) (by rw[jO];exact d9 a _) (by rw[b6,<-len];exact(add_assoc _ 1 _).trans (by rw[pC 1])) hy (λy Ze=>(cY.mp Ze).elim (ok y) λh=>by rw[dI.mp h];exact hy))))
 ·refine h _ λacc x o e ext a len hx ok=>?_
  subst e
  exact q _ _ acc len ok (bX _) ext a)
theorem pick(he:es≠[])(h:H[l]?=some (.list (aS es)))(y:Int):∃j,j∈es/\ik (.ref l) (.int (y.fmod es.length)) H=some (nv j):=by
 have hl:0<es.length:=length_pos_iff.mpr he
 have hm:=r9 y (kN.mpr hl)
 have hi:(y.fmod es.length).toNat<es.length:=by lia
 refine⟨es[(y.fmod es.length).toNat],List.getElem_mem hi,?_⟩
 have:=iU (k:=(y.fmod es.length).toNat) (v:=nv es[(y.fmod es.length).toNat]) h (by rw[i7,iB hi];rfl)
 rw[nv,Int.toNat_of_nonneg hm.1] at this
 exact this
theorem NF(he:es≠[]):(es.length:Int)≠0:=λh=>he (vD (om h))
theorem Be{y f:Int}(hE:H[l]?=some (.list (aS es)))(q:∀al H',(∀j∈al,j∈es)->kg al->(al=[]->es=[]\/f=0)->aC H H'->Q (.aF (aS al)) H'):aH (n+1) 29 [.ref l,.int y,.int f] H Q Y:=Xh (by
 have x:=aC.aT H [.list []]
 have r0:es=[]\/f=0->Q (.aF []) (H++[.list []]):=λhz=>q [] _ (λζ h=>nomatch h) ⟨by decide,ql⟩ (λζ=>hz) x
 apply aA (eq_nil (bu _ hE) (uU _ _) (bz _ _))
 rw[sT]
 refine mM (λh0=>?_) λh0=>ia h0 (r0 (.inl (isEmpty_iff.mp h0)))
 have he:es≠[]:=λe=>by rw[e] at h0;cases h0
 have key:aX ⟨aH n,Y⟩ (ES.drop 1) [some (.ref l),some (.int y),some (.int f),none,none] (H++[.list []]) (fA Q):=by
  have Bf:=x _ _ hE
  generalize H++[.list []]=H₁ at x Bf r0
  apply aA (cU Bf)
  rw[bJ]
  refine aA (k8 (NF he)) ((pick he Bf y).elim λj hj=>aA hj.2 ?_)
  apply aA (cU Bf)
  rw[bJ]
  refine aA (k8 (NF he)) ((pick he Bf (y.fdiv 60)).elim λj' NG=>aA NG.2 ?_)
  have r1:Q (.aF (aS [j])) H₁:=q [j] _ (λi h=>by rw[dI.mp h];exact hj.1) ⟨show 1<=2 by decide,nj.mpr ⟨sS,ql⟩⟩ (λh=>nomatch h) x
  have r2:((j:Int)==(j':Int))=false->Q (.aF (aS [j,j'])) H₁:=λfG=>q [j,j'] _ (λi h=>(gB.mp h).elim (λe=>e▸hj.1) λh=>by rw[dI.mp h];exact NG.1) ⟨show 2<=2 by decide,nj.mpr ⟨λh=>(by rw[dI.mp h,hX] at fG;cases fG),nj.mpr ⟨sS,ql⟩⟩⟩ (λh=>nomatch h) x
  exact mM (λh1=>((dp (λζ=>r1) λζ=>r2 h1:cD ((y.fdiv 3).fmod 4==0) _ _))) λh1=>ia h1 r1
 refine ir (λh=>((?_:cD ((y.fdiv 7).fmod 5==0) _ _))) λh=>fL h key
 exact dp (λζ=>r0 (.inr (eq_of_beq h))) λζ=>key)
noncomputable abbrev Zf:S:=.aY (.J 7) (.bin .mul (.bin .add (.bin .mul (kI 5) (.bin .fdiv (.J 5) (kI 3))) (.bin .mod (.J 6) (kI 11))) (.J 3))
noncomputable abbrev Zg:S:=.aY (.J 8) (.comp 1 (.J 0) (.J 0) (.range (kI 0) (.J 5)) [(.cmp .lt (.br (.br (.J 3) (.J 0)) (kI 0)) (.J 8))])
noncomputable abbrev Zh:S:=.aY (.J 9) (.call 29 [(.kP (.J 8) (some (.neg (kI 7))) none),(.bin .fdiv (.J 6) (kI 11)),(kI 0)])
noncomputable abbrev Zi:S:=.bD (.and [(.cmp .gt (.J 5) (kI 0)),(.cmp .eq (.bin .mod (.bin .fdiv (.J 6) (kI 13)) (kI 3)) (kI 0)),(.cmp .eq (.comp 1 (.J 0) (.J 0) (.of (.br (.br (.J 2) (.bin .sub (.J 5) (kI 1))) (kI 1))) [(.cmp .jP (.J 0) (.J 9))]) (.aP []))])
   [.aY (.J 9) (.br (.br (.J 2) (.bin .sub (.J 5) (kI 1))) (kI 1))]
   []
noncomputable abbrev Zj:S:=.bD (.and [(.cmp .eq (.bin .mod (.bin .fdiv (.J 0) (kI 4)) (kI 3)) (kI 0)),(.cmp .lt (.J 5) (kI 12))])
   [.aY (.J 7) (.bin .mul (.bin .add (.bin .mul (kI 12) (.bin .fdiv (.J 5) (kI 2))) (.bin .mod (.J 6) (kI 11))) (.J 3)),
    .aY (.J 9) (.br (.J 4) (.J 5))]
   []
noncomputable abbrev Zk:S:=.aY (.J 10) (.k .none)
noncomputable abbrev Zl:S:=.bD (.cmp .gt (.bin .mod (.bin .fdiv (.J 6) (kI 500)) (.br (.aP [(kI 4),(kI 9)]) (.bin .mod (.bin .fdiv (.J 0) (kI 12)) (kI 2)))) (kI 0))
   [.aY (.J 10) (.bin .add (.J 7) (.bin .mul (.bin .mod (.bin .fdiv (.J 6) (kI 1500)) (kI 40)) (.J 3)))]
   []
noncomputable abbrev Zm:S:=.expr (.cR .append (.J 2) [(.aF [.J 7,.J 9,(.k .none),.J 10])])
noncomputable def NH:List (List Nat):=[[],[],[1,0],[1,0],[2],[3],[],[5],[3],[1],[],[2]]
noncomputable def DD:List V:=NH.map λl=>.aF (aS l)
section
variable{sc b:Int}{K:Out->Prop}
noncomputable abbrev nM(c:Int)(m lp:Nat)(sc:Int)(lh k:Nat)(x:Int)(o7 o8 o9 o10:Option V):bv:=[some (.int c),some (nv m),some (.ref lp),some (.int sc),some (.ref lh),some (nv k),some (.int x),o7,o8,o9,o10]
theorem NI(k:Nat)(d:Nat):Int.fdiv (k:Int) (d:Int)=((k/d:Nat):Int):=by rw[Int.fdiv_eq_ediv_of_nonneg _ (ni d)];rfl
theorem yS{a b:Int}(h:b≠0):binI .fdiv a b=some (a.fdiv b):=bH h
theorem DE{sc:Int}(h:sc=1\/sc=600):0<sc/\sc.natAbs<2^10:=h.elim (λe=>e▸⟨by decide,by decide⟩) λe=>e▸⟨by decide,by decide⟩
def DF(b:Int):Prop:=0<=b/\b<=42000
theorem NJ{sc:Int}(jZ:sc=1\/sc=600)(hk:k<=70):DF ((k:Int)*sc):=by
 rcases jZ with e|e<;>subst e<;>exact⟨by lia,by lia⟩
def Hc(k:Nat)(p:bb):Prop:=(∀j∈p.cf,j<k)/\p.aZ<=42000/\(∀d,p.bS=some d->p.aZ<=d/\d<=100000)/\∀x,p.ad=some x->p.aZ<=x.1/\x.1<=100000/\(∀d,p.bS=some d->x.1<d)/\x.2≠[]
def qU(ps:List bb):Prop:=∀(k:Nat) p,ps[k]?=some p->Hc k p
theorem p1(hk:k<20)(jZ:sc=1\/sc=600)(h:∀b,DF b->aX ⟨aH n,Y⟩ rest (nM c m lp sc lh k x (some (.int b)) o8 o9 o10) H K):aX ⟨aH n,Y⟩ (Zf::rest) (nM c m lp sc lh k x o7 o8 o9 o10) H K:=by
 refine(k7 x (k:=11) (by decide)).elim λa ha=>?_
 have ea:x.fmod 11=(a:Int):=ha.1
 have hs:=DE jZ
 have NK:k/3<7:=Nat.div_lt_of_lt_mul (jp hk (by decide))
 have h3:Int.fdiv (k:Int) 3=_:=NI k 3
 refine eD (f9 (f9 (f9 (bP (f9 (aU rfl (bP (fD (yS (by decide)) (fD (mh (i:=3) (j:=10) (by decide) ?_ (by decide)) ?_)))))))))
 ·rw[h3];exact se NK (by decide)
 refine f9 (aU rfl (bP (fD (k8 (by decide)) (fD rfl (aU rfl (fD (mh (i:=10) (j:=10) ?_ hs.2 (by decide)) (aA rfl (h _ ?_))))))))
 ·rw[h3,ea];exact se (k:=5*(k/3)+a) (Nat.add_lt_add_of_le_of_lt (oi 5 (cW NK)) ha.2) (by decide)
 ·rw[h3,ea];exact NJ (k:=5*(k/3)+a) jZ (by have:=ha.2;lia)
end
theorem Hd{T:Bool->Hp->Prop}(h:T t H):cD t (T true H) (T false H):=by
 cases t<;>exact h
section
variable{a i:E}
theorem lP{nl:Nat}{elt:E}{t:d8}{it:It}{cs:List E}(h:qE C it ρ H λp H=>gn (qC p.1) (iR p.2 H t (λρ H Q=>WT C.no cs ρ H Q) (λρ H Q=>WE C.no elt ρ H Q) p.1 (replicate nl none++ρ) H [] λvs H=>oC vs H Q)):WE C (.comp nl elt t it cs) ρ H Q:=h
end
theorem NL(es:List Nat)(lo hi:Option Int):jS (aS es) lo hi=aS (jS es lo hi):=by
 unfold jS
 rw[bJ,aS,<-List.map_take,<-List.map_drop]
theorem Zn{lo hi:Option Int}(h:j∈jS es lo hi):j∈es:=List.mem_of_mem_take (List.mem_of_mem_drop h)
theorem Zo(es:List Nat)(lo hi:Option Int):(jS es lo hi).length<=es.length:=by
 unfold jS
 rw[length_drop,vz]
 exact aG (Nat.sub_le _ _) (min_le_right _ _)
section
variable{sc b:Int}{le:Nat}{K:Out->Prop}
theorem He(h:H[l]?=some (.list (aS ls))):gP .jP (nv k) (.ref l) H=some (!decide (k∈ls)):=b7 (Option.map (!·)) (L4 h)
theorem NM{i:Int}(hi:i=(k:Int))(h:H[l]?=some (.list (ps.map bW)))(hv:ps[k]?=some p):ik (.ref l) (.int i) H=some (bW p):=hi▸fY h hv
noncomputable def tM(ps:List bb)(b:Int)(j:Nat):Bool:=(ps[j]?).elim false λp=>decide (p.aZ<b)
theorem NN(h:tM ps b j=true):jt ps b j:=by
 unfold tM at h
 cases hp:ps[j]? with
 |none=>rw[hp] at h;cases h
 |some p=>rw[hp] at h;exact⟨p,hp,cu h⟩
theorem p2(hk:k<20)(hl:ps.length=k)(hA:H[lp]?=some (.list (ps.map bW)))(h:∀es le H',(∀j∈es,jt ps b j)->es.length<=20->aC H H'->H'[le]?=some (.list (aS es))->aX ⟨aH n,Y⟩ rest (nM c m lp sc lh k x (some (.int b)) (some (.ref le)) o9 o10) H' K):aX ⟨aH n,Y⟩ (Zg::rest) (nM c m lp sc lh k x (some (.int b)) o8 o9 o10) H K:=by
 refine eD (lP (wO (bP (aU rfl (pT (jp hk (by decide)) (cZ (c8 ?_) ?_))))))
 ·rw[bJ,jI];exact jp hk (by decide)
 refine mj (P:=tM ps b) (F:=nv) _ _ _ (λj hj T hT=>?_) (λj ζ ζ N hN=>hN) (aA rfl (h _ _ _ (λj hj=>NN (nq.mp hj).2) ?_ (aC.aT _ _) (bz _ _)))
 ·have hj:=i8.mp hj
  rw[<-hl] at hj
  refine(at_of hj).elim λp hp=>aA (fY hA hp) ?_
  unfold tM at hT
  rw[hp] at hT
  exact Hd (T:=T) hT
 ·exact aG (oo _ _) (aG (iC jI) (cW hk))
theorem p3(hE:H[le]?=some (.list (aS es)))(pZ:es.length<=20)(h:∀al H',(∀j∈al,j∈es)->kg al->aC H H'->aX ⟨aH (n+1),Y⟩ rest (nM c m lp sc lh k x o7 (some (.ref le)) (some (.aF (aS al))) o10) H' K):aX ⟨aH (n+1),Y⟩ (Zh::rest) (nM c m lp sc lh k x o7 (some (.ref le)) o9 o10) H K:=by
 refine aA (cU hE) (cZ (c8 ?_) ?_)
 ·rw[NL,bJ];exact cG (aG (Zo _ _ _) pZ) (by decide)
 rw[NL]
 exact ck (Be (bz _ _) λal H' gd h2 ζ x=>h al H' (λj hj=>Zn (gd j hj)) h2 ((aC.aT _ _).trans x))
theorem p4{al:List Nat}(hl:ps.length=k)(hA:H[lp]?=some (.list (ps.map bW)))(hE:H[le]?=some (.list (aS es)))(Zp:∀p∈ps,kg p.cf)(gd:∀j∈al,j∈es)(qV:kg al)(h:∀al H',(∀j∈al,j∈es)->kg al->aC H H'->aX ⟨aH n,Y⟩ rest (nM c m lp sc lh k x o7 (some (.ref le)) (some (.aF (aS al))) o10) H' K):aX ⟨aH n,Y⟩ (Zi::rest) (nM c m lp sc lh k x o7 (some (.ref le)) (some (.aF (aS al))) o10) H K:=by
 have no:=h al H gd qV (aC.refl H)
 refine ir (λh1=>((ir (λh2=>?_) λh2=>fL h2 no:cD (((x.fdiv 13).fmod 3==0)==true) _ _))) λh1=>fL h1 no
 have Bh:0<k:=kN.mp (cu h1)
 have hi:(k:Int) - 1=((k - 1:Nat):Int):=by lia
 refine(at_of (show k - 1<ps.length by lia)).elim λp hp=>?_
 have h2:=Zp p (ie hp)
 refine aA (NM hi hA hp) (cZ (c8 (e7 h2.1)) (mj (P:=λj=>!decide (j∈es)) (F:=nv) _ _ _ (λj hj T hT=>?_) (λj ζ ζ N hN=>hN) ?_))
 ·exact aA (He hE) (Hd (T:=T) hT)
 ·apply aA (eq_nil (bu _ (bz _ _)) (uU _ _) (bz _ _))
  rw[sT]
  have xx:∀a b:List aI,aC H (H++a++b):=λa b=>(aC.aT _ _).trans (aC.aT _ _)
  refine dp (λh3=>(aA (NM hi (xx _ _ _ _ hA) hp) (h p.cf _ (λj hj=>?_) h2 (xx _ _)))) λh3=>h al _ gd qV (xx _ _)
  have:=zQ.mp (isEmpty_iff.mp h3) j hj
  exact Decidable.not_not.mp λhn=>this (by rw[gE hn];rfl)
end
def wQ(sc:Int)(i:Nat)(b:Int):Prop:=12*((i/2:Nat):Int)*sc<=b/\b<=(12*((i/2:Nat):Int)+10)*sc
theorem Zq{sc:Int}(jZ:sc=1\/sc=600)(h:j/2<i/2){b b':Int}(hi:wQ sc i b)(hj:wQ sc j b'):b'<b:=
 lt_of_le_of_lt hj.2 (Int.lt_of_lt_of_le (Int.mul_lt_mul_of_pos_right (kN.mpr (show 12*(j/2)+10<12*(i/2) from cL (Nat.add_lt_add_left (show 10<12 by decide) _) (oi 12 h))) (DE jZ).1) hi.1)
theorem Zr:∀{k:Nat},k<12->∃ls,NH[k]?=some ls/\(ls.length<=2/\ls.Nodup)/\∀j∈ls,j<k/\j/2<k/2:=by decide +kernel
section
variable{sc b:Int}{le:Nat}{K:Out->Prop}
theorem p5{al:List Nat}(hk:k<20)(jZ:sc=1\/sc=600)(hl:ps.length=k)(hH:H[lh]?=some (.list DD))(gd:∀j∈al,jt ps b j)(qV:kg al)(vb:DF b)(hI:((c.fdiv 4).fmod 3==0)=true->∀i p,i<12->ps[i]?=some p->wQ sc i p.aZ)
  (h:∀b al,(∀j∈al,jt ps b j)->kg al->DF b->(((c.fdiv 4).fmod 3==0)=true->k<12->wQ sc k b)->aX ⟨aH n,Y⟩ rest (nM c m lp sc lh k x (some (.int b)) o8 (some (.aF (aS al))) o10) H K):aX ⟨aH n,Y⟩ (Zj::rest) (nM c m lp sc lh k x (some (.int b)) o8 (some (.aF (aS al))) o10) H K:=by
 refine(ir (λh1=>((dp (λhk=>?_) λhk=>h b al gd qV vb λζ q=>absurd (show(k:Int)<12 from kN.mpr q) (zR hk):cD (decide ((k:Int)<12)) _ _))) λh1=>fL h1 (h b al gd qV vb λq=>absurd (h1.symm.trans q) (by decide)))
 have hk:k<12:=kN.mp (cu hk)
 refine(k7 x (k:=11) (by decide)).elim λa ha=>?_
 have ea:x.fmod 11=(a:Int):=ha.1
 have h3:Int.fdiv (k:Int) 2=_:=NI k 2
 have NO:k/2<6:=Nat.div_lt_of_lt_mul hk
 refine(Zr hk).elim λls qW=>?_
 have hs:=DE jZ
 refine eD (f9 (f9 (f9 (bP (f9 (aU rfl (bP (fD (yS (by decide)) (fD (mh (i:=4) (j:=10) (by decide) ?_ (by decide)) ?_)))))))))
 ·rw[h3];exact se NO (by decide)
 refine f9 (aU rfl (bP (fD (k8 (by decide)) (fD rfl (aU rfl (fD (mh (i:=10) (j:=10) ?_ hs.2 (by decide)) (aA rfl ?_)))))))
 ·rw[h3,ea];exact se (k:=12*(k/2)+a) (Nat.add_lt_add_of_le_of_lt (oi 12 (cW NO)) ha.2) (by decide)
 apply aA (iU (v:=.aF (aS ls)) hH (by unfold DD;rw[List.getElem?_map,qW.1];rfl))
 have hb:wQ sc k ((12*Int.fdiv (k:Int) 2+x.fmod 11)*sc):=by
  rw[h3,ea]
  exact⟨EM (Int.le_add_of_nonneg_right (ni _)) (le_of_lt hs.1),EM (Int.add_le_add_left (pn.mpr (le_of_lt_succ ha.2)) _) (le_of_lt hs.1)⟩
 refine h _ ls (λj hj=>?_) qW.2.1 (by rw[h3,ea];exact NJ (k:=12*(k/2)+a) jZ (by have:=ha.2;lia)) λζ ζ=>hb
 have hj:=qW.2.2 j hj
 refine(at_of (show j<ps.length from hl▸hj.1)).elim λp hp=>⟨p,hp,Zq jZ hj.2 hb (hI h1 j p (jp hj.1 hk) hp)⟩
theorem p7(jZ:sc=1\/sc=600)(h:∀(di:Option Int) H',(∀d,di=some d->b<=d/\d<=b+23400)->aC H H'->aX ⟨aH n,Y⟩ rest (nM c m lp sc lh k x (some (.int b)) o8 o9 (some (jA di))) H' K):aX ⟨aH n,Y⟩ (Zk::Zl::rest) (nM c m lp sc lh k x (some (.int b)) o8 o9 o10) H K:=by
 refine(k7 (x.fdiv 1500) (k:=40) (by decide)).elim λa ha=>?_
 have Zs:((x.fdiv 1500).fmod 40).natAbs<2^10:=by rw[show(x.fdiv 1500).fmod 40=(a:Int) from ha.1];exact se ha.2 (by decide)
 have wm:=(DE jZ).2
 have hs:∃z:Int,ik (.ref H.length) (.int ((c.fdiv 12).fmod 2)) (H++[.list [.int 4,.int 9]])=some (.int z)/\z≠0:=
  mod2 (c.fdiv 12) (P:=λi=>∃z:Int,ik (.ref H.length) (.int i) (H++[.list [.int 4,.int 9]])=some (.int z)/\z≠0) ⟨4,iU (bz _ _) rfl,by decide⟩ ⟨9,iU (bz _ _) rfl,by decide⟩
 refine hs.elim λz hz=>aA hz.1 (aA (k8 hz.2) ((dp (λζ=>(eD (f9 (aU rfl (f9 (f9 (f9 (aU rfl (bP (fD (yS (by decide)) (bP (fD (k8 (by decide)) (aU rfl (fD (mh (i:=10) (j:=10) Zs wm (by decide)) (fD rfl (aA rfl (h (some _) _ (λd hd=>?_) (aC.aT _ _)))))))))))))))))) λζ=>h none _ (λζ h=>nomatch h) (aC.aT _ _):cD (decide ((x.fdiv 500).fmod z>0)) _ _)))
 cases hd
 rw[show(x.fdiv 1500).fmod 40=(a:Int) from ha.1]
 have:=ha.2
 rcases jZ with e|e<;>subst e<;>exact⟨by lia,by lia⟩
theorem p8{di:Option Int}(hl:ps.length<=20)(hA:H[lp]?=some (.list (ps.map bW)))(h:∀H',bO lp H H'->H'[lp]?=some (.list ((ps++[(⟨b,al,none,di⟩:bb)]).map bW))->K (.next (nM c m lp sc lh k x (some (.int b)) o8 (some (.aF (aS al))) (some (jA di))) H')):aX ⟨aH n,Y⟩ [Zm] (nM c m lp sc lh k x (some (.int b)) o8 (some (.aF (aS al))) (some (jA di))) H K:=
 gf hA (gg hA (e7 hl) (h _ (bO.set _ _ _) (by rw[jO];exact d9 hA _)))
end
noncomputable def en:Nat->List Int->List (Nat×Int)
 |_,[]=>[]
 |k,x::r=>(k,x)::en (k+1) r
noncomputable abbrev NP(p:Nat×Int):V:=.aF [nv p.1,.int p.2]
theorem Hf:∀(k:Nat) (xs:List Int),rI k (xs.map V.int)=(en k xs).map NP
 |_,[]=>rfl
 |k,x::r=>b7 (NP (k,x)::·) (Hf (k+1) r)
theorem jt.aT{b:Int}(t:List bb)(h:jt ps b j):jt (ps++t) b j:=h.elim λq hq=>⟨q,by rw[sL (d7.mp hq.1).1];exact hq.1,hq.2⟩
theorem oK.aT(t:List bb)(h:oK ps p):oK (ps++t) p:=h _ λa b c d z=>(.mk (λj hj=>(a j hj).aT t) (λx hx j hj=>(b x hx j hj).aT t) c d z)
theorem DG{α:Type}{ps:List α}{p:α}{P:Nat->α->Prop}(h:∀(i:Nat) q,ps[i]?=some q->P i q)(hp:P ps.length p):∀(i:Nat) q,(ps++[p])[i]?=some q->P i q:=by
 intro i q hq
 rcases Nat.lt_trichotomy i ps.length with hi|hi|hi
 ·rw[sL hi] at hq;exact h i q hq
 ·subst hi
  rw[List.getElem?_concat_length] at hq
  cases hq;exact hp
 ·rw[sO (by rw[b6];exact hi)] at hq;cases hq
noncomputable def NQ(ζ:Prop)(c:Int)(m lp:Nat)(sc:Int)(lh:Nat)(H₁:Hp)(as:List (Nat×Int))(ρ:bv)(H':Hp):Prop:=∀(o5 o6 o7 o8 o9 o10:Option V) (xs:List Int) (ps:List bb) (e:ρ=[some (.int c),some (nv m),some (.ref lp),some (.int sc),some (.ref lh),o5,o6,o7,o8,o9,o10]) (x:bO lp H₁ H') (a:H'[lp]?=some (.list (ps.map bW))) (ea:as=en ps.length xs) (len:ps.length+xs.length=m) (wf:fk ps) (rp:qU ps) (hI:((c.fdiv 4).fmod 3==0)=true->∀(i:Nat) p,i<12->ps[i]?=some p->wQ sc i p.aZ),ζ
def Hg:=λc m lp sc lh H₁ as ρ H'=>∀ζ:Prop,NQ ζ c m lp sc lh H₁ as ρ H'->ζ
theorem Hg.mk{c m lp sc lh H₁ as ρ H'}:NQ (Hg c m lp sc lh H₁ as ρ H') c m lp sc lh H₁ as ρ H':=λx0 x1 x2 x3 x4 x5 x6 x7 x8 x9 dz fK eA fZ jW ku ζ k=>k x0 x1 x2 x3 x4 x5 x6 x7 x8 x9 dz fK eA fZ jW ku
theorem Zt(c:Int):∃sc:Int,ik (.ref (H++[aI.list []]).length) (.int (c.fmod 4)) (H++[aI.list []]++[.list [.int 1,.int 1,.int 1,.int 600]])=some (.int sc)/\(sc=1\/sc=600):=by
 have h4:=r9 c (b:=4) (by decide)
 have:c.fmod 4=((0:Nat):Int)\/c.fmod 4=((1:Nat):Int)\/c.fmod 4=((2:Nat):Int)\/c.fmod 4=((3:Nat):Int):=by lia
 rcases this with h|h|h|h<;>rw[h]
 ·exact⟨1,iU (bz _ _) rfl,.inl rfl⟩
 ·exact⟨1,iU (bz _ _) rfl,.inl rfl⟩
 ·exact⟨1,iU (bz _ _) rfl,.inl rfl⟩
 ·exact⟨600,iU (bz _ _) rfl,.inr rfl⟩
theorem Zu(hm:m<=20)(q:∀lp H' ps,ps.length=m->fk ps->qU ps->aC H H'->H.length<=lp->H'[lp]?=some (.list (ps.map bW))->Q (.ref lp) H'):aH (n+2) 30 [.int c,nv m] H Q Y:=Xi (by
 refine(Zt (H:=H) c).elim λsc jZ=>aA jZ.1 ?_
 have jZ:=jZ.2
 refine ck (Bd (n:=n) (aG hm (by decide)) λls H₂ xs wR Hh qW cN ax=>?_)
 have a0:=bu [aI.list DD] (bu [.list [.int 1,.int 1,.int 1,.int 600]] (bz H (.list [])))
 have hh:=bz (H++[aI.list []]++[.list [.int 1,.int 1,.int 1,.int 600]]) (.list DD)
 have l1:H.length<(H++[aI.list []]++[aI.list [.int 1,.int 1,.int 1,.int 600]]).length:=bZ (bu _ (bz _ _))
 have l2:H.length<ls:=cL (bZ a0) qW
 apply aA (cU ax)
 rw[Hf]
 refine gq (Hg c m H.length sc (H++[aI.list []]++[aI.list [.int 1,.int 1,.int 1,.int 600]]).length H₂) (λkx as ρ H' h=>?_) (λρ H' h=>?_) _ _ _ (.mk none none none none none none xs [] rfl (bO.refl _ _) (cN _ _ a0) rfl (by rw[length_nil,qj];exact wR) (λk p h=>(nomatch h)) (λk p h=>(nomatch h)) (λζ i p ζ h=>(nomatch h)))
 ·refine h _ λo5 o6 o7 o8 o9 o10 mK ps e x a ea len wf rp hI=>?_
  subst e
  cases mK with
  |nil=>cases ea
  |cons xx mK=>
   have ek:kx=(ps.length,xx):=(i6 ea).1
   have eas:as=en (ps.length+1) mK:=(i6 ea).2
   subst ek
   rw[lF] at len
   have hk:ps.length<20:=by lia
   refine λN hN=>?_
   have st:∀{H''},bO H.length H₂ H''->fS [ls] H₂ H''=true:=λx=>dE ax (x _ _ (dm l2) ax)
   refine p1 hk jZ λb vb=>p2 hk rfl a λes le H₃ pZ Zv c6 l9=>p3 (n:=n) l9 Zv λal H₄ gd qV gu=>p4 rfl ((c6.trans gu) _ _ a) (gu _ _ l9) (λp hp=>(List.getElem?_of_mem hp).elim λi hi=>(wf i p hi) _ λζ ζ c ζ ζ=>c) gd qV λal H₅ gd qV ju=>?_
   have xh:=(c6.trans gu).trans ju
   refine p5 hk jZ rfl (xh _ _ (x _ _ (dm l1) (cN _ _ hh))) (λj hj=>pZ j (gd j hj)) qV vb hI λb al gd qV vb hb=>p7 jZ λdi H₆ NR iu=>p8 (cW hk) ((xh.trans iu) _ _ a) λH₇ A8 Zw=>?_
   have x8:=x.trans (((xh.trans iu).b _).trans A8)
   exact hN _ _ (st x8) (.mk _ _ _ _ _ _ mK (ps++[(⟨b,al,none,di⟩:bb)]) rfl x8 Zw (by rw[b6];exact eas) (by rw[b6,<-len];exact(add_assoc _ 1 _).trans (by rw[pC 1])) (DG (P:=λ_ (p:bb)=>oK (ps++[(⟨b,al,none,di⟩:bb)]) p) (λi q hq=>(wf i q hq).aT _) (.mk (λj hj=>(gd j hj).aT _) (λx hx=>(by cases hx)) qV (λx hx=>(by cases hx)) vb.1)) (DG (P:=Hc) rp ⟨λj hj=>(gd j hj).elim λq hq=>(d7.mp hq.1).1,vb.2,λd hd=>⟨(NR d hd).1,by have:=(NR d hd).2;have:=vb.2;lia⟩,λx hx=>(by cases hx)⟩) (λh i p hi hp=>DG (P:=λi (p:bb)=>i<12->wQ sc i p.aZ) (λi p hp hi=>hI h i p hi hp) (hb h) i p hp hi))
 ·refine h _ λo5 o6 o7 o8 o9 o10 mK ps e x a ea len wf rp hI=>?_
  subst e
  cases mK with
  |nil=>exact q _ _ ps len wf rp (x.ext (((aC.aT _ _).trans ((aC.aT _ _).trans (aC.aT _ _))).trans cN) (bX _)) (bX _) a
  |cons _ _=>cases ea)
def Hi(ps iz:List bb):Prop:=iz.length=ps.length/\∀(i:Nat) p',iz[i]?=some p'->(oK ps p'/\Hc i p')/\∃p,ps[i]?=some p/\p'.aZ=p.aZ
theorem Hi.wf{iz:List bb}(h:Hi ps iz):fk iz:=by
 have up:∀{b j},jt ps b j->jt iz b j:=λ{b j} ho=>ho.elim λq hq=>(at_of (show j<iz.length by rw[h.1];exact(d7.mp hq.1).1)).elim λp' fJ=>(h.2 j p' fJ).2.elim λp hp=>by
  rw[hp.1] at hq
  exact⟨p',fJ,by rw[hp.2];cases hq.1;exact hq.2⟩
 exact λk p' fJ=>(h.2 k p' fJ).1.1 _ λa b c d z=>(.mk (λj hj=>up (a j hj)) (λx hx j hj=>up (b x hx j hj)) c d z)
noncomputable def NS(ζ:Prop)(ps:List bb)(c:Int)(l la:Nat)(H₁:Hp)(as:List (Nat×Int))(ρ:bv)(H':Hp):Prop:=∀(o3 o4 o5 o6 o7 o8 o9 o10:Option V) (k:Nat) (xs:List Int) (iz:List bb) (e:ρ=[some (.ref l),some (.int c),some (.ref la),o3,o4,o5,o6,o7,o8,o9,o10]) (x:bO la H₁ H') (a:H'[la]?=some (.list (iz.map bW))) (ea:as=en k xs) (len:k+xs.length=ps.length) (ad:Hi ps iz),ζ
def Hj:=λps c l la H₁ as ρ H'=>∀ζ:Prop,NS ζ ps c l la H₁ as ρ H'->ζ
theorem Hj.mk{ps c l la H₁ as ρ H'}:NS (Hj ps c l la H₁ as ρ H') ps c l la H₁ as ρ H':=λx0 x1 x2 x3 x4 x5 x6 x7 x8 x9 dz fK eA fZ jW ku qQ ζ k=>k x0 x1 x2 x3 x4 x5 x6 x7 x8 x9 dz fK eA fZ jW ku qQ
theorem oJ(h:H[l]?=some (.list vs)):copyOf H (.ref l)=some vs:=by
 refine(?_:(match H[l]?.bind jQ with|some es=>_|none=>dJ H (.ref l))=_)
 rw[h];exact cU h
theorem DH{K:Hp->Prop}(h:H[l]?=some (.list vs))(hk:k<vs.length)(q:K (H.set l (.list (vs.set k v)))):uA (.ref l) (nv k) v H K:=aA h (And.intro ⟨ni k,kN.mpr hk⟩ q)
theorem Zx(hA:H[l]?=some (.list (ps.map bW)))(hW:fk ps)(hl:ps.length<=20)(hR:qU ps)(q:∀la H' iz,iz.length=ps.length->fk iz->qU iz->aC H H'->H.length<=la->H'[la]?=some (.list (iz.map bW))->Q (.ref la) H'):aH (n+2) 31 [.ref l,.int c] H Q Y:=Xj (by
 refine aA (oJ hA) (cZ (c8 (e7 hl)) (aA (cU (bu _ hA)) ?_))
 rw[bJ]
 refine ck (Bd (n:=n) (aG hl (by decide)) λls H₂ xs wR Hh qW cN ax=>?_)
 have a0:=bz H (.list (ps.map bW))
 have l2:H.length<ls:=cL (bZ a0) qW
 apply aA (cU ax)
 rw[Hf]
 refine gq (Hj ps c l H.length H₂) (λkx as ρ H' h=>?_) (λρ H' h=>?_) _ _ _ (.mk none none none none none none none none 0 xs ps rfl (bO.refl _ _) (cN _ _ a0) rfl (by rw[qj];exact wR) ⟨rfl,λi p hp=>⟨⟨hW i p hp,hR i p hp⟩,p,hp,rfl⟩⟩)
 ·refine h _ λo3 o4 o5 o6 o7 o8 o9 o10 k mK iz e x a ea len ad=>?_
  subst e
  cases mK with
  |nil=>cases ea
  |cons xx mK=>
   have ek:kx=(k,xx):=(i6 ea).1
   have eas:as=en (k+1) mK:=(i6 ea).2
   subst ek
   rw[lF] at len
   have hk:k<ps.length:=by lia
   refine λN hN=>?_
   have xH:aC H H':=x.ext ((aC.aT _ _).trans cN) (bX _)
   have st:∀{H''},bO H.length H₂ H''->fS [ls] H₂ H''=true:=λx=>dE ax (x _ _ (dm l2) ax)
   refine(at_of hk).elim λp hp=>?_
   have mS:=xH _ _ hA
   apply aA (fY mS hp)
   apply aA (cU mS)
   rw[bJ]
   refine pT (cG hl (by decide)) (cZ (c8 (by rw[bJ,jI];exact cG hl (by decide))) (mj (P:=tM ps p.aZ) (F:=nv) _ _ _ (λj hj T hT=>?_) (λj ζ ζ N hN=>hN) ?_))
   ·refine(at_of (i8.mp hj)).elim λpj NT=>aA (fY mS NT) ?_
    unfold tM at hT
    rw[NT] at hT
    exact Hd (T:=T) hT
   ·have pZ:∀j∈(List.range ps.length).filter (tM ps p.aZ),jt ps p.aZ j:=λj hj=>NN (nq.mp hj).2
    have ae:=bz H' (.list (aS ((List.range ps.length).filter (tM ps p.aZ))))
    generalize (List.range ps.length).filter (tM ps p.aZ)=es at pZ ae
    have no:∀{H''} {o3 o4 o5 o6 o7 o8 o9 o10},aC H' H''->N [some (.ref l),some (.int c),some (.ref H.length),o3,o4,o5,o6,o7,o8,o9,o10] H'':=λx'=>hN _ _ (st (x.trans (x'.b _))) (.mk _ _ _ _ _ _ _ _ (k+1) mK iz rfl (x.trans (x'.b _)) (x' _ _ a) eas (by lia) ad)
    have fin:∀{al H₃} {o3 o4 o5 o6 o7 o8 o9 o10},(∀j∈al,j∈es)->kg al->al≠[]->(∀d,p.bS=some d->p.aZ+xx.fmod 30<d)->aC H' H₃->uA (.ref H.length) (nv k) (.aF [.int p.aZ,.aF (aS p.cf),.aF [.int (p.aZ+xx.fmod 30),.aF (aS al)],jA p.bS]) H₃ (λH₄=>N [some (.ref l),some (.int c),some (.ref H.length),o3,o4,o5,o6,o7,o8,o9,o10] H₄):=λ{al H₃ _ _ _ _ _ _ _ _} gd h2 fG ey c6=>by
     have AN:k<iz.length:=by rw[ad.1];exact hk
     refine DH (c6 _ _ a) (by rw[bJ];exact AN) ?_
     have x4:=x.trans ((c6.b _).trans (bO.set H.length H₃ (.list ((iz.map bW).set k (.aF [.int p.aZ,.aF (aS p.cf),.aF [.int (p.aZ+xx.fmod 30),.aF (aS al)],jA p.bS])))))
     refine hN _ _ (st x4) (.mk _ _ _ _ _ _ _ _ (k+1) mK (iz.set k ⟨p.aZ,p.cf,some (p.aZ+xx.fmod 30,al),p.bS⟩) rfl x4 (?_) eas (by lia) ⟨by rw[gR];exact ad.1,λi p' fJ=>?_⟩)
     ·rw[map_set];exact d9 (c6 _ _ a) _
     ·by_cases NU:k=i
      ·subst NU
       rw[sN AN] at fJ
       cases fJ
       exact⟨⟨(hW k p hp) _ λa' b' c' d' z'=>(.mk a' (λy hy j hj=>by cases hy;exact pZ j (gd j hj)) c' (λy hy=>by cases hy;exact h2) z'),(hR k p hp).1,(hR k p hp).2.1,(hR k p hp).2.2.1,λy hy=>by
        cases hy
        have Zy:=r9 xx (b:=30) (by decide)
        have:=(hR k p hp).2.1
        exact⟨by refine(?_:p.aZ<=p.aZ+xx.fmod 30);lia,by refine(?_:p.aZ+xx.fmod 30<=100000);lia,ey,fG⟩⟩,p,hp,rfl⟩
      ·rw[ud NU] at fJ
       exact ad.2 i p' fJ
    refine ir (λh1=>(aA (ne_nil (bu _ ae) (uU _ _) (bz _ _)) ?_)) λh1=>fL h1 (no (aC.aT _ _))
    rw[sT]
    have Hk:∀a b:List aI,aC H' (H'++a++b):=λa b=>(aC.aT _ _).trans (aC.aT _ _)
    refine ir (λh2=>?_) λh2=>fL h2 (no (Hk _ _))
    have Zz:es≠[]:=λe=>by rw[e] at h2;cases h2
    have sm:(∀d,p.bS=some d->p.aZ+xx.fmod 30<d)->∀(al:List Nat) (H₃:Hp),(∀j∈al,j∈es)->kg al->(al=[]->es=[]\/(1:Int)=0)->aC (H'++[.list (aS es)]++[.list []]) H₃->_:=λey al H₃ gd h2 hz c6=>fin (o3:=some (nv k)) (o4:=some (.int xx)) (o5:=some (.int p.aZ)) (o6:=some (.aF (aS p.cf))) (o7:=some (mL p.ad)) (o8:=some (jA p.bS)) (o9:=some (.ref H'.length)) (o10:=some (.int (p.aZ+xx.fmod 30))) gd h2 (λe=>(hz e).elim Zz (by decide)) ey ((Hk _ _).trans c6)
    have Hl:=no (o3:=some (nv k)) (o4:=some (.int xx)) (o5:=some (.int p.aZ)) (o6:=some (.aF (aS p.cf))) (o7:=some (mL p.ad)) (o8:=some (jA p.bS)) (o9:=some (.ref H'.length)) (o10:=some (.int (p.aZ+xx.fmod 30))) (Hk [.list (aS es)] [.list []])
    revert sm Hl
    cases hd:p.bS with
    |none=>exact λsm ζ=>ck (Be (bu _ ae) (sm λζ h=>nomatch h))
    |some e=>
     intro sm Hl
     exact dp (λey=>ck (Be (bu _ ae) (sm λd hd=>by cases hd;exact cu ey))) λζ=>Hl
 ·refine h _ λo3 o4 o5 o6 o7 o8 o9 o10 k mK iz e x a ea len ad=>?_
  subst e
  exact q _ _ iz ad.1 ad.wf (λi p' fJ=>(ad.2 i p' fJ).1.2) (x.ext ((aC.aT _ _).trans cN) (bX _)) (bX _) a)
theorem ZA{R:List V×List Nat->Hp->Prop}{a b:V}(h:ρ[j]?.join=some (.aF [a,b,z]))(q:R ([a,b],[]) H):qE C (.of (.kP (.J j) none (some (kI 2)))) ρ H R:=aA h q
noncomputable def fq(ps:List bb)(j:Nat):Bool:=(ps[j]?).elim false λp=>p.bS.isSome
noncomputable def mn(ps:List bb)(j:Nat):V:=(ps[j]?).elim .none λp=>jA p.bS
noncomputable def fQ(ps:List bb)(j:Nat):Option Int:=ps[j]?.bind (·.bS)
noncomputable def mT(D:Int):Option Int->Option Int->Int
 |none,none=>D
 |some x,none=>x
 |none,some y=>y
 |some x,some y=>min x y
theorem NV{b:Nat}(ha:a<ps.length)(hb:b<ps.length):∃is,allInts (([a,b].filter (fq ps)).map (mn ps))=some is/\∀D,minOf is D=mT D (fQ ps a) (fQ ps b):=(at_of ha).elim λp hp=>(at_of hb).elim λp' fJ=>by
 have e1:fq ps a=p.bS.isSome:=by unfold fq;rw[hp];rfl
 have e2:fq ps b=p'.bS.isSome:=by unfold fq;rw[fJ];rfl
 have v1:mn ps a=jA p.bS:=by unfold mn;rw[hp];rfl
 have v2:mn ps b=jA p'.bS:=by unfold mn;rw[fJ];rfl
 rw[filter_cons,filter_cons,e1,e2,filter_nil,show fQ ps a=p.bS by unfold fQ;rw[hp];rfl,show fQ ps b=p'.bS by unfold fQ;rw[fJ];rfl]
 revert v1 v2
 generalize p.bS=o1
 generalize p'.bS=o2
 intro v1 v2
 cases o1 with
 |none=>
  cases o2 with
  |none=>exact⟨[],rfl,λζ=>rfl⟩
  |some y=>exact⟨[y],(by refine(?_:allInts [mn ps b]=_);rw[v2];rfl),λζ=>rfl⟩
 |some x=>
  cases o2 with
  |none=>exact⟨[x],(by refine(?_:allInts [mn ps a]=_);rw[v1];rfl),λζ=>rfl⟩
  |some y=>exact⟨[x,y],(by refine(?_:allInts [mn ps a,mn ps b]=_);rw[v1,v2];rfl),λζ=>rfl⟩
theorem NW{C:Ct}{b:Nat}{test:bv->Hp->(Bool->Hp->Prop)->Prop}{elt:bv->Hp->PQ->Prop}{R:List V->Hp->Prop}(ha:a<ps.length)(hb:b<ps.length)(ht:∀(j:Nat) p (T:Bool->Hp->Prop),ps[j]?=some p->T p.bS.isSome H->test (some (nv j)::eW) H T)(he:∀(j:Nat) p (N:PQ),ps[j]?=some p->N (jA p.bS) H->elt (some (nv j)::eW) H N)(q:R ([]++([a,b].filter (fq ps)).map (mn ps)) H):iR ws H (.J 0) test elt [nv a,nv b] (o::eW) H [] R:=by
 have mJ:∀j∈[a,b],j<ps.length:=λj hj=>(gB.mp hj).elim (λe=>e▸ha) λh=>by rw[dI.mp h];exact hb
 refine mj (g:=nv) (P:=fq ps) (F:=mn ps) [a,b] _ _ (λj hj T hT=>?_) (λj hj ζ N hN=>?_) q
 ·refine(at_of (mJ j hj)).elim λp hp=>ht j p T hp ?_
  unfold fq at hT
  rw[hp] at hT
  exact hT
 ·refine(at_of (mJ j hj)).elim λp hp=>he j p N hp ?_
  unfold mn at hN
  rw[hp] at hN
  exact hN
theorem NX{b:Nat}(hA:H[l]?=some (.list (ps.map bW)))(ha:a<ps.length)(hb:b<ps.length)(q:∀H',aC H H'->Q (.int (mT (10^9) (fQ ps a) (fQ ps b))) H'):aH (n+1) 36 [.ref l,.aF [nv a,nv b,z]] H Q Y:=Xl (by
 unfold ET
 refine eD (lP (ZA (j:=1) rfl (cZ (c8 (show 2<16000000 by decide)) (NW (C:=⟨aH n,xq Y⟩) ha hb (λj p T hp hT=>?_) (λj p N hp hN=>?_) ?_))))
 ·apply aA (fY hA hp)
  unfold bW
  cases hd:p.bS with
  |none=>rw[hd] at hT;exact hT
  |some d=>rw[hd] at hT;exact hT
 ·exact aA (fY hA hp) (hN)
 ·refine(NV ha hb).elim λis Bj=>?_
  have e:nB (H++[.list ([]++([a,b].filter (fq ps)).map (mn ps))]) (.ref H.length)=some is:=by
   refine(?_:(dJ _ (.ref H.length)).bind allInts=_)
   rw[cU (bz _ _)];exact Bj.1
  apply aA e
  have q:=q _ (aC.aT H [.list ([]++([a,b].filter (fq ps)).map (mn ps))])
  rw[<-Bj.2] at q
  exact q)
noncomputable def Hm(ps:List bb)(w u:gh):Bool:=decide (mT (10^9) (fQ ps w.a) (fQ ps w.b)>u.day)&&decide (mT (10^9) (fQ ps u.a) (fQ ps u.b)>w.day)
theorem ZB{b a':Nat}{d':Int}(hA:H[l]?=some (.list (ps.map bW)))(ha:a<ps.length)(hb:b<ps.length)(oI:a'<ps.length)(qM:b'<ps.length)(q:∀H',aC H H'->Q (.bool (Hm ps ⟨a,b,d⟩ ⟨a',b',d'⟩)) H'):aH (n+2) 37 [.ref l,.aF [nv a,nv b,.int d],.aF [nv a',nv b',.int d']] H Q Y:=Xm (by
 refine ck (NX hA ha hb λH₁ sf=>?_)
 have q:∀H',aC H H'->Q (.bool (decide (mT (10^9) (fQ ps a) (fQ ps b)>d')&&decide (mT (10^9) (fQ ps a') (fQ ps b')>d))) H':=q
 refine(ir (λh1=>?_) λh1=>?_:cD (decide (mT (10^9) (fQ ps a) (fQ ps b)>d')==true) _ _)
 ·rw[h1] at q
  exact ck (NX (sf _ _ hA) oI qM λH₂ cN=>q _ (sf.trans cN))
 ·have q:=q _ sf
  rw[h1] at q
  refine(?_:Q (.bool (decide (mT (10^9) (fQ ps a) (fQ ps b)>d'))) H₁)
  rw[h1];exact q)
noncomputable abbrev ZC:S:=.aY (.J 5) (.bin .mod (.J 4) (.bi .len [.J 0]))
noncomputable abbrev ZD:S:=.aY (.J 6) (.bin .mod (.bin .fdiv (.J 4) (kI 60)) (.bi .len [.J 0]))
noncomputable abbrev ZE:S:=.aY (.J 7) (.bin .add (.bi .max2 [(.br (.br (.J 0) (.J 5)) (kI 0)),(.br (.br (.J 0) (.J 6)) (kI 0))]) (.bin .mod (.bin .fdiv (.J 4) (kI 3600)) (kI 40)))
noncomputable abbrev ZF:S:=.aY (.J 9) (.and [(.cmp .ne (.J 5) (.J 6)),(.call 32 [.J 0,.J 5,.J 7]),(.call 32 [.J 0,.J 6,.J 7])])
noncomputable abbrev ZG:List S:=[.bD (.or [(.cmp .ot (.J 5) (.kP (.J 10) none (some (kI 2)))),(.cmp .ot (.J 6) (.kP (.J 10) none (some (kI 2))))])
    [.aY (.J 9) (.and [.J 9,(.not (.call 37 [.J 0,.J 8,.J 10]))])]
    []]
noncomputable abbrev ZH:S:=.for (.J 10) (.of (.J 3)) ZG
noncomputable abbrev oU(l:Nat)(c:Int)(m lf:Nat)(x:Int)(o5 o6 o7 o8 o9 o10:Option V):bv:=[some (.ref l),some (.int c),some (nv m),some (.ref lf),some (.int x),o5,o6,o7,o8,o9,o10]
noncomputable def tN(w u:gh):Bool:=(((u.a:Int)==(w.a:Int))||(((u.b:Int)==(w.a:Int))||false))||(((u.a:Int)==(w.b:Int))||(((u.b:Int)==(w.b:Int))||false))
noncomputable def clear(ps:List bb)(w u:gh):Bool:=!(tN w u&&Hm ps w u)
def ZI(ps:List bb)(w:gh):Prop:=w.a≠w.b/\lv ps w.day w.a=true/\lv ps w.day w.b=true/\0<=w.day/\w.day<=100000
def Hn(ps:List bb)(ms:List gh):Prop:=(∀w∈ms,ZI ps w)/\ms.Pairwise λu w=>clear ps w u=true
noncomputable def NY(ζ:Prop)(ps:List bb)(t0:Bool)(ms:List gh)(l:Nat)(c:Int)(m lf:Nat)(x:Int)(a b:Nat)(d:Int)(N:Nat)(H:Hp)(as:List gh)(ρ:bv)(H':Hp):Prop:=∀(t:Bool) (o10:Option V) (pre:List gh) (e:ρ=oU l c m lf x (some (nv a)) (some (nv b)) (some (.int d)) (some (.aF [nv a,nv b,.int d])) (some (.bool t)) o10) (ext:aC H H') (ok:u5 N as) (tot:pre++as=ms) (nm:t=true->t0=true/\∀u∈pre,clear ps ⟨a,b,d⟩ u=true),ζ
def Hq:=λps t0 ms l c m lf x a b d N H as ρ H'=>∀ζ:Prop,NY ζ ps t0 ms l c m lf x a b d N H as ρ H'->ζ
theorem Hq.mk{ps t0 ms l c m lf x a b d N H as ρ H'}:NY (Hq ps t0 ms l c m lf x a b d N H as ρ H') ps t0 ms l c m lf x a b d N H as ρ H':=λx0 x1 x2 x3 x4 x5 x6 x7 ζ k=>k x0 x1 x2 x3 x4 x5 x6 x7
section
variable{b:Nat}{K:Out->Prop}
theorem DI(h:0<ps.length):((ps.length:Nat):Int)≠0:=Int.ofNat_ne_zero.mpr (dm h)
theorem q5(hA:H[l]?=some (.list (ps.map bW)))(h0:0<ps.length)(h:∀a,a<ps.length->aX ⟨aH n,Y⟩ rest (oU l c m lf x (some (nv a)) o6 o7 o8 o9 o10) H K):aX ⟨aH n,Y⟩ (ZC::rest) (oU l c m lf x o5 o6 o7 o8 o9 o10) H K:=by
 apply aA (cU hA)
 rw[bJ]
 refine aA (k8 (a:=x) (DI h0)) ((k7 x h0).elim λa ha=>?_)
 rw[ha.1]
 exact h a ha.2
theorem q6(hA:H[l]?=some (.list (ps.map bW)))(h0:0<ps.length)(h:∀a,a<ps.length->aX ⟨aH n,Y⟩ rest (oU l c m lf x o5 (some (nv a)) o7 o8 o9 o10) H K):aX ⟨aH n,Y⟩ (ZD::rest) (oU l c m lf x o5 o6 o7 o8 o9 o10) H K:=by
 apply aA (cU hA)
 rw[bJ]
 refine aA (k8 (a:=x.fdiv 60) (DI h0)) ((k7 (x.fdiv 60) h0).elim λa ha=>?_)
 rw[ha.1]
 exact h a ha.2
theorem q7(hW:fk ps)(hR:qU ps)(hA:H[l]?=some (.list (ps.map bW)))(ha:a<ps.length)(hb:b<ps.length)(h:∀d,0<=d/\d<=100000->aX ⟨aH n,Y⟩ rest (oU l c m lf x (some (nv a)) (some (nv b)) (some (.int d)) o8 o9 o10) H K):aX ⟨aH n,Y⟩ (ZE::rest) (oU l c m lf x (some (nv a)) (some (nv b)) o7 o8 o9 o10) H K:=by
 refine(at_of ha).elim λp hp=>(at_of hb).elim λp' fJ=>aA (fY hA hp) (aA (fY hA fJ) (h _ ?_))
 have h40:=r9 (x.fdiv 3600) (b:=40) (by decide)
 have z1:0<=p.aZ:=(hW a p hp) _ λζ ζ ζ ζ z=>z
 have z2:0<=p'.aZ:=(hW b p' fJ) _ λζ ζ ζ ζ z=>z
 have b1:=(hR a p hp).2.1
 have b2:=(hR b p' fJ).2.1
 rcases Int.le_total p.aZ p'.aZ with l9|l9
 ·rw[Int.max_eq_right l9];exact⟨by lia,by lia⟩
 ·rw[Int.max_eq_left l9];exact⟨by lia,by lia⟩
theorem q9(hA:H[l]?=some (.list (ps.map bW)))(ha:a<ps.length)(hb:b<ps.length)(h:∀t,(t=true->a≠b/\lv ps d a=true/\lv ps d b=true)->aX ⟨aH (n+1),Y⟩ rest (oU l c m lf x (some (nv a)) (some (nv b)) (some (.int d)) o8 (some (.bool t)) o10) H K):aX ⟨aH (n+1),Y⟩ (ZF::rest) (oU l c m lf x (some (nv a)) (some (nv b)) (some (.int d)) o8 o9 o10) H K:=by
 exact(at_of ha).elim λp hp=>(at_of hb).elim λp' fJ=>((ir (λh1=>(ck (Nb hA hp (((ir (λh2=>(ck (Nb hA fJ (h _ λh3=>⟨λe=>(by rw[e,hX] at h1;cases h1),(mf hp).trans h2,(mf fJ).trans h3⟩)))) λh2=>h _ λe=>absurd (h2.symm.trans e) gM):cD (g8 p d==true) _ _))))) λh1=>h _ λe=>absurd (h1.symm.trans e) gM):cD ((!((a:Int)==(b:Int)))==true) _ _)
theorem ZJ{ms:List gh}(hA:H[l]?=some (.list (ps.map bW)))(ha:a<ps.length)(hb:b<ps.length)(hM:H[lf]?=some (.list (ms.map iH)))(ok:u5 ps.length ms)(h:∀t' o10 H',(t'=true->t=true/\∀u∈ms,clear ps ⟨a,b,d⟩ u=true)->aC H H'->aX ⟨aH (n+2),Y⟩ rest (oU l c m lf x (some (nv a)) (some (nv b)) (some (.int d)) (some (.aF [nv a,nv b,.int d])) (some (.bool t')) o10) H' K):aX ⟨aH (n+2),Y⟩ (ZH::rest) (oU l c m lf x (some (nv a)) (some (nv b)) (some (.int d)) (some (.aF [nv a,nv b,.int d])) (some (.bool t)) o10) H K:=by
 refine aA (dU hM) (gq (Hq ps t ms l c m lf x a b d ps.length H) (λw as ρ H' hI=>?_) (λρ H' hI=>?_) _ _ _ (.mk t o10 [] rfl (aC.refl _) ok rfl λe=>⟨e,λζ h=>nomatch h⟩))
 ·refine hI _ λt' o10 pre e ext ok tot nm=>?_
  subst e
  refine λN hN=>?_
  have hw:=ok w dD
  have no:∀t2 H'',(t2=true->t'=true/\clear ps ⟨a,b,d⟩ w=true)->aC H' H''->N (oU l c m lf x (some (nv a)) (some (nv b)) (some (.int d)) (some (.aF [nv a,nv b,.int d])) (some (.bool t2)) (some (iH w))) H'':=λt2 H'' ht x'=>hN _ _ (dE hM ((ext.trans x') _ _ hM)) (.mk t2 _ (pre++[w]) rfl (ext.trans x') (λw h=>ok w (.tail _ h)) (iV tot) λe=>⟨(nm (ht e).1).1,λu hu=>(cY.mp hu).elim ((nm (ht e).1).2 u) λhu=>by rw[dI.mp hu];exact(ht e).2⟩)
  have yes:tN ⟨a,b,d⟩ w=true->aX ⟨aH (n+2),Y⟩ [.aY (.J 9) (.and [.J 9,(.not (.call 37 [.J 0,.J 8,.J 10]))])] (oU l c m lf x (some (nv a)) (some (nv b)) (some (.int d)) (some (.aF [nv a,nv b,.int d])) (some (.bool t')) (some (iH w))) H' (λo=>mG o N False):=λZK=>by
   exact ir (λh1=>(ck (ZB (n:=n) (ext _ _ hA) ha hb hw.1 hw.2 λH'' x'=>no _ _ (λe=>⟨h1,by unfold clear;rw[ZK];exact e⟩) x'))) λh1=>no _ _ (λe=>absurd (h1.symm.trans e) Bool.false_ne_true) (aC.refl _)
  exact((mM (λh1=>(((dp (λh2=>yes (by unfold tN;rw[h2,Bool.or_true])) λh2=>no _ _ (λe=>⟨e,by unfold clear tN;rw[h1,h2];rfl⟩) (aC.refl _)):cD (((w.a:Int)==(b:Int))||(((w.b:Int)==(b:Int))||false)) _ _))) λh1=>ia h1 (yes (by unfold tN;rw[h1];rfl))):cD ((((w.a:Int)==(a:Int))||(((w.b:Int)==(a:Int))||false))==false) _ _)
 ·refine hI _ λt' o10 pre e ext ok tot nm=>?_
  subst e
  rw[fN] at tot
  subst tot
  exact h _ _ _ nm ext
end
noncomputable def NZ(ζ:Prop)(ps:List bb)(c:Int)(m l lf N:Nat)(H₁:Hp)(as:List Int)(ρ:bv)(H':Hp):Prop:=∀(o4 o5 o6 o7 o8 o9 o10:Option V) (ms:List gh) (e:ρ=[some (.ref l),some (.int c),some (nv m),some (.ref lf),o4,o5,o6,o7,o8,o9,o10]) (x:bO lf H₁ H') (a:H'[lf]?=some (.list (ms.map iH))) (ok:u5 N ms) (wr:Hn ps ms) (len:ms.length+as.length<=m),ζ
def Hs:=λps c m l lf N H₁ as ρ H'=>∀ζ:Prop,NZ ζ ps c m l lf N H₁ as ρ H'->ζ
theorem Hs.mk{ps c m l lf N H₁ as ρ H'}:NZ (Hs ps c m l lf N H₁ as ρ H') ps c m l lf N H₁ as ρ H':=λx0 x1 x2 x3 x4 x5 x6 x7 x8 x9 dz fK eA fZ ζ k=>k x0 x1 x2 x3 x4 x5 x6 x7 x8 x9 dz fK eA fZ
theorem ZL(hW:fk ps)(hR:qU ps)(hA:H[l]?=some (.list (ps.map bW)))(h0:0<ps.length)(hm:m<=1000)(q:∀lm H' ms,u5 ps.length ms->Hn ps ms->ms.length<=m->aC H H'->H.length<=lm->H'[lm]?=some (.list (ms.map iH))->Q (.ref lm) H'):aH (n+3) 38 [.ref l,.int c,nv m] H Q Y:=Xn (by
 refine ck (Bd (n:=n+1) hm λls H₂ xs wR Hh qW cN ax=>?_)
 have a0:=bz H (.list [])
 have l2:H.length<ls:=cL (bZ a0) qW
 refine aA (dU ax) (gq (Hs ps c m l H.length ps.length H₂) (λx as ρ H' h=>?_) (λρ H' h=>?_) _ _ _ (.mk none none none none none none none [] rfl (bO.refl _ _) (cN _ _ a0) (λζ h=>(nomatch h)) ⟨λζ h=>(nomatch h),Pairwise.nil⟩ (by rw[length_nil,qj];exact iC wR)))
 ·refine h _ λo4 o5 o6 o7 o8 o9 o10 ms e x' a ok wr len=>?_
  subst e
  refine λN hN=>?_
  rw[lF] at len
  have xH:aC H H':=x'.ext ((aC.aT _ _).trans cN) (bX _)
  have mS:=xH _ _ hA
  have st:∀{H''},bO H.length H₂ H''->fS [ls] H₂ H''=true:=λx=>dE ax (x _ _ (dm l2) ax)
  refine q5 mS h0 λb hb=>q6 mS h0 λb' qM=>q7 hW hR mS hb qM λd hd=>eD (q9 (n:=n+1) mS hb qM λt ht=>ZJ (n:=n) mS hb qM a ok λt' o10 H₃ hc c6=>?_)
  have a3:=c6 _ _ a
  refine(dp (λh1=>(gf a3 (gg a3 (by rw[bJ];lia) (hN _ _ (st ((x'.trans (c6.b _)).trans (bO.set _ _ _))) (.mk _ _ _ _ _ _ _ (ms++[⟨b,b',d⟩]) rfl ((x'.trans (c6.b _)).trans (bO.set _ _ _)) (?_) (λw hw=>(cY.mp hw).elim (ok w) λh=>by rw[dI.mp h];exact⟨hb,qM⟩) ⟨λw hw=>(cY.mp hw).elim (wr.1 w) λh=>by rw[dI.mp h];exact⟨(ht (hc h1).1).1,(ht (hc h1).1).2.1,(ht (hc h1).1).2.2,hd⟩,List.pairwise_append.mpr ⟨wr.2,List.pairwise_singleton _ _,λu hu w hw=>by rw[dI.mp hw];exact(hc h1).2 u hu⟩⟩ (by rw[b6];refine(?_:ms.length+1+as.length<=m);lia)))))) λζ=>hN _ _ (st (x'.trans (c6.b _))) (.mk _ _ _ _ _ _ _ ms rfl (x'.trans (c6.b _)) a3 ok wr (by lia)))
  rw[jO];exact d9 a3 _
 ·refine h _ λo4 o5 o6 o7 o8 o9 o10 ms e x' a ok wr len=>?_
  subst e
  exact q _ _ ms ok wr (aG (eV _ _) len) (x'.ext ((aC.aT _ _).trans cN) (bX _)) (bX _) a)
noncomputable abbrev Ht(ov un j:Nat):V:=.aF [nv j,nv ov,nv un]
noncomputable def N6(ζ:Prop)(l kp:Nat)(x:Int)(r N:Nat)(H:Hp)(as:List Nat)(ρ:bv)(H':Hp):Prop:=∀(o4 o5:Option V) (ns:List Nat) (e:ρ=[some (.ref l),some (nv kp),some (.int x),some (.ref H.length),o4,o5,none,none]) (ext:aC H H') (a:H'[H.length]?=some (.list (aS ns))) (ok:(∀j∈ns,j<N)/\ns.Nodup/\kp∉ns) (len:ns.length+as.length<=r) (small:∀k∈as,k<r),ζ
def Hu:=λl kp x r N H as ρ H'=>∀ζ:Prop,N6 ζ l kp x r N H as ρ H'->ζ
theorem Hu.mk{l kp x r N H as ρ H'}:N6 (Hu l kp x r N H as ρ H') l kp x r N H as ρ H':=λx0 x1 x2 x3 x4 x5 x6 x7 x8 ζ k=>k x0 x1 x2 x3 x4 x5 x6 x7 x8
def ZM(H:Hp)(N kp:Nat)(Q:PQ):Prop:=∀(lg:Nat) (H':Hp) (ns:List Nat) (ov un:Nat),(∀j∈ns,j<N)/\ns.Nodup/\kp∉ns->ns.length<=10->ov<=3->1<=ov->ov*ns.length<=un->un<1000->aC H H'->H.length<=lg->H'[lg]?=some (.list (ns.map (Ht ov un)))->Q (.ref lg) H'
theorem ZN(x:Int):∃(z:Int) (r:Nat),ik (.ref (H++[aI.list []]).length) (.int ((x.fdiv 30).fmod 3)) (H++[aI.list []]++[.list [.int 3,.int 3,.int 10]])=some (.int z)/\z≠0/\1+x.fmod z=(r:Int)/\r<=10:=
 have h3:=Bc x (k:=3) (c:=10) (by decide) (by decide)
 have jg:=Bc x (k:=10) (c:=10) (by decide) (by decide)
 Zc (x.fdiv 30) (P:=λi=>∃(z:Int) (r:Nat),ik (.ref (H++[aI.list []]).length) (.int i) (H++[aI.list []]++[.list [.int 3,.int 3,.int 10]])=some (.int z)/\z≠0/\1+x.fmod z=(r:Int)/\r<=10)
  (h3.elim λr h=>⟨3,r,iU (bz _ _) rfl,by decide,h.1,h.2.2⟩) (h3.elim λr h=>⟨3,r,iU (bz _ _) rfl,by decide,h.1,h.2.2⟩) (jg.elim λr h=>⟨10,r,iU (bz _ _) rfl,by decide,h.1,h.2.2⟩)
theorem ZO(x:Int):∃mo:Nat,ik (.ref H.length) (.int ((x.fdiv 7).fmod 2)) (H++[.list [.int ((x.fdiv 11340).fmod 4),.int ((x.fdiv 11340).fmod 900)]])=some (nv mo)/\mo<900:=
 (k7 (x.fdiv 11340) (k:=4) (by decide)).elim λa ha=>(k7 (x.fdiv 11340) (k:=900) (by decide)).elim λb hb=>mod2 (x.fdiv 7) (P:=λi=>∃mo:Nat,ik (.ref H.length) (.int i) (H++[.list [.int ((x.fdiv 11340).fmod 4),.int ((x.fdiv 11340).fmod 900)]])=some (nv mo)/\mo<900)
  ⟨a,(iU (bz _ _) rfl).trans (by rw[show(x.fdiv 11340).fmod 4=(a:Int) from ha.1]),jp ha.2 (by decide)⟩ ⟨b,(iU (bz _ _) rfl).trans (by rw[show(x.fdiv 11340).fmod 900=(b:Int) from hb.1]),hb.2⟩
theorem N7(hA:H[l]?=some (.list (ps.map bW)))(h0:0<ps.length)(q:ZM H ps.length kp Q):aH (n+1) 39 [.ref l,nv kp,.int x] H Q Y:=Xo (by
 refine(ZN (H:=H) x).elim λz hz=>hz.elim λr hz=>aA hz.1 (aA (k8 hz.2.1) (fD (op:=.add) (p:=1) (q:=x.fmod z) (z:=(r:Int)) (b7 some hz.2.2.1) ?_))
 have hr:=hz.2.2.2
 refine pT (cG hr (by decide)) (gq (Hu l kp x r ps.length H) (λk as ρ H' h=>?_) (λρ H' h=>?_) _ _ _ (.mk none none [] rfl ((aC.aT _ _).trans (aC.aT _ _)) (bu _ (bz _ _)) ⟨λζ h=>(nomatch h),ql,λh=>(nomatch h)⟩ (by rw[jI,length_nil,qj];exact bX _) (λk hk=>i8.mp hk)))
 ·refine h _ λo4 o5 ns e ext a ok len small=>?_
  subst e
  refine λN hN=>?_
  rw[lF] at len
  have hk:=small k dD
  refine aA (mh (i:=10) (j:=10) (a:=(k:Int)) (b:=1+(x.fdiv 540).fmod 7) (se hk (aG hr (by decide))) ((Bc (x.fdiv 540) (k:=7) (c:=1000) (by decide) (by decide)).elim λr h=>by rw[show 1+(x.fdiv 540).fmod 7=(r:Int) from h.1];exact se (lt_succ_of_le h.2.2) (by decide)) (by decide)) (aA (cU (ext _ _ hA)) ?_)
  rw[bJ]
  refine aA (k8 (a:=x.fdiv 90+(k:Int)*(1+(x.fdiv 540).fmod 7)) (DI h0)) ((k7 (x.fdiv 90+(k:Int)*(1+(x.fdiv 540).fmod 7)) h0).elim λj hj=>?_)
  rw[hj.1]
  have no:N [some (.ref l),some (nv kp),some (.int x),some (.ref H.length),some (nv k),some (nv j),none,none] H':=hN _ _ rfl (.mk _ _ ns rfl ext a ok (pA len) (λk hk=>small k (.tail _ hk)))
  refine(ir (λh1=>(aA (He a) ?_)) λh1=>fL h1 no:cD ((!((j:Int)==(kp:Int)))==true) _ _)
  refine dp (λh2=>?_) λh2=>no
  have ZP:j∉ns:=λhm=>by rw[dj hm] at h2;cases h2
  exact gf a (gg a (e7 (aG (aG (eV _ _) len) hr)) (hN _ _ rfl (.mk _ _ (ns++[j]) rfl (ext.set (bX _) _) (by rw[<-uV];exact d9 a _) ⟨λi hi=>(cY.mp hi).elim (ok.1 i) λh=>by rw[dI.mp h];exact hj.2,sM.mpr ⟨ok.2.1,nj.mpr ⟨sS,ql⟩,λi hi i' wc e=>ZP (dI.mp wc▸e▸hi)⟩,λhm=>(cY.mp hm).elim ok.2.2 λh=>by rw[dI.mp h,hX] at h1;cases h1⟩ (by rw[b6];refine(?_:ns.length+1+as.length<=r);rw[add_right_comm];exact len) (λk hk=>small k (.tail _ hk)))))
 ·refine h _ λo4 o5 ns e ext a ok len small=>?_
  subst e
  have iF:ns.length<=10:=aG (aG (eV _ _) len) hr
  refine(Bc (x.fdiv 3780) (k:=3) (c:=3) (by decide) (bX _)).elim λov rS=>eD (f9 (bP (f9 (f9 (aU rfl (bP (fD (yS (by decide)) (bP (fD (k8 (by decide)) (fD rfl ?_))))))))))
  rw[show 1+(x.fdiv 3780).fmod 3=(ov:Int) from rS.1]
  refine aA rfl ((ZO (H:=H') x).elim λmo N8=>aA N8.1 ?_)
  apply aA (dU (bu _ a))
  refine cZ (c8 (e7 iF)) (mj (P:=λζ=>true) (F:=Ht ov (ov*ns.length+mo)) _ _ _ (λj ζ T hT=>hT) (λj ζ ζ N hN=>?_) ?_)
  ·apply aA (cU (bu _ a))
   rw[bJ]
   exact aA (mh (i:=10) (j:=10) (a:=(ov:Int)) (b:=(ns.length:Int)) (se (lt_succ_of_le rS.2.2) (by decide)) (se (lt_succ_of_le iF) (by decide)) (by decide)) (hN)
  ·rw[yN]
   have hmul:ov*ns.length<=30:=aG (Nat.mul_le_mul rS.2.2 iF) (by decide)
   refine q _ _ ns ov (ov*ns.length+mo) ok iF rS.2.2 rS.2.1 (eV _ _) (cL (Nat.add_lt_add_of_le_of_lt hmul N8.2) (by decide)) (ext.trans ((aC.aT _ _).trans (aC.aT _ _))) (aG ext.len (aC.aT _ _).len) (bz _ _))
def yT(ps:List bb)(w:iw):Prop:=∃p,ps[w.fP]?=some p/\p.aZ<=w.day/\w.day<=100000/\∀d,p.bS=some d->w.day<=d
noncomputable def N9(ζ:Prop)(ps:List bb)(c:Int)(m l lf N:Nat)(H₁:Hp)(as:List Int)(ρ:bv)(H':Hp):Prop:=∀(o4 o5 o6 o7:Option V) (ws:List iw) (e:ρ=[some (.ref l),some (.int c),some (nv m),some (.ref lf),o4,o5,o6,o7]) (x:bO lf H₁ H') (a:H'[lf]?=some (.list (ws.map iX))) (ok:GS N ws) (wd:∀w∈ws,yT ps w) (len:ws.length+as.length<=m),ζ
def Hv:=λps c m l lf N H₁ as ρ H'=>∀ζ:Prop,N9 ζ ps c m l lf N H₁ as ρ H'->ζ
theorem Hv.mk{ps c m l lf N H₁ as ρ H'}:N9 (Hv ps c m l lf N H₁ as ρ H') ps c m l lf N H₁ as ρ H':=λx0 x1 x2 x3 x4 x5 x6 x7 x8 x9 dz ζ k=>k x0 x1 x2 x3 x4 x5 x6 x7 x8 x9 dz
noncomputable def Oa(ζ:Prop)(q:Rat)(eW:bv)(H:Hp)(tot as:List Nat)(acc:List V)(ρ:bv)(H':Hp):Prop:=∀(o o' tO:Option V) (an:List Nat) (e:ρ=o::o'::tO::eW) (eh:H'=H) (ea:acc=an.map λj=>nJ (j,q)) (t:an++as=tot),ζ
def Hw:=λq eW H tot as acc ρ H'=>∀ζ:Prop,Oa ζ q eW H tot as acc ρ H'->ζ
theorem Hw.mk{q eW H tot as acc ρ H'}:Oa (Hw q eW H tot as acc ρ H') q eW H tot as acc ρ H':=λx0 x1 x2 x3 x4 x5 x6 x7 ζ k=>k x0 x1 x2 x3 x4 x5 x6 x7
theorem yU{α:Type}{f:V->Option PyData}{g:α->V}{d:α->PyData}(h:∀a,f (g a)=some (d a)):∀l:List α,gp f (l.map g)=some (l.map d)
 |[]=>rfl
 |a::r=>gv (h a) (yU h r)
theorem ZQ(hW:fk ps)(hR:qU ps)(hA:H[l]?=some (.list (ps.map bW)))(h0:0<ps.length)(hm:m<=1000)(q:∀lw H' ws,GS ps.length ws->(∀w∈ws,yT ps w)->ws.length<=m->aC H H'->H.length<=lw->H'[lw]?=some (.list (ws.map iX))->Q (.ref lw) H'):aH (n+2) 40 [.ref l,.int c,nv m] H Q Y:=Xp (by
 refine ck (Bd (n:=n) hm λls H₂ xs wR Hh qW cN ax=>?_)
 have a0:=bz H (.list [])
 have l2:H.length<ls:=cL (bZ a0) qW
 refine aA (dU ax) (gq (Hv ps c m l H.length ps.length H₂) (λx as ρ H' h=>?_) (λρ H' h=>?_) _ _ _ (.mk none none none none [] rfl (bO.refl _ _) (cN _ _ a0) (λζ h=>(nomatch h)) (λζ h=>(nomatch h)) (by rw[length_nil,qj];exact iC wR)))
 ·refine h _ λo4 o5 o6 o7 ws e x' a ok wd len=>?_
  subst e
  refine λN hN=>?_
  rw[lF] at len
  have xH:aC H H':=x'.ext ((aC.aT _ _).trans cN) (bX _)
  have mS:=xH _ _ hA
  have st:∀{H''},bO H.length H₂ H''->fS [ls] H₂ H''=true:=λx=>dE ax (x _ _ (dm l2) ax)
  apply aA (cU mS)
  rw[bJ]
  refine aA (k8 (a:=x) (DI h0)) ((k7 x h0).elim λk hk=>?_)
  rw[hk.1]
  refine(at_of hk.2).elim λp hp=>?_
  apply aA (fY mS hp)
  refine ck (N7 (n:=n) mS h0 λlg H₃ ns ov un iF jg rS Ob l9 Oc c6 ζ ag=>?_)
  have no:∀{H''} {o4 o5 o6 o7},aC H' H''->N [some (.ref l),some (.int c),some (nv m),some (.ref H.length),o4,o5,o6,o7] H'':=λwN=>hN _ _ (st (x'.trans (wN.b _))) (.mk _ _ _ _ ws rfl (x'.trans (wN.b _)) (wN _ _ a) ok wd (pA len))
  have x4:=c6.trans (aC.aT H₃ [.list []])
  have Bk:=bu [.list []] ag
  apply aA (ne_nil Bk (yU (d:=λj:Nat=>PyData.tuple [.int j,.int ov,.int un]) (λj=>rfl) ns) (bz _ _))
  rw[sT]
  refine ir (λh1=>?_) λh1=>fL h1 (no x4)
  have fG:ns≠[]:=λe=>by rw[e] at h1;cases h1
  have hu:un≠0:=λe=>by have:1*1<=ov*ns.length:=Nat.mul_le_mul Ob (length_pos_iff.mpr fG);exact absurd (aG this l9) (by rw[e];decide)
  generalize H₃++[aI.list []]=H₄ at x4 Bk
  have a4:=x4 _ _ a
  have fin:∀{d:Int} (hd:0<=d/\yT ps ⟨k,d,ns.map λj=>(j,Rat.normalize ov un hu)⟩) {o4 o5 o6 o7} {H₅:Hp},aC H₄ H₅->oD .append (.ref H.length) [.aF [nv k,.int d,.aF (ns.map λj=>nJ (j,Rat.normalize ov un hu))]] H₅ (λζ H₆=>N [some (.ref l),some (.int c),some (nv m),some (.ref H.length),o4,o5,o6,o7] H₆):=λ{d} hd {_ _ _ _ H₅} x5=>by
   have a5:=x5 _ _ a4
   refine gg a5 (by rw[bJ];exact cG (aG (eV _ _) len) (cG hm (by decide))) ?_
   have x6:=(x'.trans ((x4.trans x5).b _)).trans (bO.set H.length H₅ (.list (ws.map iX++[.aF [nv k,.int d,.aF (ns.map λj=>nJ (j,Rat.normalize ov un hu))]])))
   refine hN _ _ (st x6) (.mk _ _ _ _ (ws++[⟨k,d,ns.map λj=>(j,Rat.normalize ov un hu)⟩]) rfl x6 (?_) (λw hw=>(cY.mp hw).elim (ok w) λh=>?_) (λw hw=>(cY.mp hw).elim (wd w) λh=>by rw[dI.mp h];exact hd.2) (by rw[b6];refine(?_:ws.length+1+as.length<=m);exact(by rw[add_right_comm];exact len)))
   ·rw[jO,d9 a5]
    refine(?_:_=some (aI.list (_++[iX ⟨k,d,_⟩])))
    unfold iX jX
    rw[map_map];rfl
   ·rw[dI.mp h]
    refine(.mk ⟨λg hg=>(ii.mp hg).elim λj hj=>hj.2▸⟨iF.1 j hj.1,Sm.tG hu (show(ov:Int).natAbs<2^10 from se (lt_succ_of_le rS) (by decide)) (show un<2^10 from jp Oc (by decide))⟩,by rw[bJ];exact jg⟩ hd.1 ns ov un hu rfl Ob Oc l9 ⟨iF.2.1,iF.2.2,fG⟩)
  have aF:∀{d:Int},0<=d/\yT ps ⟨k,d,ns.map λj=>(j,Rat.normalize ov un hu)⟩->aX ⟨aH (n+1),Y⟩ [.expr (.cR .append (.J 3) [(.aF [.J 5,.J 6,(.bi .tupleOf [(.comp 3 (.aF [.J 0,(.call 41 [.J 1,.J 2])]) (.aF [.J 0,.J 1,.J 2]) (.of (.J 7)) [])])])])] [some (.ref l),some (.int c),some (nv m),some (.ref H.length),some (.int x),some (nv k),some (.int d),some (.ref lg)] H₄ (λo=>mG o N False):=λ{d} hd=>by
   refine gf a4 (aA (dU Bk) (cZ (c8 (e7 jg)) (AP (g:=Ht ov un) (Hw (Rat.normalize ov un hu) [some (.ref l),some (.int c),some (nv m),some (.ref H.length),some (.int x),some (nv k),some (.int d),some (.ref lg)] H₄ ns) (λj as acc ρ H' h=>?_) (λacc ρ H' h=>?_) ns _ _ _ (.mk none none none [] rfl rfl rfl rfl))))
   ·refine h _ λo o' tO an e eh ea t=>?_
    subst e eh
    exact λN' mP=>ck (Mf hu (mP _ _ (dE Bk Bk) (.mk _ _ _ (an++[j]) rfl rfl (by rw[ea,jO];rfl) (iV t))))
   ·refine h _ λo o' tO an e eh ea t=>?_
    rw[fN] at t
    subst eh ea t
    exact aA (cU (bz _ _)) (fin hd (aC.aT _ _))
  have yV:0<=p.aZ+(x.fdiv 60).fmod 30:=Int.add_nonneg ((hW k p hp) _ λζ ζ ζ ζ z=>z) (r9 _ (by decide)).1
  have Zy:=r9 (x.fdiv 60) (b:=30) (by decide)
  have uP:p.aZ<=p.aZ+(x.fdiv 60).fmod 30:=by lia
  have Od:p.aZ+(x.fdiv 60).fmod 30<=100000:=by have:=(hR k p hp).2.1;lia
  apply aA (fY (x4 _ _ mS) hp)
  unfold bW
  cases hd:p.bS with
  |none=>exact aF ⟨yV,p,hp,uP,Od,λd h=>by rw[hd] at h;cases h⟩
  |some dd=>
   apply aA (fY (x4 _ _ mS) hp)
   unfold bW
   rw[hd]
   exact(dp (λh9=>aF ⟨yV,p,hp,uP,Od,λd h=>by rw[hd] at h;cases h;exact cu h9⟩) λζ=>no x4)
 ·refine h _ λo4 o5 o6 o7 ws e x' a ok wd len=>?_
  subst e
  exact q _ _ ws ok wd (aG (eV _ _) len) (x'.ext ((aC.aT _ _).trans cN) (bX _)) (bX _) a)
section
variable{K:Out->Prop}{r:List S}{t:d8}{a i E1 E2:E}{x y:V}{R:Bool->Hp->Prop}
theorem jB(h:Q (.ref H.length) (H++[.list vs])):oC vs H Q:=h
theorem g9{b c:List S}(h:vP C e ρ H λt H=>cD t (aX C b ρ H λo=>mG o (λρ H=>aX C r ρ H K) (K o)) (aX C c ρ H λo=>mG o (λρ H=>aX C r ρ H K) (K o))):aX C (.bD e b c::r) ρ H K:=h
theorem ky{op:pD}(h:WE C a ρ H λx H=>WE C i ρ H λy H=>aO (gP op x y H) λt=>R t H):vP C (.cmp op a i) ρ H R:=h
theorem vc(h:WE C a ρ H λx H=>aO (truthy H x) λb=>R b H):vP C a ρ H R:=h
theorem Oe(h:WE C E1 ρ H λx H=>aO (truthy H x) λb=>R (!b) H):vP C (.not E1) ρ H R:=h
theorem Hx(h:WE C E1 ρ H λx H=>aO (truthy H x) λb=>Q (.bool (!b)) H):WE C (.not E1) ρ H Q:=h
theorem k9{R:List V×List Nat->Hp->Prop}(h:WE C e ρ H λx H=>aO (keysOf H x) λvs=>R (vs,watch x) H):qE C (.of e) ρ H R:=h
theorem c9(h:WE C a ρ H λx H=>WE C i ρ H λy H=>aO (ik x y H) λv=>Q v H):WE C (.br a i) ρ H Q:=h
theorem Of{op:pD}(h:WE C a ρ H λx H=>WE C i ρ H λy H=>aO (gP op x y H) λt=>cD t (R true H) (R false H)):WT C [.cmp op a i] ρ H R:=h
theorem uH(h:K (.next ρ H)):aX C [] ρ H K:=h
theorem oV(h:WE C a ρ H λv H=>K (.ret v H)):aX C (.ret a::r) ρ H K:=h
theorem oW(h:WE C e ρ H λζ H=>aX C r ρ H K):aX C (.expr e::r) ρ H K:=h
theorem Og(h:WE C E1 ρ H λx H=>aO (truthy H x) λt=>cD (t==true) (WE C E2 ρ H Q) (Q x H)):WE C (.and [E1,E2]) ρ H Q:=h
theorem Hy(h:WE C E1 ρ H λx H=>aO (truthy H x) λt=>cD (t==false) (WE C E2 ρ H Q) (Q x H)):WE C (.or [E1,E2]) ρ H Q:=h
theorem nN{x y:E}(h:WE C x ρ H λu H=>WE C y ρ H λv H=>C.call f [u,v] H Q C.exc):WE C (.call f [x,y]) ρ H Q:=h
theorem Hz{x y z:E}(h:WE C x ρ H λu H=>WE C y ρ H λv H=>WE C z ρ H λw H=>C.call f [u,v,w] H Q C.exc):WE C (.call f [x,y,z]) ρ H Q:=h
theorem DJ(hj:ρ[j]?.join=some (.ref l))(h:H[l]?=some (.list vs))(q:Q (.int vs.length) H):WE C (.bi .len [.J j]) ρ H Q:=aA hj (aA (cU h) q)
theorem ZR(hj:ρ[j]?.join=some (.ref l))(hm:ρ[m]?.join=some v)(h:H[l]?=some (.list vs))(hs:vs.length<16000000)(k:aX C r ρ (H.set l (.list (vs++[v]))) K):aX C (.expr (.cR .append (.J j) [.J m])::r) ρ H K:=aA hj (gf h (aA hm (gg h hs k)))
end
noncomputable def yW:Option Int->PyData
 |none=>.none
 |some d=>.int d
noncomputable def tP(l:List Nat):PyData:=.tuple (l.map λi:Nat=>.int i)
noncomputable def yX:Option (Int×List Nat)->PyData
 |none=>.none
 |some a=>.tuple [.int a.1,tP a.2]
noncomputable def yY(p:bb):PyData:=.tuple [.int p.aZ,tP p.cf,yX p.ad,yW p.bS]
noncomputable def yZ(w:gh):PyData:=.tuple [.int w.a,.int w.b,.int w.day]
noncomputable def wU(g:Nat×Rat):PyData:=.tuple [.int g.1,k4 g.2]
noncomputable def y7(w:iw):PyData:=.tuple [.int w.fP,.int w.day,.tuple (w.dO.map wU)]
theorem wV{α:Type}{d:α->PyData}(h:∀a,PyData.eqv (d a) (d a)=true):∀l:List α,PyData.eqvAll (l.map d) (l.map d)=true
 |[]=>rfl
 |a::r=>by
  refine(?_:(PyData.eqv (d a) (d a)&&PyData.eqvAll _ _)=true)
  rw[h a,wV h r];rfl
theorem sg(i:Int):PyData.eqv (.int i) (.int i)=true:=hX i
theorem Oh(l:List Nat):PyData.eqv (tP l) (tP l)=true:=DC l
theorem ZS(a:Option (Int×List Nat)):PyData.eqv (yX a) (yX a)=true:=by
 cases a with
 |none=>rfl
 |some a=>
  refine(?_:(PyData.eqv (.int a.1) (.int a.1)&&(PyData.eqv (tP a.2) (tP a.2)&&true))=true)
  rw[sg,Oh];rfl
theorem ZT(a:Option Int):PyData.eqv (yW a) (yW a)=true:=by
 cases a with
 |none=>rfl
 |some a=>exact sg a
theorem ZU(p:bb):PyData.eqv (yY p) (yY p)=true:=by
 refine(?_:(PyData.eqv (.int p.aZ) (.int p.aZ)&&(PyData.eqv (tP p.cf) (tP p.cf)&&(PyData.eqv (yX p.ad) (yX p.ad)&&(PyData.eqv (yW p.bS) (yW p.bS)&&true))))=true)
 rw[sg,Oh,ZS,ZT];rfl
theorem ZV(w:gh):PyData.eqv (yZ w) (yZ w)=true:=by
 refine(?_:(PyData.eqv (.int w.a) (.int w.a)&&(PyData.eqv (.int w.b) (.int w.b)&&(PyData.eqv (.int w.day) (.int w.day)&&true)))=true)
 rw[sg,sg,sg];rfl
theorem ZW(g:Nat×Rat):PyData.eqv (wU g) (wU g)=true:=by
 refine(?_:(PyData.eqv (.int g.1) (.int g.1)&&(PyData.eqv (k4 g.2) (k4 g.2)&&true))=true)
 rw[sg,NC];rfl
theorem ZX(w:iw):PyData.eqv (y7 w) (y7 w)=true:=by
 refine(?_:(PyData.eqv (.int w.fP) (.int w.fP)&&(PyData.eqv (.int w.day) (.int w.day)&&(PyData.eqvAll (w.dO.map wU) (w.dO.map wU)&&true)))=true)
 rw[sg,sg,wV ZW];rfl
theorem Oi(ls:List Nat)(m:Nat):rd H (m+1) (.aF (aS ls))=some (tP ls):=b7 (Option.map PyData.tuple) (uU m ls)
theorem ZY(p:bb):rd H (m+3) (bW p)=some (yY p):=by
 refine b7 (Option.map PyData.tuple) (gv (uT _ _) (gv (Oi _ _) (gv (d:=yX p.ad) ?_ (gv (d:=yW p.bS) ?_ rfl))))
 ·cases p.ad with
  |none=>rfl
  |some a=>exact b7 (Option.map PyData.tuple) (gv (uT _ _) (gv (Oi _ _) rfl))
 ·cases p.bS<;>rfl
theorem ZZ(w:gh):rd H (m+2) (iH w)=some (yZ w):=rfl
theorem Z0(g:Nat×Rat):rd H (m+2) (nJ g)=some (wU g):=b7 (Option.map PyData.tuple) (gv (uT _ _) (gv (Dy _ _) rfl))
theorem Z1(gs:List (Nat×Rat)):rd H (m+3) (jX gs)=some (.tuple (gs.map wU)):=b7 (Option.map PyData.tuple) (yU Z0 gs)
theorem Z2(w:iw):rd H (m+4) (iX w)=some (y7 w):=b7 (Option.map PyData.tuple) (gv (uT _ _) (gv (uT _ _) (gv (Z1 w.dO) rfl)))
noncomputable def y8(r:cV):PyData:=.tuple [.list (r.ps.map yY),.list (r.ms.map yZ),.list (r.ws.map y7)]
theorem Z3(h:eX H r l lm lw):rd H 10 (.aF [.ref l,.ref lm,.ref lw])=some (y8 r):=h _ λa b c=>b7 (Option.map PyData.tuple) (gv (r6 a (yU ZY _)) (gv (r6 b (yU ZZ _)) (gv (r6 c (yU Z2 _)) rfl)))
def DK(r:cV):Prop:=qU r.ps/\Hn r.ps r.ms/\∀w∈r.ws,yT r.ps w
theorem Z4{b:Nat}{sv:V}(hs:∀H',aC H H'->mD H' sv=some (is.map .int))(hb:0<b)(qM:b<=20)(q:∀r l lm lw H',dC r->DK r->0<r.ps.length->r.ps.length<=b->r.ms.length<=60->r.ws.length<=60->eX H' r l lm lw->aC H H'->Q (.aF [.ref l,.ref lm,.ref lw]) H'):aH (n+4) 43 [sv,nv b] H Q Y:=Xr (by
 refine ck (uR (hs _ (aC.refl _)) (k:=0) ?_)
 have wG:=r9 (is.getD 0 0) (b:=(b:Int)) (kN.mpr hb)
 have hm:∃m:Nat,1+(is.getD 0 0).fmod b=(m:Int)/\0<m/\m<=20/\m<=b:=(Bc _ hb (bX b)).imp λm h=>⟨h.1,h.2.1,aG h.2.2 qM,h.2.2⟩
 refine hm.elim λm hm=>aU (v:=nv b) rfl (fD (k8 (b:=(b:Int)) (ne_of_gt (kN.mpr hb))) (fD (b7 some hm.1) (ck (uR (hs _ (aC.refl _)) (k:=1) (ck (Zu (n:=n+1) hm.2.2.1 λlp H₁ ps hl hW hR sf ζ Z5=>ck (uR (hs _ (sf)) (k:=2) (ck (Zx (n:=n+1) Z5 hW (hl▸hm.2.2.1) hR λla H₂ iz gX HA HB cN ζ nI=>?_)))))))))
 have h0:0<iz.length:=by rw[gX,hl];exact hm.2.1
 refine ck (uR (hs _ (sf.trans cN)) (k:=3) (ck (uR (hs _ (sf.trans cN)) (k:=0) ?_)))
 have Z6:=k7 ((is.getD 0 0).fdiv 12) (k:=13) (by decide)
 refine Z6.elim λm1 uQ=>bP (fD (yS (b:=12) (by decide)) (bP (fD ((k8 (b:=13) (by decide)).trans (b7 some uQ.1)) (ck (ZL (n:=n) HA HB nI h0 (aG (cW uQ.2) (by decide)) λlm H₃ ms Z7 Z8 Bm c6 ζ AZ=>ck (uR (hs _ ((sf.trans cN).trans c6)) (k:=4) (ck (uR (hs _ ((sf.trans cN).trans c6)) (k:=0) ?_))))))))
 have h9:=k7 ((is.getD 0 0).fdiv 156) (k:=9) (by decide)
 refine h9.elim λm2 AK=>bP (fD (yS (b:=156) (by decide)) (bP (fD ((k8 (b:=9) (by decide)).trans (b7 some AK.1)) (ck (ZQ (n:=n+1) HA HB (c6 _ _ nI) h0 (aG (cW AK.2) (by decide)) λlw H₄ ws Z9 hwd qO gu ζ tJ=>?_)))))
 exact q ⟨iz,ms,ws⟩ la lm lw H₄ (.mk HA (by refine(?_:iz.length<=20);rw[gX,hl];exact hm.2.2.1) Z7 Z9) ⟨HB,Z8,hwd⟩ h0 (by refine(?_:iz.length<=b);rw[gX,hl];exact hm.2.2.2) (aG Bm (aG (cW uQ.2) (by decide))) (aG qO (aG (cW AK.2) (by decide))) (.mk ((c6.trans gu) _ _ nI) (gu _ _ AZ) tJ) (sf.trans (cN.trans (c6.trans gu))))
def dZ(B:Nat)(H H':Hp):Prop:=∀(l:Nat) (c:aI),(l<B\/B+5<=l)->H[l]?=some c->H'[l]?=some c
theorem aC.cm(x:aC H H'):dZ B H H':=λl c ζ h=>x l c h
theorem dZ.refl(B:Nat)(H:Hp):dZ B H H:=λζ ζ ζ h=>h
theorem dZ.trans(a:dZ B H H₁)(b:dZ B H₁ H₂):dZ B H H₂:=λl c n h=>b l c n (a l c n h)
theorem dZ.set(H:Hp)(h1:B<=m)(h2:m<B+5)(c:aI):dZ B H (H.set m c):=λl c' n h=>dK h c λe=>by lia
def tQ(P:Nat->Prop)(H:Hp)(r:fM)(v:V):Prop:=∃l,P l/\v=.aF [Dx r.gr,rv r.part,.str r.how,.ref l]/\H[l]?=some (.list (aS r.line))
abbrev Ow(z:Nat->Prop)(B l:Nat):Prop:=B+5<=l/\¬z l
noncomputable def ib(r:cV)(j:Nat):List fM:=(r.ps[j]?.bind λp=>p.bS.map λd=>r8 r d j p).getD []
def ji(P:Nat->Prop)(H:Hp)(r:cV)(e:Int×V):Prop:=∃(j lr:Nat) (vs:List V),e.1=(j:Int)/\e.2=.ref lr/\P lr/\H[lr]?=some (.list vs)/\ct (tQ P H) (ib r j) vs/\(∀x∈ib r j,oQ x)/\(ib r j).length<=14000000
theorem ji.cm{P:Nat->Prop}{e:Int×V}(h:ji P H r e)(x:∀l c,P l->H[l]?=some c->H'[l]?=some c):ji P H' r e:=h.imp λj h=>h.imp λlr h=>h.imp λvs h=>⟨h.1,h.2.1,h.2.2.1,x _ _ h.2.2.1 h.2.2.2.1,h.2.2.2.2.1.imp λζ ζ q=>q.imp λl q=>⟨q.1,q.2.1,x _ _ q.1 q.2.2⟩,h.2.2.2.2.2⟩
theorem ji.wk{P P':Nat->Prop}{e:Int×V}(h:ji P H r e)(x:∀l,l<H.length->P l->P' l):ji P' H r e:=h.imp λj h=>h.imp λlr h=>h.imp λvs h=>⟨h.1,h.2.1,x _ (bZ h.2.2.2.1) h.2.2.1,h.2.2.2.1,h.2.2.2.2.1.imp λζ ζ q=>q.imp λl q=>⟨x _ (bZ q.2.2) q.1,q.2⟩,h.2.2.2.2.2⟩
noncomputable abbrev mU(B ld:Nat)(vf:V):bv:=[some (.ref (B+2)),some (.ref (B+3)),some (.ref (B+4)),some (.ref ld),some vf]
noncomputable def Oj(ζ:Prop)(z:Nat->Prop)(B:Nat)(H:Hp)(ro r:cV):Prop:=∀(ld ep:Nat) (vf:V) (es:List (Int×V)) (a0:H[B]?=some (.cC (mU B ld vf))) (a1:H[B+1]?=some (.obj B)) (ap:H[B+2]?=some (.list (r.ps.map bW))) (am:H[B+3]?=some (.list (r.ms.map iH))) (aw:H[B+4]?=some (.list (r.ws.map iX))) (ad:H[ld]?=some (.dict ep es)) (hd:B+5<=ld/\¬z ld/\∀l,z l->l<H.length) (de:∀e∈es,ji (Ow z B) H ro e) (dk:∀j:Nat,fy es (j:Int)=fq ro.ps j),ζ
def fB:=λz B H ro r=>∀ζ:Prop,Oj ζ z B H ro r->ζ
theorem fB.mk{z B H ro r}:Oj (fB z B H ro r) z B H ro r:=λx0 x1 x2 x3 x4 x5 x6 x7 x8 x9 dz fK eA ζ k=>k x0 x1 x2 x3 x4 x5 x6 x7 x8 x9 dz fK eA
theorem fB.ext{z:Nat->Prop}(b:fB z B H ro r)(x:aC H H'):fB z B H' ro r:=b _ λld ep vf es a0 a1 ap am aw ad hd de dk=>.mk ld ep vf es (x _ _ a0) (x _ _ a1) (x _ _ ap) (x _ _ am) (x _ _ aw) (x _ _ ad) ⟨hd.1,hd.2.1,λl h=>cL (hd.2.2 l h) x.len⟩ (λe he=>(de e he).cm λl c ζ h=>x l c h) dk
noncomputable def Ol(ζ:Prop)(z:Nat->Prop)(B:Nat)(H:Hp)(r:cV)(fr:List Nat):Prop:=∀(ld ep lf:Nat) (es:List (Int×V)) (a0:H[B]?=some (.cC (mU B ld (.ref lf)))) (a1:H[B+1]?=some (.obj B)) (ap:H[B+2]?=some (.list (r.ps.map bW))) (am:H[B+3]?=some (.list (r.ms.map iH))) (aw:H[B+4]?=some (.list (r.ws.map iX))) (ad:H[ld]?=some (.dict ep es)) (hd:B+5<=ld/\¬z ld/\∀l,z l->l<H.length) (de:∀e∈es,ji (Ow z B) H r e) (dk:∀j:Nat,fy es (j:Int)=fq r.ps j) (af:H[lf]?=some (.list (aS fr))) (hf:Ow z B lf),ζ
def cz:=λz B H r fr=>∀ζ:Prop,Ol ζ z B H r fr->ζ
theorem cz.mk{z B H r fr}:Ol (cz z B H r fr) z B H r fr:=λx0 x1 x2 x3 x4 x5 x6 x7 x8 x9 dz fK eA fZ jW ζ k=>k x0 x1 x2 x3 x4 x5 x6 x7 x8 x9 dz fK eA fZ jW
theorem cz.b{z:Nat->Prop}(b:cz z B H r fr):fB z B H r r:=b _ λld ep lf es a0 a1 ap am aw ad hd de dk ζ ζ=>.mk ld ep (.ref lf) es a0 a1 ap am aw ad hd de dk
theorem cz.ext{z:Nat->Prop}(b:cz z B H r fr)(x:aC H H'):cz z B H' r fr:=b _ λld ep lf es a0 a1 ap am aw ad hd de dk af hf=>.mk ld ep lf es (x _ _ a0) (x _ _ a1) (x _ _ ap) (x _ _ am) (x _ _ aw) (x _ _ ad) ⟨hd.1,hd.2.1,λl h=>cL (hd.2.2 l h) x.len⟩ (λe he=>(de e he).cm λl c ζ h=>x l c h) dk (x _ _ af) hf
section
variable{z:Nat->Prop}{A:Prop}
theorem gx{P:V->Prop}(a1:H[B+1]?=some (.obj B))(a0:H[B]?=some (.cC fs))(hi:fs[i]?.join=some v)(q:P v):aO (iQ H (.ref (B+1))) λt=>aO (rJ H t) λfs=>aO (fs[i]?.join) λv=>P v:=aA (b7 (Option.bind · uv) a1) (aA (b7 (Option.bind · uw) a0) (aA hi q))
theorem mc(a1:H[B+1]?=some (.obj B))(a0:H[B]?=some (.cC fs))(h:A):aO (iQ H (.ref (B+1))) λt=>aO (rJ H t) λζ=>A:=aA (b7 (Option.bind · uv) a1) (aA (b7 (Option.bind · uw) a0) h)
theorem HC{P:Nat->bv->Prop}(a1:H[B+1]?=some (.obj B))(a0:H[B]?=some (.cC fs))(h:P B fs):aO (iQ H (.ref (B+1))) λt=>aO (rJ H t) λfs=>P t fs:=aA (b7 (Option.bind · uv) a1) (aA (b7 (Option.bind · uw) a0) h)
noncomputable def sc:V->Bool
 |.none=>true
 |.bool _=>true
 |.int _=>true
 |.str s=>PyData.strOk s
 |_=>false
noncomputable def wh:V->Int->Int->Bool
 |.int i,lo,hi=>decide (lo<=i)&&decide (i<=hi)
 |_,_,_=>false
theorem tR(h:wh v lo hi=true):∃i,v=.int i/\lo<=i/\i<=hi:=by
 cases v with
 |int i=>exact⟨i,rfl,cu (iA.mp h).1,cu (iA.mp h).2⟩
 |_=>cases h
theorem wW(h:wh v 0 ((m:Int) - 1)=true):∃k:Nat,v=nv k/\k<m:=(tR h).elim λi hi=>⟨i.toNat,by rw[hi.1];exact b7 V.int (Int.toNat_of_nonneg hi.2.1).symm,by have:=hi.2;lia⟩
theorem wX(h:k<m):wh (nv k) 0 ((m:Int) - 1)=true:=iA.mpr ⟨dj (ni k),dj (by lia)⟩
theorem DL(hv:sc v=true)(q:Q (.bool (wh v lo hi)) H):aH (n+1) 22 [v,.int lo,.int hi] H Q Y:=Xb (by
 cases v with
 |int i=>
  have q:Q (.bool (decide (lo<=i)&&decide (i<=hi))) H:=q
  refine(dp (λh=>?_) λh=>?_:cD (decide (lo<=i)) (Q (.bool (decide (i<=hi))) H) (Q (.bool false) H))
  ·rw[h] at q;exact q
  ·rw[h] at q;exact q
 |aF _=>cases hv
 |ref _=>cases hv
 |i9=>cases hv
 |_=>exact q)
theorem ft(h:Y (.ref H.length) (H++[.exc k])):xq Y (.ref H.length) (H++[.exc k]):=⟨(b7 (λo=>isSome (Option.bind o pJ)) (bz H (.exc k))).trans rfl,h⟩
theorem wY(a1:H[B+1]?=some (.obj B))(a0:H[B]?=some (.cC fs))(hf:fs[0]?.join=some (.ref (B+2)))(ap:H[B+2]?=some (.list (ps.map bW)))(hv:sc v=true)(q:wh v 0 ((ps.length:Int) - 1)=true->Q .none H)(y:wh v 0 ((ps.length:Int) - 1)=false->Y (.ref H.length) (H++[.exc 0])):aH (n+2) 57 [.ref (B+1),v] H Q Y:=XE (by
 refine gx (i:=0) a1 a0 hf (aA (cU ap) ?_)
 rw[bJ]
 refine ck (DL hv ((?_:cD (!wh v 0 ((ps.length:Int) - 1)) _ _)))
 refine dp (λh=>ft (y (by rw[oj] at h;exact h))) λh=>q (by rw[um] at h;exact h))
theorem Bo(hv:sc v=true)(q:wh v 0 100000=true->Q .none H)(y:wh v 0 100000=false->Y (.ref H.length) (H++[.exc 1])):aH (n+2) 23 [v] H Q Y:=Xc (by
 refine ck (DL hv ((?_:cD (!wh v 0 100000) _ _)))
 refine dp (λh=>ft (y (by rw[oj] at h;exact h))) λh=>q (by rw[um] at h;exact h))
theorem ints_map:∀is:List Int,allInts (is.map .int)=some is
 |[]=>rfl
 |a::r=>by
  refine(?_:(allInts (r.map .int)).map (a::·)=_)
  rw[ints_map r];rfl
theorem aab(h:H[l]?=some (.list (is.map .int)))(hl:is.length<=1000)(q:∀t,(t=false↔is.Nodup)->Q (.bool t) H):aH (n+1) 24 [.ref l] H Q Y:=Xd (by
 have e:nB H (.ref l)=some is:=(b7 (Option.bind · allInts) (cU h)).trans (ints_map is)
 refine aA e (⟨hl,λm hm=>(aA (cU h) ?_)⟩)
 rw[bJ]
 refine(q _ ?_:Q (.bool (!((m:Int)==(is.length:Int)))) H)
 rw[<-hm,um,beq_iff_eq]
 exact⟨om,b7 _⟩)
end
theorem Bp{α:Type}{g:α->V}{ws:List Nat}{H₀ H:Hp}{t:d8}{K:Out->Prop}{body:bv->Hp->(Out->Prop)->Prop}{ok:α->Bool}{R:bv->Prop}{as:List α}(st:fS ws H₀ H=true)
  (step:∀a,a∈as->∀ρ,R ρ->aO (aY t (g a) ρ) λcg=>∀N:bv->Hp->Prop,(ok a=true->∀gW,R gW->N gW H)->body cg H (qD K N)) (fin:as.all ok=true->∀ρ,R ρ->K (.next ρ H)) {ρ:bv} (h:R ρ):pL ws H₀ t body (as.map g) ρ H K:=by
 refine gq (λbs ρ H'=>H'=H/\R ρ/\∃pre,pre++bs=as/\pre.all ok=true) (λa bs ρ H' hI=>?_) (λρ H' hI=>?_) as ρ H ⟨rfl,h,[],rfl,rfl⟩
 ·obtain⟨rfl,hr,pre,e,hp⟩:=hI
  exact wC (step a (e▸cY.mpr (.inr dD)) ρ hr) λcg hb N hN=>hb N λjC gW iq=>hN _ _ st ⟨rfl,iq,pre++[a],by rw[mA];exact e,by rw[all_append,hp,all_cons,jC];rfl⟩
 ·obtain⟨rfl,hr,pre,e,hp⟩:=hI
  rw[fN] at e
  exact fin (e▸hp) ρ hr
section
variable{z:Nat->Prop}{A:Prop}
noncomputable def cc(ps:List bb):List Nat:=(List.range ps.length).filter (fq ps)
theorem Om(h:k∈cc ps):∃p d,ps[k]?=some p/\p.bS=some d:=by
 have h:=nq.mp h
 refine(at_of (i8.mp h.1)).elim λp hp=>?_
 have h2:=h.2
 unfold fq at h2
 rw[hp] at h2
 exact(uk.mp h2).elim λd hd=>⟨p,d,hp,hd⟩
theorem HD(a1:H[B+1]?=some (.obj B))(a0:H[B]?=some (.cC fs))(hf:fs[0]?.join=some (.ref (B+2)))(ap:H[B+2]?=some (.list (ps.map bW)))(hl:ps.length<=60)(q:Q (.ref H.length) (H++[.list (aS (cc ps))])):aH (n+1) 69 [.ref (B+1)] H Q Y:=XR (by
 refine gx (i:=0) a1 a0 hf (aA (cU ap) ?_)
 rw[bJ]
 refine pT (cG hl (by decide)) (cZ (c8 (by rw[bJ,jI];exact cG hl (by decide))) (mj (P:=fq ps) (F:=nv) _ _ _ (λa ha T hT=>((at_of (i8.mp ha)).elim λp hp=>(gx (i:=0) a1 a0 hf (aA (fY ap hp) ?_):aO (iQ H (.ref (B+1))) _))) (λa ζ ζ N hN=>hN) q))
 unfold fq at hT
 rw[hp] at hT
 have hT:T p.bS.isSome H:=hT
 unfold bW
 cases hd:p.bS with
 |none=>rw[hd] at hT;exact hT
 |some d=>rw[hd] at hT;exact hT)
noncomputable def mV:Option Nat->PyData
 |none=>.none
 |some k=>.int k
noncomputable def mq(r:fM):PyData:=.tuple [mV r.gr,k4 r.part,.str r.how,GW r.line]
theorem aac{P:Nat->Prop}{r:fM}(h:tQ P H r v)(ok:oQ r):rd H 9 v=some (mq r):=h.elim λl h=>by
 rw[h.2.1]
 refine b7 (Option.map PyData.tuple) (gv (d:=mV r.gr) ?_ (gv (Dy _ _) (gv (d:=.str r.how) (show rd H 8 (.str r.how)=some (.str r.how) from bQ ok.1) (gv (GX h.2.2) rfl))))
 cases r.gr<;>rfl
theorem aad{P:Nat->Prop}{rs:List fM}(h:ct (tQ P H) rs vs)(ok:∀x∈rs,oQ x):gp (rd H 9) vs=some (rs.map mq):=h.rec (motive:=λrs vs ζ=>(∀x∈rs,oQ x)->gp (rd H 9) vs=some (rs.map mq)) (λζ=>rfl) (λh ζ ih ok=>gv (aac h (ok _ dD)) (ih λx hx=>ok x (.tail _ hx))) ok
noncomputable def Bq(a b:List fM):Bool:=!PyData.eqvAll (a.map mq) (b.map mq)
def gb(P:Nat->Prop)(H:Hp)(rs:List fM)(v:V):Prop:=∃(lr:Nat) (vs:List V),v=.ref lr/\P lr/\H[lr]?=some (.list vs)/\ct (tQ P H) rs vs/\(∀x∈rs,oQ x)/\rs.length<=14000000
theorem ji.DM{P:Nat->Prop}{e:Int×V}(h:ji P H r e)(hj:e.1=(j:Int)):gb P H (ib r j) e.2:=by
 obtain⟨i,lr,vs,e1,e2,h⟩:=h
 have:i=j:=om (e1.symm.trans hj)
 subst this
 exact⟨lr,vs,e2,h⟩
theorem gb.rd{P:Nat->Prop}(h:gb P H rs v):Mine.rd H 10 v=some (.list (rs.map mq))/\mF H v=none:=by
 obtain⟨lr,vs,rfl,_,a,hr,ok,_⟩:=h
 exact⟨r6 a (aad hr ok),none_list a⟩
theorem Oo{P P':Nat->Prop}{a b:List fM}(h:gb P H a v)(h':gb P' H b u):gP .ne v u H=some (Bq a b):=by
 refine(?_:(kQ H v u).map (!·)=_)
 unfold kQ
 rw[h.rd.2,h.rd.1,h'.rd.1];rfl
theorem Br{es:List (Int×V)}{k:Int}(h:fy es k=true):∃e,e∈es/\fO es k=some e.2/\e.1=k:=by
 unfold fy at h
 unfold fO
 cases hf:es.find? (λp=>decide (p.1=k)) with
 |none=>
  obtain⟨e,he,h2⟩:=rE.mp h
  exact absurd h2 (List.find?_eq_none.mp hf e he)
 |some e=>exact⟨e,List.mem_of_find?_eq_some hf,rfl,cu (List.find?_some (p:=λp:Int×V=>decide (p.1=k)) hf)⟩
noncomputable def nO(ro r:cV)(k:Nat):Bool:=!fq ro.ps k||Bq (ib ro k) (ib r k)
noncomputable def jv(ro r:cV):List Nat:=(cc r.ps).filter (nO ro r)
theorem DN{es:List (Int×V)}(h:H[l]?=some (.dict ep es)):j6 H (.ref l)=some es:=b7 (Option.bind · jQ) h
theorem DO{es:List (Int×V)}{k:Int}{P:Int×V->Prop}(h:∀e∈es,P e)(hv:P (k,v)):∀e∈dput es k v,P e:=by
 unfold dput
 split
 ·exact λe he=>(ii.mp he).elim λx hx=>by
   rw[<-hx.2]
   split
   ·rename_i e1;rw[e1];exact hv
   ·exact h x hx.1
 ·exact λe he=>(cY.mp he).elim (h e) λhe=>by rw[dI.mp he];exact hv
theorem DP(es:List (Int×V))(k:Int)(v:V):(dput es k v).length<=es.length+1:=by
 unfold dput
 split
 ·rw[bJ];exact kO _
 ·rw[b6];exact bX _
end
theorem Oq{es:List (Int×V)}{k j:Int}:fy (dput es k v) j=(decide (k=j)||fy es j):=by
 unfold dput
 split
 ·rename_i h
  have e:fy (es.map λp=>if p.1=k then(p.1,v) else p) j=fy es j:=by
   unfold fy
   rw[List.any_map]
   refine b7 (List.any es) (funext λp=>(?_:decide ((if p.1=k then(p.1,v) else p).1=j)=_))
   split<;>rfl
  rw[e]
  by_cases hk:k=j
  ·subst hk
   rw[dj rfl,Bool.true_or];exact h
  ·rw[gE hk,rF]
 ·unfold fy
  rw[List.any_append,any_cons,List.any_nil,Bool.or_false,Bool.or_comm]
theorem DQ:decide (j∈cc ps)=fq ps j:=by
 unfold cc
 cases h:fq ps j with
 |false=>exact gE λhm=>by have:=(nq.mp hm).2;rw[h] at this;cases this
 |true=>
  refine dj (nq.mpr ⟨i8.mpr ?_,h⟩)
  unfold fq at h
  cases hp:ps[j]? with
  |none=>rw[hp] at h;cases h
  |some p=>exact(d7.mp hp).1
section
variable{z:Nat->Prop}{K:Out->Prop}
theorem Ot{es:List (Int×V)}(h:H[l]?=some (.dict ep es)):vM H (nv k) (.ref l)=some (fy es (k:Int)):=by
 refine(?_:(match j6 H (.ref l) with|some es=>(intOf (nv k)).map λk=>fy es k|none=>_)=_)
 rw[DN h];rfl
theorem vg{es:List (Int×V)}(h:H[l]?=some (.dict ep es))(hg:fO es (k:Int)=some v):ik (.ref l) (nv k) H=some v:=by
 have e:dJ H (.ref l)=none:=by
  refine(?_:H[l]?.bind uu=none)
  rw[h];rfl
 refine(?_:(match dJ H (.ref l) with|some vs=>_|none=>(j6 H (.ref l)).bind λes=>fO es (k:Int))=_)
 rw[e,DN h];exact hg
def Pd(z:Nat->Prop)(B lf:Nat)(l:Nat):Prop:=B+5<=l/\l≠lf/\l≠lf+1/\¬z l
def nP(lh lt:Nat)(H H':Hp):Prop:=∀(l:Nat) (c:aI),l≠lh->l≠lt->H[l]?=some c->H'[l]?=some c
noncomputable abbrev dP(l lm lw:Nat):V:=.aF [.ref l,.ref lm,.ref lw]
theorem HE(ok:dC r)(at':eX H r l lm lw)(hk:k∈cc r.ps)(q:∀v H',aC H H'->gb (H.length<=·) H' (ib r k) v->Q v H'):aH (n+67) 21 [dP l lm lw,nv k] H Q Y:=by
 obtain⟨p,d,hp,pP⟩:=Om hk
 refine Y6 (n:=n) ok at' hp pP λdok dlen lr vs H₂ oN cN ar dr=>q _ H₂ cN ?_
 have Ou:ib r k=r8 r d k p:=by unfold ib;rw[hp];refine(?_:(p.bS.map λd=>r8 r d k p).getD []=_);rw[pP];rfl
 rw[Ou]
 exact⟨lr,vs,rfl,oN,ar,dr.imp λζ ζ z=>z _ λl hb hn e a=>⟨l,hb,e,a⟩,dok,dlen⟩
theorem gb.toV{P:Nat->Prop}(h:gb P H (ib r k) v):ji P H r ((k:Int),v):=
  h.elim λlr h=>h.elim λvs h=>⟨k,lr,vs,rfl,h⟩
theorem HF{j:Nat}{es:List (Int×V)}(kk:∀j:Nat,fy es (j:Int)=decide (j∈pre)):fy (dput es (k:Int) v) (j:Int)=decide (j∈pre++[k]):=by
 rw[Oq,kk]
 by_cases hj:k=j
 ·subst hj
  rw[dj rfl,Bool.true_or]
  exact(dj (cY.mpr (.inr (dI.mpr rfl)))).symm
 ·rw[show decide ((k:Int)=(j:Int))=false from gE (λe=>hj (om e)),rF]
  exact xC.mpr ⟨λh=>cY.mpr (.inl h),λh=>(cY.mp h).elim id λh=>absurd (dI.mp h).symm hj⟩
noncomputable def jz(r r':cV)(k:Nat):List Nat:=if nO r r' k then[k] else[]
theorem Ov:(pre++[k]).filter (nO r r')=pre.filter (nO r r')++jz r r' k:=by rw[List.filter_append,filter_cons,filter_nil];rfl
theorem y9(hl:ps.length<=60):(cc ps).length<=60:=aG (oo _ _) (by rw[jI];exact hl)
theorem HG(tt:pre++as=cc ps)(hl:ps.length<=60):pre.length<=60:=aG (show pre.length<=(cc ps).length by rw[<-tt,b6];exact eV _ _) (y9 hl)
noncomputable def Ox(ζ:Prop)(z:Nat->Prop)(B lf lc ld:Nat)(ro r:cV)(H₀:Hp)(as:List Nat)(ρ:bv)(H':Hp):Prop:=∀(o2 o3:Option V) (tF ep:Nat) (lQ es:List (Int×V)) (pre:List Nat) (e:ρ=[some (.ref (B+1)),some (.ref (lf+1)),o2,o3]) (x:dZ B H₀ H') (a0:H'[B]?=some (.cC (mU B ld (.ref lf)))) (a1:H'[B+1]?=some (.obj B)) (at':eX H' r (B+2) (B+3) (B+4)) (ad:H'[ld]?=some (.dict tF lQ)) (de:∀e∈lQ,ji (Pd z B lf) H' ro e) (k0:∀j:Nat,fy lQ (j:Int)=fq ro.ps j) (af:H'[lf]?=some (.list (aS (pre.filter (nO ro r))))) (an:H'[lf+1]?=some (.dict ep es)) (dn:∀e∈es,ji (Pd z B lf) H' r e) (ac:H'[lc]?=some (.list (aS (cc r.ps)))) (tt:pre++as=cc r.ps) (kk:∀j:Nat,fy es (j:Int)=decide (j∈pre)) (kA:es.length<=pre.length),ζ
def HH:=λz B lf lc ld ro r H₀ as ρ H'=>∀ζ:Prop,Ox ζ z B lf lc ld ro r H₀ as ρ H'->ζ
theorem HH.mk{z B lf lc ld ro r H₀ as ρ H'}:Ox (HH z B lf lc ld ro r H₀ as ρ H') z B lf lc ld ro r H₀ as ρ H':=λx0 x1 x2 x3 x4 x5 x6 x7 x8 x9 dz fK eA fZ jW ku qQ wM A2 A3 A4 A5 ζ k=>k x0 x1 x2 x3 x4 x5 x6 x7 x8 x9 dz fK eA fZ jW ku qQ wM A2 A3 A4 A5
noncomputable abbrev Oy:S:=.bD (.or [(.cmp .jP (.J 2) (.attr (.J 0) 3)),(.cmp .ne (.br (.attr (.J 0) 3) (.J 2)) (.J 3))]) [.expr (.cR .append (.attr (.J 0) 4) [.J 2])] []
theorem aae{C:Ct}{ld lf k tF:Nat}{lQ:List (Int×V)}{fr:List Nat}{v:V}{ρ:bv}(hρ:ρ=[some (.ref (B+1)),some (.ref (lf+1)),some (nv k),some v])(a0:H[B]?=some (.cC (mU B ld (.ref lf))))(a1:H[B+1]?=some (.obj B))(ad:H[ld]?=some (.dict tF lQ))(de:∀e∈lQ,ji (Pd z B lf) H ro e)(k0:∀j:Nat,fy lQ (j:Int)=fq ro.ps j)(hv:gb (Pd z B lf) H (ib r k) v)(af:H[lf]?=some (.list (aS fr)))(hl:fr.length<=60)
  (h1:nO ro r k=false->aX C rest ρ H K) (h2:nO ro r k=true->aX C rest ρ (H.set lf (.list (aS (fr++[k])))) K):aX C (Oy::rest) ρ H K:=by
 subst hρ
 have yes:nO ro r k=true->aX C [.expr (.cR .append (.attr (.J 0) 4) [.J 2])] [some (.ref (B+1)),some (.ref (lf+1)),some (nv k),some v] H (λo=>mG o (λρ H=>aX C rest ρ H K) (K o)):=λhf=>by
  have h2:=h2 hf
  refine gx (i:=4) a1 a0 rfl (gf af (gg af (e7 hl) ?_))
  rw[<-uV] at h2
  exact h2
 refine gx (i:=3) a1 a0 rfl ?_
 have e1:gP .jP (nv k) (.ref ld) H=some (!fy lQ (k:Int)):=b7 (Option.map (!·)) (Ot ad)
 refine aA e1 ((?_:cD ((!fy lQ (k:Int))==false) _ _))
 have ek:=k0 k
 refine mM (λh=>?_) λh=>ia h (yes (by unfold nO;rw[<-ek,h];rfl))
 rw[um] at h
 obtain⟨e,he,hg,hk⟩:=Br h
 refine gx (i:=3) a1 a0 rfl ?_
 apply aA (vg ad hg)
 apply aA (Oo ((de e he).DM hk) hv)
 have ef:nO ro r k=Bq (ib ro k) (ib r k):=by unfold nO;rw[<-ek,h];rfl
 exact dp (λh=>yes (ef.trans h)) λh=>h1 (ef.trans h)
theorem vh:B≠B+(k+1):=dq (xP (succ_pos _))
noncomputable abbrev td1:S:=.aY (.J 3) (.call 21 [(.aF [(.attr (.J 0) 0),(.attr (.J 0) 1),(.attr (.J 0) 2)]),.J 2])
noncomputable abbrev Oz:S:=.ij (.J 1) (.J 2) (.J 3)
theorem aah{lQ es:List (Int×V)}(hC:C.call=aH (n+67))(a0:H[B]?=some (.cC (mU B ld (.ref lf))))(a1:H[B+1]?=some (.obj B))(at':eX H r (B+2) (B+3) (B+4))(ad:H[ld]?=some (.dict tF lQ))(de:∀e∈lQ,ji (Pd z B lf) H ro e)(k0:∀j:Nat,fy lQ (j:Int)=fq ro.ps j)(af:H[lf]?=some (.list (aS fr)))(hl:fr.length<=60)(an:H[lf+1]?=some (.dict ep es))(pZ:es.length<=60)(ok:dC r)(hk:k∈cc r.ps)(hz:∀l,H.length<=l->Pd z B lf l)(h:∀fF v H',nP lf (lf+1) H H'->H'[lf]?=some (.list (aS (fr++jz ro r k)))->H'[lf+1]?=some (.dict fF (dput es (k:Int) v))->gb (Pd z B lf) H' (ib r k) v->aX C rest [some (.ref (B+1)),some (.ref (lf+1)),some (nv k),some v] H' K):aX C (td1::Oy::Oz::rest) [some (.ref (B+1)),some (.ref (lf+1)),some (nv k),o3] H K:=by
 refine gx (i:=0) a1 a0 rfl (gx (i:=1) a1 a0 rfl (gx (i:=2) a1 a0 rfl ((?_:C.call 21 [.aF [.ref (B+2),.ref (B+3),.ref (B+4)],nv k] H _ _))))
 rw[hC]
 refine HE (n:=n) ok at' hk λv H2 x2 hd=>?_
 have hv:gb (Pd z B lf) H2 (ib r k) v:=hd.imp λlr h=>h.imp λvs h=>⟨h.1,hz _ h.2.1,h.2.2.1,h.2.2.2.1.imp λζ ζ q=>q.imp λl q=>⟨hz _ q.1,q.2⟩,h.2.2.2.2⟩
 have put:∀{H3:Hp},(∀l c,l≠lf->H2[l]?=some c->H3[l]?=some c)->H3[lf]?=some (.list (aS (fr++jz ro r k)))->aX C (Oz::rest) [some (.ref (B+1)),some (.ref (lf+1)),some (nv k),some v] H3 K:=λ{H3} x3 HI=>by
  have DR:=x3 _ _ (uj _) (x2 _ _ an)
  exact aA DR (cZ (c8 (cG pZ (by decide))) λfF=>h fF v _ (λl c h1 h2 a=>dK (x3 l c h1 (x2 _ _ a)) _ (gS h2)) (dK HI _ (uj _)) (d9 DR _) (hv.imp λlr h=>h.imp λvs h=>⟨h.1,h.2.1,dK (x3 _ _ h.2.1.2.1 h.2.2.1) _ (gS h.2.1.2.2.1),h.2.2.2.1.imp λζ ζ q=>q.imp λl q=>⟨q.1,q.2.1,dK (x3 _ _ q.1.2.1 q.2.2) _ (gS q.1.2.2.1)⟩,h.2.2.2.2⟩))
 unfold jz at put
 refine aae (ro:=ro) (r:=r) rfl (x2 _ _ a0) (x2 _ _ a1) (x2 _ _ ad) (λe he=>(de e he).cm λl c ζ a=>x2 l c a) k0 hv (x2 _ _ af) hl (λhf=>put (λl c ζ a=>a) ?_) λhf=>put (λl c hn a=>dK a _ (gS hn)) ?_
 ·rw[hf,bH gM,fN];exact x2 _ _ af
 ·rw[hf,bQ rfl];exact d9 (x2 _ _ af) _
theorem Bs(hl:r.ps.length<=60)(hr:cc r.ps=[]\/dC r)(b:fB z B H ro r)(q:∀H',dZ B H H'->cz z B H' r (jv ro r)->Q .none H'):aH (n+68) 59 [.ref (B+1)] H Q Y:=XG (b _ λld ep vf es a0 a1 ap am aw ad hd de dk=>by
 have hB:B+5<=H.length:=aG hd.1 (cW (bZ ad))
 refine HC (bu _ a1) (bu _ a0) ?_
 have eR:((H++[aI.list []]).set B (.cC ((mU B ld vf).set 4 (some (.ref H.length))))).length=H.length+1:=by rw[gR,b6];rfl
 have x1:dZ B H ((H++[aI.list []]).set B (.cC ((mU B ld vf).set 4 (some (.ref H.length))))):=(aC.aT _ _).cm.trans (dZ.set _ (bX _) (xP (by decide)) _)
 have b0:((H++[aI.list []]).set B (.cC ((mU B ld vf).set 4 (some (.ref H.length)))))[B]?=some (.cC (mU B ld (.ref H.length))):=d9 (bu _ a0) _
 have ne:∀{l c},B≠l->H[l]?=some c->((H++[aI.list []]).set B (.cC ((mU B ld vf).set 4 (some (.ref H.length)))))[l]?=some c:=λhn h=>dK (bu _ h) _ hn
 have bf:((H++[aI.list []]).set B (.cC ((mU B ld vf).set 4 (some (.ref H.length)))))[H.length]?=some (.list (aS [])):=dK (bz _ _) _ (dq (bZ a0))
 have b1:=ne vh a1
 have bp:=ne vh ap
 have bm:=ne vh am
 have bw:=ne vh aw
 have bd:=ne (dq (cL (xP (by decide)) hd.1)) ad
 have hde:∀e∈es,ji (Pd z B H.length) ((H++[aI.list []]).set B (.cC ((mU B ld vf).set 4 (some (.ref H.length))))) ro e:=λe he=>((de e he).wk (P':=λl=>Pd z B H.length l/\l<H.length) λl hl h=>⟨⟨h.1,dq hl,dq (lG hl),h.2⟩,hl⟩).cm (λl c h a=>x1 l c (.inr h.1.1) a) |>.wk λl ζ h=>h.1
 generalize ((H++[aI.list []]).set B (.cC ((mU B ld vf).set 4 (some (.ref H.length)))))=H1 at *
 refine mc (bu _ b1) (bu _ b0) (ck (HD (n:=n+66) (bu _ b1) (bu _ b0) rfl (bu _ bp) hl ?_))
 have x2:aC H1 (H1++[aI.dict 0 []]++[aI.list (aS (cc r.ps))]):=(aC.aT _ _).trans (aC.aT _ _)
 have bn:(H1++[aI.dict 0 []]++[aI.list (aS (cc r.ps))])[H.length+1]?=some (.dict 0 []):=bu _ (eR▸bz _ _)
 have bc:=bz (H1++[aI.dict 0 []]) (.list (aS (cc r.ps)))
 have HJ:(H1++[aI.dict 0 []]).length=H.length+2:=by rw[b6,eR];rfl
 have Ou:(cc r.ps).length<=60:=aG (oo _ _) (by rw[jI];exact hl)
 rw[HJ] at bc ⊢
 rw[eR]
 generalize H1++[aI.dict 0 []]++[aI.list (aS (cc r.ps))]=H2 at *
 apply aA (dU bc)
 have za:=bZ ad
 refine gq (HH z B H.length (H.length+2) ld ro r H) (λk as ρ H' h=>h _ λo2 o3 tF ep lQ es pre e x a0 a1 at' ad de k0 af an dn ac tt kk kA=>?_) (λρ H' h=>h _ λo2 o3 tF ep lQ es pre e x a0 a1 at' ad de k0 af an dn ac tt kk kA=>?_) _ _ _ (.mk none none ep 0 es [] [] rfl (x1.trans x2.cm) (x2 _ _ b0) (x2 _ _ b1) (.mk (x2 _ _ bp) (x2 _ _ bm) (x2 _ _ bw)) (x2 _ _ bd) (λe he=>(hde e he).cm λl c ζ a=>x2 l c a) dk (x2 _ _ bf) bn (λζ h=>(nomatch h)) bc rfl (λj=>(gE sS).symm) (bX _))
 ·subst e
  refine λN hN=>?_
  have hk:k∈cc r.ps:=tt▸cY.mpr (.inr dD)
  have pl:=HG tt hl
  have hH:H.length+2<H'.length:=bZ ac
  have up:∀{l:Nat},H'.length<=l->H.length+2<l:=λh=>cL hH h
  have lo:∀{l:Nat} {c:aI} {H3:Hp},nP H.length (H.length+1) H' H3->l<H.length->H'[l]?=some c->H3[l]?=some c:=λx3 hl a=>x3 _ _ (dq hl) (dq (lG hl)) a
  have five:∀{i:Nat},i<5->B+i<H.length:=λh=>cL (Nat.add_lt_add_left h B) hB
  refine(aah (n:=n) (C:=⟨aH (n+67),xq (xq Y)⟩) rfl a0 a1 at' ad de k0 af (aG (oo _ _) pl) an (aG kA pl) (hr.resolve_left λe=>by rw[e] at hk;cases hk) hk (λl h=>⟨aG hB (cW (pz (pz (up h)))),dm (pz (pz (up h))),dm (pz (up h)),λq=>absurd (hd.2.2 _ q) (fv.mpr (cW (pz (pz (up h)))))⟩) λfF v H3 x3 HI DR hv=>?_)
  have OA:=x3 _ _ (dm (lG (jH _))) (dm (jH _)) ac
  have dV:∀{rr e},ji (Pd z B H.length) H' rr e->ji (Pd z B H.length) H3 rr e:=λh=>h.cm λl c hl a=>x3 l c hl.2.1 hl.2.2.1 a
  exact hN _ _ (dE bc OA) (.mk _ _ tF fF lQ _ (pre++[k]) rfl (λl c hn a=>lo x3 (bZ a) (x l c hn a)) (lo x3 (five (i:=0) (by decide)) a0) (lo x3 (five (by decide)) a1) (at' _ λz1 z2 z3=>.mk (lo x3 (five (by decide)) z1) (lo x3 (five (by decide)) z2) (lo x3 (five (by decide)) z3)) (lo x3 za ad) (λe he=>dV (de e he)) k0 (Ov▸HI) DR (DO (λe he=>dV (dn e he)) hv.toV) OA (iV tt) (λj=>HF kk) (by rw[b6];exact aG (DP es (k:Int) v) (jG kA)))
 ·subst e
  refine HC a1 a0 ?_
  have un:∀{l c},B≠l->H'[l]?=some c->(H'.set B (.cC (mU B (H.length+1) (.ref H.length))))[l]?=some c:=λh1 h=>dK h _ h1
  have xx:dZ B H' (H'.set B (.cC (mU B (H.length+1) (.ref H.length)))):=dZ.set _ (bX _) (xP (by decide)) _
  rw[fN] at tt
  rw[tt] at af
  have bl:B<H.length:=cL (xP (by decide)) hB
  have z1:¬z H.length:=λq=>absurd (hd.2.2 _ q) (lt_irrefl _)
  have z2:¬z (H.length+1):=λq=>absurd (hd.2.2 _ q) (fv.mpr (kO _))
  exact q _ (x.trans xx) (at' _ λy1 y2 y3=>.mk (H.length+1) ep H.length es (d9 a0 _) (un vh a1) (un vh y1) (un vh y2) (un vh y3) (un (dq (lG bl)) an) ⟨vE hB,z2,λl q=>by rw[gR];exact jp (hd.2.2 l q) (pz (bZ an))⟩ (λe he=>((dn e he).cm λl c hl a=>xx l c (.inr hl.1) a).wk λl ζ h=>⟨h.1,h.2.2.2⟩) (λj=>by rw[kk,<-DQ,tt]) (un (dq bl) af) ⟨hB,z1⟩))
end
section
variable{z:Nat->Prop}{K:Out->Prop}
theorem fB.put(b:fB z B H ro r)(ps:List bb):dZ B H (H.set (B+2) (.list (ps.map bW)))/\fB z B (H.set (B+2) (.list (ps.map bW))) ro ⟨ps,r.ms,r.ws⟩:=b _ λld ep vf es a0 a1 ap am aw ad hd de dk=>by
 have xx:dZ B H (H.set (B+2) (.list (ps.map bW))):=dZ.set _ (by lia) (by lia) _
 have ne:∀{l c},B+2≠l->H[l]?=some c->(H.set (B+2) (.list (ps.map bW)))[l]?=some c:=λhn h=>dK h _ hn
 exact⟨xx,.mk ld ep vf es (ne (by lia) a0) (ne (by lia) a1) (d9 ap _) (ne (by lia) am) (ne (by lia) aw) (ne (by lia) ad) ⟨hd.1,hd.2.1,λl h=>by rw[gR];exact hd.2.2 l h⟩ (λe he=>(de e he).cm λl c hl a=>xx l c (.inr hl.1) a) dk⟩
theorem fB.aaj(b:fB z B H ro r)(ms:List gh):dZ B H (H.set (B+3) (.list (ms.map iH)))/\fB z B (H.set (B+3) (.list (ms.map iH))) ro ⟨r.ps,ms,r.ws⟩:=b _ λld ep vf es a0 a1 ap am aw ad hd de dk=>by
 have xx:dZ B H (H.set (B+3) (.list (ms.map iH))):=dZ.set _ (by lia) (by lia) _
 have ne:∀{l c},B+3≠l->H[l]?=some c->(H.set (B+3) (.list (ms.map iH)))[l]?=some c:=λhn h=>dK h _ hn
 exact⟨xx,.mk ld ep vf es (ne (by lia) a0) (ne (by lia) a1) (ne (by lia) ap) (d9 am _) (ne (by lia) aw) (ne (by lia) ad) ⟨hd.1,hd.2.1,λl h=>by rw[gR];exact hd.2.2 l h⟩ (λe he=>(de e he).cm λl c hl a=>xx l c (.inr hl.1) a) dk⟩
theorem fB.aak(b:fB z B H ro r)(ws:List iw):dZ B H (H.set (B+4) (.list (ws.map iX)))/\fB z B (H.set (B+4) (.list (ws.map iX))) ro ⟨r.ps,r.ms,ws⟩:=b _ λld ep vf es a0 a1 ap am aw ad hd de dk=>by
 have xx:dZ B H (H.set (B+4) (.list (ws.map iX))):=dZ.set _ (by lia) (by lia) _
 have ne:∀{l c},B+4≠l->H[l]?=some c->(H.set (B+4) (.list (ws.map iX)))[l]?=some c:=λhn h=>dK h _ hn
 exact⟨xx,.mk ld ep vf es (ne (by lia) a0) (ne (by lia) a1) (ne (by lia) ap) (ne (by lia) am) (d9 aw _) (ne (by lia) ad) ⟨hd.1,hd.2.1,λl h=>by rw[gR];exact hd.2.2 l h⟩ (λe he=>(de e he).cm λl c hl a=>xx l c (.inr hl.1) a) dk⟩
theorem OB(b:fB z B H ro r)(hk:k<r.ps.length)(q:∀H',dZ B H H'->fB z B H' ro ⟨r.ps.set k p,r.ms,r.ws⟩->Q .none H'):aH (n+1) 58 [.ref (B+1),nv k,bW p] H Q Y:=XF (b _ λld ep vf es a0 a1 ap am aw ad hd de dk=>by
 refine gx (i:=0) a1 a0 rfl (DH ap (by rw[bJ];exact hk) ?_)
 have z:=b.put (r.ps.set k p)
 rw[map_set] at z
 exact q _ z.1 z.2)
theorem OC(b:fB z B H ro r)(hl:R3 r)(q:∀a c d H',aC H H'->H.length<=a/\H.length<=c/\H.length<=d->eX H' r a c d->Q (.aF [.ref a,.ref c,.ref d]) H'):aH (n+1) 68 [.ref (B+1)] H Q Y:=XQ (b _ λld ep vf es a0 a1 ap am aw ad hd de dk=>by
 refine gx (i:=0) a1 a0 rfl (aA (oJ ap) (cZ (c8 (e7 hl.1)) ((gx (i:=1) (bu _ a1) (bu _ a0) rfl (aA (oJ (bu _ am)) (cZ (c8 (e7 hl.2.1)) ((gx (i:=2) (bu _ (bu _ a1)) (bu _ (bu _ a0)) rfl (aA (oJ (bu _ (bu _ aw))) (cZ (c8 (e7 hl.2.2)) ?_)):aO (iQ (H++_++_) (.ref (B+1))) _)))):aO (iQ (H++_) (.ref (B+1))) _))))
 exact q _ _ _ _ ((aC.aT _ _).trans ((aC.aT _ _).trans (aC.aT _ _))) ⟨bX _,(aC.aT _ _).len,((aC.aT _ _).trans (aC.aT _ _)).len⟩ (.mk (bu _ (bu _ (bz _ _))) (bu _ (bz _ _)) (bz _ _)))
noncomputable def sh(ps:List bb)(vs:List V):Bool:=vs.all λv=>wh v 0 ((ps.length:Int) - 1)
noncomputable def natOf:V->Nat
 |.int i=>i.toNat
 |_=>0
noncomputable def fu:V->Int
 |.int i=>i
 |_=>0
theorem Bt{ps:List bb}:∀{vs:List V},sh ps vs=true->vs=aS (vs.map natOf)/\∀k∈vs.map natOf,k<ps.length
 |[],_=>⟨rfl,λζ h=>nomatch h⟩
 |v::r,h=>by
  have h:=iA.mp (show(wh v 0 ((ps.length:Int) - 1)&&sh ps r)=true from h)
  obtain⟨k,rfl,hk⟩:=wW h.1
  have ih:=Bt h.2
  refine⟨b7 (nv k::·) ih.1,λj hj=>(gB.mp hj).elim (λe=>?_) (ih.2 j)⟩
  rw[e];exact hk
noncomputable def si(ps:List bb)(k:Nat):Int:=(ps[k]?).elim 0 (·.aZ)
noncomputable def gJ(ps:List bb)(ks:List Nat)(d:Int):Bool:=(decide (2<ks.length)||decide (¬ks.Nodup))||ks.any λk=>decide (si ps k≥d)
noncomputable def mW(ps:List bb)(v:V)(vs:List V):Option Nat:=if sh ps vs then(if wh v 0 100000 then(if gJ ps (vs.map natOf) (fu v) then some 2 else if 60<=ps.length then some 6 else none) else some 1) else some 0
theorem OD{C:Ct}{ps:List bb}{ρf:Option V->bv}{j:Nat}(a1:H[B+1]?=some (.obj B))(a0:H[B]?=some (.cC fs))(hf:fs[0]?.join=some (.ref (B+2)))(ap:H[B+2]?=some (.list (ps.map bW)))(hq:H[lq]?=some (.list vs))(hs:∀v∈vs,sc v=true)(hC:C.call=aH (n+2))(hx:xq C.exc=Y)(h0:∀o,(ρf o)[0]?.join=some (.ref (B+1)))(hj:∀v,(ρf (some v))[j]?.join=some v)(ha:∀v o,aY (.J j) v (ρf o)=some (ρf (some v))){o:Option V}
  (y:sh ps vs=false->Y (.ref H.length) (H++[.exc 0])) (q:sh ps vs=true->∀o,K (.next (ρf o) H)):pL [lq] H (.J j) (λρ H K=>aX C.xq [.expr (.cQ 57 (.J 0) [(.J j)])] ρ H K) vs (ρf o) H K:=by
 have e:vs=vs.map id:=(map_id vs).symm
 have key:=Bp (g:=id) (as:=vs) (ws:=[lq]) (H₀:=H) (H:=H) (t:=.J j) (K:=K) (body:=λρ H K=>aX C.xq [.expr (.cQ 57 (.J 0) [(.J j)])] ρ H K) (ok:=λv=>wh v 0 ((ps.length:Int) - 1)) (R:=λρ=>∃o,ρ=ρf o) (dE hq hq) (λv hv ρ hr=>?_) (λwZ ρ hr=>hr.elim λo e=>e▸q wZ o) (ρ:=ρf o) ⟨o,rfl⟩
 ·rw[<-e] at key;exact key
 ·obtain⟨o,rfl⟩:=hr
  refine aA (ha v o) λN hN=>aA (h0 _) (mc a1 a0 (aA (hj v) ((?_:C.call 57 [.ref (B+1),v] H (λζ H=>qD K N (.next (ρf (some v)) H)) (xq C.exc)))))
  rw[hC]
  refine wY a1 a0 hf ap (hs v hv) (λh=>hN h _ ⟨_,rfl⟩) λh=>?_
  rw[hx]
  refine y ?_
  cases hh:sh ps vs with
  |false=>rfl
  |true=>exact absurd (h.symm.trans (j1.mp hh v hv)) gM
end
section
variable{z:Nat->Prop}{K:Out->Prop}{Ex:PQ}
theorem aal(ks:List Nat):aS ks=(ks.map λk:Nat=>(k:Int)).map V.int:=by rw[map_map];rfl
theorem HK(h:H[l]?=some (.list (aS ks)))(hl:ks.length<=1000)(q:Q (.bool (decide (¬ks.Nodup))) H):aH (n+1) 24 [.ref l] H Q Y:=by
 rw[aal] at h
 refine aab h (by rw[bJ];exact hl) λt ht=>?_
 have e:(ks.map λk:Nat=>(k:Int)).Nodup↔ks.Nodup:=⟨λh=>Pairwise.of_map _ (λa b hn e=>hn (b7 _ e)) h,λh=>Pairwise.map _ (λa b hn e=>hn (om e)) h⟩
 rw[e] at ht
 cases t with
 |false=>rw[gE (λh=>h (ht.mp rfl))] at q;exact q
 |true=>rw[show decide (¬ks.Nodup)=true from dj λh=>absurd (ht.mpr h) (by decide)] at q;exact q
theorem aam{w:Str}(hC:C.call=aH (n+1))(hj:ρ[j]?.join=some (.ref lq))(hq:H[lq]?=some (.list (aS ks)))(hl:ks.length<=1000)(y:(decide (2<ks.length)||decide (¬ks.Nodup))=true->C.exc (.ref H.length) (H++[.exc 2]))(h:(decide (2<ks.length)||decide (¬ks.Nodup))=false->aX C rest ρ H K):aX C (.bD (.or [(.cmp .gt (.bi .len [(.J j)]) (kI 2)),(.call 24 [(.J j)])]) [.raise 2 w] []::rest) ρ H K:=by
 refine aA hj (aA (cU hq) ?_)
 have e:(decide (((aS ks).length:Int)>2))=decide (2<ks.length):=by
  rw[bJ]
  exact xC.mpr ⟨λh=>by lia,λh=>by lia⟩
 refine((mM (λh1=>?_) λh1=>ia h1 (y (by rw[<-e,h1];rfl))):cD (decide (((aS ks).length:Int)>2)==false) _ _)
 rw[e] at h1
 refine aA hj ((?_:C.call 24 [.ref lq] H _ C.exc))
 rw[hC]
 exact HK hq hl (((dp (λh2=>y (by rw[h2,Bool.or_true])) λh2=>h (by rw[h1,h2];rfl)):cD (decide (¬ks.Nodup)) _ _))
theorem aan(ap:H[l]?=some (.list (ps.map bW)))(hk:k<ps.length):∃p,ps[k]?=some p/\si ps k=p.aZ/\ik (.ref l) (nv k) H=some (bW p):=(at_of hk).elim λp hp=>⟨p,hp,by unfold si;rw[hp];rfl,fY ap hp⟩
theorem OE{C:Ct}{ps:List bb}{ρf:Option V->bv}{j jd:Nat}{w:Str}(a1:H[B+1]?=some (.obj B))(a0:H[B]?=some (.cC fs))(hf:fs[0]?.join=some (.ref (B+2)))(ap:H[B+2]?=some (.list (ps.map bW)))(hq:H[lq]?=some (.list (aS ks)))(hk:∀k∈ks,k<ps.length)(h0:∀o,(ρf o)[0]?.join=some (.ref (B+1)))(hj:∀v,(ρf (some v))[j]?.join=some v)(hd:∀o,(ρf o)[jd]?.join=some (.int d))(ha:∀v o,aY (.J j) v (ρf o)=some (ρf (some v))){o:Option V}
  (y:(ks.any λk=>decide (si ps k≥d))=true->xq C.exc (.ref H.length) (H++[.exc 2])) (q:(ks.any λk=>decide (si ps k≥d))=false->∀o,K (.next (ρf o) H)):pL [lq] H (.J j) (λρ H K=>aX C.xq [.bD (.cmp .ge (.br (.br (.attr (.J 0) 0) (.J j)) (kI 0)) (.J jd)) [.raise 2 w] []] ρ H K) (aS ks) (ρf o) H K:=by
 refine Bp (g:=nv) (as:=ks) (ok:=λk=>!decide (si ps k≥d)) (R:=λρ=>∃o,ρ=ρf o) (dE hq hq) (λk tS ρ hr=>?_) (λwZ ρ hr=>hr.elim λo e=>e▸q ?_ o) ⟨o,rfl⟩
 ·obtain⟨o,rfl⟩:=hr
  refine aA (ha _ o) λN hN=>?_
  obtain⟨p,hp,eb,ix⟩:=aan ap (hk k tS)
  refine aA (h0 _) (gx (i:=0) a1 a0 hf (aA (hj _) (aA ix (aA (hd _) ((?_:cD (decide (p.aZ≥d)) _ _))))))
  rw[<-eb]
  exact dp (λh=>y (rE.mpr ⟨k,tS,h⟩)) λh=>hN (by rw[h];rfl) _ ⟨_,rfl⟩
 ·cases hh:ks.any λk=>decide (si ps k≥d) with
  |false=>rfl
  |true=>
   obtain⟨k,tS,h⟩:=rE.mp hh
   have h2:=j1.mp wZ k tS
   rw[h] at h2;cases h2
theorem aao(mr:r.ps.length<60)(hT:cc (r.ps++[p])=[]\/dC ⟨r.ps++[p],r.ms,r.ws⟩)(x:dZ B H H1)(b2:fB z B H1 ro ⟨r.ps++[p],r.ms,r.ws⟩)(q:∀H',dZ B H H'->cz z B H' ⟨r.ps++[p],r.ms,r.ws⟩ (jv ro ⟨r.ps++[p],r.ms,r.ws⟩)->Q (nv r.ps.length) H'):aX ⟨aH (n+68),xq Y⟩ (Cc.drop 6) [some (.ref (B+1)),o1,o2,o3] H1 (fA Q):=b2 _ λld ep vf es a0 a1 ap am aw ad hd de dk=>by
 refine(mc a1 a0 (ck (Bs (n:=n) (r:=⟨r.ps++[p],r.ms,r.ws⟩) (by rw[b6];exact mr) hT b2 λH2 x2 b3=>b3.b _ λld ep vf es a0 a1 ap am aw ad hd de dk=>gx (i:=0) a1 a0 rfl (aA (cU ap) ?_))))
 rw[bJ,b6]
 refine(?_:Q (.int (((r.ps.length+1:Nat):Int) - 1)) H2)
 rw[show(((r.ps.length+1:Nat):Int) - 1)=(r.ps.length:Int) by lia]
 exact q H2 (x.trans x2) b3
theorem aap(b:fB z B H ro r)(hl:r.ps.length<=60)(hq:H[lq]?=some (.list (aS ks)))(hk:∀k∈ks,k<r.ps.length)(jV:ks.length<=1000)(OF:lq<B\/B+5<=lq)(y2:gJ r.ps ks d=true->Y (.ref H.length) (H++[.exc 2]))(y6:gJ r.ps ks d=false->60<=r.ps.length->Y (.ref H.length) (H++[.exc 6]))(hT:gJ r.ps ks d=false->r.ps.length<60->cc (r.ps++[⟨d,ks,none,none⟩])=[]\/dC ⟨r.ps++[⟨d,ks,none,none⟩],r.ms,r.ws⟩)
  (q:gJ r.ps ks d=false->r.ps.length<60->∀H',dZ B H H'->cz z B H' ⟨r.ps++[⟨d,ks,none,none⟩],r.ms,r.ws⟩ (jv ro ⟨r.ps++[⟨d,ks,none,none⟩],r.ms,r.ws⟩)->Q (nv r.ps.length) H') {o:Option V}:aX ⟨aH (n+68),xq Y⟩ (Cc.drop 2) [some (.ref (B+1)),some (.int d),some (.ref lq),o] H (fA Q):=b _ λld ep vf es a0 a1 ap am aw ad hd de dk=>by
 refine aam (n:=n+67) rfl rfl hq jV (λh=>ft (y2 (by unfold gJ;rw[h];rfl))) λh1=>aA (dU hq) (OE (C:=⟨aH (n+68),xq Y⟩) (ρf:=λo=>[some (.ref (B+1)),some (.int d),some (.ref lq),o]) a1 a0 rfl ap hq hk (λζ=>rfl) (λζ=>rfl) (λζ=>rfl) (λζ ζ=>rfl) (λh=>ft (ft (y2 (by unfold gJ;rw[h,Bool.or_true])))) λh2 o=>?_)
 have HL:gJ r.ps ks d=false:=by unfold gJ;rw[h1,h2];rfl
 refine gx (i:=0) a1 a0 rfl (aA (cU ap) ?_)
 rw[bJ]
 refine(uS (λh=>ft (y6 HL (by lia))) λh=>?_)
 have mr:r.ps.length<60:=by lia
 refine gx (i:=0) a1 a0 rfl (gf ap (aA (cU hq) (gg ap (by rw[bJ];exact jp mr (by decide)) ?_)))
 have z:=b.put (r.ps++[⟨d,ks,none,none⟩])
 rw[jO] at z
 exact aao mr (hT HL mr) z.1 z.2 (q HL mr)
theorem OG(b:fB z B H ro r)(hl:r.ps.length<=60)(hq:H[lq]?=some (.list vs))(hs:∀v∈vs,sc v=true)(hv:sc v=true)(jV:vs.length<=1000)(OF:lq<B\/B+5<=lq)(y:∀k,mW r.ps v vs=some k->Y (.ref H.length) (H++[.exc k]))(hT:mW r.ps v vs=none->cc (r.ps++[⟨fu v,vs.map natOf,none,none⟩])=[]\/dC ⟨r.ps++[⟨fu v,vs.map natOf,none,none⟩],r.ms,r.ws⟩)
  (q:mW r.ps v vs=none->∀H',dZ B H H'->cz z B H' ⟨r.ps++[⟨fu v,vs.map natOf,none,none⟩],r.ms,r.ws⟩ (jv ro ⟨r.ps++[⟨fu v,vs.map natOf,none,none⟩],r.ms,r.ws⟩)->Q (nv r.ps.length) H'):aH (n+69) 60 [.ref (B+1),v,.ref lq] H Q Y:=XH (b _ λld ep vf es a0 a1 ap am aw ad hd de dk=>by
 refine aA (dU hq) (OD (n:=n+66) (C:=⟨aH (n+68),xq Y⟩) (ρf:=λo=>[some (.ref (B+1)),some v,some (.ref lq),o]) a1 a0 rfl ap hq hs rfl rfl (λζ=>rfl) (λζ=>rfl) (λζ ζ=>rfl) (λh=>ft (ft (y 0 (by unfold mW;rw[h];rfl)))) λh0 o=>?_)
 have e1:mW r.ps v vs=if wh v 0 100000 then(if gJ r.ps (vs.map natOf) (fu v) then some 2 else if 60<=r.ps.length then some 6 else none) else some 1:=bQ h0
 refine(Bo (n:=n+66) hv (λh1=>?_) λh1=>ft (y 1 (by rw[e1,h1];rfl)))
 have e2:mW r.ps v vs=if gJ r.ps (vs.map natOf) (fu v) then some 2 else if 60<=r.ps.length then some 6 else none:=e1.trans (bQ h1)
 obtain⟨d,rfl,_⟩:=tR h1
 obtain⟨HM,HN⟩:=Bt h0
 refine aap (ks:=vs.map natOf) (d:=d) b hl (HM▸hq) HN (by rw[bJ];exact jV) OF (λh=>y 2 (e2.trans (bQ h))) (λh h6=>y 6 (e2.trans ((bH (by rw[show gJ r.ps (vs.map natOf) (fu (.int d))=false from h];decide)).trans (bQ h6)))) (λh h6=>hT (e2.trans ((bH (by rw[show gJ r.ps (vs.map natOf) (fu (.int d))=false from h];decide)).trans (bH (not_le.mpr h6))))) λh h6=>q (e2.trans ((bH (by rw[show gJ r.ps (vs.map natOf) (fu (.int d))=false from h];decide)).trans (bH (not_le.mpr h6)))))
end
section
variable{z:Nat->Prop}{K:Out->Prop}{c:V}
noncomputable def vi(p:bb)(d:Int):Bool:=decide (d<p.aZ)||(p.bS.elim false λe=>decide (d≥e))
noncomputable def nQ(ps:List bb)(p:bb)(ks:List Nat)(d:Int):Option Nat:=if vi p d then some 1 else if ks.isEmpty||gJ ps ks p.aZ then some 2 else if p.ad.isSome then some 5 else none
noncomputable def mu(ps:List bb)(c v:V)(vs:List V):Option Nat:=if wh c 0 ((ps.length:Int) - 1)&&sh ps vs then(if wh v 0 100000 then(ps[natOf c]?).elim none λp=>nQ ps p (vs.map natOf) (fu v) else some 1) else some 0
noncomputable abbrev jw(p:bb)(d:Int)(ks:List Nat):bb:=⟨p.aZ,p.cf,some (d,ks),p.bS⟩
theorem aaq(b:fB z B H ro r)(hl:r.ps.length<=60)(hp:r.ps[k]?=some p)(hT:cc (r.ps.set k (jw p d ks))=[]\/dC ⟨r.ps.set k (jw p d ks),r.ms,r.ws⟩)(hq:H[lq]?=some (.list (aS ks)))(q:∀H',dZ B H H'->cz z B H' ⟨r.ps.set k (jw p d ks),r.ms,r.ws⟩ (jv ro ⟨r.ps.set k (jw p d ks),r.ms,r.ws⟩)->Q .none H'):aX ⟨aH (n+68),xq Y⟩ (xR.drop 8) [some (.ref (B+1)),some (nv k),some (.int d),some (.ref lq),o4,some (.int p.aZ),some (.aF (aS p.cf)),some (mL p.ad),some (jA p.bS)] H (fA Q):=b _ λld ep vf es a0 a1 ap am aw ad hd de dk=>by
 refine mc a1 a0 (aA (cU hq) ?_)
 have hk:k<r.ps.length:=(d7.mp hp).1
 refine(OB b hk λH1 x1 b1=>b1 _ λld ep vf es a0 a1 ap am aw ad hd de dk=>?_:aH (n+68) 58 [.ref (B+1),nv k,bW (jw p d ks)] H _ _)
 exact mc a1 a0 (ck (Bs (n:=n) (r:=⟨r.ps.set k (jw p d ks),r.ms,r.ws⟩) (by rw[gR];exact hl) hT b1 λH2 x2 b2=>q H2 (x1.trans x2) b2))
theorem aar(b:fB z B H ro r)(hl:r.ps.length<=60)(hp:r.ps[k]?=some p)(hq:H[lq]?=some (.list (aS ks)))(hk:∀k∈ks,k<r.ps.length)(jV:ks.length<=1000)(y:∀j,nQ r.ps p ks d=some j->Y (.ref H.length) (H++[.exc j]))(hT:nQ r.ps p ks d=none->cc (r.ps.set k (jw p d ks))=[]\/dC ⟨r.ps.set k (jw p d ks),r.ms,r.ws⟩)(q:nQ r.ps p ks d=none->∀H',dZ B H H'->cz z B H' ⟨r.ps.set k (jw p d ks),r.ms,r.ws⟩ (jv ro ⟨r.ps.set k (jw p d ks),r.ms,r.ws⟩)->Q .none H'):aX ⟨aH (n+68),xq Y⟩ (xR.drop 3) [some (.ref (B+1)),some (nv k),some (.int d),some (.ref lq),o4,o5,o6,o7,o8] H (fA Q):=b _ λld ep vf es a0 a1 ap am aw ad hd de dk=>by
 refine gx (i:=0) a1 a0 rfl ?_
 apply aA (fY ap hp)
 have l1:vi p d=true->xq Y (.ref H.length) (H++[.exc 1]):=λh=>ft (y 1 (bQ h))
 have key:vi p d=false->aX ⟨aH (n+68),xq Y⟩ (xR.drop 5) [some (.ref (B+1)),some (nv k),some (.int d),some (.ref lq),o4,some (.int p.aZ),some (.aF (aS p.cf)),some (mL p.ad),some (jA p.bS)] H (fA Q):=λh1=>by
  have e1:nQ r.ps p ks d=if ks.isEmpty||gJ r.ps ks p.aZ then some 2 else if p.ad.isSome then some 5 else none:=bH (by rw[h1];decide)
  have y2:(ks.isEmpty||gJ r.ps ks p.aZ)=true->xq Y (.ref H.length) (H++[.exc 2]):=λh=>ft (y 2 (e1.trans (bQ h)))
  have k2:(ks.isEmpty||(decide (2<ks.length)||decide (¬ks.Nodup)))=false->aX ⟨aH (n+68),xq Y⟩ (xR.drop 6) [some (.ref (B+1)),some (nv k),some (.int d),some (.ref lq),o4,some (.int p.aZ),some (.aF (aS p.cf)),some (mL p.ad),some (jA p.bS)] H (fA Q):=λh2=>by
   have h2:=ub.mp h2
   refine aA (dU hq) (OE (C:=⟨aH (n+68),xq Y⟩) (ρf:=λo=>[some (.ref (B+1)),some (nv k),some (.int d),some (.ref lq),o,some (.int p.aZ),some (.aF (aS p.cf)),some (mL p.ad),some (jA p.bS)]) a1 a0 rfl ap hq hk (λζ=>rfl) (λζ=>rfl) (λζ=>rfl) (λζ ζ=>rfl) (λh=>ft (y2 (by unfold gJ;rw[h,Bool.or_true,Bool.or_true]))) λh3 o=>?_)
   have e2:nQ r.ps p ks d=if p.ad.isSome then some 5 else none:=e1.trans (if_neg (by unfold gJ;rw[h2.1,h2.2,h3];decide))
   cases ha:p.ad with
   |some a=>exact ft (y 5 (by rw[e2,ha];rfl))
   |none=>
    have e3:nQ r.ps p ks d=none:=by rw[e2,ha];rfl
    have z:=aaq (n:=n) (Y:=Y) (o4:=o) b hl hp (hT e3) hq (q e3)
    rw[ha] at z
    exact z
  have e9:(decide (1<=((aS ks).length:Int))&&decide (((aS ks).length:Int)<=2))=!(ks.isEmpty||decide (2<ks.length)):=by
   rw[bJ]
   cases ks with
   |nil=>rfl
   |cons a t=>
    rw[lF,List.isEmpty_cons,rF,show decide (1<=((t.length+1:Nat):Int))=true from dj (by lia),Bool.true_and,<-decide_not]
    exact xC.mpr ⟨λh=>by lia,λh=>by lia⟩
  refine aA (cU hq) ((dp (λh3=>?_) λh3=>?_:cD (decide (1<=((aS ks).length:Int))) _ _))
  ·rw[h3,Bool.true_and] at e9
   refine(mM (λh4=>?_) λh4=>ia h4 (y2 ?_):cD ((!decide (((aS ks).length:Int)<=2))==false) _ _)
   ·rw[e9,Bool.not_not] at h4
    refine HK hq jV (dp (λh5=>y2 ?_) λh5=>k2 ?_)
    ·unfold gJ;rw[h5,Bool.or_true,Bool.true_or,Bool.or_true]
    ·rw[h5,Bool.or_false];exact h4
   ·rw[e9,Bool.not_not] at h4
    unfold gJ
    rcases rD.mp h4 with h|h
    ·rw[h];rfl
    ·rw[h,Bool.true_or,Bool.true_or,Bool.or_true]
  ·rw[h3,Bool.false_and] at e9
   have e9:(ks.isEmpty||decide (2<ks.length))=true:=by rw[<-um];exact e9.symm
   refine y2 ?_
   unfold gJ
   rcases rD.mp e9 with h|h
   ·rw[h];rfl
   ·rw[h,Bool.true_or,Bool.true_or,Bool.or_true]
 refine(mM (λh1=>?_) λh1=>ia h1 (l1 (by unfold vi;rw[h1];rfl)))
 cases hd:p.bS with
 |none=>
  have z:=key (by unfold vi;rw[h1,hd];rfl)
  rw[hd] at z
  exact z
 |some e=>
  refine(dp (λh2=>l1 (by unfold vi;rw[hd];exact or_eq_true_iff.mpr (.inr h2))) λh2=>?_)
  have z:=key (by unfold vi;rw[h1,hd];exact h2)
  rw[hd] at z
  exact z
theorem OH(b:fB z B H ro r)(hl:r.ps.length<=60)(hq:H[lq]?=some (.list vs))(hs:∀v∈vs,sc v=true)(hv:sc v=true)(hc:sc c=true)(jV:vs.length<=1000)(y:∀k,mu r.ps c v vs=some k->Y (.ref H.length) (H++[.exc k]))
  (hT:mu r.ps c v vs=none->∀p,r.ps[natOf c]?=some p->cc (r.ps.set (natOf c) (jw p (fu v) (vs.map natOf)))=[]\/dC ⟨r.ps.set (natOf c) (jw p (fu v) (vs.map natOf)),r.ms,r.ws⟩)
  (q:mu r.ps c v vs=none->∀p,r.ps[natOf c]?=some p->∀H',dZ B H H'->cz z B H' ⟨r.ps.set (natOf c) (jw p (fu v) (vs.map natOf)),r.ms,r.ws⟩ (jv ro ⟨r.ps.set (natOf c) (jw p (fu v) (vs.map natOf)),r.ms,r.ws⟩)->Q .none H'):aH (n+69) 61 [.ref (B+1),c,v,.ref lq] H Q Y:=XI (b _ λld ep vf es a0 a1 ap am aw ad hd de dk=>by
 refine(mc a1 a0 (((wY (n:=n+66) a1 a0 rfl ap hc (λh0=>(aA (dU hq) (OD (n:=n+66) (C:=⟨aH (n+68),xq Y⟩) (ρf:=λo=>[some (.ref (B+1)),some c,some v,some (.ref lq),o,none,none,none,none]) a1 a0 rfl ap hq hs rfl rfl (λζ=>rfl) (λζ=>rfl) (λζ ζ=>rfl) (λh=>ft (ft (y 0 (by unfold mu;rw[h,Bool.and_false];rfl)))) λh1 o=>?_))) λh0=>ft (y 0 (by unfold mu;rw[h0];rfl))):aH (n+68) 57 [.ref (B+1),c] H _ _)))
 have e1:mu r.ps c v vs=if wh v 0 100000 then(r.ps[natOf c]?).elim none λp=>nQ r.ps p (vs.map natOf) (fu v) else some 1:=bQ (by rw[h0,h1];rfl)
 refine(Bo (n:=n+66) hv (λh2=>?_) λh2=>ft (y 1 (by rw[e1,h2];rfl)))
 obtain⟨k,rfl,hk⟩:=wW h0
 obtain⟨d,rfl,_⟩:=tR h2
 obtain⟨HM,HN⟩:=Bt h1
 refine(at_of hk).elim λp hp=>?_
 have e2:mu r.ps (nv k) (.int d) vs=nQ r.ps p (vs.map natOf) d:=e1.trans ((bQ h2).trans (by rw[show natOf (nv k)=k from rfl,hp];rfl))
 exact aar (ks:=vs.map natOf) (d:=d) (p:=p) b hl hp (HM▸hq) HN (by rw[bJ];exact jV) (λj h=>y j (e2.trans h)) (λh=>hT (e2.trans h) p hp) λh=>q (e2.trans h) p hp)
end
section
variable{z:Nat->Prop}{K:Out->Prop}
theorem OI(a1:H[B+1]?=some (.obj B))(a0:H[B]?=some (.cC fs))(hf:fs[0]?.join=some (.ref (B+2)))(ap:H[B+2]?=some (.list (ps.map bW)))(hk:k<ps.length)(q:Q .none H):aH (n+2) 57 [.ref (B+1),nv k] H Q Y:=wY a1 a0 hf ap rfl (λζ=>q) λh=>absurd (h.symm.trans (wX hk)) gM
noncomputable abbrev kB(p:bb)(d:Int):bb:=⟨p.aZ,p.cf,p.ad,some d⟩
theorem aas{x y:V}(hi:ρ[i]?.join=some x)(hj:ρ[j]?.join=some y)(q:Q (.aF [x,y]) H):WE C (.aF [.J i,.J j]) ρ H Q:=aA hi (aA hj q)
theorem OJ{b:Nat}(a1:H[B+1]?=some (.obj B))(a0:H[B]?=some (.cC fs))(hf:fs[0]?.join=some (.ref (B+2)))(ap:H[B+2]?=some (.list (ps.map bW)))(ha:a<ps.length)(hb:b<ps.length)(q:∀H',aC H H'->Q (.int (mT 100001 (fQ ps a) (fQ ps b))) H'):aH (n+1) 62 [.ref (B+1),nv a,nv b] H Q Y:=XJ (by
 unfold EY
 refine eD (lP (k9 (aas (x:=nv a) (y:=nv b) rfl rfl (aA (a:=[nv a,nv b]) rfl (cZ (c8 (show 2<16000000 by decide)) (NW (C:=⟨aH n,xq Y⟩) ha hb (λj p T hp hT=>?_) (λj p N hp hN=>?_) ?_))))))
 ·refine gx (i:=0) a1 a0 hf ?_
  apply aA (fY ap hp)
  unfold bW
  cases hd:p.bS with
  |none=>rw[hd] at hT;exact hT
  |some d=>rw[hd] at hT;exact hT
 ·refine gx (i:=0) a1 a0 hf ?_
  apply aA (fY ap hp)
  exact hN
 ·refine(NV ha hb).elim λis Bj=>?_
  have e:nB (H++[.list ([]++([a,b].filter (fq ps)).map (mn ps))]) (.ref H.length)=some is:=by
   refine(?_:(dJ _ (.ref H.length)).bind allInts=_)
   rw[cU (bz _ _)];exact Bj.1
  apply aA e
  have q:=q _ (aC.aT H [.list ([]++([a,b].filter (fq ps)).map (mn ps))])
  rw[<-Bj.2] at q
  exact q)
theorem OK{o1 o2:Option Int}(h:x<=100000):decide (mT 100001 o1 o2>x)=decide (mT (10^9) o1 o2>x):=by
 cases o1<;>cases o2<;>first|rfl|exact(dj (show(100001:Int)>x by lia)).trans (dj (show(10^9:Int)>x by lia)).symm
theorem aat{w u:gh}:((((w.a:Int)==(u.a:Int))||(((w.b:Int)==(u.a:Int))||false))||(((w.a:Int)==(u.b:Int))||(((w.b:Int)==(u.b:Int))||false)))=tN w u:=by
 unfold tN
 rw[Bool.or_false,Bool.or_false,Bool.or_false,Bool.or_false,beq_comm (a:=(w.a:Int)),beq_comm (a:=(w.b:Int)),beq_comm (a:=(w.a:Int)) (b:=(u.b:Int)),beq_comm (a:=(w.b:Int)) (b:=(u.b:Int))]
 cases((u.a:Int)==(w.a:Int))<;>cases((u.a:Int)==(w.b:Int))<;>cases((u.b:Int)==(w.a:Int))<;>cases((u.b:Int)==(w.b:Int))<;>rfl
end
section
variable{z:Nat->Prop}{b:Nat}{K:Out->Prop}
noncomputable abbrev w0(B a b:Nat)(d:Int)(o4 o5 o6:Option V):bv:=[some (.ref (B+1)),some (nv a),some (nv b),some (.int d),o4,o5,o6]
end
theorem aau(h:un≠0)(j:Nat):mkRat ((j*ov:Nat):Int) un+mkRat (ov:Int) un=mkRat (((j+1)*ov:Nat):Int) un:=by
 rw[Rat.mkRat_add_mkRat _ _ h h,Rat.mkRat_eq_iff (Nat.mul_ne_zero h h) h]
 have:(((j+1)*ov:Nat):Int)=((j*ov:Nat):Int)+(ov:Int):=by rw[Nat.succ_mul];rfl
 rw[this,Int.natCast_mul un un]
 grind
theorem OL(h:un≠0)(hm:m<=un):(mkRat (m:Int) un).num<=((mkRat (m:Int) un).den:Int):=by
 have e:(m:Int)*((mkRat (m:Int) un).den:Int)=(mkRat (m:Int) un).num*(un:Int):=(Rat.mkRat_eq_iff h (mkRat (m:Int) un).den_nz).mp (Rat.mkRat_self _).symm
 have h2:(m:Int)*((mkRat (m:Int) un).den:Int)<=(un:Int)*((mkRat (m:Int) un).den:Int):=EM (pn.mpr hm) (ni _)
 rw[e,Int.mul_comm (un:Int)] at h2
 exact Int.le_of_mul_le_mul_right h2 (kN.mpr (Nat.pos_of_ne_zero h))
theorem aav(h:un≠0)(o1:1<=ov)(le:ov<=un)(u1:un<1000):1<=(Rat.normalize ov un h).num/\(Rat.normalize ov un h).num<=1000/\1<=((Rat.normalize ov un h).den:Int)/\((Rat.normalize ov un h).den:Int)<=1000:=by
 have hn:=OL h le
 rw[<-sR h] at hn
 have hd:(Rat.normalize (ov:Int) un h).den<=un:=by
  rw[Rat.normalize_eq];exact Nat.div_le_self _ _
 have hp:=(Rat.normalize (ov:Int) un h).den_pos
 have h1:1<=(Rat.normalize (ov:Int) un h).num:=by
  rw[Rat.normalize_eq]
  have hg:0<(ov:Int).natAbs.gcd un:=Nat.gcd_pos_of_pos_right _ (Nat.pos_of_ne_zero h)
  exact(Int.le_ediv_iff_mul_le (kN.mpr hg)).mpr (by rw[Int.one_mul];exact pn.mpr (Nat.gcd_le_left _ o1))
 exact⟨h1,by lia,by lia,by lia⟩
section
variable{z:Nat->Prop}{K:Out->Prop}{q:Rat}
noncomputable abbrev DS(q:Rat)(j:Nat):V:=.aF [nv j,.int q.num,nv q.den]
noncomputable abbrev w5(a:Int)(b:Nat)(j:Nat):V:=.aF [nv j,.int a,nv b]
structure Raw(a:Int)(b:Nat)(q:Rat):Prop where
 nz:b≠0
 e:Rat.normalize a b nz=q
 ka:1<=a/\a<=1000
 kb:1<=(b:Int)/\(b:Int)<=1000
theorem OM{i:Int}(h:1<=i/\i<=1000):wh (.int i) 1 1000=true:=iA.mpr ⟨dj h.1,dj h.2⟩
def NgI(B kp lg ln lf ov un:Nat)(q:Rat)(ns:List Nat)(H₀:Hp)(as:List Nat)(ρ:bv)(H':Hp):Prop:=∃o6 o7 o8,∃an:List Nat,ρ=[some (.ref (B+1)),some (nv kp),some (.ref lg),some (.ref ln),some (.ref lf),some (rv (mkRat ((an.length*ov:Nat):Int) un)),o6,o7,o8]/\bO lf H₀ H'/\H'[lf]?=some (.list (an.map λj=>nJ (j,q)))/\an++as=ns
theorem aax{b:Nat}{a:Int}(qk:Raw a b q)(hu:un≠0)(hq:q=Rat.normalize ov un hu)(o1:1<=ov)(u1:un<1000)(le:ov*ns.length<=un)(nd:ns.Nodup/\kp∉ns/\ns≠[])(jg:ns.length<=10)(ag:H[lg]?=some (.list (ns.map (w5 a b))))(k:∀H',aC H H'->Q (jX (ns.map λj=>(j,q))) H'):aH (n+3) 65 [.ref (B+1),nv kp,.ref lg] H Q Y:=LX (by
 have eR:1<=ns.length:=length_pos_iff.mpr nd.2.2
 have ov_le:ov<=un:=aG (Nat.le_mul_of_pos_right ov eR) le
 apply aA (cU ag)
 rw[bJ]
 refine uS (λζ=>((?_:cD (!decide ((ns.length:Int)<=10)) _ _))) λh=>absurd (pn.mpr eR) h
 rw[show decide ((ns.length:Int)<=10)=true from dj (pn.mpr jg)]
 refine aA (dU ag) (cZ (c8 (e7 jg)) (mj (P:=λζ=>true) (F:=nv) ns _ _ (λj ζ T hT=>hT) (λj ζ ζ N hN=>hN) ?_))
 rw[yN]
 have anm:=bz H (.list ([]++aS ns))
 have x1:=aC.aT H [.list ([]++aS ns)]
 refine(HK (n:=n+1) anm (aG jg (by decide)) ?_)
 rw[gE (λh=>h nd.1)]
 apply aA (L4 (k:=kp) anm)
 rw[gE nd.2.1]
 have a4:=bz (H++[.list ([]++aS ns)]) (.list [])
 have x2:=x1.trans (aC.aT _ [.list []])
 have Bu:lg≠(H++[aI.list ([]++aS ns)]).length:=by
  have:=bZ ag
  rw[b6]
  exact dq (cL this (eV _ _))
 have l9:H.length<=(H++[aI.list ([]++aS ns)]).length:=by rw[b6];exact eV _ _
 refine aA (dU (x2 _ _ ag)) (gq (g:=w5 a b) (NgI B kp lg H.length (H++[aI.list ([]++aS ns)]).length ov un q ns (H++[.list ([]++aS ns)]++[.list []])) (λj as ρ H' h=>?_) (λρ H' h=>?_) ns _ _ ⟨none,none,none,[],by rw[show mkRat (((([]:List Nat).length*ov:Nat)):Int) un=0 by rw[length_nil,zero_mul];exact Rat.zero_mkRat un];rfl,bO.refl _ _,a4,rfl⟩)
 ·obtain⟨o6,o7,o8,an,rfl,x,ax,t⟩:=h
  refine λN hN=>?_
  have gd:an.length+1<=ns.length:=by rw[<-t,b6,lF];exact kL (jG (iD _)) _
  refine DL rfl ?_
  rw[OM qk.ka]
  refine DL rfl ?_
  rw[OM qk.kb]
  refine gf ax ((tH qk.nz ?_:aH (n+2) 7 [.int a,nv b] H' _ _))
  rw[qk.e]
  refine gg ax (e7 (aG (pA gd) jg)) ((tH qk.nz ?_:aH (n+2) 7 [.int a,nv b] (H'.set _ _) _ _))
  rw[qk.e]
  have hm:an.length*ov<2^10:=cG (aG (by rw[mul_comm];exact oi ov (pA gd)) le) (jp u1 (by decide))
  have s1:Sm 10 (mkRat ((an.length*ov:Nat):Int) un):=by rw[<-sR hu];exact Sm.tG hu (show(((an.length*ov:Nat)):Int).natAbs<2^10 from hm) (jp u1 (by decide))
  have s2:Sm 10 q:=by rw[hq];exact Sm.tG hu (show((ov:Nat):Int).natAbs<2^10 from cG ov_le (jp u1 (by decide))) (jp u1 (by decide))
  refine(Gm (n:=n) s1 s2 (by decide) ?_)
  rw[show mkRat ((an.length*ov:Nat):Int) un+q=mkRat ((((an++[j]).length*ov:Nat)):Int) un by rw[hq,sR,aau hu,b6];rfl]
  refine hN _ _ (dE (x2 _ _ ag) (dK (x _ _ Bu (x2 _ _ ag)) _ (gS Bu))) ⟨_,_,_,an++[j],rfl,x.trans (bO.set _ _ _),?_,iV t⟩
  rw[jO];exact d9 ax _
 ·obtain⟨o6,o7,o8,an,rfl,x,ax,t⟩:=h
  rw[fN] at t
  subst t
  refine(uS (λh=>absurd (OL hu (m:=an.length*ov) (by rw[mul_comm];exact le)) (Int.not_le.mpr h)) λζ=>(aA (cU ax) ?_))
  have k:=k H' (x.ext x2 l9)
  unfold jX at k
  rw[map_map] at k
  exact k)
theorem aay(ag:H[lg]?=some (.list []))(y:Y (.ref H.length) (H++[.exc 4])):aH (n+3) 65 [.ref (B+1),nv kp,.ref lg] H Q Y:=LX (by
 apply aA (cU ag)
 exact ft y)
noncomputable def sj(p:bb)(d:Int):Bool:=decide (d<p.aZ)||p.bS.elim false λe=>decide (d>e)
noncomputable def qX(p:bb)(d:Int)(ns:List Nat):Option Nat:=if wh (.int d) 0 100000 then(if sj p d then some 1 else if ns.isEmpty then some 4 else none) else some 1
theorem ON{b:Nat}{a:Int}(bk:fB z B H ro r)(hl:r.ps.length<=60)(qO:r.ws.length<=1000)(hp:r.ps[k]?=some p)(iF:(∀j∈ns,j<r.ps.length)/\ns.length<=10)(qk:Raw a b q)(hu:un≠0)(hq:ns≠[]->q=Rat.normalize ov un hu)(o1:1<=ov)(u1:un<1000)(le:ov*ns.length<=un)(nd:ns.Nodup/\k∉ns)(ag:H[lg]?=some (.list (ns.map (w5 a b))))(y:∀j,qX p d ns=some j->Y (.ref H.length) (H++[.exc j]))(hT:qX p d ns=none->dC ⟨r.ps,r.ms,r.ws++[⟨k,d,ns.map λj=>(j,q)⟩]⟩)(kq:qX p d ns=none->∀H',dZ B H H'->cz z B H' ⟨r.ps,r.ms,r.ws++[⟨k,d,ns.map λj=>(j,q)⟩]⟩ (jv ro ⟨r.ps,r.ms,r.ws++[⟨k,d,ns.map λj=>(j,q)⟩]⟩)->Q .none H'):aH (n+69) 66 [.ref (B+1),nv k,.int d,.ref lg] H Q Y:=XN (bk _ λld ep vf es a0 a1 ap am aw ad yE de dk=>by
 have hk:k<r.ps.length:=(d7.mp hp).1
 refine mc a1 a0 ((OI (n:=n+66) a1 a0 rfl ap hk (aA (dU ag) (Bp (g:=w5 a b) (ok:=λζ=>true) (as:=ns) (R:=λρ=>∃o,ρ=[some (.ref (B+1)),some (nv k),some (.int d),some (.ref lg),o,none,none,none,none]) (dE ag ag) (λj hj ρ hr=>?_) (λζ ρ hr=>?_) ⟨none,rfl⟩)):aH (n+68) 57 [.ref (B+1),nv k] H _ _))
 ·obtain⟨o,rfl⟩:=hr
  exact λN hN=>(mc a1 a0 ((OI (n:=n+66) a1 a0 rfl ap (iF.1 j hj) (hN rfl _ ⟨_,rfl⟩):aH (n+68) 57 [.ref (B+1),nv j] H _ _)):aO (iQ H (.ref (B+1))) _)
 ·obtain⟨o,rfl⟩:=hr
  refine(Bo (n:=n+66) rfl (λh2=>?_) λh2=>ft (y 1 (bH (by rw[h2];decide))))
  have e1:qX p d ns=if sj p d then some 1 else if ns.isEmpty then some 4 else none:=bQ h2
  refine gx (i:=0) a1 a0 rfl ?_
  apply aA (fY ap hp)
  have uL:sj p d=true->xq Y (.ref H.length) (H++[.exc 1]):=λh=>ft (y 1 (e1.trans (bQ h)))
  have key:sj p d=false->∀{o4 o5 o6 o7 o8:Option V},aX ⟨aH (n+68),xq Y⟩ (EZ.drop 5) [some (.ref (B+1)),some (nv k),some (.int d),some (.ref lg),o4,o5,o6,o7,o8] H (fA Q):=λey {_ _ _ _ _}=>by
   have e2:qX p d ns=if ns.isEmpty then some 4 else none:=e1.trans (bH (by rw[ey];decide))
   refine gx (i:=2) a1 a0 rfl (gf aw ((mc a1 a0 ((?_:aH (n+68) 65 [.ref (B+1),nv k,.ref lg] H _ _)):aO (iQ H (.ref (B+1))) _)))
   by_cases fG:ns=[]
   ·subst fG
    exact aay (n:=n+65) ag (ft (y 4 e2))
   have e3:qX p d ns=none:=e2.trans (bH λh=>fG (isEmpty_iff.mp h))
   refine aax (n:=n+65) qk hu (hq fG) o1 u1 le ⟨nd.1,nd.2,fG⟩ iF.2 ag λH1 x1=>?_
   have b1:=bk.ext x1
   refine b1 _ λld ep vf es a0 a1 ap am aw ad hd de dk=>gg aw (e7 qO) ?_
   have z:=b1.aak (r.ws++[⟨k,d,ns.map λj=>(j,q)⟩])
   rw[jO] at z
   refine z.2 _ λld ep vf es a0 a1 ap am aw ad hd de dk=>(mc a1 a0 ?_:aO (iQ (H1.set (B+4) _) (.ref (B+1))) _)
   exact ck (Bs (n:=n) (r:=⟨r.ps,r.ms,r.ws++[⟨k,d,ns.map λj=>(j,q)⟩]⟩) hl (.inr (hT e3)) z.2 λH2 x2 b2=>kq e3 H2 ((x1.cm.trans z.1).trans x2) b2)
  refine(mM (λh1=>?_) λh1=>ia h1 (uL (by unfold sj;rw[h1];rfl)))
  cases hd:p.bS with
  |none=>exact key (by unfold sj;rw[h1,hd];rfl)
  |some e=>
   exact dp (λh2=>uL (by unfold sj;rw[hd];exact or_eq_true_iff.mpr (.inr h2))) λh2=>key (by unfold sj;rw[h1,hd];exact h2))
end
section
variable{z:Nat->Prop}{K:Out->Prop}
theorem Bv{c:aI}(he:∀Q:PQ,Q (.ref G.length) (G++[c])->WE C e ρ G Q)(h0:ρ[0]?.join=some (.ref (B+1)))(a1:G[B+1]?=some (.obj B))(a0:G[B]?=some (.cC fs))(k:∀G':Hp,G'.length=G.length+1->G'[B]?=some (.cC (fs.set i (some (.ref G.length))))->G'[G.length]?=some c->(∀l c',l≠B->G[l]?=some c'->G'[l]?=some c')->aX C rest ρ G' K):aX C (.setAttr (.J 0) i e::rest) ρ G K:=by
 refine he _ (aA h0 (HC (bu _ a1) (bu _ a0) (k _ ?_ (d9 (bu _ a0) _) (dK (bz _ _) _ (dq (bZ a0))) λl c' hn h=>dK (bu _ h) _ (gS hn))))
 rw[gR,b6];rfl
theorem OO(hC:C.call=aH (n+1))(q:∀H',aC H H'->cz (λζ=>False) H.length H' ⟨[],[],[]⟩ []->Q (.ref (H.length+1)) H'):WE C (.new 56) ρ H Q:=by
 refine(?_:C.call 56 [.ref (H.length+1)] (H++[.cC (replicate gK.cC.length none)]++[.obj H.length]) _ _)
 rw[hC]
 refine XD ?_
 have e1:(H++[.cC (replicate gK.cC.length none)]++[.obj H.length])[H.length+1]?=some (.obj H.length):=by
  have z:=bz (H++[.cC (replicate gK.cC.length none)]) (.obj H.length)
  rw[b6] at z;exact z
 have e0:(H++[.cC (replicate gK.cC.length none)]++[.obj H.length])[H.length]?=some (.cC [none,none,none,none,none]):=bu _ (bz _ _)
 have hl:(H++[aI.cC (replicate gK.cC.length none)]++[aI.obj H.length]).length=H.length+2:=by rw[b6,b6];rfl
 have x0:aC H (H++[.cC (replicate gK.cC.length none)]++[.obj H.length]):=(aC.aT _ _).trans (aC.aT _ _)
 generalize H++[.cC (replicate gK.cC.length none)]++[.obj H.length]=G at *
 have xx:∀{G G':Hp},aC H G->(∀l c',l≠H.length->G[l]?=some c'->G'[l]?=some c')->aC H G':=λx f l c h=>f l c (dq (bZ h)) (x l c h)
 unfold EX
 refine Bv (c:=.list []) (λQ h=>h) rfl e1 e0 λG1 l1 b1 c1 f1=>Bv (c:=.list []) (λQ h=>h) rfl (f1 _ _ (by lia) e1) b1 λG2 l2 b2 c2 f2=>Bv (c:=.list []) (λQ h=>h) rfl (f2 _ _ (by lia) (f1 _ _ (by lia) e1)) b2 λG3 l3 b3 c3 f3=>Bv (c:=.dict 0 []) (λQ h=>h) rfl (f3 _ _ (by lia) (f2 _ _ (by lia) (f1 _ _ (by lia) e1))) b3 λG4 l4 b4 c4 f4=>Bv (c:=.list []) (λQ h=>h) rfl (f4 _ _ (by lia) (f3 _ _ (by lia) (f2 _ _ (by lia) (f1 _ _ (by lia) e1)))) b4 λG5 l5 b5 c5 f5=>?_
 rw[hl] at l1 c1 b5
 rw[l1] at l2 c2 b5
 rw[l2] at l3 c3 b5
 rw[l3] at l4 c4 b5
 rw[l4] at c5 b5
 exact⟨rfl,q G5 (xx (xx (xx (xx (xx x0 f1) f2) f3) f4) f5) (.mk (H.length+5) 0 (H.length+6) [] b5 (f5 _ _ (by lia) (f4 _ _ (by lia) (f3 _ _ (by lia) (f2 _ _ (by lia) (f1 _ _ (by lia) e1))))) (f5 _ _ (by lia) (f4 _ _ (by lia) (f3 _ _ (by lia) (f2 _ _ (by lia) c1)))) (f5 _ _ (by lia) (f4 _ _ (by lia) (f3 _ _ (by lia) c2))) (f5 _ _ (by lia) (f4 _ _ (by lia) c3)) (f5 _ _ (by lia) c4) ⟨bX _,λq=>q,λζ q=>q.elim⟩ (λζ h=>(nomatch h)) (λζ=>rfl) c5 ⟨by lia,λq=>q⟩)⟩
noncomputable def qY:List Str:=["person","day","parents","match","will","again","full","dead"]
noncomputable def HO(j:Nat):List Bool:=[iP j 0,iP j 1,iP j 2,iP j 3,iP j 4,iP j 5,iP j 6,iP j 7]
theorem aaz:∀j,j<8->(HO j).count true=1/\(HO j).idxOf? true=some j/\(qY[j]?).isSome=true:=by decide
theorem sk(h:H[l]?=some (.exc j)):excAt H (.ref l)=some j:=b7 (Option.bind · pJ) h
theorem HP:∀bs:List Bool,lZ (bs.map V.bool)=some bs
 |[]=>rfl
 |b::r=>by
  refine(?_:(lZ (r.map V.bool)).map (b::·)=_)
  rw[HP r];rfl
theorem aaA{bs:List Bool}(h:H[l]?=some (.list (bs.map V.bool)))(hl:bs.length<=1000)(q:Q (.int (bs.count true)) H):oD .count (.ref l) [.bool true] H Q:=aA (cU h) (show aO (lZ (bs.map V.bool)) (λte=>(bs.map V.bool).length<=1000/\Q (.int (te.count true)) H) from aA (HP bs) ⟨by rw[bJ];exact hl,q⟩)
theorem aaB{bs:List Bool}(h:H[l]?=some (.list (bs.map V.bool)))(hl:bs.length<=1000)(hi:bs.idxOf? true=some i)(q:Q (nv i) H):oD .index (.ref l) [.bool true] H Q:=aA (cU h) (show aO (lZ (bs.map V.bool)) (λte=>(bs.map V.bool).length<=1000/\aO (te.idxOf? true) λi=>Q (nv i) H) from aA (HP bs) ⟨by rw[bJ];exact hl,aA hi q⟩)
theorem OP{F:List V->Hp->Prop}(h:F [v] H):nC C [.k v] ρ H F:=h
theorem aaC(h:G[l]?=some (.exc j))(a:G[m]?=some (.list ((HO j).map V.bool)))(hj:j<8)(x:aC H G)(q:∀H',aC H H'->Q (.str (qY.getD j "")) H'):aX ⟨aH n,xq Y⟩ (EV.drop 2) [some (.ref l),some (.ref m)] G (fA Q):=by
 have ok:=aaz j hj
 refine gf a (OP (aaA a (show 8<=1000 by decide) ?_))
 rw[ok.1]
 refine aA (sk h) (gf (bu _ a) (OP (aaB (bu _ a) (show 8<=1000 by decide) ok.2.1 ?_)))
 obtain⟨w,hw⟩:=uk.mp ok.2.2
 have q:=q _ (x.trans (aC.aT _ [.list (qY.map V.str)]))
 rw[zN,hw] at q
 exact aA (iU (v:=.str w) (bz _ (.list (qY.map V.str))) (by rw[i7,hw];rfl)) (q)
theorem aaD(h:H[l]?=some (.exc j))(hj:j<8)(q:∀H',aC H H'->Q (.str (qY.getD j "")) H'):aH (n+1) 45 [.ref l] H Q Y:=Xu (by
 refine aA (sk h) (aA (sk h) (aA (sk h) (aA (sk h) ?_)))
 have h1:=bu [.list [.bool (iP j 0),.bool (iP j 1),.bool (iP j 2),.bool (iP j 3)]] h
 refine aA (sk h1) (aA (sk h1) (aA (sk h1) (aA (sk h1) (tI (bu _ (bz _ _)) (bz _ _) (show 8<16000000 by decide) ?_))))
 exact aaC (bu _ (bu _ h1)) (bz _ _) hj (((aC.aT _ _).trans (aC.aT _ _)).trans (aC.aT _ _)) q)
noncomputable def OQ(j:Nat):V:=.aF [.str (qY.getD j ""),.none]
end
noncomputable def knd:Nat->Str
 |0=>"born"
 |1=>"adopted"
 |2=>"married"
 |3=>"died"
 |_=>"will"
theorem OR:∀i,i<5->PyData.strOk (knd i)=true:=by decide +kernel
theorem aaE:∀i,i<5->∀j,j<5->(knd i==knd j)=decide (i=j):=by decide +kernel
section
variable{z:Nat->Prop}{K:Out->Prop}
theorem HQ(i j:Nat)(hi:i<5:=by decide)(hj:j<5:=by decide):gP .eq (.str (knd i)) (.str (knd j)) H=some (decide (i=j)):=(yR (OR i hi) (OR j hj)).trans (b7 some (aaE i hi j hj))
noncomputable abbrev DT(v:V)(lq:Nat):V:=.aF [.str (knd 0),v,.ref lq]
noncomputable abbrev tT(c v:V)(lq:Nat):V:=.aF [.str (knd 1),c,v,.ref lq]
noncomputable abbrev OS(u v w:V):V:=.aF [.str (knd 2),u,v,w]
noncomputable abbrev OT(u v:V):V:=.aF [.str (knd 3),u,v]
noncomputable abbrev OU(u v:V)(lg:Nat):V:=.aF [.str (knd 4),u,v,.ref lg]
noncomputable abbrev DU(a b:Nat)(d:Int):V:=OS (nv a) (nv b) (.int d)
noncomputable abbrev w7(k:Nat)(d:Int):V:=OT (nv k) (.int d)
noncomputable abbrev vj(k:Nat)(d:Int)(lg:Nat):V:=OU (nv k) (.int d) lg
theorem kt{w:Str}{a:List S}(hj:ρ[j]?.join=some (.aF (.str (knd i)::vs)))(hw:w=knd m)(hi:i<5)(hm:m<5)(yes:i=m->aX C a ρ H (λo=>mG o (λρ H=>aX C rest ρ H K) (K o)))(no:i≠m->aX C rest ρ H K):aX C (.bD (.cmp .eq (.br (.J j) (kI 0)) (.k (.str w))) a []::rest) ρ H K:=by
 subst hw
 exact g9 (ky (c9 (aU hj (bP (aA (a:=V.str (knd i)) rfl (bP (aA (HQ i m hi hm) (uS yes no))))))))
theorem kF(i m:Nat){w:Str}{a:List S}(hj:ρ[j]?.join=some (.aF (.str (knd i)::vs)))(hw:w=knd m)(no:aX C rest ρ H K)(hi:i<5:=by decide)(hm:m<5:=by decide)(hn:i≠m:=by decide):aX C (.bD (.cmp .eq (.br (.J j) (kI 0)) (.k (.str w))) a []::rest) ρ H K:=kt hj hw hi hm (λh=>absurd h hn) λζ=>no
theorem kT(i:Nat){w:Str}{a:List S}(hj:ρ[j]?.join=some (.aF (.str (knd i)::vs)))(hw:w=knd i)(yes:aX C a ρ H (λo=>mG o (λρ H=>aX C rest ρ H K) (K o)))(hi:i<5:=by decide):aX C (.bD (.cmp .eq (.br (.J j) (kI 0)) (.k (.str w))) a []::rest) ρ H K:=kt hj hw hi hi (λζ=>yes) λh=>absurd rfl h
theorem OV(b:fB z B H ro r)(h:aH n 60 [.ref (B+1),v,.ref lq] H Q (xq Y)):aH (n+1) 46 [.ref (B+1),DT v lq] H Q Y:=AO (b _ λld ep vf es a0 a1 ap am aw ad hd de dk=>by
 refine kT 0 rfl rfl ((?_:aO (iQ H (.ref (B+1))) _))
 exact mc a1 a0 h)
theorem OW{c:V}(b:fB z B H ro r)(h:aH n 61 [.ref (B+1),c,v,.ref lq] H Q (xq Y)):aH (n+1) 46 [.ref (B+1),tT c v lq] H Q Y:=AO (b _ λld ep vf es a0 a1 ap am aw ad hd de dk=>by
 refine kF 1 0 rfl rfl (kT 1 rfl rfl ((?_:aO (iQ H (.ref (B+1))) _)))
 exact mc a1 a0 h)
theorem OX{w:V}(k:fB z B H ro r)(h:aH n 63 [.ref (B+1),u,v,w] H Q (xq Y)):aH (n+1) 46 [.ref (B+1),OS u v w] H Q Y:=AO (k _ λld ep vf es a0 a1 ap am aw ad hd de dk=>by
 refine kF 2 0 rfl rfl (kF 2 1 rfl rfl (kT 2 rfl rfl ((?_:aO (iQ H (.ref (B+1))) _))))
 exact mc a1 a0 h)
theorem OY(b:fB z B H ro r)(h:aH n 64 [.ref (B+1),u,v] H Q (xq Y)):aH (n+1) 46 [.ref (B+1),OT u v] H Q Y:=AO (b _ λld ep vf es a0 a1 ap am aw ad hd de dk=>by
 refine kF 3 0 rfl rfl (kF 3 1 rfl rfl (kF 3 2 rfl rfl (kT 3 rfl rfl ((?_:aO (iQ H (.ref (B+1))) _)))))
 exact mc a1 a0 h)
theorem OZ(b:fB z B H ro r)(h:aH n 66 [.ref (B+1),u,v,.ref lg] H Q (xq Y)):aH (n+1) 46 [.ref (B+1),OU u v lg] H Q Y:=AO (b _ λld ep vf es a0 a1 ap am aw ad hd de dk=>by
 refine kF 4 0 rfl rfl (kF 4 1 rfl rfl (kF 4 2 rfl rfl (kF 4 3 rfl rfl ((?_:aO (iQ H (.ref (B+1))) _)))))
 exact mc a1 a0 h)
end
section
variable{z:Nat->Prop}{K:Out->Prop}{c:V}
noncomputable def zc(p:bb)(d:Int):Bool:=p.ad.elim false λx=>decide (d<=x.1)
noncomputable def vk(k:Nat)(d:Int)(w:iw):Bool:=((w.fP:Int)==(k:Int))&&decide (d<w.day)
noncomputable def vl(k:Nat)(d:Int)(m:gh):Bool:=(((m.a:Int)==(k:Int))||(((m.b:Int)==(k:Int))||false))&&decide (d<=m.day)
noncomputable def vn(r:cV)(p:bb)(k:Nat)(d:Int):Bool:=(decide (d<p.aZ)||zc p d)||(r.ws.any (vk k d)||r.ms.any (vl k d))
noncomputable def oX(r:cV)(p:bb)(k:Nat)(d:Int):Option Nat:=if p.bS.isSome then some 5 else if vn r p k d then some 1 else none
noncomputable def outD(r:cV)(c v:V):Option Nat:=if wh c 0 ((r.ps.length:Int) - 1) then(if wh v 0 100000 then(r.ps[natOf c]?).elim none λp=>oX r p (natOf c) (fu v) else some 1) else some 0
noncomputable abbrev dR(B k:Nat)(d:Int)(p:bb)(o7 o8 o9 o10 cM:Option V):bv:=[some (.ref (B+1)),some (nv k),some (.int d),some (.int p.aZ),some (.aF (aS p.cf)),some (mL p.ad),some (jA p.bS),o7,o8,o9,o10,cM]
theorem O0{α:Type}{P:α->Bool}{as:List α}(h:(as.all λa=>!P a)=true):as.any P=false:=by
 cases hh:as.any P with
 |false=>rfl
 |true=>
  obtain⟨k,tS,h1⟩:=rE.mp hh
  have h2:=j1.mp h k tS
  rw[h1] at h2;cases h2
theorem aaF(b:fB z B H ro r)(hl:r.ps.length<=60)(hp:r.ps[k]?=some p)(hT:dC ⟨r.ps.set k (kB p d),r.ms,r.ws⟩)(q:∀H',dZ B H H'->cz z B H' ⟨r.ps.set k (kB p d),r.ms,r.ws⟩ (jv ro ⟨r.ps.set k (kB p d),r.ms,r.ws⟩)->Q .none H'):aX ⟨aH (n+68),xq Y⟩ (sW.drop 7) (dR B k d p o7 o8 o9 o10 cM) H (fA Q):=b _ λld ep vf es a0 a1 ap am aw ad hd de dk=>by
 have hk:k<r.ps.length:=(d7.mp hp).1
 refine mc a1 a0 ((OB b hk λH1 x1 b1=>b1 _ λld ep vf es a0 a1 ap am aw ad hd de dk=>(mc a1 a0 ?_):aH (n+68) 58 [.ref (B+1),nv k,bW (kB p d)] H _ _))
 exact ck (Bs (n:=n) (r:=⟨r.ps.set k (kB p d),r.ms,r.ws⟩) (by rw[gR];exact hl) (.inr hT) b1 λH2 x2 b2=>q H2 (x1.trans x2) b2)
theorem aaG{o7 o10 cM:Option V}(b:fB z B H ro r)(y:r.ms.any (vl k d)=true->Y (.ref H.length) (H++[.exc 1]))(h:r.ms.any (vl k d)=false->∀o7 o10 cM,aX ⟨aH (n+68),xq Y⟩ (sW.drop 7) (dR B k d p o7 o8 o9 o10 cM) H K):aX ⟨aH (n+68),xq Y⟩ (sW.drop 6) (dR B k d p o7 o8 o9 o10 cM) H K:=b _ λld ep vf es a0 a1 ap am aw ad hd de dk=>by
 refine gx (i:=1) a1 a0 rfl (aA (dU am) (Bp (g:=iH) (as:=r.ms) (ok:=λm=>!vl k d m) (R:=λρ=>∃o7 o10 cM,ρ=dR B k d p o7 o8 o9 o10 cM) (dE am am) (λm hm ρ hr=>?_) (λwZ ρ hr=>hr.elim λo7 e=>e.elim λo10 e=>e.elim λcM e=>e▸h (O0 wZ) o7 o10 cM) ⟨_,_,_,rfl⟩))
 obtain⟨o7,o10,cM,rfl⟩:=hr
 refine aA (a:=dR B k d p (some (nv m.a)) o8 o9 (some (nv m.b)) (some (.int m.day))) rfl λN hN=>?_
 have no:vl k d m=false->N (dR B k d p (some (nv m.a)) o8 o9 (some (nv m.b)) (some (.int m.day))) H:=λe=>hN (by rw[e];rfl) _ ⟨_,_,_,rfl⟩
 exact((ir (λh1=>(((dp (λh2=>ft (ft (y (any_eq_true.mpr ⟨m,hm,by unfold vl;rw[h1,h2];rfl⟩)))) λh2=>no (by unfold vl;rw[h2,Bool.and_false])):cD (decide (d<=m.day)) _ _))) λh1=>fL h1 (no (by unfold vl;rw[h1];rfl))):cD ((((m.a:Int)==(k:Int))||(((m.b:Int)==(k:Int))||false))==true) _ _)
theorem aaH{o7 o8 o9:Option V}(b:fB z B H ro r)(y:r.ws.any (vk k d)=true->Y (.ref H.length) (H++[.exc 1]))(h:r.ws.any (vk k d)=false->∀o7 o8 o9,aX ⟨aH (n+68),xq Y⟩ (sW.drop 6) (dR B k d p o7 o8 o9 o10 cM) H K):aX ⟨aH (n+68),xq Y⟩ (sW.drop 5) (dR B k d p o7 o8 o9 o10 cM) H K:=b _ λld ep vf es a0 a1 ap am aw ad hd de dk=>by
 refine gx (i:=2) a1 a0 rfl (aA (dU aw) (Bp (g:=iX) (as:=r.ws) (ok:=λm=>!vk k d m) (R:=λρ=>∃o7 o8 o9,ρ=dR B k d p o7 o8 o9 o10 cM) (dE aw aw) (λm hm ρ hr=>?_) (λwZ ρ hr=>hr.elim λo7 e=>e.elim λo10 e=>e.elim λcM e=>e▸h (O0 wZ) o7 o10 cM) ⟨_,_,_,rfl⟩))
 obtain⟨o7,o8,o9,rfl⟩:=hr
 refine aA (a:=dR B k d p (some (nv m.fP)) (some (.int m.day)) (some (jX m.dO)) o10 cM) rfl λN hN=>?_
 have no:vk k d m=false->N (dR B k d p (some (nv m.fP)) (some (.int m.day)) (some (jX m.dO)) o10 cM) H:=λe=>hN (by rw[e];rfl) _ ⟨_,_,_,rfl⟩
 exact((ir (λh1=>(((dp (λh2=>ft (ft (y (any_eq_true.mpr ⟨m,hm,by unfold vk;rw[h1,h2];rfl⟩)))) λh2=>no (by unfold vk;rw[h2,Bool.and_false])):cD (decide (d<m.day)) _ _))) λh1=>fL h1 (no (by unfold vk;rw[h1];rfl))):cD (((m.fP:Int)==(k:Int))==true) _ _)
theorem aaI(b:fB z B H ro r)(hl:r.ps.length<=60)(hp:r.ps[k]?=some p)(y:∀j,oX r p k d=some j->Y (.ref H.length) (H++[.exc j]))(hT:oX r p k d=none->dC ⟨r.ps.set k (kB p d),r.ms,r.ws⟩)(q:oX r p k d=none->∀H',dZ B H H'->cz z B H' ⟨r.ps.set k (kB p d),r.ms,r.ws⟩ (jv ro ⟨r.ps.set k (kB p d),r.ms,r.ws⟩)->Q .none H'):aX ⟨aH (n+68),xq Y⟩ (sW.drop 2) [some (.ref (B+1)),some (nv k),some (.int d),o3,o4,o5,o6,o7,o8,o9,o10,cM] H (fA Q):=b _ λld ep vf es a0 a1 ap am aw ad hd de dk=>by
 refine gx (i:=0) a1 a0 rfl ?_
 apply aA (fY ap hp)
 unfold bW
 cases hd:p.bS with
 |some e=>exact ft (y 5 (by unfold oX;rw[hd];rfl))
 |none=>
  have e1:oX r p k d=if vn r p k d then some 1 else none:=by unfold oX;rw[hd];rfl
  have y1:vn r p k d=true->Y (.ref H.length) (H++[.exc 1]):=λh=>y 1 (e1.trans (bQ h))
  have key:(decide (d<p.aZ)||zc p d)=false->aX ⟨aH (n+68),xq Y⟩ (sW.drop 5) (dR B k d p o7 o8 o9 o10 cM) H (fA Q):=λh1=>by
   refine aaH (n:=n) b (λh2=>y1 (by unfold vn;rw[h2];exact or_eq_true_iff.mpr (.inr rfl))) λh2 o7 o8 o9=>aaG (n:=n) b (λh3=>y1 (by unfold vn;rw[h3,Bool.or_true,Bool.or_true])) λh3 o7 o10 cM=>?_
   have e2:oX r p k d=none:=e1.trans (if_neg (by unfold vn;rw[h1,h2,h3];decide))
   exact aaF (n:=n) b hl hp (hT e2) (q e2)
  have l1:(decide (d<p.aZ)||zc p d)=true->xq Y (.ref H.length) (H++[.exc 1]):=λh=>ft (y1 (by unfold vn;rw[h];rfl))
  refine(mM (λh1=>?_) λh1=>ia h1 (l1 (by rw[h1];rfl)))
  cases ha:p.ad with
  |none=>
   have z:=key (by unfold zc;rw[h1,ha];rfl)
   rw[show dR B k d p o7 o8 o9 o10 cM=[some (.ref (B+1)),some (nv k),some (.int d),some (.int p.aZ),some (.aF (aS p.cf)),some (mL none),some (jA none),o7,o8,o9,o10,cM] by unfold dR;rw[ha,hd]] at z
   exact z
  |some x=>
   refine(dp (λh2=>l1 (by unfold zc;rw[ha];exact or_eq_true_iff.mpr (.inr h2))) λh2=>?_)
   have z:=key (by unfold zc;rw[h1,ha];exact h2)
   rw[show dR B k d p o7 o8 o9 o10 cM=[some (.ref (B+1)),some (nv k),some (.int d),some (.int p.aZ),some (.aF (aS p.cf)),some (mL (some x)),some (jA none),o7,o8,o9,o10,cM] by unfold dR;rw[ha,hd]] at z
   exact z
theorem O1(b:fB z B H ro r)(hl:r.ps.length<=60)(hc:sc c=true)(hv:sc v=true)(y:∀j,outD r c v=some j->Y (.ref H.length) (H++[.exc j]))(hT:outD r c v=none->∀p,r.ps[natOf c]?=some p->dC ⟨r.ps.set (natOf c) (kB p (fu v)),r.ms,r.ws⟩)(q:outD r c v=none->∀p,r.ps[natOf c]?=some p->∀H',dZ B H H'->cz z B H' ⟨r.ps.set (natOf c) (kB p (fu v)),r.ms,r.ws⟩ (jv ro ⟨r.ps.set (natOf c) (kB p (fu v)),r.ms,r.ws⟩)->Q .none H'):aH (n+69) 64 [.ref (B+1),c,v] H Q Y:=XM (b _ λld ep vf es a0 a1 ap am aw ad yE de dk=>by
 refine(mc a1 a0 (((wY (n:=n+66) a1 a0 rfl ap hc (λh1=>?_) λh1=>ft (y 0 (bH (by rw[h1];decide)))):aH (n+68) 57 [.ref (B+1),c] H _ _)))
 have e1:outD r c v=if wh v 0 100000 then(r.ps[natOf c]?).elim none λp=>oX r p (natOf c) (fu v) else some 1:=bQ h1
 refine(Bo (n:=n+66) hv (λh2=>?_) λh2=>ft (y 1 (e1.trans (bH (by rw[h2];decide)))))
 obtain⟨k,rfl,hk⟩:=wW h1
 obtain⟨d,rfl,-,-⟩:=tR h2
 refine(at_of hk).elim λp hp=>?_
 have e2:outD r (nv k) (.int d)=oX r p k d:=(e1.trans (bQ h2)).trans (by rw[show natOf (nv k)=k from rfl,hp];rfl)
 exact aaI (n:=n) b hl hp (λj h=>y j (e2.trans h)) (λh=>hT (e2.trans h) p hp) λh=>q (e2.trans h) p hp)
end
section
variable{z:Nat->Prop}{b:Nat}{K:Out->Prop}{w:V}
def vo(r:cV):Prop:=u5 r.ps.length r.ms/\∀w∈r.ms,w.day<=100000
noncomputable def qZ(r:cV)(w:gh):Option Nat:=if(((w.a:Int)==(w.b:Int))||(!lv r.ps w.day w.a||!lv r.ps w.day w.b)) then some 3 else if r.ms.all (clear r.ps w) then none else some 5
noncomputable def oY(r:cV)(u v w:V):Option Nat:=if wh u 0 ((r.ps.length:Int) - 1)&&wh v 0 ((r.ps.length:Int) - 1) then(if wh w 0 100000 then qZ r ⟨natOf u,natOf v,fu w⟩ else some 1) else some 0
theorem aaJ(k:fB z B H ro r)(ha:a<r.ps.length)(hb:b<r.ps.length)(ok:vo r)(hd:d<=100000)(y:r.ms.all (clear r.ps ⟨a,b,d⟩)=false->∀H',aC H H'->Y (.ref H'.length) (H'++[.exc 5]))(q:r.ms.all (clear r.ps ⟨a,b,d⟩)=true->∀o4 o5 o6 H',aC H H'->aX ⟨aH (n+68),xq Y⟩ (xS.drop 5) (w0 B a b d o4 o5 o6) H' (fA Q)):aX ⟨aH (n+68),xq Y⟩ (xS.drop 4) (w0 B a b d none none none) H (fA Q):=k _ λld ep vf es a0 a1 ap am aw ad yE de dk=>by
 refine gx (i:=1) a1 a0 rfl (aA (dU am) (gq (g:=iH) (λas ρ H'=>(∃o4 o5 o6,ρ=w0 B a b d o4 o5 o6)/\aC H H'/\∃pre,pre++as=r.ms/\pre.all (clear r.ps ⟨a,b,d⟩)=true) (λu as ρ H' h=>?_) (λρ H' h=>?_) _ _ _ ⟨⟨none,none,none,rfl⟩,aC.refl _,[],rfl,rfl⟩))
 ·obtain⟨⟨o4,o5,o6,rfl⟩,x,pre,e,Bw⟩:=h
  refine λN hN=>?_
  have hu:u∈r.ms:=e▸cY.mpr (.inr dD)
  have no:clear r.ps ⟨a,b,d⟩ u=true->∀H'',aC H' H''->N (w0 B a b d (some (nv u.a)) (some (nv u.b)) (some (.int u.day))) H'':=λhc H'' x'=>hN _ _ (dE am ((x.trans x') _ _ am)) ⟨⟨_,_,_,rfl⟩,x.trans x',pre++[u],by rw[mA];exact e,by rw[all_append,Bw,all_cons,hc];rfl⟩
  have bad:clear r.ps ⟨a,b,d⟩ u=false->∀H'',aC H' H''->xq (xq Y) (.ref H''.length) (H''++[.exc 5]):=λhc H'' x'=>ft (ft (y (by rw[<-e,all_append,all_cons,hc,Bool.false_and,Bool.and_false]) H'' (x.trans x')))
  have yes:tN ⟨a,b,d⟩ u=true->aX ⟨aH (n+68),xq (xq Y)⟩ [.bD (.and [(.cmp .gt (.cQ 62 (.J 0) [.J 4,.J 5]) (.J 3)),(.cmp .gt (.cQ 62 (.J 0) [.J 1,.J 2]) (.J 6))]) [.raise 5 "another marriage meets it"] []] (w0 B a b d (some (nv u.a)) (some (nv u.b)) (some (.int u.day))) H' (λo=>mG o N False):=λht=>by
   have me:clear r.ps ⟨a,b,d⟩ u=!(decide (mT 100001 (fQ r.ps u.a) (fQ r.ps u.b)>d)&&decide (mT 100001 (fQ r.ps a) (fQ r.ps b)>u.day)):=by
    unfold clear Hm
    rw[ht,Bool.true_and,OK hd,OK (ok.2 u hu),Bool.and_comm]
   refine mc (x _ _ a1) (x _ _ a0) ((OJ (x _ _ a1) (x _ _ a0) rfl (x _ _ ap) (ok.1 u hu).1 (ok.1 u hu).2 λH2 x2=>(((ir (λh1=>?_) λh1=>fL h1 (no (by rw[me,h1];rfl) H2 x2)):cD (decide (mT 100001 (fQ r.ps u.a) (fQ r.ps u.b)>d)==true) _ _)):aH (n+68) 62 [.ref (B+1),nv u.a,nv u.b] H' _ _))
   have x3:=x.trans x2
   refine mc (x3 _ _ a1) (x3 _ _ a0) ((OJ (x3 _ _ a1) (x3 _ _ a0) rfl (x3 _ _ ap) ha hb λH4 x4=>?_:aH (n+68) 62 [.ref (B+1),nv a,nv b] H2 _ _))
   rw[h1,Bool.true_and] at me
   exact((dp (λh2=>bad (by rw[me,h2];rfl) H4 (x2.trans x4)) λh2=>no (by rw[me,h2];rfl) H4 (x2.trans x4)):cD (decide (mT 100001 (fQ r.ps a) (fQ r.ps b)>u.day)) _ _)
  have cn:tN ⟨a,b,d⟩ u=false->clear r.ps ⟨a,b,d⟩ u=true:=λh=>by unfold clear;rw[h];rfl
  have ti:=aat (w:=⟨a,b,d⟩) (u:=u)
  exact mM (λh1=>(((dp (λh2=>yes (by rw[<-ti];exact rD.mpr (.inr h2))) λh2=>no (cn (by rw[<-ti];exact ub.mpr ⟨h1,h2⟩)) _ (aC.refl _)):cD (((a:Int)==(u.b:Int))||(((b:Int)==(u.b:Int))||false)) _ _))) λh1=>ia h1 (yes (by rw[<-ti];exact rD.mpr (.inl h1)))
 ·obtain⟨⟨o4,o5,o6,rfl⟩,x,pre,e,Bw⟩:=h
  rw[fN] at e
  exact q (e▸Bw) _ _ _ _ x
theorem aaK(k:fB z B H ro r)(hl:r.ps.length<=60)(ha:a<r.ps.length)(hb:b<r.ps.length)(ok:vo r)(Bm:r.ms.length<=1000)(hd:d<=100000)(y:∀j,qZ r ⟨a,b,d⟩=some j->∀H',aC H H'->Y (.ref H'.length) (H'++[.exc j]))(hT:qZ r ⟨a,b,d⟩=none->cc r.ps=[]\/dC ⟨r.ps,r.ms++[⟨a,b,d⟩],r.ws⟩)(q:qZ r ⟨a,b,d⟩=none->∀H',dZ B H H'->cz z B H' ⟨r.ps,r.ms++[⟨a,b,d⟩],r.ws⟩ (jv ro ⟨r.ps,r.ms++[⟨a,b,d⟩],r.ws⟩)->Q .none H'):aX ⟨aH (n+68),xq Y⟩ (xS.drop 3) (w0 B a b d none none none) H (fA Q):=k _ λld ep vf es a0 a1 ap am aw ad yE de dk=>by
 obtain⟨p,hp⟩:=at_of ha
 obtain⟨p',fJ⟩:=at_of hb
 have y3:(((a:Int)==(b:Int))||(!g8 p d||!g8 p' d))=true->xq Y (.ref H.length) (H++[.exc 3]):=λh=>ft (y 3 (bQ (by rw[<-mf hp,<-mf fJ] at h;exact h)) H (aC.refl _))
 have key:(((a:Int)==(b:Int))||(!g8 p d||!g8 p' d))=false->aX ⟨aH (n+68),xq Y⟩ (xS.drop 4) (w0 B a b d none none none) H (fA Q):=λh=>by
  have e1:qZ r ⟨a,b,d⟩=if r.ms.all (clear r.ps ⟨a,b,d⟩) then none else some 5:=bH (by rw[<-mf hp,<-mf fJ] at h;rw[h];decide)
  refine aaJ (n:=n) k ha hb ok hd (λh2=>y 5 (e1.trans (bH (by rw[h2];decide)))) λh2 o4 o5 o6 H1 x1=>?_
  have e2:qZ r ⟨a,b,d⟩=none:=e1.trans (bQ h2)
  have k1:=k.ext x1
  refine k1 _ λld ep vf es a0 a1 ap am aw ad hd de dk=>((gx (i:=1) a1 a0 rfl (gf am (gg am (e7 Bm) ?_))):aO (iQ H1 (.ref (B+1))) _)
  have z:=k1.aaj (r.ms++[⟨a,b,d⟩])
  rw[jO] at z
  refine z.2 _ λld ep vf es a0 a1 ap am aw ad hd de dk=>(mc a1 a0 ?_:aO (iQ (H1.set (B+3) _) (.ref (B+1))) _)
  exact ck (Bs (n:=n) (r:=⟨r.ps,r.ms++[(⟨a,b,d⟩:gh)],r.ws⟩) hl (hT e2) z.2 λH2 x2 b2=>q e2 H2 ((x1.cm.trans z.1).trans x2) b2)
 refine((mM (λh1=>((gx (i:=0) a1 a0 rfl ?_:aO (iQ H (.ref (B+1))) _))) λh1=>ia h1 (y3 (by rw[h1];rfl))):cD (((a:Int)==(b:Int))==false) _ _)
 exact rU ap hp ((mM (λh2=>((gx (i:=0) a1 a0 rfl (rU ap fJ ((dp (λh3=>y3 (by rw[h3,Bool.or_true,Bool.or_true])) λh3=>key (by rw[h1,h2,h3];rfl)))):aO (iQ H (.ref (B+1))) _))) λh2=>ia h2 (y3 (by rw[h2,Bool.true_or,Bool.or_true]))))
theorem O2(k:fB z B H ro r)(hl:r.ps.length<=60)(ok:vo r)(Bm:r.ms.length<=1000)(hu:sc u=true)(hv:sc v=true)(hw:sc w=true)(y:∀j,oY r u v w=some j->∀H',aC H H'->Y (.ref H'.length) (H'++[.exc j]))(hT:oY r u v w=none->cc r.ps=[]\/dC ⟨r.ps,r.ms++[⟨natOf u,natOf v,fu w⟩],r.ws⟩)(q:oY r u v w=none->∀H',dZ B H H'->cz z B H' ⟨r.ps,r.ms++[⟨natOf u,natOf v,fu w⟩],r.ws⟩ (jv ro ⟨r.ps,r.ms++[⟨natOf u,natOf v,fu w⟩],r.ws⟩)->Q .none H'):aH (n+69) 63 [.ref (B+1),u,v,w] H Q Y:=XK (k _ λld ep vf es a0 a1 ap am aw ad hd de dk=>by
 refine mc a1 a0 (((wY (n:=n+66) a1 a0 rfl ap hu (λh1=>((mc a1 a0 (((wY (n:=n+66) a1 a0 rfl ap hv (λh2=>?_) λh2=>ft (y 0 (bH (by rw[h1,h2];decide)) H (aC.refl _))):aH (n+68) 57 [.ref (B+1),v] H _ _))))) λh1=>ft (y 0 (bH (by rw[h1,Bool.false_and];decide)) H (aC.refl _))):aH (n+68) 57 [.ref (B+1),u] H _ _))
 have e1:oY r u v w=if wh w 0 100000 then qZ r ⟨natOf u,natOf v,fu w⟩ else some 1:=bQ (by rw[h1,h2];rfl)
 refine(Bo (n:=n+66) hw (λh3=>?_) λh3=>ft (y 1 (e1.trans (bH (by rw[h3];decide))) H (aC.refl _)))
 obtain⟨a,rfl,ha⟩:=wW h1
 obtain⟨b,rfl,hb⟩:=wW h2
 obtain⟨d,rfl,-,hd⟩:=tR h3
 have e2:oY r (nv a) (nv b) (.int d)=qZ r ⟨a,b,d⟩:=e1.trans (bQ h3)
 exact aaK (n:=n) k hl ha hb ok Bm hd (λj h=>y j (e2.trans h)) (λh=>hT (e2.trans h)) λh=>q (e2.trans h))
theorem ze{okR:V->Hp->Prop}{err:Option Nat}(h:∀Q' Y':PQ,(∀v H',okR v H'->Q' v H')->(∀j,err=some j->∀H',aC H H'->Y' (.ref H'.length) (H'++[.exc j]))->aH (n+1) 46 [.ref (B+1),D] H Q' Y')(q:∀v H',okR v H'->Q (.aF [.str "",v]) H')(y:∀j,err=some j->j<8/\∀H',aC H H'->Q (OQ j) H'):aH (n+2) 47 [.ref (B+1),D] H Q Y:=Xv (by
 refine h _ _ (λv H' ok=>q v H' ok) λj hj H' x'=>aA (sk (bz _ _)) ⟨by unfold iP;rw[show((8:Nat)==8)=true from rfl,Bool.or_true],((?_:aH (n+1) 45 [.ref H'.length] (H'++[.exc j]) _ _))⟩
 exact aaD (bz _ _) (y j hj).1 λH'' x=>(y j hj).2 H'' (x'.trans ((aC.aT _ _).trans x)))
end
theorem aaL{H:Hp}{a:E}{w:Bool}(h:WE C a ρ H λx H=>Q (.bool (xQ x==w)) H):WE C (.isNone w a) ρ H Q:=h
theorem DV:copyOf H (.aF vs)=some vs:=rfl
section
variable{t:d8}{elt:bv->Hp->PQ->Prop}{Q:List V->Hp->Prop}{I:bv->Prop}
theorem Bx{α β:Type}{R0:α->V->Prop}{R:Hp->β->V->Prop}{F:α->β}(mono:∀{H H' b v},aC H H'->R H b v->R H' b v)(hs:∀H',aC H H'->fS ws H₀ H'=true){as:List α}(step:∀a v ρ,a∈as->R0 a v->I ρ->aO (aY t v ρ) λcg=>I cg/\∀H',aC H H'->∀N:PQ,(∀u H2,aC H' H2->R H2 (F a) u->N u H2)->elt cg H' N)(fin:∀us H',aC H H'->ct (R H') (as.map F) us->Q us H')(h:ct R0 as vs){ρ:bv}(hi:I ρ):iR ws H₀ t (λρ H Q=>WT C [] ρ H Q) elt vs ρ H [] Q:=by
 have key:∀{iS:List α} {iY:List V},ct R0 iS iY->(∀a∈iS,a∈as)->∀acc ρ H',I ρ->aC H H'->(∀us H2,aC H' H2->ct (R H2) (iS.map F) us->Q (acc++us) H2)->iR ws H₀ t (λρ H Q=>WT C [] ρ H Q) elt iY ρ H' acc Q:=λh=>h.rec (motive:=λiS iY ζ=>(∀a∈iS,a∈as)->∀acc ρ H',I ρ->aC H H'->(∀us H2,aC H' H2->ct (R H2) (iS.map F) us->Q (acc++us) H2)->iR ws H₀ t (λρ H Q=>WT C [] ρ H Q) elt iY ρ H' acc Q) (λζ acc ρ H' ζ ζ q=>fN acc▸q [] H' (aC.refl _) .nil) λr ζ ih hm acc ρ H' hi x q=>wC (step _ _ ρ (hm _ dD) r hi) λcg hb=>hb.2 H' x _ λu H2 x2 hr=>⟨hs _ (x.trans x2),ih (λa h=>hm a (.tail _ h)) (acc++[u]) cg H2 hb.1 (x.trans x2) λus H3 x3 ha=>by rw[mA];exact q (u::us) H3 (x2.trans x3) (.cons (mono x3 hr) ha)⟩
 exact key h (λζ h=>h) [] ρ H hi (aC.refl _) fin
theorem comp_map{α:Type}{g F:α->V}{ρf:α->bv}(hs:fS ws H₀ H=true)(ha:∀a ρ,I ρ->aY t (g a) ρ=some (ρf a))(hI:∀a,I (ρf a)){as:List α}(he:∀a,a∈as->∀N:PQ,N (F a) H->elt (ρf a) H N)(q:Q (as.map F) H){ρ:bv}(hi:I ρ):iR ws H₀ t (λρ H Q=>WT C [] ρ H Q) elt (as.map g) ρ H [] Q:=by
 have key:∀iS:List α,(∀a∈iS,a∈as)->∀acc ρ,I ρ->Q (acc++iS.map F) H->iR ws H₀ t (λρ H Q=>WT C [] ρ H Q) elt (iS.map g) ρ H acc Q:=λiS=>iS.rec (motive:=λiS=>(∀a∈iS,a∈as)->∀acc ρ,I ρ->Q (acc++iS.map F) H->iR ws H₀ t (λρ H Q=>WT C [] ρ H Q) elt (iS.map g) ρ H acc Q) (λζ acc ζ ζ q=>fN acc▸q) λa ζ ih hm acc ρ hi q=>aA (ha a ρ hi) (he a (hm a dD) _ ⟨hs,ih (λa h=>hm a (.tail _ h)) (acc++[F a]) _ (hI a) (by rw[mA];exact q)⟩)
 exact key as (λζ h=>h) [] ρ hi q
theorem DW{α:Type}{g:α->V}:∀as:List α,ct (λa v=>v=g a) as (as.map g)
 |[]=>.nil
 |_::as=>.cons rfl (DW as)
end
inductive dN where
 |aZ (p:bb)
 |bS (k:Nat) (e:Int)
 |adopt (k:Nat) (x:Int×List Nat)
 |dW (w:gh)
 |gi (w:iw)
inductive d6(P:Nat->Prop)(H:Hp):dN->V->Prop
 |aZ {p:bb} {lq:Nat}:P lq->H[lq]?=some (.list (aS p.cf))->d6 P H (.aZ p) (DT (.int p.aZ) lq)
 |bS {k:Nat} {e:Int}:d6 P H (.bS k e) (w7 k e)
 |adopt {k:Nat} {x:Int×List Nat} {lq:Nat}:P lq->H[lq]?=some (.list (aS x.2))->d6 P H (.adopt k x) (tT (nv k) (.int x.1) lq)
 |dW {w:gh}:d6 P H (.dW w) (DU w.a w.b w.day)
 |gi {w:iw} {lg b:Nat} {a:Int} {ns:List Nat} {q:Rat}:P lg->H[lg]?=some (.list (ns.map (w5 a b)))->Raw a b q->w.dO=ns.map (λj=>(j,q))->d6 P H (.gi w) (vj w.fP w.day lg)
theorem d6.cm{P P':Nat->Prop}{d:dN}(h:d6 P H d v)(x:∀l c,P l->H[l]?=some c->P' l/\H'[l]?=some c):d6 P' H' d v:=h.casesOn (λh1 h2=>.aZ (x _ _ h1 h2).1 (x _ _ h1 h2).2) .bS (λh1 h2=>.adopt (x _ _ h1 h2).1 (x _ _ h1 h2).2) .dW λh1 h2 h3 h4=>.gi (x _ _ h1 h2).1 (x _ _ h1 h2).2 h3 h4
theorem O3{P:Nat->Prop}{ds:List dN}(h:ct (d6 P H) ds vs)(x:aC H H'):ct (d6 P H') ds vs:=h.imp λζ ζ h=>h.cm λl c hp a=>⟨hp,x l c a⟩
def Bl(b ld:Nat)(l:Nat):Prop:=b<=l/\l<ld
def Bn(b ld:Nat)(l:Nat):Prop:=b<=l/\l≠ld
theorem HR{b:Nat}{P:Nat->Prop}{ds:List dN}(h:ct (d6 P H) ds vs)(hp:∀l,P l->b<=l)(x:aC H H'):ct (d6 (Bl b H.length) H') ds vs:=h.imp λζ ζ h=>h.cm λl c hl a=>⟨⟨hp l hl,bZ a⟩,x l c a⟩
theorem O4{b:Nat}{ds:List dN}(h:ct (d6 (Bl b ld) H) ds vs):ct (d6 (Bn b ld) H) ds vs:=h.imp λζ ζ h=>h.cm λl c hl a=>⟨⟨hl.1,dq hl.2⟩,a⟩
theorem ct.aT{α β:Type}{R:α->β->Prop}{as bs:List α}{us vs:List β}(h:ct R as us)(h':ct R bs vs):ct R (as++bs) (us++vs):=h.rec (motive:=λas us ζ=>ct R (as++bs) (us++vs)) h' λr ζ ih=>.cons r ih
noncomputable def HS(ps:List bb):List dN:=(cc ps).map λk=>.bS k ((fQ ps k).getD 0)
noncomputable def nR(ps:List bb)(js:List Nat):List dN:=js.filterMap λk=>(ps[k]?).bind λp=>p.ad.map λx=>.adopt k x
noncomputable def By(r:cV):List dN:=((r.ps.map .aZ++HS r.ps)++nR r.ps (List.range r.ps.length))++r.ms.map .dW++r.ws.map .gi
section
variable{b:Nat}{K:Out->Prop}
noncomputable abbrev iJ(l lm lw:Nat)(o2 o3 o4 o5 o6:Option V):bv:=[some (.aF [.ref l,.ref lm,.ref lw]),some (.ref l),o2,o3,o4,o5,o6]
theorem w8(h:WE C e1 ρ H λa H=>WE C e2 ρ H λb H=>WE C e3 ρ H λc H=>Q (.aF [a,b,c]) H):WE C (.aF [e1,e2,e3]) ρ H Q:=h
theorem w9(h:WE C e ρ H λx H=>aO (copyOf H x) λvs=>vO vs H Q):WE C (.listOf e) ρ H Q:=h
noncomputable abbrev ds1:S:=.aY (.J 2) (.comp 1 (.aF [(.k (.str "born")),(iI 0 0),(.listOf (iI 0 1))]) (.J 0) (.of (.J 1)) [])
theorem s1(hb:b<=H.length)(hA:H[l]?=some (.list (ps.map bW)))(hl:ps.length<=60)(h2:∀p∈ps,p.cf.length<=2)(h:∀vs ld H',aC H H'->b<=ld->H'[ld]?=some (.list vs)->ct (d6 (Bl b ld) H') (ps.map .aZ) vs->aX C rest (iJ l lm lw (some (.ref ld)) o3 o4 o5 o6) H' K):aX C (ds1::rest) (iJ l lm lw o2 o3 o4 o5 o6) H K:=by
 refine eD (lP (aA (dU hA) (cZ (c8 (e7 hl)) (Bx (R:=d6 (b<=·)) (F:=dN.aZ) (I:=λρ=>∃o,ρ=o::iJ l lm lw o2 o3 o4 o5 o6) (λx h=>h.cm λl c hp a=>⟨hp,x l c a⟩) (λH' x=>dE hA (x _ _ hA)) (λp v ρ hp e hi=>?_) (λacc H' x ha=>jB (aA rfl (h acc _ _ (x.trans (aC.aT _ _)) (aG hb x.len) (bz _ _) (HR ha (λζ h=>h) (aC.aT _ _))))) (DW ps) ⟨none,rfl⟩))))
 obtain⟨o,rfl⟩:=hi
 subst e
 exact aA (a:=some (bW p)::iJ l lm lw o2 o3 o4 o5 o6) rfl ⟨⟨_,rfl⟩,λH' x N hN=>(w8 (bP (c9 (aU (v:=bW p) rfl (bP (aA (a:=V.int p.aZ) rfl (w9 (c9 (aU (v:=bW p) rfl (bP (aA (a:=V.aF (aS p.cf)) rfl (aA (DV (H:=H') (vs:=aS p.cf)) (cZ (c8 (e7 (h2 p hp))) (jB (hN _ _ (aC.aT _ _) (.aZ (aG hb x.len) (bz _ _)))))))))))))))))⟩
theorem O5{P:Nat->Prop}{H:Hp}{f:Nat->Int}:∀js:List Nat,ct (d6 P H) (js.map λk=>.bS k (f k)) (js.map λk=>w7 k (f k))
 |[]=>.nil
 |_::js=>.cons .bS (O5 js)
noncomputable abbrev ds2:S:=.aY (.J 2) (.bin .add (.J 2) (.comp 1 (.aF [(.k (.str "died")),.J 0,(.br (.br (.J 2) (.J 0)) (kI 3))]) (.J 0) (.range (kI 0) (.bi .len [.J 1])) [(.isNone false (.br (.br (.J 2) (.J 0)) (kI 3)))]))
theorem s2{ds:List dN}(hb:b<=H.length)(hA:H[l]?=some (.list (ps.map bW)))(hl:ps.length<=60)(p6:vs.length<=60)(hD:H[ld]?=some (.list vs))(hd:ct (d6 (Bl b ld) H) ds vs)(h:∀vs ld H',aC H H'->b<=ld->vs.length<=120->H'[ld]?=some (.list vs)->ct (d6 (Bl b ld) H') (ds++HS ps) vs->aX C rest (iJ l lm lw (some (.ref ld)) o3 o4 o5 o6) H' K):aX C (ds2::rest) (iJ l lm lw (some (.ref ld)) o3 o4 o5 o6) H K:=by
 refine eD (f9 (aU rfl (lP (aA (cU hA) ?_))))
 rw[bJ]
 refine pT (cG hl (by decide)) (cZ (c8 (by rw[bJ,jI];exact cG hl (by decide))) (mj (P:=fq ps) (F:=λk=>w7 k ((fQ ps k).getD 0)) (List.range ps.length) _ _ (λj hj T hT=>?_) (λj hj hd N hN=>?_) ?_))
 ·refine(at_of (i8.mp hj)).elim λp hp=>(aA (fY hA hp) ?_:aO (ik (.ref l) (nv j) H) _)
  unfold fq at hT
  rw[hp] at hT
  have hT:T p.bS.isSome H:=hT
  unfold bW
  cases hd:p.bS with
  |none=>rw[hd] at hT;exact hT
  |some d=>rw[hd] at hT;exact hT
 ·refine(at_of (i8.mp hj)).elim λp hp=>(aA (fY hA hp) ?_:aO (ik (.ref l) (nv j) H) _)
  unfold fq at hd
  rw[hp] at hd
  obtain⟨e,he⟩:=uk.mp hd
  unfold fQ at hN
  rw[hp,show(some p).bind (·.bS)=some e from he] at hN
  unfold bW
  rw[he]
  exact hN
 ·refine jB ?_
  have eR:((List.range ps.length).filter (fq ps)).length<=60:=aG (oo _ _) (by rw[jI];exact hl)
  refine tI (bu _ hD) (bz _ _) (by rw[b6,nil_append,bJ];exact cG (oq p6 eR) (by decide)) (aA rfl (h _ _ _ ((aC.aT _ _).trans (aC.aT _ _)) (aG hb (aC.aT _ _).len) (by rw[b6,nil_append,bJ];exact oq p6 eR) (bz _ _) ((HR (O3 hd (aC.aT _ _)) (λζ h=>h.1) (aC.aT _ _)).aT ?_)))
  unfold HS cc
  rw[nil_append]
  exact O5 _
noncomputable abbrev O6:List S:=[.bD (.isNone false (.br (.br (.J 1) (.J 3)) (kI 2)))
   [.expr (.cR .append (.J 2) [(.aF [(.k (.str "adopted")),.J 3,(.br (.br (.br (.J 1) (.J 3)) (kI 2)) (kI 0)),(.listOf (.br (.br (.br (.J 1) (.J 3)) (kI 2)) (kI 1)))])])]
   []]
noncomputable abbrev ds3:S:=.for (.J 3) (.range (kI 0) (.bi .len [.J 1])) O6
theorem xd(h:WE C e1 ρ H λa H=>WE C e2 ρ H λb H=>WE C e3 ρ H λc H=>WE C e4 ρ H λd H=>Q (.aF [a,b,c,d]) H):WE C (.aF [e1,e2,e3,e4]) ρ H Q:=h
theorem O7{an:List Nat}(hp:ps[k]?=some p):nR ps (an++[k])=nR ps an++(match p.ad with|none=>[]|some x=>[dN.adopt k x]):=by
 unfold nR
 rw[List.filterMap_append]
 congr 1
 rw[List.filterMap_cons,hp,List.filterMap_nil]
 rw[show((some p).bind λp=>p.ad.map λx=>dN.adopt k x)=p.ad.map (λx=>dN.adopt k x) from rfl]
 cases p.ad<;>rfl
theorem zf{lu:Nat}(hj:ρ[j]?.join=some (.ref lu))(hu:H[lu]?=some (.list us))(h:WE C e ρ H λv H1=>oD .append (.ref lu) [v] H1 Q):WE C (.cR .append (.J j) [e]) ρ H Q:=aA hj (gf hu h)
noncomputable def O8(ζ:Prop)(b ld:Nat)(ps:List bb)(ds:List dN)(H:Hp)(ρf:Option V->bv)(as:List Nat)(ρ:bv)(H':Hp):Prop:=∀(o3:Option V) (an:List Nat) (iY:List V) (e:ρ=ρf o3) (x:bO ld H H') (t:an++as=List.range ps.length) (a:H'[ld]?=some (.list iY)) (ha:ct (d6 (Bn b ld) H') (ds++nR ps an) iY) (gX:iY.length<=120+an.length),ζ
def HT:=λb ld ps ds H ρf as ρ H'=>∀ζ:Prop,O8 ζ b ld ps ds H ρf as ρ H'->ζ
theorem HT.mk{b ld ps ds H ρf as ρ H'}:O8 (HT b ld ps ds H ρf as ρ H') b ld ps ds H ρf as ρ H':=λx0 x1 x2 x3 x4 x5 x6 x7 x8 ζ k=>k x0 x1 x2 x3 x4 x5 x6 x7 x8
theorem s3a(hA:H[l]?=some (.list (ps.map bW)))(hp:ps[k]?=some p)(h2:∀x,p.ad=some x->x.2.length<=2)(a:H[ld]?=some (.list vs))(hv:vs.length<=10000)(no:p.ad=none->aX C rest (iJ l lm lw (some (.ref ld)) (some (nv k)) o4 o5 o6) H K)(yes:∀z H',p.ad=some z->H'=(H++[aI.list (aS z.2)]).set ld (.list (vs++[tT (nv k) (.int z.1) H.length]))->aX C rest (iJ l lm lw (some (.ref ld)) (some (nv k)) o4 o5 o6) H' K):aX C (O6++rest) (iJ l lm lw (some (.ref ld)) (some (nv k)) o4 o5 o6) H K:=by
 have ix:=fY hA hp
 refine g9 (vc (aaL (c9 (c9 (aU rfl (aU rfl (aA ix (bP (aA (a:=mL p.ad) rfl ?_)))))))))
 cases jr:p.ad with
 |none=>exact aA (a:=false) rfl (fL rfl (no jr))
 |some z=>
  have xf:∀{H:Hp} {i:Nat} {w:V} {Q:PQ},ik (.ref l) (nv k) H=some (bW p)->jR [.int z.1,.aF (aS z.2)] (i:Int)=some w->Q w H->WE C (.br (.br (.br (.J 1) (.J 3)) (kI 2)) (.k (.int i))) (iJ l lm lw (some (.ref ld)) (some (nv k)) o4 o5 o6) H Q:=λix e q=>c9 (c9 (c9 (aU rfl (aU rfl (aA ix (bP (aA (a:=mL p.ad) rfl (by rw[jr];exact bP (aA e q)))))))))
  exact aA (a:=true) rfl (ia rfl (oW (zf rfl a (xd (bP (aU rfl (xf (i:=0) ix rfl (w9 (xf (i:=1) ix rfl (aA (DV (vs:=aS z.2)) (cZ (c8 (e7 (h2 z jr))) (jB (gg (bu _ a) (cG hv (by decide)) (yes z _ jr rfl))))))))))))))
theorem s3{ds:List dN}(hb:b<=ld)(hA:H[l]?=some (.list (ps.map bW)))(hl:ps.length<=60)(h2:∀p∈ps,∀x,p.ad=some x->x.2.length<=2)(p6:vs.length<=120)(HU:l<ld)(hD:H[ld]?=some (.list vs))(hd:ct (d6 (Bl b ld) H) ds vs)(h:∀vs o3 H',bO ld H H'->vs.length<=180->H'[ld]?=some (.list vs)->ct (d6 (Bn b ld) H') (ds++nR ps (List.range ps.length)) vs->aX C rest (iJ l lm lw (some (.ref ld)) o3 o4 o5 o6) H' K):aX C (ds3::rest) (iJ l lm lw (some (.ref ld)) o3 o4 o5 o6) H K:=by
 refine oS (wO (bP (aA (cU hA) ?_)))
 rw[bJ]
 refine pT (cG hl (by decide)) (gq (HT b ld ps ds H λo3=>iJ l lm lw (some (.ref ld)) o3 o4 o5 o6) (λk as ρ H' hI=>hI _ λo3 an iY e x t a ha gX=>?_) (λρ H' hI=>hI _ λo3 an iY e x t a ha gX=>?_) _ _ _ (.mk o3 [] vs rfl (bO.refl _ _) rfl hD (by rw[show nR ps []=[] from rfl,fN];exact O4 hd) p6))
 ·subst e
  refine aA (a:=iJ l lm lw (some (.ref ld)) (some (nv k)) o4 o5 o6) rfl λN hN=>?_
  have gd:an.length<=60:=aG (by rw[<-jI (n:=ps.length),<-t,b6];exact eV _ _) hl
  obtain⟨p,hp⟩:=at_of (i8.mp (show k∈List.range ps.length from t▸cY.mpr (.inr dD)))
  have sn:=O7 (an:=an) hp
  refine s3a (rest:=[]) (C:=C.xq) (x _ _ (dq HU) hA) hp (h2 p (ie hp)) a (aG gX (aG (kL gd _) (by decide))) (λjr=>hN _ _ rfl (.mk _ (an++[k]) iY rfl x (iV t) a ?_ (by rw[b6];exact aG gX (kL (eV _ _) _)))) λz H2 jr e2=>?_
  ·rw[jr] at sn
   rw[sn,fN];exact ha
  ·rw[jr] at sn
   have jV:ld<H'.length:=bZ a
   have hx:bO ld H' H2:=by rw[e2];exact(bO.aT _ _ _).trans (bO.set _ _ _)
   refine hN _ _ rfl (.mk _ (an++[k]) _ rfl (x.trans hx) (iV t) (by rw[e2];exact d9 (bu _ a) _) ?_ (by rw[b6,b6];exact jG gX))
   rw[sn,<-mA]
   exact(ha.imp λζ ζ h=>h.cm λl c hp a=>⟨hp,hx l c hp.2 a⟩).snoc (.adopt ⟨aG hb (cW jV),dm jV⟩ (by rw[e2];exact dK (bz _ _) _ (dq jV)))
 ·subst e
  rw[fN] at t
  subst t
  exact h iY o3 H' x (aG gX (by rw[jI];exact kL hl _)) a ha
end
section
variable{b:Nat}{K:Out->Prop}{ws:List iw}
noncomputable abbrev ds4:S:=.aY (.J 2) (.bin .add (.J 2) (.comp 3 (.aF [(.k (.str "married")),.J 0,.J 1,.J 2]) (.aF [.J 0,.J 1,.J 2]) (.of (iI 0 1)) []))
theorem O9{P:Nat->Prop}{H:Hp}:∀ms:List gh,ct (d6 P H) (ms.map .dW) (ms.map λw=>DU w.a w.b w.day)
 |[]=>.nil
 |_::ms=>.cons .dW (O9 ms)
theorem s4{ds:List dN}(hb:b<=H.length)(hM:H[lm]?=some (.list (ms.map iH)))(hl:ms.length<=1000)(p6:vs.length<=180)(hD:H[ld]?=some (.list vs))(hd:ct (d6 (Bn b ld) H) ds vs)(h:∀vs ld H',aC H H'->b<=ld->H.length<=ld->vs.length<=1180->H'[ld]?=some (.list vs)->ct (d6 (Bl b ld) H') (ds++ms.map .dW) vs->aX C rest (iJ l lm lw (some (.ref ld)) o3 o4 o5 o6) H' K):aX C (ds4::rest) (iJ l lm lw (some (.ref ld)) o3 o4 o5 o6) H K:=by
 exact eD (f9 (aU rfl (lP (k9 (c9 (aU rfl (bP (aA (a:=V.ref lm) rfl (aA (dU hM) (cZ (c8 (e7 hl)) (comp_map (I:=λρ=>∃o o' tO,ρ=o::o'::tO::iJ l lm lw (some (.ref ld)) o3 o4 o5 o6) (F:=λw:gh=>DU w.a w.b w.day) (ρf:=λw:gh=>some (nv w.a)::some (nv w.b)::some (.int w.day)::iJ l lm lw (some (.ref ld)) o3 o4 o5 o6) (dE hM hM) (λw ρ hi=>by obtain⟨o,o',tO,rfl⟩:=hi;rfl) (λw=>⟨_,_,_,rfl⟩) (λw ζ N hN=>xd (bP (aU rfl (aU rfl (aU rfl hN))))) (jB (tI (bu _ hD) (bz _ _) (by rw[b6,bJ];exact cG (oq p6 hl) (by decide)) (aA rfl (h _ _ _ ((aC.aT _ _).trans (aC.aT _ _)) (aG hb (aC.aT _ _).len) (aC.aT _ _).len (by rw[b6,bJ];exact oq p6 hl) (bz _ _) ((HR (O3 hd (aC.aT _ _)) (λζ h=>h.1) (aC.aT _ _)).aT (O9 _)))))) ⟨none,none,none,rfl⟩)))))))))))
noncomputable abbrev Pa:S:=.expr (.cR .append (.J 2) [(.aF [(.k (.str "will")),.J 4,.J 5,(.comp 2 (.aF [.J 0,(iI 1 0),(iI 1 1)]) (.aF [.J 0,.J 1]) (.of (.J 6)) [])])])
noncomputable abbrev ds5:S:=.for (.aF [.J 4,.J 5,.J 6]) (.of (iI 0 2)) [Pa]
theorem s5a{w:iw}(a:H[ld]?=some (.list vs))(hv:vs.length<=10000)(hg:w.dO.length<=10)(h:∀H',H'=(H++[aI.list (w.dO.map λg=>DS g.2 g.1)]).set ld (.list (vs++[vj w.fP w.day H.length]))->aX C rest (iJ l lm lw (some (.ref ld)) o3 (some (nv w.fP)) (some (.int w.day)) (some (jX w.dO))) H' K):aX C (Pa::rest) (iJ l lm lw (some (.ref ld)) o3 (some (nv w.fP)) (some (.int w.day)) (some (jX w.dO))) H K:=by
 exact oW (zf rfl a (xd (bP (aU rfl (aU rfl (lP (k9 (aU rfl (aA (a:=w.dO.map nJ) rfl (cZ (c8 (e7 hg)) (comp_map (I:=λρ=>∃o o',ρ=o::o'::iJ l lm lw (some (.ref ld)) o3 (some (nv w.fP)) (some (.int w.day)) (some (jX w.dO))) (F:=λg=>DS g.2 g.1) (ρf:=λg:Nat×Rat=>some (nv g.1)::some (rv g.2)::iJ l lm lw (some (.ref ld)) o3 (some (nv w.fP)) (some (.int w.day)) (some (jX w.dO))) rfl (λg ρ hi=>by obtain⟨o,o',rfl⟩:=hi;rfl) (λg=>⟨_,_,rfl⟩) (λg ζ N hN=>w8 (aU rfl (c9 (aU (v:=rv g.2) rfl (bP (aA (a:=V.int g.2.num) rfl (c9 (aU (v:=rv g.2) rfl (bP (aA (a:=nv g.2.den) rfl hN)))))))))) (jB (gg (bu _ a) (cG hv (by decide)) (h _ rfl))) ⟨none,none,rfl⟩)))))))))))
noncomputable def Pb(ζ:Prop)(b ld:Nat)(ws:List iw)(ds:List dN)(H:Hp)(ρf:Option V->Option V->Option V->bv)(as:List iw)(ρ:bv)(H':Hp):Prop:=∀(o4 o5 o6:Option V) (an:List iw) (iY:List V) (e:ρ=ρf o4 o5 o6) (x:bO ld H H') (t:an++as=ws) (a:H'[ld]?=some (.list iY)) (ha:ct (d6 (Bn b ld) H') (ds++an.map .gi) iY) (gX:iY.length<=1180+an.length),ζ
def HV:=λb ld ws ds H ρf as ρ H'=>∀ζ:Prop,Pb ζ b ld ws ds H ρf as ρ H'->ζ
theorem HV.mk{b ld ws ds H ρf as ρ H'}:Pb (HV b ld ws ds H ρf as ρ H') b ld ws ds H ρf as ρ H':=λx0 x1 x2 x3 x4 x5 x6 x7 x8 x9 dz ζ k=>k x0 x1 x2 x3 x4 x5 x6 x7 x8 x9 dz
theorem s5{ds:List dN}(hb:b<=ld)(hW:H[lw]?=some (.list (ws.map iX)))(qO:ws.length<=1000)(hg:∀w∈ws,u7 N0 w)(p6:vs.length<=1180)(HU:lw<ld)(hD:H[ld]?=some (.list vs))(hd:ct (d6 (Bl b ld) H) ds vs)(h:∀vs o4 o5 o6 H',bO ld H H'->H'[ld]?=some (.list vs)->ct (d6 (Bn b ld) H') (ds++ws.map .gi) vs->aX C rest (iJ l lm lw (some (.ref ld)) o3 o4 o5 o6) H' K):aX C (ds5::rest) (iJ l lm lw (some (.ref ld)) o3 o4 o5 o6) H K:=by
 refine oS (k9 (c9 (aU rfl (bP (aA (a:=V.ref lw) rfl (aA (dU hW) (gq (g:=iX) (HV b ld ws ds H λo4 o5 o6=>iJ l lm lw (some (.ref ld)) o3 o4 o5 o6) (λw as ρ H' hI=>hI _ λo4 o5 o6 an iY e x t a ha gX=>?_) (λρ H' hI=>hI _ λo4 o5 o6 an iY e x t a ha gX=>?_) _ _ _ (.mk o4 o5 o6 [] vs rfl (bO.refl _ _) rfl hD (by rw[map_nil,fN];exact O4 hd) p6))))))))
 ·subst e
  refine aA (a:=iJ l lm lw (some (.ref ld)) o3 (some (nv w.fP)) (some (.int w.day)) (some (jX w.dO))) rfl λN hN=>?_
  have gd:an.length<=1000:=aG (by rw[<-t,b6];exact eV _ _) qO
  have Pc:=hg w (t▸cY.mpr (.inr dD))
  have jV:ld<H'.length:=bZ a
  refine s5a a (aG gX (aG (kL gd _) (by decide))) (Pc _ λgk ζ ζ ζ ζ ζ ζ ζ ζ ζ ζ=>gk.2) λH2 e2=>?_
  have hx:bO ld H' H2:=by rw[e2];exact(bO.aT _ _ _).trans (bO.set _ _ _)
  have hn:H2[H'.length]?=some (.list (w.dO.map λg=>DS g.2 g.1)):=by rw[e2];exact dK (bz _ _) _ (dq jV)
  have za:H2[ld]?=some (.list (iY++[vj w.fP w.day H'.length])):=by rw[e2];exact d9 (bu _ a) _
  refine hN _ _ (dE hW ((x.trans hx) _ _ (dq HU) hW)) (.mk _ _ _ (an++[w]) _ rfl (x.trans hx) (iV t) za ?_ (by rw[b6,b6];exact jG gX))
  rw[jO,<-mA]
  refine(ha.imp λζ ζ h=>h.cm λl c hp a=>⟨hp,hx l c hp.2 a⟩).snoc (Pc _ λgk ζ ns ov un hu e o1 u1 le nd=>?_)
  have qk:=aav hu o1 (aG (Nat.le_mul_of_pos_right ov (length_pos_iff.mpr nd.2.2)) le) u1
  exact .gi (ns:=ns) ⟨aG hb (cW jV),dm jV⟩ (by rw[show ns.map (w5 (Rat.normalize ov un hu).num (Rat.normalize ov un hu).den)=w.dO.map λg=>DS g.2 g.1 by rw[e,map_map];rfl];exact hn) ⟨(Rat.normalize ov un hu).den_nz,Rat.normalize_self _,⟨qk.1,qk.2.1⟩,⟨qk.2.2.1,qk.2.2.2⟩⟩ e
 ·subst e
  rw[fN] at t
  subst t
  exact h iY o4 o5 o6 H' x a ha
theorem aaT(hb:l<H.length/\lw<H.length)(at':eX H r l lm lw)(hl:R3 r)(hW:fk r.ps)(hg:∀w∈r.ws,u7 N0 w)(q:∀vs ld H',aC H H'->H.length<=ld->H'[ld]?=some (.list vs)->ct (d6 (Bn H.length ld) H') (By r) vs->Q (.ref ld) H'):aH (n+1) 49 [.aF [.ref l,.ref lm,.ref lw]] H Q Y:=Xx (at' _ λap am aw=>by
 have two:∀p∈r.ps,p.cf.length<=2:=λp hp=>(List.getElem?_of_mem hp).elim λi hi=>(hW i p hi) _ λζ ζ c ζ ζ=>c.1
 have two':∀p∈r.ps,∀x,p.ad=some x->x.2.length<=2:=λp hp x hx=>(List.getElem?_of_mem hp).elim λi hi=>(hW i p hi) _ λζ ζ ζ d ζ=>(d x hx).1
 refine s1 (b:=H.length) (bX _) ap hl.1 two λvs1 ld1 H1 x1 b1 a1 d1=>?_
 have v1:vs1.length<=60:=by rw[d1.len,bJ];exact hl.1
 refine s2 (b:=H.length) x1.len (x1 _ _ ap) hl.1 v1 a1 d1 λvs2 ld2 H2 x2 b2 v2 a2 d2=>?_
 have eA:=x1.trans x2
 refine s3 (b:=H.length) b2 (eA _ _ ap) hl.1 two' v2 (cL hb.1 b2) a2 d2 λvs3 o3 H3 x3 v3 a3 d3=>?_
 have fZ:aC H H3:=x3.ext eA b2
 refine s4 (b:=H.length) fZ.len (fZ _ _ am) hl.2.1 v3 a3 d3 λvs4 ld4 H4 x4 b4 ζ v4 a4 d4=>?_
 have jW:=fZ.trans x4
 refine s5 (b:=H.length) b4 (jW _ _ aw) hl.2.2 hg v4 (cL hb.2 b4) a4 d4 λvs5 o4 o5 o6 H5 x5 a5 d5=>?_
 exact q vs5 ld4 H5 (x5.ext jW b4) b4 a5 d5)
end
noncomputable abbrev kC(p:bb):bb:=⟨p.aZ,p.cf,none,none⟩
theorem HW{q q':Rat}:∀{ns mX:List Nat},ns.map (λj=>(j,q))=mX.map (λj=>(j,q'))->ns=mX/\(mX≠[]->q=q')
 |[],[],_=>⟨rfl,λh=>absurd rfl h⟩
 |[],_::_,h=>by cases h
 |_::_,[],h=>by cases h
 |a::r,b::t,h=>by
  have h:=i6 (show(a,q)::r.map (λj=>(j,q))=(b,q')::t.map λj=>(j,q') from h)
  injection h.1 with e1 e2
  exact⟨by rw[e1,(HW h.2).1],λζ=>e2⟩
inductive Acc:cV->dN->cV->Prop
 |aZ {r:cV} {p:bb}:mW r.ps (.int p.aZ) (aS p.cf)=none->p.cf.length<=2->r.ps.length<=60->(cc (r.ps++[kC p])=[]\/dC ⟨r.ps++[kC p],r.ms,r.ws⟩)->Acc r (.aZ p) ⟨r.ps++[kC p],r.ms,r.ws⟩
 |bS {r:cV} {k:Nat} {e:Int} {p:bb}:r.ps[k]?=some p->outD r (nv k) (.int e)=none->r.ps.length<=60->dC ⟨r.ps.set k (kB p e),r.ms,r.ws⟩->Acc r (.bS k e) ⟨r.ps.set k (kB p e),r.ms,r.ws⟩
 |adopt {r:cV} {k:Nat} {x:Int×List Nat} {p:bb}:mu r.ps (nv k) (.int x.1) (aS x.2)=none->r.ps[k]?=some p->x.2.length<=2->r.ps.length<=60->(cc (r.ps.set k (jw p x.1 x.2))=[]\/dC ⟨r.ps.set k (jw p x.1 x.2),r.ms,r.ws⟩)->Acc r (.adopt k x) ⟨r.ps.set k (jw p x.1 x.2),r.ms,r.ws⟩
 |dW {r:cV} {w:gh}:r.ps.length<=60->vo r->r.ms.length<=1000->oY r (nv w.a) (nv w.b) (.int w.day)=none->dC ⟨r.ps,r.ms++[w],r.ws⟩->Acc r (.dW w) ⟨r.ps,r.ms++[w],r.ws⟩
 |gi {r:cV} {w:iw}:r.ps.length<=60->r.ws.length<=1000->u7 r.ps.length w->yT r.ps w->dC ⟨r.ps,r.ms,r.ws++[w]⟩->Acc r (.gi w) ⟨r.ps,r.ms,r.ws++[w]⟩
inductive Runs:cV->List dN->cV->Prop
 |nil {r:cV}:Runs r [] r
 |cons {r r' r'':cV} {d:dN} {ds:List dN}:Acc r d r'->Runs r' ds r''->Runs r (d::ds) r''
theorem Runs.aT{r'':cV}{ds es:List dN}(h:Runs r ds r')(h':Runs r' es r''):Runs r (ds++es) r'':=h.rec (motive:=λr ds r' ζ=>Runs r' es r''->Runs r (ds++es) r'') (λh=>h) (λa ζ ih h=>.cons a (ih h)) h'
theorem tU:∀ks:List Nat,(aS ks).map natOf=ks
 |[]=>rfl
 |k::ks=>b7 (k::·) (tU ks)
theorem DX{ks:List Nat}:∀v∈aS ks,sc v=true:=λv hv=>(ii.mp hv).elim λk hk=>hk.2▸rfl
section
variable{z:Nat->Prop}{d:dN}{P:Nat->Prop}
def OkR(z:Nat->Prop)(B:Nat)(H:Hp)(r:cV)(v:V)(H':Hp):Prop:=dZ B H H'/\cz z B H' r (jv ro r)
set_option tactic.hygienic true in
theorem aaY(b:fB z B H ro r)(a:Acc r d r')(h:d6 P H d v)(hP:∀l,P l->l<B\/B+5<=l)(q:∀u H',dZ B H H'->cz z B H' r' (jv ro r')->Q (.aF [.str "",u]) H'):aH (n+71) 47 [.ref (B+1),v] H Q Y:=by
 refine ze (n:=n+69) (okR:=OkR z B H r') (err:=none) (λQ' Y' hq ζ=>?_) (λu H' ok=>q u H' ok.1 ok.2) λj hj=>(nomatch hj)
 cases a with
 |aZ h1 h2 h3 h4=>
  cases h with
  |aZ p1 p2=>
   refine OV b (OG (n:=n) b h3 p2 DX rfl (by rw[bJ];exact aG h2 (by decide)) (hP _ p1) (λk hk=>by rw[h1] at hk;cases hk) (λζ=>?_) λζ H' x b'=>?_)
   ·rw[tU];exact h4
   ·rw[tU] at b';exact hq _ _ ⟨x,b'⟩
 |bS h1 h2 h3 h4=>
  cases h with
  |bS=>
   refine OY b (O1 (n:=n) b h3 rfl rfl (λj hj=>by rw[h2] at hj;cases hj) (λζ p hp=>?_) λζ p hp H' x b'=>?_)
   ·have e:=dH (h1.symm.trans hp)
    rw[<-e];exact h4
   ·have e:=dH (h1.symm.trans hp)
    rw[<-e] at b';exact hq _ _ ⟨x,b'⟩
 |adopt h1 h2 h3 h4 h5=>
  cases h with
  |adopt p1 p2=>
   refine OW b (OH (n:=n) b h4 p2 DX rfl rfl (by rw[bJ];exact aG h3 (by decide)) (λk hk=>by rw[h1] at hk;cases hk) (λζ p hp=>?_) λζ p hp H' x b'=>?_)
   ·have e:=dH (h2.symm.trans hp)
    rw[tU,<-e];exact h5
   ·have e:=dH (h2.symm.trans hp)
    rw[tU,<-e] at b';exact hq _ _ ⟨x,b'⟩
 |dW h1 h2 h3 h4 h5=>
  cases h with
  |dW=>exact OX b (O2 (n:=n) b h1 h2 h3 rfl rfl rfl (λj hj=>by rw[h4] at hj;cases hj) (λζ=>.inr h5) λζ H' x b'=>hq _ _ ⟨x,b'⟩)
 |gi h1 h2 h3 h4 h5=>
  cases h with
  |gi p1 p2 p3 p4=>
   rename_i w lg b' a' mX q'
   refine h3 _ λgk dy ns ov un hu e o1 u1 le nd=>?_
   obtain⟨p,hp,d1,d2,d3⟩:=h4
   obtain⟨fP,day,dO⟩:=w
   have p4:dO=mX.map λj=>(j,q'):=p4
   subst p4
   have e:=HW (show mX.map (λj=>(j,q'))=ns.map λj=>(j,Rat.normalize ov un hu) from e)
   have iF:=e.1
   subst iF
   have gk1:=gk.1
   have gk2:=gk.2
   refine OZ b (ON (n:=n) (p:=p) b h1 h2 hp ⟨λj hj=>(gk1 _ (ii.mpr ⟨j,hj,rfl⟩)).1,by have z:=gk2;rw[bJ] at z;exact z⟩ p3 hu (λζ=>e.2 nd.2.2) o1 u1 le ⟨nd.1,nd.2.1⟩ p2 (λj hj=>?_) (λζ=>h5) λζ H' x b'=>hq _ _ ⟨x,b'⟩)
   exfalso
   unfold qX at hj
   rw[bQ (show wh (.int day) 0 100000=true from iA.mpr ⟨dj dy,dj d2⟩),bH,bH] at hj
   ·cases hj
   ·exact λh=>nd.2.2 (isEmpty_iff.mp h)
   ·unfold sj
    have d1:p.aZ<=day:=d1
    rw[gE (kM.mpr d1),rF]
    cases hd:p.bS with
    |none=>exact gM
    |some e=>exact λh=>absurd (d3 e hd) (Int.not_le.mpr (cu h))
theorem Bz:PyData.strOk ""=true:=by decide +kernel
theorem aa1:gP .ne (.str "") (.str "") H=some false:=(b7 (Option.map (!·)) (yR Bz Bz)).trans (by rw[hX];rfl)
end
theorem Pe(h:0<=d/\d<=100000):wh (.int d) 0 100000=true:=iA.mpr ⟨dj h.1,dj h.2⟩
theorem aa2(h:∀p∈ps,p.bS=none):cc ps=[]:=zQ.mpr λk hk=>by
 obtain⟨p,hp⟩:=at_of (i8.mp hk)
 unfold fq
 rw[hp]
 refine(?_:¬p.bS.isSome=true)
 rw[h p (ie hp)]
 exact gM
theorem Pf(ok:dC r)(rr:DK r)(hl:r.ps.length<=60)(hm:r.ms.length<=1000):∀(as an:List gh),an++as=r.ms->Runs ⟨r.ps,an,[]⟩ (as.map .dW) ⟨r.ps,r.ms,[]⟩
 |[],an,e=>by rw[fN] at e;rw[e];exact .nil
 |w::as,an,e=>ok _ λwf len dW dO=>by
  have hw:w∈r.ms:=e▸cY.mpr (.inr dD)
  have sub:∀u∈an,u∈r.ms:=λu hu=>e▸cY.mpr (.inl hu)
  have e':(an++[w])++as=r.ms:=by rw[mA];exact e
  have pw:=rr.2.1.2
  rw[<-e] at pw
  have g:=rr.2.1.1 w hw
  have o:oY ⟨r.ps,an,[]⟩ (nv w.a) (nv w.b) (.int w.day)=none:=by
   unfold oY
   rw[bQ (iA.mpr ⟨wX (dW w hw).1,wX (dW w hw).2⟩),bQ (Pe ⟨g.2.2.2.1,g.2.2.2.2⟩)]
   refine(?_:qZ ⟨r.ps,an,[]⟩ w=none)
   unfold qZ
   rw[bH,bQ]
   ·exact j1.mpr λu hu=>(List.pairwise_append.mp pw).2.2 u hu w dD
   ·rw[g.2.1,g.2.2.1,show((w.a:Int)==(w.b:Int))=false from rC.mpr λe=>g.1 (om e)]
    exact gM
  exact .cons (.dW hl ⟨λu hu=>dW u (sub u hu),λu hu=>(rr.2.1.1 u (sub u hu)).2.2.2.2⟩ (aG (by rw[<-e,b6];exact eV _ _) hm) o (.mk wf len (λu hu=>dW u (e'▸cY.mpr (.inl hu))) λζ h=>(nomatch h))) (Pf ok rr hl hm as (an++[w]) e')
theorem Pg(ok:dC r)(rr:DK r)(hl:r.ps.length<=60)(hw:r.ws.length<=1000):∀(as an:List iw),an++as=r.ws->Runs ⟨r.ps,r.ms,an⟩ (as.map .gi) r
 |[],an,e=>by rw[fN] at e;rw[e];exact .nil
 |w::as,an,e=>ok _ λwf len dW dO=>by
  have hm:w∈r.ws:=e▸cY.mpr (.inr dD)
  have e':(an++[w])++as=r.ws:=by rw[mA];exact e
  exact .cons (.gi hl (aG (by rw[<-e,b6];exact eV _ _) hw) (dO w hm) (rr.2.2 w hm) (.mk wf len dW λu hu=>dO u (e'▸cY.mpr (.inl hu)))) (Pg ok rr hl hw as (an++[w]) e')
def Ph(ps:List bb):Prop:=∀(k:Nat) p,ps[k]?=some p->(∀j∈p.cf,j<k/\jt ps p.aZ j)/\kg p.cf/\0<=p.aZ/\p.aZ<=100000
theorem Pj{ks:List Nat}(h:∀k∈ks,k<ps.length):sh ps (aS ks)=true:=j1.mpr λv hv=>(ii.mp hv).elim λk hk=>hk.2▸wX (h k hk.1)
theorem Pk{ks:List Nat}(h2:kg ks)(h:∀k∈ks,jt ps d k):gJ ps ks d=false:=by
 unfold gJ
 rw[gE (fv.mpr h2.1),gE (λhn=>hn h2.2)]
 refine any_eq_false.mpr λk hk=>?_
 obtain⟨q,hq,ey⟩:=h k hk
 unfold si
 rw[hq,decide_eq_true_eq]
 exact Int.not_le.mpr ey
theorem Pl(hB:Ph ps)(hl:ps.length<=60):∀(as an:List bb),an++as=ps->Runs ⟨an.map kC,[],[]⟩ (as.map .aZ) ⟨ps.map kC,[],[]⟩
 |[],an,e=>by rw[fN] at e;rw[e];exact .nil
 |p::as,an,e=>by
  have hp:ps[an.length]?=some p:=by rw[<-e,pv (bX _),qi];rfl
  obtain⟨h1,h2,h3,h4⟩:=hB an.length p hp
  have e':(an++[p])++as=ps:=by rw[mA];exact e
  have eR:(an.map kC).length=an.length:=bJ _
  have ey:an.length<60:=cL (d7.mp hp).1 hl
  have old:∀j∈p.cf,jt (an.map kC) p.aZ j:=λj hj=>(h1 j hj).2.elim λq hq=>⟨kC q,by
   rw[i7]
   have:=hq.1
   rw[<-e,sL (h1 j hj).1] at this
   rw[this];rfl,hq.2⟩
  have ob:mW (an.map kC) (.int p.aZ) (aS p.cf)=none:=by
   unfold mW
   rw[bQ (Pj λk hk=>by rw[eR];exact(h1 k hk).1),bQ (show wh (.int p.aZ) 0 100000=true from iA.mpr ⟨dj h3,dj h4⟩),tU,bH (by rw[show gJ (an.map kC) p.cf (fu (.int p.aZ))=false from Pk h2 old];decide),bH (by rw[eR];exact not_le.mpr ey)]
  have z:=Pl hB hl as (an++[p]) e'
  rw[jO] at z
  refine .cons (.aZ ob h2.1 (by rw[eR];exact cW ey) (.inl (aa2 λq hq=>?_))) z
  rcases cY.mp hq with hq|hq
  ·obtain⟨x,_,rfl⟩:=ii.mp hq;rfl
  ·rw[dI.mp hq]
section
variable{qs:List bb}
def xg(ps qs:List bb):Prop:=qs.length=ps.length/\∀(k:Nat) p,ps[k]?=some p->∃q,qs[k]?=some q/\q.aZ=p.aZ/\q.cf=p.cf/\(q.ad=none\/q.ad=p.ad)
theorem xg.old(h:xg ps qs){b:Int}(o:jt ps b j):jt qs b j:=o.elim λz hz=>(h.2 j z hz.1).elim λq hq=>⟨q,hq.1,by rw[hq.2.1];exact hz.2⟩
theorem xg.wf(h:xg ps qs)(wf:fk ps):fk qs:=λk q hq=>by
 obtain⟨p,hp⟩:=at_of (show k<ps.length from h.1▸(d7.mp hq).1)
 obtain⟨q',Pn,e1,e2,e3⟩:=h.2 k p hp
 rw[hq] at Pn
 cases Pn
 exact(wf k p hp) _ λa b c d e=>.mk (by rw[e2,e1];exact λj hj=>h.old (a j hj)) (λx hx j hj=>by rw[e1];rcases e3 with e3|e3<;>rw[e3] at hx<;>first|cases hx|exact h.old (b x hx j hj)) (e2▸c) (λx hx=>by rcases e3 with e3|e3<;>rw[e3] at hx<;>first|cases hx|exact d x hx) (e1▸e)
def zg(ps:List bb)(as:List Nat)(qs:List bb):Prop:=qs.length=ps.length/\∀(k:Nat) p,ps[k]?=some p->qs[k]?=some (if k∈as then kC p else⟨p.aZ,p.cf,none,p.bS⟩)
def DY(ps:List bb)(as:List Nat)(qs:List bb):Prop:=qs.length=ps.length/\∀(k:Nat) p,ps[k]?=some p->qs[k]?=some (if k∈as then⟨p.aZ,p.cf,none,p.bS⟩ else p)
theorem zg.DZ(h:zg ps as qs):xg ps qs:=⟨h.1,λk p hp=>⟨_,h.2 k p hp,by split<;>rfl,by split<;>rfl,.inl (by split<;>rfl)⟩⟩
theorem DY.DZ(h:DY ps as qs):xg ps qs:=⟨h.1,λk p hp=>⟨_,h.2 k p hp,by split<;>rfl,by split<;>rfl,by split;exact .inl rfl;exact .inr rfl⟩⟩
theorem Po{HX:List bb}{f:Nat->bb->bb}(h:qs.length=ps.length/\∀(k:Nat) p,ps[k]?=some p->qs[k]?=some (f k p))(h':HX.length=ps.length/\∀(k:Nat) p,ps[k]?=some p->HX[k]?=some (f k p)):qs=HX:=ext_getElem? λk=>by
 cases hp:ps[k]? with
 |some p=>rw[h.2 k p hp,h'.2 k p hp]
 |none=>
  have hn:=sP.mp hp
  rw[sP.mpr (h.1▸hn),sP.mpr (h'.1▸hn)]
theorem Pp(h:xg ps qs)(wf:fk ps)(hl:ps.length<=20):dC ⟨qs,[],[]⟩:=.mk (h.wf wf) (h.1▸hl) (λζ h=>(nomatch h)) λζ h=>(nomatch h)
theorem Pq(wf:fk ps)(rp:qU ps)(hl:ps.length<=20){qf:List bb}(hf:zg ps [] qf):∀(as:List Nat) (qs:List bb),as.Nodup->(∀k∈as,k∈cc ps)->zg ps as qs->Runs ⟨qs,[],[]⟩ (as.map λk=>.bS k ((fQ ps k).getD 0)) ⟨qf,[],[]⟩
 |[],qs,_,_,h=>by rw[Po h hf];exact .nil
 |k::as,qs,nd,hd,h=>by
  obtain⟨p,e,hp,he⟩:=Om (hd k dD)
  have nd:=nj.mp nd
  have hk:=(d7.mp hp).1
  have hq:qs[k]?=some (kC p):=(h.2 k p hp).trans (by rw[bQ dD])
  have hi:(fQ ps k).getD 0=e:=by unfold fQ;rw[hp];exact congrArg (Option.getD · 0) he
  have st:zg ps as (qs.set k (kB (kC p) e)):=⟨by rw[gR];exact h.1,λi q hi=>by
   by_cases ei:k=i
   ·subst ei
    rw[hp] at hi;cases hi
    rw[sN (h.1▸hk),bH nd.1,he]
   ·rw[ud ei,h.2 i q hi]
    refine b7 some ?_
    by_cases hm:i∈as
    ·rw[bQ hm,bQ (List.mem_cons_of_mem _ hm)]
    ·rw[bH hm,bH λhh=>(gB.mp hh).elim (λe=>ei e.symm) hm]⟩
  have rk:=(rp k p hp).2.2.1 e he
  have z0:0<=p.aZ:=(wf k p hp) _ λζ ζ ζ ζ z=>z
  rw[nk,hi]
  have o:outD ⟨qs,[],[]⟩ (nv k) (.int e)=none:=by
   unfold outD
   rw[bQ (wX (h.1▸hk)),bQ (Pe ⟨by lia,rk.2⟩),show natOf (nv k)=k from rfl,hq]
   refine(?_:oX ⟨qs,[],[]⟩ (kC p) k e=none)
   unfold oX vn
   refine(bH (show ¬(none:Option Int).isSome=true from gM)).trans (bH ?_)
   rw[show decide (e<(kC p).aZ)=false from gE (kM.mpr rk.1)]
   exact gM
  exact .cons (.bS hq o (h.1▸aG hl (by decide)) (Pp st.DZ wf hl)) (Pq wf rp hl hf as _ nd.2 (λj hj=>hd j (.tail _ hj)) st)
theorem HY(wf:fk ps)(rp:qU ps)(hl:ps.length<=20):∀(as:List Nat) (qs:List bb),as.Nodup->(∀k∈as,k<ps.length)->DY ps as qs->Runs ⟨qs,[],[]⟩ (nR ps as) ⟨ps,[],[]⟩
 |[],qs,_,_,h=>by rw[Po (f:=λζ p=>p) h ⟨rfl,λk p hp=>hp⟩];exact .nil
 |k::as,qs,nd,hd,h=>by
  obtain⟨p,hp⟩:=at_of (hd k dD)
  have nd:=nj.mp nd
  have hk:=(d7.mp hp).1
  have hq:qs[k]?=some ⟨p.aZ,p.cf,none,p.bS⟩:=(h.2 k p hp).trans (by rw[bQ dD])
  have oth:∀{i q},k≠i->ps[i]?=some q->qs[i]?=some (if i∈as then⟨q.aZ,q.cf,none,q.bS⟩ else q):=λ{i q} ei hi=>by
   rw[h.2 i q hi]
   refine b7 some ?_
   by_cases hm:i∈as
   ·rw[bQ hm,bQ (List.mem_cons_of_mem _ hm)]
   ·rw[bH hm,bH λhh=>(gB.mp hh).elim (λe=>ei e.symm) hm]
  have ds:nR ps (k::as)=(match p.ad with|none=>[]|some x=>[dN.adopt k x])++nR ps as:=by
   have z2:nR ps (k::as)=nR ps ([]++[k])++nR ps as:=by
    unfold nR
    rw[<-List.filterMap_append];rfl
   rw[z2,O7 (an:=[]) hp];rfl
  rw[ds]
  cases jr:p.ad with
  |none=>
   refine HY wf rp hl as qs nd.2 (λj hj=>hd j (.tail _ hj)) ⟨h.1,λi q hi=>?_⟩
   by_cases ei:k=i
   ·subst ei
    rw[hp] at hi;cases hi
    rw[hq,bH nd.1,<-jr]
   ·exact oth ei hi
  |some x=>
   obtain⟨r1,r2,r3,r4⟩:=(rp k p hp).2.2.2 x jr
   have z0:0<=p.aZ:=(wf k p hp) _ λζ ζ ζ ζ z=>z
   have h2:kg x.2:=(wf k p hp) _ λζ ζ ζ d ζ=>d x jr
   have old:∀j∈x.2,jt qs p.aZ j:=(wf k p hp) _ λζ b ζ ζ ζ=>λj hj=>h.DZ.old (b x jr j hj)
   have st:DY ps as (qs.set k (jw ⟨p.aZ,p.cf,none,p.bS⟩ x.1 x.2)):=⟨by rw[gR];exact h.1,λi q hi=>by
    by_cases ei:k=i
    ·subst ei
     rw[hp] at hi;cases hi
     rw[sN (h.1▸hk),bH nd.1]
     obtain⟨pb,pp,pa,pd⟩:=p
     cases jr;rfl
    ·rw[ud ei];exact oth ei hi⟩
   have oa:mu qs (nv k) (.int x.1) (aS x.2)=none:=by
    unfold mu
    rw[bQ (iA.mpr ⟨wX (h.1▸hk),Pj λj hj=>(old j hj).elim λz hz=>(d7.mp hz.1).1⟩),bQ (show wh (.int x.1) 0 100000=true from iA.mpr ⟨dj (by lia),dj r2⟩),show natOf (nv k)=k from rfl,hq,tU]
    refine(?_:nQ qs ⟨p.aZ,p.cf,none,p.bS⟩ x.2 x.1=none)
    unfold nQ
    rw[bH,bH,bH]
    ·exact gM
    ·rw[show gJ qs x.2 p.aZ=false from Pk h2 old,Bool.or_false]
     exact λhh=>r4 (isEmpty_iff.mp hh)
    ·unfold vi
     rw[gE (kM.mpr r1),rF]
     cases pP:p.bS with
     |none=>exact gM
     |some e=>exact λhh=>absurd (r3 e pP) (kM.mpr (cu hh))
   exact .cons (.adopt oa hq h2.1 (h.1▸aG hl (by decide)) (.inr (Pp st.DZ wf hl))) (HY wf rp hl as _ nd.2 (λj hj=>hd j (.tail _ hj)) st)
theorem aa4(wf:fk ps)(rp:qU ps):Ph ps:=λk p hp=>(wf k p hp) _ λa b c d e=>⟨λj hj=>⟨(rp k p hp).1 j hj,a j hj⟩,c,e,Int.le_trans (rp k p hp).2.1 (by decide)⟩
theorem aa5(f:bb->bb):(ps.map f).length=ps.length/\∀(k:Nat) p,ps[k]?=some p->(ps.map f)[k]?=some (f p):=⟨bJ _,λk p hp=>by rw[i7,hp];rfl⟩
theorem aa6(ok:dC r)(rr:DK r)(hl:r.ps.length<=20)(hm:r.ms.length<=1000)(hw:r.ws.length<=1000):Runs ⟨[],[],[]⟩ (By r) r:=ok _ λwf len dW dO=>by
 have mr:r.ps.length<=60:=aG hl (by decide)
 unfold By
 refine(((Runs.aT (r':=⟨r.ps.map kC,[],[]⟩) (r'':=⟨r.ps.map λp=>⟨p.aZ,p.cf,none,p.bS⟩,[],[]⟩) (Pl (aa4 wf rr.1) mr r.ps [] rfl) ?_).aT ?_).aT (Pf ok rr mr hm r.ms [] rfl)).aT (Pg ok rr mr hw r.ws [] rfl)
 ·refine Pq wf rr.1 len (aa5 _:zg r.ps [] _) (cc r.ps) _ (Pairwise.filter _ List.nodup_range) (λk h=>h) ⟨bJ _,λk p hp=>?_⟩
  rw[i7,hp]
  refine b7 some ?_
  by_cases hk:k∈cc r.ps
  ·rw[bQ hk]
  ·rw[bH hk]
   have:p.bS=none:=by
    cases hd:p.bS with
    |none=>rfl
    |some e=>exact absurd (List.mem_filter.mpr ⟨List.mem_range.mpr (List.getElem?_eq_some_iff.mp hp).1,by unfold fq;rw[hp];refine(?_:p.bS.isSome=true);rw[hd];rfl⟩) hk
   rw[this]
 ·refine HY wf rr.1 len _ _ List.nodup_range (λk h=>i8.mp h) ⟨bJ _,λk p hp=>?_⟩
  rw[i7,hp,bQ (i8.mpr (d7.mp hp).1)];rfl
end
section
variable{z:Nat->Prop}{K:Out->Prop}{w:V}{P:Nat->Prop}
theorem so{op:pD}{a i:E}(h:WE C a ρ H λx H=>WE C i ρ H λy H=>aO (gP op x y H) λt=>Q (.bool t) H):WE C (.cmp op a i) ρ H Q:=h
theorem D0{x:E}(h:WE C x ρ H λu H=>C.call f [u] H Q C.exc):WE C (.call f [x]) ρ H Q:=h
theorem Ps(h:WE C e1 ρ H λa H=>WE C e2 ρ H λb H=>WE C e3 ρ H λc H=>WE C e4 ρ H λd H=>Q (.aF [a,b,c,d]) H):WE C (.aF [e1,e2,e3,e4]) ρ H Q:=h
theorem zi(h:WE C e ρ H λx H=>aO (iQ H x) λt=>aO (rJ H t) λζ=>C.call m [x] H Q C.exc):WE C (.cQ m e []) ρ H Q:=h
theorem HZ(h:WE C e1 ρ H λx H=>aO (iQ H x) λt=>aO (rJ H t) λζ=>WE C e2 ρ H λy H=>C.call m [x,y] H Q C.exc):WE C (.cQ m e1 [e2]) ρ H Q:=h
theorem gb.cm{P':Nat->Prop}(h:gb P H rs v)(x:∀l c,P l->H[l]?=some c->P' l/\H'[l]?=some c):gb P' H' rs v:=h.imp λlr h=>h.imp λvs h=>⟨h.1,(x _ _ h.2.1 h.2.2.1).1,(x _ _ h.2.1 h.2.2.1).2,h.2.2.2.1.imp λζ ζ q=>q.imp λl q=>⟨(x _ _ q.1 q.2.2).1,q.2.1,(x _ _ q.1 q.2.2).2⟩,h.2.2.2.2⟩
theorem Pu{rs:List fM}{b:Nat}(hb:b<=H.length)(h:ct (tQ P H) rs us)(ok:∀x∈rs,oQ x)(hs:∀H',aC H H'->fS ws H₀ H'=true){QL:List V->Hp->Prop}(q:∀vs H',aC H H'->ct (tQ (b<=·) H') rs vs->QL vs H'):iR ws H₀ (.aF [.J 0,.J 1,.J 2,.J 3]) (λρ H Q=>WT C [] ρ H Q) (λρ H Q=>WE C (.aF [.J 0,.J 1,.J 2,(.listOf (.J 3))]) ρ H Q) us (none::none::none::none::eW) H [] QL:=by
 refine Bx (R:=tQ (b<=·)) (F:=id) (I:=λρ=>∃o1 o2 o3 o4,ρ=o1::o2::o3::o4::eW) (λx h=>h.imp λl h=>⟨h.1,h.2.1,x _ _ h.2.2⟩) hs (λx v ρ hx hv hi=>?_) (λus H' x hu=>q us H' x (map_id rs▸hu)) h ⟨none,none,none,none,rfl⟩
 obtain⟨o1,o2,o3,o4,rfl⟩:=hi
 obtain⟨ll,hp,rfl,al⟩:=hv
 exact aA (a:=some (Dx x.gr)::some (rv x.part)::some (.str x.how)::some (.ref ll)::eW) rfl ⟨⟨_,_,_,_,rfl⟩,λH' xx N hN=>Ps (aU rfl (aU rfl (aU rfl (w9 (aU rfl (aA (oJ (xx _ _ al)) (cZ (c8 (by rw[bJ];exact cG (ok x hx).2 (by decide))) (jB (hN _ _ (aC.aT _ _) ⟨_,aG hb xx.len,rfl,bz _ _⟩)))))))))⟩
theorem aa7(h:gb P H rs v)(q:∀v' H',aC H H'->gb (H.length<=·) H' rs v'->Q v' H'):aH (n+1) 25 [v] H Q Y:=Xe (by
 obtain⟨lr,vs,rfl,_,a,h,ok,hl⟩:=h
 unfold EQ
 refine oV (lP (k9 (aU (v:=.ref lr) rfl (aA (dU a) (cZ (c8 (show vs.length<16000000 by rw[h.len];exact cG hl (by decide))) ?_)))))
 exact Pu (bX _) h ok (λH' x=>dE a (x _ _ a)) λus H' x hu=>jB (q _ _ (x.trans (aC.aT _ _)) ⟨_,us,rfl,x.len,bz _ _,hu.imp λζ ζ h=>h.imp λl h=>⟨h.1,h.2.1,bu _ h.2.2⟩,ok,hl⟩))
theorem H0(b:cz z B H r fr)(hk:k<r.ps.length)(y:fq r.ps k=false->Y (.ref H.length) (H++[.exc 7]))(q:fq r.ps k=true->∀v' H',aC H H'->gb (H.length<=·) H' (ib r k) v'->Q v' H'):aH (n+3) 70 [.ref (B+1),nv k] H Q Y:=XS (b _ λld ep lf es a0 a1 ap am aw ad hd de dk af hf=>by
 refine(mc a1 a0 (((wY (n:=n) a1 a0 rfl ap rfl (λh1=>(gx (i:=3) a1 a0 rfl ?_)) λh1=>by rw[wX hk] at h1;cases h1):aH (n+2) 57 [.ref (B+1),nv k] H _ _)))
 have e2:gP .jP (nv k) (.ref ld) H=some (!fy es (k:Int)):=b7 (Option.map (!·)) (Ot ad)
 apply aA e2
 rw[dk]
 refine dp (λh=>ft (y ((oj _).mp h))) λh=>?_
 rw[um] at h
 obtain⟨e,he,hg,Ia⟩:=Br ((dk k).trans h)
 refine gx (i:=3) a1 a0 rfl ?_
 apply aA (vg ad hg)
 exact aa7 (n:=n+1) ((de e he).DM Ia) (q h))
theorem Pw(b:cz z B H r fr)(hl:fr.length<=60)(q:Q (.ref H.length) (H++[.list (aS fr)])):aH (n+1) 67 [.ref (B+1)] H Q Y:=XO (b _ λld ep lf es a0 a1 ap am aw ad hd de dk af hf=>by
 refine gx (i:=4) a1 a0 rfl (aA (oJ af) ?_)
 exact cZ (c8 (e7 hl)) q)
theorem Ib(hA:H[l]?=some (.list (ps.map bW)))(hl:ps.length<=60)(q:Q (.ref H.length) (H++[.list (aS (cc ps))])):aH (n+1) 44 [.ref l] H Q Y:=Xs (by
 unfold EU
 refine oV (lP (wO (bP (DJ rfl hA ?_))))
 rw[bJ]
 refine pT (cG hl (by decide)) (cZ (c8 (by rw[bJ,jI];exact cG hl (by decide))) (mj (P:=fq ps) (F:=nv) _ _ _ (λa ha T hT=>((at_of (i8.mp ha)).elim λp hp=>(aA (fY hA hp) ?_:aO (ik (.ref l) (nv a) H) _))) (λa ζ ζ N hN=>hN) q))
 unfold fq at hT
 rw[hp] at hT
 have hT:T p.bS.isSome H:=hT
 unfold bW
 cases hd:p.bS with
 |none=>rw[hd] at hT;exact hT
 |some d=>rw[hd] at hT;exact hT)
end
theorem Ic{α:Type}{d:α->PyData}(h:∀a b,PyData.eqv (d a) (d b)=PyData.eqv (d b) (d a)):∀a b:List α,PyData.eqvAll (a.map d) (b.map d)=PyData.eqvAll (b.map d) (a.map d)
 |[],[]=>rfl
 |[],_::_=>rfl
 |_::_,[]=>rfl
 |x::a,y::b=>by
  refine(?_:(PyData.eqv (d x) (d y)&&PyData.eqvAll (a.map d) (b.map d))=(PyData.eqv (d y) (d x)&&PyData.eqvAll (b.map d) (a.map d)))
  rw[h x y,Ic h a b]
theorem D1(a b:Int):PyData.eqv (.int a) (.int b)=PyData.eqv (.int b) (.int a):=(BEq.comm:(a==b)=(b==a))
theorem aa8(a b:Rat):PyData.eqv (k4 a) (k4 b)=PyData.eqv (k4 b) (k4 a):=by
 refine(?_:(PyData.eqv (.int a.num) (.int b.num)&&(PyData.eqv (.int a.den) (.int b.den)&&true))=(PyData.eqv (.int b.num) (.int a.num)&&(PyData.eqv (.int b.den) (.int a.den)&&true)))
 rw[D1,D1 (a.den:Int)]
theorem aa9(x y:fM):PyData.eqv (mq x) (mq y)=PyData.eqv (mq y) (mq x):=by
 refine(?_:(PyData.eqv (mV x.gr) (mV y.gr)&&(PyData.eqv (k4 x.part) (k4 y.part)&&(PyData.eqv (.str x.how) (.str y.how)&&(PyData.eqvAll (x.line.map λi:Nat=>.int i) (y.line.map λi:Nat=>.int i)&&true))))=(PyData.eqv (mV y.gr) (mV x.gr)&&(PyData.eqv (k4 y.part) (k4 x.part)&&(PyData.eqv (.str y.how) (.str x.how)&&(PyData.eqvAll (y.line.map λi:Nat=>.int i) (x.line.map λi:Nat=>.int i)&&true)))))
 rw[aa8,Ic (d:=λi:Nat=>PyData.int i) (λa b=>D1 a b) x.line y.line,show PyData.eqv (.str x.how) (.str y.how)=PyData.eqv (.str y.how) (.str x.how) from(BEq.comm:(x.how==y.how)=(y.how==x.how)),show PyData.eqv (mV x.gr) (mV y.gr)=PyData.eqv (mV y.gr) (mV x.gr) by cases x.gr<;>cases y.gr<;>first|rfl|exact D1 _ _]
theorem aba(a b:List fM):Bq a b=Bq b a:=b7 not (Ic aa9 a b)
section
variable{K:Out->Prop}{c:V}
theorem kE(i m:Nat){w:Str}{a b:List S}(hj:ρ[j]?.join=some (.aF (.str (knd i)::vs)))(hw:w=knd m)(no:aX C b ρ H (λo=>mG o (λρ H=>aX C rest ρ H K) (K o)))(hi:i<5:=by decide)(hm:m<5:=by decide)(hn:i≠m:=by decide):aX C (.bD (.cmp .eq (.br (.J j) (kI 0)) (.k (.str w))) a b::rest) ρ H K:=by
 subst hw
 exact g9 (ky (c9 (aU hj (bP (aA (a:=V.str (knd i)) rfl (bP (aA (HQ i m hi hm) (uS (λh=>absurd h hn) λζ=>no))))))))
theorem kY(i:Nat){w:Str}{a b:List S}(hj:ρ[j]?.join=some (.aF (.str (knd i)::vs)))(hw:w=knd i)(yes:aX C a ρ H (λo=>mG o (λρ H=>aX C rest ρ H K) (K o)))(hi:i<5:=by decide):aX C (.bD (.cmp .eq (.br (.J j) (kI 0)) (.k (.str w))) a b::rest) ρ H K:=by
 subst hw
 exact g9 (ky (c9 (aU hj (bP (aA (a:=V.str (knd i)) rfl (bP (aA (HQ i i hi hi) (uS (λζ=>yes) λh=>absurd rfl h))))))))
noncomputable abbrev sq(l lm lw:Nat)(D:V)(b:Nat)(o5:Option V):bv:=[some (dP l lm lw),some D,some (.ref b),some (.ref (b+1)),some (.ref (b+2)),o5,none,none,none,none]
theorem D2(h:WE C e1 ρ H λa H=>WE C e2 ρ H λb H=>Q (.aF [a,b]) H):WE C (.aF [e1,e2]) ρ H Q:=h
theorem BA{a b:E}(h:WE C e ρ H λv H=>WE C a ρ H λx H=>WE C b ρ H λk H=>uA x k v H λH'=>aX C rest ρ H' K):aX C (.ij a b e::rest) ρ H K:=h
theorem abb(h:WE C e ρ H λx H=>aO (dJ H x) λxs=>Q (.aF xs) H):WE C (.bi .tupleOf [e]) ρ H Q:=h
theorem abc(ok:R3 r)(at':eX H r l lm lw)(h:∀H',aC H H'->H.length+3<=H'.length->eX H' r H.length (H.length+1) (H.length+2)->aX ⟨aH n,xq Y⟩ (sV.drop 3) (sq l lm lw D H.length none) H' (fA Q)):aH (n+1) 48 [.aF [.ref l,.ref lm,.ref lw],D] H Q Y:=Xw (at' _ λap am aw=>by
 refine aA (oJ ap) (cZ (c8 (e7 ok.1)) (aA (oJ (bu _ am)) (cZ (c8 (e7 ok.2.1)) (aA (oJ (bu _ (bu _ aw))) (cZ (c8 (e7 ok.2.2)) ?_)))))
 have e1:(H++[aI.list (r.ps.map bW)]).length=H.length+1:=b6
 have e2:(H++[aI.list (r.ps.map bW)]++[aI.list (r.ms.map iH)]).length=H.length+2:=by rw[b6,e1];rfl
 have h:=h _ (((aC.aT H [.list (r.ps.map bW)]).trans (aC.aT _ [.list (r.ms.map iH)])).trans (aC.aT _ [.list (r.ws.map iX)])) (by rw[b6,e2];exact bX _) (.mk (bu _ (bu _ (bz _ _))) (bu _ (e1▸bz _ _)) (e2▸bz _ _))
 have h:aX ⟨aH n,xq Y⟩ (sV.drop 3) [some (.aF [.ref l,.ref lm,.ref lw]),some D,some (.ref H.length),some (.ref (H.length+1)),some (.ref (H.length+2)),none,none,none,none,none] _ (fA Q):=h
 rw[<-e2,<-e1] at h
 exact h)
inductive sy:cV->dN->cV->Prop
 |aZ {r:cV} {p:bb}:sy r (.aZ p) ⟨r.ps++[kC p],r.ms,r.ws⟩
 |bS {r:cV} {k:Nat} {e:Int} {p:bb}:r.ps[k]?=some p->sy r (.bS k e) ⟨r.ps.set k (kB p e),r.ms,r.ws⟩
 |adopt {r:cV} {k:Nat} {x:Int×List Nat} {p:bb}:r.ps[k]?=some p->sy r (.adopt k x) ⟨r.ps.set k (jw p x.1 x.2),r.ms,r.ws⟩
 |dW {r:cV} {w:gh}:sy r (.dW w) ⟨r.ps,r.ms++[w],r.ws⟩
 |gi {r:cV} {w:iw}:w.dO.length<=10->sy r (.gi w) ⟨r.ps,r.ms,r.ws++[w]⟩
theorem Acc.done{d:dN}(a:Acc r d r'):sy r d r':=by
 cases a with
 |aZ=>exact .aZ
 |bS h=>exact .bS h
 |adopt _ h=>exact .adopt h
 |dW=>exact .dW
 |gi _ _ h=>exact .gi (h _ λgk ζ ζ ζ ζ ζ ζ ζ ζ ζ ζ=>gk.2)
section
variable{b:Nat}
def tV(H:Hp)(r':cV)(Q:PQ):Prop:=∀a b c H',aC H H'->H.length<=a/\H.length<=b/\H.length<=c->eX H' r' a b c->Q (dP a b c) H'
theorem tV.fin(q:tV H r' Q)(x:aC H H1)(eU:eX H1 r' H.length (H.length+1) (H.length+2)):Q (dP H.length (H.length+1) (H.length+2)) H1:=q _ _ _ _ x ⟨bX _,eV _ _,eV _ _⟩ eU
theorem eX.Px(eU:eX H1 r b (b+1) (b+2))(e:us=ps.map bW):eX (H1.set b (.list us)) ⟨ps,r.ms,r.ws⟩ b (b+1) (b+2):=eU _ λap am aw=>by
 subst e
 exact .mk (d9 ap _) (dK am _ (dq (jH _))) (dK aw _ (dq (lG (jH _))))
theorem abd(x1:aC H H1)(eU:eX H1 r H.length (H.length+1) (H.length+2))(ok:r.ps.length<=60)(hq:H1[lq]?=some (.list (aS p.cf)))(q:tV H ⟨r.ps++[kC p],r.ms,r.ws⟩ Q):aX ⟨aH (n+1),xq Y⟩ (sV.drop 3) (sq l lm lw (DT (.int p.aZ) lq) H.length none) H1 (fA Q):=eU _ λap am aw=>by
 exact kY 0 rfl rfl (gf ap (aA (cU hq) (gg ap (e7 ok) (q.fin (x1.set (bX _) _) (eU.Px (ps:=r.ps++[kC p]) (by rw[jO];rfl))))))
noncomputable abbrev zj(l lm lw:Nat)(D:V)(b:Nat)(v6 v7 v8 v9:V):bv:=[some (dP l lm lw),some D,some (.ref b),some (.ref (b+1)),some (.ref (b+2)),none,some v6,some v7,some v8,some v9]
theorem Py(ap:H1[b]?=some (.list (r.ps.map bW)))(hp:r.ps[k]?=some p)(hD:D=.aF vs)(hk:jR vs 1=some (nv k))(h:aX C rest (zj l lm lw D b (.int p.aZ) (.aF (aS p.cf)) (mL p.ad) (jA p.bS)) H1 K):aX C (.aY (.aF [.J 6,.J 7,.J 8,.J 9]) (.br (.J 2) (iI 1 1))::rest) (sq l lm lw D b none) H1 K:=by
 subst hD
 exact eD (c9 (aU (v:=.ref b) rfl (c9 (aU (v:=.aF vs) rfl (bP (aA hk (aA (fY ap hp) (aA (a:=zj l lm lw (.aF vs) b (.int p.aZ) (.aF (aS p.cf)) (mL p.ad) (jA p.bS)) rfl h))))))))
theorem Pz{v6 v7 v8 v9:V}(x1:aC H H1)(eU:eX H1 r H.length (H.length+1) (H.length+2))(hp:r.ps[k]?=some p)(e:bW p'=.aF [v6,v7,v8,v9])(hk:jR vs 1=some (nv k))(hK:∀H',Q (dP H.length (H.length+1) (H.length+2)) H'->K (.next (zj l lm lw (.aF vs) H.length v6 v7 v8 v9) H'))(q:tV H ⟨r.ps.set k p',r.ms,r.ws⟩ Q):aX C [.ij (.J 2) (iI 1 1) (.aF [.J 6,.J 7,.J 8,.J 9])] (zj l lm lw (.aF vs) H.length v6 v7 v8 v9) H1 K:=eU _ λap am aw=>by
 refine BA (Ps (aU (v:=v6) rfl (aU (v:=v7) rfl (aU (v:=v8) rfl (aU (v:=v9) rfl (aU (v:=.ref H.length) rfl (c9 (aU (v:=.aF vs) rfl (bP (aA hk ?_))))))))))
 rw[<-e]
 exact DH ap (by rw[bJ];exact(d7.mp hp).1) (uH (hK _ (q.fin (x1.set (bX _) _) (eU.Px map_set.symm))))
theorem abe{e:Int}(x1:aC H H1)(eU:eX H1 r H.length (H.length+1) (H.length+2))(hp:r.ps[k]?=some p)(q:tV H ⟨r.ps.set k (kB p e),r.ms,r.ws⟩ Q):aX ⟨aH (n+1),xq Y⟩ (sV.drop 3) (sq l lm lw (w7 k e) H.length none) H1 (fA Q):=eU _ λap am aw=>by
 exact kE 3 0 rfl rfl (kE 3 2 rfl rfl (kE 3 4 rfl rfl (Py (D:=w7 k e) ap hp rfl rfl (kY 3 rfl rfl (eD (c9 (aU (v:=w7 k e) rfl (bP (aA (a:=.int e) rfl (aA (a:=zj l lm lw (w7 k e) H.length (.int p.aZ) (.aF (aS p.cf)) (mL p.ad) (.int e)) rfl (uH (Pz (p':=kB p e) x1 eU hp rfl rfl (λH' h=>h) q))))))))))))
theorem abf{x:Int×List Nat}(x1:aC H H1)(eU:eX H1 r H.length (H.length+1) (H.length+2))(hp:r.ps[k]?=some p)(hq:H1[lq]?=some (.list (aS x.2)))(q:tV H ⟨r.ps.set k (jw p x.1 x.2),r.ms,r.ws⟩ Q):aX ⟨aH (n+1),xq Y⟩ (sV.drop 3) (sq l lm lw (tT (nv k) (.int x.1) lq) H.length none) H1 (fA Q):=eU _ λap am aw=>by
 exact kE 1 0 rfl rfl (kE 1 2 rfl rfl (kE 1 4 rfl rfl (Py (D:=tT (nv k) (.int x.1) lq) ap hp rfl rfl (kE 1 3 rfl rfl (eD (D2 (c9 (aU (v:=tT (nv k) (.int x.1) lq) rfl (bP (aA (a:=.int x.1) rfl (abb (c9 (aU (v:=tT (nv k) (.int x.1) lq) rfl (bP (aA (a:=.ref lq) rfl (aA (cU hq) (aA (a:=zj l lm lw (tT (nv k) (.int x.1) lq) H.length (.int p.aZ) (.aF (aS p.cf)) (.aF [.int x.1,.aF (aS x.2)]) (jA p.bS)) rfl (uH (Pz (p':=jw p x.1 x.2) x1 eU hp rfl rfl (λH' h=>h) q)))))))))))))))))))
theorem abg{w:gh}(x1:aC H H1)(eU:eX H1 r H.length (H.length+1) (H.length+2))(ok:r.ms.length<=1000)(q:tV H ⟨r.ps,r.ms++[w],r.ws⟩ Q):aX ⟨aH (n+1),xq Y⟩ (sV.drop 3) (sq l lm lw (DU w.a w.b w.day) H.length none) H1 (fA Q):=eU _ λap am aw=>by
 refine kE 2 0 rfl rfl (kY 2 rfl rfl (gf am (gg am (e7 ok) ?_)))
 have z:(H1.set (H.length+1) (.list (r.ms.map iH++[iH w])))[H.length+1]?=some (.list ((r.ms++[w]).map iH)):=by rw[jO];exact d9 am _
 exact q.fin (x1.set (eV _ _) _) (.mk (dK ap _ (dm (jH _))) z (dK aw _ (dq (jH _))))
theorem abh{w:iw}{a:Int}(x1:aC H H1)(eU:eX H1 r H.length (H.length+1) (H.length+2))(ok:r.ws.length<=1000)(ag:H1[lg]?=some (.list (ns.map (w5 a b'))))(qk:Raw a b' q')(eg:w.dO=ns.map λj=>(j,q'))(hg:w.dO.length<=10)(q:tV H ⟨r.ps,r.ms,r.ws++[w]⟩ Q):aX ⟨aH (n+1),xq Y⟩ (sV.drop 3) (sq l lm lw (vj w.fP w.day lg) H.length none) H1 (fA Q):=eU _ λap am aw=>by
 refine kE 4 0 rfl rfl (kE 4 2 rfl rfl (kY 4 rfl rfl (eD (lP (k9 (c9 (aU (v:=vj w.fP w.day lg) rfl (bP (aA (a:=.ref lg) rfl (aA (dU ag) (cZ (c8 (by rw[bJ,<-bJ (λj=>(j,q')),<-eg];exact cG hg (by decide))) (comp_map (I:=λρ=>∃o o' tO,ρ=o::o'::tO::sq l lm lw (vj w.fP w.day lg) H.length none) (F:=λj=>nJ (j,q')) (ρf:=λj:Nat=>some (nv j)::some (.int a)::some (nv b')::sq l lm lw (vj w.fP w.day lg) H.length none) (dE ag ag) (λj ρ hi=>by obtain⟨o,o',tO,rfl⟩:=hi;rfl) (λj=>⟨_,_,_,rfl⟩) (λj ζ N hN=>?_) (jB (aA (a:=sq l lm lw (vj w.fP w.day lg) H.length (some (.ref H1.length))) rfl ?_)) ⟨none,none,none,rfl⟩))))))))))))
 ·refine Mf qk.nz ?_
  rw[qk.e];exact hN
 ·have Ie:=bu [.list (ns.map λj=>nJ (j,q'))] aw
  refine gf Ie (aA (cU (bz H1 (.list (ns.map λj=>nJ (j,q'))))) ((?_:oD .append (.ref (H.length+2)) [V.aF [nv w.fP,.int w.day,.aF (ns.map λj=>nJ (j,q'))]] _ _)))
  rw[show V.aF [nv w.fP,.int w.day,.aF (ns.map λj=>nJ (j,q'))]=iX w by unfold iX jX;rw[eg,map_map];rfl]
  refine gg Ie (e7 ok) ?_
  have z:((H1++[aI.list (ns.map λj=>nJ (j,q'))]).set (H.length+2) (.list (r.ws.map iX++[iX w])))[H.length+2]?=some (.list ((r.ws++[w]).map iX)):=by rw[jO];exact d9 Ie _
  exact q.fin ((x1.trans (aC.aT _ _)).set (eV _ _) _) (.mk (dK (bu _ ap) _ (dm (lG (jH _)))) (dK (bu _ am) _ (dm (jH _))) z)
end
theorem PA{P:Nat->Prop}{dd:dN}(ok:R3 r)(at':eX H r l lm lw)(h:d6 P H dd v)(hd:sy r dd r')(q:∀a b c H',aC H H'->H.length<=a/\H.length<=b/\H.length<=c->eX H' r' a b c->Q (dP a b c) H'):aH (n+2) 48 [dP l lm lw,v] H Q Y:=abc (n:=n+1) ok at' λH1 x1 hl eU=>by
 have q:tV H r' Q:=q
 cases hd with
 |aZ=>cases h with|aZ p1 hq=>exact abd x1 eU ok.1 (x1 _ _ hq) q
 |bS hp=>cases h;exact abe x1 eU hp q
 |adopt hp=>cases h with|adopt p1 hq=>exact abf x1 eU hp (x1 _ _ hq) q
 |dW=>cases h;exact abg x1 eU ok.2.1 q
 |gi hg=>cases h with|gi p1 ag qk eg=>exact abh x1 eU ok.2.2 (x1 _ _ ag) qk eg hg q
end
section
variable{K:Out->Prop}{P P':Nat->Prop}{dd:dN}
noncomputable def PB(ζ:Prop)(P:Nat->Prop)(H:Hp)(r:cV)(fr:List Nat)(v:V):Prop:=∀(ls l lm lw ld la ep:Nat) (es:List (Int×V)) (ev:v=.ref ls) (pp:(P ls/\P l/\P lm)/\P lw/\P ld/\P la) (a0:H[ls]?=some (.gO [dP l lm lw,.ref ld,.ref la])) (at':eX H r l lm lw) (ad:H[ld]?=some (.dict ep es)) (de:∀e∈es,ji P H r e) (dk:∀j:Nat,fy es (j:Int)=fq r.ps j) (aa:H[la]?=some (.list (aS fr))),ζ
def ic:=λP H r fr v=>∀ζ:Prop,PB ζ P H r fr v->ζ
theorem ic.mk{P H r fr v}:PB (ic P H r fr v) P H r fr v:=λx0 x1 x2 x3 x4 x5 x6 x7 x8 x9 dz fK eA fZ jW ku ζ k=>k x0 x1 x2 x3 x4 x5 x6 x7 x8 x9 dz fK eA fZ jW ku
theorem ic.cm(h:ic P H r fr v)(x:∀l c,P l->H[l]?=some c->P' l/\H'[l]?=some c):ic P' H' r fr v:=h _ λls l lm lw ld la ep es ev pp a0 at' ad de dk aa=>at' _ λap am aw=>.mk ls l lm lw ld la ep es ev ⟨⟨(x _ _ pp.1.1 a0).1,(x _ _ pp.1.2.1 ap).1,(x _ _ pp.1.2.2 am).1⟩,(x _ _ pp.2.1 aw).1,(x _ _ pp.2.2.1 ad).1,(x _ _ pp.2.2.2 aa).1⟩ (x _ _ pp.1.1 a0).2 (.mk (x _ _ pp.1.2.1 ap).2 (x _ _ pp.1.2.2 am).2 (x _ _ pp.2.1 aw).2) (x _ _ pp.2.2.1 ad).2 (λe he=>(de e he).imp λj h=>h.imp λlr h=>h.imp λvs h=>⟨h.1,h.2.1,(x _ _ h.2.2.1 h.2.2.2.1).1,(x _ _ h.2.2.1 h.2.2.2.1).2,h.2.2.2.2.1.imp λζ ζ q=>q.imp λl q=>⟨(x _ _ q.1 q.2.2).1,q.2.1,(x _ _ q.1 q.2.2).2⟩,h.2.2.2.2.2⟩) dk (x _ _ pp.2.2.2 aa).2
theorem ic.ext(h:ic P H r fr v)(x:aC H H'):ic P H' r fr v:=h.cm λl c hp a=>⟨hp,x l c a⟩
theorem p9{a:E}(h:WE C a ρ H λx H=>aO (recAt H x) λvs=>aO vs[i]? λv=>Q v H):WE C (.gF a i) ρ H Q:=h
theorem abi{a b:E}(h:WE C a ρ H λx H=>gn (j6 H x).isSome (WE C b ρ H λy H=>aO (j6 H x) λes=>gH y λk=>Q ((fO es k).getD .none) H)):WE C (.get a b) ρ H Q:=h
theorem qb(h:H[l]?=some (.gO vs)):recAt H (.ref l)=some vs:=b7 (Option.bind · yg) h
theorem Ig(q:Q (.ref H.length) (H++[.dict 0 []])):WE C .lH ρ H Q:=q
theorem abj{es:List (Int×V)}{k:Int}(h:fy es k=false):fO es k=none:=by
 unfold fy at h
 unfold fO
 rw[List.find?_eq_none.mpr λx hx hh=>by rw[rE.mpr ⟨x,hx,hh⟩] at h;cases h];rfl
theorem abk{es:List (Int×V)}{lr:V}(de:∀e∈es,ji P H r e)(dk:∀j:Nat,fy es (j:Int)=fq r.ps j)(h:gb P' H (ib r' k) lr):gP .ne lr ((fO es (k:Int)).getD .none) H=some (nO r r' k):=by
 unfold nO
 cases hd:fq r.ps k with
 |false=>
  rw[abj ((dk k).trans hd)]
  refine(?_:(kQ H lr .none).map (!·)=_)
  unfold kQ
  rw[h.rd.2,h.rd.1];rfl
 |true=>
  obtain⟨e,he,hg,hk⟩:=Br ((dk k).trans hd)
  rw[hg,aba]
  exact Oo h ((de e he).DM hk)
def Pm(b lD la:Nat)(l:Nat):Prop:=b<=l/\l≠lD/\l≠la
end
section
variable{lD:Nat}{K:Out->Prop}{P P':Nat->Prop}{dd:dN}
theorem abl{es:List (Int×V)}{k:Int}:fO (dput es k v) k=some v:=by
 unfold fO dput
 by_cases h:(es.any λp=>decide (p.1=k))=true
 ·rw[bQ h]
  have key:∀es:List (Int×V),(es.any λp=>decide (p.1=k))=true->((es.map λp=>if p.1=k then(p.1,v) else p).find? λp=>decide (p.1=k)).map (·.2)=some v:=λes=>by
   induction es with
   |nil=>exact λh=>nomatch h
   |cons x es ih=>
    intro h
    rw[nk,find?_cons]
    by_cases hx:x.1=k
    ·rw[bQ hx]
     rw[show decide ((x.1,v).1=k)=true from dj hx];rfl
    ·rw[bH hx,show decide (x.1=k)=false from gE hx]
     rw[any_cons,show decide (x.1=k)=false from gE hx,rF] at h
     exact ih h
  exact key es h
 ·rw[bH h,List.find?_append,List.find?_eq_none.mpr λx hx hh=>h (rE.mpr ⟨x,hx,hh⟩)]
  rw[Option.none_or,find?_cons,show decide ((k,v).1=k)=true from dj rfl];rfl
noncomputable abbrev PC:S:=.ij (.J 3) (.J 5) (.call 21 [.J 2,.J 5])
noncomputable abbrev PD:S:=.bD (.cmp .ne (.br (.J 3) (.J 5)) (.get (.gF (.J 0) 1) (.J 5)))
   [.expr (.cR .append (.J 4) [.J 5])]
   []
noncomputable abbrev mv4:S:=.for (.J 5) (.of (.call 44 [(iI 2 0)])) [PC,PD]
noncomputable abbrev zk(st dv:V)(l lm lw lD la:Nat)(o5:Option V):bv:=[some st,some dv,some (dP l lm lw),some (.ref lD),some (.ref la),o5]
theorem abn{es:List (Int×V)}(hC:C.call=aH (n+67))(s:ic P H r fr st)(hP:∀i,P i->i≠lD/\i≠la)(at':eX H r' l lm lw)(ok:dC r')(hk:k∈cc r'.ps)(aD:H[lD]?=some (.dict ep es))(pZ:es.length<=60)(aa:H[la]?=some (.list (aS as)))(has:as.length<=60)(h:∀fF v H',nP lD la H H'->H'[lD]?=some (.dict fF (dput es (k:Int) v))->gb (H.length<=·) H' (ib r' k) v->H'[la]?=some (.list (aS (as++jz r r' k)))->aX C rest (zk st dv l lm lw lD la (some (nv k))) H' K):aX C (PC::PD::rest) (zk st dv l lm lw lD la (some (nv k))) H K:=by
 have fG:lD≠la:=λe=>by rw[e,aa] at aD;cases aD
 refine BA (nN (aU (v:=dP l lm lw) rfl (aU (v:=nv k) rfl ?_)))
 rw[hC]
 refine HE (n:=n) ok at' hk λvd H2 x2 hd=>aU (v:=.ref lD) rfl (aU (v:=nv k) rfl (aA (x2 _ _ aD) (cZ (c8 (cG pZ (by decide))) λfF=>?_)))
 have a3:=d9 (x2 _ _ aD) (.dict fF (dput es (k:Int) vd))
 have up:∀{l c},l≠lD->H2[l]?=some c->(H2.set lD (.dict fF (dput es (k:Int) vd)))[l]?=some c:=λhn h=>dK h _ (gS hn)
 have hlD:=bZ aD
 have xi:gb (H.length<=·) (H2.set lD (.dict fF (dput es (k:Int) vd))) (ib r' k) vd:=hd.cm λl c hp a=>⟨hp,up (dm (cL hlD hp)) a⟩
 have s3:ic P (H2.set lD (.dict fF (dput es (k:Int) vd))) r fr st:=s.cm λl c hp a=>⟨hp,up (hP l hp).1 (x2 _ _ a)⟩
 have BB:=up (gS fG) (x2 _ _ aa)
 have x3:nP lD la H (H2.set lD (.dict fF (dput es (k:Int) vd))):=λl c h1 ζ a=>up h1 (x2 _ _ a)
 generalize H2.set lD (.dict fF (dput es (k:Int) vd))=H3 at *
 refine g9 (ky (c9 (aU (v:=.ref lD) rfl (aU (v:=nv k) rfl (aA (vg a3 abl) (s3 _ λls l' Gb Gc q0 PE tF lQ ev pp b0 bt bd bde bdk ba=>?_))))))
 subst ev
 refine abi (p9 (aU (v:=.ref ls) rfl (aA (qb b0) (aA (a:=.ref q0) rfl (cZ (by rw[DN bd];rfl) (aU (v:=nv k) rfl (aA (DN bd) ?_)))))))
 have h:=h fF vd
 unfold jz at h
 refine aA (abk bde bdk xi) (dp (λhf=>?_) λhf=>?_)
 ·rw[hf] at h
  have un:∀{l c},l≠la->H3[l]?=some c->(H3.set la (.list (aS as++[nv k])))[l]?=some c:=λhn h=>dK h _ (gS hn)
  have hla:=bZ aa
  exact ZR (l:=la) (v:=nv k) rfl rfl BB (e7 has) (h _ (λl c h1 h2 a=>un h2 (x3 l c h1 h2 a)) (un fG a3) (xi.cm λl c hp a=>⟨hp,un (dm (cL hla hp)) a⟩) (by rw[bQ rfl,<-uV];exact d9 BB _))
 ·rw[hf] at h
  exact h H3 x3 a3 xi (by rw[bH gM,fN];exact BB)
noncomputable def PF(ζ:Prop)(b lD la:Nat)(r r':cV)(H:Hp)(ρf:Option V->bv)(as:List Nat)(ρ:bv)(H':Hp):Prop:=∀(o5:Option V) (ep:Nat) (es:List (Int×V)) (pre:List Nat) (e:ρ=ρf o5) (x:nP lD la H H') (aD:H'[lD]?=some (.dict ep es)) (de:∀e∈es,ji (Pm b lD la) H' r' e) (aa:H'[la]?=some (.list (aS (pre.filter (nO r r'))))) (tt:pre++as=cc r'.ps) (kk:∀j:Nat,fy es (j:Int)=decide (j∈pre)) (kA:es.length<=pre.length),ζ
def Ih:=λb lD la r r' H ρf as ρ H'=>∀ζ:Prop,PF ζ b lD la r r' H ρf as ρ H'->ζ
theorem Ih.mk{b lD la r r' H ρf as ρ H'}:PF (Ih b lD la r r' H ρf as ρ H') b lD la r r' H ρf as ρ H':=λx0 x1 x2 x3 x4 x5 x6 x7 x8 x9 dz fK ζ k=>k x0 x1 x2 x3 x4 x5 x6 x7 x8 x9 dz fK
theorem abq{b:Nat}{o5:Option V}(hC:C.call=aH (n+67))(s:ic P H r fr st)(hP:∀i,P i->i≠lD/\i≠la)(hb:b<=H.length/\lD<H.length/\la<H.length)(at':eX H r' l lm lw)(ok:dC r'\/cc r'.ps=[])(hl:r'.ps.length<=60)(aD:H[lD]?=some (.dict 0 []))(aa:H[la]?=some (.list []))(mY:l≠la/\lm≠la/\lw≠la)(h:∀o5 ep es H',nP lD la H H'->H'[lD]?=some (.dict ep es)->(∀e∈es,ji (Pm b lD la) H' r' e)->(∀j:Nat,fy es (j:Int)=fq r'.ps j)->H'[la]?=some (.list (aS (jv r r')))->aX C rest (zk st dv l lm lw lD la o5) H' K):aX C (mv4::rest) (zk st dv l lm lw lD la o5) H K:=at' _ λap am aw=>by
 refine oS (k9 (D0 (c9 (aU (v:=dP l lm lw) rfl (bP (aA (a:=.ref l) rfl ?_))))))
 rw[hC]
 refine Ib (n:=n+66) ap hl ?_
 have an:=bz H (.list (aS (cc r'.ps)))
 have x0:=aC.aT H [aI.list (aS (cc r'.ps))]
 refine aA (dU an) ?_
 have nl:∀{i c},H[i]?=some (.list c)->i≠lD:=λ{i c} h e=>by rw[e,aD] at h;cases h
 have nn:H.length≠lD/\H.length≠la:=⟨dm hb.2.1,dm hb.2.2⟩
 refine gq (g:=nv) (Ih b lD la r r' (H++[aI.list (aS (cc r'.ps))]) (zk st dv l lm lw lD la)) (λk as ρ H' hI=>hI _ λo5 ep es pre e x aD' de Ii tt kk kA=>?_) (λρ H' hI=>hI _ λo5 ep es pre e x aD' de Ii tt kk kA=>?_) _ _ _ (.mk o5 0 [] [] rfl (λl c ζ ζ a=>a) (x0 _ _ aD) (λζ h=>(nomatch h)) (x0 _ _ aa) rfl (λj=>(gE sS).symm) (bX _))
 ·subst e
  refine aA (a:=zk st dv l lm lw lD la (some (nv k))) rfl λN hN=>?_
  have hk:k∈cc r'.ps:=tt▸cY.mpr (.inr dD)
  have atl:∀{l c},l≠lD->l≠la->H[l]?=some c->H'[l]?=some c:=λ{l c} h1 h2 h=>x l c h1 h2 (x0 _ _ h)
  have pl:=HG tt hl
  have eR:=bZ (x _ _ nn.1 nn.2 an)
  refine abn (n:=n) (C:=C.xq) hC (s.cm λl c hp a=>⟨hp,atl (hP l hp).1 (hP l hp).2 a⟩) hP (.mk (atl (nl ap) mY.1 ap) (atl (nl am) mY.2.1 am) (atl (nl aw) mY.2.2 aw)) (ok.resolve_right λe=>by rw[e] at hk;cases hk) hk aD' (aG kA pl) Ii (aG (oo _ _) pl) λfF v H3 x3 aD3 xi BB=>?_
  have ey:∀{l:Nat},H'.length<=l->Pm b lD la l:=λh=>⟨aG hb.1 (aG (cW eR) h),dm (cL hb.2.1 (aG (cW eR) h)),dm (cL hb.2.2 (aG (cW eR) h))⟩
  have x4:nP lD la (H++[aI.list (aS (cc r'.ps))]) H3:=λl c h1 h2 a=>x3 l c h1 h2 (x l c h1 h2 a)
  exact hN _ _ (dE an (x4 _ _ nn.1 nn.2 an)) (.mk _ fF _ (pre++[k]) rfl x4 aD3 (DO (λe he=>(de e he).cm λl c hl a=>x3 l c hl.2.1 hl.2.2 a) (xi.cm λl c hp a=>⟨ey hp,a⟩).toV) (Ov▸BB) (iV tt) (λj=>HF kk) (by rw[b6];exact aG (DP es (k:Int) v) (jG kA)))
 ·subst e
  rw[fN] at tt
  subst tt
  exact h o5 ep es H' (λl c h1 h2 a=>x l c h1 h2 (x0 _ _ a)) aD' de (λj=>by rw[kk,DQ]) Ii
theorem PH{a b c:E}(h:WE C a ρ (H++[.gO []]) λx H1=>WE C b ρ H1 λy H2=>WE C c ρ H2 λz H3=>H3[H.length]?=some (.gO [])/\Q (.ref H.length) (H3.set H.length (.gO [x,y,z]))):WE C (.tab [a,b,c]) ρ H Q:=h
theorem eX.keep(h:eX H r l lm lw)(x:∀i c,i=l\/i=lm\/i=lw->H[i]?=some c->H'[i]?=some c):eX H' r l lm lw:=h _ λa b c=>.mk (x _ _ (.inl rfl) a) (x _ _ (.inr (.inl rfl)) b) (x _ _ (.inr (.inr rfl)) c)
theorem PI(s:ic P H r fr st)(hP:∀l,P l->l<H.length)(pP:d6 P' H dd dv)(hd:sy r dd r')(ok:dC r'\/cc r'.ps=[])(hl:R3 r)(gX:r'.ps.length<=60)(q:∀v H',aC H H'->ic (H.length<=·) H' r' (jv r r') v->Q v H'):aH (n+68) 53 [st,dv] H Q Y:=XA (s _ λls l lm lw ld la ep es ev pp a0 at' ad de dk aa=>by
 have wy:=ev
 subst wy
 refine eD (nN (p9 (aU (v:=.ref ls) rfl (aA (qb a0) (aA (a:=dP l lm lw) rfl (aU (v:=dv) rfl ((PA (n:=n+65) hl at' pP hd λa b c H1 x1 hn eU=>aA (a:=[some (.ref ls),some dv,some (dP a b c),none,none,none]) rfl ?_:aH (n+67) 48 [dP l lm lw,dv] H _ _))))))))
 have mY:a<H1.length/\b<H1.length/\c<H1.length:=eU _ λp1 p2 p3=>⟨bZ p1,bZ p2,bZ p3⟩
 refine eD (Ig (aA (a:=[some (.ref ls),some dv,some (dP a b c),some (.ref H1.length),none,none]) rfl ?_))
 have e1:(H1++[aI.dict 0 []]).length=H1.length+1:=b6
 refine eD (oR (aA (a:=[some (.ref ls),some dv,some (dP a b c),some (.ref H1.length),some (.ref (H1.length+1)),none]) (by rw[e1];rfl) ?_))
 have x2:aC H1 (H1++[aI.dict 0 []]++[aI.list []]):=(aC.aT _ _).trans (aC.aT _ _)
 have e2:(H1++[aI.dict 0 []]++[aI.list []]).length=H1.length+2:=by rw[b6,e1];rfl
 have aD:=bu [.list []] (bz H1 (.dict 0 []))
 have aL:=e1▸bz (H1++[aI.dict 0 []]) (.list [])
 have at2:eX (H1++[aI.dict 0 []]++[aI.list []]) r' a b c:=eU.keep λζ ζ ζ h=>x2 _ _ h
 have s2:=(s.ext x1).ext x2
 generalize H1++[aI.dict 0 []]++[aI.list []]=H2 at *
 have x1l:=x1.len
 have ne:∀{i:Nat},i<H1.length->i≠H1.length/\i≠H1.length+1:=λh=>⟨dq h,dq (lG h)⟩
 refine abq (n:=n) (C:=⟨aH (n+67),xq Y⟩) (b:=H.length) (la:=H1.length+1) rfl s2 (λl hp=>ne (cL (hP l hp) x1l)) ⟨aG x1l x2.len,bZ aD,bZ aL⟩ at2 ok gX aD aL ⟨(ne mY.1).2,(ne mY.2.1).2,(ne mY.2.2).2⟩ λo5 ep es H3 x3 b1 b2 b3 b4=>oV (PH (aU (v:=dP a b c) rfl (aU (v:=.ref H1.length) rfl (aU (v:=.ref (H1.length+1)) rfl ⟨bz _ _,?_⟩))))
 have G9:H1.length+1<H3.length:=bZ b4
 have up:∀{i:Nat} {x:aI},H3[i]?=some x->((H3++[aI.gO []]).set H3.length (.gO [dP a b c,.ref H1.length,.ref (H1.length+1)]))[i]?=some x:=λh=>dK (bu _ h) _ (dm (bZ h))
 refine q _ _ (λl c h=>up (x3 l c (ne (bZ (x1 _ _ h))).1 (ne (bZ (x1 _ _ h))).2 (x2 _ _ (x1 _ _ h)))) ?_
 have vp:=at2 _ λp1 p2 p3=>eX.mk (up (x3 _ _ (ne mY.1).1 (ne mY.1).2 p1)) (up (x3 _ _ (ne mY.2.1).1 (ne mY.2.1).2 p2)) (up (x3 _ _ (ne mY.2.2).1 (ne mY.2.2).2 p3))
 have l3:=aG x1l (cW (pz G9))
 exact .mk H3.length a b c H1.length (H1.length+1) ep es rfl ⟨⟨l3,hn.1,hn.2.1⟩,hn.2.2,x1l,vE x1l⟩ (d9 (bz _ _) _) vp (up b1) (λe he=>((b2 e he).cm λl c ζ h=>up h).wk λl ζ h=>h.1) b3 (up b4))
end
section
variable{z z':Nat->Prop}{ls:Nat}{K:Out->Prop}{P P':Nat->Prop}{dd:dN}{ds:List dN}
theorem cz.grow(b:cz z B H r fr)(x:aC H H')(h1:∀l,z' l->z l\/H.length<=l)(h2:∀l,z' l->l<H'.length):cz z' B H' r fr:=b _ λld ep lf es a0 a1 ap am aw ad hd de dk af hf=>by
 have nz:∀{l c},Ow z B l->H[l]?=some c->Ow z' B l:=λ{l c} h a=>⟨h.1,λq=>(h1 l q).elim h.2 λhl=>absurd (bZ a) (fv.mpr hl)⟩
 exact .mk ld ep lf es (x _ _ a0) (x _ _ a1) (x _ _ ap) (x _ _ am) (x _ _ aw) (x _ _ ad) ⟨hd.1,(nz ⟨hd.1,hd.2.1⟩ ad).2,h2⟩ (λe he=>(de e he).imp λj h=>h.imp λlr h=>h.imp λvs h=>⟨h.1,h.2.1,nz h.2.2.1 h.2.2.2.1,x _ _ h.2.2.2.1,h.2.2.2.2.1.imp λζ ζ q=>q.imp λl q=>⟨nz q.1 q.2.2,q.2.1,x _ _ q.2.2⟩,h.2.2.2.2.2⟩) dk (x _ _ af) (nz hf af)
theorem cz.less(b:cz z B H r fr)(h1:∀l,z' l->z l):cz z' B H r fr:=b _ λld ep lf es a0 a1 ap am aw ad hd de dk af hf=>b.grow (aC.refl _) (λl h=>.inl (h1 l h)) λl h=>hd.2.2 l (h1 l h)
theorem cz.keep(b:cz z B H r fr)(x:∀l c,(B<=l/\l<B+5)\/¬z l->H[l]?=some c->H'[l]?=some c)(hl:H.length<=H'.length):cz z B H' r fr:=b _ λld ep lf es a0 a1 ap am aw ad hd de dk af hf=>by
 have nr:∀{l c},B<=l->l<B+5->H[l]?=some c->H'[l]?=some c:=λ{l c} h1 h2 a=>x l c (.inl ⟨h1,h2⟩) a
 exact .mk ld ep lf es (nr (by lia) (by lia) a0) (nr (by lia) (by lia) a1) (nr (by lia) (by lia) ap) (nr (by lia) (by lia) am) (nr (by lia) (by lia) aw) (x _ _ (.inr hd.2.1) ad) ⟨hd.1,hd.2.1,λl h=>cL (hd.2.2 l h) hl⟩ (λe he=>(de e he).cm λl c h a=>x _ _ (.inr h.2) a) dk (x _ _ (.inr hf.2) af) hf
theorem cz.len(b:cz z B H r fr):B+5<H.length/\∀l,z l->l<H.length:=b _ λld ep lf es a0 a1 ap am aw ad hd de dk af hf=>⟨cG hd.1 (bZ ad),hd.2.2⟩
noncomputable abbrev bg5:S:=.for (.J 7) (.of (.call 44 [(.br (.gF (.J 3) 0) (kI 0))]))
  [.ij (.gF (.J 3) 1) (.J 7) (.call 21 [(.gF (.J 3) 0),.J 7])]
noncomputable abbrev jK(sv:V)(B:Nat)(v2 v3 v4 v5 v6 v7:Option V):bv:=[some sv,some (.ref (B+1)),v2,v3,v4,v5,v6,v7]
noncomputable def PJ(ζ:Prop)(b ld:Nat)(r:cV)(H:Hp)(ρf:Option V->bv)(as:List Nat)(ρ:bv)(H':Hp):Prop:=∀(v7:Option V) (ep:Nat) (es:List (Int×V)) (pre:List Nat) (e:ρ=ρf v7) (x:bO ld H H') (aD:H'[ld]?=some (.dict ep es)) (de:∀e∈es,ji (b<=·) H' r e) (tt:pre++as=cc r.ps) (kk:∀j:Nat,fy es (j:Int)=decide (j∈pre)) (kA:es.length<=pre.length),ζ
def Ij:=λb ld r H ρf as ρ H'=>∀ζ:Prop,PJ ζ b ld r H ρf as ρ H'->ζ
theorem Ij.mk{b ld r H ρf as ρ H'}:PJ (Ij b ld r H ρf as ρ H') b ld r H ρf as ρ H':=λx0 x1 x2 x3 x4 x5 x6 x7 x8 x9 dz ζ k=>k x0 x1 x2 x3 x4 x5 x6 x7 x8 x9 dz
noncomputable abbrev abt:S:=.ij (.gF (.J 3) 1) (.J 7) (.call 21 [(.gF (.J 3) 0),.J 7])
theorem abu{sv:V}{es:List (Int×V)}(hC:C.call=aH (n+67))(a0:H[ls]?=some (.gO [dP l lm lw,.ref ld,.ref la]))(at':eX H r l lm lw)(aD:H[ld]?=some (.dict ep es))(pZ:es.length<=60)(ok:dC r)(hk:k∈cc r.ps)(h:∀fF v H',bO ld H H'->H'[ld]?=some (.dict fF (dput es (k:Int) v))->gb (H.length<=·) H' (ib r k) v->aX C rest (jK sv B v2 (some (.ref ls)) v4 v5 v6 (some (nv k))) H' K):aX C (abt::rest) (jK sv B v2 (some (.ref ls)) v4 v5 v6 (some (nv k))) H K:=by
 refine BA (nN (p9 (aU (v:=.ref ls) rfl (aA (qb a0) (aA (a:=dP l lm lw) rfl (aU (v:=nv k) rfl ?_))))))
 rw[hC]
 refine HE (n:=n) ok at' hk λvd H2 x2 hd=>p9 (aU (v:=.ref ls) rfl (aA (qb (x2 _ _ a0)) (aA (a:=.ref ld) rfl (aU (v:=nv k) rfl ?_))))
 have up:∀{i c fF},i≠ld->H2[i]?=some c->(H2.set ld (.dict fF (dput es (k:Int) vd)))[i]?=some c:=λhn h=>dK h _ (gS hn)
 exact aA (x2 _ _ aD) (cZ (c8 (cG pZ (by decide))) λfF=>h fF vd _ (λi c hn a=>up hn (x2 _ _ a)) (d9 (x2 _ _ aD) _) (hd.cm λi c hi a=>⟨hi,up (dm (cL (bZ aD) hi)) a⟩))
theorem abw{sv:V}{v7:Option V}(hC:C.call=aH (n+67))(a0:H[ls]?=some (.gO [dP l lm lw,.ref ld,.ref la]))(at':eX H r l lm lw)(aD:H[ld]?=some (.dict 0 []))(ok:dC r\/cc r.ps=[])(hl:r.ps.length<=60)(h:∀v7 ep es H',(∀l c,l≠ld->H[l]?=some c->H'[l]?=some c)->H'[ld]?=some (.dict ep es)->(∀e∈es,ji (H.length<=·) H' r e)->(∀j:Nat,fy es (j:Int)=fq r.ps j)->aX C rest (jK sv B v2 (some (.ref ls)) v4 v5 v6 v7) H' K):aX C (bg5::rest) (jK sv B v2 (some (.ref ls)) v4 v5 v6 v7) H K:=at' _ λap am aw=>by
 have nl:∀{i c},H[i]?=some (.list c)->i≠ld:=λ{i c} h e=>by rw[e,aD] at h;cases h
 have n0:ls≠ld:=λe=>by rw[e,aD] at a0;cases a0
 refine oS (k9 (D0 (c9 (p9 (aU (v:=.ref ls) rfl (aA (qb a0) (aA (a:=dP l lm lw) rfl (bP (aA (a:=.ref l) rfl ?_)))))))))
 rw[hC]
 refine Ib (n:=n+66) ap hl ?_
 have an:=bz H (.list (aS (cc r.ps)))
 have x0:=aC.aT H [aI.list (aS (cc r.ps))]
 have hn:H.length≠ld:=dm (bZ aD)
 refine aA (dU an) (gq (g:=nv) (Ij H.length ld r (H++[aI.list (aS (cc r.ps))]) λv7=>jK sv B v2 (some (.ref ls)) v4 v5 v6 v7) (λk as ρ H' hI=>hI _ λv7 ep es pre e x aD' de tt kk kA=>?_) (λρ H' hI=>hI _ λv7 ep es pre e x aD' de tt kk kA=>?_) _ _ _ (.mk v7 0 [] [] rfl (λζ ζ ζ a=>a) (x0 _ _ aD) (λζ h=>(nomatch h)) rfl (λj=>(gE sS).symm) (bX _)))
 ·subst e
  refine aA (a:=jK sv B v2 (some (.ref ls)) v4 v5 v6 (some (nv k))) rfl λN hN=>?_
  have hk:k∈cc r.ps:=tt▸cY.mpr (.inr dD)
  have atl:∀{i c},i≠ld->H[i]?=some c->H'[i]?=some c:=λ{i c} h1 h=>x i c h1 (x0 _ _ h)
  have eR:=cW (bZ (x _ _ hn an))
  exact abu (n:=n) (C:=C.xq) hC (atl n0 a0) (.mk (atl (nl ap) ap) (atl (nl am) am) (atl (nl aw) aw)) aD' (aG kA (HG tt hl)) (ok.resolve_right λe=>by rw[e] at hk;cases hk) hk λfF v H3 x3 aD3 xi=>hN _ _ (dE an (x3 _ _ hn (x _ _ hn an))) (.mk _ fF _ (pre++[k]) rfl (x.trans x3) aD3 (DO (λe he=>(de e he).cm λi c hi a=>x3 i c (dm (cL (bZ aD) hi)) a) (xi.cm λi c hi a=>⟨aG eR hi,a⟩).toV) (iV tt) (λj=>HF kk) (by rw[b6];exact aG (DP es (k:Int) v) (jG kA)))
 ·subst e
  rw[fN] at tt
  subst tt
  exact h v7 ep es H' (λi c h1 a=>x i c h1 (x0 _ _ a)) aD' de λj=>by rw[kk,DQ]
end
section
variable{z:Nat->Prop}{ls b:Nat}{K:Out->Prop}{rs rb:cV}{sv:V}{P:Nat->Prop}{dd d:dN}{ds:List dN}
noncomputable def D3:Nat->List dN->List (Nat×dN)
 |_,[]=>[]
 |k,d::ds=>(k,d)::D3 (k+1) ds
def Ik(P:Nat->Prop)(H:Hp)(q:Nat×dN)(u:V):Prop:=∃v,u=.aF [nv q.1,v]/\d6 P H q.2 v
theorem abx(h:ct (d6 P H) ds vs):∀k,ct (Ik P H) (D3 k ds) (rI k vs):=h.rec (motive:=λds vs ζ=>∀k,ct (Ik P H) (D3 k ds) (rI k vs)) (λζ=>.nil) λa ζ ih k=>.cons ⟨_,rfl,a⟩ (ih (k+1))
theorem aby{α β:Type}{R:α->β->Prop}{as:List α}{bs:List β}(h:ct R as bs):∀{i:Nat} {a:α},as[i]?=some a->∃b,bs[i]?=some b/\R a b:=h.rec (motive:=λas bs ζ=>∀{i:Nat} {a:α},as[i]?=some a->∃b,bs[i]?=some b/\R a b) (λe=>by cases e) λ{a b _ _} r _ ih i=>by
 cases i with
 |zero=>exact λe=>⟨b,rfl,dH e▸r⟩
 |succ i=>exact λe=>ih (i:=i) e
noncomputable def PK(ζ:Prop)(b:Nat)(H:Hp)(r:cV)(ls ld:Nat):Prop:=∀(l lm lw la:Nat) (h1:H[ls]?=some (.gO [dP l lm lw,.ref ld,.ref la])) (h2:eX H r l lm lw) (h3:H[la]?=some (.list [])) (h4:b<=l/\b<=lm/\b<=lw/\b<=la) (d:H[ld]?=some (.dict 0 [])) (p:b<=ls/\b<=ld),ζ
def S0:=λb H r ls ld=>∀ζ:Prop,PK ζ b H r ls ld->ζ
theorem S0.mk{b H r ls ld}:PK (S0 b H r ls ld) b H r ls ld:=λx0 x1 x2 x3 x4 x5 x6 x7 x8 x9 ζ k=>k x0 x1 x2 x3 x4 x5 x6 x7 x8 x9
theorem S0.keep(s:S0 b H r ls ld)(x:∀l c,b<=l->H[l]?=some c->H'[l]?=some c):S0 b H' r ls ld:=s _ λl lm lw la h1 h2 h3 h4 d p=>h2 _ λa1 a2 a3=>.mk l lm lw la (x _ _ p.1 h1) (.mk (x _ _ h4.1 a1) (x _ _ h4.2.1 a2) (x _ _ h4.2.2.1 a3)) (x _ _ h4.2.2.2 h3) h4 (x _ _ p.2 d) p
theorem PM(hb:b<=H.length)(he:∀Q':PQ,(∀l lm lw H',aC (H++[.gO []]) H'->(b<=l/\b<=lm/\b<=lw)->eX H' r l lm lw->Q' (dP l lm lw) H')->WE C e ρ (H++[.gO []]) Q')(q:∀ld H',aC H H'->H.length<=ld->ld<H'.length->S0 b H' r H.length ld->Q (.ref H.length) H'):WE C (.tab [e,.lH,.aP []]) ρ H Q:=by
 refine PH (he _ λl lm lw H1 x1 hp eU=>Ig (oR ?_))
 have x0:=aC.aT H [aI.gO []]
 have e1:(H1++[aI.dict 0 []]).length=H1.length+1:=b6
 have rT:=x1.len
 rw[b6] at rT
 have rT:H.length+1<=H1.length:=rT
 have a1:(H1++[aI.dict 0 []]++[aI.list []])[H.length]?=some (.gO []):=bu _ (bu _ (x1 _ _ (bz _ _)))
 refine⟨a1,?_⟩
 have up:∀{i:Nat} {x:aI},i≠H.length->(H1++[aI.dict 0 []]++[aI.list []])[i]?=some x->((H1++[aI.dict 0 []]++[aI.list []]).set H.length (.gO [dP l lm lw,.ref H1.length,.ref (H1++[aI.dict 0 []]).length]))[i]?=some x:=λhn h=>dK h _ (gS hn)
 have ne:∀{i c},(H1++[aI.dict 0 []]++[aI.list []])[i]?=some (.list c)->i≠H.length:=λ{i c} h e=>by rw[e,a1] at h;cases h
 have at2:eX ((H1++[aI.dict 0 []]++[aI.list []]).set H.length (.gO [dP l lm lw,.ref H1.length,.ref (H1++[aI.dict 0 []]).length])) r l lm lw:=eU _ λp1 p2 p3=>.mk (up (ne (bu _ (bu _ p1))) (bu _ (bu _ p1))) (up (ne (bu _ (bu _ p2))) (bu _ (bu _ p2))) (up (ne (bu _ (bu _ p3))) (bu _ (bu _ p3)))
 have Il:=pA rT
 have h2:H.length<=(H1++[aI.dict 0 []]).length:=e1▸vE Il
 refine q H1.length _ (λi c h=>up (dq (bZ h)) (bu _ (bu _ (x1 _ _ (x0 _ _ h))))) Il (by rw[gR,b6,e1];exact lG (jH _)) (.mk l lm lw _ (d9 a1 _) at2 (up (e1▸dm (lG rT)) (bz _ _)) ⟨hp.1,hp.2.1,hp.2.2,aG hb h2⟩ (up (dm rT) (bu _ (bz _ _))) ⟨hb,aG hb Il⟩)
theorem abz{R:List V×List Nat->Hp->Prop}(h:WE C e ρ H λx H=>aO (dJ H x) λvs=>R (rI 0 vs,watch x) H):qE C (.oy e) ρ H R:=h
theorem dZ.len(x:dZ B H H')(hB:B+5<H.length):H.length<=H'.length:=(at_of hB).elim λζ h0=>ul λhn=>(at_of hn).elim λζ hc=>absurd (bZ (x _ _ (.inr (cW (bZ (x _ _ (.inr (bX _)) h0)))) hc)) (lt_irrefl _)
theorem bO.abA(x:bO i H H')(h:i<H'.length):H.length<=H'.length:=ul λhn=>(at_of hn).elim λζ hc=>absurd (bZ (x _ _ (dm h) hc)) (lt_irrefl _)
theorem Runs.sub{r1:cV}(h:Runs r1 ds r):r1.ps.length<=r.ps.length/\r1.ms.length<=r.ms.length/\r1.ws.length<=r.ws.length:=h.rec (motive:=λr1 ζ r ζ=>r1.ps.length<=r.ps.length/\r1.ms.length<=r.ms.length/\r1.ws.length<=r.ws.length) ⟨bX _,bX _,bX _⟩ λa ζ ih=>by
 have key:∀{α:Type} {l:List α} {x:α},l.length<=(l++[x]).length:=λ{α l x}=>by rw[b6];exact eV _ _
 cases a with
 |aZ=>exact⟨aG key ih.1,ih.2⟩
 |bS=>exact⟨aG (by rw[gR];exact bX _) ih.1,ih.2⟩
 |adopt=>exact⟨aG (by rw[gR];exact bX _) ih.1,ih.2⟩
 |dW=>exact⟨ih.1,aG key ih.2.1,ih.2.2⟩
 |gi=>exact⟨ih.1,ih.2.1,aG key ih.2.2⟩
theorem Acc.ok(a:Acc r d r'):dC r'\/cc r'.ps=[]:=by
 cases a with
 |aZ _ _ _ h=>exact h.symm
 |bS _ _ _ h=>exact .inl h
 |adopt _ _ _ _ h=>exact h.symm
 |dW _ _ _ _ h=>exact .inl h
 |gi _ _ _ _ h=>exact .inl h
noncomputable abbrev PN:S:=.bD (.cmp .ne (.br (.call 47 [.J 1,.J 6]) (kI 0)) (.k (.str "")))
   [.ret (.k .none)]
   []
noncomputable abbrev Im:S:=.bD (.cmp .lt (.J 5) (.bin .sub (.bi .len [.J 4]) (kI 1)))
   [.aY (.J 3) (.tab [(.call 48 [(.gF (.J 3) 0),.J 6]),.lH,(.aP [])])]
   []
noncomputable abbrev bg4:S:=.for (.aF [.J 5,.J 6]) (.oy (.J 4)) [PN,Im]
theorem abC(hC:C.call=aH (n+71))(bk:cz z B H rb fr)(ac:Acc rb d r')(hv:d6 P H d dv)(hP:∀l,P l->B+5<=l)(h:∀H2,dZ B H H2->cz z B H2 r' (jv rb r')->aX C rest (jK sv B v2 v3 v4 v5 (some dv) v7) H2 K):aX C (PN::rest) (jK sv B v2 v3 v4 v5 (some dv) v7) H K:=by
 refine g9 (ky (c9 (nN (aU (v:=.ref (B+1)) rfl (aU (v:=dv) rfl ?_)))))
 rw[hC]
 exact aaY (n:=n) bk.b ac hv (λl hp=>.inr (hP l hp)) λu H2 x2 b2=>bP (aA (a:=V.str "") rfl (bP (aA aa1 (fL rfl (h H2 x2 b2)))))
theorem PO(ad:H[ldd]?=some (.list vs))(ht:decide ((k:Int)<(vs.length:Int) - 1)=t)(h:cD t (aX C [.aY (.J 3) (.tab [(.call 48 [(.gF (.J 3) 0),.J 6]),.lH,(.aP [])])] (jK sv B v2 v3 (some (.ref ldd)) (some (nv k)) v6 v7) H λo=>mG o (λρ H=>aX C rest ρ H K) (K o)) (aX C rest (jK sv B v2 v3 (some (.ref ldd)) (some (nv k)) v6 v7) H K)):aX C (Im::rest) (jK sv B v2 v3 (some (.ref ldd)) (some (nv k)) v6 v7) H K:=
 g9 (ky (aU (v:=nv k) rfl (f9 (DJ (l:=ldd) rfl ad (bP (fD (z:=(vs.length:Int) - 1) rfl (aA (b7 some ht) h)))))))
theorem abD(hC:C.call=aH (n+71))(ad:H[ldd]?=some (.list vs))(hk:k+1<vs.length)(s:S0 b H rs ls ld)(hb:b<=H.length)(hv:d6 P H d dv)(dt:sy rs d r')(hl:rs.ps.length<=60/\rs.ms.length<=1000/\rs.ws.length<=1000)(h:∀q0 H',aC H H'->H.length<=q0->q0<H'.length->S0 b H' r' H.length q0->aX C rest (jK sv B v2 (some (.ref H.length)) (some (.ref ldd)) (some (nv k)) (some dv) v7) H' K):aX C (Im::rest) (jK sv B v2 (some (.ref ls)) (some (.ref ldd)) (some (nv k)) (some dv) v7) H K:=PO (t:=true) ad (dj (by lia)) (s _ λl lm lw la g1 g2 g3 g4 d0 p0=>by
 refine eD (PM (b:=b) (r:=r') hb (λQ' hq=>(nN (p9 (aU (v:=.ref ls) rfl (aA (qb (bu _ g1)) (aA (a:=dP l lm lw) rfl (aU (v:=dv) rfl ?_))))))) λq0 H5 x5 h1 h2 s5=>aA (a:=jK sv B v2 (some (.ref H.length)) (some (.ref ldd)) (some (nv k)) (some dv) v7) rfl (h q0 H5 x5 h1 h2 s5))
 rw[hC]
 have Bb:b<=(H++[aI.gO []]).length:=aG hb (aC.aT _ _).len
 exact PA (n:=n+69) hl (g2.keep λζ ζ ζ h=>bu _ h) (hv.cm λl c hp a=>⟨hp,bu _ a⟩) dt λa1 a2 a3 H4 x4 hn zl=>hq a1 a2 a3 H4 x4 ⟨aG Bb hn.1,aG Bb hn.2.1,aG Bb hn.2.2⟩ zl)
noncomputable def PP(ζ:Prop)(z:Nat->Prop)(B b ldd:Nat)(H₀:Hp)(sv:V)(v2 v7:Option V)(ds:List dN)(r:cV)(as:List (Nat×dN))(ρ:bv)(H':Hp):Prop:=∀(pre nE:List dN) (rb rs:cV) (frb:List Nat) (z':Nat->Prop) (ls ld:Nat) (v5 v6:Option V) (ea:as=D3 pre.length nE) (ep:pre++nE=ds) (e:ρ=jK sv B v2 (some (.ref ls)) (some (.ref ldd)) v5 v6 v7) (x:dZ B H₀ H') (tW:H₀.length<=H'.length) (BC:∀l,z l->z' l) (zm:z' ld) (bk:cz z' B H' rb frb) (s:S0 b H' rs ls ld) (sok:dC rs\/cc rs.ps=[]) (t:Runs rb nE r) (e1:nE≠[]->rs=rb) (e2:nE=[]->∃d0,ds.getLast?=some d0/\Acc rs d0 rb/\frb=jv rs rb),ζ
def Io:=λz B b ldd H₀ sv v2 v7 ds r as ρ H'=>∀ζ:Prop,PP ζ z B b ldd H₀ sv v2 v7 ds r as ρ H'->ζ
theorem Io.mk{z B b ldd H₀ sv v2 v7 ds r as ρ H'}:PP (Io z B b ldd H₀ sv v2 v7 ds r as ρ H') z B b ldd H₀ sv v2 v7 ds r as ρ H':=λx0 x1 x2 x3 x4 x5 x6 x7 x8 x9 dz fK eA fZ jW ku qQ wM A2 A3 A4 A5 GK ζ k=>k x0 x1 x2 x3 x4 x5 x6 x7 x8 x9 dz fK eA fZ jW ku qQ wM A2 A3 A4 A5 GK
theorem abE(hC:C.call=aH (n+71))(ad:H[ldd]?=some (.list vs))(ho:B+5<=ldd)(hd:ct (d6 P H) ds vs)(hP:∀l,P l->B+5<=l)(hb:B+5<=b/\b<=H.length)(bk:cz z B H ⟨[],[],[]⟩ fr)(hz:z ld)(s0:S0 b H ⟨[],[],[]⟩ ls ld)(t:Runs ⟨[],[],[]⟩ ds r)(fG:ds≠[])(hl:R3 r)(h:∀ls ld z' rs d0 v5 v6 H',dZ B H H'->(∀l,z l->z' l)->z' ld->cz z' B H' r (jv rs r)->S0 b H' rs ls ld->ds.getLast?=some d0->Acc rs d0 r->(dC rs\/cc rs.ps=[])->aX C rest (jK sv B v2 (some (.ref ls)) (some (.ref ldd)) v5 v6 v7) H' K):aX C (bg4::rest) (jK sv B v2 (some (.ref ls)) (some (.ref ldd)) v5 v6 v7) H K:=by
 refine oS (abz (aU (v:=.ref ldd) rfl (aA (cU ad) (AV (R:=Ik P H) (Io z B b ldd H sv v2 v7 ds r) (λq u as ρ H' hu hI=>hI _ λpre nE rb rs frb z' ls ld v5 v6 ea ep e x tW BC zm bk s sok t e1 e2=>?_) (λρ H' hI=>hI _ λpre nE rb rs frb z' ls ld v5 v6 ea ep e x tW BC zm bk s sok t e1 e2=>?_) (abx hd 0) _ _ (.mk [] ds ⟨[],[],[]⟩ ⟨[],[],[]⟩ fr z ls ld v5 v6 rfl rfl rfl (dZ.refl _ _) (bX _) (λζ h=>h) hz bk s0 (.inr rfl) t (λζ=>rfl) λe=>absurd e fG)))))
 ·subst e
  cases nE with
  |nil=>cases ea
  |cons d nE=>
   obtain⟨rfl,rfl⟩:=i6 ea
   obtain⟨dv,rfl,hv⟩:=hu
   have er:=e1 (cons_ne_nil _ _)
   subst er
   refine aA (a:=jK sv B v2 (some (.ref ls)) (some (.ref ldd)) (some (nv pre.length)) (some dv) v7) rfl λN hN=>?_
   have wm:=t.sub
   have p6:vs.length=pre.length+(nE.length+1):=by rw[hd.len,<-ep,b6,lF]
   cases t with
   |cons ac t=>
    refine abC (n:=n) (C:=C.xq) hC bk ac (hv.cm λl c hp a=>⟨hp,x l c (.inr (hP l hp)) a⟩) hP λH2 x2 b2=>?_
    have x3:=x.trans x2
    have l2:=aG tW (x2.len bk.len.1)
    have xf:=x3 _ _ (.inr ho) ad
    have s2:=s.keep λl c hl a=>x2 l c (.inr (aG hb.1 hl)) a
    cases nE with
    |nil=>
     exact PO (t:=false) xf (gE (by rw[p6,length_nil];lia)) (hN _ _ (dE ad xf) (.mk (pre++[d]) [] _ rs _ z' ls ld _ _ rfl (iV ep) rfl x3 l2 BC zm b2 s2 sok t (λh=>absurd rfl h) λζ=>⟨d,by rw[<-ep];exact List.getLast?_concat ..,ac,rfl⟩))
    |cons d' abF=>
     exact abD (n:=n) (C:=C.xq) hC xf (by rw[p6,lF];lia) s2 (aG hb.2 l2) (hv.cm λl c hp a=>⟨hp,x3 l c (.inr (hP l hp)) a⟩) ac.done ⟨aG wm.1 hl.1,aG wm.2.1 hl.2.1,aG wm.2.2 hl.2.2⟩ λq0 H5 x5 h1 h2 s5=>hN _ _ (dE ad (x5 _ _ xf)) (.mk (pre++[d]) (d'::abF) _ _ _ (λl=>z' l\/l=q0) H2.length q0 _ _ (by rw[b6];rfl) (iV ep) rfl (x3.trans x5.cm) (aG l2 x5.len) (λl h=>.inl (BC l h)) (.inr rfl) (b2.grow (z':=λl=>z' l\/l=q0) x5 (λl h=>h.imp id λe=>by rw[e];exact h1) (λl h=>h.elim (λh=>cL (b2.len.2 l h) x5.len) λe=>by rw[e];exact h2)) s5 ac.ok t (λζ=>rfl) λh=>absurd h (cons_ne_nil _ _))
 ·subst e
  cases nE with
  |cons _ _=>cases ea
  |nil=>
   cases t with
   |nil=>
    obtain⟨d0,yV,ac,ef⟩:=e2 rfl
    subst ef
    exact h ls ld z' rs d0 v5 v6 H' x BC zm bk s yV ac sok
end
section
variable{z:Nat->Prop}{sv:V}
theorem d6.kl{P P':Nat->Prop}{d:dN}(h:d6 P H d v)(x:∀(l:Nat) (c:List V),P l->H[l]?=some (aI.list c)->P' l/\H'[l]?=some (aI.list c)):d6 P' H' d v:=h.casesOn (λh1 h2=>.aZ (x _ _ h1 h2).1 (x _ _ h1 h2).2) .bS (λh1 h2=>.adopt (x _ _ h1 h2).1 (x _ _ h1 h2).2) .dW λh1 h2 h3 h4=>.gi (x _ _ h1 h2).1 (x _ _ h1 h2).2 h3 h4
theorem abG(h:Q (.int (-1)) H):WE C (.neg (kI 1)) ρ H Q:=h
theorem abH(h:H[ldd]?=some (.list vs))(hv:vs[vs.length - 1]?=some dv):ik (.ref ldd) (.int (-1)) H=some dv:=by
 refine(?_:(match dJ H (.ref ldd) with|some vs=>jR vs (-1)|none=>_)=_)
 rw[cU h]
 refine(?_:jR vs (-1)=_)
 obtain⟨m,hm⟩:∃m,vs.length=m+1:=⟨vs.length - 1,(Nat.sub_add_cancel (cG (iD _) (d7.mp hv).1)).symm⟩
 unfold jR
 rw[hm] at hv ⊢
 rw[bH (by decide),bQ (show -((m+1:Nat):Int)<=-1 from Int.neg_le_neg (pn.mpr (jG (iD m)))),show((-1:Int)+((m+1:Nat):Int)).toNat=m by rw[Int.add_comm];exact b7 Int.toNat (Int.add_neg_cancel_right (m:Int) 1)]
 exact hv
theorem abI(h:0<r.ps.length):By r≠[]:=by
 unfold By
 cases e:r.ps with
 |nil=>rw[e] at h;cases h
 |cons p ps=>exact cons_ne_nil _ _
theorem Ip(h:r.ps.length<=60):(jv ro r).length<=60:=aG (oo _ _) (aG (oo _ _) (by rw[jI];exact h))
theorem PR(hs:∀H',aC H H'->mD H' sv=some (is.map .int))(bk:cz z B H ⟨[],[],[]⟩ fr)(q:∀r fr v H',dC r->vo r->0<r.ps.length->r.ps.length<=5->r.ms.length<=60->r.ws.length<=60->fr.length<=60->dZ B H H'->cz z B H' r fr->ic (H.length<=·) H' r fr v->Q v H'):aH (n+72) 54 [sv,.ref (B+1)] H Q Y:=XB (by
 have hB:=bk.len
 refine eD (nN (aU (v:=sv) rfl (bP (((Z4 (n:=n+67) (b:=5) hs (by decide) (by decide) λr l lm lw H1 ok rr h0 h5 hm hw eU x1=>aA (a:=jK sv B (some (dP l lm lw)) none none none none none) rfl ?_):aH (n+71) 43 [sv,nv 5] H _ _)))))
 have hl:R3 r:=⟨aG h5 (by decide),aG hm (by decide),aG hw (by decide)⟩
 refine eD (PM (b:=H.length) (r:=⟨[],[],[]⟩) x1.len (λQ' hq=>?_) λld H2 x2 g1 g2 s2=>aA (a:=jK sv B (some (dP l lm lw)) (some (.ref H1.length)) none none none none) rfl ?_)
 ·refine w8 (oR (oR (oR ?_)))
  have hx:=(aC.aT H1 [aI.gO []]).len
  have x1l:=x1.len
  exact hq _ _ _ _ (((aC.aT _ _).trans (aC.aT _ _)).trans (aC.aT _ _)) ⟨aG x1l hx,aG (aG x1l hx) (aC.aT _ _).len,aG (aG x1l hx) ((aC.aT _ _).trans (aC.aT _ _)).len⟩ (.mk (bu _ (bu _ (bz _ _))) (bu _ (bz _ _)) (bz _ _))
 have at2:=eU.keep λζ ζ ζ h=>x2 _ _ h
 refine eD (D0 (aU (v:=dP l lm lw) rfl ((at2 _ λp1 p2 p3=>ok _ λwf len dW dO=>aaT (n:=n+70) ⟨bZ p1,bZ p3⟩ at2 hl wf dO λvs ldd H3 x3 za ad dds=>aA (a:=jK sv B (some (dP l lm lw)) (some (.ref H1.length)) (some (.ref ldd)) none none none) rfl ?_:aH (n+71) 49 [dP l lm lw] H2 _ _))))
 have fZ:=(x1.trans x2).trans x3
 have D4:=(x1.trans x2).len
 have D5:=aG (cW hB.1) D4
 refine abE (n:=n) (C:=⟨aH (n+71),xq Y⟩) (b:=H.length) (z:=λl=>z l\/l=ld) rfl ad (aG D5 za) dds (λl h=>aG D5 h.1) ⟨cW hB.1,fZ.len⟩ (bk.grow (z':=λl=>z l\/l=ld) fZ (λl h=>h.imp id λe=>by rw[e];exact aG x1.len g1) λl h=>h.elim (λh=>cL (hB.2 l h) fZ.len) λe=>by rw[e];exact cL g2 x3.len) (.inr rfl) (s2.keep λl c ζ a=>x3 _ _ a) (aa6 ok rr (aG h5 (by decide)) hl.2.1 hl.2.2) (abI h0) hl λls ld z' rs d0 v5 v6 H4 x4 hz zm bk4 s4 abK ac sok=>s4 _ λl' Gb Gc PE t1 t2 t3 t4 s4d s4p=>?_
 have D6:=(Runs.cons ac .nil).sub
 refine abw (n:=n+4) (C:=⟨aH (n+71),xq Y⟩) rfl t1 t2 s4d sok (aG D6.1 hl.1) λv7 ep es H5 x5 b1 b2 b3=>?_
 have len4:=x4.len (cL hB.1 fZ.len)
 have PS:=aG fZ.len len4
 have abL:=bZ b1
 have n0:ls≠ld:=λe=>by have:=s4d;rw[<-e,t1] at this;cases this
 have nl:∀{i:Nat} {c:List V},H4[i]?=some (aI.list c)->i≠ld:=λ{i c} h e=>by have:=s4d;rw[<-e,h] at this;cases this
 have len5:H4.length<=H5.length:=bO.abA x5 abL
 have PT:H4[ldd]?=some (.list vs):=x4 _ _ (.inr (aG D5 za)) ad
 have ad5:H5[ldd]?=some (.list vs):=x5 _ _ (nl PT) PT
 have hv:∃dv,vs[vs.length - 1]?=some dv/\d6 (Bn H2.length ldd) H3 d0 dv:=aby dds (by rw[dds.len,<-List.getLast?_eq_getElem?];exact abK)
 obtain⟨dv,hv1,hv2⟩:=hv
 refine oV (nN (aU (v:=.ref ls) rfl (c9 (aU (v:=.ref ldd) rfl (abG (aA (abH ad5 hv1) ((?_:aH (n+71) 53 [.ref ls,dv] H5 _ _))))))))
 have st:ic (λl=>H.length<=l/\l<H5.length) H5 rs [] (.ref ls):=by
  have up:∀{i:Nat} {c:List V},H4[i]?=some (aI.list c)->H5[i]?=some (aI.list c):=λh=>x5 _ _ (nl h) h
  have lt:∀{i:Nat} {c:aI},H5[i]?=some c->H.length<=i->H.length<=i/\i<H5.length:=λh h'=>⟨h',bZ h⟩
  exact t2 _ λu1 u2 u3=>.mk ls l' Gb Gc ld PE ep es rfl ⟨⟨lt (x5 _ _ n0 t1) s4p.1,lt (up u1) t4.1,lt (up u2) t4.2.1⟩,lt (up u3) t4.2.2.1,lt b1 s4p.2,lt (up t3) t4.2.2.2⟩ (x5 _ _ n0 t1) (.mk (up u1) (up u2) (up u3)) b1 (λe he=>(b2 e he).wk λi hi h=>⟨aG PS h,hi⟩) b3 (up t3)
 have D7:cz z' B H5 r (jv rs r):=bk4.keep (λi c hi a=>x5 _ _ (λe=>by subst e;exact hi.elim (λh=>absurd h.2 (fv.mpr (aG (cW hB.1) s4p.2))) λh=>h zm) a) len5
 refine PI (n:=n+3) st (λζ h=>h.2) (hv2.kl (P':=λζ=>True) λi c hp a=>⟨trivial,?_⟩) ac.done (.inl ok) ⟨aG D6.1 hl.1,aG D6.2.1 hl.2.1,aG D6.2.2 hl.2.2⟩ hl.1 λv H6 x6 sv6=>?_
 ·have a4:=x4 _ _ (.inr (aG D5 hp.1)) a
  exact x5 _ _ (nl a4) a4
 ·refine q r _ v H6 ok ⟨dW,λw hw=>(rr.2.1.1 w hw).2.2.2.2⟩ h0 h5 hm hw (Ip hl.1) (λi c hi a=>x6 _ _ (x5 _ _ (dq (cL (bZ a) s4p.2)) (x4 _ _ hi (fZ _ _ a)))) ((D7.ext x6).less λi h=>hz i (.inl h)) (sv6.cm λi c hi a=>⟨aG PS (aG len5 hi),a⟩))
end
section
variable{K:Out->Prop}{i b:Int}{A:List S}{xs:List Int}{e':E}
def EI(C:Ct)(e:E)(ρ:bv)(H:Hp):Prop:=∃z:Int,∀Q:PQ,Q (.int z) H->WE C e ρ H Q
theorem EI.mod(h:EI C e ρ H)(hb:b≠0):EI C (.bin .mod e (.k (.int b))) ρ H:=h.elim λz h=>⟨z.fmod b,λQ q=>f9 (h _ (bP (fD (k8 hb) q)))⟩
theorem EI.add(h:EI C e ρ H)(h':EI C e' ρ H):EI C (.bin .add e e') ρ H:=h.elim λz h=>h'.elim λz' h'=>⟨z+z',λQ q=>f9 (h _ (h' _ (fD rfl q)))⟩
theorem PU(h:EI C e ρ H)(hl:∀Q:PQ,Q (.ref l) H->WE C e' ρ H Q)(ha:H[l]?=some (.list vs))(h0:0<vs.length):∃a,a<vs.length/\∀Q:PQ,Q (nv a) H->WE C (.bin .mod e (.bi .len [e'])) ρ H Q:=h.elim λz h=>by
 obtain⟨a,ea,ey⟩:=k7 z (k:=vs.length) h0
 exact⟨a,ey,λQ q=>f9 (h _ (hl _ (aA (cU ha) (fD ((k8 (Int.ofNat_ne_zero.mpr (dm h0))).trans (b7 some ea)) q))))⟩
theorem Iq(h:EI C e ρ H)(yes:aX C A ρ H (λo=>mG o (λρ H=>aX C rest ρ H K) (K o)))(no:aX C rest ρ H K):aX C (.bD (.cmp .eq e (.k (.int i))) A []::rest) ρ H K:=h.elim λz h=>g9 (ky (h _ (bP (aA (a:=(z==i)) rfl (dp (λζ=>yes) λζ=>no)))))
def BD(r:cV):dN->Prop
 |.aZ p=>kg p.cf/\r.ps.length<8
 |.bS k _=>k<r.ps.length
 |.adopt k x=>k<r.ps.length/\kg x.2
 |.dW _=>True
 |.gi w=>w.fP<r.ps.length/\∃(ns:List Nat) (ov un:Nat) (hu:un≠0),w.dO=ns.map (λj=>(j,Rat.normalize ov un hu))/\(∀j∈ns,j<r.ps.length)/\ns.length<=10/\1<=ov/\un<1000/\ov*ns.length<=un/\ns.Nodup/\w.fP∉ns
noncomputable abbrev nS(l lm lw:Nat)(c:Int)(lx:Nat)(v4 v5 v6 v7:Option V):bv:=[some (dP l lm lw),some (.int c),some (.ref l),some (.ref lx),v4,v5,v6,v7]
noncomputable def xj(ps:List bb)(d:Int)(j:Nat):Bool:=(ps[j]?).elim false λp=>decide (p.aZ<d)
theorem PV{ed:E}(hm:(none::ρ)[m+1]?.join=some (.ref l))(hA:H[l]?=some (.list (ps.map bW)))(hl:ps.length<=60)(hd:∀(j:Nat) (Q:PQ),Q (.int d) H->WE C.no ed (some (nv j)::ρ) H Q)(q:Q (.ref H.length) (H++[.list (aS ((List.range ps.length).filter (xj ps d)))])):WE C (.comp 1 (.J 0) (.J 0) (.range (kI 0) (.bi .len [(.J m)])) [(.cmp .lt (.br (.br (.J (m+1)) (.J 0)) (kI 0)) ed)]) ρ H Q:=by
 refine lP (wO (bP (DJ (l:=l) hm hA ?_)))
 rw[bJ]
 refine pT (cG hl (by decide)) (cZ (c8 (by rw[bJ,jI];exact cG hl (by decide))) (mj (P:=xj ps d) (F:=nv) _ _ _ (λa ha T hT=>?_) (λa ζ ζ N hN=>hN) q))
 obtain⟨p,hp⟩:=at_of (i8.mp ha)
 unfold xj at hT
 rw[hp] at hT
 have hT:T (decide (p.aZ<d)) H:=hT
 refine Of (c9 (c9 (aU (v:=.ref l) hm (aU (v:=nv a) rfl (aA (fY hA hp) (bP (aA (a:=.int p.aZ) rfl (hd a _ (aA (a:=decide (p.aZ<d)) rfl ?_)))))))))
 cases h:decide (p.aZ<d)<;>rw[h] at hT<;>exact hT
theorem abQ{a b:E}(h:WE C a ρ H λx H=>WE C b ρ H λy H=>gH x λp=>gH y λq=>Q (.int (max p q)) H):WE C (.bi .max2 [a,b]) ρ H Q:=h
set_option maxHeartbeats 400000 in
theorem abR(at':eX H r l lm lw)(hp:0<r.ps.length/\r.ps.length<=60)(q:∀d v H',aC H H'->d6 (H.length<=·) H' d v->BD r d->Q v H'):aH (n+2) 50 [dP l lm lw,.int c] H Q Y:=Xy (at' _ λap am aw=>by
 unfold Cb
 refine eD (c9 (aU (v:=dP l lm lw) rfl (bP (aA (a:=.ref l) rfl (aA (a:=[some (dP l lm lw),some (.int c),some (.ref l),none,none,none,none,none]) rfl (eD (nN (aU (v:=.int c) rfl (bP (((Bd (n:=n) (m:=7) (by decide) λlx H1 xs hx7 ζ hlx x1 ax=>aA (a:=nS l lm lw c lx none none none none) rfl ?_):aH (n+1) 28 [.int c,nv 7] H _ _)))))))))))
 have zo:=x1 _ _ ap
 have g:∀{v4 v5 v6 v7:Option V} {H':Hp} (i:Nat) (hi:i<7),aC H1 H'->EI ⟨aH (n+1),xq Y⟩ (.br (.J 3) (.k (nv i))) (nS l lm lw c lx v4 v5 v6 v7) H':=λ{_ _ _ _ H'} i hi x=>⟨xs.getD i 0,λQ q=>c9 (aU (v:=.ref lx) rfl (bP (aA (iU (x _ _ ax) (by rw[i7,zN,iB (by rw[hx7];exact hi)];rfl)) q)))⟩
 have oG:0<(r.ps.map bW).length:=by rw[bJ];exact hp.1
 obtain⟨a,ha,qa⟩:=PU (C:=⟨aH (n+1),xq Y⟩) (ρ:=nS l lm lw c lx none none none none) (e':=.J 2) (g 0 (by decide) (aC.refl _)) (λQ q=>aU (v:=.ref l) rfl q) zo oG
 rw[bJ] at ha
 refine eD (qa _ (aA (a:=nS l lm lw c lx (some (nv a)) none none none) rfl ?_))
 obtain⟨a',oI,qa'⟩:=PU (C:=⟨aH (n+1),xq Y⟩) (ρ:=nS l lm lw c lx (some (nv a)) none none none) (e':=.J 2) (g 1 (by decide) (aC.refl _)) (λQ q=>aU (v:=.ref l) rfl q) zo oG
 rw[bJ] at oI
 refine eD (qa' _ (aA (a:=nS l lm lw c lx (some (nv a)) (some (nv a')) none none) rfl ?_))
 obtain⟨p,PW⟩:=at_of ha
 obtain⟨p',abU⟩:=at_of oI
 have aZ:∀{v5 v6 v7:Option V} {H':Hp},aC H1 H'->EI ⟨aH (n+1),xq Y⟩ (.br (.br (.J 2) (.J 4)) (kI 0)) (nS l lm lw c lx (some (nv a)) v5 v6 v7) H':=λ{_ _ _ H'} x=>⟨p.aZ,λQ q=>c9 (c9 (aU (v:=.ref l) rfl (aU (v:=nv a) rfl (aA (fY (x _ _ zo) PW) (bP (aA rfl q))))))⟩
 obtain⟨dy,qd⟩:=(aZ (v5:=some (nv a')) (v6:=none) (v7:=none) (aC.refl H1)).add ((g 2 (by decide) (aC.refl _)).mod (b:=45) (by decide))
 refine eD (qd _ (aA (a:=nS l lm lw c lx (some (nv a)) (some (nv a')) (some (.int dy)) none) rfl (eD (PV (l:=l) (m:=2) (d:=p.aZ) rfl zo hp.2 (λj Q q=>c9 (c9 (aU (v:=.ref l) rfl (aU (v:=nv a) rfl (aA (fY zo PW) (bP (aA rfl q))))))) (aA (a:=nS l lm lw c lx (some (nv a)) (some (nv a')) (some (.int dy)) (some (.ref H1.length))) rfl ?_)))))
 have x2:=aC.aT H1 [aI.list (aS ((List.range r.ps.length).filter (xj r.ps p.aZ)))]
 have ae:=bz H1 (.list (aS ((List.range r.ps.length).filter (xj r.ps p.aZ))))
 have l1:=x1.len
 have l2:=x2.len
 have D8:=x2 _ _ zo
 generalize H1++[aI.list (aS ((List.range r.ps.length).filter (xj r.ps p.aZ)))]=H2 at *
 have eA:=x1.trans x2
 have bS:aX ⟨aH (n+1),xq Y⟩ [.ret (.aF [(.k (.str "died")),.J 4,.J 6])] (nS l lm lw c lx (some (nv a)) (some (nv a')) (some (.int dy)) (some (.ref H1.length))) H2 (fA Q):=oV (w8 (bP (aU (v:=nv a) rfl (aU (v:=.int dy) rfl (q (.bS a dy) _ H2 eA .bS ha)))))
 have gi:aX ⟨aH (n+1),xq Y⟩ [.bD (.cmp .eq (.bin .mod (iI 3 3) (kI 5)) (kI 3)) [.ret (.aF [(.k (.str "will")),.J 4,.J 6,(.call 39 [.J 2,.J 4,(iI 3 5)])])] [],.ret (.aF [(.k (.str "died")),.J 4,.J 6])] (nS l lm lw c lx (some (nv a)) (some (nv a')) (some (.int dy)) (some (.ref H1.length))) H2 (fA Q):=by
  refine Iq ((g 3 (by decide) x2).mod (b:=5) (by decide)) ?_ bS
  obtain⟨y,qy⟩:=g (v4:=some (nv a)) (v5:=some (nv a')) (v6:=some (.int dy)) (v7:=some (.ref H1.length)) 5 (by decide) x2
  refine oV (xd (bP (aU (v:=nv a) rfl (aU (v:=.int dy) rfl (Hz (aU (v:=.ref l) rfl (aU (v:=nv a) rfl (qy _ ((N7 D8 hp.1 λlg H3 ns ov un iF jg h3 o1 le u1 x3 Bu ag=>?_:aH (n+1) 39 [.ref l,nv a,.int y] H2 _ _))))))))))
  have hu:un≠0\/ns=[]:=by
   cases ns with
   |nil=>exact .inr rfl
   |cons j ns=>rw[lF] at le;exact .inl (by intro e;rw[e] at le;have:=aG (Nat.mul_le_mul o1 (jG (iD ns.length))) le;lia)
  rcases Nat.eq_zero_or_pos un with e0|hun
  ·have en:ns=[]:=hu.resolve_left λh=>h e0
   subst en
   exact q (.gi ⟨a,dy,[]⟩) _ H3 (eA.trans x3) (.gi (ns:=[]) (a:=1) (b:=1) (q:=Rat.normalize (1:Int) 1 (by decide)) (aG (aG l1 l2) Bu) ag ⟨by decide,rfl,by decide,by decide⟩ rfl) ⟨ha,[],1,1,by decide,rfl,λζ h=>(nomatch h),by decide,by decide,by decide,by decide,ql,λh=>(nomatch h)⟩
  ·have hu:un≠0:=dm hun
   exact q (.gi ⟨a,dy,ns.map λj=>(j,Rat.normalize ov un hu)⟩) _ H3 (eA.trans x3) (.gi (ns:=ns) (a:=(ov:Int)) (b:=un) (aG (aG l1 l2) Bu) ag ⟨hu,rfl,⟨by lia,by lia⟩,⟨by lia,by lia⟩⟩ rfl) ⟨ha,ns,ov,un,hu,rfl,iF.1,jg,o1,u1,le,iF.2.1,iF.2.2⟩
 have dW:aX ⟨aH (n+1),xq Y⟩ (.bD (.cmp .eq (.bin .mod (iI 3 3) (kI 5)) (kI 2)) [.ret (.aF [(.k (.str "married")),.J 4,.J 5,(.bi .max2 [.J 6,(.br (.br (.J 2) (.J 5)) (kI 0))])])] []::[.bD (.cmp .eq (.bin .mod (iI 3 3) (kI 5)) (kI 3)) [.ret (.aF [(.k (.str "will")),.J 4,.J 6,(.call 39 [.J 2,.J 4,(iI 3 5)])])] [],.ret (.aF [(.k (.str "died")),.J 4,.J 6])]) (nS l lm lw c lx (some (nv a)) (some (nv a')) (some (.int dy)) (some (.ref H1.length))) H2 (fA Q):=by
  exact Iq ((g 3 (by decide) x2).mod (b:=5) (by decide)) (oV (xd (bP (aU (v:=nv a) rfl (aU (v:=nv a') rfl (abQ (aU (v:=.int dy) rfl (c9 (c9 (aU (v:=.ref l) rfl (aU (v:=nv a') rfl (aA (fY D8 abU) (bP (aA (a:=.int p'.aZ) rfl (q (.dW ⟨a,a',max dy p'.aZ⟩) _ H2 eA .dW trivial))))))))))))))) gi
 have adopt:aX ⟨aH (n+1),xq Y⟩ (.bD (.cmp .eq (.bin .mod (iI 3 3) (kI 5)) (kI 1)) [.ret (.aF [(.k (.str "adopted")),.J 4,(.bin .add (.br (.br (.J 2) (.J 4)) (kI 0)) (.bin .mod (iI 3 2) (kI 9))),(.listOf (.call 29 [.J 7,(iI 3 4),(kI 1)]))])] []::Cb.drop 8) (nS l lm lw c lx (some (nv a)) (some (nv a')) (some (.int dy)) (some (.ref H1.length))) H2 (fA Q):=by
  refine Iq ((g 3 (by decide) x2).mod (b:=5) (by decide)) ?_ dW
  obtain⟨d2,q2⟩:=(aZ (v5:=some (nv a')) (v6:=some (.int dy)) (v7:=some (.ref H1.length)) x2).add ((g 2 (by decide) x2).mod (b:=9) (by decide))
  obtain⟨y,qy⟩:=g (v4:=some (nv a)) (v5:=some (nv a')) (v6:=some (.int dy)) (v7:=some (.ref H1.length)) 4 (by decide) x2
  refine oV (xd (bP (aU (v:=nv a) rfl (q2 _ (w9 (Hz (aU (v:=.ref H1.length) rfl (qy _ (bP (((Be (n:=n) ae λal H4 ζ two ζ x4=>aA (DV (vs:=aS al)) (cZ (c8 (e7 two.1)) ?_)):aH (n+1) 29 [.ref H1.length,.int y,.int 1] H2 _ _)))))))))))
  have k:=q (.adopt a (d2,al)) (tT (nv a) (.int d2) H4.length) _ ((eA.trans x4).trans (aC.aT _ _)) (.adopt (x:=(d2,al)) (aG (aG l1 l2) x4.len) (bz _ _)) ⟨ha,two⟩
  exact jB k
 obtain⟨z,qz⟩:=(g (v4:=some (nv a)) (v5:=some (nv a')) (v6:=some (.int dy)) (v7:=some (.ref H1.length)) 3 (by decide) x2).mod (b:=5) (by decide)
 obtain⟨y,qy⟩:EI ⟨aH (n+1),xq Y⟩ (.br (.J 3) (.k (nv 4))) (nS l lm lw c lx (some (nv a)) (some (nv a')) (some (.int dy)) (some (.ref H1.length))) (H2++[.list (aS ((List.range r.ps.length).filter (xj r.ps dy)))]):=g 4 (by decide) (x2.trans (aC.aT _ _))
 refine g9 (vc (Og (so (qz _ (bP (aA (a:=(z==0)) rfl (aA (a:=(z==0)) rfl (ir (λh0=>(so (DJ (l:=l) rfl D8 (bP (aA (a:=decide (((r.ps.map bW).length:Int)<8)) rfl (aA (a:=decide (((r.ps.map bW).length:Int)<8)) rfl (dp (λh8=>?_) λζ=>adopt))))))) λh0=>fL h0 adopt))))))))
 have h8:r.ps.length<8:=by have:=cu h8;rw[bJ] at this;lia
 refine oV (w8 (bP (aU (v:=.int dy) rfl (w9 (Hz (PV (l:=l) (m:=2) (d:=dy) rfl D8 hp.2 (λj Q q=>aU (v:=.int dy) rfl q) (qy _ (bP (((Be (n:=n) (bz _ _) λal H4 ζ two ζ x4=>aA (DV (vs:=aS al)) (cZ (c8 (e7 two.1)) ?_)):aH (n+1) 29 [.ref H2.length,.int y,.int 0] _ _ _))))))))))
 have k:=q (.aZ ⟨dy,al,none,none⟩) (DT (.int dy) H4.length) _ (((eA.trans (aC.aT _ _)).trans x4).trans (aC.aT _ _)) (.aZ (p:=⟨dy,al,none,none⟩) (aG (aG (aG l1 l2) (aC.aT _ _).len) x4.len) (bz _ _)) ⟨two,h8⟩
 exact jB k)
end
section
variable{c:V}
theorem abW{w:iw}(h:u7 N w):u7 (N+1) w:=h _ λgk dy ns ov un hu e o1 u1 le nd=>.mk ⟨λg hg=>⟨lG (gk.1 g hg).1,(gk.1 g hg).2⟩,gk.2⟩ dy ns ov un hu e o1 u1 le nd
theorem Ir(h:gJ ps ks d=false):kg ks/\∀k∈ks,si ps k<d:=by
 have h1:=ub.mp h
 have h2:=ub.mp h1.1
 refine⟨⟨fv.mp (zR h2.1),EF λhn=>absurd (zR h2.2) (not_not_intro hn)⟩,λk hk=>?_⟩
 have:=any_eq_false.mp h1.2 k hk
 exact Int.not_le.mp λl9=>this (dj l9)
theorem PX(hk:∀k∈ks,k<ps.length)(h:gJ ps ks d=false):∀k∈ks,jt ps d k:=λk tS=>(at_of (hk k tS)).elim λq hq=>⟨q,hq,by have:=(Ir h).2 k tS;unfold si at this;rw[hq] at this;exact this⟩
theorem abX(h:mW ps v vs=none):(∀k∈vs.map natOf,k<ps.length)/\(0<=fu v/\fu v<=100000)/\gJ ps (vs.map natOf) (fu v)=false/\ps.length<60:=by
 unfold mW at h
 by_cases h0:sh ps vs=true
 ·rw[bQ h0] at h
  by_cases h1:wh v 0 100000=true
  ·rw[bQ h1] at h
   by_cases h2:gJ ps (vs.map natOf) (fu v)=true
   ·rw[bQ h2] at h;cases h
   ·rw[bH h2] at h
    by_cases h3:60<=ps.length
    ·rw[bQ h3] at h;cases h
    ·obtain⟨i,rfl,hi⟩:=tR h1
     exact⟨(Bt h0).2,hi,Bool.eq_false_iff.mpr h2,not_le.mp h3⟩
  ·rw[bH h1] at h;cases h
 ·rw[bH h0] at h;cases h
theorem abY(hr:dC r)(hl:r.ps.length<20)(h:mW r.ps v vs=none):dC ⟨r.ps++[⟨fu v,vs.map natOf,none,none⟩],r.ms,r.ws⟩:=hr _ λwf len dW dO=>by
 obtain⟨hk,hd,hb,_⟩:=abX h
 have el:(r.ps++[(⟨fu v,vs.map natOf,none,none⟩:bb)]).length=r.ps.length+1:=b6
 refine .mk (DG (p:=(⟨fu v,vs.map natOf,none,none⟩:bb)) (P:=λζ p=>oK (r.ps++[(⟨fu v,vs.map natOf,none,none⟩:bb)]) p) (λi q hq=>(wf i q hq).aT _) (.mk (λj hj=>(PX hk hb j hj).aT _) (λx hx=>by cases hx) (Ir hb).1 (λx hx=>by cases hx) hd.1)) ?_ (λw hw=>?_) λw hw=>?_
 ·exact aG (iC el) hl
 ·have z:=dW w hw
  exact⟨cL z.1 (el▸kO _),cL z.2 (el▸kO _)⟩
 ·exact el▸abW (dO w hw)
theorem abZ(h:mu ps c v vs=none)(hp:ps[natOf c]?=some p):(∀k∈vs.map natOf,k<ps.length)/\natOf c<ps.length/\(0<=fu v/\fu v<=100000)/\gJ ps (vs.map natOf) p.aZ=false:=by
 unfold mu at h
 by_cases h0:(wh c 0 ((ps.length:Int) - 1)&&sh ps vs)=true
 ·rw[bQ h0] at h
  by_cases h1:wh v 0 100000=true
  ·rw[bQ h1,hp] at h
   have h:nQ ps p (vs.map natOf) (fu v)=none:=h
   unfold nQ at h
   split at h
   ·cases h
   ·split at h
    ·cases h
    ·rename_i h3
     obtain⟨i,rfl,hi⟩:=tR h1
     exact⟨(Bt (iA.mp h0).2).2,(d7.mp hp).1,hi,(ub.mp (Bool.eq_false_iff.mpr h3)).2⟩
  ·rw[bH h1] at h;cases h
 ·rw[bH h0] at h;cases h
theorem PY(hp:ps[k]?=some p)(hq:q.aZ=p.aZ){b:Int}(h:jt ps b j):jt (ps.set k q) b j:=h.elim λz hz=>by
 by_cases e:k=j
 ·subst e
  rw[hp] at hz
  cases hz.1
  exact⟨q,sN (d7.mp hp).1,by rw[hq];exact hz.2⟩
 ·exact⟨z,(ud e).trans hz.1,hz.2⟩
theorem ab1(wf:fk ps)(hp:ps[k]?=some p)(hq:q.aZ=p.aZ)(ho:oK ps q):fk (ps.set k q):=λi z hz=>by
 have up:∀{z},oK ps z->oK (ps.set k q) z:=λh=>h _ λa b c d e=>.mk (λj hj=>PY hp hq (a j hj)) (λx hx j hj=>PY hp hq (b x hx j hj)) c d e
 by_cases e:k=i
 ·subst e
  rw[sN (d7.mp hp).1] at hz
  cases hz
  exact up ho
 ·rw[ud e] at hz
  exact up (wf i z hz)
theorem PZ(hr:dC r)(hp:r.ps[k]?=some p)(hq:q.aZ=p.aZ)(ho:fk r.ps->oK r.ps q):dC ⟨r.ps.set k q,r.ms,r.ws⟩:=hr _ λwf len dW dO=>by
 have el:(r.ps.set k q).length=r.ps.length:=gR
 exact .mk (ab1 wf hp hq (ho wf)) (el▸len) (λw hw=>el▸dW w hw) λw hw=>el▸dO w hw
theorem ab2(hr:dC r)(hp:r.ps[natOf c]?=some p)(h:mu r.ps c v vs=none):dC ⟨r.ps.set (natOf c) (jw p (fu v) (vs.map natOf)),r.ms,r.ws⟩:=PZ hr hp rfl λwf=>by
 obtain⟨hk,_,hd,hb⟩:=abZ h hp
 exact(wf _ p hp) _ λa b c d e=>.mk a (λx hx j hj=>by cases hx;exact PX hk hb j hj) c (λx hx=>by cases hx;exact(Ir hb).1) e
end
section
variable{z:Nat->Prop}{P:Nat->Prop}{d:dN}
structure Iv(r:cV):Prop where
 ok:dC r
 wd:vo r
 p:0<r.ps.length/\r.ps.length<=8
theorem j0{c:Prop}[Decidable c]{a b:Option Nat}(h:(if c then a else b)=some j)(h1:a=some j->j<8)(h2:b=some j->j<8):j<8:=by
 by_cases hc:c
 ·rw[bQ hc] at h;exact h1 h
 ·rw[bH hc] at h;exact h2 h
theorem s8(h:some i=some j)(hi:i<8:=by decide):j<8:=dH h▸hi
theorem n8(h:(none:Option Nat)=some j):j<8:=nomatch h
theorem P0(h:mW ps u vs=some j):j<8:=j0 h (λh=>j0 h (λh=>j0 h (λh=>s8 h) λh=>j0 h (λh=>s8 h) n8) λh=>s8 h) λh=>s8 h
theorem P1{c:V}(h:mu ps c u vs=some j):j<8:=j0 h (λh=>j0 h (λh=>by
 cases e:ps[natOf c]? with
 |none=>rw[e] at h;exact n8 h
 |some p=>
  rw[e] at h
  exact j0 (show nQ ps p (vs.map natOf) (fu u)=some j from h) (λh=>s8 h) λh=>j0 h (λh=>s8 h) λh=>j0 h (λh=>s8 h) n8) λh=>s8 h) λh=>s8 h
theorem P2{c:V}(h:outD r c u=some j):j<8:=j0 h (λh=>j0 h (λh=>by
 cases e:r.ps[natOf c]? with
 |none=>rw[e] at h;exact n8 h
 |some p=>
  rw[e] at h
  exact j0 (show oX r p (natOf c) (fu u)=some j from h) (λh=>s8 h) λh=>j0 h (λh=>s8 h) n8) λh=>s8 h) λh=>s8 h
theorem P4{a b c:V}(h:oY r a b c=some j):j<8:=j0 h (λh=>j0 h (λh=>j0 (show qZ r _=some j from h) (λh=>s8 h) λh=>j0 h n8 λh=>s8 h) λh=>s8 h) λh=>s8 h
theorem P5{e:Int}(h:qX p e ns=some j):j<8:=j0 h (λh=>j0 h (λh=>s8 h) λh=>j0 h (λh=>s8 h) n8) λh=>s8 h
end
section
variable{z:Nat->Prop}{P:Nat->Prop}{d:dN}
def zp(z:Nat->Prop)(B:Nat)(H:Hp)(r:cV)(d:dN)(_:V)(H':Hp):Prop:=∃r',sy r d r'/\Iv r'/\(r'.ms.length<=r.ms.length+1/\r'.ws.length<=r.ws.length+1)/\dZ B H H'/\cz z B H' r' (jv r r')
theorem P6{α:Type}{l:List α}{x:α}:(l++[x]).length<=l.length+1:=by rw[b6];exact bX _
theorem Iu(h:vo r)(hl:r.ps.length<=ps.length):vo ⟨ps,r.ms,r.ws⟩:=⟨λw hw=>⟨cL (h.1 w hw).1 hl,cL (h.1 w hw).2 hl⟩,h.2⟩
set_option tactic.hygienic true in
theorem ab3(iv:Iv r)(hl:r.ms.length<=900/\r.ws.length<=900)(bk:cz z B H r fr)(h:d6 P H d v)(hP:∀l,P l->l<B\/B+5<=l)(dk:BD r d)(q1:∀u H',zp z B H r d u H'->Q (.aF [.str "",u]) H')(q2:∀j,j<8->∀H',aC H H'->Q (OQ j) H'):aH (n+71) 47 [.ref (B+1),v] H Q Y:=by
 have mr:r.ps.length<=60:=aG iv.p.2 (by decide)
 have P7:r.ms.length<=1000/\r.ws.length<=1000:=⟨aG hl.1 (by decide),aG hl.2 (by decide)⟩
 have same:r.ms.length<=r.ms.length+1/\r.ws.length<=r.ws.length+1:=⟨kO _,kO _⟩
 cases h with
 |aZ p1 p2=>
  rename_i p lq
  refine ze (n:=n+69) (okR:=zp z B H r (.aZ p)) (err:=mW r.ps (.int p.aZ) (aS p.cf)) (λQ' Y' hq hy=>?_) (λu H' ok=>q1 u H' ok) λj hj=>⟨P0 hj,q2 j (P0 hj)⟩
  have jC:mW r.ps (.int p.aZ) (aS p.cf)=none->dC ⟨r.ps++[⟨p.aZ,(aS p.cf).map natOf,none,none⟩],r.ms,r.ws⟩:=λe=>abY iv.ok (cL dk.2 (by decide)) e
  refine OV bk.b (OG (n:=n) bk.b mr p2 DX rfl (by rw[bJ];exact aG dk.1.1 (by decide)) (hP _ p1) (λk hk=>ft (hy k hk H (aC.refl _))) (λe=>.inr (jC e)) λe H' x b'=>hq _ _ ?_)
  have jC:=jC e
  rw[tU] at b' jC
  exact⟨_,.aZ,⟨jC,Iu iv.wd (by rw[b6];exact eV _ _),by rw[b6];exact succ_pos _,by rw[b6];exact dk.2⟩,same,x,b'⟩
 |bS=>
  rename_i k e
  refine ze (n:=n+69) (okR:=zp z B H r (.bS k e)) (err:=outD r (nv k) (.int e)) (λQ' Y' hq hy=>?_) (λu H' ok=>q1 u H' ok) λj hj=>⟨P2 hj,q2 j (P2 hj)⟩
  have jC:∀p,r.ps[k]?=some p->dC ⟨r.ps.set k (kB p e),r.ms,r.ws⟩:=λp hp=>PZ (q:=kB p e) iv.ok hp rfl λwf=>(wf k p hp) _ λa b c d e0=>.mk a b c d e0
  exact OY bk.b (O1 (n:=n) bk.b mr rfl rfl (λj hj=>ft (hy j hj H (aC.refl _))) (λζ p hp=>jC p hp) λζ p hp H' x b'=>hq _ _ ⟨_,.bS hp,⟨jC p hp,Iu iv.wd (iC gR.symm),by rw[gR];exact iv.p⟩,same,x,b'⟩)
 |adopt p1 p2=>
  rename_i k x' lq
  refine ze (n:=n+69) (okR:=zp z B H r (.adopt k x')) (err:=mu r.ps (nv k) (.int x'.1) (aS x'.2)) (λQ' Y' hq hy=>?_) (λu H' ok=>q1 u H' ok) λj hj=>⟨P1 hj,q2 j (P1 hj)⟩
  have jC:mu r.ps (nv k) (.int x'.1) (aS x'.2)=none->∀p,r.ps[k]?=some p->dC ⟨r.ps.set k (jw p x'.1 ((aS x'.2).map natOf)),r.ms,r.ws⟩:=λe p hp=>ab2 (c:=nv k) iv.ok hp e
  refine OW bk.b (OH (n:=n) bk.b mr p2 DX rfl rfl (by rw[bJ];exact aG dk.2.1 (by decide)) (λk hk=>ft (hy k hk H (aC.refl _))) (λe p hp=>.inr (jC e p hp)) λe p hp H' x b'=>hq _ _ ?_)
  have jC:=jC e p hp
  rw[tU] at b' jC
  exact⟨_,.adopt hp,⟨jC,Iu iv.wd (iC gR.symm),by rw[gR];exact iv.p⟩,same,x,b'⟩
 |dW=>
  rename_i w
  refine ze (n:=n+69) (okR:=zp z B H r (.dW w)) (err:=oY r (nv w.a) (nv w.b) (.int w.day)) (λQ' Y' hq hy=>?_) (λu H' ok=>q1 u H' ok) λj hj=>⟨P4 hj,q2 j (P4 hj)⟩
  have mJ:oY r (nv w.a) (nv w.b) (.int w.day)=none->(w.a<r.ps.length/\w.b<r.ps.length)/\w.day<=100000:=λe=>by
   unfold oY at e
   by_cases c1:(wh (nv w.a) 0 ((r.ps.length:Int) - 1)&&wh (nv w.b) 0 ((r.ps.length:Int) - 1))=true
   ·rw[bQ c1] at e
    have c1:=iA.mp c1
    by_cases c2:wh (.int w.day) 0 100000=true
    ·obtain⟨i,e1,h1,h2⟩:=tR c2
     cases e1
     obtain⟨k1,e3,h3⟩:=wW c1.1
     obtain⟨k2,e4,h4⟩:=wW c1.2
     injection e3 with e3
     injection e4 with e4
     exact⟨⟨om e3▸h3,om e4▸h4⟩,h2⟩
    ·rw[bH c2] at e;cases e
   ·rw[bH c1] at e;cases e
  have jC:oY r (nv w.a) (nv w.b) (.int w.day)=none->dC ⟨r.ps,r.ms++[w],r.ws⟩:=λe=>iv.ok _ λwf len dW dO=>.mk wf len (λu hu=>(cY.mp hu).elim (dW u) λh=>dI.mp h▸(mJ e).1) dO
  exact OX bk.b (O2 (n:=n) bk.b mr iv.wd P7.1 rfl rfl rfl (λj hj H' x=>ft (hy j hj H' x)) (λe=>.inr (jC e)) λe H' x b'=>hq _ _ ⟨_,.dW,⟨jC e,⟨λu hu=>(cY.mp hu).elim (iv.wd.1 u) λh=>dI.mp h▸(mJ e).1,λu hu=>(cY.mp hu).elim (iv.wd.2 u) λh=>dI.mp h▸(mJ e).2⟩,iv.p⟩,⟨P6,kO _⟩,x,b'⟩)
 |gi p1 ag qk eg=>
  rename_i w lg b a mX q'
  obtain⟨hk,ns,ov,un,hu,e,iF,jg,o1,u1,le,nd,nw⟩:=dk
  obtain⟨p,hp⟩:=at_of hk
  obtain⟨fP,day,dO⟩:=w
  have eg:dO=mX.map λj=>(j,q'):=eg
  subst eg
  have em:=HW (show mX.map (λj=>(j,q'))=ns.map λj=>(j,Rat.normalize ov un hu) from e)
  have ab4:=em.1
  subst ab4
  refine ze (n:=n+69) (okR:=zp z B H r (.gi ⟨fP,day,mX.map λj=>(j,q')⟩)) (err:=qX p day mX) (λQ' Y' hq hy=>?_) (λu H' ok=>q1 u H' ok) λj hj=>⟨P5 hj,q2 j (P5 hj)⟩
  have jC:qX p day mX=none->dC ⟨r.ps,r.ms,r.ws++[⟨fP,day,mX.map λj=>(j,q')⟩]⟩:=λe0=>iv.ok _ λwf len dW dO=>.mk wf len dW λu BE=>(cY.mp BE).elim (dO u) λh=>by
   have hh:0<=day/\mX≠[]:=by
    unfold qX at e0
    by_cases c2:wh (.int day) 0 100000=true
    ·obtain⟨i,e1,h1,h2⟩:=tR c2
     cases e1
     refine⟨h1,λh=>?_⟩
     rw[bQ c2,h] at e0
     by_cases c3:sj p day=true
     ·rw[bQ c3] at e0;cases e0
     ·rw[bH c3] at e0;cases e0
    ·rw[bH c2] at e0;cases e0
   have fG:=hh.2
   have lo:ov<2^10:=cG (aG (Nat.le_mul_of_pos_right _ (length_pos_iff.mpr fG)) le) (jp u1 (by decide))
   rw[dI.mp h,em.2 fG]
   exact .mk ⟨λg hg=>by obtain⟨j,hj,rfl⟩:=ii.mp hg;exact⟨iF j hj,Sm.tG hu (show((ov:Nat):Int).natAbs<2^10 from lo) (jp u1 (by decide))⟩,by rw[bJ];exact jg⟩ hh.1 mX ov un hu rfl o1 u1 le ⟨nd,nw,fG⟩
  exact OZ bk.b (ON (n:=n) bk.b mr P7.2 hp ⟨iF,jg⟩ qk hu em.2 o1 u1 le ⟨nd,nw⟩ ag (λj hj=>ft (hy j hj H (aC.refl _))) jC λe0 H' x b'=>hq _ _ ⟨_,.gi (by rw[bJ];exact jg),⟨jC e0,iv.wd,iv.p⟩,⟨kO _,P6⟩,x,b'⟩)
end
section
variable{Z Z':Nat->Prop}{d d':PyData}{P:Nat->Prop}
def KZ(Z:Nat->Prop)(H H':Hp):Prop:=∀(l:Nat) (c:aI),¬Z l->H[l]?=some c->H'[l]?=some c
theorem KZ.refl:KZ Z H H:=λζ ζ ζ h=>h
theorem KZ.trans{H'':Hp}(a:KZ Z H H')(b:KZ Z H' H''):KZ Z H H'':=λl c n h=>b l c n (a l c n h)
theorem KZ.sub(a:KZ Z H H')(h:∀l,Z l->Z' l):KZ Z' H H':=λl c n e=>a l c (λq=>n (h l q)) e
theorem aC.kz(x:aC H H'):KZ Z H H':=λl c ζ h=>x l c h
def Rs(Z:Nat->Prop)(H:Hp)(v:V)(d:PyData):Prop:=∀H',KZ Z H H'->rd H' 10 v=some d/\mF H' v=none
theorem Rs.cm(h:Rs Z H v d)(x:KZ Z H H'):Rs Z H' v d:=λH'' y=>h H'' (x.trans y)
theorem Rs.sub(h:Rs Z' H v d)(x:∀l,Z l->Z' l):Rs Z H v d:=λH'' y=>h H'' (y.sub x)
theorem Rs.eq(h:Rs Z H v d)(h':Rs Z' H v' d'):gP .eq v v' H=some (PyData.eqv d d'):=by
 refine(?_:kQ H v v'=_)
 unfold kQ
 rw[(h H .refl).2,(h H .refl).1,(h' H .refl).1];rfl
theorem Rs.ne(h:Rs Z H v d)(h':Rs Z' H v' d')(e:PyData.eqv d d'=true):gP .ne v v' H=some false:=by
 refine(?_:(kQ H v v').map (!·)=_)
 unfold kQ
 rw[(h H .refl).2,(h H .refl).1,(h' H .refl).1]
 exact b7 (λb=>some (!b)) e
def PG(Z:Nat->Prop)(H:Hp)(u:V):Prop:=∃v v' d,u=.aF [v,v']/\Rs Z H v d/\Rs Z H v' d/\PyData.eqv d d=true
theorem PG.cm(h:PG Z H u)(x:KZ Z H H'):PG Z H' u:=h.imp λζ h=>h.imp λζ h=>h.imp λζ h=>⟨h.1,h.2.1.cm x,h.2.2.1.cm x,h.2.2.2⟩
theorem PG.sub(h:PG Z' H u)(x:∀l,Z l->Z' l):PG Z H u:=h.imp λζ h=>h.imp λζ h=>h.imp λζ h=>⟨h.1,h.2.1.sub x,h.2.2.1.sub x,h.2.2.2⟩
noncomputable def xk(ks:List Nat):PyData:=.list (ks.map λi:Nat=>.int i)
theorem zq(h:H[l]?=some (.list (aS ks)))(hz:¬Z l):Rs Z H (.ref l) (xk ks):=λH' x=>⟨r6 (x _ _ hz h) (uU _ ks),none_list (x _ _ hz h)⟩
theorem zr(ks:List Nat):PyData.eqv (xk ks) (xk ks)=true:=DC ks
theorem BF(h:eX H r l lm lw)(h1:¬Z l)(h2:¬Z lm)(h3:¬Z lw):Rs Z H (dP l lm lw) (y8 r):=λH' x=>⟨Z3 (h.keep λi c hi a=>x _ _ (by rcases hi with rfl|rfl|rfl<;>assumption) a),rfl⟩
theorem Iw(r:cV):PyData.eqv (y8 r) (y8 r)=true:=by
 refine(?_:(PyData.eqvAll (r.ps.map yY) (r.ps.map yY)&&(PyData.eqvAll (r.ms.map yZ) (r.ms.map yZ)&&(PyData.eqvAll (r.ws.map y7) (r.ws.map y7)&&true)))=true)
 rw[wV ZU,wV ZV,wV ZX];rfl
theorem ab5(x:fM):PyData.eqv (mq x) (mq x)=true:=by
 refine(?_:(PyData.eqv (mV x.gr) (mV x.gr)&&(PyData.eqv (k4 x.part) (k4 x.part)&&(PyData.eqv (.str x.how) (.str x.how)&&(PyData.eqvAll (x.line.map λi:Nat=>.int i) (x.line.map λi:Nat=>.int i)&&true))))=true)
 rw[NC,DC,show PyData.eqv (.str x.how) (.str x.how)=true from hX x.how,show PyData.eqv (mV x.gr) (mV x.gr)=true by cases x.gr;rfl;exact sg _];rfl
noncomputable def BG(rs:List fM):PyData:=.list (rs.map mq)
theorem ab6{x:fM}(h:tQ P H x v)(ok:oQ x):rd H 8 v=some (mq x):=h.elim λl h=>by
 rw[h.2.1]
 refine b7 (Option.map PyData.tuple) (gv (d:=mV x.gr) ?_ (gv (Dy _ _) (gv (d:=.str x.how) (show rd H 7 (.str x.how)=some (.str x.how) from bQ ok.1) (gv (GX h.2.2) rfl))))
 cases x.gr<;>rfl
theorem ab7{rs:List fM}(h:ct (tQ P H) rs vs)(ok:∀x∈rs,oQ x):gp (rd H 8) vs=some (rs.map mq):=h.rec (motive:=λrs vs ζ=>(∀x∈rs,oQ x)->gp (rd H 8) vs=some (rs.map mq)) (λζ=>rfl) (λh ζ ih ok=>gv (ab6 h (ok _ dD)) (ih λx hx=>ok x (.tail _ hx))) ok
theorem ab8(h:gb P H rs v):rd H 9 v=some (BG rs):=by
 obtain⟨lr,vs,rfl,_,a,hr,ok,_⟩:=h
 exact r6 a (ab7 hr ok)
noncomputable def D9(ss:List (List fM)):PyData:=.list (ss.map BG)
theorem ab9{ss:List (List fM)}(h:ct (gb P H) ss vs):gp (rd H 9) vs=some (ss.map BG):=h.rec (motive:=λss vs ζ=>gp (rd H 9) vs=some (ss.map BG)) rfl λh ζ ih=>gv (ab8 h) ih
theorem Iy{ss:List (List fM)}(h:ct (gb P H) ss vs)(a:H[l]?=some (.list vs))(hz:¬Z l)(hP:∀l,P l->¬Z l):Rs Z H (.ref l) (D9 ss):=λH' x=>⟨r6 (x _ _ hz a) (ab9 (P:=P) (h.imp λζ ζ q=>q.cm λl c hp a=>⟨hp,x _ _ (hP l hp) a⟩)),none_list (x _ _ hz a)⟩
theorem P8(ss:List (List fM)):PyData.eqv (D9 ss) (D9 ss)=true:=wV (d:=BG) (λrs=>wV ab5 rs) ss
end
section
variable{Z z:Nat->Prop}{K:Out->Prop}
noncomputable def q8(r:cV)(fr:List Nat):Nat->PyData
 |0=>xk fr
 |1=>xk (cc r.ps)
 |2=>y8 r
 |_=>D9 ((cc r.ps).map (ib r))
noncomputable abbrev rf(B s lx lh:Nat)(o:Option V):bv:=[some (.ref (B+1)),some (nv s),some (.ref lx),some (.ref lh),o]
def xl(Z:Nat->Prop)(lh:Nat)(us:List V)(d:PyData)(H:Hp)(v:V)(H':Hp):Prop:=∃u,bO lh H H'/\H.length<=H'.length/\H'[lh]?=some (.list (us++[u]))/\PG Z H' u/\Rs Z H' v d
theorem P9(x:aC H H1)(hl:H.length<=l)(a:H1[l]?=some (.list (aS ks)))(hk:ks.length<=60)(ah:H[lh]?=some (.list us))(hu:us.length<=1000)(hz:∀l,Z l->l<H.length)(iK:Z lh)(q:∀H',xl Z lh us (xk ks) H (.ref l) H'->(∃vs,H'[l]?=some (.list vs))->Q (.ref l) H'):aX ⟨aH n,xq Y⟩ (EW.drop 1) (rf B s lx lh (some (.ref l))) H1 (fA Q):=by
 have zt:=bZ ah
 refine oW (zf (j:=3) (lu:=lh) (us:=us) rfl (x _ _ ah) (D2 (aU (v:=.ref l) rfl (w9 (aU (v:=.ref l) rfl (aA (oJ a) (cZ (c8 ?_) (jB ?_))))))))
 ·rw[bJ];exact cG hk (by decide)
 refine gg (bu _ (x _ _ ah)) (cG hu (by decide)) (oV (aU (v:=.ref l) rfl ?_))
 have up:∀{i:Nat} {c:aI},i≠lh->(H1++[aI.list (aS ks)])[i]?=some c->((H1++[aI.list (aS ks)]).set lh (.list (us++[.aF [.ref l,.ref H1.length]])))[i]?=some c:=λhn h=>dK h _ (gS hn)
 have al:=bZ a
 have a1:=up (by lia) (bu _ a)
 have a2:=up (by lia) (bz H1 (aI.list (aS ks)))
 have z1:¬Z l:=λh=>by have:=hz l h;lia
 have z2:¬Z H1.length:=λh=>by have:=hz _ h;lia
 exact q _ ⟨_,λi c hn h=>up hn (bu _ (x _ _ h)),by rw[gR,b6];exact aG x.len (eV _ _),d9 (bu _ (x _ _ ah)) _,⟨_,_,_,rfl,zq a1 z1,zq a2 z2,zr _⟩,zq a1 z1⟩ ⟨_,a1⟩
end
section
variable{Z z:Nat->Prop}{K:Out->Prop}
theorem aca(bk:cz z B H r fr)(jU:fr.length<=60)(ah:H[lh]?=some (.list us))(hu:us.length<=1000)(hz:∀l,Z l->l<H.length)(iK:Z lh)(q:∀l H',xl Z lh us (q8 r fr 0) H (.ref l) H'->H.length<=l->(∃vs,H'[l]?=some (.list vs))->Q (.ref l) H'):aH (n+4) 51 [.ref (B+1),nv 0,.ref lx,.ref lh] H Q Y:=Dj (bk _ λld ep lf es a0 a1 ap am aw ad hd de dk af hf=>by
 refine g9 (ky (aU (v:=nv 0) rfl (bP (aA (a:=true) rfl (ia rfl (eD (zi (aU (v:=.ref (B+1)) rfl (mc a1 a0 ((Pw (n:=n+2) bk jU (aA (a:=rf B 0 lx lh (some (.ref H.length))) rfl ?_):aH (n+3) 67 [.ref (B+1)] H _ _)))))))))))
 exact P9 (aC.aT _ _) (bX _) (bz _ _) jU ah hu hz iK λH' k e=>q _ H' k (bX _) e)
theorem acb(bk:cz z B H r fr)(hl:r.ps.length<=60)(ah:H[lh]?=some (.list us))(hu:us.length<=1000)(hz:∀l,Z l->l<H.length)(iK:Z lh)(q:∀l H',xl Z lh us (q8 r fr 1) H (.ref l) H'->H.length<=l->(∃vs,H'[l]?=some (.list vs))->Q (.ref l) H'):aH (n+4) 51 [.ref (B+1),nv 1,.ref lx,.ref lh] H Q Y:=Dj (bk _ λld ep lf es a0 a1 ap am aw ad hd de dk af hf=>by
 refine g9 (ky (aU (v:=nv 1) rfl (bP (aA (a:=false) rfl (fL rfl (g9 (ky (aU (v:=nv 1) rfl (bP (aA (a:=true) rfl (ia rfl (eD (zi (aU (v:=.ref (B+1)) rfl (mc a1 a0 ((HD (n:=n+2) a1 a0 rfl ap hl (aA (a:=rf B 1 lx lh (some (.ref H.length))) rfl ?_):aH (n+3) 69 [.ref (B+1)] H _ _)))))))))))))))))
 exact P9 (aC.aT _ _) (bX _) (bz _ _) (y9 hl) ah hu hz iK λH' k e=>q _ H' k (bX _) e)
theorem Iz(he:∀Q:PQ,Q (.ref l) H->WE C e ρ H Q)(a:H[l]?=some (.list vs))(hs:vs.length<16000000)(q:Q (.ref H.length) (H++[.list vs])):WE C (.listOf e) ρ H Q:=w9 (he _ (aA (oJ a) (cZ (c8 hs) (jB q))))
theorem Qa{H2:Hp}{d:PyData}(x:aC H H2)(ah:H[lh]?=some (.list us))(hu:us.length<=1000)(hr:Rs Z H2 v d)(yJ:Rs Z H2 v' d)(e:PyData.eqv d d=true)(iK:Z lh)(q:∀H',xl Z lh us d H v H'->Q v H'):oD .append (.ref lh) [.aF [v,v']] H2 λζ H=>aX C [.ret (.J 4)] (rf B s lx lh (some v)) H (fA Q):=
 gg (x _ _ ah) (cG hu (by decide)) (oV (aU (v:=v) rfl (by
  have k:KZ Z H2 (H2.set lh (.list (us++[.aF [v,v']]))):=λi c hn h=>dK h _ λe=>hn (e▸iK)
  exact q _ ⟨_,λi c hn h=>dK (x _ _ h) _ (gS hn),by rw[gR];exact x.len,d9 (x _ _ ah) _,⟨_,_,_,rfl,hr.cm k,yJ.cm k,e⟩,hr.cm k⟩)))
theorem acd(bk:cz z B H r fr)(hl:R3 r)(ah:H[lh]?=some (.list us))(hu:us.length<=1000)(hz:∀l,Z l->l<H.length)(iK:Z lh)(q:∀v H',xl Z lh us (q8 r fr 2) H v H'->Q v H'):aH (n+4) 51 [.ref (B+1),nv 2,.ref lx,.ref lh] H Q Y:=Dj (bk _ λld ep lf es a0 a1 ap am aw ad hd de dk af hf=>by
 refine g9 (ky (aU (v:=nv 2) rfl (bP (aA (a:=false) rfl (fL rfl (g9 (ky (aU (v:=nv 2) rfl (bP (aA (a:=false) rfl (fL rfl (g9 (ky (aU (v:=nv 2) rfl (bP (aA (a:=true) rfl (ia rfl (eD (zi (aU (v:=.ref (B+1)) rfl (mc a1 a0 ((OC (n:=n+2) bk.b hl λl lm lw H1 x1 hn eU=>aA (a:=rf B 2 lx lh (some (dP l lm lw))) rfl (eU _ λp1 p2 p3=>?_):aH (n+3) 68 [.ref (B+1)] H _ _)))))))))))))))))))))))
 have zt:=bZ ah
 have ix:∀{i:Nat} {w:V} {H:Hp} {C:Ct} {vs:List V},(rf B 2 lx lh (some (dP l lm lw)))[4]?.join=some (.aF vs)->jR vs (i:Int)=some w->∀Q:PQ,Q w H->WE C (.br (.J 4) (.k (.int i))) (rf B 2 lx lh (some (dP l lm lw))) H Q:=λh e Q q=>c9 (aU h (bP (aA e q)))
 refine oW (zf (j:=3) (lu:=lh) (us:=us) rfl (x1 _ _ ah) (D2 (aU (v:=dP l lm lw) rfl (w8 (Iz (l:=l) (ix (i:=0) rfl rfl) p1 (e7 hl.1) (Iz (l:=lm) (ix (i:=1) rfl rfl) (bu _ p2) (e7 hl.2.1) (Iz (l:=lw) (ix (i:=2) rfl rfl) (bu _ (bu _ p3)) (e7 hl.2.2) ?_)))))))
 have xc:aC H1 (H1++[aI.list (r.ps.map bW)]++[aI.list (r.ms.map iH)]++[aI.list (r.ws.map iX)]):=(aC.aT _ _).trans ((aC.aT _ _).trans (aC.aT _ _))
 have at2:eX (H1++[aI.list (r.ps.map bW)]++[aI.list (r.ms.map iH)]++[aI.list (r.ws.map iX)]) r H1.length (H1++[aI.list (r.ps.map bW)]).length (H1++[aI.list (r.ps.map bW)]++[aI.list (r.ms.map iH)]).length:=.mk (bu _ (bu _ (bz _ _))) (bu _ (bz _ _)) (bz _ _)
 have BH:H1.length<=H1.length/\H1.length<=(H1++[aI.list (r.ps.map bW)]).length/\H1.length<=(H1++[aI.list (r.ps.map bW)]++[aI.list (r.ms.map iH)]).length:=⟨bX _,(aC.aT _ _).len,((aC.aT _ _).trans (aC.aT _ _)).len⟩
 have nz:∀{i:Nat},H.length<=i->¬Z i:=λh h'=>by have:=hz _ h';lia
 have x1l:=x1.len
 exact Qa (x1.trans xc) ah hu (BF (eU.keep λζ ζ ζ h=>xc _ _ h) (nz hn.1) (nz hn.2.1) (nz hn.2.2)) (BF at2 (nz (aG x1l BH.1)) (nz (aG x1l BH.2.1)) (nz (aG x1l BH.2.2))) (Iw r) iK (q _))
end
section
variable{Z z:Nat->Prop}{K:Out->Prop}{P:Nat->Prop}{ss:List (List fM)}
theorem ace(h:ct (gb P H) ss vs)(a:H[lf]?=some (.list vs))(hl:vs.length<=60)(hj:ρ[j]?.join=some (.ref lf))(q:∀lc us H',aC H H'->H.length<=lc->H'[lc]?=some (.list us)->ct (gb (H.length<=·) H') ss us->Q (.ref lc) H'):WE C (.comp 1 (.comp 4 (.aF [.J 0,.J 1,.J 2,(.listOf (.J 3))]) (.aF [.J 0,.J 1,.J 2,.J 3]) (.of (.J 0)) []) (.J 0) (.of (.J j)) []) ρ H Q:=by
 refine lP (k9 (aU (v:=.ref lf) hj (aA (dU a) (cZ (c8 (cG hl (by decide))) (Bx (R:=gb (H.length<=·)) (F:=id) (I:=λcg=>∃o,cg=o::ρ) (λx h=>h.cm λl c hp a=>⟨hp,x l c a⟩) (λH' x=>dE a (x _ _ a)) (λx v cg ζ hv hi=>?_) (λus H' x hu=>jB (q _ us _ (x.trans (aC.aT _ _)) x.len (bz _ _) ((map_id ss▸hu).imp λζ ζ h=>h.cm λl c hp a=>⟨hp,bu _ a⟩))) h ⟨none,rfl⟩)))))
 obtain⟨o,rfl⟩:=hi
 obtain⟨lr,ws,rfl,hp,ar,hr,ok,eR⟩:=hv
 refine aA (a:=some (.ref lr)::ρ) rfl ⟨⟨_,rfl⟩,λH' xx N hN=>?_⟩
 have xm:=xx _ _ ar
 exact lP (k9 (aU (v:=.ref lr) rfl (aA (dU xm) (cZ (c8 (show ws.length<16000000 by rw[hr.len];exact cG eR (by decide))) (Pu (P:=P) xx.len (hr.imp λζ ζ h=>h.imp λl h=>⟨h.1,h.2.1,xx _ _ h.2.2⟩) ok (λH2 x=>dE xm (x _ _ xm)) λus H2 x2 hu=>jB (hN _ _ (x2.trans (aC.aT _ _)) ⟨_,us,rfl,aG xx.len x2.len,bz _ _,hu.imp λζ ζ h=>h.imp λl h=>⟨h.1,h.2.1,bu _ h.2.2⟩,ok,eR⟩))))))
theorem acf(hC:C.call=aH (n+3))(bk:cz z B H r fr)(hl:r.ps.length<=60)(ax:H[lx]?=some (.list (aS (cc r.ps))))(q:∀lf vs H',aC H H'->H.length<=lf->H'[lf]?=some (.list vs)->vs.length<=60->ct (gb (H.length<=·) H') ((cc r.ps).map (ib r)) vs->Q (.ref lf) H'):WE C (.comp 1 (.cQ 70 (.J 1) [.J 0]) (.J 0) (.of (.J 2)) []) (rf B s lx lh o4) H Q:=by
 refine lP (k9 (aU (v:=.ref lx) rfl (aA (dU ax) (cZ (c8 (e7 (y9 hl))) (Bx (R:=gb (H.length<=·)) (F:=ib r) (I:=λcg=>∃o,cg=o::rf B s lx lh o4) (λx h=>h.cm λl c hp a=>⟨hp,x l c a⟩) (λH' x=>dE ax (x _ _ ax)) (λk v cg hk e hi=>?_) (λus H' x hu=>jB (q _ us _ (x.trans (aC.aT _ _)) x.len (bz _ _) (by rw[hu.len,bJ];exact y9 hl) (hu.imp λζ ζ h=>h.cm λl c hp a=>⟨hp,bu _ a⟩))) (DW (cc r.ps)) ⟨none,rfl⟩)))))
 obtain⟨o,rfl⟩:=hi
 subst e
 refine aA (a:=some (nv k)::rf B s lx lh o4) rfl ⟨⟨_,rfl⟩,λH' xx N hN=>?_⟩
 have hk:=nq.mp hk
 have tX:=bk.ext xx
 refine HZ (aU (v:=.ref (B+1)) rfl (tX _ λld ep lf es a0 a1 ζ ζ ζ ζ ζ ζ ζ ζ ζ=>mc a1 a0 (aU (v:=nv k) rfl ((?_:C.call 70 [.ref (B+1),nv k] H' _ _)))))
 rw[hC]
 exact H0 tX (i8.mp hk.1) (λe=>by rw[hk.2] at e;cases e) λζ v' H2 x2 hd=>hN _ _ x2 (hd.cm λl c hp a=>⟨aG xx.len hp,a⟩)
theorem acg(bk:cz z B H r fr)(hl:r.ps.length<=60)(ax:H[lx]?=some (.list (aS (cc r.ps))))(ah:H[lh]?=some (.list us))(hu:us.length<=1000)(hz:∀l,Z l->l<H.length)(iK:Z lh)(q:∀v H',xl Z lh us (q8 r fr 3) H v H'->Q v H'):aH (n+4) 51 [.ref (B+1),nv 3,.ref lx,.ref lh] H Q Y:=Dj (by
 refine g9 (ky (aU (v:=nv 3) rfl (bP (aA (a:=false) rfl (fL rfl (g9 (ky (aU (v:=nv 3) rfl (bP (aA (a:=false) rfl (fL rfl (g9 (ky (aU (v:=nv 3) rfl (bP (aA (a:=false) rfl (fL rfl (eD (acf (n:=n) (C:=⟨aH (n+3),xq Y⟩) rfl bk hl ax λlf vs H1 x1 Dt af hv dl=>aA (a:=rf B 3 lx lh (some (.ref lf))) rfl (oW (zf (j:=3) (lu:=lh) (us:=us) rfl (x1 _ _ ah) (D2 (aU (v:=.ref lf) rfl (ace (j:=4) dl af hv rfl λlc ws H2 x2 HJ ac dl2=>?_))))))))))))))))))))))))
 have nz:∀{i:Nat},H.length<=i->¬Z i:=λh h'=>by have:=hz _ h';lia
 have x1l:=x1.len
 exact Qa (x1.trans x2) ah hu (Iy (P:=(H.length<=·)) (dl.imp λζ ζ h=>h.cm λl c hp a=>⟨hp,x2 _ _ a⟩) (x2 _ _ af) (nz Dt) λl h=>nz h) (Iy (P:=(H1.length<=·)) dl2 ac (nz (aG x1l HJ)) λl h=>nz (aG x1l h)) (P8 _) iK (q _))
theorem aci(hs:s<4)(bk:cz z B H r fr)(jU:fr.length<=60)(hl:R3 r)(ax:H[lx]?=some (.list (aS (cc r.ps))))(ah:H[lh]?=some (.list us))(hu:us.length<=1000)(hz:∀l,Z l->l<H.length)(iK:Z lh)(q:∀v H',xl Z lh us (q8 r fr s) H v H'->Q v H'):aH (n+4) 51 [.ref (B+1),nv s,.ref lx,.ref lh] H Q Y:=by
 match s,hs,q with
 |0,_,q=>exact aca bk jU ah hu hz iK λl H' k ζ ζ=>q _ H' k
 |1,_,q=>exact acb bk hl.1 ah hu hz iK λl H' k ζ ζ=>q _ H' k
 |2,_,q=>exact acd bk hl ah hu hz iK q
 |3,_,q=>exact acg bk hl.1 ax ah hu hz iK q
end
section
variable{Z Z' z:Nat->Prop}{lt:Nat}{sv:V}{K:Out->Prop}{P:Nat->Prop}{d:PyData}
theorem KZ.less(x:KZ Z' H H')(h:∀l,Z' l->Z l\/H.length<=l):KZ Z H H':=λl c n e=>x l c (λq=>(h l q).elim n λg=>absurd (bZ e) (fv.mpr g)) e
theorem Rs.grow(h:Rs Z H v d)(x:∀l,Z' l->Z l\/H.length<=l):Rs Z' H v d:=λH'' y=>h H'' (y.less x)
theorem PG.grow(h:PG Z H u)(x:∀l,Z' l->Z l\/H.length<=l):PG Z' H u:=h.imp λζ h=>h.imp λζ h=>h.imp λζ h=>⟨h.1,h.2.1.grow x,h.2.2.1.grow x,h.2.2.2⟩
noncomputable def mv(f k:Nat):Nat:=(f+k*(if f<4 then 1 else 3))%4
theorem acj:mv f k<4:=Nat.mod_lt _ (by decide)
theorem ack:∀f<8,∀s<4,∃k<4,mv f k=s:=by decide
theorem acl:∀f:Nat,f<8->∀k:Nat,k<4->(if f<4 then(f:Int).fdiv 4=0 else(f:Int).fdiv 4=1)/\yf k 1=true/\yf k 3=true/\((f:Int)+(k:Int)*(if f<4 then 1 else 3)).fmod 4=(mv f k:Int):=by decide +kernel
theorem IA(h:WE C e1 ρ H λa H=>WE C e2 ρ H λb H=>oC [a,b] H Q):WE C (.aP [e1,e2]) ρ H Q:=h
noncomputable abbrev Qb:E:=.bin .mod (.bin .add (.J 2) (.bin .mul (.J 6) (.br (.aP [(kI 1),(kI 3)]) (.bin .fdiv (.J 2) (kI 4))))) (kI 4)
theorem acm(hf:f<8)(hk:k<4)(h2:ρ[2]?.join=some (nv f))(h6:ρ[6]?.join=some (nv k))(q:∀c,Q (nv (mv f k)) (H++[c])):WE C Qb ρ H Q:=by
 obtain⟨e1,m1,m3,e2⟩:=acl f hf k hk
 refine f9 (f9 (aU h2 (f9 (aU h6 (c9 (IA (bP (bP (jB (f9 (aU h2 (bP (fD (z:=(f:Int).fdiv 4) rfl ?_)))))))))))))
 have al:=bz H (.list [.int 1,.int 3])
 have go:∀m:Int,ik (.ref H.length) (.int ((f:Int).fdiv 4)) (H++[.list [.int 1,.int 3]])=some (.int m)->yf k m=true->((f:Int)+(k:Int)*m).fmod 4=(mv f k:Int)->aO (ik (.ref H.length) (.int ((f:Int).fdiv 4)) (H++[.list [.int 1,.int 3]])) λv=>uC .mul (nv k) v (H++[.list [.int 1,.int 3]]) λy H=>uC .add (nv f) y H λx H=>WE C (kI 4) ρ H λy H=>uC .mod x y H Q:=λm h1 h2 h3=>aA h1 (fD (z:=(k:Int)*m) (bQ h2) (fD (z:=(f:Int)+(k:Int)*m) rfl (bP (fD (z:=(mv f k:Int)) (by rw[<-h3];rfl) (q _)))))
 by_cases h4:f<4
 ·rw[bQ h4] at e1 e2
  exact go 1 (by rw[e1];exact iU (k:=0) al rfl) m1 e2
 ·rw[bH h4] at e1 e2
  exact go 3 (by rw[e1];exact iU (k:=1) al rfl) m3 e2
noncomputable abbrev iZ(B:Nat)(sv:V)(f lh:Nat)(o4 o5 o6 o7 o8 o9:Option V):bv:=[some (.ref (B+1)),some sv,some (nv f),some (.ref lh),o4,o5,o6,o7,o8,o9]
theorem Ea{a b c:E}(h:WE C a ρ H λu H=>WE C b ρ H λv H=>WE C c ρ H λw H=>WE C e ρ H λx H=>C.call g [u,v,w,x] H Q C.exc):WE C (.call g [a,b,c,e]) ρ H Q:=h
noncomputable abbrev Qc:S:=.aY (.J 7) Qb
noncomputable abbrev Qd:S:=.ij (.J 4) (.J 7) (.call 51 [.J 0,.J 7,.J 5,.J 3])
noncomputable abbrev IB:S:=.for (.J 6) (.range (kI 0) (kI 4)) [Qc,Qd]
theorem nP.kz(x:nP lh lt H H')(hh:Z lh)(ht:Z lt):KZ Z H H':=λl c hn a=>x l c (λe=>hn (e▸hh)) (λe=>hn (e▸ht)) a
theorem nP.bk(x:nP lh lt H H')(hh:Z lh)(ht:Z lt)(hB:(lh<B\/B+5<=lh)/\(lt<B\/B+5<=lt))(bk:cz Z B H r fr)(hl:H.length<=H'.length):cz Z B H' r fr:=bk.keep (λl c hl a=>hl.elim (λh=>x l c (λe=>hB.1.elim (λq=>absurd h.1 (not_le.mpr (e▸q))) λq=>absurd h.2 (fv.mpr (e▸q))) (λe=>hB.2.elim (λq=>absurd h.1 (not_le.mpr (e▸q))) λq=>absurd h.2 (fv.mpr (e▸q))) a) λh=>x.kz hh ht l c h a) hl
theorem acn{es:List (Int×V)}(hC:C.call=aH (n+4))(hf:f<8)(hk:k<4)(bk:cz Z B H r fr)(jU:fr.length<=60)(hl:R3 r)(ax:H[lx]?=some (.list (aS (cc r.ps))))(at':H[lt]?=some (.dict ep es))(he:es.length<=4)(zu:Z lt)(ah:H[lh]?=some (.list us))(iK:Z lh)(hu:us.length<=1000)(h:∀fF v u H',nP lh lt H H'->H.length<=H'.length->H'[lt]?=some (.dict fF (dput es (mv f k:Int) v))->H'[lh]?=some (.list (us++[u]))->PG Z H' u->Rs Z H' v (q8 r fr (mv f k))->aX C rest (iZ B sv f lh (some (.ref lt)) (some (.ref lx)) (some (nv k)) (some (nv (mv f k))) o8 o9) H' K):aX C (Qc::Qd::rest) (iZ B sv f lh (some (.ref lt)) (some (.ref lx)) (some (nv k)) o7 o8 o9) H K:=by
 have nth:lt≠lh:=λe=>by rw[e,ah] at at';cases at'
 refine eD (acm hf hk rfl rfl λc=>aA (a:=iZ B sv f lh (some (.ref lt)) (some (.ref lx)) (some (nv k)) (some (nv (mv f k))) o8 o9) rfl ?_)
 have x3:=aC.aT H [c]
 generalize H++[c]=G at *
 refine BA (Ea (aU (v:=.ref (B+1)) rfl (aU (v:=nv (mv f k)) rfl (aU (v:=.ref lx) rfl (aU (v:=.ref lh) rfl ?_)))))
 rw[hC]
 refine aci (Z:=Z) acj (bk.ext x3) jU hl (x3 _ _ ax) (x3 _ _ ah) hu (bk.ext x3).len.2 iK λv H4 hw=>?_
 obtain⟨u,x4,l4,ah4,pu,IC⟩:=hw
 refine aU (v:=.ref lt) rfl (aU (v:=nv (mv f k)) rfl ?_)
 have zl:=x4 _ _ nth (x3 _ _ at')
 refine aA zl (cZ (c8 (cG he (by decide))) λfF=>?_)
 have k5:KZ Z H4 (H4.set lt (.dict fF (dput es (mv f k:Int) v))):=λl c hn a=>dK a _ λe=>hn (e▸zu)
 exact h fF v u _ (λl c h1 h2 a=>dK (x4 _ _ h1 (x3 _ _ a)) _ (gS h2)) (by rw[gR];exact aG x3.len l4) (d9 zl _) (dK ah4 _ nth) (pu.cm k5) (IC.cm k5)
noncomputable def Qe(ζ:Prop)(Z:Nat->Prop)(lh lt f:Nat)(r:cV)(fr:List Nat)(us:List V)(H:Hp)(ρf:Option V->Option V->bv)(as:List Nat)(ρ:bv)(H':Hp):Prop:=∀(o6 o7:Option V) (ep:Nat) (es:List (Int×V)) (du:List V) (pre:List Nat) (e:ρ=ρf o6 o7) (tt:pre++as=List.range 4) (x:nP lh lt H H') (tW:H.length<=H'.length) (eU:H'[lt]?=some (.dict ep es)) (Eb:H'[lh]?=some (.list du)) (jD:du.length<=us.length+pre.length) (kA:es.length<=pre.length) (zv:∀u∈du,PG Z H' u) (de:∀e∈es,∃s:Nat,e.1=(s:Int)/\Rs Z H' e.2 (q8 r fr s)) (dh:∀j∈pre,fy es (mv f j:Int)=true),ζ
def ID:=λZ lh lt f r fr us H ρf as ρ H'=>∀ζ:Prop,Qe ζ Z lh lt f r fr us H ρf as ρ H'->ζ
theorem ID.mk{Z lh lt f r fr us H ρf as ρ H'}:Qe (ID Z lh lt f r fr us H ρf as ρ H') Z lh lt f r fr us H ρf as ρ H':=λx0 x1 x2 x3 x4 x5 x6 x7 x8 x9 dz fK eA fZ jW ku qQ ζ k=>k x0 x1 x2 x3 x4 x5 x6 x7 x8 x9 dz fK eA fZ jW ku qQ
theorem acp(hC:C.call=aH (n+4))(hf:f<8)(bk:cz Z B H r fr)(hB:(lh<B\/B+5<=lh)/\(lt<B\/B+5<=lt))(jU:fr.length<=60)(hl:R3 r)(ax:H[lx]?=some (.list (aS (cc r.ps))))(hx:¬Z lx)(at':H[lt]?=some (.dict 0 []))(zu:Z lt)(ah:H[lh]?=some (.list us))(iK:Z lh)(hu:us.length<=900)(pg:∀u∈us,PG Z H u)(h:∀o6 o7 ep es du H',nP lh lt H H'->H.length<=H'.length->H'[lt]?=some (.dict ep es)->H'[lh]?=some (.list du)->du.length<=us.length+4->(∀u∈du,PG Z H' u)->(∀s:Nat,s<4->∃v,fO es (s:Int)=some v/\Rs Z H' v (q8 r fr s))->aX C rest (iZ B sv f lh (some (.ref lt)) (some (.ref lx)) o6 o7 o8 o9) H' K):aX C (IB::rest) (iZ B sv f lh (some (.ref lt)) (some (.ref lx)) o6 o7 o8 o9) H K:=by
 refine oS (wO (bP (bP (((pT (by decide) (gq (g:=nv) (ID Z lh lt f r fr us H λo6 o7=>iZ B sv f lh (some (.ref lt)) (some (.ref lx)) o6 o7 o8 o9) (λk as ρ H' hI=>hI _ λo6 o7 ep es du pre e tt x tW eU Eb jD kA zv de dh=>?_) (λρ H' hI=>hI _ λo6 o7 ep es du pre e tt x tW eU Eb jD kA zv de dh=>?_) _ _ _ (.mk o6 o7 0 [] us [] rfl rfl (λζ ζ ζ ζ a=>a) (bX _) at' ah (bX _) (bX _) pg (λζ h=>(nomatch h)) λζ h=>(nomatch h)))):Al (.int 0) (.int ((4:Nat):Int)) _)))))
 ·subst e
  refine aA (a:=iZ B sv f lh (some (.ref lt)) (some (.ref lx)) (some (nv k)) o7 o8 o9) rfl λN hN=>?_
  have hk:k<4:=i8.mp (tt▸cY.mpr (.inr dD))
  have pl:pre.length<=4:=by
   rw[<-jI (n:=4),<-tt,b6];exact eV _ _
  refine acn (n:=n) (C:=C.xq) hC hf hk (x.bk iK zu hB bk tW) jU hl (x.kz iK zu _ _ hx ax) eU (aG kA pl) zu Eb iK (aG jD (aG (oq hu pl) (by decide))) λfF v u H5 x5 l5 at5 qR pu IC=>?_
  have k5:=x5.kz iK zu
  refine hN _ _ rfl (.mk _ _ fF _ (du++[u]) (pre++[k]) rfl (iV tt) (λl c h1 h2 a=>x5 l c h1 h2 (x l c h1 h2 a)) (aG tW l5) at5 qR ?_ ?_ (λw hw=>(cY.mp hw).elim (λh=>(zv w h).cm k5) λh=>by rw[dI.mp h];exact pu) (DO (λe he=>(de e he).imp λs h=>⟨h.1,h.2.cm k5⟩) ⟨_,rfl,IC⟩) λj hj=>?_)
  ·rw[b6,b6];exact jG jD
  ·rw[b6];exact aG (DP es (mv f k:Int) v) (jG kA)
  ·rw[Oq]
   refine(cY.mp hj).elim (λh=>by rw[dh j h,Bool.or_true]) λh=>?_
   rw[dI.mp h,dj rfl,Bool.true_or]
 ·subst e
  rw[fN] at tt
  subst tt
  refine h o6 o7 ep es du H' x tW eU Eb (by rw[jI] at jD;exact jD) zv λs hs=>?_
  obtain⟨j,hj,rfl⟩:=ack f hf s hs
  obtain⟨e,he,hg,hk⟩:=Br (dh j (i8.mpr hj))
  obtain⟨s',e1,e2⟩:=de e he
  have:s'=mv f j:=om (e1.symm.trans hk)
  subst this
  exact⟨e.2,hg,e2⟩
end
section
variable{Z Z' z:Nat->Prop}{lt ls fF:Nat}{sv:V}{es nF:List (Int×V)}{K:Out->Prop}{P:Nat->Prop}{d:PyData}
theorem Qf{ds:List PyData}(h:Rs Z H v (.list ds)):Co H .list v=some true:=by
 have h:=(h H .refl).1
 cases v with
 |ref l=>
  obtain⟨vs,e,_⟩:=Option.bind_eq_some_iff.mp (show((dJ H (.ref l)).bind λvs=>(gp (rd H 9) vs).map PyData.list)=_ from h)
  exact b7 (Option.map λζ=>true) e
 |aF vs=>
  obtain⟨_,_,e⟩:=map_eq_some_iff.mp (show(gp (rd H 9) vs).map PyData.tuple=_ from h)
  cases e
 |str s=>
  have h:(if PyData.strOk s=true then some (PyData.str s) else none)=some (.list ds):=h
  split at h<;>cases h
 |i9=>cases(show(none:Option PyData)=some (.list ds) from h)
 |none=>cases(show some PyData.none=some (PyData.list ds) from h)
 |bool b=>cases(show some (PyData.bool b)=some (PyData.list ds) from h)
 |int i=>cases(show some (PyData.int i)=some (PyData.list ds) from h)
noncomputable abbrev st4:S:=.aY (.J 8) (.comp 1 (.br (.gF (.J 2) 1) (.J 0)) (.J 0) (.of (.J 5)) [])
theorem acs(s:ic P H r fr sv)(hl:r.ps.length<=60)(ax:H[lx]?=some (.list (aS (cc r.ps))))(h:∀vs H',aC H H'->ct (gb P H') ((cc r.ps).map (ib r)) vs->aX C rest (iZ B sv f lh o4 (some (.ref lx)) o6 o7 (some (.ref H'.length)) o9) (H'++[.list vs]) K):aX C (st4::rest) (iZ B sv f lh o4 (some (.ref lx)) o6 o7 o8 o9) H K:=s _ λls l lm lw ld la ep es ev pp a0 at' ad de dk aa=>by
 subst ev
 refine eD (lP (k9 (aU (v:=.ref lx) rfl (aA (dU ax) (cZ (c8 (e7 (y9 hl))) (Bx (R:=gb P) (F:=ib r) (I:=λcg=>∃o,cg=o::iZ B (.ref ls) f lh o4 (some (.ref lx)) o6 o7 o8 o9) (λx h=>h.cm λl c hp a=>⟨hp,x l c a⟩) (λH' x=>dE ax (x _ _ ax)) (λk v cg hk e hi=>?_) (λus H' x hu=>jB (aA (a:=iZ B (.ref ls) f lh o4 (some (.ref lx)) o6 o7 (some (.ref H'.length)) o9) rfl (h us H' x hu))) (DW (cc r.ps)) ⟨none,rfl⟩))))))
 obtain⟨o,rfl⟩:=hi
 subst e
 obtain⟨e,he,hg,Ia⟩:=Br ((dk k).trans (nq.mp hk).2)
 exact aA (a:=some (nv k)::iZ B (.ref ls) f lh o4 (some (.ref lx)) o6 o7 o8 o9) rfl ⟨⟨_,rfl⟩,λH' x N hN=>c9 (p9 (aU (v:=.ref ls) rfl (aA (qb (x _ _ a0)) (aA (a:=.ref ld) rfl (aU (v:=nv k) rfl (aA (vg (x _ _ ad) hg) (hN _ _ (aC.refl _) (((de e he).DM Ia).cm λl c hp a=>⟨hp,x _ _ a⟩))))))))⟩
theorem acu{a b c d:E}(h:WE C a ρ H λx H=>aO (truthy H x) λt=>cD (t==false) (WE C (.or [b,c,d]) ρ H Q) (Q x H)):WE C (.or [a,b,c,d]) ρ H Q:=h
theorem Qg{a b c:E}(h:WE C a ρ H λx H=>aO (truthy H x) λt=>cD (t==false) (WE C (.or [b,c]) ρ H Q) (Q x H)):WE C (.or [a,b,c]) ρ H Q:=h
theorem BI{b:Bi}(h:WE C e ρ H λx H=>E9 b [x] H Q):WE C (.bi b [e]) ρ H Q:=h
noncomputable abbrev Ec:S:=.bD (.or [(.not (.bi (.mB .list) [(iI 4 0)])),(.not (.bi (.mB .list) [(iI 4 1)])),(.cmp .ne (iI 4 1) (.J 5)),(.cmp .ne (iI 4 0) (.gF (.J 1) 2))])
  [.ret (.k (.bool false))]
  []
theorem acv(s:ic P H r fr sv)(hP:∀l,P l->¬Z l)(ax:H[lx]?=some (.list (aS (cc r.ps))))(hx:¬Z lx)(at':H[lt]?=some (.dict ep es))(rs:∀s:Nat,s<4->∃v,fO es (s:Int)=some v/\Rs Z H v (q8 r fr s))(h:aX C rest (iZ B sv f lh (some (.ref lt)) (some (.ref lx)) o6 o7 o8 o9) H K):aX C (Ec::rest) (iZ B sv f lh (some (.ref lt)) (some (.ref lx)) o6 o7 o8 o9) H K:=s _ λls l lm lw ld la ep es ev pp a0 rt ad de dk aa=>by
 subst ev
 obtain⟨v0,g0,r0⟩:=rs 0 (by decide)
 obtain⟨v1,g1,r1⟩:=rs 1 (by decide)
 have t0:∀{Q:PQ} {C:Ct},Q v0 H->WE C (iI 4 0) (iZ B (.ref ls) f lh (some (.ref lt)) (some (.ref lx)) o6 o7 o8 o9) H Q:=λq=>c9 (aU (v:=.ref lt) rfl (bP (aA (vg (k:=0) at' g0) q)))
 have t1:∀{Q:PQ} {C:Ct},Q v1 H->WE C (iI 4 1) (iZ B (.ref ls) f lh (some (.ref lt)) (some (.ref lx)) o6 o7 o8 o9) H Q:=λq=>c9 (aU (v:=.ref lt) rfl (bP (aA (vg (k:=1) at' g1) q)))
 exact g9 (vc (acu (Hx (BI (t0 (aA (Qf r0) (aA (a:=true) rfl (aA (a:=false) rfl (ia rfl (Qg (Hx (BI (t1 (aA (Qf r1) (aA (a:=true) rfl (aA (a:=false) rfl (ia rfl (Hy (so (t1 (aU (v:=.ref lx) rfl (aA (r1.ne (zq ax hx) (zr _)) (aA (a:=false) rfl (ia rfl (so (t0 (p9 (aU (v:=.ref ls) rfl (aA (qb a0) (aA (a:=.ref la) rfl (aA (r0.ne (zq aa (hP _ pp.2.2.2)) (zr _)) (aA (a:=false) rfl (fL rfl h)))))))))))))))))))))))))))))))))
noncomputable abbrev st6:S:=.for (.J 9) (.range (kI 0) (.bi .len [(.br (.gF (.J 1) 0) (kI 0))]))
  [.bD (.cmp .jP (.J 9) (.J 5))
   [.qq (.cQ 70 (.J 0) [.J 9]) 7]
   []]
theorem acx(h:WE ⟨C.call,λv H=>aO (excAt H v) λj=>iP j k=true/\aX C rest ρ H K⟩ e ρ H λζ H=>K (.ret (.bool false) H)):aX C (.qq e k::rest) ρ H K:=h
theorem acy(hC:C.call=aH (n+3))(bk:cz z B H r fr)(s:ic P H r fr sv)(hl:r.ps.length<=60)(ax:H[lx]?=some (.list (aS (cc r.ps))))(h:∀o9 H',aC H H'->aX C rest (iZ B sv f lh o4 (some (.ref lx)) o6 o7 o8 o9) H' K):aX C (st6::rest) (iZ B sv f lh o4 (some (.ref lx)) o6 o7 o8 o9) H K:=s _ λls l lm lw ld la ep es ev pp a0 rt ad de dk aa=>rt _ λap am aw=>by
 subst ev
 refine oS (wO (bP (BI (c9 (p9 (aU (v:=.ref ls) rfl (aA (qb a0) (aA (a:=dP l lm lw) rfl (bP (aA (a:=.ref l) rfl (aA (cU ap) ?_)))))))))))
 rw[bJ]
 refine pT (cG hl (by decide)) (gq (g:=nv) (λas ρ H'=>(∃o9,ρ=iZ B (.ref ls) f lh o4 (some (.ref lx)) o6 o7 o8 o9)/\aC H H'/\∀k∈as,k<r.ps.length) (λk as ρ H' hI=>?_) (λρ H' hI=>?_) _ _ _ ⟨⟨o9,rfl⟩,aC.refl _,λk h=>i8.mp h⟩)
 ·obtain⟨⟨o9,rfl⟩,x,hk⟩:=hI
  refine aA (a:=iZ B (.ref ls) f lh o4 (some (.ref lx)) o6 o7 o8 (some (nv k))) rfl λN hN=>?_
  have Bh:=hk k dD
  have go:∀H',aC H H'->N (iZ B (.ref ls) f lh o4 (some (.ref lx)) o6 o7 o8 (some (nv k))) H':=λH' x=>hN _ _ rfl ⟨⟨_,rfl⟩,x,λj h=>hk j (.tail _ h)⟩
  refine g9 (ky (aU (v:=nv k) rfl (aU (v:=.ref lx) rfl (aA (He (x _ _ ax)) (dp (λhn=>?_) λζ=>go H' x)))))
  have hd:fq r.ps k=false:=by rw[<-DQ];exact(oj _).mp hn
  have tX:=bk.ext x
  refine acx (HZ (aU (v:=.ref (B+1)) rfl (tX _ λld ep lf es a0 a1 ζ ζ ζ ζ ζ ζ ζ ζ ζ=>mc a1 a0 (aU (v:=nv k) rfl ((?_:C.call 70 [.ref (B+1),nv k] H' _ _))))))
  rw[hC]
  refine H0 tX Bh (λζ=>aA (b7 (Option.bind · pJ) (bz H' (.exc 7))) ⟨rfl,go _ (x.trans (aC.aT _ _))⟩) λe=>by rw[hd] at e;cases e
 ·obtain⟨⟨o9,rfl⟩,x,hk⟩:=hI
  exact h o9 H' x
noncomputable abbrev st7:S:=.ret (.and [(.cmp .eq (iI 4 3) (.J 8)),(.cmp .eq (iI 4 2) (.gF (.J 1) 0))])
theorem acA{le:Nat}(s:ic P H r fr sv)(hP:∀l,P l->¬Z l)(at':H[lt]?=some (.dict ep es))(rs:∀s:Nat,s<4->∃v,fO es (s:Int)=some v/\Rs Z H v (q8 r fr s))(ae:H[le]?=some (.list vs))(he:¬Z le)(dl:ct (gb P H) ((cc r.ps).map (ib r)) vs)(h:K (.ret (.bool true) H)):aX C (st7::rest) (iZ B sv f lh (some (.ref lt)) o5 o6 o7 (some (.ref le)) o9) H K:=s _ λls l lm lw ld la ep es ev pp a0 rt ad de dk aa=>by
 subst ev
 obtain⟨v2,g2,r2⟩:=rs 2 (by decide)
 obtain⟨v3,g3,r3⟩:=rs 3 (by decide)
 have c3:gP .eq v3 (.ref le) H=some true:=(r3.eq (Iy dl ae he hP)).trans (b7 some (P8 _))
 have c2:gP .eq v2 (dP l lm lw) H=some true:=(r2.eq (BF rt (hP _ pp.1.2.1) (hP _ pp.1.2.2) (hP _ pp.2.1))).trans (b7 some (Iw _))
 exact oV (Og (so (c9 (aU (v:=.ref lt) rfl (bP (aA (vg (k:=3) at' g3) (aU (v:=.ref le) rfl (aA c3 (aA (a:=true) rfl (ia rfl (so (c9 (aU (v:=.ref lt) rfl (bP (aA (vg (k:=2) at' g2) (p9 (aU (v:=.ref ls) rfl (aA (qb a0) (aA (a:=dP l lm lw) rfl (aA c2 h))))))))))))))))))))
theorem IE(hf:f<8)(bk:cz Z B H r fr)(s:ic P H r fr sv)(hP:∀l,P l->¬Z l)(hB:lh<B\/B+5<=lh)(jU:fr.length<=60)(hl:R3 r)(ah:H[lh]?=some (.list us))(iK:Z lh)(hu:us.length<=900)(pg:∀u∈us,PG Z H u)(q:∀du H',bO lh H H'->H.length<=H'.length->H'[lh]?=some (.list du)->du.length<=us.length+4->(∀u∈du,PG Z H' u)->Q (.bool true) H'):aH (n+5) 52 [.ref (B+1),sv,nv f,.ref lh] H Q Y:=Xz (by
 have Ed:=bk.len
 refine eD (Ig (aA (a:=iZ B sv f lh (some (.ref H.length)) none none none none none) rfl ?_))
 have x1:=aC.aT H [aI.dict 0 []]
 have eU:=bz H (.dict 0 [])
 have l1:(H++[aI.dict 0 []]).length=H.length+1:=b6
 have s1:=s.ext x1
 have e2:∀{R:PQ},R (.ref (H.length+1)) (H++[aI.dict 0 []]++[.list (aS (cc r.ps))])->WE ⟨aH (n+4),xq Y⟩ (.call 44 [(.br (.gF (.J 1) 0) (kI 0))]) (iZ B sv f lh (some (.ref H.length)) none none none none none) (H++[aI.dict 0 []]) R:=λ{R} q=>s1 _ λls l lm lw ld la ep es ev pp a0 rt ad de dk aa=>rt _ λap am aw=>by
  subst ev
  exact D0 (c9 (p9 (aU (v:=.ref ls) rfl (aA (qb a0) (aA (a:=dP l lm lw) rfl (bP (aA (a:=.ref l) rfl ((Ib (n:=n+3) ap hl.1 (l1▸q):aH (n+4) 44 [.ref l] _ _ _)))))))))
 refine eD (e2 (aA (a:=iZ B sv f lh (some (.ref H.length)) (some (.ref (H.length+1))) none none none none) rfl ?_))
 have x2:=x1.trans (aC.aT _ [aI.list (aS (cc r.ps))])
 have at2:=bu [aI.list (aS (cc r.ps))] eU
 have Qh:(H++[aI.dict 0 []]++[aI.list (aS (cc r.ps))])[H.length+1]?=some (.list (aS (cc r.ps))):=l1▸bz _ _
 have l2:(H++[aI.dict 0 []]++[aI.list (aS (cc r.ps))]).length=H.length+2:=by rw[b6,l1];rfl
 generalize H++[aI.dict 0 []]++[aI.list (aS (cc r.ps))]=H2 at *
 have gz:∀l,(Z l\/l=H.length)->Z l\/H.length<=l:=λl h=>h.imp id λe=>iC e.symm
 have Ee:cz (λl=>Z l\/l=H.length) B H2 r fr:=bk.grow x2 gz λl h=>h.elim (λh=>cL (Ed.2 l h) x2.len) λe=>e▸bZ at2
 have zt:=bZ ah
 have nz:∀{i:Nat},H.length<i->¬(Z i\/i=H.length):=λh h'=>h'.elim (λh'=>absurd (Ed.2 _ h') (fv.mpr (cW h))) λe=>dm h e
 refine acp (n:=n) (Z:=λl=>Z l\/l=H.length) (C:=⟨aH (n+4),xq Y⟩) rfl hf Ee ⟨hB,.inr (cW Ed.1)⟩ jU hl Qh (nz (jH _)) at2 (.inr rfl) (x2 _ _ ah) (.inl iK) hu (λu h=>((pg u h).grow gz).cm x2.kz) λo6 o7 ep es du H3 x3 l3 vp ah3 jD pg3 rs3=>?_
 have up3:∀{P':Nat->Prop} {l:Nat} {c:aI},l≠lh->l<H.length->H[l]?=some c->H3[l]?=some c:=λh1 h2 a=>x3 _ _ h1 (dq h2) (x2 _ _ a)
 have s3:ic (λl=>P l/\l<H.length) H3 r fr sv:=s.cm λl c hp a=>⟨⟨hp,bZ a⟩,up3 (P':=P) (λe=>hP l hp (e▸iK)) (bZ a) a⟩
 have Qi:∀l,(P l/\l<H.length)->¬(Z l\/l=H.length):=λl h h'=>h'.elim (hP l h.1) λe=>dq h.2 e
 have IF:=x3 _ _ (dm (lG zt)) (uj _) Qh
 have bk3:=x3.bk (.inl iK) (.inr rfl) ⟨hB,.inr (cW Ed.1)⟩ Ee l3
 refine acs s3 hl.1 IF λvs H3' Qj dl'=>?_
 have l3':=Qj.len
 have x4:=Qj.trans (aC.aT H3' [aI.list vs])
 have dl:ct (gb (λl=>P l/\l<H.length) (H3'++[aI.list vs])) ((cc r.ps).map (ib r)) vs:=dl'.imp λζ ζ h=>h.cm λl c hp a=>⟨hp,bu _ a⟩
 have ae4:=bz H3' (.list vs)
 generalize H3'++[aI.list vs]=H4 at *
 have Qk:∀s:Nat,s<4->∃v,fO es (s:Int)=some v/\Rs (λl=>Z l\/l=H.length) H4 v (q8 r fr s):=λs hs=>(rs3 s hs).imp λv h=>⟨h.1,h.2.cm x4.kz⟩
 refine acv (s3.ext x4) Qi (x4 _ _ IF) (nz (jH _)) (x4 _ _ vp) Qk (acy (n:=n+1) (C:=⟨aH (n+4),xq Y⟩) rfl (bk3.ext x4) (s3.ext x4) hl.1 (x4 _ _ IF) λo9 H5 x5=>?_)
 have zw:=x4.trans x5
 refine acA (s3.ext zw) Qi (zw _ _ vp) (λs hs=>(Qk s hs).imp λv h=>⟨h.1,h.2.cm x5.kz⟩) (x5 _ _ ae4) (nz (cL (bZ vp) l3')) (dl.imp λζ ζ h=>h.cm λl c hp a=>⟨hp,x5 _ _ a⟩) ?_
 have l45:=zw.len
 exact q du H5 (λl c hn a=>zw _ _ (x3 _ _ hn (dq (bZ a)) (x2 _ _ a))) (aG (cW (bZ vp)) l45) (zw _ _ ah3) jD λu h=>((pg3 u h).cm zw.kz).sub λl h=>.inl h)
end
section
variable{Z:Nat->Prop}{aP:Nat}{sv:V}{K:Out->Prop}{P:Nat->Prop}{d:dN}
def Sp(P:Nat->Prop)(m:Nat)(H:Hp)(x:V):Prop:=(∀H,Co H .list x=some false)\/∃l us,x=.ref l/\P l/\H[l]?=some (.list us)/\us.length+m<=2000
theorem acK(h:d6 P H d v)(dk:BD r d):∃vs,v=.aF vs/\∀x∈vs,Sp P vs.length H x:=by
 have key:∀{vs:List V},(∀x∈vs,Sp P 4 H x)->vs.length<=4->∀x∈vs,Sp P vs.length H x:=λh hl x hx=>(h x hx).imp id λh=>h.imp λl h=>h.imp λus h=>⟨h.1,h.2.1,h.2.2.1,aG (kL hl _) h.2.2.2⟩
 have c:∀{x:V} {vs:List V},Sp P 4 H x->(∀x∈vs,Sp P 4 H x)->∀y∈x::vs,Sp P 4 H y:=λh1 h2 y hy=>(gB.mp hy).elim (λe=>e▸h1) (h2 y)
 have n:∀y∈([]:List V),Sp P 4 H y:=λζ h=>nomatch h
 have i:∀{j:Int},Sp P 4 H (.int j):=λ{_}=>.inl λζ=>rfl
 have s:∀{j:Str},Sp P 4 H (.str j):=λ{_}=>.inl λζ=>rfl
 have a:∀{l:Nat} {us:List V},P l->H[l]?=some (.list us)->us.length<=10->Sp P 4 H (.ref l):=λh1 h2 h3=>.inr ⟨_,_,rfl,h1,h2,aG (lU h3 4) (by decide)⟩
 cases h with
 |aZ h1 h2=>exact⟨_,rfl,key (c s (c i (c (a h1 h2 (by rw[bJ];exact aG dk.1.1 (by decide))) n))) (show 3<=4 by decide)⟩
 |bS=>exact⟨_,rfl,key (c s (c i (c i n))) (show 3<=4 by decide)⟩
 |adopt h1 h2=>exact⟨_,rfl,key (c s (c i (c i (c (a h1 h2 (by rw[bJ];exact aG dk.2.1 (by decide))) n)))) (show 4<=4 by decide)⟩
 |dW=>exact⟨_,rfl,key (c s (c i (c i (c i n)))) (show 4<=4 by decide)⟩
 |gi h1 h2 h3 h4=>
  obtain⟨_,ns,ov,un,hu,e,_,jg,_⟩:=dk
  have hl:=b7 List.length (h4.symm.trans e)
  rw[bJ,bJ] at hl
  exact⟨_,rfl,key (c s (c i (c i (c (a h1 h2 (by rw[bJ,hl];exact jg)) n)))) (show 4<=4 by decide)⟩
noncomputable abbrev eF(lb aP lh:Nat)(o4 o5 o6 o7 o8 o9 o10 cM cK cq:Option V):bv:=[some .i9,some (.ref lb),some (.ref aP),some (.ref lh),o4,o5,o6,o7,o8,o9,o10,cM,cK,cq]
theorem acL(hj:ρ[j]?.join=some (.ref l))(h:H[l]?=some (.list us))(q:Q .none (H.set l (.list us.reverse))):WE C (.cR .reverse (.J j) []) ρ H Q:=aA hj (gf h (aA (cU h) q))
noncomputable abbrev zx:S:=.for (.J 10) (.of (.J 7))
   [.bD (.bi (.mB .list) [.J 10])
    [.expr (.cR .append (.J 10) [(kI 0)]),
     .expr (.cR .reverse (.J 10) [])]
    []]
noncomputable def Ql(ζ:Prop)(P:Nat->Prop)(H:Hp)(ρf:Option V->bv)(ws:List V)(ρ:bv)(H':Hp):Prop:=∀(o:Option V) (e:ρ=ρf o) (xx:∀l c,¬P l->H[l]?=some c->H'[l]?=some c) (hl:H.length<=H'.length) (hs:∀x∈ws,Sp P ws.length H' x),ζ
def IG:=λP H ρf ws ρ H'=>∀ζ:Prop,Ql ζ P H ρf ws ρ H'->ζ
theorem IG.mk{P H ρf ws ρ H'}:Ql (IG P H ρf ws ρ H') P H ρf ws ρ H':=λx0 x1 x2 x3 x4 ζ k=>k x0 x1 x2 x3 x4
theorem acM(hv:v=.aF vs)(sp:∀x∈vs,Sp P vs.length H x)(h:∀o10 H',(∀l c,¬P l->H[l]?=some c->H'[l]?=some c)->H.length<=H'.length->aX C rest (eF lb aP lh o4 o5 o6 (some v) o8 o9 o10 cM cK cq) H' K):aX C (zx::rest) (eF lb aP lh o4 o5 o6 (some v) o8 o9 o10 cM cK cq) H K:=by
 subst hv
 refine oS (k9 (aU (v:=.aF vs) rfl (aA (a:=vs) rfl (Gd (IG P H λo10=>eF lb aP lh o4 o5 o6 (some (.aF vs)) o8 o9 o10 cM cK cq) (λx ws ρ H' hI=>hI _ λo10 e xx hl hs=>?_) (λρ H' hI=>hI _ λo10 e xx hl hs=>?_) _ _ _ (.mk o10 rfl (λζ ζ ζ a=>a) (bX _) sp)))))
 ·subst e
  refine aA (a:=eF lb aP lh o4 o5 o6 (some (.aF vs)) o8 o9 (some x) cM cK cq) rfl λN hN=>?_
  have less:∀{m:Nat} {y:V} {H:Hp},Sp P (m+1) H y->Sp P m H y:=λh=>h.imp id λh=>h.imp λl h=>h.imp λus h=>⟨h.1,h.2.1,h.2.2.1,pA h.2.2.2⟩
  rcases hs x dD with h0|⟨l,us,rfl,hp,a,hu⟩
  ·exact g9 (vc (BI (aU (v:=x) rfl (aA (h0 H') (aA (a:=false) rfl (fL rfl (hN _ _ rfl (.mk _ rfl xx hl λy hy=>less (hs y (.tail _ hy))))))))))
  ·refine g9 (vc (BI (aU (v:=.ref l) rfl (aA (a:=true) (b7 (Option.map λζ=>true) (cU a)) (aA (a:=true) rfl (ia rfl (oW (zf (lu:=l) rfl a (bP (gg a (cG (aG (eV _ _) hu) (by decide)) (oW (acL (l:=l) rfl (d9 a _) (hN _ _ rfl ?_)))))))))))))
   have up:∀{i:Nat} {c c1 c2:aI},i≠l->H'[i]?=some c->((H'.set l c1).set l c2)[i]?=some c:=λhn h=>dK (dK h _ (gS hn)) _ (gS hn)
   refine .mk _ rfl (λi c hn e=>up (λe=>hn (e▸hp)) (xx i c hn e)) (by rw[gR,gR];exact hl) λy hy=>(less (hs y (.tail _ hy))).imp id λh=>h.imp λi h=>?_
   obtain⟨ws',e,fJ,a',BE⟩:=h
   by_cases hi:i=l
   ·subst hi
    exact⟨_,e,fJ,d9 (d9 a _) _,by rw[List.length_reverse,b6,add_assoc,pC [V.int 0].length];exact hu⟩
   ·exact⟨ws',e,fJ,up hi a',BE⟩
 ·subst e
  exact h o10 H' xx hl
end
theorem Qm:∀j,j<8->PyData.strOk (qY.getD j "")=true/\(qY.getD j ""==("":Str))=false:=by decide +kernel
section
variable{Z:Nat->Prop}{aP:Nat}{s:V}{K:Out->Prop}{P:Nat->Prop}{d:dN}
theorem eq_empty:gP .eq (.str "") (.str "") H=some true:=(yR Bz Bz).trans (by rw[hX])
theorem acO(hj:j<8):gP .eq (.str (qY.getD j "")) (.str "") H=some false:=(yR (Qm j hj).1 Bz).trans (b7 some (Qm j hj).2)
structure Ly(Z:Nat->Prop)(B aP lh:Nat):Prop where
 hB:(lh<B\/B+5<=lh)/\(aP<B\/B+5<=aP)
 ne:lh≠aP
 zh:Z lh
 zs:Z aP
 zb:∀l,B<=l->l<B+5->Z l
structure Sd(Z:Nat->Prop)(B:Nat)(H:Hp)(m:Nat)(r:cV)(fr:List Nat)(s:V):Prop where
 iv:Iv r
 len:r.ms.length<=60+m/\r.ws.length<=60+m
 fl:fr.length<=60
 bk:cz Z B H r fr
 st:ic (λl=>¬Z l) H r fr s
def xn(B aP lh:Nat)(H H':Hp):Prop:=∀(l:Nat) (c:aI),(l<B\/B+5<=l)->l≠aP->l≠lh->H[l]?=some c->H'[l]?=some c
theorem xn.kz(x:xn B aP lh H H')(ly:Ly Z B aP lh):KZ Z H H':=λl c hn a=>x l c (lt_or_ge l B |>.imp id λh=>ul λh'=>hn (ly.zb l h h')) (λe=>hn (e▸ly.zs)) (λe=>hn (e▸ly.zh)) a
noncomputable abbrev BJ:S:=.bD (.not (.call 52 [(.br (.J 1) (.J 5)),(.br (.J 2) (.J 5)),(.bin .mod (.bin .fdiv (.J 4) (kI 4)) (kI 8)),.J 3]))
   [.ret (.k (.bool false))]
   []
theorem Qn(hC:C.call=aH (n+72))(ly:Ly Z B aP lh)(hb:¬Z lb)(oO:lb<H.length)(hB:B+5<H.length/\∀l,Z l->l<H.length)(dk:BD r0 d)(dd:d6 (λl=>H.length<=l/\l<H1.length) H1 d v)(x1:aC H H1)(rel:∀(l:Nat) (c:aI),(l<B\/B+5<=l)->l≠aP->H1[l]?=some c->H4[l]?=some c)(l4:H1.length<=H4.length)(al:H4[lb]?=some (.list bs))(nL:bs[w]?=some (.ref (B+1)))(iS:H4[aP]?=some (.list ss))(tZ:ss[w]?=some s)(ah:H[lh]?=some (.list us))(hu:us.length<=900)(pg:∀u∈us,PG Z H u)(bk:cz (λl=>Z l\/(H.length<=l/\l<H1.length)) B H4 r fr)(st:ic (λl=>¬Z l/\¬(H.length<=l/\l<H1.length)) H4 r fr s)(hl:R3 r)(jU:fr.length<=60)
  (h:∀o10 du H',xn B aP lh H H'->H.length<=H'.length->H'[aP]?=some (.list ss)->H'[lh]?=some (.list du)->du.length<=us.length+4->(∀u∈du,PG Z H' u)->cz Z B H' r fr->ic (λl=>¬Z l) H' r fr s->K (.next (eF lb aP lh (some (.int c)) (some (nv w)) o6 (some v) o8 o9 o10 cM cK cq) H')):aX C (zx::BJ::[]) (eF lb aP lh (some (.int c)) (some (nv w)) o6 (some v) o8 o9 o10 cM cK cq) H4 K:=by
 have l1:=x1.len
 have Ef:=hB.2 _ ly.zs
 have zt:=hB.2 _ ly.zh
 have dd4:d6 (λl=>H.length<=l/\l<H1.length) H4 d v:=dd.cm λl c hp a=>⟨hp,rel l c (.inr (aG (cW hB.1) hp.1)) (dm (cL Ef hp.1)) a⟩
 obtain⟨vs,ev,sp⟩:=acK dd4 dk
 refine acM ev sp λo10 H5 x5 l5=>?_
 have up:∀{l:Nat} {c:aI},l<H.length->H4[l]?=some c->H5[l]?=some c:=λh a=>x5 _ _ (λq=>absurd h (fv.mpr q.1)) a
 have ku:∀(l:Nat) (c:aI),(l<B\/B+5<=l)->l≠aP->H[l]?=some c->H5[l]?=some c:=λl c h1 h2 a=>up (bZ a) (rel l c h1 h2 (x1 _ _ a))
 have qR:=ku _ _ ly.hB.1 ly.ne ah
 have t5:xn B aP lh H H5:=λl c h1 h2 ζ a=>ku l c h1 h2 a
 have D7:cz Z B H5 r fr:=(bk.keep (λl c hl a=>x5 l c (λhp=>hl.elim (λh=>absurd (cL h.2 (cW hB.1)) (fv.mpr hp.1)) λh=>h (.inr hp)) a) l5).less λl h=>.inl h
 have Ec:ic (λl=>¬Z l) H5 r fr s:=st.cm λl c hp a=>⟨hp.1,x5 l c hp.2 a⟩
 have Qo:=up Ef iS
 obtain⟨f,ef,hf⟩:=k7 (c.fdiv 4) (k:=8) (by decide)
 refine g9 (Oe (Ea (c9 (aU (v:=.ref lb) rfl (aU (v:=nv w) rfl (aA (iU (up oO al) nL) (c9 (aU (v:=.ref aP) rfl (aU (v:=nv w) rfl (aA (iU Qo tZ) (f9 (f9 (aU (v:=.int c) rfl (bP (fD (z:=c.fdiv 4) rfl (bP (fD (z:=(f:Int)) (by rw[<-ef];rfl) (aU (v:=.ref lh) rfl ((?_:C.call 52 [.ref (B+1),s,nv f,.ref lh] H5 _ _))))))))))))))))))))
 rw[hC]
 refine IE (n:=n+67) hf D7 Ec (λζ h=>h) ly.hB.1 jU hl qR ly.zh hu (λu h=>(pg u h).cm (t5.kz ly)) λdu H6 x6 l6 BK jD BL=>aA (a:=true) rfl (fL rfl ?_)
 have k6:KZ Z H5 H6:=λl c hn a=>x6 l c (λe=>hn (e▸ly.zh)) a
 exact h o10 du H6 (λl c h1 h2 h3 a=>x6 _ _ h3 (ku l c h1 h2 a)) (aG l1 (aG l4 (aG l5 l6))) (x6 _ _ (gS ly.ne) Qo) BK jD BL (D7.keep (λl c hl a=>x6 l c (λe=>hl.elim (λh=>ly.hB.1.elim (λq=>absurd h.1 (not_le.mpr (e▸q))) λq=>absurd h.2 (fv.mpr (e▸q))) λh=>h (e▸ly.zh)) a) l6) (Ec.cm λl c hp a=>⟨hp,k6 l c hp a⟩)
end
section
variable{Z:Nat->Prop}{aP:Nat}{s:V}{K:Out->Prop}{P:Nat->Prop}{d:dN}
theorem acQ(h:ss[w]?=some s):ss.set w s=ss:=by
 obtain⟨hl,rfl⟩:=d7.mp h
 exact List.set_getElem_self hl
noncomputable abbrev Eg:S:=.bD (.cmp .eq (.J 8) (.k (.str "")))
   [.ij (.J 2) (.J 5) (.call 53 [.J 6,.J 7])]
   []
noncomputable abbrev Eh:S:=.aY (.aF [.J 8,.J 9]) (.call 47 [(.br (.J 1) (.J 5)),.J 7])
theorem Ly.out(ly:Ly Z B aP lh)(h:¬Z l):l<B\/B+5<=l:=(lt_or_ge l B).imp id λh1=>ul λh2=>h (ly.zb l h1 h2)
theorem Ei(h:a<=60+m)(hm:m<=100):a<=160:=aG h (kL hm 60)
theorem Sd.l1(sd:Sd Z B H m r fr s)(hm:m<=100):R3 r:=⟨aG sd.iv.p.2 (by decide),aG (Ei sd.len.1 hm) (by decide),aG (Ei sd.len.2 hm) (by decide)⟩
theorem acR(hC:C.call=aH (n+72))(ly:Ly Z B aP lh)(hb:¬Z lb)(dk:BD r d)(dd:d6 (H.length<=·) H1 d v)(x1:aC H H1)(al:H[lb]?=some (.list bs))(nL:bs[w]?=some (.ref (B+1)))(iS:H[aP]?=some (.list ss))(tZ:ss[w]?=some s)(ah:H[lh]?=some (.list us))(hu:us.length<=900)(pg:∀u∈us,PG Z H u)(sd:Sd Z B H m r fr s)(hm:m<=100)
  (h:∀o8 o9 o10 r' qG s' du H',xn B aP lh H H'->H.length<=H'.length->H'[aP]?=some (.list (ss.set w s'))->H'[lh]?=some (.list du)->du.length<=us.length+4->(∀u∈du,PG Z H' u)->Sd Z B H' (m+1) r' qG s'->K (.next (eF lb aP lh (some (.int c)) (some (nv w)) (some s) (some v) o8 o9 o10 cM cK cq) H')):aX C (Eh::Eg::zx::BJ::[]) (eF lb aP lh (some (.int c)) (some (nv w)) (some s) (some v) o8 o9 o10 cM cK cq) H1 K:=by
 have hB:=sd.bk.len
 have Qp:=cW hB.1
 have l1:=x1.len
 have hl:=sd.l1 hm
 have vq:cz (λl=>Z l\/(H.length<=l/\l<H1.length)) B H1 r fr:=sd.bk.grow x1 (λl h=>h.imp id λh=>h.1) λl h=>h.elim (λh=>cL (hB.2 l h) l1) λh=>h.2
 have Ej:d6 (λl=>H.length<=l/\l<H1.length) H1 d v:=dd.cm λl c hp a=>⟨⟨hp,bZ a⟩,a⟩
 have qJ:ic (λl=>¬Z l/\l<H.length) H1 r fr s:=sd.st.cm λl c hp a=>⟨⟨hp,bZ a⟩,x1 _ _ a⟩
 refine eD (nN (c9 (aU (v:=.ref lb) rfl (aU (v:=nv w) rfl (aA (iU (x1 _ _ al) nL) (aU (v:=v) rfl ((?_:C.call 47 [.ref (B+1),v] H1 _ _))))))))
 rw[hC]
 refine ab3 (n:=n+1) sd.iv ⟨aG (Ei sd.len.1 hm) (by decide),aG (Ei sd.len.2 hm) (by decide)⟩ vq Ej (λl h=>.inr (aG Qp h.1)) dk (λu H2 tk=>?_) λj hj H2 x2=>?_
 ·obtain⟨r',dt,II,ln,x2,Ee⟩:=tk
  refine aA (a:=eF lb aP lh (some (.int c)) (some (nv w)) (some s) (some v) (some (.str "")) (some u) o10 cM cK cq) rfl (g9 (ky (aU (v:=.str "") rfl (bP (aA eq_empty (ia rfl (BA (nN (aU (v:=s) rfl (aU (v:=v) rfl ((?_:C.call 53 [s,v] H2 _ _))))))))))))
  rw[hC]
  have l2:=x2.len vq.len.1
  have j2:ic (λl=>¬Z l/\l<H.length) H2 r fr s:=qJ.cm λl c hp a=>⟨hp,x2 l c (ly.out hp.1) a⟩
  have l8:r'.ps.length<=60:=aG II.p.2 (by decide)
  refine PI (n:=n+4) j2 (λl h=>cL h.2 (aG l1 l2)) (Ej.cm (P':=λζ=>True) λl c hp a=>⟨trivial,x2 l c (.inr (aG Qp hp.1)) a⟩) dt (.inl II.ok) hl l8 λv' H3 x3 IB=>aU (v:=.ref aP) rfl (aU (v:=nv w) rfl ?_)
  have Qq:=x3 _ _ (x2 _ _ ly.hB.2 (x1 _ _ iS))
  refine DH Qq (d7.mp tZ).1 ?_
  have l3:=x3.len
  have D4:=aG l1 l2
  have Ef:=hB.2 _ ly.zs
  have up:∀{l:Nat} {c:aI},l≠aP->H3[l]?=some c->(H3.set aP (.list (ss.set w v')))[l]?=some c:=λhn a=>dK a _ (gS hn)
  have ml:r'.ms.length<=60+(m+1)/\r'.ws.length<=60+(m+1):=⟨aG ln.1 (jG sd.len.1),aG ln.2 (jG sd.len.2)⟩
  exact uH (Qn (n:=n) (H:=H) (H1:=H1) (r0:=r) hC ly hb (bZ al) hB dk Ej x1 (λl c h1 h2 a=>up h2 (x3 _ _ (x2 l c h1 a))) (by rw[gR];exact aG l2 l3) (up (λe=>hb (e▸ly.zs)) (x3 _ _ (x2 _ _ (ly.out hb) (x1 _ _ al)))) nL (d9 Qq _) (sN (d7.mp tZ).1) ah hu pg ((Ee.ext x3).keep (λl c hl a=>up (λe=>hl.elim (λh=>ly.hB.2.elim (λq=>absurd h.1 (not_le.mpr (e▸q))) λq=>absurd h.2 (fv.mpr (e▸q))) λh=>h (.inl (e▸ly.zs))) a) (iC gR.symm)) (IB.cm λl c hp a=>⟨⟨λz=>absurd (hB.2 l z) (fv.mpr (aG D4 hp)),λh=>absurd h.2 (fv.mpr (aG l2 hp))⟩,up (dm (cL Ef (aG D4 hp))) a⟩) ⟨l8,aG ml.1 (aG (kL (jG hm) 60) (by decide)),aG ml.2 (aG (kL (jG hm) 60) (by decide))⟩ (Ip l8) λo10 du H' t l' a1 a2 jD IJ tX yz=>h _ _ o10 r' _ v' du H' t l' a1 a2 jD IJ ⟨II,ml,Ip l8,tX,yz⟩)
 ·exact aA (a:=eF lb aP lh (some (.int c)) (some (nv w)) (some s) (some v) (some (.str (qY.getD j ""))) (some .none) o10 cM cK cq) rfl (g9 (ky (aU (v:=.str (qY.getD j "")) rfl (bP (aA (acO hj) (fL rfl (uH (Qn (n:=n) (H:=H) (H1:=H1) (r0:=r) hC ly hb (bZ al) hB dk Ej x1 (λl c h1 h2 a=>x2 _ _ a) x2.len (x2 _ _ (x1 _ _ al)) nL (x2 _ _ (x1 _ _ iS)) tZ ah hu pg (vq.ext x2) (qJ.cm λl c hp a=>⟨⟨hp.1,λh=>absurd hp.2 (fv.mpr h.1)⟩,x2 _ _ a⟩) hl sd.fl λo10 du H' t l' a1 a2 jD IJ tX yz=>h _ _ o10 r fr s du H' t l' (by rw[acQ tZ];exact a1) a2 jD IJ ⟨sd.iv,⟨vE sd.len.1,vE sd.len.2⟩,sd.fl,tX,yz⟩))))))))
noncomputable abbrev IK:S:=.aY (.J 5) (.bin .mod (.J 4) (kI 2))
noncomputable abbrev IL:S:=.aY (.J 6) (.br (.J 2) (.J 5))
noncomputable abbrev IM:S:=.bD (.isNone true (.J 6))
   [.ret (.k (.bool false))]
   []
noncomputable abbrev IP:S:=.aY (.J 7) (.call 50 [(.gF (.J 6) 0),(.bin .fdiv (.J 4) (kI 2))])
theorem Qr{b:Bool}(h:WE C e ρ H λx H=>Q (.bool (xQ x==b)) H):WE C (.isNone b e) ρ H Q:=h
theorem turn(hC:C.call=aH (n+72))(ly:Ly Z B aP lh)(hb:¬Z lb)(al:H[lb]?=some (.list bs))(nL:bs[w]?=some (.ref (B+1)))(iS:H[aP]?=some (.list ss))(tZ:ss[w]?=some s)(ew:c.fmod 2=(w:Int))(ah:H[lh]?=some (.list us))(hu:us.length<=900)(pg:∀u∈us,PG Z H u)(sd:Sd Z B H m r fr s)(hm:m<=100)
  (h:∀o5 o6 o7 o8 o9 o10 r' qG s' du H',xn B aP lh H H'->H.length<=H'.length->H'[aP]?=some (.list (ss.set w s'))->H'[lh]?=some (.list du)->du.length<=us.length+4->(∀u∈du,PG Z H' u)->Sd Z B H' (m+1) r' qG s'->K (.next (eF lb aP lh (some (.int c)) o5 o6 o7 o8 o9 o10 cM cK cq) H')):aX C (IK::IL::IM::IP::Eh::Eg::zx::BJ::[]) (eF lb aP lh (some (.int c)) o5 o6 o7 o8 o9 o10 cM cK cq) H K:=by
 refine eD (f9 (aU (v:=.int c) rfl (bP (fD (z:=(w:Int)) (by rw[<-ew];rfl) (aA (a:=eF lb aP lh (some (.int c)) (some (nv w)) o6 o7 o8 o9 o10 cM cK cq) rfl (eD (c9 (aU (v:=.ref aP) rfl (aU (v:=nv w) rfl (aA (iU iS tZ) (aA (a:=eF lb aP lh (some (.int c)) (some (nv w)) (some s) o7 o8 o9 o10 cM cK cq) rfl (sd.st _ λls l lm lw ld la ep es ev pp a0 rt ad de dk aa=>?_))))))))))))
 have wy:=ev
 subst wy
 refine g9 (vc (Qr (aU (v:=.ref ls) rfl (aA (a:=false) rfl (fL rfl (uH (eD (nN (p9 (aU (v:=.ref ls) rfl (aA (qb a0) (aA (a:=dP l lm lw) rfl (f9 (aU (v:=.int c) rfl (bP (fD (z:=c.fdiv 2) rfl ((?_:C.call 50 [dP l lm lw,.int (c.fdiv 2)] H _ _))))))))))))))))))
 rw[hC]
 exact abR (n:=n+70) rt ⟨sd.iv.p.1,aG sd.iv.p.2 (by decide)⟩ λd v H1 x1 dd dk=>aA (a:=eF lb aP lh (some (.int c)) (some (nv w)) (some (.ref ls)) (some v) o8 o9 o10 cM cK cq) rfl (acR (n:=n) hC ly hb dk dd x1 al nL iS tZ ah hu pg sd hm λo8 o9 o10 r' qG s' du H'=>h _ _ _ o8 o9 o10 r' qG s' du H')
end
section
variable{Z:Nat->Prop}{aP:Nat}{s:V}{K:Out->Prop}{P:Nat->Prop}{d:dN}
theorem Sd.up(sd:Sd Z B H m r fr s)(h:m<=m'):Sd Z B H m' r fr s:=⟨sd.iv,⟨aG sd.len.1 (kL h 60),aG sd.len.2 (kL h 60)⟩,sd.fl,sd.bk,sd.st⟩
theorem Ly.Qs(ly:Ly Z B aP lh)(h:B<=l/\l<B+5):l≠lh:=λe=>ly.hB.1.elim (λq=>absurd h.1 (not_le.mpr (e▸q))) λq=>absurd h.2 (fv.mpr (e▸q))
theorem Ly.acS(ly:Ly Z B aP lh)(h:B<=l/\l<B+5):l≠aP:=λe=>ly.hB.2.elim (λq=>absurd h.1 (not_le.mpr (e▸q))) λq=>absurd h.2 (fv.mpr (e▸q))
theorem Sd.other(sd:Sd Z B' H m r fr s)(x:xn B aP lh H H')(hl:H.length<=H'.length)(ly:Ly Z B aP lh)(Qt:Ly Z B' aP lh)(hd:B+5<=B'\/B'+5<=B):Sd Z B' H' m r fr s:=⟨sd.iv,sd.len,sd.fl,sd.bk.keep (λl c hl a=>hl.elim (λh=>x l c (hd.imp (λq=>.inr (aG q h.1)) (λq=>.inl (cL h.2 q)) |>.elim id id) (Qt.acS h) (Qt.Qs h) a) λh=>x.kz ly l c h a) hl,sd.st.cm λl c hp a=>⟨hp,x.kz ly l c hp a⟩⟩
theorem Sd.look(sd:Sd Z B H m r fr s)(x:bO lh H H')(hl:H.length<=H'.length)(ly:Ly Z B aP lh):Sd Z B H' m r fr s:=⟨sd.iv,sd.len,sd.fl,sd.bk.keep (λl c hl a=>x l c (λe=>hl.elim (λh=>ly.Qs h e) λh=>h (e▸ly.zh)) a) hl,sd.st.cm λl c hp a=>⟨hp,x l c (λe=>hp (e▸ly.zh)) a⟩⟩
structure L2(Z:Nat->Prop)(B0 B1 lb aP lh:Nat):Prop where
 y0:Ly Z B0 aP lh
 y1:Ly Z B1 aP lh
 d:B0+5<=B1
 b:¬Z lb
noncomputable def Qu(ζ:Prop)(Z:Nat->Prop)(B0 B1 lb aP lh m:Nat)(H:Hp):Prop:=∀(r0 r1:cV) (qc jz:List Nat) (s0 s1:V) (us:List V) (ab:H[lb]?=some (.list [.ref (B0+1),.ref (B1+1)])) (h1:H[aP]?=some (.list [s0,s1])) (h2:H[lh]?=some (.list us)) (h3:us.length<=4*m) (h4:∀u∈us,PG Z H u) (h5:Sd Z B0 H m r0 qc s0) (h6:Sd Z B1 H m r1 jz s1),ζ
def LI:=λZ B0 B1 lb aP lh m H=>∀ζ:Prop,Qu ζ Z B0 B1 lb aP lh m H->ζ
theorem LI.mk{Z B0 B1 lb aP lh m H}:Qu (LI Z B0 B1 lb aP lh m H) Z B0 B1 lb aP lh m H:=λx0 x1 x2 x3 x4 x5 x6 x7 x8 x9 dz fK eA fZ ζ k=>k x0 x1 x2 x3 x4 x5 x6 x7 x8 x9 dz fK eA fZ
theorem LI.ext(li:LI Z B0 B1 lb aP lh m H)(x:aC H H')(ly:L2 Z B0 B1 lb aP lh):LI Z B0 B1 lb aP lh m H':=li _ λr0 r1 qc jz s0 s1 us ab h1 h2 h3 h4 h5 h6=>.mk r0 r1 qc jz s0 s1 us (x _ _ ab) (x _ _ h1) (x _ _ h2) h3 (λu h=>(h4 u h).cm x.kz) (h5.look (lh:=lh) (λl c ζ a=>x l c a) x.len ly.y0) (h6.look (lh:=lh) (λl c ζ a=>x l c a) x.len ly.y1)
theorem Qv{α β:Type}(f:α->β)(xs:List α)(lo hi:Option Int):jS (xs.map f) lo hi=(jS xs lo hi).map f:=by
 unfold jS
 rw[bJ,List.map_drop,List.map_take]
theorem IQ{α:Type}(xs:List α)(lo:Option Int):(jS xs lo (some (k:Int))).length<=k:=by
 unfold jS
 rw[length_drop,vz]
 refine aG (Nat.sub_le _ _) (aG (Nat.min_le_left _ _) ((?_:(max (0:Int) (min (if(k:Int)<0 then(k:Int)+xs.length else(k:Int)) xs.length)).toNat<=k)))
 rw[bH (kM.mpr (ni k))]
 exact Int.toNat_le.mpr (Int.max_le.mpr ⟨ni k,Int.min_le_left _ _⟩)
theorem Qw{lo hi:Option E}{a b:V}{p:Option Int}(h0:ρ[0]?.join=some .i9)(h1:∀Q:PQ,Q a H->WO C lo ρ H Q)(h2:∀Q:PQ,Q b H->WO C hi ρ H Q)(ea:Aj a=some p)(eb:Aj b=some (some (k:Int)))(hk:k<=1000)(q:Q (.ref H.length) (H++[.list ((jS X.is p (some (k:Int))).map .int)])):WE C (.kP (.J 0) lo hi) ρ H Q:=by
 refine aA h0 (h1 _ (h2 _ (aA ea (aA eb (aA (a:=X.is.map V.int) rfl (cZ (c8 ?_) ?_))))))
 ·rw[Qv,bJ]
  exact cG (IQ _ _) (cG hk (by decide))
 ·rw[Qv];exact q
theorem acT(hC:C.call=aH (n+72))(ly:L2 Z B0 B1 lb aP lh)(li:LI Z B0 B1 lb aP lh m H)(hm:m<15)(h:∀o5 o6 o7 o8 o9 o10 H',KZ Z H H'->LI Z B0 B1 lb aP lh (m+1) H'->K (.next (eF lb aP lh (some (.int c)) o5 o6 o7 o8 o9 o10 cM cK cq) H')):aX C (IK::IL::IM::IP::Eh::Eg::zx::BJ::[]) (eF lb aP lh (some (.int c)) o5 o6 o7 o8 o9 o10 cM cK cq) H K:=li _ λr0 r1 qc jz s0 s1 us ab h1 h2 h3 h4 h5 h6=>by
 have hu:us.length<=900:=aG h3 (aG (oi 4 (cW hm)) (by decide))
 have up:∀{du:List V},du.length<=us.length+4->du.length<=4*(m+1):=λh=>aG h (lU h3 4)
 have m1:m<=100:=aG (cW hm) (by decide)
 obtain⟨w,ew,hw⟩:=k7 c (k:=2) (by decide)
 rcases Nat.lt_succ_iff_lt_or_eq.mp hw with hw|hw
 ·cases Nat.lt_one_iff.mp hw
  exact turn (n:=n) hC ly.y0 ly.b ab rfl h1 rfl ew h2 hu h4 h5 m1 λo5 o6 o7 o8 o9 o10 r' qG s' du H2 t l2 a1 a2 jD pg sd=>h _ _ _ _ _ _ H2 (t.kz ly.y0) (.mk r' r1 qG jz s' s1 du (t.kz ly.y0 _ _ ly.b ab) a1 a2 (up jD) pg sd ((h6.other t l2 ly.y0 ly.y1 (.inl ly.d)).up (kO _)))
 ·subst hw
  exact turn (n:=n) hC ly.y1 ly.b ab rfl h1 rfl ew h2 hu h4 h6 m1 λo5 o6 o7 o8 o9 o10 r' qG s' du H2 t l2 a1 a2 jD pg sd=>h _ _ _ _ _ _ H2 (t.kz ly.y1) (.mk r0 r' qc qG s0 s' du (t.kz ly.y1 _ _ ly.b ab) a1 a2 (up jD) pg ((h5.other t l2 ly.y1 ly.y0 (.inr ly.d)).up (kO _)) sd)
noncomputable abbrev Qx:S:=.for (.J 4) (.of (.kP (.J 0) (some (kI 5)) (some (kI 15)))) [IK,IL,IM,IP,Eh,Eg,zx,BJ]
noncomputable def Qy(ζ:Prop)(Z:Nat->Prop)(B0 B1 lb aP lh lc:Nat)(cs:List Int)(cM cK cq:Option V)(as:List Int)(ρ:bv)(H:Hp):Prop:=∀(o4 o5 o6 o7 o8 o9 o10:Option V) (m:Nat) (e:ρ=eF lb aP lh o4 o5 o6 o7 o8 o9 o10 cM cK cq) (hm:m+as.length<=15) (an:H[lc]?=some (.list (cs.map V.int))) (li:LI Z B0 B1 lb aP lh m H),ζ
def IR:=λZ B0 B1 lb aP lh lc cs cM cK cq as ρ H=>∀ζ:Prop,Qy ζ Z B0 B1 lb aP lh lc cs cM cK cq as ρ H->ζ
theorem IR.mk{Z B0 B1 lb aP lh lc cs cM cK cq as ρ H}:Qy (IR Z B0 B1 lb aP lh lc cs cM cK cq as ρ H) Z B0 B1 lb aP lh lc cs cM cK cq as ρ H:=λx0 x1 x2 x3 x4 x5 x6 x7 x8 x9 dz fK ζ k=>k x0 x1 x2 x3 x4 x5 x6 x7 x8 x9 dz fK
theorem turns(hC:C.call=aH (n+72))(ly:L2 Z B0 B1 lb aP lh)(li:LI Z B0 B1 lb aP lh 0 H)(hz:∀l,Z l->l<H.length)(h:∀o4 o5 o6 o7 o8 o9 o10 m H',m<=15->LI Z B0 B1 lb aP lh m H'->aX C rest (eF lb aP lh o4 o5 o6 o7 o8 o9 o10 cM cK cq) H' K):aX C (Qx::rest) (eF lb aP lh o4 o5 o6 o7 o8 o9 o10 cM cK cq) H K:=by
 refine oS (k9 (Qw (a:=.int 5) (b:=.int 15) (p:=some 5) (k:=15) rfl (λQ q=>q) (λQ q=>q) rfl rfl (by decide) ?_))
 have hc:=IQ X.is (some 5) (k:=15)
 generalize jS X.is (some 5) (some ((15:Nat):Int))=cs at hc ⊢
 have an:=bz H (.list (cs.map V.int))
 refine aA (dU an) (gq (g:=V.int) (IR Z B0 B1 lb aP lh H.length cs cM cK cq) (λc as ρ H' hI=>hI _ λo4 o5 o6 o7 o8 o9 o10 m e hm Qz li=>?_) (λρ H' hI=>hI _ λo4 o5 o6 o7 o8 o9 o10 m e hm Qz li=>?_) _ _ _ (.mk o4 o5 o6 o7 o8 o9 o10 0 rfl (by rw[qj];exact hc) an (li.ext (aC.aT _ _) ly)))
 ·subst e
  refine aA (a:=eF lb aP lh (some (.int c)) o5 o6 o7 o8 o9 o10 cM cK cq) rfl λN hN=>acT (n:=n) (C:=C.xq) hC ly li (cL (xP (succ_pos _)) hm) λo5 o6 o7 o8 o9 o10 H2 k i=>?_
  have QA:=k _ _ (λh=>absurd (hz _ h) (lt_irrefl _)) Qz
  exact hN _ _ (dE an QA) (.mk _ _ _ _ _ _ _ (m+1) rfl (by rw[Nat.succ_add];exact hm) QA i)
 ·subst e
  exact h _ _ _ _ _ _ _ m H' hm li
end
section
variable{Z:Nat->Prop}{aP:Nat}{s:V}{K:Out->Prop}{P:Nat->Prop}{d:dN}{b:List S}
noncomputable abbrev IS:S:=.bD (.or [(.isNone true (.J 6)),(.not (.call 52 [.J 11,.J 6,(.bin .mod (.call 26 [.J 0,(kI 0)]) (kI 8)),.J 3]))])
   [.ret (.k (.bool false))]
   []
def Lk(Z:Nat->Prop)(lh:Nat)(us:List V)(H H':Hp):Prop:=∃du,bO lh H H'/\H.length<=H'.length/\H'[lh]?=some (.list du)/\du.length<=us.length+4/\∀u∈du,PG Z H' u
theorem acU(hC:C.call=aH (n+72))(ly:Ly Z B aP lh)(ah:H[lh]?=some (.list us))(hu:us.length<=900)(pg:∀u∈us,PG Z H u)(sd:Sd Z B H m r fr s)(hm:m<=100)(h:∀H',Lk Z lh us H H'->K (.next (eF lb aP lh o4 o5 (some s) o7 o8 o9 o10 (some (.ref (B+1))) cK cq) H')):aX C (IS::[]) (eF lb aP lh o4 o5 (some s) o7 o8 o9 o10 (some (.ref (B+1))) cK cq) H K:=sd.st _ λls l lm lw ld la ep es ev pp a0 rt ad de dk aa=>by
 refine g9 (vc (Hy (Qr (aU (v:=s) rfl (aA (a:=false) (by rw[ev];rfl) (ia rfl ?_))))))
 obtain⟨f,ef,hf⟩:=k7 (X.is.getD 0 0) (k:=8) (by decide)
 refine Hx (Ea (aU (v:=.ref (B+1)) rfl (aU (v:=s) rfl (f9 (nN (aU (v:=.i9) rfl (bP ((?_:C.call 26 [.i9,.int ((0:Nat):Int)] H _ _)))))))))
 rw[hC]
 exact uR (n:=n+71) (is:=X.is) rfl (bP (fD (z:=(f:Int)) (by rw[<-ef];rfl) (aU (v:=.ref lh) rfl (IE (n:=n+67) hf sd.bk sd.st (λζ h=>h) ly.hB.1 sd.fl (sd.l1 hm) ah ly.zh hu pg λdu H6 x6 l6 BK jD BL=>aA (a:=true) rfl (aA (a:=false) rfl (fL rfl (h _ ⟨du,x6,l6,BK,jD,BL⟩)))))))
theorem acV{a b:E}{R:List V×List Nat->Hp->Prop}(h:WE C a ρ H λx H=>WE C b ρ H λy H=>aO (dJ H x) λxs=>aO (dJ H y) λys=>xs.length<=ys.length/\R (vN xs ys,H.length::(watch x++watch y)) (H++[.jx])):qE C (.zip a b) ρ H R:=h
theorem QB{ws:List Nat}(h:∀l∈ws,l≠lh/\∃c,G[l]?=some c)(x:bO lh G H'):fS ws G H'=true:=j1.mpr λl hl=>dj (by
 obtain⟨hn,c,hc⟩:=h l hl
 rw[hc];exact x l c hn hc)
theorem QC(ly:L2 Z B0 B1 lb aP lh)(li:LI Z B0 B1 lb aP lh m H)(hm:m<=50)(step:∀(B:Nat) (r:cV) (fr:List Nat) (s:V) (us:List V) (H:Hp) (cK cq:Option V) (K:Out->Prop),Ly Z B aP lh->H[lh]?=some (.list us)->us.length<=900->(∀u∈us,PG Z H u)->Sd Z B H m r fr s->(∀cK cq H',Lk Z lh us H H'->K (.next (eF lb aP lh o4 o5 (some s) o7 o8 o9 o10 (some (.ref (B+1))) cK cq) H'))->aX C.xq b (eF lb aP lh o4 o5 (some s) o7 o8 o9 o10 (some (.ref (B+1))) cK cq) H K)(h:∀o6 cM cK cq H',LI Z B0 B1 lb aP lh (m+2) H'->aX C rest (eF lb aP lh o4 o5 o6 o7 o8 o9 o10 cM cK cq) H' K):aX C (.for (.aF [.J 11,.J 6]) (.zip (.J 1) (.J 2)) b::rest) (eF lb aP lh o4 o5 o6 o7 o8 o9 o10 cM cK cq) H K:=li _ λr0 r1 qc jz s0 s1 us ab h1 h2 h3 h4 h5 h6=>by
 refine oS (acV (aU (v:=.ref lb) rfl (aU (v:=.ref aP) rfl (aA (cU ab) (aA (cU h1) ⟨bX _,?_⟩)))))
 have x0:=aC.aT H [aI.jx]
 have e0:∀{l:Nat},bO l H (H++[aI.jx]):=λ{_} l c _ a=>x0 l c a
 have jx:=bz H aI.jx
 have g5:=h5.look e0 x0.len ly.y0
 have g6:=h6.look e0 x0.len ly.y1
 have hz:=h5.bk.len.2
 have QD:=x0 _ _ ab
 have jg:=x0 _ _ h1
 have wt:∀l∈H.length::([lb]++[aP]),l≠lh/\∃c,(H++[aI.jx])[l]?=some c:=λl hl=>by
  have zt:=bZ h2
  rcases gB.mp hl with e|hl
  ·exact⟨e▸dm zt,_,e▸jx⟩
  ·rcases cY.mp hl with hl|hl
   ·rw[dI.mp hl];exact⟨λe=>ly.b (e▸ly.y0.zh),_,QD⟩
   ·rw[dI.mp hl];exact⟨gS ly.y0.ne,_,jg⟩
 have g2:=x0 _ _ h2
 have g4:∀u∈us,PG Z (H++[aI.jx]) u:=λu h=>(h4 u h).cm x0.kz
 generalize H++[aI.jx]=G at *
 refine aA (a:=eF lb aP lh o4 o5 (some s0) o7 o8 o9 o10 (some (.ref (B0+1))) cK cq) rfl (step B0 r0 qc s0 us G cK cq _ ly.y0 g2 (aG h3 (aG (oi 4 hm) (by decide))) g4 g5 λcK cq H1 k1=>?_)
 obtain⟨us1,x1,l1,a1,QE,zv⟩:=k1
 refine⟨QB wt x1,aA (a:=eF lb aP lh o4 o5 (some s1) o7 o8 o9 o10 (some (.ref (B1+1))) cK cq) rfl (step B1 r1 jz s1 us1 H1 cK cq _ ly.y1 a1 (aG QE (aG (lU (aG h3 (oi 4 hm)) 4) (by decide))) zv (g6.look x1 l1 ly.y1) λcK cq H2 k2=>?_)⟩
 obtain⟨us2,x2,l2,a2,hu2,pg2⟩:=k2
 have eA:bO lh G H2:=λl c hn a=>x2 l c hn (x1 l c hn a)
 exact⟨QB wt eA,(h _ _ _ _ H2 (.mk r0 r1 qc jz s0 s1 us2 (eA _ _ (λe=>ly.b (e▸ly.y0.zh)) QD) (eA _ _ (gS ly.y0.ne) jg) a2 (aG hu2 (lU (aG QE (lU h3 4)) 4)) pg2 ((g5.look eA (aG l1 l2) ly.y0).up (eV _ _)) ((g6.look eA (aG l1 l2) ly.y1).up (eV _ _))))⟩
end
section
variable{Z z:Nat->Prop}{aP:Nat}{s:V}{K:Out->Prop}{P:Nat->Prop}{d:dN}{b:List S}
theorem Ek(h:WE C e ρ H λx H=>gn (dJ H x).isSome (WE C e2 ρ H λy H=>oD .append x [y] H Q)):WE C (.cR .append e [e2]) ρ H Q:=h
theorem QF(h:WE C e ρ H λx H=>gn (dJ H x).isSome (oD .clear x [] H Q)):WE C (.cR .clear e []) ρ H Q:=h
theorem QG(h:H[l]?=some (.list vs))(q:Q .none (H.set l (.list []))):gn (dJ H (.ref l)).isSome (oD .clear (.ref l) [] H Q):=gf h (aA (cU h) q)
theorem ac0{α:Type}{R:α->V->Prop}{as:List α}{bs:List V}(h:ct R as bs):∀b∈bs,∃a,a∈as/\R a b:=h.rec (motive:=λas bs ζ=>∀b∈bs,∃a,a∈as/\R a b) (λζ h=>nomatch h) λr ζ ih b hb=>(gB.mp hb).elim (λe=>⟨_,dD,e▸r⟩) λh=>(ih b h).imp λa h=>⟨.tail _ h.1,h.2⟩
theorem IT(hC:C.call=aH (n+1))(bk:cz z B H r fr)(hl:R3 r)(he:∀Q:PQ,Q (.ref (B+1)) H->WE C e ρ H Q)(q:∀a c d H',aC H H'->H.length<=a/\H.length<=c/\H.length<=d->eX H' r a c d->Q (dP a c d) H'):WE C (.cQ 68 e []) ρ H Q:=bk _ λld ep lf es a0 a1 ap am aw ad hd de dk af hf=>by
 refine zi (he _ (mc a1 a0 ?_))
 rw[hC]
 exact OC bk.b hl q
theorem IU(hC:C.call=aH (n+1))(bk:cz z B H r fr)(hl:r.ps.length<=60)(he:∀Q:PQ,Q (.ref (B+1)) H->WE C e ρ H Q)(q:Q (.ref H.length) (H++[.list (aS (cc r.ps))])):WE C (.cQ 69 e []) ρ H Q:=bk _ λld ep lf es a0 a1 ap am aw ad hd de dk af hf=>by
 refine zi (he _ (mc a1 a0 ?_))
 rw[hC]
 exact HD a1 a0 rfl ap hl q
theorem QH(hC:C.call=aH (n+1))(bk:cz z B H r fr)(hl:fr.length<=60)(he:∀Q:PQ,Q (.ref (B+1)) H->WE C e ρ H Q)(q:Q (.ref H.length) (H++[.list (aS fr)])):WE C (.cQ 67 e []) ρ H Q:=bk _ λld ep lf es a0 a1 ap am aw ad hd de dk af hf=>by
 refine zi (he _ (mc a1 a0 ?_))
 rw[hC]
 exact Pw bk hl q
theorem QI(hC:C.call=aH (n+3))(bk:cz z B H r fr)(hk:k∈cc r.ps)(hj:ρ[j]?.join=some (.ref (B+1)))(hi:ρ[i]?.join=some (nv k))(q:∀v' H',aC H H'->gb (H.length<=·) H' (ib r k) v'->Q v' H'):WE C (.cQ 70 (.J j) [(.J i)]) ρ H Q:=bk _ λld ep lf es a0 a1 ap am aw ad hd de dk af hf=>by
 refine HZ (aU hj (mc a1 a0 (aU hi ?_)))
 rw[hC]
 have hk:=nq.mp hk
 exact H0 bk (i8.mp hk.1) (λe=>by rw[hk.2] at e;cases e) λζ=>q
noncomputable abbrev QJ:S:=.for (.J 13) (.of (.cQ 70 (.J 11) [.J 12])) [.expr (.cR .append (iI 13 3) [(kI 0)])]
noncomputable def QK(ζ:Prop)(lr b m:Nat)(H:Hp)(x:V):Prop:=∀(v1 v2 v3:V) (l:Nat) (us:List V) (e:x=.aF [v1,v2,v3,.ref l]) (hl:b<=l) (hn:l≠lr) (al:H[l]?=some (.list us)) (hu:us.length+m<=15000000),ζ
def IV:=λlr b m H x=>∀ζ:Prop,QK ζ lr b m H x->ζ
theorem IV.mk{lr b m H x}:QK (IV lr b m H x) lr b m H x:=λx0 x1 x2 x3 x4 x5 x6 x7 x8 x9 ζ k=>k x0 x1 x2 x3 x4 x5 x6 x7 x8 x9
noncomputable def QM(ζ:Prop)(lr:Nat)(vs:List V)(H:Hp)(ρf:Option V->bv)(ws:List V)(ρ:bv)(H':Hp):Prop:=∀(o:Option V) (e:ρ=ρf o) (xx:aC H H') (ar:H'[lr]?=some (.list vs)) (hs:∀x∈ws,IV lr H.length ws.length H' x),ζ
def IW:=λlr vs H ρf ws ρ H'=>∀ζ:Prop,QM ζ lr vs H ρf ws ρ H'->ζ
theorem IW.mk{lr vs H ρf ws ρ H'}:QM (IW lr vs H ρf ws ρ H') lr vs H ρf ws ρ H':=λx0 x1 x2 x3 x4 ζ k=>k x0 x1 x2 x3 x4
theorem ac1(hC:C.call=aH (n+3))(bk:cz z B H r fr)(hk:k∈cc r.ps)(h:∀cq H',aC H H'->aX C rest (eF lb aP lh o4 o5 o6 o7 o8 o9 o10 (some (.ref (B+1))) (some (nv k)) cq) H' K):aX C (QJ::rest) (eF lb aP lh o4 o5 o6 o7 o8 o9 o10 (some (.ref (B+1))) (some (nv k)) cq) H K:=by
 refine oS (k9 (QI (n:=n) hC bk hk rfl rfl λv' H1 x1 hd=>?_))
 obtain⟨lr,vs,rfl,hp,ar,hr,ok,eR⟩:=hd
 refine aA (dU ar) (Gd (IW lr vs H λcq=>eF lb aP lh o4 o5 o6 o7 o8 o9 o10 (some (.ref (B+1))) (some (nv k)) cq) (λx ws ρ H' hI=>hI _ λcq e xx xm hs=>?_) (λρ H' hI=>hI _ λcq e xx xm hs=>?_) _ _ _ (.mk cq rfl x1 ar λx hx=>?_))
 ·subst e
  refine aA (a:=eF lb aP lh o4 o5 o6 o7 o8 o9 o10 (some (.ref (B+1))) (some (nv k)) (some x)) rfl λN hN=>hs x dD _ λa b c l us e hl hn al hu=>?_
  subst e
  refine oW (Ek (c9 (aU (v:=.aF [a,b,c,.ref l]) rfl (bP (aA (a:=.ref l) rfl (gf al (bP (gg al (cG (aG (eV _ _) hu) (by decide)) (hN _ _ (dE ar (dK xm _ hn)) (.mk _ rfl (xx.set hl _) (dK xm _ hn) λy hy=>hs y (.tail _ hy) _ λa' b' c' l' du e gX Dc al' BE=>?_))))))))))
  by_cases hi:l'=l
  ·subst hi
   exact .mk _ _ _ _ _ e gX Dc (d9 al _) (by rw[b6,add_assoc,pC [V.int 0].length];exact hu)
  ·exact .mk _ _ _ _ du e gX Dc (dK al' _ (gS hi)) (pA BE)
 ·subst e
  exact h cq H' xx
 ·obtain⟨y,hy,l,hl,e,al⟩:=ac0 hr x hx
  refine .mk _ _ _ l _ e hl (λel=>?_) al (by rw[bJ,hr.len];exact aG (oq (ok y hy).2 eR) (by decide))
  rw[el,ar] at al
  injection al with al
  injection al with al
  rw[al] at hx
  obtain⟨i,_,hi⟩:=ii.mp hx
  rw[e] at hi
  cases hi
noncomputable abbrev ac4:S:=.expr (.cR .clear (.cQ 70 (.J 11) [.J 12]) [])
noncomputable abbrev El:S:=.for (.J 12) (.of (.cQ 69 (.J 11) [])) [QJ,ac4]
theorem ac5(hC:C.call=aH (n+3))(bk:cz z B H r fr)(hl:r.ps.length<=60)(h:∀cK cq H',aC H H'->aX C rest (eF lb aP lh o4 o5 o6 o7 o8 o9 o10 (some (.ref (B+1))) cK cq) H' K):aX C (El::rest) (eF lb aP lh o4 o5 o6 o7 o8 o9 o10 (some (.ref (B+1))) cK cq) H K:=by
 refine oS (k9 (IU (n:=n+2) hC bk hl (λQ q=>aU rfl q) ?_))
 have an:=bz H (.list (aS (cc r.ps)))
 refine aA (dU an) ?_
 have x0:=aC.aT H [aI.list (aS (cc r.ps))]
 generalize H++[aI.list (aS (cc r.ps))]=G at *
 refine gq (g:=nv) (λas ρ H'=>(∃cK cq,ρ=eF lb aP lh o4 o5 o6 o7 o8 o9 o10 (some (.ref (B+1))) cK cq)/\aC G H'/\∀k∈as,k∈cc r.ps) (λk as ρ H' hI=>?_) (λρ H' hI=>?_) _ _ _ ⟨⟨cK,cq,rfl⟩,aC.refl _,λζ h=>h⟩
 ·obtain⟨⟨cK,cq,rfl⟩,x,hk⟩:=hI
  refine aA (a:=eF lb aP lh o4 o5 o6 o7 o8 o9 o10 (some (.ref (B+1))) (some (nv k)) cq) rfl λN hN=>?_
  have Bh:=hk k dD
  refine ac1 (n:=n) (C:=C.xq) hC (bk.ext (x0.trans x)) Bh λcq H2 x2=>oW (QF (QI (n:=n) (C:=C.xq) hC (bk.ext (x0.trans (x.trans x2))) Bh rfl rfl λv' H3 x3 hd=>?_))
  obtain⟨lr,vs,rfl,hp,ar,_⟩:=hd
  have x4:aC G (H3.set lr (.list [])):=((x.trans x2).trans (x3.set hp _))
  exact QG ar (hN _ _ (dE an (x4 _ _ an)) ⟨⟨_,_,rfl⟩,x4,λk h=>hk k (.tail _ h)⟩)
 ·obtain⟨⟨cK,cq,rfl⟩,x,hk⟩:=hI
  exact h cK cq H' (x0.trans x)
end
section
variable{Z z z':Nat->Prop}{aP:Nat}{s:V}{K:Out->Prop}{P:Nat->Prop}{d:dN}{b:List S}
noncomputable abbrev IX:S:=.expr (.cR .append (.br (.cQ 68 (.J 11) []) (kI 0)) [(.aF [(kI 0),(.aF []),(.k .none),(.k .none)])])
noncomputable abbrev IY:S:=.expr (.cR .clear (.br (.cQ 68 (.J 11) []) (kI 2)) [])
noncomputable abbrev IZ:S:=.expr (.cR .append (.cQ 69 (.J 11) []) [(kI 0)])
noncomputable abbrev I0:S:=.expr (.cR .append (.cQ 67 (.J 11) []) [(kI 0)])
noncomputable abbrev I1:S:=.bD (.not (.call 52 [.J 11,.J 6,(kI 0),.J 3]))
   [.ret (.k (.bool false))]
   []
theorem ac6(q:Q (.aF []) H):WE C (.aF []) ρ H Q:=q
theorem ac7(hC:C.call=aH (n+72))(ly:Ly Z B aP lh)(ah:H[lh]?=some (.list us))(hu:us.length<=900)(pg:∀u∈us,PG Z H u)(sd:Sd Z B H m r fr s)(hm:m<=100)(h:∀cK cq H',Lk Z lh us H H'->K (.next (eF lb aP lh o4 o5 (some s) o7 o8 o9 o10 (some (.ref (B+1))) cK cq) H')):aX C (IX::IY::El::IZ::I0::I1::[]) (eF lb aP lh o4 o5 (some s) o7 o8 o9 o10 (some (.ref (B+1))) cK cq) H K:=by
 have hl:=sd.l1 hm
 have I2:∀{α:Type} {xs:List α} {f:α->V},xs.length<=60->(xs.map f).length<16000000:=λh=>by rw[bJ];exact cG h (by decide)
 refine oW (Ek (c9 (IT (n:=n+71) hC sd.bk hl (λQ q=>aU rfl q) λa1 a2 a3 H1 x1 hn eU=>bP (aA (a:=.ref a1) rfl (eU _ λp1 p2 p3=>gf p1 (xd (bP (ac6 (bP (bP (gg p1 (I2 hl.1) ?_)))))))))))
 have y1:=x1.set hn.1 (.list (r.ps.map bW++[.aF [.int 0,.aF [],.none,.none]]))
 generalize H1.set a1 (.list (r.ps.map bW++[.aF [.int 0,.aF [],.none,.none]]))=G1 at *
 refine oW (QF (c9 (IT (n:=n+71) hC (sd.bk.ext y1) hl (λQ q=>aU rfl q) λb1 b2 b3 H2 x2 BH at2=>bP (aA (a:=.ref b3) rfl (at2 _ λp1 p2 p3=>QG p3 ?_)))))
 have y2:=y1.trans (x2.set BH.2.2 (.list []))
 generalize H2.set b3 (.list [])=G2 at *
 refine ac5 (n:=n+69) hC (sd.bk.ext y2) hl.1 λcK cq G3 x3=>?_
 have y3:=y2.trans x3
 refine oW (Ek (IU (n:=n+71) hC (sd.bk.ext y3) hl.1 (λQ q=>aU rfl q) (gf (bz _ _) (bP (gg (bz _ _) (I2 (y9 hl.1)) ?_)))))
 have y4:=y3.trans ((aC.aT G3 [aI.list (aS (cc r.ps))]).set (bX _) (.list (aS (cc r.ps)++[.int 0])))
 generalize (G3++[aI.list (aS (cc r.ps))]).set G3.length (.list (aS (cc r.ps)++[.int 0]))=G4 at *
 refine oW (Ek (QH (n:=n+71) hC (sd.bk.ext y4) sd.fl (λQ q=>aU rfl q) (gf (bz _ _) (bP (gg (bz _ _) (I2 sd.fl) ?_)))))
 have y5:=y4.trans ((aC.aT G4 [aI.list (aS fr)]).set (bX _) (.list (aS fr++[.int 0])))
 generalize (G4++[aI.list (aS fr)]).set G4.length (.list (aS fr++[.int 0]))=G5 at *
 refine g9 (Oe (Ea (aU (v:=.ref (B+1)) rfl (aU (v:=s) rfl (bP (aU (v:=.ref lh) rfl ((?_:C.call 52 [.ref (B+1),s,nv 0,.ref lh] G5 _ _))))))))
 rw[hC]
 exact IE (n:=n+67) (by decide) (sd.bk.ext y5) (sd.st.ext y5) (λζ h=>h) ly.hB.1 sd.fl hl (y5 _ _ ah) ly.zh hu (λu h=>(pg u h).cm y5.kz) λdu H6 x6 l6 BK jD BL=>aA (a:=true) rfl (fL rfl (h _ _ _ ⟨du,λl c hn a=>x6 l c hn (y5 l c a),aG y5.len l6,BK,jD,BL⟩))
noncomputable abbrev QN:S:=.ret (.cmp .eq (.comp 1 (.J 0) (.J 0) (.of (.J 3)) [(.cmp .ne (iI 0 0) (iI 0 1))]) (.aP []))
theorem zy(a:H[l]?=some (.list [])):Rs (λζ=>False) H (.ref l) (xk []):=zq (ks:=[]) a λh=>h
theorem ac8(ah:H[lh]?=some (.list us))(hu:us.length<=900)(pg:∀u∈us,PG Z H u)(h:∀H',K (.ret (.bool true) H')):aX C (QN::rest) (eF lb aP lh o4 o5 o6 o7 o8 o9 o10 cM cK cq) H K:=by
 refine oV (so (lP (k9 (aU (v:=.ref lh) rfl (aA (dU ah) (cZ (c8 (cG hu (by decide))) ?_))))))
 have fin:oC ([]++(us.filter λζ=>false).map id) H λx H=>WE C (.aP []) (eF lb aP lh o4 o5 o6 o7 o8 o9 o10 cM cK cq) H λy H=>aO (gP .eq x y H) λt=>K (.ret (.bool t) H):=by
  rw[show(us.filter λζ=>false)=[] from zQ.mpr λζ ζ=>gM]
  exact jB (oR (aA (a:=true) (((zy (bu _ (bz _ _))).eq (zy (bz _ _))).trans (b7 some (zr []))) (h _)))
 have key:=mj (Q:=λvs H=>oC vs H λx H=>WE C (.aP []) (eF lb aP lh o4 o5 o6 o7 o8 o9 o10 cM cK cq) H λy H=>aO (gP .eq x y H) λt=>K (.ret (.bool t) H)) (g:=id) (ws:=[lh]) (P:=λζ=>false) (F:=id) (test:=λρ H Q=>WT C.no [(.cmp .ne (iI 0 0) (iI 0 1))] ρ H Q) (elt:=λρ H Q=>WE C.no (.J 0) ρ H Q) (eW:=eF lb aP lh o4 o5 o6 o7 o8 o9 o10 cM cK cq) us none [] (λu hu T hT=>?_) (λζ ζ e=>nomatch e) fin
 ·rw[map_id] at key
  exact key
 ·obtain⟨v,v',d,rfl,h1,h2,e⟩:=pg u hu
  exact Of (c9 (aU (v:=.aF [v,v']) rfl (bP (aA (a:=v) rfl (c9 (aU (v:=.aF [v,v']) rfl (bP (aA (a:=v') rfl (aA (h1.ne h2 e) (fL rfl hT))))))))))
end
section
variable{Z z z':Nat->Prop}{aP:Nat}{s:V}{K:Out->Prop}{P:Nat->Prop}
theorem cz.own(b:cz z B H r fr)(h1:∀l,z' l->z l\/l<B+5)(h2:∀l,z' l->l<H.length):cz z' B H r fr:=b _ λld ep lf es a0 a1 ap am aw ad hd de dk af hf=>by
 have nz:∀{l:Nat},Ow z B l->Ow z' B l:=λh=>⟨h.1,λq=>(h1 _ q).elim h.2 λhl=>absurd hl (fv.mpr h.1)⟩
 exact .mk ld ep lf es a0 a1 ap am aw ad ⟨hd.1,(nz ⟨hd.1,hd.2.1⟩).2,h2⟩ (λe he=>(de e he).wk λl ζ h=>nz h) dk af (nz hf)
noncomputable abbrev vr(lb:Nat)(o2 o3:Option V):bv:=[some .i9,some (.ref lb),o2,o3,none,none,none,none,none,none,none,none,none,none]
noncomputable abbrev la2:S:=.bD (.or [(.cmp .ne (.cQ 67 (iI 1 0) []) (.aP [])),(.cmp .ne (.cQ 69 (iI 1 0) []) (.aP [])),(.cmp .ne (.cQ 68 (iI 1 0) []) (.aF [(.aP []),(.aP []),(.aP [])]))])
  [.ret (.k (.bool false))]
  []
theorem ada(hC:C.call=aH (n+1))(bk:cz z B H ⟨[],[],[]⟩ [])(al:H[lb]?=some (.list bs))(nL:bs[0]?=some (.ref (B+1)))(h:∀H',aC H H'->aX C rest (vr lb o2 o3) H' K):aX C (la2::rest) (vr lb o2 o3) H K:=by
 have he:∀{G:Hp},aC H G->∀Q:PQ,Q (.ref (B+1)) G->WE C (iI 1 0) (vr lb o2 o3) G Q:=λx Q q=>c9 (aU (v:=.ref lb) rfl (bP (aA (iU (k:=0) (x _ _ al) nL) q)))
 refine g9 (vc (Qg (so (QH (n:=n) hC bk (by decide) (he (aC.refl _)) (oR (aA ((zy (bu _ (bz _ _))).ne (zy (bz _ _)) (zr [])) (aA (a:=false) rfl (ia rfl ?_))))))))
 have x1:aC H (H++[aI.list (aS [])]++[aI.list []]):=(aC.aT _ _).trans (aC.aT _ _)
 generalize H++[aI.list (aS [])]++[aI.list []]=G1 at *
 refine Hy (so (IU (n:=n) hC (bk.ext x1) (by decide) (he x1) (oR (aA ((zy (bu _ (bz _ _))).ne (zy (bz _ _)) (zr [])) (aA (a:=false) rfl (ia rfl ?_))))))
 have x2:aC H (G1++[aI.list (aS (cc []))]++[aI.list []]):=x1.trans ((aC.aT _ _).trans (aC.aT _ _))
 generalize G1++[aI.list (aS (cc []))]++[aI.list []]=G2 at *
 refine so (IT (n:=n) hC (bk.ext x2) ⟨by decide,by decide,by decide⟩ (he x2) λa c d G3 x3 ζ vp=>w8 (oR (oR (oR ?_))))
 have x4:aC G3 (G3++[aI.list []]++[aI.list []]++[aI.list []]):=((aC.aT _ _).trans (aC.aT _ _)).trans (aC.aT _ _)
 have zl:eX (G3++[aI.list []]++[aI.list []]++[aI.list []]) ⟨[],[],[]⟩ G3.length (G3++[aI.list []]).length (G3++[aI.list []]++[aI.list []]).length:=.mk (bu _ (bu _ (bz _ _))) (bu _ (bz _ _)) (bz _ _)
 have r1:Rs (λζ=>False) (G3++[aI.list []]++[aI.list []]++[aI.list []]) (dP a c d) (y8 ⟨[],[],[]⟩):=BF (vp.keep λζ ζ ζ h=>x4 _ _ h) (λh=>h) (λh=>h) λh=>h
 exact aA (r1.ne (BF (Z:=λζ=>False) zl (λh=>h) (λh=>h) λh=>h) (Iw _)) (aA (a:=false) rfl (fL rfl (h _ (x2.trans (x3.trans x4)))))
noncomputable abbrev I3:E:=.kP (.J 0) none (some (kI 5))
noncomputable abbrev la3:S:=.aY (.J 2) (.aP [(.call 54 [I3,(iI 1 0)]),(.call 54 [(.comp 1 (.bin .fdiv (.J 0) (kI 7)) (.J 0) (.of I3) []),(iI 1 1)])])
theorem QO(q:∀is:List Int,is.length<=5->Q (.ref H.length) (H++[.list (is.map .int)])):WE C I3 (vr lb o2 o3) H Q:=Qw (a:=.none) (b:=.int 5) (p:=none) (k:=5) rfl (λQ q=>q) (λQ q=>q) rfl rfl (by decide) (q _ (IQ _ _))
def Zb(B0 B1 l:Nat):Prop:=(B0<=l/\l<B0+5)\/(B1<=l/\l<B1+5)
theorem Zb.lt(h:Zb B0 B1 l)(hd:B0+5<=B1):l<B1+5:=h.elim (λh=>cL h.2 (aG hd (eV _ _))) λh=>h.2
def Bg(b B0 B1 B:Nat)(H:Hp)(s:V):Prop:=∃r fr,Iv r/\(r.ms.length<=60/\r.ws.length<=60)/\fr.length<=60/\cz (Zb B0 B1) B H r fr/\ic (b<=·) H r fr s
theorem ade{b:Nat}(hC:C.call=aH (n+72))(hd:B0+5<=B1)(hb:B1+5<=b/\b<=H.length)(oO:B1+5<=lb)(b0:cz (Zb B0 B1) B0 H ⟨[],[],[]⟩ [])(b1:cz (Zb B0 B1) B1 H ⟨[],[],[]⟩ [])(al:H[lb]?=some (.list [.ref (B0+1),.ref (B1+1)]))(h:∀s0 s1 H',H.length<=H'.length->H'[lb]?=some (.list [.ref (B0+1),.ref (B1+1)])->Bg b B0 B1 B0 H' s0->Bg b B0 B1 B1 H' s1->aX C rest (vr lb (some (.ref H'.length)) o3) (H'++[.list [s0,s1]]) K):aX C (la3::rest) (vr lb o2 o3) H K:=by
 refine eD (IA (nN (QO λis ζ=>c9 (aU (v:=.ref lb) rfl (bP (aA (iU (k:=0) (bu _ al) rfl) ?_))))))
 rw[hC]
 have y1:=aC.aT H [aI.list (is.map V.int)]
 have ai:=bz H (.list (is.map V.int))
 generalize H++[aI.list (is.map V.int)]=G1 at *
 have QP:=y1.len
 have uP:=aG hb.2 QP
 refine PR (n:=n) (λH' x=>cU (x _ _ ai)) (b0.ext y1) λr0 qc s0 H2 ok wd p0 p5 m6 w6 f6 x2 Em st0=>?_
 have l2:=x2.len (b0.ext y1).len.1
 have yV:B0+5<=B1+5:=aG hd (eV _ _)
 have QR:=x2 _ _ (.inr (aG yV oO)) (y1 _ _ al)
 have vq:cz (Zb B0 B1) B1 H2 ⟨[],[],[]⟩ []:=(b1.ext y1).keep (λl c hl a=>x2 l c (hl.elim (λh=>.inr (aG hd h.1)) λh=>(lt_or_ge l B0).imp id λh'=>ul λh2=>h (.inl ⟨h',h2⟩)) a) l2
 refine nN (lP (k9 (QO λcs uN=>aA (dU (bz _ _)) (cZ (c8 (e7 uN)) ?_))))
 have y3:=aC.aT H2 [aI.list (cs.map V.int)]
 generalize H2++[aI.list (cs.map V.int)]=G3 at *
 refine mj (P:=λζ=>true) (F:=λc:Int=>V.int (c.fdiv 7)) cs _ _ (λa ζ T hT=>hT) (λc ζ ζ N hN=>f9 (aU (v:=.int c) rfl (bP (fD (z:=c.fdiv 7) rfl hN)))) ?_
 rw[yN]
 have e:[]++cs.map (λc:Int=>V.int (c.fdiv 7))=(cs.map λc:Int=>c.fdiv 7).map V.int:=by rw[map_map];rfl
 rw[e]
 refine jB (c9 (aU (v:=.ref lb) rfl (bP (aA (iU (k:=1) (bu _ (y3 _ _ QR)) rfl) ?_))))
 rw[hC]
 have y4:=y3.trans (aC.aT G3 [aI.list ((cs.map λc:Int=>c.fdiv 7).map V.int)])
 have aj:=bz G3 (.list ((cs.map λc:Int=>c.fdiv 7).map V.int))
 generalize G3++[aI.list ((cs.map λc:Int=>c.fdiv 7).map V.int)]=G4 at *
 have QS:=y4.len
 refine PR (n:=n) (λH' x=>cU (x _ _ aj)) (vq.ext y4) λr1 jz s1 H5 ok' wd' p0' p5' m6' w6' f6' x5 adn qJ=>jB (aA (a:=vr lb (some (.ref H5.length)) o3) rfl ?_)
 have l5:=x5.len (vq.ext y4).len.1
 exact h s0 s1 H5 (aG QP (aG l2 (aG QS l5))) (x5 _ _ (.inr oO) (y4 _ _ QR)) ⟨r0,qc,⟨ok,wd,p0,aG p5 (by decide)⟩,⟨m6,w6⟩,f6,(Em.ext y4).keep (λl c hl a=>x5 l c (hl.elim (λh=>.inl (cL h.2 hd)) λh=>(lt_or_ge l B1).imp id λh'=>ul λh2=>h (.inr ⟨h',h2⟩)) a) l5,(st0.cm λl c hp a=>⟨aG uP hp,x5 l c (.inr (aG hb.1 (aG uP hp))) (y4 _ _ a)⟩)⟩ ⟨r1,jz,⟨ok',wd',p0',aG p5' (by decide)⟩,⟨m6',w6'⟩,f6',adn,qJ.cm λl c hp a=>⟨aG uP (aG l2 (aG QS hp)),a⟩⟩
theorem Bg.sd{b:Nat}(g:Bg b B0 B1 B H s)(hb:B0+5<=b/\B1+5<=b)(x:aC H H')(h2:∀l,Z l->Zb B0 B1 l\/H.length<=l)(h3:∀l,Z l->l<H'.length):∃r fr,Sd Z B H' 0 r fr s:=by
 obtain⟨r,fr,iv,ln,f6,bk,st⟩:=g
 exact⟨r,fr,iv,ln,f6,bk.grow x h2 h3,st.cm λl c hp a=>⟨λz=>(h2 l z).elim (λzb=>zb.elim (λh=>absurd h.2 (fv.mpr (aG hb.1 hp))) λh=>absurd h.2 (fv.mpr (aG hb.2 hp))) λh=>absurd (bZ a) (fv.mpr h),x _ _ a⟩⟩
noncomputable abbrev la6:S:=.for (.aF [.J 11,.J 6]) (.zip (.J 1) (.J 2)) [IS]
noncomputable abbrev la7:S:=.for (.aF [.J 11,.J 6]) (.zip (.J 1) (.J 2)) [IX,IY,El,IZ,I0,I1]
theorem adq(hC:C.call=aH (n+72))(ly:L2 Z B0 B1 lb aP lh)(li:LI Z B0 B1 lb aP lh 0 H)(hz:∀l,Z l->l<H.length)(q:∀H',K (.ret (.bool true) H')):aX C (Qx::la6::la7::QN::[]) (eF lb aP lh none none none none none none none none none none) H K:=by
 exact turns (n:=n) hC ly li hz λo4 o5 o6 o7 o8 o9 o10 m H7 hm li7=>QC (b:=[IS]) ly li7 (aG hm (by decide)) (λB r fr s us H cK cq K y ah hu pg sd k=>acU (n:=n) (C:=C.xq) hC y ah hu pg sd (aG hm (by decide)) λH' kk=>k cK cq H' kk) λo6 cM cK cq H8 li8=>QC (b:=[IX,IY,El,IZ,I0,I1]) ly li8 (aG (lU hm 2) (by decide)) (λB r fr s us H cK cq K y ah hu pg sd k=>ac7 (n:=n) (C:=C.xq) hC y ah hu pg sd (aG (lU hm 2) (by decide)) k) λo6 cM cK cq H9 li9=>li9 _ λζ ζ ζ ζ ζ ζ us ζ ζ h2 h3 h4 ζ ζ=>ac8 h2 (aG h3 (aG (oi 4 (lU (lU hm 2) 2)) (by decide))) h4 q
theorem adu(q:∀H',Q (.bool true) H'):aH (n+73) 55 [.i9] H Q Y:=XC (by
 refine eD (IA (OO (n:=n+71) (C:=⟨aH (n+72),xq Y⟩) rfl λH1 x1 b1=>OO (n:=n+71) (C:=⟨aH (n+72),xq Y⟩) rfl λH2 x2 b2=>jB (aA (a:=vr H2.length none none) rfl ?_)))
 have n1:=b1.len.1
 have n2:=b2.len.1
 have sB:=cW n1
 have t6:=cW n2
 have x3:=aC.aT H2 [aI.list [.ref (H.length+1),.ref (H1.length+1)]]
 have al:=bz H2 (.list [.ref (H.length+1),.ref (H1.length+1)])
 have Em:cz (Zb H.length H1.length) H.length H2 ⟨[],[],[]⟩ []:=(b1.grow (z':=λl=>H1.length<=l/\l<H1.length+5) x2 (λl h=>.inr h.1) λl h=>jp h.2 n2).own (λl h=>h.elim (λh=>.inr h.2) λh=>.inl h) λl h=>jp (h.lt sB) n2
 have vq:cz (Zb H.length H1.length) H1.length H2 ⟨[],[],[]⟩ []:=b2.own (λl h=>.inr (h.lt sB)) λl h=>jp (h.lt sB) n2
 generalize H2++[aI.list [.ref (H.length+1),.ref (H1.length+1)]]=H3 at *
 refine ada (n:=n+71) (C:=⟨aH (n+72),xq Y⟩) rfl (Em.ext x3) al rfl λH4 x4=>?_
 have I4:=x3.trans x4
 have BM:=I4.len
 refine ade (n:=n) (b:=H4.length) (C:=⟨aH (n+72),xq Y⟩) rfl sB ⟨aG t6 BM,bX _⟩ t6 (Em.ext I4) (vq.ext I4) (x4 _ _ al) λs0 s1 H5 l5 QT g0 g1=>?_
 have e1:(H5++[aI.list [s0,s1]]).length=H5.length+1:=b6
 refine eD (oR (aA (a:=eF H2.length H5.length (H5.length+1) none none none none none none none none none none) (by rw[e1];rfl) ?_))
 have x6:aC H5 (H5++[aI.list [s0,s1]]++[aI.list []]):=(aC.aT _ _).trans (aC.aT _ _)
 have l6:(H5++[aI.list [s0,s1]]++[aI.list []]).length=H5.length+2:=by rw[b6,e1];rfl
 have a1:=bu [aI.list []] (bz H5 (.list [s0,s1]))
 have a2:(H5++[aI.list [s0,s1]]++[aI.list []])[H5.length+1]?=some (.list []):=e1▸bz _ _
 have BN:=bZ QT
 generalize H5++[aI.list [s0,s1]]++[aI.list []]=H6 at *
 have z2:∀l,(Zb H.length H1.length l\/l=H5.length\/l=H5.length+1)->Zb H.length H1.length l\/H5.length<=l:=λl h=>h.imp id λh=>h.elim (λe=>iC e.symm) λe=>e▸kO _
 have z3:∀l,(Zb H.length H1.length l\/l=H5.length\/l=H5.length+1)->l<H6.length:=λl h=>cL (h.elim (λh=>jp (jp (h.lt sB) n2) (lG (lG BN))) λh=>h.elim (λe=>e▸lG (jH _)) λe=>e▸jH _) (iC l6.symm)
 have En:H.length+5<=H5.length/\H1.length+5<=H5.length:=⟨aG sB (aG (eV _ _) (aG t6 (cW BN))),aG t6 (cW BN)⟩
 obtain⟨r0,qc,sd0⟩:=g0.sd (Z:=λl=>Zb H.length H1.length l\/l=H5.length\/l=H5.length+1) ⟨aG sB (aG (eV _ _) (aG t6 BM)),aG t6 BM⟩ x6 z2 z3
 obtain⟨r1,jz,sd1⟩:=g1.sd (Z:=λl=>Zb H.length H1.length l\/l=H5.length\/l=H5.length+1) ⟨aG sB (aG (eV _ _) (aG t6 BM)),aG t6 BM⟩ x6 z2 z3
 have ly:L2 (λl=>Zb H.length H1.length l\/l=H5.length\/l=H5.length+1) H.length H1.length H2.length H5.length (H5.length+1):=⟨⟨⟨.inr (vE En.1),.inr En.1⟩,uj _,.inr (.inr rfl),.inr (.inl rfl),λl h1 h2=>.inl (.inl ⟨h1,h2⟩)⟩,⟨⟨.inr (vE En.2),.inr En.2⟩,uj _,.inr (.inr rfl),.inr (.inl rfl),λl h1 h2=>.inl (.inr ⟨h1,h2⟩)⟩,sB,λh=>h.elim (λh=>absurd (h.lt sB) (fv.mpr t6)) λh=>h.elim (λe=>dq BN e) λe=>dq (lG BN) e⟩
 exact adq (n:=n) (C:=⟨aH (n+72),xq Y⟩) rfl ly (.mk r0 r1 qc jz s0 s1 [] (x6 _ _ QT) a1 a2 (bX _) (λζ h=>(nomatch h)) sd0 sd1) z3 q)
end
end Mine.L
set_option tactic.hygienic true
section
open PySem PySem.W PyProof.Rows
namespace Mine
theorem adx{c:ClaimW}{cl:Str->Option Addr}{mean:ExcName->Option Value}{args:List WData}{ci:Shared}{h':Heap}{tk:Nat}(hk:∀b o,ci.heap.get? b=some o->h'.get? b=some o)(hg:ci.gens=#[])
  (hn:∀cls,c.raises args cls=false) (hp:c.post args (.bool true) args=true):GoodWG c cl mean args ci (.ok (.ret (.bool true))) {ci with heap:=h',toks:=tk}:=
 ⟨.inl ⟨_,_,_,rfl,hn,.bool true,hp,λζ=>⟨.nil,λζ ha=>nomatch ha⟩⟩,⟨λb o e=>.inl (hk b o e),λb o e=>⟨o,hk b o e⟩⟩,rfl,.of_eq hg⟩
noncomputable def xp:Hook:=⟨Heap,λs=>s.heap,λw=>H.H1 w.params,λw h=>∀b o,(H.H1 w.params).get? b=some o->h.get? b=some o,λw s e=>e▸λζ ζ x=>x,λw h h' x k b o e=>k b o (x b o e)⟩
theorem left:LeftO H.pp H.qv H.lo H.Xt (Hook.obs xp) (Hook.val xp) 20000:=
 LeftO.of_pieces (H₀:=boot_heap) (H₁:=H.H1) (m₀:=11) (ann:=H.an) H.WL H.size H.run (by decide) λw=>funext λos=>H.pr (H.k1 w os) (H.pr (H.sn w os) rfl)
end Mine
set_option maxHeartbeats 40000000 in
theorem Mine.ws:PySem.Challenge.rw_uf020001_12.wellSaid=true:=by
 unfold OpenLaw.wellSaid OpenRow.wellSaid OpenRow.partSaid
 repeat' with_reducible refine look_both ?_ ?_
 all_goals decide +kernel
set_option maxHeartbeats 40000000 in
theorem PySem.Challenge.cw_uf020001_12_holds : PySem.Challenge.rw_uf020001_12.Holds := by
 w_on
 refine holds_law Mine.ws λsaid=>?_
 refine holds_open (q:=Mine.H.qv) (loose:=Mine.H.lo) (Xt:=Mine.H.Xt) (XP:=XL Mine.H.qv Mine.H.lv) (Yf:=Hook.obs Mine.xp) (Ya:=Hook.val Mine.xp) (YP:=Hook.says Mine.xp) (N:=20000) Mine.left Mine.xp.of Mine.xp.keeps (λs e=>xl_of s (Bool.and_eq_true_iff.mp e).1) XL.keeps (d:=Mine.H.wB) (kwd:=[]) Mine.H.d1 Mine.H.d2 Mine.H.d3 (λs e=>recFacts_of (Bool.and_eq_true_iff.mp e).2) (by rfl) said (by decide +kernel) ⟨rfl,rfl,rfl,rfl,rfl,by decide +kernel⟩ ?hw ?hc
 case hw=>w_witness2
 intro w FF ci mg mb G Y fa o pm cd doc dV kV ho hd yq hD hmg hg args vals as Bw adz hrd qO mY
 refine Ground.open G ?_
 intro T B D TE TW
 wrow_args Bw adz hrd qO mY
 rename_i ns _ _ _ _ _ _ _ mC vs _ hL _ _ _ hI _ hc _
 refine Mine.WD (Pr:=w.params) T Y ?_ Mine.Q7 ?_ ?_ rfl hL hI ?_ rfl hmg (Mine.L.adu (n:=0) λζ=>rfl) ?_
 ·kernel_rfl
 ·decide +kernel
 ·decide +kernel
 ·omega
 ·intro h' tk hk
  exact Mine.adx hk hg (λζ=>rfl) (by with_unfolding_all rfl)
end
