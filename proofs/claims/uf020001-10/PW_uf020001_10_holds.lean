import PyProof.Rows.All
import Open.Line
import Open.Boot
import Open.Tree
import PyProof.Claim2
import PyProof.P3Statements
import PyProof.Methods
import PyProof.NoPylong
import PyProof.CodeObjX
import PyProof.Ends
import PyProof.Rows.TupIn
import PyProof.Rows.Own
import PyProof.Rows.PlainObj
import PyProof.Seq
import PyProof.Cells
import PyProof.TupleIter
import PyProof.PlainList
import PyProof.DictRoads
import PyProof.DictKinds
import PyProof.DictIter
import PyProof.DictRoadsH
import PyProof.EqKinds
import PyProof.DictTruth
import PyProof.ListMulRoad
import PyProof.EqAt
import PyProof.DictWalks
import PyProof.RaisesMany
import PyProof.RulesTry
import PyProof.RulesAs
import PyProof.CompFree
import PyProof.SliceSyntax
import PyProof.SliceList
import PyProof.Rows.TupMore
import KE.LcSums
import PyProof.MinMaxWalk
import PyProof.WalkInts
import PyProof.TupleOfSeq
import PyProof.Conv_int_bool
import PyProof.Rows.SortWalk
import PyProof.Rows.CallKwBuiltin
import PyProof.Rows.SetFrom
import PyProof.SetRoads
import PyProof.IsiNone
import PyProof.DictDisplay
import PyProof.ListRange
import PyProof.ListNew
import PyProof.Rows.TupDisplay
import PyProof.ObjNew
import PyProof.InstLoad
import PyProof.AssignAttr
import PyProof.Rows.PlainNoArg
import PyProof.Rows.Catch
import PyProof.ExcClass2
import PyProof.ExcAttrAll.ValueError
import PyProof.Rows.RuleN_isinstance
import PyProof.Rows.PlainStore
import PyProof.Rows.Nodes
import PySem.Challenge.RW_uf020001_10
set_option Elab.async false
set_option compiler.extract_closed false
set_option genSizeOfSpec false
set_option genSizeOf false
set_option genInjectivity false
set_option autoImplicit false
set_option linter.unusedVariables false
set_option linter.unusedSimpArgs false
set_option maxRecDepth 100000
set_option tactic.hygienic false
open Nat(le_trans lt_of_le_of_lt le_refl le_of_lt lt_of_lt_of_le ne_of_lt ne_of_gt le_add_right zero_le le_of_eq not_lt lt_trans add_le_add_left zero_add succ_le_succ add_le_add le_succ add_comm add_le_add_right mul_le_mul_left le_of_succ_le lt_succ_self sub_self le_add_left add_right_comm le_of_lt_succ lt_succ_of_le pow_le_pow_right min_eq_left succ_pos min_le_right add_assoc not_lt_zero one_mul zero_mul lt_or_ge mul_comm)
open List(length_map length_append mem_cons_self mem_append mem_singleton mem_cons append_nil mem_map mem_of_getElem? getElem?_eq_getElem replicate size_toArray getElem?_map map_append mem_range length_cons length_range nodup_cons all_eq_true map_map length_set nodup_nil lookup_cons map_cons mem_filter isEmpty_map nil_append length_nil append_assoc getElem?_eq_none length_filter_le getElem?_append_right getElem?_set_self getElem?_set_ne length_take filter_cons eq_nil_of_length_eq_zero map_nil not_mem_nil getElem?_append_left nodup_append drop_eq_nil_iff getElem?_toArray foldl_cons any_eq_true countP_cons Pairwise getElem?_nil length_drop drop_zero getD_eq_getElem?_getD contains_cons filter_nil sum_cons length_pos_iff any_cons find?_cons forIn_cons ext_getElem? contains_iff_mem any_eq_false isEmpty_iff ne_nil_of_mem flatMap_cons foldl_nil getElem?_of_mem map_id cons_ne_nil drop_nil getElem_mem flatMap_nil map_set range' countP)
open Bool(and_eq_true_iff not_eq_true' or_eq_true_iff not_eq_false' or_eq_false_iff not_not beq_comm toNat_le)
open PySem.Heap(get?_push_size ExtBut get?_push_of_some lt_size get?_update_self SameBut get?_update_other Ns)
open Int(ofNat_lt natCast_nonneg gcd ofNat_le ofNat toNat_natCast not_le natAbs_mul toNat_lt)
open Option(isSome_iff_exists or_none isSome)
open Array(length_toList getElem?_toList)
open Classical(byContradiction propDecidable)
namespace Mine
open PySem
inductive V where
 |none
 |bool (b:Bool)
 |int (i:Int)
 |str (s:Str)
 |aF (vs:List V)
 |ref (l:Nat)
 |dU
 deriving Inhabited
inductive aZ where
 |list (vs:List V)
 |dict (ep:Nat) (es:List (Int×V))
 |cD (ep:Nat) (es:List ((Int×Bool)×V))
 |exc (k:Nat)
 |obj (t:Nat)
 |bX (fs:List (Option V))
 deriving Inhabited
noncomputable def tZ:V->Bool
 |.none=>true
 |_=>false
noncomputable instance:DecidableEq V:=λa b=>propDecidable (a=b)
noncomputable instance:DecidableEq aZ:=λa b=>propDecidable (a=b)
noncomputable abbrev Hp:=List aZ
noncomputable abbrev aP:=List (Option V)
inductive Out where
 |next (ρ:aP) (h:Hp)
 |ret (v:V) (h:Hp)
inductive lV where|add|sub|mul|fdiv|mod|pow
 deriving DecidableEq
inductive kU where|eq|ne|lt|le|gt|ge|iS|iT
inductive Ty where|int|bool|list
inductive Bi where
 |len|jH (t:Ty)|any|max2|mB|tupleOf|vT|qm|kW
inductive Me where
 |append|count|index
set_option genSizeOf true in
set_option genSizeOfSpec true in
inductive cN where
 |J (i:Nat)
 |aF (ts:List cN)
mutual
inductive E where
 |k (v:V)
 |J (i:Nat)
 |gk (j:Nat)
 |bin (op:lV) (a b:E)
 |neg (a:E)
 |not (a:E)
 |and (es:List E)
 |or (es:List E)
 |cmp (op:kU) (a b:E)
 |kh (op nE:kU) (a b c:E)
 |isNone (y:Bool) (a:E)
 |aF (es:List E)
 |bJ (es:List E)
 |aE (a i:E)
 |ii (a:E) (lo hi:Option E)
 |call (f:Nat) (es:List E)
 |bi (b:Bi) (es:List E)
 |c8 (m:Me) (a:E) (es:List E)
 |comp (nl:Nat) (elt:E) (t:cN) (it:It) (cs:List E)
 |listOf (e:E)
 |nF
 |lW
 |t6 (a b:E)
 |ba (c a b:E)
 |attr (a:E) (i:Nat)
 |dG (f:Nat) (a:E) (es:List E)
 |new (f:Nat)
 |kj (k:Option Nat) (a:E)
inductive It where
 |of (e:E)
 |range (a b:E)
 |jI (e:E)
end
inductive S where
 |expr (e:E)
 |aN (t:cN) (e:E)
 |iU (a i e:E)
 |setAttr (a:E) (i:Nat) (e:E)
 |ret (e:E)
 |ba (c:E) (a b:List S)
 |for (t:cN) (it:It) (body:List S)
 |while (c:E) (body:List S)
 |raise (k:Nat) (w:Str)
 |iV (r:Option cN) (e:E) (k i:Nat) (h:E)
noncomputable abbrev PQ:=V->Hp->Prop
structure Ct where
 call:Nat->List V->Hp->PQ->PQ->Prop
 exc:PQ
structure Fn where
 name:Str
 np:Nat
 nl:Nat
 body:List S
structure CK where
 kX:List (Bool×Str)
 vU:List Str
 oH:List Str
 cls:Str
 bX:List Str
structure Sn where
 sc:Scope
 ns:List Str
 hd:Bool
namespace P
noncomputable abbrev VE:Nat:=0
noncomputable abbrev iW:Nat:=1
noncomputable abbrev t7:Nat:=2
noncomputable abbrev qo:Nat:=3
noncomputable abbrev qp:Nat:=4
noncomputable abbrev yU:Nat:=5
noncomputable abbrev yV:Nat:=6
noncomputable abbrev yW:Nat:=7
noncomputable abbrev jJ:Nat:=8
noncomputable abbrev r9:Nat:=9
noncomputable abbrev vV:Nat:=10
noncomputable abbrev qq:Nat:=11
noncomputable abbrev t8:Nat:=12
noncomputable abbrev vW:Nat:=13
noncomputable abbrev sd:Nat:=14
noncomputable abbrev vX:Nat:=15
noncomputable abbrev yX:Nat:=16
noncomputable abbrev yY:Nat:=17
noncomputable abbrev yZ:Nat:=18
noncomputable abbrev y0:Nat:=19
noncomputable abbrev y1:Nat:=20
noncomputable abbrev y3:Nat:=21
noncomputable abbrev y4:Nat:=22
noncomputable abbrev oI:Nat:=23
noncomputable abbrev km:Nat:=24
noncomputable abbrev mC:Nat:=25
noncomputable abbrev iX:Nat:=26
noncomputable abbrev lX:Nat:=27
noncomputable abbrev lY:Nat:=28
noncomputable abbrev nG:Nat:=29
noncomputable abbrev y7:Nat:=30
noncomputable abbrev y8:Nat:=31
noncomputable abbrev oJ:Nat:=32
noncomputable abbrev VF:Nat:=33
noncomputable abbrev VG:Nat:=34
noncomputable abbrev VH:Nat:=35
noncomputable abbrev vY:Nat:=36
noncomputable abbrev se:Nat:=37
noncomputable abbrev y9:Nat:=38
noncomputable abbrev za:Nat:=39
noncomputable abbrev zb:Nat:=40
noncomputable abbrev qr:Nat:=41
noncomputable abbrev VI:Nat:=42
noncomputable abbrev vZ:Nat:=43
noncomputable abbrev VJ:Nat:=44
noncomputable abbrev t9:Nat:=45
noncomputable abbrev oK:Nat:=46
noncomputable abbrev oM:Nat:=47
noncomputable abbrev v0:Nat:=48
noncomputable abbrev sf:Nat:=49
noncomputable abbrev sg:Nat:=50
noncomputable abbrev sh:Nat:=51
noncomputable abbrev CD:Nat:=52
noncomputable abbrev CE:Nat:=53
noncomputable abbrev CF:Nat:=54
noncomputable abbrev v5:Nat:=55
noncomputable abbrev si:Nat:=56
noncomputable abbrev mD:Nat:=57
noncomputable abbrev v6:Nat:=58
noncomputable abbrev kZ:Nat:=59
noncomputable abbrev v7:Nat:=60
noncomputable abbrev oN:Nat:=61
noncomputable abbrev ua:Nat:=62
noncomputable abbrev gP:Nat:=63
noncomputable abbrev sj:Nat:=64
noncomputable abbrev qt:Nat:=65
noncomputable abbrev v8:Nat:=66
noncomputable abbrev v9:Nat:=67
noncomputable abbrev oO:Nat:=68
noncomputable abbrev wa:Nat:=69
noncomputable abbrev wb:Nat:=70
noncomputable abbrev wc:Nat:=71
noncomputable abbrev we:Nat:=72
noncomputable abbrev VK:Nat:=73
noncomputable abbrev ub:Nat:=74
noncomputable abbrev zc:Nat:=75
noncomputable abbrev VL:Nat:=76
noncomputable def IK:List Str:=["people","person","day","born","parents","adopted","died"]
noncomputable def CG:List S:=
 [.aN (.aF [.J 3,.J 4,.J 5,.J 6]) (.aE (.J 0) (.J 1)),
  .ret (.and [(.cmp .le (.J 3) (.J 2)),(.or [(.isNone true (.J 6)),(.cmp .lt (.J 2) (.J 6))])])]
noncomputable def IL:List Str:=["people","person","day","born","parents","adopted","died"]
noncomputable def CH:List S:=
 [.aN (.aF [.J 3,.J 4,.J 5,.J 6]) (.aE (.J 0) (.J 1)),
  .ba (.and [(.isNone false (.J 5)),(.cmp .le (.aE (.J 5) (.k (.int 0))) (.J 2))])
  [.ret (.aE (.J 5) (.k (.int 1)))]
  [],
  .ret (.J 4)]
noncomputable def IM:List Str:=["people","person","day","found","child"]
noncomputable def CI:List S:=
 [.aN (.J 3) (.bJ []),
  .for (.J 4) (.range (.k (.int 0)) (.bi .len [.J 0]))
  [.ba (.and [(.cmp .le (.aE (.aE (.J 0) (.J 4)) (.k (.int 0))) (.J 2)),(.cmp .iS (.J 1) (.call t7 [.J 0,.J 4,.J 2]))])
   [.expr (.c8 .append (.J 3) [.J 4])]
   []],
  .ret (.J 3)]
noncomputable def IP:List Str:=["people","person","day","child"]
noncomputable def CJ:List S:=
 [.ba (.call iW [.J 0,.J 1,.J 2])
  [.ret (.k (.bool true))]
  [],
  .for (.J 3) (.of (.call qo [.J 0,.J 1,.J 2]))
  [.ba (.call qp [.J 0,.J 3,.J 2])
   [.ret (.k (.bool true))]
   []],
  .ret (.k (.bool false))]
noncomputable def IQ:List Str:=["people","state","day","person","down","found"]
noncomputable def CL:List S:=
 [.aN (.aF [.J 3,.J 4]) (.J 1),
  .aN (.J 5) (.comp 1 (.aF [.J 0,(.k (.bool true))]) (.J 0) (.of (.call qo [.J 0,.J 3,.J 2])) []),
  .ba (.not (.J 4))
  [.aN (.J 5) (.bin .add (.J 5) (.comp 1 (.aF [.J 0,(.k (.bool false))]) (.J 0) (.of (.call t7 [.J 0,.J 3,.J 2])) []))]
  [],
  .ret (.J 5)]
noncomputable def IR:List Str:=["people","known","ways","day","found","state","other","way"]
noncomputable def CM:List S:=
 [.aN (.J 4) .lW,
  .for (.J 5) (.of (.J 2))
  [.for (.J 6) (.of (.call yU [.J 0,.J 5,.J 3]))
   [.aN (.J 7) (.bin .add (.aE (.J 2) (.J 5)) (.bJ [(.aE (.J 6) (.k (.int 0)))])),
    .ba (.and [(.cmp .iT (.J 6) (.J 1)),(.or [(.cmp .iT (.J 6) (.J 4)),(.cmp .lt (.J 7) (.aE (.J 4) (.J 6)))])])
    [.iU (.J 4) (.J 6) (.J 7)]
    []]],
  .ret (.J 4)]
noncomputable def IS:List Str:=["people","person","day","ways","known","heirs","state","heir"]
noncomputable def wg:List S:=
 [.aN (.J 3) (.t6 (.aF [.J 1,(.k (.bool false))]) (.bJ [.J 1])),
  .aN (.J 4) .lW,
  .aN (.J 5) .nF,
  .while (.and [(.cmp .eq (.J 5) .nF),(.cmp .ne (.J 3) .nF)])
  [.for (.J 6) (.of (.J 3))
   [.iU (.J 4) (.J 6) (.k (.bool true))],
   .aN (.J 3) (.call yV [.J 0,.J 4,.J 3,.J 2]),
   .for (.J 6) (.of (.J 3))
   [.aN (.J 7) (.aE (.J 6) (.k (.int 0))),
    .ba (.and [(.cmp .ne (.J 7) (.J 1)),(.call iW [.J 0,.J 7,.J 2]),(.or [(.cmp .iT (.J 7) (.J 5)),(.cmp .lt (.aE (.J 3) (.J 6)) (.aE (.J 5) (.J 7)))])])
    [.iU (.J 5) (.J 7) (.aE (.J 3) (.J 6))]
    []]],
  .ret (.comp 1 (.aF [.J 0,(.aE (.J 6) (.J 0))]) (.J 0) (.of (.bi .vT [(.listOf (.J 5))])) [])]
noncomputable def IT:List Str:=["over","under","one","other","rest"]
noncomputable def zd:List S:=
 [.aN (.J 2) (.J 0),
  .aN (.J 3) (.J 1),
  .while (.cmp .gt (.J 3) (.k (.int 0)))
  [.aN (.J 4) (.bin .mod (.J 2) (.J 3)),
   .aN (.J 2) (.J 3),
   .aN (.J 3) (.J 4)],
  .ret (.aF [(.bin .fdiv (.J 0) (.J 2)),(.bin .fdiv (.J 1) (.J 2))])]
noncomputable def IU:List Str:=["one","other"]
noncomputable def CN:List S:=
 [.ret (.call jJ [(.bin .add (.bin .mul (.aE (.J 0) (.k (.int 0))) (.aE (.J 1) (.k (.int 1)))) (.bin .mul (.aE (.J 1) (.k (.int 0))) (.aE (.J 0) (.k (.int 1))))),(.bin .mul (.aE (.J 0) (.k (.int 1))) (.aE (.J 1) (.k (.int 1))))])]
noncomputable def IV:List Str:=["one","other"]
noncomputable def CO:List S:=
 [.ret (.call jJ [(.bin .sub (.bin .mul (.aE (.J 0) (.k (.int 0))) (.aE (.J 1) (.k (.int 1)))) (.bin .mul (.aE (.J 1) (.k (.int 0))) (.aE (.J 0) (.k (.int 1))))),(.bin .mul (.aE (.J 0) (.k (.int 1))) (.aE (.J 1) (.k (.int 1))))])]
noncomputable def IW:List Str:=["one","other"]
noncomputable def CP:List S:=
 [.ret (.call jJ [(.bin .mul (.aE (.J 0) (.k (.int 0))) (.aE (.J 1) (.k (.int 0)))),(.bin .mul (.aE (.J 0) (.k (.int 1))) (.aE (.J 1) (.k (.int 1))))])]
noncomputable def IX:List Str:=["one","many"]
noncomputable def CQ:List S:=
 [.ret (.call jJ [(.aE (.J 0) (.k (.int 0))),(.bin .mul (.aE (.J 0) (.k (.int 1))) (.J 1))])]
noncomputable def IY:List Str:=["people","person","children","day","takers","rows","child","share","heir","piece","line"]
noncomputable def CR:List S:=
 [.aN (.J 4) (.comp 1 (.J 0) (.J 0) (.of (.J 2)) [(.call qp [.J 1,.J 0,.J 4])]),
  .aN (.J 5) (.bJ []),
  .for (.J 6) (.of (.J 4))
  [.aN (.J 7) (.call t8 [(.gk 0),(.bi .len [.J 4])]),
   .ba (.call iW [.J 0,.J 6,.J 3])
   [.expr (.c8 .append (.J 5) [(.aF [.J 6,.J 7,(.bJ [.J 1,.J 6])])])]
   [.for (.aF [.J 8,.J 9,.J 10]) (.of (.call sd [.J 0,.J 6,.J 3]))
    [.expr (.c8 .append (.J 5) [(.aF [.J 8,(.call qq [.J 7,.J 9]),(.bin .add (.bJ [.J 1]) (.J 10))])])]]],
  .ret (.J 5)]
noncomputable def IZ:List Str:=["people","person","day"]
noncomputable def CS:List S:=
 [.ret (.call vW [.J 0,.J 1,(.call qo [.J 0,.J 1,.J 2]),.J 2])]
noncomputable def I0:List Str:=["people","parent","person","day"]
noncomputable def CT:List S:=
 [.ret (.comp 1 (.J 0) (.J 0) (.of (.call qo [.J 0,.J 1,.J 3])) [(.cmp .ne (.J 0) (.J 3))])]
noncomputable def I1:List Str:=["people","person","day","takers","parent","others","rows","share","heir","piece","line"]
noncomputable def CU:List S:=
 [.aN (.J 3) (.bJ []),
  .for (.J 4) (.of (.call t7 [.J 0,.J 1,.J 2]))
  [.aN (.J 5) (.call vX [.J 0,.J 4,.J 1,.J 2]),
   .ba (.or [(.call iW [.J 0,.J 4,.J 2]),(.bi .any [(.comp 1 (.call qp [.J 1,.J 0,.J 3]) (.J 0) (.of (.J 5)) [])])])
   [.expr (.c8 .append (.J 3) [.J 4])]
   []],
  .aN (.J 6) (.bJ []),
  .for (.J 4) (.of (.J 3))
  [.aN (.J 7) (.call t8 [(.gk 0),(.bi .len [.J 3])]),
   .ba (.call iW [.J 0,.J 4,.J 2])
   [.expr (.c8 .append (.J 6) [(.aF [.J 4,.J 7,(.bJ [.J 1,.J 4])])])]
   [.for (.aF [.J 8,.J 9,.J 10]) (.of (.call vW [.J 0,.J 4,(.call vX [.J 0,.J 4,.J 1,.J 2]),.J 2]))
    [.expr (.c8 .append (.J 6) [(.aF [.J 8,(.call qq [.J 7,.J 9]),(.bin .add (.bJ [.J 1]) (.J 10))])])]]],
  .ret (.J 6)]
noncomputable def I2:List Str:=["roll","person","day","one","other","begun"]
noncomputable def CV:List S:=
 [.for (.aF [.J 3,.J 4,.J 5]) (.of (.aE (.J 0) (.k (.int 1))))
  [.ba (.and [(.cmp .le (.J 5) (.J 2)),(.cmp .eq (.J 3) (.J 1)),(.call iW [(.aE (.J 0) (.k (.int 0))),.J 4,.J 2])])
   [.ret (.J 4)]
   [],
   .ba (.and [(.cmp .le (.J 5) (.J 2)),(.cmp .eq (.J 4) (.J 1)),(.call iW [(.aE (.J 0) (.k (.int 0))),.J 3,.J 2])])
   [.ret (.J 3)]
   []],
  .ret (.k .none)]
noncomputable def I3:List Str:=["roll","person","day","latest","found","one","told","gifts"]
noncomputable def CW:List S:=
 [.aN (.J 3) (.neg (.k (.int 1))),
  .aN (.J 4) (.aF []),
  .for (.aF [.J 5,.J 6,.J 7]) (.of (.aE (.J 0) (.k (.int 2))))
  [.ba (.and [(.cmp .eq (.J 5) (.J 1)),(.kh .le .le (.J 3) (.J 6) (.J 2))])
   [.aN (.J 3) (.J 6),
    .aN (.J 4) (.J 7)]
   []],
  .ret (.J 4)]
noncomputable def I4:List Str:=["people","person","gifts","day","rows","total","named","piece","heir","share","line"]
noncomputable def CX:List S:=
 [.aN (.J 4) (.bJ []),
  .aN (.J 5) (.gk 1),
  .for (.aF [.J 6,.J 7]) (.of (.J 2))
  [.ba (.call iW [.J 0,.J 6,.J 3])
   [.expr (.c8 .append (.J 4) [(.aF [.J 6,.J 7,(.k (.str "will")),(.bJ [.J 1,.J 6])])]),
    .aN (.J 5) (.call r9 [.J 5,.J 7])]
   [.ba (.bi .any [(.comp 1 (.call qp [.J 1,.J 0,.J 4]) (.J 0) (.of (.call qo [.J 0,.J 6,.J 3])) [])])
    [.for (.aF [.J 8,.J 9,.J 10]) (.of (.call sd [.J 0,.J 6,.J 3]))
     [.expr (.c8 .append (.J 4) [(.aF [.J 8,(.call qq [.J 7,.J 9]),(.k (.str "will")),(.bin .add (.bJ [.J 1]) (.J 10))])])],
     .aN (.J 5) (.call r9 [.J 5,.J 7])]
    []]],
  .ret (.aF [.J 4,.J 5])]
noncomputable def I5:List Str:=["people","person","day","rows","near"]
noncomputable def CY:List S:=
 [.aN (.J 3) (.call sd [.J 0,.J 1,.J 2]),
  .ba (.cmp .ne (.J 3) (.bJ []))
  [.ret (.aF [(.k (.str "line")),.J 3])]
  [],
  .aN (.J 3) (.call yX [.J 0,.J 1,.J 2]),
  .ba (.cmp .ne (.J 3) (.bJ []))
  [.ret (.aF [(.k (.str "parents")),.J 3])]
  [],
  .aN (.J 4) (.call yW [.J 0,.J 1,.J 2]),
  .ret (.aF [(.k (.str "degree")),(.comp 2 (.aF [.J 0,(.call t8 [(.gk 0),(.bi .len [.J 6])]),.J 1]) (.aF [.J 0,.J 1]) (.of (.J 4)) [])])]
noncomputable def I6:List Str:=["how","kin"]
noncomputable def CZ:List S:=
 [.ba (.cmp .eq (.J 1) (.bJ []))
  [.ret (.gk 0)]
  [],
  .ba (.cmp .eq (.J 0) (.k (.str "line")))
  [.ret (.call jJ [(.k (.int 1)),(.k (.int 4))])]
  [],
  .ba (.cmp .eq (.J 0) (.k (.str "parents")))
  [.ret (.call jJ [(.k (.int 1)),(.k (.int 2))])]
  [],
  .ret (.call jJ [(.k (.int 3)),(.k (.int 4))])]
noncomputable def I7:List Str:=["roll","person","people","day","rows","total","rest","how","kin","spouse","piece","heir","share","line"]
noncomputable def ze:List S:=
 [.aN (.J 2) (.aE (.J 0) (.k (.int 0))),
  .aN (.J 3) (.aE (.aE (.J 2) (.J 1)) (.k (.int 3))),
  .ba (.isNone true (.J 3))
  [.raise 7 "a person who is not dead"]
  [],
  .aN (.aF [.J 4,.J 5]) (.call y0 [.J 2,.J 1,(.call yZ [.J 0,.J 1,.J 3]),.J 3]),
  .aN (.J 6) (.call vV [(.gk 0),.J 5]),
  .ba (.cmp .eq (.J 6) (.gk 1))
  [.ret (.J 4)]
  [],
  .aN (.aF [.J 7,.J 8]) (.call y1 [.J 2,.J 1,.J 3]),
  .aN (.J 9) (.call yY [.J 0,.J 1,.J 3]),
  .ba (.and [(.isNone true (.J 9)),(.cmp .eq (.J 8) (.bJ []))])
  [.ret (.bin .add (.J 4) (.bJ [(.aF [(.k .none),.J 6,(.k (.str "town")),(.bJ [.J 1])])]))]
  [],
  .ba (.isNone false (.J 9))
  [.aN (.J 10) (.call qq [.J 6,(.call y3 [.J 7,.J 8])]),
   .expr (.c8 .append (.J 4) [(.aF [.J 9,.J 10,(.k (.str "spouse")),(.bJ [.J 1,.J 9])])]),
   .aN (.J 6) (.call vV [.J 6,.J 10])]
  [],
  .for (.aF [.J 11,.J 12,.J 13]) (.of (.J 8))
  [.expr (.c8 .append (.J 4) [(.aF [.J 11,(.call qq [.J 6,.J 12]),.J 7,.J 13])])],
  .ret (.J 4)]
noncomputable def I8:List Str:=["thing","low","high"]
noncomputable def C0:List S:=
 [.ret (.and [(.bi (.jH .int) [.J 0]),(.not (.bi (.jH .bool) [.J 0])),(.kh .le .le (.J 1) (.J 0) (.J 2))])]
noncomputable def I9:List Str:=["day"]
noncomputable def C1:List S:=
 [.ba (.not (.call oI [.J 0,(.k (.int 0)),(.gk 2)]))
  [.raise 1 "no day"]
  []]
noncomputable def Ja:List Str:=["persons"]
noncomputable def C2:List S:=
 [.ret (.cmp .ne (.bi .kW [.J 0]) (.bi .len [.J 0]))]
noncomputable def Jb:List Str:=["_law_script","_law_k"]
noncomputable def C3:List S:=
 [.ba (.cmp .lt (.J 1) (.bi .len [.J 0]))
  [.ret (.aE (.J 0) (.J 1))]
  [],
  .ret (.k (.int 0))]
noncomputable def Jc:List Str:=["_law_found"]
noncomputable def C4:List S:=
 [.ret (.and [(.bi (.jH .int) [.J 0]),(.not (.bi (.jH .bool) [.J 0]))])]
noncomputable def Jd:List Str:=["_law_cell","_law_many","_law_found","_law_number","_law_k"]
noncomputable def zf:List S:=
 [.aN (.J 2) (.bJ []),
  .aN (.J 3) (.bin .mod (.J 0) (.k (.int 2147483647))),
  .for (.J 4) (.range (.k (.int 0)) (.J 1))
  [.aN (.J 3) (.bin .mod (.bin .add (.bin .add (.bin .mul (.J 3) (.k (.int 48271))) (.k (.int 11))) (.J 4)) (.k (.int 2147483647))),
   .expr (.c8 .append (.J 2) [.J 3])],
  .ret (.J 2)]
noncomputable def Je:List Str:=["_law_elders","_law_y","_law_fewest","_law_one","_law_other"]
noncomputable def zg:List S:=
 [.ba (.or [(.cmp .eq (.J 0) (.bJ [])),(.and [(.cmp .eq (.J 2) (.k (.int 0))),(.cmp .eq (.bin .mod (.bin .fdiv (.J 1) (.k (.int 7))) (.k (.int 5))) (.k (.int 0)))])])
  [.ret (.aF [])]
  [],
  .aN (.J 3) (.aE (.J 0) (.bin .mod (.J 1) (.bi .len [.J 0]))),
  .aN (.J 4) (.aE (.J 0) (.bin .mod (.bin .fdiv (.J 1) (.k (.int 60))) (.bi .len [.J 0]))),
  .ba (.or [(.cmp .eq (.J 3) (.J 4)),(.cmp .eq (.bin .mod (.bin .fdiv (.J 1) (.k (.int 3))) (.k (.int 4))) (.k (.int 0)))])
  [.ret (.aF [.J 3])]
  [],
  .ret (.aF [.J 3,.J 4])]
noncomputable def Jf:List Str:=["_law_cell","_law_many","_law_people_here","_law_scale","_law_house","_law_k","_law_x","_law_born","_law_elders","_law_parents_here","_law_died"]
noncomputable def C5:List S:=
 [.aN (.J 2) (.bJ []),
  .aN (.J 3) (.aE (.bJ [(.k (.int 1)),(.k (.int 1)),(.k (.int 1)),(.k (.int 600))]) (.bin .mod (.J 0) (.k (.int 4)))),
  .aN (.J 4) (.bJ [(.aF []),(.aF []),(.aF [(.k (.int 1)),(.k (.int 0))]),(.aF [(.k (.int 1)),(.k (.int 0))]),(.aF [(.k (.int 2))]),(.aF [(.k (.int 3))]),(.aF []),(.aF [(.k (.int 5))]),(.aF [(.k (.int 3))]),(.aF [(.k (.int 1))]),(.aF []),(.aF [(.k (.int 2))])]),
  .for (.aF [.J 5,.J 6]) (.jI (.call lY [(.bin .fdiv (.J 0) (.k (.int 4))),.J 1]))
  [.aN (.J 7) (.bin .mul (.bin .add (.bin .mul (.k (.int 5)) (.bin .fdiv (.J 5) (.k (.int 3)))) (.bin .mod (.J 6) (.k (.int 11)))) (.J 3)),
   .aN (.J 8) (.comp 1 (.J 0) (.J 0) (.range (.k (.int 0)) (.J 5)) [(.cmp .lt (.aE (.aE (.J 3) (.J 0)) (.k (.int 0))) (.J 8))]),
   .aN (.J 9) (.call nG [(.ii (.J 8) (some (.neg (.k (.int 7)))) none),(.bin .fdiv (.J 6) (.k (.int 11))),(.k (.int 0))]),
   .ba (.and [(.cmp .gt (.J 5) (.k (.int 0))),(.cmp .eq (.bin .mod (.bin .fdiv (.J 6) (.k (.int 13))) (.k (.int 3))) (.k (.int 0))),(.cmp .eq (.comp 1 (.J 0) (.J 0) (.of (.aE (.aE (.J 2) (.bin .sub (.J 5) (.k (.int 1)))) (.k (.int 1)))) [(.cmp .iT (.J 0) (.J 9))]) (.bJ []))])
   [.aN (.J 9) (.aE (.aE (.J 2) (.bin .sub (.J 5) (.k (.int 1)))) (.k (.int 1)))]
   [],
   .ba (.and [(.cmp .eq (.bin .mod (.bin .fdiv (.J 0) (.k (.int 4))) (.k (.int 3))) (.k (.int 0))),(.cmp .lt (.J 5) (.k (.int 12)))])
   [.aN (.J 7) (.bin .mul (.bin .add (.bin .mul (.k (.int 12)) (.bin .fdiv (.J 5) (.k (.int 2)))) (.bin .mod (.J 6) (.k (.int 11)))) (.J 3)),
    .aN (.J 9) (.aE (.J 4) (.J 5))]
   [],
   .aN (.J 10) (.k .none),
   .ba (.cmp .gt (.bin .mod (.bin .fdiv (.J 6) (.k (.int 500))) (.aE (.bJ [(.k (.int 4)),(.k (.int 9))]) (.bin .mod (.bin .fdiv (.J 0) (.k (.int 12))) (.k (.int 2))))) (.k (.int 0)))
   [.aN (.J 10) (.bin .add (.J 7) (.bin .mul (.bin .mod (.bin .fdiv (.J 6) (.k (.int 1500))) (.k (.int 40))) (.J 3)))]
   [],
   .expr (.c8 .append (.J 2) [(.aF [.J 7,.J 9,(.k .none),.J 10])])],
  .ret (.J 2)]
noncomputable def Jg:List Str:=["_law_people_here","_law_cell","_law_found","_law_k","_law_x","_law_born","_law_parents_here","_law_adopted","_law_died","_law_elders","_law_day"]
noncomputable def C6:List S:=
 [.aN (.J 2) (.listOf (.J 0)),
  .for (.aF [.J 3,.J 4]) (.jI (.call lY [.J 1,(.bi .len [.J 0])]))
  [.aN (.aF [.J 5,.J 6,.J 7,.J 8]) (.aE (.J 0) (.J 3)),
   .aN (.J 9) (.comp 1 (.J 0) (.J 0) (.range (.k (.int 0)) (.bi .len [.J 0])) [(.cmp .lt (.aE (.aE (.J 1) (.J 0)) (.k (.int 0))) (.J 6))]),
   .aN (.J 10) (.bin .add (.J 5) (.bin .mod (.J 4) (.k (.int 30)))),
   .ba (.and [(.cmp .eq (.bin .mod (.bin .fdiv (.J 4) (.k (.int 30))) (.k (.int 4))) (.k (.int 0))),(.cmp .ne (.J 9) (.bJ [])),(.or [(.isNone true (.J 8)),(.cmp .lt (.J 10) (.J 8))])])
   [.iU (.J 2) (.J 3) (.aF [.J 5,.J 6,(.aF [.J 10,(.call nG [.J 9,(.bin .fdiv (.J 4) (.k (.int 120))),(.k (.int 1))])]),.J 8])]
   []],
  .ret (.J 2)]
noncomputable def Jh:List Str:=["_law_people_here","_law_person","_law_day"]
noncomputable def C7:List S:=
 [.ba (.cmp .lt (.J 2) (.aE (.aE (.J 0) (.J 1)) (.k (.int 0))))
  [.ret (.k (.bool false))]
  [],
  .ret (.or [(.isNone true (.aE (.aE (.J 0) (.J 1)) (.k (.int 3)))),(.cmp .gt (.aE (.aE (.J 0) (.J 1)) (.k (.int 3))) (.J 2))])]
noncomputable def Ji:List Str:=["_law_people_here","_law_marriage","_law_ends_here"]
noncomputable def zh:List S:=
 [.aN (.J 2) (.comp 1 (.aE (.aE (.J 1) (.J 0)) (.k (.int 3))) (.J 0) (.of (.ii (.J 1) none (some (.k (.int 2))))) [(.isNone false (.aE (.aE (.J 1) (.J 0)) (.k (.int 3))))]),
  .ret (.bi .mB [.J 2,(.bin .pow (.k (.int 10)) (.k (.int 9)))])]
noncomputable def Jj:List Str:=["_law_people_here","_law_one","_law_other"]
noncomputable def C8:List S:=
 [.ret (.and [(.cmp .gt (.call vY [.J 0,.J 1]) (.aE (.J 2) (.k (.int 2)))),(.cmp .gt (.call vY [.J 0,.J 2]) (.aE (.J 1) (.k (.int 2))))])]
noncomputable def Jk:List Str:=["_law_people_here","_law_cell","_law_many","_law_found","_law_x","_law_one","_law_other","_law_day","_law_new","_law_fits","_law_marriage"]
noncomputable def C9:List S:=
 [.aN (.J 3) (.bJ []),
  .for (.J 4) (.of (.call lY [.J 1,.J 2]))
  [.aN (.J 5) (.bin .mod (.J 4) (.bi .len [.J 0])),
   .aN (.J 6) (.bin .mod (.bin .fdiv (.J 4) (.k (.int 60))) (.bi .len [.J 0])),
   .aN (.J 7) (.bin .add (.bi .max2 [(.aE (.aE (.J 0) (.J 5)) (.k (.int 0))),(.aE (.aE (.J 0) (.J 6)) (.k (.int 0)))]) (.bin .mod (.bin .fdiv (.J 4) (.k (.int 3600))) (.k (.int 40)))),
   .aN (.J 8) (.aF [.J 5,.J 6,.J 7]),
   .aN (.J 9) (.and [(.cmp .ne (.J 5) (.J 6)),(.call oJ [.J 0,.J 5,.J 7]),(.call oJ [.J 0,.J 6,.J 7])]),
   .for (.J 10) (.of (.J 3))
   [.ba (.or [(.cmp .iS (.J 5) (.ii (.J 10) none (some (.k (.int 2))))),(.cmp .iS (.J 6) (.ii (.J 10) none (some (.k (.int 2)))))])
    [.aN (.J 9) (.and [.J 9,(.not (.call se [.J 0,.J 8,.J 10]))])]
    []],
   .ba (.J 9)
   [.expr (.c8 .append (.J 3) [.J 8])]
   []],
  .ret (.J 3)]
noncomputable def Jl:List Str:=["_law_people_here","_law_person","_law_x","_law_named","_law_k","_law_one","_law_over","_law_more"]
noncomputable def Dc:List S:=
 [.aN (.J 3) (.bJ []),
  .for (.J 4) (.range (.k (.int 0)) (.bin .add (.k (.int 1)) (.bin .mod (.J 2) (.aE (.bJ [(.k (.int 3)),(.k (.int 3)),(.k (.int 10))]) (.bin .mod (.bin .fdiv (.J 2) (.k (.int 30))) (.k (.int 3)))))))
  [.aN (.J 5) (.bin .mod (.bin .add (.bin .fdiv (.J 2) (.k (.int 90))) (.bin .mul (.J 4) (.bin .add (.k (.int 1)) (.bin .mod (.bin .fdiv (.J 2) (.k (.int 540))) (.k (.int 7)))))) (.bi .len [.J 0])),
   .ba (.and [(.cmp .ne (.J 5) (.J 1)),(.cmp .iT (.J 5) (.J 3))])
   [.expr (.c8 .append (.J 3) [.J 5])]
   []],
  .aN (.J 6) (.bin .add (.k (.int 1)) (.bin .mod (.bin .fdiv (.J 2) (.k (.int 3780))) (.k (.int 3)))),
  .aN (.J 7) (.aE (.bJ [(.bin .mod (.bin .fdiv (.J 2) (.k (.int 11340))) (.k (.int 4))),(.bin .mod (.bin .fdiv (.J 2) (.k (.int 11340))) (.k (.int 900)))]) (.bin .mod (.bin .fdiv (.J 2) (.k (.int 7))) (.k (.int 2)))),
  .ret (.comp 1 (.aF [.J 0,.J 7,(.bin .add (.bin .mul (.J 7) (.bi .len [.J 4])) (.J 8))]) (.J 0) (.of (.J 3)) [])]
noncomputable def Jm:List Str:=["_law_people_here","_law_cell","_law_many","_law_found","_law_x","_law_person","_law_day","_law_gifts_here"]
noncomputable def Dd:List S:=
 [.aN (.J 3) (.bJ []),
  .for (.J 4) (.of (.call lY [.J 1,.J 2]))
  [.aN (.J 5) (.bin .mod (.J 4) (.bi .len [.J 0])),
   .aN (.J 6) (.bin .add (.aE (.aE (.J 0) (.J 5)) (.k (.int 0))) (.bin .mod (.bin .fdiv (.J 4) (.k (.int 60))) (.k (.int 30)))),
   .aN (.J 7) (.call za [.J 0,.J 5,(.bin .fdiv (.J 4) (.k (.int 1800)))]),
   .ba (.and [(.cmp .ne (.J 7) (.bJ [])),(.or [(.isNone true (.aE (.aE (.J 0) (.J 5)) (.k (.int 3)))),(.cmp .le (.J 6) (.aE (.aE (.J 0) (.J 5)) (.k (.int 3))))])])
   [.expr (.c8 .append (.J 3) [(.aF [.J 5,.J 6,(.bi .tupleOf [(.comp 3 (.aF [.J 0,(.call qr [.J 1,.J 2])]) (.aF [.J 0,.J 1,.J 2]) (.of (.J 7)) [])])])])]
   []],
  .ret (.J 3)]
noncomputable def Jn:List Str:=["_law_over","_law_under","_law_a","_law_b","_law_c"]
noncomputable def De:List S:=
 [.aN (.J 2) (.J 0),
  .aN (.J 3) (.J 1),
  .while (.cmp .gt (.J 3) (.k (.int 0)))
  [.aN (.J 4) (.bin .mod (.J 2) (.J 3)),
   .aN (.J 2) (.J 3),
   .aN (.J 3) (.J 4)],
  .ret (.aF [(.bin .fdiv (.J 0) (.J 2)),(.bin .fdiv (.J 1) (.J 2))])]
noncomputable def Jo:List Str:=["_law_script","_law_most","_law_many","_law_people_here","_law_weddings_here"]
noncomputable def Df:List S:=
 [.aN (.J 2) (.bin .add (.k (.int 1)) (.bin .mod (.call iX [.J 0,(.k (.int 0))]) (.J 1))),
  .aN (.J 3) (.call y8 [(.call y7 [(.call iX [.J 0,(.k (.int 1))]),.J 2]),(.call iX [.J 0,(.k (.int 2))])]),
  .aN (.J 4) (.call y9 [.J 3,(.call iX [.J 0,(.k (.int 3))]),(.bin .mod (.bin .fdiv (.call iX [.J 0,(.k (.int 0))]) (.k (.int 12))) (.k (.int 13)))]),
  .ret (.aF [.J 3,.J 4,(.call zb [.J 3,(.call iX [.J 0,(.k (.int 4))]),(.bin .mod (.bin .fdiv (.call iX [.J 0,(.k (.int 0))]) (.k (.int 156))) (.k (.int 9)))])])]
noncomputable def Jp:List Str:=["_law_e","_law_told"]
noncomputable def zi:List S:=
 [.aN (.J 1) (.bJ [(.kj (some 0) (.J 0)),(.kj (some 1) (.J 0)),(.kj (some 2) (.J 0)),(.kj (some 3) (.J 0))]),
  .aN (.J 1) (.bin .add (.J 1) (.bJ [(.kj (some 4) (.J 0)),(.kj (some 5) (.J 0)),(.kj (some 6) (.J 0)),(.kj (some 7) (.J 0))])),
  .ba (.or [(.cmp .ne (.c8 .count (.J 1) [(.k (.bool true))]) (.k (.int 1))),(.not (.kj none (.J 0)))])
  [.ret (.k (.str "unlike"))]
  [],
  .ret (.aE (.bJ [(.k (.str "person")),(.k (.str "day")),(.k (.str "parents")),(.k (.str "match")),(.k (.str "will")),(.k (.str "again")),(.k (.str "full")),(.k (.str "dead"))]) (.c8 .index (.J 1) [(.k (.bool true))]))]
noncomputable def Jq:List Str:=["_law_book","_law_deed"]
noncomputable def Dg:List S:=
 [.ba (.cmp .eq (.aE (.J 1) (.k (.int 0))) (.k (.str "born")))
  [.ret (.dG v8 (.J 0) [(.aE (.J 1) (.k (.int 1))),(.aE (.J 1) (.k (.int 2)))])]
  [],
  .ba (.cmp .eq (.aE (.J 1) (.k (.int 0))) (.k (.str "adopted")))
  [.ret (.dG v9 (.J 0) [(.aE (.J 1) (.k (.int 1))),(.aE (.J 1) (.k (.int 2))),(.aE (.J 1) (.k (.int 3)))])]
  [],
  .ba (.cmp .eq (.aE (.J 1) (.k (.int 0))) (.k (.str "married")))
  [.ret (.dG wa (.J 0) [(.aE (.J 1) (.k (.int 1))),(.aE (.J 1) (.k (.int 2))),(.aE (.J 1) (.k (.int 3)))])]
  [],
  .ba (.cmp .eq (.aE (.J 1) (.k (.int 0))) (.k (.str "died")))
  [.ret (.dG wb (.J 0) [(.aE (.J 1) (.k (.int 1))),(.aE (.J 1) (.k (.int 2)))])]
  [],
  .ret (.dG we (.J 0) [(.aE (.J 1) (.k (.int 1))),(.aE (.J 1) (.k (.int 2))),(.aE (.J 1) (.k (.int 3)))])]
noncomputable def Jr:List Str:=["_law_book","_law_deed","_law_found","_law_e"]
noncomputable def Dh:List S:=
 [.iV (some (.J 2)) (.call oK [.J 0,.J 1]) 8 3 (.aF [(.call t9 [.J 3]),(.k .none)]),
  .ret (.aF [(.k (.str "")),.J 2])]
noncomputable def Js:List Str:=["_law_people_here","_law_one"]
noncomputable def Di:List S:=
 [.ret (.and [(.call lX [.J 1]),(.kh .le .lt (.k (.int 0)) (.J 1) (.bi .len [.J 0]))])]
noncomputable def Jt:List Str:=["_law_people_here","_law_parents_here","_law_day"]
noncomputable def zj:List S:=
 [.ba (.or [(.cmp .gt (.bi .len [.J 1]) (.k (.int 2))),(.and [(.cmp .eq (.bi .len [.J 1]) (.k (.int 2))),(.cmp .eq (.aE (.J 1) (.k (.int 0))) (.aE (.J 1) (.k (.int 1))))])])
  [.ret (.k (.bool true))]
  [],
  .ret (.cmp .ne (.comp 1 (.J 0) (.J 0) (.of (.J 1)) [(.cmp .ge (.aE (.aE (.J 1) (.J 0)) (.k (.int 0))) (.J 3))]) (.bJ []))]
noncomputable def Ju:List Str:=["_law_deed"]
noncomputable def Dj:List S:=
 [.ba (.cmp .eq (.aE (.J 0) (.k (.int 0))) (.k (.str "born")))
  [.ret (.listOf (.aE (.J 0) (.k (.int 2))))]
  [],
  .ba (.cmp .eq (.aE (.J 0) (.k (.int 0))) (.k (.str "adopted")))
  [.ret (.bin .add (.bJ [(.aE (.J 0) (.k (.int 1)))]) (.aE (.J 0) (.k (.int 3))))]
  [],
  .ba (.cmp .eq (.aE (.J 0) (.k (.int 0))) (.k (.str "married")))
  [.ret (.bJ [(.aE (.J 0) (.k (.int 1))),(.aE (.J 0) (.k (.int 2)))])]
  [],
  .ba (.cmp .eq (.aE (.J 0) (.k (.int 0))) (.k (.str "died")))
  [.ret (.bJ [(.aE (.J 0) (.k (.int 1)))])]
  [],
  .ret (.bin .add (.bJ [(.aE (.J 0) (.k (.int 1)))]) (.comp 1 (.aE (.J 0) (.k (.int 0))) (.J 0) (.of (.aE (.J 0) (.k (.int 3)))) []))]
noncomputable def Jv:List Str:=["_law_deed"]
noncomputable def Dk:List S:=
 [.ba (.cmp .eq (.aE (.J 0) (.k (.int 0))) (.k (.str "born")))
  [.ret (.aE (.J 0) (.k (.int 1)))]
  [],
  .ba (.cmp .eq (.aE (.J 0) (.k (.int 0))) (.k (.str "married")))
  [.ret (.aE (.J 0) (.k (.int 3)))]
  [],
  .ret (.aE (.J 0) (.k (.int 2)))]
noncomputable def Jw:List Str:=["_law_roll_here","_law_person","_law_day","_law_late_here","_law_met","_law_adopted"]
noncomputable def Dl:List S:=
 [.aN (.J 3) (.comp 1 (.J 0) (.J 0) (.of (.aE (.J 0) (.k (.int 2)))) [(.and [(.cmp .eq (.aE (.J 0) (.k (.int 0))) (.J 2)),(.cmp .gt (.aE (.J 0) (.k (.int 1))) (.J 3))])]),
  .aN (.J 4) (.comp 1 (.J 0) (.J 0) (.of (.aE (.J 0) (.k (.int 1)))) [(.and [(.cmp .iS (.J 2) (.ii (.J 0) none (some (.k (.int 2))))),(.cmp .ge (.aE (.J 0) (.k (.int 2))) (.J 3))])]),
  .aN (.J 5) (.aE (.aE (.aE (.J 0) (.k (.int 0))) (.J 1)) (.k (.int 2))),
  .ret (.or [(.cmp .lt (.J 2) (.aE (.aE (.aE (.J 0) (.k (.int 0))) (.J 1)) (.k (.int 0)))),(.cmp .ne (.J 3) (.bJ [])),(.cmp .ne (.J 4) (.bJ [])),(.and [(.isNone false (.J 5)),(.cmp .ge (.aE (.J 5) (.k (.int 0))) (.J 2))])])]
noncomputable def Jx:List Str:=["_law_person","_law_gifts_here","_law_total","_law_named","_law_over","_law_under"]
noncomputable def Dm:List S:=
 [.aN (.J 2) (.aF [(.k (.int 0)),(.k (.int 1))]),
  .ba (.or [(.not (.kh .le .le (.k (.int 1)) (.bi .len [.J 1]) (.k (.int 10)))),(.cmp .ne (.bi .kW [(.bin .add (.comp 1 (.aE (.J 0) (.k (.int 0))) (.J 0) (.of (.J 1)) []) (.bJ [.J 0]))]) (.bin .add (.bi .len [.J 1]) (.k (.int 1))))])
  [.ret (.k (.bool true))]
  [],
  .for (.aF [.J 3,.J 4,.J 5]) (.of (.J 1))
  [.ba (.or [(.not (.call lX [.J 4])),(.not (.call lX [.J 5])),(.not (.kh .le .le (.k (.int 1)) (.J 4) (.k (.int 1000)))),(.not (.kh .le .le (.k (.int 1)) (.J 5) (.k (.int 1000))))])
   [.ret (.k (.bool true))]
   [],
   .aN (.J 2) (.call qr [(.bin .add (.bin .mul (.aE (.J 2) (.k (.int 0))) (.J 5)) (.bin .mul (.J 4) (.aE (.J 2) (.k (.int 1))))),(.bin .mul (.aE (.J 2) (.k (.int 1))) (.J 5))])],
  .ret (.cmp .gt (.aE (.J 2) (.k (.int 0))) (.aE (.J 2) (.k (.int 1))))]
noncomputable def Jy:List Str:=["_law_roll_here","_law_one","_law_other","_law_day","_law_marriage"]
noncomputable def Dn:List S:=
 [.ba (.or [(.cmp .eq (.J 1) (.J 2)),(.not (.call oJ [(.aE (.J 0) (.k (.int 0))),.J 1,.J 3])),(.not (.call oJ [(.aE (.J 0) (.k (.int 0))),.J 2,.J 3]))])
  [.ret (.k (.str "match"))]
  [],
  .for (.J 4) (.of (.aE (.J 0) (.k (.int 1))))
  [.ba (.or [(.cmp .iS (.J 1) (.ii (.J 4) none (some (.k (.int 2))))),(.cmp .iS (.J 2) (.ii (.J 4) none (some (.k (.int 2)))))])
   [.ba (.call se [(.aE (.J 0) (.k (.int 0))),(.aF [.J 1,.J 2,.J 3]),.J 4])
    [.ret (.k (.str "again"))]
    []]
   []],
  .ret (.k (.str ""))]
noncomputable def Jz:List Str:=["_law_people_here","_law_child","_law_day","_law_parents_here"]
noncomputable def zk:List S:=
 [.ba (.or [(.cmp .lt (.J 2) (.aE (.aE (.J 0) (.J 1)) (.k (.int 0)))),(.and [(.isNone false (.aE (.aE (.J 0) (.J 1)) (.k (.int 3)))),(.cmp .ge (.J 2) (.aE (.aE (.J 0) (.J 1)) (.k (.int 3))))])])
  [.ret (.k (.str "day"))]
  [],
  .ba (.or [(.cmp .eq (.J 3) (.bJ [])),(.call sf [.J 0,.J 3,(.aE (.aE (.J 0) (.J 1)) (.k (.int 0)))])])
  [.ret (.k (.str "parents"))]
  [],
  .ret (.aE (.bJ [(.k (.str "")),(.k (.str "again"))]) (.bi .qm [(.isNone false (.aE (.aE (.J 0) (.J 1)) (.k (.int 2))))]))]
noncomputable def JA:List Str:=["_law_roll_here","_law_deed","_law_people_here","_law_day","_law_died"]
noncomputable def zl:List S:=
 [.aN (.J 2) (.aE (.J 0) (.k (.int 0))),
  .aN (.J 3) (.call sh [.J 1]),
  .ba (.cmp .ne (.comp 1 (.J 0) (.J 0) (.of (.call sg [.J 1])) [(.not (.call v0 [.J 3,.J 0]))]) (.bJ []))
  [.ret (.k (.str "person"))]
  [],
  .ba (.or [(.not (.call lX [.J 3])),(.not (.kh .le .le (.k (.int 0)) (.J 3) (.k (.int 100000))))])
  [.ret (.k (.str "day"))]
  [],
  .ba (.and [(.cmp .eq (.aE (.J 1) (.k (.int 0))) (.k (.str "born"))),(.call sf [.J 2,(.aE (.J 1) (.k (.int 2))),.J 3])])
  [.ret (.k (.str "parents"))]
  [],
  .ba (.cmp .eq (.aE (.J 1) (.k (.int 0))) (.k (.str "born")))
  [.ret (.aE (.bJ [(.k (.str "")),(.k (.str "full"))]) (.bi .qm [(.cmp .gt (.bi .len [.J 2]) (.k (.int 59)))]))]
  [],
  .ba (.cmp .eq (.aE (.J 1) (.k (.int 0))) (.k (.str "adopted")))
  [.ret (.call v5 [.J 2,(.aE (.J 1) (.k (.int 1))),.J 3,(.aE (.J 1) (.k (.int 3)))])]
  [],
  .ba (.cmp .eq (.aE (.J 1) (.k (.int 0))) (.k (.str "married")))
  [.ret (.call CF [.J 0,(.aE (.J 1) (.k (.int 1))),(.aE (.J 1) (.k (.int 2))),.J 3])]
  [],
  .aN (.J 4) (.aE (.aE (.J 2) (.aE (.J 1) (.k (.int 1)))) (.k (.int 3))),
  .ba (.and [(.cmp .eq (.aE (.J 1) (.k (.int 0))) (.k (.str "died"))),(.isNone false (.J 4))])
  [.ret (.k (.str "again"))]
  [],
  .ba (.cmp .eq (.aE (.J 1) (.k (.int 0))) (.k (.str "died")))
  [.ret (.aE (.bJ [(.k (.str "")),(.k (.str "day"))]) (.bi .qm [(.call CD [.J 0,(.aE (.J 1) (.k (.int 1))),.J 3])]))]
  [],
  .ba (.or [(.cmp .lt (.J 3) (.aE (.aE (.J 2) (.aE (.J 1) (.k (.int 1)))) (.k (.int 0)))),(.and [(.isNone false (.J 4)),(.cmp .gt (.J 3) (.J 4))])])
  [.ret (.k (.str "day"))]
  [],
  .ret (.aE (.bJ [(.k (.str "")),(.k (.str "will"))]) (.bi .qm [(.call CE [(.aE (.J 1) (.k (.int 1))),(.aE (.J 1) (.k (.int 3)))])]))]
noncomputable def JB:List Str:=["_law_roll_here","_law_deed","_law_people_here","_law_weddings_here","_law_wills_here","_law_gifts_here","_law_born","_law_parents_here","_law_adopted","_law_died"]
noncomputable def zm:List S:=
 [.aN (.J 2) (.listOf (.aE (.J 0) (.k (.int 0)))),
  .aN (.J 3) (.listOf (.aE (.J 0) (.k (.int 1)))),
  .aN (.J 4) (.listOf (.aE (.J 0) (.k (.int 2)))),
  .ba (.cmp .eq (.aE (.J 1) (.k (.int 0))) (.k (.str "born")))
  [.expr (.c8 .append (.J 2) [(.aF [(.aE (.J 1) (.k (.int 1))),(.bi .tupleOf [(.aE (.J 1) (.k (.int 2)))]),(.k .none),(.k .none)])])]
  [.ba (.cmp .eq (.aE (.J 1) (.k (.int 0))) (.k (.str "married")))
   [.expr (.c8 .append (.J 3) [(.aF [(.aE (.J 1) (.k (.int 1))),(.aE (.J 1) (.k (.int 2))),(.aE (.J 1) (.k (.int 3)))])])]
   [.ba (.cmp .eq (.aE (.J 1) (.k (.int 0))) (.k (.str "will")))
    [.aN (.J 5) (.comp 3 (.aF [.J 0,(.call qr [.J 1,.J 2])]) (.aF [.J 0,.J 1,.J 2]) (.of (.aE (.J 1) (.k (.int 3)))) []),
     .expr (.c8 .append (.J 4) [(.aF [(.aE (.J 1) (.k (.int 1))),(.aE (.J 1) (.k (.int 2))),(.bi .tupleOf [.J 5])])])]
    [.aN (.aF [.J 6,.J 7,.J 8,.J 9]) (.aE (.J 2) (.aE (.J 1) (.k (.int 1)))),
     .ba (.cmp .eq (.aE (.J 1) (.k (.int 0))) (.k (.str "died")))
     [.aN (.J 9) (.aE (.J 1) (.k (.int 2)))]
     [.aN (.J 8) (.aF [(.aE (.J 1) (.k (.int 2))),(.bi .tupleOf [(.aE (.J 1) (.k (.int 3)))])])],
     .iU (.J 2) (.aE (.J 1) (.k (.int 1))) (.aF [.J 6,.J 7,.J 8,.J 9])]]],
  .ret (.aF [.J 2,.J 3,.J 4])]
noncomputable def JC:List Str:=["_law_roll_here","_law_people_here","_law_deeds_here","_law_k","_law_one","_law_day","_law_gifts_here"]
noncomputable def qu:List S:=
 [.aN (.J 1) (.aE (.J 0) (.k (.int 0))),
  .aN (.J 2) (.comp 1 (.aF [(.k (.str "born")),(.aE (.J 0) (.k (.int 0))),(.listOf (.aE (.J 0) (.k (.int 1))))]) (.J 0) (.of (.J 1)) []),
  .aN (.J 2) (.bin .add (.J 2) (.comp 1 (.aF [(.k (.str "died")),.J 0,(.aE (.aE (.J 2) (.J 0)) (.k (.int 3)))]) (.J 0) (.range (.k (.int 0)) (.bi .len [.J 1])) [(.isNone false (.aE (.aE (.J 2) (.J 0)) (.k (.int 3))))])),
  .for (.J 3) (.range (.k (.int 0)) (.bi .len [.J 1]))
  [.ba (.isNone false (.aE (.aE (.J 1) (.J 3)) (.k (.int 2))))
   [.expr (.c8 .append (.J 2) [(.aF [(.k (.str "adopted")),.J 3,(.aE (.aE (.aE (.J 1) (.J 3)) (.k (.int 2))) (.k (.int 0))),(.listOf (.aE (.aE (.aE (.J 1) (.J 3)) (.k (.int 2))) (.k (.int 1))))])])]
   []],
  .aN (.J 2) (.bin .add (.J 2) (.comp 3 (.aF [(.k (.str "married")),.J 0,.J 1,.J 2]) (.aF [.J 0,.J 1,.J 2]) (.of (.aE (.J 0) (.k (.int 1)))) [])),
  .for (.aF [.J 4,.J 5,.J 6]) (.of (.aE (.J 0) (.k (.int 2))))
  [.expr (.c8 .append (.J 2) [(.aF [(.k (.str "will")),.J 4,.J 5,(.comp 2 (.aF [.J 0,(.aE (.J 1) (.k (.int 0))),(.aE (.J 1) (.k (.int 1)))]) (.aF [.J 0,.J 1]) (.of (.J 6)) [])])])],
  .ret (.J 2)]
noncomputable def JD:List Str:=["_law_x","_law_good","_law_odd_here"]
noncomputable def Do:List S:=
 [.ba (.cmp .gt (.bin .mod (.J 0) (.k (.int 4))) (.k (.int 0)))
  [.ret (.J 1)]
  [],
  .ret (.aE (.J 2) (.bin .mod (.bin .fdiv (.J 0) (.k (.int 4))) (.bi .len [.J 2])))]
noncomputable def JE:List Str:=["_law_people_here","_law_cell","_law_xs","_law_child","_law_taken","_law_days","_law_day","_law_parents_here","_law_elders","_law_strange"]
noncomputable def zo:List S:=
 [.aN (.J 2) (.call lY [.J 1,(.k (.int 8))]),
  .aN (.J 3) (.bin .mod (.aE (.J 2) (.k (.int 0))) (.bi .len [.J 0])),
  .aN (.J 4) (.comp 1 (.J 0) (.J 0) (.range (.k (.int 0)) (.bi .len [.J 0])) [(.isNone false (.aE (.aE (.J 1) (.J 0)) (.k (.int 2))))]),
  .ba (.and [(.cmp .eq (.bin .mod (.bin .fdiv (.aE (.J 2) (.k (.int 0))) (.k (.int 3600))) (.k (.int 2))) (.k (.int 0))),(.cmp .ne (.J 4) (.bJ []))])
  [.aN (.J 3) (.aE (.J 4) (.bin .mod (.bin .fdiv (.aE (.J 2) (.k (.int 0))) (.k (.int 60))) (.bi .len [.J 4])))]
  [],
  .aN (.J 5) (.bin .add (.bin .add (.bJ [(.aE (.aE (.J 0) (.J 3)) (.k (.int 0)))]) (.comp 1 (.aE (.J 0) (.k (.int 0))) (.J 0) (.of (.J 0)) [])) (.comp 1 (.aE (.J 0) (.k (.int 3))) (.J 0) (.of (.J 0)) [(.isNone false (.aE (.J 0) (.k (.int 3))))])),
  .ba (.and [(.isNone false (.aE (.aE (.J 0) (.J 3)) (.k (.int 3)))),(.cmp .eq (.bin .mod (.bin .fdiv (.aE (.J 2) (.k (.int 2))) (.k (.int 12))) (.k (.int 3))) (.k (.int 0)))])
  [.aN (.J 5) (.bJ [(.aE (.aE (.J 0) (.J 3)) (.k (.int 3)))])]
  [],
  .aN (.J 6) (.bin .sub (.bin .add (.aE (.J 5) (.bin .mod (.aE (.J 2) (.k (.int 1))) (.bi .len [.J 5]))) (.bin .mod (.aE (.J 2) (.k (.int 2))) (.k (.int 4)))) (.k (.int 1))),
  .ba (.cmp .eq (.bin .mod (.aE (.J 2) (.k (.int 2))) (.k (.int 3))) (.k (.int 0)))
  [.aN (.J 6) (.bin .mod (.aE (.J 2) (.k (.int 3))) (.k (.int 100001)))]
  [],
  .aN (.J 7) (.comp 1 (.bin .mod (.J 0) (.bi .len [.J 1])) (.J 0) (.of (.ii (.J 2) (some (.k (.int 4))) (some (.bin .add (.k (.int 4)) (.bin .mod (.aE (.J 2) (.k (.int 7))) (.k (.int 4))))))) []),
  .ba (.cmp .gt (.bin .mod (.bin .fdiv (.aE (.J 2) (.k (.int 7))) (.k (.int 4))) (.k (.int 5))) (.k (.int 0)))
  [.aN (.J 8) (.comp 1 (.J 0) (.J 0) (.range (.k (.int 0)) (.bi .len [.J 0])) [(.cmp .lt (.aE (.aE (.J 1) (.J 0)) (.k (.int 0))) (.aE (.aE (.J 1) (.J 4)) (.k (.int 0))))]),
   .aN (.J 7) (.listOf (.call nG [.J 8,(.aE (.J 2) (.k (.int 4))),(.bin .mod (.bin .fdiv (.aE (.J 2) (.k (.int 0))) (.k (.int 60))) (.k (.int 2)))]))]
  [],
  .ba (.cmp .eq (.bin .mod (.bin .fdiv (.aE (.J 2) (.k (.int 6))) (.k (.int 7))) (.k (.int 5))) (.k (.int 0)))
  [.aN (.J 7) (.bin .mul (.ii (.J 7) none (some (.k (.int 1)))) (.k (.int 2)))]
  [],
  .aN (.J 9) (.bJ [(.neg (.k (.int 1))),(.bi .len [.J 0]),(.k (.bool true)),(.k (.bool false)),(.k .none),(.k (.str "0"))]),
  .ba (.cmp .eq (.bin .mod (.J 1) (.k (.int 2))) (.k (.int 1)))
  [.aN (.J 3) (.call kZ [(.aE (.J 2) (.k (.int 5))),.J 3,.J 9]),
   .aN (.J 7) (.comp 2 (.call kZ [(.bin .add (.bin .fdiv (.aE (.J 4) (.k (.int 5))) (.k (.int 36))) (.J 0)),.J 1,.J 11]) (.aF [.J 0,.J 1]) (.jI (.J 7)) []),
   .aN (.J 6) (.call kZ [(.aE (.J 2) (.k (.int 6))),.J 6,(.bJ [(.neg (.k (.int 1))),(.k (.int 100001)),(.k (.bool true)),(.k .none),(.k (.str "5")),(.bin .pow (.k (.int 10)) (.k (.int 20))),(.k (.int 100000)),(.k (.int 0))])])]
  [],
  .ba (.cmp .eq (.bin .mod (.bin .fdiv (.J 1) (.k (.int 2))) (.k (.int 2))) (.k (.int 0)))
  [.ret (.aF [(.k (.str "born")),.J 6,.J 7])]
  [],
  .ret (.aF [(.k (.str "adopted")),.J 3,.J 6,.J 7])]
noncomputable def JF:List Str:=["_law_script","_law_roll_here","_law_book","_law_deed","_law_k","_law_x","_law_handed","_law_due_here","_law_told","_law_found"]
noncomputable def zp:List S:=
 [.aN (.J 1) (.call vZ [.J 0,(.k (.int 8))]),
  .ba (.cmp .eq (.bin .mod (.bin .fdiv (.call iX [.J 0,(.k (.int 0))]) (.k (.int 7))) (.k (.int 8))) (.k (.int 3)))
  [.aN (.J 1) (.aF [(.comp 1 (.aF [.J 0,(.aF []),(.k .none),(.k .none)]) (.J 0) (.range (.k (.int 0)) (.k (.int 60))) []),(.bJ []),(.bJ [])])]
  [],
  .aN (.J 2) (.new ua),
  .for (.J 3) (.of (.call v6 [.J 1]))
  [.ba (.cmp .ne (.aE (.call oM [.J 2,.J 3]) (.k (.int 0))) (.k (.str "")))
   [.ret (.k (.bool false))]
   []],
  .for (.aF [.J 4,.J 5]) (.jI (.call lY [(.call iX [.J 0,(.k (.int 9))]),(.k (.int 8))]))
  [.aN (.J 3) (.call v7 [(.aE (.J 1) (.k (.int 0))),(.bin .add (.call iX [.J 0,(.bin .add (.k (.int 5)) (.bin .mod (.J 4) (.k (.int 4))))]) (.J 5))]),
   .aN (.J 6) (.comp 1 (.ba (.bi (.jH .list) [.J 0]) (.listOf (.J 0)) (.J 0)) (.J 0) (.of (.J 3)) []),
   .aN (.J 7) (.call si [.J 1,.J 3]),
   .aN (.aF [.J 8,.J 9]) (.call oM [.J 2,.J 3]),
   .ba (.or [(.cmp .ne (.J 8) (.J 7)),(.cmp .ne (.listOf (.J 3)) (.J 6))])
   [.ret (.k (.bool false))]
   [],
   .ba (.cmp .eq (.J 7) (.k (.str "")))
   [.ba (.and [(.cmp .eq (.aE (.J 3) (.k (.int 0))) (.k (.str "born"))),(.or [(.not (.call lX [.J 9])),(.cmp .ne (.J 9) (.bi .len [(.aE (.J 1) (.k (.int 0)))]))])])
    [.ret (.k (.bool false))]
    [],
    .ba (.and [(.cmp .ne (.aE (.J 3) (.k (.int 0))) (.k (.str "born"))),(.isNone false (.J 9))])
    [.ret (.k (.bool false))]
    [],
    .aN (.J 1) (.call mD [.J 1,.J 3])]
   [],
   .ba (.cmp .ne (.dG ub (.J 2) []) (.J 1))
   [.ret (.k (.bool false))]
   []],
  .ret (.k (.bool true))]
noncomputable def JG:List Str:=["self"]
noncomputable def zq:List S:=
 [.setAttr (.J 0) 0 (.bJ []),
  .setAttr (.J 0) 1 (.bJ []),
  .setAttr (.J 0) 2 (.bJ []),
  .setAttr (.J 0) 3 .nF,
  .setAttr (.J 0) 4 (.bJ [])]
noncomputable def JH:List Str:=["self","person"]
noncomputable def Dp:List S:=
 [.ba (.not (.call oI [.J 1,(.k (.int 0)),(.bin .sub (.bi .len [(.attr (.J 0) 0)]) (.k (.int 1)))]))
  [.raise 0 "no person"]
  []]
noncomputable def JI:List Str:=["self","person","row"]
noncomputable def Dq:List S:=
 [.iU (.attr (.J 0) 0) (.J 1) (.J 2)]
noncomputable def JJ:List Str:=["self","deals","person","rows"]
noncomputable def Dr:List S:=
 [.setAttr (.J 0) 4 (.bJ []),
  .aN (.J 1) .nF,
  .for (.J 2) (.of (.dG zc (.J 0) []))
  [.aN (.J 3) (.call y4 [(.aF [(.attr (.J 0) 0),(.attr (.J 0) 1),(.attr (.J 0) 2)]),.J 2]),
   .ba (.or [(.cmp .iT (.J 2) (.attr (.J 0) 3)),(.cmp .ne (.aE (.attr (.J 0) 3) (.J 2)) (.J 3))])
   [.expr (.c8 .append (.attr (.J 0) 4) [.J 2])]
   [],
   .iU (.J 1) (.J 2) (.J 3)],
  .setAttr (.J 0) 3 (.J 1)]
noncomputable def JK:List Str:=["self","day","parents","parent"]
noncomputable def wi:List S:=
 [.for (.J 3) (.of (.J 2))
  [.expr (.dG gP (.J 0) [.J 3])],
  .expr (.call km [.J 1]),
  .ba (.or [(.cmp .gt (.bi .len [.J 2]) (.k (.int 2))),(.call mC [.J 2])])
  [.raise 2 "more than two, or like ones"]
  [],
  .for (.J 3) (.of (.J 2))
  [.ba (.cmp .ge (.aE (.aE (.attr (.J 0) 0) (.J 3)) (.k (.int 0))) (.J 1))
   [.raise 2 "one was born on that day or later"]
   []],
  .ba (.cmp .ge (.bi .len [(.attr (.J 0) 0)]) (.gk 3))
  [.raise 6 "no more persons"]
  [],
  .expr (.c8 .append (.attr (.J 0) 0) [(.aF [.J 1,(.bi .tupleOf [.J 2]),(.k .none),(.k .none)])]),
  .expr (.dG qt (.J 0) []),
  .ret (.bin .sub (.bi .len [(.attr (.J 0) 0)]) (.k (.int 1)))]
noncomputable def JL:List Str:=["self","child","day","parents","parent","born","first","own","died"]
noncomputable def sk:List S:=
 [.expr (.dG gP (.J 0) [.J 1]),
  .for (.J 4) (.of (.J 3))
  [.expr (.dG gP (.J 0) [.J 4])],
  .expr (.call km [.J 2]),
  .aN (.aF [.J 5,.J 6,.J 7,.J 8]) (.aE (.attr (.J 0) 0) (.J 1)),
  .ba (.or [(.cmp .lt (.J 2) (.J 5)),(.and [(.isNone false (.J 8)),(.cmp .ge (.J 2) (.J 8))])])
  [.raise 1 "the child does not live then"]
  [],
  .ba (.or [(.not (.kh .le .le (.k (.int 1)) (.bi .len [.J 3]) (.k (.int 2)))),(.call mC [.J 3])])
  [.raise 2 "none, more than two, or like ones"]
  [],
  .for (.J 4) (.of (.J 3))
  [.ba (.cmp .ge (.aE (.aE (.attr (.J 0) 0) (.J 4)) (.k (.int 0))) (.J 5))
   [.raise 2 "one was born not earlier than the child"]
   []],
  .ba (.isNone false (.J 7))
  [.raise 5 "adopted already"]
  [],
  .expr (.dG sj (.J 0) [.J 1,(.aF [.J 5,.J 6,(.aF [.J 2,(.bi .tupleOf [.J 3])]),.J 8])]),
  .expr (.dG qt (.J 0) [])]
noncomputable def JM:List Str:=["self","one","other","ends"]
noncomputable def zr:List S:=
 [.aN (.J 3) (.comp 1 (.aE (.aE (.attr (.J 1) 0) (.J 0)) (.k (.int 3))) (.J 0) (.of (.aF [.J 1,.J 2])) [(.isNone false (.aE (.aE (.attr (.J 1) 0) (.J 0)) (.k (.int 3))))]),
  .ret (.bi .mB [.J 3,(.bin .add (.gk 2) (.k (.int 1)))])]
noncomputable def JN:List Str:=["self","one","other","day","first","second","begun"]
noncomputable def wj:List S:=
 [.expr (.dG gP (.J 0) [.J 1]),
  .expr (.dG gP (.J 0) [.J 2]),
  .expr (.call km [.J 3]),
  .ba (.or [(.cmp .eq (.J 1) (.J 2)),(.not (.call iW [(.attr (.J 0) 0),.J 1,.J 3])),(.not (.call iW [(.attr (.J 0) 0),.J 2,.J 3]))])
  [.raise 3 "one person, or one who does not live then"]
  [],
  .for (.aF [.J 4,.J 5,.J 6]) (.of (.attr (.J 0) 1))
  [.ba (.or [(.cmp .iS (.J 4) (.aF [.J 1,.J 2])),(.cmp .iS (.J 5) (.aF [.J 1,.J 2]))])
   [.ba (.and [(.cmp .gt (.dG oO (.J 0) [.J 4,.J 5]) (.J 3)),(.cmp .gt (.dG oO (.J 0) [.J 1,.J 2]) (.J 6))])
    [.raise 5 "another marriage meets it"]
    []]
   []],
  .expr (.c8 .append (.attr (.J 0) 1) [(.aF [.J 1,.J 2,.J 3])]),
  .expr (.dG qt (.J 0) [])]
noncomputable def JO:List Str:=["self","person","day","born","parents","own","dead","one","told","gifts","other","begun"]
noncomputable def Ds:List S:=
 [.expr (.dG gP (.J 0) [.J 1]),
  .expr (.call km [.J 2]),
  .aN (.aF [.J 3,.J 4,.J 5,.J 6]) (.aE (.attr (.J 0) 0) (.J 1)),
  .ba (.isNone false (.J 6))
  [.raise 5 "dead already"]
  [],
  .ba (.or [(.cmp .lt (.J 2) (.J 3)),(.and [(.isNone false (.J 5)),(.cmp .le (.J 2) (.aE (.J 5) (.k (.int 0))))])])
  [.raise 1 "earlier than the birth, or not later than the adoption"]
  [],
  .for (.aF [.J 7,.J 8,.J 9]) (.of (.attr (.J 0) 2))
  [.ba (.and [(.cmp .eq (.J 7) (.J 1)),(.cmp .lt (.J 2) (.J 8))])
   [.raise 1 "earlier than a will"]
   []],
  .for (.aF [.J 7,.J 10,.J 11]) (.of (.attr (.J 0) 1))
  [.ba (.and [(.cmp .iS (.J 1) (.aF [.J 7,.J 10])),(.cmp .le (.J 2) (.J 11))])
   [.raise 1 "not later than a marriage"]
   []],
  .expr (.dG sj (.J 0) [.J 1,(.aF [.J 3,.J 4,.J 5,.J 2])]),
  .expr (.dG qt (.J 0) [])]
noncomputable def JP:List Str:=["self","person","gifts","named","found","total","one","over","under"]
noncomputable def Dt:List S:=
 [.ba (.not (.kh .le .le (.k (.int 1)) (.bi .len [.J 2]) (.gk 4)))
  [.raise 4 "no gifts, or too many"]
  [],
  .aN (.J 3) (.comp 1 (.aE (.J 0) (.k (.int 0))) (.J 0) (.of (.J 2)) []),
  .ba (.or [(.call mC [.J 3]),(.cmp .iS (.J 1) (.J 3))])
  [.raise 4 "one named twice, or the one whose will it is"]
  [],
  .aN (.J 4) (.bJ []),
  .aN (.J 5) (.gk 1),
  .for (.aF [.J 6,.J 7,.J 8]) (.of (.J 2))
  [.ba (.or [(.not (.call oI [.J 7,(.k (.int 1)),(.gk 5)])),(.not (.call oI [.J 8,(.k (.int 1)),(.gk 5)]))])
   [.raise 4 "no numbers of a part"]
   [],
   .expr (.c8 .append (.J 4) [(.aF [.J 6,(.call jJ [.J 7,.J 8])])]),
   .aN (.J 5) (.call r9 [.J 5,(.call jJ [.J 7,.J 8])])],
  .ba (.cmp .gt (.aE (.J 5) (.k (.int 0))) (.aE (.J 5) (.k (.int 1))))
  [.raise 4 "more than the whole"]
  [],
  .ret (.bi .tupleOf [.J 4])]
noncomputable def JQ:List Str:=["self","person","day","gifts","gift","born","parents","own","died"]
noncomputable def zt:List S:=
 [.expr (.dG gP (.J 0) [.J 1]),
  .for (.J 4) (.of (.J 3))
  [.expr (.dG gP (.J 0) [(.aE (.J 4) (.k (.int 0)))])],
  .expr (.call km [.J 2]),
  .aN (.aF [.J 5,.J 6,.J 7,.J 8]) (.aE (.attr (.J 0) 0) (.J 1)),
  .ba (.or [(.cmp .lt (.J 2) (.J 5)),(.and [(.isNone false (.J 8)),(.cmp .gt (.J 2) (.J 8))])])
  [.raise 1 "earlier than the birth, or later than the death"]
  [],
  .expr (.c8 .append (.attr (.J 0) 2) [(.aF [.J 1,.J 2,(.dG wc (.J 0) [.J 1,.J 3])])]),
  .expr (.dG qt (.J 0) [])]
noncomputable def JR:List Str:=["self"]
noncomputable def Du:List S:=
 [.ret (.aF [(.listOf (.attr (.J 0) 0)),(.listOf (.attr (.J 0) 1)),(.listOf (.attr (.J 0) 2))])]
noncomputable def JS:List Str:=["self"]
noncomputable def Dv:List S:=
 [.ret (.comp 1 (.J 0) (.J 0) (.range (.k (.int 0)) (.bi .len [(.attr (.J 0) 0)])) [(.isNone false (.aE (.aE (.attr (.J 1) 0) (.J 0)) (.k (.int 3))))])]
end P
open P
noncomputable def wl:List Fn:=[
 ⟨"_wall",999,0,[]⟩,
 ⟨"lives",3,4,CG⟩,
 ⟨"parents_on",3,4,CH⟩,
 ⟨"children_on",3,2,CI⟩,
 ⟨"has_line",3,1,CJ⟩,
 ⟨"steps_from",3,3,CL⟩,
 ⟨"further",4,4,CM⟩,
 ⟨"nearest",3,5,wg⟩,
 ⟨"part",2,3,zd⟩,
 ⟨"added",2,0,CN⟩,
 ⟨"less",2,0,CO⟩,
 ⟨"times",2,0,CP⟩,
 ⟨"shared",2,0,CQ⟩,
 ⟨"lines_to",4,7,CR⟩,
 ⟨"by_lines",3,0,CS⟩,
 ⟨"others_of",4,0,CT⟩,
 ⟨"by_parents",3,8,CU⟩,
 ⟨"spouse_on",3,3,CV⟩,
 ⟨"will_on",3,5,CW⟩,
 ⟨"given",4,7,CX⟩,
 ⟨"kin_of",3,2,CY⟩,
 ⟨"spouse_part",2,0,CZ⟩,
 ⟨"dealt",2,12,ze⟩,
 ⟨"is_whole",3,0,C0⟩,
 ⟨"need_day",1,0,C1⟩,
 ⟨"are_alike",1,0,C2⟩,
 ⟨"_law_cell_at",2,0,C3⟩,
 ⟨"_law_whole",1,0,C4⟩,
 ⟨"_law_stream",2,3,zf⟩,
 ⟨"_law_some",3,2,zg⟩,
 ⟨"_law_people",2,9,C5⟩,
 ⟨"_law_adopting",2,9,C6⟩,
 ⟨"_law_lives",3,0,C7⟩,
 ⟨"_law_parents",999,0,[]⟩,
 ⟨"_law_children",999,0,[]⟩,
 ⟨"_law_lined",999,0,[]⟩,
 ⟨"_law_ends",2,1,zh⟩,
 ⟨"_law_meets",3,0,C8⟩,
 ⟨"_law_weddings",3,8,C9⟩,
 ⟨"_law_gifts",3,5,Dc⟩,
 ⟨"_law_wills",3,5,Dd⟩,
 ⟨"_law_lowest",2,3,De⟩,
 ⟨"_law_is_part",999,0,[]⟩,
 ⟨"_law_roll",2,3,Df⟩,
 ⟨"_law_dead",999,0,[]⟩,
 ⟨"_law_class",1,1,zi⟩,
 ⟨"_law_called",2,0,Dg⟩,
 ⟨"_law_tell",2,2,Dh⟩,
 ⟨"_law_is_one",2,0,Di⟩,
 ⟨"_law_bad_parents",3,0,zj⟩,
 ⟨"_law_all_named",1,0,Dj⟩,
 ⟨"_law_day_of",1,0,Dk⟩,
 ⟨"_law_late",3,3,Dl⟩,
 ⟨"_law_bad_gifts",2,4,Dm⟩,
 ⟨"_law_wed_due",4,1,Dn⟩,
 ⟨"_law_child_due",4,0,zk⟩,
 ⟨"_law_due",2,3,zl⟩,
 ⟨"_law_done",2,8,zm⟩,
 ⟨"_law_deeds",1,6,qu⟩,
 ⟨"_law_odd",3,0,Do⟩,
 ⟨"_law_deed_by",2,8,zo⟩,
 ⟨"law",1,9,zp⟩,
 ⟨"__init__",1,0,zq⟩,
 ⟨"need_person",2,0,Dp⟩,
 ⟨"put",3,0,Dq⟩,
 ⟨"told",1,3,Dr⟩,
 ⟨"born",3,1,wi⟩,
 ⟨"adopted",4,5,sk⟩,
 ⟨"end_of",3,1,zr⟩,
 ⟨"married",4,3,wj⟩,
 ⟨"died",3,9,Ds⟩,
 ⟨"need_gifts",3,6,Dt⟩,
 ⟨"will",4,5,zt⟩,
 ⟨"anew",999,0,[]⟩,
 ⟨"roll",1,0,Du⟩,
 ⟨"dead",1,0,Dv⟩,
 ⟨"deal",999,0,[]⟩]
noncomputable def zu:List (List Str):=[[],IK,IL,IM,IP,IQ,IR,IS,IT,IU,IV,IW,IX,IY,IZ,I0,I1,I2,I3,I4,I5,I6,I7,I8,I9,Ja,Jb,Jc,Jd,Je,Jf,Jg,Jh,[],[],[],Ji,Jj,Jk,Jl,Jm,Jn,[],Jo,[],Jp,Jq,Jr,Js,Jt,Ju,Jv,Jw,Jx,Jy,Jz,JA,JB,JC,JD,JE,JF,JG,JH,JI,JJ,JK,JL,JM,JN,JO,JP,JQ,[],JR,JS,[]]
noncomputable def JT:List (Bool×Str):=[(false,Str.ofString "_wall"),(false,Str.ofString "lives"),(false,Str.ofString "parents_on"),(false,Str.ofString "children_on"),(false,Str.ofString "has_line"),(false,Str.ofString "steps_from"),(false,Str.ofString "further"),(false,Str.ofString "nearest"),(false,Str.ofString "part"),(false,Str.ofString "added"),(false,Str.ofString "less"),(false,Str.ofString "times"),(false,Str.ofString "shared"),(false,Str.ofString "lines_to"),(false,Str.ofString "by_lines"),(false,Str.ofString "others_of"),(false,Str.ofString "by_parents"),(false,Str.ofString "spouse_on"),(false,Str.ofString "will_on"),(false,Str.ofString "given"),(false,Str.ofString "kin_of"),(false,Str.ofString "spouse_part"),(false,Str.ofString "dealt"),(false,Str.ofString "is_whole"),(false,Str.ofString "need_day"),(false,Str.ofString "are_alike"),(false,Str.ofString "_law_cell_at"),(false,Str.ofString "_law_whole"),(false,Str.ofString "_law_stream"),(false,Str.ofString "_law_some"),(false,Str.ofString "_law_people"),(false,Str.ofString "_law_adopting"),(false,Str.ofString "_law_lives"),(false,Str.ofString "_law_parents"),(false,Str.ofString "_law_children"),(false,Str.ofString "_law_lined"),(false,Str.ofString "_law_ends"),(false,Str.ofString "_law_meets"),(false,Str.ofString "_law_weddings"),(false,Str.ofString "_law_gifts"),(false,Str.ofString "_law_wills"),(false,Str.ofString "_law_lowest"),(false,Str.ofString "_law_is_part"),(false,Str.ofString "_law_roll"),(false,Str.ofString "_law_dead"),(false,Str.ofString "_law_class"),(false,Str.ofString "_law_called"),(false,Str.ofString "_law_tell"),(false,Str.ofString "_law_is_one"),(false,Str.ofString "_law_bad_parents"),(false,Str.ofString "_law_all_named"),(false,Str.ofString "_law_day_of"),(false,Str.ofString "_law_late"),(false,Str.ofString "_law_bad_gifts"),(false,Str.ofString "_law_wed_due"),(false,Str.ofString "_law_child_due"),(false,Str.ofString "_law_due"),(false,Str.ofString "_law_done"),(false,Str.ofString "_law_deeds"),(false,Str.ofString "_law_odd"),(false,Str.ofString "_law_deed_by"),(false,Str.ofString "law"),(true,Str.ofString "__init__"),(true,Str.ofString "need_person"),(true,Str.ofString "put"),(true,Str.ofString "told"),(true,Str.ofString "born"),(true,Str.ofString "adopted"),(true,Str.ofString "end_of"),(true,Str.ofString "married"),(true,Str.ofString "died"),(true,Str.ofString "need_gifts"),(true,Str.ofString "will"),(true,Str.ofString "anew"),(true,Str.ofString "roll"),(true,Str.ofString "dead"),(true,Str.ofString "deal")]
noncomputable def gK:CK:=⟨JT,["WHOLE","NOTHING","MOST_DAY","MOST_PEOPLE","MOST_GIFTS","MOST_NUMBER"],["NoPerson","NoDay","NoParents","NoMatch","NoWill","Again","Full","NotDead","EstateError"],"Book",["people","marriages","wills","deals","fresh"]⟩
noncomputable def uc:List V:=[(.aF [(.int 1),(.int 1)]),(.aF [(.int 0),(.int 1)]),(.int 100000),(.int 60),(.int 10),(.int 1000)]
noncomputable def gE(j k:Nat):Bool:=j==k||k==8
noncomputable def so:List Nat:=[t9]
noncomputable def intOf:V->Option Int
 |.int i=>some i
 |_=>none
noncomputable def JU:Option NameKind->Bool
 |some .local=>true
 |some .cell=>true
 |some .free=>true
 |_=>false
noncomputable def sq:Option NameKind->Bool
 |some .local=>true
 |some .cell=>true
 |_=>false
noncomputable def k4(ns:List Str)(i:Nat)(x:Str):Bool:=decide (ns.idxOf x=i)&&decide (i<ns.length)
noncomputable def lZ(σ:Sn)(x:Str):Bool:=decide (σ.sc.names.lookup x=some .globalImplicit)&&!(x==("__debug__":Str))
noncomputable def zv:V->Option Const
 |.none=>some .none
 |.bool b=>some (.bool b)
 |.int i=>some (.int i)
 |.str s=>some (.str s)
 |_=>none
noncomputable def oP:lV->Operator
 |.add=>.Add
 |.sub=>.Sub
 |.mul=>.Mult
 |.fdiv=>.FloorDiv
 |.mod=>.Mod
 |.pow=>.Pow
noncomputable def qw:kU->CmpOp
 |.eq=>.Eq
 |.ne=>.NotEq
 |.lt=>.Lt
 |.le=>.LtE
 |.gt=>.Gt
 |.ge=>.GtE
 |.iS=>.In
 |.iT=>.NotIn
noncomputable def iY:Ty->String
 |.int=>"int"
 |.bool=>"bool"
 |.list=>"list"
noncomputable def ud:Bi->Option (Str×Nat)
 |.len=>some ("len",1)
 |.any=>some ("any",1)
 |.max2=>some ("max",2)
 |.tupleOf=>some ("tuple",1)
 |.vT=>some ("sorted",1)
 |.qm=>some ("int",1)
 |_=>none
noncomputable def sy:Me->Str×Nat
 |.append=>("append",1)
 |.count=>("count",1)
 |.index=>("index",1)
noncomputable def ue(x:Expr):Bool:=decide (x.ctorIdx=23)
noncomputable def uf(x:Expr):Bool:=decide (x.ctorIdx=25)
theorem got{c:Prop}[i:Decidable c]{t:c->Bool}(h:(if hc:c then t hc else false)=true):c:=
 match i,h with
 |.isTrue hc,_=>hc
theorem aU{a b:Bool}{G:Prop}(h:(a&&b)=true)(k:a=true->b=true->G):G:=k (and_eq_true_iff.mp h).1 (and_eq_true_iff.mp h).2
noncomputable def nH(x:Expr)(f:Const->Bool):Bool:=if h:x.ctorIdx=19 then Expr.Constant.elim (motive_1:=λZ=>Bool) x h (λc Z Z=>f c) else false
theorem nH.k{G:Expr->Prop}{x:Expr}{f:Const->Bool}(h:nH x f=true)(k:∀a0 a1 a2,f a0=true->G (.Constant a0 a1 a2)):G x:=
 Expr.Constant.elim (motive_1:=λx=>nH x f=true->G x) x (got h) k h
noncomputable def eR(x:Expr)(f:Str->Bool):Bool:=if h:x.ctorIdx=23 then Expr.Name.elim (motive_1:=λZ=>Bool) x h (λy Z=>f y) else false
theorem eR.k{G:Expr->Prop}{x:Expr}{f:Str->Bool}(h:eR x f=true)(k:∀a0 a1,f a0=true->G (.Name a0 a1)):G x:=
 Expr.Name.elim (motive_1:=λx=>eR x f=true->G x) x (got h) k h
noncomputable def ug(x:Expr)(f:Expr->Operator->Expr->Bool):Bool:=if h:x.ctorIdx=2 then Expr.BinOp.elim (motive_1:=λZ=>Bool) x h (λl o r Z=>f l o r) else false
theorem ug.k{G:Expr->Prop}{x:Expr}{f:Expr->Operator->Expr->Bool}(h:ug x f=true)(k:∀a0 a1 a2 a3,f a0 a1 a2=true->G (.BinOp a0 a1 a2 a3)):G x:=
 Expr.BinOp.elim (motive_1:=λx=>ug x f=true->G x) x (got h) k h
noncomputable def qx(x:Expr)(f:UnaryOp->Expr->Bool):Bool:=if h:x.ctorIdx=3 then Expr.UnaryOp.elim (motive_1:=λZ=>Bool) x h (λo y Z=>f o y) else false
theorem qx.k{G:Expr->Prop}{x:Expr}{f:UnaryOp->Expr->Bool}(h:qx x f=true)(k:∀a0 a1 a2,f a0 a1=true->G (.UnaryOp a0 a1 a2)):G x:=
 Expr.UnaryOp.elim (motive_1:=λx=>qx x f=true->G x) x (got h) k h
noncomputable def qy(x:Expr)(f:BoolOp->List Expr->Bool):Bool:=if h:x.ctorIdx=0 then Expr.BoolOp.elim (motive_1:=λZ=>Bool) x h (λo ys Z=>f o ys) else false
theorem qy.k{G:Expr->Prop}{x:Expr}{f:BoolOp->List Expr->Bool}(h:qy x f=true)(k:∀a0 a1 a2,f a0 a1=true->G (.BoolOp a0 a1 a2)):G x:=
 Expr.BoolOp.elim (motive_1:=λx=>qy x f=true->G x) x (got h) k h
noncomputable def nI(x:Expr)(f:Expr->List CmpOp->List Expr->Bool):Bool:=if h:x.ctorIdx=15 then Expr.Compare.elim (motive_1:=λZ=>Bool) x h (λl os rs Z=>f l os rs) else false
theorem nI.k{G:Expr->Prop}{x:Expr}{f:Expr->List CmpOp->List Expr->Bool}(h:nI x f=true)(k:∀a0 a1 a2 a3,f a0 a1 a2=true->G (.Compare a0 a1 a2 a3)):G x:=
 Expr.Compare.elim (motive_1:=λx=>nI x f=true->G x) x (got h) k h
noncomputable def l6(x:Expr)(f:List Expr->Bool):Bool:=if h:x.ctorIdx=25 then Expr.Tuple.elim (motive_1:=λZ=>Bool) x h (λys Z Z=>f ys) else false
theorem l6.k{G:Expr->Prop}{x:Expr}{f:List Expr->Bool}(h:l6 x f=true)(k:∀a0 a1 a2,f a0=true->G (.Tuple a0 a1 a2)):G x:=
 Expr.Tuple.elim (motive_1:=λx=>l6 x f=true->G x) x (got h) k h
noncomputable def uh(x:Expr)(f:List Expr->Bool):Bool:=if h:x.ctorIdx=24 then Expr.List.elim (motive_1:=λZ=>Bool) x h (λys Z=>f ys) else false
theorem uh.k{G:Expr->Prop}{x:Expr}{f:List Expr->Bool}(h:uh x f=true)(k:∀a0 a1,f a0=true->G (.List a0 a1)):G x:=
 Expr.List.elim (motive_1:=λx=>uh x f=true->G x) x (got h) k h
noncomputable def nJ(x:Expr)(f:Expr->Expr->Bool):Bool:=if h:x.ctorIdx=21 then Expr.Subscript.elim (motive_1:=λZ=>Bool) x h (λy z Z=>f y z) else false
theorem nJ.k{G:Expr->Prop}{x:Expr}{f:Expr->Expr->Bool}(h:nJ x f=true)(k:∀a0 a1 a2,f a0 a1=true->G (.Subscript a0 a1 a2)):G x:=
 Expr.Subscript.elim (motive_1:=λx=>nJ x f=true->G x) x (got h) k h
noncomputable def ui(x:Expr)(f:Option Expr->Option Expr->Option Expr->Bool):Bool:=if h:x.ctorIdx=26 then Expr.Slice.elim (motive_1:=λZ=>Bool) x h (λl u t Z=>f l u t) else false
theorem ui.k{G:Expr->Prop}{x:Expr}{f:Option Expr->Option Expr->Option Expr->Bool}(h:ui x f=true)(k:∀a0 a1 a2 a3,f a0 a1 a2=true->G (.Slice a0 a1 a2 a3)):G x:=
 Expr.Slice.elim (motive_1:=λx=>ui x f=true->G x) x (got h) k h
noncomputable def fC(x:Expr)(f:Expr->List Expr->List Keyword->Pos->Bool):Bool:=if h:x.ctorIdx=16 then Expr.Call.elim (motive_1:=λZ=>Bool) x h (λg ys ks p=>f g ys ks p) else false
theorem fC.k{G:Expr->Prop}{x:Expr}{f:Expr->List Expr->List Keyword->Pos->Bool}(h:fC x f=true)(k:∀a0 a1 a2 a3,f a0 a1 a2 a3=true->G (.Call a0 a1 a2 a3)):G x:=
 Expr.Call.elim (motive_1:=λx=>fC x f=true->G x) x (got h) k h
noncomputable def qz(x:Expr):Bool:=decide (x.ctorIdx≠16)
noncomputable def l7(x:Expr)(f:Expr->Str->Pos->Bool):Bool:=if h:x.ctorIdx=20 then Expr.Attribute.elim (motive_1:=λZ=>Bool) x h (λo y p=>f o y p) else false
theorem l7.k{G:Expr->Prop}{x:Expr}{f:Expr->Str->Pos->Bool}(h:l7 x f=true)(k:∀a0 a1 a2,f a0 a1 a2=true->G (.Attribute a0 a1 a2)):G x:=
 Expr.Attribute.elim (motive_1:=λx=>l7 x f=true->G x) x (got h) k h
noncomputable def sB(x:Expr)(f:Expr->List Comprehension->Scope->Bool):Bool:=if h:x.ctorIdx=8 then Expr.ListComp.elim (motive_1:=λZ=>Bool) x h (λe gs c Z=>f e gs c) else false
theorem sB.k{G:Expr->Prop}{x:Expr}{f:Expr->List Comprehension->Scope->Bool}(h:sB x f=true)(k:∀a0 a1 a2 a3,f a0 a1 a2=true->G (.ListComp a0 a1 a2 a3)):G x:=
 Expr.ListComp.elim (motive_1:=λx=>sB x f=true->G x) x (got h) k h
noncomputable def uj(x:Expr)(f:Expr->Expr->Expr->Bool):Bool:=if h:x.ctorIdx=5 then Expr.IfExp.elim (motive_1:=λZ=>Bool) x h (λc a b Z=>f c a b) else false
theorem uj.k{G:Expr->Prop}{x:Expr}{f:Expr->Expr->Expr->Bool}(h:uj x f=true)(k:∀a0 a1 a2 a3,f a0 a1 a2=true->G (.IfExp a0 a1 a2 a3)):G x:=
 Expr.IfExp.elim (motive_1:=λx=>uj x f=true->G x) x (got h) k h
noncomputable def uk(x:Stmt)(f:Option Expr->Option Expr->Bool):Bool:=if h:x.ctorIdx=16 then Stmt.Raise.elim (motive_2:=λZ=>Bool) x h (λe c Z=>f e c) else false
theorem uk.k{G:Stmt->Prop}{x:Stmt}{f:Option Expr->Option Expr->Bool}(h:uk x f=true)(k:∀a0 a1 a2,f a0 a1=true->G (.Raise a0 a1 a2)):G x:=
 Stmt.Raise.elim (motive_2:=λx=>uk x f=true->G x) x (got h) k h
noncomputable def ul(x:Stmt)(f:List Stmt->List ExceptHandler->List Stmt->List Stmt->Bool):Bool:=if h:x.ctorIdx=17 then Stmt.Try.elim (motive_2:=λZ=>Bool) x h (λa b c d Z=>f a b c d) else false
theorem ul.k{G:Stmt->Prop}{x:Stmt}{f:List Stmt->List ExceptHandler->List Stmt->List Stmt->Bool}(h:ul x f=true)(k:∀a0 a1 a2 a3 a4,f a0 a1 a2 a3=true->G (.Try a0 a1 a2 a3 a4)):G x:=
 Stmt.Try.elim (motive_2:=λx=>ul x f=true->G x) x (got h) k h
noncomputable def um(x:Stmt)(f:Expr->Bool):Bool:=if h:x.ctorIdx=24 then Stmt.Expr.elim (motive_2:=λZ=>Bool) x h (λe Z=>f e) else false
theorem um.k{G:Stmt->Prop}{x:Stmt}{f:Expr->Bool}(h:um x f=true)(k:∀a0 a1,f a0=true->G (.Expr a0 a1)):G x:=
 Stmt.Expr.elim (motive_2:=λx=>um x f=true->G x) x (got h) k h
noncomputable def l8(x:Stmt)(f:List Expr->Expr->Bool):Bool:=if h:x.ctorIdx=5 then Stmt.Assign.elim (motive_2:=λZ=>Bool) x h (λts e Z=>f ts e) else false
theorem l8.k{G:Stmt->Prop}{x:Stmt}{f:List Expr->Expr->Bool}(h:l8 x f=true)(k:∀a0 a1 a2,f a0 a1=true->G (.Assign a0 a1 a2)):G x:=
 Stmt.Assign.elim (motive_2:=λx=>l8 x f=true->G x) x (got h) k h
noncomputable def nK(x:Stmt)(f:Option Expr->Bool):Bool:=if h:x.ctorIdx=3 then Stmt.Return.elim (motive_2:=λZ=>Bool) x h (λe Z=>f e) else false
theorem nK.k{G:Stmt->Prop}{x:Stmt}{f:Option Expr->Bool}(h:nK x f=true)(k:∀a0 a1,f a0=true->G (.Return a0 a1)):G x:=
 Stmt.Return.elim (motive_2:=λx=>nK x f=true->G x) x (got h) k h
noncomputable def uo(x:Stmt)(f:Expr->List Stmt->List Stmt->Bool):Bool:=if h:x.ctorIdx=12 then Stmt.If.elim (motive_2:=λZ=>Bool) x h (λt a b Z=>f t a b) else false
theorem uo.k{G:Stmt->Prop}{x:Stmt}{f:Expr->List Stmt->List Stmt->Bool}(h:uo x f=true)(k:∀a0 a1 a2 a3,f a0 a1 a2=true->G (.If a0 a1 a2 a3)):G x:=
 Stmt.If.elim (motive_2:=λx=>uo x f=true->G x) x (got h) k h
noncomputable def uq(x:Stmt)(f:Expr->Expr->List Stmt->List Stmt->Bool):Bool:=if h:x.ctorIdx=9 then Stmt.For.elim (motive_2:=λZ=>Bool) x h (λt i a b Z=>f t i a b) else false
theorem uq.k{G:Stmt->Prop}{x:Stmt}{f:Expr->Expr->List Stmt->List Stmt->Bool}(h:uq x f=true)(k:∀a0 a1 a2 a3 a4,f a0 a1 a2 a3=true->G (.For a0 a1 a2 a3 a4)):G x:=
 Stmt.For.elim (motive_2:=λx=>uq x f=true->G x) x (got h) k h
noncomputable def ur(x:Stmt)(f:Expr->List Stmt->List Stmt->Bool):Bool:=if h:x.ctorIdx=11 then Stmt.While.elim (motive_2:=λZ=>Bool) x h (λt a b Z=>f t a b) else false
theorem ur.k{G:Stmt->Prop}{x:Stmt}{f:Expr->List Stmt->List Stmt->Bool}(h:ur x f=true)(k:∀a0 a1 a2 a3,f a0 a1 a2=true->G (.While a0 a1 a2 a3)):G x:=
 Stmt.While.elim (motive_2:=λx=>ur x f=true->G x) x (got h) k h
noncomputable def nL(x:Expr)(f:List (Option Expr)->List Expr->Bool):Bool:=if h:x.ctorIdx=6 then Expr.Dict.elim (motive_1:=λZ=>Bool) x h (λa b Z=>f a b) else false
theorem nL.k{G:Expr->Prop}{x:Expr}{f:List (Option Expr)->List Expr->Bool}(h:nL x f=true)(k:∀a0 a1 a2,f a0 a1=true->G (.Dict a0 a1 a2)):G x:=
 Expr.Dict.elim (motive_1:=λx=>nL x f=true->G x) x (got h) k h
noncomputable def if1{α:Type}(l:List α)(f:α->Bool):Bool:=match l with
 |[a]=>f a
 |_=>false
noncomputable def if2{α:Type}(l:List α)(f:α->α->Bool):Bool:=match l with
 |[a,b]=>f a b
 |_=>false
noncomputable def l9{α:Type}(l:List α)(f:α->List α->Bool):Bool:=match l with
 |a::r=>f a r
 |_=>false
noncomputable def fD{α:Type}(l:Option α)(f:α->Bool):Bool:=match l with
 |some a=>f a
 |_=>false
theorem if1.k{α:Type}{G:List α->Prop}{l:List α}{f:α->Bool}(h:if1 l f=true)(k:∀a,f a=true->G [a]):G l:=by
 rcases l with _|⟨a,_|⟨b,l⟩⟩
 ·exact Bool.noConfusion h
 ·exact k a h
 ·exact Bool.noConfusion h
theorem if2.k{α:Type}{G:List α->Prop}{l:List α}{f:α->α->Bool}(h:if2 l f=true)(k:∀a b,f a b=true->G [a,b]):G l:=by
 rcases l with _|⟨a,_|⟨b,_|⟨c,l⟩⟩⟩
 ·exact Bool.noConfusion h
 ·exact Bool.noConfusion h
 ·exact k a b h
 ·exact Bool.noConfusion h
theorem l9.k{α:Type}{G:List α->Prop}{l:List α}{f:α->List α->Bool}(h:l9 l f=true)(k:∀a r,f a r=true->G (a::r)):G l:=by
 cases l
 ·exact Bool.noConfusion h
 ·exact k _ _ h
theorem fD.k{α:Type}{G:Option α->Prop}{l:Option α}{f:α->Bool}(h:fD l f=true)(k:∀a,f a=true->G (some a)):G l:=by
 cases l
 ·exact Bool.noConfusion h
 ·exact k _ h
theorem dW{α:Type}{G:List α->Prop}{l:List α}(h:l.isEmpty=true)(k:G []):G l:=by cases l;exact k;cases h
theorem ut{α:Type}{G:Option α->Prop}{l:Option α}(h:l.isNone=true)(k:G none):G l:=by cases l;exact k;cases h
noncomputable def uu(a:E):Bool:=if h:a.ctorIdx=0 then E.k.elim (motive_1:=λZ=>Bool) a h (λv=>decide (intOf v=some 0)) else false
theorem bH{P:Prop}{α:Type}{x:Option α}{y:α}(h:x=none)(h':x=some y):P:=by rw[h] at h';cases h'
theorem intOf.k{v:V}{i:Int}(h:intOf v=some i)(P:V->Prop)(k:P (.int i)):P v:=
 V.casesOn (motive_1:=λv=>intOf v=some i->P v) v (λh=>bH rfl h) (λZ h=>bH rfl h) (λZ h=>Option.some.inj h▸k) (λZ h=>bH rfl h) (λZ h=>bH rfl h) (λZ h=>bH rfl h) (λh=>bH rfl h) h
theorem uu.k{a:E}{G:E->Prop}(h:uu a=true)(k:G (.k (.int 0))):G a:=
 E.k.elim (motive_1:=λa=>uu a=true->G a) a (got h) (λv h=>intOf.k (of_decide_eq_true h) (λv=>G (.k v)) k) h
noncomputable def uv(g:Comprehension)(f:Expr->Expr->List Expr->Bool):Bool:=decide (g.is_async=0)&&f g.target g.iter g.ifs
theorem uv.k{G:Comprehension->Prop}{g:Comprehension}{f:Expr->Expr->List Expr->Bool}(h:uv g f=true)(k:∀tg it ifs,f tg it ifs=true->G ⟨tg,it,ifs,0⟩):G g:=by
 obtain⟨tg,it,ifs,a⟩:=g
 refine aU h λh1 h2=>?_
 obtain rfl:a=0:=of_decide_eq_true h1
 exact k tg it ifs h2
noncomputable def uw(g:Keyword)(f:Str->Expr->Bool):Bool:=fD g.arg λy=>f y g.value
theorem uw.k{G:Keyword->Prop}{g:Keyword}{f:Str->Expr->Bool}(h:uw g f=true)(k:∀y v p,f y v=true->G ⟨some y,v,p⟩):G g:=by
 obtain⟨n,v,p⟩:=g
 exact fD.k (G:=λn=>G ⟨n,v,p⟩) h λy h=>k y v p h
mutual
noncomputable def iE(σ:Sn):cN->Expr->Bool
 |.J i,e=>eR e λx=>k4 σ.ns i x&&sq (σ.sc.names.lookup x)
 |.aF ts,e=>l6 e λes=>!σ.hd&&ux σ ts es
noncomputable def ux(σ:Sn):List cN->List Expr->Bool
 |[],es=>es.isEmpty
 |t::ts,es=>l9 es λe es=>iE σ t e&&ux σ ts es
end
noncomputable def JV(x:Expr):List Str:=if h:x.ctorIdx=23 then Expr.Name.elim (motive_1:=λZ=>List Str) x h (λy Z=>[y]) else[]
noncomputable def JW(x:Expr):List Expr:=if h:x.ctorIdx=25 then Expr.Tuple.elim (motive_1:=λZ=>List Expr) x h (λy Z Z=>y) else[]
mutual
noncomputable def gF:cN->Expr->List Str
 |.J _,e=>JV e
 |.aF ts,e=>sC ts (JW e)
noncomputable def sC:List cN->List Expr->List Str
 |t::ts,e::es=>gF t e++sC ts es
 |_,_=>[]
end
noncomputable def zw(a:Arguments)(ps:List Str):Bool:=
 a.posonlyargs.isEmpty&&(a.vararg.isNone&&(a.kwonlyargs.isEmpty&&(a.kw_defaults.isEmpty&&(a.kwarg.isNone&&(a.defaults.isEmpty&&decide (a.args.map (·.arg)=ps))))))
noncomputable def zx:Option NameKind->Bool
 |some .cell=>true
 |some .free=>true
 |_=>false
noncomputable def uy(σ:Sn)(loc:List Str)(sc:Scope):Bool:=
 decide (sc.kind=.function)&&(!sc.isGenerator&&(!sc.isCoroutine&&(decide ((sc.names.map (·.1)).Nodup) &&
 (sc.names.all (λp=>match p.2 with
  |.local=>p.1==(".0":Str)||loc.contains p.1
  |.cell=>false
  |.free=>σ.ns.contains p.1&&(!loc.contains p.1&&zx (σ.sc.names.lookup p.1))
  |.globalImplicit=>true
  |.globalExplicit=>false) &&
 (loc.all (λx=>decide (sc.names.lookup x=some .local))&&!σ.ns.contains (".0":Str))))))
noncomputable def sD(it:It)(tg:Expr):Bool:=match it with
 |.jI _=>uf tg
 |_=>uf tg||ue tg
noncomputable def Dx(σ:Sn)(i:Nat)(x:Str):Bool:=k4 σ.ns i x&&(JU (σ.sc.names.lookup x)&&(!(x==("__debug__":Str))&&!(x==("__classdict__":Str))))
noncomputable def dJ(σ:Sn)(nm:Str)(g:Expr):Bool:=eR g λx=>(x==nm)&&lZ σ nm
noncomputable def wm(x:ExceptHandler)(f:Option Expr->Option Str->List Stmt->Bool):Bool:=match x with
 |.ExceptHandler t n b _=>f t n b
theorem wm.k{G:ExceptHandler->Prop}{x:ExceptHandler}{f:Option Expr->Option Str->List Stmt->Bool}(h:wm x f=true)(k:∀a0 a1 a2 a3,f a0 a1 a2=true->G (.ExceptHandler a0 a1 a2 a3)):G x:=by
 cases x;exact k _ _ _ _ h
noncomputable def qA(σ:Sn)(k:Option Nat)(nm:Expr):Bool:=match k with
 |some k=>eR nm λy=>decide (gK.oH[k]?=some y)&&lZ σ y
 |none=>dJ σ "ValueError" nm
mutual
noncomputable def cg(σ:Sn):E->Expr->Bool
 |.k v,x=>nH x λc=>decide (zv v=some c)
 |.J i,x=>eR x (Dx σ i)
 |.gk j,x=>eR x λx=>decide (gK.vU[j]?=some x)&&lZ σ x
 |.bin op a b,x=>ug x λl o r=>decide (o=oP op)&&(cg σ a l&&cg σ b r)
 |.neg a,x=>qx x λo y=>decide (o=.USub)&&cg σ a y
 |.not a,x=>qx x λo y=>decide (o=.Not)&&cg σ a y
 |.and es,x=>qy x λo xs=>decide (o=.And)&&fV σ es xs
 |.or es,x=>qy x λo xs=>decide (o=.Or)&&fV σ es xs
 |.cmp op a b,x=>nI x λl os rs=>if1 os λo=>if1 rs λr=>decide (o=qw op)&&(cg σ a l&&cg σ b r)
 |.kh op nE a b c,x=>nI x λl os rs=>if2 os λo o'=>if2 rs λr r'=>decide (o=qw op)&&(decide (o'=qw nE)&&(cg σ a l&&(cg σ b r&&cg σ c r')))
 |.isNone w a,x=>nI x λl os rs=>if1 os λo=>decide (o=if w then .Is else .IsNot)&&if1 rs λr=>nH r λc=>decide (c=.none)&&cg σ a l
 |.aF es,x=>l6 x λxs=>decide (es.length<1000)&&fV σ es xs
 |.bJ es,x=>uh x λxs=>decide (es.length<1000)&&fV σ es xs
 |.aE a i,x=>nJ x λv s=>cg σ a v&&cg σ i s
 |.ii a lo hi,x=>nJ x λv s=>ui s λl u t=>t.isNone&&(cg σ a v&&(zy σ lo l&&zy σ hi u))
 |.call f es,x=>fC x λg xs kws Z=>kws.isEmpty&&eR g λx=>decide (gK.kX[f]?=some (false,x))&&(lZ σ x&&((!σ.hd||so.contains f)&&fV σ es xs))
 |.bi b es,x=>fC x λg xs kws Z=>!σ.hd&&match b with
   |.jH t=>kws.isEmpty&&(dJ σ "isinstance" g&&if2 xs λe nm=>dJ σ (Str.ofString (iY t)) nm&&fV σ es [e])
   |.mB=>dJ σ "min" g&&if1 kws λkw=>uw kw λy v=>(y==("default":Str))&&if1 xs λe=>fV σ es [e,v]
   |.kW=>kws.isEmpty&&(dJ σ "len" g&&if1 xs λe=>fC e λg xs kws Z=>kws.isEmpty&&(dJ σ "set" g&&if1 xs λe=>fV σ es [e]))
   |b=>kws.isEmpty&&fD (ud b) λq=>dJ σ q.1 g&&(decide (xs.length=q.2)&&fV σ es xs)
 |.c8 m a es,x=>fC x λg xs kws pos=>kws.isEmpty&&l7 g λo y apos=>(y==(sy m).1)&&(qz o&&((apos.endLine==pos.line)&&(decide (xs.length=(sy m).2)&&(cg σ a o&&fV σ es xs))))
 |.comp nl elt t it cs,x=>sB x λe gs cV=>if1 gs λg=>uv g λtg iter ifs=>
  !σ.hd&&(decide ((gF t tg).length=nl)&&(uy σ (gF t tg) cV&&(wo σ it iter&&(sD it tg&&(iE ⟨cV,gF t tg++σ.ns,false⟩ t tg&&(cg ⟨cV,gF t tg++σ.ns,false⟩ elt e&&fV ⟨cV,gF t tg++σ.ns,false⟩ cs ifs))))))
 |.listOf a,x=>fC x λg xs kws Z=>!σ.hd&&(kws.isEmpty&&(dJ σ "list" g&&if1 xs λe=>cg σ a e))
 |.nF,x=>nL x λks vs=>ks.isEmpty&&vs.isEmpty
 |.lW,x=>nL x λks vs=>ks.isEmpty&&vs.isEmpty
 |.t6 a b,x=>nL x λks vs=>if1 ks λk=>fD k λk=>if1 vs λv=>cg σ a k&&cg σ b v
 |.ba c a b,x=>uj x λt y z=>cg σ c t&&(cg σ a y&&cg σ b z)
 |.attr a i,x=>l7 x λo y Z=>decide (gK.bX[i]?=some y)&&(ue o&&cg σ a o)
 |.dG f a es,x=>fC x λg xs kws pos=>kws.isEmpty&&l7 g λo y apos=>decide (gK.kX[f]?=some (true,y))&&(!gK.bX.contains y&&(qz o&&((apos.endLine==pos.line)&&(decide (xs.length<20)&&(!σ.hd&&(cg σ a o&&fV σ es xs))))))
 |.new f,x=>fC x λg xs kws Z=>kws.isEmpty&&(xs.isEmpty&&(decide (gK.kX[f]?=some (true,Str.ofString "__init__"))&&(!σ.hd&&dJ σ gK.cls g)))
 |.kj k a,x=>fC x λg xs kws Z=>kws.isEmpty&&(dJ σ "isinstance" g&&if2 xs λe nm=>qA σ k nm&&cg σ a e)
noncomputable def fV(σ:Sn):List E->List Expr->Bool
 |[],xs=>xs.isEmpty
 |e::es,xs=>l9 xs λx xs=>cg σ e x&&fV σ es xs
noncomputable def zy(σ:Sn):Option E->Option Expr->Bool
 |none,x=>x.isNone
 |some e,x=>fD x λx=>cg σ e x
noncomputable def wo(σ:Sn):It->Expr->Bool
 |.range a b,x=>fC x λg xs kws Z=>kws.isEmpty&&(dJ σ "range" g&&(if1 xs (λe=>uu a&&cg σ b e)||if2 xs λe1 e2=>cg σ a e1&&cg σ b e2))
 |.jI a,x=>fC x λg xs kws Z=>kws.isEmpty&&(dJ σ "enumerate" g&&if1 xs λe=>cg σ a e)
 |.of e,x=>cg σ e x
end
noncomputable def sE(a b:Expr):Bool:=!(uf a&&uf b)
noncomputable def mF(x:Expr):Bool:=decide (x.ctorIdx≠8/\x.ctorIdx≠9/\x.ctorIdx≠10)
noncomputable def JX(e:E):Bool:=decide (e.ctorIdx=18)
noncomputable def Dy(σ:Sn)(r:Option cN)(e:E)(st:Stmt):Bool:=match r with
 |some t=>l8 st λts x=>if1 ts λtg=>iE σ t tg&&(cg σ e x&&(mF x&&sE tg x))
 |none=>nK st λx=>fD x λx=>cg σ e x
mutual
noncomputable def Dz(σ:Sn):S->Stmt->Bool
 |.expr e,st=>um st λx=>mF x&&cg σ e x
 |.aN t e,st=>l8 st λts x=>if1 ts λtg=>iE σ t tg&&(cg σ e x&&((ue tg&&JX e||mF x)&&sE tg x))
 |.iU a i e,st=>l8 st λts x=>if1 ts λtg=>nJ tg λo j=>mF x&&(cg σ a o&&(cg σ i j&&cg σ e x))
 |.setAttr a i e,st=>l8 st λts x=>if1 ts λtg=>l7 tg λo y Z=>decide (gK.bX[i]?=some y)&&(mF x&&(qz o&&(cg σ a o&&cg σ e x)))
 |.ret e,st=>nK st λx=>fD x λx=>cg σ e x
 |.ba c a b,st=>uo st λt x y=>cg σ c t&&(oQ σ a x&&oQ σ b y)
 |.for t it body,st=>uq st λtg iter b o=>!σ.hd&&(o.isEmpty&&(iE σ t tg&&(sD it tg&&(wo σ it iter&&oQ σ body b))))
 |.while c body,st=>ur st λt b o=>!σ.hd&&(o.isEmpty&&(cg σ c t&&oQ σ body b))
 |.raise k w,st=>uk st λe c=>c.isNone&&(!σ.hd&&fD e λe=>fC e λg xs kws Z=>kws.isEmpty&&eR g λx=>decide (gK.oH[k]?=some x)&&(lZ σ x&&if1 xs λa=>nH a λc=>decide (c=.str w)))
 |.iV r e k i h,st=>ul st λbd hs o f=>o.isEmpty&&(f.isEmpty&&(!σ.hd&&if1 bd λb=>Dy σ r e b&&if1 hs λhd=>wm hd λt n hb=>fD t λt=>qA σ (some k) t&&fD n λn=>(k4 σ.ns i n&&decide (σ.sc.names.lookup n=some .local))&&if1 hb λs=>nK s λx=>fD x λx=>cg ⟨σ.sc,σ.ns,true⟩ h x))
noncomputable def oQ(σ:Sn):List S->List Stmt->Bool
 |[],ss=>ss.isEmpty
 |s::r,ss=>l9 ss λx t=>Dz σ s x&&oQ σ r t
end
structure g5 where
 name:Str
 params:Arguments
 body:List Stmt
 scope:Scope
noncomputable def DA(hd:Bool)(d:g5)(ns:List Str)(f:Fn):Bool:=
 decide (f.name=d.name)&&(zw d.params (ns.take f.np)&&(decide (ns.length=f.np+f.nl)&&(decide ns.Nodup &&
 (decide (d.scope.kind=.function)&&(!d.scope.isGenerator&&(!d.scope.isCoroutine&&(decide ((d.scope.names.map (·.1)).Nodup) &&
 (d.scope.names.all (λp=>decide (p.2=.globalImplicit)||(sq (some p.2)&&ns.contains p.1)) &&
 (ns.all (λx=>sq (d.scope.names.lookup x)) &&
 oQ ⟨d.scope,ns,hd⟩ f.body d.body)))))))))
noncomputable def JY(x:Stmt):Option g5:=if h:x.ctorIdx=0 then Stmt.FunctionDef.elim (motive_2:=λZ=>Option g5) x h (λn a b Z Z Z sc Z Z Z=>some ⟨n,a,b,sc⟩) else none
noncomputable def defsOf(l:List Stmt):List g5:=l.filterMap JY
noncomputable def wq(ds:List g5)(nss:List (List Str))(fs:List Fn):Bool:=
 (List.range fs.length).all λi=>fD fs[i]? λf=>fD ds[i]? λd=>fD nss[i]? λn=>decide (f.np=999)||DA (so.contains i) d n f
end Mine
namespace Mine
open PySem PySem.Calls PyProof.Rows
noncomputable abbrev ku(xs:List Value)(n:Nat):Obj:={cls:=.type "tuple",data:=.seq xs.toArray n}
noncomputable abbrev gG(xs:List Value)(n:Nat):Obj:={cls:=.type "list",data:=.seq xs.toArray n}
structure jK where
 prog:Program
 w:World
 jm:Addr
 is:List Int
 mg:Str->Option Value
 mb:Str->Option Value
 bk:Addr
 bN:Addr
 mN:Str->Option Value
 exc:List Addr
 defs:List g5
 s:Shared
noncomputable abbrev jK.M(Y:jK):Model:=model Y.prog Y.w
noncomputable abbrev jK.dm(Y:jK):Heap:=Y.s.heap
noncomputable def mG:List (Str×Value):=[("len",.builtin "len"),("isinstance",.builtin "isinstance"),("int",.type "int"),("bool",.type "bool"),("tuple",.type "tuple"),("list",.type "list"),
 ("range",.type "range"),("enumerate",.type "enumerate"),("ValueError",.type "ValueError"),("sorted",.builtin "sorted"),("any",.builtin "any"),("min",.builtin "min"),("max",.builtin "max"),("set",.type "set")]
noncomputable def jL(q:Bool×Str):Str:=if q.1 then gK.cls++"."++q.2 else q.2
inductive uz(Y:jK)(f:Nat)(q:Bool×Str):Prop
 |mk (a:Addr) (o:Obj) (d:g5) (pm cd doc:Value) (e1:Y.defs[f]?=some d) (e3:(if q.1 then Y.mN q.2 else Y.mg q.2)=some (.ref a)) (e4:Y.dm.get? a=some o) (ec:q.1=true->o.cls=.type "function") (e5:o.data=.func (methDef d.name (jL q) d.params d.body d.scope pm cd doc)) (e6:Y.dm.CodeRec cd (jL q)):uz Y f q
noncomputable def wu:List (Str×Option Value):=[("__getattribute__",some (.builtin "BaseException.__getattribute__")),("__getattr__",none),("__class__",some (.builtin "object.__class__"))]
inductive ww(Y:jK)(k:Nat)(x:Str):Prop
 |mk (C:Addr) (bm:List Value) (newId initId B:String) (O:OwnCls x C bm newId Y.mg Y.dm) (F:ExcBaseFacts B newId initId bm) (e:Y.exc[k]?=some C) (v:bm.contains (.type "ValueError")=true/\bm.contains (.type "object")=true)
  (m:∀o cd,Y.dm.get? C=some o->o.data=.cls cd->∀j D,Y.exc[j]?=some D->cd.mro.contains (.ref D)=gE k j)
  (lk:∀q,q∈wu->∀(A:Around) (Ex:Value->Shared->Prop) (h:Heap) (g:Array GenState) (d:Drawn) (t:Nat) (os:OsState) (Q:Option Value->Shared->Prop),(∀b o,Y.dm.get? b=some o->h.get? b=some o)->Q q.2 ⟨h,g,d,t,os⟩->wpAny Y.M A (typeLookup (.ref C) q.1) Q Ex ⟨h,g,d,t,os⟩):ww Y k x
structure Good(Y:jK):Prop where
 g:Y.dm.Ns mainGlobals Y.mg
 b:Y.dm.Ns builtinsNs Y.mb
 bi:∀p,p∈mG->Y.mg p.1=none/\Y.mb p.1=some p.2
 fn:∀(f:Nat) (q:Bool×Str),gK.kX[f]?=some q->uz Y f q
 gk:∀(j:Nat) (x:Str),gK.vU[j]?=some x->(∃i t,uc[j]?=some (.int i)/\Y.mg x=some (.int i t))\/∃(a:Addr) (is:List Int) (vs:List Value) (n:Nat),uc[j]?=some (.aF (is.map .int))/\Y.mg x=some (.ref a)/\Y.dm.get? a=some (ku vs n)/\IntsAre vs is/\is.length<=1000
 ex:∀(k:Nat) (x:Str),gK.oH[k]?=some x->ww Y k x
 DC:Y.exc.length=gK.oH.length
 bk:Y.mg gK.cls=some (.ref Y.bk)
 bc:ClsAt Y.dm Y.bk Y.bN Y.mN
 bq:∀n,n∈(["__setattr__","__getattribute__","__getattr__"]:List Str)++gK.bX->Y.mN n=none
 nolimit:Y.dm.NoLimit
 seer:Y.dm.NoSeer
 tree:Y.prog.given.tree=none
 dU:∃xs:List Value,Y.dm.IsList Y.jm xs.toArray/\IntsAre xs Y.is
 short:Y.is.length<=63
 low:∃o,Y.dm.get? cStatics=some o
 bm:∃b o,Y.mg "__builtins__"=some (.ref b)/\b≠builtinsNs/\Y.dm.get? b=some o/\o.cls=.type "module"/\o.dict=some builtinsNs/\o.data=.plain
 DD:wq Y.defs zu wl=true
noncomputable abbrev NE:Value->Shared->Prop:=λZ Z=>False
noncomputable def Run(Y:jK):Prop:=∀(fa:Addr) (Q:Value->Shared->Prop),Y.mg "law"=some (.ref fa)->(∀h' tk,(∀b o,Y.s.heap.get? b=some o->h'.get? b=some o)->Q (.bool true) {Y.s with heap:=h',toks:=tk})->wpAny Y.M callerA (call (.ref fa) [.ref Y.jm]) Q NE Y.s
noncomputable def X:jK:=@Classical.epsilon jK ⟨⟨default,⟨λZ Z=>0,{strHash:=λZ=>0,shareClass:=λZ=>0,mergeTok:=id,idOf:=λZ=>0,idOfShared:=λZ Z=>0,followText:=λZ=>false,idOfImm:=λZ=>0}⟩,0,[],λZ=>none,λZ=>none,0,0,λZ=>none,[],[],{}⟩⟩ λY=>Good Y/\¬Run Y
theorem JZ(h:Good X->Run X)(Y:jK)(g:Good Y):Run Y:=byContradiction λn=>
 have e:Good X/\¬Run X:=Classical.epsilon_spec (p:=λY=>Good Y/\¬Run Y) ⟨Y,g,n⟩
 e.2 (h e.1)
end Mine
namespace Mine
open PySem
noncomputable def J0(c:Str)(x:Stmt):List Stmt:=if h:x.ctorIdx=2 then Stmt.ClassDef.elim (motive_2:=λZ=>List Stmt) x h (λn Z Z b Z Z Z Z Z Z Z=>if n=c then b else[]) else[]
noncomputable def zA(q:Program)(c:Str):List Stmt:=q.main.body.flatMap (J0 c)
theorem J1:wq (defsOf PySem.Challenge.pw_uf020001_10.main.body++defsOf (zA PySem.Challenge.pw_uf020001_10 gK.cls)) zu wl=true:=by decide +kernel
end Mine
namespace Mine.H
open PySem PySem.W PyProof.Rows
noncomputable abbrev pp:Program:=PySem.Challenge.pw_uf020001_10
noncomputable def ob(c:Value)(d:Data):Obj:=⟨c,none,d,#[]⟩
noncomputable def tu(l:List Value):Obj:=ob (.type "tuple") (.seq l.toArray 0)
noncomputable def fl(c:Value)(l:List Value):Obj:=ob c (.fields l.toArray)
noncomputable def ri(n:Nat):Value:=.int n 0
noncomputable def ss(l:List Str):Nat->List Value:=List.rec (λZ=>[]) (λs Z f t=>.str s t::f (t+1)) l
noncomputable def en(n:Str)(t:Nat)(v:Value)(P:Params):DictEntry:=⟨PyData.keyHash P n,.str n t,v⟩
noncomputable abbrev er(n:Str)(t a:Nat):=en n t (.ref a)
noncomputable abbrev ei(n:Str)(t:Nat)(i:Int)(u:Nat):=en n t (.int i u)
noncomputable def di(P:Params)(l:List (Params->DictEntry))(ep:Nat):Obj:=ob (.type "dict") (.dict (l.map λf=>f P).toArray ep)
noncomputable def fi:Str:="/claim/cut.py"
noncomputable def co(nm qn:Str)(t ln np fg fr:Nat)(f:Bool)(v1 v2 v3:Value)(u:Nat):Obj:=fl (.type "code") [.str nm t,.str qn (t+1),.str fi (t+2),ri ln,ri np,ri 0,ri 0,ri fg,.ref fr,.bool f,ri 181,.ref (fr+1),.none,v1,v2,v3,ri u,ri ln,.str fi (u+1)]
noncomputable def fx(o:Option g5)(qn:g5->Str)(full:Bool)(a t ln:Nat)(pm:Value)(vs:List Str)(tl:List Obj):List Obj:=
 o.elim tl λd=>tu []::fl .none []::cond full
  (tu (ss vs (t+3))::tu []::ob .none (.func {name:=d.name,qualname:=qn d,params:=d.params,body:=.stmts d.body,scope:=d.scope,globals:=builtinsNs,closure:=[],defaults:=.none,kwdefaults:=.none})::co d.name (qn d) t ln d.params.args.length 3 a true (.ref (a+2)) (.ref (a+3)) (.ref (a+4)) (t+3+vs.length)::ob (.type "function") (.func (methDef d.name (qn d) d.params d.body d.scope pm (.ref (a+5)) .none))::tl)
  (ob .none (.func {name:=d.name,qualname:=qn d,params:=d.params,body:=.stmts d.body,scope:=d.scope,globals:=builtinsNs,closure:=[],defaults:=.none,kwdefaults:=.none})::co d.name (qn d) t ln d.params.args.length 3 a true .none .none (.ref (a+2)) (t+3)::ob (.type "function") (.func (methDef d.name (qn d) d.params d.body d.scope pm (.ref (a+3)) .none))::tl)
noncomputable abbrev fd(k:Nat):=fx (defsOf pp.main.body)[k]? (·.name)
noncomputable abbrev fm(k:Nat)(q:Str):=fx (defsOf (zA pp gK.cls))[k]? λZ=>q
noncomputable abbrev cn(o:Obj)(tl:List Obj):List Obj:=o::tl
noncomputable def bf(s:String)(v:Value):Obj:=fl (.type "builtin_function_or_method") [.builtin s,v]
noncomputable def fr(c l:Nat)(m:Value):Obj:=⟨.type "frame",none,.plain,#[some (.ref c),some (.ref 3),some (.ref l),none,some m,none,some (.ref 0)]⟩
noncomputable def cl(nm:Str)(C N:Nat)(bs mro sb:List Value)(b:Option Value)(t:Nat)(new:String)(tl:List Obj):List Obj:=⟨.type "type",none,.cls {name:=nm,bases:=bs,mro:=.ref C::mro,ns:=N,qualname:=nm,subclasses:=sb},#[b,none,some (.str nm t),some (.str nm (t+8)),some (.builtin new),some (.bool true)]⟩::tl
noncomputable def su(C:Nat)(tl:List Obj):List Obj:=fl (.type "super") [.ref C,.ref C,.ref C]::bf "object.__init_subclass__" (.ref C)::tl
noncomputable def gs(n:Str)(t C:Nat)(g:String)(s:Value)(tl:List Obj):List Obj:=fl (.type "getset_descriptor") [.str n t,.ref C,.builtin g,s]::tl
noncomputable def ch(P:Params)(nm:Str)(b:Obj)(a t ln:Nat)(m:Value)(ms:List (Params->DictEntry))(sa sA ep:Nat)(tab:List Value)(vs:List Value)(more:List (Params->DictEntry))(mid:List Obj->List Obj)(tl:List Obj):List Obj:=
 b::bf "type.__prepare__" (.type "type")::di P (en "__module__" (t+7) m::en "__qualname__" (t+9) (.str nm (t+8))::en "__firstlineno__" (t+11) (.int ln (t+10))::(ms++[er "__static_attributes__" sa sA])) (4+ms.length)
  :: tu []::fl .none tab::co nm nm (t+2) ln 0 0 (a+3) false .none .none .none (t+5)::fr (a+5) (a+2) m::mid (tu vs::di P (en "__module__" (t+7) m::en "__firstlineno__" (t+11) (.int ln (t+10))::(ms++er "__static_attributes__" sa sA::more)) ep::tl)
noncomputable def mE:Value:=.str "estateroll.errors" 271
noncomputable def vm:List Value:=[.type "ValueError",.type "Exception",.type "BaseException",.type "object"]
noncomputable def xe(P:Params)(sb:List Value)(a t ln:Nat)(tl:List Obj):List Obj:=
 ch P "EstateError" (tu [.type "ValueError"]) a t ln mE [] (t+12) (a+7) 3 [] [] [er "__weakref__" (t+14) (a+10),en "__doc__" (t+15) .none] id <| cl "EstateError" (a+9) (a+8) [.type "ValueError"] vm sb (some (.ref a)) t "ValueError.__new__" <| gs "__weakref__" (t+13) (a+9) "ExceptionGroup.__weakref__" .none <| su (a+9) tl
noncomputable def xc(P:Params)(nm:Str)(a t ln:Nat)(tl:List Obj):List Obj:=
 ch P nm (tu [.ref 76]) a t ln mE [] (t+12) (a+7) 2 [] [] [en "__doc__" (t+13) .none] id <| cl nm (a+9) (a+8) [.ref 76] (.ref 76::vm) [] (some (.ref a)) t "ValueError.__new__" <| su (a+9) tl
noncomputable def DE(c:Nat)(l:List (Nat×Nat)):List Value:=l.flatMap λp=>[ri p.1,ri c,.ref p.2]
noncomputable def m0:Value:=.str "__main__" 164
noncomputable def m1:Value:=.str "estateroll.kin" 194
noncomputable def m2:Value:=.str "estateroll.degrees" 243
noncomputable def m3:Value:=.str "estateroll.parts" 419
noncomputable def m4:Value:=.str "estateroll.lines" 464
noncomputable def m5:Value:=.str "estateroll.deals" 496
noncomputable def m6:Value:=.str "estateroll.books" 567
noncomputable def m7:Value:=.str "law_uf020001_10" 770
noncomputable def e3:List (Params->DictEntry):=[en "__doc__" 166 (.none),en "__package__" 167 (.none),en "__loader__" 168 (.builtin "__main__.__loader__#opaque"),en "__spec__" 169 (.none),en "__annotations__" 170 (.ref 6),en "__builtins__" 171 (.ref 4),en "__file__" 173 (.str "/claim/cut.py" 172),en "__cached__" 174 (.none),er "_wall" 193 21,er "lives" 208 28,er "parents_on" 221 35,er "children_on" 232 42,er "has_line" 242 49,er "steps_from" 250 54,er "further" 264 61,er "nearest" 270 66,er "EstateError" 290 76,er "NoPerson" 306 89,er "NoDay" 322 101,er "NoParents" 338 113,er "NoMatch" 354 125,er "NoWill" 370 137,er "Again" 386 149,er "Full" 402 161,er "NotDead" 418 173,er "part" 431 182,er "added" 439 189,er "less" 447 196,er "times" 455 203,er "shared" 463 210,er "WHOLE" 468 211,er "lines_to" 474 216,er "by_lines" 483 223,er "others_of" 489 228,er "by_parents" 495 233,er "NOTHING" 500 234,er "spouse_on" 512 241,er "will_on" 526 248,er "given" 532 253,er "kin_of" 538 258,er "spouse_part" 546 265,er "dealt" 566 272,ei "MOST_DAY" 570 100000 569,ei "MOST_PEOPLE" 572 60 571,ei "MOST_GIFTS" 574 10 573,ei "MOST_NUMBER" 576 1000 575,er "is_whole" 585 279,er "need_day" 592 286,er "are_alike" 599 293,er "Book" 769 402,er "_law_cell_at" 779 413,er "_law_whole" 786 420,er "_law_stream" 797 427,er "_law_some" 808 434,er "_law_people" 814 439,er "_law_adopting" 820 444,er "_law_lives" 829 451,er "_law_parents" 838 458,er "_law_children" 849 465,er "_law_lined" 861 472,er "_law_ends" 867 477,er "_law_meets" 876 484,er "_law_weddings" 893 491,er "_law_gifts" 899 496,er "_law_wills" 905 501,er "_law_lowest" 916 508,er "_law_is_part" 924 515,er "_law_roll" 935 522,er "_law_dead" 941 527,er "_law_class" 949 534,er "_law_called" 957 541,er "_law_tell" 967 548,er "_law_is_one" 975 555,er "_law_bad_parents" 981 560,er "_law_all_named" 987 565,er "_law_day_of" 994 572,er "_law_late" 1000 577,er "_law_bad_gifts" 1006 582,er "_law_wed_due" 1017 589,er "_law_child_due" 1027 596,er "_law_due" 1033 601,er "_law_done" 1039 606,er "_law_deeds" 1045 611,er "_law_odd" 1054 618,er "_law_deed_by" 1060 623,er "law" 1066 628]
noncomputable def tb:List (Nat×Nat):=[(1,20),(5,27),(8,34),(13,41),(19,48),(27,53),(33,60),(41,65),(55,72),(57,85),(59,97),(61,109),(63,121),(65,133),(67,145),(69,157),(71,169),(74,181),(82,188),(84,195),(86,202),(88,209),(92,215),(103,222),(105,227),(107,232),(124,240),(131,247),(139,252),(151,257),(160,264),(168,271),(193,278),(195,285),(198,292),(200,299),(333,412),(337,419),(339,426),(346,433),(354,438),(372,443),(381,450),(385,457),(389,464),(395,471),(406,476),(409,483),(411,490),(425,495),(434,500),(443,507),(451,514),(455,521),(460,526),(462,533),(468,540),(478,547),(484,554),(486,559),(490,564),(500,571),(506,576),(511,581),(520,588),(528,595),(534,600),(557,605),(576,610),(587,617),(591,622),(617,627)]
noncomputable def bm:List (Params->DictEntry):=[er "__init__" 618 307,er "need_person" 626 314,er "put" 635 321,er "told" 645 328,er "born" 655 335,er "adopted" 670 342,er "end_of" 676 347,er "married" 689 354,er "died" 707 361,er "need_gifts" 713 366,er "will" 728 373,er "anew" 735 380,er "roll" 742 387,er "dead" 748 392,er "deal" 756 399]
noncomputable def bk(P:Params)(a t ln:Nat)(ms:List Obj->List Obj)(tl:List Obj):List Obj:=
 ch P "Book" (tu []) a t ln m6 bm 762 400 4 (DE 4 [(202,306),(209,313),(213,320),(216,327),(226,334),(241,341),(259,346),(263,353),(276,360),(293,365),(310,372),(321,379),(324,386),(327,391),(330,398)]) (ss ["deals","fresh","marriages","people","wills"] 757) [er "__dict__" 764 403,er "__weakref__" 766 404,en "__doc__" 767 .none] ms <| cl "Book" 402 401 [.type "object"] [.type "object"] [] none t "object.__new__" <| gs "__dict__" 763 402 "function.__dict__" (.builtin "function.__dict__#set") <| gs "__weakref__" 765 402 "ExceptionGroup.__weakref__" .none <| su 402 tl
noncomputable def c0(P:Params)(sb:List Value)(tl:List Obj):List Obj:=
 fd 0 true 15 187 1 m0 ["k"] <| fd 1 true 22 196 5 m1 ["people","person","day","born","parents","adopted","died"] <| fd 2 true 29 209 8 m1 ["people","person","day","born","parents","adopted","died"] <| fd 3 true 36 222 13 m1 ["people","person","day","found","child"] <| fd 4 true 43 233 19 m1 ["people","person","day","child"] <| fd 5 false 50 245 27 m2 [] <| fd 6 true 55 251 33 m2 ["people","known","ways","day","found","state","other","way"] <| fd 7 false 62 265 41 m2 [] <| xe P sb 67 273 55 <| xc P "NoPerson" 80 291 57 <| xc P "NoDay" 92 307 59 <| tl
noncomputable def c1(P:Params)(tl:List Obj):List Obj:=
 xc P "NoParents" 104 323 61 <| xc P "NoMatch" 116 339 63 <| xc P "NoWill" 128 355 65 <| xc P "Again" 140 371 67 <| tl
noncomputable def c2(P:Params)(tl:List Obj):List Obj:=
 xc P "Full" 152 387 69 <| xc P "NotDead" 164 403 71 <| fd 8 true 176 421 74 m3 ["over","under","one","other","rest"] <| fd 9 true 183 432 82 m3 ["one","other"] <| fd 10 true 190 440 84 m3 ["one","other"] <| fd 11 true 197 448 86 m3 ["one","other"] <| fd 12 true 204 456 88 m3 ["one","many"] <| cn (tu [.int 1 466,.int 1 467]) <| fd 13 false 212 469 92 m4 [] <| fd 14 true 217 475 103 m4 ["people","person","day"] <| fd 15 false 224 484 105 m4 [] <| fd 16 false 229 490 107 m4 [] <| cn (tu [.int 0 498,.int 1 499]) <| fd 17 true 235 501 124 m5 ["roll","person","day","one","other","begun"] <| fd 18 true 242 513 131 m5 ["roll","person","day","latest","found","one","told","gifts"] <| fd 19 false 249 527 139 m5 [] <| fd 20 false 254 533 151 m5 [] <| fd 21 true 259 539 160 m5 ["how","kin"] <| fd 22 true 266 547 168 m5 ["roll","person","people","day","rows","total","rest","how","kin","spouse","piece","heir","share","line"] <| tl
noncomputable def c3(P:Params)(tl:List Obj):List Obj:=
 fd 23 true 273 577 193 m6 ["thing","low","high"] <| fd 24 true 280 586 195 m6 ["day"] <| fd 25 true 287 593 198 m6 ["persons"] <| bk P 294 600 200 (λtl=>fm 0 "Book.__init__" true 301 612 202 m6 ["self"] <| fm 1 "Book.need_person" true 308 619 209 m6 ["self","person"] <| fm 2 "Book.put" true 315 627 213 m6 ["self","person","row"] <| fm 3 "Book.told" true 322 636 216 m6 ["self","deals","person","rows"] <| fm 4 "Book.born" true 329 646 226 m6 ["self","day","parents","parent"] <| fm 5 "Book.adopted" true 336 656 241 m6 ["self","child","day","parents","parent","born","first","own","died"] <| fm 6 "Book.end_of" false 343 671 259 m6 [] <| fm 7 "Book.married" true 348 677 263 m6 ["self","one","other","day","first","second","begun"] <| fm 8 "Book.died" true 355 690 276 m6 ["self","person","day","born","parents","own","dead","one","told","gifts","other","begun"] <| fm 9 "Book.need_gifts" false 362 708 293 m6 [] <| fm 10 "Book.will" true 367 714 310 m6 ["self","person","day","gifts","gift","born","parents","own","died"] <| fm 11 "Book.anew" true 374 729 321 m6 ["self"] <| fm 12 "Book.roll" true 381 736 324 m6 ["self"] <| fm 13 "Book.dead" false 388 743 327 m6 [] <| fm 14 "Book.deal" true 393 749 330 m6 ["self","person"] <| tl) <| tl
noncomputable def c4(P:Params)(tl:List Obj):List Obj:=
 fd 26 true 407 772 333 m7 ["_law_script","_law_k"] <| fd 27 true 414 780 337 m7 ["_law_found"] <| fd 28 true 421 787 339 m7 ["_law_cell","_law_many","_law_found","_law_number","_law_k"] <| fd 29 true 428 798 346 m7 ["_law_elders","_law_y","_law_fewest","_law_one","_law_other"] <| fd 30 false 435 809 354 m7 [] <| fd 31 false 440 815 372 m7 [] <| fd 32 true 445 821 381 m7 ["_law_people_here","_law_person","_law_day"] <| fd 33 true 452 830 385 m7 ["_law_people_here","_law_person","_law_day"] <| fd 34 true 459 839 389 m7 ["_law_people_here","_law_person","_law_day","_law_found","_law_one"] <| fd 35 true 466 850 395 m7 ["_law_people_here","_law_day","_law_lined_here","_law_one","_law_turn","_law_parent"] <| fd 36 false 473 862 406 m7 [] <| fd 37 true 478 868 409 m7 ["_law_people_here","_law_one","_law_other"] <| fd 38 true 485 877 411 m7 ["_law_people_here","_law_cell","_law_many","_law_found","_law_x","_law_one","_law_other","_law_day","_law_new","_law_fits","_law_marriage"] <| fd 39 false 492 894 425 m7 [] <| fd 40 false 497 900 434 m7 [] <| fd 41 true 502 906 443 m7 ["_law_over","_law_under","_law_a","_law_b","_law_c"] <| fd 42 true 509 917 451 m7 ["_law_found","_law_due_here"] <| fd 43 true 516 925 455 m7 ["_law_script","_law_most","_law_many","_law_people_here","_law_weddings_here"] <| fd 44 false 523 936 460 m7 [] <| fd 45 true 528 942 462 m7 ["_law_e","_law_told"] <| fd 46 true 535 950 468 m7 ["_law_book","_law_deed"] <| fd 47 true 542 958 478 m7 ["_law_book","_law_deed","_law_found","_law_e"] <| fd 48 true 549 968 484 m7 ["_law_people_here","_law_one"] <| fd 49 false 556 976 486 m7 [] <| fd 50 false 561 982 490 m7 [] <| fd 51 true 566 988 500 m7 ["_law_deed"] <| fd 52 false 573 995 506 m7 [] <| fd 53 false 578 1001 511 m7 [] <| fd 54 true 583 1007 520 m7 ["_law_roll_here","_law_one","_law_other","_law_day","_law_marriage"] <| fd 55 true 590 1018 528 m7 ["_law_people_here","_law_child","_law_day","_law_parents_here"] <| fd 56 false 597 1028 534 m7 [] <| fd 57 false 602 1034 557 m7 [] <| fd 58 false 607 1040 576 m7 [] <| fd 59 true 612 1046 587 m7 ["_law_x","_law_good","_law_odd_here"] <| fd 60 false 619 1055 591 m7 [] <| fd 61 false 624 1061 617 m7 [] <| tl
noncomputable def st(P:Params)(nm:Value)(k m:Nat)(rest:List Obj):List Obj:=
 boot_o_0 P::boot_o_1 P::boot_o_2 P::di P (en "__name__" 165 nm::e3.take k) (k+1)::boot_o_4 P::boot_o_5 P::boot_o_6 P::boot_o_7 P::boot_o_8 P::boot_o_9 P::boot_o_10 P::tu []::fl .none (DE 0 (tb.take m))::co "<module>" "<module>" 182 1 0 0 11 false .none .none .none 185::fr 13 3 m0::rest
noncomputable def sp(l:List Obj):List Obj×List Obj:=List.rec ([],[]) (λx Z p=>(x::p.2,p.1)) l
noncomputable def tr(n:Nat):List Obj->BT:=Nat.rec (λZ=>.nil) (λZ f l=>List.rec .nil (λx t Z=>.node x (f (sp t).1) (f (sp t).2)) l) n
noncomputable def sG(l:Params->List Obj)(n k:Nat)(w:World)(os:OsState):SharedT:=⟨tr 11 (l w.params),n,(boot_heap w.params).life,Array.mk [],boot_drawn,k,os⟩
noncomputable def sH:List Value:=[.ref 89,.ref 101,.ref 113,.ref 125,.ref 137,.ref 149,.ref 161,.ref 173]
noncomputable def an:Option Value:=some (.ref 6)
noncomputable def bE:List Stmt:=behindTheImports pp
noncomputable def env:Env:={scope:=pp.main.scope,locals:=mainNs,globals:=mainNs,cells:=[],code:=.ref 13,frame:=some 14}
noncomputable def cE:Code:=.body bE env
noncomputable def ps(a b c d:Nat):Pos:={line:=a,col:=b,endLine:=c,endCol:=d}
noncomputable def l0(P:Params):List Obj:=st P m0 8 0 []
noncomputable def l1(P:Params):List Obj:=st P mE 19 11 (c0 P (sH.take 2) [])
noncomputable def l2(P:Params):List Obj:=st P mE 23 15 (c0 P (sH.take 6) (c1 P []))
noncomputable def l3(P:Params):List Obj:=st P m5 42 32 (c0 P (sH.take 8) (c1 P (c2 P [])))
noncomputable def l4(P:Params):List Obj:=st P m6 50 36 (c0 P (sH.take 8) (c1 P (c2 P (c3 P []))))
noncomputable def l5(P:Params):List Obj:=st P m7 86 72 (c0 P (sH.take 8) (c1 P (c2 P (c3 P (c4 P [])))))
noncomputable abbrev s0:=sG l0 15 187
noncomputable abbrev s1:=sG l1 104 323
noncomputable abbrev s2:=sG l2 152 387
noncomputable abbrev s3:=sG l3 273 567
noncomputable abbrev s4:=sG l4 407 770
noncomputable abbrev s5:=sG l5 629 1067
noncomputable def H1(P:Params):Heap:=⟨Array.mk (l5 P),(boot_heap P).life⟩
end Mine.H
namespace Mine
open PySem
noncomputable def aJ{α:Type}(o:Option α)(f:α->Prop):Prop:=match o with|some a=>f a|none=>False
noncomputable def bx(t:Bool)(A B:Prop):Prop:=match t with|true=>A|false=>B
noncomputable def fE(t:Bool)(A:Prop):Prop:=match t with|true=>A|false=>False
noncomputable def ff(x:V)(f:Int->Prop):Prop:=match x with | .int i=>f i|_=>False
noncomputable def w1(vs:List V)(f:V->Prop):Prop:=match vs with | [x]=>f x|_=>False
noncomputable def w2(vs:List V)(f:V->V->Prop):Prop:=match vs with | [x,y]=>f x y|_=>False
noncomputable def J2{α:Type}(l:List α)(A B:Prop):Prop:=match l with | []=>A|_::_=>B
noncomputable def ma{α:Type}(l:List α):Bool:=decide (l.length<16000000)
noncomputable def zB(a b:Int):Bool:=!(decide (Builtin.Int.intBits a>shortFactorBits)&&decide (Builtin.Int.intBits b>shortFactorBits)&&Builtin.Int.intTooBig (Builtin.Int.intBits a+Builtin.Int.intBits b))
noncomputable def eA(f:V->Option PyData):List V->Option (List PyData)
 |[]=>some []
 |v::r=>match f v,eA f r with
  |some d,some ds=>some (d::ds)
  |_,_=>none
noncomputable def oR:aZ->Option (List V)
 |.list vs=>some vs
 |_=>none
noncomputable def gQ:aZ->Option (List (Int×V))
 |.dict _ es=>some es
 |_=>none
noncomputable def jM:aZ->Option (List ((Int×Bool)×V))
 |.cD _ es=>some es
 |_=>none
noncomputable def mH:aZ->Option Nat
 |.exc k=>some k
 |_=>none
noncomputable def oS:aZ->Option Nat
 |.obj t=>some t
 |_=>none
noncomputable def oU:aZ->Option aP
 |.bX fs=>some fs
 |_=>none
noncomputable def cellAt{β:Type}(f:aZ->Option β)(H:Hp):V->Option β
 |.ref l=>H[l]?.bind f
 |_=>none
noncomputable abbrev dt(H:Hp):V->Option (List V):=cellAt oR H
noncomputable abbrev jN(H:Hp):V->Option (List (Int×V)):=cellAt gQ H
noncomputable abbrev excAt(H:Hp):V->Option Nat:=cellAt mH H
noncomputable abbrev cx(H:Hp):V->Option Nat:=cellAt oS H
noncomputable abbrev oV(H:Hp):V->Option (List ((Int×Bool)×V)):=cellAt jM H
noncomputable def wA:V->Option PyData
 |.none=>some .none
 |.bool b=>some (.bool b)
 |.int i=>some (.int i)
 |.str s=>if PyData.strOk s=true then some (.str s) else none
 |_=>none
noncomputable def rd(H:Hp):Nat->V->Option PyData
 |0,v=>wA v
 |n+1,.aF vs=>(eA (rd H n) vs).map .tuple
 |n+1,.ref l=>(dt H (.ref l)).bind λvs=>(eA (rd H n) vs).map .list
 |_+1,v=>wA v
noncomputable def truthy(H:Hp):V->Option Bool
 |.none=>some false
 |.bool b=>some b
 |.int i=>some (i != 0)
 |.aF vs=>some (!vs.isEmpty)
 |.ref l=>(dt H (.ref l)).map λvs=>!vs.isEmpty
 |_=>none
noncomputable def k7(H:Hp):V->Option (List V)
 |.aF vs=>some vs
 |.ref l=>dt H (.ref l)
 |.dU=>some (X.is.map .int)
 |_=>none
section
variable{K:Type}[DecidableEq K]
noncomputable def fX(es:List (K×V))(k:K):Option V:=(es.find? (λp=>decide (p.1=k))).map (·.2)
noncomputable def dput(es:List (K×V))(k:K)(v:V):List (K×V):=if es.any (λp=>decide (p.1=k)) then es.map (λp=>if p.1=k then(p.1,v) else p) else es++[(k,v)]
noncomputable def iZ(es:List (K×V))(k:K):Bool:=es.any λp=>decide (p.1=k)
end
noncomputable def boolOf:V->Option Bool
 |.bool b=>some b
 |_=>none
noncomputable def oW:V->Option (List V)
 |.aF vs=>some vs
 |_=>none
noncomputable def two{α β:Type}(l:List α)(f:α->α->Option β):Option β:=match l with
 |[a,b]=>f a b
 |_=>none
noncomputable def pairOf(x:V):Option (Int×Bool):=(oW x).bind λvs=>two vs λa b=>(intOf a).bind λi=>(boolOf b).map λb=>(i,b)
noncomputable def allInts:List V->Option (List Int)
 |[]=>some []
 |v::r=>(intOf v).bind λi=>(allInts r).map (i::·)
noncomputable def i0:List V->Option (List Bool)
 |[]=>some []
 |v::r=>(boolOf v).bind λb=>(i0 r).map (b::·)
noncomputable def jO(H:Hp)(x:V):Option (List Int):=(dt H x).bind allInts
noncomputable def ky:List Int->List Int->Bool
 |_,[]=>false
 |[],_::_=>true
 |a::r,b::t=>if a=b then ky r t else decide (a<b)
noncomputable def zC(x y:V)(H:Hp):Option Bool:=match x,y with
 |.int a,.int b=>some (decide (a<b))
 |.ref l,.ref m=>(jO H (.ref l)).bind λa=>(jO H (.ref m)).map λb=>ky a b
 |_,_=>none
noncomputable def oX(x y:V)(f:Int->Int->Bool):Option Bool:=(intOf x).bind λa=>(intOf y).map λb=>f a b
noncomputable def jP(H:Hp)(x:V):Option Bool:=match jN H x with
 |some es=>some es.isEmpty
 |none=>(oV H x).map (·.isEmpty)
noncomputable def jQ(H:Hp)(x y:V):Option Bool:=match jP H x with
 |some a=>(jP H y).bind λb=>if a||b then some (a&&b) else none
 |none=>(rd H 10 x).bind λd=>(rd H 10 y).map λe=>PyData.eqv d e
noncomputable def oY(H:Hp)(x y:V):Option Bool:=match jN H y with
 |some es=>(intOf x).map λk=>iZ es k
 |none=>match oV H y with
  |some es=>(pairOf x).map λq=>iZ es q
  |none=>(k7 H y).bind λvs=>(eA (rd H 10) vs).bind λds=>(rd H 10 x).map λd=>ds.any λe=>PyData.eqv e d
noncomputable def eD(op:kU)(x y:V)(H:Hp):Option Bool:=match op with
 |.eq=>jQ H x y
 |.ne=>(jQ H x y).map (!·)
 |.lt=>zC x y H
 |.gt=>oX x y λa b=>decide (a>b)
 |.le=>oX x y λa b=>decide (a<=b)
 |.ge=>oX x y λa b=>decide (a≥b)
 |.iS=>oY H x y
 |.iT=>(oY H x y).map (!·)
noncomputable def k8{α:Type}(l:List α)(k:Int):Option α:=
 if 0<=k then l[k.toNat]? else if -(l.length:Int)<=k then l[(k+l.length).toNat]? else none
noncomputable def fh(x i:V)(H:Hp):Option V:=match i with
 |.int k=>match k7 H x with
  |some vs=>k8 vs k
  |none=>(jN H x).bind λes=>fX es k
 |i=>(pairOf i).bind λq=>(oV H x).bind λes=>fX es q
noncomputable def qB(n:Nat)(d:Nat):Option Int->Nat
 |none=>d
 |some k=>(max (0:Int) (min (if k<0 then k+n else k) n)).toNat
noncomputable def gj{α:Type}(l:List α)(lo hi:Option Int):List α:=
 (l.take (qB l.length l.length hi)).drop (qB l.length 0 lo)
noncomputable def wB:V->Option (Option Int)
 |.none=>some none
 |.int k=>if k.natAbs<2^60 then some (some k) else none
 |_=>none
mutual
noncomputable def aN:cN->V->aP->Option aP
 |.J i,v,ρ=>if i<ρ.length then some (ρ.set i (some v)) else none
 |.aF ts,.aF vs,ρ=>uA ts vs ρ
 |.aF _,_,_=>none
noncomputable def uA:List cN->List V->aP->Option aP
 |[],[],ρ=>some ρ
 |t::ts,v::vs,ρ=>(aN t v ρ).bind (uA ts vs)
 |_,_,_=>none
end
noncomputable def oZ(x i v:V)(H:Hp)(k:Hp->Prop):Prop:=match x with
 |.ref l=>aJ H[l]? λc=>match c with
  |.list xs=>ff i λj=>(0<=j/\j<xs.length)/\k (H.set l (.list (xs.set j.toNat v)))
  |.dict _ es=>ff i λj=>fE (ma es) (∀ep,k (H.set l (.dict ep (dput es j v))))
  |.cD _ es=>aJ (pairOf i) λj=>fE (ma es) (∀ep,k (H.set l (.cD ep (dput es j v))))
  |_=>False
 |_=>False
noncomputable def kB(q:Int×Bool):V:=.aF [.int q.1,.bool q.2]
noncomputable def keysOf(H:Hp)(x:V):Option (List V):=match jN H x with
 |some es=>some (es.map λp=>.int p.1)
 |none=>match oV H x with
  |some es=>some (es.map λp=>kB p.1)
  |none=>k7 H x
noncomputable def copyOf(H:Hp)(x:V):Option (List V):=match jN H x with
 |some es=>some (es.map λp=>.int p.1)
 |none=>match oW x with
  |some vs=>some vs
  |none=>dt H x
noncomputable def watch:V->List Nat
 |.ref l=>[l]
 |_=>[]
noncomputable def eF(ws:List Nat)(H₀ H:Hp):Bool:=ws.all λl=>decide (H[l]?=H₀[l]?)
noncomputable def mI(a b:Int):List V:=(List.range (b - a).toNat).map λ(i:Nat)=>.int (a+(i:Int))
noncomputable def pf:Nat->List V->List V
 |_,[]=>[]
 |k,v::r=>.aF [.int k,v]::pf (k+1) r
noncomputable def weight:aP->Nat
 |[]=>1000
 |some (.int i)::r=>i.natAbs+weight r
 |_::r=>weight r
noncomputable def kC(vs:List V)(H:Hp)(Q:PQ):Prop:=Q (.ref H.length) (H++[.list vs])
noncomputable def qC(vs:List V)(H:Hp)(Q:PQ):Prop:=fE (ma vs) (kC vs H Q)
noncomputable def binI(op:lV)(a b:Int):Option Int:=match op with
 |.add=>some (a+b)
 |.sub=>some (a - b)
 |.mul=>if zB a b then some (a*b) else none
 |.fdiv=>if b=0 then none else some (a.fdiv b)
 |.mod=>if b=0 then none else some (a.fmod b)
 |.pow=>if a=10/\0<=b/\b<=64 then some (10^b.toNat) else none
noncomputable def DF(op:lV)(xs:List V)(y:V)(H:Hp)(Q:PQ):Prop:=match op with
 |.add=>aJ (dt H y) λys=>qC (xs++ys) H Q
 |.mul=>ff y λn=>(n=2/\xs.length<=1000)/\kC (xs++xs) H Q
 |_=>False
noncomputable def sI(op:lV)(x y:V)(H:Hp)(Q:PQ):Prop:=match x with
 |.int a=>ff y λb=>aJ (binI op a b) λi=>Q (.int i) H
 |x=>aJ (dt H x) λxs=>DF op xs y H Q
noncomputable def uB(H:Hp)(t:Ty)(x:V):Option Bool:=match x,t with
 |.bool _,.bool=>some true
 |.bool _,.int=>some true
 |.int _,.int=>some true
 |.ref l,.list=>(dt H (.ref l)).map λZ=>true
 |.ref l,_=>(dt H (.ref l)).map λZ=>false
 |.dU,_=>none
 |_,_=>some false
noncomputable def minOf(is:List Int)(d:Int):Int:=match is with
 |[]=>d
 |a::r=>r.foldl min a
noncomputable def DG(b:Bi)(vs:List V)(H:Hp)(Q:PQ):Prop:=match b with
 |.len=>w1 vs λx=>aJ (k7 H x) λl=>Q (.int l.length) H
 |.jH t=>w1 vs λx=>aJ (uB H t x) λb=>Q (.bool b) H
 |.any=>w1 vs λx=>aJ ((dt H x).bind i0) λbs=>Q (.bool (bs.any id)) H
 |.max2=>w2 vs λx y=>ff x λa=>ff y λb=>Q (.int (max a b)) H
 |.mB=>w2 vs λx d=>ff d λd=>aJ (jO H x) λis=>Q (.int (minOf is d)) H
 |.tupleOf=>w1 vs λx=>aJ (dt H x) λxs=>Q (.aF xs) H
 |.qm=>w1 vs λx=>aJ (boolOf x) λb=>Q (.int (if b then 1 else 0)) H
 |.vT=>w1 vs λx=>aJ (jO H x) λis=>is.length<64/\∀js:List Int,js.Perm is->js.Pairwise (·<=·)->kC (js.map .int) H Q
 |.kW=>w1 vs λx=>aJ (jO H x) λis=>is.length<=1000/\∀n:Nat,(n=is.length↔is.Nodup)->Q (.int n) H
noncomputable def wC(x:V)(vs:List V)(H:Hp)(Q:PQ):Prop:=match x with
 |.ref l=>Q .none (H.set l (.list vs))
 |_=>False
noncomputable def pg(m:Me)(x:V)(vs:List V)(H:Hp)(Q:PQ):Prop:=aJ (dt H x) λxs=>w1 vs λv=>match m with
 |.append=>fE (ma xs) (wC x (xs++[v]) H Q)
 |.count=>aJ (boolOf v) λb=>aJ (i0 xs) λbs=>xs.length<=1000/\Q (.int (bs.count b)) H
 |.index=>aJ (boolOf v) λb=>aJ (i0 xs) λbs=>xs.length<=1000/\aJ (bs.idxOf? b) λi=>Q (.int i) H
noncomputable def wD(x lo hi:V)(H:Hp)(Q:PQ):Prop:=aJ (wB lo) λl=>aJ (wB hi) λh=>match x with
 |.aF vs=>aJ h λk=>fE (l.isNone&&decide (0<=k)) (Q (.aF (vs.take k.toNat)) H)
 |x=>aJ (k7 H x) λvs=>qC (gj vs l h) H Q
noncomputable def uC(x y:V)(f:List V->Prop):Prop:=ff x λi=>ff y λj=>(i.natAbs<2^60/\j.natAbs<2^60)/\f (mI i j)
noncomputable def jn(o:Out)(f:aP->Hp->Prop)(A:Prop):Prop:=match o with | .next ρ H=>f ρ H | .ret _ _=>A
noncomputable def bF(Q:PQ)(o:Out):Prop:=match o with | .ret v H=>Q v H | .next _ H=>Q .none H
noncomputable def mJ(K:Out->Prop)(N:aP->Hp->Prop)(o:Out):Prop:=match o with
 |.next ρ H=>N ρ H
 |.ret v H=>K (.ret v H)
noncomputable def g7(ws:List Nat)(H₀:Hp)(t:cN)(test:aP->Hp->(Bool->Hp->Prop)->Prop)(elt:aP->Hp->PQ->Prop):List V->aP->Hp->List V->(List V->Hp->Prop)->Prop
 |[],_,H,acc,Q=>Q acc H
 |v::vs,ρ,H,acc,Q=>aJ (aN t v ρ) λbV=>test bV H λb H₁=>
   bx b (elt bV H₁ λy H₂=>eF ws H₀ H₂=true/\g7 ws H₀ t test elt vs bV H₂ (acc++[y]) Q) (eF ws H₀ H₁=true/\g7 ws H₀ t test elt vs bV H₁ acc Q)
noncomputable def md(ws:List Nat)(H₀:Hp)(t:cN)(body:aP->Hp->(Out->Prop)->Prop):List V->aP->Hp->(Out->Prop)->Prop
 |[],ρ,H,K=>K (.next ρ H)
 |v::vs,ρ,H,K=>aJ (aN t v ρ) λbV=>body bV H (mJ K λfj H₁=>eF ws H₀ H₁=true/\md ws H₀ t body vs fj H₁ K)
noncomputable def wF(test:aP->Hp->(Bool->Hp->Prop)->Prop)(body:aP->Hp->(Out->Prop)->Prop):Nat->aP->Hp->(Out->Prop)->Prop
 |0,_,_,_=>False
 |n+1,ρ,H,K=>test ρ H λb H=>bx b (body ρ H (mJ K λfj H₁=>wF test body n fj H₁ K)) (K (.next ρ H))
noncomputable def xq(Y:PQ):PQ:=λv H=>(excAt H v).isSome=true/\Y v H
noncomputable abbrev Ct.xq(C:Ct):Ct:=⟨C.call,Mine.xq C.exc⟩
noncomputable abbrev Ct.no(C:Ct):Ct:=⟨C.call,λZ Z=>False⟩
noncomputable def ph(H:Hp)(t:Nat):Option aP:=H[t]?.bind oU
noncomputable def DH(j:Nat)(k:Option Nat):Bool:=match k with
 |some k=>gE j k
 |none=>true
noncomputable def J3(r:Option cN)(ρ:aP)(K:Out->Prop)(v:V)(H:Hp):Prop:=match r with
 |some t=>aJ (aN t v ρ) λbV=>K (.next bV H)
 |none=>K (.ret v H)
mutual
noncomputable def WE:Ct->E->aP->Hp->PQ->Prop
 |_,.k v,_,H,Q=>Q v H
 |_,.J i,ρ,H,Q=>aJ (ρ[i]?.join) λv=>Q v H
 |_,.gk j,_,H,Q=>aJ uc[j]? λv=>Q v H
 |C,.bin op a b,ρ,H,Q=>WE C a ρ H λx H=>WE C b ρ H λy H=>sI op x y H Q
 |C,.neg a,ρ,H,Q=>WE C a ρ H λx H=>ff x λi=>Q (.int (-i)) H
 |C,.not a,ρ,H,Q=>WE C a ρ H λx H=>aJ (truthy H x) λb=>Q (.bool (!b)) H
 |C,.and es,ρ,H,Q=>sJ C true es ρ H Q
 |C,.or es,ρ,H,Q=>sJ C false es ρ H Q
 |C,.cmp op a b,ρ,H,Q=>WE C a ρ H λx H=>WE C b ρ H λy H=>aJ (eD op x y H) λt=>Q (.bool t) H
 |C,.kh op nE a b c,ρ,H,Q=>WE C a ρ H λx H=>WE C b ρ H λy H=>aJ (eD op x y H) λt=>bx t (WE C c ρ H λz H=>aJ (eD nE y z H) λt=>Q (.bool t) H) (Q (.bool false) H)
 |C,.isNone w a,ρ,H,Q=>WE C a ρ H λx H=>Q (.bool (tZ x==w)) H
 |C,.aF es,ρ,H,Q=>mf C es ρ H λvs H=>Q (.aF vs) H
 |C,.bJ es,ρ,H,Q=>mf C es ρ H λvs H=>kC vs H Q
 |C,.aE a i,ρ,H,Q=>WE C a ρ H λx H=>WE C i ρ H λy H=>aJ (fh x y H) λv=>Q v H
 |C,.ii a lo hi,ρ,H,Q=>WE C a ρ H λx H=>WO C lo ρ H λl H=>WO C hi ρ H λh H=>wD x l h H Q
 |C,.call f es,ρ,H,Q=>mf C es ρ H λvs H=>C.call f vs H Q C.exc
 |C,.bi b es,ρ,H,Q=>mf C es ρ H λvs H=>DG b vs H Q
 |C,.c8 m a es,ρ,H,Q=>WE C a ρ H λx H=>fE (dt H x).isSome (mf C es ρ H λvs H=>pg m x vs H Q)
 |C,.comp nl elt t it cs,ρ,H,Q=>nQ C it ρ H λp H=>fE (ma p.1) (g7 p.2 H t (λρ H Q=>WT C.no cs ρ H Q) (λρ H Q=>WE C.no elt ρ H Q) p.1 (replicate nl none++ρ) H [] λvs H=>kC vs H Q)
 |C,.listOf e,ρ,H,Q=>WE C e ρ H λx H=>aJ (copyOf H x) λvs=>qC vs H Q
 |_,.nF,_,H,Q=>Q (.ref H.length) (H++[.dict 0 []])
 |_,.lW,_,H,Q=>Q (.ref H.length) (H++[.cD 0 []])
 |C,.t6 a b,ρ,H,Q=>WE C a ρ (H++[.cD 0 []]) λx H1=>WE C b ρ H1 λy H2=>aJ (pairOf x) λk=>H2[H.length]?=some (.cD 0 [])/\∀ep,Q (.ref H.length) (H2.set H.length (.cD ep [(k,y)]))
 |C,.ba c a b,ρ,H,Q=>WE C c ρ H λx H=>aJ (truthy H x) λt=>bx t (WE C a ρ H Q) (WE C b ρ H Q)
 |C,.attr a i,ρ,H,Q=>WE C a ρ H λx H=>aJ (cx H x) λt=>aJ (ph H t) λfs=>aJ (fs[i]?.join) λv=>Q v H
 |C,.dG f a es,ρ,H,Q=>WE C a ρ H λx H=>aJ (cx H x) λt=>aJ (ph H t) λZ=>mf C es ρ H λvs H=>C.call f (x::vs) H Q C.exc
 |C,.new f,_,H,Q=>C.call f [.ref (H.length+1)] (H++[.bX (replicate gK.bX.length none)]++[.obj H.length]) (λv H'=>v=.none/\Q (.ref (H.length+1)) H') λZ Z=>False
 |C,.kj k a,ρ,H,Q=>WE C a ρ H λx H=>aJ (excAt H x) λj=>Q (.bool (DH j k)) H
noncomputable def mf:Ct->List E->aP->Hp->(List V->Hp->Prop)->Prop
 |_,[],_,H,Q=>Q [] H
 |C,e::r,ρ,H,Q=>WE C e ρ H λv H=>mf C r ρ H λvs H=>Q (v::vs) H
noncomputable def WO:Ct->Option E->aP->Hp->PQ->Prop
 |_,none,_,H,Q=>Q .none H
 |C,some e,ρ,H,Q=>WE C e ρ H Q
noncomputable def sJ:Ct->Bool->List E->aP->Hp->PQ->Prop
 |_,_,[],_,_,_=>False
 |C,w,e::r,ρ,H,Q=>WE C e ρ H λx H=>J2 r (Q x H) (aJ (truthy H x) λt=>bx (t==w) (sJ C w r ρ H Q) (Q x H))
noncomputable def WT:Ct->List E->aP->Hp->(Bool->Hp->Prop)->Prop
 |_,[],_,H,Q=>Q true H
 |C,e::r,ρ,H,Q=>WE C e ρ H λx H=>aJ (truthy H x) λt=>bx t (WT C r ρ H Q) (Q false H)
noncomputable def nQ:Ct->It->aP->Hp->(List V×List Nat->Hp->Prop)->Prop
 |C,.of e,ρ,H,Q=>WE C e ρ H λx H=>aJ (keysOf H x) λvs=>Q (vs,watch x) H
 |C,.range a b,ρ,H,Q=>WE C a ρ H λx H=>WE C b ρ H λy H=>uC x y λl=>Q (l,[]) H
 |C,.jI e,ρ,H,Q=>WE C e ρ H λx H=>aJ (dt H x) λvs=>Q (pf 0 vs,watch x) H
end
noncomputable def qD(C:Ct)(e:E)(ρ:aP)(H:Hp)(Q:Bool->Hp->Prop):Prop:=WE C e ρ H λx H=>aJ (truthy H x) λt=>Q t H
mutual
noncomputable def WS:Ct->S->aP->Hp->(Out->Prop)->Prop
 |C,.expr e,ρ,H,K=>WE C e ρ H λZ H=>K (.next ρ H)
 |C,.aN t e,ρ,H,K=>WE C e ρ H λv H=>aJ (aN t v ρ) λbV=>K (.next bV H)
 |C,.iU a i e,ρ,H,K=>WE C e ρ H λv H=>WE C a ρ H λx H=>WE C i ρ H λk H=>oZ x k v H λH'=>K (.next ρ H')
 |C,.setAttr a i e,ρ,H,K=>WE C e ρ H λv H=>WE C a ρ H λx H=>aJ (cx H x) λt=>aJ (ph H t) λfs=>K (.next ρ (H.set t (.bX (fs.set i (some v)))))
 |C,.ret e,ρ,H,K=>WE C e ρ H λv H=>K (.ret v H)
 |C,.raise k _,ρ,H,_=>C.exc (.ref H.length) (H++[.exc k])
 |C,.iV r e k i h,ρ,H,K=>WE ⟨C.call,λv H=>aJ (excAt H v) λj=>gE j k=true/\WE C.no h (ρ.set i (some v)) H λr H=>K (.ret r H)⟩ e ρ H λv H=>J3 r ρ K v H
 |C,.ba c a b,ρ,H,K=>qD C c ρ H λt H=>bx t (aM C a ρ H K) (aM C b ρ H K)
 |C,.for t it body,ρ,H,K=>nQ C it ρ H λp H=>md p.2 H t (λρ H K=>aM C.xq body ρ H K) p.1 ρ H K
 |C,.while c body,ρ,H,K=>wF (λρ H Q=>qD C.no c ρ H Q) (λρ H K=>aM C.no body ρ H K) (weight ρ) ρ H K
noncomputable def aM:Ct->List S->aP->Hp->(Out->Prop)->Prop
 |_,[],ρ,H,K=>K (.next ρ H)
 |C,s::r,ρ,H,K=>WS C s ρ H λo=>jn o (λρ H=>aM C r ρ H K) (K o)
end
noncomputable def aA:Nat->Nat->List V->Hp->PQ->PQ->Prop
 |0,_,_,_,_,_=>False
 |n+1,f,vs,H,Q,Y=>aJ wl[f]? λd=>(vs.length=d.np/\d.np≠999)/\aM ⟨aA n,xq Y⟩ d.body (vs.map some++replicate d.nl none) H (bF Q)
theorem J4(i n:Nat):min (i:Int) (n:Int)=((min i n:Nat):Int):=by
 rcases Nat.le_total i n with h|h
 ·rw[Int.min_eq_left (ofNat_le.mpr h),min_eq_left h]
 ·rw[Int.min_eq_right (ofNat_le.mpr h),Nat.min_eq_right h]
structure Ws where
 φ:List Addr
 h:Heap
mutual
inductive aX(p:Ws):V->Value->Prop
 |none:aX p .none .none
 |bool (b:Bool):aX p (.bool b) (.bool b)
 |int (i:Int) (t:Tok):aX p (.int i) (.int i t)
 |str (s:Str) (t:Tok):aX p (.str s) (.str s t)
 |aF {a:Addr} {n:Nat} {vs:List V} {xs:List Value}:p.h.get? a=some (ku xs n)->br p vs xs->vs.length<=16000000->a∉p.φ->aX p (.aF vs) (.ref a)
 |ref {l:Nat} {a:Addr}:p.φ[l]?=some a->aX p (.ref l) (.ref a)
 |dU:aX p .dU (.ref X.jm)
inductive br(p:Ws):List V->List Value->Prop
 |nil:br p [] []
 |cons {v:V} {x:Value} {vs:List V} {xs:List Value}:aX p v x->br p vs xs->br p (v::vs) (x::xs)
end
noncomputable def aX.Inv(p:Ws)(P:Value->Prop):V->Prop
 |.none=>P .none
 |.bool b=>P (.bool b)
 |.int i=>∀t,P (.int i t)
 |.str s=>∀t,P (.str s t)
 |.aF vs=>∀a n xs,p.h.get? a=some (ku xs n)->br p vs xs->vs.length<=16000000->a∉p.φ->P (.ref a)
 |.ref l=>∀a,p.φ[l]?=some a->P (.ref a)
 |.dU=>P (.ref X.jm)
theorem aX.inv{p:Ws}{v:V}{x:Value}(r:aX p v x)(P:Value->Prop):aX.Inv p P v->P x:=
 aX.casesOn (motive_1:=λv x Z=>aX.Inv p P v->P x) r (λk=>k) (λZ k=>k) (λZ t k=>k t) (λZ t k=>k t) (λe q z n k=>k _ _ _ e q z n) (λe k=>k _ e) (λk=>k)
noncomputable def br.Inv(p:Ws)(P:List Value->Prop):List V->Prop
 |[]=>P []
 |v::vs=>∀x xs,aX p v x->br p vs xs->P (x::xs)
theorem br.inv{p:Ws}{vs:List V}{xs:List Value}(r:br p vs xs)(P:List Value->Prop):br.Inv p P vs->P xs:=
 br.casesOn (motive_2:=λvs xs Z=>br.Inv p P vs->P xs) r (λk=>k) (λa b k=>k _ _ a b)
theorem br.ind{p:Ws}{M:List V->List Value->Prop}(n:M [] [])(c:∀{v x vs xs},aX p v x->br p vs xs->M vs xs->M (v::vs) (x::xs)){vs:List V}{xs:List Value}(r:br p vs xs):M vs xs:=
 br.rec (motive_1:=λZ Z Z=>True) (motive_2:=λvs xs Z=>M vs xs) trivial (λZ=>trivial) (λZ Z=>trivial) (λZ Z=>trivial) (λZ Z Z Z Z=>trivial) (λZ=>trivial) trivial n (λa b Z m=>c a b m) r
theorem DI{α:Type}{l r:List α}{i:Nat}{a:α}(e:l[i]?=some a):(l++r)[i]?=some a:=by rw[getElem?_append_left (List.getElem?_eq_some_iff.mp e).1];exact e
noncomputable def dK(o:Obj):Bool:=match o.data with
 |.dict _ _=>true
 |_=>false
noncomputable def fF(o:Obj):Bool:=match o.data with
 |.fields vs=>o.cls==.type "traceback"&&decide (3<vs.size)
 |_=>false
noncomputable def fz(o:Obj):Bool:=match o.data with
 |.seq _ _=>o.cls==.type "tuple"
 |.fields vs=>o.cls==.type "traceback"&&decide (3<vs.size)
 |_=>false
theorem uD{o:Obj}{es:Array DictEntry}{ep:Nat}(h:o.data=.dict es ep):fz o=false:=by unfold fz;rw[h]
theorem J5{o:Obj}{v:Option Value}(h:o.data=.cell v):fz o=false:=by unfold fz;rw[h]
theorem mK{o:Obj}{c:Value}(hc:o.cls=c)(hn:(c==.type "tuple"||c==.type "traceback")=false):fz o=false:=by
 have h:=or_eq_false_iff.mp hn
 unfold fz;rw[hc,h.1,h.2]
 cases o.data<;>rfl
theorem wG{o:Obj}{es:Array DictEntry}{ep:Nat}(h:o.data=.dict es ep):dK o=true:=by unfold dK;rw[h]
theorem sK{o:Obj}{vs:Array Value}(h:o.data=.fields vs):dK o=false:=by unfold dK;rw[h]
theorem J6{o:Obj}{v:Option Value}(h:o.data=.cell v):dK o=false:=by unfold dK;rw[h]
theorem no{P:Prop}{b:Bool}(h:b=true)(h':b=false):P:=by rw[h] at h';cases h'
theorem zD{o:Obj}(h:dK o=true):fF o=false:=by
 unfold dK at h;unfold fF
 cases e:o.data<;>rw[e] at h<;>first|rfl|cases h
theorem DJ{o:Obj}(h:fF o=true):fz o=true:=by
 unfold fF at h;unfold fz
 cases e:o.data<;>rw[e] at h<;>first|exact h|cases h
structure ij(o o':Obj):Prop where
 eq:dK o=false->fF o=false->o'=o
 data:fF o=false->o'.data=o.data/\o'.cls=o.cls
 tb:fF o=true->fF o'=true
theorem ij.refl{o:Obj}:ij o o:=⟨λZ Z=>rfl,λZ=>⟨rfl,rfl⟩,id⟩
theorem ij.dd{o o':Obj}(h:ij o o')(hb:fF o=false):dK o'=dK o/\fF o'=false/\fz o'=fz o:=by
 have x:=h.data hb
 unfold dK fF fz
 rw[x.1,x.2]
 exact⟨rfl,hb,rfl⟩
theorem ij.trans{a b c:Obj}(h:ij a b)(k:ij b c):ij a c:=
 ⟨λh1 h2=>have x:=h.dd h2;(k.eq (x.1.trans h1) x.2.1).trans (h.eq h1 h2),λh2=>have x:=h.dd h2;have y:=k.data x.2.1;have z:=h.data h2;⟨y.1.trans z.1,y.2.trans z.2⟩,λh2=>k.tb (h.tb h2)⟩
theorem ij.dK{o o':Obj}(h:ij o o')(hd:Mine.dK o=true):Mine.dK o'=true:=(h.dd (zD hd)).1.trans hd
theorem ij.fz{o o':Obj}(h:ij o o')(hf:Mine.fz o=true):Mine.fz o'=true:=by
 cases e:fF o with
 |true=>exact DJ (h.tb e)
 |false=>exact(h.dd e).2.2.trans hf
structure Kp(p q:Ws):Prop where
 pre:∀(l:Nat) (a:Addr),p.φ[l]?=some a->q.φ[l]?=some a
 wH:∀a o,fz o=true->p.h.get? a=some o->a∉p.φ->(∃o',q.h.get? a=some o'/\ij o o')/\a∉q.φ
structure bL(own:Addr->Prop)(p q:Ws):Prop where
 pre:∀(l:Nat) (a:Addr),p.φ[l]?=some a->q.φ[l]?=some a
 keep:∀a o,p.h.get? a=some o->a∉p.φ->(own a->fz o=true)->∃o',q.h.get? a=some o'/\ij o o'
 fresh:∀a,a∈q.φ->a∉p.φ->p.h.get? a=none
 alive:∀a o,p.h.get? a=some o->∃o',q.h.get? a=some o'/\(a∉p.φ->dK o=true->dK o'=true)
noncomputable abbrev gm:Addr->Prop:=λZ=>False
noncomputable def Ch(io:Addr->Prop)(h h':Heap):Prop:=∀a o,h.get? a=some o->(io a->fz o=true)->h'.get? a=some o
noncomputable def aC(h h':Heap):Prop:=∀a o,h.get? a=some o->h'.get? a=some o
section
variable{own own' io:Addr->Prop}{p q r:Ws}{h h':Heap}{a:Addr}{o:Obj}
theorem aC.push(o:Obj):aC h (h.push o):=λZ Z e=>get?_push_of_some o e
theorem aC.ch(e:aC h h'):Ch io h h':=λa o x Z=>e a o x
theorem Ch.but{b:Addr}(e:ExtBut b h h')(hb:∀o,h.get? b=some o->fz o=false):Ch (·=b) h h':=λa o x hf=>(Classical.em (a=b)).elim (λe'=>no (hf e') (hb o (e'▸x))) λhn=>e a o hn x
theorem bL.refl:bL own p p:=⟨λZ Z e=>e,λZ o e Z Z=>⟨o,e,.refl⟩,λZ h1 h2=>absurd h1 h2,λZ o e=>⟨o,e,λZ h=>h⟩⟩
theorem bL.mL(S:bL own p q)(ho:p.h.get? a=some o)(ha:a∉p.φ):a∉q.φ:=λhm=>bH (S.fresh a hm ha) ho
theorem bL.dead(S:bL own p q)(hn:q.h.get? a=none):p.h.get? a=none:=by
 cases e:p.h.get? a with
 |none=>rfl
 |some o=>exact(S.alive a o e).elim λZ e'=>bH hn e'.1
theorem bL.same(S:bL own p q)(e:p.h.get? a=some o)(hn:a∉p.φ)(h:own a->fz o=true)(hd:dK o=false)(ht:fF o=false):q.h.get? a=some o:=(S.keep a o e hn h).elim λo' x=>x.2.eq hd ht▸x.1
theorem bL.trans(S:bL own p q)(T:bL own q r):bL own p r:=
 ⟨λl a e=>T.pre l a (S.pre l a e),λa o e h1 h2=>(S.keep a o e h1 h2).elim λo1 x=>(T.keep a o1 x.1 (S.mL e h1) λh=>x.2.fz (h2 h)).imp λo2 y=>⟨y.1,x.2.trans y.2⟩,λa h1 h2=>(Classical.em (a∈q.φ)).elim (λh=>S.fresh a h h2) λh=>S.dead (T.fresh a h1 h),
  λa o e=>(S.alive a o e).elim λo1 x=>(T.alive a o1 x.1).imp λo2 y=>⟨y.1,λh1 h2=>y.2 (S.mL e h1) (x.2 h1 h2)⟩⟩
theorem bL.ow(S:bL own p q)(hs:∀a,own a->own' a\/p.h.get? a=none):bL own' p q:=
 ⟨S.pre,λa o e h1 h2=>S.keep a o e h1 λhm=>(hs a hm).elim h2 λhn=>bH hn e,S.fresh,S.alive⟩
theorem bL.nil(S:bL gm p q):bL own p q:=S.ow λZ h=>h.elim
theorem bL.ch(S:bL own p q)(c:Ch io q.h h')(dv:∀a,io a->p.h.get? a=none\/own a/\∃o',h'.get? a=some o'/\∀o,q.h.get? a=some o->dK o=true->dK o'=true):bL own p ⟨q.φ,h'⟩:=
 ⟨S.pre,λa o e h1 h2=>(S.keep a o e h1 h2).imp λo1 x=>⟨c a o1 x.1 λhi=>(dv a hi).elim (λhn=>bH hn e) λy=>x.2.fz (h2 y.1),x.2⟩,S.fresh,
  λa o e=>(S.alive a o e).elim λo1 x=>(Classical.em (io a)).elim (λhi=>(dv a hi).elim (λhn=>bH hn e) λy=>y.2.imp λo2 z=>⟨z.1,λh1 h2=>z.2 o1 x.1 (x.2 h1 h2)⟩) λhn=>⟨o1,c a o1 x.1 λhi=>absurd hi hn,x.2⟩⟩
theorem bL.ext(S:bL own p q)(e:aC q.h h'):bL own p ⟨q.φ,h'⟩:=S.ch (io:=gm) e.ch λZ h=>h.elim
theorem bL.cell(S:bL own p q)(ha:a∈q.φ)(e:ExtBut a q.h h')(ho:h'.get? a=some o):bL own p ⟨q.φ,h'⟩:=
 ⟨S.pre,λb o' x h1 h2=>(S.keep b o' x h1 h2).imp λo1 y=>⟨e b o1 (λe'=>bH (S.fresh b (e'▸ha) h1) x) y.1,y.2⟩,S.fresh,
  λb o' x=>(Classical.em (b=a)).elim (λe'=>⟨o,e'▸ho,λh1 Z=>bH (S.fresh b (e'▸ha) h1) x⟩) λhn=>(S.alive b o' x).imp λo1 y=>⟨e b o1 hn y.1,y.2⟩⟩
theorem bL.adopt{D:Addr}(S:bL own p q)(hD:p.h.get? D=none):bL own p ⟨q.φ++[D],q.h⟩:=
 ⟨λl a e=>DI (S.pre l a e),S.keep,λa h1 h2=>(mem_append.mp h1).elim (λh=>S.fresh a h h2) λh=>mem_singleton.mp h▸hD,S.alive⟩
theorem bL.kp(S:bL own p q):Kp p q:=⟨S.pre,λa o z e hn=>⟨S.keep a o e hn (λZ=>z),S.mL e hn⟩⟩
theorem Ch.kp{φ:List Addr}(c:Ch io h h'):Kp ⟨φ,h⟩ ⟨φ,h'⟩:=⟨λZ Z e=>e,λa o z e hn=>⟨⟨o,c a o e λZ=>z,.refl⟩,hn⟩⟩
theorem Kp.refl:Kp p p:=⟨λZ Z e=>e,λZ o Z e hn=>⟨⟨o,e,.refl⟩,hn⟩⟩
theorem Kp.trans(S:Kp p q)(T:Kp q r):Kp p r:=⟨λl a e=>T.pre l a (S.pre l a e),λa o z e hn=>have h:=S.wH a o z e hn;h.1.elim λo1 x=>have k:=T.wH a o1 (x.2.fz z) x.1 h.2;⟨k.1.imp λo2 y=>⟨y.1,x.2.trans y.2⟩,k.2⟩⟩
theorem Kp.adopt{D:Addr}{φ:List Addr}(hD:∀o,h.get? D=some o->fz o=false):Kp ⟨φ,h⟩ ⟨φ++[D],h⟩:=
 ⟨λl a e=>DI e,λa o z e hn=>⟨⟨o,e,.refl⟩,λhm=>(mem_append.mp hm).elim hn λh=>no z (hD o (mem_singleton.mp h▸e))⟩⟩
theorem Kp.aF(K:Kp p q){xs:List Value}{n:Nat}(e:p.h.get? a=some (ku xs n))(hn:a∉p.φ):q.h.get? a=some (ku xs n)/\a∉q.φ:=have h:=K.wH _ _ rfl e hn;⟨h.1.elim λo x=>x.2.eq rfl rfl▸x.1,h.2⟩
theorem aX.kp(K:Kp p q){v:V}{x:Value}(r:aX p v x):aX q v x:=
 aX.rec (motive_1:=λv x Z=>aX q v x) (motive_2:=λvs xs Z=>br q vs xs) .none .bool .int .str (λe Z z hn m=>have h:=K.aF e hn;.aF h.1 m z h.2) (λe=>.ref (K.pre _ _ e)) .dU .nil (λZ Z a b=>.cons a b) r
theorem br.kp(K:Kp p q){vs:List V}{xs:List Value}(r:br p vs xs):br q vs xs:=
 br.ind (M:=λvs xs=>br q vs xs) .nil (λa Z m=>.cons (a.kp K) m) r
theorem aX.mono(S:bL own p q){v:V}{x:Value}(r:aX p v x):aX q v x:=r.kp S.kp
theorem br.mono(S:bL own p q){v:List V}{x:List Value}(r:br p v x):br q v x:=r.kp S.kp
end
section
variable{p:Ws}{vs ws:List V}{xs ys:List Value}{v:V}{x:Value}
theorem br.k1(r:br p [v] xs)(T:List Value->Prop)(k:∀x,aX p v x->T [x]):T xs:=r.inv T λx Z r1 r2=>r2.inv (λxs=>T (x::xs)) (k x r1)
theorem br.k2{u:V}(r:br p [u,v] xs)(T:List Value->Prop)(k:∀x y,aX p u x->aX p v y->T [x,y]):T xs:=r.inv T λx Z r1 r2=>r2.k1 (λxs=>T (x::xs)) λy r2=>k x y r1 r2
theorem br.length(r:br p vs xs):vs.length=xs.length:=br.ind (M:=λvs xs=>vs.length=xs.length) rfl (λZ Z m=>congrArg (·+1) m) r
theorem br.append(r:br p vs xs)(q:br p ws ys):br p (vs++ws) (xs++ys):=br.ind (M:=λvs xs=>br p (vs++ws) (xs++ys)) q (λa Z m=>.cons a m) r
theorem br.one(r:aX p v x):br p [v] [x]:=.cons r .nil
theorem br.get'(r:br p vs xs):∀{i:Nat} {v:V},vs[i]?=some v->∃x,xs[i]?=some x/\aX p v x:=
 br.ind (M:=λvs xs=>∀{i:Nat} {v:V},vs[i]?=some v->∃x,xs[i]?=some x/\aX p v x) (λe=>bH getElem?_nil e) (λ{_ x _ _} a _ m i=>match i with|0=>λe=>⟨x,rfl,Option.some.inj e▸a⟩|i+1=>λe=>m (i:=i) e) r
theorem br.get{P:Prop}{i:Nat}(r:br p vs xs)(e:vs[i]?=some v)(k:∀x,xs[i]?=some x->aX p v x->P):P:=(r.get' e).elim λx h=>k x h.1 h.2
theorem br.take(r:br p vs xs):∀k,br p (vs.take k) (xs.take k):=
 br.ind (M:=λvs xs=>∀k,br p (vs.take k) (xs.take k)) (λk=>by rw[List.take_nil,List.take_nil];exact .nil) (λa Z m k=>match k with|0=>.nil|k+1=>.cons a (m k)) r
theorem br.drop(r:br p vs xs):∀k,br p (vs.drop k) (xs.drop k):=
 br.ind (M:=λvs xs=>∀k,br p (vs.drop k) (xs.drop k)) (λk=>by rw[drop_nil,drop_nil];exact .nil) (λa b m k=>match k with|0=>.cons a b|k+1=>m k) r
theorem br.set(r:br p vs xs)(q:aX p v x):∀k,br p (vs.set k v) (xs.set k x):=
 br.ind (M:=λvs xs=>∀k,br p (vs.set k v) (xs.set k x)) (λZ=>.nil) (λa b m k=>match k with|0=>.cons q b|k+1=>.cons a (m k)) r
end
inductive L2{α β:Type}(M:α->β->Prop):List α->List β->Prop
 |nil:L2 M [] []
 |cons {a:α} {b:β} {as:List α} {bs:List β}:M a b->L2 M as bs->L2 M (a::as) (b::bs)
section
variable{α β:Type}{M N:α->β->Prop}{as VM:List α}{bs nR:List β}
theorem L2.imp(h:L2 M as bs)(k:∀a b,M a b->N a b):L2 N as bs:=h.rec .nil λa Z m=>.cons (k _ _ a) m
theorem L2.length(h:L2 M as bs):as.length=bs.length:=h.rec rfl λZ Z m=>congrArg (·+1) m
theorem L2.snoc{a:α}{b:β}(h:L2 M as bs)(q:M a b):L2 M (as++[a]) (bs++[b]):=h.rec (.cons q .nil) λa Z m=>.cons a m
theorem L2.map{f:α->α}{g:β->β}(h:L2 M as bs)(k:∀a b,M a b->M (f a) (g b)):L2 M (as.map f) (bs.map g):=h.rec .nil λa Z m=>.cons (k _ _ a) m
theorem L2.any{f:α->Bool}{g:β->Bool}(h:L2 M as bs)(k:∀a b,M a b->f a=g b):as.any f=bs.any g:=h.rec rfl λa Z m=>by rw[any_cons,any_cons,k _ _ a,m]
theorem L2.get(h:L2 M as bs):∀{i:Nat} {a:α} {b:β},as[i]?=some a->bs[i]?=some b->M a b:=by
 induction h with
 |nil=>exact λe Z=>bH getElem?_nil e
 |cons q _ m=>
  intro i
  cases i with
  |zero=>exact λe e'=>Option.some.inj e▸Option.some.inj e'▸q
  |succ i=>exact λe e'=>m (i:=i) e e'
theorem L2.find{f:α->Bool}{g:β->Bool}(h:L2 M as bs)(k:∀a b,M a b->f a=g b):(as.find? f=none/\bs.find? g=none)\/∃a b,as.find? f=some a/\bs.find? g=some b/\M a b:=
 h.rec (.inl ⟨rfl,rfl⟩) λ{a b _ _} q _ m=>by
  rw[find?_cons,find?_cons,k _ _ q]
  cases g b with
  |true=>exact .inr ⟨a,b,rfl,rfl,q⟩
  |false=>exact m
end
noncomputable def k9(p:Ws)(e:Int×V)(kv:Int×Value):Prop:=e.1=kv.1/\aX p e.2 kv.2
noncomputable def mh(p:Ws)(e:(Int×Bool)×V)(kv:List Int×Addr×Value):Prop:=kv.1=[e.1.1,if e.1.2 then 1 else 0]/\aX p (kB e.1) (.ref kv.2.1)/\aX p e.2 kv.2.2
theorem k9.kp{p q:Ws}(K:Kp p q)(e:Int×V)(kv:Int×Value)(h:k9 p e kv):k9 q e kv:=⟨h.1,h.2.kp K⟩
theorem mh.kp{p q:Ws}(K:Kp p q)(e:(Int×Bool)×V)(kv:List Int×Addr×Value)(h:mh p e kv):mh q e kv:=⟨h.1,h.2.1.kp K,h.2.2.kp K⟩
noncomputable def DK(k:Int):Value->Bool
 |.int i _=>i==k
 |.bool b=>(if b then(1:Int) else 0)==k
 |_=>false
end Mine
namespace Mine
open PySem
section
variable{A:Around}{E:Value->Shared->Prop}{s:Shared}
noncomputable def bI(b:Bool):Int:=if b then 1 else 0
theorem J7{b:Bool}{Q:Int->Shared->Prop}(h:Q (hashInt (bI b)) {s with toks:=s.toks+1}):wpAny (model X.prog X.w) A (pyHash (.bool b)) Q E s:=by
 unfold pyHash
 refine wpAny_bind ?_
 rw[cRoomFor,if_neg (by exact Bool.false_ne_true)]
 refine wpAny_pure ?_
 refine wpAny_bind (wpAny_specialOf (show s.TypeIs (.bool b) "bool" from rfl) F.slot_bool_hash.lookup ?_)
 refine(?_:wpAny _ _ (if(some (Value.builtin "int.__hash__")==some Value.none)=true then _ else _) Q E s)
 rw[if_neg (by rw[beq_builtin_none];exact Bool.false_ne_true)]
 refine wpAny_bind (wpAny_specialOf (show s.TypeIs (.bool b) "bool" from rfl) F.slot_bool_hash.lookup ?_)
 refine(?_:wpAny _ _ (callSpecialIfBoundUnlessNone? (.bool b) "__hash__" _ >>= _) Q E s)
 refine wpAny_bind (wpAny_callSpecialIfBoundUnlessNone?_slot (show s.TypeIs (.bool b) "bool" from rfl) F.slot_bool_hash
  (wpAny_call_entry F.slot_bool_hash (show s.TypeIs (.bool b) "bool" from rfl) entry_int_hash
   (show wpAny _ _ (do ret (<-mkInt (rawHash (bI b)))) _ _ s from wpAny_ret_mkInt ?_) (args_int_hash _)))
 cases b<;>exact wpAny_pure h
theorem uE{k:Int}{v:Value}(h:DK k v=true){P:Value->Prop}(ki:∀t,P (.int k t))(kb:∀b,bI b=k->P (.bool b)):P v:=by
 cases v with
 |int i t=>obtain rfl:=eq_of_beq h;exact ki t
 |bool b=>exact kb b (eq_of_beq h)
 |_=>exact Bool.noConfusion h
noncomputable def qE:KeyKind X.prog X.w Int where
 is:=DK
 hash:=hashInt
 inj:=λv a b h1 h2=>by cases v with
  |int i t=>exact(eq_of_beq h1).symm.trans (eq_of_beq h2)
  |bool b=>exact(eq_of_beq h1).symm.trans (eq_of_beq h2)
  |_=>exact Bool.noConfusion h1
 byValue:=λk v h=>uE (P:=λv=>carriedByValue v=true) h (λZ=>rfl) λZ Z=>rfl
 pyHash:=λ{A E s k v Q} hv h=>uE (P:=λv=>wpAny (model X.prog X.w) A (PySem.pyHash v) Q E s) hv (λZ=>wpAny_pyHash_int h) λb e=>J7 (e▸h)
 eqBool:=λ{A E s a b u v Q} hu hv h=>by
  refine uE (P:=λu=>wpAny (model X.prog X.w) A (PySem.eqBool u v) Q E s) hu (λt=>?_) λc e=>?_
  ·refine uE (P:=λv=>wpAny (model X.prog X.w) A (PySem.eqBool _ v) Q E s) hv (λt'=>SeqAt.EqAt.int_int _ _ _ _ _ _ _ _ h) λd e'=>?_
   subst e'
   exact SeqAt.EqAt.int_bool _ _ _ _ _ _ _ h
  ·subst e
   refine uE (P:=λv=>wpAny (model X.prog X.w) A (PySem.eqBool _ v) Q E s) hv (λt'=>SeqAt.EqAt.bool_int _ _ _ _ _ _ _ h) λd e'=>?_
   subst e'
   refine SeqAt.EqAt.bool_bool _ _ _ _ _ _ ?_
   cases c<;>cases d<;>exact h
 «strs»:=λk x t v h=>Bool.noConfusion h
noncomputable abbrev kD:KeyKind X.prog X.w Int:=intKind X.prog X.w
noncomputable abbrev lj:HeapKind X.prog X.w (List Int):=tupleKind qE
noncomputable def pK(q:Int×Bool):List Int:=[q.1,bI q.2]
theorem DL{q q':Int×Bool}(h:pK q=pK q'):q=q':=by
 obtain⟨i,b⟩:=q
 obtain⟨j,c⟩:=q'
 have h1:i=j:=(List.cons.inj h).1
 have h2:bI b=bI c:=(List.cons.inj (List.cons.inj h).2).1
 clear h
 subst h1
 cases b<;>cases c<;>first|rfl|exact absurd h2 (by decide)
theorem uF{p:Ws}{q:Int×Bool}{a:Addr}(r:aX p (kB q) (.ref a)):lj.is p.h (pK q) a:=by
 have key:∀x,aX p (kB q) x->x=.ref a->lj.is p.h (pK q) a:=λx r=>r.inv (λx=>x=.ref a->lj.is p.h (pK q) a) λb n xs e rl Z Z h=>by
  cases h
  refine⟨_,_,n,e,rfl,rfl,?_⟩
  refine(?_:ItemsAre qE (pK q) xs)
  exact rl.inv (λxs=>ItemsAre qE (pK q) xs) λx xs r1 rl=>r1.inv (λx=>ItemsAre qE (pK q) (x::xs)) λt=>rl.inv (λxs=>ItemsAre qE (pK q) (_::xs)) λy ys r2 rl=>
   r2.inv (λy=>ItemsAre qE (pK q) (_::y::ys)) (rl.inv (λys=>ItemsAre qE (pK q) (_::_::ys)) (.cons (beq_self_eq_true _) (.cons (beq_self_eq_true _) .nil)))
 exact key _ r rfl
end
noncomputable def lk(ns:List Str)(ρ:aP)(x:Str):Option V:=(ρ[ns.idxOf x]?).join
inductive ik(p:Ws):Option V->Option Value->Prop
 |none:ik p none none
 |some {v:V} {x:Value}:aX p v x->ik p (some v) (some x)
theorem ik.kp{p q:Ws}(K:Kp p q){v:Option V}{x:Option Value}(r:ik p v x):ik q v x:=r.casesOn (motive:=λv x Z=>ik q v x) .none λr=>.some (r.kp K)
theorem ik.inv{p:Ws}{v:V}{u:Option V}{x:Option Value}(r:ik p u x)(e:u=Option.some v)(P:Option Value->Prop)(k:∀y,aX p v y->P (Option.some y)):P x:=
 r.casesOn (motive:=λu x Z=>u=Option.some v->P x) (λe=>bH rfl e) (λr e=>k _ (Option.some.inj e▸r)) e
noncomputable def sL(p:Ws)(vs:Array Value)(T:Addr)(o:Obj):Prop:=vs[1]?=some (.ref T)/\p.h.get? T=some o/\fF o=true/\T∉p.φ/\X.dm.get? T=none
noncomputable def uG(p:Ws)(vs:Array Value):Prop:=vs[1]?=some .none\/∃T o,sL p vs T o
theorem sL.kp{p q:Ws}{vs:Array Value}{T:Addr}{o:Obj}(K:Kp p q)(x:sL p vs T o):∃o',sL q vs T o':=have y:=K.wH T o (DJ x.2.2.1) x.2.1 x.2.2.2.1;y.1.imp λo' z=>⟨x.1,z.1,z.2.tb x.2.2.1,y.2,x.2.2.2.2⟩
theorem uG.kp{p q:Ws}{vs:Array Value}(K:Kp p q)(h:uG p vs):uG q vs:=h.imp id λh=>h.imp λT h=>h.elim λo x=>x.kp K
structure sM(p:Ws)(fs:aP)(m:Str->Option Value):Prop where
 len:fs.length=gK.bX.length
 at':∀x,x∈gK.bX->ik p (lk gK.bX fs x) (m x)
 out:∀x,x∉gK.bX->m x=none
theorem sM.kp{p q:Ws}{fs:aP}{m:Str->Option Value}(K:Kp p q)(h:sM p fs m):sM q fs m:=⟨h.len,λx hx=>(h.at' x hx).kp K,h.out⟩
inductive eH(p:Ws)(a:Addr):aZ->Prop
 |list {vs:List V} {xs:List Value} {n:Nat}:p.h.get? a=some (gG xs n)->br p vs xs->vs.length<=16000000->eH p a (.list vs)
 |dict {es:List (Int×V)} {o:Obj} {en:Array DictEntry} {ep:Nat} {kvs:List (Int×Value)}:p.h.get? a=some o->o.ExactDict->o.data=.dict en ep->KeysOf kD en->Pairs kD en.toList kvs->(kvs.map (·.1)).Nodup->L2 (k9 p) es kvs->(a==sysModules)=false->es.length<=16000000->eH p a (.dict ep es)
 |cD {es:List ((Int×Bool)×V)} {o:Obj} {en:Array DictEntry} {ep:Nat} {xs:List (List Int×Addr×Value)}:p.h.get? a=some o->o.ExactDict->o.data=.dict en ep->en.toList=xs.map (entryOfKey lj)->(xs.map (·.1)).Nodup->L2 (mh p) es xs->(a==sysModules)=false->es.length<=16000000->eH p a (.cD ep es)
 |exc {k:Nat} {o:Obj} {C:Addr} {vs:Array Value}:p.h.get? a=some o->X.exc[k]?=some C->o.cls=.ref C->o.data=.fields vs->uG p vs->eH p a (.exc k)
 |obj {t:Nat} {o:Obj} {d:Addr}:p.h.get? a=some o->o.cls=.ref X.bk->(∀c,o.data≠.cls c)->o.dict=some d->p.φ[t]?=some d->eH p a (.obj t)
 |bX {fs:aP} {m:Str->Option Value}:p.h.Ns1 a m->sM p fs m->eH p a (.bX fs)
noncomputable def eH.Inv(p:Ws)(a:Addr)(G:Prop):aZ->Prop
 |.list vs=>∀xs n,p.h.get? a=some (gG xs n)->br p vs xs->vs.length<=16000000->G
 |.dict ep es=>∀o en kvs,p.h.get? a=some o->o.ExactDict->o.data=.dict en ep->KeysOf kD en->Pairs kD en.toList kvs->(kvs.map (·.1)).Nodup->L2 (k9 p) es kvs->(a==sysModules)=false->es.length<=16000000->G
 |.cD ep es=>∀o en xs,p.h.get? a=some o->o.ExactDict->o.data=.dict en ep->en.toList=xs.map (entryOfKey lj)->(xs.map (·.1)).Nodup->L2 (mh p) es xs->(a==sysModules)=false->es.length<=16000000->G
 |.exc k=>∀o C vs,p.h.get? a=some o->X.exc[k]?=some C->o.cls=.ref C->o.data=.fields vs->uG p vs->G
 |.obj t=>∀o d,p.h.get? a=some o->o.cls=.ref X.bk->(∀c,o.data≠.cls c)->o.dict=some d->p.φ[t]?=some d->G
 |.bX fs=>∀m,p.h.Ns1 a m->sM p fs m->G
theorem eH.inv{p:Ws}{a:Addr}{c:aZ}(h:eH p a c)(G:Prop):eH.Inv p a G c->G:=
 h.casesOn (motive:=λc Z=>eH.Inv p a G c->G) (λe r z k=>k _ _ e r z) (λe x1 x2 x3 x4 x5 r z n k=>k _ _ _ e x1 x2 x3 x4 x5 r z n) (λe x1 x2 x3 x4 r z n k=>k _ _ _ e x1 x2 x3 x4 r z n) (λe x1 x2 x3 x4 k=>k _ _ _ e x1 x2 x3 x4) (λe x1 x2 x3 x4 k=>k _ _ e x1 x2 x3 x4) (λe x k=>k _ e x)
structure SR(p:Ws)(H:Hp):Prop where
 keep:aC X.dm p.h
 fresh:∀a,a∈p.φ->X.dm.get? a=none
 nodup:p.φ.Nodup
 len:p.φ.length=H.length
 cell:∀(l:Nat) (c:aZ),H[l]?=some c->∃a,p.φ[l]?=some a/\eH p a c
noncomputable def Ap(p:Ws)(a:Addr):Prop:=a∉p.φ/\X.dm.get? a=none
section
variable{own io:Addr->Prop}{p q:Ws}{h h':Heap}{H:Hp}{a:Addr}{c:aZ}{o:Obj}{l:Nat}
theorem eH.kp(K:Kp p q)(ha:∀o,p.h.get? a=some o->q.h.get? a=some o)(r:eH p a c):eH q a c:=
 eH.casesOn (motive:=λc Z=>eH q a c) r (λe r z=>.list (ha _ e) (r.kp K) z) (λe x1 x2 x3 x4 x5 r z n=>.dict (ha _ e) x1 x2 x3 x4 x5 (r.imp (k9.kp K)) z n) (λe x1 x2 x3 x4 r z n=>.cD (ha _ e) x1 x2 x3 x4 (r.imp (mh.kp K)) z n)
  (λe x1 x2 x3 x4=>.exc (ha _ e) x1 x2 x3 (x4.kp K)) (λe x1 x2 x3 x4=>.obj (ha _ e) x1 x2 x3 (K.pre _ _ x4)) (λe x=>.bX (e.at ha) (x.kp K))
theorem eH.ob(r:eH p a c):∃o,p.h.get? a=some o:=
 r.casesOn (λe Z Z=>⟨_,e⟩) (λe Z Z Z Z Z Z Z Z=>⟨_,e⟩) (λe Z Z Z Z Z Z Z=>⟨_,e⟩) (λe Z Z Z Z=>⟨_,e⟩) (λe Z Z Z Z=>⟨_,e⟩) (λe Z=>e.elim λo x=>x.elim λZ x=>x.elim λZ x=>⟨o,x.1⟩)
theorem SR.at{G:Prop}(R:SR p H)(e:H[l]?=some c)(k:∀a,p.φ[l]?=some a->eH p a c->G):G:=(R.cell l c e).elim λa h=>k a h.1 h.2
theorem SR.obj(R:SR p H)(ha:a∈p.φ):∃o,p.h.get? a=some o:=
 (List.mem_iff_getElem?.mp ha).elim λl e=>R.at (l:=l) (getElem?_eq_getElem (R.len▸(List.getElem?_eq_some_iff.mp e).1)) λb hb r=>Option.some.inj (hb.symm.trans e)▸r.ob
theorem SR.ch(R:SR ⟨p.φ,h⟩ H)(dv:∀a,io a->Ap p a)(c:Ch io h h'):SR ⟨p.φ,h'⟩ H:=
 ⟨λa o e=>c a o (R.keep a o e) λhi=>bH (dv a hi).2 e,R.fresh,R.nodup,R.len,λl x e=>R.at e λa ha r=>⟨a,ha,r.kp c.kp λo e=>c a o e λhi=>absurd (mem_of_getElem? ha) (dv a hi).1⟩⟩
theorem SR.ext(R:SR ⟨p.φ,h⟩ H)(e:aC h h'):SR ⟨p.φ,h'⟩ H:=R.ch (io:=gm) (λZ h=>h.elim) e.ch
theorem gR(h:Heap){b:Addr}(hb:h.objs.size<=b):h.get? b=none:=by
 cases e:h.get? b with
 |none=>rfl
 |some o=>exact absurd (lt_size e) (not_lt.mpr hb)
theorem SR.new(R:SR p H)(hn:p.h.get? a=none):Ap p a:=
 ⟨λhm=>(R.obj hm).elim λZ e=>bH hn e,by
  cases e:X.dm.get? a with
  |none=>rfl
  |some o=>exact bH hn (R.keep a o e)⟩
theorem zE{α:Type}{l:List α}(hn:l.Nodup){i j:Nat}{x:α}(hi:l[i]?=some x)(hj:l[j]?=some x):i=j:=(List.getElem?_inj (List.getElem?_eq_some_iff.mp hi).1 hn).mp (hi.trans hj.symm)
theorem SR.adopt(R:SR p H)(hD:Ap p a)(hf:∀o,p.h.get? a=some o->fz o=false)(hc:eH p a c):SR ⟨p.φ++[a],p.h⟩ (H++[c]):=by
 have K:Kp p ⟨p.φ++[a],p.h⟩:=Kp.adopt (φ:=p.φ) (h:=p.h) hf
 refine⟨R.keep,λb hb=>(mem_append.mp hb).elim (R.fresh b) λh=>mem_singleton.mp h▸hD.2,?_,by rw[length_append,length_append,R.len];rfl,λl x e=>?_⟩
 ·exact nodup_append.mpr ⟨R.nodup,List.pairwise_singleton _ _,λx hx y hy e=>hD.1 (mem_singleton.mp hy▸e▸hx)⟩
 ·rcases lt_or_ge l H.length with hl|hl
  ·rw[getElem?_append_left hl] at e
   exact R.at e λb hb r=>⟨b,K.pre l b hb,r.kp K λZ e=>e⟩
  ·have gS:l=H.length:=Nat.le_antisymm (Nat.lt_succ_iff.mp (by simpa using (List.getElem?_eq_some_iff.mp e).1)) hl
   subst gS
   rw[getElem?_append_right (le_refl _),sub_self] at e
   exact⟨a,by rw[getElem?_append_right (le_of_eq R.len),R.len,sub_self];rfl,Option.some.inj e▸hc.kp K λZ e=>e⟩
theorem SR.J8(R:SR p H)(ha:p.φ[l]?=some a)(K:Kp p ⟨p.φ,h'⟩)(h0:aC X.dm h')(e:∀b o,b∈p.φ->b≠a->p.h.get? b=some o->h'.get? b=some o)(hc:eH ⟨p.φ,h'⟩ a c):SR ⟨p.φ,h'⟩ (H.set l c):=by
 refine⟨h0,R.fresh,R.nodup,by rw[length_set];exact R.len,λk x hx=>?_⟩
 by_cases hk:k=l
 ·subst hk
  rw[getElem?_set_self (R.len▸(List.getElem?_eq_some_iff.mp ha).1)] at hx
  exact⟨a,ha,Option.some.inj hx▸hc⟩
 ·rw[getElem?_set_ne (Ne.symm hk)] at hx
  exact R.at hx λb hb r=>⟨b,hb,r.kp K λo y=>e b o (mem_of_getElem? hb) (λe'=>hk (zE R.nodup hb (e'▸ha))) y⟩
theorem DM(ha:p.φ[l]?=some a)(e:ExtBut a p.h h'):Kp p ⟨p.φ,h'⟩:=⟨λZ Z e=>e,λb o z x hn=>⟨⟨o,e b o (λe'=>hn (e'▸mem_of_getElem? ha)) x,.refl⟩,hn⟩⟩
theorem SR.set(R:SR p H)(ha:p.φ[l]?=some a)(e:ExtBut a p.h h')(hc:eH ⟨p.φ,h'⟩ a c):SR ⟨p.φ,h'⟩ (H.set l c):=
 R.J8 ha (DM ha e) (λb o x=>e b o (λe'=>bH (R.fresh b (e'▸mem_of_getElem? ha)) x) (R.keep b o x)) (λb o Z hn x=>e b o hn x) hc
end
end Mine
namespace Mine
open PySem PySem.Calls
noncomputable def nS(k:Option NameKind):Prop:=zx k=true
noncomputable def kG(env:Env)(a:Addr):Prop:=a=env.locals\/∃x,env.cells.lookup x=some a
structure Fc(env:Env):Prop where
 fn:env.scope.kind=.function
 glob:env.globals=mainGlobals
 blt:env.builtins=builtinsNs
 gen:env.scope.isGenerator=false/\env.scope.isCoroutine=false/\interactive env=false
 apart:∀x y c,env.cells.lookup x=some c->env.cells.lookup y=some c->x=y
 ne:∀q,q∈env.cells->q.2≠env.locals
structure FR(env:Env)(ns:List Str)(ρ:aP)(p:Ws):Prop where
 fc:Fc env
 len:ρ.length=ns.length
 loc:∃m,p.h.Ns env.locals m/\∀x,x∈ns->env.kindOf x=some .local->ik p (lk ns ρ x) (m x)
 qF:∀x,x∈ns->nS (env.kindOf x)->∃c v,env.cells.lookup x=some c/\p.h.IsCell c v/\ik p (lk ns ρ x) v
 ap:∀a,kG env a->Ap p a
 live:∀a,kG env a->∃o,p.h.get? a=some o
section
variable{env:Env}{ns:List Str}{ρ:aP}{own io:Addr->Prop}{p q:Ws}{h h':Heap}
theorem mem_lookup{α:Type}{x:Str}{c:α}:∀{l:List (Str×α)},l.lookup x=some c->(x,c)∈l
 |(y,d)::r,h=>by
  rw[lookup_cons] at h
  cases e:x==y with
  |true=>rw[e] at h;rw[eq_of_beq e,Option.some.inj h];exact .head _
  |false=>rw[e] at h;exact .tail _ (mem_lookup h)
theorem sN{x:Str}{c:Addr}(h:env.cells.lookup x=some c):kG env c:=.inr ⟨x,h⟩
theorem J9{a:Addr}{m:Str->Option Value}(hn:h.Ns a m)(e:∀o,h.get? a=some o->h'.get? a=some o):h'.Ns a m:=
 hn.imp λo h=>h.imp λes h=>h.imp λep h=>⟨e o h.1,h.2⟩
theorem zF{a:Addr}{v:Option Value}(hn:h.IsCell a v)(e:∀o,h.get? a=some o->h'.get? a=some o):h'.IsCell a v:=hn.imp λo h=>⟨e o h.1,h.2⟩
theorem DN{a:Addr}{m:Str->Option Value}(hn:h.Ns a m)(e:∀o,h.get? a=some o->∃o',h'.get? a=some o'/\ij o o'):h'.Ns a m:=
 hn.elim λo x=>x.elim λes x=>x.elim λep x=>(e o x.1).elim λo' y=>⟨o',es,ep,y.1,(y.2.data (zD (wG x.2.1))).1.trans x.2.1,x.2.2⟩
theorem Ka{a:Addr}{v:Option Value}(hn:h.IsCell a v)(e:∀o,h.get? a=some o->∃o',h'.get? a=some o'/\ij o o'):h'.IsCell a v:=hn.elim λo x=>(e o x.1).elim λo' y=>⟨o',y.1,(y.2.data (by unfold fF;rw[x.2])).1.trans x.2⟩
theorem FR.kp(F:FR env ns ρ p)(K:Kp p q)(hk:∀a,kG env a->(∀o,p.h.get? a=some o->∃o',q.h.get? a=some o'/\ij o o')/\a∉q.φ):FR env ns ρ q:=
 ⟨F.fc,F.len,F.loc.imp λm h=>⟨DN h.1 (hk _ (.inl rfl)).1,λx hx hl=>(h.2 x hx hl).kp K⟩,λx hx hc=>(F.qF x hx hc).imp λc h=>h.imp λv h=>⟨h.1,Ka h.2.1 (hk c (sN h.1)).1,h.2.2.kp K⟩,
  λa ha=>⟨(hk a ha).2,(F.ap a ha).2⟩,λa ha=>(F.live a ha).elim λo e=>((hk a ha).1 o e).imp λZ x=>x.1⟩
theorem FR.mono(F:FR env ns ρ p)(S:bL own p q)(hn:∀a,kG env a->¬own a):FR env ns ρ q:=
 F.kp S.kp λa ha=>⟨λo e=>S.keep a o e (F.ap a ha).1 λho=>absurd ho (hn a ha),(F.live a ha).elim λo e=>S.mL e (F.ap a ha).1⟩
theorem FR.ch(F:FR env ns ρ ⟨p.φ,h⟩)(c:Ch io h h')(hn:∀a,kG env a->¬io a):FR env ns ρ ⟨p.φ,h'⟩:=
 F.kp c.kp λa ha=>⟨λo e=>⟨o,c a o e λho=>absurd ho (hn a ha),.refl⟩,(F.ap a ha).1⟩
end
theorem g8(i:Nat)(h:i<mG.length):mG[i]'h∈mG:=getElem_mem h
structure jR(A:Around)(n:Nat):Prop where
 depth:A.depth+n+110<=recursionLimit
 units:A.units+5*n+200<=cLine
 frames:∃fe outer,A.frames=some (fe::outer)/\fe.scope.isGenerator=false/\fe.scope.isCoroutine=false/\fe.builtins=builtinsNs/\fe.globals=mainGlobals
theorem jR.less{A:Around}{n m:Nat}(rm:jR A n)(h:m<=n):jR A m:=⟨by have:=rm.depth;exact le_trans (add_le_add_right (add_le_add_left h _) _) this,by have:=rm.units;exact le_trans (add_le_add_right (add_le_add_left (mul_le_mul_left 5 h) _) _) this,rm.frames⟩
noncomputable def iF(A:Around):List Env:=A.frames.getD []
noncomputable def ly(A:Around)(p:Ws):Prop:=∀e,e∈iF A->e.scope.kind=.function/\∃L o,e.frame=some L/\p.h.get? L=some o/\dK o=true/\Ap p L
theorem ly.i5{A:Around}{own:Addr->Prop}{p q:Ws}(F:ly A p)(S:bL own p q):ly A q:=λe he=>
 ⟨(F e he).1,(F e he).2.imp λL x=>x.elim λo x=>(S.alive L o x.2.1).imp λo' y=>⟨x.1,y.1,y.2 x.2.2.2.1 x.2.2.1,S.mL x.2.1 x.2.2.2.1,x.2.2.2.2⟩⟩
noncomputable abbrev upd(s:Shared)(h:Heap)(tk:Nat):Shared:={s with heap:=h,toks:=tk}
structure Pt where
 A:Around
 φ:List Addr
 H:Hp
 s:Shared
 Ex:Value->Shared->Prop
 rm:jR A 0
 R:SR ⟨φ,s.heap⟩ H
 fr:ly A ⟨φ,s.heap⟩
noncomputable abbrev Pt.w(P:Pt):Ws:=⟨P.φ,P.s.heap⟩
theorem Pt.u1(P:Pt):P.A.units+1<cLine:=by have:=P.rm.units;lia
structure Nx(P:Pt)(H:Hp)where
 φ:List Addr
 h:Heap
 tk:Nat
 R:SR ⟨φ,h⟩ H
 S:bL gm P.w ⟨φ,h⟩
section
variable{P:Pt}{H H':Hp}
noncomputable abbrev Nx.w(N:Nx P H):Ws:=⟨N.φ,N.h⟩
noncomputable abbrev Nx.s(N:Nx P H):Shared:=(upd P.s N.h N.tk)
noncomputable abbrev Nx.pt(N:Nx P H):Pt:=⟨P.A,N.φ,H,N.s,P.Ex,P.rm,N.R,P.fr.i5 N.S⟩
noncomputable abbrev Nx.then(N:Nx P H)(N':Nx N.pt H'):Nx P H':=⟨N'.φ,N'.h,N'.tk,N'.R,N.S.trans N'.S⟩
noncomputable abbrev Pt.fQ(P:Pt)(tk:Nat):Nx P P.H:=⟨P.φ,P.s.heap,tk,P.R,.refl⟩
noncomputable abbrev Pt.ext(P:Pt){h':Heap}(e:aC P.s.heap h')(tk:Nat):Nx P P.H:=⟨P.φ,h',tk,P.R.ext (p:=P.w) e,bL.ext (q:=P.w) .refl e⟩
noncomputable abbrev Pt.set(P:Pt){l:Nat}{a:Addr}{c:aZ}{h':Heap}(ha:P.φ[l]?=some a)(e:ExtBut a P.s.heap h')(hc:eH ⟨P.φ,h'⟩ a c)(tk:Nat):Nx P (P.H.set l c):=
 ⟨P.φ,h',tk,SR.set (p:=P.w) P.R ha e hc,hc.ob.elim λZ ho=>bL.cell (q:=P.w) .refl (mem_of_getElem? ha) e ho⟩
theorem Pt.sO(P:Pt){l:Nat}{a:Addr}{h':Heap}(ha:P.φ[l]?=some a)(e:ExtBut a P.s.heap h'):Kp P.w ⟨P.φ,h'⟩:=DM (p:=P.w) ha e
end
theorem uH{α:Type}{A:Around}{m:Sem α}{Q:α->Shared->Prop}{E:Value->Shared->Prop}{s:Shared}(h:wpAny X.M A m Q NE s):wpAny X.M A m Q E s:=wpAny_mono h (λZ Z q=>q) λZ Z h=>h.elim
noncomputable def Kn(P:Pt)(post:PQ)(Q:Value->Shared->Prop):Prop:=∀v H,post v H->∀(N:Nx P H) x,aX N.w v x->Q x N.s
noncomputable def zG(P:Pt)(m:Nat)(post:List V->Hp->Prop)(Q:List Value->Shared->Prop):Prop:=∀v H,post v H->v.length=m->∀(N:Nx P H) x,br N.w v x->Q x N.s
noncomputable def uI(P:Pt)(post:PQ)(Q:Bool->Shared->Prop):Prop:=∀v H,post v H->aJ (truthy H v) λb=>∀(N:Nx P H),Q b N.s
theorem aJ.i{α:Type}{o:Option α}{f:α->Prop}{a:α}(e:o=some a)(h:f a):aJ o f:=by rw[e];exact h
theorem aJ.m{α:Type}{o:Option α}{f g:α->Prop}(h:aJ o f)(k:∀a,f a->g a):aJ o g:=by
 cases o
 ·exact h
 ·exact k _ h
theorem aJ.at{α:Type}{o:Option α}{f:α->Prop}{a:α}(e:o=some a)(h:aJ o f):f a:=by rw[e] at h;exact h
noncomputable def wJ(P:Pt)(post:Bool->Hp->Prop)(Q:Bool->Shared->Prop):Prop:=∀v H,post v H->∀(N:Nx P H),Q v N.s
section
variable{P:Pt}{H:Hp}{Q:Value->Shared->Prop}
theorem Kn.nx{post:PQ}(k:Kn P post Q)(N:Nx P H):Kn N.pt post Q:=λv H' p N' x r=>k v H' p (N.then N') x r
theorem uI.nx{post:PQ}{Q:Bool->Shared->Prop}(k:uI P post Q)(N:Nx P H):uI N.pt post Q:=λv H' p=>(k v H' p).m λb h N'=>h (N.then N')
theorem wJ.nx{post:Bool->Hp->Prop}{Q:Bool->Shared->Prop}(k:wJ P post Q)(N:Nx P H):wJ N.pt post Q:=λv H' p N'=>k v H' p (N.then N')
theorem Kn.now{post:PQ}{v:V}{x:Value}(k:Kn P post Q)(p:post v P.H)(r:aX P.w v x)(tk:Nat):Q x (upd P.s P.s.heap tk):=k v P.H p (P.fQ tk) x r
theorem Kn.list{post:PQ}{vs:List V}{xs:List Value}{h':Heap}{c:Nat}(k:Kn P post Q)(e:aC P.s.heap h')(D:Addr)(hD:P.s.heap.get? D=none)(hg:h'.get? D=some (gG xs c))(r:br P.w vs xs)(hz:vs.length<=16000000)(p:kC vs P.H post)(tk:Nat):Q (.ref D) (upd P.s h' tk):=
 have K:=(bL.ext (own:=gm) (p:=P.w) (q:=P.w) .refl e)
 have fr:=P.R.new (a:=D) hD
 have fr':Ap ⟨P.φ,h'⟩ D:=fr
 k _ _ p ⟨P.φ++[D],h',tk,SR.adopt (p:=⟨P.φ,h'⟩) (c:=.list vs) (P.R.ext (p:=P.w) e) fr' (λo x=>by rw[hg] at x;cases x;exact mK rfl rfl) (.list hg (r.mono K) hz),K.adopt hD⟩ _
  (.ref (by rw[<-P.R.len,getElem?_append_right (le_refl _),sub_self];rfl))
end
noncomputable def DO(a b:Option NameKind):Prop:=a=b\/(nS a/\nS b)
noncomputable def Kinds(sc:Scope)(env:Env):Prop:=∀x,DO (sc.names.lookup x) (env.kindOf x)
structure Lv where
 n:Nat
 m:Nat
 f:Sn
 x:PQ
noncomputable abbrev Lv.c(σ:Lv):Ct:=⟨aA σ.m,σ.x⟩
noncomputable abbrev Lv.ex(σ:Lv)(x:PQ):Lv:=⟨σ.n,σ.m,σ.f,x⟩
noncomputable abbrev Lv.no(σ:Lv):Lv:=σ.ex λZ Z=>False
noncomputable def qG(own:Addr->Prop)(w:Ws)(s:Shared)(x:PQ)(Ex:Value->Shared->Prop):Prop:=∀v H,x v H->∀(φ:List Addr) (h:Heap) (tk:Nat),SR ⟨φ,h⟩ H->bL own w ⟨φ,h⟩->∀y,aX ⟨φ,h⟩ v y->Ex y (upd s h tk)
structure Fp(σ:Lv)extends Pt where
 env:Env
 ρ:aP
 own:Addr->Prop
 kd:Kinds σ.f.sc env
 F:FR env σ.f.ns ρ ⟨φ,s.heap⟩
 rn:jR A σ.n
 hf:∃fe,(iF A).head?=some fe/\fe.frame=env.frame
 calm:σ.f.hd=false->A.handled=none
 kx:qG own ⟨φ,s.heap⟩ s σ.x Ex
noncomputable abbrev Fp.to{σ:Lv}(P:Fp σ){H:Hp}(N:Nx P.toPt H):Fp σ:=⟨N.pt,P.env,P.ρ,P.own,P.kd,P.F.mono N.S λZ Z h=>h,P.rn,P.hf,P.calm,λv H' p φ h tk R S y r=>P.kx v H' p φ h tk R (N.S.nil.trans S) y r⟩
noncomputable abbrev Fp.ex{σ:Lv}(P:Fp σ)(x:PQ)(Ex:Value->Shared->Prop)(kx:qG P.own P.w P.s x Ex):Fp (σ.ex x):=⟨⟨P.A,P.φ,P.H,P.s,Ex,P.rm,P.R,P.fr⟩,P.env,P.ρ,P.own,P.kd,P.F,P.rn,P.hf,P.calm,kx⟩
noncomputable abbrev Fp.no{σ:Lv}(P:Fp σ):Fp σ.no:=P.ex _ NE λZ Z h=>h.elim
theorem Fp.kn{σ:Lv}(P:Fp σ):Kn P.toPt σ.x P.Ex:=λv H p N y r=>P.kx v H p N.φ N.h N.tk N.R N.S.nil y r
noncomputable def b9(σ:Lv)(c:E)(e:Expr):Prop:=
 ∀(P:Fp σ) (post:PQ) (Q:Value->Shared->Prop),WE σ.c c P.ρ P.H post->Kn P.toPt post Q->wpAny X.M P.A (eval e P.env) Q P.Ex P.s
noncomputable def sP(σ:Lv)(c:E)(e:Expr):Prop:=
 ∀(P:Fp σ) (post:PQ) (Q:Bool->Shared->Prop),WE σ.c c P.ρ P.H post->uI P.toPt post Q->wpAny X.M P.A (isTrue e P.env (eval e P.env)) Q P.Ex P.s
noncomputable def sQ(m:Nat):Prop:=
 ∀(P:Pt) (f:Nat) (q:Bool×Str) (a:Addr) (vs:List V) (xs:List Value) (post x:PQ) (Q:Value->Shared->Prop),jR P.A (2*m)->(so.contains f=false->P.A.handled=none) ->
  gK.kX[f]?=some q->(if q.1 then X.mN q.2 else X.mg q.2)=some (.ref a)->br P.w vs xs->aA m f vs P.H post x->Kn P post Q->Kn P x P.Ex->wpAny X.M P.A (call (.ref a) xs) Q P.Ex P.s
end Mine
namespace Mine
open PySem PySem.Calls PyProof.Rows
section
variable{α:Type}{G:Prop}{H:Hp}{x:V}{vs:List V}
theorem aJ.k{o:Option α}{f:α->Prop}(h:aJ o f)(k:∀a,o=some a->f a->G):G:=by
 cases o
 ·exact h.elim
 ·exact k _ rfl h
theorem fE.k{t:Bool}{A:Prop}(h:fE t A)(k:t=true->A->G):G:=by
 cases t
 ·exact h.elim
 ·exact k rfl h
theorem ff.k{f:Int->Prop}(h:ff x f)(P:V->Prop)(k:∀i,f i->P (.int i)):P x:=
 V.casesOn (motive_1:=λx=>ff x f->P x) x (λh=>h.elim) (λZ h=>h.elim) (λi h=>k i h) (λZ h=>h.elim) (λZ h=>h.elim) (λZ h=>h.elim) (λh=>h.elim) h
theorem w1.k{f:V->Prop}(h:w1 vs f)(P:List V->Prop)(k:∀x,f x->P [x]):P vs:=by
 rcases vs with _|⟨a,_|⟨b,l⟩⟩<;>first|exact k _ h|exact h.elim
theorem w2.k{f:V->V->Prop}(h:w2 vs f)(P:List V->Prop)(k:∀x y,f x y->P [x,y]):P vs:=by
 rcases vs with _|⟨a,_|⟨b,_|⟨c,l⟩⟩⟩<;>first|exact k _ _ h|exact h.elim
theorem fZ{β:Type}{o:Option α}{f:α->Option β}{b:β}(h:o.bind f=some b)(k:∀a,o=some a->f a=some b->G):G:=by
 cases o
 ·cases h
 ·exact k _ rfl h
theorem fG{β:Type}{o:Option α}{f:α->β}(P:β->Prop){b:β}(h:o.map f=some b)(k:∀a,o=some a->P (f a)):P b:=by
 cases o
 ·cases h
 ·exact Option.some.inj h▸k _ rfl
theorem qH{c:Prop}[Decidable c]{a b:α}(h:(if c then some a else none)=some b)(P:α->Prop)(k:c->P a):P b:=by
 by_cases hc:c
 ·rw[if_pos hc] at h;exact Option.some.inj h▸k hc
 ·rw[if_neg hc] at h;cases h
theorem DP{c:Prop}[Decidable c]{a b:α}(h:(if c then none else some a)=some b)(P:α->Prop)(k:¬c->P a):P b:=by
 by_cases hc:c
 ·rw[if_pos hc] at h;cases h
 ·rw[if_neg hc] at h;exact Option.some.inj h▸k hc
theorem cellAt.k{β:Type}{f:aZ->Option β}{b:β}(h:cellAt f H x=some b)(P:V->Prop)(k:∀l c,H[l]?=some c->f c=some b->P (.ref l)):P x:=
 V.casesOn (motive_1:=λx=>cellAt f H x=some b->P x) x (λh=>bH rfl h) (λZ h=>bH rfl h) (λZ h=>bH rfl h) (λZ h=>bH rfl h) (λZ h=>bH rfl h) (λl h=>fZ h λc e h=>k l c e h) (λh=>bH rfl h) h
theorem oR.k{c:aZ}(P:aZ->Prop)(h:oR c=some vs)(k:P (.list vs)):P c:=
 c.casesOn (motive:=λc=>oR c=some vs->P c) (λZ h=>Option.some.inj h▸k) (λZ Z h=>bH rfl h) (λZ Z h=>bH rfl h) (λZ h=>bH rfl h) (λZ h=>bH rfl h) (λZ h=>bH rfl h) h
theorem gQ.k{c:aZ}{es:List (Int×V)}(P:aZ->Prop)(h:gQ c=some es)(k:∀ep,P (.dict ep es)):P c:=
 c.casesOn (motive:=λc=>gQ c=some es->P c) (λZ h=>bH rfl h) (λep Z h=>Option.some.inj h▸k ep) (λZ Z h=>bH rfl h) (λZ h=>bH rfl h) (λZ h=>bH rfl h) (λZ h=>bH rfl h) h
theorem jM.k{c:aZ}{es:List ((Int×Bool)×V)}(P:aZ->Prop)(h:jM c=some es)(k:∀ep,P (.cD ep es)):P c:=
 c.casesOn (motive:=λc=>jM c=some es->P c) (λZ h=>bH rfl h) (λZ Z h=>bH rfl h) (λep Z h=>Option.some.inj h▸k ep) (λZ h=>bH rfl h) (λZ h=>bH rfl h) (λZ h=>bH rfl h) h
theorem mH.k{c:aZ}{j:Nat}(P:aZ->Prop)(h:mH c=some j)(k:P (.exc j)):P c:=
 c.casesOn (motive:=λc=>mH c=some j->P c) (λZ h=>bH rfl h) (λZ Z h=>bH rfl h) (λZ Z h=>bH rfl h) (λZ h=>Option.some.inj h▸k) (λZ h=>bH rfl h) (λZ h=>bH rfl h) h
theorem oS.k{c:aZ}{j:Nat}(P:aZ->Prop)(h:oS c=some j)(k:P (.obj j)):P c:=
 c.casesOn (motive:=λc=>oS c=some j->P c) (λZ h=>bH rfl h) (λZ Z h=>bH rfl h) (λZ Z h=>bH rfl h) (λZ h=>bH rfl h) (λZ h=>Option.some.inj h▸k) (λZ h=>bH rfl h) h
theorem oU.k{c:aZ}{fs:aP}(P:aZ->Prop)(h:oU c=some fs)(k:P (.bX fs)):P c:=
 c.casesOn (motive:=λc=>oU c=some fs->P c) (λZ h=>bH rfl h) (λZ Z h=>bH rfl h) (λZ Z h=>bH rfl h) (λZ h=>bH rfl h) (λZ h=>bH rfl h) (λZ h=>Option.some.inj h▸k) h
theorem boolOf.k{b:Bool}(h:boolOf x=some b)(P:V->Prop)(k:P (.bool b)):P x:=
 V.casesOn (motive_1:=λx=>boolOf x=some b->P x) x (λh=>bH rfl h) (λZ h=>Option.some.inj h▸k) (λZ h=>bH rfl h) (λZ h=>bH rfl h) (λZ h=>bH rfl h) (λZ h=>bH rfl h) (λh=>bH rfl h) h
theorem oW.k(h:oW x=some vs)(P:V->Prop)(k:P (.aF vs)):P x:=
 V.casesOn (motive_1:=λx=>oW x=some vs->P x) x (λh=>bH rfl h) (λZ h=>bH rfl h) (λZ h=>bH rfl h) (λZ h=>bH rfl h) (λZ h=>Option.some.inj h▸k) (λZ h=>bH rfl h) (λh=>bH rfl h) h
theorem two.k{α β:Type}{l:List α}{f:α->α->Option β}{b:β}(h:two l f=some b)(P:List α->Prop)(k:∀a c,f a c=some b->P [a,c]):P l:=
 match l,h with
 |[],h=>bH rfl h
 |[_],h=>bH rfl h
 |[a,c],h=>k a c h
 |_::_::_::_,h=>bH rfl h
theorem pairOf.k{q:Int×Bool}(h:pairOf x=some q)(P:V->Prop)(k:P (kB q)):P x:=
 fZ h λvs e h=>oW.k e P (two.k h (λvs=>P (.aF vs)) λa b h=>fZ h λi e h=>intOf.k e (λa=>P (.aF [a,b])) (fG (λq=>P (kB q)->P (.aF [.int i,b])) h (λc e k=>boolOf.k e (λb=>P (.aF [.int i,b])) k) k))
end
section
variable{P:Pt}{v u:V}{x y:Value}{vs:List V}{l:Nat}
theorem Pt.cell{c:aZ}(r:aX P.w (.ref l) x)(e:P.H[l]?=some c)(T:Value->Prop)(k:∀a,P.φ[l]?=some a->eH P.w a c->T (.ref a)):T x:=
 r.inv T λa ha=>P.R.at e λb hb h=>by rw[ha] at hb;cases hb;exact k a ha h
theorem Pt.list(r:aX P.w (.ref l) x)(e:P.H[l]?=some (.list vs))(T:Value->Prop)(k:∀a xs n,P.φ[l]?=some a->P.s.heap.get? a=some (gG xs n)->br P.w vs xs->vs.length<=16000000->T (.ref a)):T x:=
 P.cell r e T λa ha h=>h.inv _ λxs n h1 h2 h3=>k a xs n ha h1 h2 h3
theorem bJ(r:aX P.w v x)(e:dt P.H v=some vs)(T:Value->Prop)(k:∀l a xs n,v=.ref l->P.H[l]?=some (.list vs)->P.φ[l]?=some a->P.s.heap.get? a=some (gG xs n)->br P.w vs xs->vs.length<=16000000->T (.ref a)):T x:=
 cellAt.k e (λu=>v=u->T x) (λl c hl hc=>oR.k (λc=>P.H[l]?=some c->v=.ref l->T x) hc (λhl ev=> P.list (ev▸r) hl T λa xs n h1 h2 h3 h4=>k l a xs n ev hl h1 h2 h3 h4) hl) rfl
theorem uJ{h:Heap}{a:Addr}{xs:List Value}{n:Nat}(e:h.get? a=some (ku xs n)):IsTup h a xs.toArray:=⟨_,e,rfl,n,rfl⟩
theorem jo{h:Heap}{a:Addr}{xs:List Value}{n:Nat}(e:h.get? a=some (gG xs n)):h.IsList a xs.toArray:=⟨_,e,rfl,n,rfl⟩
theorem small{xs:List Value}{p:Ws}(r:br p vs xs)(hz:vs.length<=16000000):(xs.toArray.size:Int)<2^63:=by
 rw[size_toArray,<-r.length];exact Int.lt_of_le_of_lt (ofNat_le.mpr hz) (by decide)
theorem zH{p:Ws}{xs:List Value}{is:List Int}(h:IntsAre xs is):br p (is.map .int) xs:=h.rec (motive:=λxs is Z=>br p (is.map .int) xs) .nil λZ Z Z Z Z ih=>.cons (.int _ _) ih
theorem Gl.jm(G:Good X)(P:Pt){T:Prop}(k:∀xs:List Value,P.s.heap.IsList X.jm xs.toArray->br P.w (X.is.map .int) xs->X.is.length<=1000->T):T:=
 G.dU.elim λxs h=>k xs (h.1.imp λo h=>⟨P.R.keep _ _ h.1,h.2⟩) (zH h.2) (le_trans G.short (by decide))
theorem items(G:Good X)(r:aX P.w v x)(e:k7 P.H v=some vs)(T:Value->Prop)
  (kt:v=.aF vs->∀a xs n,P.s.heap.get? a=some (ku xs n)->br P.w vs xs->vs.length<=16000000->a∉P.φ->T (.ref a)) (kl:∀a xs,P.s.heap.IsList a xs.toArray->br P.w vs xs->vs.length<=16000000->T (.ref a)):T x:=by
 cases v with
 |aF us=>cases e;exact r.inv T λa n xs h1 h2 h3 h4=>kt rfl a xs n h1 h2 h3 h4
 |ref l=>exact bJ r e T λZ a xs n Z Z Z h1 h2 h3=>kl a xs (jo h1) h2 h3
 |dU=>cases e;exact r.inv T (Gl.jm G P λxs h1 h2 h3=>kl _ xs h1 h2 (by rw[length_map];exact le_trans h3 (by decide)))
 |_=>cases e
theorem empty_eq{p:Ws}{xs:List Value}(r:br p vs xs):xs.toArray.isEmpty=vs.isEmpty:=br.ind (M:=λvs xs=>xs.toArray.isEmpty=vs.isEmpty) rfl (λZ Z Z=>rfl) r
theorem zI{b:Bool}{Q:Bool->Shared->Prop}(r:aX P.w v x)(e:truthy P.H v=some b)(k:∀tk,Q b (upd P.s P.s.heap tk)):wpAny X.M P.A (PySem.truthy x) Q P.Ex P.s:=by
 cases v with
 |none=>cases e;exact r.inv (λx=>wpAny X.M P.A (PySem.truthy x) Q P.Ex P.s) (truthy_none (k _))
 |bool b'=>cases e;exact r.inv (λx=>wpAny X.M P.A (PySem.truthy x) Q P.Ex P.s) (wpAny_truthy_bool (k _))
 |int i=>cases e;exact r.inv (λx=>wpAny X.M P.A (PySem.truthy x) Q P.Ex P.s) λt=>truthy_int (k _)
 |aF vs=>cases e;exact r.inv (λx=>wpAny X.M P.A (PySem.truthy x) Q P.Ex P.s) λa n xs h1 h2 h3 Z=>truthy_tuple (uJ h1) (small h2 h3) (empty_eq h2▸k _)
 |ref l=>exact fG (λb=>(∀tk,Q b (upd P.s P.s.heap tk))->wpAny X.M P.A (PySem.truthy x) Q P.Ex P.s) e (λvs e k=>bJ r e (λx=>wpAny X.M P.A (PySem.truthy x) Q P.Ex P.s) λZ a xs n Z Z Z h1 h2 h3=>wpAny_truthy_list (jo h1) (small h2 h3) (empty_eq h2▸k _)) k
 |_=>cases e
theorem Kb(G:Good X)(P:Pt):PylongRoom X.M P.A P.s:=
 P.rm.frames.elim λfe h=>h.elim λouter h=>PylongRoom.of (G.nolimit.keeps P.R.keep) (by have:=P.rm.depth;refine(?_:P.A.depth+100<_);lia) (SeerAt.of (G.seer.keeps P.R.keep) G.tree h.1 h.2.1 h.2.2.1 h.2.2.2.1 h.2.2.2.2)
theorem Kc{op:lV}{a b i:Int}{t t':Tok}{Q:Value->Shared->Prop}(G:Good X)(P:Pt)(e:binI op a b=some i)(k:∀tk t,Q (.int i t) (upd P.s P.s.heap tk)):wpAny X.M P.A (binaryOp (oP op) (.int a t) (.int b t')) Q P.Ex P.s:=by
 cases op with
 |add=>cases e;exact add_int (k _ _)
 |sub=>cases e;exact sub_int (k _ _)
 |mul=>exact qH e (λi=>(∀tk t,Q (.int i t) (upd P.s P.s.heap tk))->_) (λhm k=>mul_int (k _ _) λhc=>by unfold zB at hm;rw[hc] at hm;cases hm) k
 |fdiv=>exact DP e (λi=>(∀tk t,Q (.int i t) (upd P.s P.s.heap tk))->_) (λhb k=>floordiv_int hb (k _ _) (.inr (Kb G P))) k
 |mod=>exact DP e (λi=>(∀tk t,Q (.int i t) (upd P.s P.s.heap tk))->_) (λhb k=>mod_int' hb (k _ _)) k
 |pow=>exact qH e (λi=>(∀tk t,Q (.int i t) (upd P.s P.s.heap tk))->_) (λh k=>by
   obtain⟨rfl,h1,h2⟩:=h
   exact pow_int h1 (by rw[show Builtin.Int.intBits 10=4 by decide];lia) (k _ _)) k
theorem mul_list{a:Addr}{xs:List Value}{n:Nat}{t:Tok}{A:Around}{Ex Q:Value->Shared->Prop}{s:Shared}{M:Model}(prog:Program)(w:World)(eM:M=model prog w)(ha:s.heap.get? a=some (gG xs n))(hz:xs.length<=1000)(k:Q (.ref s.heap.objs.size) {s with heap:=s.heap.push (gG (xs++xs) 0)}):wpAny M A (binaryOp .Mult (.ref a) (.int 2 t)) Q Ex s:=by
 subst eM
 have e:List.foldl (λx1 x2=>x1++x2) #[] (replicate (if xs.toArray.isEmpty=true then 0 else(2:Int).toNat) xs.toArray)=(xs++xs).toArray:=by
  cases xs with
  |nil=>rfl
  |cons x r=>rw[if_neg (by exact Bool.false_ne_true)];exact(congrArg (·++_) (Array.empty_append)).trans (List.append_toArray _ _)
 refine wpAny_binaryOp_repeat_ref (T:="list") (U:="int") (by decide) ⟨_,ha,rfl⟩ (λs'=>typeIs_int s' 2 t) noFill_list_mul PySem.F.fills_int_mul PySem.F.slot_int_rmul repeat_list PySem.F.slot_int_index.lookup
  (call_meets PySem.F.slot_int_rmul (typeIs_int s 2 t) PySem.F.entry_int_rmul (PySem.F.args_int_rmul_2 _ _) (int___rmul___int_list 2 t a xs.toArray n)
   ⟨ha,rfl,⟨_,ha,rfl⟩,call_meets PySem.F.slot_list_mul ⟨_,ha,rfl⟩ PySem.F.entry_list_mul (PySem.F.args_list_mul_2 _ _) (AutoListH.list___mul___list_int_3 a xs.toArray n 2 t (by decide) ?_ ?_) ⟨ha,?_⟩⟩)
 ·rw[size_toArray];show ¬(xs.length*2>(2^63 - 1)/8);lia
 ·unfold Builtin.List.listTooLong
  rw[size_toArray]
  exact λh=>absurd (of_decide_eq_true h) (by show ¬(xs.length*2>16777216);lia)
 ·rw[e];exact k
theorem Kd{op:lV}{post:PQ}{Q:Value->Shared->Prop}(G:Good X)(P:Pt)(r1:aX P.w v x)(r2:aX P.w u y)(p:sI op v u P.H post)(k:Kn P post Q):wpAny X.M P.A (binaryOp (oP op) x y) Q P.Ex P.s:=by
 have key:(aJ (dt P.H v) λxs=>DF op xs u P.H post)->wpAny X.M P.A (binaryOp (oP op) x y) Q P.Ex P.s:=λp=>aJ.k p λxs e1 p=>bJ r1 e1 (λx=>wpAny X.M P.A (binaryOp (oP op) x y) Q P.Ex P.s) λZ a xa ka Z Z Z q1 q2 q3=>by
  cases op with
  |add=>
   refine aJ.k p λys e2 p=>fE.k p λhz p=>?_
   refine bJ r2 e2 (λy=>wpAny X.M P.A (binaryOp .Add _ y) Q P.Ex P.s) λZ b xb kb Z Z Z t1 t2 t3=>?_
   have hl:(xs++ys).length<16000000:=of_decide_eq_true hz
   refine PySem.P.add_list (items:=xa.toArray) (items2:=xb.toArray) q1 t1 ?_ (by rw[size_toArray,size_toArray,<-q2.length,<-t2.length,<-length_append];unfold sizeLine;exact le_trans (le_of_lt hl) (by decide))
   rw[List.append_toArray]
   exact k.list (.push _) _ (gR _ (le_refl _)) (get?_push_size _ rfl) (q2.append t2) (le_of_lt hl) p _
  |mul=>
   exact ff.k p (λu=>aX P.w u y->_) (λn p r2=>by
    obtain⟨⟨rfl,hz⟩,p⟩:=p
    exact r2.inv (λy=>wpAny X.M P.A (binaryOp .Mult _ y) Q P.Ex P.s) λt=>mul_list X.prog X.w rfl q1 (by rw[<-q2.length];exact hz) (k.list (.push _) _ (gR _ (le_refl _)) (get?_push_size _ rfl) (q2.append q2) (by rw[length_append];lia) p _)) r2
  |_=>exact p.elim
 cases v with
 |int a=>exact ff.k p (λu=>aX P.w u y->_) (λb p r2=>aJ.k p λi e p=>r1.inv (λx=>wpAny X.M P.A (binaryOp (oP op) x y) Q P.Ex P.s) λt=>r2.inv (λy=>wpAny X.M P.A (binaryOp (oP op) _ y) Q P.Ex P.s) λt'=>Kc G P e λtk t=>k.now p (.int _ _) tk) r2
 |_=>exact key p
end
inductive mM(h:Heap)(m:Nat)(d:PyData)(x:Value):Prop
 |mk (as:List Addr) (r:Reads h x d as) (c:d.canLay0=true) (l:d.depth<=m):mM h m d x
inductive zJ(h:Heap)(m:Nat)(ds:List PyData)(xs:List Value):Prop
 |mk (as:List Addr) (r:ReadsAll h xs ds as) (c:PyData.canLayAll0 ds=true) (l:PyData.depthAll ds<=m):zJ h m ds xs
theorem Ke(d:PyData)(ds:List PyData):PyData.canLayAll0 (d::ds)=(d.canLay0&&PyData.canLayAll0 ds):=rfl
theorem Kf(d:PyData)(ds:List PyData):PyData.depthAll (d::ds)=max d.depth (PyData.depthAll ds):=rfl
section
variable{P:Pt}{v u:V}{x y:Value}{vs:List V}{l m:Nat}
theorem wK{h:Heap}{p:Ws}{f:V->Option PyData}(hf:∀v d x,f v=some d->aX p v x->mM h m d x){xs:List Value}(r:br p vs xs):∀ds,eA f vs=some ds->zJ h m ds xs:=
 br.ind (M:=λvs xs=>∀ds,eA f vs=some ds->zJ h m ds xs) (λds e=>Option.some.inj e▸⟨_,.nil,rfl,zero_le _⟩) (λ{v x vs xs} r1 _ ih ds e=>by
  unfold eA at e
  cases e1:f v with
  |none=>rw[e1] at e;cases e
  |some d=>
   cases e2:eA f vs with
   |none=>rw[e1,e2] at e;cases e
   |some Kg=>
    rw[e1,e2] at e
    cases e
    exact(hf v d x e1 r1).casesOn λas q1 q2 q3=>(ih Kg e2).casesOn λbs t1 t2 t3=>⟨_,.cons q1 t1,by rw[Ke,q2,t2];rfl,by rw[Kf];exact Nat.max_le.mpr ⟨q3,t3⟩⟩) r
theorem DQ{d:PyData}(e:wA v=some d)(r:aX P.w v x):mM P.s.heap m d x:=
 V.casesOn (motive_1:=λv=>wA v=some d->aX P.w v x->mM P.s.heap m d x) v (λe r=>r.inv _ (Option.some.inj e▸⟨_,.none,rfl,zero_le _⟩)) (λZ e r=>r.inv _ (Option.some.inj e▸⟨_,.bool _,rfl,zero_le _⟩)) (λZ e r=>r.inv _ λt=>Option.some.inj e▸⟨_,.int _ _,rfl,zero_le _⟩)
  (λZ e r=>r.inv _ λt=>qH e (λd=>mM P.s.heap m d (.str _ t)) λhs=>⟨_,.str _ _,hs,zero_le _⟩) (λZ e=>bH rfl e) (λZ e=>bH rfl e) (λe=>bH rfl e) e r
theorem uK(P:Pt)(m:Nat):∀(v:V) (d:PyData) (x:Value),rd P.H m v=some d->aX P.w v x->mM P.s.heap m d x:=by
 induction m with
 |zero=>exact λv d x e r=>DQ e r
 |succ m ih=>
  intro v d x e r
  cases v with
  |aF vs=>exact fG (λd=>mM P.s.heap (m+1) d x) e λds e1=>r.inv (λx=>mM P.s.heap (m+1) (.tuple ds) x) λa n xs h1 h2 Z Z=>(wK ih h2 ds e1).casesOn λas q1 q2 q3=>⟨_,reads_tuple_at h1 rfl rfl q1,q2,succ_le_succ q3⟩
  |ref l=>exact fZ e λvs e0 e=>fG (λd=>mM P.s.heap (m+1) d x) e λds e1=>bJ r e0 (λx=>mM P.s.heap (m+1) (.list ds) x) λZ a xs n Z Z Z h1 h2 Z=>(wK ih h2 ds e1).casesOn λas q1 q2 q3=>⟨_,reads_list_at h1 rfl rfl q1,q2,succ_le_succ q3⟩
  |dU=>cases e
  |_=>exact DQ e r
theorem wL{d:PyData}(h1:d.canLay0=true)(h2:d.depth<=10):SeqAt.shaped d=true:=by
 unfold SeqAt.shaped;rw[h1,Bool.true_and];exact decide_eq_true (by lia)
theorem zK(P:Pt):P.A.units+64<cLine:=by have:=P.rm.units;lia
theorem Kh{x y:Value}{Q:Value->Shared->Prop}(h:wpAny X.M P.A (compareOp .In x y) (λr s'=>∃b,r=.bool b/\Q (.bool (!b)) s') P.Ex P.s):wpAny X.M P.A (compareOp .NotIn x y) Q P.Ex P.s:=by
 intro Γ p Ki
 have:=h Γ p Ki
 change Sem.wp _ _ (contains y x >>= λb=>pure (Value.bool b)) _ _ _ _ at this
 refine(?_:Sem.wp _ _ (contains y x >>= λb=>pure (Value.bool (!b))) _ _ _ _)
 rw[Sem.wp_bind'] at this ⊢
 refine Sem.wp_mono _ _ _ (λb p' s' h'=>?_) (λZ Z Z h'=>h') _ _ this
 rw[Sem.wp_pure'] at h' ⊢
 exact h'.elim λb' h'=>by cases h'.1;exact h'.2
theorem sR(r:aX P.w v x){es:List (Int×V)}(G:Good X)(e:jN P.H v=some es)(T:Value->Prop)(k:∀l ep a kvs,v=.ref l->P.H[l]?=some (.dict ep es)->P.φ[l]?=some a->P.s.heap.DictOf kD a kvs->L2 (k9 P.w) es kvs->(a==sysModules)=false->es.length<=16000000->T (.ref a)):T x:=
 cellAt.k e (λu=>v=u->T x) (λl c hl hc=>gQ.k (λc=>P.H[l]?=some c->v=.ref l->T x) hc (λep hl ev=>P.cell (ev▸r) hl T λa ha h=>h.inv _ λo en kvs x0 x1 x2 x3 x4 x5 r z n=>k l ep a kvs ev hl ha ⟨o,en,ep,x0,x1,x2,x3,x4,x5⟩ r z n) hl) rfl
theorem lW(r:aX P.w v x){es:List ((Int×Bool)×V)}(G:Good X)(e:oV P.H v=some es)(T:Value->Prop)(k:∀l ep a kvs,v=.ref l->P.H[l]?=some (.cD ep es)->P.φ[l]?=some a->P.s.heap.DictOfH lj a kvs->L2 (mh P.w) es kvs->(a==sysModules)=false->es.length<=16000000->T (.ref a)):T x:=
 cellAt.k e (λu=>v=u->T x) (λl c hl hc=>jM.k (λc=>P.H[l]?=some c->v=.ref l->T x) hc (λep hl ev=>P.cell (ev▸r) hl T λa ha h=>h.inv _ λo en kvs x0 x1 x2 x3 x4 r z n=>k l ep a kvs ev hl ha (by
  refine⟨o,en,ep,x0,x1,x2,x3,?_,x4⟩
  clear x3 x4 n
  exact r.rec (motive:=λZ kvs Z=>∀q:List Int×Addr×Value,q∈kvs->lj.is P.s.heap q.1 q.2.1) (λq hq=>nomatch hq) λ{a b _ _} m _ ih q hq=>(mem_cons.mp hq).elim (λe=>by subst e;rw[m.1];exact uF m.2.1) (ih q)) r z n) hl) rfl
theorem DR{es:List (Int×V)}{kvs:List (Int×Value)}{p:Ws}(h:L2 (k9 p) es kvs)(k:Int):(fX es k=none/\valueAt kvs k=none)\/∃v x,fX es k=some v/\valueAt kvs k=some x/\aX p v x:=
 (h.find (f:=λq=>decide (q.1=k)) (g:=λq=>decide (q.1=k)) λa b m=>by rw[m.1]).imp (λh=>⟨congrArg _ h.1,congrArg _ h.2⟩) λh=>h.elim λa h=>h.elim λb h=>⟨a.2,b.2,congrArg _ h.1,congrArg _ h.2.1,h.2.2.2⟩
theorem zL{es:List ((Int×Bool)×V)}{kvs:List (List Int×Addr×Value)}{p:Ws}(h:L2 (mh p) es kvs)(k:Int×Bool):(fX es k=none/\atKey kvs (pK k)=none)\/∃v a x,fX es k=some v/\atKey kvs (pK k)=some (a,x)/\aX p v x:=
 (h.find (f:=λq=>decide (q.1=k)) (g:=λq=>decide (q.1=pK k)) λa b m=>by rw[m.1];exact decide_eq_decide.mpr ⟨λe=>e▸rfl,DL⟩).imp (λh=>⟨congrArg _ h.1,congrArg _ h.2⟩) λh=>h.elim λa h=>h.elim λb h=>⟨a.2,b.2.1,b.2.2,congrArg _ h.1,congrArg _ h.2.1,h.2.2.2.2⟩
theorem zM{K:Type}[DecidableEq K](es:List (K×V))(k:K):iZ es k=(fX es k).isSome:=by
 unfold iZ fX
 rw[Option.isSome_map,List.isSome_find?]
end
section
variable{A:Around}{E:Value->Shared->Prop}{s:Shared}{a b:Addr}{oa ob:Obj}{es kH:Array DictEntry}{ep pn:Nat}
theorem DS(b:Bool):(b==true)=b:=by cases b<;>rfl
theorem DT(b:Bool):(b==false)=!b:=by cases b<;>rfl
theorem DU{nm:String}{Q:Bool->Shared->Prop}(ha:(a==sysModules)=false)(hb:(b==sysModules)=false)(mO:s.heap.get? a=some oa)(uL:oa.data=.dict es ep)(wM:s.heap.get? b=some ob)(wN:ob.data=.dict kH pn)
  (h0:es.size=0\/kH.size=0) (h:Q (es.size==kH.size) s):wpAny X.M A (Builtin.Dict.samePairs nm a b) Q E s:=by
 unfold Builtin.Dict.samePairs Builtin.Dict.showsAll
 rw[if_neg (show ¬(a==sysModules)=true by rw[ha];exact Bool.false_ne_true),if_neg (show ¬(b==sysModules)=true by rw[hb];exact Bool.false_ne_true)]
 refine wpAny_bind (wpAny_pure (wpAny_bind (wpAny_pure ?_)))
 refine wpAny_bind (wpAny_dictEntries mO uL ?_)
 dsimp only
 refine wpAny_bind (wpAny_dictEntries wM wN ?_)
 by_cases jp:es.size=kH.size
 ·rw[if_neg (by rw[jp,bne_self_eq_false];exact Bool.false_ne_true)]
  have hz:es.size=0:=h0.elim id λh=>jp.trans h
  rw[<-jp,beq_self_eq_true] at h
  refine wpAny_bind (wpAny_dictEpoch mO uL ?_)
  rw[hz,Std.Legacy.Range.forIn_eq_forIn_range']
  exact wpAny_bind (wpAny_pure (wpAny_pure h))
 ·rw[if_pos (bne_iff_ne.mpr jp)]
  rw[beq_eq_false_iff_ne.mpr jp] at h
  exact wpAny_bind (wpAny_rule (wpAny_pure h))
theorem Kj{Q:Value->Shared->Prop}(ta:s.TypeIs (.ref a) "dict")(tb:s.TypeIs (.ref b) "dict")(ha:(a==sysModules)=false)(hb:(b==sysModules)=false)(mO:s.heap.get? a=some oa)(uL:oa.data=.dict es ep)(wM:s.heap.get? b=some ob)(wN:ob.data=.dict kH pn)
  (h0:es.size=0\/kH.size=0) (hu:A.units<cLine) :
  (Q (.bool (es.size==kH.size)) s->wpAny X.M A (compareOp .Eq (.ref a) (.ref b)) Q E s)/\(Q (.bool (!(es.size==kH.size))) s->wpAny X.M A (compareOp .NotEq (.ref a) (.ref b)) Q E s):=by
 refine⟨λh=>wpAny_richCompare_same_room (op:=.Eq) ta tb PySem.F.slot_dict_eq (wpAny_call_entry PySem.F.slot_dict_eq ta PySem.F.entry_dict_eq ?_ (PySem.F.args_dict_eq_2 _ _)) hu,λh=>wpAny_richCompare_same_room (op:=.NotEq) ta tb PySem.F.slot_dict_ne (wpAny_call_entry PySem.F.slot_dict_ne ta PySem.F.entry_dict_ne ?_ (PySem.F.args_dict_ne_2 _ _)) hu⟩
 ·refine(?_:wpAny _ _ (Builtin.Dict.dictSlotArgs "__eq__" ⟨[.ref a,.ref b],[]⟩ >>= _) _ _ s)
  refine wpAny_bind (wpAny_bind (wpAny_notOrdered_dict ta (wpAny_pure (wpAny_bind (wpAny_isInstance (T:="dict") tb PySem.F.sub_dict_dict ?_)))))
  refine(?_:wpAny _ _ (Builtin.Dict.addrOf (.ref a) >>= _) _ _ s)
  exact wpAny_bind (wpAny_pure (wpAny_bind (wpAny_pure (wpAny_bind (DU ha hb mO uL wM wN h0 (wpAny_pure ⟨_,rfl,nofun,by rw[DS];exact h⟩))))))
 ·refine(?_:wpAny _ _ (Builtin.Dict.dictSlotArgs "__ne__" ⟨[.ref a,.ref b],[]⟩ >>= _) _ _ s)
  refine wpAny_bind (wpAny_bind (wpAny_notOrdered_dict ta (wpAny_pure (wpAny_bind (wpAny_isInstance (T:="dict") tb PySem.F.sub_dict_dict ?_)))))
  refine(?_:wpAny _ _ (Builtin.Dict.addrOf (.ref a) >>= _) _ _ s)
  exact wpAny_bind (wpAny_pure (wpAny_bind (wpAny_pure (wpAny_bind (DU ha hb mO uL wM wN h0 (wpAny_pure ⟨_,rfl,nofun,by rw[DT];exact h⟩))))))
open AutoSeq1 (wpAny_loadPart') in
open MeetsSeq MeetsSeq3 in
theorem Kk(l b:Addr)(ns ms:List Int)(ts us:Nat->Tok)(n n2:Nat)(items items2:Array Value)(h1:∀j:Nat,items[j]?=ns[j]?.map λi=>.int i (ts j))(h2:∀j:Nat,items2[j]?=ms[j]?.map λi=>.int i (us j))(k:Nat):
  ∀i:Nat,ns.length - i=k->Meets (Builtin.«list.__eq__.loop» ⟨[.ref l,.ref b,rawInt i,rawInt 0],[]⟩)
   (λA R s=>s.heap.get? l=some {cls:=.type "list",dict:=none,data:=.seq items n,slots:=#[]}/\s.heap.get? b=some {cls:=.type "list",dict:=none,data:=.seq items2 n2,slots:=#[]}/\i<=ns.length/\i<=ms.length/\items.size=ns.length/\items2.size=ms.length /\
    R (.ok (.ret (.bool (ky (ns.drop i) (ms.drop i))))) s):=by
 induction k with
 |zero=>
  intro i hk X.prog X.w A R s h
  obtain⟨hp,g,d,tk,os⟩:=s;obtain⟨hl,hb,il,Kl,pu,uM,h⟩:=h
  wp_walk using wpAny_loadPart' hl,wpAny_loadPart' hb
  have wO:items[((i:Nat):Int).toNat]?=none:=by rw[toNat_natCast,h1,getElem?_eq_none (Nat.sub_eq_zero_iff_le.mp hk)];rfl
  rw[wO]
  wp_walk using wpAny_loadPart' hl,wpAny_loadPart' hb
  refine(?_:R (.ok (.ret (.bool (decide (items.size<items2.size))))) _)
  have hd:ns.drop i=[]:=drop_eq_nil_iff.mpr (Nat.sub_eq_zero_iff_le.mp hk)
  rw[hd] at h
  have e:ky [] (ms.drop i)=decide (items.size<items2.size):=by
   cases hm:ms.drop i with
   |nil=>exact(decide_eq_false (by have:=drop_eq_nil_iff.mp hm;exact(by rw[pu,uM];exact not_lt.mpr (le_trans this il)))).symm
   |cons x r=>exact(decide_eq_true (by have:=congrArg List.length hm;rw[length_drop,length_cons] at this;exact(by rw[pu,uM];exact lt_of_le_of_lt (Nat.sub_eq_zero_iff_le.mp hk) (Nat.sub_pos_iff_lt.mp (by rw[this];exact succ_pos _))))).symm
  rw[<-e];exact h
 |succ k ih=>
  intro i hk X.prog X.w A R s h
  obtain⟨hp,g,d,tk,os⟩:=s;obtain⟨hl,hb,il,Kl,pu,uM,h⟩:=h
  wp_walk using wpAny_loadPart' hl,wpAny_loadPart' hb
  have cO:i<ns.length:=Nat.sub_pos_iff_lt.mp (by rw[hk];exact succ_pos _)
  have wO:items[((i:Nat):Int).toNat]?=some (.int ns[i] (ts i)):=by rw[toNat_natCast,h1,getElem?_eq_getElem cO];rfl
  have Km:ns.drop i=ns[i]::ns.drop (i+1):=List.drop_eq_getElem_cons cO
  rw[wO]
  rcases lt_or_ge i ms.length with zN|jS
  ·have wQ:items2[((i:Nat):Int).toNat]?=some (.int ms[i] (us i)):=by rw[toNat_natCast,h2,getElem?_eq_getElem zN];rfl
   have Ko:ms.drop i=ms[i]::ms.drop (i+1):=List.drop_eq_getElem_cons zN
   have hc:((i:Int)+1)=((i+1:Nat):Int):=by push_cast;rfl
   rw[Km,Ko] at h
   rw[wQ]
   refine wpAny_bind (SeqAt.EqAt.int_int _ _ _ _ X.prog X.w _ _ ?_)
   by_cases e:ns[i]=ms[i]
   ·rw[beq_iff_eq.mpr e]
    wp_walk
    rw[hc]
    have e':ky (ns[i]::ns.drop (i+1)) (ms[i]::ms.drop (i+1))=ky (ns.drop (i+1)) (ms.drop (i+1)):=if_pos e
    rw[e'] at h
    exact⟨plainId_quiet plain_eq_loop _,codeAny_builtin entry_eq_loop (by
     rw[Around.under_plainId plain_eq_loop _]
     exact ih (i+1) (by rw[Nat.sub_succ,hk];rfl) X.prog X.w A R _ ⟨hl,hb,cO,zN,pu,uM,h⟩)⟩
   ·rw[beq_eq_false_iff_ne.mpr e]
    wp_walk using wpAny_loadPart' hl,wpAny_loadPart' hb
    rw[wO,wQ]
    have e':ky (ns[i]::ns.drop (i+1)) (ms[i]::ms.drop (i+1))=decide (ns[i]<ms[i]):=if_neg e
    rw[e'] at h
    exact wpAny_bind (PyProof.Rows.lt_int (wpAny_pure h))
  ·have wQ:items2[((i:Nat):Int).toNat]?=none:=by rw[toNat_natCast,h2,getElem?_eq_none jS];rfl
   rw[wQ]
   wp_walk using wpAny_loadPart' hl,wpAny_loadPart' hb
   refine(?_:R (.ok (.ret (.bool (decide (items.size<items2.size))))) _)
   have hd:ms.drop i=[]:=drop_eq_nil_iff.mpr jS
   rw[hd] at h
   have e:ky (ns.drop i) []=decide (items.size<items2.size):=by
    rw[decide_eq_false (by rw[pu,uM];exact not_lt.mpr (le_trans jS (le_of_lt cO)))]
    cases ns.drop i<;>rfl
   rw[<-e];exact h
open AutoSeq1 (wpAny_loadPart') in
open MeetsSeq MeetsSeq3 in
theorem lt_meets(l b:Addr)(ns ms:List Int)(ts us:Nat->Tok)(n n2:Nat)(items items2:Array Value)(h1:∀j:Nat,items[j]?=ns[j]?.map λi=>.int i (ts j))(h2:∀j:Nat,items2[j]?=ms[j]?.map λi=>.int i (us j))(z1:items.size=ns.length)(z2:items2.size=ms.length):
  Meets (Builtin.«list.__lt__» ⟨[.ref l,.ref b],[]⟩) (λA R s=>s.heap.get? l=some {cls:=.type "list",dict:=none,data:=.seq items n,slots:=#[]}/\s.heap.get? b=some {cls:=.type "list",dict:=none,data:=.seq items2 n2,slots:=#[]}/\R (.ok (.ret (.bool (ky ns ms)))) s):=by
 intro X.prog X.w A R s h
 obtain⟨hp,g,d,tk,os⟩:=s;obtain⟨hl,hb,h⟩:=h
 have f3:=AutoSeq1.sub_list_list
 wp_walk using wpAny_loadPart' hl,wpAny_loadPart' hb
 exact⟨plainId_quiet plain_eq_loop _,codeAny_builtin entry_eq_loop (by
  rw[Around.under_plainId plain_eq_loop _]
  exact Kk l b ns ms ts us n n2 items items2 h1 h2 _ 0 rfl X.prog X.w A R _ ⟨hl,hb,zero_le _,zero_le _,z1,z2,h⟩)⟩
end
section
variable{P:Pt}{v u:V}{x y:Value}{vs:List V}{l m:Nat}{Q:Value->Shared->Prop}{b:Bool}
theorem wR{p:Ws}{xs:List Value}(r:br p vs xs):∀is,allInts vs=some is->is.length=xs.length/\∃ts:Nat->Tok,∀j:Nat,xs.toArray[j]?=is[j]?.map λi=>.int i (ts j):=
 br.ind (M:=λvs xs=>∀is,allInts vs=some is->is.length=xs.length/\∃ts:Nat->Tok,∀j:Nat,xs.toArray[j]?=is[j]?.map λi=>.int i (ts j)) (λis e=>Option.some.inj e▸⟨rfl,λZ=>0,λj=>rfl⟩) (λ{v x vs xs} r1 _ ih is e=>fZ e λi ei e=>fG (λis=>is.length=(x::xs).length/\∃ts:Nat->Tok,∀j:Nat,(x::xs).toArray[j]?=is[j]?.map λi=>.int i (ts j)) e λjs ej=>
  intOf.k ei (λv=>aX p v x->_) (λr1=>r1.inv (λx=>(i::js).length=(x::xs).length/\∃ts:Nat->Tok,∀j:Nat,(x::xs).toArray[j]?=(i::js)[j]?.map λi=>.int i (ts j)) λt=>have h:=ih js ej;⟨congrArg (·+1) h.1,h.2.elim λts h=>⟨λj=>match j with|0=>t|j+1=>ts j,λj=>match j with
   |0=>rfl
   |j+1=>by rw[getElem?_toArray,List.getElem?_cons_succ,List.getElem?_cons_succ,<-h j,getElem?_toArray]⟩⟩) r1) r
theorem Kq{a c:Addr}{xs ys:List Value}{us:List V}{ka kc:Nat}{is js:List Int}(h1:P.s.heap.get? a=some (gG xs ka))(h2:P.s.heap.get? c=some (gG ys kc))(r1:br P.w vs xs)(r2:br P.w us ys)(e1:allInts vs=some is)(e2:allInts us=some js)(k:Q (.bool (ky is js)) P.s):wpAny X.M P.A (compareOp .Lt (.ref a) (.ref c)) Q P.Ex P.s:=
 have q1:=wR r1 is e1
 have q2:=wR r2 js e2
 q1.2.elim λts zO=>q2.2.elim λKr Ks=>wpAny_richCompare_same_room (op:=.Lt) (jo h1).typeIs (jo h2).typeIs PySem.F.slot_list_lt
  (call_meets PySem.F.slot_list_lt (jo h1).typeIs PySem.F.entry_list_lt (PySem.F.args_list_lt_2 _ _) (lt_meets a c is js ts Kr ka kc _ _ zO Ks q1.1.symm q2.1.symm) ⟨h1,h2,nofun,k⟩) (by have:=P.rm.units;exact Nat.lt_of_succ_lt P.u1)
theorem jP.k(r:aX P.w v x)(e:jP P.H v=some b)(T:Value->Prop)(k:∀a o en ep,P.s.heap.get? a=some o->o.cls=.type "dict"->o.data=.dict en ep->b=decide (en.size=0)->(a==sysModules)=false->T (.ref a)):T x:=by
 have sz:∀{α β:Type} {as:List α} {bs:List β} {M:α->β->Prop} {en:Array DictEntry},L2 M as bs->en.toList.length=bs.length->as.isEmpty=decide (en.size=0):=λ{α β as bs M en} h e=>by
  rw[<-length_toList,e,<-h.length]
  cases as<;>rfl
 unfold jP at e
 cases ed:jN P.H v with
 |some es=>
  rw[ed] at e
  exact cellAt.k ed (λu=>v=u->T x) (λl c hl hc=>gQ.k (λc=>P.H[l]?=some c->v=.ref l->T x) hc (λep hl ev=>P.cell (ev▸r) hl T λa ha h=>h.inv _ λo en kvs x0 x1 x2 x3 x4 x5 r z n=>k a o en ep x0 x1.1 x2 (Option.some.inj e▸sz r x4.length) z) hl) rfl
 |none=>
  rw[ed] at e
  exact fG (λb=>(∀a o en ep,P.s.heap.get? a=some o->o.cls=.type "dict"->o.data=.dict en ep->b=decide (en.size=0)->(a==sysModules)=false->T (.ref a))->T x) e (λes ed k=>cellAt.k ed (λu=>v=u->T x) (λl c hl hc=>jM.k (λc=>P.H[l]?=some c->v=.ref l->T x) hc (λep hl ev=>P.cell (ev▸r) hl T λa ha h=>h.inv _ λo en kvs x0 x1 x2 x3 x4 r z n=>k a o en ep x0 x1.1 x2 (sz r (by rw[x3,length_map])) z) hl) rfl) k
theorem DV(r1:aX P.w v x)(r2:aX P.w u y)(e:jQ P.H v u=some b):(Q (.bool b) P.s->wpAny X.M P.A (compareOp .Eq x y) Q P.Ex P.s)/\(Q (.bool (!b)) P.s->wpAny X.M P.A (compareOp .NotEq x y) Q P.Ex P.s):=by
 unfold jQ at e
 cases eN:jP P.H v with
 |some c=>
  rw[eN] at e
  refine fZ e λd ed e=>qH e (λb=>(Q (.bool b) P.s->wpAny X.M P.A (compareOp .Eq x y) Q P.Ex P.s)/\(Q (.bool (!b)) P.s->wpAny X.M P.A (compareOp .NotEq x y) Q P.Ex P.s)) λsS=>?_
  refine jP.k r1 eN (λx=>(Q (.bool (c&&d)) P.s->wpAny X.M P.A (compareOp .Eq x y) Q P.Ex P.s)/\(Q (.bool (!(c&&d))) P.s->wpAny X.M P.A (compareOp .NotEq x y) Q P.Ex P.s)) λa o en ep a1 a2 a3 a4 a5=>jP.k r2 ed (λy=>(Q (.bool (c&&d)) P.s->wpAny X.M P.A (compareOp .Eq _ y) Q P.Ex P.s)/\(Q (.bool (!(c&&d))) P.s->wpAny X.M P.A (compareOp .NotEq _ y) Q P.Ex P.s)) λa' o' wU pn b1 b2 b3 b4 b5=>?_
  subst a4 b4
  have h0:en.size=0\/wU.size=0:=(or_eq_true_iff.mp sS).imp of_decide_eq_true of_decide_eq_true
  have hb:(decide (en.size=0)&&decide (wU.size=0))=(en.size==wU.size):=by
   rcases h0 with h|h<;>rw[h]<;>cases en.size<;>cases wU.size<;>rfl
  rw[hb]
  exact Kj ⟨o,a1,a2⟩ ⟨o',b1,b2⟩ a5 b5 a1 a3 b1 b3 h0 (by have:=P.rm.units;exact Nat.lt_of_succ_lt P.u1)
 |none=>
  rw[eN] at e
  exact fZ e λd e1 e=>fG (λb=>(Q (.bool b) P.s->wpAny X.M P.A (compareOp .Eq x y) Q P.Ex P.s)/\(Q (.bool (!b)) P.s->wpAny X.M P.A (compareOp .NotEq x y) Q P.Ex P.s)) e λd' e2=>(uK P 10 v d x e1 r1).casesOn λas q1 q2 q3=>(uK P 10 u d' y e2 r2).casesOn λbs p1 p2 p3=>⟨eq_dataH q1 p1 (wL q2 q3) (wL p2 p3) (zK P),ne_dataH q1 p1 (wL q2 q3) (wL p2 p3) (zK P)⟩
theorem DW(G:Good X)(r1:aX P.w v x)(r2:aX P.w u y)(e:oY P.H v u=some b)(k:∀tk,Q (.bool b) (upd P.s P.s.heap tk)):wpAny X.M P.A (compareOp .In x y) Q P.Ex P.s:=by
 unfold oY at e
 cases ed:jN P.H u with
 |some es=>
  rw[ed] at e
  exact fG (λb=>(∀tk,Q (.bool b) (upd P.s P.s.heap tk))->_) e (λi ei k=>intOf.k ei (λv=>aX P.w v x->_) (λr1=>r1.inv (λx=>wpAny X.M P.A (compareOp .In x y) Q P.Ex P.s) λt=>sR r2 G ed (λy=>wpAny X.M P.A (compareOp .In _ y) Q P.Ex P.s) λZ Z a kvs Z Z Z h2 h3 h1 h4=>
   wpAny_in_of (knd:=kD) (k:=i) (beq_self_eq_true i) h1 h2.mapOf (by
    have h:=zM es i
    rcases DR h3 i with⟨w1,w2⟩|⟨_,_,w1,w2,_⟩<;>rw[w1] at h<;>rw[w2]<;>exact h▸k _)) r1) k
 |none=>
  rw[ed] at e
  cases ep:oV P.H u with
  |some es=>
   rw[ep] at e
   exact fG (λb=>(∀tk,Q (.bool b) (upd P.s P.s.heap tk))->_) e (λi ei k=>pairOf.k ei (λv=>aX P.w v x->_) (λr1=>lW r2 G ep (λy=>wpAny X.M P.A (compareOp .In _ y) Q P.Ex P.s) λZ Z a kvs Z Z Z h2 h3 h1 h4=>r1.inv (λx=>aX P.w (kB i) x->wpAny X.M P.A (compareOp .In x _) Q P.Ex P.s) (λc n xs Z Z Z Z r1=>
    wpAny_in_heap (knd:=lj) (k:=pK i) (by refine(?_:P.A.units+1<cLine);have:=P.rm.units;exact P.u1) (uF r1) h1 h2 (by
     have h:=zM es i
     rcases zL h3 i with⟨w1,w2⟩|⟨_,_,_,w1,w2,_⟩<;>rw[w1] at h<;>rw[w2]<;>exact h▸k _)) r1) r1) k
  |none=>
   rw[ep] at e
   refine fZ e λvs ev e=>fZ e λds eds e=>fG (λb=>(∀tk,Q (.bool b) (upd P.s P.s.heap tk))->_) e (λd e2 k=>(uK P 10 v d x e2 r1).casesOn λbs p1 p2 p3=>?_) k
   have hu:∀{m:Nat},P.A.units+1+min m d.depth<cLine:=by have:=zK P;exact λ{_}=>lt_of_le_of_lt (add_le_add_left (le_trans (min_le_right _ _) p3) _) (lt_of_le_of_lt (add_le_add_left (show 11<=64 by decide) _) this)
   exact items G r2 ev (λy=>wpAny X.M P.A (compareOp .In x y) Q P.Ex P.s) (λZ a xs n h1 h2 Z Z=>(wK (uK P 10) h2 ds eds).casesOn λas q1 q2 q3=>SeqAt.in_tuple_reads (reads_tuple_at h1 rfl rfl q1) p1 q2 p2 hu (k _)) λa xs h1 h2 Z=>(wK (uK P 10) h2 ds eds).casesOn λas q1 q2 q3=>h1.elim λo h1=>h1.2.2.elim λn hd=>SeqAt.in_list_reads (reads_list_at h1.1 h1.2.1 hd q1) p1 q2 p2 hu (k _)
theorem oX.k{f:Int->Int->Bool}(e:oX v u f=some b)(r1:aX P.w v x)(r2:aX P.w u y)(T:Value->Value->Bool->Prop)(k:∀i j t t',T (.int i t) (.int j t') (f i j)):T x y b:=
 fZ e λi ei e=>fG (λb=>T x y b) e λj ej=>intOf.k ei (λv=>aX P.w v x->_) (λr1=>intOf.k ej (λu=>aX P.w u y->_) (λr2=>r1.inv (λx=>T x y _) λt=>r2.inv (λy=>T _ y _) λt'=>k i j t t') r2) r1
theorem sT{op:kU}(G:Good X)(r1:aX P.w v x)(r2:aX P.w u y)(e:eD op v u P.H=some b)(k:∀tk,Q (.bool b) (upd P.s P.s.heap tk)):wpAny X.M P.A (compareOp (qw op) x y) Q P.Ex P.s:=by
 cases op with
 |eq=>exact(DV r1 r2 e).1 (k _)
 |ne=>exact fG (λb=>(∀tk,Q (.bool b) (upd P.s P.s.heap tk))->_) e (λc e k=>(DV r1 r2 e).2 (k _)) k
 |iS=>exact DW G r1 r2 e k
 |iT=>exact fG (λb=>(∀tk,Q (.bool b) (upd P.s P.s.heap tk))->_) e (λc e k=>Kh (DW G r1 r2 e λtk=>⟨_,rfl,k tk⟩)) k
 |le=>exact oX.k e r1 r2 (λx y b=>(∀tk,Q (.bool b) (upd P.s P.s.heap tk))->wpAny X.M P.A (compareOp .LtE x y) Q P.Ex P.s) (λZ Z Z Z k=>le_int (k _)) k
 |gt=>exact oX.k e r1 r2 (λx y b=>(∀tk,Q (.bool b) (upd P.s P.s.heap tk))->wpAny X.M P.A (compareOp .Gt x y) Q P.Ex P.s) (λZ Z Z Z k=>gt_int (k _)) k
 |ge=>exact oX.k e r1 r2 (λx y b=>(∀tk,Q (.bool b) (upd P.s P.s.heap tk))->wpAny X.M P.A (compareOp .GtE x y) Q P.Ex P.s) (λZ Z Z Z k=>ge_int (k _)) k
 |lt=>
  change zC v u P.H=some b at e
  unfold zC at e
  split at e
  ·cases e;exact r1.inv (λx=>wpAny X.M P.A (compareOp .Lt x y) Q P.Ex P.s) λt=>r2.inv (λy=>wpAny X.M P.A (compareOp .Lt _ y) Q P.Ex P.s) λt'=>lt_int (k _)
  ·exact fZ e λis e1 e=>fG (λb=>(∀tk,Q (.bool b) (upd P.s P.s.heap tk))->_) e (λjs e2 k=>fZ e1 λvs e3 e1=>fZ e2 λus e4 e2=>bJ r1 e3 (λx=>wpAny X.M P.A (compareOp .Lt x y) Q P.Ex P.s) λZ a xs n Z Z Z h1 h2 Z=>bJ r2 e4 (λy=>wpAny X.M P.A (compareOp .Lt _ y) Q P.Ex P.s) λZ c ys n' Z Z Z q1 q2 Z=>Kq h1 q1 h2 q2 e1 e2 (k _)) k
  ·cases e
end
section
variable{σ:Lv}{P:Fp σ}{Q:Value->Shared->Prop}{x:Str}{pos:Pos}
theorem Kt{k:Option NameKind}(h:nS k){G:Prop}(kc:k=some .cell->G)(kf:k=some .free->G):G:=by
 cases k with
 |none=>cases h
 |some k=>cases k<;>first|cases h;done|exact kc rfl|exact kf rfl
theorem k4.k{ns:List Str}{i:Nat}{G:Prop}(h:k4 ns i x=true)(k:ns.idxOf x=i->x∈ns->G):G:=aU h λh1 h2=>by
 have h1:=of_decide_eq_true h1
 exact k h1 (List.idxOf_lt_length_iff.mp (h1▸of_decide_eq_true h2))
theorem Ku{i:Nat}(h:Dx σ.f i x=true):b9 σ (.J i) (.Name x pos):=λP post Q p k=>
 aU h λh1 h=>aU h λh2 h=>aU h λh3 h4=>k4.k h1 λhi hx=>aJ.k p λv hv p=>by
  rw[<-hi] at hv
  refine wpAny_Name ?_ (not_eq_true' _▸h3)
  have key:P.env.kindOf x=some .local\/nS (P.env.kindOf x):=by
   rcases P.kd x with e|⟨_,e⟩
   ·rw[<-e]
    revert h2
    cases σ.f.sc.names.lookup x with
    |none=>exact λh=>Bool.noConfusion h
    |some k=>cases k<;>first|exact λh=>Bool.noConfusion h|exact λZ=>.inl rfl|exact λZ=>.inr rfl
   ·exact .inr e
  rcases key with hk|hk
  ·exact P.F.loc.elim λm h=>(h.2 x hx hk).inv hv (λy=>m x=y->_) (λy r e=>wpAny_loadName_local P.F.fc.fn hk h.1 e (k.now p r _)) rfl
  ·exact(P.F.qF x hx hk).elim λc h=>h.elim λy h=>h.2.2.inv hv (λy=>P.s.heap.IsCell c y->_) (λy r e=>Kt hk (λhk=>wpAny_loadName_cell P.F.fc.fn hk h.1 e (k.now p r _)) λhk=>wpAny_loadName_free P.F.fc.fn hk h.1 e (k.now p r _) (not_eq_true' _▸h4)) h.2.1
theorem Kinds.glob{env:Env}(kd:Kinds σ.f.sc env){G:Prop}(h:lZ σ.f x=true)(k:env.kindOf x=some .globalImplicit->(x==("__debug__":Str))=false->G):G:=aU h λh1 h2=>by
 have h1:=of_decide_eq_true h1
 rcases kd x with e|⟨e,_⟩
 ·exact k (e▸h1) (not_eq_true' _▸h2)
 ·rw[h1] at e;cases e
theorem sU(G:Good X)(P:Fp σ){y:Value}(e:X.mg x=some y)(h:lZ σ.f x=true)(hQ:Q y P.s):wpAny X.M P.A (eval (.Name x pos) P.env) Q P.Ex P.s:=
 P.kd.glob h λk1 k2=>Name_function_global P.F.fc.fn k1 (loadGlobal_global (by rw[P.F.fc.glob];exact G.g.keeps P.R.keep) e hQ) k2
theorem pv(G:Good X)(P:Fp σ){y:Value}(e:(x,y)∈mG)(h:lZ σ.f x=true)(hQ:Q y P.s):wpAny X.M P.A (eval (.Name x pos) P.env) Q P.Ex P.s:=
 P.kd.glob h λk1 k2=>have e:=G.bi _ e;Name_function_global P.F.fc.fn k1 (loadGlobal_builtin (by rw[P.F.fc.glob];exact G.g.keeps P.R.keep) e.1 (by rw[P.F.fc.blt];exact G.b.keeps P.R.keep) e.2 hQ) k2
theorem Kv{j:Nat}(G:Good X)(h1:gK.vU[j]?=some x)(h2:lZ σ.f x=true):b9 σ (.gk j) (.Name x pos):=λP post Q p k=>
 aJ.k p λv hv p=>(G.gk j x h1).elim (λh=>h.elim λi h=>h.elim λu h=>sU G P h.2 h2 (k.now p (Option.some.inj (h.1.symm.trans hv)▸aX.int i u) _)) λh=>h.elim λa h=>h.elim λis h=>h.elim λvs h=>h.elim λn h=>sU G P h.2.1 h2 (k.now p (Option.some.inj (h.1.symm.trans hv)▸aX.aF (P.R.keep _ _ h.2.2.1) (zH h.2.2.2.1) (by rw[length_map];exact le_trans h.2.2.2.2 (by decide)) λhm=>bH (P.R.fresh _ hm) h.2.2.1) _)
end
section
variable{P:Pt}{Q:Value->Shared->Prop}{v u:V}{x y:Value}{vs:List V}
theorem k8.k{xs:List Value}{p:Ws}{k:Int}{G:Prop}(r:br p vs xs)(e:k8 vs k=some v)
  (kk:∀j z,seqIndex? k xs.length=some j->xs[j]?=some z->aX p v z->((0<=k/\j=k.toNat)\/(k<0/\-(xs.length:Int)<=k/\j=(k+xs.length).toNat))->G):G:=by
 have hl:=r.length
 unfold k8 at e
 by_cases h0:0<=k
 ·rw[if_pos h0] at e
  refine r.get e λz hz rz=>kk k.toNat z ?_ hz rz (.inl ⟨h0,rfl⟩)
  have cO:=(List.getElem?_eq_some_iff.mp hz).1
  unfold seqIndex?
  rw[if_neg (Int.not_lt.mpr h0),if_pos (by rw[decide_eq_true h0,decide_eq_true ((toNat_lt h0).mp cO)];rfl)]
 ·rw[if_neg h0] at e
  have h1:k<0:=not_le.mp h0
  rw[hl] at e
  by_cases h2:-(xs.length:Int)<=k
  ·rw[if_pos h2] at e
   refine r.get e λz hz rz=>kk _ z ?_ hz rz (.inr ⟨h1,h2,rfl⟩)
   unfold seqIndex?
   rw[if_pos h1,if_pos (by rw[decide_eq_true (by lia),decide_eq_true (by lia)];rfl)]
  ·rw[if_neg h2] at e;cases e
noncomputable def zP(e:Expr):Bool:=decide (e.ctorIdx≠26)
theorem wV{e:Expr}(h:zP e=true)(o i:Value):subscripted e false o i=operate [o,i] (getItem o i):=by
 cases e<;>first|rfl|cases h
theorem Kw{i:V}{value slice:Expr}(G:Good X)(P:Pt)(hs:zP slice=true)(r1:aX P.w v x)(r2:aX P.w i y)(e:fh v i P.H=some u)(k:∀tk z,aX P.w u z->Q z (upd P.s P.s.heap tk)):wpAny X.M P.A (subscriptTail value slice x y) Q P.Ex P.s:=by
 have two:(pairOf i).bind (λq=>(oV P.H v).bind λes=>fX es q)=some u->wpAny X.M P.A (subscriptTail value slice x y) Q P.Ex P.s:=λe=>
  fZ e λq eq e=>fZ e λes ees e=>pairOf.k eq (λi=>aX P.w i y->_) (λr2=>r2.inv (λy=>aX P.w (kB q) y->wpAny X.M P.A (subscriptTail value slice x y) Q P.Ex P.s) (λa n xs Z Z Z Z r2=>lW r1 G ees (λx=>wpAny X.M P.A (subscriptTail value slice x _) Q P.Ex P.s) λZ Z d kvs Z Z Z h2 h3 Z Z=>
   tail_any h2.typeIs PySem.slot_dict_getitem.lookup (by
    rcases zL h3 q with⟨w1,_⟩|⟨_,_,_,w1,w2,w3⟩
    ·exact bH w1 e
    ·rw[w1] at e;cases e
     exact wpAny_getItem_heap (knd:=lj) (k:=pK q) (by refine(?_:P.A.units+1<cLine);have:=P.rm.units;exact P.u1) (uF r2) h2 w2 (k _ _ w3)) (wV hs _ _)) r2) r2
 cases i with
 |int j=>
  refine r2.inv (λy=>wpAny X.M P.A (subscriptTail value slice x y) Q P.Ex P.s) λt=>?_
  change (match k7 P.H v with|some vs=>k8 vs j|none=>(jN P.H v).bind λes=>fX es j)=some u at e
  cases hi:k7 P.H v with
  |some vs=>
   rw[hi] at e
   have bd:∀{m:Nat} {l:List Value},vs.length=l.length->vs.length<=16000000->m<l.length->(0<=j/\m=j.toNat)\/(j<0/\-(l.length:Int)<=j/\m=(j+l.length).toNat)->-(2:Int)^63<=j/\j<2^63:=λe hz hm h=>h.elim (λa=>⟨Int.le_trans (by decide) a.1,Int.lt_trans ((toNat_lt a.1).mp (show j.toNat<16000000 from a.2▸lt_of_lt_of_le hm (e▸hz))) (by decide)⟩) λa=>⟨Int.le_trans (Int.le_trans (show -(2:Int)^63<=-16000000 by decide) (Int.neg_le_neg (ofNat_le.mpr (e▸hz)))) a.2.1,Int.lt_trans a.1 (by decide)⟩
   refine items G r1 hi (λx=>wpAny X.M P.A (subscriptTail value slice x _) Q P.Ex P.s) (λZ a xs n h1 h2 h3 Z=>k8.k h2 e λm z q1 q2 q3 q4=>?_) λa xs h1 h2 h3=>k8.k h2 e λm z q1 q2 q3 q4=>?_
   ·have b:=bd h2.length h3 (List.getElem?_eq_some_iff.mp q2).1 q4
    exact item_tupleT (uJ h1) b.1 b.2 q1 q2 (k _ z q3) (wV hs _ _)
   ·have b:=bd h2.length h3 (List.getElem?_eq_some_iff.mp q2).1 q4
    refine tail_any h1.typeIs PySem.slot_list_getitem.lookup ?_ (wV hs _ _)
    rcases q4 with⟨q4,rfl⟩|⟨q4,q5,rfl⟩
    ·exact wpAny_getItem_list h1 q4 b.2 (by rw[getElem?_toArray];exact q2) (k _ z q3)
    ·exact wpAny_getItem_list_neg h1 q4 q5 b.1 (by rw[getElem?_toArray];exact q2) (k _ z q3)
  |none=>
   rw[hi] at e
   exact fZ e λes ees e=>sR r1 G ees (λx=>wpAny X.M P.A (subscriptTail value slice x _) Q P.Ex P.s) λZ Z d kvs Z Z Z h2 h3 Z Z=>tail_any h2.typeIs PySem.slot_dict_getitem.lookup (by
    rcases DR h3 j with⟨w1,_⟩|⟨_,_,w1,w2,w3⟩
    ·exact bH w1 e
    ·rw[w1] at e;cases e
     exact wpAny_getItem_of (knd:=kD) (k:=j) (beq_self_eq_true j) h2.mapOf w2 (k _ _ w3)) (wV hs _ _)
 |_=>exact two e
end
noncomputable def px(w:Bool):BoolOp:=if w then .And else .Or
section
variable{σ:Lv}{A:Around}{env:Env}{s:Shared}{Ex:Value->Shared->Prop}
theorem Kx{w:Bool}{DX DY:Expr}{rest:List Expr}{pos:Pos}{Q:Value->Shared->Prop}(h:wpAny X.M A (eval DX env) (λv bT=>wpAny X.M A (PySem.truthy v) (λc dX=>bx (c==w) (wpAny X.M A (eval (.BoolOp (px w) (DY::rest) pos) env) Q Ex dX) (Q v dX)) Ex bT) Ex s):
  wpAny X.M A (eval (.BoolOp (px w) (DX::DY::rest) pos) env) Q Ex s:=by
 cases w
 ·exact BoolOp_or (wpAny_mono h (λv bT h=>wpAny_mono h (λc dX h=>by cases c<;>exact h) λZ Z h=>h) λZ Z h=>h)
 ·exact BoolOp_and (wpAny_mono h (λv bT h=>wpAny_mono h (λc dX h=>by cases c<;>exact h) λZ Z h=>h) λZ Z h=>h)
theorem Ky{w:Bool}{e:Expr}{rest:List Expr}{Q:Bool->Shared->Prop}(h:wpAny X.M A (isTrue e env (eval e env)) (λc bT=>bx (c==w) (wpAny X.M A (allTrue (px w) rest env) Q Ex bT) (Q c bT)) Ex s):wpAny X.M A (allTrue (px w) (e::rest) env) Q Ex s:=by
 cases w
 ·exact wpAny_allTrue_Or_cons (wpAny_mono h (λc dX h=>by cases c<;>exact h) λZ Z h=>h)
 ·exact wpAny_allTrue_And_cons (wpAny_mono h (λc dX h=>by cases c<;>exact h) λZ Z h=>h)
theorem Kz{w:Bool}{Q:Bool->Shared->Prop}(h:Q w s):wpAny X.M A (allTrue (px w) [] env) Q Ex s:=by
 cases w<;>exact wpAny_pure h
structure dY(σ:Lv)(cs:List E)(es:List Expr):Prop where
 len:cs.length=es.length
 mP:∀(P:Fp σ) (post:List V->Hp->Prop) (Q:List Value->Shared->Prop) (pos:Pos),mf σ.c cs P.ρ P.H post->zG P.toPt cs.length post Q->wpAny X.M P.A (spliced (backTo pos (starEach es P.env))) Q P.Ex P.s
 plain:∀(env:Env) (pos:Pos),(backTo pos (starEach es env)).any (·.1)=false
 get:∀(i:Nat) c e,cs[i]?=some c->es[i]?=some e->b9 σ c e/\sP σ c e
 bo:∀(w:Bool) (P:Fp σ) (post:PQ) (Q:Value->Shared->Prop) (pos:Pos),sJ σ.c w cs P.ρ P.H post->Kn P.toPt post Q->wpAny X.M P.A (eval (.BoolOp (px w) es pos) P.env) Q P.Ex P.s
 wX:∀(w:Bool) (P:Fp σ) (post:PQ) (Q:Bool->Shared->Prop) ,sJ σ.c w cs P.ρ P.H post->uI P.toPt post Q->wpAny X.M P.A (allTrue (px w) es P.env) Q P.Ex P.s
 wY:∀(P:Fp σ) (post:Bool->Hp->Prop) (Q:Bool->Shared->Prop) ,WT σ.c cs P.ρ P.H post->wJ P.toPt post Q ->
  wpAny X.M P.A (forIn es true λc r=>if r=true then do let ok <-isTrue c P.env (eval c P.env);pure (ForInStep.yield ok) else pure (ForInStep.yield r)) Q P.Ex P.s
theorem KA{es:List Expr}{Q:Bool->Shared->Prop}(h:Q false s):
  wpAny X.M A (forIn es false λc r=>if r=true then do let ok <-isTrue c env (eval c env);pure (ForInStep.yield ok) else pure (ForInStep.yield r)) Q Ex s:=by
 induction es with
 |nil=>exact wpAny_pure h
 |cons e r ih=>rw[forIn_cons];exact wpAny_bind (wpAny_pure ih)
theorem pz{c:E}{e:Expr}(h:cg σ.f c e=true)(env:Env)(rest:List Expr):starEach (e::rest) env=(false,eval e env)::starEach rest env:=by
 cases e<;>first|rfl|skip
 exfalso
 cases c<;>exact Bool.noConfusion h
theorem dY.nil:dY σ [] [] where
 len:=rfl
 mP:=λP post Q pos p k=>wpAny_items_nil (k _ _ p rfl (P.fQ _) _ .nil)
 plain:=λZ Z=>rfl
 get:=λi c e h=>bH getElem?_nil h
 bo:=λw P post Q pos p=>p.elim
 wX:=λw P post Q p=>p.elim
 wY:=λP post Q p k=>wpAny_pure (k _ _ p (P.fQ _))
theorem dY.cons{c:E}{cs:List E}{e:Expr}{es:List Expr}(h0:cg σ.f c e=true)(he:b9 σ c e/\sP σ c e)(hs:dY σ cs es):dY σ (c::cs) (e::es) where
 len:=congrArg (·+1) hs.len
 mP:=λP post Q pos p k=>wpAny_items_cons (he.1 P _ _ p (λv H1 p1 N x r=>hs.mP (P.to N) _ _ pos p1 (λvs H2 p2 hl N2 xs r2=>k _ _ p2 (congrArg (·+1) hl) (N.then N2) _ (.cons (r.mono N2.S) r2)))) (pz h0 P.env es)
 get:=λi c' e' h1 h2=>by
  cases i with
  |zero=>cases h1;cases h2;exact he
  |succ i=>exact hs.get i c' e' h1 h2
 plain:=λenv pos=>by
  rw[pz h0 env es]
  exact hs.plain env pos
 bo:=λw P post Q pos p k=>by
  cases cs with
  |nil=>
   cases es with
   |nil=>exact BoolOp_one (he.1 P _ _ p k)
   |cons _ _=>cases hs.len
  |cons c2 cs=>
   cases es with
   |nil=>cases hs.len
   |cons e2 es=>
    refine Kx (he.1 P _ _ p (λv H1 p1 N x r=>aJ.k p1 λb hb p1=>zI (P:=N.pt) r hb λtk=>?_))
    cases hw:b==w with
    |true=>rw[hw] at p1;exact hs.bo w (P.to (N.then (N.pt.fQ tk))) _ _ pos p1 (k.nx _)
    |false=>rw[hw] at p1;exact k _ _ p1 (N.then (N.pt.fQ tk)) _ r
 wX:=λw P post Q p k=>by
  refine Ky ?_
  cases cs with
  |nil=>
   cases es with
   |cons _ _=>cases hs.len
   |nil=>
    refine he.2 P _ _ p (λv H1 p1=>(k v H1 p1).m λb h N=>?_)
    cases hw:b==w with
    |true=>exact Kz (eq_of_beq hw▸h N)
    |false=>exact h N
  |cons c2 cs=>
   refine he.2 P _ _ p (λv H1 p1=>aJ.k p1 λb hb p1=>.i hb λN=>?_)
   cases hw:b==w with
   |true=>rw[hw] at p1;exact hs.wX w (P.to N) _ _ p1 (k.nx N)
   |false=>rw[hw] at p1;exact aJ.at hb (k v H1 p1) N
 wY:=λP post Q p k=>by
  rw[forIn_cons]
  refine wpAny_bind (wpAny_bind (he.2 P _ _ p (λv H1 p1=>p1.m λb p1 N=>wpAny_pure ?_)))
  cases b with
  |true=>exact hs.wY (P.to N) _ _ p1 (k.nx N)
  |false=>exact KA (k _ _ p1 N)
end
section
variable{σ:Lv}{a b c:E}{l r r':Expr}{pos:Pos}
noncomputable def bR(σ:Lv)(c:E)(e:Expr):Prop:=b9 σ c e/\sP σ c e
noncomputable def VN(e:Expr):Bool:=decide (e.ctorIdx≠3/\e.ctorIdx≠0/\e.ctorIdx≠5/\e.ctorIdx≠15)
theorem b9.t{e:Expr}(ev:b9 σ c e)(he:∀env,isTrue e env (eval e env)=(do let v <-eval e env;standAt e.pos;holding [v] (PySem.truthy v))):bR σ c e:=
 ⟨ev,λP post Q p k=>wpAny_isTrue_value (ev P _ _ p (λv H1 p1 N x r=>aJ.k (k v H1 p1) λb hb h=>zI (P:=N.pt) r hb λtk=>h (N.then (N.pt.fQ tk)))) (he _)⟩
theorem qI(ha:b9 σ a l)(hb:b9 σ b r)(P:Fp σ){post:V->V->Hp->Prop}{Q:Value->Value->Shared->Prop}(p:WE σ.c a P.ρ P.H λx H=>WE σ.c b P.ρ H λy H=>post x y H)
  (k:∀v u H,post v u H->∀(N:Nx P.toPt H) x y,aX N.w v x->aX N.w u y->Q x y N.s):wpAny X.M P.A (eval l P.env) (λx bT=>wpAny X.M P.A (eval r P.env) (λy dX=>Q x y dX) P.Ex bT) P.Ex P.s:=
 ha P _ _ p (λv H1 p1 N x r1=>hb (P.to N) _ _ p1 (λu H2 p2 N2 y r2=>k v u H2 p2 (N.then N2) x y (r1.mono N2.S) r2))
theorem KB{v:V}{c:Const}{k:Nat}(h:zv v=some c):b9 σ (.k v) (.Constant c k pos):=λP post Q p k=>
 V.casesOn (motive_1:=λv=>zv v=some c->post v P.H->wpAny X.M P.A (eval (.Constant c _ pos) P.env) Q P.Ex P.s) v (λh p=>Option.some.inj h▸wpAny_Constant_none (k.now p .none _)) (λZ h p=>Option.some.inj h▸wpAny_Constant_bool (k.now p (.bool _) _)) (λZ h p=>Option.some.inj h▸wpAny_Constant_int (k.now p (.int _ _) _))
  (λZ h p=>Option.some.inj h▸wpAny_Constant_str (k.now p (.str _ _) _)) (λZ h=>bH rfl h) (λZ h=>bH rfl h) (λh=>bH rfl h) h p
theorem KC{op:lV}(G:Good X)(ha:b9 σ a l)(hb:b9 σ b r):b9 σ (.bin op a b) (.BinOp l (oP op) r pos):=λP post Q p k=>
 wpAny_BinOp (qI ha hb P p (λv u H q N x y r1 r2=>Kd G N.pt r1 r2 q (k.nx N)))
theorem KD(ha:b9 σ a l):b9 σ (.neg a) (.UnaryOp .USub l pos):=λP post Q p k=>
 wpAny_UnaryOp (ha P _ _ p (λv H1 p1 N x r=>ff.k p1 (λv=>aX N.w v x->_) (λi p1 r=>r.inv (λx=>wpAny X.M P.A (unaryOp .USub x) Q P.Ex N.s) λt=>neg_int (k _ _ p1 (N.then (N.pt.fQ _)) _ (.int _ _))) r))
theorem KE(ha:bR σ a l):bR σ (.not a) (.UnaryOp .Not l pos):=
 ⟨λP post Q p k=>wpAny_UnaryOp (ha.1 P _ _ p (λv H1 p1 N x r=>aJ.k p1 λb hb p1=>not_of (zI (P:=N.pt) r hb λtk=>k _ _ p1 (N.then (N.pt.fQ tk)) _ (.bool _)))),
  λP post Q p k=>wpAny_isTrue_Not (ha.2 P _ _ p (λv H1 p1=>p1.m λb p1=>k _ _ p1))⟩
theorem DZ{w:Bool}{cs:List E}{es:List Expr}(h:dY σ cs es)(hw:∀ρ H post,WE σ.c c ρ H post->sJ σ.c w cs ρ H post):bR σ c (.BoolOp (px w) es pos):=
 ⟨λP post Q p k=>h.bo w P post Q pos (hw _ _ _ p) k,λP post Q p k=>wpAny_isTrue_BoolOp (h.wX w P post Q (hw _ _ _ p) k)⟩
theorem wZ{c:E}{e:Expr}(h:cg σ.f c e=true)(o:CmpOp):behindInMarks o e=false:=by
 cases e<;>first|rfl|skip
 exfalso
 cases c<;>exact Bool.noConfusion h
theorem KF{op:kU}(G:Good X)(h0:cg σ.f b r=true)(ha:b9 σ a l)(hb:b9 σ b r):bR σ (.cmp op a b) (.Compare l [qw op] [r] pos):=
 ⟨λP post Q p k=>wpAny_Compare1 (qI ha hb P p (λv u H q N x y r1 r2=>aJ.k q λt ht q=>sT (P:=N.pt) G r1 r2 ht λtk=>k _ _ q (N.then (N.pt.fQ tk)) _ (.bool _))) (wZ h0 _),
  λP post Q p k=>wpAny_isTrue_Compare1 (qI ha hb P p (λv u H q N x y r1 r2=>aJ.k q λt ht q=>sT (P:=N.pt) G r1 r2 ht λtk=>wpAny_truthy_bool (k _ _ q (N.then (N.pt.fQ tk))))) (wZ h0 _)⟩
theorem KG{op nE:kU}(G:Good X)(h0:cg σ.f c r'=true)(ha:b9 σ a l)(hb:b9 σ b r)(hc:b9 σ c r'):bR σ (.kh op nE a b c) (.Compare l [qw op,qw nE] [r,r'] pos):=by
 refine⟨λP post Q p k=>Compare_chain (ha P _ _ p (λv H1 p1 N x r1=>chain_link (hb (P.to N) _ _ p1 (λu H2 p2 N2 y r2=>aJ.k p2 λt ht p2=>sT (P:=N2.pt) G (r1.mono N2.S) r2 ht λtk=>wpAny_truthy_bool ?_)))) (wZ h0 _),
  λP post Q p k=>isTrue_chain (ha P _ _ p (λv H1 p1 N x r1=>test_link (hb (P.to N) _ _ p1 (λu H2 p2 N2 y r2=>aJ.k p2 λt ht p2=>sT (P:=N2.pt) G (r1.mono N2.S) r2 ht λtk=>wpAny_truthy_bool ?_)))) (wZ h0 _)⟩
 ·have N3:=(N.then N2).then (N2.pt.fQ tk)
  cases t with
  |true=>exact chain_last (hc (P.to ((N.then N2).then (N2.pt.fQ tk))) _ _ p2 (λw H4 p4 N4 z r4=>aJ.k p4 λt' qJ p4=>sT (P:=N4.pt) G (r2.mono N4.S) r4 qJ λmQ=>k _ _ p4 ((N.then N2).then ((N2.pt.fQ tk).then (N4.then (N4.pt.fQ mQ)))) _ (.bool _)))
  |false=>exact k _ _ p2 ((N.then N2).then (N2.pt.fQ tk)) _ (.bool _)
 ·cases t with
  |true=>exact test_last (hc (P.to ((N.then N2).then (N2.pt.fQ tk))) _ _ p2 (λw H4 p4 N4 z r4=>aJ.k p4 λt' qJ p4=>sT (P:=N4.pt) G (r2.mono N4.S) r4 qJ λmQ=>wpAny_truthy_bool (k _ _ p4 ((N.then N2).then ((N2.pt.fQ tk).then (N4.then (N4.pt.fQ mQ)))))))
  |false=>exact k _ _ p2 ((N.then N2).then (N2.pt.fQ tk))
theorem zQ{p:Ws}{v:V}{x:Value}(r:aX p v x):plainIs x .none=true/\(x==Value.none)=tZ v:=
 r.casesOn (motive_1:=λv x Z=>plainIs x .none=true/\(x==Value.none)=tZ v) ⟨rfl,rfl⟩ (λZ=>⟨rfl,rfl⟩) (λZ Z=>⟨rfl,rfl⟩) (λZ Z=>⟨rfl,rfl⟩) (λZ Z Z Z=>⟨rfl,rfl⟩) (λZ=>⟨rfl,rfl⟩) ⟨rfl,rfl⟩
theorem is_none{P:Pt}{w:Bool}{v:V}{x:Value}{Q:Value->Shared->Prop}(r:aX P.w v x)(h:Q (.bool (tZ v==w)) P.s):wpAny X.M P.A (compareOp (if w then .Is else .IsNot) x .none) Q P.Ex P.s:=by
 rw[<-(zQ r).2] at h
 cases w
 ·rw[DT] at h;exact wpAny_isNot_plain (zQ r).1 h
 ·rw[DS] at h;exact wpAny_is_plain (zQ r).1 h
theorem KH{w:Bool}{k:Nat}{kp:Pos}(ha:b9 σ a l):bR σ (.isNone w a) (.Compare l [if w then .Is else .IsNot] [.Constant .none k kp] pos):=
 ⟨λP post Q p k=>wpAny_Compare1 (ha P _ _ p (λv H1 p1 N x r1=>wpAny_Constant_none (is_none (P:=N.pt) r1 (k _ _ p1 N _ (.bool _))))) rfl,
  λP post Q p k=>wpAny_isTrue_Compare1 (ha P _ _ p (λv H1 p1 N x r1=>wpAny_Constant_none (is_none (P:=N.pt) r1 (wpAny_truthy_bool (k _ _ p1 N))))) rfl⟩
theorem D0{cs:List E}{vs:List V}{xs:List Value}{p:Ws}(hc:cs.length<1000)(hl:vs.length=cs.length)(r:br p vs xs):xs.length<=sizeLine/\vs.length<=16000000:=by
 rw[<-r.length,hl];unfold sizeLine;lia
theorem KI{cs:List E}{es:List Expr}{k:Nat}(hc:cs.length<1000)(h:dY σ cs es):b9 σ (.aF cs) (.Tuple es k pos):=λP post Q p k=>
 wpAny_Tuple_spliced (h.mP P _ _ pos p (λvs H1 p1 hl N xs r=>have z:=D0 hc hl r;⟨z.1,k _ _ p1 (N.then (N.pt.ext (.push _) N.tk)) _ (.aF (n:=0) (get?_push_size _ rfl) (r.mono (bL.ext (own:=gm) (p:=N.w) (q:=N.w) .refl (.push _))) z.2 (N.R.new (gR _ (le_refl _))).1)⟩))
theorem KJ{cs:List E}{es:List Expr}(hc:cs.length<1000)(h:dY σ cs es):b9 σ (.bJ cs) (.List es pos):=λP post Q p k=>
 wpAny_List_spliced (h.mP P _ _ pos p (λvs H1 p1 hl N xs r=>have z:=D0 hc hl r;⟨z.1,Kn.list (P:=N.pt) (k.nx N) (.push _) _ (gR _ (le_refl _)) (get?_push_size _ rfl) r z.2 p1 _⟩))
theorem KL{c:E}{e:Expr}(h:cg σ.f c e=true):zP e=true:=by
 cases e<;>first|rfl|skip
 exfalso
 cases c<;>exact Bool.noConfusion h
theorem KM(G:Good X)(h0:cg σ.f b r=true)(ha:b9 σ a l)(hb:b9 σ b r):b9 σ (.aE a b) (.Subscript l r pos):=λP post Q p k=>
 Subscript_ (qI ha hb P p (λv u H q N x y r1 r2=>aJ.k q λw hw q=>Kw G N.pt (KL h0) r1 r2 hw λtk z rz=>k _ _ q (N.then (N.pt.fQ tk)) _ rz))
theorem nU{A:Around}{s:Shared}{f:Value}{args:List (Bool×Sem Value)}{Q:Args->Shared->Prop}{Ex:Value->Shared->Prop}(hp:args.any (·.1)=false)(h:wpAny X.M A (spliced args) (λvs s'=>Q ⟨vs,[]⟩ s') Ex s):wpAny X.M A (evalArgs f true args []) Q Ex s:=by
 cases args with
 |nil=>
  refine(?_:wpAny X.M A (spliced [] >>= _) Q Ex s)
  exact wpAny_bind (wpAny_mono h (λvs s' h'=>wpAny_bind (wpAny_pure (wpAny_holding (wpAny_bind (wpAny_pure (wpAny_bind (wpAny_pure (wpAny_pure h')))))))) λZ Z x=>x)
 |cons a r=>
  obtain⟨b,t⟩:=a
  cases b with
  |false=>exact Calls.evalArgs_plain h
  |true=>cases hp
theorem KN{f:Nat}{x:Str}{cs:List E}{es:List Expr}{np:Pos}(G:Good X)(hc:sQ σ.m)(hn:2*σ.m+1<=σ.n)(h1:gK.kX[f]?=some (false,x))(h2:lZ σ.f x=true)(hh:(!σ.f.hd||so.contains f)=true)(h:dY σ cs es):b9 σ (.call f cs) (.Call (.Name x np) es [] pos):=λP post Q p k=>
 (G.fn f _ h1).casesOn λa o d pm cd doc e1 e3 e4 Z e5 Z=>wpAny_Call_NameR (sU G P e3 h2 (Calls.callWith_function (o:=o) (nU (h.plain P.env pos) (h.mP P _ _ pos p (λvs H1 p1 Z N xs r=>⟨⟨N.R.keep _ _ e4,e5⟩,hc N.pt f _ a vs xs post σ.x Q (P.rn.less (le_of_succ_le hn)) (λhg=>P.calm (by rw[hg,Bool.or_false] at hh;exact not_eq_true' _▸hh)) h1 e3 r p1 (k.nx N) (P.kn.nx N)⟩)))))
end
structure Sx{σ:Lv}(P:Fp σ)(ρ:aP)(H:Hp)where
 φ:List Addr
 h:Heap
 tk:Nat
 R:SR ⟨φ,h⟩ H
 F:FR P.env σ.f.ns ρ ⟨φ,h⟩
 S:bL P.own P.w ⟨φ,h⟩
section
variable{σ:Lv}{P:Fp σ}{ρ bV:aP}{H H':Hp}
noncomputable abbrev Sx.w(N:Sx P ρ H):Ws:=⟨N.φ,N.h⟩
noncomputable abbrev Sx.s(N:Sx P ρ H):Shared:=(upd P.s N.h N.tk)
noncomputable abbrev Sx.fp(N:Sx P ρ H):Fp σ:=⟨⟨P.A,N.φ,H,N.s,P.Ex,P.rm,N.R,P.fr.i5 N.S⟩,P.env,ρ,P.own,P.kd,N.F,P.rn,P.hf,P.calm,λv H' p φ h tk R S y r=>P.kx v H' p φ h tk R (N.S.trans S) y r⟩
noncomputable abbrev Sx.then(N:Sx P ρ H)(N':Sx N.fp bV H'):Sx P bV H':=⟨N'.φ,N'.h,N'.tk,N'.R,N'.F,N.S.trans N'.S⟩
noncomputable abbrev Sx.un{x:PQ}{Ex:Value->Shared->Prop}{kx:qG P.own P.w P.s x Ex}(N:Sx (P.ex x Ex kx) ρ H):Sx P ρ H:=⟨N.φ,N.h,N.tk,N.R,N.F,N.S⟩
noncomputable abbrev Nx.sx(N:Nx P.toPt H):Sx P P.ρ H:=⟨N.φ,N.h,N.tk,N.R,P.F.mono N.S λZ Z h=>h,N.S.nil⟩
end
noncomputable def zR(env:Env)(own:Addr->Prop)(x:Str):Prop:=(env.kindOf x=some .local/\own env.locals)\/(env.kindOf x=some .cell/\∀c,env.cells.lookup x=some c->own c)
section
variable{σ:Lv}
theorem D1{ns:List Str}{i:Nat}{x z:Str}{v:Option V}{ρ:aP}(hx:x∈ns)(hz:z∈ns)(hi:ns.idxOf x=i)(hl:i<ρ.length):lk ns (ρ.set i v) z=if z=x then v else lk ns ρ z:=by
 unfold lk
 by_cases e:z=x
 ·rw[if_pos e,e,hi,getElem?_set_self hl];rfl
 ·rw[if_neg e,getElem?_set_ne λe'=>e ?_]
  have h1:=List.idxOf_lt_length_of_mem hx
  have h2:=List.idxOf_lt_length_of_mem hz
  rw[<-hi] at e'
  have e1:ns[ns.idxOf x]?=some x:=by rw[getElem?_eq_getElem h1,List.getElem_idxOf]
  have e2:ns[ns.idxOf z]?=some z:=by rw[getElem?_eq_getElem h2,List.getElem_idxOf]
  rw[e'] at e1
  exact Option.some.inj (e2.symm.trans e1)
theorem D2{Ex:Value->Shared->Prop}{P:Fp σ}{x:Str}{i:Nat}{v:V}{y:Value}{Q:Unit->Shared->Prop}(hi:σ.f.ns.idxOf x=i)(hx:x∈σ.f.ns)(ho:zR P.env P.own x)(r:aX P.w v y)(k:∀N:Sx P (P.ρ.set i (some v)) P.H,Q () N.s):wpAny X.M P.A (storeName P.env x y) Q Ex P.s:=by
 have sV:i<P.ρ.length:=by rw[P.F.len,<-hi];exact List.idxOf_lt_length_of_mem hx
 have nV:∀z,z∈σ.f.ns->lk σ.f.ns (P.ρ.set i (some v)) z=if z=x then some v else lk σ.f.ns P.ρ z:=λz hz=>D1 hx hz hi sV
 have key:∀(a:Addr) (h':Heap) (tk:Nat),kG P.env a->P.own a->ExtBut a P.s.heap h'->(∀o,P.s.heap.get? a=some o->fz o=false)->(∃o',h'.get? a=some o'/\∀o,P.s.heap.get? a=some o->dK o=true->dK o'=true) ->
   (∀(S:bL P.own P.w ⟨P.φ,h'⟩) (keep:∀b,b≠a->∀o,P.s.heap.get? b=some o->h'.get? b=some o),(∃m,h'.Ns P.env.locals m/\∀z,z∈σ.f.ns->P.env.kindOf z=some .local->ik ⟨P.φ,h'⟩ (lk σ.f.ns (P.ρ.set i (some v)) z) (m z)) /\
    ∀z,z∈σ.f.ns->nS (P.env.kindOf z)->∃c v',P.env.cells.lookup z=some c/\h'.IsCell c v'/\ik ⟨P.φ,h'⟩ (lk σ.f.ns (P.ρ.set i (some v)) z) v')->Q () (upd P.s h' tk):=λa h' tk ha mO he hf hl hF=>
  have c:Ch (·=a) P.s.heap h':=.but he hf
  have S:bL P.own P.w ⟨P.φ,h'⟩:=bL.ch (io:=(·=a)) (q:=P.w) .refl c λb hb=>.inr (hb▸⟨mO,hl⟩)
  have q:=hF S λb hb o e=>he b o hb e
  k ⟨P.φ,h',tk,P.R.ch (p:=P.w) (io:=(·=a)) (λb hb=>hb▸P.F.ap a ha) c,⟨P.F.fc,by rw[length_set];exact P.F.len,q.1,q.2,P.F.ap,λb hb=>(P.F.live b hb).elim λo e=>(S.alive b o e).imp λZ x=>x.1⟩,S⟩
 rcases ho with⟨hk,hL⟩|⟨hk,hc⟩
 ·refine P.F.loc.elim λm hm=>wpAny_storeName_local hk hm.1 (λh' hn hs=>?_) (by rw[P.F.fc.fn];rfl)
  refine key P.env.locals h' _ (.inl rfl) hL hs.extBut (λo e=>hm.1.elim λo' q=>q.elim λZ q=>q.elim λZ q=>by rw[q.1] at e;cases e;exact uD q.2.1) (hn.imp λo q=>q.elim λZ q=>q.elim λZ q=>⟨q.1,λZ Z Z=>wG q.2.1⟩) λS keep=>⟨⟨_,hn,λz hz mi=>?_⟩,λz hz mi=>?_⟩
  ·rw[nV z hz]
   by_cases e:z=x
   ·rw[if_pos e,if_pos e];exact .some (r.mono S)
   ·rw[if_neg e,if_neg e];exact(hm.2 z hz mi).kp S.kp
  ·refine(P.F.qF z hz mi).imp λc q=>q.imp λv' q=>⟨q.1,zF q.2.1 (keep c (P.F.fc.ne _ (mem_lookup q.1))),?_⟩
   rw[nV z hz,if_neg λe=>by rw[e,hk] at mi;cases mi]
   exact q.2.2.kp S.kp
 ·refine(P.F.qF x hx (by rw[hk];rfl)).elim λc q=>q.elim λv' q=>wpAny_storeName_cell P.F.fc.fn hk q.1 q.2.1 λh' hn hs=>?_
  refine key c h' _ (sN q.1) (hc c q.1) hs.extBut (λo e=>q.2.1.elim λo' q=>by rw[q.1] at e;cases e;exact J5 q.2) (hn.imp λo x=>⟨x.1,λo' e hd=>q.2.1.elim λo2 y=>by rw[y.1] at e;cases e;exact no hd (J6 y.2)⟩) λS keep=>⟨P.F.loc.imp λm hm=>⟨J9 hm.1 (keep _ (P.F.fc.ne _ (mem_lookup q.1)).symm),λz hz mi=>?_⟩,λz hz mi=>?_⟩
  ·rw[nV z hz,if_neg λe=>by rw[e,hk] at mi;cases mi]
   exact(hm.2 z hz mi).kp S.kp
  ·rw[nV z hz]
   by_cases e:z=x
   ·rw[if_pos e,e];exact⟨c,some y,q.1,hn,.some (r.mono S)⟩
   ·rw[if_neg e]
    exact(P.F.qF z hz mi).imp λc' q'=>q'.imp λv2 q'=>⟨q'.1,zF q'.2.1 (keep c' λe'=>e (P.F.fc.apart z x c (e'▸q'.1) q.1)),q'.2.2.kp S.kp⟩
theorem KP{P:Fp σ}{x:Str}{i:Nat}{v:V}{y:Value}{Q:Unit->Shared->Prop}(hi:σ.f.ns.idxOf x=i)(hx:x∈σ.f.ns)(ho:zR P.env P.own x)(r:aX P.w v y)(k:∀N:Sx P (P.ρ.set i (some v)) P.H,Q () N.s):wpAny X.M P.A (bindName P.env x y) Q P.Ex P.s:=wpAny_bindName (D2 hi hx ho r k)
noncomputable def qK(env:Env)(own:Addr->Prop)(xs:List Str):Prop:=∀x,x∈xs->zR env own x
theorem zS{h h':Heap}(he:ExtBut h.objs.size h h'):aC h h':=λa o e=>he a o (λe'=>bH (gR h (le_of_eq e'.symm)) e) e
theorem w0{t:cN}{e:Expr}{env:Env}(h:iE σ.f t e=true)(es:List Expr):assignEach (e::es) env=(false,assign e env)::assignEach es env:=by
 cases t with
 |J i=>exact eR.k (G:=λe=>assignEach (e::es) env=(false,assign e env)::assignEach es env) h λZ Z Z=>rfl
 |aF ts=>exact l6.k (G:=λe=>assignEach (e::es) env=(false,assign e env)::assignEach es env) h λZ Z Z Z=>rfl
theorem D3:∀{ts:List cN} {es:List Expr} {vs:List V} {ρ bV:aP},ux σ.f ts es=true->uA ts vs ρ=some bV->∀env,(assignEach es env).length=vs.length/\(assignEach es env).findIdx? (·.1)=none
 |[],es,[],_,_,h,_,env=>dW (G:=λes=>(assignEach es env).length=0/\(assignEach es env).findIdx? (·.1)=none) h ⟨rfl,rfl⟩
 |[],es,_::_,_,_,h,ea,env=>bH rfl ea
 |_::_,es,[],_,_,h,ea,env=>bH rfl ea
 |t::ts,es,v::vs,ρ,bV,h,ea,env=>l9.k (G:=λes=>(assignEach es env).length=vs.length+1/\(assignEach es env).findIdx? (·.1)=none) h λe es h=>aU h λh1 h2=>fZ ea λD4 e1 e2=>by
  have q:=D3 h2 e2 env
  rw[w0 h1 es]
  exact⟨congrArg (·+1) q.1,by rw[List.findIdx?_cons,q.2];rfl⟩
mutual
theorem sW:∀(t:cN) (e:Expr) (P:Fp σ) (v:V) (y:Value) (bV:aP) (Q:Unit->Shared->Prop) ,iE σ.f t e=true->qK P.env P.own (gF t e)->aX P.w v y->aN t v P.ρ=some bV->(∀N:Sx P bV P.H,Q () N.s)->wpAny X.M P.A (assign e P.env y) Q P.Ex P.s
 |.J i,e,P,v,y,bV,Q,h,ho,r,ea,k=>eR.k (G:=λe=>qK P.env P.own (gF (.J i) e)->wpAny X.M P.A (assign e P.env y) Q P.Ex P.s) h (λx pos h ho=>aU h λh1 Z=>k4.k h1 λhi hx=>qH ea (λbV=>(∀N:Sx P bV P.H,Q () N.s)->_) (λZ k=>by
   rw[PySem.assign_Name]
   exact wpAny_bind (wpAny_standAt (KP hi hx (ho x (mem_singleton.mpr rfl)) r k))) k) ho
 |.aF ts,e,P,v,y,bV,Q,h,ho,r,ea,k=>l6.k (G:=λe=>qK P.env P.own (gF (.aF ts) e)->wpAny X.M P.A (assign e P.env y) Q P.Ex P.s) h (λes j pos h ho=>by
   have hh:=(and_eq_true_iff.mp h).1
   have h:=(and_eq_true_iff.mp h).2
   have hv:∃vs,v=.aF vs:=by cases v<;>first|cases ea;done|exact⟨_,rfl⟩
   obtain⟨vs,rfl⟩:=hv
   change uA ts vs P.ρ=some bV at ea
   have q:=D3 h ea P.env
   exact r.inv (λy=>wpAny X.M P.A (assign (.Tuple es j pos) P.env y) Q P.Ex P.s) λa m xs h1 h2 Z Z=>wpAny_assign_Tuple (P.calm (not_eq_true' _▸hh)) ⟨_,h1,rfl,m,rfl⟩ (by rw[q.1,size_toArray,h2.length]) q.2 λh' he=>
    D5 ts es (P.to (P.toPt.ext (zS he) P.s.toks)) vs xs bV Q h ho (h2.mono (P.toPt.ext (zS he) P.s.toks).S) ea λN=>k ((P.toPt.ext (zS he) P.s.toks).sx.then N)) ho
theorem D5:∀(ts:List cN) (es:List Expr) (P:Fp σ) (vs:List V) (ys:List Value) (bV:aP) (Q:Unit->Shared->Prop) ,ux σ.f ts es=true->qK P.env P.own (sC ts es)->br P.w vs ys->uA ts vs P.ρ=some bV->(∀N:Sx P bV P.H,Q () N.s)->wpAny X.M P.A (assignInOrder ((assignEach es P.env).map (·.2)) ys) Q P.Ex P.s
 |[],es,P,vs,ys,bV,Q,h,ho,r,ea,k=>dW (G:=λes=>wpAny X.M P.A (assignInOrder ((assignEach es P.env).map (·.2)) ys) Q P.Ex P.s) h (by
   cases vs with
   |nil=>cases ea;exact r.inv (λys=>wpAny X.M P.A (assignInOrder [] ys) Q P.Ex P.s) (wpAny_pure (k (P.toPt.fQ _).sx))
   |cons _ _=>cases ea)
 |t::ts,es,P,vs,ys,bV,Q,h,ho,r,ea,k=>l9.k (G:=λes=>qK P.env P.own (sC (t::ts) es)->wpAny X.M P.A (assignInOrder ((assignEach es P.env).map (·.2)) ys) Q P.Ex P.s) h (λe es h ho=>aU h λh1 h2=>by
   cases vs with
   |nil=>cases ea
   |cons v vs=>
    rw[w0 h1 es]
    exact fZ ea λD4 e1 e2=>r.inv (λys=>wpAny X.M P.A (assignInOrder (((false,assign e P.env)::assignEach es P.env).map (·.2)) ys) Q P.Ex P.s) λy ys r1 r2=>wpAny_assignInOrder_more (sW t e P v y D4 _ h1 (λx hx=>ho x (mem_append.mpr (.inl hx))) r1 e1 λN=>
     D5 ts es N.fp vs ys bV Q h2 (λx hx=>ho x (mem_append.mpr (.inr hx))) (r2.mono N.S) e2 λN'=>k (N.then N'))) ho
end
end
structure KO{σ:Lv}(P:Fp σ)(K:Out->Prop)(Q:Flow->Shared->Prop):Prop where
 next:∀ρ H,K (.next ρ H)->∀N:Sx P ρ H,Q .next N.s
 ret:∀v H,K (.ret v H)->∀(φ:List Addr) (h:Heap) (tk:Nat),SR ⟨φ,h⟩ H->bL P.own P.w ⟨φ,h⟩->∀x,aX ⟨φ,h⟩ v x->Q (.ret x) (upd P.s h tk)
noncomputable def sX(env:Env)(own:Addr->Prop)(ns:List Str):Prop:=qK env own ns/\∀a,own a->kG env a
section
variable{σ:Lv}{P:Fp σ}{K:Out->Prop}{Q:Flow->Shared->Prop}{ρ:aP}{H:Hp}
theorem KO.nx(k:KO P K Q)(N:Sx P ρ H):KO N.fp K Q:=⟨λbV H' p N'=>k.next bV H' p (N.then N'),λv H' p φ h tk R S x r=>k.ret v H' p φ h tk R (N.S.trans S) x r⟩
noncomputable def mR(σ:Lv)(cs:List S)(ss:List Stmt):Prop:=
 ∀(P:Fp σ) (K:Out->Prop) (Q:Flow->Shared->Prop) ,sX P.env P.own σ.f.ns->aM σ.c cs P.ρ P.H K->KO P K Q->wpAny X.M P.A (execs ss P.env) Q P.Ex P.s
noncomputable def SS(σ:Lv)(c:S)(st:Stmt):Prop:=
 ∀(P:Fp σ) (K:Out->Prop) (Q:Flow->Shared->Prop) ,sX P.env P.own σ.f.ns->WS σ.c c P.ρ P.H K->KO P K Q->wpAny X.M P.A (exec st P.env) Q P.Ex P.s
mutual
theorem uN:∀(t:cN) (e:Expr),iE σ.f t e=true->∀x,x∈gF t e->x∈σ.f.ns
 |.J i,e,h=>eR.k (G:=λe=>∀x,x∈gF (.J i) e->x∈σ.f.ns) h λy p h x hx=>aU h λh1 Z=>k4.k h1 λZ hy=>mem_singleton.mp hx▸hy
 |.aF ts,e,h=>l6.k (G:=λe=>∀x,x∈gF (.aF ts) e->x∈σ.f.ns) h λes Z Z h x hx=>D6 ts es (and_eq_true_iff.mp h).2 x hx
theorem D6:∀(ts:List cN) (es:List Expr),ux σ.f ts es=true->∀x,x∈sC ts es->x∈σ.f.ns
 |[],es,h,x,hx=>nomatch hx
 |t::ts,es,h,x,hx=>l9.k (G:=λes=>x∈sC (t::ts) es->x∈σ.f.ns) h (λe es h hx=>aU h λh1 h2=>(mem_append.mp hx).elim (uN t e h1 x) (D6 ts es h2 x)) hx
end
theorem uO{x:Expr}{o:Option Expr}{env:Env}(h:mF x=true)(line:Nat):swapsWith x o line env=pure false:=by
 cases x<;>first|rfl|cases h
theorem KQ{e:E}{x:Expr}{pos:Pos}(hn:mF x=true)(he:b9 σ e x):SS σ (.expr e) (.Expr x pos):=λP K Q ho p k=>
 wpAny_Expr_any (he P _ _ p (λv H1 p1 N x r=>k.next _ _ p1 N.sx)) P.F.fc.gen.2.2 (uO hn _)
theorem D7{t:cN}{e:E}{tg x:Expr}{pos:Pos}(sY:swapsWithSole [tg] x pos.line P.env=pure false)(ht:iE σ.f t tg=true)(hx:sE tg x=true)(he:b9 σ e x)(ho:sX P.env P.own σ.f.ns)(p:WS σ.c (.aN t e) P.ρ P.H K)(k:KO P K Q):wpAny X.M P.A (exec (.Assign [tg] x pos) P.env) Q P.Ex P.s:=by
 refine wpAny_Assign_stores (he P _ _ p (λv H1 p1 N y r=>aJ.k p1 λbV ha p1=>?_)) sY ?_
 ·rw[w0 ht []]
  exact sW t tg (P.to N) v y bV _ ht (λz hz=>ho.1 z (uN t tg ht z hz)) r ha λN'=>k.next _ _ p1 (N.sx.then N')
 ·cases t with
  |J i=>exact eR.k (G:=λtg=>swappedStores [tg] x P.env=pure none) ht λZ Z Z=>rfl
  |aF ts=>exact l6.k (G:=λtg=>sE tg x=true->swappedStores [tg] x P.env=pure none) ht (λZ Z Z Z hx=>by cases x<;>first|rfl|cases hx) hx
theorem KR{t:cN}{e:E}{tg x:Expr}{pos:Pos}(hn:mF x=true)(ht:iE σ.f t tg=true)(hx:sE tg x=true)(he:b9 σ e x):SS σ (.aN t e) (.Assign [tg] x pos):=λP K Q ho p k=>D7 (uO hn _) ht hx he ho p k
theorem KS{e:E}{x:Expr}{pos:Pos}(he:b9 σ e x):SS σ (.ret e) (.Return (some x) pos):=λP K Q ho p k=>
 wpAny_Return_some (he P _ _ p (λv H1 p1 N x r=>k.ret _ _ p1 _ _ _ N.R N.S.nil _ r))
theorem KT{c:E}{a b:List S}{t:Expr}{x y:List Stmt}{pos:Pos}(hc:sP σ c t)(ha:mR σ a x)(hb:mR σ b y):SS σ (.ba c a b) (.If t x y pos):=λP K Q ho p k=>
 wpAny_If (hc P _ _ p (λv H1 p1=>p1.m λt p1 N=>by
  cases t
  ·exact hb N.sx.fp K Q ho p1 (k.nx N.sx)
  ·exact ha N.sx.fp K Q ho p1 (k.nx N.sx)))
theorem KO.ex(k:KO P K Q){x:PQ}{Ex:Value->Shared->Prop}(kx:qG P.own P.w P.s x Ex):KO (P.ex x Ex kx) K Q:=⟨λρ H p N=>k.next ρ H p N.un,λv H p φ h tk R S y r=>k.ret v H p φ h tk R S y r⟩
inductive D8(P:Fp σ)(c:E)(b:List S)(K:Out->Prop)(k:Nat)(s:Shared):Prop
 |mk (ρ:aP) (H:Hp) (N:Sx P ρ H) (e:s=N.s) (p:wF (λρ H Q=>qD σ.c c ρ H Q) (λρ H K=>aM σ.c b ρ H K) k ρ H K):D8 P c b K k s
theorem KU{c:E}{b:List S}{t:Expr}{y:List Stmt}{pos:Pos}(hc:sP σ.no c t)(hb:mR σ.no b y):SS σ (.while c b) (.While t y [] pos):=λP K Q ho p k=>by
 refine wpAny_While (codeAny_whileLoop (D8 P.no c b K) (λj s' w=>w.casesOn λρ H N e p'=>?_) _ ⟨P.ρ,P.H,(P.no.toPt.fQ P.s.toks).sx,rfl,p⟩)
 subst e
 have k:=k.ex (x:=λZ Z=>False) (Ex:=NE) λZ Z h=>h.elim
 cases j with
 |zero=>exact p'.elim
 |succ j=>
  refine uH (hc N.fp _ _ p' (λv H1 p1=>p1.m λb' p1 N1=>?_))
  cases b' with
  |false=>exact wpAny_execs_nil (k.next _ _ p1 (N.then N1.sx))
  |true=>exact uH (hb (N.then N1.sx).fp _ _ ho p1 ⟨λbV H' p2 N2=>⟨j,lt_succ_self _,bV,H',(N.then N1.sx).then N2,rfl,p2⟩,λv H' p2 φ h tk R S x r=>k.ret v H' p2 φ h tk R ((N.then N1.sx).S.trans S) x r⟩)
theorem D9:mR σ [] []:=λP K Q ho p k=>wpAny_execs_nil (k.next _ _ p (P.toPt.fQ P.s.toks).sx)
theorem KV{c:S}{cs:List S}{st:Stmt}{ss:List Stmt}(h1:SS σ c st)(h2:mR σ cs ss):mR σ (c::cs) (st::ss):=λP K Q ho p k=>
 wpAny_execs_cons (h1 P _ _ ho p ⟨λbV H' p1 N=>h2 N.fp K Q ho p1 (k.nx N),λv H' p1 φ h tk R S x r=>k.ret v H' p1 φ h tk R S x r⟩)
theorem KW{A:Around}{E:Value->Shared->Prop}{s:Shared}{l:Addr}{xs:List Value}{n:Nat}{k:Int}{t:Tok}{v:Value}{Q:Unit->Shared->Prop}(ho:s.heap.get? l=some (gG xs n))(h0:0<=k)(Ea:k<2^63)(hn:k<xs.length)
  (hQ:Q () {s with heap:=s.heap.update l (Obj.mapSeq (·.setIfInBounds k.toNat v))}):wpAny (model X.prog X.w) A (setItem (.ref l) (.int k t) v) Q E s:=by
 have hl:s.heap.IsList l xs.toArray:=jo ho
 unfold setItem
 refine wpAny_holding (wpAny_bind (wpAny_sequenceKey hl.typeIs (by decide) (wpAny_bind (wpAny_callSpecial?_slot (name:=Str.ofString "__setitem__") hl.typeIs PySem.slot_list_setitem
  (wpAny_call_entry PySem.slot_list_setitem hl.typeIs PySem.entry_list_setitem ?_ (PySem.args_list_setitem _ _ _))))))
 refine(?_:wpAny _ _ (Builtin.List.listSubscript? (.int k t) >>= _) _ _ s)
 refine wpAny_bind (wpAny_listSubscript_int (fitsIndex_of h0 Ea) ?_)
 clear Ea
 obtain⟨j,rfl⟩:=Int.eq_ofNat_of_zero_le h0
 have hj:j<xs.toArray.size:=by rw[size_toArray];lia
 refine(?_:wpAny _ _ ((seqItemAt l j >>= λr=>pure (r.map (j,·))) >>= _) _ _ s)
 refine wpAny_bind (wpAny_bind (wpAny_seqItemAt ho rfl (wpAny_pure ?_)))
 rw[Array.getElem?_eq_getElem hj]
 refine(?_:wpAny _ _ (setSeqItemAt l j v >>= _) _ _ s)
 refine wpAny_bind (wpAny_setSeqItemAt ho rfl ?_)
 first
  |exact wpAny_bind (wpAny_pure (wpAny_pure ⟨.none,rfl,wpAny_pure hQ⟩))
  |exact wpAny_pure ⟨.none,rfl,wpAny_pure hQ⟩
theorem Eb{K:Type}[DecidableEq K](es:List (K×V))(k:K)(v:V):(dput es k v).length<=es.length+1:=by
 unfold dput
 split
 ·rw[length_map];lia
 ·rw[length_append];exact le_refl _
theorem KX{es:List (Int×V)}{kvs:List (Int×Value)}{p:Ws}{v:V}{x:Value}(h:L2 (k9 p) es kvs)(r:aX p v x)(k:Int):L2 (k9 p) (dput es k v) (stored kvs k x):=by
 unfold dput stored
 rw[h.any (f:=λq=>decide (q.1=k)) (g:=λq=>decide (q.1=k)) λa b m=>by rw[m.1]]
 split
 ·exact h.map λa b m=>by
   by_cases e:a.1=k
   ·rw[if_pos e,if_pos (m.1▸e)];exact⟨m.1,r⟩
   ·rw[if_neg e,if_neg (m.1▸e)];exact m
 ·exact h.snoc ⟨rfl,r⟩
theorem KY{es:List ((Int×Bool)×V)}{kvs:List (List Int×Addr×Value)}{p:Ws}{v:V}{x:Value}{a:Addr}{k:Int×Bool}(h:L2 (mh p) es kvs)(r:aX p v x)(rk:aX p (kB k) (.ref a)):L2 (mh p) (dput es k v) (storedH kvs (pK k) a x):=by
 unfold dput storedH
 have e:es.any (λq=>decide (q.1=k))=(atKey kvs (pK k)).isSome:=by
  rw[show es.any (λq=>decide (q.1=k))=iZ es k from rfl,zM]
  rcases zL h k with⟨w1,w2⟩|⟨_,_,_,w1,w2,_⟩<;>rw[w1,w2]<;>rfl
 rw[e]
 split
 ·exact h.map λa b m=>by
   unfold putAt
   by_cases e:a.1=k
   ·rw[if_pos e,if_pos (by rw[m.1,<-e];rfl)];exact⟨m.1,m.2.1,r⟩
   ·rw[if_neg e,if_neg λe'=>e (DL (m.1.symm.trans e'))];exact m
 ·exact h.snoc ⟨rfl,rk,r⟩
theorem KZ{P:Pt}{l:Nat}{xs:List V}{i v:V}{z kz y:Value}{k:Hp->Prop}{Q:Unit->Shared->Prop}(r2:aX P.w (.ref l) z)(r3:aX P.w i kz)(rv:aX P.w v y)(hl:P.H[l]?=some (.list xs))(p:ff i λj=>(0<=j/\j<xs.length)/\k (P.H.set l (.list (xs.set j.toNat v))))(fin:∀H,k H->∀N:Nx P H,Q () N.s):wpAny X.M P.A (setItem z kz y) Q P.Ex P.s:=
 ff.k p (λi=>aX P.w i kz->_) (λj p r3=>r3.inv (λkz=>wpAny X.M P.A (setItem z kz y) Q P.Ex P.s) λt=>P.list r2 hl (λz=>wpAny X.M P.A (setItem z _ y) Q P.Ex P.s) λad ys m gT q1 q2 q3=>
  KW q1 p.1.1 (by lia) (by rw[<-q2.length];exact p.1.2) (
   have he:=(SameBut.update P.s.heap ad (Obj.mapSeq (·.setIfInBounds j.toNat y))).extBut
   fin _ p.2 (P.set gT he (.list (n:=m) (by rw[get?_update_self _ q1 rfl];simp[Obj.mapSeq]) ((q2.set rv j.toNat).kp (P.sO gT he)) (by rw[length_set];exact q3)) P.s.toks))) r3
theorem K0{P:Pt}{l ep:Nat}{es:List (Int×V)}{i v:V}{z kz y:Value}{k:Hp->Prop}{Q:Unit->Shared->Prop}(G:Good X)(r2:aX P.w (.ref l) z)(r3:aX P.w i kz)(rv:aX P.w v y)(hl:P.H[l]?=some (.dict ep es))(p:ff i λj=>fE (ma es) (∀ep,k (P.H.set l (.dict ep (dput es j v)))))(fin:∀H,k H->∀N:Nx P H,Q () N.s):wpAny X.M P.A (setItem z kz y) Q P.Ex P.s:=
 ff.k p (λi=>aX P.w i kz->_) (λj p r3=>fE.k p λhz p=>r3.inv (λkz=>wpAny X.M P.A (setItem z kz y) Q P.Ex P.s) λt=>P.cell r2 hl (λz=>wpAny X.M P.A (setItem z _ y) Q P.Ex P.s) λad gT hc=>hc.inv _ λo' en kvs x0 x1 x2 x3 x4 x5 q z m=>by
  have hz:es.length<16000000:=of_decide_eq_true hz
  refine wpAny_setItem_pairs (knd:=kD) (k:=j) (beq_self_eq_true j) ⟨o',en,ep,x0,x1,x2,x3,x4,x5⟩ (λh4 sZ uP=>?_) (by rw[<-q.length];unfold sizeLine;lia)
  exact sZ.elim λo4 w=>w.elim λK1 w=>w.elim λzT w=>fin _ (p zT) (P.set gT uP.extBut (.dict w.1 w.2.1 w.2.2.1 w.2.2.2.1 w.2.2.2.2.1 w.2.2.2.2.2 ((KX q rv j).imp (k9.kp (P.sO gT uP.extBut))) z (le_trans (Eb es j v) hz)) _)) r3
theorem K2{P:Pt}{l ep:Nat}{es:List ((Int×Bool)×V)}{i v:V}{z kz y:Value}{k:Hp->Prop}{Q:Unit->Shared->Prop}(G:Good X)(r2:aX P.w (.ref l) z)(r3:aX P.w i kz)(rv:aX P.w v y)(hl:P.H[l]?=some (.cD ep es))(p:aJ (pairOf i) λj=>fE (ma es) (∀ep,k (P.H.set l (.cD ep (dput es j v)))))(fin:∀H,k H->∀N:Nx P H,Q () N.s):wpAny X.M P.A (setItem z kz y) Q P.Ex P.s:=
 aJ.k p λj ej p=>pairOf.k ej (λi=>aX P.w i kz->_) (λr3=>fE.k p λhz p=>r3.inv (λkz=>aX P.w (kB j) kz->wpAny X.M P.A (setItem z kz y) Q P.Ex P.s) (λka Z Z Z Z Z Z r3=>lW r2 G (show(P.H[l]?).bind jM=some es by rw[hl];rfl) (λz=>wpAny X.M P.A (setItem z _ y) Q P.Ex P.s) λl' pn ad kvs el Z gT hD q z jT=>by
  have hz:es.length<16000000:=of_decide_eq_true hz
  cases el
  refine wpAny_setItem_heap (knd:=lj) (k:=pK j) (by refine(?_:P.A.units+1<cLine);have:=P.rm.units;lia) (uF r3) hD (λh4 sZ uP=>?_) (by rw[<-q.length];unfold sizeLine;lia)
  exact sZ.elim λo4 w=>w.elim λK1 w=>w.elim λzT w=>fin _ (p zT) (P.set gT uP.extBut (.cD w.1 w.2.1 w.2.2.1 w.2.2.2.1 w.2.2.2.2.2 ((KY q rv r3).imp (mh.kp (P.sO gT uP.extBut))) z (le_trans (Eb es j v) hz)) _)) r3) r3
theorem K3{a i e:E}{o j x:Expr}{sp pos:Pos}(G:Good X)(hn:mF x=true)(ha:b9 σ a o)(hi:b9 σ i j)(he:b9 σ e x):SS σ (.iU a i e) (.Assign [.Subscript o j sp] x pos):=λP K Q ho p k=>by
 refine wpAny_Assign_Subscript (he P _ _ p (λv H1 p1 N y r=>qI ha hi (P.to N) p1 (λu w H2 p2 N2 z kz r2 r3=>?_))) (uO hn _)
 have fin:∀H3,K (.next P.ρ H3)->∀N3:Nx N2.pt H3,Q .next N3.s:=λH3 p3 N3=>k.next _ _ p3 (N.then (N2.then N3)).sx
 cases u with
 |ref l=>
  refine aJ.k p2 λc hl p2=>?_
  cases c with
  |list xs=>exact KZ (P:=N2.pt) r2 r3 (r.mono N2.S) hl p2 fin
  |dict ep es=>exact K0 (P:=N2.pt) G r2 r3 (r.mono N2.S) hl p2 fin
  |cD ep es=>exact K2 (P:=N2.pt) G r2 r3 (r.mono N2.S) hl p2 fin
  |_=>exact p2.elim
 |_=>exact p2.elim
end
noncomputable def w5:List String:=["enumerate","zip","dict_itemiterator","dict_reverseitemiterator","odict_iterator","itertools.zip_longest","itertools.pairwise"]
structure kI(tg:Expr)(dp:Ws)(H₀:Hp)(ws:List Nat)(vs:List V)(I:Addr)(io:Addr->Prop)(St:Nat->Heap->Prop):Prop where
 keep:∀i h h',St i h->(∀a,io a->∀o,h.get? a=some o->h'.get? a=some o)->St i h'
 live:∀i h,St i h->∀a,io a->∃o,h.get? a=some o/\dK o=false/\fF o=false
 item:∀(P:Pt) (i:Nat) (v:V) (Q:Value->Shared->Prop),P.A.handled=none->Kp dp P.w->eF ws H₀ P.H=true->St i P.s.heap->(∀a,io a->Ap P.w a)->vs[i]?=some v ->
  (∀h' tk y,SR ⟨P.φ,h'⟩ P.H->bL io P.w ⟨P.φ,h'⟩->St (i+1) h'->aX ⟨P.φ,h'⟩ v y->Q y (upd P.s h' tk)) ->
  wpAny X.M P.A (pyNext (.ref I)) (λr bT=>aJ r λy=>wpAny X.M P.A (letOwnedTupleGo tg (.ref I) y) (λZ dX=>Q y dX) P.Ex bT) P.Ex P.s
 done:∀(P:Pt) (i:Nat) (Q:Option Value->Shared->Prop),P.A.handled=none->Kp dp P.w->eF ws H₀ P.H=true->St i P.s.heap->(∀a,io a->Ap P.w a)->vs[i]?=none ->
  (∀h' tk,Ch io P.s.heap h'->Q none (upd P.s h' tk))->wpAny X.M P.A (pyNext (.ref I)) Q P.Ex P.s
 self:∀(A:Around) (s:Shared) (Q Ex:Value->Shared->Prop),St 0 s.heap->Q (.ref I) s->wpAny X.M A (pyIter (.ref I)) Q Ex s
theorem kI.from{tg:Expr}{dp Ec:Ws}{H₀:Hp}{ws:List Nat}{vs:List V}{I:Addr}{io:Addr->Prop}{St:Nat->Heap->Prop}(h:kI tg dp H₀ ws vs I io St)(K:Kp dp Ec):kI tg Ec H₀ ws vs I io St:=
 ⟨h.keep,h.live,λP i v Q hh kp=>h.item P i v Q hh (K.trans kp),λP i Q hh kp=>h.done P i Q hh (K.trans kp),h.self⟩
section
variable{tg:Expr}{dp:Ws}{H₀:Hp}{ws:List Nat}{vs:List V}{I a:Addr}
theorem K4{A:Around}{s:Shared}{y:Value}{o:Obj}{nm:String}{Q:Unit->Shared->Prop}{Ex:Value->Shared->Prop}(ho:s.heap.get? I=some o)(hc:o.cls=.type nm)(hn:w5.contains nm=false)(hQ:Q () s):wpAny X.M A (letOwnedTupleGo tg (.ref I) y) Q Ex s:=by
 have key:∀a,wpAny X.M A (do
  let o <-load I
  match o.cls,o.data with
  |.type n,.fields vs=>
   if w5.contains n&&vs[0]?==some (rawInt a) then
    rule "for.unpacks-the-owned-tuple"
    updateField I 0 .none
  |_,_=>pure ()) Q Ex s:=by
  intro a
  refine wpAny_bind (wpAny_load ho ?_)
  rw[hc]
  cases o.data with
  |fields vs=>
   refine(?_:wpAny X.M A (if(w5.contains nm&&vs[0]?==some (rawInt a))=true then _ else _) Q Ex s)
   rw[hn,Bool.false_and,if_neg Bool.false_ne_true]
   exact wpAny_pure hQ
  |_=>exact wpAny_pure hQ
 unfold letOwnedTupleGo
 cases tg<;>first|exact wpAny_pure hQ|(cases y<;>first|exact wpAny_pure hQ|exact key _)
theorem Ed{o:Obj}{nm:String}(hc:o.cls=.type nm)(hn:(Value.type nm==.type "traceback")=false)(hd:dK o=false):dK o=false/\fF o=false:=⟨hd,by
 unfold fF;rw[hc,hn]
 cases o.data<;>rfl⟩
theorem w7{nm:String}{St:Nat->Heap->Prop}(zU:(w5.contains nm||(Value.type nm==.type "tuple"||Value.type nm==.type "traceback"))=false)(qL:∀i h,St i h->∃o,h.get? I=some o/\o.cls=.type nm/\dK o=false)(keep:∀i h h',St i h->(∀o,h.get? I=some o->h'.get? I=some o)->St i h')
  (next:∀(P:Pt) (i:Nat) (v:V) (Q:Option Value->Shared->Prop),P.A.handled=none->Kp dp P.w->eF ws H₀ P.H=true->St i P.s.heap->vs[i]?=some v->(∀h' tk y,St (i+1) h'->ExtBut I P.s.heap h'->aX P.w v y->Q (some y) (upd P.s h' tk))->wpAny X.M P.A (pyNext (.ref I)) Q P.Ex P.s)
  (stop:∀(P:Pt) (i:Nat) (Q:Option Value->Shared->Prop),P.A.handled=none->Kp dp P.w->eF ws H₀ P.H=true->St i P.s.heap->vs[i]?=none->(∀h',ExtBut I P.s.heap h'->Q none {P.s with heap:=h'})->wpAny X.M P.A (pyNext (.ref I)) Q P.Ex P.s)
  (self:∀(A:Around) (s:Shared) (Q Ex:Value->Shared->Prop),St 0 s.heap->Q (.ref I) s->wpAny X.M A (pyIter (.ref I)) Q Ex s):kI tg dp H₀ ws vs I (·=I) St:=
 have h1:=or_eq_false_iff.mp zU
 have h2:=or_eq_false_iff.mp h1.2
 have Ee:∀{i h},St i h->∀o,h.get? I=some o->fz o=false:=λst o e=>(qL _ _ st).elim λo' q=>by rw[e] at q;cases q.1;exact mK q.2.1 h1.2
 {keep:=λi h h' st hk=>keep i h h' st (hk I rfl)
  live:=λi h st a ha=>(qL i h st).imp λo q=>⟨ha▸q.1,Ed q.2.1 h2.2 q.2.2⟩
  item:=λP i v Q hh kp hw st dv hv k=>next P i v _ hh kp hw st hv λh' tk y Ef he r=>
   have c:Ch (·=I) P.s.heap h':=.but he (Ee st)
   (qL _ _ Ef).elim λo q=>K4 (s:=(upd P.s h' tk)) q.1 q.2.1 h1.1 (k h' tk y (P.R.ch (p:=P.w) dv c) (bL.ch (io:=(·=I)) (q:=P.w) .refl c λb hb=>.inr ⟨hb,o,hb▸q.1,λo1 e hd=>(qL _ _ st).elim λo2 w=>by rw[hb] at e;rw[show P.s.heap.get? I=some o1 from e] at w;cases w.1;exact no hd w.2.2⟩) Ef (r.kp c.kp))
  done:=λP i Q hh kp hw st dv hv k=>stop P i Q hh kp hw st hv λh' he=>k h' P.s.toks (.but he (Ee st))
  self:=self}
noncomputable def w8(dp:Ws)(H₀:Hp)(ws:List Nat)(vs:List V)(a:Addr):Prop:=
 ∀(P:Pt),Kp dp P.w->eF ws H₀ P.H=true->∃xs,P.s.heap.IsList a xs.toArray/\br P.w vs xs
theorem zV{H:Hp}{l:Nat}(h:eF ws H₀ H=true)(hl:l∈ws):H[l]?=H₀[l]?:=of_decide_eq_true (all_eq_true.mp h l hl)
theorem Eg(ws:List Nat)(H:Hp):eF ws H H=true:=all_eq_true.mpr λZ Z=>decide_eq_true rfl
theorem Eh{l:Nat}(hl:dp.φ[l]?=some a)(e:H₀[l]?=some (.list vs))(hw:l∈ws):w8 dp H₀ ws vs a:=λP kp hs=>
 P.R.at ((zV hs hw).trans e) λb hb hc=>hc.inv _ λxs m h1 h2 Z=>by
  rw[kp.pre l a hl] at hb;cases hb
  exact⟨xs,jo h1,h2⟩
theorem K5(G:Good X):w8 dp H₀ ws (X.is.map .int) X.jm:=λP Z Z=>Gl.jm G P λxs h1 h2 Z=>⟨xs,h1,h2⟩
theorem xd(xs:List Value)(i:Nat):xs.toArray[i]?=xs[i]?:=getElem?_toArray ..
theorem none_of{p:Ws}{xs:List Value}{i:Nat}(r:br p vs xs)(h:vs[i]?=none):xs.toArray[i]?=none:=by
 rw[xd];exact getElem?_eq_none (r.length▸List.getElem?_eq_none_iff.mp h)
theorem Ei(pA:w8 dp H₀ ws vs a):kI tg dp H₀ ws vs I (·=I) (λi h=>h.IsListIter I a i):=
 w7 (nm:="list_iterator") rfl (λi h st=>st.imp λo q=>⟨q.1,q.2.1,sK q.2.2⟩) (λi h h' st hk=>st.imp λo q=>⟨hk o q.1,q.2⟩)
  (λP i v Q hh kp hw st hv k=>(pA P kp hw).elim λxs h=>h.2.get hv λy hy r=>wpAny_pyNext_list_item st h.1 (by rw[xd];exact hy) λh' dZ hs=>k h' P.s.toks y dZ hs.extBut r)
  (λP i Q hh kp hw st hv k=>(pA P kp hw).elim λxs h=>wpAny_pyNext_list_end hh st h.1 (none_of h.2 hv) k) λA s Q Ex st h=>wpAny_pyIter_listiter st h
theorem K6{xs:List Value}{m:Nat}(e0:dp.h.get? a=some (ku xs m))(uQ:a∉dp.φ)(r0:br dp vs xs):kI tg dp H₀ ws vs I (·=I) (λi h=>h.IsTupleIter I a i):=
 w7 (nm:="tuple_iterator") rfl (λi h st=>st.imp λo q=>⟨q.1,q.2.1,sK q.2.2⟩) (λi h h' st hk=>st.imp λo q=>⟨hk o q.1,q.2⟩)
  (λP i v Q hh kp hw st hv k=>(r0.kp kp).get hv λy hy r=>wpAny_pyNext_tuple_item st ⟨_,(kp.aF e0 uQ).1,rfl,m,rfl⟩ (by rw[xd];exact hy) λh' dZ hs=>k h' P.s.toks y dZ hs.extBut r)
  (λP i Q hh kp hw st hv k=>wpAny_pyNext_tuple_end hh st ⟨_,(kp.aF e0 uQ).1,rfl,m,rfl⟩ (none_of (r0.kp kp) hv) k) λA s Q Ex st h=>wpAny_pyIter_tupleiter st h
theorem Ej{i:Nat}{x y:Int}:(mI x y)[i]?=if i<(y - x).toNat then some (.int (x+i)) else none:=by
 unfold mI
 rw[getElem?_map]
 by_cases h:i<(y - x).toNat
 ·rw[if_pos h,List.getElem?_range h];rfl
 ·rw[if_neg h,getElem?_eq_none (by rw[length_range];exact not_lt.mp h)];rfl
theorem K7{x y:Int}:kI tg dp H₀ ws (mI x y) I (·=I) (λi h=>IsRangeIter h I (x+i) (((y - x).toNat:Int) - i) 1):=
 w7 (nm:="range_iterator") rfl (λi h st=>⟨_,st,rfl,rfl⟩) (λi h h' st hk=>hk _ st)
  (λP i v Q hh kp hw st hv k=>qH (Ej▸hv) (λv=>(∀h' tk y',IsRangeIter h' I (x+((i+1:Nat):Int)) (((y - x).toNat:Int) - ((i+1:Nat):Int)) 1->ExtBut I P.s.heap h'->aX P.w v y'->Q (some y') (upd P.s h' tk))->_) (λhi k=>wpAny_pyNext_range_item st (Int.sub_pos_of_lt (ofNat_lt.mpr hi)) λh' dZ hs=>k h' _ _ (by
   have e1:x+((i+1:Nat):Int)=x+i+1:=(Int.add_assoc x (i:Int) 1).symm
   have e2:(((y - x).toNat:Int) - ((i+1:Nat):Int))=((y - x).toNat:Int) - i - 1:=(Int.sub_sub _ (i:Int) 1).symm
   rw[e1,e2];exact dZ) hs.extBut (.int _ _)) k)
  (λP i Q hh kp hw st hv k=>wpAny_pyNext_range_end hh st (by
   rw[Ej] at hv
   by_cases h:i<(y - x).toNat
   ·rw[if_pos h] at hv;cases hv
   ·exact Int.sub_nonpos_of_le (ofNat_le.mpr (not_lt.mp h))) k) λA s Q Ex st h=>wpAny_pyIter_rangeiter st h
end
section
variable{A:Around}{E:Value->Shared->Prop}{s:Shared}{it d:Addr}{i ep:Nat}{od:Obj}{es:Array DictEntry}
theorem Ek{Q:Value->Shared->Prop}(hd:(d==sysModules)=false)(s6:s.heap.get? d=some od)(sS:od.cls=.type "dict")(nX:od.data=.dict es ep)
  (hQ:Q (.ref s.heap.objs.size) {s with heap:=s.heap.push {cls:=.type "dict_keyiterator",data:=.fields #[.ref d,.int 0 0,.int es.size 0,.int ep 0]}}):wpAny X.M A (pyIter (.ref d)) Q E s:=by
 have hT:s.TypeIs (.ref d) "dict":=⟨od,s6,sS⟩
 refine wpAny_pyIter_slot hT F.slot_dict_iter (wpAny_call_entry F.slot_dict_iter hT F.entry_dict_iter ?_ (F.args_dict_iter_1 _))
 unfold Builtin.«dict.__iter__»
 refine wpAny_bind (wpAny_bind (wpAny_notOrdered_dict hT (wpAny_pure ?_)))
 refine(?_:wpAny _ _ (Builtin.Dict.showsAll d >>= _) _ _ s)
 unfold Builtin.Dict.showsAll
 rw[if_neg (by rw[hd];exact Bool.false_ne_true)]
 exact wpAny_bind (wpAny_pure (wpAny_bind (wpAny_dictEntries s6 nX (wpAny_bind (wpAny_dictEpoch s6 nX (wpAny_bind (wpAny_newObj_type (wpAny_pure ⟨_,rfl,"dict_keyiterator",_,⟨_,get?_push_size _ rfl,rfl⟩,F.slot_dict_keyiterator_next.lookup,hQ⟩))))))))
theorem El{Q:Option Value->Shared->Prop}(hh:A.handled=none)(dZ:s.heap.IsKeyIter it d i es.size ep)(s6:s.heap.get? d=some od)(nX:od.data=.dict es ep)
  (hQ:∀(cO:i<es.size) h',h'.IsKeyIter it d (i+1) es.size ep->SameBut it s.heap h'->Q (some es[i].key) {s with heap:=h'}) (hE:es.size<=i->∀h',ExtBut it s.heap h'->Q none {s with heap:=h'}):wpAny X.M A (pyNext (.ref it)) Q E s:=by
 obtain⟨o,ho,hc,hd⟩:=id dZ
 unfold pyNext
 refine wpAny_bind (wpAny_attempt (wpAny_callSpecial?_slot (name:=Str.ofString "__next__") dZ.typeIs F.slot_dict_keyiterator_next
  (wpAny_call_entry F.slot_dict_keyiterator_next dZ.typeIs F.entry_dict_keyiterator_next ?_ (F.args_dict_keyiterator_next_1 _))))
 refine wpAny_bind (wpAny_pure ?_)
 refine wpAny_bind ?_
 refine wpAny_bind ?_
 first|refine wpAny_bind (wpAny_typeNameOfWhole_keyiter dZ.typeIs (wpAny_pure ?_))|refine wpAny_bind (wpAny_typeNameOf_keyiter dZ.typeIs (wpAny_pure ?_))
 refine wpAny_bind (wpAny_fieldsOf ho hd ?_)
 refine(?_:wpAny _ _ (if(Value.ref d==Value.none)=true then _ else _) _ _ s)
 rw[if_neg (show ¬((Value.ref d==Value.none)=true) from Bool.false_ne_true)]
 refine wpAny_bind (wpAny_pure ?_)
 refine wpAny_bind (wpAny_dictEntries s6 nX ?_)
 rw[if_neg (by rw[bne_self_eq_false];exact Bool.false_ne_true)]
 refine wpAny_bind (wpAny_pure ?_)
 refine wpAny_bind (wpAny_dictEpoch s6 nX ?_)
 rw[if_neg (by rw[bne_self_eq_false];exact Bool.false_ne_true)]
 refine wpAny_pure ?_
 dsimp only
 rcases lt_or_ge i es.size with cO|jS
 ·rw[if_neg (show ¬((i:Int)<0) from Int.not_lt.mpr (natCast_nonneg i)),toNat_natCast,Array.getElem?_eq_getElem cO]
  refine wpAny_bind ?_
  first|refine wpAny_bind (wpAny_typeNameOfWhole_keyiter dZ.typeIs (wpAny_pure ?_))|refine wpAny_bind (wpAny_typeNameOf_keyiter dZ.typeIs (wpAny_pure ?_))
  refine wpAny_bind (wpAny_isOneOf_keyiter dZ.typeIs ?_)
  refine(?_:wpAny _ _ (setField (.ref it) 1 (rawInt ((i:Int)+1)) >>= _) _ _ s)
  refine wpAny_bind (wpAny_setField ho hd (Nat.lt_of_sub_pos (by exact Nat.zero_lt_succ _)) ?_)
  have qM:(s.heap.update it (Obj.mapFields (·.setIfInBounds 1 (rawInt ((i:Int)+1))))).IsKeyIter it d (i+1) es.size ep:=
   ⟨_,get?_update_self _ ho (Obj.isFreed_of_fields (Obj.data_mapFields hd _)),(Obj.cls_mapFields ..).trans hc,by rw[Obj.data_mapFields hd];rfl⟩
  refine wpAny_bind (wpAny_holding ?_)
  refine wpAny_bind (wpAny_isOneOf_keyiter (s:={s with heap:=s.heap.update it (Obj.mapFields (·.setIfInBounds 1 (rawInt ((i:Int)+1))))}) qM.typeIs ?_)
  refine(?_:wpAny _ _ (pure es[i].key) _ _ _)
  exact wpAny_pure (wpAny_pure ⟨_,rfl,wpAny_pure (hQ cO _ qM (SameBut.update ..))⟩)
 ·rw[if_neg (show ¬((i:Int)<0) from Int.not_lt.mpr (natCast_nonneg i)),toNat_natCast,Array.getElem?_eq_none jS]
  refine wpAny_bind ?_
  first|refine wpAny_bind (wpAny_typeNameOfWhole_keyiter dZ.typeIs (wpAny_pure ?_))|refine wpAny_bind (wpAny_typeNameOf_keyiter dZ.typeIs (wpAny_pure ?_))
  refine(?_:wpAny _ _ (setField (.ref it) 0 .none >>= _) _ _ s)
  refine wpAny_bind (wpAny_setField ho hd (Nat.lt_of_sub_pos (by exact Nat.zero_lt_succ _)) ?_)
  refine(?_:wpAny _ _ (newExc (.type "StopIteration") [] >>= _) _ _ _)
  refine wpAny_bind (wpAny_bind (wpAny_newObj_type ?_ (by size_fits)))
  refine wpAny_bind (m:=firstArgMember _ _) (wpAny_of_eq (a:=Value.none) (by first|rfl|(simp only[firstArgMember];rfl)) ?_)
  refine wpAny_newObj_type ?_ (by size_fits)
  refine wpAny_bind (wpAny_handled ?_)
  rw[show A.in1.handled=none from hh]
  refine wpAny_bind (wpAny_pure (wpAny_throw ?_))
  refine wpAny_bind (wpAny_isInstance (T:="StopIteration") (b:=true) ⟨_,get?_push_size _ rfl,rfl⟩ isSubtype_stop ?_)
  exact wpAny_pure (hE jS _ (((SameBut.update ..).extBut.push _).push _))
end
section
variable{tg:Expr}{dp:Ws}{H₀:Hp}{ws:List Nat}{vs:List V}{I a:Addr}
noncomputable def zW(dp:Ws)(H₀:Hp)(ws:List Nat)(vs:List V)(a:Addr)(m ep:Nat):Prop:=
 ∀(P:Pt),Kp dp P.w->eF ws H₀ P.H=true->∃o en,P.s.heap.get? a=some o/\o.data=.dict en ep/\en.size=m/\vs.length=m/\∀i v,vs[i]?=some v->∃h:i<en.size,aX P.w v en[i].key
theorem Em{m ep:Nat}(pA:zW dp H₀ ws vs a m ep):kI tg dp H₀ ws vs I (·=I) (λi h=>h.IsKeyIter I a i m ep):=
 w7 (nm:="dict_keyiterator") rfl (λi h st=>st.imp λo q=>⟨q.1,q.2.1,sK q.2.2⟩) (λi h h' st hk=>st.imp λo q=>⟨hk o q.1,q.2⟩)
  (λP i v Q hh kp hw st hv k=>(pA P kp hw).elim λo h=>h.elim λen h=>(h.2.2.2.2 i v hv).elim λhl r=>El hh (h.2.2.1▸st) h.1 h.2.1 (λZ h' dZ hs=>k h' P.s.toks _ (h.2.2.1▸dZ) hs.extBut r) λhg=>absurd hl (not_lt.mpr hg))
  (λP i Q hh kp hw st hv k=>(pA P kp hw).elim λo h=>h.elim λen h=>El hh (h.2.2.1▸st) h.1 h.2.1 (λhl=>absurd hl (not_lt.mpr (by rw[h.2.2.1,<-h.2.2.2.1];exact List.getElem?_eq_none_iff.mp hv))) λZ=>k) λA s Q Ex st h=>wpAny_pyIter_keyiter st h
end
noncomputable def mj(P:Pt)(tg:Expr)(post:List V×List Nat->Hp->Prop)(Q:Value->Shared->Prop):Prop:=
 ∀p H,post p H->∀(N:Nx P H) I io St,kI tg N.w H p.2 p.1 I io St->St 0 N.h->(∀a,io a->Ap N.w a/\P.s.heap.get? a=none)->Q (.ref I) N.s
noncomputable def jq(σ:Lv)(it:It)(e:Expr):Prop:=
 (∀env x,foldedSetIterable e env x=pure x)/\∀(P:Fp σ) (tg:Expr) (post:List V×List Nat->Hp->Prop) (Q:Value->Shared->Prop),sD it tg=true->nQ σ.c it P.ρ P.H post->mj P.toPt tg post Q->wpAny X.M P.A (eval e P.env) (λx bT=>wpAny X.M P.A (pyIter x) Q P.Ex bT) P.Ex P.s
section
variable{σ:Lv}{tg:Expr}{Q:Value->Shared->Prop}{post:List V×List Nat->Hp->Prop}{P:Pt}{H:Hp}
theorem mj.nx(k:mj P tg post Q)(N:Nx P H):mj N.pt tg post Q:=λp H' q N' I io St it st dv=>k p H' q (N.then N') I io St it st λa ha=>have h:=dv a ha;⟨h.1,N.S.dead h.2⟩
theorem xf{x:Int}(h:x.natAbs<2^60):-2^62<=x/\x<2^62:=by lia
theorem s7(k:mj P tg post Q){vs:List V}{ws:List Nat}(o:Obj){St:Nat->Heap->Prop}(p:post (vs,ws) P.H)(it:kI tg (P.ext (.push o) P.s.toks).w P.H ws vs P.s.heap.objs.size (·=P.s.heap.objs.size) St)(st:St 0 (P.s.heap.push o)):Q (.ref P.s.heap.objs.size) {P.s with heap:=P.s.heap.push o}:=
 k _ _ p (P.ext (.push o) P.s.toks) _ _ _ it st λa ha=>by
  subst ha
  have hn:=gR P.s.heap (le_refl _)
  exact⟨P.R.new (p:=P.w) hn,hn⟩
theorem K8{dp:Ws}{H₀:Hp}{ws:List Nat}{l ep:Nat}{es:List (Int×V)}{a:Addr}(hl:dp.φ[l]?=some a)(e:H₀[l]?=some (.dict ep es))(hw:l∈ws):zW dp H₀ ws (es.map λp=>.int p.1) a es.length ep:=λP kp hs=>
 P.R.at ((zV hs hw).trans e) λb hb hc=>hc.inv _ λo en kvs x0 x1 x2 x3 x4 x5 q z m=>by
  rw[kp.pre l a hl] at hb;cases hb
  have hz:en.size=es.length:=by rw[q.length,<-x4.length,length_toList]
  refine⟨o,en,x0,x2,hz,length_map _,λi v hv=>?_⟩
  rw[getElem?_map] at hv
  refine fG (λv=>∃h:i<en.size,aX P.w v en[i].key) hv λe' he=>?_
  have hi:=(List.getElem?_eq_some_iff.mp he).1
  have qN:i<en.size:=hz▸hi
  have hk:i<kvs.length:=q.length▸hi
  refine⟨qN,?_⟩
  have h1:=(x4.get? (e:=en[i]) (k:=(kvs[i]).1) (v:=(kvs[i]).2) (by rw[getElem?_toList,Array.getElem?_eq_getElem qN]) (getElem?_eq_getElem hk)).1
  have h2:e'.1=(kvs[i]).1:=(q.get he (getElem?_eq_getElem hk)).1
  obtain⟨t,ht⟩:=Value.isInt_shape h1
  rw[ht,<-h2];exact .int _ _
theorem K9{dp:Ws}{H₀:Hp}{ws:List Nat}{l ep:Nat}{es:List ((Int×Bool)×V)}{a:Addr}(hl:dp.φ[l]?=some a)(e:H₀[l]?=some (.cD ep es))(hw:l∈ws):zW dp H₀ ws (es.map λp=>kB p.1) a es.length ep:=λP kp hs=>
 P.R.at ((zV hs hw).trans e) λb hb hc=>hc.inv _ λo en kvs x0 x1 x2 x3 x4 q z m=>by
  rw[kp.pre l a hl] at hb;cases hb
  have hz:en.size=es.length:=by rw[q.length,<-length_toList,x3,length_map]
  refine⟨o,en,x0,x2,hz,length_map _,λi v hv=>?_⟩
  rw[getElem?_map] at hv
  refine fG (λv=>∃h:i<en.size,aX P.w v en[i].key) hv λe' he=>?_
  have hi:=(List.getElem?_eq_some_iff.mp he).1
  have qN:i<en.size:=hz▸hi
  have hk:i<kvs.length:=q.length▸hi
  refine⟨qN,?_⟩
  have h1:=entry_at (knd:=lj) x3 i
  rw[Array.getElem?_eq_getElem qN,getElem?_eq_getElem hk] at h1
  rw[Option.some.inj h1]
  exact(q.get he (getElem?_eq_getElem hk)).2.1
theorem La{v:V}{x:Value}{us:List V}(G:Good X)(r:aX P.w v x)(e:keysOf P.H v=some us)(k:mj P tg post Q)(p:post (us,watch v) P.H):wpAny X.M P.A (pyIter x) Q P.Ex P.s:=by
 unfold keysOf at e
 cases ed:jN P.H v with
 |some es=>
  rw[ed] at e;cases e
  exact sR r G ed (λx=>wpAny X.M P.A (pyIter x) Q P.Ex P.s) λl ep a kvs ev hl ha Z Z hs Z=>by
   subst ev
   refine P.R.at hl λb hb hc=>hc.inv _ λo en kvs x0 x1 x2 x3 x4 x5 q z m=>?_
   rw[ha] at hb;cases hb
   have hz:en.size=es.length:=by rw[q.length,<-x4.length,length_toList]
   exact Ek hs x0 x1.1 x2 (s7 k _ p (Em (K8 (l:=l) (ep:=ep) ha hl (.head _))) ⟨_,get?_push_size _ rfl,rfl,by rw[hz];rfl⟩)
 |none=>
  rw[ed] at e
  cases eP:oV P.H v with
  |some es=>
   rw[eP] at e;cases e
   exact lW r G eP (λx=>wpAny X.M P.A (pyIter x) Q P.Ex P.s) λl ep a kvs ev hl ha Z Z hs Z=>by
    subst ev
    refine P.R.at hl λb hb hc=>hc.inv _ λo en kvs x0 x1 x2 x3 x4 q z m=>?_
    rw[ha] at hb;cases hb
    have hz:en.size=es.length:=by rw[q.length,<-length_toList,x3,length_map]
    exact Ek hs x0 x1.1 x2 (s7 k _ p (Em (K9 (l:=l) (ep:=ep) ha hl (.head _))) ⟨_,get?_push_size _ rfl,rfl,by rw[hz];rfl⟩)
  |none=>
   rw[eP] at e
   cases v with
   |aF VO=>cases e;exact r.inv (λx=>wpAny X.M P.A (pyIter x) Q P.Ex P.s) λa m xs h1 h2 Z h4=>wpAny_pyIter_tuple ⟨_,h1,rfl,m,rfl⟩ (s7 k _ p (K6 (get?_push_of_some _ h1) h4 (h2.mono (P.ext (.push _) P.s.toks).S)) ⟨_,get?_push_size _ rfl,rfl,rfl⟩)
   |ref l=>
    exact bJ r e (λx=>wpAny X.M P.A (pyIter x) Q P.Ex P.s) λl' a xs m ev hl ha h1 h2 Z=>by
     cases ev
     exact wpAny_pyIter_list (jo h1) (s7 k _ p (Ei (Eh (l:=l) ha hl (.head _))) ⟨_,get?_push_size _ rfl,rfl,rfl⟩)
   |dU=>cases e;exact r.inv (λx=>wpAny X.M P.A (pyIter x) Q P.Ex P.s) (Gl.jm G P λxs h1 h2 Z=>wpAny_pyIter_list h1 (s7 k _ p (Ei (K5 G)) ⟨_,get?_push_size _ rfl,rfl,rfl⟩))
   |_=>cases e
theorem Lb{c:E}{e:Expr}(h:cg σ.f c e=true)(env:Env)(x:Value):foldedSetIterable e env x=pure x:=by
 cases e<;>first|rfl|skip
 exfalso
 cases c<;>exact Bool.noConfusion h
theorem Lc{c:E}{e:Expr}(G:Good X)(h0:cg σ.f c e=true)(he:b9 σ c e):jq σ (.of c) e:=
 ⟨Lb h0,λP tg post Q Z p k=>he P _ _ p (λv H1 p1 N x r=>aJ.k p1 λus hi p1=>La (P:=N.pt) G r hi (k.nx N) p1)⟩
theorem En{x y:Int}{r:Addr}{t u w:Tok}(k:mj P tg post Q)(hr:IsRange P.s.heap r x y 1 t u w)(hx:x.natAbs<2^60/\y.natAbs<2^60)(p:post (mI x y,[]) P.H):wpAny X.M P.A (pyIter (.ref r)) Q P.Ex P.s:=by
 refine wpAny_pyIter_range hr (small_one ((xf hx.1).1) ((xf hx.1).2) ((xf hx.2).1) ((xf hx.2).2)) (s7 k _ p (K7 (x:=x) (y:=y)) ?_)
 have e1:x+((0:Nat):Int)=x:=Int.add_zero x
 have e2:(((y - x).toNat:Int) - ((0:Nat):Int))=Builtin.Range.rangeSize x y 1:=by rw[rangeSize_one];split<;>lia
 refine(?_:IsRangeIter _ _ (x+((0:Nat):Int)) (((y - x).toNat:Int) - ((0:Nat):Int)) 1)
 rw[e1,e2]
 exact get?_push_size _ rfl
theorem s8{P:Fp σ}{g:Expr}{nm:Str}{y:Value}{cs:List E}{es:List Expr}{pos:Pos}{post:List V->Hp->Prop}(G:Good X)(hg:dJ σ.f nm g=true)(hm:(nm,y)∈mG)(hy:∃T,y=.type T)(h:dY σ cs es)(p:mf σ.c cs P.ρ P.H post)(k:zG P.toPt cs.length post λxs bT=>wpAny X.M P.A (call y xs) Q P.Ex bT):wpAny X.M P.A (eval (.Call g es [] pos) P.env) Q P.Ex P.s:=
 eR.k (G:=λg=>wpAny X.M P.A (eval (.Call g es [] pos) P.env) Q P.Ex P.s) hg λx np hg=>aU hg λe ho=>by
  obtain rfl:=eq_of_beq e
  obtain⟨T,rfl⟩:=hy
  exact wpAny_Call_NameR (pv G P hm ho (PySem.callWith_type (h.plain P.env pos) (nU (h.plain P.env pos) (h.mP P _ _ pos p k))))
theorem Ld{b:E}{g e:Expr}{pos:Pos}(G:Good X)(hg:dJ σ.f "range" g=true)(h:dY σ [b] [e]):jq σ (.range (.k (.int 0)) b) (.Call g [e] [] pos):=
 ⟨λZ Z=>rfl,λP tg post Q Z p k=>s8 (post:=λvs H=>w1 vs λy=>ff y λj=>((0:Int).natAbs<2^60/\j.natAbs<2^60)/\post (mI 0 j,[]) H) G hg (g8 6 (by decide)) ⟨_,rfl⟩ h p (λvs H1 p1 Z N xs r=>w1.k p1 (λvs=>br N.w vs xs->_) (λv p1 r=>ff.k p1 (λv=>br N.w [v] xs->_) (λj p1 r=>
  r.k1 (λxs=>wpAny X.M P.A (call (.type "range") xs) (λx bT=>wpAny X.M P.A (pyIter x) Q P.Ex bT) P.Ex N.s) λx r=>r.inv (λx=>wpAny X.M P.A (call (.type "range") [x]) (λx bT=>wpAny X.M P.A (pyIter x) Q P.Ex bT) P.Ex N.s) λt=>call_range_1 (En (P:=(N.pt.ext (.push _) _).pt) ((k.nx N).nx (N.pt.ext (.push _) _)) (IsRange.new _ _ _ _ _ _ _) p1.1 p1.2)) r) r)⟩
theorem Le{a b:E}{g e e':Expr}{pos:Pos}(G:Good X)(hg:dJ σ.f "range" g=true)(h:dY σ [a,b] [e,e']):jq σ (.range a b) (.Call g [e,e'] [] pos):=
 ⟨λZ Z=>rfl,λP tg post Q Z p k=>s8 (post:=λvs H=>w2 vs λx y=>uC x y λl=>post (l,[]) H) G hg (g8 6 (by decide)) ⟨_,rfl⟩ h p (λvs H1 p1 Z N xs r=>w2.k p1 (λvs=>br N.w vs xs->_) (λu v p1 r=>ff.k p1 (λu=>br N.w [u,v] xs->_) (λi p1 r=>ff.k p1 (λv=>br N.w [.int i,v] xs->_) (λj p1 r=>
  r.k2 (λxs=>wpAny X.M P.A (call (.type "range") xs) (λx bT=>wpAny X.M P.A (pyIter x) Q P.Ex bT) P.Ex N.s) λx y r1 r2=>r1.inv (λx=>wpAny X.M P.A (call (.type "range") [x,y]) (λx bT=>wpAny X.M P.A (pyIter x) Q P.Ex bT) P.Ex N.s) λt=>r2.inv (λy=>wpAny X.M P.A (call (.type "range") [_,y]) (λx bT=>wpAny X.M P.A (pyIter x) Q P.Ex bT) P.Ex N.s) λt'=>call_range_2 (En (P:=(N.pt.ext (.push _) _).pt) ((k.nx N).nx (N.pt.ext (.push _) _)) (IsRange.new _ _ _ _ _ _ _) p1.1 p1.2)) r) r) r)⟩
end
theorem Ch.Eo{h h':Heap}{a b:Addr}(k:∀c o,c≠a->c≠b->h.get? c=some o->h'.get? c=some o)(fa:∀o,h.get? a=some o->fz o=false)(fb:∀o,h.get? b=some o->fz o=false):Ch (λc=>c=a\/c=b) h h':=λc o e hf=>
 (Classical.em (c=a)).elim (λe'=>no (hf (.inl e')) (fa o (e'▸e))) λha=>(Classical.em (c=b)).elim (λe'=>no (hf (.inr e')) (fb o (e'▸e))) λhb=>k c o ha hb e
section
variable{σ:Lv}{tg:Expr}{dp:Ws}{H₀:Hp}{ws:List Nat}{vs:List V}{a e it:Addr}
theorem zX:∀{us:List V} {k i:Nat},(pf k us)[i]?=us[i]?.map λu=>.aF [.int ((k+i:Nat):Int),u]
 |[],k,i=>rfl
 |u::us,k,0=>rfl
 |u::us,k,i+1=>by
  rw[pf,List.getElem?_cons_succ,List.getElem?_cons_succ,zX,add_right_comm];rfl
theorem Lf(uR:uf tg=true)(pA:w8 dp H₀ ws vs a)(cT:e≠it):kI tg dp H₀ ws (pf 0 vs) e (λc=>c=e\/c=it) (λi h=>(∃old,IsEnum h e it i old)/\h.IsListIter it a i) where
 keep:=λi h h' st hk=>⟨st.1.imp λold q=>hk e (.inl rfl) _ q,st.2.imp λo q=>⟨hk it (.inr rfl) o q.1,q.2⟩⟩
 live:=λi h st b hb=>hb.elim (λhb=>st.1.elim λold q=>⟨_,hb▸q,rfl,rfl⟩) λhb=>st.2.imp λo q=>⟨hb▸q.1,Ed q.2.1 rfl (sK q.2.2)⟩
 item:=λP i v Q hh kp hw st dv hv k=>(pA P kp hw).elim λxs hx=>fG (λv=>(∀h' tk y,SR ⟨P.φ,h'⟩ P.H->bL (λc=>c=e\/c=it) P.w ⟨P.φ,h'⟩->((∃old,IsEnum h' e it ((i+1:Nat):Int) old)/\h'.IsListIter it a (i+1))->aX ⟨P.φ,h'⟩ v y->Q y (upd P.s h' tk))->_) (zX▸hv) (λu hu k=>hx.2.get hu λy hy ry=>st.1.elim λold e1=>st.2.elim λo q=>by
  refine wpAny_pyNext_enum_item e1 st.2 hx.1 (by rw[xd];exact hy) cT λh' q1 q2 q3 q4 q5=>?_
  refine Expr.Tuple.elim (motive_1:=λtg=>wpAny X.M P.A (letOwnedTupleGo tg (.ref e) (.ref P.s.heap.objs.size)) (λZ dX=>Q (.ref P.s.heap.objs.size) dX) P.Ex (upd P.s h' (P.s.toks+1))) tg (of_decide_eq_true uR) λZ Z Z=>?_
  refine wpAny_letOwnedTupleGo_enum (s:=upd P.s h' (P.s.toks+1)) q1 λh2 w1 w2=>?_
  replace w2:SameBut e h' h2:=w2
  have hs:P.s.heap.objs.size≠e:=λe'=>bH (gR P.s.heap (le_of_eq e')) e1
  have keep:∀b o,b≠e->b≠it->P.s.heap.get? b=some o->h2.get? b=some o:=λb o n1 n2 x=>w2.extBut b o n1 (q5 b o n1 n2 x)
  have c:Ch (λc=>c=e\/c=it) P.s.heap h2:=.Eo keep (λo x=>by rw[e1] at x;cases x;exact mK rfl rfl) (λo' x=>by rw[q.1] at x;cases x;exact mK q.2.1 rfl)
  refine q2.elim λo' q2=>?_
  have dZ:h2.get? it=some o':=w2.extBut _ _ cT.symm q2.1
  have S:bL (λc=>c=e\/c=it) P.w ⟨P.φ,h2⟩:=bL.ch (io:=λc=>c=e\/c=it) (q:=P.w) .refl c λb hb=>.inr ⟨hb,hb.elim (λhb=>⟨_,hb▸w1,λo1 x hd=>by rw[hb,show P.w.h.get? e=_ from e1] at x;cases x;exact Bool.noConfusion hd⟩) λhb=>⟨_,hb▸dZ,λo1 x hd=>by rw[hb,show P.w.h.get? it=_ from q.1] at x;cases x;exact no hd (sK q.2.2)⟩⟩
  have hc:((i+1:Nat):Int)=(i:Int)+1:=rfl
  have h0:((0+i:Nat):Int)=(i:Int):=by rw[zero_add]
  exact k h2 _ _ (P.R.ch (p:=P.w) dv c) S ⟨⟨y,w1⟩,o',dZ,q2.2⟩ (.aF (w2.extBut _ _ hs q3) (.cons (h0▸.int _ _) (.cons (ry.mono S) .nil)) (Nat.le_of_ble_eq_true rfl) (P.R.new (p:=P.w) (gR _ (le_refl _))).1)) k
 done:=λP i Q hh kp hw st dv hv k=>(pA P kp hw).elim λxs hx=>st.1.elim λold e1=>st.2.elim λo q=>wpAny_pyNext_enum_end hh e1 st.2 hx.1 (none_of hx.2 (Option.map_eq_none_iff.mp (zX▸hv))) λh' he=>
  k h' P.s.toks (.Eo (λc o Z hc x=>he c o hc x) (λo x=>by rw[e1] at x;cases x;exact mK rfl rfl) (λo' x=>by rw[q.1] at x;cases x;exact mK q.2.1 rfl))
 self:=λA s Q Ex st h=>st.1.elim λold e1=>wpAny_pyIter_enum e1 h
theorem Lg{c:E}{g x:Expr}{pos:Pos}(G:Good X)(hg:dJ σ.f "enumerate" g=true)(h:dY σ [c] [x]):jq σ (.jI c) (.Call g [x] [] pos):=
 ⟨λZ Z=>rfl,λP tg post Q uR p k=>s8 (post:=λvs H=>w1 vs λy=>aJ (dt H y) λus=>post (pf 0 us,watch y) H) G hg (g8 7 (by decide)) ⟨_,rfl⟩ h p (λvs H1 p1 Z N xs r=>w1.k p1 (λvs=>br N.w vs xs->_) (λv p1 r=>aJ.k p1 λus hl p1=>r.k1 (λxs=>wpAny X.M P.A (call (.type "enumerate") xs) (λx bT=>wpAny X.M P.A (pyIter x) Q P.Ex bT) P.Ex N.s) λy r=>
  bJ (P:=N.pt) r hl (λy=>wpAny X.M P.A (call (.type "enumerate") [y]) (λx bT=>wpAny X.M P.A (pyIter x) Q P.Ex bT) P.Ex N.s) λl a xs m ev gS ha h1 h2 Z=>by
   subst ev
   refine call_enumerate_list (s:=N.s) (jo h1) λh2 w1 w2 w3 w4=>wpAny_pyIter_enum (s:=upd P.s h2 N.tk) w1 ?_
   have fr:∀b,N.h.objs.size<=b->Ap (N.pt.ext (h':=h2) w4 N.tk).w b/\P.s.heap.get? b=none:=λb hb=>have hn:=gR N.h hb;⟨N.R.new (p:=N.w) hn,N.S.dead hn⟩
   exact k _ _ p1 (N.then (N.pt.ext w4 N.tk)) _ _ _ (Lf uR (Eh ha gS (.head _)) (Nat.succ_ne_self _)) ⟨⟨.none,w1⟩,w2⟩ λb hb=>hb.elim (λhb=>fr b (hb▸le_succ _)) λhb=>fr b (le_of_eq hb.symm)) r)⟩
end
section
variable{P:Pt}{l k:Nat}{a:Addr}{Q:Unit->Shared->Prop}{Ex:Value->Shared->Prop}
noncomputable def qO(p:Ws)(a:Addr):Prop:=∃oe vs T oT,p.h.get? a=some oe/\oe.data=.fields vs/\sL p vs T oT
theorem Ep{o:Obj}{G:Prop}(h:fF o=true)(k:∀ts,o.data=.fields ts->3<ts.size->G):G:=by
 unfold fF at h
 cases e:o.data with
 |fields ts=>rw[e] at h;exact k ts e (of_decide_eq_true (and_eq_true_iff.mp h).2)
 |_=>rw[e] at h;cases h
theorem Lh{vs:Array Value}(h:3<vs.size):fF {cls:=.type "traceback",data:=.fields vs}=true:=decide_eq_true h
noncomputable abbrev Pt.soft(P:Pt){h':Heap}(hc:∀b o,b∈P.φ->P.s.heap.get? b=some o->h'.get? b=some o)(h0:aC X.dm h')(hk:∀b o,P.s.heap.get? b=some o->∃o',h'.get? b=some o'/\ij o o')(tk:Nat):Nx P P.H:=
 have K:Kp P.w ⟨P.φ,h'⟩:=⟨λZ Z e=>e,λb o Z e hn=>⟨hk b o e,hn⟩⟩
 ⟨P.φ,h',tk,⟨h0,P.R.fresh,P.R.nodup,P.R.len,λl c e=>P.R.at e λb hb r=>⟨b,hb,r.kp K λo y=>hc b o (mem_of_getElem? hb) y⟩⟩,
  ⟨λZ Z e=>e,λb o e Z Z=>hk b o e,λZ h1 h2=>absurd h1 h2,λb o e=>(hk b o e).imp λo' x=>⟨x.1,λZ hd=>x.2.dK hd⟩⟩⟩
theorem Er{T:Addr}{oT:Obj}{z:Value}(e:P.s.heap.get? T=some oT)(ht:fF oT=true)(hn:T∉P.φ)(h0:X.dm.get? T=none)(kq:∀N:Nx P P.H,(∀b,b≠T->N.h.get? b=P.s.heap.get? b)->Q () N.s):wpAny X.M P.A (setField (.ref T) 3 z) Q Ex P.s:=
 Ep ht λts hd hz=>wpAny_setField e hd hz (by
  have hs:=get?_update_self (Obj.mapFields (·.setIfInBounds 3 z)) e (Obj.isFreed_of_fields (Obj.data_mapFields hd _))
  have ho:∀b,b≠T->(P.s.heap.update T (Obj.mapFields (·.setIfInBounds 3 z))).get? b=P.s.heap.get? b:=λb hb=>get?_update_other _ _ (Ne.symm hb)
  have qJ:fF (Obj.mapFields (·.setIfInBounds 3 z) oT)=true:=by
   unfold fF at ht ⊢
   rw[Obj.data_mapFields hd,Obj.cls_mapFields]
   rw[hd] at ht
   exact(congrArg (λn=>_&&decide (3<n)) (Array.size_setIfInBounds)).trans ht
  refine kq (P.soft (λb o hb x=>(ho b λe'=>hn (e'▸hb)).trans x) (λb o x=>(ho b λe'=>bH h0 (e'▸x)).trans (P.R.keep b o x)) (λb o x=>?_) P.s.toks) ho
  by_cases e':b=T
  ·subst e'
   rw[e] at x;cases x
   exact⟨_,hs,λZ h=>no ht h,λh=>no ht h,λZ=>qJ⟩
  ·exact⟨o,(ho b e').trans x,.refl⟩)
theorem xg{fr:Option Addr}(h:qO P.w a)(ha:P.φ[l]?=some a)(kq:∀N:Nx P P.H,qO N.w a->Q () N.s):wpAny X.M P.A (setFlight (.ref a) fr) Q Ex P.s:=by
 obtain⟨oe,vs,T,oT,e1,e2,e3⟩:=h
 unfold setFlight
 refine wpAny_bind (wpAny_field e1 e2 e3.1 ?_)
 rw[if_pos (show(Value.ref T != Value.none)=true from rfl)]
 exact Er e3.2.1 e3.2.2.1 e3.2.2.2.1 e3.2.2.2.2 λN hN=>(e3.kp N.S.kp).elim λo' y=>kq N ⟨oe,vs,T,o',(hN a λe=>e3.2.2.2.1 (e▸mem_of_getElem? ha)).trans e1,e2,y⟩
theorem Li{α:Type}{l:List α}{i:Nat}{a:α}(h:l[i]?=some a):l.set i a=l:=by
 apply ext_getElem?
 intro j
 rw[List.getElem?_set]
 split
 ·rename_i e;subst e
  rw[if_pos (List.getElem?_eq_some_iff.mp h).1,h]
 ·rfl
theorem Lj{T:Addr}{oe oT:Obj}{C:Addr}{vs:Array Value}(hl:P.H[l]?=some (.exc k))(ha:P.φ[l]?=some a)(e1:P.s.heap.get? a=some oe)(e2:X.exc[k]?=some C)(e3:oe.cls=.ref C)(e4:oe.data=.fields vs)(jp:1<vs.size)(eT:P.s.heap.get? T=some oT)(ht:fF oT=true)(hn:T∉P.φ)(h0:X.dm.get? T=none)
  (kq:∀N:Nx P P.H,qO N.w a->Q () N.s):wpAny X.M P.A (setField (.ref a) 1 (.ref T)) Q Ex P.s:=
 wpAny_setField e1 e4 jp (by
  have hd:=Obj.data_mapFields e4 (·.setIfInBounds 1 (.ref T))
  have hs:=get?_update_self (Obj.mapFields (·.setIfInBounds 1 (.ref T))) e1 (Obj.isFreed_of_fields hd)
  have he:ExtBut a P.s.heap (P.s.heap.update a (Obj.mapFields (·.setIfInBounds 1 (.ref T)))):=λb o hb x=>(get?_update_other _ _ (Ne.symm hb)).trans x
  have Lk:T≠a:=λe=>hn (e▸mem_of_getElem? ha)
  have tb:sL ⟨P.φ,P.s.heap.update a (Obj.mapFields (·.setIfInBounds 1 (.ref T)))⟩ (vs.setIfInBounds 1 (.ref T)) T oT:=⟨by rw[Array.getElem?_setIfInBounds_self];exact if_pos jp,he T oT Lk eT,ht,hn,h0⟩
  have c:eH ⟨P.φ,P.s.heap.update a (Obj.mapFields (·.setIfInBounds 1 (.ref T)))⟩ a (.exc k):=.exc hs e2 ((Obj.cls_mapFields _ _).trans e3) hd (.inr ⟨T,oT,tb⟩)
  have N:=P.set ha he c P.s.toks
  exact kq ⟨P.φ,_,P.s.toks,Li hl▸SR.set (p:=P.w) P.R ha he c,c.ob.elim λZ ho=>bL.cell (q:=P.w) .refl (mem_of_getElem? ha) he ho⟩ ⟨_,_,T,oT,hs,hd,tb⟩)
theorem Ll{e:Value}{env fe:Env}(h:fe.frame=env.frame):noteFrame e env=noteFrame e fe:=by unfold noteFrame PySem.frameOf;rw[h]
theorem ly.Es{A:Around}{p:Ws}:∀{l:List Env},(∀e,e∈l->e.scope.kind=.function/\∃L o,e.frame=some L/\p.h.get? L=some o/\dK o=true/\Ap p L)->p.h.FunFrames X.dm l/\∀b,b∈l.filterMap (·.frame)->∃o,p.h.get? b=some o/\dK o=true/\Ap p b
 |[],_=>⟨trivial,λZ h=>nomatch h⟩
 |e::l,H=>by
  have x:=H e (.head _)
  have r:=ly.Es (A:=A) λe he=>H e (.tail _ he)
  obtain⟨hk,L,o,h1,h2,h3,h4⟩:=x
  refine And.intro ⟨(by rw[hk];exact λh=>nomatch h),⟨L,o,h1,h4.2,h2,λvs hv=>no h3 (sK hv)⟩,r.1⟩ λb hb=>?_
  rw[List.filterMap_cons,h1] at hb
  exact(mem_cons.mp hb).elim (λe=>e▸⟨o,h2,h3,h4⟩) (r.2 b)
theorem Lm{fe:Env}{outer:List Env}{L:Addr}{Q:Value->Shared->Prop}(hA:P.A.frames=some (fe::outer))(hL:fe.frame=some L)(kq:∀N:Nx P P.H,(∀b,b∈P.φ->N.h.get? b=P.s.heap.get? b)->Q (.ref L) N.s):wpAny X.M P.A (PySem.frameOf fe) Q Ex P.s:=by
 have qP:iF P.A=fe::outer:=by unfold iF;rw[hA];rfl
 have fr:=ly.Es (A:=P.A) (p:=P.w) (l:=fe::outer) λe he=>P.fr e (qP▸he)
 refine wpAny_frameOf_fun hA fr.1 hL λfk hs=>?_
 have ho:∀b o,P.s.heap.get? b=some o->dK o=false->fk.get? b=some o:=λb o e hd=>(hs.2.1 b λhm=>(fr.2 b hm).elim λo' x=>by rw[show P.w.h.get? b=some o from e] at x;cases x.1;exact no x.2.1 hd).trans e
 have uQ:∀b,Ap P.w b\/fk.get? b=P.s.heap.get? b:=λb=>(Classical.em (b∈(fe::outer).filterMap (·.frame))).elim (λh=>(fr.2 b h).elim λZ x=>.inl x.2.2) λh=>.inr (hs.2.1 b h)
 have hc:∀b,b∈P.φ->fk.get? b=P.s.heap.get? b:=λb hb=>(uQ b).elim (λh=>absurd hb h.1) id
 exact kq (P.soft (h':=fk) (λb o hb x=>(hc b hb).trans x) (λb o x=>(uQ b).elim (λh=>bH h.2 x) λh=>h.trans (P.R.keep b o x)) (λb o x=>(hs.2.2 b o x).elim λsl y=>by
  cases hd:dK o with
  |true=>exact⟨_,y,λh=>no hd h,λZ=>⟨rfl,rfl⟩,λh=>no h (zD hd)⟩
  |false=>exact⟨o,ho b o x hd,.refl⟩) P.s.toks) hc
theorem Et{fe:Env}{outer:List Env}{L:Addr}{head:Value}{nx:Bool}{oe:Obj}{C:Addr}{vs:Array Value}(hA:P.A.frames=some (fe::outer))(hL:fe.frame=some L)(hl:P.H[l]?=some (.exc k))(ha:P.φ[l]?=some a)(e1:P.s.heap.get? a=some oe)(e2:X.exc[k]?=some C)(e3:oe.cls=.ref C)(e4:oe.data=.fields vs)(jp:1<vs.size)(kq:∀N:Nx P P.H,qO N.w a->Q () N.s):
  wpAny X.M P.A (do let f <-PySem.frameOf fe;let pl <-entryPlaceOf L nx;let b <-EntryCells.newEntry head f .none (rawInt L) .none pl;setField (.ref a) 1 b) Q Ex P.s:=by
 refine wpAny_bind (Lm hA hL λN hN=>wpAny_bind (wpAny_entryPlaceOf λpl mS=>?_))
 unfold EntryCells.newEntry newFields
 refine wpAny_bind (wpAny_newObj_type ?_ (mS.sizeOk5 _ _ _ _ _))
 have hn:=gR N.h (le_refl _)
 have ap:=N.R.new (p:=N.w) hn
 exact Lj (P:=(N.pt.ext (.push _) N.tk).pt) hl (N.S.pre _ _ ha) (get?_push_of_some _ ((hN a (mem_of_getElem? ha)).trans e1)) e2 e3 e4 jp (get?_push_size _ rfl) (by
  refine Lh ?_
  rw[size_toArray,length_append]
  exact lt_of_lt_of_le (show 3<5 by decide) (le_add_right _ _)) ap.1 ap.2 λN2 h2=>kq (N.then ((N.pt.ext (.push _) N.tk).then N2)) h2
theorem zY{env:Env}(hf:∃fe,(iF P.A).head?=some fe/\fe.frame=env.frame)(hl:P.H[l]?=some (.exc k))(ha:P.φ[l]?=some a)(kq:∀N:Nx P P.H,qO N.w a->Q () N.s):wpAny X.M P.A (noteFrame (.ref a) env) Q Ex P.s:=by
 obtain⟨fe,outer,hA,_⟩:=P.rm.frames
 have qP:iF P.A=fe::outer:=by unfold iF;rw[hA];rfl
 obtain⟨VP,h1,h2⟩:=hf
 rw[qP] at h1
 cases h1
 rw[Ll h2]
 obtain⟨_,L,oL,hL,_⟩:=P.fr fe (qP▸.head _)
 refine P.R.at hl λb hb hc=>?_
 rw[ha] at hb;cases hb
 refine hc.inv _ λoe Ca vs e1 e2 e3 e4 e5=>?_
 unfold noteFrame
 simp only[hL]
 rcases e5 with e5|⟨T,oT,e5⟩
 ·refine wpAny_bind (wpAny_field e1 e4 e5 ?_)
  rw[if_neg (by decide)]
  exact Et hA hL hl ha e1 e2 e3 e4 (Array.getElem?_eq_some_iff.mp e5).1 kq
 ·refine wpAny_bind (wpAny_field e1 e4 e5.1 ?_)
  rw[if_pos (show(Value.ref T != Value.none)=true from rfl)]
  refine Ep e5.2.2.1 λts f2 f3=>wpAny_bind (wpAny_field e5.2.1 f2 (Array.getElem?_eq_getElem f3) ?_)
  by_cases hz:(ts[3]==rawInt L)=true
  ·rw[if_pos hz]
   exact wpAny_pure (kq (P.fQ P.s.toks) ⟨oe,vs,T,oT,e1,e4,e5⟩)
  ·rw[if_neg hz]
   refine wpAny_bind (Er e5.2.1 e5.2.2.1 e5.2.2.2.1 e5.2.2.2.2 λN hN=>?_)
   exact Et (P:=N.pt) hA hL hl (N.S.pre _ _ ha) ((hN a λe=>e5.2.2.2.1 (e▸mem_of_getElem? ha)).trans e1) e2 e3 e4 (Array.getElem?_eq_some_iff.mp e5.1).1 λN2 h2=>kq (N.then N2) h2
theorem Ln{env:Env}(hf:∃fe,(iF P.A).head?=some fe/\fe.frame=env.frame)(hl:P.H[l]?=some (.exc k))(ha:P.φ[l]?=some a)(kq:∀N:Nx P P.H,qO N.w a->Q () N.s):wpAny X.M P.A (leaving env (.ref a)) Q Ex P.s:=
 wpAny_bind (zY hf hl ha λN hN=>xg (P:=N.pt) hN (N.S.pre _ _ ha) λN2 h2=>kq (N.then N2) h2)
theorem Lo{env:Env}(hf:∃fe,(iF P.A).head?=some fe/\fe.frame=env.frame)(hl:P.H[l]?=some (.exc k))(ha:P.φ[l]?=some a)(kq:∀N:Nx P P.H,Ex (.ref a) N.s):notedBy X.M P.A env (λe s'=>cameBackBy X.M P.A env Ex e s') (.ref a) P.s:=
 zY hf hl ha λN hN=>by
  obtain⟨oe,vs,T,oT,e1,e2,e3⟩:=id hN
  unfold cameBackBy
  refine wpAny_bind (wpAny_field e1 e2 e3.1 ?_)
  refine(?_:wpAny X.M P.A (if(Value.ref T==Value.none)=true then _ else setFlight (.ref a) env.frame) _ _ _)
  rw[if_neg (show ¬((Value.ref T==Value.none)=true) from Bool.false_ne_true)]
  exact xg (P:=N.pt) hN (N.S.pre _ _ ha) λN2 Z=>kq (N.then N2)
theorem Fp.back{σ:Lv}(P:Fp σ):qG P.own P.w P.s (xq σ.x) (notedBy X.M P.A P.env λe s'=>cameBackBy X.M P.A P.env P.Ex e s'):=λv H p φ h tk R S y r=>
 (isSome_iff_exists.mp p.1).elim λj ej=>cellAt.k ej (λv=>σ.x v H->aX ⟨φ,h⟩ v y->_) (λl c hl hc q r=>mH.k (λc=>H[l]?=some c->_) hc (λhl=>r.inv (λy=>notedBy X.M P.A P.env (λe s'=>cameBackBy X.M P.A P.env P.Ex e s') y (upd P.s h tk)) λa ha=>
  Lo (P:=⟨P.A,φ,H,upd P.s h tk,P.Ex,P.rm,R,P.fr.i5 S⟩) P.hf hl ha λN=>P.kx _ _ q N.φ N.h N.tk N.R (S.trans N.S.nil) _ (.ref (N.S.pre _ _ ha))) hl) p.2 r
end
section
variable{A:Around}{R:Result->Shared->Prop}{s:Shared}
theorem Lp{target:Expr}{it:Value}{body:List Stmt}{env:Env}{Ex:Value->Shared->Prop}(eE:Ex=notedBy X.M A env λe s'=>R (.error e) s')(I:Nat->Shared->Prop)
  (turn:∀n s,I n s->wpAny X.M A (pyNext it) (λr bT=>r=none/\R (.ok .next) bT) NE s\/wpAny X.M A (pyNext it) (λr bT=>aJ r λv=>
    wpAny X.M A (letOwnedTupleGo target it v) (λZ bT=>wpAny X.M A (assign target env v) (λZ dX=>wpAny X.M A (execs body env) (λf lz=>match f with
     |.next | .cont=>∃m,m<n/\I m lz
     |.brk=>R (.ok .next) lz
     |.ret v=>R (.ok (.ret v)) lz) Ex dX) Ex bT) NE bT) NE s)
  (n:Nat) (h:I n s):codeAny X.M A (.forLoop target it body [] env) R s:=by
 subst eE
 refine codeAny_loop' rfl I (λn s hI=>?_) n h
 refine(?_:wpAny _ _ ((forTurn target it body [] env).onRaise (λx=>do noteFrame x env;theTreesLotGoes x)) _ _ s)
 refine wpAny_noted ?_
 refine wpAny_bind (wpAny_standAt (wpAny_bind (wpAny_onRaise ((turn n s hI).elim (λht=>wpAny_mono ht (λr bT fk=>?_) λZ Z h'=>h'.elim) λht=>wpAny_mono ht (λr bT fk=>?_) λZ Z h'=>h'.elim))))
 ·rw[fk.1];exact wpAny_pure (.inr ⟨rfl,codeAny_block (wpAny_execs_nil fk.2)⟩)
 ·refine aJ.k fk λv e fk=>?_
  subst e
  refine wpAny_bind (wpAny_mono fk (λZ dX ip=>wpAny_bind (wpAny_mono ip (λZ dX ip=>wpAny_bind (wpAny_mono ip (λf lz qQ=>?_) λZ Z h'=>h')) λZ Z h'=>h')) λZ Z h'=>h'.elim)
  cases f with
  |next=>exact wpAny_pure (.inl ⟨rfl,qQ⟩)
  |cont=>exact wpAny_pure (.inl ⟨rfl,qQ⟩)
  |brk=>exact wpAny_pure qQ
  |ret v=>exact wpAny_pure qQ
end
section
variable{σ:Lv}{tg:Expr}{io:Addr->Prop}{St:Nat->Heap->Prop}{ρ:aP}{H:Hp}
theorem Sx.ch{P:Fp σ}{h':Heap}(N:Sx P ρ H)(c:Ch io N.h h')(dv:∀a,io a->Ap N.w a)(lA:∀a,io a->P.s.heap.get? a=none)(tk:Nat):∃N':Sx P ρ H,N'.φ=N.φ/\N'.h=h'/\N'.tk=tk:=
 ⟨⟨N.φ,h',tk,N.R.ch (p:=N.w) dv c,N.F.ch (p:=N.w) c λa ha hi=>(P.F.live a ha).elim λo e=>bH (lA a hi) e,bL.ch (q:=N.w) N.S c λa hi=>.inl (lA a hi)⟩,rfl,rfl,rfl⟩
noncomputable abbrev Sx.xi{P:Fp σ}{h':Heap}(N:Sx P ρ H)(R:SR ⟨N.φ,h'⟩ H)(S:bL io N.w ⟨N.φ,h'⟩)(lA:∀a,io a->P.s.heap.get? a=none)(tk:Nat):Sx P ρ H:=
 ⟨N.φ,h',tk,R,N.F.mono S λa ha hi=>(P.F.live a ha).elim λo e=>bH (lA a hi) e,bL.ow (own:=λa=>P.own a\/io a) ((N.S.ow λZ h=>.inl (.inl h)).trans (S.ow λZ h=>.inl (.inr h))) λa h=>h.imp id λhi=>lA a hi⟩
inductive Eu(P:Fp σ)(dp:Ws)(H₀:Hp)(ws:List Nat)(vs:List V)(io:Addr->Prop)(St:Nat->Heap->Prop)(t:cN)(body:List S)(K:Out->Prop)(j:Nat)(s:Shared):Prop
 |mk (i:Nat) (ρ:aP) (H:Hp) (N:Sx P ρ H) (e:s=N.s) (ej:j=(vs.drop i).length+1) (kp:Kp dp N.w) (hw:eF ws H₀ H=true) (st:St i N.h) (dv:∀a,io a->Ap N.w a) (p:md ws H₀ t (λρ H K=>aM σ.c body ρ H K) (vs.drop i) ρ H K):Eu P dp H₀ ws vs io St t body K j s
theorem drop_cons{α:Type}{l:List α}{i:Nat}{a:α}(h:l[i]?=some a):l.drop i=a::l.drop (i+1):=by
 have h:=List.getElem?_eq_some_iff.mp h
 rw[List.drop_eq_getElem_cons h.1,h.2]
theorem Lq{t:cN}{it:It}{iter:Expr}{body:List S}{bs:List Stmt}{pos:Pos}(hh:σ.f.hd=false)(ht:iE σ.f t tg=true)(uR:sD it tg=true)(dZ:jq σ it iter)(hb:mR (σ.ex (xq σ.x)) body bs):SS σ (.for t it body) (.For tg iter bs [] pos):=λP K Q ho p k=>by
 refine wpAny_For (dZ.2 P tg _ _ uR p (λq H1 p1 N0 I io St lB s9 dv=>?_)) (dZ.1 P.env)
 have lA:∀a,io a->P.s.heap.get? a=none:=λa ha=>(dv a ha).2
 have pB:∀{a:Addr} {G:Prop},io a->P.own a->G:=λha mO=>(P.F.live _ (ho.2 _ mO)).elim λo e=>bH (lA _ ha) e
 have k:=k.ex P.back
 refine Lp rfl (Eu (P.ex _ _ P.back) N0.w H1 q.2 q.1 io St t body K) (λj s' w=>w.casesOn λi ρ H N e ej kp hw st qR p'=>?_) (q.1.length+1) ⟨0,P.ρ,H1,⟨N0.φ,N0.h,N0.tk,N0.R,P.F.mono N0.S λZ Z h=>h,N0.S.nil⟩,rfl,by rw[drop_zero],.refl,Eg _ _,s9,λa ha=>(dv a ha).1,by rw[drop_zero];exact p1⟩
 subst e ej
 cases hv:q.1[i]? with
 |none=>
  refine .inl (lB.done N.fp.no.toPt i _ (P.calm hh) kp hw st qR hv λh2 i6 c=>⟨rfl,?_⟩)
  rw[drop_eq_nil_iff.mpr (List.getElem?_eq_none_iff.mp hv)] at p'
  exact(N.ch c qR lA i6).elim λN' e=>by have:=k.next _ _ p' N';rw[show N'.s=upd P.s N'.h N'.tk from rfl,e.2.1,e.2.2] at this;exact this
 |some v=>
  have hd:=drop_cons hv
  rw[hd] at p'
  refine aJ.k p' λuS ha p'=>?_
  refine .inr (lB.item N.fp.no.toPt i v _ (P.calm hh) kp hw st qR hv λh2 i6 y R2 S2 lC r2=>?_)
  exact sW t tg (N.xi R2 S2 lA i6).fp v y uS _ ht (λx hx=>ho.1 x (uN (σ:=σ) t tg ht x hx)) r2 ha λN3=>hb ((N.xi R2 S2 lA i6).then N3).fp _ _ ho p' ⟨λLr H4 p4 N4=>by
    have hk:∀a,io a->∀o,h2.get? a=some o->N4.h.get? a=some o:=λa ha o e=>(lB.live _ _ lC a ha).elim λo' x=>by
     rw[show h2.get? a=some o' from x.1] at e;cases e
     exact N4.S.same (N3.S.same x.1 (qR a ha).1 (λh=>pB ha h) x.2.1 x.2.2) (N3.S.mL x.1 (qR a ha).1) (λh=>pB ha h) x.2.1 x.2.2
    exact⟨(q.1.drop (i+1)).length+1,by rw[hd];exact lt_succ_self _,i+1,Lr,H4,((N.xi R2 S2 lA i6).then N3).then N4,rfl,rfl,(kp.trans S2.kp).trans (N3.S.kp.trans N4.S.kp),p4.1,lB.keep _ _ _ lC hk,λa ha=>⟨(lB.live _ _ lC a ha).elim λo e=>(N3.S.trans N4.S).mL e.1 (qR a ha).1,(qR a ha).2⟩,p4.2⟩,
    λv4 H4 p4 φ h tk R S x r=>k.ret v4 H4 p4 φ h tk R (((N.xi R2 S2 lA i6).then N3).S.trans S) x r⟩
end
theorem zZ{env:Env}{G:Prop}:∀(names:List (Str×NameKind)) (acc:List (Str×Addr)),(∀p,p∈acc->env.cells.lookup p.1=some p.2)->(∀p,p∈names->p.2=.free->∃c,env.cells.lookup p.1=some c) ->
  (∀cl:List (Str×Addr),(forIn names acc λ(x:Str×NameKind) (cs:List (Str×Addr))=>if(x.2==NameKind.free)=true then(do let c <-cellOf env x.1;pure (ForInStep.yield ((x.1,c)::cs))) else pure (ForInStep.yield cs):Sem (List (Str×Addr)))=pure cl ->
   (∀p,p∈cl->env.cells.lookup p.1=some p.2)->(∀p,p∈acc->p∈cl)->(∀x,(x,NameKind.free)∈names->∃c,(x,c)∈cl)->G)->G
 |[],acc,h,_,k=>k acc rfl h (λZ h=>h) λZ h=>nomatch h
 |(x,j)::r,acc,h,hn,k=>by
  by_cases hk:(j==NameKind.free)=true
  ·obtain rfl:=eq_of_beq hk
   exact(hn (x,.free) (.head _) rfl).elim λc hc=>zZ r ((x,c)::acc) (λp hp=>(mem_cons.mp hp).elim (λe=>e▸hc) (h p)) (λp hp=>hn p (.tail _ hp)) λcl e h1 h2 h3=>k cl (by
    rw[forIn_cons,if_pos hk,show cellOf env (x,NameKind.free).1=pure c by unfold cellOf;rw[hc]]
    exact e) h1 (λp hp=>h2 p (.tail _ hp)) λy hy=>(mem_cons.mp hy).elim (λe=>⟨c,h2 _ (by rw[(Prod.mk.inj e).1];exact .head _)⟩) (h3 y)
  ·exact zZ r acc h (λp hp=>hn p (.tail _ hp)) λcl e h1 h2 h3=>k cl (by rw[forIn_cons,if_neg hk];exact e) h1 h2 λy hy=>(mem_cons.mp hy).elim (λe=>absurd (beq_iff_eq.mpr (Prod.mk.inj e).2.symm) hk) (h3 y)
theorem Ew{α:Type}{x:Str}{c:α}:∀{l:List (Str×α)},(x,c)∈l->∃d,l.lookup x=some d
 |(y,e)::r,h=>by
  rw[lookup_cons]
  cases hb:x==y with
  |true=>exact⟨_,rfl⟩
  |false=>exact(mem_cons.mp h).elim (λh=>by rw[(Prod.mk.inj h).1,beq_self_eq_true] at hb;cases hb) Ew
theorem Ey{x:Str}{k:NameKind}:∀{l:List (Str×NameKind)},(l.map (·.1)).Nodup->(x,k)∈l->l.lookup x=some k
 |(y,j)::r,hn,h=>by
  rw[lookup_cons]
  have hn:=nodup_cons.mp hn
  cases hb:x==y with
  |true=>exact(mem_cons.mp h).elim (λe=>by rw[(Prod.mk.inj e).2]) λh=>absurd (mem_map.mpr ⟨(x,k),h,eq_of_beq hb⟩) hn.1
  |false=>exact(mem_cons.mp h).elim (λe=>by rw[(Prod.mk.inj e).1,beq_self_eq_true] at hb;cases hb) (Ey hn.2)
noncomputable def uT(f:Sn)(loc:List Str)(x:Str):NameKind->Prop
 |.local=>x=(".0":Str)\/x∈loc
 |.cell=>False
 |.free=>x∈f.ns/\x∉loc/\nS (f.sc.names.lookup x)
 |.globalImplicit=>True
 |.globalExplicit=>False
structure mT(f:Sn)(loc:List Str)(cs:Scope):Prop where
 kind:cs.kind=.function
 gen:cs.isGenerator=false/\cs.isCoroutine=false
 nodup:(cs.names.map (·.1)).Nodup
 all:∀p,p∈cs.names->uT f loc p.1 p.2
 Ls:∀x,x∈loc->cs.names.lookup x=some .local
 Lu:(".0":Str)∉f.ns
theorem xj{b:Bool}(h:(!b)=true):b=false:=by cases b<;>first|rfl|cases h
theorem qS{x:Str}{l:List Str}(h:(!l.contains x)=true):x∉l:=λhm=>by rw[contains_iff_mem.mpr hm] at h;cases h
theorem uT.of{f:Sn}{loc:List Str}{p:Str×NameKind}(h:(match p.2 with
  |.local=>p.1==(".0":Str)||loc.contains p.1
  |.cell=>false
  |.free=>f.ns.contains p.1&&(!loc.contains p.1&&zx (f.sc.names.lookup p.1))
  |.globalImplicit=>true
  |.globalExplicit=>false)=true):uT f loc p.1 p.2:=by
 cases p with
 |mk x k=>
  cases k with
  |«local»=>exact(or_eq_true_iff.mp h).imp eq_of_beq contains_iff_mem.mp
  |free=>exact aU h λa b=>aU b λb c=>⟨contains_iff_mem.mp a,qS b,c⟩
  |globalImplicit=>trivial
  |_=>cases h
theorem uy.sc{f:Sn}{cs:Scope}{loc:List Str}(h:uy f loc cs=true):mT f loc cs:=
 aU h λh1 h=>aU h λh2 h=>aU h λh3 h=>aU h λh4 h=>aU h λh5 h=>aU h λh6 h7=>
  ⟨of_decide_eq_true h1,⟨xj h2,xj h3⟩,of_decide_eq_true h4,λp hp=>uT.of (all_eq_true.mp h5 p hp),λx hx=>of_decide_eq_true (all_eq_true.mp h6 x hx),qS h7⟩
section
variable{σ:Lv}{cs:Scope}{ns loc:List Str}{env:Env}{h':Heap}{cl:List (Str×Addr)}{D:Addr}
theorem Ez{x:Str}(G:Option NameKind->Option NameKind->Prop)(h1:∀k,G k k)(h2:G (some .free) (some .cell)):G (cs.names.lookup x) ((relabel cs env).names.lookup x):=by
 unfold relabel
 refine(?_:G (cs.names.lookup x) ((cs.names.map _).lookup x))
 induction cs.names with
 |nil=>exact h1 _
 |cons p r ih=>
  obtain⟨y,k⟩:=p
  rw[map_cons]
  refine(?_:G _ (((if(k==NameKind.free&&env.scope.kind==.function&&env.kindOf y==some .cell)=true then(y,NameKind.cell) else(y,k))::_).lookup x))
  by_cases hc:(k==NameKind.free&&env.scope.kind==.function&&env.kindOf y==some .cell)=true
  ·rw[if_pos hc,lookup_cons,lookup_cons]
   cases hx:x==y with
   |true=>exact aU hc λa Z=>aU a λa Z=>by rw[eq_of_beq a];exact h2
   |false=>exact ih
  ·rw[if_neg hc,lookup_cons,lookup_cons]
   cases hx:x==y with
   |true=>exact h1 _
   |false=>exact ih
theorem Lw:Kinds cs (compEnvC cs cl D env):=λx=>Ez (env:=env) (λa b=>DO a b) (λZ=>.inl rfl) (.inr ⟨rfl,rfl⟩)
theorem EA(P:Fp σ){x:Str}(h:nS (σ.f.sc.names.lookup x)):nS (P.env.kindOf x):=(P.kd x).elim (λe=>e▸h) λe=>e.2
theorem Lx{x:Str}{k:NameKind}(h:(relabel cs env).names.lookup x=some k):cs.names.lookup x=some k\/(k=.cell/\cs.names.lookup x=some .free):=
 Ez (cs:=cs) (env:=env) (x:=x) (λa b=>b=some k->a=some k\/(k=.cell/\a=some .free)) (λZ h=>.inl h) (λh=>.inr ⟨(Option.some.inj h).symm,rfl⟩) h
theorem mT.nm{f:Sn}(c:mT f loc cs){x:Str}{k:NameKind}(h:cs.names.lookup x=some k):uT f loc x k:=c.all _ (mem_lookup h)
theorem mT.fc{env':Env}(P:Fp σ)(hk:env'.scope.kind=.function)(hg:env'.scope.isGenerator=false/\env'.scope.isCoroutine=false)(h1:env'.globals=mainGlobals)(h2:env'.builtins=builtinsNs)(iq:∀p,p∈env'.cells->P.env.cells.lookup p.1=some p.2)(hC:P.s.heap.get? env'.locals=none):Fc env':=
 ⟨hk,h1,h2,⟨hg.1,hg.2,by unfold interactive;rw[hk];rfl⟩,
  λx y c h1 h2=>P.F.fc.apart x y c (iq _ (mem_lookup h1)) (iq _ (mem_lookup h2)),λq hq e=>(P.F.live _ (sN (iq q hq))).elim λo e'=>bH (e▸hC) e'⟩
theorem EB{x:Str}{ρl ρ:aP}(hl:ρl.length=loc.length)(hx:x∈loc):lk (loc++ns) (ρl++ρ) x=lk loc ρl x:=by
 unfold lk
 rw[List.idxOf_append,if_pos hx,getElem?_append_left (by rw[hl];exact List.idxOf_lt_length_of_mem hx)]
theorem EC{x:Str}{ρl ρ:aP}(hl:ρl.length=loc.length)(hx:x∉loc):lk (loc++ns) (ρl++ρ) x=lk ns ρ x:=by
 unfold lk
 rw[List.idxOf_append,if_neg hx,getElem?_append_right (by rw[hl];exact le_add_left _ _),hl,Nat.add_sub_cancel]
theorem z4{x:Str}:lk loc (replicate loc.length none) x=none:=by
 unfold lk
 rw[List.getElem?_replicate]
 split<;>rfl
theorem mT.fr{env':Env}{ρl:aP}{m:Str->Option Value}(c:mT σ.f loc cs)(P:Fp σ)(fc:Fc env')(hk:∀x k,env'.kindOf x=some k->cs.names.lookup x=some k\/(k=.cell/\cs.names.lookup x=some .free))(iq:∀p,p∈env'.cells->P.env.cells.lookup p.1=some p.2)(uU:∀x,(x,NameKind.free)∈cs.names->∃c,(x,c)∈env'.cells)(hC:P.s.heap.get? env'.locals=none)(e:aC P.s.heap h')(hn:h'.Ns env'.locals m)
  (hl:ρl.length=loc.length) (hm:∀x,x∈loc->ik ⟨P.φ,h'⟩ (lk loc ρl x) (m x)):FR env' (loc++σ.f.ns) (ρl++P.ρ) ⟨P.φ,h'⟩:=
 ⟨fc,by rw[length_append,length_append,hl,P.F.len],
  ⟨_,hn,λx hx h=>(hk x _ h).elim (λh=>(Classical.em (x∈loc)).elim (λhx=>by rw[EB hl hx];exact hm x hx) λqT=>((c.nm h).elim (λe=>absurd (e▸(mem_append.mp hx).resolve_left qT) c.Lu) λhl=>absurd hl qT)) λh=>nomatch h.1⟩,
  λx hx h=>by
   have hf:cs.names.lookup x=some .free:=by
    cases ek:env'.kindOf x with
    |none=>rw[ek] at h;cases h
    |some k=>
     rw[ek] at h
     exact(hk x k ek).elim (λe=>by
      cases k with
      |free=>exact e
      |cell=>exact(c.nm e).elim
      |_=>cases h) λe=>e.2
   have q:=c.nm hf
   exact(uU x (mem_lookup hf)).elim λd hd=>(Ew hd).elim λd hd=>(P.F.qF x q.1 (EA P q.2.2)).elim λc1 w=>w.elim λv w=>by
    have:=iq _ (mem_lookup hd)
    rw[show P.env.cells.lookup x=some d from this] at w
    cases w.1
    exact⟨d,v,hd,zF w.2.1 (e _),by rw[EC hl q.2.1];exact w.2.2.kp (P.toPt.ext e 0).S.kp⟩,
  λa ha=>ha.elim (λea=>(by rw[ea];exact P.R.new (p:=P.w) hC)) λw=>w.elim λy hy=>P.F.ap _ (sN (iq _ (mem_lookup hy))),
  λa ha=>ha.elim (λea=>by rw[ea];exact hn.imp λo w=>w.elim λZ w=>w.elim λZ w=>w.1) λw=>w.elim λy hy=>(P.F.live _ (sN (iq _ (mem_lookup hy)))).imp λo x=>e _ _ x⟩
theorem mT.frame(c:mT σ.f loc cs)(P:Fp σ)(iq:∀p,p∈cl->P.env.cells.lookup p.1=some p.2)(uU:∀x,(x,NameKind.free)∈cs.names->∃c,(x,c)∈cl)(hC:P.s.heap.get? D=none)(e:aC P.s.heap h')(hn:h'.Ns D (λZ=>none)):FR (compEnvC cs cl D P.env) (loc++σ.f.ns) (replicate loc.length none++P.ρ) ⟨P.φ,h'⟩:=
 c.fr P (mT.fc P c.kind c.gen P.F.fc.glob P.F.fc.blt iq hC) (λx k h=>Lx (cs:=cs) (env:=P.env) h) iq uU hC e hn List.length_replicate λx hx=>by rw[z4];exact .none
end
section
variable{A:Around}{R:Result->Shared->Prop}{s:Shared}
theorem Ly{elt target iter:Expr}{ifs:List Expr}{scope:Scope}{pos:Pos}{it acc:Value}{env:Env}(I:Nat->Shared->Prop)
  (turn:∀n s,I n s->wpAny X.M A (pyNext it) (λr bT=>r=none/\R (.ok .next) bT) NE s\/wpAny X.M A (pyNext it) (λr bT=>aJ r λv=>
    wpAny X.M A (letOwnedTupleGo target it v) (λZ z5=>wpAny X.M A (assign target env v) (λZ dX=>
     wpAny X.M A (forIn ifs true λc r=>if r=true then do let ok <-isTrue c env (eval c env);pure (ForInStep.yield ok) else pure (ForInStep.yield r)) (λok lz=>
      bx ok (wpAny X.M A (eval elt env) (λx ED=>wpAny X.M A (call (.builtin "list.append") [acc,x]) (λZ EE=>∃m,m<n/\I m EE) NE ED) NE lz) (∃m,m<n/\I m lz)) NE dX) NE z5) NE bT) NE s)
  (n:Nat) (h:I n s):codeAny X.M A (.compLoop (.ListComp elt [⟨target,iter,ifs,0⟩] scope pos) 0 it acc env) R s:=by
 refine codeAny_loop rfl I (λn s hI=>?_) n h
 refine(?_:wpAny _ A ((compTurn (.ListComp elt [⟨target,iter,ifs,0⟩] scope pos) 0 it acc env).onRaise (λx=>do noteFrame x env;theTreesLotGoes x)) _ _ s)
 refine wpAny_noted ?_
 rw[compTurn_list]
 refine wpAny_bind (wpAny_standAt (wpAny_bind ((turn n s hI).elim (λht=>wpAny_mono ht (λr bT fk=>?_) λZ Z h'=>h'.elim) λht=>wpAny_mono ht (λr bT fk=>?_) λZ Z h'=>h'.elim)))
 ·rw[fk.1];exact wpAny_pure fk.2
 ·refine aJ.k fk λv e fk=>?_
  subst e
  refine wpAny_bind (wpAny_mono fk (λZ z5 dm=>wpAny_bind (wpAny_mono dm (λZ dX ip=>wpAny_bind (wpAny_mono ip (λok lz qQ=>?_) λZ Z h'=>h'.elim)) λZ Z h'=>h'.elim)) λZ Z h'=>h'.elim)
  cases ok with
  |false=>exact wpAny_pure ⟨rfl,qQ⟩
  |true=>exact wpAny_bind (wpAny_bind (wpAny_mono qQ (λx ED Lz=>wpAny_bind (wpAny_mono Lz (λZ EE LA=>wpAny_pure (wpAny_pure ⟨rfl,LA⟩)) λZ Z h'=>h'.elim)) λZ Z h'=>h'.elim))
end
section
variable{σ:Lv}{io own:Addr->Prop}{St:Nat->Heap->Prop}{dp:Ws}{D:Addr}{i:Nat}{acc:List V}{ρ bV:aP}{H H':Hp}
structure Cx(P₀:Pt)(P:Fp σ.no)(D:Addr)(io:Addr->Prop)(St:Nat->Heap->Prop)(i:Nat)(acc:List V)(ρ:aP)(H:Hp)where
 φ:List Addr
 h:Heap
 tk:Nat
 ys:List Value
 k:Nat
 R:SR ⟨φ,h⟩ H
 F:FR P.env σ.f.ns ρ ⟨φ,h⟩
 fr:ly P.A ⟨φ,h⟩
 S:bL gm P₀.w ⟨φ,h⟩
 kp:Kp P.w ⟨φ,h⟩
 st:St i h
 dv:∀a,io a->Ap ⟨φ,h⟩ a
 aD:Ap ⟨φ,h⟩ D
 hD:h.get? D=some (gG ys k)
 ra:br ⟨φ,h⟩ acc ys
structure Cn(P₀:Pt)(P:Fp σ.no)(D:Addr)(io:Addr->Prop):Prop where
 new:∀a,a=P.env.locals\/a=D\/io a->P₀.s.heap.get? a=none
 ne:∀a,kG P.env a->a≠D/\¬io a
 D:¬io D
variable{P₀:Pt}{P:Fp σ.no}
noncomputable abbrev Cx.w(c:Cx P₀ P D io St i acc ρ H):Ws:=⟨c.φ,c.h⟩
noncomputable abbrev Cx.s(c:Cx P₀ P D io St i acc ρ H):Shared:=upd P.s c.h c.tk
noncomputable abbrev Cx.fp(c:Cx P₀ P D io St i acc ρ H):Fp σ.no:=⟨⟨P.A,c.φ,H,c.s,NE,P.rm,c.R,c.fr⟩,P.env,ρ,(·=P.env.locals),P.kd,c.F,P.rn,P.hf,P.calm,λZ Z h=>h.elim⟩
theorem bL.uV{p q r:Ws}(S:bL gm p q)(T:bL own q r)(h:∀a,own a->p.h.get? a=none):bL gm p r:=bL.ow (S.nil.trans T) λa ha=>.inr (h a ha)
noncomputable abbrev Cx.step(c:Cx P₀ P D io St i acc ρ H)(z:Cn P₀ P D io)(it:∀i h h',St i h->(∀a,io a->∀o,h.get? a=some o->h'.get? a=some o)->St i h')(lv:∀i h,St i h->∀a,io a->∃o,h.get? a=some o/\dK o=false/\fF o=false)(N:Sx c.fp bV H'):Cx P₀ P D io St i acc bV H':=
 have hl:∀{a},kG P.env a->a=D\/io a->False:=λha h=>h.elim (z.ne _ ha).1 (z.ne _ ha).2
 {φ:=N.φ,h:=N.h,tk:=N.tk,ys:=c.ys,k:=c.k,R:=N.R,F:=N.F,fr:=c.fr.i5 N.S,S:=c.S.uV N.S λa ha=>z.new a (.inl ha),kp:=c.kp.trans N.S.kp
  st:=it _ _ _ c.st λa ha o e=>(lv _ _ c.st a ha).elim λo' x=>by rw[x.1] at e;cases e;exact N.S.same x.1 (c.dv a ha).1 (λho=>(hl (.inl ho) (.inr ha)).elim) x.2.1 x.2.2
  dv:=λa ha=>⟨(lv _ _ c.st a ha).elim λo e=>N.S.mL e.1 (c.dv a ha).1,(c.dv a ha).2⟩
  aD:=⟨N.S.mL c.hD c.aD.1,c.aD.2⟩
  hD:=N.S.same c.hD c.aD.1 (λho=>(hl (.inl ho) (.inl rfl)).elim) rfl rfl
  ra:=c.ra.mono N.S}
noncomputable abbrev Cx.item{h':Heap}(c:Cx P₀ P D io St i acc ρ H)(z:Cn P₀ P D io)(R:SR ⟨c.φ,h'⟩ H)(S:bL io c.w ⟨c.φ,h'⟩)(st:St (i+1) h')(tk:Nat):Cx P₀ P D io St (i+1) acc ρ H:=
 {φ:=c.φ,h:=h',tk:=tk,ys:=c.ys,k:=c.k,R:=R,F:=c.F.mono S λa ha=>(z.ne a ha).2,fr:=c.fr.i5 S,S:=c.S.uV S λa ha=>z.new a (.inr (.inr ha)),kp:=c.kp.trans S.kp,st:=st,dv:=c.dv,aD:=c.aD,hD:=S.same c.hD c.aD.1 (λho=>absurd ho z.D) rfl rfl,ra:=c.ra.mono S}
noncomputable abbrev Cx.aR{h':Heap}{v:V}{x:Value}{k:Nat}(c:Cx P₀ P D io St i acc ρ H)(z:Cn P₀ P D io)(it:∀i h h',St i h->(∀a,io a->∀o,h.get? a=some o->h'.get? a=some o)->St i h')(r:aX c.w v x)(hD:h'.get? D=some (gG (c.ys++[x]) k))(e:ExtBut D c.h h')(tk:Nat):Cx P₀ P D io St i (acc++[v]) ρ H:=
 have hc:Ch (·=D) c.h h':=.but e λo e'=>by rw[c.hD] at e';cases e';exact mK rfl rfl
 {φ:=c.φ,h:=h',tk:=tk,ys:=c.ys++[x],k:=k,R:=c.R.ch (p:=c.w) (io:=(·=D)) (λa ha=>ha▸c.aD) hc,F:=c.F.ch (p:=c.w) hc λa ha e=>(z.ne a ha).1 e,fr:=c.fr.i5 (bL.ch (own:=(·=D)) (io:=(·=D)) (q:=c.w) .refl hc λb hb=>.inr ⟨hb,gG (c.ys++[x]) k,by rw[hb];exact hD,λo1 x hd=>by rw[hb,show c.w.h.get? D=_ from c.hD] at x;cases x;exact Bool.noConfusion hd⟩),S:=bL.ch (q:=c.w) c.S hc λa ha=>.inl (z.new a (.inr (.inl ha))),kp:=c.kp.trans hc.kp
  st:=it _ _ _ c.st λa ha o e'=>e a o (λe=>z.D (e▸ha)) e',dv:=c.dv,aD:=c.aD,hD:=hD,ra:=(c.ra.append (.one r)).kp hc.kp}
theorem LB{v:V}{x:Value}{Q:Value->Shared->Prop}(c:Cx P₀ P D io St i acc ρ H)(z:Cn P₀ P D io)(it:∀i h h',St i h->(∀a,io a->∀o,h.get? a=some o->h'.get? a=some o)->St i h')(r:aX c.w v x)(hz:acc.length<=sizeLine)(k:∀c':Cx P₀ P D io St i (acc++[v]) ρ H,Q .none c'.s):wpAny X.M P.A (call (.builtin "list.append") [.ref D,x]) Q NE c.s:=
 wpAny_list_append_plain (items:=c.ys.toArray) ⟨c.k,c.hD⟩ (λh6 LC LD=>LC.elim λk6 LF=>k (c.aR z it r (k:=k6) (by rw[LF,List.push_toArray]) LD.extBut c.tk)) (by rw[size_toArray,<-c.ra.length];exact hz)
inductive EF(P₀:Pt)(P:Fp σ.no)(H₀:Hp)(ws:List Nat)(us:List V)(QQ:List V->Hp->Prop)(D:Addr)(io:Addr->Prop)(St:Nat->Heap->Prop)(t:cN)(cs:List E)(elt:E)(j:Nat)(s':Shared):Prop
 |mk (i:Nat) (ρ:aP) (H:Hp) (acc:List V) (c:Cx P₀ P D io St i acc ρ H) (e:s'=c.s) (ej:j=(us.drop i).length+1) (hw:eF ws H₀ H=true) (dH:acc.length+(us.drop i).length<=us.length) (p:g7 ws H₀ t (λρ H Q=>WT σ.no.c cs ρ H Q) (λρ H Q=>WE σ.no.c elt ρ H Q) (us.drop i) ρ H acc QQ):EF P₀ P H₀ ws us QQ D io St t cs elt j s'
theorem LG{elt:E}{t:cN}{cs:List E}{e tg iter:Expr}{ifs:List Expr}{sc':Scope}{pos:Pos}{H₀:Hp}{ws:List Nat}{us:List V}{QQ:List V->Hp->Prop}{I:Addr}{RR:Result->Shared->Prop}(z:Cn P₀ P D io)
  (hh:P.A.handled=none) (pB:qK P.env (·=P.env.locals) (gF t tg)) (ht:iE σ.f t tg=true) (LH:b9 σ.no elt e) (LI:dY σ.no cs ifs) (it:kI tg P.w H₀ ws us I io St) (c0:Cx P₀ P D io St 0 [] P.ρ P.H) (e0:c0.s=P.s) (hw:eF ws H₀ P.H=true) (dg:us.length<16000000)
  (p:g7 ws H₀ t (λρ H Q=>WT σ.no.c cs ρ H Q) (λρ H Q=>WE σ.no.c elt ρ H Q) us P.ρ P.H [] QQ)
  (fin:∀vs H φ h tk ρ ys k,QQ vs H->vs.length<16000000->SR ⟨φ,h⟩ H->bL gm P₀.w ⟨φ,h⟩->FR P.env σ.f.ns ρ ⟨φ,h⟩->h.get? D=some (gG ys k)->br ⟨φ,h⟩ vs ys->D∉φ->RR (.ok .next) (upd P.s h tk)) :
  codeAny X.M P.A (.compLoop (.ListComp e [⟨tg,iter,ifs,0⟩] sc' pos) 0 (.ref I) (.ref D) P.env) RR P.s:=by
 refine Ly (EF P₀ P H₀ ws us QQ D io St t cs elt) (λj s' w=>w.casesOn λi ρ H acc c e ej hw dH p'=>?_) (us.length+1) ⟨0,P.ρ,P.H,[],c0,e0.symm,by rw[drop_zero],hw,by rw[drop_zero];exact le_of_eq (zero_add _),by rw[drop_zero];exact p⟩
 subst e ej
 cases hv:us[i]? with
 |none=>
  refine .inl (it.done c.fp.toPt i _ hh c.kp hw c.st c.dv hv λh2 i6 ch=>⟨rfl,?_⟩)
  rw[drop_eq_nil_iff.mpr (List.getElem?_eq_none_iff.mp hv)] at p' dH
  exact fin acc H c.φ h2 i6 ρ c.ys c.k p' (lt_of_le_of_lt dH dg) (c.R.ch (p:=c.w) c.dv ch) (bL.ch (q:=c.w) c.S ch λa ha=>.inl (z.new a (.inr (.inr ha)))) (c.F.ch (p:=c.w) ch λa ha=>(z.ne a ha).2) (ch _ _ c.hD λho=>absurd ho z.D) (c.ra.kp ch.kp) c.aD.1
 |some v=>
  have hd:=drop_cons hv
  rw[hd] at p' dH
  refine aJ.k p' λuS ha p'=>?_
  refine .inr (it.item c.fp.toPt i v _ hh c.kp hw c.st c.dv hv λh2 i6 y R2 S2 lC r2=>?_)
  refine sW t tg (c.item z R2 S2 lC i6).fp v y uS _ ht pB r2 ha λN3=>?_
  have lt:(us.drop (i+1)).length+1<(us.drop i).length+1:=by rw[hd];exact lt_succ_self _
  exact LI.wY ((c.item z R2 S2 lC i6).step z it.keep it.live N3).fp _ _ p' (λb H4 p4 N4=>by
   cases b with
   |false=>exact⟨_,lt,i+1,uS,H4,acc,((c.item z R2 S2 lC i6).step z it.keep it.live N3).step z it.keep it.live N4.sx,rfl,rfl,p4.1,le_of_succ_le dH,p4.2⟩
   |true=>
    refine LH (((c.item z R2 S2 lC i6).step z it.keep it.live N3).step z it.keep it.live N4.sx).fp _ _ p4 (λy5 H5 p5 N5 x5 r5=>?_)
    exact LB ((((c.item z R2 S2 lC i6).step z it.keep it.live N3).step z it.keep it.live N4.sx).step z it.keep it.live N5.sx) z it.keep r5 (le_trans (le_of_lt (lt_of_le_of_lt (le_trans (le_add_right _ _) dH) dg)) (by decide)) λc'=>⟨_,lt,i+1,uS,H5,acc++[y5],c',rfl,rfl,p5.1,by rw[length_append,add_assoc,add_comm [y5].length];exact dH,p5.2⟩)
end
section
variable{σ:Lv}{cV:Scope}{loc:List Str}{elt:E}{t:cN}{it:It}{cs:List E}{e tg iter:Expr}{ifs:List Expr}
structure uW(σ:Lv)(cV:Scope)(loc:List Str)(elt:E)(t:cN)(it:It)(cs:List E)(e tg iter:Expr)(ifs:List Expr):Prop where
 hh:σ.f.hd=false
 c:mT σ.f loc cV
 hl:gF t tg=loc
 ht:iE ⟨cV,loc++σ.f.ns,false⟩ t tg=true
 hg:sD it tg=true
 hi:jq σ it iter
 he:b9 ⟨σ.n,σ.m,⟨cV,loc++σ.f.ns,false⟩,λZ Z=>False⟩ elt e
 hs:dY ⟨σ.n,σ.m,⟨cV,loc++σ.f.ns,false⟩,λZ Z=>False⟩ cs ifs
theorem LJ{pos:Pos}{QQ:List V->Hp->Prop}{H1:Hp}{q:List V×List Nat}{I D B:Addr}{io:Addr->Prop}{St:Nat->Heap->Prop}{ip:Heap}{cl:List (Str×Addr)}{RR:Result->Shared->Prop}(k:uW σ cV loc elt t it cs e tg iter ifs)(P:Fp σ)(N:Nx P.toPt H1)
  (iq:∀p,p∈cl->P.env.cells.lookup p.1=some p.2) (uU:∀x,(x,NameKind.free)∈cV.names->∃c,(x,c)∈cl) (lB:kI tg N.w H1 q.2 q.1 I io St) (s9:St 0 N.h) (dv:∀a,io a->Ap N.w a/\P.s.heap.get? a=none)
  (hD:N.h.get? D=none) (hB:N.h.get? B=none) (pC:B≠D) (old:aC N.h ip) (gD:ip.get? D=some (gG [] 0)) (jV:ip.Ns B λZ=>none) (hz:ma q.1=true)
  (p1:g7 q.2 H1 t (λρ H Q=>WT σ.c.no cs ρ H Q) (λρ H Q=>WE σ.c.no elt ρ H Q) q.1 (replicate loc.length none++P.ρ) H1 [] QQ)
  (fin:∀vs H φ h tk ys j m,QQ vs H->vs.length<16000000->SR ⟨φ,h⟩ H->bL gm P.w ⟨φ,h⟩->h.get? D=some (gG ys j)->br ⟨φ,h⟩ vs ys->D∉φ->Ap ⟨φ,h⟩ B->h.Ns B m->RR (.ok .next) (upd P.s h tk)) :
  codeAny X.M P.A (.compStart (.ListComp e [⟨tg,iter,ifs,0⟩] cV pos) 0 (.ref I) (.ref D) (compEnvC cV cl B P.env)) RR (upd P.s ip N.tk):=by
 have lv:∀{a},io a->N.h.get? a=none->False:=λha hn=>(lB.live _ _ s9 _ ha).elim λo e=>bH hn e.1
 have lC:=lB.keep _ _ _ s9 λa Z o e=>old a o e
 have F:=k.c.frame (cl:=cl) (P.to N) iq uU hB old jV
 have S:bL gm P.w ⟨N.φ,ip⟩:=bL.ext (q:=N.w) N.S old
 have R:=SR.ext (p:=N.w) N.R old
 have aD:Ap ⟨N.φ,ip⟩ D:=N.R.new (p:=N.w) hD
 have loop:=LG (iter:=iter) (sc':=cV) (pos:=pos) (P₀:=P.toPt) (σ:=⟨σ.n,σ.m,⟨cV,loc++σ.f.ns,false⟩,λZ Z=>False⟩) (P:=⟨⟨P.A,N.φ,H1,upd P.s ip N.tk,NE,P.rm,R,P.fr.i5 S⟩,compEnvC cV cl B P.env,replicate loc.length none++P.ρ,(·=B),Lw,F,P.rn,P.hf,λZ=>P.calm k.hh,λZ Z h=>h.elim⟩) (D:=D) (RR:=RR)
  ⟨λa ha=>ha.elim (λe=>N.S.dead (e▸hB)) λha=>ha.elim (λe=>N.S.dead (e▸hD)) λha=>(dv a ha).2,λa ha=>ha.elim (λe=>⟨λe'=>pC (e.symm.trans e'),λh=>lv h (e▸hB)⟩) λw=>w.elim λy hy=>(P.F.live _ (sN (iq _ (mem_lookup hy)))).elim λo x=>⟨λe=>bH (N.S.dead (e▸hD)) x,λh=>bH (dv _ h).2 x⟩,λh=>lv h hD⟩
  (P.calm k.hh) (λx hx=>.inl ⟨lookup_relabel_local (k.c.Ls x (k.hl▸hx)),rfl⟩) k.ht k.he k.hs (lB.from (bL.ext (own:=gm) (p:=N.w) (q:=N.w) .refl old).kp) ⟨N.φ,ip,N.tk,[],0,R,F,P.fr.i5 S,S,.refl,lC,λa ha=>(dv a ha).1,aD,gD,.nil⟩ rfl (Eg _ _) (of_decide_eq_true hz) p1
  λvs H φ h tk ρ ys j q hl R S F hD r hn=>F.loc.elim λm hm=>fin vs H φ h tk ys j m q hl R S hD r hn (F.ap _ (.inl rfl)) hm.1
 exact codeAny_compStart_list loop (lB.self P.A _ _ _ lC loop)
theorem EG{pos p0:Pos}{use:Option (Value->Sem Unit)}{Q:Value->Shared->Prop}{QQ:List V->Hp->Prop}(k:uW σ cV loc elt t it cs e tg iter ifs)(P:Fp σ)
  (p:nQ σ.c it P.ρ P.H λp H=>fE (ma p.1) (g7 p.2 H t (λρ H Q=>WT σ.c.no cs ρ H Q) (λρ H Q=>WE σ.c.no elt ρ H Q) p.1 (replicate loc.length none++P.ρ) H [] QQ))
  (fin:∀vs H φ h tk D B ys j m,QQ vs H->vs.length<16000000->SR ⟨φ,h⟩ H->bL gm P.w ⟨φ,h⟩->h.get? D=some (gG ys j)->br ⟨φ,h⟩ vs ys->D∉φ->P.s.heap.get? D=none->Ap ⟨φ,h⟩ B->P.s.heap.get? B=none->B≠D->h.Ns B m->compPost X.M P.A P.Ex use Q (.ref D) B (.ok .next) (upd P.s h tk)) :
  wpAny X.M P.A (comprehension (.ListComp e [⟨tg,iter,ifs,0⟩] cV pos) cV P.env p0 (newList []) false (eval iter P.env) use) Q P.Ex P.s:=by
 refine zZ (env:=P.env) cV.names [] (λZ h=>nomatch h) (λq hq hk=>?_) λcl iq LK Z LL=>?_
 ·have:=k.c.all q hq
  rw[hk] at this
  exact(P.F.qF _ this.1 (EA P this.2.2)).imp λc w=>w.elim λZ w=>w.1
 refine wpAny_comprehension_free (cl:=cl) rfl (k.hi.1 P.env) (by unfold closureFor;rw[bind_pure];exact iq) k.c.kind (λx hx hl=>Ey k.c.nodup (by rw[<-hl];exact hx)) (k.hi.2 P tg _ _ k.hg p (λq H1 p1 N I io St lB s9 dv=>fE.k p1 λhz p1=>?_))
 refine wpAny_newObj_type (wpAny_newFunctionEnv (λx hx hk=>by have:=k.c.all x hx;rw[hk] at this;exact this) (λy hy=>nomatch hy) (λip jV z6=>?_) k.c.kind)
 have sz:(N.h.push {cls:=.type "list",data:=.seq #[]}).objs.size=N.h.objs.size+1:=Heap.size_push _ _
 have old2:aC (N.h.push {cls:=.type "list",data:=.seq #[]}) ip:=λa o e=>z6.extBut a o (ne_of_lt (lt_size e)) (get?_push_of_some _ e)
 have hD:=gR N.h (le_refl N.h.objs.size)
 have hB:N.h.get? (N.h.push {cls:=.type "list",data:=.seq #[]}).objs.size=none:=gR N.h (by rw[sz];exact le_succ _)
 have pC:(N.h.push {cls:=.type "list",data:=.seq #[]}).objs.size≠N.h.objs.size:=by rw[sz];exact Nat.succ_ne_self _
 exact LJ (D:=N.h.objs.size) k P N LK LL lB s9 dv hD hB pC (λa o e=>old2 a o (get?_push_of_some _ e)) (old2 _ _ (get?_push_size _ rfl)) jV hz p1 λvs H φ h tk ys j m q hl R S hg r hn aB hm=>fin vs H φ h tk _ _ ys j m q hl R S hg r hn (N.S.dead hD) aB (N.S.dead hB) pC hm
noncomputable abbrev Pt.z7{P:Pt}{H:Hp}{φ:List Addr}{h:Heap}{D:Addr}{ys:List Value}{j:Nat}{vs:List V}(R:SR ⟨φ,h⟩ H)(S:bL gm P.w ⟨φ,h⟩)(hg:h.get? D=some (gG ys j))(r:br ⟨φ,h⟩ vs ys)(hn:D∉φ)(hD:P.s.heap.get? D=none)(hl:vs.length<16000000)(tk:Nat):Nx P (H++[.list vs]):=
 ⟨φ++[D],h,tk,SR.adopt (p:=⟨φ,h⟩) R ⟨hn,(P.R.new (p:=P.w) hD).2⟩ (λo x=>by rw[hg] at x;cases x;exact mK rfl rfl) (.list hg r (le_of_lt hl)),bL.adopt (q:=⟨φ,h⟩) S hD⟩
theorem xl{H:Hp}{φ:List Addr}{h:Heap}{D:Addr}(R:SR ⟨φ,h⟩ H):aX ⟨φ++[D],h⟩ (.ref H.length) (.ref D):=.ref (by rw[<-R.len,getElem?_append_right (le_refl _),sub_self];rfl)
theorem EH{h h':Heap}{B:Addr}{m:Str->Option Value}(hm:h.Ns B m)(e:SameBut B h h'):Ch (·=B) h h':=.but e.extBut λo x=>hm.elim λo' w=>w.elim λZ w=>w.elim λZ w=>by rw[w.1] at x;cases x;exact uD w.2.1
theorem EI{pos:Pos}(k:uW σ cV loc elt t it cs e tg iter ifs):b9 σ (.comp loc.length elt t it cs) (.ListComp e [⟨tg,iter,ifs,0⟩] cV pos):=λP post Q p kq=>by
 rw[eval_ListComp]
 exact EG k P p λvs H φ h tk D B ys j m q hl R S hg r hn hD aB hB pC hm=>⟨m,hm,λh3 LM=>
  have c:Ch (·=B) h h3:=EH hm LM
  have R3:=SR.ch (p:=⟨φ,h⟩) (io:=(·=B)) R (λa ha=>ha▸aB) c
  kq _ _ q (Pt.z7 R3 (bL.ch (q:=⟨φ,h⟩) S c λa ha=>.inl (ha▸hB)) (c _ _ hg λe=>absurd e.symm pC) (r.kp c.kp) hn hD hl tk) _ (xl R3)⟩
theorem LN{u:cN}{y:Str}{py cpos pos:Pos}(k:uW σ cV loc elt t it cs e tg iter ifs)(hu:iE σ.f u (.Name y py)=true):SS σ (.aN u (.comp loc.length elt t it cs)) (.Assign [.Name y py] (.ListComp e [⟨tg,iter,ifs,0⟩] cV cpos) pos):=λP K Q ho p kq=>by
 have sY:∃b,swapsWith (.ListComp e [⟨tg,iter,ifs,0⟩] cV cpos) (some (.Name y py)) pos.line P.env=pure b:=⟨_,rfl⟩
 obtain⟨b,sY⟩:=sY
 cases b with
 |false=>exact D7 sY hu rfl (EI k) ho p kq
 |true=>
  rw[exec_Assign_Name_used _ _ _ _ sY]
  refine wpAny_bind (wpAny_standAt (wpAny_bind ?_))
  refine(?_:wpAny _ P.A (do let _ <-comprehension (.ListComp e [⟨tg,iter,ifs,0⟩] cV cpos) cV P.env _ (newList []) false (eval iter P.env) (some (assign (.Name y py) P.env))) _ _ P.s)
  refine wpAny_bind (wpAny_mono (Q:=λZ s'=>Q .next s') ?_ (λZ s' hq=>wpAny_pure (wpAny_pure hq)) λZ Z e=>e)
  exact EG k P p λvs H φ h tk D B ys j m q hl R S hg r hn hD aB hB pC hm=>aJ.k q λbV ha q=>by
   refine sW u (.Name y py) (P.to (Pt.z7 R S hg r hn hD hl tk)) (.ref H.length) (.ref D) bV _ hu (λx hx=>ho.1 x (uN u _ hu x hx)) (xl R) ha λN=>?_
   have aB':B∉φ++[D]:=λhm=>(mem_append.mp hm).elim aB.1 λh=>pC (mem_singleton.mp h)
   have sZ:N.h.Ns B m:=DN hm λo e=>N.S.keep _ _ e aB' λh=>(P.F.live _ (ho.2 _ h)).elim λo e=>bH hB e
   have aB4:Ap N.w B:=⟨hm.elim λo w=>w.elim λZ w=>w.elim λZ w=>N.S.mL w.1 aB',aB.2⟩
   exact⟨m,sZ,λh5 LO=>(Sx.ch ((Nx.sx (P:=P) (Pt.z7 R S hg r hn hD hl tk)).then N) (EH sZ LO) (λa ha=>ha▸aB4) (λa ha=>ha▸hB) N.tk).elim λN' e=>by
    have:=kq.next _ _ q N'
    rw[show N'.s=upd P.s N'.h N'.tk from rfl,e.2.1,e.2.2] at this
    exact this⟩
end
theorem LP(lo hi:Option Int)(n:Nat):sliceBounds lo hi none n=(((qB n 0 lo:Nat):Int),((qB n n hi:Nat):Int),1):=by
 have key:∀(k:Option Int) (d:Nat),(match k with|none=>(d:Int)|some i=>if(1:Int)>0 then max 0 (min (if i<0 then i+n else i) n) else max (-1) (min (if i<0 then i+n else i) ((n:Int) - 1)))=((qB n d k:Nat):Int):=λk d=>by
  cases k with
  |none=>rfl
  |some k=>exact(Int.toNat_of_nonneg (Int.le_max_left _ _)).symm
 exact Prod.ext (key lo 0) (Prod.ext (key hi n) rfl)
theorem LQ(xs:List Value)(lo hi:Option Int):slicePick xs.toArray lo hi none=(gj xs lo hi).toArray:=by
 unfold slicePick gj
 rw[size_toArray,LP]
 refine(?_:((sliceRange _ _ 1).filterMap _).toArray=_)
 rw[sliceRange_one,pick_run,List.drop_take]
section
variable{σ:Lv}{A:Around}{s:Shared}
theorem br.slice{p:Ws}{vs:List V}{xs:List Value}(r:br p vs xs)(lo hi:Option Int):br p (gj vs lo hi) (gj xs lo hi):=by
 unfold gj
 rw[r.length]
 exact(r.take _).drop _
theorem LR{t sl:Addr}{xs:List Value}{b:Nat}{u:Tok}{Q Ex:Value->Shared->Prop}(ht:IsTup s.heap t xs.toArray)(hs:s.heap.IsSliceOf sl .none (.int b u) .none)(hz:xs.length<=sizeLine)
  (h:b<xs.length->Q (.ref s.heap.objs.size) {s with heap:=s.heap.push (ku (xs.take b) 0)}) (h':xs.length<=b->Q (.ref t) s):wpAny X.M A (getItem (.ref t) (.ref sl)) Q Ex s:=by
 have jp:sizeOk (.seq (xs.take b).toArray):=by
  refine(?_:(xs.take b).toArray.size<=sizeLine)
  rw[size_toArray,length_take];exact le_trans (min_le_right _ _) hz
 obtain⟨os,xm,tc,lD⟩:=id hs
 have LS:s.TypeIs (.ref sl) "slice":=⟨os,xm,tc⟩
 unfold getItem
 try with_reducible refine wpAny_holding ?_
 first|refine wpAny_bind (wpAny_pure ?_)|skip
 refine wpAny_bind (wpAny_sequenceKey ht.typeIs (by decide) (wpAny_bind (wpAny_callSpecial?_slot (name:=Str.ofString "__getitem__") ht.typeIs slot_tuple_getitem
  (wpAny_call_entry slot_tuple_getitem ht.typeIs entry_tuple_getitem ?_ (args_tuple_getitem _ _)))))
 refine(?_:wpAny _ _ (Builtin.Tuple.tupleItemsOf (.ref t) >>= _) _ _ s)
 refine wpAny_bind (tupleItemsOf_ ht (wpAny_bind (wpAny_typeOf LS ?_)))
 rw[if_pos (by decide)]
 refine wpAny_bind ?_
 unfold Builtin.Slice.sliceApplied Builtin.Slice.sliceFields
 refine wpAny_bind (wpAny_bind (wpAny_field xm lD (x:=.none) rfl (wpAny_bind (wpAny_field xm lD (x:=.int b u) rfl (wpAny_bind (wpAny_field xm lD (x:=.none) rfl (wpAny_pure (wpAny_bind (slicePart_none ?_)))))))))
 refine(?_:wpAny _ _ (if((1:Int)==0)=true then _ else _) _ _ s)
 rw[if_neg (by decide)]
 refine wpAny_bind (slicePart_none (wpAny_bind (slicePart_int (wpAny_bind (wpAny_pure ?_)))))
 obtain⟨m,hm⟩:∃m,m=min b xs.length:=⟨_,rfl⟩
 have e1:Builtin.Slice.sliceAdjust none (some (b:Int)) 1 ((xs.toArray.size:Nat):Int)=(0,(m:Int)):=by
  refine(?_:((0:Int),(if(b:Int)<0 then max ((b:Int)+(xs.toArray.size:Nat)) 0 else min (b:Int) (xs.toArray.size:Nat)))=_)
  rw[size_toArray,if_neg (Int.not_lt.mpr (natCast_nonneg b))]
  exact Prod.ext rfl (show min (b:Int) xs.length=m from(J4 _ _).trans (by rw[hm]))
 have e2:Builtin.Slice.slicePlaces 0 (m:Int) 1=m:=by
  refine(?_:((if(0:Int)<m then((m:Int) - 0 - 1)/1+1 else 0):Int).toNat=m)
  rw[Int.ediv_one];split<;>lia
 refine(?_:wpAny _ _ (match Builtin.Slice.sliceAdjust none (some (b:Int)) 1 ((xs.toArray.size:Nat):Int) with|(lo,hi)=>pure (lo,(1:Int),Builtin.Slice.slicePlaces lo hi 1)) _ _ s)
 rw[e1]
 refine(?_:wpAny _ _ (pure ((0:Int),(1:Int),Builtin.Slice.slicePlaces (0:Int) (m:Int) 1)) _ _ s)
 rw[e2]
 refine wpAny_pure ?_
 have LU:((List.range m).filterMap λ(k:Nat)=>xs.toArray[((0:Int)+(k:Int)*1).toNat]?).toArray=(xs.take m).toArray:=by
  have e:(λ(k:Nat)=>xs.toArray[((0:Int)+(k:Int)*1).toNat]?)=(λx=>xs.toArray[x]?) ∘ λk=>0+k:=funext λk=>by
   refine(?_:xs.toArray[((0:Int)+(k:Int)*1).toNat]?=xs.toArray[0+k]?)
   rw[show((0:Int)+(k:Int)*1).toNat=0+k by rw[Int.mul_one,Int.zero_add,zero_add];rfl]
  rw[e,<-List.filterMap_map,pick_run]
  rfl
 refine(?_:wpAny _ _ (if((0:Int)==0&&(1:Int)==1&&m==xs.toArray.size)=true then _ else _) _ _ s)
 by_cases hb:b<xs.length
 ·have LV:m=b:=hm.trans (min_eq_left (le_of_lt hb))
  subst LV
  rw[if_neg λe=>absurd (eq_of_beq (and_eq_true_iff.mp e).2) (by rw[size_toArray];exact ne_of_lt hb),LU]
  have h:=h hb
  first
   |exact wpAny_bind (m:=Builtin.Tuple.tupleExact _) (wpAny_newObj_type (wpAny_pure ⟨_,rfl,wpAny_pure h⟩) jp)
   |exact wpAny_bind (m:=Builtin.Tuple.tupleExact _) (wpAny_newObj_type (wpAny_bind (wpAny_pure (wpAny_pure ⟨_,rfl,wpAny_pure h⟩))) jp)
   |exact wpAny_bind (wpAny_bind (m:=Builtin.Tuple.tupleExact _) (wpAny_newObj_type (wpAny_pure (wpAny_pure ⟨_,rfl,wpAny_pure h⟩)) jp))
   |exact wpAny_bind (wpAny_bind (m:=Builtin.Tuple.tupleExact _) (wpAny_newObj_type (wpAny_pure ⟨_,rfl,wpAny_pure h⟩) jp))
 ·have h:=h' (Nat.le_of_not_lt hb)
  have hc:((0:Int)==0&&(1:Int)==1&&m==xs.toArray.size)=true:=by
   rw[size_toArray,show m=xs.length from hm.trans (Nat.min_eq_right (not_lt.mp hb)),beq_self_eq_true,beq_self_eq_true,beq_self_eq_true];rfl
  rw[if_pos hc]
  unfold Builtin.Tuple.tupleIsExact
  refine wpAny_bind (wpAny_bind (wpAny_typeOf ht.typeIs (wpAny_pure ?_)))
  rw[if_pos (by decide)]
  exact wpAny_bind (wpAny_rule (wpAny_pure ⟨_,rfl,wpAny_pure h⟩))
noncomputable def qU(σ:Lv)(c:Option E)(e:Option Expr):Prop:=
 ∀(P:Fp σ) (post:PQ) (Q:Value->Shared->Prop),WO σ.c c P.ρ P.H post->Kn P.toPt post Q->wpAny X.M P.A (evalPart e P.env) Q P.Ex P.s
theorem LW:qU σ none none:=λP post Q p k=>by rw[evalPart_none];exact wpAny_pure (k.now p .none P.s.toks)
theorem LX{c:E}{e:Expr}(h:b9 σ c e):qU σ (some c) (some e):=λP post Q p k=>by rw[evalPart_some];exact h P post Q p k
theorem EJ{v:V}{x:Value}{k:Option Int}{p:Ws}(r:aX p v x)(e:wB v=some k):IsPart x k:=by
 cases v with
 |none=>cases e;exact r.inv (λx=>IsPart x _) .none
 |int i=>exact qH e (λk=>IsPart x k) λZ=>r.inv (λx=>IsPart x _) λt=>.int _ _
 |_=>cases e
theorem br.LY{vs:List V}{k:Nat}(hz:vs.length<=16000000):(vs.take k).length<=16000000:=by rw[length_take];exact le_trans (min_le_right _ _) hz
theorem EK{P:Pt}{us:List V}{xs:List Value}{ad sa:Addr}{v sl:Expr}{z w:Value}{l h:Option Int}{post:PQ}{Q:Value->Shared->Prop}{ops:Value->Value->List Value}(hs:∀o i,subscripted sl false o i=operate (ops o i) (getItem o i))(q:P.s.heap.IsSliceOf sa z w .none)(q1:IsPart z l)(q2:IsPart w h)(hL:P.s.heap.IsList ad xs.toArray)(r:br P.w us xs)(hz:us.length<=16000000)(p:qC (gj us l h) P.H post)(k:Kn P post Q):
  wpAny X.M P.A (subscriptTail v sl (.ref ad) (.ref sa)) Q P.Ex P.s:=fE.k p λLZ p=>
 tail_any hL.typeIs PySem.slot_list_getitem.lookup (wpAny_getItem_list_slice hL q q1 q2 .none (λe=>nomatch e) (by
  rw[LQ]
  exact Kn.list k (.push _) _ (gR _ (le_refl _)) (get?_push_size _ rfl) (r.slice l h) (le_of_lt (of_decide_eq_true LZ)) p P.s.toks) (by rw[size_toArray,<-r.length];unfold sizeLine;lia)) (hs _ _)
theorem L0{P:Pt}{us:List V}{sa:Addr}{v sl:Expr}{y z w:Value}{l h:Option Int}{post:PQ}{Q:Value->Shared->Prop}{ops:Value->Value->List Value}(hs:∀o i,subscripted sl false o i=operate (ops o i) (getItem o i))(q:P.s.heap.IsSliceOf sa z w .none)(q1:IsPart z l)(q2:IsPart w h)(r:aX P.w (.aF us) y)(p:aJ h λk=>fE (l.isNone&&decide (0<=k)) (post (.aF (us.take k.toNat)) P.H))(k:Kn P post Q):
  wpAny X.M P.A (subscriptTail v sl y (.ref sa)) Q P.Ex P.s:=by
 refine aJ.k p λj ej p1=>fE.k p1 λhj p2=>aU hj λhl hj=>?_
 have L1:=of_decide_eq_true hj
 clear p p1 hj
 subst ej
 obtain⟨m,rfl⟩:=Int.eq_ofNat_of_zero_le L1
 cases q1 with
 |int i t=>cases hl
 |none=>
  cases q2 with
  |int i t=>
   exact r.inv (λy=>wpAny X.M P.A (subscriptTail v sl y (.ref sa)) Q P.Ex P.s) λa n' xs h1 h2 h3 h4=>
    tail_any (uJ h1).typeIs slot_tuple_getitem.lookup (LR (uJ h1) q (by rw[<-h2.length];unfold sizeLine;lia)
     (λZ=>k _ _ p2 (P.ext (.push _) P.s.toks) _ (.aF (n:=0) (get?_push_size _ rfl) ((h2.take m).mono (P.ext (.push _) P.s.toks).S) (br.LY h3) (P.R.new (p:=P.w) (gR _ (le_refl _))).1)) λhb=>by
      rw[show us.take ((m:Nat):Int).toNat=us from List.take_of_length_le (by rw[h2.length];exact hb)] at p2
      exact k.now p2 (.aF (n:=n') h1 h2 h3 h4) P.s.toks) (hs _ _)
theorem L3{P:Pt}{a lv hv:V}{sa:Addr}{v sl:Expr}{y z w:Value}{post:PQ}{Q:Value->Shared->Prop}(G:Good X){ops:Value->Value->List Value}(hs:∀o i,subscripted sl false o i=operate (ops o i) (getItem o i))(q:P.s.heap.IsSliceOf sa z w .none)(ra:aX P.w a y)(rl:aX P.w lv z)(rh:aX P.w hv w)(p:wD a lv hv P.H post)(k:Kn P post Q):
  wpAny X.M P.A (subscriptTail v sl y (.ref sa)) Q P.Ex P.s:=by
 refine aJ.k p λl el p=>aJ.k p λh eh p=>?_
 have q1:=EJ rl el
 have q2:=EJ rh eh
 cases a with
 |aF us=>exact L0 hs q q1 q2 ra p k
 |ref li=>exact aJ.k p λus hi p=>bJ ra hi (λy=>wpAny X.M P.A (subscriptTail v sl y (.ref sa)) Q P.Ex P.s) λZ a xs n' Z Z Z h1 h2 h3=>EK hs q q1 q2 (jo h1) h2 h3 p k
 |dU=>exact aJ.k p λus hi p=>items G ra hi (λy=>wpAny X.M P.A (subscriptTail v sl y (.ref sa)) Q P.Ex P.s) (λe=>nomatch e) λa xs h1 h2 h3=>EK hs q q1 q2 h1 h2 h3 p k
 |_=>exact p.elim
theorem L4{a:E}{lo hi:Option E}{v:Expr}{l u:Option Expr}{p0 pos:Pos}(G:Good X)(ha:b9 σ a v)(hl:qU σ lo l)(hu:qU σ hi u):b9 σ (.ii a lo hi) (.Subscript v (.Slice l u none p0) pos):=λP post Q p k=>
 Subscript_ (ha P _ _ p (λx H1 p1 N y r=>wpAny_Slice (hl (P.to N) _ _ p1 (λlv H2 p2 N2 z r2=>hu ((P.to N).to N2) _ _ p2 (λhv H3 p3 N3 w r3=>by
  rw[evalPart_none]
  exact wpAny_pure (L3 (P:=(N3.pt.ext (.push _) N3.tk).pt) G (λZ Z=>rfl) (Heap.IsSliceOf.new N3.h z w .none) ((r.mono (N2.then N3).S).mono (N3.pt.ext (.push _) N3.tk).S) ((r2.mono N3.S).mono (N3.pt.ext (.push _) N3.tk).S) (r3.mono (N3.pt.ext (.push _) N3.tk).S) p3 (((k.nx N).nx (N2.then N3)).nx _)))))))
end
section
variable{σ:Lv}{Q:Value->Shared->Prop}{P:Pt}{post:PQ}{v:V}{x:Value}
theorem EL{o:Expr}(h:qz o=true)(x:Str)(env:Env)(w:Sem Value):attributeBase o x env w=w:=by
 cases o<;>first|rfl|exact absurd rfl (of_decide_eq_true h)
theorem EM{es:List Expr}{cs:List E}{pos:Pos}(h:dY σ cs es)(hl:es.length<20)(env:Env):((backTo pos (starEach es env)).all (λx=>!x.1)&&(backToKw pos (keywordEach [] env)).all (λx=>x.1.isSome)
   && decide (es.length+([]:List Keyword).length+(if([]:List Keyword).isEmpty then 0 else 1)<30))=true:=by
 have h2:(backTo pos (starEach es env)).all (λx=>!x.1)=true:=all_eq_true.mpr λx hx=>by
  have:=any_eq_false.mp (h.plain env pos) x hx
  cases e:x.1
  ·rfl
  ·exact absurd e this
 rw[h2]
 exact decide_eq_true (show es.length+0+0<30 by lia)
structure uX(m:Me)(id:String):Prop where
 slot:Slot "list" (sy m).1 id
 ty:typeOf (.builtin id)=pure (.type "method_descriptor")
 run:∀(P:Pt) (v:V) (x:Value) (us:List V) (zs:List Value) (post:PQ) (Q:Value->Shared->Prop),aX P.w v x->br P.w us zs->pg m v us P.H post->Kn P post Q->wpAny X.M P.A (call (.builtin id) (x::zs)) Q P.Ex P.s
theorem L5(P:Pt)(v:V)(x:Value)(r:aX P.w v x)(h:(dt P.H v).isSome=true):P.s.TypeIs x "list"/\∀a,x=.ref a->∃ob,P.s.heap.get? a=some ob/\ob.dict=none:=
 (isSome_iff_exists.mp h).elim λvs e=>bJ r e (λx=>P.s.TypeIs x "list"/\∀a,x=.ref a->∃ob,P.s.heap.get? a=some ob/\ob.dict=none) λZ a xs m Z Z Z h1 Z Z=>⟨(jo h1).typeIs,λb e=>Value.ref.inj e▸⟨_,h1,rfl⟩⟩
theorem L6{m:Me}{id:String}{a:E}{o:Expr}{cs:List E}{es:List Expr}{ap pos:Pos}(M:uX m id)(ho:qz o=true)(uY:(ap.endLine==pos.line)=true)(hl:es.length=(sy m).2)(ha:b9 σ a o)(h:dY σ cs es):b9 σ (.c8 m a cs) (.Call (.Attribute o (sy m).1 ap) es [] pos):=λP post Q p k=>
 wpAny_Call_method (EL ho _ P.env _) (EM h (by rw[hl];cases m<;>decide) P.env) uY PySem.F.plainAttrs_list M.slot M.ty (ha P _ _ p (λv H1 p1 N x r=>fE.k p1 λhk p1=>
  have q:=L5 N.pt v x r hk
  ⟨q.1,q.2,Calls.callWith_builtin (h.plain P.env pos) (nU (h.plain P.env pos) (h.mP (P.to N) _ _ pos p1 (λus H2 p2 Z N2 zs r2=>M.run N2.pt v x us zs post Q (r.mono N2.S) r2 p2 ((k.nx N).nx N2))))⟩))
theorem Kn.wC{l:Nat}{a:Addr}{vs:List V}{ys:List Value}{j:Nat}{h':Heap}(k:Kn P post Q)(ha:P.φ[l]?=some a)(he:ExtBut a P.s.heap h')(hg:h'.get? a=some (gG ys j))(r:br P.w vs ys)(hz:vs.length<=16000000)(p:wC (.ref l) vs P.H post)(tk:Nat):Q .none (upd P.s h' tk):=
 k _ _ p (P.set ha he (.list hg (r.kp (P.sO ha he)) hz) tk) _ .none
theorem L7:uX .append "list.append" where
 slot:=PySem.F.slot_list_append
 ty:=PySem.F.type_list_append
 run:=λP v x us zs post Q r rz p k=>aJ.k p λxs e p=>w1.k p (λus=>br P.w us zs->_) (λu p rz=>fE.k p λhz p=>rz.k1 (λzs=>wpAny X.M P.A (call (.builtin "list.append") (x::zs)) Q P.Ex P.s) λz rz=>bJ r e (λx=>wpAny X.M P.A (call (.builtin "list.append") [x,z]) Q P.Ex P.s) λl a ys m ev Z ha h1 h2 h3=>
  wpAny_list_append_plain (items:=ys.toArray) ⟨m,h1⟩ (λh' hp hs=>hp.elim λj hj=>k.wC (l:=l) (vs:=xs++[u]) ha hs.extBut (by rw[hj,List.push_toArray]) (h2.append (.one rz)) (by rw[length_append];exact of_decide_eq_true hz) (ev▸p) P.s.toks) (by rw[size_toArray,<-h2.length];unfold sizeLine;lia)) rz
noncomputable def xn(b:Bool):Value->Bool
 |.bool c=>c==b
 |_=>false
theorem EN{b:Bool}{y:Value}(h:∃c,y=.bool c):MeetsSeq.EqGives y (.bool b) (xn b y):=λZ Z Z Z Z Z hq=>by
 obtain⟨c,rfl⟩:=h
 exact SeqAt.EqAt.bool_bool _ _ _ _ _ _ hq
theorem br.bools{p:Ws}{vs:List V}{xs:List Value}(r:br p vs xs):∀{bs:List Bool},i0 vs=some bs->xs=bs.map .bool:=
 br.ind (M:=λvs xs=>∀{bs:List Bool},i0 vs=some bs->xs=bs.map .bool) (λe=>by cases e;rfl) (λ{v x vs xs} a _ m bs e=>fZ e λb e1 e=>fG (λbs=>x::xs=bs.map .bool) e λbs e2=>boolOf.k e1 (λv=>aX p v x->_) (λr=>r.inv (λx=>x::xs=(b::bs).map .bool) (congrArg (Value.bool b::·) (m e2))) a) r
theorem EO{bs:List Bool}(y:Value)(h:y∈(bs.map Value.bool).toArray):∃c,y=.bool c:=(mem_map.mp (List.mem_toArray.mp h)).imp λc x=>x.2.symm
theorem L8:uX .count "list.count" where
 slot:=PySem.F.slot_list_count
 ty:=PySem.F.type_list_count
 run:=λP v x us zs post Q r rz p k=>aJ.k p λxs e p=>w1.k p (λus=>br P.w us zs->_) (λu p rz=>rz.k1 (λzs=>wpAny X.M P.A (call (.builtin "list.count") (x::zs)) Q P.Ex P.s) λz rz=>bJ r e (λx=>wpAny X.M P.A (call (.builtin "list.count") [x,z]) Q P.Ex P.s) λl a ys m ev Z ha h1 h2 h3=>
  aJ.k p λb eb p=>aJ.k p λbs ebs p=>boolOf.k eb (λu=>aX P.w u z->_) (λrz=>rz.inv (λz=>wpAny X.M P.A (call (.builtin "list.count") [.ref a,z]) Q P.Ex P.s) (by
   have e2:=h2.bools ebs
   subst e2
   refine call_meets PySem.F.slot_list_count ⟨_,h1,rfl⟩ PySem.F.entry_list_count (PySem.F.args_list_count_2 _ _) (MeetsSeq.list_count a _ m (.bool b) (xn b) λy hy=>EN (EO y hy)) ⟨h1,?_⟩
   have ec:(bs.map Value.bool).toArray.toList.countP (xn b)=bs.count b:=List.countP_map
   rw[ec]
   exact k.now p.2 (.int _ _) _)) rz) rz
theorem L9:uX .index "list.index" where
 slot:=PySem.F.slot_list_index
 ty:=PySem.F.type_list_index
 run:=λP v x us zs post Q r rz p k=>aJ.k p λxs e p=>w1.k p (λus=>br P.w us zs->_) (λu p rz=>rz.k1 (λzs=>wpAny X.M P.A (call (.builtin "list.index") (x::zs)) Q P.Ex P.s) λz rz=>bJ r e (λx=>wpAny X.M P.A (call (.builtin "list.index") [x,z]) Q P.Ex P.s) λl a ys m ev Z ha h1 h2 h3=>
  aJ.k p λb eb p=>aJ.k p λbs ebs p=>boolOf.k eb (λu=>aX P.w u z->_) (λrz=>rz.inv (λz=>wpAny X.M P.A (call (.builtin "list.index") [.ref a,z]) Q P.Ex P.s) (aJ.k p.2 λi ei p'=>by
   have e2:=h2.bools ebs
   have hl:bs.length<=1000:=by have:=p.1;rw[h2.length,e2,length_map] at this;exact this
   subst e2
   obtain⟨hi,he,Ma⟩:=List.findIdx?_eq_some_iff_getElem.mp ei
   exact call_meets PySem.F.slot_list_index ⟨_,h1,rfl⟩ PySem.F.entry_list_index (PySem.F.args_list_index_2 _ _) (MeetsSeq.list_index a _ m (.bool b) (xn b) (λy hy=>EN (EO y hy)) i (by rw[size_toArray,length_map];exact hi) (by lia) (by rw[List.getElem_toArray,List.getElem_map];exact he) λj hj Mb=>by
    rw[List.getElem_toArray,List.getElem_map];exact Bool.not_eq_true _▸Ma j Mb) ⟨h1,k.now p' (.int _ _) _⟩)) rz) rz
end
section
variable{σ:Lv}{Q:Value->Shared->Prop}{P:Pt}{post:PQ}{v:V}{x:Value}
theorem EP:∀{vs:List V} {is:List Int},allInts vs=some is->vs=is.map .int
 |[],is,h=>Option.some.inj h▸rfl
 |v::r,is,h=>fZ h λi h1 h=>by
  cases v with
  |int j=>exact fG (λis=>V.int j::r=is.map .int) h λjs e=>by rw[map_cons,<-EP e,Option.some.inj h1]
  |_=>cases h1
theorem EQ:∀{vs:List V} {is:List Bool},i0 vs=some is->vs=is.map .bool
 |[],is,h=>Option.some.inj h▸rfl
 |v::r,is,h=>fZ h λi h1 h=>boolOf.k h1 (λv=>v::r=is.map .bool) (fG (λis=>V.bool i::r=is.map .bool) h λjs e=>by rw[map_cons,<-EQ e])
theorem intsAre_of{p:Ws}:∀{is:List Int} {xs:List Value},br p (is.map .int) xs->IntsAre xs is
 |[],xs,r=>r.inv (λxs=>IntsAre xs []) .nil
 |i::is,xs,r=>r.inv (λxs=>IntsAre xs (i::is)) λx xs r1 r2=>r1.inv (λx=>IntsAre (x::xs) (i::is)) λt=>.cons _ _ (intsAre_of r2)
theorem z8{is:List Int}(r:aX P.w v x)(e:jO P.H v=some is)(T:Value->Prop)(k:∀a xs,P.s.heap.IsList a xs.toArray->IntsAre xs is->T (.ref a)):T x:=
 fZ e λvs h1 h2=>bJ r h1 T λZ a xs m Z Z Z g1 g2 Z=>k a xs (jo g1) (intsAre_of (by rw[<-EP h2];exact g2))
theorem Kn.later{x:Value}{h':Heap}(k:Kn P post Q)(p:post v P.H)(r:aX P.w v x)(e:aC P.s.heap h')(tk:Nat):Q x (upd P.s h' tk):=k _ _ p (P.ext e tk) _ (r.mono (P.ext e tk).S)
theorem Mc(G:Good X)(r:aX P.w v x)(p:aJ (k7 P.H v) λl=>post (.int l.length) P.H)(k:Kn P post Q):wpAny X.M P.A (call (.builtin "len") [x]) Q P.Ex P.s:=
 aJ.k p λl e p=>items G r e (λx=>wpAny X.M P.A (call (.builtin "len") [x]) Q P.Ex P.s) (λZ a xs m h1 h2 h3 Z=>PyProof.Rows.len_tuple (uJ h1) (small h2 h3) (k.now (v:=.int l.length) p (by rw[size_toArray,<-h2.length];exact .int _ _) _)) λa xs h1 h2 h3=>call_len_list h1 (small h2 h3) (k.now (v:=.int l.length) p (by rw[size_toArray,<-h2.length];exact .int _ _) _)
theorem Md{t:Ty}(r:aX P.w v x)(p:aJ (uB P.H t v) λb=>post (.bool b) P.H)(k:Kn P post Q):wpAny X.M P.A (call (.builtin "isinstance") [x,.type (iY t)]) Q P.Ex P.s:=by
 refine aJ.k p λb e p=>?_
 have fin:∀tk,Q (.bool b) (upd P.s P.s.heap tk):=λtk=>k.now p (.bool _) tk
 cases v with
 |bool c=>
  refine r.inv (λx=>wpAny X.M P.A (call (.builtin "isinstance") [x,.type (iY t)]) Q P.Ex P.s) ?_
  cases t<;>cases e
  ·exact IsiPair.bool_int (fin _)
  ·exact IsiPair.bool_bool (fin _)
  ·exact IsiPair.bool_list (fin _)
 |int i=>
  refine r.inv (λx=>wpAny X.M P.A (call (.builtin "isinstance") [x,.type (iY t)]) Q P.Ex P.s) λtk=>?_
  cases t<;>cases e
  ·exact IsiPair.int_int (fin _)
  ·exact IsiPair.int_bool (fin _)
  ·exact IsiPair.int_list (fin _)
 |none=>
  refine r.inv (λx=>wpAny X.M P.A (call (.builtin "isinstance") [x,.type (iY t)]) Q P.Ex P.s) ?_
  cases t<;>cases e
  ·exact IsiPair.NoneType_int (fin _)
  ·exact IsiPair.NoneType_bool (fin _)
  ·exact IsiPair.NoneType_list (fin _)
 |str z=>
  refine r.inv (λx=>wpAny X.M P.A (call (.builtin "isinstance") [x,.type (iY t)]) Q P.Ex P.s) λtk=>?_
  cases t<;>cases e
  ·exact IsiPair.str_int (fin _)
  ·exact IsiPair.str_bool (fin _)
  ·exact IsiPair.str_list (fin _)
 |aF vs=>
  refine r.inv (λx=>wpAny X.M P.A (call (.builtin "isinstance") [x,.type (iY t)]) Q P.Ex P.s) λa m xs h1 Z Z Z=>?_
  cases t<;>cases e
  ·exact IsiPair.tuple_int h1 rfl (fin _)
  ·exact IsiPair.tuple_bool h1 rfl (fin _)
  ·exact IsiPair.tuple_list h1 rfl (fin _)
 |ref l=>
  have key:∀b',(dt P.H (.ref l)).map (λZ=>b')=some b->(∀a xs m,P.s.heap.get? a=some (gG xs m)->(∀tk,Q (.bool b') (upd P.s P.s.heap tk))->wpAny X.M P.A (call (.builtin "isinstance") [.ref a,.type (iY t)]) Q P.Ex P.s)->wpAny X.M P.A (call (.builtin "isinstance") [x,.type (iY t)]) Q P.Ex P.s:=λb' e h=>
   fG (λb=>(∀tk,Q (.bool b) (upd P.s P.s.heap tk))->_) e (λvs e fin=>bJ r e (λx=>wpAny X.M P.A (call (.builtin "isinstance") [x,.type (iY t)]) Q P.Ex P.s) λZ a xs m Z Z Z h1 Z Z=>h a xs m h1 fin) fin
  cases t
  ·exact key false e λa xs m h1 fin=>IsiPair.list_int h1 rfl (fin _)
  ·exact key false e λa xs m h1 fin=>IsiPair.list_bool h1 rfl (fin _)
  ·exact key true e λa xs m h1 fin=>IsiPair.list_list h1 rfl (fin _)
 |dU=>cases t<;>cases e
theorem Mf(hh:P.A.handled=none)(r:aX P.w v x)(p:aJ ((dt P.H v).bind i0) λbs=>post (.bool (bs.any id)) P.H)(k:Kn P post Q):wpAny X.M P.A (call (.builtin "any") [x]) Q P.Ex P.s:=
 aJ.k p λbs e p=>fZ e λvs e1 e2=>bJ r e1 (λx=>wpAny X.M P.A (call (.builtin "any") [x]) Q P.Ex P.s) λZ a xs m Z Z Z h1 h2 Z=>by
  rw[EQ e2] at h2
  refine call_any_walk (wpAny_pyIter_list (jo h1) ⟨P.s.heap.objs.size,[P.s.heap.objs.size,a],[P.s.heap.objs.size],xs.toArray.size,_,_,λi=>(bs[i]?).getD false,rfl,Walks.list (A:=P.A.in1) hh _ a (ne_of_lt (lt_size h1)) xs.toArray,
   ⟨⟨_,get?_push_size _ rfl,rfl,rfl⟩,(jo h1).push _⟩,λi w s' Q' E' hP hQ=>?_,λh' tk hk=>?_⟩)
  ·have ER:xs[i]?=some w:=by rw[<-getElem?_toArray];exact hP
   have sV:i<bs.length:=by rw[<-length_map (f:=V.bool),h2.length];exact(List.getElem?_eq_some_iff.mp ER).1
   refine h2.get (i:=i) (v:=.bool bs[i]) (by rw[getElem?_map,getElem?_eq_getElem sV];rfl) λy hy ry=>?_
   rw[ER] at hy;cases hy
   have hQ:Q' ((bs[i]?).getD false) s':=hQ
   rw[show(bs[i]?).getD false=bs[i] by rw[getElem?_eq_getElem sV];rfl] at hQ
   exact ry.inv (λw=>wpAny X.M P.A.in1 (PySem.truthy w) Q' E' s') (wpAny_truthy_bool hQ)
  ·rw[show((List.range xs.toArray.size).any λi=>(bs[i]?).getD false)=bs.any id by rw[size_toArray,<-h2.length,length_map];exact LSm.range_any bs]
   exact k.later p (.bool _) (LSm.kept_iter hk) tk
theorem Mg(hh:P.A.handled=none){a b:Int}{t u:Tok}(p:post (.int (max a b)) P.H)(k:Kn P post Q):wpAny X.M P.A (call (.builtin "max") [.int a t,.int b u]) Q P.Ex P.s:=
 max_two_ints hh λh' tk hk=>by
  by_cases xp:b>a
  ·rw[if_pos xp];exact k.later p (by rw[Int.max_eq_right (Int.le_of_lt xp)];exact .int _ _) hk tk
  ·rw[if_neg xp];exact k.later p (by rw[Int.max_eq_left (Int.not_lt.mp xp)];exact .int _ _) hk tk
theorem Mh(r:aX P.w v x)(p:aJ (dt P.H v) λxs=>post (.aF xs) P.H)(k:Kn P post Q):wpAny X.M P.A (call (.type "tuple") [x]) Q P.Ex P.s:=
 aJ.k p λvs e p=>bJ r e (λx=>wpAny X.M P.A (call (.type "tuple") [x]) Q P.Ex P.s) λZ a xs m Z Z Z h1 h2 h3=>call_tuple_list (jo h1) (λh' hk=>
  have e:aC P.s.heap (h'.push (ku xs 0)):=λb o x=>get?_push_of_some _ (hk b o x)
  k _ _ p (P.ext e P.s.toks) _ (.aF (n:=0) (get?_push_size _ rfl) (h2.mono (P.ext e P.s.toks).S) h3 (SR.new (p:=⟨P.φ,h'⟩) (SR.ext (p:=P.w) P.R hk) (gR _ (le_refl _))).1)) (by rw[size_toArray,<-h2.length];unfold sizeLine;exact le_trans h3 (by decide))
theorem Mi{b:Bool}(p:post (.int (if b then 1 else 0)) P.H)(k:Kn P post Q):wpAny X.M P.A (call (.type "int") [.bool b]) Q P.Ex P.s:=call_int_bool (k.now p (.int _ _) _)
theorem z9:∀(l acc:List Int),(l.foldl step_dedup acc).length<=acc.length+l.length/\((l.foldl step_dedup acc).length=acc.length+l.length↔l.Nodup/\∀x,x∈l->x∉acc)
 |[],acc=>⟨le_refl _,⟨λZ=>⟨nodup_nil,λZ h=>nomatch h⟩,λZ=>rfl⟩⟩
 |a::r,acc=>by
  rw[foldl_cons,length_cons,nodup_cons]
  by_cases h:a∈acc
  ·rw[show step_dedup acc a=acc from if_pos (c:=(acc.any λx=>x==a)=true) (any_eq_true.mpr ⟨a,h,beq_self_eq_true a⟩)]
   have:=z9 r acc
   refine⟨by lia,⟨λe=>absurd e (by lia),λe=>absurd h (e.2 a (.head _))⟩⟩
  ·rw[show step_dedup acc a=acc++[a] from if_neg λe=>(any_eq_true.mp e).elim λb x=>h ((eq_of_beq x.2:b=a)▸x.1)]
   have:=z9 r (acc++[a])
   rw[length_append,List.length_singleton] at this
   refine⟨by lia,⟨λe=>?_,λe=>?_⟩⟩
   ·have x:=this.2.mp (by lia)
    exact⟨⟨λhm=>x.2 a hm (mem_append.mpr (.inr (.head _))),x.1⟩,λy hy=>(mem_cons.mp hy).elim (λe=>e▸h) λhy hm=>x.2 y hy (mem_append.mpr (.inl hm))⟩
   ·have x:=this.2.mpr ⟨e.1.2,λy hy hm=>(mem_append.mp hm).elim (e.2 y (.tail _ hy)) λhm=>e.1.1 (mem_singleton.mp hm▸hy)⟩
    lia
theorem Aa(is:List Int):(List.range is.length).map (λi=>is.getD i 0)=is:=by
 apply ext_getElem?
 intro i
 rw[getElem?_map]
 by_cases h:i<is.length
 ·rw[List.getElem?_range h,getElem?_eq_getElem h,Option.map_some,getD_eq_getElem?_getD,getElem?_eq_getElem h];rfl
 ·rw[getElem?_eq_none (not_lt.mp h),getElem?_eq_none (by rw[length_range];exact not_lt.mp h)];rfl
theorem Mj(hh:P.A.handled=none)(r:aX P.w v x)(p:aJ (jO P.H v) λis=>is.length<=1000/\∀n:Nat,(n=is.length↔is.Nodup)->post (.int n) P.H)(k:Kn P post Q):wpAny X.M P.A (call (.type "set") [x]) (λy bT=>wpAny X.M P.A (call (.builtin "len") [y]) Q P.Ex bT) P.Ex P.s:=
 aJ.k p λis e p=>z8 r e (λx=>wpAny X.M P.A (call (.type "set") [x]) (λy bT=>wpAny X.M P.A (call (.builtin "len") [y]) Q P.Ex bT) P.Ex P.s) λa xs h1 hI=>by
  have hl:xs.toArray.size=is.length:=by rw[size_toArray,hI.length]
  refine PySem.call_set_list hh h1 hI (by rw[hl];have:=p.1;show is.length+1<4096;lia) λh' tk hs hk=>?_
  obtain⟨o,es,ep,t,e1,e2,e3,_,_,_,e4,e5⟩:=hs
  have em:firstMet (λi=>is.getD i 0) xs.toArray.size=is.foldl step_dedup []:=by unfold firstMet;rw[hl,Aa]
  rw[em] at e5
  have d:=z9 is []
  rw[length_nil,zero_add] at d
  have ext:aC P.s.heap h':=λb o x=>hk b o (lt_size x) x
  refine call_len_set (s:=upd P.s h' tk) e1 e2 e3 e4 (by have:=p.1;lia) ?_
  exact k.later (p.2 es.size (by rw[e5];exact d.2.trans ⟨λx=>x.1,λx=>⟨x,λZ Z h=>nomatch h⟩⟩)) (.int _ _) ext _
theorem Mk(r:aX P.w v x)(p:aJ (jO P.H v) λis=>is.length<64/\∀js:List Int,js.Perm is->js.Pairwise (·<=·)->kC (js.map .int) P.H post)(k:Kn P post Q):wpAny X.M P.A (call (.builtin "sorted") [x]) Q P.Ex P.s:=
 aJ.k p λis e p=>z8 r e (λx=>wpAny X.M P.A (call (.builtin "sorted") [x]) Q P.Ex P.s) λa xs h1 hI=>sorted_ints h1 hI (by rw[hI.length];exact p.1) λout js q1 q2 q3=>(sortedAll_at P.s.heap xs out).elim λc he=>Kn.list k (λb o x=>sortedAll_old x) _ (gR _ (le_succ _)) he (zH q1) (by rw[length_map,q2.length_eq];exact le_trans (le_of_lt p.1) (by decide)) (p.2 js q2 q3) P.s.toks
end
section
variable{A:Around}{E:Value->Shared->Prop}{s:Shared}{R:Result->Shared->Prop}{kw:List (Str×Value)}
theorem xr:(toString "min"++toString ".loop":String)="min.loop":=by decide
theorem Ml{i j:Int}{t u:Tok}{Q:Value->Shared->Prop}(h:Q (.bool (decide (i<j))) s):wpAny X.M A (richCompare .Lt (.int i t) (.int j u)) Q E s:=
 richCompare_gives (op:=.Lt) (typeIs_int s _ t) (typeIs_int s _ u) PySem.F.slot_int_lt PySem.F.entry_int_lt (PySem.F.args_int_lt_2 _ _) (gives_int_lt _ _ t u) (λx=>nomatch x) h
theorem qV{h:Heap}{a b:Addr}{o:Obj}{f:Obj->Obj}(hn:b≠a)(e:h.get? b=some o):(h.update a f).get? b=some o:=(get?_update_other _ _ (Ne.symm hn)).trans e
theorem Mm{I S a:Addr}{vs:Array Value}(hh:A.handled=none)(xt:a≠I)(mU:S≠I)(xu:S≠a){xs:List Value}{is:List Int}(hI:IntsAre xs is):∀(j:Nat) (s:Shared) (m:Int) (t:Tok) (c:Nat),vs.toList.drop j=xs->s.heap.IsListIter I a j->s.heap.IsList a vs ->
  s.heap.get? S=some {cls:=.type "list",dict:=none,data:=.seq #[.int m t,.int m t] c,slots:=#[]} ->
  (∀t' h' tk,(∀b o,b≠I->b≠S->s.heap.get? b=some o->h'.get? b=some o)->R (.ok (.ret (.int (is.foldl min m) t'))) {s with heap:=h',toks:=tk}) ->
  codeAny X.M A (.builtin "min.loop" ⟨[.ref I,.none,.ref S],kw⟩) R s:=by
 induction hI with
 |nil=>
  intro j s m t c hd dZ hl hS hR
  refine codeAny_builtin PySem.F.entry_min_loop ?_
  rw[Around.under_plainId PySem.F.plain_min_loop _]
  refine(?_:wpAny _ A.in1 (seqItems? (.ref S) >>= _) _ _ s)
  refine wpAny_bind (wpAny_seqItems hS rfl ?_)
  refine(?_:wpAny _ A.in1 (tryCatch (pyNext (.ref I)) _ >>= _) _ _ s)
  refine wpAny_bind (wpAny_tryCatch (wpAny_pyNext_list_end hh dZ hl (by rw[<-getElem?_toList];exact List.getElem?_eq_none_iff.mpr (drop_eq_nil_iff.mp hd)) λh' he=>?_))
  refine(?_:wpAny _ A.in1 (updateSeq S (λZ=>#[]) >>= _) _ _ _)
  exact wpAny_bind (wpAny_updateSeq (he S _ mU hS) rfl (wpAny_bind (wpAny_letGo (wpAny_pure (hR t _ s.toks λb o hI hS e=>qV hS (he b o hI e))))))
 |cons i u h ih=>
  intro j s m t c hd dZ hl hS hR
  have hx:vs[j]?=some (.int i u):=by rw[<-getElem?_toList,<-List.head?_drop,hd];rfl
  have uZ:=(List.tail_drop (l:=vs.toList) (i:=j)).symm.trans (congrArg List.tail hd)
  refine codeAny_builtin PySem.F.entry_min_loop ?_
  rw[Around.under_plainId PySem.F.plain_min_loop _]
  refine(?_:wpAny _ A.in1 (seqItems? (.ref S) >>= _) _ _ s)
  refine wpAny_bind (wpAny_seqItems hS rfl ?_)
  refine(?_:wpAny _ A.in1 (tryCatch (pyNext (.ref I)) _ >>= _) _ _ s)
  refine wpAny_bind (wpAny_tryCatch (wpAny_pyNext_list_item dZ hl hx λh' qM lE=>?_))
  have mV:=lE.extBut S _ mU hS
  have gS:=hl.extBut lE.extBut xt
  refine(?_:wpAny _ A.in1 (tryCatch (holding [Value.int i u,Value.int i u] (richCompare .Lt (Value.int i u) (Value.int m t) >>= _)) _ >>= _) _ _ _)
  refine wpAny_bind (wpAny_tryCatch (wpAny_holding (wpAny_bind (Ml (wpAny_bind (wpAny_holding (wpAny_truthy_bool (wpAny_bind (wpAny_letGo (wpAny_pure ?_))))))))))
  by_cases hb:i<m
  ·rw[decide_eq_true hb]
   refine wpAny_bind (wpAny_updateSeq mV rfl (wpAny_bind (wpAny_letGo ?_)))
   rw[xr]
   exact wpAny_pure ⟨plainId_quiet PySem.F.plain_min_loop _,ih (j+1) _ i u _ uZ (qM.at λo e=>qV mU.symm e) (gS.at λo e=>qV xu.symm e) (get?_update_self _ mV rfl) λt' u0 tk hk=>by
    have:=hR t' u0 tk λb o hI hS e=>hk b o hI hS (qV hS (lE.extBut b o hI e))
    rw[foldl_cons,Int.min_eq_right (Int.le_of_lt hb)] at this
    exact this⟩
  ·rw[decide_eq_false hb]
   refine wpAny_bind (wpAny_letGo ?_)
   rw[xr]
   exact wpAny_pure ⟨plainId_quiet PySem.F.plain_min_loop _,ih (j+1) _ m t c uZ qM gS mV λt' u0 tk hk=>by
    have:=hR t' u0 tk λb o hI hS e=>hk b o hI hS (lE.extBut b o hI e)
    rw[foldl_cons,Int.min_eq_left (Int.not_lt.mp hb)] at this
    exact this⟩
theorem Mn{I S a:Addr}{dn:Str}{d:Value}{c:Nat}{xs:List Value}{is:List Int}(hh:A.handled=none)(xt:a≠I)(mU:S≠I)(xu:S≠a)(hI:IntsAre xs is)(dZ:s.heap.IsListIter I a 0)(hl:s.heap.IsList a xs.toArray)
  (hS:s.heap.get? S=some {cls:=.type "list",dict:=none,data:=.seq #[] c,slots:=#[]})
  (hR:∀v h' tk,(is=[]/\v=d\/∃i r t,is=i::r/\v=.int (r.foldl min i) t)->(∀b o,b≠I->b≠S->s.heap.get? b=some o->h'.get? b=some o)->R (.ok (.ret v)) {s with heap:=h',toks:=tk}) :
  codeAny X.M A (.builtin "min.loop" ⟨[.ref I,.none,.ref S],[(dn,d)]⟩) R s:=by
 refine codeAny_builtin PySem.F.entry_min_loop ?_
 rw[Around.under_plainId PySem.F.plain_min_loop _]
 refine(?_:wpAny _ A.in1 (seqItems? (.ref S) >>= _) _ _ s)
 refine wpAny_bind (wpAny_seqItems hS rfl ?_)
 refine(?_:wpAny _ A.in1 (tryCatch (pyNext (.ref I)) _ >>= _) _ _ s)
 cases hI with
 |nil=>exact wpAny_bind (wpAny_tryCatch (wpAny_pyNext_list_end hh dZ hl rfl λh' he=>wpAny_bind (wpAny_rule (wpAny_pure (hR d h' s.toks (.inl ⟨rfl,rfl⟩) λb o hI Z e=>he b o hI e)))))
 |cons i u h=>
  refine wpAny_bind (wpAny_tryCatch (wpAny_pyNext_list_item dZ hl (x:=.int i u) rfl λh' qM lE=>?_))
  have mV:=lE.extBut S _ mU hS
  refine(?_:wpAny _ A.in1 (updateSeq S (λZ=>#[.int i u,.int i u]) >>= _) _ _ _)
  refine wpAny_bind (wpAny_updateSeq mV rfl ?_)
  rw[xr]
  exact wpAny_pure ⟨plainId_quiet PySem.F.plain_min_loop _,Mm hh xt mU xu h 1 _ i u _ rfl (qM.at λo e=>qV mU.symm e) ((hl.extBut lE.extBut xt).at λo e=>qV xu.symm e) (get?_update_self _ mV rfl) λt' u0 tk hk=>hR _ u0 tk (.inr ⟨i,_,t',rfl,rfl⟩) λb o hI hS e=>hk b o hI hS (qV hS (lE.extBut b o hI e))⟩
theorem Mo{id:String}{b:Builtin}{args:List Value}{Q:Value->Shared->Prop}(hk:builtinKind id=none)(hp:plainId id=true)(hb:entryFor table id=some b)(ha:argsOk id ⟨args,kw⟩)
  (hc:wpAny X.M A.in1 (b ⟨args,kw⟩) (λfin s'=>match fin with
   |.done f=>(match(Except.ok f:Result) with | .ok (.ret v)=>Q v s' | .ok _=>False | .error e=>E e s')
   |.again c'=>c'.quiet=true/\codeAny X.M A c' (λr s'=>match r with | .ok (.ret v)=>Q v s' | .ok _=>False | .error e=>E e s') s') E s) :
  wpAny X.M A (call (.builtin id) args kw) Q E s:=by
 refine wpAny_call (codeAny_call_builtin hp hb ?_)
 rw[checkBuiltinCall,hk]
 cases Mp:Manifest.signature? id with
 |none=>exact wpAny_pure hc
 |some sig=>
  have qW:Bind.checkArgs id sig ⟨args,kw⟩=pure ():=by simpa only[argsOk,Mp] using ha
  simp only[qW]
  exact wpAny_pure hc
theorem Mq{Q:Value->Shared->Prop}{l:Addr}{xs:List Value}{is:List Int}{d:Value}(hh:A.handled=none)(hl:s.heap.IsList l xs.toArray)(hI:IntsAre xs is)
  (hQ:∀v h' tk,(is=[]/\v=d\/∃i r t,is=i::r/\v=.int (r.foldl min i) t)->(∀b o,s.heap.get? b=some o->h'.get? b=some o)->Q v {s with heap:=h',toks:=tk}) :
  wpAny X.M A (call (.builtin "min") [.ref l] [("default",d)]) Q E s:=by
 have cO:l<s.heap.objs.size:=hl.elim λZ e=>lt_size e.1
 refine Mo PySem.F.kind_min PySem.F.plain_min PySem.F.entry_min (by unfold argsOk;rfl) ?_
 refine(?_:wpAny _ A.in1 (Builtin.Builtins.bindParams "min" ["key","default"] 0 ⟨[],[("default",d)]⟩ >>= _) _ _ s)
 refine wpAny_bind (wpAny_of_eq (show Builtin.Builtins.bindParams "min" ["key","default"] 0 ⟨[],[("default",d)]⟩=pure [none,some d] from rfl) (wpAny_bind (wpAny_pure (wpAny_bind (wpAny_pyIter_list hl (wpAny_bind (wpAny_newObj_type ?_)))))))
 rw[xr]
 have e1:(s.heap.push {cls:=.type "list_iterator",data:=.fields #[.ref l,.int 0 0]}).objs.size=s.heap.objs.size+1:=Heap.size_push ..
 exact wpAny_pure ⟨plainId_quiet PySem.F.plain_min_loop _,Mn (I:=s.heap.objs.size) (S:=(s.heap.push {cls:=.type "list_iterator",data:=.fields #[.ref l,.int 0 0]}).objs.size) hh (ne_of_lt cO) (by rw[e1];exact Nat.succ_ne_self _) (by rw[e1];exact ne_of_gt (Nat.lt_succ_of_lt cO)) hI ⟨_,get?_push_of_some _ (get?_push_size _ rfl),rfl,rfl⟩ ((hl.push _).push _) (get?_push_size _ rfl)
  λv h' tk hv hk=>hQ v h' tk hv λb o e=>hk b o (ne_of_lt (lt_size e)) (by rw[e1];exact ne_of_lt (Nat.lt_succ_of_lt (lt_size e))) (get?_push_of_some _ (get?_push_of_some _ e))⟩
end
section
variable{σ:Lv}{cs:List E}{es:List Expr}{g:Expr}{pos:Pos}
theorem Mr{T:Value->List Value->Prop}{post:List V->Hp->Prop}{P:Fp σ}{Q:Value->Shared->Prop}{nm:Str}{y:Value}(G:Good X)(hg:dJ σ.f nm g=true)(hm:(nm,y)∈mG)(hy:(∃T,y=.type T)\/∃T,y=.builtin T)(h:dY σ cs es)(p:mf σ.c cs P.ρ P.H post)(k:zG P.toPt cs.length post λxs bT=>wpAny X.M P.A (call y xs) Q P.Ex bT):wpAny X.M P.A (eval (.Call g es [] pos) P.env) Q P.Ex P.s:=
 hy.elim (λhy=>s8 G hg hm hy h p k) λhy=>eR.k (G:=λg=>wpAny X.M P.A (eval (.Call g es [] pos) P.env) Q P.Ex P.s) hg λx np hg=>aU hg λe ho=>by
  obtain rfl:=eq_of_beq e
  obtain⟨T,rfl⟩:=hy
  exact wpAny_Call_NameR (pv G P hm ho (Calls.callWith_builtin (h.plain P.env pos) (nU (h.plain P.env pos) (h.mP P _ _ pos p k))))
theorem Ms{b:Bi}{q:Str×Nat}(hb:ud b=some q)(G:Good X){T:Prop}(k:∀y,(q.1,y)∈mG->((∃T,y=.type T)\/∃T,y=.builtin T) ->
  (∀(P:Pt) (vs:List V) (xs:List Value) (post:PQ) (Q:Value->Shared->Prop),P.A.handled=none->br P.w vs xs->DG b vs P.H post->Kn P post Q->wpAny X.M P.A (call y xs) Q P.Ex P.s)->T):T:=by
 have one:∀{y:Value} {f:Hp->V->PQ->Prop},(∀(P:Pt) (v:V) (x:Value) (post:PQ) (Q:Value->Shared->Prop),P.A.handled=none->aX P.w v x->f P.H v post->Kn P post Q->wpAny X.M P.A (call y [x]) Q P.Ex P.s) ->
   ∀(P:Pt) (vs:List V) (xs:List Value) (post:PQ) (Q:Value->Shared->Prop),P.A.handled=none->br P.w vs xs->w1 vs (λv=>f P.H v post)->Kn P post Q->wpAny X.M P.A (call y xs) Q P.Ex P.s:=λh P vs xs post Q hh r p k=>
  w1.k p (λvs=>br P.w vs xs->_) (λv p r=>r.k1 (λxs=>wpAny X.M P.A (call _ xs) Q P.Ex P.s) λx r=>h P v x post Q hh r p k) r
 cases b with
 |len=>cases hb;exact k _ (g8 0 (by decide)) (.inr ⟨_,rfl⟩) (one (f:=λH v post=>aJ (k7 H v) λl=>post (.int l.length) H) λP v x post Q hh r p k=>Mc G r p k)
 |any=>cases hb;exact k _ (g8 10 (by decide)) (.inr ⟨_,rfl⟩) (one (f:=λH v post=>aJ ((dt H v).bind i0) λbs=>post (.bool (bs.any id)) H) λP v x post Q hh r p k=>Mf hh r p k)
 |max2=>cases hb;exact k _ (g8 12 (by decide)) (.inr ⟨_,rfl⟩) λP vs xs post Q hh r p k=>w2.k p (λvs=>br P.w vs xs->_) (λu v p r=>r.k2 (λxs=>wpAny X.M P.A (call _ xs) Q P.Ex P.s) λx y rx ry=>ff.k p (λu=>aX P.w u x->_) (λa p rx=>ff.k p (λv=>aX P.w v y->_) (λb p ry=>rx.inv (λx=>wpAny X.M P.A (call _ [x,y]) Q P.Ex P.s) λt=>ry.inv (λy=>wpAny X.M P.A (call _ [_,y]) Q P.Ex P.s) λt'=>Mg hh p k) ry) rx) r
 |tupleOf=>cases hb;exact k _ (g8 4 (by decide)) (.inl ⟨_,rfl⟩) (one (f:=λH v post=>aJ (dt H v) λxs=>post (.aF xs) H) λP v x post Q hh r p k=>Mh r p k)
 |vT=>cases hb;exact k _ (g8 9 (by decide)) (.inr ⟨_,rfl⟩) (one (f:=λH v post=>aJ (jO H v) λis=>is.length<64/\∀js:List Int,js.Perm is->js.Pairwise (·<=·)->kC (js.map .int) H post) λP v x post Q hh r p k=>Mk r p k)
 |qm=>cases hb;exact k _ (g8 2 (by decide)) (.inl ⟨_,rfl⟩) (one (f:=λH v post=>aJ (boolOf v) λb=>post (.int (if b then 1 else 0)) H) λP v x post Q hh r p k=>aJ.k p λb e p=>boolOf.k e (λv=>aX P.w v x->_) (λr=>r.inv (λx=>wpAny X.M P.A (call _ [x]) Q P.Ex P.s) (Mi p k)) r)
 |_=>cases hb
theorem Mt{b:Bi}{q:Str×Nat}(hh:σ.f.hd=false)(G:Good X)(hb:ud b=some q)(hg:dJ σ.f q.1 g=true)(h:dY σ cs es):b9 σ (.bi b cs) (.Call g es [] pos):=λP post Q p k=>
 Ms hb G λy hm hy run=>Mr (T:=λZ Z=>True) G hg hm hy h p (λvs H1 p1 Z N xs r=>run N.pt vs xs post Q (P.calm hh) r p1 (k.nx N))
theorem Mu(t:Ty):(Str.ofString (iY t),Value.type (iY t))∈mG:=by
 cases t
 ·exact g8 2 (by decide)
 ·exact g8 3 (by decide)
 ·exact g8 5 (by decide)
theorem Mv{t:Ty}{e nm:Expr}{c:E}(G:Good X)(hg:dJ σ.f "isinstance" g=true)(hn:dJ σ.f (Str.ofString (iY t)) nm=true)(h0:cg σ.f c e=true)(he:b9 σ c e):b9 σ (.bi (.jH t) [c]) (.Call g [e,nm] [] pos):=λP post Q p k=>
 eR.k (G:=λg=>wpAny X.M P.A (eval (.Call g [e,nm] [] pos) P.env) Q P.Ex P.s) hg λx np hg=>aU hg λe1 ho=>eR.k (G:=λnm=>wpAny X.M P.A (eval (.Call _ [e,nm] [] pos) P.env) Q P.Ex P.s) hn λy yp hn=>aU hn λe2 Mw=>by
  obtain rfl:=eq_of_beq e1
  obtain rfl:=eq_of_beq e2
  have mS:(backTo pos (starEach [e,.Name (Str.ofString (iY t)) yp] P.env)).any (·.1)=false:=by rw[pz h0 P.env];rfl
  refine wpAny_Call_NameR (pv G P (g8 1 (by decide)) ho (Calls.callWith_builtin mS (nU mS (wpAny_items_cons (he P _ _ p (λv H1 p1 N x r=>?_)) (pz h0 P.env _)))))
  exact wpAny_items_cons (pv G (P.to N) (y:=.type (iY t)) (Mu t) Mw (wpAny_items_nil (Md (P:=N.pt) r p1 (k.nx N)))) rfl
theorem Mx(hh:σ.f.hd=false){c d:E}{e v:Expr}{kp:Pos}(G:Good X)(hg:dJ σ.f "min" g=true)(h0:cg σ.f c e=true)(he:b9 σ c e)(hv:b9 σ d v):b9 σ (.bi .mB [c,d]) (.Call g [e] [⟨some "default",v,kp⟩] pos):=λP post Q p k=>
 eR.k (G:=λg=>wpAny X.M P.A (eval (.Call g [e] [⟨some "default",v,kp⟩] pos) P.env) Q P.Ex P.s) hg λx np hg=>aU hg λe1 ho=>by
  obtain rfl:=eq_of_beq e1
  obtain⟨y,hy⟩:∃y,backTo pos (starEach [e] P.env)=[(false,y)]:=⟨_,by rw[pz h0 P.env];rfl⟩
  refine(?_:wpAny X.M P.A (do callWith pos (<-eval (.Name "min" np) P.env) [] (backTo pos (starEach [e] P.env)) (backToKw pos (keywordEach [⟨some "default",v,kp⟩] P.env))) Q P.Ex P.s)
  refine wpAny_bind (pv G P (y:=.builtin "min") (g8 11 (by decide)) ho (callWith_builtin_kwB (by rw[hy];rfl) rfl ?_))
  rw[hy]
  refine evalArgs_kwB rfl ?_
  rw[<-hy]
  exact wpAny_items_cons (he P _ _ p (λu H1 p1 N x r=>wpAny_items_nil (kws_cons (hv (P.to N) _ _ p1 (λw H2 p2 N2 z r2=>kws_nil (ff.k p2 (λw=>aX N2.w w z->_) (λd p2 r2=>aJ.k p2 λis ei p2=>z8 (P:=N2.pt) (r.mono N2.S) ei (λx=>wpAny X.M P.A (call (.builtin "min") [x] [("default",z)]) Q P.Ex N2.s) λa xs h1 hI=>Mq (P.calm hh) h1 hI λy h' tk hy hk=>
   ((k.nx N).nx N2).later p2 (by
    rcases hy with⟨rfl,rfl⟩|⟨i,r,t,rfl,rfl⟩
    ·exact r2
    ·exact .int _ _) hk tk) r2)))))) (pz h0 P.env _)
theorem My{c:E}{e g':Expr}{pos':Pos}(hh:σ.f.hd=false)(G:Good X)(hg:dJ σ.f "len" g=true)(Mz:dJ σ.f "set" g'=true)(h:dY σ [c] [e]):b9 σ (.bi .kW [c]) (.Call g [.Call g' [e] [] pos'] [] pos):=λP post Q p k=>
 eR.k (G:=λg=>wpAny X.M P.A (eval (.Call g [.Call g' [e] [] pos'] [] pos) P.env) Q P.Ex P.s) hg λx np hg=>aU hg λe1 ho=>by
  obtain rfl:=eq_of_beq e1
  have mS:(backTo pos (starEach [.Call g' [e] [] pos'] P.env)).any (·.1)=false:=rfl
  refine wpAny_Call_NameR (pv G P (g8 0 (by decide)) ho (Calls.callWith_builtin mS (nU mS (wpAny_items_cons ?_ rfl))))
  exact s8 (post:=λvs H=>w1 vs λx=>aJ (jO H x) λis=>is.length<=1000/\∀n:Nat,(n=is.length↔is.Nodup)->post (.int n) H) G Mz (g8 13 (by decide)) ⟨_,rfl⟩ h p λvs H1 p1 Z N xs r=>w1.k p1 (λvs=>br N.w vs xs->_) (λv p1 r=>r.k1 (λxs=>wpAny X.M P.A (call (.type "set") xs) _ P.Ex N.s) λx r=>wpAny_mono (Mj (P:=N.pt) (P.calm hh) r p1 (k.nx N)) (λy bT h=>wpAny_items_nil h) λZ Z h=>h) r
end
section
variable{A:Around}{E:Value->Shared->Prop}{s:Shared}{d:Addr}{kvs:List (Int×Value)}{ep:Nat}
theorem MA{Q:Bool->Shared->Prop}(hT:s.TypeIs (.ref d) "dict")(h:Q false s):wpAny X.M A (Builtin.List.listLengthHint (.ref d)) Q E s:=by
 unfold Builtin.List.listLengthHint
 refine wpAny_bind (wpAny_specialOf hT PySem.F.slot_dict_len.lookup ?_)
 generalize ES:("dict.__len__":String)=MB
 wp_delta
 rw[show splitId MB=some ("dict","__len__") from by subst ES;decide +kernel]
 subst ES
 refine wpAny_bind (wpAny_isInstance (T:="dict") (b:=true) hT (by rw[isSubtype_type];kernel_rfl) ?_)
 refine wpAny_ite_split (λml=>absurd ml (by decide)) (λZ=>?_)
 refine wpAny_ite_split (λZ=>?_) (λml=>absurd (by decide +kernel) ml)
 exact wpAny_bind (wpAny_typeOf hT (wpAny_pure h))
noncomputable abbrev Ab(kvs:List (Int×Value))(i:Nat)(v:Value):Prop:=∃k x,kvs[i]?=some (k,x)/\kD.is k v=true
theorem MC{R:Result->Shared->Prop}{S:Addr}{xv:Nat}(hh:A.handled=none)(lo:(d==sysModules)=false)(hD:s.heap.DictAt kD d kvs ep)(td:S≠d)(hn:kvs.length<=sizeLine)
  (hS:s.heap.get? S=some {cls:=.type "list",data:=.seq #[] xv})
  (hR:∀h' tk acc c',(∀b o,b≠S->s.heap.get? b=some o->h'.get? b=some o)->h'.get? S=some {cls:=.type "list",dict:=none,data:=.seq acc c',slots:=#[]}->ItemsOf (Ab kvs) acc kvs.length->R (.ok (.ret .none)) {s with heap:=h',toks:=tk}) :
  wpAny X.M A.in1 (Builtin.List.listExtendWith (.ref S) (.ref d) .none)
   (λfin s'=>match fin with | .done f=>R (.ok f) s' | .again c'=>c'.quiet=true/\codeAny X.M A c' R s') (λe s'=>R (.error e) s') s:=by
 have hT:s.TypeIs (.ref d) "dict":=hD.dictOf.typeIs
 have mU:S≠s.heap.objs.size:=ne_of_lt (lt_size hS)
 have MD:S∉[s.heap.objs.size,d]:=by
  intro hm
  rcases mem_cons.mp hm with e|hm
  ·exact mU e
  ·exact td (mem_singleton.mp hm)
 have W:=Walks.dictKeys (A:=A.in1) (knd:=kD) hh s.heap.objs.size d (ne_of_lt hD.lt_size) kvs ep
 have go:∀(h:Heap) (Ac tk:Nat),h.IsKeyIter s.heap.objs.size d 0 kvs.length ep->h.DictAt kD d kvs ep->(∀b o,b≠S->s.heap.get? b=some o->h.get? b=some o)->h.get? S=some {cls:=.type "list",data:=.seq #[] Ac} ->
   codeAny X.M A (.builtin "list.extend.loop" ⟨[.ref S,.ref s.heap.objs.size,.none],[]⟩) R {s with heap:=h,toks:=tk}:=by
  intro h Ac tk i1 i2 hk u2
  refine codeAny_extend_loopS W.toS hn S MD .none kvs.length 0 _ #[] Ac rfl (zero_le _) ⟨i1,i2⟩ u2 (ItemsOf.nil _) λs' acc c' hm mV qX=>?_
  rw[Moved.eq_with hm]
  refine hR s'.heap s'.toks acc c' (λb o hb e=>hm.heap b o (λte=>?_) (hk b o hb e)) mV qX
  rcases mem_cons.mp te with e'|te
  ·exact hb e'
  ·rw[mem_singleton.mp te] at e
   exact absurd (lt_size e) (Nat.lt_irrefl _)
 unfold Builtin.List.listExtendWith
 refine wpAny_bind (wpAny_typeOf (T:="dict") hT ?_)
 have h1:Builtin.List.listSameRef (.ref S) (.ref d)=false:=by simp[Builtin.List.listSameRef,td]
 simp only[h1,show(Value.type "dict"==Value.type "list")=false from by decide,show(Value.type "dict"==Value.type "tuple")=false from by decide,Bool.or_false,Bool.false_eq_true,if_false]
 refine wpAny_bind (wpAny_pyIter_dict lo hD ?_)
 have u2:=get?_push_of_some {cls:=.type "dict_keyiterator",data:=.fields #[.ref d,.int 0 0,.int kvs.length 0,.int ep 0]} hS
 have i1:(s.heap.push {cls:=.type "dict_keyiterator",data:=.fields #[.ref d,.int 0 0,.int kvs.length 0,.int ep 0]}).IsKeyIter s.heap.objs.size d 0 kvs.length ep:=⟨_,get?_push_size _ rfl,rfl,rfl⟩
 have i2:=hD.push {cls:=.type "dict_keyiterator",data:=.fields #[.ref d,.int 0 0,.int kvs.length 0,.int ep 0]}
 refine wpAny_bind (wpAny_holding (MA i2.dictOf.typeIs ?_))
 refine wpAny_ite_split (λZ=>?_) (λZ=>wpAny_pure ⟨plainId_quiet PySem.F.plain_extend_loop _,go _ xv _ i1 i2 (λb o Z e=>get?_push_of_some _ e) u2⟩)
 refine wpAny_bind (wpAny_rule (wpAny_bind ?_))
 refine(?_:wpAny _ _ (updateSeq S (·.push .none) >>= λZ=>updateSeq S (·.pop)) _ _ _)
 refine wpAny_bind (wpAny_updateSeq u2 rfl ?_)
 have xw:=get?_update_self (Obj.mapSeq (·.push Value.none)) u2 rfl
 refine wpAny_updateSeq (hz:=by seq_fits) xw rfl ?_
 have ME:=get?_update_self (Obj.mapSeq (·.pop)) xw rfl
 have oth:∀b o,b≠S->(s.heap.push {cls:=.type "dict_keyiterator",data:=.fields #[.ref d,.int 0 0,.int kvs.length 0,.int ep 0]}).get? b=some o->(((s.heap.push {cls:=.type "dict_keyiterator",data:=.fields #[.ref d,.int 0 0,.int kvs.length 0,.int ep 0]}).update S (Obj.mapSeq (·.push Value.none))).update S (Obj.mapSeq (·.pop))).get? b=some o:=
  λb o hb e=>(get?_update_other _ _ (Ne.symm hb)).trans ((get?_update_other _ _ (Ne.symm hb)).trans e)
 exact wpAny_pure ⟨plainId_quiet PySem.F.plain_extend_loop _,go _ _ _ (i1.at λo e=>oth _ o mU.symm e) (i2.at' λo e=>oth _ o td.symm e) (λb o hb e=>oth b o hb (get?_push_of_some _ e)) ME⟩
theorem MF{Q:Value->Shared->Prop}(hh:A.handled=none)(lo:(d==sysModules)=false)(hD:s.heap.DictAt kD d kvs ep)(hn:kvs.length<=sizeLine)
  (hQ:∀h' tk acc c',(∀b o,s.heap.get? b=some o->h'.get? b=some o)->h'.get? s.heap.objs.size=some {cls:=.type "list",dict:=none,data:=.seq acc c',slots:=#[]}->ItemsOf (Ab kvs) acc kvs.length->Q (.ref s.heap.objs.size) {s with heap:=h',toks:=tk}) :
  wpAny X.M A (call (.type "list") [.ref d]) Q E s:=by
 refine callType_codes (Q₁:=λobj bT=>obj=.ref s.heap.objs.size/\bT={s with heap:=s.heap.push {cls:=.type "list",data:=.seq #[]}}) PySem.F.called_list (PySem.F.typeCall_list_1 _) PySem.F.entry_list_init
  (code_list_new _ ⟨rfl,rfl⟩) λobj bT fk=>?_
 obtain⟨rfl,rfl⟩:=fk
 have hS:(s.heap.push {cls:=.type "list",data:=.seq #[]}).get? s.heap.objs.size=some {cls:=.type "list",data:=.seq #[]}:=get?_push_size _ rfl
 have td:s.heap.objs.size≠d:=ne_of_gt hD.lt_size
 refine⟨⟨_,hS,rfl⟩,PySem.F.args_list_init_2 _ _,?_⟩
 refine(?_:wpAny _ _ (do let old <-Builtin.List.listItems (.ref s.heap.objs.size);Builtin.List.listUpdate (.ref s.heap.objs.size) (λZ=>#[]);letGo old.toList.reverse;Builtin.List.listExtendWith (.ref s.heap.objs.size) (.ref d) .none) _ _ _)
 refine wpAny_bind ?_
 unfold Builtin.List.listItems
 refine wpAny_bind (wpAny_seqItems hS rfl (wpAny_pure ?_))
 refine(?_:wpAny _ _ (updateSeq s.heap.objs.size (λZ=>#[]) >>= λZ=>letGo (#[]:Array Value).toList.reverse >>= λZ=>Builtin.List.listExtendWith (.ref s.heap.objs.size) (.ref d) .none) _ _ _)
 refine wpAny_bind (wpAny_updateSeq hS rfl ?_)
 have xw:=get?_update_self (Obj.mapSeq (λZ=>(#[]:Array Value))) hS rfl
 have oth:∀b o,b≠s.heap.objs.size->(s.heap.push {cls:=.type "list",data:=.seq #[]}).get? b=some o->((s.heap.push {cls:=.type "list",data:=.seq #[]}).update s.heap.objs.size (Obj.mapSeq (λZ=>(#[]:Array Value)))).get? b=some o:=
  λb o hb e=>(get?_update_other _ _ (Ne.symm hb)).trans e
 refine wpAny_bind (wpAny_letGo ?_)
 refine MC (A:=A.in1) hh lo ((hD.push _).at' λo e=>oth _ o td.symm e) td hn xw λh' tk acc c' hk mV qX=>?_
 exact⟨rfl,hQ h' tk acc c' (λb o e=>hk b o (ne_of_lt (lt_size e)) (oth b o (ne_of_lt (lt_size e)) (get?_push_of_some _ e))) mV qX⟩
end
section
variable{σ:Lv}{Q:Value->Shared->Prop}{P:Pt}{post:PQ}{H:Hp}
theorem ET(G:Good X)(P:Pt):(P.s.heap.objs.size==sysModules)=false:=
 G.low.elim λo ho=>beq_eq_false_iff_ne.mpr λe=>absurd (lt_size (P.R.keep _ _ ho)) (by rw[e];decide)
theorem xA(P:Pt):P.s.heap.get? P.s.heap.objs.size=none:=gR _ (le_refl _)
theorem MG{h:Heap}{D:Addr}{o o':Obj}{en:Array DictEntry}{ep:Nat}(e:h.get? D=some o)(hd:o.data=.dict en ep)(e':h.get? D=some o'):fz o'=false:=by rw[e] at e';cases e';exact uD hd
noncomputable abbrev qY:Obj:={cls:=.type "dict",data:=.dict #[]}
noncomputable abbrev Pt.newD(P:Pt){c:aZ}(hc:eH ⟨P.φ,P.s.heap.push qY⟩ P.s.heap.objs.size c):Nx P (P.H++[c]):=
 ⟨P.φ++[P.s.heap.objs.size],P.s.heap.push qY,P.s.toks,SR.adopt (p:=⟨P.φ,P.s.heap.push qY⟩) (SR.ext (p:=P.w) P.R (.push _)) (P.R.new (p:=P.w) (xA P)) (λo e=>MG (get?_push_size _ rfl) rfl e) hc,bL.adopt (q:=⟨P.φ,P.s.heap.push qY⟩) (bL.ext (q:=P.w) .refl (.push _)) (xA P)⟩
theorem Pt.Ad(P:Pt):(P.φ++[P.s.heap.objs.size])[P.H.length]?=some P.s.heap.objs.size:=by rw[<-P.R.len,getElem?_append_right (le_refl _),sub_self];rfl
theorem MH(G:Good X)(P:Pt):eH ⟨P.φ,P.s.heap.push qY⟩ P.s.heap.objs.size (.dict 0 []):=.dict (kvs:=[]) (en:=#[]) (get?_push_size _ rfl) ⟨rfl,rfl,rfl⟩ rfl (λe he=>absurd he (Array.not_mem_empty e)) .nil .nil .nil (ET G P) (zero_le _)
theorem EU(G:Good X)(P:Pt):eH ⟨P.φ,P.s.heap.push qY⟩ P.s.heap.objs.size (.cD 0 []):=.cD (xs:=[]) (en:=#[]) (get?_push_size _ rfl) ⟨rfl,rfl,rfl⟩ rfl rfl .nil .nil (ET G P) (zero_le _)
theorem MI{pos:Pos}(G:Good X):b9 σ .nF (.Dict [] [] pos):=λP post Q p k=>wpAny_Dict_empty (k _ _ p (P.toPt.newD (MH G P.toPt)) _ (.ref P.toPt.Ad))
theorem MJ{pos:Pos}(G:Good X):b9 σ .lW (.Dict [] [] pos):=λP post Q p k=>wpAny_Dict_empty (k _ _ p (P.toPt.newD (EU G P.toPt)) _ (.ref P.toPt.Ad))
theorem MK{c d:E}{k v:Expr}{pos:Pos}{post:V->V->Hp->Prop}(P:Fp σ){ce:aZ}(hc:eH ⟨P.φ,P.s.heap.push qY⟩ P.s.heap.objs.size ce)(hk:b9 σ c k)(hv:b9 σ d v)(p:WE σ.c c P.ρ (P.H++[ce]) λx H=>WE σ.c d P.ρ H λy H=>post x y H)
  (kn:∀u w H,post u w H->∀(N:Nx P.toPt H) x y,N.φ[P.H.length]?=some P.s.heap.objs.size->aX N.w u x->aX N.w w y->wpAny X.M P.A (dictSet P.s.heap.objs.size x y) (λZ dX=>Q (.ref P.s.heap.objs.size) dX) P.Ex N.s):wpAny X.M P.A (eval (.Dict [some k] [v] pos) P.env) Q P.Ex P.s:=
 wpAny_Dict_any rfl rfl (λe=>nomatch e) (show(1:Nat)<=15 by decide) (pairTrees_cons_walk (qI hk hv (P.to (P.toPt.newD hc)) p (λu w H q N x y r1 r2=>pairTrees_nil_walk (wpAny_bind (wpAny_bind (wpAny_mono (kn u w H q ((P.toPt.newD hc).then N) x y (N.S.pre _ _ P.toPt.Ad) r1 r2) (λZ dX h=>wpAny_pure (wpAny_pure h)) λZ Z h=>h))))))
theorem ML{c d:E}{k v:Expr}{pos:Pos}(G:Good X)(hk:b9 σ c k)(hv:b9 σ d v):b9 σ (.t6 c d) (.Dict [some k] [v] pos):=λP post Q p kn=>
 MK P (EU G P.toPt) hk hv p (λu w H q N x y EV r1 r2=>aJ.k q λj ej q=>pairOf.k ej (λu=>aX N.w u x->_) (λr1=>r1.inv (λx=>aX N.w (kB j) x->wpAny X.M P.A (dictSet P.s.heap.objs.size x y) (λZ dX=>Q (.ref P.s.heap.objs.size) dX) P.Ex N.s) (λka Z Z Z Z Z Z r1=>N.R.at q.1 λa ha hc=>hc.inv _ λo en kvs x0 x1 x2 x3 x4 q' z m=>by
  rw[show N.φ[P.H.length]?=some a from ha] at EV
  cases EV
  cases q'
  refine wpAny_dictSet_heap (knd:=lj) (k:=pK j) (xs:=[]) (by refine(?_:P.A.units<cLine);have:=P.rm.units;exact Nat.lt_of_succ_lt (Pt.u1 _)) (uF r1) ⟨o,en,0,x0,x1,x2,x3,(λq hq=>nomatch hq),x4⟩ (λh3 hm hs=>hm.elim λo3 w3=>w3.elim λen w3=>w3.elim λep w3=>?_) (zero_le _)
  have K:=N.pt.sO ha hs.extBut
  exact kn _ _ (q.2 ep) (N.then (N.pt.set ha hs.extBut (.cD w3.1 w3.2.1 w3.2.2.1 w3.2.2.2.1 w3.2.2.2.2.2 (.cons ⟨rfl,r1.kp K,r2.kp K⟩ .nil) z (show(1:Nat)<=16000000 by decide)) _)) _ (.ref ha)) r1) r1)
end
section
variable{σ:Lv}{Q:Value->Shared->Prop}{P:Pt}{post:PQ}{H:Hp}
theorem EW{p:Ws}:∀{vs:List V} {xs:List Value},vs.length=xs.length->(∀(j:Nat) v x,vs[j]?=some v->xs[j]?=some x->aX p v x)->br p vs xs
 |[],[],_,_=>.nil
 |[],_::_,h,_=>nomatch h
 |_::_,[],h,_=>nomatch h
 |v::vs,x::xs,h,k=>.cons (k 0 v x rfl rfl) (EW (Nat.succ.inj h) λj v x h1 h2=>k (j+1) v x h1 h2)
theorem MM{p:Ws}{es:List (Int×V)}{kvs:List (Int×Value)}{acc:Array Value}(q:L2 (k9 p) es kvs)(h:ItemsOf (Ab kvs) acc kvs.length):br p (es.map λp=>.int p.1) acc.toList:=
 EW (by rw[length_map,q.length,length_toList];exact h.1.symm) λj v x h1 h2=>by
  rw[getElem?_map] at h1
  refine fG (λv=>aX p v x) h1 λe he=>?_
  exact(h.2 j x (by rw[<-getElem?_toList];exact h2)).elim λk w=>w.elim λy w=>by
   obtain⟨t,rfl⟩:=Value.isInt_shape w.2
   rw[(q.get he w.1).1]
   exact .int _ _
theorem mm(hh:P.A.handled=none){v:V}{x:Value}{us:List V}(G:Good X)(r:aX P.w v x)(e:copyOf P.H v=some us)(k:Kn P post Q)(p:qC us P.H post):wpAny X.M P.A (call (.type "list") [x]) Q P.Ex P.s:=by
 refine fE.k p λhz p=>?_
 have hz:=le_of_lt (of_decide_eq_true hz)
 have seq:∀{a xs T o c},T="list"\/T="tuple"->P.s.heap.get? a=some o->o.cls=.type T->o.data=.seq (List.toArray xs) c->br P.w us xs->wpAny X.M P.A (call (.type "list") [.ref a]) Q P.Ex P.s:=λt1 t2 t3 t4 r=>
  call_list_seq _ t1 t2 t3 t4 (λh2 c' w1 w2=>k.list w1 _ (xA P) w2 r hz p P.s.toks) (by rw[size_toArray,<-r.length];unfold sizeLine;exact le_trans hz (by decide))
 unfold copyOf at e
 cases ed:jN P.H v with
 |some es=>
  rw[ed] at e;cases e
  exact sR r G ed (λx=>wpAny X.M P.A (call (.type "list") [x]) Q P.Ex P.s) λl ep a kvs ev hl ha hD q hs hn=>hD.dictAt.elim λepc MN=>
   MF hh hs MN (by rw[<-q.length];unfold sizeLine;exact le_trans hn (by decide)) λh2 i6 acc c' w1 w2 w3=>k.list (xs:=acc.toList) w1 _ (xA P) (by rw[w2]) (MM q w3) hz p i6
 |none=>
  rw[ed] at e
  cases et:oW v with
  |some vs=>rw[et] at e;cases e;exact oW.k et (λv=>aX P.w v x->_) (λr=>r.inv (λx=>wpAny X.M P.A (call (.type "list") [x]) Q P.Ex P.s) λa m xs h1 h2 Z Z=>seq (.inr rfl) h1 rfl rfl h2) r
  |none=>rw[et] at e;exact bJ r e (λx=>wpAny X.M P.A (call (.type "list") [x]) Q P.Ex P.s) λZ a xs m Z Z Z h1 h2 Z=>seq (.inl rfl) h1 rfl rfl h2
theorem MO(hh:σ.f.hd=false){a:E}{g e:Expr}{pos:Pos}(G:Good X)(hg:dJ σ.f "list" g=true)(h:dY σ [a] [e]):b9 σ (.listOf a) (.Call g [e] [] pos):=λP post Q p k=>
 s8 (post:=λvs H=>w1 vs λx=>aJ (copyOf H x) λvs=>qC vs H post) G hg (g8 5 (by decide)) ⟨_,rfl⟩ h p (λvs H1 p1 Z N xs r=>w1.k p1 (λvs=>br N.w vs xs->_) (λv p1 r=>r.k1 (λxs=>wpAny X.M P.A (call (.type "list") xs) Q P.Ex N.s) λx r=>aJ.k p1 λus e p1=>mm (P:=N.pt) (P.calm hh) G r e (k.nx N) p1) r)
end
theorem Ae{α:Type}:∀{ps:List Str} {xs:List α} {i:Nat} {x:Str} {v:α},ps.Nodup->ps[i]?=some x->xs[i]?=some v->(ps.zip xs).lookup x=some v
 |[],_,i,x,v,_,h,_=>bH getElem?_nil h
 |p::ps,[],i,x,v,_,_,h=>bH getElem?_nil h
 |p::ps,y::xs,0,x,v,_,h1,h2=>by rw[List.zip_cons_cons,<-Option.some.inj h1,List.lookup_cons_self];exact h2
 |p::ps,y::xs,i+1,x,v,hn,h1,h2=>by
  have hn:=nodup_cons.mp hn
  rw[List.zip_cons_cons,lookup_cons,show(x==p)=false from beq_eq_false_iff_ne.mpr λe=>hn.1 (e▸mem_of_getElem? h1)]
  exact Ae (i:=i) hn.2 h1 h2
theorem EX{α:Type}:∀{ps:List Str} {xs:List α} {f:Str->Option α},ps.length=xs.length->(∀(i:Nat) (x:Str) (v:α),ps[i]?=some x->xs[i]?=some v->f x=some v)->ps.filterMap (λn=>(f n).map (n,·))=ps.zip xs
 |[],[],_,_,_=>rfl
 |[],_::_,_,h,_=>nomatch h
 |_::_,[],_,h,_=>nomatch h
 |p::ps,x::xs,f,h,hf=>by
  rw[List.filterMap_cons,hf 0 p x rfl rfl]
  exact congrArg ((p,x)::·) (EX (Nat.succ.inj h) λi y v h1 h2=>hf (i+1) y v h1 h2)
theorem MP{α:Type}{ps:List Str}{xs:List α}(hn:ps.Nodup)(hl:ps.length=xs.length):((ps.filter λn=>((ps.zip xs).lookup n).isNone).isEmpty)=true:=by
 rw[isEmpty_iff,List.filter_eq_nil_iff]
 intro x hx h
 obtain⟨i,hi,rfl⟩:=List.getElem_of_mem hx
 rw[Ae hn (getElem?_eq_getElem hi) (getElem?_eq_getElem (hl▸hi))] at h
 cases h
noncomputable abbrev xB(ar:List Arg):Arguments:=⟨[],ar,none,[],[],none,[]⟩
theorem MQ{a:Arguments}{ps:List Str}(h:zw a ps=true)(G:Arguments->Prop)(k:∀ar:List Arg,ar.map (·.arg)=ps->G (xB ar)):G a:=
 have key:∀po ar va ko kd kw df,(po.isEmpty&&(va.isNone&&(ko.isEmpty&&(kd.isEmpty&&(kw.isNone&&(df.isEmpty&&decide (ar.map Arg.arg=ps)))))))=true->G ⟨po,ar,va,ko,kd,kw,df⟩:=λpo ar va ko kd kw df h=>
  aU h λh1 h=>aU h λh2 h=>aU h λh3 h=>aU h λh4 h=>aU h λh5 h=>aU h λh6 h=>dW (G:=λpo=>G ⟨po,ar,va,ko,kd,kw,df⟩) h1 (ut (G:=λva=>G ⟨[],ar,va,ko,kd,kw,df⟩) h2 (dW (G:=λko=>G ⟨[],ar,none,ko,kd,kw,df⟩) h3 (dW (G:=λkd=>G ⟨[],ar,none,[],kd,kw,df⟩) h4 (ut (G:=λkw=>G ⟨[],ar,none,[],[],kw,df⟩) h5 (dW (G:=λdf=>G ⟨[],ar,none,[],[],none,df⟩) h6 (k ar (of_decide_eq_true h)))))))
 by cases a;exact key _ _ _ _ _ _ _ h
theorem MR{fd:FuncData}{ar:List Arg}{xs:List Value}(hd:fd.defaults=.none)(hp:fd.params=xB ar)(hn:(ar.map (·.arg)).Nodup)(hl:(ar.map (·.arg)).length=xs.length):bindArgs fd ⟨xs,[]⟩=pure ((ar.map (·.arg)).zip xs):=by
 obtain⟨a1,a2,a3,a4,a5,a6,a7,a8,a9,gn,VQ,VR,VS,VT,VU⟩:=fd
 cases hd;cases hp
 have hD:(([]:List Value).drop (0 - (ar.map Arg.arg).length))=[]:=drop_nil
 generalize MS:(([]:List Value).drop (0 - (ar.map Arg.arg).length))=D at hD
 change (if(decide (xs.length>(ar.map Arg.arg).length)&&true)=true then _ else(if(!((((ar.map Arg.arg).take ((ar.map Arg.arg).length - (([]:List Value).drop (0 - (ar.map Arg.arg).length)).length)).filter λn=>(((ar.map Arg.arg).zip xs).lookup n).isNone).isEmpty))=true then _ else(forIn (((ar.map Arg.arg).drop ((ar.map Arg.arg).length - (([]:List Value).drop (0 - (ar.map Arg.arg).length)).length)).zip (([]:List Value).drop (0 - (ar.map Arg.arg).length))) ((ar.map Arg.arg).zip xs) _ >>= _:Sem _)))=_
 rw[if_neg (λe=>absurd (of_decide_eq_true (and_eq_true_iff.mp e).1) (by rw[hl];exact Nat.lt_irrefl _)),MS,hD,List.zip_nil_right,List.forIn_nil]
 rw[show(ar.map Arg.arg).length - ([]:List Value).length=(ar.map Arg.arg).length from rfl,List.take_length,if_neg (by rw[MP hn hl];exact Bool.false_ne_true)]
 exact congrArg (pure (f:=Sem)) ((congrArg (List.filterMap _) (append_nil _)).trans (EX hl λi x v h1 h2=>Ae hn h1 h2))
theorem xC{T:Prop}(G:Good X)(k:∀{nm q bs sn sub col dd k0 k1 k2 k3 k5},X.dm.get? X.bk=some (excClassObj nm q X.bk X.bN bs [.type "object"] true sn sub false col dd k0 k1 k2 k3 k5 "object.__new__")->T):T:=by
 obtain⟨nm,q,bs,sn,sub,col,dd,k0,k1,k2,k3,k5,hC⟩:=G.bc.obj
 exact k hC
theorem EY:∀x,x∈gK.bX->typeLookup (.type "object") x=pure none:=by
 intro x hx
 refine(?_:typeLookup (.type "object") x=pure none)
 rcases mem_cons.mp hx with rfl|hx
 ·rw[typeLookup_type,builtinLookup_eq_fast];kernel_rfl
 rcases mem_cons.mp hx with rfl|hx
 ·rw[typeLookup_type,builtinLookup_eq_fast];kernel_rfl
 rcases mem_cons.mp hx with rfl|hx
 ·rw[typeLookup_type,builtinLookup_eq_fast];kernel_rfl
 rcases mem_cons.mp hx with rfl|hx
 ·rw[typeLookup_type,builtinLookup_eq_fast];kernel_rfl
 rw[mem_singleton.mp hx,typeLookup_type,builtinLookup_eq_fast];kernel_rfl
section
variable{P:Pt}{v:V}{x:Value}{t:Nat}{fs:aP}
theorem book(r:aX P.w v x)(e:cx P.H v=some t)(ef:ph P.H t=some fs)(T:Value->Prop)(k:∀l a d m o,v=.ref l->P.φ[l]?=some a->P.φ[t]?=some d->P.H[t]?=some (.bX fs)->P.s.heap.get? a=some o->o.dict=some d->a≠d->P.s.heap.Inst a X.bk m->P.s.heap.Ns1 d m->sM P.w fs m->T (.ref a)):T x:=
 cellAt.k e (λu=>v=u->T x) (λl c hl hc=>oS.k (λc=>P.H[l]?=some c->v=.ref l->T x) hc (λhl ev=>P.cell (ev▸r) hl T λa ha h=>h.inv _ λo d e1 e2 e3 e4 e5=>fZ ef λc2 MT ef=>oU.k (λc2=>P.H[t]?=some c2->T (.ref a)) ef (λht=>P.R.at ht λb hb MU=>MU.inv _ λm n1 n2=>by
  rw[show P.φ[t]?=some d from e5] at hb;cases hb
  have cT:a≠d:=λe'=>by
   have:l=t:=zE P.R.nodup ha (e'▸e5)
   subst this
   rw[hl] at ht;cases ht
  exact k l a d m o ev ha e5 ht e1 e4 cT ⟨o,e1,e2,e3,.inr ⟨d,e4,cT.symm,n1⟩⟩ n1 n2) MT) hl) rfl
theorem handed{p:Ws}{v:V}{x:Value}(r:aX p v x):handedOut x=pure x:=r.inv (λx=>handedOut x=pure x) (by cases v<;>first|rfl|exact λZ=>rfl|exact λZ Z=>rfl|exact λZ Z Z Z Z Z Z=>rfl)
theorem EZ{i:Nat}{y:Str}(h:gK.bX[i]?=some y):y∈gK.bX/\gK.bX.idxOf y=i:=by
 have hm:=mem_of_getElem? h
 have nd:gK.bX.Nodup:=by decide
 exact⟨hm,zE nd (List.getElem?_eq_some_iff.mpr ⟨List.idxOf_lt_length_of_mem hm,List.getElem_idxOf _⟩) h⟩
end
section
variable{σ:Lv}{a:E}{o:Expr}{i:Nat}{y:Str}{pos:Pos}
theorem MV(G:Good X)(hi:gK.bX[i]?=some y)(ho:ue o=true)(ha:b9 σ a o):b9 σ (.attr a i) (.Attribute o y pos):=λP post Q p k=>
 Expr.Name.elim (motive_1:=λo=>b9 σ a o->wpAny X.M P.A (eval (.Attribute o y pos) P.env) Q P.Ex P.s) o (of_decide_eq_true ho) (λn np ha=>Attribute_name (ha P _ _ p λv H1 p1 N x r=>aJ.k p1 λt et p1=>aJ.k p1 λfs ef p1=>aJ.k p1 λu eu p1=>
  book (P:=N.pt) r et ef (λx=>wpAny X.M P.A (getAttr x y true) Q P.Ex N.s) λl b d m ob Z Z Z Z Z Z Z I Z fr=>by
   have hy:=EZ hi
   refine xC G λhC=>?_
   refine(fr.at' y hy.1).inv (v:=u) (by unfold lk;rw[hy.2];exact eu) (λz=>m y=z->_) (λz rz ez=>?_) rfl
   exact load_attr (N.R.keep _ _ hC) (G.bc.ns.keeps N.R.keep) (G.bq _ (by decide)) (G.bq _ (mem_append.mpr (.inr hy.1))) (EY y hy.1) I ez (handed rz) (k _ _ p1 (N.then (N.pt.fQ (N.tk+1))) _ rz))) ha
theorem MW(x:Str):∃r,typeLookup (.type "object") x=pure r:=by
 rw[typeLookup_type]
 unfold builtinLookup
 rw[show builtinMro "object"=some [.type "object"] by rw[builtinMro_eq_fast];kernel_rfl]
 exact⟨_,rfl⟩
theorem MX{o o':Obj}(h1:o'.cls=o.cls)(h2:o'.data=o.data)(h3:o'.slots=o.slots)(h4:o'.dict=o.dict):o'=o:=by
 obtain⟨a,b,c,d⟩:=o
 obtain⟨a',b',c',d'⟩:=o'
 cases h1;cases h2;cases h3;cases h4;rfl
theorem MY{P:Pt}{v u:V}{x z:Value}{t:Nat}{fs:aP}{Q:Unit->Shared->Prop}(G:Good X)(hi:gK.bX[i]?=some y)(r:aX P.w v x)(ru:aX P.w u z)(e:cx P.H v=some t)(ef:ph P.H t=some fs)(k:∀N:Nx P (P.H.set t (.bX (fs.set i (some u)))),Q () N.s):wpAny X.M P.A (setAttr x y z) Q P.Ex P.s:=
 book r e ef (λx=>wpAny X.M P.A (setAttr x y z) Q P.Ex P.s) λl b d m ob Z hb hd ht eb ed cT I n1 fr=>by
  have hy:=EZ hi
  refine xC G λhC=>?_
  refine store_attr PySem.F.store_object (P.R.keep _ _ hC) (G.bc.ns.keeps P.R.keep) (G.bq _ (by decide)) (G.bq _ (mem_append.mpr (.inr hy.1))) (EY y hy.1) (λe'=>bH (P.R.fresh _ (mem_of_getElem? hb)) (e'▸hC)) I (λh' mQ I' hk hs=>?_) (ns:=gK.bX) (λz hz=>byContradiction λhn=>hz (fr.out z hn)) (by decide)
  refine(hs ob eb).elim λo1 x1=>?_
  have eo:o1=ob:=MX x1.2.1 x1.2.2.1 x1.2.2.2.1 ((x1.2.2.2.2 d ed).trans ed.symm)
  subst eo
  have he:ExtBut d P.s.heap h':=λc oc hc ec=>(Classical.em (c=b)).elim (λe'=>by subst e';rw[show P.s.heap.get? c=some o1 from eb] at ec;cases ec;exact x1.1) λhn=>hk c oc hn (λo0 dx e1 e2=>by rw[eb] at e1;cases e1;rw[ed] at e2;cases e2;exact hc) ec
  have n2:h'.Ns1 d (λw=>if w=y then some z else m w):=by
   obtain⟨o2,f1,_,_,f2⟩:=I'
   rw[x1.1] at f1;cases f1
   rcases f2 with⟨f2,_⟩|⟨d',f2,_,f3⟩
   ·rw[ed] at f2;cases f2
   ·rw[ed] at f2;cases f2;exact f3
  have K:=P.sO hd he
  have sV:i<fs.length:=by rw[fr.len];exact(List.getElem?_eq_some_iff.mp hi).1
  exact k (P.set hd he (.bX n2 ⟨by rw[length_set];exact fr.len,λw hw=>by
   rw[D1 hy.1 hw hy.2 sV]
   by_cases e':w=y
   ·rw[if_pos e',if_pos e'];exact .some (ru.kp K)
   ·rw[if_neg e',if_neg e'];exact(fr.at' w hw).kp K,λw hw=>(if_neg λe':w=y=>hw (e'▸hy.1)).trans (fr.out w hw)⟩) mQ)
theorem MZ{e:E}{x:Expr}{sp:Pos}(G:Good X)(hi:gK.bX[i]?=some y)(hn:mF x=true)(ha:b9 σ a o)(he:b9 σ e x):SS σ (.setAttr a i e) (.Assign [.Attribute o y sp] x pos):=λP K Q ho p k=>
 plainObj_wpAny_Assign_Attribute (qI he ha P p λu v H1 p1 N z w r1 r2=>aJ.k p1 λt et p1=>aJ.k p1 λfs ef p1=>MY (P:=N.pt) G hi r2 r1 et ef λN2=>k.next _ _ p1 (N.then N2).sx) (uO hn _)
theorem M0{P:Fp σ}{ap:Pos}{cs:List E}{es:List Expr}{Q:Value->Shared->Prop}(ho:qz o=true)(hl:es.length<20)(uY:(ap.endLine==pos.line)=true)(h:dY σ cs es)
  (hk:wpAny X.M P.A (eval o P.env) (λov bT=>wpAny X.M P.A (getMethod ov y (do return (<-importBound o P.env).getD true)) (λq dX=>wpAny X.M P.A (callWith pos q.1 q.2 (backTo pos (starEach es P.env)) []) Q P.Ex dX) P.Ex bT) P.Ex P.s) :
  wpAny X.M P.A (eval (.Call (.Attribute o y ap) es [] pos) P.env) Q P.Ex P.s:=by
 rw[arm_eval_Call,EL ho]
 refine wpAny_bind (wpAny_mono hk (λov bT fk=>wpAny_bind (wpAny_standAt ?_)) λZ Z e=>e)
 have M1:methodCallForm (es.length+([]:List Keyword).length) (backTo pos (starEach es P.env)) (backToKw pos (keywordEach [] P.env))=true:=EM h hl P.env
 have M2:methodCallPos true o P.env ap pos=pure pos:=by unfold methodCallPos;rw[uY];rfl
 unfold methodCall
 rw[M1]
 exact wpAny_bind (wpAny_holding (wpAny_mono fk (λq dX ip=>wpAny_bind (wpAny_of_eq M2 ip)) λZ Z e=>e))
theorem M3{f:Nat}{cs:List E}{es:List Expr}{ap:Pos}(G:Good X)(hc:sQ σ.m)(hn:2*σ.m+1<=σ.n)(hh:σ.f.hd=false)(h1:gK.kX[f]?=some (true,y))(hy:y∉gK.bX)(ho:qz o=true)(uY:(ap.endLine==pos.line)=true)(hl:es.length<20)(ha:b9 σ a o)(h:dY σ cs es):b9 σ (.dG f a cs) (.Call (.Attribute o y ap) es [] pos):=λP post Q p k=>
 (G.fn f _ h1).casesOn λfa fo d pm cd doc e1 e3 e4 ec e5 Z=>M0 ho hl uY h (ha P _ _ p λv H1 p1 N x r=>aJ.k p1 λt et p1=>aJ.k p1 λfs ef p1=>
  book (P:=N.pt) r et ef (λx=>wpAny X.M P.A (getMethod x y _) _ P.Ex N.s) λl b d m ob ev hb Z Z Z Z Z I Z fr=>by
   refine xC G λhC=>?_
   refine(MW y).elim λr0 hB=>method_of (N.R.keep _ _ hC) (G.bc.ns.keeps N.R.keep) (G.bq _ (by decide)) (G.bq _ (by decide)) e3 (N.R.keep _ _ e4) (ec rfl) hB I (fr.out y hy) ?_
   exact Calls.callWith_function (o:=fo) (nU (h.plain P.env pos) (h.mP (P.to N) _ _ pos p1 λus H2 p2 Z N2 zs r2=>⟨⟨(N.then N2).R.keep _ _ e4,e5⟩,hc (N.then N2).pt f _ fa (v::us) (.ref b::zs) post σ.x Q (P.rn.less (le_of_succ_le hn)) (λZ=>P.calm hh) h1 e3 (.cons (ev▸.ref ((N2.S.pre _ _ hb))) r2) p2 (k.nx (N.then N2)) (P.kn.nx (N.then N2))⟩)))
theorem jR.under{A:Around}{n:Nat}{C:Addr}(rm:jR A (n+1)):jR (A.under (.builtin "type.__call__" ⟨[.ref C],[]⟩)) n:=
 ⟨by have:=rm.depth;refine(?_:A.depth+1+n+110<=_);lia,by have:=rm.units;refine(?_:A.units+1+5*n+200<=_);lia,rm.frames.elim λfe h=>h.elim λou h=>⟨fe,ou,by refine(?_:pushEnvs [] A.frames=_);rw[h.1];rfl,h.2⟩⟩
theorem M4{f:Nat}{g:Expr}(G:Good X)(hc:sQ σ.m)(hn:2*σ.m+1<=σ.n)(hh:σ.f.hd=false)(h1:gK.kX[f]?=some (true,Str.ofString "__init__"))(hg:dJ σ.f gK.cls g=true):b9 σ (.new f) (.Call g [] [] pos):=λP post Q p k=>
 eR.k (G:=λg=>wpAny X.M P.A (eval (.Call g [] [] pos) P.env) Q P.Ex P.s) hg λx np hg=>aU hg λe1 ho=>(G.fn f _ h1).casesOn λfa fo d pm cd doc Z e3 e4 ec e5 Z=>by
  obtain rfl:=eq_of_beq e1
  refine wpAny_Call_NameR (sU G P G.bk ho (callWith_cls0 G.bc P.R.keep ?_))
  refine xC G λhC=>?_
  refine wpAny_call_obj_init PySem.F.objNew (P.R.keep _ _ hC) (G.bc.ns.keeps P.R.keep) e3 (P.R.keep _ _ e4) (ec rfl) λh' b dx M=>?_
  obtain⟨ob,i1,i2,i3,i4⟩:=M.inst
  have hd:=M.dict ob i1
  rcases i4 with⟨i4,_⟩|⟨d',i4,cT,n1⟩
  ·rw[hd] at i4;cases i4
  rw[hd] at i4;cases i4
  have S1:bL gm P.w ⟨P.φ,h'⟩:=bL.ext (q:=P.w) .refl M.keeps
  have R1:SR ⟨P.φ,h'⟩ P.H:=SR.ext (p:=P.w) P.R M.keeps
  have a1:=P.R.new (p:=P.w) M.newD
  have a2:=P.R.new (p:=P.w) M.newX
  have R2:SR ⟨P.φ++[dx],h'⟩ (P.H++[.bX (replicate gK.bX.length none)]):=SR.adopt (p:=⟨P.φ,h'⟩) R1 a1 (λo e=>n1.elim λo' w=>w.elim λZ w=>w.elim λZ w=>by rw[show h'.get? dx=some o' from w.1] at e;cases e;exact uD w.2.1) (.bX n1 ⟨List.length_replicate,λx hx=>by rw[z4];exact .none,λZ Z=>rfl⟩)
  have e1:(P.φ++[dx])[P.H.length]?=some dx:=by rw[<-P.R.len,getElem?_append_right (le_refl _),sub_self];rfl
  have R3:=SR.adopt (p:=⟨P.φ++[dx],h'⟩) (a:=b) (c:=.obj P.H.length) R2 ⟨λhm=>(mem_append.mp hm).elim a2.1 λh=>cT (mem_singleton.mp h).symm,a2.2⟩ (λo e=>by rw[show h'.get? b=some ob from i1] at e;cases e;exact mK i2 rfl) (.obj i1 i2 i3 hd e1)
  have S3:bL gm P.w ⟨P.φ++[dx]++[b],h'⟩:=bL.adopt (q:=⟨P.φ++[dx],h'⟩) (bL.adopt (q:=⟨P.φ,h'⟩) S1 M.newD) M.newX
  have dg:(P.H++[aZ.bX (replicate gK.bX.length none)]).length=P.H.length+1:=by rw[length_append];rfl
  have rb:aX ⟨P.φ++[dx]++[b],h'⟩ (.ref (P.H.length+1)) (.ref b):=dg▸xl R2
  refine hc ⟨P.A.under (.builtin "type.__call__" ⟨[.ref X.bk],[]⟩),P.φ++[dx]++[b],_,upd P.s h' P.s.toks,P.Ex,jR.under ((P.rn.less hn).less (by lia)),R3,λe he=>P.fr.i5 S3 e (by
    obtain⟨fe,ou,hA,_⟩:=P.rm.frames
    unfold iF at he ⊢
    rw[show(P.A.under (.builtin "type.__call__" ⟨[.ref X.bk],[]⟩)).frames=pushEnvs [] P.A.frames from rfl,hA] at he
    rw[hA];exact he)⟩ f _ fa [.ref (P.H.length+1)] [.ref b] _ _ _ (jR.under (P.rn.less hn)) (λZ=>P.calm hh) h1 e3 (.one rb) p (λv H1 p1 N x r=>?_) λZ Z h=>h.elim
  obtain⟨rfl,p1⟩:=p1
  exact r.inv (λx=>x=.none/\Q (.ref b) N.s) ⟨rfl,k _ _ p1 ⟨N.φ,N.h,N.tk,N.R,S3.trans N.S⟩ _ (rb.mono N.S)⟩
end
section
variable{σ:Lv}{k:Nat}{x w:Str}
theorem M5{np cp ap pos:Pos}{kk:Nat}(G:Good X)(hh:σ.f.hd=false)(hx:gK.oH[k]?=some x)(ho:lZ σ.f x=true):SS σ (.raise k w) (.Raise (some (.Call (.Name x np) [.Constant (.str w) kk ap] [] cp)) none pos):=λP K Q Z p Z=>by
 refine(G.ex k x hx).casesOn λCa bm newId initId B O FB hC Z Z Z=>?_
 obtain⟨tl,N,nm,q,bs,hdct,sn,sub,ab,col,dd,k0,k1,k2,k3,k5,mN,gC,gN,Af,T⟩:=O.obj
 refine wpAny_Raise_call_subT (C:=Ca) (nm:=nm) (q:=q) (N:=N) (bs:=bs) (bm:=tl) (hdct:=hdct) (sn:=sn) (sub:=sub) (ab:=ab) (col:=col) (dd:=dd) (k0:=k0) (k1:=k1) (k2:=k2) (k3:=k3) (k5:=k5) FB (mN:=mN) (T.hasType FB.hasBase) (P.calm hh) rfl Af (sU G P O.bound ho ⟨rfl,nU rfl (wpAny_items_cons (wpAny_Constant_str (wpAny_items_nil ⟨rfl,show(1:Nat)<=sizeLine by decide,P.R.keep _ _ gC,gN.keeps P.R.keep,T.keeps P.R.keep,λh' e hm=>?_⟩)) rfl)⟩)
 obtain⟨t,he,_,_⟩:=hm.there
 have R1:SR ⟨P.φ,h'⟩ P.H:=SR.ext (p:=P.w) P.R hm.keeps
 exact P.kn _ _ p ⟨P.φ++[e],h',P.s.toks+1,SR.adopt (p:=⟨P.φ,h'⟩) R1 (P.R.new (p:=P.w) hm.new) (λo x=>by rw[he] at x;cases x;exact mK rfl rfl) (.exc he hC rfl rfl (.inl rfl)),bL.adopt (q:=⟨P.φ,h'⟩) (bL.ext (q:=P.w) .refl hm.keeps) hm.new⟩ _ (xl R1)
theorem M6{P:Pt}{v:V}{y:Value}{j:Nat}(r:aX P.w v y)(e:excAt P.H v=some j)(T:Value->Prop)(kk:∀l a o C,P.H[l]?=some (.exc j)->P.φ[l]?=some a->v=.ref l->P.s.heap.get? a=some o->o.cls=.ref C->X.exc[j]?=some C->T (.ref a)):T y:=
 cellAt.k e (λu=>v=u->T y) (λl c hl hc=>mH.k (λc=>P.H[l]?=some c->v=.ref l->T y) hc (λhl ev=>P.cell (ev▸r) hl T λa ha h=>h.inv _ λo C vs e1 e2 e3 Z Z=>kk l a o C hl ha ev e1 e3 e2) hl) rfl
theorem Ag{T:Prop}{C:Addr}{j:Nat}(G:Good X)(e:X.exc[j]?=some C)(kk:∀{nm q N bs bm hdct sn sub ab col dd k0 k1 k2 k3 k5 newId},X.dm.get? C=some (excClassObj nm q C N bs bm hdct sn sub ab col dd k0 k1 k2 k3 k5 newId)->bm.contains (.type "BaseException")=true->bm.contains (.type "ValueError")=true->(∀k D,X.exc[k]?=some D->(Value.ref C::bm).contains (.ref D)=gE j k)->T):T:=by
 have hj:j<gK.oH.length:=G.DC▸(List.getElem?_eq_some_iff.mp e).1
 refine(G.ex j _ (getElem?_eq_getElem hj)).casesOn λC' bm newId initId B O FB hC hv hm Z=>?_
 rw[e] at hC;cases hC
 obtain⟨tl,N,nm,q,bs,hdct,sn,sub,ab,col,dd,k0,k1,k2,k3,k5,mN,gC,gN,Af,T'⟩:=O.obj
 exact kk gC (T'.hasType FB.hasBase) (T'.hasType hv.1) λk D hD=>hm _ _ gC rfl k D hD
end
section
variable{A:Around}{Ex:Value->Shared->Prop}{h:Heap}{g:Array GenState}{d:Drawn}{t:Nat}{os:OsState}{a C D:Addr}{o:Obj}{nm q:Str}{N:Addr}{bs bm:List Value}{hdct:Bool}{sn:List Str}{sub:List Value}{ab:Bool}{col:Option Bool}{dd:Option Addr}{k0 k1 k2 k3 k5:Option Value}{newId:String}
noncomputable abbrev mn(h:Heap)(C:Addr)(n:Str)(y:Option Value):Prop:=∀{A:Around} {Ex:Value->Shared->Prop} {g:Array GenState} {d:Drawn} {t:Nat} {os:OsState} {Q:Option Value->Shared->Prop},Q y ⟨h,g,d,t,os⟩->wpAny X.M A (typeLookup (.ref C) n) Q Ex ⟨h,g,d,t,os⟩
theorem M7{R:Result->Shared->Prop}(hC:h.get? C=some (excClassObj nm q C N bs bm hdct sn sub ab col dd k0 k1 k2 k3 k5 newId))(hO:bm.contains (.type "object")=true)(hx:h.get? a=some o)(hc:o.cls=.ref C)(hq:R (.ok (.ret (.ref C))) ⟨h,g,d,t,os⟩):
  codeAny X.M A (.call (.builtin "getset_descriptor.__get__") ⟨[.builtin "object.__class__",.ref a,.ref C],[]⟩) R ⟨h,g,d,t,os⟩:=by
 have E0:(⟨h,g,d,t,os⟩:Shared).TypeIs (.builtin "object.__class__") "getset_descriptor":=PySem.F.typeOf_object_class
 have qZ:(Value.ref C::bm).contains (.type (".".intercalate ("object.__class__".cutAt '.').dropLast))=true:=by rw[PySem.F.owner_object_class,contains_cons,hO];rfl
 refine codeAny_call_builtin PySem.F.slot_gs_get.plain PySem.F.entry_gs_get (PySem.F.slot_gs_get.check _ _ _ _ _ _ _ _ E0 (PySem.F.args_gs_get _ _ _) ?_)
 repeat (any_goals (first|assumption|(with_reducible refine wpAny_loadPart_at hx ?_;rw[hc])|(with_reducible refine wpAny_isSubtype_exc hC ?_;rw[qZ])|wp_step))
 refine⟨Code.quiet_builtin _ (by decide +kernel),codeAny_builtin PySem.F.entry_object_class ?_⟩
 repeat (any_goals (first|assumption|(with_reducible refine wpAny_loadPart_at hx ?_;rw[hc])|wp_step))
theorem M8{tk:Tok}{Q:PySem.Fin->Shared->Prop}(hC:h.get? C=some (excClassObj nm q C N bs bm hdct sn sub ab col dd k0 k1 k2 k3 k5 newId))(hO:bm.contains (.type "object")=true)(l3:mn h C "__class__" (some (.builtin "object.__class__")))(hx:h.get? a=some o)(hc:o.cls=.ref C)(hq:Q (.done (.ret (.ref C))) ⟨h,g,d,t,os⟩):
  wpAny X.M A (Builtin.«object.__getattribute__» ⟨[.ref a,.str "__class__" tk],[]⟩) Q Ex ⟨h,g,d,t,os⟩:=by
 have E0:(⟨h,g,d,t,os⟩:Shared).TypeIs (.builtin "object.__class__") "getset_descriptor":=PySem.F.typeOf_object_class
 have f5:=PySem.F.typeOf_object_class
 have f6:=PySem.F.slot_gs_get.lookup
 have f7:=PySem.F.slot_gs_set.lookup
 repeat (any_goals (first|assumption|(with_reducible refine wpAny_loadPart_at hx ?_;rw[hc])|with_reducible refine l3 ?_|wp_step))
 refine M7 hC hO hx hc ?_
 repeat (any_goals (first|assumption|wp_step))
theorem M9{nameV:Value}{Q:Unit->Shared->Prop}(hC:h.get? C=some (excClassObj nm q C N bs bm hdct sn sub ab col dd k0 k1 k2 k3 k5 newId))(hB:bm.contains (.type "BaseException")=true)(hx:h.get? a=some o)(hc:o.cls=.ref C)(hq:Q () ⟨h,g,d,t,os⟩):wpAny X.M A (checkBuiltinCall "BaseException.__getattribute__" ⟨[.ref a,nameV],[]⟩) Q Ex ⟨h,g,d,t,os⟩:=by
 have hk:builtinKind "BaseException.__getattribute__"=some .slot:=by decide +kernel
 have Na:splitId "BaseException.__getattribute__"=some ("BaseException","__getattribute__"):=by decide +kernel
 have qZ:(Value.ref C::bm).contains (.type "BaseException")=true:=by rw[contains_cons,hB];rfl
 have ha:=PySem.F.args_bexc_ga (.ref a) nameV
 simp only[checkBuiltinCall,hk,Na]
 refine wpAny_bind ?_
 unfold isInstance
 repeat (first|(with_reducible refine wpAny_loadPart_at hx ?_;rw[hc])|(with_reducible refine wpAny_isSubtype_exc hC ?_;rw[qZ])|wp_step)
 exact hq
theorem Nb{tk:Tok}{fill expr:Bool}{Q:Value->Shared->Prop}(hC:h.get? C=some (excClassObj nm q C N bs bm hdct sn sub ab col dd k0 k1 k2 k3 k5 newId))(hB:bm.contains (.type "BaseException")=true)(hO:bm.contains (.type "object")=true)(l1:mn h C "__getattribute__" (some (.builtin "BaseException.__getattribute__")))(l2:mn h C "__getattr__" none)(l3:mn h C "__class__" (some (.builtin "object.__class__")))(hx:h.get? a=some o)(hc:o.cls=.ref C)(hq:Q (.ref C) ⟨h,g,d,t,os⟩):wpAny X.M A (getAttrBy (.ref a) (.str "__class__" tk) fill expr) Q Ex ⟨h,g,d,t,os⟩:=by
 have ga:=PySem.F.attr_ValueError.ga
 have f3:=ga.bind (.ref a)
 have VV:(expr&&onTheHeap (Value.builtin "BaseException.__getattribute__"))=false:=by cases expr<;>rfl
 have Nc:(Value.builtin "BaseException.__getattribute__"==Value.builtin "object.__getattribute__")=false:=by decide +kernel
 have VW:(onTheHeap (Value.ref C)&&Value.builtin "BaseException.__getattribute__"==Value.builtin "object.__getattribute__")=false:=by rw[Nc];rfl
 repeat (any_goals (first|assumption|(with_reducible refine wpAny_loadPart_at hx ?_;rw[hc])|with_reducible refine l1 ?_|with_reducible refine l2 ?_|wp_step))
 refine codeAny_call_builtin ga.plain PySem.F.entry_bexc_ga (M9 hC hB hx hc (M8 hC hO l3 hx hc ?_))
 repeat (any_goals (first|assumption|wp_step))
theorem Nd{Q:Option Value->Shared->Prop}(hC:h.get? C=some (excClassObj nm q C N bs bm hdct sn sub ab col dd k0 k1 k2 k3 k5 newId))(hB:bm.contains (.type "BaseException")=true)(hO:bm.contains (.type "object")=true)(l1:mn h C "__getattribute__" (some (.builtin "BaseException.__getattribute__")))(l2:mn h C "__getattr__" none)(l3:mn h C "__class__" (some (.builtin "object.__class__")))(hx:h.get? a=some o)(hc:o.cls=.ref C)(hq:Q (some (.ref C)) ⟨h,g,d,t+1,os⟩):wpAny X.M A (getAttr? (.ref a) "__class__") Q Ex ⟨h,g,d,t,os⟩:=by
 unfold getAttr? getAttrBy?
 repeat (any_goals (first|assumption|with_reducible apply Nb hC hB hO l1 l2 l3 hx hc|wp_step))
theorem Nf{dep:Int}{tk:Tok}{b:Bool}{sR:Option Addr}{cd:ClassData}{sl:Array (Option Value)}{Q:PySem.Fin->Shared->Prop}(hC:h.get? C=some (excClassObj nm q C N bs bm hdct sn sub ab col dd k0 k1 k2 k3 k5 newId))(hB:bm.contains (.type "BaseException")=true)(hO:bm.contains (.type "object")=true)(l1:mn h C "__getattribute__" (some (.builtin "BaseException.__getattribute__")))(l2:mn h C "__getattr__" none)(l3:mn h C "__class__" (some (.builtin "object.__class__")))(hx:h.get? a=some o)(hc:o.cls=.ref C)(hD:h.get? D=some {cls:=.type "type",dict:=sR,data:=.cls cd,slots:=sl})(hb:(Value.ref C::bm).contains (.ref D)=b)(hq:∀mQ,Q (.done (.ret (.bool b))) ⟨h,g,d,mQ,os⟩):
  wpAny X.M A (Builtin.«isinstance.nested» ⟨[.ref a,.ref D,.int dep tk],[]⟩) Q Ex ⟨h,g,d,t,os⟩:=by
 cases he:(Value.ref C==Value.ref D) with
 |true=>
  have xD:b=true:=by rw[<-hb,contains_cons,show(Value.ref D==Value.ref C)=true from beq_iff_eq.mpr (beq_iff_eq.mp he).symm,Bool.true_or]
  subst xD
  repeat (any_goals (first|assumption|(with_reducible refine wpAny_loadPart_at hx ?_;rw[hc])|wp_step))
  exact hq _
 |false=>
  cases b with
  |true=>
   repeat (any_goals (first|assumption|(with_reducible refine wpAny_loadPart_at hx ?_;rw[hc])|with_reducible refine wpAny_loadPart_at hD ?_|(with_reducible refine wpAny_isSubtype_exc hC ?_;rw[hb])|wp_step))
   exact hq _
  |false=>
   repeat (any_goals (first|assumption|(with_reducible refine wpAny_loadPart_at hx ?_;rw[hc])|with_reducible refine wpAny_loadPart_at hD ?_|(with_reducible refine wpAny_isSubtype_exc hC ?_;rw[hb])|with_reducible apply Nd hC hB hO l1 l2 l3 hx hc|wp_step))
   exact hq _
theorem Ng{dep:Int}{tk:Tok}{Q:PySem.Fin->Shared->Prop}(hC:h.get? C=some (excClassObj nm q C N bs bm hdct sn sub ab col dd k0 k1 k2 k3 k5 newId))(hV:bm.contains (.type "ValueError")=true)(hx:h.get? a=some o)(hc:o.cls=.ref C)(hq:Q (.done (.ret (.bool true))) ⟨h,g,d,t,os⟩):
  wpAny X.M A (Builtin.«isinstance.nested» ⟨[.ref a,.type "ValueError",.int dep tk],[]⟩) Q Ex ⟨h,g,d,t,os⟩:=by
 have VX:typeOf (.type "ValueError")=pure (.type "type"):=by kernel_rfl
 have qZ:(Value.ref C::bm).contains (.type "ValueError")=true:=by rw[contains_cons,hV];rfl
 repeat (any_goals (first|assumption|(with_reducible refine wpAny_loadPart_at hx ?_;rw[hc])|(with_reducible refine wpAny_isSubtype_exc hC ?_;rw[qZ])|wp_step))
end
section
variable{σ:Lv}{a:E}{e nm g:Expr}{pos:Pos}
inductive xE:Option Nat->Value->Prop
 |own {k:Nat} {D:Addr}:X.exc[k]?=some D->xE (some k) (.ref D)
 |ve:xE none (.type "ValueError")
theorem Nh{P:Pt}{v:V}{y c:Value}{j:Nat}{Q:Value->Shared->Prop}{k:Option Nat}(G:Good X)(hk:xE k c)(r:aX P.w v y)(ej:excAt P.H v=some j)(kq:∀tk,Q (.bool (DH j k)) (upd P.s P.s.heap tk)):wpAny X.M P.A (call (.builtin "isinstance") [y,c]) Q P.Ex P.s:=
 M6 r ej (λy=>wpAny X.M P.A (call (.builtin "isinstance") [y,c]) Q P.Ex P.s) λl a o C hl ha ev e1 e2 e3=>by
  have hj:j<gK.oH.length:=G.DC▸(List.getElem?_eq_some_iff.mp e3).1
  refine(G.ex j _ (getElem?_eq_getElem hj)).casesOn λC' bm newId initId B O FB hC hv hm lk=>?_
  obtain rfl:C=C':=Option.some.inj (e3.symm.trans hC)
  obtain⟨tl,N,nm,q,bs,hdct,sn,sub,ab,col,dd,k0,k1,k2,k3,k5,mN,gC,gN,Af,T'⟩:=O.obj
  have hO:tl.contains (.type "object")=true:=T'.hasType hv.2
  obtain⟨A,φ,H,⟨hp,gs,d,t,os⟩,Ex,rm,R,fr⟩:=P
  have l:∀q,q∈wu->mn hp C q.1 q.2:=λq hq Z Z Z Z Z Z Z z=>lk q hq _ _ _ _ _ _ _ _ R.keep z
  cases hk with
  |own hD=>exact Ag G hD λgD Z Z Z=>call_isinstance_of (Nf (R.keep _ _ gC) (T'.hasType FB.hasBase) hO (l _ (.head _)) (l _ (.tail _ (.head _))) (l _ (.tail _ (.tail _ (.head _)))) e1 e2 (R.keep _ _ gD) (hm _ _ gC rfl _ _ hD) kq) (λh=>by cases h)
  |ve=>exact call_isinstance_of (Ng (R.keep _ _ gC) (T'.hasType hv.1) e1 e2 (kq _)) (λh=>by cases h)
end
section
variable{σ:Lv}{a b c:E}{e nm g t y z:Expr}{pos:Pos}{k:Option Nat}
theorem Ni(hc:sP σ c t)(ha:bR σ a y)(hb:bR σ b z):bR σ (.ba c a b) (.IfExp t y z pos):=
 ⟨λP post Q p k=>IfExp_ (hc P _ _ p λv H1 p1=>p1.m λt p1 N=>by
  cases t
  ·exact hb.1 (P.to N) _ _ p1 (k.nx N)
  ·exact ha.1 (P.to N) _ _ p1 (k.nx N)),λP post Q p k=>isTrue_IfExp (hc P _ _ p λv H1 p1=>p1.m λt p1 N=>by
  cases t
  ·exact hb.2 (P.to N) _ _ p1 (k.nx N)
  ·exact ha.2 (P.to N) _ _ p1 (k.nx N))⟩
theorem E3{T:Expr->Prop}(G:Good X)(hn:qA σ.f k nm=true)(kk:∀y p,(∀(P:Fp σ) (Q:Value->Shared->Prop),(∀c,xE k c->Q c P.s)->wpAny X.M P.A (eval (.Name y p) P.env) Q P.Ex P.s)->T (.Name y p)):T nm:=by
 cases k with
 |none=>
  exact eR.k (G:=T) hn λx np h=>aU h λe1 ho=>kk x np λP Q kq=>by
   obtain rfl:=eq_of_beq e1
   exact pv G P (y:=.type "ValueError") (g8 8 (by decide)) ho (kq _ .ve)
 |some k=>exact eR.k (G:=T) hn λx np h=>aU h λe1 ho=>kk x np λP Q kq=>(G.ex k x (of_decide_eq_true e1)).casesOn λC bm newId initId B O FB hC hv hm lk=>sU G P O.bound ho (kq _ (.own hC))
theorem Nj(G:Good X)(hg:dJ σ.f "isinstance" g=true)(hn:qA σ.f k nm=true)(h0:cg σ.f c e=true)(he:b9 σ c e):b9 σ (.kj k c) (.Call g [e,nm] [] pos):=λP post Q p kq=>
 eR.k (G:=λg=>wpAny X.M P.A (eval (.Call g [e,nm] [] pos) P.env) Q P.Ex P.s) hg λx np hg=>aU hg λe1 ho=>E3 (T:=λnm=>wpAny X.M P.A (eval (.Call (.Name x np) [e,nm] [] pos) P.env) Q P.Ex P.s) G hn λy yp hy=>by
  obtain rfl:=eq_of_beq e1
  have mS:(backTo pos (starEach [e,.Name y yp] P.env)).any (·.1)=false:=by rw[pz h0 P.env];rfl
  refine wpAny_Call_NameR (pv G P (g8 1 (by decide)) ho (Calls.callWith_builtin mS (nU mS (wpAny_items_cons (he P _ _ p (λv H1 p1 N x r=>?_)) (pz h0 P.env _)))))
  exact wpAny_items_cons (hy (P.to N) _ λc hc=>wpAny_items_nil (aJ.k p1 λj ej p1=>Nh (P:=N.pt) G hc r ej λtk=>(kq.nx N).now p1 (.bool _) tk)) rfl
end
section
variable{M:Model}{A:Around}{E:Value->Shared->Prop}{h:Heap}{g:Array GenState}{d:Drawn}{t:Nat}{os:OsState}{e C D:Addr}{oe:Obj}{nm q:Str}{N:Addr}{bs bm:List Value}{hdct:Bool}{sn:List Str}{sub:List Value}{ab:Bool}{col:Option Bool}{dd:Option Addr}{k0 k1 k2 k3 k5:Option Value}{newId:String}{Nk q':Str}{N':Addr}{nR Ah:List Value}{Nl:Bool}{Nm:List Str}{sub':List Value}{Nn:Bool}{col':Option Bool}{Np:Option Addr}{Nq Nr Nt Nu Nv:Option Value}{newId':String}
theorem Nw{Q:Bool->Shared->Prop}(hC:h.get? C=some (excClassObj nm q C N bs bm hdct sn sub ab col dd k0 k1 k2 k3 k5 newId))(hD:h.get? D=some (excClassObj Nk q' D N' nR Ah Nl Nm sub' Nn col' Np Nq Nr Nt Nu Nv newId'))(he:h.get? e=some oe)(Ny:oe.cls=.ref C)(Nz:Ah.contains (.type "BaseException")=true)(hb:(Value.ref C::bm).contains (.ref D)=true)
  (hq:Q true ⟨h,g,d,t,os⟩):wpAny M A (excMatches (.ref e) (.ref D)) Q E ⟨h,g,d,t,os⟩:=by
 have qZ:(Value.ref D::Ah).contains (.type "BaseException")=true:=by rw[contains_cons,Nz,Bool.or_true]
 have f:=tc_notTuple
 unfold excMatches
 repeat (first|(with_reducible refine wpAny_loadPart_at he ?_;rw[Ny])|with_reducible refine wpAny_loadPart_at hD ?_|(with_reducible refine wpAny_isSubtype_exc hD ?_;rw[qZ])|(with_reducible refine wpAny_isSubtype_exc hC ?_;rw[hb])|wp_step)
 exact hq
end
section
variable{σ:Lv}{r:Option cN}{e h:E}{k i j l:Nat}{b:Stmt}{t x:Expr}{n:Str}{rp hp pos:Pos}{K:Out->Prop}{Q:Flow->Shared->Prop}
noncomputable abbrev Lv.hd(σ:Lv):Lv:=⟨σ.n,σ.m,⟨σ.f.sc,σ.f.ns,true⟩,λZ Z=>False⟩
noncomputable abbrev Fp.hd(P:Fp σ)(y:Value):Fp σ.hd:=
 ⟨⟨P.A.mark (some y),P.φ,P.H,P.s,NE,⟨P.rm.depth,P.rm.units,P.rm.frames⟩,P.R,P.fr⟩,P.env,P.ρ,P.own,P.kd,P.F,⟨P.rn.depth,P.rn.units,P.rn.frames⟩,P.hf,λh=>(nomatch h),λZ Z h=>h.elim⟩
theorem NA{P:Fp σ}{a:Addr}(G:Good X)(ht:qA σ.f (some k) t=true)(hn:k4 σ.f.ns i n=true)(tf:σ.f.sc.names.lookup n=some .local)(hx:b9 σ.hd h x)(hl:P.H[l]?=some (.exc j))(ha:P.φ[l]?=some a)(hT:qO P.w a)(hs:gE j k=true)(ho:sX P.env P.own σ.f.ns)(p:WE σ.hd.c h (P.ρ.set i (some (.ref l))) P.H λr H=>K (.ret r H))(kq:KO P K Q):
  wpAny X.M P.A (handleBy (.ref a) P.env [.ExceptHandler (some t) (some n) [.Return (some x) rp] hp]) Q P.Ex P.s:=by
 refine wpAny_handleBy_cons (codeAny_handlers_test ?_) (λe=>nomatch e)
 refine E3 (σ:=σ.hd) (k:=some k) (T:=λt=>wpAny X.M (P.A.mark (some (.ref a))) (eval t P.env) _ _ P.s) G ht λy yp hy=>uH (hy (P.hd (.ref a)) _ λc hc=>?_)
 cases hc with
 |own hD=>
  refine P.R.at hl λa' qW hc=>?_
  rw[show P.φ[l]?=some a' from qW] at ha;cases ha
  refine hc.inv _ λoe Ca vs e1 e2 e3 e4 e5=>Ag G e2 λgC Z Z hm=>Ag G hD λgD hB Z Z=>?_
  refine Nw (P.R.keep _ _ gC) (P.R.keep _ _ gD) e1 e3 hB ((hm _ _ hD).trans hs) (codeAny_handlers_suite_as ?_)
  refine xg (P:=(P.hd (.ref a)).toPt) hT qW λN hN=>?_
  refine k4.k hn λhi te=>?_
  have mW:=ho.1 n te
  refine D2 (P:=(P.hd (.ref a)).to N) hi te mW (.ref (N.S.pre _ _ qW)) λN2=>?_
  refine wpAny_execs_cons (wpAny_Return_some (uH (hx N2.fp _ _ p λv H1 p1 N3 y r=>?_)))
  have hk:P.env.kindOf n=some .local:=by
   rcases P.kd n with e|⟨e,_⟩
   ·rw[<-e];exact tf
   ·rw[tf] at e;cases e
  have pB:P.own P.env.locals:=by
   rcases mW with h|h
   ·exact h.2
   ·rw[hk] at h;cases h.1
  have F3:=N2.F.mono N3.S λZ Z h=>h
  obtain⟨m,th,_⟩:=F3.loc
  refine wpAny_nameGoes hk th (by rw[P.F.fc.fn];rfl) λh' m' NB lE=>?_
  have c:Ch (·=P.env.locals) N3.h h':=.but lE.extBut λo e=>th.elim λo' q=>q.elim λZ q=>q.elim λZ q=>by rw[q.1] at e;cases e;exact uD q.2.1
  have S3:bL P.own P.w N3.w:=(N.S.nil.trans N2.S).trans N3.S.nil
  have S4:bL P.own N3.w ⟨N3.φ,h'⟩:=bL.ch (io:=(·=P.env.locals)) (q:=N3.w) .refl c λb hb=>.inr (hb▸⟨pB,NB.imp λo q=>q.elim λZ q=>q.elim λZ q=>⟨q.1,λZ Z Z=>wG q.2.1⟩⟩)
  exact kq.ret _ _ p1 N3.φ h' _ (N3.R.ch (p:=N3.w) (io:=(·=P.env.locals)) (λb hb=>hb▸F3.ap _ (.inl rfl)) c) (S3.trans S4) _ (r.mono S4)
theorem NC{P:Fp σ}(G:Good X)(ht:qA σ.f (some k) t=true)(hn:k4 σ.f.ns i n=true)(tf:σ.f.sc.names.lookup n=some .local)(hx:b9 σ.hd h x)(ho:sX P.env P.own σ.f.ns)(kq:KO P K Q):
  qG gm P.w P.s (λv H=>aJ (excAt H v) λj=>gE j k=true/\WE σ.c.no h (P.ρ.set i (some v)) H λr H=>K (.ret r H))
   (λe bT=>wpAny X.M P.A (noteFrame e P.env) (λZ dX=>wpAny X.M P.A (setFlight e none) (λZ lz=>wpAny X.M P.A (handleBy e P.env [.ExceptHandler (some t) (some n) [.Return (some x) rp] hp]) Q P.Ex lz) P.Ex dX) P.Ex bT):=λv H p φ hh tk R S y ry=>
 aJ.k p λj ej p1=>cellAt.k ej (λu=>v=u->wpAny X.M P.A (noteFrame y P.env) _ P.Ex (upd P.s hh tk)) (λl c hl hc=>mH.k (λc=>H[l]?=some c->v=.ref l->wpAny X.M P.A (noteFrame y P.env) _ P.Ex (upd P.s hh tk)) hc (λhl ev=>by
  subst ev
  have N:Nx P.toPt H:=⟨φ,hh,tk,R,S⟩
  refine ry.inv (λy=>wpAny X.M P.A (noteFrame y P.env) (λZ dX=>wpAny X.M P.A (setFlight y none) (λZ lz=>wpAny X.M P.A (handleBy y P.env [.ExceptHandler (some t) (some n) [.Return (some x) rp] hp]) Q P.Ex lz) P.Ex dX) P.Ex (upd P.s hh tk)) λa ha=>?_
  refine zY (P:=(⟨φ,hh,tk,R,S⟩:Nx P.toPt H).pt) P.hf hl ha λN1 h1=>xg (P:=N1.pt) h1 (N1.S.pre _ _ ha) λN2 h2=>?_
  exact NA (P:=P.to ((⟨φ,hh,tk,R,S⟩:Nx P.toPt H).then (N1.then N2))) G ht hn tf hx hl (N2.S.pre _ _ (N1.S.pre _ _ ha)) h2 p1.1 ho p1.2 (kq.nx ((⟨φ,hh,tk,R,S⟩:Nx P.toPt H).then (N1.then N2)).sx)) hl) rfl
noncomputable abbrev Fp.E4(P:Fp σ)(x:PQ)(Ex:Value->Shared->Prop)(kx:qG gm P.w P.s x Ex):Fp (σ.ex x):=⟨⟨P.A,P.φ,P.H,P.s,Ex,P.rm,P.R,P.fr⟩,P.env,P.ρ,gm,P.kd,P.F,P.rn,P.hf,P.calm,kx⟩
theorem ND(G:Good X)(ht:qA σ.f (some k) t=true)(hn:k4 σ.f.ns i n=true)(tf:σ.f.sc.names.lookup n=some .local)(hx:b9 σ.hd h x)(hb:Dy σ.f r e b=true)(he:∀x' y,cg σ.f e x'=true->b9 (σ.ex y) e x'):SS σ (.iV r e k i h) (.Try [b] [.ExceptHandler (some t) (some n) [.Return (some x) rp] hp] [] [] pos):=λP K Q ho p kq=>by
 refine wpAny_Try_except (wpAny_execs_cons ?_)
 have kx:=NC (rp:=rp) (hp:=hp) G ht hn tf hx ho kq
 cases r with
 |none=>exact nK.k (G:=λb=>wpAny X.M P.A (exec b P.env) _ _ P.s) hb λx' NF h=>fD.k (G:=λx'=>wpAny X.M P.A (exec (.Return x' NF) P.env) _ _ P.s) h λx' h=>wpAny_Return_some (he x' _ h (P.E4 _ _ kx) _ _ p λv H1 p1 N y ry=>kq.ret _ _ p1 _ _ _ N.R N.S.nil _ ry)
 |some t=>
  exact l8.k (G:=λb=>wpAny X.M P.A (exec b P.env) _ _ P.s) hb λts x' ap h=>if1.k (G:=λts=>wpAny X.M P.A (exec (.Assign ts x' ap) P.env) _ _ P.s) h λtg h=>aU h λh1 h=>aU h λh2 h=>aU h λh3 h4=>by
   refine wpAny_Assign_stores (he x' _ h2 (P.E4 _ _ kx) _ _ p (λv H1 p1 N y ry=>aJ.k p1 λbV ha p1=>?_)) (uO h3 _) ?_
   ·rw[w0 h1 []]
    exact uH (sW t tg (P.no.to (⟨N.φ,N.h,N.tk,N.R,N.S⟩:Nx P.no.toPt H1)) v y bV _ h1 (λz hz=>ho.1 z (uN t tg h1 z hz)) ry ha λN'=>wpAny_execs_nil (wpAny_execs_nil (kq.next _ _ p1 ⟨N'.φ,N'.h,N'.tk,N'.R,N'.F,N.S.nil.trans N'.S⟩)))
   ·cases t with
    |J i=>exact eR.k (G:=λtg=>swappedStores [tg] x' P.env=pure none) h1 λZ Z Z=>rfl
    |aF ts=>exact l6.k (G:=λtg=>sE tg x'=true->swappedStores [tg] x' P.env=pure none) h1 (λZ Z Z Z hx=>by cases x'<;>first|rfl|cases hx) h4
end
noncomputable def Ok(σ:Lv):Prop:=Good X/\sQ σ.m/\2*σ.m+1<=σ.n
noncomputable def RE(c:E):Prop:=∀(σ:Lv) (e:Expr),Ok σ->cg σ.f c e=true->bR σ c e
noncomputable def pD(c:It):Prop:=∀(σ:Lv) (e:Expr),Ok σ->wo σ.f c e=true->jq σ c e
noncomputable def jr(c:List E):Prop:=∀(σ:Lv) (e:List Expr),Ok σ->fV σ.f c e=true->dY σ c e
noncomputable def RO(c:Option E):Prop:=∀(σ:Lv) (e:Option Expr),Ok σ->zy σ.f c e=true->qU σ c e
section
variable{a b c:E}{es:List E}
theorem nt{b:Bool}(h:(!b)=true):b=false:=not_eq_true' _▸h
theorem NG{v:V}:RE (.k v):=λσ e og h=>nH.k (G:=λe=>bR σ _ e) h λc k p h=>(KB (of_decide_eq_true h)).t λZ=>rfl
theorem NH{i:Nat}:RE (.J i):=λσ e og h=>eR.k (G:=λe=>bR σ _ e) h λx p h=>(Ku h).t λZ=>rfl
theorem NI{j:Nat}:RE (.gk j):=λσ e og h=>eR.k (G:=λe=>bR σ _ e) h λx p h=>aU h λh1 h2=>(Kv og.1 (of_decide_eq_true h1) h2).t λZ=>rfl
theorem NJ{op:lV}(ra:RE a)(rb:RE b):RE (.bin op a b):=λσ e og h=>ug.k (G:=λe=>bR σ _ e) h λl o r p h=>aU h λh1 h=>aU h λh2 h3=>of_decide_eq_true h1▸(KC og.1 (ra σ l og h2).1 (rb σ r og h3).1).t λZ=>rfl
theorem NK(ra:RE a):RE (.neg a):=λσ e og h=>qx.k (G:=λe=>bR σ _ e) h λo y p h=>aU h λh1 h=>of_decide_eq_true h1▸(KD (ra σ y og h).1).t λZ=>rfl
theorem NL(ra:RE a):RE (.not a):=λσ e og h=>qx.k (G:=λe=>bR σ _ e) h λo y p h=>aU h λh1 h=>of_decide_eq_true h1▸KE (ra σ y og h)
theorem NM(r:jr es):RE (.and es):=λσ e og h=>qy.k (G:=λe=>bR σ _ e) h λo xs p h=>aU h λh1 h=>of_decide_eq_true h1▸DZ (w:=true) (r σ xs og h) λZ Z Z p=>p
theorem NN(r:jr es):RE (.or es):=λσ e og h=>qy.k (G:=λe=>bR σ _ e) h λo xs p h=>aU h λh1 h=>of_decide_eq_true h1▸DZ (w:=false) (r σ xs og h) λZ Z Z p=>p
theorem NO{op:kU}(ra:RE a)(rb:RE b):RE (.cmp op a b):=λσ e og h=>nI.k (G:=λe=>bR σ _ e) h λl os rs p h=>if1.k (G:=λos=>bR σ _ (.Compare l os rs p)) h λo h=>if1.k (G:=λrs=>bR σ _ (.Compare l [o] rs p)) h λr h=>aU h λh1 h=>aU h λh2 h3=>of_decide_eq_true h1▸KF og.1 h3 (ra σ l og h2).1 (rb σ r og h3).1
theorem NP{op nE:kU}(ra:RE a)(rb:RE b)(rc:RE c):RE (.kh op nE a b c):=λσ e og h=>nI.k (G:=λe=>bR σ _ e) h λl os rs p h=>if2.k (G:=λos=>bR σ _ (.Compare l os rs p)) h λo o' h=>if2.k (G:=λrs=>bR σ _ (.Compare l [o,o'] rs p)) h λr r' h=>aU h λh1 h=>aU h λzO h=>aU h λh2 h=>aU h λh3 h4=>of_decide_eq_true h1▸of_decide_eq_true zO▸KG og.1 h4 (ra σ l og h2).1 (rb σ r og h3).1 (rc σ r' og h4).1
theorem NQ{w:Bool}(ra:RE a):RE (.isNone w a):=λσ e og h=>nI.k (G:=λe=>bR σ _ e) h λl os rs p h=>if1.k (G:=λos=>bR σ _ (.Compare l os rs p)) h λo h=>aU h λh1 h=>if1.k (G:=λrs=>bR σ _ (.Compare l [o] rs p)) h λr h=>nH.k (G:=λr=>bR σ _ (.Compare l [o] [r] p)) h λc k kp h=>aU h λh2 h=>of_decide_eq_true h1▸of_decide_eq_true h2▸KH (ra σ l og h).1
theorem NR(r:jr es):RE (.aF es):=λσ e og h=>l6.k (G:=λe=>bR σ _ e) h λxs k p h=>aU h λh1 h=>(KI (of_decide_eq_true h1) (r σ xs og h)).t λZ=>rfl
theorem NS(r:jr es):RE (.bJ es):=λσ e og h=>uh.k (G:=λe=>bR σ _ e) h λxs p h=>aU h λh1 h=>(KJ (of_decide_eq_true h1) (r σ xs og h)).t λZ=>rfl
theorem NT(ra:RE a)(rb:RE b):RE (.aE a b):=λσ e og h=>nJ.k (G:=λe=>bR σ _ e) h λv s p h=>aU h λh1 h2=>(KM og.1 h2 (ra σ v og h1).1 (rb σ s og h2).1).t λZ=>rfl
theorem NU{lo hi:Option E}(ra:RE a)(rl:RO lo)(rh:RO hi):RE (.ii a lo hi):=λσ e og h=>nJ.k (G:=λe=>bR σ _ e) h λv s p h=>ui.k (G:=λs=>bR σ _ (.Subscript v s p)) h λl u t sp h=>aU h λh0 h=>aU h λh1 h=>aU h λh2 h3=>ut (G:=λt=>bR σ _ (.Subscript v (.Slice l u t sp) p)) h0 ((L4 og.1 (ra σ v og h1).1 (rl σ l og h2) (rh σ u og h3)).t λZ=>rfl)
theorem NV{f:Nat}(r:jr es):RE (.call f es):=λσ e og h=>fC.k (G:=λe=>bR σ _ e) h λg xs kws p h=>aU h λh0 h=>dW (G:=λkws=>bR σ _ (.Call g xs kws p)) h0 (eR.k (G:=λg=>bR σ _ (.Call g xs [] p)) h λx np h=>aU h λh1 h=>aU h λh2 h=>aU h λh4 h3=>(KN og.1 og.2.1 og.2.2 (of_decide_eq_true h1) h2 h4 (r σ xs og h3)).t λZ=>rfl)
theorem NW:RE .nF:=λσ e og h=>nL.k (G:=λe=>bR σ _ e) h λks vs p h=>aU h λh1 h2=>dW (G:=λks=>bR σ _ (.Dict ks vs p)) h1 (dW (G:=λvs=>bR σ _ (.Dict [] vs p)) h2 ((MI og.1).t λZ=>rfl))
theorem NX:RE .lW:=λσ e og h=>nL.k (G:=λe=>bR σ _ e) h λks vs p h=>aU h λh1 h2=>dW (G:=λks=>bR σ _ (.Dict ks vs p)) h1 (dW (G:=λvs=>bR σ _ (.Dict [] vs p)) h2 ((MJ og.1).t λZ=>rfl))
theorem NY(ra:RE a)(rb:RE b):RE (.t6 a b):=λσ e og h=>nL.k (G:=λe=>bR σ _ e) h λks vs p h=>if1.k (G:=λks=>bR σ _ (.Dict ks vs p)) h λk h=>fD.k (G:=λk=>bR σ _ (.Dict [k] vs p)) h λk h=>if1.k (G:=λvs=>bR σ _ (.Dict [some k] vs p)) h λv h=>aU h λh1 h2=>(ML og.1 (ra σ k og h1).1 (rb σ v og h2).1).t λZ=>rfl
theorem xG{σ:Lv}{e:Expr}(ra:RE a)(og:Ok σ)(h:cg σ.f a e=true):dY σ [a] [e]:=.cons h (ra σ e og h) .nil
theorem NZ(ra:RE a):RE (.listOf a):=λσ e og h=>fC.k (G:=λe=>bR σ _ e) h λg xs kws p h=>aU h λhh h=>aU h λh0 h=>dW (G:=λkws=>bR σ _ (.Call g xs kws p)) h0 (aU h λh1 h=>if1.k (G:=λxs=>bR σ _ (.Call g xs [] p)) h λe h=>(MO (nt hh) og.1 h1 (xG ra og h)).t λZ=>rfl)
theorem N6{m:Me}(ra:RE a)(r:jr es):RE (.c8 m a es):=λσ e og h=>fC.k (G:=λe=>bR σ _ e) h λg xs kws p h=>aU h λh0 h=>dW (G:=λkws=>bR σ _ (.Call g xs kws p)) h0 (l7.k (G:=λg=>bR σ _ (.Call g xs [] p)) h λo y ap h=>aU h λh1 h=>aU h λh2 h=>aU h λh3 h=>aU h λh4 h=>aU h λh5 h6=>by
 obtain rfl:=eq_of_beq h1
 have key:∀{id:String},uX m id->bR σ (.c8 m a es) (.Call (.Attribute o (sy m).1 ap) xs [] p):=λM=>(L6 M h2 h3 (of_decide_eq_true h4) (ra σ o og h5).1 (r σ xs og h6)).t λZ=>rfl
 cases m with
 |append=>exact key L7
 |count=>exact key L8
 |index=>exact key L9)
theorem N7(rc:RE c)(ra:RE a)(rb:RE b):RE (.ba c a b):=λσ e og h=>uj.k (G:=λe=>bR σ _ e) h λt y z p h=>aU h λh1 h=>aU h λh2 h3=>Ni (rc σ t og h1).2 (ra σ y og h2) (rb σ z og h3)
theorem N8{i:Nat}(ra:RE a):RE (.attr a i):=λσ e og h=>l7.k (G:=λe=>bR σ _ e) h λo y p h=>aU h λh1 h=>aU h λh2 h3=>(MV og.1 (of_decide_eq_true h1) h2 (ra σ o og h3).1).t λZ=>rfl
theorem N9{f:Nat}(ra:RE a)(r:jr es):RE (.dG f a es):=λσ e og h=>fC.k (G:=λe=>bR σ _ e) h λg xs kws p h=>aU h λh0 h=>dW (G:=λkws=>bR σ _ (.Call g xs kws p)) h0 (l7.k (G:=λg=>bR σ _ (.Call g xs [] p)) h λo y ap h=>aU h λh1 h=>aU h λh2 h=>aU h λh3 h=>aU h λh4 h=>aU h λh5 h=>aU h λh6 h=>aU h λh7 h8=>(M3 og.1 og.2.1 og.2.2 (nt h6) (of_decide_eq_true h1) (λhm=>by rw[contains_iff_mem.mpr hm] at h2;cases h2) h3 h4 (of_decide_eq_true h5) (ra σ o og h7).1 (r σ xs og h8)).t λZ=>rfl)
theorem Oa{f:Nat}:RE (.new f):=λσ e og h=>fC.k (G:=λe=>bR σ _ e) h λg xs kws p h=>aU h λh0 h=>dW (G:=λkws=>bR σ _ (.Call g xs kws p)) h0 (aU h λh1 h=>dW (G:=λxs=>bR σ _ (.Call g xs [] p)) h1 (aU h λh2 h=>aU h λh3 h4=>(M4 og.1 og.2.1 og.2.2 (nt h3) (of_decide_eq_true h2) h4).t λZ=>rfl))
theorem Ob{k:Option Nat}(ra:RE a):RE (.kj k a):=λσ e og h=>fC.k (G:=λe=>bR σ _ e) h λg xs kws p h=>aU h λh0 h=>dW (G:=λkws=>bR σ _ (.Call g xs kws p)) h0 (aU h λh1 h=>if2.k (G:=λxs=>bR σ _ (.Call g xs [] p)) h λe nm h=>aU h λh2 h3=>(Nj og.1 h1 h2 h3 (ra σ e og h3).1).t λZ=>rfl)
end
section
variable{a b c:E}{es:List E}
theorem Oc{σ:Lv}:∀{es:List E} {xs:List Expr},fV σ.f es xs=true->es.length=xs.length
 |[],xs,h=>dW (G:=λxs=>0=xs.length) h rfl
 |_::es,xs,h=>l9.k (G:=λxs=>es.length+1=xs.length) h λx xs h=>aU h λZ h=>congrArg (·+1) (Oc h)
theorem Ai{σ:Lv}{x:Expr}(h:fV σ.f es [x]=true)(G:List E->Prop)(k:∀a,cg σ.f a x=true->G [a]):G es:=by
 cases es with
 |nil=>cases h
 |cons a r=>
  refine aU (show(cg σ.f a x&&fV σ.f r [])=true from h) λh1 h2=>?_
  cases r with
  |nil=>exact k a h1
  |cons _ _=>cases h2
theorem Od{bi:Bi}(r:jr es):RE (.bi bi es):=λσ e og h=>fC.k (G:=λe=>bR σ (.bi bi es) e) h λg xs kws p h=>aU h λhh h=>by
 have hh:=nt hh
 have plain:(kws.isEmpty&&fD (ud bi) λq=>dJ σ.f q.1 g&&(decide (xs.length=q.2)&&fV σ.f es xs))=true->bR σ (.bi bi es) (.Call g xs kws p):=λh=>aU h λh0 h=>dW (G:=λkws=>bR σ (.bi bi es) (.Call g xs kws p)) h0 (by
  cases hb:ud bi with
  |none=>rw[hb] at h;cases h
  |some q=>
   rw[hb] at h
   exact aU (show(dJ σ.f q.1 g&&(decide (xs.length=q.2)&&fV σ.f es xs))=true from h) λh1 h=>aU h λh2 h3=>(Mt hh og.1 hb h1 (r σ xs og h3)).t λZ=>rfl)
 cases bi with
 |jH t=>
  refine aU (show(kws.isEmpty&&(dJ σ.f "isinstance" g&&if2 xs λe nm=>dJ σ.f (Str.ofString (iY t)) nm&&fV σ.f es [e]))=true from h) λh0 h=>dW (G:=λkws=>bR σ (.bi (.jH t) es) (.Call g xs kws p)) h0 (aU h λh1 h=>if2.k (G:=λxs=>bR σ (.bi (.jH t) es) (.Call g xs [] p)) h λe nm h=>aU h λh2 h3=>?_)
  have rs:=r σ [e] og h3
  exact Ai h3 (λes=>dY σ es [e]->bR σ (.bi (.jH t) es) (.Call g [e,nm] [] p)) (λa h4 rs=>(Mv og.1 h1 h2 h4 (rs.get 0 a e rfl rfl).1).t λZ=>rfl) rs
 |mB=>
  refine aU (show(dJ σ.f "min" g&&if1 kws λkw=>uw kw λy v=>(y==("default":Str))&&if1 xs λe=>fV σ.f es [e,v])=true from h) λh1 h=>if1.k (G:=λkws=>bR σ (.bi .mB es) (.Call g xs kws p)) h λkw h=>uw.k (G:=λkw=>bR σ (.bi .mB es) (.Call g xs [kw] p)) h λy v kp h=>aU h λh2 h=>if1.k (G:=λxs=>bR σ (.bi .mB es) (.Call g xs [⟨some y,v,kp⟩] p)) h λe h9=>?_
  obtain rfl:=eq_of_beq h2
  have rs:=r σ [e,v] og h9
  cases es with
  |nil=>cases h9
  |cons a kH=>
   exact aU (show(cg σ.f a e&&fV σ.f kH [v])=true from h9) λh3 h4=>Ai h4 (λkH=>dY σ (a::kH) [e,v]->bR σ (.bi .mB (a::kH)) (.Call g [e] [⟨some "default",v,kp⟩] p)) (λd h5 rs=>(Mx hh og.1 h1 h3 (rs.get 0 a e rfl rfl).1 (rs.get 1 d v rfl rfl).1).t λZ=>rfl) rs
 |kW=>
  refine aU (show(kws.isEmpty&&(dJ σ.f "len" g&&if1 xs λe=>fC e λg xs kws Z=>kws.isEmpty&&(dJ σ.f "set" g&&if1 xs λe=>fV σ.f es [e])))=true from h) λh0 h=>dW (G:=λkws=>bR σ (.bi .kW es) (.Call g xs kws p)) h0 (aU h λh1 h=>if1.k (G:=λxs=>bR σ (.bi .kW es) (.Call g xs [] p)) h λe h=>fC.k (G:=λe=>bR σ (.bi .kW es) (.Call g [e] [] p)) h λg' jt kws' p' h=>aU h λh2 h=>dW (G:=λkws=>bR σ (.bi .kW es) (.Call g [.Call g' jt kws p'] [] p)) h2 (aU h λh3 h=>if1.k (G:=λxs=>bR σ (.bi .kW es) (.Call g [.Call g' xs [] p'] [] p)) h λe h=>?_))
  have rs:=r σ [e] og h
  exact Ai h (λes=>dY σ es [e]->bR σ (.bi .kW es) (.Call g [.Call g' [e] [] p'] [] p)) (λa Z rs=>(My hh og.1 h1 h3 rs).t λZ=>rfl) rs
 |_=>exact plain h
theorem E5{σ:Lv}{elt:E}{t:cN}{it:It}{cV:Scope}{e tg iter:Expr}{ifs:List Expr}(re:RE elt)(ri:pD it)(r:jr es)(og:Ok σ)(hh:σ.f.hd=false)
  (h:(uy σ.f (gF t tg) cV&&(wo σ.f it iter&&(sD it tg&&(iE ⟨cV,gF t tg++σ.f.ns,false⟩ t tg&&(cg ⟨cV,gF t tg++σ.f.ns,false⟩ elt e&&fV ⟨cV,gF t tg++σ.f.ns,false⟩ es ifs)))))=true):uW σ cV (gF t tg) elt t it es e tg iter ifs:=
 aU h λh1 h=>aU h λh2 h=>aU h λh3 h=>aU h λh4 h=>aU h λh5 h6=>⟨hh,uy.sc h1,rfl,h4,h3,ri σ iter og h2,(re ⟨σ.n,σ.m,⟨cV,gF t tg++σ.f.ns,false⟩,λZ Z=>False⟩ e og h5).1,r ⟨σ.n,σ.m,⟨cV,gF t tg++σ.f.ns,false⟩,λZ Z=>False⟩ ifs og h6⟩
theorem Oe{nl:Nat}{elt:E}{t:cN}{it:It}(re:RE elt)(ri:pD it)(r:jr es):RE (.comp nl elt t it es):=λσ e og h=>sB.k (G:=λe=>bR σ (.comp nl elt t it es) e) h λe gs cV p h=>if1.k (G:=λgs=>bR σ (.comp nl elt t it es) (.ListComp e gs cV p)) h λg h=>uv.k (G:=λg=>bR σ (.comp nl elt t it es) (.ListComp e [g] cV p)) h λtg iter ifs h=>aU h λhh h=>aU h λh1 h=>of_decide_eq_true h1▸(EI (E5 re ri r og (nt hh) h)).t λZ=>rfl
theorem E6(ra:RE a):pD (.of a):=λσ e og h=>Lc og.1 h (ra σ e og h).1
theorem Of{σ:Lv}{e f:Expr}(ra:RE a)(rb:RE b)(og:Ok σ)(h:cg σ.f a e=true)(h':cg σ.f b f=true):dY σ [a,b] [e,f]:=.cons h (ra σ e og h) (xG rb og h')
theorem E7(ra:RE a)(rb:RE b):pD (.range a b):=λσ e og h=>fC.k (G:=λe=>jq σ (.range a b) e) h λg xs kws p h=>aU h λh0 h=>dW (G:=λkws=>jq σ (.range a b) (.Call g xs kws p)) h0 (aU h λh1 h=>(or_eq_true_iff.mp h).elim
 (λh=>if1.k (G:=λxs=>jq σ (.range a b) (.Call g xs [] p)) h λe h=>aU h λh2 h3=>uu.k (G:=λa=>jq σ (.range a b) (.Call g [e] [] p)) h2 (Ld og.1 h1 (xG rb og h3)))
 λh=>if2.k (G:=λxs=>jq σ (.range a b) (.Call g xs [] p)) h λe f h=>aU h λh2 h3=>Le og.1 h1 (Of ra rb og h2 h3))
theorem E8(ra:RE a):pD (.jI a):=λσ e og h=>fC.k (G:=λe=>jq σ (.jI a) e) h λg xs kws p h=>aU h λh0 h=>dW (G:=λkws=>jq σ (.jI a) (.Call g xs kws p)) h0 (aU h λh1 h=>if1.k (G:=λxs=>jq σ (.jI a) (.Call g xs [] p)) h λe h=>Lg og.1 h1 (xG ra og h))
theorem E9:jr []:=λσ e og h=>dW (G:=λe=>dY σ [] e) h .nil
theorem Fa(ra:RE a)(r:jr es):jr (a::es):=λσ e og h=>l9.k (G:=λe=>dY σ (a::es) e) h λx xs h=>aU h λh1 h2=>.cons h1 (ra σ x og h1) (r σ xs og h2)
theorem Og:RO none:=λσ e og h=>ut (G:=λe=>qU σ none e) h LW
theorem Oh(ra:RE a):RO (some a):=λσ e og h=>fD.k (G:=λe=>qU σ (some a) e) h λx h=>LX (ra σ x og h).1
theorem ir(c:E):RE c:=
 E.rec (motive_1:=RE) (motive_2:=pD) (motive_3:=jr) (motive_4:=RO) (λZ=>NG) (λZ=>NH) (λZ=>NI) (λZ Z Z ra rb=>NJ ra rb) (λZ ra=>NK ra) (λZ ra=>NL ra) (λZ r=>NM r) (λZ r=>NN r) (λZ Z Z ra rb=>NO ra rb) (λZ Z Z Z Z ra rb rc=>NP ra rb rc) (λZ Z ra=>NQ ra) (λZ r=>NR r) (λZ r=>NS r) (λZ Z ra rb=>NT ra rb)
  (λZ Z Z ra rl rh=>NU ra rl rh) (λZ Z r=>NV r) (λZ Z r=>Od r) (λZ Z Z ra r=>N6 ra r) (λZ Z Z Z Z re ri r=>Oe re ri r) (λZ ra=>NZ ra) NW NX (λZ Z ra rb=>NY ra rb) (λZ Z Z rc ra rb=>N7 rc ra rb) (λZ Z ra=>N8 ra) (λZ Z Z ra r=>N9 ra r) (λZ=>Oa) (λZ Z ra=>Ob ra) (λZ ra=>E6 ra) (λZ Z ra rb=>E7 ra rb) (λZ ra=>E8 ra) E9 (λZ Z ra r=>Fa ra r) Og (λZ ra=>Oh ra) c
end
noncomputable def RS(c:S):Prop:=∀(σ:Lv) (e:Stmt),Ok σ->Dz σ.f c e=true->SS σ c e
noncomputable def nZ(c:List S):Prop:=∀(σ:Lv) (e:List Stmt),Ok σ->oQ σ.f c e=true->mR σ c e
section
variable{e a i:E}{es:List E}{b b':List S}
theorem Fb(c:It):pD c:=
 It.casesOn (motive_2:=pD) c (λa=>E6 (ir a)) (λa b=>E7 (ir a) (ir b)) (λa=>E8 (ir a))
theorem Fd:∀es:List E,jr es
 |[]=>E9
 |a::es=>Fa (ir a) (Fd es)
theorem Oi:RS (.expr e):=λσ st og h=>um.k (G:=λst=>SS σ (.expr e) st) h λx p h=>aU h λh1 h2=>KQ h1 (ir e σ x og h2).1
theorem Oj:RS (.iU a i e):=λσ st og h=>l8.k (G:=λst=>SS σ (.iU a i e) st) h λts x p h=>if1.k (G:=λts=>SS σ (.iU a i e) (.Assign ts x p)) h λtg h=>nJ.k (G:=λtg=>SS σ (.iU a i e) (.Assign [tg] x p)) h λo j sp h=>aU h λh1 h=>aU h λh2 h=>aU h λh3 h4=>K3 og.1 h1 (ir a σ o og h2).1 (ir i σ j og h3).1 (ir e σ x og h4).1
theorem Ol{i:Nat}:RS (.setAttr a i e):=λσ st og h=>l8.k (G:=λst=>SS σ (.setAttr a i e) st) h λts x p h=>if1.k (G:=λts=>SS σ (.setAttr a i e) (.Assign ts x p)) h λtg h=>l7.k (G:=λtg=>SS σ (.setAttr a i e) (.Assign [tg] x p)) h λo y sp h=>aU h λh1 h=>aU h λh2 h=>aU h λh3 h=>aU h λh4 h5=>MZ og.1 (of_decide_eq_true h1) h2 (ir a σ o og h4).1 (ir e σ x og h5).1
theorem Om{k:Nat}{w:Str}:RS (.raise k w):=λσ st og h=>uk.k (G:=λst=>SS σ (.raise k w) st) h λe c p h=>aU h λh0 h=>ut (G:=λc=>SS σ (.raise k w) (.Raise e c p)) h0 (aU h λhh h=>fD.k (G:=λe=>SS σ (.raise k w) (.Raise e none p)) h λe h=>fC.k (G:=λe=>SS σ (.raise k w) (.Raise (some e) none p)) h λg xs kws cp h=>aU h λh1 h=>dW (G:=λkws=>SS σ (.raise k w) (.Raise (some (.Call g xs kws cp)) none p)) h1 (eR.k (G:=λg=>SS σ (.raise k w) (.Raise (some (.Call g xs [] cp)) none p)) h λx np h=>aU h λh2 h=>aU h λh3 h=>if1.k (G:=λxs=>SS σ (.raise k w) (.Raise (some (.Call (.Name x np) xs [] cp)) none p)) h λa h=>nH.k (G:=λa=>SS σ (.raise k w) (.Raise (some (.Call (.Name x np) [a] [] cp)) none p)) h λc kk ap h=>of_decide_eq_true h▸M5 og.1 (nt hh) (of_decide_eq_true h2) h3))
theorem Oo{r:Option cN}{k i:Nat}{h:E}:RS (.iV r e k i h):=λσ st og hs=>ul.k (G:=λst=>SS σ (.iV r e k i h) st) hs λbd lD o f p hs=>aU hs λh0 hs=>dW (G:=λo=>SS σ (.iV r e k i h) (.Try bd lD o f p)) h0 (aU hs λh0 hs=>dW (G:=λf=>SS σ (.iV r e k i h) (.Try bd lD [] f p)) h0 (aU hs λhh hs=>if1.k (G:=λbd=>SS σ (.iV r e k i h) (.Try bd lD [] [] p)) hs λb hs=>aU hs λh1 hs=>if1.k (G:=λlD=>SS σ (.iV r e k i h) (.Try [b] lD [] [] p)) hs λhd hs=>wm.k (G:=λhd=>SS σ (.iV r e k i h) (.Try [b] [hd] [] [] p)) hs λt n hb hp hs=>fD.k (G:=λt=>SS σ (.iV r e k i h) (.Try [b] [.ExceptHandler t n hb hp] [] [] p)) hs λt hs=>aU hs λh2 hs=>fD.k (G:=λn=>SS σ (.iV r e k i h) (.Try [b] [.ExceptHandler (some t) n hb hp] [] [] p)) hs λn hs=>aU hs λh3 hs=>aU h3 λh3 h4=>if1.k (G:=λhb=>SS σ (.iV r e k i h) (.Try [b] [.ExceptHandler (some t) (some n) hb hp] [] [] p)) hs λs hs=>nK.k (G:=λs=>SS σ (.iV r e k i h) (.Try [b] [.ExceptHandler (some t) (some n) [s] hp] [] [] p)) hs λx rp hs=>fD.k (G:=λx=>SS σ (.iV r e k i h) (.Try [b] [.ExceptHandler (some t) (some n) [.Return x rp] hp] [] [] p)) hs λx hs=>ND og.1 h2 h3 (of_decide_eq_true h4) (ir h σ.hd x og hs).1 h1 λx' y h5=>(ir e (σ.ex y) x' og h5).1))
theorem Oq:RS (.ret e):=λσ st og h=>nK.k (G:=λst=>SS σ (.ret e) st) h λx p h=>fD.k (G:=λx=>SS σ (.ret e) (.Return x p)) h λx h=>KS (ir e σ x og h).1
theorem Ot(ra:nZ b)(rb:nZ b'):RS (.ba e b b'):=λσ st og h=>uo.k (G:=λst=>SS σ (.ba e b b') st) h λt x y p h=>aU h λh1 h=>aU h λh2 h3=>KT (ir e σ t og h1).2 (ra σ x og h2) (rb σ y og h3)
theorem Ou{t:cN}{it:It}(rb:nZ b):RS (.for t it b):=λσ st og h=>uq.k (G:=λst=>SS σ (.for t it b) st) h λtg iter bs o p h=>aU h λhh h=>aU h λh0 h=>dW (G:=λo=>SS σ (.for t it b) (.For tg iter bs o p)) h0 (aU h λh1 h=>aU h λh2 h=>aU h λh3 h4=>Lq (nt hh) h1 h2 (Fb it σ iter og h3) (rb (σ.ex (xq σ.x)) bs og h4))
theorem Ov(rb:nZ b):RS (.while e b):=λσ st og h=>ur.k (G:=λst=>SS σ (.while e b) st) h λt bs o p h=>aU h λhh h=>aU h λh0 h=>dW (G:=λo=>SS σ (.while e b) (.While t bs o p)) h0 (aU h λh1 h2=>KU (ir e σ.no t og h1).2 (rb σ.no bs og h2))
theorem Ow{u:cN}{nl:Nat}{elt:E}{t:cN}{it:It}{σ:Lv}{tg x:Expr}{p:Pos}(og:Ok σ)(h1:iE σ.f u tg=true)(h2:cg σ.f (.comp nl elt t it es) x=true)(h3:ue tg=true):SS σ (.aN u (.comp nl elt t it es)) (.Assign [tg] x p):=
 Expr.Name.elim (motive_1:=λtg=>iE σ.f u tg=true->SS σ (.aN u (.comp nl elt t it es)) (.Assign [tg] x p)) tg (of_decide_eq_true h3) (λy py h1=>sB.k (G:=λx=>SS σ (.aN u (.comp nl elt t it es)) (.Assign [.Name y py] x p)) h2 λe gs cV cp h=>if1.k (G:=λgs=>SS σ (.aN u (.comp nl elt t it es)) (.Assign [.Name y py] (.ListComp e gs cV cp) p)) h λg h=>uv.k (G:=λg=>SS σ (.aN u (.comp nl elt t it es)) (.Assign [.Name y py] (.ListComp e [g] cV cp) p)) h λtg iter ifs h=>aU h λhh h=>aU h λh4 h=>of_decide_eq_true h4▸LN (E5 (ir elt) (Fb it) (Fd es) og (nt hh) h) h1) h1
theorem Ox{t:cN}:RS (.aN t e):=λσ st og h=>l8.k (G:=λst=>SS σ (.aN t e) st) h λts x p h=>if1.k (G:=λts=>SS σ (.aN t e) (.Assign ts x p)) h λtg h=>aU h λh1 h=>aU h λh2 h=>aU h λh3 h4=>(or_eq_true_iff.mp h3).elim (λh3=>aU h3 λh5 h6=>E.comp.elim (motive_1:=λe=>cg σ.f e x=true->SS σ (.aN t e) (.Assign [tg] x p)) e (of_decide_eq_true h6) (λnl elt t' it cs h2=>Ow og h1 h2 h5) h2) λh3=>KR h3 h1 h4 (ir e σ x og h2).1
theorem Oy:nZ []:=λσ e og h=>dW (G:=λe=>mR σ [] e) h D9
theorem Oz{c:S}(r:RS c)(rs:nZ b):nZ (c::b):=λσ e og h=>l9.k (G:=λe=>mR σ (c::b) e) h λx xs h=>aU h λh1 h2=>KV (r σ x og h1) (rs σ xs og h2)
theorem OA(b:List S):nZ b:=
 S.rec_1 (motive_1:=RS) (motive_2:=nZ) (λZ=>Oi) (λZ Z=>Ox) (λZ Z Z=>Oj) (λZ Z Z=>Ol) (λZ=>Oq) (λZ Z Z ra rb=>Ot ra rb) (λZ Z Z rb=>Ou rb) (λZ Z rb=>Ov rb) (λZ Z=>Om) (λZ Z Z Z Z=>Oo) Oy (λZ Z r rs=>Oz r rs) b
end
theorem xI{x:Str}:∀{names:List (Str×NameKind)} {k:Nat} {acc:List (Str×Addr)},names.lookup x=some .cell\/(∃c,acc.lookup x=some c)->∃c,(cellsFrom k names acc).lookup x=some c
 |[],_,_,h=>h.elim (λe=>nomatch e) id
 |(y,kd)::r,k,acc,h=>by
  rw[lookup_cons] at h
  by_cases hk:(kd==NameKind.cell)=true
  ·rw[show cellsFrom k ((y,kd)::r) acc=cellsFrom (k+1) r ((y,k)::acc) from if_pos hk]
   refine xI ?_
   rw[lookup_cons]
   cases hy:x==y with
   |true=>exact .inr ⟨_,rfl⟩
   |false=>rw[hy] at h;exact h
  ·rw[show cellsFrom k ((y,kd)::r) acc=cellsFrom k r acc from if_neg hk]
   refine xI (h.elim (λh=>?_) .inr)
   cases hy:x==y with
   |true=>rw[hy] at h;exact absurd (by rw[Option.some.inj h];rfl) hk
   |false=>rw[hy] at h;exact .inl h
theorem lookup_none{α:Type}{x:Str}{l:List (Str×α)}(h:x∉l.map (·.1)):l.lookup x=none:=by
 cases e:l.lookup x with
 |none=>rfl
 |some v=>exact absurd (mem_map.mpr ⟨_,mem_lookup e,rfl⟩) h
theorem Fe{kf:Str->Option NameKind}{x:Str}(hk:kf x=some .local):∀{bs:List (Str×Value)} {m:Str->Option Value},(bs.map (·.1)).Nodup->PySem.bindL kf bs m x=(bs.lookup x).or (m x)
 |[],m,_=>rfl
 |(y,v)::r,m,hn=>by
  have hn:=nodup_cons.mp hn
  refine(?_:PySem.bindL kf r (if kf y=some .local then λz=>if z=y then some v else m z else m) x=_)
  rw[Fe hk hn.2,lookup_cons]
  by_cases e:x=y
  ·rw[e] at hk ⊢
   rw[lookup_none hn.1,if_pos hk,if_pos rfl,beq_self_eq_true];rfl
  ·rw[beq_eq_false_iff_ne.mpr e]
   split
   ·exact congrArg _ (if_neg e)
   ·rfl
theorem Ff{kf:Str->Option NameKind}{x:Str}(hk:kf x=some .cell):∀{bs:List (Str×Value)} {m:Str->Option Value},(bs.map (·.1)).Nodup->PySem.bindC kf bs m x=(bs.lookup x).or (m x)
 |[],m,_=>rfl
 |(y,v)::r,m,hn=>by
  have hn:=nodup_cons.mp hn
  refine(?_:PySem.bindC kf r (if kf y=some .local then m else λz=>if z=y then some v else m z) x=_)
  rw[Ff hk hn.2,lookup_cons]
  by_cases e:x=y
  ·rw[e] at hk ⊢
   rw[lookup_none hn.1,if_neg (by rw[hk];exact λh=>nomatch h),if_pos rfl,beq_self_eq_true];rfl
  ·rw[beq_eq_false_iff_ne.mpr e]
   split
   ·rfl
   ·exact congrArg _ (if_neg e)
theorem Fg{p:Ws}{x:Str}:∀{ps:List Str} {vs:List V} {xs:List Value},ps.length=vs.length->br p vs xs->ik p (lk ps (vs.map some) x) ((ps.zip xs).lookup x)
 |[],vs,xs,hl,r=>by
  cases vs with
  |nil=>exact .none
  |cons _ _=>cases hl
 |q::ps,vs,xs,hl,r=>by
  cases vs with
  |nil=>cases hl
  |cons v vs=>
   refine r.inv (λxs=>ik p (lk (q::ps) ((v::vs).map some) x) (((q::ps).zip xs).lookup x)) λy ys r1 r2=>?_
   refine(?_:ik p (lk (q::ps) ((v::vs).map some) x) (List.lookup x ((q,y)::ps.zip ys)))
   rw[lookup_cons]
   unfold lk
   by_cases e:x=q
   ·rw[e,List.idxOf_cons_self,beq_self_eq_true];exact .some r1
   ·rw[beq_eq_false_iff_ne.mpr e,List.idxOf_cons,beq_eq_false_iff_ne.mpr (Ne.symm e)]
    exact Fg (Nat.succ.inj hl) r2
theorem OB{p:Ws}{ns:List Str}{np nl:Nat}{vs:List V}{xs:List Value}(dg:ns.length=np+nl)(hv:vs.length=np)(r:br p vs xs)(x:Str):ik p (lk ns (vs.map some++replicate nl none) x) (((ns.take np).zip xs).lookup x):=by
 have hl:(ns.take np).length=vs.length:=by rw[length_take,hv,dg];exact min_eq_left (le_add_right _ _)
 have e:=List.take_append_drop np ns
 have h0:∀y,lk ns (vs.map some++replicate nl none) y=lk (ns.take np++ns.drop np) (vs.map some++replicate nl none) y:=λy=>by rw[e]
 rw[h0]
 by_cases hx:x∈ns.take np
 ·rw[EB (by rw[length_map,hl]) hx];exact Fg hl r
 ·rw[EC (by rw[length_map,hl]) hx,show nl=(ns.drop np).length by rw[length_drop,dg,Nat.add_sub_cancel_left],z4,lookup_none λhm=>hx ?_]
  ·exact .none
  ·rw[List.map_fst_zip (by rw[hl,r.length];exact le_refl _)] at hm;exact hm
structure q8(A:Around)(n:Nat):Prop where
 depth:A.depth+n+110<=recursionLimit
 units:A.units+5*n+200<=cLine
 frames:∃l,A.frames=some l
theorem jR.OC{A:Around}{n:Nat}(rm:jR A n):q8 A n:=⟨rm.depth,rm.units,rm.frames.elim λfe h=>h.elim λl h=>⟨_,h.1⟩⟩
theorem q8.deeper{A:Around}{n:Nat}{env:Env}(rm:q8 A (n+1))(h1:env.scope.isGenerator=false)(h2:env.scope.isCoroutine=false)(h3:env.builtins=builtinsNs)(h4:env.globals=mainGlobals):jR (A.deeper env) n:=by
 obtain⟨l,e⟩:=rm.frames
 refine⟨?_,?_,env,l,?_,h1,h2,h3,h4⟩
 ·have:=rm.depth;refine(?_:A.depth+1+n+110<=_);exact(by rw[add_right_comm A.depth];exact this)
 ·have:=rm.units;refine(?_:A.units+3+5*n+200<=_);lia
 ·refine(?_:A.frames.map (env::·)=_);rw[e];rfl
theorem q8.iF{A:Around}{n:Nat}(rm:q8 A n)(env:Env):iF (A.deeper env)=env::iF A:=by
 obtain⟨l,e⟩:=rm.frames
 refine(?_:(A.frames.map (env::·)).getD []=env::A.frames.getD [])
 rw[e];rfl
theorem ly.deeper{A A':Around}{p:Ws}{env':Env}{L:Addr}(F:ly A p)(hA:iF A'=env'::iF A)(hk:env'.scope.kind=.function)(hf:env'.frame=some L)(hn:∃m,p.h.Ns L m)(ha:Ap p L):ly A' p:=λe he=>by
 rw[hA] at he
 exact(mem_cons.mp he).elim (λe'=>e'▸⟨hk,L,hn.elim λm x=>x.imp λo x=>x.elim λes x=>x.elim λep x=>⟨hf,x.1,wG x.2.1,ha⟩⟩) (F e)
section
variable{φ:List Addr}{H:Hp}{s:Shared}
noncomputable def Fh(φ:List Addr)(s:Shared)(post:PQ)(Q:Value->Shared->Prop):Prop:=∀v H',post v H'->∀n0 h' tk x,SR ⟨n0,h'⟩ H'->bL gm ⟨φ,s.heap⟩ ⟨n0,h'⟩->aX ⟨n0,h'⟩ v x->Q x (upd s h' tk)
structure u3(hd:Bool)(d:g5)(ns:List Str)(f:Fn):Prop where
 bS:zw d.params (ns.take f.np)=true
 len:ns.length=f.np+f.nl
 nd:ns.Nodup
 kind:d.scope.kind=.function
 gen:d.scope.isGenerator=false/\d.scope.isCoroutine=false
 own:∀x,x∈ns->d.scope.names.lookup x=some .local\/d.scope.names.lookup x=some .cell
 body:oQ ⟨d.scope,ns,hd⟩ f.body d.body=true
theorem sq.k{k:Option NameKind}(h:sq k=true):k=some .local\/k=some .cell:=by
 cases k with
 |none=>cases h
 |some k=>cases k<;>first|exact .inl rfl|exact .inr rfl|cases h
theorem OD{hd:Bool}{d:g5}{ns:List Str}{f:Fn}(h:DA hd d ns f=true):u3 hd d ns f:=
 aU h λZ h=>aU h λh2 h=>aU h λh3 h=>aU h λh4 h=>aU h λh5 h=>aU h λh6 h=>aU h λh7 h=>aU h λZ h=>aU h λZ h=>aU h λkJ OE=>
  ⟨h2,of_decide_eq_true h3,of_decide_eq_true h4,of_decide_eq_true h5,⟨xj h6,xj h7⟩,λx hx=>sq.k (all_eq_true.mp kJ x hx),OE⟩
theorem OF{hh:Bool}{d:g5}{ns:List Str}{f:Fn}{env:Env}{vs:List V}{xs:List Value}{bT:Shared}(o:u3 hh d ns f)(R:SR ⟨φ,s.heap⟩ H)(r:br ⟨φ,s.heap⟩ vs xs)(hv:vs.length=f.np)(eL:env.locals=s.heap.objs.size)(eS:env.scope=d.scope)(eG:env.globals=mainGlobals)(eB:env.builtins=builtinsNs)(eC:∀x,d.scope.names.lookup x=some .cell->∃c,env.cells.lookup x=some c)
  (il:InCallC s env.locals (PySem.bindL env.kindOf ((ns.take f.np).zip xs) λZ=>none) env.cells (PySem.bindC env.kindOf ((ns.take f.np).zip xs) λZ=>none) bT):FR env ns (vs.map some++replicate f.nl none) ⟨φ,bT.heap⟩:=by
 have keep:aC s.heap bT.heap:=il.toInCall.keep
 have S0:bL gm ⟨φ,s.heap⟩ ⟨φ,bT.heap⟩:=bL.ext (q:=⟨φ,s.heap⟩) .refl keep
 have eK:∀x,env.kindOf x=d.scope.names.lookup x:=λx=>by unfold Env.kindOf;rw[eS]
 have Fi:(((ns.take f.np).zip xs).map (·.1)).Nodup:=by
  rw[List.map_fst_zip (by rw[length_take,<-r.length,hv];exact Nat.min_le_left _ _)]
  exact o.nd.sublist (List.take_sublist _ _)
 have rep:=OB o.len hv (r.mono S0)
 have ap:∀c,s.heap.objs.size<=c->Ap ⟨φ,bT.heap⟩ c:=λc hc=>SR.new (p:=⟨φ,s.heap⟩) R (gR _ hc)
 have abv:∀{x c},env.cells.lookup x=some c->s.heap.objs.size<=c:=λh=>le_of_lt (eL▸il.above _ _ (mem_lookup h))
 refine⟨⟨by rw[eS];exact o.kind,eG,eB,⟨by rw[eS];exact o.gen.1,by rw[eS];exact o.gen.2,by unfold interactive;rw[eS,o.kind];rfl⟩,λx y c h1 h2=>name_of_addr il.apart (mem_lookup h1) (mem_lookup h2),λq hq e=>absurd (il.above q.1 q.2 hq) (by rw[e];exact Nat.lt_irrefl _)⟩,by rw[length_append,length_map,List.length_replicate,hv,o.len],⟨_,il.toInCall.ns,λx hx hk=>?_⟩,λx hx hk=>?_,λa ha=>ha.elim (λe=>ap a (by rw[e,eL];exact le_refl _)) λw=>w.elim λx hx=>ap a (abv hx),λa ha=>ha.elim (λe=>e▸il.toInCall.ns.imp λo w=>w.elim λZ w=>w.elim λZ w=>w.1) λw=>w.elim λx hx=>(il.cell x a hx).imp λo w=>w.1⟩
 ·rw[Fe hk Fi,or_none];exact rep x
 ·have u4:env.kindOf x=some .cell:=(o.own x hx).elim (λh=>by rw[eK,h] at hk;cases hk) λh=>(eK x).trans h
  exact(eC x ((eK x).symm.trans u4)).elim λc hc=>⟨c,_,hc,il.cell x c hc,by rw[Ff u4 Fi,or_none];exact rep x⟩
theorem Fj{m:Nat}{hh:Bool}{f:Fn}{q:Bool×Str}{d:g5}{ns:List Str}{A:Around}{a:Addr}{o:Obj}{pm cd doc:Value}{vs:List V}{xs:List Value}{post Y:PQ}{Q Ex:Value->Shared->Prop}(G:Good X)(hc:sQ m)(rm:q8 A (2*m+2))(hA:hh=false->A.handled=none)(R:SR ⟨φ,s.heap⟩ H)(fr:ly A ⟨φ,s.heap⟩)
  (ok:u3 hh d ns f) (ho:X.dm.get? a=some o) (hd:o.data=.func (methDef d.name (jL q) d.params d.body d.scope pm cd doc)) (sS:X.dm.CodeRec cd (jL q)) (r:br ⟨φ,s.heap⟩ vs xs) (hv:vs.length=f.np)
  (p:aM ⟨aA m,xq Y⟩ f.body (vs.map some++replicate f.nl none) H (bF post)) (kq:Fh φ s post Q) (kx:Fh φ s Y Ex):wpAny X.M A (call (.ref a) xs) Q Ex s:=by
 obtain⟨ar,hp,Aj⟩:∃ar,d.params=xB ar/\ar.map (·.arg)=ns.take f.np:=MQ ok.bS (λq=>∃ar,q=xB ar/\ar.map (·.arg)=ns.take f.np) λar e=>⟨ar,rfl,e⟩
 have hb:=MR (fd:=methDef d.name (jL q) d.params d.body d.scope pm cd doc) (ar:=ar) (xs:=xs) rfl hp (by rw[Aj];exact ok.nd.sublist (List.take_sublist _ _)) (by rw[Aj,length_take,<-r.length,hv,ok.len];exact min_eq_left (le_add_right _ _))
 rw[Aj] at hb
 refine wpAny_call (codeAny_call_cells (by have:=rm.depth;lia) (R.keep _ _ ho) hd (G.nolimit.keeps R.keep) (sS.keeps R.keep) rfl hb rfl (λx hx=>(ok.own _ (List.mem_of_mem_take (List.of_mem_zip hx).1)).imp id λh=>⟨h,(xI (.inl h)).elim λc e=>by rw[e];rfl⟩) (λbT il=>?_) ok.gen.2 ok.gen.1 ok.kind)
 have OG:Kinds d.scope (callEnvC (methDef d.name (jL q) d.params d.body d.scope pm cd doc) s.heap.objs.size a):=λx=>.inl rfl
 have hF:=OF (env:=callEnvC (methDef d.name (jL q) d.params d.body d.scope pm cd doc) s.heap.objs.size a) ok R r hv rfl rfl rfl rfl (λx h=>xI (.inl h)) il
 have abv:∀b,kG (callEnvC (methDef d.name (jL q) d.params d.body d.scope pm cd doc) s.heap.objs.size a) b->s.heap.get? b=none:=λb hb=>gR _ (hb.elim (λe=>le_of_eq e.symm) λw=>w.elim λx h=>le_of_lt (il.above _ _ (mem_lookup h)))
 have pB:sX (callEnvC (methDef d.name (jL q) d.params d.body d.scope pm cd doc) s.heap.objs.size a) (kG (callEnvC (methDef d.name (jL q) d.params d.body d.scope pm cd doc) s.heap.objs.size a)) ns:=⟨λx hx=>(ok.own x hx).imp (λh=>⟨h,.inl rfl⟩) λh=>⟨h,λc hc=>.inr ⟨x,hc⟩⟩,λZ h=>h⟩
 have Ak:=rm.deeper (env:=callEnvC (methDef d.name (jL q) d.params d.body d.scope pm cd doc) s.heap.objs.size a) ok.gen.1 ok.gen.2 rfl rfl
 have qP:=rm.iF (callEnvC (methDef d.name (jL q) d.params d.body d.scope pm cd doc) s.heap.objs.size a)
 have hL:(callEnvC (methDef d.name (jL q) d.params d.body d.scope pm cd doc) s.heap.objs.size a).frame=some s.heap.objs.size:=rfl
 have keep:aC s.heap bT.heap:=il.toInCall.keep
 have jV:∃m,bT.heap.Ns s.heap.objs.size m:=⟨_,il.toInCall.ns⟩
 obtain⟨fk,OH,OI⟩:=il.toInCall.same
 clear hb il
 generalize callEnvC (methDef d.name (jL q) d.params d.body d.scope pm cd doc) s.heap.objs.size a=env at *
 subst OI
 have S0:bL gm ⟨φ,s.heap⟩ ⟨φ,fk⟩:=bL.ext (q:=⟨φ,s.heap⟩) .refl keep
 have Fk:=(fr.i5 S0).deeper qP hF.fc.fn hL jV (SR.new (p:=⟨φ,s.heap⟩) R (gR _ (le_refl _)))
 have hf:∃fe,(iF (A.deeper env)).head?=some fe/\fe.frame=env.frame:=⟨env,by rw[qP];rfl,rfl⟩
 refine wpAny_mono (OA f.body ⟨2*m+1,m,⟨d.scope,ns,hh⟩,xq Y⟩ d.body ⟨G,hc,le_refl _⟩ ok.body ⟨⟨A.deeper env,φ,H,upd s fk OH,λe s'=>wpAny X.M (A.deeper env) (leaving env e) (λZ rf=>Ex e rf) (λe' rf=>Ex e' rf) s',Ak.less (zero_le _),SR.ext (p:=⟨φ,s.heap⟩) R keep,Fk⟩,env,_,kG env,OG,hF,Ak,hf,hA,λv H' pe n0 h' mQ R' S' y r'=>?_⟩ (bF post) (λfl s'=>Q (match fl with | .ret v=>v|_=>.none) s') pB p
  ⟨λρ H p N=>kq _ _ p N.φ N.h N.tk _ N.R (S0.uV N.S abv) .none,λv H p n0 h' tk R' S' x r'=>kq _ _ p n0 h' tk x R' (S0.uV S' abv) r'⟩) (λfl s' q=>by cases fl<;>exact q) (λe s' q=>q)
 exact(isSome_iff_exists.mp pe.1).elim λj ej=>cellAt.k ej (λv=>Y v H'->aX ⟨n0,h'⟩ v y->_) (λl c hl hc q r=>mH.k (λc=>H'[l]?=some c->_) hc (λhl=>r.inv (λy=>wpAny X.M (A.deeper env) (leaving env y) (λZ rf=>Ex y rf) (λe' rf=>Ex e' rf) (upd s h' mQ)) λb hb=>
  Ln (P:=⟨A.deeper env,n0,H',upd s h' mQ,NE,Ak.less (zero_le _),R',Fk.i5 S'⟩) hf hl hb λN Z=>kx _ _ q N.φ N.h N.tk _ N.R (S0.uV (S'.trans N.S.nil) abv) (.ref (N.S.pre _ _ hb))) hl) pe.2 r'
end
theorem Fl{ds:List g5}{nss:List (List Str)}{fs:List Fn}{i:Nat}{f:Fn}{d:g5}(h:wq ds nss fs=true)(hf:fs[i]?=some f)(hd:ds[i]?=some d)(hn:f.np≠999):∃ns,u3 (so.contains i) d ns f:=by
 have hi:=(List.getElem?_eq_some_iff.mp hf).1
 have h:=all_eq_true.mp h i (mem_range.mpr hi)
 rw[hf,hd] at h
 refine fD.k (G:=λZ=>∃ns,u3 (so.contains i) d ns f) (l:=nss[i]?) h λns h=>⟨ns,OD ((or_eq_true_iff.mp h).resolve_left λh=>hn (of_decide_eq_true h))⟩
theorem Fm(G:Good X):∀n,sQ n
 |0=>λP f q a vs xs post x Q rm hh h1 h2 r p=>p.elim
 |n+1=>λP f q a vs xs post x Q rm hh h1 h2 r p k kx=>(G.fn f q h1).casesOn λa' o d pm cd doc e1 e3 e4 ec e5 e6=>by
  rw[h2] at e3;cases e3
  refine aJ.k p λfn hf p=>(Fl G.DD hf e1 p.1.2).elim λns ok=>?_
  exact Fj G (Fm G n) (rm.less (le_of_eq (by lia))).OC hh P.R P.fr ok e4 e5 e6 r p.1.1 p.2 (λv H p φ h tk x R S r=>k v H p ⟨φ,h,tk,R,S⟩ x r) (λv H p φ h tk x R S r=>kx v H p ⟨φ,h,tk,R,S⟩ x r)
end Mine
namespace Mine
open PySem PySem.Calls PyProof.Rows PySem.W
noncomputable def OJ(d:DefRec):g5:=⟨d.name,d.params,d.body,d.scope⟩
noncomputable abbrev dT:List g5:=defsOf H.pp.main.body
noncomputable abbrev dM:List g5:=defsOf (zA H.pp gK.cls)
noncomputable def OK(q:Program)(loose:List Str):Bool:=mG.all λp=>!startupNames.contains p.1&&(!loose.contains p.1&&(!((recsOf q).map (·.name)).contains p.1&&(!((litsOf q).map (·.1)).contains p.1&&(!((clssOf q loose).map (·.name)).contains p.1 &&
 (!(p.1==("__name__":Str))&&decide (bootBuiltins p.1=some p.2))))))
theorem OL(Al:gK.kX[P.oN]?=some (false,Str.ofString "law"))(Am:aA 72 P.oN [.dU] [] (λv Z=>v=.bool true) λZ Z=>False)(G:Good X):Run X:=λfa Q tj hQ=>by
 have R0:SR ⟨[],X.s.heap⟩ []:=⟨λZ Z e=>e,λa ha=>(nomatch ha),.nil,rfl,λl c e=>(nomatch e)⟩
 refine(G.fn P.oN _ Al).casesOn λa' o d pm cd doc e1 e3 e4 ec e5 e6=>?_
 have e3:X.mg "law"=some (.ref a'):=e3
 rw[tj] at e3;cases e3
 refine aJ.k Am λfn hf hr=>(Fl G.DD hf e1 hr.1.2).elim λnn ok=>?_
 have rm:q8 callerA (2*71+2):=⟨by decide,by decide,_,rfl⟩
 refine Fj G (Fm G 71) rm (λZ=>rfl) R0 (λe he=>(nomatch he)) ok e4 e5 e6 (.cons .dU .nil) hr.1.1 hr.2 (λv H p n0 h' tk x R1 S1 r1=>?_) λv H p=>p.elim
 cases p
 exact r1.inv (λx=>Q x (upd X.s h' tk)) (hQ h' tk R1.keep)
theorem OM:gK.kX=(dT.map λd=>(false,d.name))++dM.map λd=>(true,d.name):=by kernel_rfl
theorem ON{Y:jK}(hT:∀d,d∈dT->∃a o pm cd doc,Y.mg d.name=some (.ref a)/\Y.dm.get? a=some o/\o.data=.func (docDef d.name d.params d.body d.scope pm cd doc)/\Y.dm.CodeRec cd d.name)
  (hM:∀d,d∈dM->∃a o pm cd doc,Y.mN d.name=some (.ref a)/\Y.dm.get? a=some o/\o.cls=.type "function"/\o.data=.func (methDef d.name (gK.cls++"."++d.name) d.params d.body d.scope pm cd doc)/\Y.dm.CodeRec cd (gK.cls++"."++d.name)) (hd:Y.defs=dT++dM) (f:Nat) (q:Bool×Str) (hx:gK.kX[f]?=some q):uz Y f q:=by
 rw[OM,List.getElem?_append,length_map] at hx
 have e:Y.defs[f]?=_:=(congrArg (λl:List g5=>l[f]?) hd).trans List.getElem?_append
 by_cases hf:f<dT.length
 ·rw[if_pos hf,getElem?_map] at hx
  rw[if_pos hf] at e
  refine fG (λq=>uz Y f q) hx λd h1=>?_
  exact(hT d (mem_of_getElem? h1)).elim λa y=>y.elim λo y=>y.elim λpm y=>y.elim λcd y=>y.elim λdoc y=>⟨a,o,d,pm,cd,doc,e.trans h1,y.1,y.2.1,λh=>(nomatch h),y.2.2.1,y.2.2.2⟩
 ·rw[if_neg hf,getElem?_map] at hx
  rw[if_neg hf] at e
  refine fG (λq=>uz Y f q) hx λd h1=>?_
  exact(hM d (mem_of_getElem? h1)).elim λa y=>y.elim λo y=>y.elim λpm y=>y.elim λcd y=>y.elim λdoc y=>⟨a,o,d,pm,cd,doc,e.trans h1,y.1,y.2.1,λZ=>y.2.2.1,y.2.2.2.1,y.2.2.2.2⟩
noncomputable def lF:List (Str×Nat×Nat×Bool):=[("NoPerson",89,291,false),("NoDay",101,307,false),("NoParents",113,323,false),("NoMatch",125,339,false),("NoWill",137,355,false),("Again",149,371,false),("Full",161,387,false),("NotDead",173,403,false),("EstateError",76,273,true)]
noncomputable abbrev xJ(e:Bool):List Value:=cond e H.vm (.ref 76::H.vm)
noncomputable def xK(r:Str×Nat×Nat×Bool):Obj:=excClassObj r.1 r.1 r.2.1 (r.2.1 - 1) (cond r.2.2.2 [.type "ValueError"] [.ref 76]) (xJ r.2.2.2) true [] (cond r.2.2.2 H.sH []) false none none (some (.ref (r.2.1 - 9))) none (some (.str r.1 r.2.2.1)) (some (.str r.1 (r.2.2.1+8))) (some (.bool true)) "ValueError.__new__"
noncomputable def An:List Str:=["__init__","__getattribute__","__getattr__","__class__"]
theorem OO(P:Params):(lF.map λr=>(H.H1 P).get? r.2.1)=lF.map λr=>some (xK r):=by kernel_rfl
theorem OP(P:Params):(lF.all λr=>(H.H1 P).isNs (r.2.1 - 1)&&An.all λn=>((H.H1 P).nsMap (r.2.1 - 1) n).isNone)=true:=by kernel_rfl
theorem OQ(P:Params):(lF.map λr=>(H.H1 P).nsMap mainGlobals r.1)=lF.map λr=>some (.ref r.2.1):=by kernel_rfl
theorem OR:((List.range 9).all λk=>(List.range 9).all λj=>match lF[k]?,lF[j]? with|some r,some r'=>(Value.ref r.2.1::xJ r.2.2.2).contains (.ref r'.2.1)==gE k j|_,_=>true)=true:=by decide +kernel
theorem Ao{α β:Type}{f g:α->β}:∀{l:List α},l.map f=l.map g->∀a,a∈l->f a=g a
 |b::l,h,a,ha=>(mem_cons.mp ha).elim (λe=>e▸(List.cons.inj h).1) λm=>Ao (List.cons.inj h).2 a m
theorem OS:typeLookup (.type "ValueError") "__class__"=pure (some (.builtin "object.__class__")):=by rw[typeLookup_type,builtinLookup_eq_fast];kernel_rfl
theorem OT(p:Str×Option Value)(hp:p∈wu):p.1∈An/\typeLookup (.type "ValueError") p.1=pure p.2:=by
 unfold wu at hp
 rcases mem_cons.mp hp with e|hp
 ·subst e;exact⟨.tail _ (.head _),F.attr_ValueError.ga.lookup⟩
 rcases mem_cons.mp hp with e|hp
 ·subst e;exact⟨.tail _ (.tail _ (.head _)),F.attrBase_ValueError.noGetattr⟩
 rcases mem_cons.mp hp with e|hp
 ·subst e;exact⟨.tail _ (.tail _ (.tail _ (.head _))),OS⟩
 ·cases hp
theorem OU{M:Model}{A:Around}{Ex:Value->Shared->Prop}{h:Heap}{g:Array GenState}{d:Drawn}{t:Nat}{os:OsState}{Q:Option Value->Shared->Prop}{r r0:Str×Nat×Nat×Bool}{n:Str}{y:Option Value}{m m0:Str->Option Value}
  (hC:h.get? r.2.1=some (xK r)) (hN:h.Ns (r.2.1 - 1) m) (hm:m n=none) (h0:r0.2.1=76) (OV:h.get? r0.2.1=some (xK r0)) (OW:h.Ns (r0.2.1 - 1) m0) (OX:m0 n=none) (hB:typeLookup (.type "ValueError") n=pure y) (hq:Q y ⟨h,g,d,t,os⟩):wpAny M A (typeLookup (.ref r.2.1) n) Q Ex ⟨h,g,d,t,os⟩:=by
 have hr:lookupAlong H.vm n=pure y:=by rw[typeLookup_eq,show mroOf (.type "ValueError")=pure H.vm from F.excBase_ValueError.mroIs] at hB;exact hB
 rw[typeLookup_eq]
 refine wpAny_bind (wpAny_mroOf_exc hC ?_)
 rw[lookupAlong_cons]
 refine wpAny_bind (wpAny_classOwn_exc hC hN ?_)
 rw[hm]
 obtain⟨x,C,t,e⟩:=r
 cases e with
 |true=>refine(?_:wpAny M A (lookupAlong H.vm n) Q Ex _);rw[hr];exact wpAny_pure hq
 |false=>
  refine(?_:wpAny M A (lookupAlong (.ref 76::H.vm) n) Q Ex _)
  rw[lookupAlong_cons]
  refine wpAny_bind ?_
  rw[<-h0]
  refine wpAny_classOwn_exc OV OW ?_
  rw[OX]
  refine(?_:wpAny M A (lookupAlong H.vm n) Q Ex _)
  rw[hr];exact wpAny_pure hq
theorem OY{Y:jK}{Pr:Params}(hh:∀b o,(H.H1 Pr).get? b=some o->Y.dm.get? b=some o)(hg:Y.mg=(H.H1 Pr).nsMap mainGlobals)(he:Y.exc=lF.map (·.2.1))(k:Nat)(x:Str)(hx:gK.oH[k]?=some x):ww Y k x:=by
 have qT:(lF.map (·.1))[k]?=some x:=hx
 rw[getElem?_map] at qT
 have at':∀r,r∈lF->Y.dm.get? r.2.1=some (xK r)/\Y.dm.Ns (r.2.1 - 1) ((H.H1 Pr).nsMap (r.2.1 - 1))/\∀n,n∈An->(H.H1 Pr).nsMap (r.2.1 - 1) n=none:=λr hr=>
  aU (all_eq_true.mp (OP Pr) r hr) λh1 h2=>⟨hh _ _ (Ao (OO Pr) r hr),(Ns.of_isNs h1).keeps hh,λn hn=>Option.isNone_iff_eq_none.mp (all_eq_true.mp h2 n hn)⟩
 refine fG (λx=>ww Y k x) qT λr hr=>?_
 have hm:=mem_of_getElem? hr
 have A:=at' r hm
 have r0:((Str.ofString "EstateError",76,273,true):Str×Nat×Nat×Bool)∈lF:=.tail _ (.tail _ (.tail _ (.tail _ (.tail _ (.tail _ (.tail _ (.tail _ (.head _))))))))
 have B:=at' _ r0
 have hk:k<9:=(List.getElem?_eq_some_iff.mp hr).1
 refine⟨r.2.1,H.vm,"ValueError.__new__",_,"ValueError",⟨?_,?_⟩,F.excBase_ValueError,?_,⟨by decide,by decide⟩,λo cd ho hd j D hj=>?_,λp hp A' Ex h g d t os Q hk hq=>?_⟩
 ·rw[hg];exact Ao (OQ Pr) r hm
 ·refine⟨xJ r.2.2.2,r.2.1 - 1,_,_,_,_,_,_,_,_,_,_,_,_,_,_,_,A.1,A.2.1,A.2.2 _ (.head _),?_⟩
  obtain⟨x,C,t,e⟩:=r
  cases e with
  |true=>exact .base
  |false=>exact .own B.1 B.2.1 (B.2.2 _ (.head _)) .base
 ·rw[he,getElem?_map,hr];rfl
 ·rw[A.1] at ho;cases ho;cases hd
  rw[he,getElem?_map] at hj
  refine fG (λD=>(Value.ref r.2.1::xJ r.2.2.2).contains (.ref D)=gE k j) hj λr' xM=>?_
  have q:=all_eq_true.mp (all_eq_true.mp OR k (mem_range.mpr hk)) j (mem_range.mpr (List.getElem?_eq_some_iff.mp xM).1)
  rw[hr,xM] at q
  exact eq_of_beq q
 ·have z:=OT p hp
  exact OU (r:=r) (r0:=(Str.ofString "EstateError",76,273,true)) (hk _ _ A.1) (A.2.1.keeps hk) (A.2.2 _ z.1) rfl (hk _ _ B.1) (B.2.1.keeps hk) (B.2.2 _ z.1) z.2 hq
noncomputable def Fo:ClsRec:=⟨gK.cls,none,[],gK.bX,0,dM.map λd=>⟨d.name,d.params,d.body,d.scope⟩⟩
theorem OZ(P:Params):(H.H1 P).plainShapeAt Fo=some Fo.plainShape:=by kernel_rfl
theorem O0(P:Params):(H.H1 P).isNs mainGlobals=true:=by kernel_rfl
theorem O1(P:Params):(["MOST_DAY","MOST_PEOPLE","MOST_GIFTS","MOST_NUMBER"]:List Str).map ((H.H1 P).nsMap mainGlobals)=[some (.int 100000 569),some (.int 60 571),some (.int 10 573),some (.int 1000 575)]:=by kernel_rfl
theorem O2(P:Params):(["WHOLE","NOTHING"]:List Str).map ((H.H1 P).nsMap mainGlobals)=[some (.ref 211),some (.ref 234)]:=by kernel_rfl
theorem O3(P:Params):(H.H1 P).get? 211=some (ku [.int 1 466,.int 1 467] 0):=by kernel_rfl
theorem O4(P:Params):(H.H1 P).get? 234=some (ku [.int 0 498,.int 1 499] 0):=by kernel_rfl
theorem O5{Y:jK}{Pr:Params}(hh:∀b o,(H.H1 Pr).get? b=some o->Y.dm.get? b=some o)(hg:Y.mg=(H.H1 Pr).nsMap mainGlobals)(j:Nat)(x:Str)(hx:gK.vU[j]?=some x):
  (∃i t,uc[j]?=some (.int i)/\Y.mg x=some (.int i t))\/∃(a:Addr) (is:List Int) (vs:List Value) (n:Nat),uc[j]?=some (.aF (is.map .int))/\Y.mg x=some (.ref a)/\Y.dm.get? a=some (ku vs n)/\IntsAre vs is/\is.length<=1000:=by
 rw[hg]
 have I:=O1 Pr
 have T:=O2 Pr
 match j,hx with
 |0,hx=>cases hx;exact .inr ⟨211,[1,1],_,_,rfl,(List.cons.inj T).1,hh _ _ (O3 Pr),.cons _ _ (.cons _ _ .nil),by decide⟩
 |1,hx=>cases hx;exact .inr ⟨234,[0,1],_,_,rfl,(List.cons.inj (List.cons.inj T).2).1,hh _ _ (O4 Pr),.cons _ _ (.cons _ _ .nil),by decide⟩
 |2,hx=>cases hx;exact .inl ⟨_,_,rfl,(List.cons.inj I).1⟩
 |3,hx=>cases hx;exact .inl ⟨_,_,rfl,(List.cons.inj (List.cons.inj I).2).1⟩
 |4,hx=>cases hx;exact .inl ⟨_,_,rfl,(List.cons.inj (List.cons.inj (List.cons.inj I).2).2).1⟩
 |5,hx=>cases hx;exact .inl ⟨_,_,rfl,(List.cons.inj (List.cons.inj (List.cons.inj (List.cons.inj I).2).2).2).1⟩
 |j+6,hx=>cases hx
theorem O6{q prog:Program}{loose:List Str}{mean:ExcName->Option Value}{mg mb:Str->Option Value}{w:World}{bT:Shared}{jm:Addr}{vs:List Value}{ns:List Int}{fa:Addr}{Pr:Params}{Q Ex:Value->Shared->Prop}
  (T:Top q loose mean mg mb bT.heap) (hh:∀b o,(H.H1 Pr).get? b=some o->bT.heap.get? b=some o) (hK:dT=(recsOf q).map OJ) (O7:wq (dT++dM) zu wl=true) (O8:OK q loose=true) (O9:importsNone q=true) (Pa:prog.given.tree=none)
  (hL:bT.heap.IsList jm vs.toArray) (hI:IntsAre vs ns) (dg:ns.length<=63) (Al:gK.kX[P.oN]?=some (false,Str.ofString "law")) (tj:mg "law"=some (.ref fa))
  (Am:aA 72 P.oN [.dU] [] (λv Z=>v=.bool true) λZ Z=>False)
  (hQ:∀h' tk,(∀b o,bT.heap.get? b=some o->h'.get? b=some o)->Q (.bool true) {bT with heap:=h',toks:=tk}):wpAny (model prog w) callerA (call (.ref fa) [.ref jm]) Q Ex bT:=by
 have hg:mg=(H.H1 Pr).nsMap mainGlobals:=T.g.eq_nsMap.trans ((Ns.of_isNs (O0 Pr)).keeps hh).eq_nsMap.symm
 obtain⟨C,N,hC,PL⟩:=plainAt_of_shape (OZ Pr)
 have PL:=PL.keeps hh
 refine wpAny_mono (JZ (OL Al Am) ⟨prog,w,jm,ns,mg,mb,C,N,(H.H1 Pr).nsMap N,lF.map (·.2.1),dT++dM,bT⟩ ?_ fa Q tj hQ) (λZ Z q=>q) λZ Z h=>h.elim
 refine⟨T.g,T.b,λp hp=>?_,ON (λd hd=>?_) (λd hd=>?_) rfl,O5 hh hg,OY hh hg rfl,rfl,hg▸hC,PL.cls,PL.quiet,T.nolimit,T.seer O9,Pa,⟨vs,hL,hI⟩,dg,?_,T.bmain,O7⟩
 ·exact aU (all_eq_true.mp O8 p hp) λh1 h=>aU h λh2 h=>aU h λh3 h=>aU h λh4 h=>aU h λh5 h=>aU h λh6 h7=>⟨T.free p.1 (qS h1) (qS h2) (qS h3) (qS h4) (qS h5),(T.builtins p.1 (λe=>by rw[e] at h6;exact absurd h6 (by decide))).trans (of_decide_eq_true h7)⟩
 ·rw[hK] at hd
  exact(mem_map.mp hd).elim λr y=>y.2▸T.fn r y.1
 ·exact PL.meths _ (mem_map.mpr ⟨d,hd,rfl⟩)
 ·exact T.nodigits.elim λmc h=>h.1.imp λo h=>h.elim λZ h=>h.elim λZ h=>h.1
end Mine
namespace Mine.H
open PySem PySem.W PyProof.Rows
theorem pre(w:World)(os:OsState):topGo treeTable pp w 11 an 12 ⟨boot_heap w.params,Array.mk [],boot_drawn,boot_toks,os⟩ (topStub pp)=some ((s0 w os).abs,⟨denote treeTable cE,cE,ps 0 0 0 0,[topFrame (ps 0 0 0 0)]⟩):=by kernel_rfl
theorem Pb(w:World)(os:OsState):segRun treeTable pp w 11 an 1 1 (s0 w os).abs (blockOf bE env cE (ps 0 0 0 0) [topFrame (ps 0 0 0 0)])=some (.next,(s0 w os).abs,cE,ps 0 0 0 0):=by kernel_rfl
noncomputable abbrev r0:List Stmt:=bE
theorem g0(w:World)(os:OsState):segRunT treeTable pp w 11 an 1 2000 (s0 w os) (piecesOf (r0.take 14) env cE (ps 0 0 0 0) [topFrame (ps 0 0 0 0)])=some (.next,s1 w os,cE,ps 59 0 60 8):=by kernel_rfl
noncomputable abbrev r1:List Stmt:=r0.drop 14
theorem g1(w:World)(os:OsState):segRunT treeTable pp w 11 an 1 2000 (s1 w os) (piecesOf (r1.take 4) env cE (ps 59 0 60 8) [topFrame (ps 0 0 0 0)])=some (.next,s2 w os,cE,ps 67 0 68 8):=by kernel_rfl
noncomputable abbrev r2:List Stmt:=r1.drop 4
theorem g2(w:World)(os:OsState):segRunT treeTable pp w 11 an 1 2000 (s2 w os) (piecesOf (r2.take 22) env cE (ps 67 0 68 8) [topFrame (ps 0 0 0 0)])=some (.next,s3 w os,cE,ps 168 0 187 15):=by kernel_rfl
noncomputable abbrev r3:List Stmt:=r2.drop 22
theorem g3(w:World)(os:OsState):segRunT treeTable pp w 11 an 1 2000 (s3 w os) (piecesOf (r3.take 9) env cE (ps 168 0 187 15) [topFrame (ps 0 0 0 0)])=some (.next,s4 w os,cE,ps 200 0 331 16):=by kernel_rfl
noncomputable abbrev r4:List Stmt:=r3.drop 9
theorem g4(w:World)(os:OsState):segRunT treeTable pp w 11 an 1 2000 (s4 w os) (piecesOf (r4.take 37) env cE (ps 200 0 331 16) [topFrame (ps 0 0 0 0)])=some (.next,s5 w os,cE,ps 617 0 640 15):=by kernel_rfl
noncomputable abbrev r5:List Stmt:=r4.drop 37
theorem fin(w:World)(os:OsState):topRun treeTable pp w 11 an 5 (s5 w os).abs (restOf r5 env cE (ps 617 0 640 15) [topFrame (ps 0 0 0 0)])=some ⟨H1 w.params,Array.mk [],boot_drawn,1067,os⟩:=by kernel_rfl
theorem pc{w:World}{n N m:Nat}{s s' r:Shared}{l:List Stmt}{pos p':Pos}(h:segRun treeTable pp w 11 an 1 n s (piecesOf (l.take m) env cE pos [topFrame (ps 0 0 0 0)])=some (.next,s',cE,p'))(k:topRun treeTable pp w 11 an N s' (restOf (l.drop m) env cE p' [topFrame (ps 0 0 0 0)])=some r):topRun treeTable pp w 11 an (n+N) s (restOf l env cE pos [topFrame (ps 0 0 0 0)])=some r:=by
 have e:=piece_app h k
 rw[List.take_append_drop] at e
 exact e
theorem run(w:World)(os:OsState):topRun treeTable pp w 11 an (12+(1+(2000+(2000+(2000+(2000+(2000+5))))))) ⟨boot_heap w.params,Array.mk [],boot_drawn,boot_toks,os⟩ (topStub pp)=some ⟨H1 w.params,Array.mk [],boot_drawn,1067,os⟩:=
 go_top (pre w os) (piece_block (Pb w os) (pc (segRun_of (g0 w os)) (pc (segRun_of (g1 w os)) (pc (segRun_of (g2 w os)) (pc (segRun_of (g3 w os)) (pc (segRun_of (g4 w os)) (fin w os)))))))
noncomputable def pk(ns:List Nat):List Stmt->List Stmt:=List.rec (λZ=>[]) (λn Z f l=>l.take n++f (l.drop (n+1))) ns
noncomputable def qv:Program:={pp with main:={pp.main with body:=pk [1,4,3,9,5,5,7,8,36] pp.main.body}}
noncomputable def rj:DefRec:=(recsOf qv).getLastD ⟨Str.empty,default,[],default,default⟩
theorem d1:defOf qv PySem.Challenge.rw_uf020001_10.row.name=some (rj,[]):=by kernel_rfl
theorem d2:pp.theDef PySem.Challenge.rw_uf020001_10.row.name=some (rj.params,rj.body,rj.scope):=by kernel_rfl
theorem d3:kwWritten? rj.params.kwonlyargs rj.params.kw_defaults=some []:=by kernel_rfl
noncomputable abbrev lo:List Str:=[]
noncomputable abbrev lv:List (Str×WData):=[]
noncomputable abbrev Pc:OpenRow:=PySem.Challenge.rw_uf020001_10.row
noncomputable abbrev Xt(s:Shared):Bool:=xlAt qv lv s&&recOk (RowW.records Pc.toRowW) s
noncomputable abbrev sF(w:World)(os:OsState):Shared:=⟨H1 w.params,Array.mk [],boot_drawn,1067,os⟩
theorem size(w:World):((boot_heap w.params).isNs mainGlobals&&(Array.mk []:Array GenState).size==0,(boot_heap w.params).objs.size,(boot_heap w.params).nsMap mainGlobals "__annotations__")=(true,11,an):=by kernel_rfl
theorem Pe(w:World):(fencedOpening treeTable pp w 20000).map (λs=>(s.heap,s.gens,s.drawn,s.toks))=some (boot_heap w.params,Array.mk [],boot_drawn,boot_toks):=boot_open (by kernel_rfl) (by decide) (λs=>by kernel_rfl) w
theorem k1(w:World)(os:OsState):(staticsOk (importedModules pp.main.body) (boot_heap w.params) (H1 w.params)&&namesBound pp (H1 w.params)&&gensDone (sF w os)&&laidKept (boot_heap w.params) (H1 w.params))=true:=by kernel_rfl
theorem n1(w:World)(os:OsState):seen ((recsOf qv).map (·.name)) (ownsOf qv) [] {sF w os with gens:=#[]}=expectedOf qv:=by kernel_rfl
theorem n2(w:World)(os:OsState):(sF w os).heap.bltView=bltViewBooted:=by kernel_rfl
theorem n3(w:World)(os:OsState):((sF w os).heap.keysOk (looseW qv lo) ((recsOf qv).map (·.name)) ((litsOf qv).map (·.1)) ((clssOf qv (looseW qv lo)).map (·.name))&&(sF w os).heap.accountedOkI (importedModules pp.main.body)&&(sF w os).heap.isNs mainGlobals&&(sF w os).heap.isNs builtinsNs&&tablesOk qv (sF w os).heap&&Xt (sF w os)&&(if true then(sF w os).gens.size==0 else !leftWithCleanup (sF w os).gens))=true:=by kernel_rfl
theorem n4(w:World)(os:OsState):tabsOk qv (sF w os)=true:=by kernel_rfl
theorem n5(w:World)(os:OsState):pinSeenD qv (drecsOf qv) (sF w os)=pinGoodD (drecsOf qv):=by kernel_rfl
theorem n6(w:World)(os:OsState):plainSeenE qv (looseW qv lo) (sF w os)=plainGoodE qv (looseW qv lo):=by kernel_rfl
theorem n7(w:World)(os:OsState):plainSeenD qv lo (sF w os)=plainGoodD qv lo:=by kernel_rfl
theorem n8(w:World)(os:OsState):wideSeen qv (sF w os)=wideGood qv:=by kernel_rfl
theorem n9(w:World)(os:OsState):clsSeenW qv lo (sF w os)=clsGoodW qv lo:=by kernel_rfl
theorem pr{α β:Type}{a a':α}{b b':β}(x:a=a')(y:b=b'):(a,b)=(a',b'):=by rw[x,y]
theorem sn(w:World)(os:OsState):openSeen qv lo (importedModules pp.main.body) Xt true (sF w os)=openGood qv lo:=pr (n1 w os) (pr (n2 w os) (pr (n3 w os) (pr (n4 w os) (pr (n5 w os) (pr (n6 w os) (pr (n7 w os) (pr (n8 w os) (n9 w os))))))))
end Mine.H
namespace Mine.P
open PySem
theorem Pf{n:Nat}{x0 x1 x2:V}{H:Hp}{Q Y:PQ}(h:aM ⟨aA n,xq Y⟩ CG [some x0,some x1,some x2,none,none,none,none] H (bF Q)):aA (n+1) iW [x0,x1,x2] H Q Y:=⟨⟨rfl,by decide⟩,h⟩
theorem Pg{n:Nat}{x0 x1 x2:V}{H:Hp}{Q Y:PQ}(h:aM ⟨aA n,xq Y⟩ CH [some x0,some x1,some x2,none,none,none,none] H (bF Q)):aA (n+1) t7 [x0,x1,x2] H Q Y:=⟨⟨rfl,by decide⟩,h⟩
theorem Ph{n:Nat}{x0 x1 x2:V}{H:Hp}{Q Y:PQ}(h:aM ⟨aA n,xq Y⟩ CI [some x0,some x1,some x2,none,none] H (bF Q)):aA (n+1) qo [x0,x1,x2] H Q Y:=⟨⟨rfl,by decide⟩,h⟩
theorem Pj{n:Nat}{x0 x1 x2:V}{H:Hp}{Q Y:PQ}(h:aM ⟨aA n,xq Y⟩ CJ [some x0,some x1,some x2,none] H (bF Q)):aA (n+1) qp [x0,x1,x2] H Q Y:=⟨⟨rfl,by decide⟩,h⟩
theorem Pk{n:Nat}{x0 x1 x2:V}{H:Hp}{Q Y:PQ}(h:aM ⟨aA n,xq Y⟩ CL [some x0,some x1,some x2,none,none,none] H (bF Q)):aA (n+1) yU [x0,x1,x2] H Q Y:=⟨⟨rfl,by decide⟩,h⟩
theorem Pl{n:Nat}{x0 x1 x2 x3:V}{H:Hp}{Q Y:PQ}(h:aM ⟨aA n,xq Y⟩ CM [some x0,some x1,some x2,some x3,none,none,none,none] H (bF Q)):aA (n+1) yV [x0,x1,x2,x3] H Q Y:=⟨⟨rfl,by decide⟩,h⟩
theorem Pm{n:Nat}{x0 x1 x2:V}{H:Hp}{Q Y:PQ}(h:aM ⟨aA n,xq Y⟩ wg [some x0,some x1,some x2,none,none,none,none,none] H (bF Q)):aA (n+1) yW [x0,x1,x2] H Q Y:=⟨⟨rfl,by decide⟩,h⟩
theorem Pn{n:Nat}{x0 x1:V}{H:Hp}{Q Y:PQ}(h:aM ⟨aA n,xq Y⟩ zd [some x0,some x1,none,none,none] H (bF Q)):aA (n+1) jJ [x0,x1] H Q Y:=⟨⟨rfl,by decide⟩,h⟩
theorem Po{n:Nat}{x0 x1:V}{H:Hp}{Q Y:PQ}(h:aM ⟨aA n,xq Y⟩ CN [some x0,some x1] H (bF Q)):aA (n+1) r9 [x0,x1] H Q Y:=⟨⟨rfl,by decide⟩,h⟩
theorem Pp{n:Nat}{x0 x1:V}{H:Hp}{Q Y:PQ}(h:aM ⟨aA n,xq Y⟩ CO [some x0,some x1] H (bF Q)):aA (n+1) vV [x0,x1] H Q Y:=⟨⟨rfl,by decide⟩,h⟩
theorem Pq{n:Nat}{x0 x1:V}{H:Hp}{Q Y:PQ}(h:aM ⟨aA n,xq Y⟩ CP [some x0,some x1] H (bF Q)):aA (n+1) qq [x0,x1] H Q Y:=⟨⟨rfl,by decide⟩,h⟩
theorem Ps{n:Nat}{x0 x1:V}{H:Hp}{Q Y:PQ}(h:aM ⟨aA n,xq Y⟩ CQ [some x0,some x1] H (bF Q)):aA (n+1) t8 [x0,x1] H Q Y:=⟨⟨rfl,by decide⟩,h⟩
theorem Pu{n:Nat}{x0 x1 x2 x3:V}{H:Hp}{Q Y:PQ}(h:aM ⟨aA n,xq Y⟩ CR [some x0,some x1,some x2,some x3,none,none,none,none,none,none,none] H (bF Q)):aA (n+1) vW [x0,x1,x2,x3] H Q Y:=⟨⟨rfl,by decide⟩,h⟩
theorem Pw{n:Nat}{x0 x1 x2:V}{H:Hp}{Q Y:PQ}(h:aM ⟨aA n,xq Y⟩ CS [some x0,some x1,some x2] H (bF Q)):aA (n+1) sd [x0,x1,x2] H Q Y:=⟨⟨rfl,by decide⟩,h⟩
theorem Px{n:Nat}{x0 x1 x2 x3:V}{H:Hp}{Q Y:PQ}(h:aM ⟨aA n,xq Y⟩ CT [some x0,some x1,some x2,some x3] H (bF Q)):aA (n+1) vX [x0,x1,x2,x3] H Q Y:=⟨⟨rfl,by decide⟩,h⟩
theorem Py{n:Nat}{x0 x1 x2:V}{H:Hp}{Q Y:PQ}(h:aM ⟨aA n,xq Y⟩ CU [some x0,some x1,some x2,none,none,none,none,none,none,none,none] H (bF Q)):aA (n+1) yX [x0,x1,x2] H Q Y:=⟨⟨rfl,by decide⟩,h⟩
theorem Pz{n:Nat}{x0 x1 x2:V}{H:Hp}{Q Y:PQ}(h:aM ⟨aA n,xq Y⟩ CV [some x0,some x1,some x2,none,none,none] H (bF Q)):aA (n+1) yY [x0,x1,x2] H Q Y:=⟨⟨rfl,by decide⟩,h⟩
theorem PA{n:Nat}{x0 x1 x2:V}{H:Hp}{Q Y:PQ}(h:aM ⟨aA n,xq Y⟩ CW [some x0,some x1,some x2,none,none,none,none,none] H (bF Q)):aA (n+1) yZ [x0,x1,x2] H Q Y:=⟨⟨rfl,by decide⟩,h⟩
theorem PB{n:Nat}{x0 x1 x2 x3:V}{H:Hp}{Q Y:PQ}(h:aM ⟨aA n,xq Y⟩ CX [some x0,some x1,some x2,some x3,none,none,none,none,none,none,none] H (bF Q)):aA (n+1) y0 [x0,x1,x2,x3] H Q Y:=⟨⟨rfl,by decide⟩,h⟩
theorem PC{n:Nat}{x0 x1 x2:V}{H:Hp}{Q Y:PQ}(h:aM ⟨aA n,xq Y⟩ CY [some x0,some x1,some x2,none,none] H (bF Q)):aA (n+1) y1 [x0,x1,x2] H Q Y:=⟨⟨rfl,by decide⟩,h⟩
theorem PD{n:Nat}{x0 x1:V}{H:Hp}{Q Y:PQ}(h:aM ⟨aA n,xq Y⟩ CZ [some x0,some x1] H (bF Q)):aA (n+1) y3 [x0,x1] H Q Y:=⟨⟨rfl,by decide⟩,h⟩
theorem PE{n:Nat}{x0 x1:V}{H:Hp}{Q Y:PQ}(h:aM ⟨aA n,xq Y⟩ ze [some x0,some x1,none,none,none,none,none,none,none,none,none,none,none,none] H (bF Q)):aA (n+1) y4 [x0,x1] H Q Y:=⟨⟨rfl,by decide⟩,h⟩
theorem PF{n:Nat}{x0 x1 x2:V}{H:Hp}{Q Y:PQ}(h:aM ⟨aA n,xq Y⟩ C0 [some x0,some x1,some x2] H (bF Q)):aA (n+1) oI [x0,x1,x2] H Q Y:=⟨⟨rfl,by decide⟩,h⟩
theorem PG{n:Nat}{x0:V}{H:Hp}{Q Y:PQ}(h:aM ⟨aA n,xq Y⟩ C1 [some x0] H (bF Q)):aA (n+1) km [x0] H Q Y:=⟨⟨rfl,by decide⟩,h⟩
theorem PH{n:Nat}{x0:V}{H:Hp}{Q Y:PQ}(h:aM ⟨aA n,xq Y⟩ C2 [some x0] H (bF Q)):aA (n+1) mC [x0] H Q Y:=⟨⟨rfl,by decide⟩,h⟩
theorem PI{n:Nat}{x0 x1:V}{H:Hp}{Q Y:PQ}(h:aM ⟨aA n,xq Y⟩ C3 [some x0,some x1] H (bF Q)):aA (n+1) iX [x0,x1] H Q Y:=⟨⟨rfl,by decide⟩,h⟩
theorem Fq{n:Nat}{x0:V}{H:Hp}{Q Y:PQ}(h:aM ⟨aA n,xq Y⟩ C4 [some x0] H (bF Q)):aA (n+1) lX [x0] H Q Y:=⟨⟨rfl,by decide⟩,h⟩
theorem PJ{n:Nat}{x0 x1:V}{H:Hp}{Q Y:PQ}(h:aM ⟨aA n,xq Y⟩ zf [some x0,some x1,none,none,none] H (bF Q)):aA (n+1) lY [x0,x1] H Q Y:=⟨⟨rfl,by decide⟩,h⟩
theorem PK{n:Nat}{x0 x1 x2:V}{H:Hp}{Q Y:PQ}(h:aM ⟨aA n,xq Y⟩ zg [some x0,some x1,some x2,none,none] H (bF Q)):aA (n+1) nG [x0,x1,x2] H Q Y:=⟨⟨rfl,by decide⟩,h⟩
theorem PM{n:Nat}{x0 x1:V}{H:Hp}{Q Y:PQ}(h:aM ⟨aA n,xq Y⟩ C5 [some x0,some x1,none,none,none,none,none,none,none,none,none] H (bF Q)):aA (n+1) y7 [x0,x1] H Q Y:=⟨⟨rfl,by decide⟩,h⟩
theorem PN{n:Nat}{x0 x1:V}{H:Hp}{Q Y:PQ}(h:aM ⟨aA n,xq Y⟩ C6 [some x0,some x1,none,none,none,none,none,none,none,none,none] H (bF Q)):aA (n+1) y8 [x0,x1] H Q Y:=⟨⟨rfl,by decide⟩,h⟩
theorem PO{n:Nat}{x0 x1 x2:V}{H:Hp}{Q Y:PQ}(h:aM ⟨aA n,xq Y⟩ C7 [some x0,some x1,some x2] H (bF Q)):aA (n+1) oJ [x0,x1,x2] H Q Y:=⟨⟨rfl,by decide⟩,h⟩
theorem PP{n:Nat}{x0 x1:V}{H:Hp}{Q Y:PQ}(h:aM ⟨aA n,xq Y⟩ zh [some x0,some x1,none] H (bF Q)):aA (n+1) vY [x0,x1] H Q Y:=⟨⟨rfl,by decide⟩,h⟩
theorem PR{n:Nat}{x0 x1 x2:V}{H:Hp}{Q Y:PQ}(h:aM ⟨aA n,xq Y⟩ C8 [some x0,some x1,some x2] H (bF Q)):aA (n+1) se [x0,x1,x2] H Q Y:=⟨⟨rfl,by decide⟩,h⟩
theorem PS{n:Nat}{x0 x1 x2:V}{H:Hp}{Q Y:PQ}(h:aM ⟨aA n,xq Y⟩ C9 [some x0,some x1,some x2,none,none,none,none,none,none,none,none] H (bF Q)):aA (n+1) y9 [x0,x1,x2] H Q Y:=⟨⟨rfl,by decide⟩,h⟩
theorem PT{n:Nat}{x0 x1 x2:V}{H:Hp}{Q Y:PQ}(h:aM ⟨aA n,xq Y⟩ Dc [some x0,some x1,some x2,none,none,none,none,none] H (bF Q)):aA (n+1) za [x0,x1,x2] H Q Y:=⟨⟨rfl,by decide⟩,h⟩
theorem PU{n:Nat}{x0 x1 x2:V}{H:Hp}{Q Y:PQ}(h:aM ⟨aA n,xq Y⟩ Dd [some x0,some x1,some x2,none,none,none,none,none] H (bF Q)):aA (n+1) zb [x0,x1,x2] H Q Y:=⟨⟨rfl,by decide⟩,h⟩
theorem PV{n:Nat}{x0 x1:V}{H:Hp}{Q Y:PQ}(h:aM ⟨aA n,xq Y⟩ De [some x0,some x1,none,none,none] H (bF Q)):aA (n+1) qr [x0,x1] H Q Y:=⟨⟨rfl,by decide⟩,h⟩
theorem PW{n:Nat}{x0 x1:V}{H:Hp}{Q Y:PQ}(h:aM ⟨aA n,xq Y⟩ Df [some x0,some x1,none,none,none] H (bF Q)):aA (n+1) vZ [x0,x1] H Q Y:=⟨⟨rfl,by decide⟩,h⟩
theorem PX{n:Nat}{x0:V}{H:Hp}{Q Y:PQ}(h:aM ⟨aA n,xq Y⟩ zi [some x0,none] H (bF Q)):aA (n+1) t9 [x0] H Q Y:=⟨⟨rfl,by decide⟩,h⟩
theorem u5{n:Nat}{x0 x1:V}{H:Hp}{Q Y:PQ}(h:aM ⟨aA n,xq Y⟩ Dg [some x0,some x1] H (bF Q)):aA (n+1) oK [x0,x1] H Q Y:=⟨⟨rfl,by decide⟩,h⟩
theorem PY{n:Nat}{x0 x1:V}{H:Hp}{Q Y:PQ}(h:aM ⟨aA n,xq Y⟩ Dh [some x0,some x1,none,none] H (bF Q)):aA (n+1) oM [x0,x1] H Q Y:=⟨⟨rfl,by decide⟩,h⟩
theorem PZ{n:Nat}{x0 x1:V}{H:Hp}{Q Y:PQ}(h:aM ⟨aA n,xq Y⟩ Di [some x0,some x1] H (bF Q)):aA (n+1) v0 [x0,x1] H Q Y:=⟨⟨rfl,by decide⟩,h⟩
theorem P0{n:Nat}{x0 x1 x2:V}{H:Hp}{Q Y:PQ}(h:aM ⟨aA n,xq Y⟩ zj [some x0,some x1,some x2] H (bF Q)):aA (n+1) sf [x0,x1,x2] H Q Y:=⟨⟨rfl,by decide⟩,h⟩
theorem Fs{n:Nat}{x0:V}{H:Hp}{Q Y:PQ}(h:aM ⟨aA n,xq Y⟩ Dj [some x0] H (bF Q)):aA (n+1) sg [x0] H Q Y:=⟨⟨rfl,by decide⟩,h⟩
theorem Ft{n:Nat}{x0:V}{H:Hp}{Q Y:PQ}(h:aM ⟨aA n,xq Y⟩ Dk [some x0] H (bF Q)):aA (n+1) sh [x0] H Q Y:=⟨⟨rfl,by decide⟩,h⟩
theorem VY{n:Nat}{x0 x1 x2:V}{H:Hp}{Q Y:PQ}(h:aM ⟨aA n,xq Y⟩ Dl [some x0,some x1,some x2,none,none,none] H (bF Q)):aA (n+1) CD [x0,x1,x2] H Q Y:=⟨⟨rfl,by decide⟩,h⟩
theorem VZ{n:Nat}{x0 x1:V}{H:Hp}{Q Y:PQ}(h:aM ⟨aA n,xq Y⟩ Dm [some x0,some x1,none,none,none,none] H (bF Q)):aA (n+1) CE [x0,x1] H Q Y:=⟨⟨rfl,by decide⟩,h⟩
theorem V0{n:Nat}{x0 x1 x2 x3:V}{H:Hp}{Q Y:PQ}(h:aM ⟨aA n,xq Y⟩ Dn [some x0,some x1,some x2,some x3,none] H (bF Q)):aA (n+1) CF [x0,x1,x2,x3] H Q Y:=⟨⟨rfl,by decide⟩,h⟩
theorem P1{n:Nat}{x0 x1 x2 x3:V}{H:Hp}{Q Y:PQ}(h:aM ⟨aA n,xq Y⟩ zk [some x0,some x1,some x2,some x3] H (bF Q)):aA (n+1) v5 [x0,x1,x2,x3] H Q Y:=⟨⟨rfl,by decide⟩,h⟩
theorem P2{n:Nat}{x0 x1:V}{H:Hp}{Q Y:PQ}(h:aM ⟨aA n,xq Y⟩ zl [some x0,some x1,none,none,none] H (bF Q)):aA (n+1) si [x0,x1] H Q Y:=⟨⟨rfl,by decide⟩,h⟩
theorem P4{n:Nat}{x0 x1:V}{H:Hp}{Q Y:PQ}(h:aM ⟨aA n,xq Y⟩ zm [some x0,some x1,none,none,none,none,none,none,none,none] H (bF Q)):aA (n+1) mD [x0,x1] H Q Y:=⟨⟨rfl,by decide⟩,h⟩
theorem P5{n:Nat}{x0:V}{H:Hp}{Q Y:PQ}(h:aM ⟨aA n,xq Y⟩ qu [some x0,none,none,none,none,none,none] H (bF Q)):aA (n+1) v6 [x0] H Q Y:=⟨⟨rfl,by decide⟩,h⟩
theorem P6{n:Nat}{x0 x1 x2:V}{H:Hp}{Q Y:PQ}(h:aM ⟨aA n,xq Y⟩ Do [some x0,some x1,some x2] H (bF Q)):aA (n+1) kZ [x0,x1,x2] H Q Y:=⟨⟨rfl,by decide⟩,h⟩
theorem P7{n:Nat}{x0 x1:V}{H:Hp}{Q Y:PQ}(h:aM ⟨aA n,xq Y⟩ zo [some x0,some x1,none,none,none,none,none,none,none,none] H (bF Q)):aA (n+1) v7 [x0,x1] H Q Y:=⟨⟨rfl,by decide⟩,h⟩
theorem P8{n:Nat}{x0:V}{H:Hp}{Q Y:PQ}(h:aM ⟨aA n,xq Y⟩ zp [some x0,none,none,none,none,none,none,none,none,none] H (bF Q)):aA (n+1) oN [x0] H Q Y:=⟨⟨rfl,by decide⟩,h⟩
theorem P9{n:Nat}{x0:V}{H:Hp}{Q Y:PQ}(h:aM ⟨aA n,xq Y⟩ zq [some x0] H (bF Q)):aA (n+1) ua [x0] H Q Y:=⟨⟨rfl,by decide⟩,h⟩
theorem Qa{n:Nat}{x0 x1:V}{H:Hp}{Q Y:PQ}(h:aM ⟨aA n,xq Y⟩ Dp [some x0,some x1] H (bF Q)):aA (n+1) gP [x0,x1] H Q Y:=⟨⟨rfl,by decide⟩,h⟩
theorem Qb{n:Nat}{x0 x1 x2:V}{H:Hp}{Q Y:PQ}(h:aM ⟨aA n,xq Y⟩ Dq [some x0,some x1,some x2] H (bF Q)):aA (n+1) sj [x0,x1,x2] H Q Y:=⟨⟨rfl,by decide⟩,h⟩
theorem Qc{n:Nat}{x0:V}{H:Hp}{Q Y:PQ}(h:aM ⟨aA n,xq Y⟩ Dr [some x0,none,none,none] H (bF Q)):aA (n+1) qt [x0] H Q Y:=⟨⟨rfl,by decide⟩,h⟩
theorem Qd{n:Nat}{x0 x1 x2:V}{H:Hp}{Q Y:PQ}(h:aM ⟨aA n,xq Y⟩ wi [some x0,some x1,some x2,none] H (bF Q)):aA (n+1) v8 [x0,x1,x2] H Q Y:=⟨⟨rfl,by decide⟩,h⟩
theorem Qe{n:Nat}{x0 x1 x2 x3:V}{H:Hp}{Q Y:PQ}(h:aM ⟨aA n,xq Y⟩ sk [some x0,some x1,some x2,some x3,none,none,none,none,none] H (bF Q)):aA (n+1) v9 [x0,x1,x2,x3] H Q Y:=⟨⟨rfl,by decide⟩,h⟩
theorem Qf{n:Nat}{x0 x1 x2:V}{H:Hp}{Q Y:PQ}(h:aM ⟨aA n,xq Y⟩ zr [some x0,some x1,some x2,none] H (bF Q)):aA (n+1) oO [x0,x1,x2] H Q Y:=⟨⟨rfl,by decide⟩,h⟩
theorem Qg{n:Nat}{x0 x1 x2 x3:V}{H:Hp}{Q Y:PQ}(h:aM ⟨aA n,xq Y⟩ wj [some x0,some x1,some x2,some x3,none,none,none] H (bF Q)):aA (n+1) wa [x0,x1,x2,x3] H Q Y:=⟨⟨rfl,by decide⟩,h⟩
theorem Qh{n:Nat}{x0 x1 x2:V}{H:Hp}{Q Y:PQ}(h:aM ⟨aA n,xq Y⟩ Ds [some x0,some x1,some x2,none,none,none,none,none,none,none,none,none] H (bF Q)):aA (n+1) wb [x0,x1,x2] H Q Y:=⟨⟨rfl,by decide⟩,h⟩
theorem Qi{n:Nat}{x0 x1 x2:V}{H:Hp}{Q Y:PQ}(h:aM ⟨aA n,xq Y⟩ Dt [some x0,some x1,some x2,none,none,none,none,none,none] H (bF Q)):aA (n+1) wc [x0,x1,x2] H Q Y:=⟨⟨rfl,by decide⟩,h⟩
theorem Qj{n:Nat}{x0 x1 x2 x3:V}{H:Hp}{Q Y:PQ}(h:aM ⟨aA n,xq Y⟩ zt [some x0,some x1,some x2,some x3,none,none,none,none,none] H (bF Q)):aA (n+1) we [x0,x1,x2,x3] H Q Y:=⟨⟨rfl,by decide⟩,h⟩
theorem Qk{n:Nat}{x0:V}{H:Hp}{Q Y:PQ}(h:aM ⟨aA n,xq Y⟩ Du [some x0] H (bF Q)):aA (n+1) ub [x0] H Q Y:=⟨⟨rfl,by decide⟩,h⟩
theorem Ql{n:Nat}{x0:V}{H:Hp}{Q Y:PQ}(h:aM ⟨aA n,xq Y⟩ Dv [some x0] H (bF Q)):aA (n+1) zc [x0] H Q Y:=⟨⟨rfl,by decide⟩,h⟩
end Mine.P
namespace Mine.L
variable{Y:PQ}
theorem ay{α:Type}{o:Option α}{f:α->Prop}{a:α}(e:o=some a)(h:f a):aJ o f:=by rw[e];exact h
theorem tm{α:Type}{o:Option α}{f g:α->Prop}(h:aJ o f)(k:∀a,f a->g a):aJ o g:=by
 cases o
 ·exact h
 ·exact k _ h
section
variable{ws:List Nat}{H₀:Hp}{t:cN}{K:Out->Prop}
theorem Qm{body:aP->Hp->(Out->Prop)->Prop}(I:List V->aP->Hp->Prop)(step:∀v vs ρ H,I (v::vs) ρ H->aJ (aN t v ρ) λbV=>∀N:aP->Hp->Prop,(∀fj H₁,eF ws H₀ H₁=true->I vs fj H₁->N fj H₁)->body bV H (mJ K N))(fin:∀ρ H,I [] ρ H->K (.next ρ H)):∀vs ρ H,I vs ρ H->md ws H₀ t body vs ρ H K
 |[],ρ,H,h=>fin ρ H h
 |v::vs,ρ,H,h=>tm (step v vs ρ H h) λbV hb=>hb _ λfj H₁ hs hi=>⟨hs,Qm I step fin vs fj H₁ hi⟩
theorem Aq{test:aP->Hp->(Bool->Hp->Prop)->Prop}{body:aP->Hp->(Out->Prop)->Prop}(I:Nat->aP->Hp->Prop)(step:∀n ρ H,I n ρ H->∀T:Bool->Hp->Prop,(∀H',(∀N:aP->Hp->Prop,(∀m fj H₁,m<n->I m fj H₁->N fj H₁)->body ρ H' (mJ K N))->T true H')->(∀H',K (.next ρ H')->T false H')->test ρ H T):∀k n ρ H,n<k->I n ρ H->wF test body k ρ H K
 |0,n,ρ,H,hk,h=>absurd hk (not_lt_zero _)
 |k+1,n,ρ,H,hk,h=>step n ρ H h _ (λH' hb=>hb _ λm fj H₁ hm hi=>Aq I step k m fj H₁ (lt_of_lt_of_le hm (le_of_lt_succ hk)) hi) (λH' hk=>hk)
end
end Mine.L
namespace Mine.L
variable{Y:PQ}
open Mine.P
noncomputable def Ar(a b:Int)(H:Hp)(n:Nat)(ρ:aP)(H':Hp):Prop:=∀PartIζ:Prop,(∀(x y:Int) (z:Option V) (e:ρ=[some (.int a),some (.int b),some (.int x),some (.int y),z]) (eh:H'=H) (hy:0<=y) (hn:n=y.toNat) (hg:gcd x y=gcd a b) (hx:y=0->0<=x),PartIζ)->PartIζ
theorem Ar.mk{a b:Int}{H:Hp}{n:Nat}{ρ:aP}{H':Hp}(x y:Int)(z:Option V)(e:ρ=[some (.int a),some (.int b),some (.int x),some (.int y),z])(eh:H'=H)(hy:0<=y)(hn:n=y.toNat)(hg:gcd x y=gcd a b)(hx:y=0->0<=x):Ar a b H n ρ H':=λZ bZ=>bZ x y z e eh hy hn hg hx
theorem Fu{C:Ct}{a b:Int}{H:Hp}{Q:PQ}(hb:0<b)(k:Q (.aF [.int (a.fdiv (gcd a b)),.int (b.fdiv (gcd a b))]) H):aM C zd [some (.int a),some (.int b),none,none,none] H (bF Q):=by
 refine Aq (K:=_) (Ar a b H) (λm ρ H' h T ht hf=>?_) _ b.toNat _ _ ?_ (.mk a b none rfl rfl (Int.le_of_lt hb) rfl rfl (λe=>absurd e (Int.ne_of_gt hb)))
 ·refine h _ λx y z e eh hy hn hg hx=>?_
  subst e eh
  refine(?_:T (decide (y>0)) _)
  by_cases ro:y>0
  ·rw[decide_eq_true ro]
   refine ht _ λN hN=>?_
   refine(?_:aJ (binI .mod x y) _)
   refine ay (a:=x.fmod y) (if_neg (Int.ne_of_gt ro)) ?_
   have hm:x.fmod y=x - (x/y)*y:=by rw[Int.fmod_eq_emod_of_nonneg x hy,Int.emod_def,Int.mul_comm]
   exact hN (x.fmod y).toNat _ _ (by rw[hn,Int.fmod_eq_emod_of_nonneg x hy];exact(Int.toNat_lt_toNat ro).mpr (Int.emod_lt_of_pos x ro)) (.mk y (x.fmod y) _ rfl rfl (by rw[Int.fmod_eq_emod_of_nonneg x hy];exact Int.emod_nonneg x (Int.ne_of_gt ro)) rfl (by rw[hm,Int.gcd_sub_mul_right_right,Int.gcd_comm];exact hg) (λZ=>hy))
  ·rw[decide_eq_false ro]
   refine hf _ ?_
   obtain rfl:y=0:=Int.le_antisymm (Int.not_lt.mp ro) hy
   have qT:x=((gcd a b:Nat):Int):=by rw[<-hg,Int.gcd_zero_right];exact(Int.natAbs_of_nonneg (hx rfl)).symm
   have Fv:((gcd a b:Nat):Int)≠0:=λh=>absurd (Int.gcd_eq_zero_iff.mp (ofNat.inj h)).2 (Int.ne_of_gt hb)
   subst qT
   refine(?_:aJ (binI .fdiv a _) _)
   refine ay (if_neg Fv) ?_
   refine(?_:aJ (binI .fdiv b _) _)
   exact ay (if_neg Fv) k
 ·refine(?_:b.toNat<weight [some (.int a),some (.int b),some (.int a),some (.int b),none])
  refine(?_:b.toNat<a.natAbs+(b.natAbs+(a.natAbs+(b.natAbs+1000))))
  lia
section
variable{n:Nat}{a b:Int}{H:Hp}{Q:PQ}(hb:0<b)(k:Q (.aF [.int (a.fdiv (gcd a b)),.int (b.fdiv (gcd a b))]) H)
include hb k
theorem Qn:aA (n+1) jJ [.int a,.int b] H Q Y:=Pn (Fu hb k)
theorem Qo:aA (n+1) qr [.int a,.int b] H Q Y:=PV (Fu hb k)
end
end Mine.L
namespace Mine.L
variable{Y:PQ}
open Mine.P
theorem ck{t:Bool}{A B:Prop}(h1:t=true->A)(h2:t=false->B):bx t A B:=by
 cases t
 ·exact h2 rfl
 ·exact h1 rfl
section
variable{n:Nat}{H:Hp}{Q:PQ}
theorem mX{k:Nat}(q:Q (.int (X.is.getD k 0)) H):aA (n+1) iX [.dU,.int k] H Q Y:=PI (by
 refine(?_:bx (decide ((k:Int)<((X.is.map V.int).length:Int))) _ _)
 refine ck (λh=>?_) λh=>?_
 ·have hk:k<X.is.length:=by have:=of_decide_eq_true h;rw[length_map] at this;exact ofNat_lt.mp this
  refine(?_:aJ (k8 (X.is.map V.int) (k:Int)) _)
  refine ay (a:=.int (X.is.getD k 0)) ?_ q
  rw[show k8 (X.is.map V.int) (k:Int)=(X.is.map V.int)[k]? from if_pos (natCast_nonneg k),getElem?_map,getElem?_eq_getElem hk,getD_eq_getElem?_getD,getElem?_eq_getElem hk];rfl
 ·have hk:¬k<X.is.length:=λhk=>absurd (of_decide_eq_false h) (not_not_intro (by rw[length_map];exact ofNat_lt.mpr hk))
  rw[getD_eq_getElem?_getD,List.getElem?_eq_none_iff.mpr (Nat.le_of_not_lt hk)] at q
  exact q)
end
end Mine.L
namespace Mine.L
variable{Y:PQ}
open Mine.P
noncomputable abbrev nv(k:Nat):V:=.int (k:Int)
noncomputable abbrev aV(l:List Nat):List V:=l.map nv
structure aG where
 aQ:Int
 bS:List Nat
 ad:Option (Int×List Nat)
 bM:Option Int
noncomputable def g9:Option Int->V
 |none=>.none
 |some d=>.int d
noncomputable def mY:Option (Int×List Nat)->V
 |none=>.none
 |some a=>.aF [.int a.1,.aF (aV a.2)]
noncomputable def bv(p:aG):V:=.aF [.int p.aQ,.aF (aV p.bS),mY p.ad,g9 p.bM]
noncomputable def before(d:Int):Option Int->Bool
 |none=>true
 |some e=>decide (d<e)
noncomputable def fq(p:aG)(d:Int):Bool:=decide (p.aQ<=d)&&before d p.bM
noncomputable def gU(p:aG)(d:Int):List Nat:=match p.ad with
 |none=>p.bS
 |some a=>if a.1<=d then a.2 else p.bS
noncomputable def aC(H H':Hp):Prop:=∀(l:Nat) (c:aZ),H[l]?=some c->H'[l]?=some c
theorem aC.refl(H:Hp):aC H H:=λZ Z h=>h
theorem aC.trans{H H₁ H₂:Hp}(a:aC H H₁)(b:aC H₁ H₂):aC H H₂:=λl c h=>b l c (a l c h)
theorem cu{H:Hp}{l:Nat}{c:aZ}(h:H[l]?=some c):l<H.length:=(List.getElem?_eq_some_iff.mp h).1
theorem be{H:Hp}{l:Nat}{c:aZ}(t:List aZ)(h:H[l]?=some c):(H++t)[l]?=some c:=(getElem?_append_left (cu h)).trans h
theorem aC.aR(H t:Hp):aC H (H++t):=λl c h=>be t h
theorem bj(H:Hp)(c:aZ):(H++[c])[H.length]?=some c:=List.getElem?_concat_length
theorem dN{H:Hp}{l:Nat}{c:aZ}(h:H[l]?=some c)(c':aZ):(H.set l c')[l]?=some c':=getElem?_set_self (cu h)
theorem dF{H:Hp}{l m:Nat}{c:aZ}(h:H[l]?=some c)(c':aZ)(hn:m≠l):(H.set m c')[l]?=some c:=(getElem?_set_ne hn).trans h
theorem aC.set{H H':Hp}(h:aC H H'){r:Nat}(hr:H.length<=r)(c:aZ):aC H (H'.set r c):=λl c' e=>dF (h l c' e) c λq=>absurd (cu e) (not_lt.mpr (q▸hr))
theorem aC.len{H H':Hp}(h:aC H H'):H.length<=H'.length:=by
 cases e:H.length with
 |zero=>exact zero_le _
 |succ k=>exact cu (h k _ (getElem?_eq_getElem (by rw[e];exact lt_succ_self k)))
section
variable{n:Nat}{H:Hp}{Q:PQ}{l k:Nat}{vs:List V}
theorem bP{f:Nat}{as:List V}(h:aA n f as H Q Y):aA n f as H Q Y:=h
theorem b7(h:H[l]?=some (.list vs)):dt H (.ref l)=some vs:=congrArg (Option.bind · oR) h
theorem cW(h:H[l]?=some (.list vs)):keysOf H (.ref l)=some vs:=by
 refine(?_:(match H[l]?.bind gQ with|some es=>_|none=>_)=_)
 rw[h]
 refine(?_:(match H[l]?.bind jM with|some es=>_|none=>k7 H (.ref l))=_)
 rw[h]
 exact b7 h
theorem Qp{α:Type}{l:List α}{a:α}(h:l[k]?=some a):k8 l (k:Int)=some a:=(if_pos (natCast_nonneg k)).trans h
theorem gH{v:V}(h:H[l]?=some (.list vs))(hv:vs[k]?=some v):fh (.ref l) (nv k) H=some v:=by
 refine(?_:(match dt H (.ref l) with|some vs=>k8 vs (k:Int)|none=>_)=_)
 rw[b7 h];exact Qp hv
theorem du{ps:List aG}{p:aG}(h:H[l]?=some (.list (ps.map bv)))(hv:ps[k]?=some p):fh (.ref l) (nv k) H=some (bv p):=gH h (by rw[getElem?_map,hv];rfl)
theorem oj{c:Prop}[Decidable c]{A B:Prop}(h1:c->A)(h2:¬c->B):bx (decide c) A B:=ck (λh=>h1 (of_decide_eq_true h)) λh=>h2 (of_decide_eq_false h)
theorem fR{t:Bool}{A B:Prop}(h1:t=true->A)(h2:t=false->B):bx (t==true) A B:=by
 cases t
 ·exact h2 rfl
 ·exact h1 rfl
theorem iG{t:Bool}{A B:Prop}(h1:t=false->A)(h2:t=true->B):bx (t==false) A B:=by
 cases t
 ·exact h1 rfl
 ·exact h2 rfl
theorem mZ{d:Int}{ps:List aG}{p:aG}(hA:H[l]?=some (.list (ps.map bv)))(hp:ps[k]?=some p)(q:Q (.bool (fq p d)) H):aA (n+1) iW [.ref l,nv k,.int d] H Q Y:=Pf (by
 apply ay (du hA hp)
 refine(?_:bx (decide (p.aQ<=d)==true) _ _)
 refine fR (λh=>?_) λh=>?_
 ·have q:Q (.bool (decide (p.aQ<=d)&&before d p.bM)) H:=q
  rw[h] at q
  cases hd:p.bM with
  |none=>rw[hd] at q;exact q
  |some e=>rw[hd] at q;exact q
 ·have q:Q (.bool (decide (p.aQ<=d)&&before d p.bM)) H:=q
  rw[h] at q
  refine(?_:Q (.bool (decide (p.aQ<=d))) H)
  rw[h];exact q)
end
end Mine.L
namespace Mine.L
variable{Y:PQ}
open Mine.P PySem
section
variable{ws:List Nat}{H₀:Hp}{t:cN}{K:Out->Prop}{α:Type}{g:α->V}
theorem ft{body:aP->Hp->(Out->Prop)->Prop}(I:List α->aP->Hp->Prop)(step:∀a as ρ H,I (a::as) ρ H->aJ (aN t (g a) ρ) λbV=>∀N:aP->Hp->Prop,(∀fj H₁,eF ws H₀ H₁=true->I as fj H₁->N fj H₁)->body bV H (mJ K N))(fin:∀ρ H,I [] ρ H->K (.next ρ H)):∀as ρ H,I as ρ H->md ws H₀ t body (as.map g) ρ H K
 |[],ρ,H,h=>fin ρ H h
 |a::as,ρ,H,h=>tm (step a as ρ H h) λbV hb=>hb _ λfj H₁ hs hi=>⟨hs,ft I step fin as fj H₁ hi⟩
theorem m8{test:aP->Hp->(Bool->Hp->Prop)->Prop}{elt:aP->Hp->PQ->Prop}{Q:List V->Hp->Prop}(I:List α->List V->aP->Hp->Prop)(step:∀a as acc ρ H,I (a::as) acc ρ H->aJ (aN t (g a) ρ) λbV=>∀N:List V->Hp->Prop,(∀acc' H',eF ws H₀ H'=true->I as acc' bV H'->N acc' H')->test bV H λb H₁=>bx b (elt bV H₁ λy H₂=>N (acc++[y]) H₂) (N acc H₁))(fin:∀acc ρ H,I [] acc ρ H->Q acc H):∀as acc ρ H,I as acc ρ H->g7 ws H₀ t test elt (as.map g) ρ H acc Q
 |[],acc,ρ,H,h=>fin acc ρ H h
 |a::as,acc,ρ,H,h=>tm (step a as acc ρ H h) λbV hb=>hb (λacc' H'=>eF ws H₀ H'=true/\g7 ws H₀ t test elt (as.map g) bV H' acc' Q) λacc' H' hs hi=>⟨hs,m8 I step fin as acc' bV H' hi⟩
end
section
variable{n:Nat}{H:Hp}{Q:PQ}{l k:Nat}{vs:List V}
theorem cz{t:Bool}{A:Prop}(e:t=true)(h:A):fE t A:=by rw[e];exact h
theorem cF{α:Type}{l:List α}(h:l.length<16000000):ma l=true:=decide_eq_true h
theorem fS{A:Prop}(h:H[l]?=some (.list vs))(a:A):fE ((dt H (.ref l)).isSome) A:=cz (congrArg isSome (b7 h)) a
theorem f9{v:V}(h:H[l]?=some (.list vs))(hs:vs.length<16000000)(q:Q .none (H.set l (.list (vs++[v])))):pg .append (.ref l) [v] H Q:=ay (b7 h) (cz (cF hs) q)
theorem mq{m:Nat}{f:List V->Prop}(h:m<1000000)(k:f ((List.range m).map nv)):uC (.int 0) (.int m) f:=by
 refine⟨⟨by decide,lt_trans (show(m:Int).natAbs<1000000 from h) (by decide)⟩,?_⟩
 have e:mI 0 m=(List.range m).map nv:=by
  unfold mI
  rw[Int.sub_zero]
  exact List.map_congr_left λi Z=>congrArg V.int (Int.zero_add _)
 rw[e];exact k
theorem c9{H':Hp}{c:aZ}(h:H[l]?=some c)(h':H'[l]?=some c):eF [l] H H'=true:=by
 refine(?_:(decide (H'[l]?=H[l]?)&&true)=true)
 rw[h,h',decide_eq_true rfl];rfl
theorem pE(i:Int):∀m,rd H m (.int i)=some (.int i)
 |0=>rfl
 |_+1=>rfl
theorem m9(m:Nat):∀ls:List Nat,eA (rd H m) (aV ls)=some (ls.map λi=>.int i)
 |[]=>rfl
 |a::r=>by
  refine(?_:(match rd H m (nv a),eA (rd H m) (aV r) with|some d,some ds=>some (d::ds)|_,_=>none)=_)
  rw[pE,m9 m r];rfl
theorem Fw(k:Nat):∀ls:List Nat,((ls.map λi:Nat=>PyData.int i).any λe=>PyData.eqv e (.int k))=decide (k∈ls)
 |[]=>rfl
 |a::r=>by
  rw[map_cons,any_cons,Fw k r]
  refine(?_:(((a:Int)==(k:Int))||decide (k∈r))=_)
  by_cases h:k=a
  ·rw[h,beq_self_eq_true];exact(decide_eq_true (mem_cons_self)).symm
  ·rw[show((a:Int)==(k:Int))=false from beq_eq_false_iff_ne.mpr λe=>h (ofNat.inj e).symm,Bool.false_or]
   exact decide_eq_decide.mpr ⟨λm=>.tail _ m,λm=>(mem_cons.mp m).resolve_left h⟩
theorem Fx{ls:List Nat}:oY H (nv k) (.aF (aV ls))=some (decide (k∈ls)):=by
 refine(?_:((eA (rd H 10) (aV ls)).bind λds=>some (ds.any λe=>PyData.eqv e (.int k)))=_)
 rw[m9]
 exact congrArg some (Fw k ls)
theorem Fy{ls:List Nat}(h:H[l]?=some (.list (aV ls))):oY H (nv k) (.ref l)=some (decide (k∈ls)):=by
 refine(?_:(match H[l]?.bind gQ with|some es=>_|none=>_)=_)
 rw[h]
 refine(?_:(match H[l]?.bind jM with|some es=>_|none=>(dt H (.ref l)).bind _)=_)
 rw[h,b7 h]
 exact Fx (ls:=ls)
theorem na{α:Type}{acc:List α}{a:α}{r tot:List α}{B:Nat}(e:acc++(a::r)=tot)(h:tot.length<=B):acc.length<B:=by
 rw[<-e,length_append,length_cons] at h;lia
theorem gp{α:Type}{acc:List α}{a:α}{r tot:List α}(e:acc++(a::r)=tot):(acc++[a])++r=tot:=by rw[append_assoc];exact e
theorem As{d:Int}{ps:List aG}{p:aG}(hA:H[l]?=some (.list (ps.map bv)))(hp:ps[k]?=some p)(q:Q (.aF (aV (gU p d))) H):aA (n+1) t7 [.ref l,nv k,.int d] H Q Y:=Pg (by
 apply ay (du hA hp)
 have q:Q (.aF (aV (match p.ad with|none=>p.bS|some a=>if a.1<=d then a.2 else p.bS))) H:=q
 unfold bv
 cases ha:p.ad with
 |none=>rw[ha] at q;exact q
 |some a=>
  rw[ha] at q
  refine(?_:bx (decide (a.1<=d)) _ _)
  exact oj (λh=>by rw[show(match(some a:Option (Int×List Nat)) with|none=>p.bS|some a=>if a.1<=d then a.2 else p.bS)=a.2 from if_pos h] at q;exact q) λh=>by rw[show(match(some a:Option (Int×List Nat)) with|none=>p.bS|some a=>if a.1<=d then a.2 else p.bS)=p.bS from if_neg h] at q;exact q)
noncomputable def lG(ps:List aG)(d:Int)(k c:Nat):Bool:=match ps[c]? with
 |some q=>decide (q.aQ<=d)&&decide (k∈gU q d)
 |none=>false
noncomputable def kids(ps:List aG)(d:Int)(k:Nat):List Nat:=(List.range ps.length).filter (lG ps d k)
noncomputable def Au(ps:List aG)(d:Int)(k l:Nat)(H:Hp)(as:List Nat)(ρ:aP)(H':Hp):Prop:=∀ChIζ:Prop,(∀(acc:List Nat) (o:Option V) (e:ρ=[some (.ref l),some (nv k),some (.int d),some (.ref H.length),o]) (x:aC H H') (a:H'[H.length]?=some (.list (aV acc))) (t:acc++as.filter (lG ps d k)=kids ps d k) (b:∀c∈as,c<ps.length),ChIζ)->ChIζ
theorem Au.mk{ps:List aG}{d:Int}{k l:Nat}{H:Hp}{as:List Nat}{ρ:aP}{H':Hp}(acc:List Nat)(o:Option V)(e:ρ=[some (.ref l),some (nv k),some (.int d),some (.ref H.length),o])(x:aC H H')(a:H'[H.length]?=some (.list (aV acc)))(t:acc++as.filter (lG ps d k)=kids ps d k)(b:∀c∈as,c<ps.length):Au ps d k l H as ρ H':=λZ bZ=>bZ acc o e x a t b
theorem rq(l:List Nat)(c:Nat):aV l++[nv c]=aV (l++[c]):=(map_append (l₁:=l) (l₂:=[c])).symm
theorem at_of{α:Type}{l:List α}{k:Nat}(h:k<l.length):∃a,l[k]?=some a:=⟨_,getElem?_eq_getElem h⟩
theorem pF(ps:List aG)(d:Int)(k:Nat):(kids ps d k).length<=ps.length:=le_trans (length_filter_le _ _) (le_of_eq length_range)
noncomputable abbrev Qq(f:Nat):List S:=
 [.aN (.J 3) (.bJ []),
  .for (.J 4) (.range (.k (.int 0)) (.bi .len [.J 0]))
  [.ba (.and [(.cmp .le (.aE (.aE (.J 0) (.J 4)) (.k (.int 0))) (.J 2)),(.cmp .iS (.J 1) (.call f [.J 0,.J 4,.J 2]))])
   [.expr (.c8 .append (.J 3) [.J 4])]
   []],
  .ret (.J 3)]
theorem Qr{f:Nat}{d:Int}{ps:List aG}(hf:∀{H:Hp} {Q Y:PQ} {c:Nat} {p:aG},H[l]?=some (.list (ps.map bv))->ps[c]?=some p->Q (.aF (aV (gU p d))) H->aA (n+1) f [.ref l,nv c,.int d] H Q Y)(hA:H[l]?=some (.list (ps.map bv)))(hl:ps.length<=20)(q:∀lc H',H.length<=lc->aC H H'->H'[lc]?=some (.list (aV (kids ps d k)))->Q (.ref lc) H'):aM ⟨aA (n+1),Y⟩ (Qq f) [some (.ref l),some (nv k),some (.int d),none,none] H (bF Q):=by
 apply ay (b7 (be [.list []] hA))
 rw[length_map]
 refine mq (lt_of_le_of_lt hl (by decide)) (ft (Au ps d k l H) (λc as ρ H' h=>?_) (λρ H' h=>?_) _ _ _ (.mk [] none rfl (aC.aR _ _) (bj _ _) rfl (λc hc=>mem_range.mp hc)))
 ·refine h _ λacc o e x a t b=>?_
  subst e
  refine λN hN=>?_
  refine(at_of (b c mem_cons_self)).elim λp hc=>?_
  apply ay (du (x l _ hA) hc)
  have ht:acc++(if lG ps d k c then c::as.filter (lG ps d k) else as.filter (lG ps d k))=kids ps d k:=by rw[<-filter_cons];exact t
  rw[show lG ps d k c=(decide (p.aQ<=d)&&decide (k∈gU p d)) by unfold lG;rw[hc]] at ht
  have no:∀o,(decide (p.aQ<=d)&&decide (k∈gU p d))=false->N [some (.ref l),some (nv k),some (.int d),some (.ref H.length),o] H':=λo e=>hN _ _ rfl (.mk acc o rfl x a (by rw[e] at ht;exact ht) (λc hc=>b c (.tail _ hc)))
  refine(?_:bx (decide (p.aQ<=d)==true) _ _)
  refine fR (λh1=>?_) λh1=>?_
  ·refine bP (hf (x l _ hA) hc ?_)
   apply ay (Fx)
   refine ck (λh2=>?_) λh2=>no _ (by rw[h2,Bool.and_false])
   rw[h1,h2] at ht
   exact fS a (f9 a (by rw[length_map];exact na ht (le_trans (pF ps d k) (le_trans hl (by decide)))) (hN _ _ rfl (.mk (acc++[c]) _ rfl (x.set (le_refl _) _) (by rw[<-rq];exact dN a _) (gp ht) (λc hc=>b c (.tail _ hc)))))
  ·refine(?_:bx (decide (p.aQ<=d)) _ _)
   exact ck (λh2=>absurd (h1.symm.trans h2) Bool.false_ne_true) λZ=>no _ (by rw[h1,Bool.false_and])
 ·refine h _ λacc o e x a t b=>?_
  subst e
  rw[filter_nil,append_nil] at t
  exact q _ _ (le_refl _) x (t▸a)
theorem u6{d:Int}{ps:List aG}(hA:H[l]?=some (.list (ps.map bv)))(hl:ps.length<=20)(q:∀lc H',H.length<=lc->aC H H'->H'[lc]?=some (.list (aV (kids ps d k)))->Q (.ref lc) H'):aA (n+2) qo [.ref l,nv k,.int d] H Q Y:=Ph (Qr (λa b q=>As a b q) hA hl q)
end
end Mine.L
namespace Mine.L
variable{Y:PQ}
open Mine.P PySem
noncomputable def eY(ps:List aG)(b:Int):Nat:=ps.countP λq=>decide (b<q.aQ)
theorem Qs{b b':Int}(h:b<=b')(ps:List aG):eY ps b'<=eY ps b:=List.countP_mono_left λq Z hq=>decide_eq_true (Int.lt_of_le_of_lt h (of_decide_eq_true hq))
theorem Av{b:Int}{q:aG}(hb:b<q.aQ):∀{ps:List aG},q∈ps->eY ps q.aQ<eY ps b
 |p::r,h=>by
  refine(?_:countP _ (p::r)<countP _ (p::r))
  rw[countP_cons,countP_cons]
  rcases mem_cons.mp h with e|h
  ·rw[<-e,decide_eq_false (Int.lt_irrefl _),decide_eq_true hb]
   exact lt_succ_of_le (Qs (Int.le_of_lt hb) r)
  ·refine Nat.add_lt_add_of_lt_of_le (Av hb h) ?_
   by_cases h1:q.aQ<p.aQ
   ·rw[decide_eq_true h1,decide_eq_true (Int.lt_trans hb h1)];exact le_refl _
   ·rw[decide_eq_false h1];exact zero_le _
theorem u7{ps:List aG}{q:aG}(h:q∈ps):eY ps q.aQ<ps.length:=lt_of_lt_of_le (Av (b:=q.aQ - 1) (Int.sub_lt_self _ (by decide)) h) List.countP_le_length
noncomputable def fT(ps:List aG)(b:Int)(j:Nat):Prop:=∃q,ps[j]?=some q/\q.aQ<b
noncomputable def hJ(l:List Nat):Prop:=l.length<=2/\l.Nodup
noncomputable def kK(ps:List aG)(p:aG):Prop:=∀WfOneζ:Prop,(∀(a:∀j∈p.bS,fT ps p.aQ j) (b:∀x,p.ad=some x->∀j∈x.2,fT ps p.aQ j) (c:hJ p.bS) (d:∀x,p.ad=some x->hJ x.2) (z:0<=p.aQ),WfOneζ)->WfOneζ
theorem kK.mk{ps:List aG}{p:aG}(a:∀j∈p.bS,fT ps p.aQ j)(b:∀x,p.ad=some x->∀j∈x.2,fT ps p.aQ j)(c:hJ p.bS)(d:∀x,p.ad=some x->hJ x.2)(z:0<=p.aQ):kK ps p:=λZ bZ=>bZ a b c d z
noncomputable def cL(ps:List aG):Prop:=∀(k:Nat) p,ps[k]?=some p->kK ps p
theorem Fz{ps:List aG}{p:aG}{P:List Nat->Prop}(h1:P p.bS)(h2:∀x,p.ad=some x->P x.2)(d:Int):P (gU p d):=by
 unfold gU
 cases h:p.ad with
 |none=>exact h1
 |some a=>
  refine(?_:P (if a.1<=d then a.2 else p.bS))
  split
  ·exact h2 a h
  ·exact h1
theorem u9{ps:List aG}(hW:cL ps){k:Nat}{p:aG}(hp:ps[k]?=some p)(d:Int):∀j∈gU p d,fT ps p.aQ j:=(hW k p hp) _ λa b Z Z Z=>Fz (ps:=ps) (P:=λl=>∀j∈l,fT ps p.aQ j) a b d
theorem Qt{ps:List aG}(hW:cL ps){k:Nat}{p:aG}(hp:ps[k]?=some p)(d:Int):hJ (gU p d):=(hW k p hp) _ λZ Z a b Z=>Fz (ps:=ps) (P:=hJ) a b d
theorem FA{ps:List aG}(hW:cL ps){k:Nat}{p:aG}(hp:ps[k]?=some p)(d:Int):(gU p d).length<=2:=(Qt hW hp d).1
theorem FC{ps:List aG}{d:Int}{k c:Nat}{M:Prop}(h:lG ps d k c=true)(f:∀q,ps[c]?=some q->k∈gU q d->M):M:=by
 unfold lG at h
 cases hq:ps[c]? with
 |none=>rw[hq] at h;exact absurd h Bool.false_ne_true
 |some q=>rw[hq] at h;exact f q hq (of_decide_eq_true (and_eq_true_iff.mp h).2)
theorem tn{ps:List aG}(hW:cL ps){d:Int}{k c:Nat}{p:aG}(hp:ps[k]?=some p){M:Prop}(h:c∈kids ps d k)(f:∀q,ps[c]?=some q->p.aQ<q.aQ->eY ps q.aQ<eY ps p.aQ->M):M:=
 FC (mem_filter.mp h).2 λq hq hm=>(u9 hW hq d k hm).elim λq2 h2=>by
  rw[hp] at h2
  obtain⟨e,cO⟩:=h2
  cases e
  exact f q hq cO (Av cO (mem_of_getElem? hq))
noncomputable def lv(ps:List aG)(d:Int)(k:Nat):Bool:=match ps[k]? with
 |some p=>fq p d
 |none=>false
theorem jW{ps:List aG}{d:Int}{k:Nat}{p:aG}(h:ps[k]?=some p):lv ps d k=fq p d:=by unfold lv;rw[h]
noncomputable def gu(ps:List aG)(d:Int):Nat->Nat->Bool
 |0,_=>false
 |f+1,k=>lv ps d k||(kids ps d k).any (gu ps d f)
noncomputable def Aw(ps:List aG)(d:Int)(f k l lc:Nat)(H:Hp)(as:List Nat)(ρ:aP)(H':Hp):Prop:=∀LnIζ:Prop,(∀(o:Option V) (e:ρ=[some (.ref l),some (nv k),some (.int d),o]) (x:aC H H') (a:H'[lc]?=some (.list (aV (kids ps d k)))) (t:as.any (gu ps d f)=gu ps d (f+1) k) (b:∀c∈as,c∈kids ps d k),LnIζ)->LnIζ
theorem Aw.mk{ps:List aG}{d:Int}{f k l lc:Nat}{H:Hp}{as:List Nat}{ρ:aP}{H':Hp}(o:Option V)(e:ρ=[some (.ref l),some (nv k),some (.int d),o])(x:aC H H')(a:H'[lc]?=some (.list (aV (kids ps d k))))(t:as.any (gu ps d f)=gu ps d (f+1) k)(b:∀c∈as,c∈kids ps d k):Aw ps d f k l lc H as ρ H':=λZ bZ=>bZ o e x a t b
section
variable{Q:PQ}{l:Nat}
theorem Ax{d:Int}{ps:List aG}(hW:cL ps)(hl:ps.length<=20){n:Nat}:∀{f k:Nat} {p:aG} {H:Hp} {Q Y:PQ},H[l]?=some (.list (ps.map bv))->ps[k]?=some p->eY ps p.aQ<f->(∀H',aC H H'->Q (.bool (gu ps d f k)) H')->aA (n+f+2) qp [.ref l,nv k,.int d] H Q Y
 |0,k,p,H,Q,Y,_,_,hf,_=>absurd hf (not_lt_zero _)
 |f+1,k,p,H,Q,Y,hA,hp,hf,q=>Pj (by
  have e0:gu ps d (f+1) k=(fq p d||(kids ps d k).any (gu ps d f)):=by rw[<-jW hp];rfl
  refine bP (mZ hA hp ?_)
  refine(?_:bx (fq p d) _ _)
  refine ck (λh=>?_) λh=>?_
  ·rw[h] at e0
   have:=q H (aC.refl H)
   rw[e0] at this
   exact this
  ·rw[h] at e0
   refine bP (u6 (n:=n+f) hA hl λlc H₁ Z x hc=>?_)
   apply ay (cW hc)
   refine ft (Aw ps d f k l lc H) (λc as ρ H' h=>?_) (λρ H' h=>?_) _ _ _ (.mk _ rfl x hc e0.symm (λc h=>h))
   ·refine h _ λo e x' a t b=>?_
    subst e
    refine λN hN=>?_
    refine tn hW hp (b c mem_cons_self) λp' dO Z hy=>?_
    rw[any_cons] at t
    refine bP (Ax hW hl (x' l _ hA) dO (lt_of_lt_of_le hy (le_of_lt_succ hf)) λH₂ b6=>?_)
    refine(?_:bx (gu ps d f c) _ _)
    refine ck (λh2=>?_) λh2=>?_
    ·rw[h2] at t
     have:=q H₂ (x'.trans b6)
     rw[<-t] at this
     exact this
    ·rw[h2] at t
     exact hN _ _ (c9 hc (b6 _ _ a)) (.mk _ rfl (x'.trans b6) (b6 _ _ a) t (λc hc=>b c (.tail _ hc)))
   ·refine h _ λo e x' a t b=>?_
    subst e
    have:=q H' x'
    rw[<-t] at this
    exact this)
end
end Mine.L
namespace Mine.L
variable{Y:PQ}
open Mine.P PySem
noncomputable def rv(x:Rat):V:=.aF [.int x.num,.int (x.den:Int)]
noncomputable def Sm(b:Nat)(x:Rat):Prop:=x.num.natAbs<2^b/\x.den<2^b
theorem FD{a:Int}{d:Nat}(hd:d≠0):rv (Rat.normalize a d hd)=.aF [.int (a.fdiv (gcd a d)),.int ((d:Int).fdiv (gcd a d))]:=by
 rw[Rat.normalize_eq,Int.fdiv_eq_ediv_of_nonneg _ (natCast_nonneg _),Int.fdiv_eq_ediv_of_nonneg _ (natCast_nonneg _)]
 rfl
theorem Sm.pG{b:Nat}{a:Int}{d:Nat}(hd:d≠0)(ha:a.natAbs<2^b)(h:d<2^b):Sm b (Rat.normalize a d hd):=by
 rw[Rat.normalize_eq]
 exact⟨lt_of_le_of_lt (Int.natAbs_ediv_le_natAbs _ _) ha,lt_of_le_of_lt (Nat.div_le_self _ _) h⟩
theorem pH{a b i j:Nat}(ha:a<2^i)(hb:b<2^j):a*b<2^(i+j):=by
 rw[Nat.pow_add]
 exact Nat.mul_lt_mul_of_lt_of_le ha (le_of_lt hb) (Nat.two_pow_pos j)
theorem Sm.le{b c:Nat}{x:Rat}(h:Sm b x)(e:b<=c):Sm c x:=⟨lt_of_lt_of_le h.1 (pow_le_pow_right (by decide) e),lt_of_lt_of_le h.2 (pow_le_pow_right (by decide) e)⟩
theorem Sm.mul{i j:Nat}{x y:Rat}(hx:Sm i x)(hy:Sm j y):Sm (i+j) (x*y):=by
 rw[Rat.mul_def]
 exact Sm.pG _ (by rw[natAbs_mul];exact pH hx.1 hy.1) (pH hx.2 hy.2)
theorem FE{a b i:Nat}(ha:a<2^i)(hb:b<2^i):a+b<2^(i+1):=by rw[Nat.pow_succ,Nat.mul_two];exact Nat.add_lt_add ha hb
theorem Sm.sub{i j:Nat}{x y:Rat}(hx:Sm i x)(hy:Sm j y):Sm (i+j+1) (x - y):=by
 rw[Rat.sub_def]
 refine Sm.pG _ (lt_of_le_of_lt (Int.natAbs_sub_le _ _) ?_) (lt_of_lt_of_le (pH hx.2 hy.2) (pow_le_pow_right (by decide) (le_succ _)))
 rw[natAbs_mul,natAbs_mul]
 exact FE (pH hx.1 hy.2) (by rw[add_comm];exact pH hy.1 hx.2)
theorem FF{a:Int}{i:Nat}(h:a.natAbs<2^i):Builtin.Int.intBits a<=i:=by
 unfold Builtin.Int.intBits
 split
 ·exact zero_le _
 ·rename_i h0
  exact(Nat.log2_lt λe=>h0 (by rw[Int.natAbs_eq_zero.mp e];rfl)).mpr h
theorem i7{a b:Int}{i j:Nat}(ha:a.natAbs<2^i)(hb:b.natAbs<2^j)(h:i+j<=1000000):binI .mul a b=some (a*b):=by
 refine if_pos ?_
 have e:Builtin.Int.intTooBig (Builtin.Int.intBits a+Builtin.Int.intBits b)=false:=decide_eq_false λq=>absurd (le_trans (add_le_add (FF ha) (FF hb)) h) (Nat.not_le.mpr (lt_of_le_of_lt (by decide:1000000<=bitsLine) (ofNat_lt.mp q)))
 unfold zB
 rw[e,Bool.and_false];rfl
section
variable{n:Nat}{H:Hp}{Q:PQ}{a:Int}{d:Nat}
theorem ol(hd:d≠0)(k:Q (rv (Rat.normalize a d hd)) H):aA (n+1) jJ [.int a,nv d] H Q Y:=Qn (ofNat_lt.mpr (Nat.pos_of_ne_zero hd)) (FD hd▸k)
theorem Qu(hd:d≠0)(k:Q (rv (Rat.normalize a d hd)) H):aA (n+1) qr [.int a,nv d] H Q Y:=Qo (ofNat_lt.mpr (Nat.pos_of_ne_zero hd)) (FD hd▸k)
section
variable{x y:Rat}{i j:Nat}(hx:Sm i x)(hy:Sm j y)(h:i+j<=1000000)
include hx hy h
theorem vb(k:Q (rv (x*y)) H):aA (n+2) qq [rv x,rv y] H Q Y:=Pq (by
 apply ay (i7 hx.1 hy.1 h)
 apply ay (i7 (a:=(x.den:Int)) (b:=(y.den:Int)) hx.2 hy.2 h)
 rw[Rat.mul_def] at k
 exact bP (ol _ k))
theorem Ay(k:Q (rv (x+y)) H):aA (n+2) r9 [rv x,rv y] H Q Y:=Po (by
 apply ay (i7 (b:=(y.den:Int)) hx.1 hy.2 h)
 apply ay (i7 (b:=(x.den:Int)) hy.1 hx.2 (by rw[add_comm];exact h))
 apply ay (i7 (a:=(x.den:Int)) (b:=(y.den:Int)) hx.2 hy.2 h)
 rw[Rat.add_def] at k
 exact bP (ol _ k))
theorem FG(k:Q (rv (x - y)) H):aA (n+2) vV [rv x,rv y] H Q Y:=Pp (by
 apply ay (i7 (b:=(y.den:Int)) hx.1 hy.2 h)
 apply ay (i7 (b:=(x.den:Int)) hy.1 hx.2 (by rw[add_comm];exact h))
 apply ay (i7 (a:=(x.den:Int)) (b:=(y.den:Int)) hx.2 hy.2 h)
 rw[Rat.sub_def] at k
 exact bP (ol _ k))
end
theorem Az{m:Nat}(hm:m≠0)(hb:m<2^5)(k:Q (rv (mkRat 1 m)) H):aA (n+2) t8 [.aF [.int 1,.int 1],nv m] H Q Y:=Ps (by
 have e:∀m',m'=m->∀h,Q (rv (Rat.normalize 1 m' h)) H:=by intro m' e h;rw[Rat.normalize_eq_mkRat,e];exact k
 exact bP (ol (d:=1*m) (by rw[one_mul];exact hm) (e _ (one_mul m) _)))
theorem Sm.inv{m:Nat}(hm:m≠0)(hb:m<2^5):Sm 5 (mkRat 1 m):=by rw[<-Rat.normalize_eq_mkRat hm];exact Sm.pG hm (by decide) hb
end
end Mine.L
namespace Mine.L
variable{Y:PQ}
open Mine.P PySem
noncomputable def bu(r:Nat)(H H':Hp):Prop:=∀(l:Nat) (c:aZ),l≠r->H[l]?=some c->H'[l]?=some c
theorem bu.refl(r:Nat)(H:Hp):bu r H H:=λZ Z Z h=>h
theorem bu.trans{r:Nat}{H H₁ H₂:Hp}(a:bu r H H₁)(b:bu r H₁ H₂):bu r H H₂:=λl c n h=>b l c n (a l c n h)
theorem aC.b{H H':Hp}(h:aC H H')(r:Nat):bu r H H':=λl c Z e=>h l c e
theorem bu.aR(r:Nat)(H t:Hp):bu r H (H++t):=(aC.aR H t).b r
theorem bu.set(r:Nat)(H:Hp)(c:aZ):bu r H (H.set r c):=λl c' n h=>dF h c λe=>n e.symm
theorem bu.ext{r:Nat}{H H₁ H':Hp}(h:bu r H₁ H')(x:aC H H₁)(hr:H.length<=r):aC H H':=λl c e=>h l c (λq=>absurd (cu e) (not_lt.mpr (q▸hr))) (x l c e)
inductive cm{α β:Type}(R:α->β->Prop):List α->List β->Prop
 |nil:cm R [] []
 |cons {a:α} {v:β} {as:List α} {vs:List β}:R a v->cm R as vs->cm R (a::as) (v::vs)
theorem cm.imp{α β:Type}{R R':α->β->Prop}{as:List α}{vs:List β}(h:cm R as vs)(f:∀a v,R a v->R' a v):cm R' as vs:=h.rec (motive:=λas vs Z=>cm R' as vs) .nil λr Z ih=>.cons (f _ _ r) ih
theorem cm.imp'{α β:Type}{R R':α->β->Prop}{as:List α}{vs:List β}(h:cm R as vs):(∀a v,a∈as->R a v->R' a v)->cm R' as vs:=h.rec (motive:=λas vs Z=>(∀a v,a∈as->R a v->R' a v)->cm R' as vs) (λZ=>.nil) λr Z ih f=>.cons (f _ _ mem_cons_self r) (ih λa v m=>f a v (.tail _ m))
theorem cm.snoc{α β:Type}{R:α->β->Prop}{as:List α}{vs:List β}(h:cm R as vs){a:α}{v:β}(r:R a v):cm R (as++[a]) (vs++[v]):=h.rec (motive:=λas vs Z=>cm R (as++[a]) (vs++[v])) (.cons r .nil) λr Z ih=>.cons r ih
theorem cm.len{α β:Type}{R:α->β->Prop}{as:List α}{vs:List β}(h:cm R as vs):vs.length=as.length:=by
 induction h with
 |nil=>rfl
 |cons _ _ ih=>exact congrArg Nat.succ ih
section
variable{ws:List Nat}{H₀:Hp}{t:cN}{K:Out->Prop}{α:Type}{R:α->V->Prop}
theorem vc{body:aP->Hp->(Out->Prop)->Prop}(I:List α->aP->Hp->Prop)(step:∀a v as ρ H,R a v->I (a::as) ρ H->aJ (aN t v ρ) λbV=>∀N:aP->Hp->Prop,(∀fj H₁,eF ws H₀ H₁=true->I as fj H₁->N fj H₁)->body bV H (mJ K N))(fin:∀ρ H,I [] ρ H->K (.next ρ H)){as:List α}{vs:List V}(h:cm R as vs):∀ρ H,I as ρ H->md ws H₀ t body vs ρ H K:=
 h.rec (motive:=λas vs Z=>∀ρ H,I as ρ H->md ws H₀ t body vs ρ H K) fin λr Z ih ρ H h=>tm (step _ _ _ ρ H r h) λbV hb=>hb _ λfj H₁ hs hi=>⟨hs,ih fj H₁ hi⟩
end
structure Row where
 i8:Nat
 lH:Rat
 line:List Nat
noncomputable def kL(b:Nat)(H:Hp)(r:Row)(v:V):Prop:=∀RowAtζ:Prop,(∀(l:Nat) (hb:b<=l) (e:v=.aF [nv r.i8,rv r.lH,.ref l]) (a:H[l]?=some (.list (aV r.line))),RowAtζ)->RowAtζ
theorem kL.mk{b:Nat}{H:Hp}{r:Row}{v:V}(l:Nat)(hb:b<=l)(e:v=.aF [nv r.i8,rv r.lH,.ref l])(a:H[l]?=some (.list (aV r.line))):kL b H r v:=λZ bZ=>bZ l hb e a
theorem kL.mono{b b':Nat}{H H':Hp}{r:Row}{v:V}(h:kL b H r v)(f:∀(l:Nat) c,b<=l->H[l]?=some c->b'<=l/\H'[l]?=some c):kL b' H' r v:=h _ λl hb e a=>(.mk l ((f l _ hb a).1) e ((f l _ hb a).2))
noncomputable abbrev iu(b:Nat)(H:Hp):List Row->List V->Prop:=cm (kL b H)
theorem iu.b{r:Nat}{H H':Hp}{rs:List Row}{vs:List V}(h:iu (r+1) H rs vs)(x:bu r H H'):iu (r+1) H' rs vs:=h.imp λZ Z h=>h.mono λl c hb e=>⟨hb,x l c (ne_of_gt hb) e⟩
noncomputable def iv(ps:List aG)(d:Int)(cs:List Nat):List Nat:=cs.filter (gu ps d 20)
noncomputable def up(k:Nat)(s:Rat)(r:Row):Row:=⟨r.i8,s*r.lH,k::r.line⟩
noncomputable def rowsOf(ps:List aG)(d:Int)(rec:Nat->List Row)(k:Nat)(s:Rat)(c:Nat):List Row:=if lv ps d c then[⟨c,s,[k,c]⟩] else(rec c).map (up k s)
noncomputable def hU(ps:List aG)(d:Int)(rec:Nat->List Row)(k:Nat)(ts:List Nat):List Row:=ts.flatMap (rowsOf ps d rec k (mkRat 1 ts.length))
noncomputable def iH(ps:List aG)(d:Int):Nat->Nat->List Row
 |0,_=>[]
 |f+1,k=>hU ps d (iH ps d f) k (iv ps d (kids ps d k))
noncomputable def xN(H:Hp)(rs:List Row)(Q:PQ):Prop:=∀lr vs H',H.length<=lr->aC H H'->H'[lr]?=some (.list vs)->iu (lr+1) H' rs vs->Q (.ref lr) H'
noncomputable def AA(ps:List aG)(d:Int)(dz:aP)(H:Hp)(cs as:List Nat)(acc:List V)(ρ:aP)(H':Hp):Prop:=∀TkIζ:Prop,(∀(o:Option V) (an:List Nat) (e:ρ=o::dz) (x:aC H H') (ea:acc=aV an) (t:an++iv ps d as=iv ps d cs) (b:∀c∈as,c∈cs),TkIζ)->TkIζ
theorem AA.mk{ps:List aG}{d:Int}{dz:aP}{H:Hp}{cs as:List Nat}{acc:List V}{ρ:aP}{H':Hp}(o:Option V)(an:List Nat)(e:ρ=o::dz)(x:aC H H')(ea:acc=aV an)(t:an++iv ps d as=iv ps d cs)(b:∀c∈as,c∈cs):AA ps d dz H cs as acc ρ H':=λZ bZ=>bZ o an e x ea t b
noncomputable def AB(ps:List aG)(d:Int)(rec:Nat->List Row)(l k lc lt lr:Nat)(H₁:Hp)(s:Rat)(tot:List Row)(ts as:List Nat)(ρ:aP)(H':Hp):Prop:=∀LtIζ:Prop,(∀(a6 a7 a8 a9 gn:Option V) (rs:List Row) (vs:List V) (e:ρ=[some (.ref l),some (nv k),some (.ref lc),some (.int d),some (.ref lt),some (.ref lr),a6,a7,a8,a9,gn]) (x:bu lr H₁ H') (a:H'[lr]?=some (.list vs)) (r:iu (lr+1) H' rs vs) (t:rs++as.flatMap (rowsOf ps d rec k s)=tot) (b:∀c∈as,c∈ts),LtIζ)->LtIζ
theorem AB.mk{ps:List aG}{d:Int}{rec:Nat->List Row}{l k lc lt lr:Nat}{H₁:Hp}{s:Rat}{tot:List Row}{ts as:List Nat}{ρ:aP}{H':Hp}(a6 a7 a8 a9 gn:Option V)(rs:List Row)(vs:List V)(e:ρ=[some (.ref l),some (nv k),some (.ref lc),some (.int d),some (.ref lt),some (.ref lr),a6,a7,a8,a9,gn])(x:bu lr H₁ H')(a:H'[lr]?=some (.list vs))(r:iu (lr+1) H' rs vs)(t:rs++as.flatMap (rowsOf ps d rec k s)=tot)(b:∀c∈as,c∈ts):AB ps d rec l k lc lt lr H₁ s tot ts as ρ H':=λZ bZ=>bZ a6 a7 a8 a9 gn rs vs e x a r t b
noncomputable def xO(l k lr:Nat)(x2 x3 x4 x5 x6:Option V)(H₁:Hp)(s:Rat)(tot rest:List Row)(as:List Row)(ρ:aP)(H':Hp):Prop:=∀LuIζ:Prop,(∀(a8 a9 gn:Option V) (rs:List Row) (vs:List V) (e:ρ=[some (.ref l),some (nv k),x2,x3,x4,x5,x6,some (rv s),a8,a9,gn]) (x:bu lr H₁ H') (a:H'[lr]?=some (.list vs)) (r:iu (lr+1) H' rs vs) (t:rs++(as.map (up k s)++rest)=tot),LuIζ)->LuIζ
theorem xO.mk{l k lr:Nat}{x2 x3 x4 x5 x6:Option V}{H₁:Hp}{s:Rat}{tot rest:List Row}{as:List Row}{ρ:aP}{H':Hp}(a8 a9 gn:Option V)(rs:List Row)(vs:List V)(e:ρ=[some (.ref l),some (nv k),x2,x3,x4,x5,x6,some (rv s),a8,a9,gn])(x:bu lr H₁ H')(a:H'[lr]?=some (.list vs))(r:iu (lr+1) H' rs vs)(t:rs++(as.map (up k s)++rest)=tot):xO l k lr x2 x3 x4 x5 x6 H₁ s tot rest as ρ H':=λZ bZ=>bZ a8 a9 gn rs vs e x a r t
end Mine.L
namespace Mine.L
variable{Y:PQ}
open Mine.P PySem
section
variable{n:Nat}{l lc k:Nat}{H:Hp}{Q:PQ}
theorem lI{a b:Nat}{xs ys:List V}(ha:H[a]?=some (.list xs))(hb:H[b]?=some (.list ys))(hs:(xs++ys).length<16000000)(q:Q (.ref H.length) (H++[.list (xs++ys)])):sI .add (.ref a) (.ref b) H Q:=by
 exact ay (b7 ha) (ay (b7 hb) (cz (cF hs) q))
noncomputable def kM(f:Nat)(r:Row):Prop:=Sm (5*f) r.lH/\r.line.length<=f+1
theorem FH{d:Int}{ps:List aG}(hW:cL ps)(hl:ps.length<=20){rec:Nat->List Row}{cs:List Nat}(iq:cs.length<=20)(tc:∀c∈cs,∃p,ps[c]?=some p)(hr:∀c∈cs,∀r∈rec c,kM 21 r)(ht:(hU ps d rec k (iv ps d cs)).length<=16000000)
  (IH:∀c∈cs,∀(H:Hp) (Q Y:PQ),H[l]?=some (.list (ps.map bv))->xN H (rec c) Q->aA (n+23) sd [.ref l,nv c,.int d] H Q Y)
  (hA:H[l]?=some (.list (ps.map bv))) (hC:H[lc]?=some (.list (aV cs))) (q:xN H (hU ps d rec k (iv ps d cs)) Q):aA (n+24) vW [.ref l,nv k,.ref lc,.int d] H Q Y:=Pu (by
 apply ay (cW hC)
 refine cz (cF (by rw[length_map];exact lt_of_le_of_lt iq (by decide))) ?_
 refine m8 (AA ps d [some (.ref l),some (nv k),some (.ref lc),some (.int d),none,none,none,none,none,none,none] H cs) (λc as acc ρ H' h=>?_) (λacc ρ H' h=>?_) _ _ _ _ (.mk none [] rfl (aC.refl H) rfl rfl (λc h=>h))
 ·refine h _ λo an e x ea t b=>?_
  subst e
  refine λN hN=>?_
  refine(tc c (b c mem_cons_self)).elim λp hp=>?_
  have t':an++(if gu ps d 20 c then c::iv ps d as else iv ps d as)=iv ps d cs:=by rw[<-t];unfold iv;rw[filter_cons]
  refine bP (Ax (n:=n+1) (f:=20) hW hl (x l _ hA) hp (lt_of_lt_of_le (u7 (mem_of_getElem? hp)) hl) λH₂ b6=>?_)
  have st:eF [lc] H H₂=true:=c9 hC ((x.trans b6) _ _ hC)
  refine(?_:bx (gu ps d 20 c) _ _)
  refine ck (λh2=>?_) λh2=>?_
  ·rw[h2] at t'
   exact hN _ _ st (.mk _ (an++[c]) rfl (x.trans b6) (by rw[ea];exact rq an c) (gp t') (λc hc=>b c (.tail _ hc)))
  ·rw[h2] at t'
   exact hN _ _ st (.mk _ an rfl (x.trans b6) ea t' (λc hc=>b c (.tail _ hc)))
 ·refine h _ λo an e x ea t b=>?_
  subst ea
  rw[show iv ps d []=[] from rfl,append_nil] at t
  subst t
  generalize pI:iv ps d cs=ts at *
  have hm:∀c∈ts,c∈cs:=λc h=>(mem_filter.mp (show c∈cs.filter _ from pI▸h)).1
  have cO:ts.length<=20:=le_trans (le_trans (le_of_eq (congrArg List.length pI.symm)) (length_filter_le _ _)) iq
  generalize hs:mkRat 1 ts.length=s
  have AC:ts≠[]->Sm 5 s:=λh=>hs▸Sm.inv (λe=>h (eq_nil_of_length_eq_zero e)) (lt_of_le_of_lt cO (by decide))
  have a1:(H'++[aZ.list (aV ts)]++[aZ.list []])[H'.length]?=some (.list (aV ts)):=be _ (bj _ _)
  apply ay (cW a1)
  have lJ:H'.length<(H'++[aZ.list (aV ts)]).length:=by rw[length_append];exact lt_succ_self _
  refine ft (AB ps d rec l k lc H'.length (H'++[aZ.list (aV ts)]).length (H'++[aZ.list (aV ts)]++[aZ.list []]) s (hU ps d rec k ts) ts) (λc as ρ H₂ h=>?_) (λρ H₂ h=>?_) _ _ _ (.mk none none none none none [] [] rfl (bu.refl _ _) (bj _ _) .nil (by rw[<-hs];rfl) (λc h=>h))
  ·refine h _ λa6 a7 a8 a9 gn rs vs e b6 a r t b=>?_
   subst e
   refine λN hN=>?_
   have jX:=b6 _ _ (ne_of_lt lJ) a1
   have cw:aC H H₂:=b6.ext (x.trans ((aC.aR _ _).trans (aC.aR _ _))) (le_trans x.len (le_of_lt lJ))
   have hc:=b c mem_cons_self
   have cT:ts≠[]:=ne_nil_of_mem hc
   refine(tc c (hm c hc)).elim λp hp=>?_
   rw[flatMap_cons,show rowsOf ps d rec k s c=if fq p d then[⟨c,s,[k,c]⟩] else(rec c).map (up k s) by rw[<-jW hp];rfl] at t
   apply ay (b7 jX)
   rw[length_map]
   refine bP (Az (λe=>cT (eq_nil_of_length_eq_zero e)) (lt_of_le_of_lt cO (by decide)) ?_)
   rw[hs]
   refine bP (mZ (cw l _ hA) hp ?_)
   refine(?_:bx (fq p d) _ _)
   refine ck (λh2=>?_) λh2=>?_
   ·rw[h2] at t
    have t:rs++(⟨c,s,[k,c]⟩::as.flatMap (rowsOf ps d rec k s))=hU ps d rec k ts:=t
    refine fS a (f9 (be _ a) (by rw[r.len];exact na t ht) (hN _ _ (c9 a1 (dF (be _ jX) _ (ne_of_gt lJ))) (.mk _ _ _ _ _ (rs++[⟨c,s,[k,c]⟩]) _ rfl (b6.trans ((bu.aR _ _ _).trans (bu.set _ _ _))) (dN (be _ a) _) ((r.b ((bu.aR _ _ _).trans (bu.set _ _ _))).snoc (.mk H₂.length (cu a) rfl (dF (bj _ _) _ (ne_of_lt (cu a))))) (gp t) (λc hc=>b c (.tail _ hc)))))
   ·rw[h2] at t
    have t:rs++((rec c).map (up k s)++as.flatMap (rowsOf ps d rec k s))=hU ps d rec k ts:=t
    refine bP (IH c (hm c hc) _ _ _ (cw l _ hA) λlb us H₃ hb dQ ab rb=>?_)
    have a':=dQ _ _ a
    have pJ:=lt_of_lt_of_le (cu a) hb
    apply ay (cW ab)
    refine vc (R:=λr v=>r∈rec c/\kL (lb+1) H₃ r v) (xO l k (H'++[aZ.list (aV ts)]).length (some (.ref lc)) (some (.int d)) (some (.ref H'.length)) (some (.ref (H'++[aZ.list (aV ts)]).length)) (some (nv c)) H₃ s (hU ps d rec k ts) (as.flatMap (rowsOf ps d rec k s))) (λrw v bs ρ H₄ hv h=>?_) (λρ H₄ h=>?_) (rb.imp' λr v hr hv=>⟨hr,hv⟩) _ _ (.mk _ _ _ rs vs rfl (bu.refl _ _) a' (r.b (dQ.b _)) t)
    ·refine hv.2 _ λll nc e al=>?_
     subst e
     refine h _ λa8 a9 gn rs vs e gq a r t=>?_
     subst e
     refine λN' iI=>?_
     have sr:=hr c (hm c hc) _ hv.1
     have nl:ll≠(H'++[aZ.list (aV ts)]).length:=ne_of_gt (lt_trans pJ nc)
     refine fS a (bP (vb (AC cT) sr.1 (by decide) ?_))
     refine lI (bj _ _) (be _ (gq _ _ nl al)) (by rw[length_append,length_map];exact lt_of_le_of_lt (add_le_add_left sr.2 _) (show 1+(21+1)<16000000 by decide)) ?_
     have fu:bu (H'++[aZ.list (aV ts)]).length H₄ _:=(bu.aR _ H₄ [aZ.list [nv k]]).trans ((bu.aR _ _ [aZ.list (aV (k::rw.line))]).trans (bu.set _ _ (.list (vs++[.aF [nv rw.i8,rv (s*rw.lH),.ref (H₄++[aZ.list [nv k]]).length]]))))
     refine f9 (be _ (be _ a)) (by rw[r.len];exact na t ht) (iI _ _ (c9 ab ((gq.trans fu) _ _ (ne_of_gt pJ) ab)) (.mk _ _ _ (rs++[up k s rw]) _ rfl (gq.trans fu) (dN (be _ (be _ a)) _) ((r.b fu).snoc (.mk ((H₄++[aZ.list [nv k]]).length) (cu (be _ a)) rfl (dF (bj _ _) _ (ne_of_lt (cu (be _ a)))))) (gp t)))
    ·refine h _ λa8 a9 gn rs vs e gq a r t=>?_
     subst e
     have fu:=(dQ.b (H'++[aZ.list (aV ts)]).length).trans gq
     exact hN _ _ (c9 a1 (fu _ _ (ne_of_lt lJ) jX)) (.mk _ _ _ _ _ rs vs rfl (b6.trans fu) a r t (λc hc=>b c (.tail _ hc)))
  ·refine h _ λa6 a7 a8 a9 gn rs vs e b6 a r t b=>?_
   subst e
   rw[flatMap_nil,append_nil] at t
   exact q _ vs _ (le_trans x.len (le_of_lt lJ)) (b6.ext (x.trans ((aC.aR _ _).trans (aC.aR _ _))) (le_trans x.len (le_of_lt lJ))) a (t▸r))
end
end Mine.L
namespace Mine.L
variable{Y:PQ}
open Mine.P PySem
noncomputable def wt(w:Int->Nat)(b:Int)(q:aG):Nat:=if b<q.aQ then w q.aQ else 0
theorem FI(w:Int->Nat)(b:Int):∀l:List aG,(l.map (wt w (b - 1))).sum=(l.map (wt w b)).sum+l.countP (λq=>decide (q.aQ=b))*w b
 |[]=>by rw[List.countP_nil,zero_mul];rfl
 |q::r=>by
  rw[map_cons,map_cons,sum_cons,sum_cons,FI w b r,countP_cons,Nat.add_mul]
  unfold wt
  by_cases h:q.aQ=b
  ·rw[if_pos (by rw[h];exact Int.sub_lt_self b (by decide)),if_neg (by rw[h];exact Int.lt_irrefl b),decide_eq_true h,h]
   simp only[if_true,one_mul];lia
  ·rw[decide_eq_false h]
   by_cases h2:b<q.aQ
   ·rw[if_pos h2,if_pos (Int.lt_of_le_of_lt (Int.sub_le_self b (by decide)) h2)]
    simp only[Bool.false_eq_true,if_false,zero_mul];lia
   ·rw[if_neg h2,if_neg (Int.not_lt.mpr (Int.le_sub_one_of_lt (Int.lt_iff_le_and_ne.mpr ⟨Int.not_lt.mp h2,h⟩)))]
    simp only[Bool.false_eq_true,if_false,zero_mul];lia
theorem FJ(b:Int):∀l:List aG,eY l (b - 1)=eY l b+l.countP (λq=>decide (q.aQ=b))
 |[]=>rfl
 |q::r=>by
  have ih:=FJ b r
  unfold eY at *
  rw[countP_cons,countP_cons,countP_cons,ih]
  by_cases h:q.aQ=b
  ·rw[decide_eq_true h,decide_eq_true (show b - 1<q.aQ by rw[h];exact Int.sub_lt_self b (by decide)),decide_eq_false (show ¬b<q.aQ by rw[h];exact Int.lt_irrefl _)];rfl
  ·rw[decide_eq_false h]
   by_cases h2:b<q.aQ
   ·rw[decide_eq_true h2,decide_eq_true (show b - 1<q.aQ from Int.lt_of_le_of_lt (Int.sub_le_self b (by decide)) h2)];exact add_right_comm _ _ 1
   ·rw[decide_eq_false h2,decide_eq_false (show ¬b - 1<q.aQ from Int.not_lt.mpr (Int.le_sub_one_of_lt (Int.lt_iff_le_and_ne.mpr ⟨Int.not_lt.mp h2,h⟩)))];rfl
theorem FK(ps:List aG)(B:Int)(hB:∀q∈ps,q.aQ<=B):∀j:Nat,(ps.map (wt (λb=>2^eY ps b) (B - j))).sum<2^eY ps (B - j)
 |0=>by
  have e:∀l:List aG,(∀q∈l,q.aQ<=B)->(l.map (wt (λb=>2^eY ps b) (B - (0:Nat)))).sum=0:=λl=>l.rec (motive:=λl=>(∀q∈l,q.aQ<=B)->(l.map (wt (λb=>2^eY ps b) (B - (0:Nat)))).sum=0) (λZ=>rfl) λq r ih hl=>by
   rw[map_cons,sum_cons,ih λq hq=>hl q (.tail _ hq)]
   exact if_neg (by have:=hl q mem_cons_self;exact Int.not_lt.mpr (by rw[show B - ((0:Nat):Int)=B from Int.sub_zero B];exact this))
  rw[e ps hB];exact Nat.two_pow_pos _
 |j+1=>by
  have ih:=FK ps B hB j
  rw[show B - ((j+1:Nat):Int)=B - (j:Int) - 1 from(Int.sub_sub B (j:Int) 1).symm,FI,FJ,Nat.pow_add]
  generalize ps.countP (λq=>decide (q.aQ=B - (j:Int)))=e
  have h1:e+1<=2^e:=Nat.lt_two_pow_self
  have h2:=Nat.mul_le_mul_right (2^eY ps (B - (j:Int))) h1
  rw[Nat.add_mul,one_mul] at h2
  rw[mul_comm (2^eY ps (B - (j:Int))) (2^e)]
  exact lt_of_lt_of_le (by rw[add_comm];exact Nat.add_lt_add_left ih _) h2
theorem FL:∀ps:List aG,∃B,∀q∈ps,q.aQ<=B
 |[]=>⟨0,λZ h=>nomatch h⟩
 |p::r=>(FL r).elim λB h=>⟨max B p.aQ,λq hq=>(mem_cons.mp hq).elim (λe=>e▸Int.le_max_right _ _) λhr=>Int.le_trans (h q hr) (Int.le_max_left _ _)⟩
theorem Qv(ps:List aG)(b:Int):(ps.map (wt (λb=>2^eY ps b) b)).sum<2^eY ps b:=(FL ps).elim λB hB=>by
 have h:=FK ps (max B b) (λq hq=>Int.le_trans (hB q hq) (Int.le_max_left _ _)) (max B b - b).toNat
 rw[show max B b - ((max B b - b).toNat:Int)=b by lia] at h
 exact h
theorem FN{α:Type}{P:α->Bool}{h g:α->Nat}:∀l:List α,(∀c∈l,P c=true->h c<=g c)->((l.filter P).map h).sum<=(l.map g).sum
 |[],_=>le_refl _
 |a::r,f=>by
  have ih:=FN r λc hc=>f c (.tail _ hc)
  rw[filter_cons,map_cons,sum_cons]
  split
  ·rename_i hp
   rw[map_cons,sum_cons];exact add_le_add (f a mem_cons_self hp) ih
  ·exact le_trans ih (le_add_left _ _)
theorem Aa{α:Type}(ps:List α):(List.range ps.length).map (λi=>ps[i]?)=ps.map some:=by
 apply ext_getElem?
 intro i
 rw[getElem?_map,getElem?_map]
 by_cases h:i<ps.length
 ·rw[List.getElem?_range h,getElem?_eq_getElem h];exact congrArg some (getElem?_eq_getElem h)
 ·rw[getElem?_eq_none (by rw[length_range];exact not_lt.mp h),getElem?_eq_none (not_lt.mp h)];rfl
theorem Qw{ps:List aG}{b:Int}{P:Nat->Bool}{h:Nat->Nat}(hh:∀c,P c=true->∃q,ps[c]?=some q/\b<q.aQ/\h c<=2^eY ps q.aQ):(((List.range ps.length).filter P).map h).sum<2^eY ps b:=by
 refine lt_of_le_of_lt (FN (g:=λc=>(ps[c]?).elim 0 (wt (λb=>2^eY ps b) b)) _ λc Z hc=>?_) (lt_of_le_of_lt (le_of_eq ?_) (Qv ps b))
 ·obtain⟨q,h1,h2,h3⟩:=hh c hc
  rw[h1]
  exact le_trans h3 (le_of_eq (if_pos h2).symm)
 ·have e:=congrArg (λl=>(l.map λo:Option aG=>o.elim 0 (wt (λb=>2^eY ps b) b)).sum) (Aa ps)
  rw[map_map,map_map] at e
  exact e
end Mine.L
namespace Mine.L
variable{Y:PQ}
open Mine.P PySem
theorem kM.up{f k:Nat}{s:Rat}{r:Row}(hs:Sm 5 s)(h:kM f r):kM (f+1) (up k s r):=⟨(hs.mul h.1).le (le_of_eq (add_comm 5 (5*f))),succ_le_succ h.2⟩
theorem kM.le{f g:Nat}{r:Row}(h:kM f r)(e:f<=g):kM g r:=⟨h.1.le (mul_le_mul_left 5 e),le_trans h.2 (succ_le_succ e)⟩
theorem AD{ps:List aG}{d:Int}{rec:Nat->List Row}{k f:Nat}{ts:List Nat}(hl:ts.length<=20)(h:∀c∈ts,∀r∈rec c,kM f r):∀r∈hU ps d rec k ts,kM (f+1) r:=by
 intro r hr
 obtain⟨c,hc,hr⟩:=List.mem_flatMap.mp hr
 have hs:Sm 5 (mkRat 1 ts.length):=Sm.inv (λe=>absurd (eq_nil_of_length_eq_zero e) (ne_nil_of_mem hc)) (lt_of_le_of_lt hl (by decide))
 unfold rowsOf at hr
 split at hr
 ·rw[mem_singleton.mp hr]
  exact⟨hs.le (le_add_left 5 (5*f)),le_add_left 2 f⟩
 ·obtain⟨r',xM,rfl⟩:=mem_map.mp hr
  exact(h c hc r' xM).up hs
theorem FO(ps:List aG)(d:Int)(cs:List Nat):(iv ps d cs).length<=cs.length:=length_filter_le _ _
theorem rt{ps:List aG}{d:Int}(hl:ps.length<=20):∀(f k:Nat),∀r∈iH ps d f k,kM f r
 |0,k=>λr hr=>nomatch hr
 |f+1,k=>AD (le_trans (FO _ _ _) (le_trans (pF ps d k) hl)) λc Z=>rt hl f c
theorem FP{ps:List aG}(hW:cL ps){d:Int}{rec:Nat->List Row}{k k':Nat}{p:aG}(hp:ps[k]?=some p){P:Nat->Bool}(hP:∀c,P c=true->lG ps d k c=true)(h:∀c q,ps[c]?=some q->(rec c).length<=2^eY ps q.aQ):(hU ps d rec k' ((List.range ps.length).filter P)).length<2^eY ps p.aQ:=by
 unfold hU
 rw[List.length_flatMap]
 refine Qw λc hc=>FC (hP c hc) λq hq hm=>(u9 hW hq d k hm).elim λq2 h2=>?_
 rw[hp] at h2
 refine⟨q,hq,by cases h2.1;exact h2.2,?_⟩
 unfold rowsOf
 split
 ·exact Nat.two_pow_pos _
 ·rw[length_map];exact h c q hq
theorem vd{ps:List aG}(hW:cL ps){d:Int}:∀(f k:Nat) (p:aG),ps[k]?=some p->(iH ps d f k).length<=2^eY ps p.aQ
 |0,k,p,_=>zero_le _
 |f+1,k,p,hp=>by
  refine(?_:(hU ps d (iH ps d f) k (((List.range ps.length).filter (lG ps d k)).filter (gu ps d 20))).length<=_)
  rw[List.filter_filter]
  exact le_of_lt (FP hW hp (λc h=>(and_eq_true_iff.mp h).2) (vd hW f))
theorem xP{ps:List aG}(hl:ps.length<=20)(b:Int):2^eY ps b<=1048576:=pow_le_pow_right (n:=2) (j:=20) (by decide) (le_trans List.countP_le_length hl)
section
variable{n:Nat}{l:Nat}
theorem xQ{d:Int}{ps:List aG}(hW:cL ps)(hl:ps.length<=20):∀{f k:Nat} {p:aG} {H:Hp} {Q Y:PQ},f<=20->H[l]?=some (.list (ps.map bv))->ps[k]?=some p->eY ps p.aQ<f->xN H (iH ps d f k) Q->aA (n+2*f+23) sd [.ref l,nv k,.int d] H Q Y
 |0,k,p,H,Q,Y,_,_,_,hf,_=>absurd hf (not_lt_zero _)
 |f+1,k,p,H,Q,Y,rA,hA,hp,hf,q=>Pw (by
  refine bP (u6 (n:=n+2*f+22) hA hl λlc H₁ Z x hc=>?_)
  refine bP (FH (n:=n+2*f) (rec:=iH ps d f) hW hl (le_trans (pF ps d k) hl) (λc hc=>tn hW hp hc λq hq Z Z=>⟨q,hq⟩) (λc Z r hr=>(rt hl f c r hr).le (le_trans (le_of_succ_le rA) (by decide))) (le_trans (vd hW (f+1) k p hp) (le_trans (xP hl _) (by decide))) (λc hc H₂ Q₂ Y₂ Qx Qy=>tn hW hp hc λq hq Z hy=>xQ hW hl (le_of_succ_le rA) Qx hq (lt_of_lt_of_le hy (le_of_lt_succ hf)) Qy) (x _ _ hA) hc ?_)
  exact λlr vs H' hr x' a r=>q lr vs H' (le_trans x.len hr) (x.trans x') a r)
end
end Mine.L
namespace Mine.L
variable{Y:PQ}
open Mine.P PySem
noncomputable def pL(k c:Nat):Bool:=!((c:Int)==(k:Int))
noncomputable def others(ps:List aG)(d:Int)(k bS:Nat):List Nat:=(kids ps d bS).filter (pL k)
noncomputable def AE(dz:aP)(H:Hp)(F:Nat->Bool)(tot:List Nat)(as:List Nat)(acc:List V)(ρ:aP)(H':Hp):Prop:=∀OtIζ:Prop,(∀(o:Option V) (an:List Nat) (e:ρ=o::dz) (eh:H'=H) (ea:acc=aV an) (t:an++as.filter F=tot),OtIζ)->OtIζ
theorem AE.mk{dz:aP}{H:Hp}{F:Nat->Bool}{tot:List Nat}{as:List Nat}{acc:List V}{ρ:aP}{H':Hp}(o:Option V)(an:List Nat)(e:ρ=o::dz)(eh:H'=H)(ea:acc=aV an)(t:an++as.filter F=tot):AE dz H F tot as acc ρ H':=λZ bZ=>bZ o an e eh ea t
section
variable{n:Nat}{l k:Nat}{H:Hp}{Q:PQ}
theorem AF{α:Type}{F:α->Bool}{acc as tot:List α}{a:α}(t:acc++(a::as).filter F=tot){M:Prop}(h1:F a=true->(acc++[a])++as.filter F=tot->M)(h2:F a=false->acc++as.filter F=tot->M):M:=by
 rw[filter_cons] at t
 cases h:F a with
 |true=>rw[h] at t;exact h1 h (gp t)
 |false=>rw[h] at t;exact h2 h t
theorem FQ{d:Int}{ps:List aG}{bS:Nat}(hA:H[l]?=some (.list (ps.map bv)))(hl:ps.length<=20)(q:∀lc H',H.length<=lc->aC H H'->H'[lc]?=some (.list (aV (others ps d k bS)))->Q (.ref lc) H'):aA (n+3) vX [.ref l,nv bS,nv k,.int d] H Q Y:=Px (by
 refine bP (u6 (n:=n) hA hl λlc H₁ hb x hc=>?_)
 apply ay (cW hc)
 refine cz (cF (by rw[length_map];exact lt_of_le_of_lt (le_trans (pF ps d bS) hl) (by decide))) ?_
 refine m8 (AE [some (.ref l),some (nv bS),some (nv k),some (.int d)] H₁ (pL k) (others ps d k bS)) (λc as acc ρ H' h=>?_) (λacc ρ H' h=>?_) _ _ _ _ (.mk none [] rfl rfl rfl rfl)
 ·refine h _ λo an e eh ea t=>?_
  subst e eh
  refine λN hN=>?_
  refine(?_:bx (pL k c) _ _)
  exact AF t (λh t=>by rw[h];exact hN _ _ (c9 hc hc) (.mk _ (an++[c]) rfl rfl (by rw[ea];exact rq an c) t)) λh t=>by rw[h];exact hN _ _ (c9 hc hc) (.mk _ an rfl rfl ea t)
 ·refine h _ λo an e eh ea t=>?_
  subst eh ea
  rw[filter_nil,append_nil] at t
  subst t
  exact q _ _ (le_trans hb (le_of_lt (cu hc))) (x.trans (aC.aR _ _)) (bj _ _))
inductive Qz{α:Type}(dz:aP)(H:Hp)(F:α->V)(cs as:List α)(acc:List V)(ρ:aP)(H':Hp):Prop
 |mk (o:Option V) (an:List α) (e:ρ=o::dz) (x:aC H H') (ea:acc=an.map F) (t:an++as=cs)
theorem FS{d:Int}{ps:List aG}(hW:cL ps)(hl:ps.length<=20){cs:List Nat}(tc:∀c∈cs,∃p,ps[c]?=some p){r:aP}{i lc:Nat}(hr:r[i]?.join=some (.int d))(hA:H[l]?=some (.list (ps.map bv))){xv:aZ}(hC:H[lc]?=some xv){Q:List V->Hp->Prop}(q:∀H',aC H H'->Q (cs.map λc=>.bool (gu ps d 20 c)) H'):
  g7 [lc] H (.J 0) (λρ H Q=>WT ⟨aA (n+22),Y⟩ [] ρ H Q) (λρ H Q=>WE ⟨aA (n+22),Y⟩ (.call qp [.J 1,.J 0,.J (i+2)]) ρ H Q) (aV cs) (none::some (.ref l)::r) H [] Q:=by
 refine m8 (Qz (some (.ref l)::r) H (λc=>.bool (gu ps d 20 c)) cs) (λc as acc ρ H' h=>?_) (λacc ρ H' h=>?_) _ _ _ _ ⟨none,[],rfl,aC.refl H,rfl,rfl⟩
 ·refine h.casesOn λo an e x ea t=>?_
  subst e
  refine λN hN=>?_
  refine(tc c (t▸List.mem_append_right _ mem_cons_self)).elim λp hp=>?_
  apply ay (show((some (nv c)::some (V.ref l)::r)[i+2]?).join=some (.int d) from hr)
  exact bP (Ax (n:=n) (f:=20) hW hl (x l _ hA) hp (lt_of_lt_of_le (u7 (mem_of_getElem? hp)) hl) λH₂ b6=>hN _ _ (c9 hC ((x.trans b6) _ _ hC)) ⟨_,an++[c],rfl,x.trans b6,by rw[ea,map_append];rfl,gp t⟩)
 ·refine h.casesOn λo an e x ea t=>?_
  rw[append_nil] at t
  subst ea t
  exact q _ x
theorem all_bools{α:Type}(b:α->Bool):∀cs:List α,i0 (cs.map λc=>.bool (b c))=some (cs.map b)
 |[]=>rfl
 |c::r=>by
  refine(?_:((i0 (r.map λc=>.bool (b c))).map (b c::·))=_)
  rw[all_bools b r];rfl
theorem FT{α:Type}{b:α->Bool}{cs:List α}{m:Nat}(h:H[m]?=some (.list (cs.map λc=>.bool (b c)))):(dt H (.ref m)).bind i0=some (cs.map b):=by rw[b7 h];exact all_bools b cs
theorem FU{α:Type}(b:α->Bool)(cs:List α):(cs.map b).any id=cs.any b:=List.any_map
end
end Mine.L
namespace Mine.L
variable{Y:PQ}
open Mine.P PySem
theorem fH{t:Bool}{A B:Prop}(h:t=true)(a:A):bx t A B:=by rw[h];exact a
theorem gb{t:Bool}{A B:Prop}(h:t=false)(b:B):bx t A B:=by rw[h];exact b
theorem QA{α:Type}{acc:List α}{a:α}{r tot:List α}{B:Nat}(e:(acc++[a])++r=tot)(h:tot.length<=B):acc.length<B:=na ((append_assoc acc [a] r).symm.trans e) h
noncomputable def tp(ps:List aG)(d:Int)(k bS:Nat):Bool:=lv ps d bS||(others ps d k bS).any (gu ps d 20)
noncomputable def tq(ps:List aG)(d:Int)(k:Nat)(p:aG):List Nat:=(gU p d).filter (tp ps d k)
noncomputable def iJ(ps:List aG)(d:Int)(k bS:Nat):List Row:=hU ps d (iH ps d 20) bS (iv ps d (others ps d k bS))
noncomputable def tv(ps:List aG)(d:Int)(k:Nat)(p:aG):List Row:=hU ps d (iJ ps d k) k (tq ps d k p)
theorem AG(ps:List aG)(d:Int)(k bS:Nat):(others ps d k bS).length<=ps.length:=le_trans (length_filter_le _ _) (pF ps d bS)
theorem FV{ps:List aG}(hW:cL ps)(hl:ps.length<=20){d:Int}{k bS:Nat}{q:aG}(hq:ps[bS]?=some q):(iJ ps d k bS).length<=1048576:=by
 unfold iJ iv others kids
 rw[List.filter_filter,List.filter_filter]
 exact le_trans (le_of_lt (FP hW hq (λc h=>(and_eq_true_iff.mp h).2) (vd hW 20))) (xP hl _)
theorem FW{ps:List aG}(hl:ps.length<=20){d:Int}{k bS:Nat}:∀r∈iJ ps d k bS,kM 21 r:=AD (le_trans (FO _ _ _) (le_trans (AG ps d k bS) hl)) λc Z=>rt hl 20 c
theorem xR{α β:Type}{f:α->List β}{B:Nat}:∀{l:List α},(∀a∈l,(f a).length<=B)->(l.flatMap f).length<=l.length*B
 |[],_=>zero_le _
 |a::r,h=>by
  rw[flatMap_cons,length_append,length_cons,Nat.succ_mul,add_comm]
  exact add_le_add (xR λa ha=>h a (.tail _ ha)) (h a mem_cons_self)
theorem FX{ps:List aG}{d:Int}{k:Nat}{p:aG}{c:Nat}(h:c∈tq ps d k p):c∈gU p d:=(mem_filter.mp h).1
theorem xS{ps:List aG}(hW:cL ps){d:Int}{k k':Nat}{p:aG}(hp:ps[k']?=some p):(tq ps d k p).length<=2:=le_trans (length_filter_le _ _) (FA hW hp d)
theorem FY{ps:List aG}(hW:cL ps)(hl:ps.length<=20){d:Int}{k:Nat}{p:aG}(hp:ps[k]?=some p):(tv ps d k p).length<=2097152:=
 le_trans (xR (B:=1048576) λc hc=>by
  unfold rowsOf
  split
  ·exact(by decide:1<=1048576)
  ·rw[length_map]
   exact(u9 hW hp d c (FX hc)).elim λq hq=>FV hW hl hq.1) (Nat.mul_le_mul_right 1048576 (xS hW hp))
theorem QB{ps:List aG}(hW:cL ps)(hl:ps.length<=20){d:Int}{k:Nat}{p:aG}(hp:ps[k]?=some p):∀r∈tv ps d k p,kM 22 r:=AD (le_trans (xS hW hp) (by decide)) λc Z=>FW hl
noncomputable def AH(ps:List aG)(d:Int)(k l:Nat)(p:aG)(H:Hp)(as:List Nat)(ρ:aP)(H':Hp):Prop:=∀PtIζ:Prop,(∀(o4 o5:Option V) (acc:List Nat) (e:ρ=[some (.ref l),some (nv k),some (.int d),some (.ref H.length),o4,o5,none,none,none,none,none]) (x:aC H H') (a:H'[H.length]?=some (.list (aV acc))) (t:acc++as.filter (tp ps d k)=tq ps d k p) (b:∀c∈as,c∈gU p d),PtIζ)->PtIζ
theorem AH.mk{ps:List aG}{d:Int}{k l:Nat}{p:aG}{H:Hp}{as:List Nat}{ρ:aP}{H':Hp}(o4 o5:Option V)(acc:List Nat)(e:ρ=[some (.ref l),some (nv k),some (.int d),some (.ref H.length),o4,o5,none,none,none,none,none])(x:aC H H')(a:H'[H.length]?=some (.list (aV acc)))(t:acc++as.filter (tp ps d k)=tq ps d k p)(b:∀c∈as,c∈gU p d):AH ps d k l p H as ρ H':=λZ bZ=>bZ o4 o5 acc e x a t b
noncomputable def AI(ps:List aG)(d:Int)(rec:Nat->List Row)(l k lt lr:Nat)(H₁:Hp)(s:Rat)(tot:List Row)(ts as:List Nat)(ρ:aP)(H':Hp):Prop:=∀PuIζ:Prop,(∀(a4 a5 a7 a8 a9 gn:Option V) (rs:List Row) (vs:List V) (e:ρ=[some (.ref l),some (nv k),some (.int d),some (.ref lt),a4,a5,some (.ref lr),a7,a8,a9,gn]) (x:bu lr H₁ H') (a:H'[lr]?=some (.list vs)) (r:iu (lr+1) H' rs vs) (t:rs++as.flatMap (rowsOf ps d rec k s)=tot) (b:∀c∈as,c∈ts),PuIζ)->PuIζ
theorem AI.mk{ps:List aG}{d:Int}{rec:Nat->List Row}{l k lt lr:Nat}{H₁:Hp}{s:Rat}{tot:List Row}{ts as:List Nat}{ρ:aP}{H':Hp}(a4 a5 a7 a8 a9 gn:Option V)(rs:List Row)(vs:List V)(e:ρ=[some (.ref l),some (nv k),some (.int d),some (.ref lt),a4,a5,some (.ref lr),a7,a8,a9,gn])(x:bu lr H₁ H')(a:H'[lr]?=some (.list vs))(r:iu (lr+1) H' rs vs)(t:rs++as.flatMap (rowsOf ps d rec k s)=tot)(b:∀c∈as,c∈ts):AI ps d rec l k lt lr H₁ s tot ts as ρ H':=λZ bZ=>bZ a4 a5 a7 a8 a9 gn rs vs e x a r t b
section
variable{n:Nat}{l k:Nat}{H:Hp}{Q:PQ}
theorem QC{d:Int}{ps:List aG}(hW:cL ps)(hl:ps.length<=20){p:aG}(hp:ps[k]?=some p)(hA:H[l]?=some (.list (ps.map bv)))(q:xN H (tv ps d k p) Q):aA (n+65) yX [.ref l,nv k,.int d] H Q Y:=Py (by
 refine bP (As (be _ hA) hp ?_)
 have FZ:=u9 hW hp d
 refine ft (AH ps d k l p H) (λc as ρ H' h=>?_) (λρ H' h=>?_) _ _ _ (.mk none none [] rfl (aC.aR _ _) (bj _ _) rfl (λc h=>h))
 ·refine h _ λo4 o5 acc e x a t b=>?_
  subst e
  refine λN hN=>(FZ c (b c mem_cons_self)).elim λpq nf=>?_
  refine bP (FQ (n:=n+61) (x _ _ hA) hl λlo H₂ AJ b6 ao=>?_)
  have ext:=x.trans b6
  have ju:∀c∈as,c∈gU p d:=λc hc=>b c (.tail _ hc)
  have yes:∀H₃,aC H₂ H₃->tp ps d k c=true->fE ((dt H₃ (.ref H.length)).isSome) (pg .append (.ref H.length) [nv c] H₃ λZ H₄=>N [some (.ref l),some (nv k),some (.int d),some (.ref H.length),some (nv c),some (.ref lo),none,none,none,none,none] H₄):=λH₃ cw hk=>by
   have vg:=cw _ _ (b6 _ _ a)
   exact AF t (λZ t=>fS vg (f9 vg (by rw[length_map];exact QA t (le_trans (xS hW hp) (by decide))) (hN _ _ rfl (.mk _ _ (acc++[c]) rfl ((ext.trans cw).set (le_refl _) _) (by rw[<-rq];exact dN vg _) t ju)))) λh Z=>absurd (hk.symm.trans h) (by decide)
  have no:∀H₃,aC H₂ H₃->tp ps d k c=false->N [some (.ref l),some (nv k),some (.int d),some (.ref H.length),some (nv c),some (.ref lo),none,none,none,none,none] H₃:=λH₃ cw hk=>AF t (λh Z=>absurd (hk.symm.trans h) (by decide)) λZ t=>hN _ _ rfl (.mk _ _ acc rfl (ext.trans cw) (cw _ _ (b6 _ _ a)) t ju)
  have ek:tp ps d k c=(fq pq d||(others ps d k c).any (gu ps d 20)):=by rw[<-jW nf.1];rfl
  refine bP (mZ (ext _ _ hA) nf.1 ?_)
  refine(?_:bx (fq pq d==false) _ _)
  refine iG (λh2=>?_) λh2=>?_
  ·rw[h2,Bool.false_or] at ek
   apply ay (cW ao)
   refine cz (cF (by rw[length_map];exact lt_of_le_of_lt (le_trans (AG ps d k c) hl) (by decide))) ?_
   refine FS (n:=n+42) (i:=1) hW hl (λc' lK=>tn hW nf.1 (mem_filter.mp lK).1 λq hq Z Z=>⟨q,hq⟩) rfl (ext _ _ hA) ao λH₃ cw=>?_
   apply ay (FT (bj _ _))
   rw[FU]
   refine ck (λh3=>?_) λh3=>?_
   ·exact yes _ (cw.trans (aC.aR _ _)) (ek.trans h3)
   ·exact no _ (cw.trans (aC.aR _ _)) (ek.trans h3)
  ·rw[h2,Bool.true_or] at ek
   exact fH h2 (yes _ (aC.refl _) ek)
 ·refine h _ λo4 o5 ts e x a1 t b=>?_
  subst e
  rw[filter_nil,append_nil] at t
  subst t
  generalize pI:tq ps d k p=ts at *
  have hm:∀c∈ts,c∈gU p d:=λc h=>FX (pI▸h)
  have cO:ts.length<=2:=pI▸xS hW hp
  have ht:=FY hW hl (d:=d) hp
  rw[show tv ps d k p=hU ps d (iJ ps d k) k ts by rw[<-pI];rfl] at ht q
  generalize hs:mkRat 1 ts.length=s
  have AC:ts≠[]->Sm 5 s:=λh=>hs▸Sm.inv (λe=>h (eq_nil_of_length_eq_zero e)) (lt_of_le_of_lt cO (by decide))
  have lJ:=cu a1
  have AK:H.length<=H'.length:=le_of_lt lJ
  have xT:=be [.list []] a1
  apply ay (cW xT)
  refine ft (AI ps d (iJ ps d k) l k H.length H'.length (H'++[.list []]) s (hU ps d (iJ ps d k) k ts) ts) (λc as ρ H₂ h=>?_) (λρ H₂ h=>?_) _ _ _ (.mk _ _ none none none none [] [] rfl (bu.refl _ _) (bj _ _) .nil (by rw[<-hs];rfl) (λc h=>h))
  ·refine h _ λa4 a5 a7 a8 a9 gn rs vs e b6 a r t b=>?_
   subst e
   refine λN hN=>?_
   have jX:=b6 _ _ (ne_of_lt lJ) xT
   have cw:aC H H₂:=b6.ext (x.trans (aC.aR _ _)) AK
   have hc:=b c mem_cons_self
   have cT:ts≠[]:=ne_nil_of_mem hc
   refine(FZ c (hm c hc)).elim λpq nf=>?_
   have nf:=nf.1
   rw[flatMap_cons,show rowsOf ps d (iJ ps d k) k s c=if fq pq d then[⟨c,s,[k,c]⟩] else(iJ ps d k c).map (up k s) by rw[<-jW nf];rfl] at t
   apply ay (b7 jX)
   rw[length_map]
   refine bP (Az (λe=>cT (eq_nil_of_length_eq_zero e)) (lt_of_le_of_lt cO (by decide)) ?_)
   rw[hs]
   refine bP (mZ (cw l _ hA) nf ?_)
   refine(?_:bx (fq pq d) _ _)
   refine ck (λh2=>?_) λh2=>?_
   ·rw[h2] at t
    have t:rs++(⟨c,s,[k,c]⟩::as.flatMap (rowsOf ps d (iJ ps d k) k s))=hU ps d (iJ ps d k) k ts:=t
    exact fS a (f9 (be _ a) (by rw[r.len];exact na t (le_trans ht (by decide))) (hN _ _ (c9 xT (dF (be _ jX) _ (ne_of_gt lJ))) (.mk _ _ _ _ _ _ (rs++[⟨c,s,[k,c]⟩]) _ rfl (b6.trans ((bu.aR _ _ _).trans (bu.set _ _ _))) (dN (be _ a) _) ((r.b ((bu.aR _ _ _).trans (bu.set _ _ _))).snoc (.mk H₂.length (cu a) rfl (dF (bj _ _) _ (ne_of_lt (cu a))))) (gp t) (λc hc=>b c (.tail _ hc)))))
   ·rw[h2] at t
    have t:rs++((iJ ps d k c).map (up k s)++as.flatMap (rowsOf ps d (iJ ps d k) k s))=hU ps d (iJ ps d k) k ts:=t
    refine bP (FQ (n:=n+61) (cw _ _ hA) hl λlo Ho V1 xo ao=>?_)
    have F0:∀c'∈others ps d k c,∃p,ps[c']?=some p:=λc' lK=>tn hW nf (mem_filter.mp lK).1 λq hq Z Z=>⟨q,hq⟩
    refine bP (FH (n:=n+40) (rec:=iH ps d 20) hW hl (le_trans (AG ps d k c) hl) F0 (λc Z r hr=>(rt hl 20 c r hr).le (by decide)) (le_trans (FV hW hl nf) (by decide)) (λc' lK H₅ Q₅ Y₅ QD QE=>(F0 c' lK).elim λpc F1=>xQ (n:=n) hW hl (f:=20) (le_refl _) QD F1 (lt_of_lt_of_le (u7 (mem_of_getElem? F1)) hl) QE) ((cw.trans xo) _ _ hA) ao λlb us H₃ hb QF ab rb=>?_)
    have dQ:=xo.trans QF
    have hb:=le_trans xo.len hb
    have a':=dQ _ _ a
    have pJ:=lt_of_lt_of_le (cu a) hb
    apply ay (cW ab)
    refine vc (R:=λr v=>r∈iJ ps d k c/\kL (lb+1) H₃ r v) (xO l k H'.length (some (.int d)) (some (.ref H.length)) (some (nv c)) a5 (some (.ref H'.length)) H₃ s (hU ps d (iJ ps d k) k ts) (as.flatMap (rowsOf ps d (iJ ps d k) k s))) (λrw v bs ρ H₄ hv h=>?_) (λρ H₄ h=>?_) (rb.imp' λr v hr hv=>⟨hr,hv⟩) _ _ (.mk _ _ _ rs vs rfl (bu.refl _ _) a' (r.b (dQ.b _)) t)
    ·refine hv.2 _ λll nc e al=>?_
     subst e
     refine h _ λa8 a9 gn rs vs e gq a r t=>?_
     subst e
     refine λN' iI=>?_
     have sr:=FW hl _ hv.1
     have nl:ll≠H'.length:=ne_of_gt (lt_trans pJ nc)
     refine fS a (bP (vb (AC cT) sr.1 (by decide) ?_))
     refine lI (bj _ _) (be _ (gq _ _ nl al)) (by rw[length_append,length_map];exact lt_of_le_of_lt (add_le_add_left sr.2 _) (show 1+(21+1)<16000000 by decide)) ?_
     have fu:bu H'.length H₄ _:=(bu.aR _ H₄ [aZ.list [nv k]]).trans ((bu.aR _ _ [aZ.list (aV (k::rw.line))]).trans (bu.set _ _ (.list (vs++[.aF [nv rw.i8,rv (s*rw.lH),.ref (H₄++[aZ.list [nv k]]).length]]))))
     exact f9 (be _ (be _ a)) (by rw[r.len];exact na t (le_trans ht (by decide))) (iI _ _ (c9 ab ((gq.trans fu) _ _ (ne_of_gt pJ) ab)) (.mk _ _ _ (rs++[up k s rw]) _ rfl (gq.trans fu) (dN (be _ (be _ a)) _) ((r.b fu).snoc (.mk ((H₄++[aZ.list [nv k]]).length) (cu (be _ a)) rfl (dF (bj _ _) _ (ne_of_lt (cu (be _ a)))))) (gp t)))
    ·refine h _ λa8 a9 gn rs vs e gq a r t=>?_
     subst e
     have fu:=(dQ.b H'.length).trans gq
     exact hN _ _ (c9 xT (fu _ _ (ne_of_lt lJ) jX)) (.mk _ _ _ _ _ _ rs vs rfl (b6.trans fu) a r t (λc hc=>b c (.tail _ hc)))
  ·refine h _ λa4 a5 a7 a8 a9 gn rs vs e b6 a r t b=>?_
   subst e
   rw[flatMap_nil,append_nil] at t
   exact q _ vs _ AK (b6.ext (x.trans (aC.aR _ _)) AK) a (t▸r))
end
end Mine.L
namespace Mine.L
variable{Y:PQ}
open Mine.P PySem
theorem QG{l m:List Int}(h:l.Perm m)(a:l.Pairwise (·<=·))(b:m.Pairwise (·<=·)):l=m:=h.eq_of_pairwise (λx y Z Z h1 h2=>Int.le_antisymm h1 h2) a b
section
variable{A B K:Type}[DecidableEq A][DecidableEq K]
noncomputable def rB(ws:List (A×B))(a:A):Option B:=(ws.find? λp=>decide (p.1=a)).map (·.2)
noncomputable def jv(ws:List (A×B))(a:A)(b:B):List (A×B):=if ws.any (λp=>decide (p.1=a)) then ws.map (λp=>if p.1=a then(p.1,b) else p) else ws++[(a,b)]
noncomputable def gc(ws:List (A×B))(a:A):Bool:=ws.any λp=>decide (p.1=a)
noncomputable def dA(f:A->K)(S:B->V->Prop):List (A×B)->List (K×V)->Prop:=cm λw e=>e.1=f w.1/\S w.2 e.2
variable{f:A->K}(hf:∀a b,f a=f b->a=b){S:B->V->Prop}{ws:List (A×B)}{es:List (K×V)}
include hf
theorem F2{a b:A}{k:K}(e:k=f b):decide (k=f a)=decide (b=a):=decide_eq_decide.mpr ⟨λh=>hf _ _ (e▸h),λh=>e.trans (congrArg f h)⟩
theorem dA.has(h:dA f S ws es)(a:A):iZ es (f a)=gc ws a:=h.rec (motive:=λws es Z=>iZ es (f a)=gc ws a) rfl λr Z ih=>by
 refine(?_:(decide (_=f a)||iZ _ (f a))=(decide (_=a)||gc _ a))
 rw[ih,F2 hf r.1]
theorem dA.get(h:dA f S ws es)(a:A):gc ws a=true->∃b v,rB ws a=some b/\fX es (f a)=some v/\S b v:=h.rec (motive:=λws es Z=>gc ws a=true->∃b v,rB ws a=some b/\fX es (f a)=some v/\S b v) (λh=>absurd h Bool.false_ne_true) λ{w e ws es} r _ ih h=>by
 unfold rB fX
 rw[find?_cons,find?_cons,F2 hf r.1]
 cases hd:decide (w.1=a) with
 |true=>exact⟨w.2,e.2,rfl,rfl,r.2⟩
 |false=>
  refine ih ?_
  have h:(decide (w.1=a)||gc ws a)=true:=h
  rw[hd] at h;exact h
theorem dA.put(h:dA f S ws es){a:A}{b:B}{v:V}(r:S b v):dA f S (jv ws a b) (dput es (f a) v):=by
 unfold jv dput
 rw[show(es.any λp=>decide (p.1=f a))=_ from dA.has hf h a]
 cases ha:gc ws a with
 |false=>
  rw[show(ws.any λp=>decide (p.1=a))=false from ha]
  exact cm.snoc h ⟨rfl,r⟩
 |true=>
  rw[show(ws.any λp=>decide (p.1=a))=true from ha]
  refine h.rec (motive:=λws es Z=>dA f S (ws.map λp:A×B=>if p.1=a then(p.1,b) else p) (es.map λp:K×V=>if p.1=f a then(p.1,v) else p)) .nil λ{w e ws es} r' _ ih=>.cons ?_ ih
  refine(?_:(if e.1=f a then(e.1,v) else e).1=f (if w.1=a then(w.1,b) else w).1/\S (if w.1=a then(w.1,b) else w).2 (if e.1=f a then(e.1,v) else e).2)
  by_cases hd:w.1=a
  ·rw[if_pos hd,if_pos (by rw[r'.1,hd])];exact⟨r'.1,r⟩
  ·rw[if_neg hd,if_neg λq=>hd (hf _ _ (r'.1▸q))];exact r'
omit hf
theorem rC{a:A}:gc ws a=true↔a∈ws.map (·.1):=by
 unfold gc
 rw[any_eq_true,mem_map]
 exact⟨λ⟨p,h1,h2⟩=>⟨p,h1,of_decide_eq_true h2⟩,λ⟨p,h1,h2⟩=>⟨p,h1,decide_eq_true h2⟩⟩
theorem F4(a:A)(b:B):(jv ws a b).map (·.1)=if gc ws a then ws.map (·.1) else ws.map (·.1)++[a]:=by
 unfold jv
 refine(?_:(if gc ws a=true then _ else _:List (A×B)).map _=_)
 split
 ·rw[map_map]
  exact List.map_congr_left λp Z=>by refine(?_:(if p.1=a then(p.1,b) else p).1=p.1);split<;>rfl
 ·rw[map_append];rfl
theorem AL{a:A}{b:B}{p:A×B}(h:p∈jv ws a b):p∈ws\/p=(a,b):=by
 unfold jv at h
 split at h
 ·obtain⟨q,hq,e⟩:=mem_map.mp h
  split at e
  ·rename_i h1;exact .inr (by rw[<-e,h1])
  ·exact .inl (e▸hq)
 ·rcases mem_append.mp h with h|h
  ·exact .inl h
  ·exact .inr (mem_singleton.mp h)
omit [DecidableEq A] [DecidableEq K] in
theorem dA.keys{g:K->V}(h:dA f S ws es):es.map (λp=>g p.1)=(ws.map (·.1)).map λa=>g (f a):=h.rec (motive:=λws es Z=>es.map (λp=>g p.1)=(ws.map (·.1)).map λa=>g (f a)) rfl λr Z ih=>by
 rw[map_cons,map_cons,map_cons,ih,r.1]
omit [DecidableEq A] [DecidableEq K] in
theorem dA.imp{S':B->V->Prop}(h:dA f S ws es)(k:∀b v,S b v->S' b v):dA f S' ws es:=cm.imp h λZ Z r=>⟨r.1,k _ _ r.2⟩
end
theorem AM:∀(n:Nat) (l:List Nat),l.Nodup->(∀k∈l,k<n)->l.length<=n
 |0,l,_,h=>by
  cases l with
  |nil=>exact le_refl 0
  |cons a r=>exact absurd (h a mem_cons_self) (not_lt_zero a)
 |n+1,l,hn,h=>by
  have ih:=AM n (l.erase n) (hn.erase _) λk hk=>Nat.lt_of_le_of_ne (le_of_lt_succ (h k ((hn.mem_erase_iff).mp hk).2)) ((hn.mem_erase_iff).mp hk).1
  rw[List.length_erase] at ih
  split at ih<;>lia
end Mine.L
namespace Mine.L
variable{Y:PQ}
open Mine.P PySem
noncomputable abbrev St:=Nat×Bool
noncomputable abbrev sv(s:St):V:=.aF [nv s.1,.bool s.2]
noncomputable abbrev kz(s:St):Int×Bool:=((s.1:Int),s.2)
theorem rD(a b:St)(h:kz a=kz b):a=b:=Prod.ext (ofNat.inj (congrArg (λp:Int×Bool=>p.1) h)) (congrArg (λp:Int×Bool=>p.2) h)
noncomputable def vh(ps:List aG)(d:Int)(p:aG)(k:Nat)(down:Bool):List St:=(kids ps d k).map (λc=>(c,true))++(if down then[] else(gU p d).map λc=>(c,false))
section
variable{n:Nat}{l k:Nat}{H:Hp}{Q:PQ}
theorem gV{α:Type}{g:α->V}{ws:List Nat}{test:aP->Hp->(Bool->Hp->Prop)->Prop}{elt:aP->Hp->PQ->Prop}{Q:List V->Hp->Prop}{dz:aP}{P:α->Bool}{F:α->V}:∀(as:List α) (o:Option V) (acc:List V),(∀a,a∈as->∀T:Bool->Hp->Prop,T (P a) H->test (some (g a)::dz) H T)->(∀a,a∈as->P a=true->∀N:PQ,N (F a) H->elt (some (g a)::dz) H N)->Q (acc++(as.filter P).map F) H->g7 ws H (.J 0) test elt (as.map g) (o::dz) H acc Q
 |[],o,acc,_,_,q=>by rw[filter_nil,map_nil,append_nil] at q;exact q
 |a::as,o,acc,ht,he,q=>by
  have st:eF ws H H=true:=all_eq_true.mpr λl Z=>decide_eq_true rfl
  refine ay (a:=some (g a)::dz) rfl (ht a mem_cons_self _ ?_)
  rw[filter_cons] at q
  have go:∀acc',Q (acc'++(as.filter P).map F) H->g7 ws H (.J 0) test elt (as.map g) (some (g a)::dz) H acc' Q:=λacc'=>gV as _ acc' (λa ha=>ht a (.tail _ ha)) λa ha=>he a (.tail _ ha)
  cases hp:P a with
  |true=>
   rw[hp] at q
   exact he a mem_cons_self hp _ ⟨st,go _ (by rw[append_assoc];exact q)⟩
  |false=>
   rw[hp] at q
   exact⟨st,go _ q⟩
theorem pM{α:Type}(l:List α):l.filter (λZ=>true)=l:=List.filter_eq_self.mpr λZ Z=>rfl
theorem QH{d:Int}{ps:List aG}(hW:cL ps)(hl:ps.length<=20){p:aG}(hp:ps[k]?=some p)(down:Bool)(hA:H[l]?=some (.list (ps.map bv)))(q:∀lc H',H.length<=lc->aC H H'->H'[lc]?=some (.list ((vh ps d p k down).map sv))->Q (.ref lc) H'):aA (n+3) yU [.ref l,sv (k,down),.int d] H Q Y:=Pk (by
 have hk:=lt_of_le_of_lt (le_trans (pF ps d k) hl) (show 20<16000000 by decide)
 refine bP (u6 (n:=n) hA hl λlc H₁ hb x hc=>?_)
 apply ay (cW hc)
 refine cz (cF (by rw[length_map];exact hk)) (gV (P:=λZ=>true) (F:=λc=>sv (c,true)) _ _ _ (λa Z T h=>h) (λa Z Z N h=>h) ?_)
 rw[pM]
 have a1:=bj H₁ (.list ((kids ps d k).map λc=>sv (c,true)))
 have h1:=le_trans hb (le_of_lt (cu hc))
 cases down with
 |true=>exact q _ _ h1 (x.trans (aC.aR _ _)) (by unfold vh;rw[map_append,map_map];refine(?_:_=some (aZ.list (_++[])));rw[append_nil];exact a1)
 |false=>
  refine bP (As (be _ (x _ _ hA)) hp ?_)
  have h2:=FA hW hp d
  refine cz (cF (by rw[length_map];exact lt_of_le_of_lt h2 (by decide))) (gV (P:=λZ=>true) (F:=λc=>sv (c,false)) _ _ _ (λa Z T h=>h) (λa Z Z N h=>h) ?_)
  rw[pM]
  refine lI (be _ a1) (bj _ _) (by rw[length_append,nil_append,length_map,length_map];exact lt_of_le_of_lt (add_le_add (le_trans (pF ps d k) hl) h2) (by decide)) ?_
  exact q _ _ (le_trans h1 (by rw[length_append,length_append,add_assoc];exact le_add_right _ _)) ((x.trans (aC.aR _ _)).trans ((aC.aR _ _).trans (aC.aR _ _))) (by rw[bj];unfold vh;rw[map_append,map_map];refine(?_:_=some (aZ.list (_++((gU p d).map λc=>(c,false)).map sv)));rw[map_map];rfl))
end
end Mine.L
namespace Mine.L
variable{Y:PQ}
open Mine.P PySem
noncomputable abbrev dC:=List (St×List Nat)
noncomputable abbrev Kn:=List (St×Unit)
noncomputable def eI(b:Nat)(H:Hp)(w:List Nat)(v:V):Prop:=∀LnAtζ:Prop,(∀(l:Nat) (hb:b<=l) (e:v=.ref l) (a:H[l]?=some (.list (aV w))),LnAtζ)->LnAtζ
theorem eI.mk{b:Nat}{H:Hp}{w:List Nat}{v:V}(l:Nat)(hb:b<=l)(e:v=.ref l)(a:H[l]?=some (.list (aV w))):eI b H w v:=λZ bZ=>bZ l hb e a
theorem eI.ext{b:Nat}{H H':Hp}{w:List Nat}{v:V}(h:eI b H w v)(x:aC H H'):eI b H' w v:=h _ λl hb e a=>(.mk l hb e (x _ _ a))
theorem eI.set{b lf:Nat}{H H':Hp}{w:List Nat}{v:V}{c:aZ}(h:eI b H w v)(hf:H[lf]?=some c)(hc:∀vs,c≠.list vs)(x:bu lf H H'):eI b H' w v:=h _ λl hb e a=>(.mk l hb e (x l _ (λq=>hc _ (by rw[<-q] at hf;exact Option.some.inj (hf.symm.trans a))) a))
noncomputable def pN(a b:List Nat):Bool:=ky (a.map λi:Nat=>(i:Int)) (b.map λi:Nat=>(i:Int))
noncomputable def i9(ws:dC)(s:St):List Nat:=(rB ws s).getD []
noncomputable def i5(kn:Kn)(way:List Nat)(found:dC)(o:St):dC:=if !gc kn o&&(!gc found o||pN (way++[o.1]) (i9 found o)) then jv found o (way++[o.1]) else found
noncomputable def F5(ps:List aG)(d:Int)(s:St):List St:=match ps[s.1]? with
 |some p=>vh ps d p s.1 s.2
 |none=>[]
noncomputable def pO(ps:List aG)(d:Int)(kn:Kn)(ws:dC)(found:dC)(s:St):dC:=(F5 ps d s).foldl (i5 kn (i9 ws s)) found
noncomputable def jY(n L:Nat)(ks:List St)(ws:dC):Prop:=∀WOkζ:Prop,(∀(nd:(ks++ws.map (·.1)).Nodup) (rg:∀e∈ws,e.1.1<n) (ln:∀e∈ws,e.2.length<=L),WOkζ)->WOkζ
theorem jY.mk{n L:Nat}{ks:List St}{ws:dC}(nd:(ks++ws.map (·.1)).Nodup)(rg:∀e∈ws,e.1.1<n)(ln:∀e∈ws,e.2.length<=L):jY n L ks ws:=λZ bZ=>bZ nd rg ln
theorem QI{a b:St}(e:2*a.1+a.2.toNat=2*b.1+b.2.toNat):a=b:=by
 have h1:=toNat_le a.2
 have h2:=toNat_le b.2
 refine Prod.ext (by lia) ?_
 have e2:a.2.toNat=b.2.toNat:=by lia
 revert e2
 cases a.2<;>cases b.2<;>first|(intro;rfl)|(intro h;cases h)
theorem AN{n:Nat}{l:List St}(h:l.Nodup)(hr:∀s∈l,s.1<n):l.length<=2*n:=by
 have h':(l.map λs:St=>2*s.1+s.2.toNat).Nodup:=Pairwise.map _ (λa b ml e=>ml (QI e)) h
 have:=AM (2*n) _ h' λk hk=>by
  obtain⟨s,hs,rfl⟩:=mem_map.mp hk
  have:=hr s hs
  have:=toNat_le s.2
  lia
 rw[length_map] at this;exact this
theorem jY.len{n L:Nat}{ks:List St}{ws:dC}(h:jY n L ks ws):ws.length<=2*n:=h _ λnd rg Z=>by
 rw[<-length_map (f:=(·.1))]
 exact AN (nodup_append.mp nd).2.1 λs hs=>(mem_map.mp hs).elim λe he=>he.2▸rg e he.1
theorem jY.put{n L:Nat}{ks:List St}{ws:dC}(h:jY n L ks ws){s:St}{w:List Nat}(hk:s∉ks)(hn:s.1<n)(hw:w.length<=L):jY n L ks (jv ws s w):=h _ λnd rg ln=>by
 refine(.mk (?_) (λe he=>(AL he).elim (rg e) λq=>by rw[q];exact hn) (λe he=>(AL he).elim (ln e) λq=>by rw[q];exact hw))
 rw[F4]
 split
 ·exact nd
 ·rename_i hs
  have hs:s∉ws.map (·.1):=λm=>hs (rC.mpr m)
  rw[<-append_assoc]
  exact nodup_append.mpr ⟨nd,nodup_cons.mpr ⟨not_mem_nil,nodup_nil⟩,λa ha b hb e=>by
   rw[mem_singleton.mp hb] at e
   exact(mem_append.mp (e▸ha)).elim hk hs⟩
section
variable{n:Nat}{l k:Nat}{H:Hp}{Q:PQ}
theorem xU{lw ew:Nat}{es:List ((Int×Bool)×V)}{s:St}{v:V}(h:H[lw]?=some (.cD ew es))(e:fX es (kz s)=some v):fh (.ref lw) (sv s) H=some v:=by
 refine(?_:((H[lw]?.bind jM).bind λes=>fX es (kz s))=_)
 rw[h];exact e
theorem F6{lw ew:Nat}{es:List ((Int×Bool)×V)}{s:St}(h:H[lw]?=some (.cD ew es)):eD .iT (sv s) (.ref lw) H=some (!iZ es (kz s)):=by
 refine(?_:Option.map _ (match H[lw]?.bind gQ with|some es=>_|none=>_)=_)
 rw[h]
 refine(?_:Option.map _ (match H[lw]?.bind jM with|some es=>_|none=>_)=_)
 rw[h];rfl
theorem xV:∀l:List Nat,allInts (aV l)=some (l.map λi:Nat=>(i:Int))
 |[]=>rfl
 |a::r=>by
  refine(?_:((allInts (aV r)).map ((a:Int)::·))=_)
  rw[xV r];rfl
theorem F7{a b:Nat}{x y:List Nat}(ha:H[a]?=some (.list (aV x)))(hb:H[b]?=some (.list (aV y))):eD .lt (.ref a) (.ref b) H=some (pN x y):=by
 refine(?_:(((dt H (.ref a)).bind allInts).bind λp=>((dt H (.ref b)).bind allInts).map λq=>ky p q)=_)
 rw[b7 ha,b7 hb]
 refine(?_:((allInts (aV x)).bind λp=>(allInts (aV y)).map λq=>ky p q)=_)
 rw[xV,xV];rfl
theorem F8{lf ef:Nat}{fs:List ((Int×Bool)×V)}{s:St}{v:V}{k:Hp->Prop}(h:H[lf]?=some (.cD ef fs))(hs:fs.length<16000000)(q:∀ep,k (H.set lf (.cD ep (dput fs (kz s) v)))):oZ (.ref lf) (sv s) v H k:=ay h (cz (cF hs) q)
theorem AO{lw ew:Nat}{es:List ((Int×Bool)×V)}(h:H[lw]?=some (.cD ew es)):keysOf H (.ref lw)=some (es.map λp=>kB p.1):=by
 refine(?_:(match H[lw]?.bind gQ with|some es=>_|none=>_)=_)
 rw[h]
 refine(?_:(match H[lw]?.bind jM with|some es=>_|none=>_)=_)
 rw[h];rfl
end
end Mine.L
namespace Mine.L
variable{Y:PQ}
open Mine.P PySem
noncomputable def AP(ps:List aG)(F:dC->St->dC)(tot:dC)(ks:List St)(L b lf:Nat)(x0 x1 x2 x3:V)(H₁:Hp)(ss as:List St)(ρ:aP)(H':Hp):Prop:=∀FuIζ:Prop,(∀(o5 o6 o7:Option V) (ef:Nat) (fs:List ((Int×Bool)×V)) (found:dC) (e:ρ=[some x0,some x1,some x2,some x3,some (.ref lf),o5,o6,o7]) (x:bu lf H₁ H') (a:H'[lf]?=some (.cD ef fs)) (dc:dA kz (eI b H') found fs) (ok:jY ps.length L ks found) (t:as.foldl F found=tot) (pP:∀s∈as,s∈ss),FuIζ)->FuIζ
theorem AP.mk{ps:List aG}{F:dC->St->dC}{tot:dC}{ks:List St}{L b lf:Nat}{x0 x1 x2 x3:V}{H₁:Hp}{ss as:List St}{ρ:aP}{H':Hp}(o5 o6 o7:Option V)(ef:Nat)(fs:List ((Int×Bool)×V))(found:dC)(e:ρ=[some x0,some x1,some x2,some x3,some (.ref lf),o5,o6,o7])(x:bu lf H₁ H')(a:H'[lf]?=some (.cD ef fs))(dc:dA kz (eI b H') found fs)(ok:jY ps.length L ks found)(t:as.foldl F found=tot)(pP:∀s∈as,s∈ss):AP ps F tot ks L b lf x0 x1 x2 x3 H₁ ss as ρ H':=λZ bZ=>bZ o5 o6 o7 ef fs found e x a dc ok t pP
noncomputable def AQ(ps:List aG)(F:dC->St->dC)(tot:dC)(ks:List St)(L b lf:Nat)(x0 x1 x2 x3 x5:V)(H₁:Hp)(as:List St)(ρ:aP)(H':Hp):Prop:=∀FvIζ:Prop,(∀(o6 o7:Option V) (ef:Nat) (fs:List ((Int×Bool)×V)) (found:dC) (e:ρ=[some x0,some x1,some x2,some x3,some (.ref lf),some x5,o6,o7]) (x:bu lf H₁ H') (a:H'[lf]?=some (.cD ef fs)) (dc:dA kz (eI b H') found fs) (ok:jY ps.length L ks found) (t:as.foldl F found=tot) (pP:∀o∈as,o.1<ps.length),FvIζ)->FvIζ
theorem AQ.mk{ps:List aG}{F:dC->St->dC}{tot:dC}{ks:List St}{L b lf:Nat}{x0 x1 x2 x3 x5:V}{H₁:Hp}{as:List St}{ρ:aP}{H':Hp}(o6 o7:Option V)(ef:Nat)(fs:List ((Int×Bool)×V))(found:dC)(e:ρ=[some x0,some x1,some x2,some x3,some (.ref lf),some x5,o6,o7])(x:bu lf H₁ H')(a:H'[lf]?=some (.cD ef fs))(dc:dA kz (eI b H') found fs)(ok:jY ps.length L ks found)(t:as.foldl F found=tot)(pP:∀o∈as,o.1<ps.length):AQ ps F tot ks L b lf x0 x1 x2 x3 x5 H₁ as ρ H':=λZ bZ=>bZ o6 o7 ef fs found e x a dc ok t pP
section
variable{n:Nat}{l k:Nat}{H:Hp}{Q:PQ}
theorem QJ{ps:List aG}(hW:cL ps){d:Int}{p:aG}{k:Nat}(hp:ps[k]?=some p){down:Bool}:∀o∈vh ps d p k down,o.1<ps.length:=by
 intro o ho
 rcases mem_append.mp ho with h|h
 ·obtain⟨c,hc,rfl⟩:=mem_map.mp h
  exact mem_range.mp (mem_filter.mp hc).1
 ·cases down with
  |true=>cases h
  |false=>
   obtain⟨c,hc,rfl⟩:=mem_map.mp (show o∈(gU p d).map λc=>(c,false) from h)
   exact(u9 hW hp d c hc).elim λq hq=>(List.getElem?_eq_some_iff.mp hq.1).1
theorem QK{d:Int}{ps:List aG}(hW:cL ps)(hl:ps.length<=20){kn:Kn}{ws:dC}{ks es:List ((Int×Bool)×V)}{ek ew lk lw b L:Nat}(hL:L<=1000)(hA:H[l]?=some (.list (ps.map bv)))(hK:H[lk]?=some (.cD ek ks))(dk:dA kz (λ(_:Unit) _=>True) kn ks)(hY:H[lw]?=some (.cD ew es))(dw:dA kz (eI b H) ws es)(hb:b<=H.length)(nd:(kn.map (·.1)).Nodup)(rg:∀e∈ws,e.1.1<ps.length)(ln:∀s,(i9 ws s).length<=L)
  (q:∀lf ef fs H',aC H H'->H.length<=lf->H'[lf]?=some (.cD ef fs)->dA kz (eI b H') ((ws.map (·.1)).foldl (pO ps d kn ws) []) fs->jY ps.length (L+1) (kn.map (·.1)) ((ws.map (·.1)).foldl (pO ps d kn ws) [])->Q (.ref lf) H'):aA (n+4) yV [.ref l,.ref lk,.ref lw,.int d] H Q Y:=Pl (by
 have cO:∀{m c},H[m]?=some c->m≠H.length:=λh=>ne_of_lt (cu h)
 have AR:=be [.cD 0 []] hY
 apply ay (AO AR)
 rw[dw.keys]
 refine ft (AP ps (pO ps d kn ws) ((ws.map (·.1)).foldl (pO ps d kn ws) []) (kn.map (·.1)) (L+1) b H.length (.ref l) (.ref lk) (.ref lw) (.int d) (H++[.cD 0 []]) (ws.map (·.1))) (λs as ρ H' h=>?_) (λρ H' h=>?_) _ _ _ (.mk none none none 0 [] [] rfl (bu.refl _ _) (bj _ _) .nil (.mk (by rw[map_nil,append_nil];exact nd) (λZ h=>(nomatch h)) (λZ h=>(nomatch h))) rfl (λs h=>h))
 ·refine h _ λo5 o6 o7 ef fs found e x a dc ok t bs=>?_
  subst e
  refine λN hN=>?_
  have x':aC H H':=x.ext (aC.aR _ _) (le_refl _)
  refine(mem_map.mp (bs s mem_cons_self)).elim λe he=>(at_of (he.2▸rg e he.1:s.1<ps.length)).elim λp hp=>?_
  refine bP (QH (n:=n) hW hl hp s.2 (x' _ _ hA) λlc H₂ AJ b6 hc=>?_)
  refine(dw.get rD s (rC.mpr (bs s mem_cons_self))).elim λw hw=>hw.elim λwv hw=>?_
  apply ay (cW hc)
  have F9:H.length<lc:=lt_of_lt_of_le (cu a) AJ
  refine ft (AQ ps (i5 kn (i9 ws s)) (pO ps d kn ws found s) (kn.map (·.1)) (L+1) b H.length (.ref l) (.ref lk) (.ref lw) (.int d) (sv s) H₂) (λo os ρ H₃ h=>?_) (λρ H₃ h=>?_) _ _ _ (.mk o6 o7 ef fs found rfl (bu.refl _ _) (b6 _ _ a) (dc.imp λZ Z h=>h.ext b6) ok (by unfold pO F5;rw[hp]) (QJ hW hp))
  ·refine h _ λo6 o7 ef fs found e cw a dc ok t bo=>?_
   subst e
   refine λN' iI=>?_
   have dQ:aC H H₃:=cw.ext (x'.trans b6) (le_refl _)
   refine hw.2.2 _ λlv V2 ev av=>?_
   subst ev
   have gw:i9 ws s=w:=by unfold i9;rw[hw.1];rfl
   have mr:=ln s
   rw[gw] at mr t
   have ho:=bo o mem_cons_self
   have Ga:∀o∈os,o.1<ps.length:=λo h=>bo o (.tail _ h)
   apply ay (xU (dQ _ _ hY) hw.2.1)
   refine lI (be _ (dQ _ _ av)) (bj _ _) (by rw[length_append,length_map];exact lt_of_le_of_lt (add_le_add_right (le_trans mr hL) _) (show 1000+1<16000000 by decide)) ?_
   have am:=bj (H₃++[aZ.list [nv o.1]]) (.list (aV w++[nv o.1]))
   rw[rq w o.1] at am ⊢
   generalize hm:(H₃++[aZ.list [nv o.1]]).length=m at *
   have QL:b<=m:=by rw[<-hm];exact le_trans (le_trans hb dQ.len) (by rw[length_append];exact le_add_right _ _)
   have gq:aC H₃ (H₃++[aZ.list [nv o.1]]++[aZ.list (aV (w++[o.1]))]):=(aC.aR _ _).trans (aC.aR _ _)
   generalize H₃++[aZ.list [nv o.1]]++[aZ.list (aV (w++[o.1]))]=H₄ at *
   have om:=gq _ _ a
   have vi:dA kz (eI b H₄) found fs:=dc.imp λZ Z h=>h.ext gq
   rw[foldl_cons] at t
   have yes:(!gc kn o&&(!gc found o||pN (w++[o.1]) (i9 found o)))=true->oZ (.ref H.length) (sv o) (.ref m) H₄ (λH'=>N' [some (.ref l),some (.ref lk),some (.ref lw),some (.int d),some (.ref H.length),some (sv s),some (sv o),some (.ref m)] H'):=λlK=>by
    refine F8 om (by rw[cm.len vi];exact lt_of_le_of_lt (le_trans ok.len (mul_le_mul_left 2 hl)) (by decide)) λep=>?_
    have fu:=bu.set H.length H₄ (.cD ep (dput fs (kz o) (.ref m)))
    refine iI _ _ (c9 hc (((cw.trans (gq.b _)).trans fu) _ _ (ne_of_gt F9) hc)) (.mk _ _ ep _ (jv found o (w++[o.1])) rfl ((cw.trans (gq.b _)).trans fu) (dN om _) (?_) (ok.put ?_ ho (by rw[length_append];exact succ_le_succ mr)) (?_) Ga)
    ·exact dA.put rD (vi.imp λZ Z h=>h.set om (λvs h=>nomatch h) fu) ((eI.mk m QL rfl am:eI b H₄ (w++[o.1]) (.ref m)).set om (λvs h=>nomatch h) fu)
    ·exact λhm=>absurd (rC.mpr hm) (by rw[Bool.not_eq_true];exact(not_eq_true' _).mp (and_eq_true_iff.mp lK).1)
    ·rw[show i5 kn w found o=jv found o (w++[o.1]) from if_pos lK] at t;rw[gw];exact t
   have no:(!gc kn o&&(!gc found o||pN (w++[o.1]) (i9 found o)))=false->N' [some (.ref l),some (.ref lk),some (.ref lw),some (.int d),some (.ref H.length),some (sv s),some (sv o),some (.ref m)] H₄:=λlK=>
    iI _ _ (c9 hc ((cw.trans (gq.b _)) _ _ (ne_of_gt F9) hc)) (.mk _ _ ef fs found rfl (cw.trans (gq.b _)) om vi ok (by rw[show i5 kn w found o=found from if_neg (by rw[lK];decide)] at t;rw[gw];exact t) Ga)
   apply ay (F6 (s:=o) (gq _ _ (dQ _ _ hK)))
   rw[dk.has rD]
   refine fR (λh1=>?_) λh1=>gb h1 (no (by rw[h1];rfl))
   rw[h1,Bool.true_and] at yes no
   apply ay (F6 (s:=o) om)
   rw[vi.has rD]
   refine iG (λh2=>?_) λh2=>fH h2 (yes (by rw[h2];rfl))
   rw[h2,Bool.false_or] at yes no
   refine(vi.get rD o (not_eq_false' .. |>.mp h2)).elim λw' kN=>kN.elim λQM kN=>?_
   have QN:i9 found o=w':=by unfold i9;rw[kN.1];rfl
   rw[QN] at yes no
   apply ay (xU om kN.2.1)
   refine kN.2.2 _ λV3 Z QO QP=>?_
   subst QO
   apply ay (F7 am QP)
   exact ck yes no
  ·refine h _ λo6 o7 ef fs found' e cw a dc ok t' bo=>?_
   subst e
   rw[foldl_nil] at t'
   subst t'
   have dQ:=(b6.b H.length).trans cw
   exact hN _ _ (c9 AR ((x.trans dQ) _ _ (cO hY) AR)) (.mk _ _ _ ef fs _ rfl (x.trans dQ) a dc ok t (λs hs=>bs s (.tail _ hs)))
 ·refine h _ λo5 o6 o7 ef fs found e x a dc ok t bs=>?_
  subst e
  rw[foldl_nil] at t
  subst t
  exact q _ ef fs _ (x.ext (aC.aR _ _) (le_refl _)) (le_refl _) a dc ok)
end
end Mine.L
namespace Mine.L
variable{Y:PQ}
open Mine.P PySem
noncomputable abbrev Hr:=List (Nat×List Nat)
noncomputable abbrev hz(k:Nat):Int:=(k:Int)
theorem xW(a b:Nat)(h:hz a=hz b):a=b:=ofNat.inj h
noncomputable def lL(hp:Hr)(h:Nat):List Nat:=(rB hp h).getD []
noncomputable def pQ(ps:List aG)(d:Int)(k:Nat)(ws:dC)(hp:Hr)(s:St):Hr:=if pL k s.1&&(lv ps d s.1&&(!gc hp s.1||pN (i9 ws s) (lL hp s.1))) then jv hp s.1 (i9 ws s) else hp
noncomputable def hZ(kn:Kn)(ws:dC):Kn:=kn++ws.map λe=>(e.1,())
noncomputable def rE(ps:List aG)(d:Int)(kn:Kn)(ws:dC):dC:=(ws.map (·.1)).foldl (pO ps d kn ws) []
noncomputable def pR(ps:List aG)(d:Int)(k:Nat):Nat->Kn->dC->Hr->Hr
 |0,_,_,h=>h
 |f+1,kn,ws,h=>if h.isEmpty&&!ws.isEmpty then pR ps d k f (hZ kn ws) (rE ps d (hZ kn ws) ws) (((rE ps d (hZ kn ws) ws).map (·.1)).foldl (pQ ps d k (rE ps d (hZ kn ws) ws)) h) else h
noncomputable def tw(l:List Nat):List Nat:=l.mergeSort λa b=>decide (a<=b)
noncomputable def lM(ps:List aG)(d:Int)(k:Nat):List (Nat×List Nat):=(tw ((pR ps d k 41 [] [((k,false),[k])] []).map (·.1))).map λh=>(h,lL (pR ps d k 41 [] [((k,false),[k])] []) h)
noncomputable def AS(b:Nat)(H:Hp)(p:Nat×List Nat)(v:V):Prop:=∀NrAtζ:Prop,(∀(l:Nat) (hb:b<=l) (e:v=.aF [nv p.1,.ref l]) (a:H[l]?=some (.list (aV p.2))),NrAtζ)->NrAtζ
theorem AS.mk{b:Nat}{H:Hp}{p:Nat×List Nat}{v:V}(l:Nat)(hb:b<=l)(e:v=.aF [nv p.1,.ref l])(a:H[l]?=some (.list (aV p.2))):AS b H p v:=λZ bZ=>bZ l hb e a
theorem QR{l:List Nat}{js:List Int}(h:js.Perm (l.map hz))(hs:js.Pairwise (·<=·)):js=(tw l).map hz:=QG (h.trans ((List.mergeSort_perm l _).map hz).symm) hs (by
 have:=List.pairwise_mergeSort (le:=λa b:Nat=>decide (a<=b)) (λa b c h1 h2=>decide_eq_true (le_trans (of_decide_eq_true h1) (of_decide_eq_true h2))) (λa b=>by rw[Bool.or_eq_true];exact(Nat.le_total a b).imp (λh=>decide_eq_true h) λh=>decide_eq_true h) l
 exact Pairwise.map _ (λa b h=>ofNat_le.mpr (of_decide_eq_true h)) this)
noncomputable def lN(n:Nat)(hp:Hr):Prop:=∀HOkζ:Prop,(∀(nd:(hp.map (·.1)).Nodup) (rg:∀h∈hp.map (·.1),h<n) (ln:∀e∈hp,e.2.length<=42),HOkζ)->HOkζ
theorem lN.mk{n:Nat}{hp:Hr}(nd:(hp.map (·.1)).Nodup)(rg:∀h∈hp.map (·.1),h<n)(ln:∀e∈hp,e.2.length<=42):lN n hp:=λZ bZ=>bZ nd rg ln
theorem lN.len{n:Nat}{hp:Hr}(h:lN n hp):hp.length<=n:=h _ λnd rg Z=>by rw[<-length_map (f:=(·.1))];exact AM n _ nd rg
theorem lN.put{n:Nat}{hp:Hr}(h:lN n hp){k:Nat}{w:List Nat}(hk:k<n)(hw:w.length<=42):lN n (jv hp k w):=h _ λnd rg ln=>by
 refine(.mk (?_) (?_) (λe he=>(AL he).elim (ln e) λq=>by rw[q];exact hw))<;>rw[F4]<;>split
 ·exact nd
 ·rename_i hs
  exact nodup_append.mpr ⟨nd,nodup_cons.mpr ⟨not_mem_nil,nodup_nil⟩,λa ha b hb e=>by
   rw[mem_singleton.mp hb] at e
   exact hs (rC.mpr (e▸ha))⟩
 ·exact rg
 ·intro h hh
  exact(mem_append.mp hh).elim (rg h) λq=>by rw[mem_singleton.mp q];exact hk
section
variable{n:Nat}{l k:Nat}{H:Hp}{Q:PQ}
theorem Gb{lw ew:Nat}{es:List (Int×V)}{s:Nat}{v:V}(h:H[lw]?=some (.dict ew es))(e:fX es (hz s)=some v):fh (.ref lw) (nv s) H=some v:=by
 refine(?_:(match H[lw]?.bind oR with|some vs=>k8 vs (s:Int)|none=>(H[lw]?.bind gQ).bind λes=>fX es (hz s))=_)
 rw[h];exact e
theorem QS{lw ew:Nat}{es:List (Int×V)}{s:Nat}(h:H[lw]?=some (.dict ew es)):eD .iT (nv s) (.ref lw) H=some (!iZ es (hz s)):=by
 refine(?_:Option.map _ (match H[lw]?.bind gQ with|some es=>_|none=>_)=_)
 rw[h];rfl
theorem QT{lf ef:Nat}{fs:List (Int×V)}{s:Nat}{v:V}{k:Hp->Prop}(h:H[lf]?=some (.dict ef fs))(hs:fs.length<16000000)(q:∀ep,k (H.set lf (.dict ep (dput fs (hz s) v)))):oZ (.ref lf) (nv s) v H k:=ay h (cz (cF hs) q)
theorem QU{a b ea:Nat}{es:List (Int×V)}(h:H[a]?=some (.dict ea es))(h':H[b]?=some (.dict 0 [])):eD .eq (.ref a) (.ref b) H=some es.isEmpty:=by
 refine(?_:jQ H (.ref a) (.ref b)=_)
 have e1:jP H (.ref a)=some es.isEmpty:=by
  refine(?_:(match H[a]?.bind gQ with|some es=>some es.isEmpty|none=>_)=_)
  rw[h];rfl
 have e2:jP H (.ref b)=some true:=by
  refine(?_:(match H[b]?.bind gQ with|some es=>some es.isEmpty|none=>_)=_)
  rw[h'];rfl
 unfold jQ
 rw[e1,e2]
 refine(?_:(if(es.isEmpty||true)=true then some (es.isEmpty&&true) else none)=_)
 rw[Bool.or_true,Bool.and_true];rfl
theorem QV{a b ea:Nat}{es:List ((Int×Bool)×V)}(h:H[a]?=some (.cD ea es))(h':H[b]?=some (.dict 0 [])):eD .ne (.ref a) (.ref b) H=some (!es.isEmpty):=by
 refine(?_:(jQ H (.ref a) (.ref b)).map _=_)
 have e1:jP H (.ref a)=some es.isEmpty:=by
  refine(?_:(match H[a]?.bind gQ with|some es=>_|none=>(H[a]?.bind jM).map List.isEmpty)=_)
  rw[h];rfl
 have e2:jP H (.ref b)=some true:=by
  refine(?_:(match H[b]?.bind gQ with|some es=>some es.isEmpty|none=>_)=_)
  rw[h'];rfl
 unfold jQ
 rw[e1,e2]
 refine(?_:(if(es.isEmpty||true)=true then some (es.isEmpty&&true) else none).map _=_)
 rw[Bool.or_true,Bool.and_true];rfl
theorem QW{a ea:Nat}{es:List (Int×V)}(h:H[a]?=some (.dict ea es)):copyOf H (.ref a)=some (es.map λp=>.int p.1):=by
 refine(?_:(match H[a]?.bind gQ with|some es=>_|none=>_)=_)
 rw[h];rfl
theorem wR{a:Nat}{ls:List Nat}(h:H[a]?=some (.list (aV ls))):jO H (.ref a)=some (ls.map hz):=by
 refine(?_:(dt H (.ref a)).bind allInts=_)
 rw[b7 h];exact xV ls
theorem Gc{α β:Type}{R:α->β->Prop}{as:List α}{bs:List β}(h:cm R as bs):bs.isEmpty=as.isEmpty:=h.casesOn rfl λZ Z=>rfl
theorem QX{A B:Type}[DecidableEq A]{ws:List (A×B)}{a:A}{b:B}(h:gc ws a=false):jv ws a b=ws++[(a,b)]:=if_neg (by rw[show(ws.any λp=>decide (p.1=a))=false from h];decide)
end
end Mine.L
namespace Mine.L
variable{Y:PQ}
open Mine.P PySem
noncomputable def AU(ps:List aG)(d:Int)(k l:Nat)(tot:Hr)(H:Hp)(f:Nat)(ρ:aP)(H':Hp):Prop:=∀NeIζ:Prop,(∀(o6 o7:Option V) (lw lk lh ew ek eh:Nat) (es ks:List ((Int×Bool)×V)) (hs:List (Int×V)) (kn:Kn) (ws:dC) (hp:Hr) (L:Nat) (e:ρ=[some (.ref l),some (nv k),some (.int d),some (.ref lw),some (.ref lk),some (.ref lh),o6,o7]) (x:aC H H') (bk:H.length<=lk) (bh:H.length<=lh) (ne:lw≠lk) (aw:H'[lw]?=some (.cD ew es)) (ak:H'[lk]?=some (.cD ek ks)) (ah:H'[lh]?=some (.dict eh hs)) (dw:dA kz (eI H.length H') ws es) (dk:dA kz (λ(_:Unit) _=>True) kn ks) (dh:dA hz (eI H.length H') hp hs) (ok:jY ps.length L (kn.map (·.1)) ws) (kr:∀s∈kn.map (·.1),s.1<ps.length) (oh:lN ps.length hp) (hf:2*ps.length<f+kn.length) (hL:L+f=42) (t:pR ps d k f kn ws hp=tot),NeIζ)->NeIζ
theorem AU.mk{ps:List aG}{d:Int}{k l:Nat}{tot:Hr}{H:Hp}{f:Nat}{ρ:aP}{H':Hp}(o6 o7:Option V)(lw lk lh ew ek eh:Nat)(es ks:List ((Int×Bool)×V))(hs:List (Int×V))(kn:Kn)(ws:dC)(hp:Hr)(L:Nat)(e:ρ=[some (.ref l),some (nv k),some (.int d),some (.ref lw),some (.ref lk),some (.ref lh),o6,o7])(x:aC H H')(bk:H.length<=lk)(bh:H.length<=lh)(ne:lw≠lk)(aw:H'[lw]?=some (.cD ew es))(ak:H'[lk]?=some (.cD ek ks))(ah:H'[lh]?=some (.dict eh hs))(dw:dA kz (eI H.length H') ws es)(dk:dA kz (λ(_:Unit) _=>True) kn ks)(dh:dA hz (eI H.length H') hp hs)(ok:jY ps.length L (kn.map (·.1)) ws)(kr:∀s∈kn.map (·.1),s.1<ps.length)(oh:lN ps.length hp)(hf:2*ps.length<f+kn.length)(hL:L+f=42)(t:pR ps d k f kn ws hp=tot):AU ps d k l tot H f ρ H':=λZ bZ=>bZ o6 o7 lw lk lh ew ek eh es ks hs kn ws hp L e x bk bh ne aw ak ah dw dk dh ok kr oh hf hL t
noncomputable def mj(tot:Kn)(lk:Nat)(x0 x1 x2 x3 x5 x7:Option V)(H₁:Hp)(as:List St)(ρ:aP)(H':Hp):Prop:=∀KnIζ:Prop,(∀(o6:Option V) (ek:Nat) (ks:List ((Int×Bool)×V)) (kd:Kn) (e:ρ=[x0,x1,x2,x3,some (.ref lk),x5,o6,x7]) (x:bu lk H₁ H') (a:H'[lk]?=some (.cD ek ks)) (dk:dA kz (λ(_:Unit) _=>True) kd ks) (t:kd++as.map (λs=>(s,()))=tot),KnIζ)->KnIζ
theorem mj.mk{tot:Kn}{lk:Nat}{x0 x1 x2 x3 x5 x7:Option V}{H₁:Hp}{as:List St}{ρ:aP}{H':Hp}(o6:Option V)(ek:Nat)(ks:List ((Int×Bool)×V))(kd:Kn)(e:ρ=[x0,x1,x2,x3,some (.ref lk),x5,o6,x7])(x:bu lk H₁ H')(a:H'[lk]?=some (.cD ek ks))(dk:dA kz (λ(_:Unit) _=>True) kd ks)(t:kd++as.map (λs=>(s,()))=tot):mj tot lk x0 x1 x2 x3 x5 x7 H₁ as ρ H':=λZ bZ=>bZ o6 ek ks kd e x a dk t
noncomputable def AV(ps:List aG)(F:Hr->St->Hr)(tot:Hr)(b lh:Nat)(x0 x1 x2 x3 x4:Option V)(H₁:Hp)(ss as:List St)(ρ:aP)(H':Hp):Prop:=∀HeIζ:Prop,(∀(o6 o7:Option V) (eh:Nat) (hs:List (Int×V)) (hp:Hr) (e:ρ=[x0,x1,x2,x3,x4,some (.ref lh),o6,o7]) (x:bu lh H₁ H') (a:H'[lh]?=some (.dict eh hs)) (dh:dA hz (eI b H') hp hs) (oh:lN ps.length hp) (t:as.foldl F hp=tot) (pP:∀s∈as,s∈ss),HeIζ)->HeIζ
theorem AV.mk{ps:List aG}{F:Hr->St->Hr}{tot:Hr}{b lh:Nat}{x0 x1 x2 x3 x4:Option V}{H₁:Hp}{ss as:List St}{ρ:aP}{H':Hp}(o6 o7:Option V)(eh:Nat)(hs:List (Int×V))(hp:Hr)(e:ρ=[x0,x1,x2,x3,x4,some (.ref lh),o6,o7])(x:bu lh H₁ H')(a:H'[lh]?=some (.dict eh hs))(dh:dA hz (eI b H') hp hs)(oh:lN ps.length hp)(t:as.foldl F hp=tot)(pP:∀s∈as,s∈ss):AV ps F tot b lh x0 x1 x2 x3 x4 H₁ ss as ρ H':=λZ bZ=>bZ o6 o7 eh hs hp e x a dh oh t pP
theorem Gd{ws:dC}{L:Nat}(h:∀e∈ws,e.2.length<=L)(s:St):(i9 ws s).length<=L:=by
 unfold i9 rB
 cases hf:ws.find? λp=>decide (p.1=s) with
 |none=>exact zero_le _
 |some e=>exact h e (List.mem_of_find?_eq_some hf)
theorem Ge(kn:Kn)(ws:dC):(hZ kn ws).map (·.1)=kn.map (·.1)++ws.map (·.1):=by
 unfold hZ;rw[map_append,map_map];rfl
theorem Gf{α β γ:Type}{R:β->γ->Prop}{f:α->β}{g:α->γ}:∀l:List α,(∀a∈l,R (f a) (g a))->cm R (l.map f) (l.map g)
 |[],_=>.nil
 |a::r,h=>.cons (h a mem_cons_self) (Gf r λa ha=>h a (.tail _ ha))
noncomputable def Gg(H:Hp)(ns:List (Nat×List Nat))(Q:PQ):Prop:=∀lr vs H',ns.length<=20->(∀e∈ns,e.2.length<=42)->H.length<=lr->aC H H'->H'[lr]?=some (.list vs)->cm (AS H.length H') ns vs->Q (.ref lr) H'
section
variable{n:Nat}{l k:Nat}{H:Hp}{Q:PQ}
noncomputable abbrev QY:S:=.aN (.J 7) (.aE (.J 6) (.k (.int 0)))
noncomputable abbrev QZ:S:=.ba (.and [(.cmp .ne (.J 7) (.J 1)),(.call iW [.J 0,.J 7,.J 2]),(.or [(.cmp .iT (.J 7) (.J 5)),(.cmp .lt (.aE (.J 3) (.J 6)) (.aE (.J 5) (.J 7)))])])
    [.iU (.J 5) (.J 7) (.aE (.J 3) (.J 6))]
    []
theorem Q0{d:Int}{ps:List aG}{lf lk lh ef eh b:Nat}{fs:List ((Int×Bool)×V)}{hs:List (Int×V)}{hp:Hr}{s:St}{p':aG}{w:List Nat}{wv:V}{o7:Option V}{K:Out->Prop}{N:aP->Hp->Prop}(hA:H[l]?=some (.list (ps.map bv)))(dO:ps[s.1]?=some p')(af:H[lf]?=some (.cD ef fs))(fw:fX fs (kz s)=some wv)(ah:H[lh]?=some (.dict eh hs))(dh:dA hz (eI b H) hp hs)(lw:eI b H w wv)(sm:hs.length<16000000)
  (yes:(pL k s.1&&(fq p' d&&(!gc hp s.1||pN w (lL hp s.1))))=true->∀ep,N [some (.ref l),some (nv k),some (.int d),some (.ref lf),some (.ref lk),some (.ref lh),some (sv s),some (nv s.1)] (H.set lh (.dict ep (dput hs (hz s.1) wv))))
  (no:(pL k s.1&&(fq p' d&&(!gc hp s.1||pN w (lL hp s.1))))=false->N [some (.ref l),some (nv k),some (.int d),some (.ref lf),some (.ref lk),some (.ref lh),some (sv s),some (nv s.1)] H) :
  aM ⟨aA (n+4),Y⟩ [QY,QZ] [some (.ref l),some (nv k),some (.int d),some (.ref lf),some (.ref lk),some (.ref lh),some (sv s),o7] H (mJ K N):=by
 have yes:(pL k s.1&&(fq p' d&&(!gc hp s.1||pN w (lL hp s.1))))=true->aJ (fh (.ref lf) (sv s) H) λv=>oZ (.ref lh) (nv s.1) v H λH'=>N [some (.ref l),some (nv k),some (.int d),some (.ref lf),some (.ref lk),some (.ref lh),some (sv s),some (nv s.1)] H':=λhc=>ay (xU af fw) (QT ah sm (yes hc))
 refine(?_:bx (pL k s.1==true) _ _)
 refine fR (λh1=>?_) λh1=>gb h1 (no (by rw[h1];rfl))
 rw[h1,Bool.true_and] at yes no
 refine bP (mZ hA dO ?_)
 refine(?_:bx (fq p' d==true) _ _)
 refine fR (λh2=>?_) λh2=>gb h2 (no (by rw[h2];rfl))
 rw[h2,Bool.true_and] at yes no
 apply ay (QS (s:=s.1) ah)
 rw[dh.has xW]
 refine iG (λh3=>?_) λh3=>fH h3 (yes (by rw[h3];rfl))
 rw[h3,Bool.false_or] at yes no
 refine(dh.get xW s.1 (not_eq_false' .. |>.mp h3)).elim λw' kN=>kN.elim λQM kN=>?_
 rw[show lL hp s.1=w' by unfold lL;rw[kN.1];rfl] at yes no
 apply ay (xU af fw)
 apply ay (Gb ah kN.2.1)
 refine lw _ λla Z ea aa=>?_
 refine kN.2.2 _ λlb Z eb ab=>?_
 rw[ea,eb]
 apply ay (F7 aa ab)
 exact ck yes no
theorem Q1{d:Int}{ps:List aG}{H':Hp}{o3 o4 o6 o7:Option V}{lh eh:Nat}{hs:List (Int×V)}{hp:Hr}(hl:ps.length<=20)(x:aC H H')(ah:H'[lh]?=some (.dict eh hs))(dh:dA hz (eI H.length H') hp hs)(oh:lN ps.length hp)(q:Gg H ((tw (hp.map (·.1))).map λh=>(h,lL hp h)) Q):aM ⟨aA (n+4),Y⟩ (wg.drop 4) [some (.ref l),some (nv k),some (.int d),o3,o4,some (.ref lh),o6,o7] H' (bF Q):=by
 have dg:(hp.map (·.1)).length<=20:=by rw[length_map];exact le_trans oh.len hl
 apply ay (QW ah)
 rw[dh.keys (g:=V.int)]
 refine cz (cF (by rw[length_map];exact lt_of_le_of_lt dg (by decide))) ?_
 apply ay (wR (ls:=hp.map (·.1)) (bj _ _))
 refine And.intro (by rw[length_map];exact lt_of_le_of_lt dg (by decide)) λjs hj lE=>?_
 rw[QR hj lE]
 apply ay (cW (bj _ _))
 have xX:(tw (hp.map (·.1))).length<=20:=le_trans (le_of_eq (List.mergeSort_perm _ _).length_eq) dg
 refine cz (cF (by rw[length_map,length_map];exact lt_of_le_of_lt xX (by decide))) ?_
 refine(?_:g7 _ _ _ _ _ (((tw (hp.map (·.1))).map hz).map V.int) _ _ _ _)
 rw[map_map]
 have get:∀h∈tw (hp.map (·.1)),∃v,fX hs (hz h)=some v/\eI H.length H' (lL hp h) v:=λh hh=>(dh.get xW h (rC.mpr ((List.mergeSort_perm _ _).mem_iff.mp hh))).elim λw hw=>hw.elim λv hv=>⟨v,hv.2.1,by unfold lL;rw[hv.1];exact hv.2.2⟩
 refine gV (P:=λZ=>true) (F:=λh=>.aF [nv h,(fX hs (hz h)).getD .none]) _ _ _ (λa Z T h=>h) (λh hh Z N hN=>(get h hh).elim λv hv=>?_) ?_
 ·refine ay (Gb (be _ (be _ ah)) hv.1) ?_
  rw[hv.1] at hN
  exact hN
 ·rw[pM]
  have xx:∀a b c:List aZ,aC H' (H'++a++b++c):=λa b c=>(aC.aR H' a).trans ((aC.aR _ b).trans (aC.aR _ c))
  refine q _ _ _ (by rw[length_map];exact xX) (λe he=>(mem_map.mp he).elim λh hh=>hh.2▸?_) (x.trans ((aC.aR H' _).trans (aC.aR _ _))).len (x.trans (xx _ _ _)) (bj _ _) ?_
  ·refine(?_:(lL hp h).length<=42)
   unfold lL rB
   cases hf:hp.find? λp=>decide (p.1=h) with
   |none=>exact zero_le _
   |some e=>exact oh _ λZ Z ln=>ln e (List.mem_of_find?_eq_some hf)
  ·exact Gf _ λh hh=>(get h hh).elim λv hv=>hv.2 _ λlv hb ev av=>(.mk lv hb (by rw[hv.1,ev];rfl) (xx _ _ _ _ _ av))
theorem Q2{d:Int}{ps:List aG}(hW:cL ps)(hl:ps.length<=20){p:aG}(hp:ps[k]?=some p)(hA:H[l]?=some (.list (ps.map bv)))(q:Gg H (lM ps d k) Q):aA (n+5) yW [.ref l,nv k,.int d] H Q Y:=Pm (by
 have Q3:=(List.getElem?_eq_some_iff.mp hp).1
 refine And.intro (be _ (bj _ _)) λep=>?_
 generalize AW:(H++[aZ.cD 0 []]++[aZ.list [nv k]]).set H.length (.cD ep [(kz (k,false),.ref (H++[aZ.cD 0 []]).length)])=H₂
 have b6:aC H H₂:=by rw[<-AW];exact((aC.aR _ _).trans (aC.aR _ _)).set (le_refl _) _
 have jX:H₂[H.length]?=some (.cD ep [(kz (k,false),.ref (H++[aZ.cD 0 []]).length)]):=by rw[<-AW];exact dN (be _ (bj _ _)) _
 have Gh:H.length<(H++[aZ.cD 0 []]).length:=by rw[length_append];exact lt_succ_self _
 have Q4:H₂[(H++[aZ.cD 0 []]).length]?=some (.list (aV [k])):=by rw[<-AW];exact dF (bj _ _) _ (ne_of_lt Gh)
 have len₂:=cu jX
 have cw:aC H₂ (H₂++[aZ.cD 0 []]++[aZ.dict 0 []]):=(aC.aR _ _).trans (aC.aR _ _)
 refine Aq (AU ps d k l (pR ps d k 41 [] [((k,false),[k])] []) H) (λf ρ H' h T ht tj=>?_) _ 41 _ _ (show 41<(k:Int).natAbs+(d.natAbs+1000) by lia) (.mk none none H.length H₂.length ((H₂++[aZ.cD 0 []]).length) ep 0 0 _ [] [] [] [((k,false),[k])] [] 1 rfl (b6.trans cw) (le_of_lt len₂) (le_trans (le_of_lt len₂) (by rw[length_append];exact le_add_right _ _)) (ne_of_lt len₂) (cw _ _ jX) (be _ (bj _ _)) (bj _ _) (.cons ⟨rfl,(.mk _ (le_of_lt Gh) rfl (cw _ _ Q4))⟩ .nil) .nil .nil (.mk (nodup_cons.mpr ⟨not_mem_nil,nodup_nil⟩) (λe he=>by rw[mem_singleton.mp he];exact Q3) (λe he=>by rw[mem_singleton.mp he];exact le_refl 1)) (λs h=>(nomatch h)) (.mk nodup_nil (λs h=>(nomatch h)) (λs h=>(nomatch h))) (by refine(?_:2*ps.length<41+0);lia) rfl rfl)
 refine h _ λo6 o7 lw lk lh ew ek eh es ks hs kn ws hp L e x bk bh ne aw ak ah dw dk dh ok kr oh hf hL t=>?_
 subst e
 have done:hp=pR ps d k 41 [] [((k,false),[k])] []->∀H'',aC H' H''->aM ⟨aA (n+4),Y⟩ (wg.drop 4) [some (.ref l),some (nv k),some (.int d),some (.ref lw),some (.ref lk),some (.ref lh),o6,o7] H'' (bF Q):=λqJ H'' rF=>Q1 hl (x.trans rF) (rF _ _ ah) (dh.imp λZ Z h=>h.ext rF) oh (by unfold lM at q;rw[<-qJ] at q;exact q)
 cases f with
 |zero=>exact absurd (AN (ok _ λnd Z Z=>(nodup_append.mp nd).1) kr) (by rw[length_map];lia)
 |succ f=>
  have t':(if hp.isEmpty&&!ws.isEmpty then pR ps d k f (hZ kn ws) (rE ps d (hZ kn ws) ws) (((rE ps d (hZ kn ws) ws).map (·.1)).foldl (pQ ps d k (rE ps d (hZ kn ws) ws)) hp) else hp)=_:=t
  apply ay (QU (be [.dict 0 []] ah) (bj H' (.dict 0 [])))
  rw[Gc dh]
  refine fR (λh1=>?_) λh1=>?_
  ·apply ay (QV (be _ (be [.dict 0 []] aw)) (bj _ _))
   rw[Gc dw]
   rw[h1,Bool.true_and] at t'
   refine(?_:T (!ws.isEmpty) _)
   cases hw:!ws.isEmpty with
   |false=>
    rw[hw] at t'
    exact tj _ (done t' _ ((aC.aR _ _).trans (aC.aR _ _)))
   |true=>
    rw[hw] at t'
    refine ht _ λN hN=>?_
    have xb:aC H' (H'++[aZ.dict 0 []]++[aZ.dict 0 []]):=(aC.aR _ _).trans (aC.aR _ _)
    generalize H'++[aZ.dict 0 []]++[aZ.dict 0 []]=Hb at xb ⊢
    have xY:=xb _ _ aw
    have xZ:((hZ kn ws).map (·.1)).Nodup:=by rw[Ge];exact ok _ λnd Z Z=>nd
    have Gi:∀s∈(hZ kn ws).map (·.1),s.1<ps.length:=by
     rw[Ge]
     exact λs hs=>(mem_append.mp hs).elim (kr s) λh=>(mem_map.mp h).elim λe he=>he.2▸ok _ λZ rg Z=>rg e he.1
    have len2:(hZ kn ws).length<=40:=by rw[<-length_map (f:=(·.1))];exact le_trans (AN xZ Gi) (mul_le_mul_left 2 hl)
    have nkh:lh≠lk:=λe=>by rw[e,ak] at ah;cases ah
    apply ay (AO xY)
    rw[dw.keys]
    refine ft (mj (hZ kn ws) lk (some (.ref l)) (some (nv k)) (some (.int d)) (some (.ref lw)) (some (.ref lh)) o7 Hb) (λs as ρ H₃ h=>?_) (λρ H₃ h=>?_) _ _ _ (.mk o6 ek ks kn rfl (bu.refl _ _) (xb _ _ ak) dk (by unfold hZ;rw[map_map];rfl))
    ·refine h _ λo6 ek ks kd e x3 a dk t=>?_
     subst e
     refine λN' iI=>?_
     have hs:gc kd s=false:=by
      cases h:gc kd s with
      |false=>rfl
      |true=>
       rw[<-t,map_append] at xZ
       exact absurd rfl ((nodup_append.mp xZ).2.2 s (rC.mp h) s mem_cons_self)
     exact F8 a (by rw[cm.len dk];exact na t (le_trans len2 (by decide))) λep=>iI _ _ (c9 xY ((x3.trans (bu.set _ _ _)) _ _ ne xY)) (.mk _ ep _ (kd++[(s,())]) rfl (x3.trans (bu.set _ _ _)) (dN a _) (by rw[<-QX hs];exact dA.put rD dk trivial) (gp t))
    ·refine h _ λo6 ek ks kd e x3 a dk t=>?_
     subst e
     rw[map_nil,append_nil] at t
     subst t
     have xH3:aC H H₃:=x3.ext (x.trans xb) bk
     have up:∀{w v},eI H.length H' w v->eI H.length H₃ w v:=λh=>(h.ext xb).set (xb _ _ ak) (λvs h=>nomatch h) x3
     refine ok _ λnd rg ln=>?_
     refine bP (QK (n:=n) hW hl (L:=L) (le_trans (le_trans (le_add_right L _) (le_of_eq hL)) (by decide)) (xH3 _ _ hA) a dk (x3 _ _ ne xY) (dw.imp λZ Z h=>up h) xH3.len xZ rg (Gd ln) λlf ef fs H₄ dQ blf af df okf=>?_)
     generalize Q5:(List.map (·.1) ws).foldl (pO ps d (hZ kn ws) ws) []=W at df okf
     rw[show rE ps d (hZ kn ws) ws=W from Q5] at t'
     have x4H:=xH3.trans dQ
     apply ay (AO af)
     rw[df.keys]
     have klt:=lt_of_lt_of_le (cu a) blf
     refine ft (AV ps (pQ ps d k W) ((W.map (·.1)).foldl (pQ ps d k W) hp) H.length lh (some (.ref l)) (some (nv k)) (some (.int d)) (some (.ref lf)) (some (.ref lk)) H₄ (W.map (·.1))) (λs as ρ H₅ h=>?_) (λρ H₅ h=>?_) _ _ _ (.mk o6 o7 eh hs hp rfl (bu.refl _ _) (dQ _ _ (x3 _ _ nkh (xb _ _ ah))) (dh.imp λZ Z h=>(up h).ext dQ) oh rfl (λs h=>h))
     ·refine h _ λo6 o7 eh hs hp e x5 rG tx oh t bs=>?_
      subst e
      refine λN' iI=>?_
      have pu:s.1<ps.length:=(mem_map.mp (bs s mem_cons_self)).elim λe he=>he.2▸okf _ λZ rg Z=>rg e he.1
      refine(at_of pu).elim λp' dO=>?_
      have x5H:aC H H₅:=x5.ext x4H bh
      have nfh:lf≠lh:=λe=>by rw[e,dQ _ _ (x3 _ _ nkh (xb _ _ ah))] at af;cases af
      have Gj:=x5 _ _ nfh af
      have st:∀c,eF [lf] H₄ (H₅.set lh c)=true:=λc=>c9 af ((x5.trans (bu.set _ _ c)) _ _ nfh af)
      refine(df.get rD s (rC.mpr (bs s mem_cons_self))).elim λw hw=>hw.elim λwv hw=>?_
      have gw:i9 W s=w:=by unfold i9;rw[hw.1];rfl
      have Gk:eI H.length H₅ w wv:=hw.2.2.set (dQ _ _ (x3 _ _ nkh (xb _ _ ah))) (λvs h=>nomatch h) x5
      rw[foldl_cons] at t
      have nR:∀s∈as,s∈W.map (·.1):=λs h=>bs s (.tail _ h)
      refine Q0 (n:=n) (x5H _ _ hA) dO Gj hw.2.1 rG tx Gk (by rw[cm.len tx];exact lt_of_le_of_lt (le_trans oh.len hl) (by decide)) (λhc ep=>?_) λhc=>?_
      ·have x6:=bu.set lh H₅ (.dict ep (dput hs (hz s.1) wv))
       refine iI _ _ (st _) (.mk _ _ ep _ (jv hp s.1 w) rfl (x5.trans x6) (dN rG _) (dA.put xW (tx.imp λZ Z h=>h.set rG (λvs h=>nomatch h) x6) (Gk.set rG (λvs h=>nomatch h) x6)) (oh.put pu (by rw[<-gw];exact Gd (okf _ λZ Z ln=>λe he=>le_trans (ln e he) (by lia)) s)) (?_) nR)
       rw[show pQ ps d k W hp s=jv hp s.1 w by unfold pQ;rw[gw,jW dO,if_pos hc]] at t
       exact t
      ·refine iI _ _ (c9 af Gj) (.mk _ _ eh hs hp rfl x5 rG tx oh (?_) nR)
       rw[show pQ ps d k W hp s=hp by unfold pQ;rw[gw,jW dO,if_neg (by rw[hc];decide)]] at t
       exact t
     ·refine h _ λo6 o7 eh hs hp e x5 rG tx oh t bs=>?_
      subst e
      rw[foldl_nil] at t
      rw[<-t] at t'
      have lkh:lk≠lh:=λe=>nkh e.symm
      have a5:=x5 _ _ lkh (dQ _ _ a)
      have nfh:lf≠lh:=λe=>by rw[e,dQ _ _ (x3 _ _ nkh (xb _ _ ah))] at af;cases af
      exact hN f _ _ (lt_succ_self f) (.mk o6 o7 lf lk lh ef _ eh fs _ hs (hZ kn ws) W hp (L+1) rfl (x5.ext x4H bh) bk bh (ne_of_gt klt) (x5 _ _ nfh af) a5 rG (df.imp λZ Z h=>h.set (dQ _ _ (x3 _ _ nkh (xb _ _ ah))) (λvs h=>nomatch h) x5) dk tx okf Gi oh (by
       have:1<=ws.length:=by
        cases ws with
        |nil=>cases hw
        |cons a r=>exact le_add_left _ _
       unfold hZ
       rw[length_append,length_map]
       lia) (by lia) t')
  ·rw[h1,Bool.false_and] at t'
   refine(?_:T hp.isEmpty _)
   rw[h1]
   exact tj _ (done t' _ (aC.aR _ _)))
end
end Mine.L
namespace Mine.L
variable{Y:PQ}
open Mine.P PySem
structure dP where
 a:Nat
 b:Nat
 day:Int
structure gf where
 gr:Nat
 day:Int
 cU:List (Nat×Rat)
noncomputable def gI(w:dP):V:=.aF [nv w.a,nv w.b,.int w.day]
noncomputable def ng(g:Nat×Rat):V:=.aF [nv g.1,rv g.2]
noncomputable def ja(gs:List (Nat×Rat)):V:=.aF (gs.map ng)
noncomputable def ia(w:gf):V:=.aF [nv w.gr,.int w.day,ja w.cU]
noncomputable def kO(a k:Nat):Bool:=((a:Int)==(k:Int))
noncomputable def ya:Option Nat->V
 |none=>.none
 |some k=>nv k
noncomputable def lO(ps:List aG)(d:Int)(k:Nat):List dP->Option Nat
 |[]=>none
 |w::r=>if decide (w.day<=d)&&(kO w.a k&&lv ps d w.b) then some w.b else if decide (w.day<=d)&&(kO w.b k&&lv ps d w.a) then some w.a else lO ps d k r
noncomputable def iw(k:Nat)(d:Int):List gf->Int->List (Nat×Rat)->List (Nat×Rat)
 |[],_,g=>g
 |w::r,m,g=>if kO w.gr k&&(decide (m<=w.day)&&decide (w.day<=d)) then iw k d r w.day w.cU else iw k d r m g
theorem AX{P:List (Nat×Rat)->Prop}{k:Nat}{d:Int}:∀(ws:List gf) (m:Int) (g:List (Nat×Rat)),(∀w∈ws,P w.cU)->P g->P (iw k d ws m g)
 |[],_,g,_,h=>h
 |w::r,m,g,hw,h=>by
  unfold iw
  split
  ·exact AX r _ _ (λw h=>hw w (.tail _ h)) (hw w mem_cons_self)
  ·exact AX r _ _ (λw h=>hw w (.tail _ h)) h
noncomputable def jZ(n:Nat)(ms:List dP):Prop:=∀w∈ms,w.a<n/\w.b<n
noncomputable def AY(ps:List aG)(d:Int)(k:Nat)(x0:V)(tot:Option Nat)(n:Nat)(H:Hp)(as:List dP)(ρ:aP)(H':Hp):Prop:=∀SpIζ:Prop,(∀(o3 o4 o5:Option V) (e:ρ=[some x0,some (nv k),some (.int d),o3,o4,o5]) (eh:H'=H) (t:lO ps d k as=tot) (b:jZ n as),SpIζ)->SpIζ
theorem AY.mk{ps:List aG}{d:Int}{k:Nat}{x0:V}{tot:Option Nat}{n:Nat}{H:Hp}{as:List dP}{ρ:aP}{H':Hp}(o3 o4 o5:Option V)(e:ρ=[some x0,some (nv k),some (.int d),o3,o4,o5])(eh:H'=H)(t:lO ps d k as=tot)(b:jZ n as):AY ps d k x0 tot n H as ρ H':=λZ bZ=>bZ o3 o4 o5 e eh t b
noncomputable def AZ(k:Nat)(d:Int)(x0:V)(tot:List (Nat×Rat))(H:Hp)(as:List gf)(ρ:aP)(H':Hp):Prop:=∀WiIζ:Prop,(∀(m:Int) (g:List (Nat×Rat)) (o5 o6 o7:Option V) (e:ρ=[some x0,some (nv k),some (.int d),some (.int m),some (ja g),o5,o6,o7]) (eh:H'=H) (t:iw k d as m g=tot),WiIζ)->WiIζ
theorem AZ.mk{k:Nat}{d:Int}{x0:V}{tot:List (Nat×Rat)}{H:Hp}{as:List gf}{ρ:aP}{H':Hp}(m:Int)(g:List (Nat×Rat))(o5 o6 o7:Option V)(e:ρ=[some x0,some (nv k),some (.int d),some (.int m),some (ja g),o5,o6,o7])(eh:H'=H)(t:iw k d as m g=tot):AZ k d x0 tot H as ρ H':=λZ bZ=>bZ m g o5 o6 o7 e eh t
section
variable{n:Nat}{l lm lw k:Nat}{H:Hp}{Q:PQ}
theorem Q6{d:Int}{ps:List aG}{ms:List dP}{z:V}(hA:H[l]?=some (.list (ps.map bv)))(hM:H[lm]?=some (.list (ms.map gI)))(hw:jZ ps.length ms)(q:Q (ya (lO ps d k ms)) H):aA (n+2) yY [.aF [.ref l,.ref lm,z],nv k,.int d] H Q Y:=Pz (by
 apply ay (cW hM)
 refine ft (AY ps d k (.aF [.ref l,.ref lm,z]) (lO ps d k ms) ps.length H) (λw as ρ H' h=>?_) (λρ H' h=>?_) _ _ _ (.mk none none none rfl rfl rfl hw)
 ·refine h _ λo3 o4 o5 e eh t b=>?_
  subst e eh
  refine λN hN=>?_
  have ml:=b w mem_cons_self
  refine(at_of ml.1).elim λpa ha=>(at_of ml.2).elim λpb hb=>?_
  have t:(if decide (w.day<=d)&&(kO w.a k&&lv ps d w.b) then some w.b else if decide (w.day<=d)&&(kO w.b k&&lv ps d w.a) then some w.a else lO ps d k as)=lO ps d k ms:=t
  rw[jW ha,jW hb] at t
  have no:(decide (w.day<=d)&&(kO w.a k&&fq pb d))=false->(decide (w.day<=d)&&(kO w.b k&&fq pa d))=false->N [some (.aF [.ref l,.ref lm,z]),some (nv k),some (.int d),some (nv w.a),some (nv w.b),some (.int w.day)] H':=λh1 h2=>hN _ _ (c9 hM hM) (.mk _ _ _ rfl rfl (by rw[h1,h2] at t;exact t) (λw h=>b w (.tail _ h)))
  have second:(decide (w.day<=d)&&(kO w.a k&&fq pb d))=false->aM ⟨aA (n+1),Y⟩ [.ba (.and [(.cmp .le (.J 5) (.J 2)),(.cmp .eq (.J 4) (.J 1)),(.call iW [(.aE (.J 0) (.k (.int 0))),.J 3,.J 2])]) [.ret (.J 3)] []] [some (.aF [.ref l,.ref lm,z]),some (nv k),some (.int d),some (nv w.a),some (nv w.b),some (.int w.day)] H' (mJ (λo=>jn o (λρ H=>aM ⟨aA (n+1),Y⟩ [.ret (.k .none)] ρ H (bF Q)) (bF Q o)) N):=λh1=>by
   have no:=no h1
   rw[h1] at t
   refine(?_:bx (decide (w.day<=d)==true) _ _)
   refine fR (λh2=>?_) λh2=>gb h2 (no (by rw[h2];rfl))
   rw[h2] at t no
   refine(?_:bx (kO w.b k==true) _ _)
   refine fR (λh3=>?_) λh3=>gb h3 (no (by rw[h3];rfl))
   rw[h3] at t no
   refine bP (mZ hA ha ?_)
   refine(?_:bx (fq pa d) _ _)
   refine ck (λh4=>?_) λh4=>no (by rw[h4];rfl)
   rw[h4] at t
   rw[<-t] at q
   exact q
  refine(?_:bx (decide (w.day<=d)==true) _ _)
  refine fR (λh2=>?_) λh2=>gb h2 (second (by rw[h2];rfl))
  rw[h2] at t second
  refine(?_:bx (kO w.a k==true) _ _)
  refine fR (λh3=>?_) λh3=>gb h3 (second (by rw[h3];rfl))
  rw[h3] at t second
  refine bP (mZ hA hb ?_)
  refine(?_:bx (fq pb d) _ _)
  refine ck (λh4=>?_) λh4=>second (by rw[h4];rfl)
  rw[h4] at t
  rw[<-t] at q
  exact q
 ·refine h _ λo3 o4 o5 e eh t b=>?_
  subst e eh
  rw[<-t] at q
  exact q)
theorem Q7{d:Int}{ws:List gf}{y z:V}(hM:H[lw]?=some (.list (ws.map ia)))(q:Q (ja (iw k d ws (-1) [])) H):aA (n+1) yZ [.aF [y,z,.ref lw],nv k,.int d] H Q Y:=PA (by
 apply ay (cW hM)
 refine ft (AZ k d (.aF [y,z,.ref lw]) (iw k d ws (-1) []) H) (λw as ρ H' h=>?_) (λρ H' h=>?_) _ _ _ (.mk (-1) [] none none none rfl rfl rfl)
 ·refine h _ λm g o5 o6 o7 e eh t=>?_
  subst e eh
  refine λN hN=>?_
  have t:(if kO w.gr k&&(decide (m<=w.day)&&decide (w.day<=d)) then iw k d as w.day w.cU else iw k d as m g)=iw k d ws (-1) []:=t
  have no:(kO w.gr k&&(decide (m<=w.day)&&decide (w.day<=d)))=false->N [some (.aF [y,z,.ref lw]),some (nv k),some (.int d),some (.int m),some (ja g),some (nv w.gr),some (.int w.day),some (ja w.cU)] H':=λh=>hN _ _ (c9 hM hM) (.mk m g _ _ _ rfl rfl (by rw[h] at t;exact t))
  refine(?_:bx (kO w.gr k==true) _ _)
  refine fR (λh1=>?_) λh1=>gb h1 (no (by rw[h1];rfl))
  rw[h1] at t no
  refine(?_:bx (decide (m<=w.day)) _ _)
  refine ck (λh2=>?_) λh2=>no (by rw[h2];rfl)
  rw[h2] at t no
  refine(?_:bx (decide (w.day<=d)) _ _)
  refine ck (λh3=>?_) λh3=>no (by rw[h3];rfl)
  rw[h3] at t
  exact hN _ _ (c9 hM hM) (.mk w.day w.cU _ _ _ rfl rfl t)
 ·refine h _ λm g o5 o6 o7 e eh t=>?_
  subst e eh
  have t:g=_:=t
  rw[<-t] at q
  exact q)
theorem Gm{d:Int}{ps:List aG}{p:aG}(hA:H[l]?=some (.list (ps.map bv)))(hp:ps[k]?=some p)(q:Q (.bool (fq p d)) H):aA (n+1) oJ [.ref l,nv k,.int d] H Q Y:=PO (by
 have q:Q (.bool (decide (p.aQ<=d)&&before d p.bM)) H:=q
 apply ay (du hA hp)
 refine(?_:bx (decide (d<p.aQ)) _ _)
 refine oj (λh=>?_) λh=>?_
 ·rw[decide_eq_false (not_le.mpr h)] at q;exact q
 ·rw[decide_eq_true (Int.not_lt.mp h),Bool.true_and] at q
  apply ay (du hA hp)
  unfold bv
  cases hd:p.bM with
  |none=>rw[hd] at q;exact q
  |some e=>
   rw[hd] at q
   apply ay (du hA hp)
   unfold bv
   rw[hd]
   exact q)
end
end Mine.L
namespace Mine.L
variable{Y:PQ}
open Mine.P PySem
structure eZ where
 i8:Option Nat
 part:Rat
 how:Str
 line:List Nat
noncomputable def A0(b lr:Nat)(H:Hp)(r:eZ)(v:V):Prop:=∀DealAtζ:Prop,(∀(l:Nat) (hb:b<=l) (hn:l≠lr) (e:v=.aF [ya r.i8,rv r.part,.str r.how,.ref l]) (a:H[l]?=some (.list (aV r.line))),DealAtζ)->DealAtζ
theorem A0.mk{b lr:Nat}{H:Hp}{r:eZ}{v:V}(l:Nat)(hb:b<=l)(hn:l≠lr)(e:v=.aF [ya r.i8,rv r.part,.str r.how,.ref l])(a:H[l]?=some (.list (aV r.line))):A0 b lr H r v:=λZ bZ=>bZ l hb hn e a
noncomputable abbrev j0(b lr:Nat)(H:Hp):List eZ->List V->Prop:=cm (A0 b lr H)
theorem j0.b{b lr:Nat}{H H':Hp}{rs:List eZ}{vs:List V}(h:j0 b lr H rs vs)(x:bu lr H H'):j0 b lr H' rs vs:=h.imp λZ Z h=>h _ λl hb hn e a=>(.mk l hb hn e (x l _ hn a))
noncomputable def tA(k:Nat)(s:Rat)(r:Row):eZ:=⟨some r.i8,s*r.lH,"will",k::r.line⟩
noncomputable def gJ(ps:List aG)(d:Int)(k:Nat)(g:Nat×Rat):List eZ:=if lv ps d g.1 then[⟨some g.1,g.2,"will",[k,g.1]⟩] else(iH ps d 20 g.1).map (tA k g.2)
noncomputable def counts(ps:List aG)(d:Int)(g:Nat×Rat):Bool:=lv ps d g.1||(kids ps d g.1).any (gu ps d 20)
noncomputable def kP(ps:List aG)(d:Int)(t:Rat)(g:Nat×Rat):Rat:=if counts ps d g then t+g.2 else t
noncomputable def nh(n:Nat)(gs:List (Nat×Rat)):Prop:=∀g∈gs,g.1<n/\Sm 10 g.2
noncomputable def rH(N:Nat)(w:gf):Prop:=∀WlOkζ:Prop,(∀(gk:nh N w.cU/\w.cU.length<=10) (dy:0<=w.day) (ns:List Nat) (ov un:Nat) (h:un≠0) (e:w.cU=ns.map λj=>(j,Rat.normalize ov un h)) (o1:1<=ov) (u1:un<1000) (le:ov*ns.length<=un) (nd:ns.Nodup/\w.gr∉ns/\ns≠[]),WlOkζ)->WlOkζ
theorem rH.mk{N:Nat}{w:gf}(gk:nh N w.cU/\w.cU.length<=10)(dy:0<=w.day)(ns:List Nat)(ov un:Nat)(h:un≠0)(e:w.cU=ns.map λj=>(j,Rat.normalize ov un h))(o1:1<=ov)(u1:un<1000)(le:ov*ns.length<=un)(nd:ns.Nodup/\w.gr∉ns/\ns≠[]):rH N w:=λZ bZ=>bZ gk dy ns ov un h e o1 u1 le nd
noncomputable def vj(N:Nat)(ws:List gf):Prop:=∀w∈ws,rH N w
theorem Sm.add{i j:Nat}{x y:Rat}(hx:Sm i x)(hy:Sm j y):Sm (i+j+1) (x+y):=by
 rw[Rat.add_def]
 refine Sm.pG _ (lt_of_le_of_lt (Int.natAbs_add_le _ _) ?_) (lt_of_lt_of_le (pH hx.2 hy.2) (pow_le_pow_right (by decide) (le_succ _)))
 rw[natAbs_mul,natAbs_mul]
 exact FE (pH hx.1 hy.2) (by rw[add_comm];exact pH hy.1 hx.2)
theorem Sm.kP{ps:List aG}{d:Int}{i:Nat}{t:Rat}{g:Nat×Rat}(ht:Sm i t)(hg:Sm 10 g.2):Sm (i+11) (kP ps d t g):=by
 unfold L.kP
 split
 ·exact ht.add hg
 ·exact ht.le (le_add_right _ _)
theorem Q8{ps:List aG}{d:Int}{k:Nat}(h:(kids ps d k).any (gu ps d 20)=false):iH ps d 20 k=[]:=by
 have e:iv ps d (kids ps d k)=[]:=List.filter_eq_nil_iff.mpr λc hc=>by
  rw[any_eq_false] at h
  exact h c hc
 refine(?_:hU ps d (iH ps d 19) k (iv ps d (kids ps d k))=[])
 rw[e];rfl
theorem Gn{ps:List aG}(hW:cL ps)(hl:ps.length<=20){d:Int}{k:Nat}{g:Nat×Rat}(hg:g.1<ps.length):(gJ ps d k g).length<=1048576:=by
 unfold gJ
 split
 ·exact(by decide:1<=1048576)
 ·rw[length_map]
  exact le_trans (vd hW 20 g.1 _ (getElem?_eq_getElem hg)) (xP hl _)
noncomputable def A1(ps:List aG)(d:Int)(k l lr b:Nat)(x2:V)(H₁:Hp)(tot:List eZ)(sum:Rat)(as:List (Nat×Rat))(ρ:aP)(H':Hp):Prop:=∀GvIζ:Prop,(∀(o6 o7 o8 o9 o10:Option V) (s:Rat) (i:Nat) (rs:List eZ) (vs:List V) (e:ρ=[some (.ref l),some (nv k),some x2,some (.int d),some (.ref lr),some (rv s),o6,o7,o8,o9,o10]) (x:bu lr H₁ H') (a:H'[lr]?=some (.list vs)) (r:j0 b lr H' rs vs) (t:rs++as.flatMap (gJ ps d k)=tot) (ts:as.foldl (kP ps d) s=sum) (sm:Sm i s) (hi:i+11*as.length<=1000) (g:nh ps.length as),GvIζ)->GvIζ
theorem A1.mk{ps:List aG}{d:Int}{k l lr b:Nat}{x2:V}{H₁:Hp}{tot:List eZ}{sum:Rat}{as:List (Nat×Rat)}{ρ:aP}{H':Hp}(o6 o7 o8 o9 o10:Option V)(s:Rat)(i:Nat)(rs:List eZ)(vs:List V)(e:ρ=[some (.ref l),some (nv k),some x2,some (.int d),some (.ref lr),some (rv s),o6,o7,o8,o9,o10])(x:bu lr H₁ H')(a:H'[lr]?=some (.list vs))(r:j0 b lr H' rs vs)(t:rs++as.flatMap (gJ ps d k)=tot)(ts:as.foldl (kP ps d) s=sum)(sm:Sm i s)(hi:i+11*as.length<=1000)(g:nh ps.length as):A1 ps d k l lr b x2 H₁ tot sum as ρ H':=λZ bZ=>bZ o6 o7 o8 o9 o10 s i rs vs e x a r t ts sm hi g
noncomputable def A2(k lr b:Nat)(x0 x2 x3 x5 x6:Option V)(s:Rat)(H₁:Hp)(rest tot:List eZ)(as:List Row)(ρ:aP)(H':Hp):Prop:=∀GwIζ:Prop,(∀(o8 o9 o10:Option V) (rs:List eZ) (vs:List V) (e:ρ=[x0,some (nv k),x2,x3,some (.ref lr),x5,x6,some (rv s),o8,o9,o10]) (x:bu lr H₁ H') (a:H'[lr]?=some (.list vs)) (r:j0 b lr H' rs vs) (t:rs++(as.map (tA k s)++rest)=tot),GwIζ)->GwIζ
theorem A2.mk{k lr b:Nat}{x0 x2 x3 x5 x6:Option V}{s:Rat}{H₁:Hp}{rest tot:List eZ}{as:List Row}{ρ:aP}{H':Hp}(o8 o9 o10:Option V)(rs:List eZ)(vs:List V)(e:ρ=[x0,some (nv k),x2,x3,some (.ref lr),x5,x6,some (rv s),o8,o9,o10])(x:bu lr H₁ H')(a:H'[lr]?=some (.list vs))(r:j0 b lr H' rs vs)(t:rs++(as.map (tA k s)++rest)=tot):A2 k lr b x0 x2 x3 x5 x6 s H₁ rest tot as ρ H':=λZ bZ=>bZ o8 o9 o10 rs vs e x a r t
section
variable{n:Nat}{l k:Nat}{H:Hp}{Q:PQ}
theorem Q9{d:Int}{ps:List aG}(hW:cL ps)(hl:ps.length<=20){gs:List (Nat×Rat)}(hg:nh ps.length gs)(pS:gs.length<=10)(hA:H[l]?=some (.list (ps.map bv)))
  (q:∀lr vs H',H.length<=lr->aC H H'->H'[lr]?=some (.list vs)->j0 H.length lr H' (gs.flatMap (gJ ps d k)) vs->Q (.aF [.ref lr,rv (gs.foldl (kP ps d) 0)]) H'):aA (n+64) y0 [.ref l,nv k,ja gs,.int d] H Q Y:=PB (by
 have ht:(gs.flatMap (gJ ps d k)).length<=16000000:=le_trans (xR λg h=>Gn hW hl (hg g h).1) (le_trans (Nat.mul_le_mul_right _ pS) (by decide))
 refine ft (g:=ng) (A1 ps d k l H.length H.length (ja gs) (H++[.list []]) (gs.flatMap (gJ ps d k)) (gs.foldl (kP ps d) 0)) (λg as ρ H' h=>?_) (λρ H' h=>?_) gs _ _ (.mk none none none none none 0 1 [] [] rfl (bu.refl _ _) (bj _ _) .nil rfl rfl ⟨by decide,by decide⟩ (by lia) hg)
 ·refine h _ λo6 o7 o8 o9 o10 s i rs vs e x a r t ts sm hi hg=>?_
  subst e
  refine λN hN=>?_
  have tB:=hg g mem_cons_self
  have xH:aC H H':=x.ext (aC.aR _ _) (le_refl _)
  refine(at_of tB.1).elim λp hp=>?_
  rw[flatMap_cons,show gJ ps d k g=if fq p d then[⟨some g.1,g.2,"will",[k,g.1]⟩] else(iH ps d 20 g.1).map (tA k g.2) by rw[<-jW hp];rfl] at t
  rw[foldl_cons,show kP ps d s g=if fq p d||(kids ps d g.1).any (gu ps d 20) then s+g.2 else s by rw[<-jW hp];rfl] at ts
  rw[length_cons] at hi
  have Go:i+10<=1000000:=by lia
  refine bP (mZ (xH _ _ hA) hp ?_)
  refine(?_:bx (fq p d) _ _)
  refine ck (λh1=>?_) λh1=>?_
  ·rw[h1] at t ts
   have t:rs++(⟨some g.1,g.2,"will",[k,g.1]⟩::as.flatMap (gJ ps d k))=_:=t
   refine fS a (f9 (be _ a) (by rw[r.len];exact na t ht) ?_)
   refine bP (Ay sm tB.2 Go ?_)
   exact hN _ _ rfl (.mk _ _ _ _ _ (s+g.2) (i+11) (rs++[⟨some g.1,g.2,"will",[k,g.1]⟩]) _ rfl (x.trans ((bu.aR _ _ _).trans (bu.set _ _ _))) (dN (be _ a) _) ((r.b ((bu.aR _ _ _).trans (bu.set _ _ _))).snoc (.mk H'.length xH.len (ne_of_gt (cu a)) rfl (dF (bj _ _) _ (ne_of_lt (cu a))))) (gp t) ts (sm.add tB.2) (by lia) (λg h=>hg g (.tail _ h)))
  ·rw[h1] at t ts
   have t:rs++((iH ps d 20 g.1).map (tA k g.2)++as.flatMap (gJ ps d k))=_:=t
   refine bP (u6 (n:=n+61) (xH _ _ hA) hl λlc H₂ AJ b6 hc=>?_)
   apply ay (cW hc)
   refine cz (cF (by rw[length_map];exact lt_of_le_of_lt (le_trans (pF ps d g.1) hl) (by decide))) ?_
   refine FS (n:=n+41) (i:=2) hW hl (λc' lK=>tn hW hp lK λq hq Z Z=>⟨q,hq⟩) rfl ((xH.trans b6) _ _ hA) hc λH₃ cw=>?_
   apply ay (FT (bj _ _))
   rw[FU]
   have jw:=b6.trans (cw.trans (aC.aR _ [.list ((kids ps d g.1).map λc=>.bool (gu ps d 20 c))]))
   generalize H₃++[aZ.list ((kids ps d g.1).map λc=>.bool (gu ps d 20 c))]=H₄ at jw ⊢
   refine ck (λh2=>?_) λh2=>?_
   ·rw[h2] at ts
    refine bP (xQ (n:=n) hW hl (f:=20) (le_refl _) ((xH.trans jw) _ _ hA) hp (lt_of_lt_of_le (u7 (mem_of_getElem? hp)) hl) λlb us H₅ hb gq ab rb=>?_)
    have A3:=jw.trans gq
    have a':=A3 _ _ a
    have pJ:=lt_of_lt_of_le (lt_of_lt_of_le (cu a) jw.len) hb
    apply ay (cW ab)
    refine vc (R:=λr v=>r∈iH ps d 20 g.1/\kL (lb+1) H₅ r v) (A2 k H.length H.length (some (.ref l)) (some (ja gs)) (some (.int d)) (some (rv s)) (some (nv g.1)) g.2 H₅ (as.flatMap (gJ ps d k)) (gs.flatMap (gJ ps d k))) (λrw v bs ρ H₆ hv h=>?_) (λρ H₆ h=>?_) (rb.imp' λr v hr hv=>⟨hr,hv⟩) _ _ (.mk _ _ _ rs vs rfl (bu.refl _ _) a' (r.b (A3.b _)) t)
    ·refine hv.2 _ λll nc e al=>?_
     subst e
     refine h _ λo8 o9 o10 rs vs e fu a r t=>?_
     subst e
     refine λN' iI=>?_
     have sr:=rt hl 20 _ _ hv.1
     have nl:ll≠H.length:=ne_of_gt (lt_trans pJ nc)
     refine fS a (bP (vb tB.2 sr.1 (by decide) ?_))
     refine lI (bj _ _) (be _ (fu _ _ nl al)) (by rw[length_append,length_map];exact lt_of_le_of_lt (add_le_add_left sr.2 _) (show 1+(20+1)<16000000 by decide)) ?_
     have vk:bu H.length H₆ _:=(bu.aR _ H₆ [aZ.list [nv k]]).trans ((bu.aR _ _ [aZ.list (aV (k::rw.line))]).trans (bu.set _ _ (.list (vs++[.aF [nv rw.i8,rv (g.2*rw.lH),.str "will",.ref (H₆++[aZ.list [nv k]]).length]]))))
     have cO:=cu (be [aZ.list [nv k]] a)
     exact f9 (be _ (be _ a)) (by rw[r.len];exact na t ht) (iI _ _ (c9 ab ((fu.trans vk) _ _ (ne_of_gt pJ) ab)) (.mk _ _ _ (rs++[tA k g.2 rw]) _ rfl (fu.trans vk) (dN (be _ (be _ a)) _) ((r.b vk).snoc (.mk ((H₆++[aZ.list [nv k]]).length) (le_of_lt cO) (ne_of_gt cO) rfl (dF (bj _ _) _ (ne_of_lt cO)))) (gp t)))
    ·refine h _ λo8 o9 o10 rs vs e fu a r t=>?_
     subst e
     refine bP (Ay sm tB.2 Go ?_)
     exact hN _ _ rfl (.mk _ _ _ _ _ (s+g.2) (i+11) rs vs rfl (x.trans ((A3.b _).trans fu)) a r t ts (sm.add tB.2) (by lia) (λg h=>hg g (.tail _ h)))
   ·rw[h2] at ts
    rw[Q8 h2] at t
    exact hN _ _ rfl (.mk _ _ _ _ _ s i rs vs rfl (x.trans (jw.b _)) (jw _ _ a) (r.b (jw.b _)) t ts sm (by lia) (λg h=>hg g (.tail _ h)))
 ·refine h _ λo6 o7 o8 o9 o10 s i rs vs e x a r t ts sm hi hg=>?_
  subst e
  rw[flatMap_nil,append_nil] at t
  rw[foldl_nil] at ts
  subst t ts
  exact q _ vs _ (le_refl _) (x.ext (aC.aR _ _) (le_refl _)) a r)
end
end Mine.L
namespace Mine.L
variable{Y:PQ}
open Mine.P PySem
noncomputable def pT(x:Rat):PyData:=.tuple [.int x.num,.int (x.den:Int)]
noncomputable def A4(l:List Nat):PyData:=.list (l.map λi:Nat=>.int i)
noncomputable def Gp(r:Row):PyData:=.tuple [.int r.i8,pT r.lH,A4 r.line]
section
variable{n:Nat}{l k:Nat}{H:Hp}{Q:PQ}
theorem ni{m:Nat}{vs:List V}{ds:List PyData}(h:H[l]?=some (.list vs))(e:eA (rd H m) vs=some ds):rd H (m+1) (.ref l)=some (.list ds):=by
 refine(?_:((dt H (.ref l)).bind λvs=>(eA (rd H m) vs).map PyData.list)=_)
 rw[b7 h]
 refine(?_:(eA (rd H m) vs).map PyData.list=_)
 rw[e];rfl
theorem Gq{m:Nat}{w:List Nat}(h:H[l]?=some (.list (aV w))):rd H (m+1) (.ref l)=some (A4 w):=ni h (m9 m w)
theorem eJ{f:V->Option PyData}{v:V}{r:List V}{d:PyData}{ds:List PyData}(h:f v=some d)(hr:eA f r=some ds):eA f (v::r)=some (d::ds):=by
 refine(?_:(match f v,eA f r with|some d,some ds=>some (d::ds)|_,_=>none)=_)
 rw[h,hr]
theorem Ra{α:Type}{R:α->V->Prop}{f:V->Option PyData}{g:α->PyData}{as:List α}{vs:List V}(h:cm R as vs)(k:∀a v,R a v->f v=some (g a)):eA f vs=some (as.map g):=h.rec (motive:=λas vs Z=>eA f vs=some (as.map g)) rfl λr Z ih=>eJ (k _ _ r) ih
theorem A5(x:Rat)(m:Nat):rd H (m+1) (rv x)=some (pT x):=congrArg (Option.map PyData.tuple) (eJ (pE _ _) (eJ (pE _ _) rfl))
theorem Rb{b:Nat}{r:Row}{v:V}(h:kL b H r v):rd H 9 v=some (Gp r):=h _ λl Z e a=>by
 rw[e]
 exact congrArg (Option.map PyData.tuple) (eJ rfl (eJ (A5 _ _) (eJ (Gq a) rfl)))
theorem none_list{vs:List V}(h:H[l]?=some (.list vs)):jP H (.ref l)=none:=by
 refine(?_:(match H[l]?.bind gQ with|some es=>some es.isEmpty|none=>(H[l]?.bind jM).map List.isEmpty)=_)
 rw[h];rfl
theorem eq_nil{m:Nat}{vs:List V}{ds:List PyData}(h:H[l]?=some (.list vs))(e:eA (rd H 9) vs=some ds)(h':H[m]?=some (.list [])):eD .eq (.ref l) (.ref m) H=some ds.isEmpty:=by
 refine(?_:jQ H (.ref l) (.ref m)=_)
 unfold jQ
 rw[none_list h,ni h e,ni h' (rfl:eA (rd H 9) []=some [])]
 cases ds<;>rfl
theorem ne_nil{m:Nat}{vs:List V}{ds:List PyData}(h:H[l]?=some (.list vs))(e:eA (rd H 9) vs=some ds)(h':H[m]?=some (.list [])):eD .ne (.ref l) (.ref m) H=some (!ds.isEmpty):=congrArg (Option.map (!·)) (eq_nil h e h')
end
section
variable{ws:List Nat}{H₀:Hp}{t:cN}{α:Type}{R:α->V->Prop}
theorem Rc{test:aP->Hp->(Bool->Hp->Prop)->Prop}{elt:aP->Hp->PQ->Prop}{Q:List V->Hp->Prop}(I:List α->List V->aP->Hp->Prop)(step:∀a v as acc ρ H,R a v->I (a::as) acc ρ H->aJ (aN t v ρ) λbV=>∀N:List V->Hp->Prop,(∀acc' H',eF ws H₀ H'=true->I as acc' bV H'->N acc' H')->test bV H λb H₁=>bx b (elt bV H₁ λy H₂=>N (acc++[y]) H₂) (N acc H₁))(fin:∀acc ρ H,I [] acc ρ H->Q acc H){as:List α}{vs:List V}(h:cm R as vs):∀acc ρ H,I as acc ρ H->g7 ws H₀ t test elt vs ρ H acc Q:=
 h.rec (motive:=λas vs Z=>∀acc ρ H,I as acc ρ H->g7 ws H₀ t test elt vs ρ H acc Q) fin λr Z ih acc ρ H h=>tm (step _ _ _ acc ρ H r h) λbV hb=>hb (λacc' H'=>eF ws H₀ H'=true/\g7 ws H₀ t test elt _ bV H' acc' Q) λacc' H' hs hi=>⟨hs,ih acc' bV H' hi⟩
end
noncomputable def A6(m:Nat)(p:Nat×List Nat):Row:=⟨p.1,mkRat 1 m,p.2⟩
noncomputable def vl(ps:List aG)(d:Int)(k:Nat):List Row:=(lM ps d k).map (A6 (lM ps d k).length)
noncomputable def A7(b m:Nat)(dz:aP)(H:Hp)(tot:List (Nat×List Nat))(as:List (Nat×List Nat))(acc:List V)(ρ:aP)(H':Hp):Prop:=∀DgIζ:Prop,(∀(o o':Option V) (an:List (Nat×List Nat)) (e:ρ=o::o'::dz) (eh:H'=H) (r:cm (kL b H) (an.map (A6 m)) acc) (t:an++as=tot),DgIζ)->DgIζ
theorem A7.mk{b m:Nat}{dz:aP}{H:Hp}{tot:List (Nat×List Nat)}{as:List (Nat×List Nat)}{acc:List V}{ρ:aP}{H':Hp}(o o':Option V)(an:List (Nat×List Nat))(e:ρ=o::o'::dz)(eh:H'=H)(r:cm (kL b H) (an.map (A6 m)) acc)(t:an++as=tot):A7 b m dz H tot as acc ρ H':=λZ bZ=>bZ o o' an e eh r t
noncomputable def Rd(H:Hp)(rs:List Row)(f:V->V)(Q:PQ):Prop:=∀lr vs H',H.length<=lr->aC H H'->H'[lr]?=some (.list vs)->iu H.length H' rs vs->Q (f (.ref lr)) H'
noncomputable def fv(ps:List aG)(d:Int)(k:Nat)(p:aG):Str×List Row×Rat:=
 if !(iH ps d 20 k).isEmpty then("line",iH ps d 20 k,mkRat 1 4) else if !(tv ps d k p).isEmpty then("parents",tv ps d k p,mkRat 1 2) else("degree",vl ps d k,if(lM ps d k).isEmpty then 1 else mkRat 3 4)
end Mine.L
namespace Mine.L
variable{Y:PQ}
open Mine.P PySem
noncomputable def jx(rs:List Row):Prop:=∀KinOkζ:Prop,(∀(len:rs.length<=2097152) (sm:∀r∈rs,Sm 120 r.lH) (ln:∀r∈rs,r.line.length<=50),KinOkζ)->KinOkζ
theorem jx.mk{rs:List Row}(len:rs.length<=2097152)(sm:∀r∈rs,Sm 120 r.lH)(ln:∀r∈rs,r.line.length<=50):jx rs:=λZ bZ=>bZ len sm ln
theorem iu.ext{b b':Nat}{H H':Hp}{rs:List Row}{vs:List V}(h:iu b H rs vs)(x:aC H H')(hb:b'<=b):iu b' H' rs vs:=h.imp λZ Z h=>h.mono λl c hl e=>⟨le_trans hb hl,x l c e⟩
theorem jx.of{f:Nat}{rs:List Row}(hf:f<=22)(hl:rs.length<=2097152)(h:∀r∈rs,kM f r):jx rs:=(.mk hl (λr hr=>(h r hr).1.le (le_trans (mul_le_mul_left 5 hf) (by decide))) (λr hr=>le_trans (h r hr).2 (le_trans (succ_le_succ hf) (by decide))))
theorem jx.Rf{ps:List aG}{d:Int}{k:Nat}(h1:(lM ps d k).length<=20)(h2:∀e∈lM ps d k,e.2.length<=42):jx (vl ps d k):=(.mk (by unfold vl;rw[length_map];exact le_trans h1 (by decide)) (λr hr=>(mem_map.mp hr).elim λe he=>he.2▸(Sm.inv (λq=>absurd (eq_nil_of_length_eq_zero q) (ne_nil_of_mem he.1)) (lt_of_le_of_lt h1 (by decide))).le (by decide)) (λr hr=>(mem_map.mp hr).elim λe he=>he.2▸le_trans (h2 e he.1) (by decide)))
noncomputable def Rg(H:Hp)(rs:List Row)(f:V->V)(Q:PQ):Prop:=jx rs->Rd H rs f Q
section
variable{n:Nat}{l k:Nat}{H:Hp}{Q:PQ}
theorem yb{b:Nat}{rs:List Row}{vs:List V}(h:iu b H rs vs):eA (rd H 9) vs=some (rs.map Gp):=Ra h λZ Z h=>Rb h
theorem Rh{d:Int}{ps:List aG}(hW:cL ps)(hl:ps.length<=20){p:aG}(hp:ps[k]?=some p)(hA:H[l]?=some (.list (ps.map bv)))(q:Rg H (fv ps d k p).2.1 (λr=>.aF [.str (fv ps d k p).1,r]) Q):aA (n+66) y1 [.ref l,nv k,.int d] H Q Y:=PC (by
 refine bP (xQ (n:=n+2) hW hl (f:=20) (le_refl _) hA hp (lt_of_lt_of_le (u7 (mem_of_getElem? hp)) hl) λlr vs H₁ hb x a r=>?_)
 have r':=r.ext (aC.aR H₁ [.list []]) (le_trans hb (le_succ _))
 apply ay (ne_nil (be _ a) (yb r') (bj _ _))
 rw[isEmpty_map]
 refine ck (λh1=>?_) λh1=>?_
 ·rw[show fv ps d k p=(("line":Str),iH ps d 20 k,mkRat 1 4) from if_pos h1] at q
  exact q (jx.of (by decide) (le_trans (vd hW 20 k p hp) (le_trans (xP hl _) (by decide))) (rt hl 20 k)) lr vs _ hb (x.trans (aC.aR _ _)) (be _ a) r'
 ·rw[show fv ps d k p=_ from if_neg (by rw[h1];decide)] at q
  have x1:=x.trans (aC.aR H₁ [.list []])
  generalize H₁++[aZ.list []]=H₁' at x1 ⊢
  clear r' r a x
  refine bP (QC (n:=n) hW hl hp (x1 _ _ hA) λlr vs H₂ hb x a r=>?_)
  have r':=r.ext (aC.aR H₂ [.list []]) (le_trans (le_trans x1.len hb) (le_succ _))
  apply ay (ne_nil (be _ a) (yb r') (bj _ _))
  rw[isEmpty_map]
  refine ck (λh2=>?_) λh2=>?_
  ·rw[if_pos h2] at q
   exact q (jx.of (le_refl _) (FY hW hl hp) (QB hW hl hp)) lr vs _ (le_trans x1.len hb) ((x1.trans x).trans (aC.aR _ _)) (be _ a) r'
  ·rw[if_neg (by rw[h2];decide)] at q
   have x2:=(x1.trans x).trans (aC.aR H₂ [.list []])
   generalize H₂++[aZ.list []]=H₂' at x2 ⊢
   clear r' r a x
   refine bP (Q2 (n:=n+60) hW hl hp (x2 _ _ hA) λlr vs H₃ rA Ri hb x a r=>?_)
   have ok:=jx.Rf rA Ri
   have x3:=x2.trans x
   apply ay (cW a)
   refine cz (cF (by rw[r.len];exact lt_of_le_of_lt rA (by decide))) ?_
   refine Rc (A7 H.length (lM ps d k).length [some (.ref l),some (nv k),some (.int d),_,some (.ref lr)] H₃ (lM ps d k)) (λe v as acc ρ H' hv h=>?_) (λacc ρ H' h=>?_) r _ _ _ (.mk none none [] rfl rfl .nil rfl)
   ·refine h _ λo o' an Gr eh ra t=>?_
    subst Gr eh
    refine hv _ λll nc ev al=>?_
    subst ev
    refine λN hN=>?_
    apply ay (b7 a)
    rw[r.len]
    have hm:(lM ps d k).length≠0:=λq=>by
     have:=eq_nil_of_length_eq_zero q
     rw[this] at t
     cases an<;>cases t
    refine bP (Az hm (lt_of_le_of_lt rA (by decide)) ?_)
    exact hN _ _ (c9 a a) (.mk _ _ (an++[e]) rfl rfl (by rw[map_append];exact ra.snoc (.mk ll (le_trans x2.len nc) rfl al)) (gp t))
   ·refine h _ λo o' an Gr eh ra t=>?_
    rw[append_nil] at t
    subst eh t
    exact q ok _ acc _ x3.len (x3.trans (aC.aR _ _)) (bj _ _) (iu.ext ra (aC.aR _ _) (le_refl _)))
end
end Mine.L
namespace Mine.L
variable{Y:PQ}
open Mine.P PySem
theorem Gs:PyData.strOk "line"=true:=by decide +kernel
theorem Gu:PyData.strOk "parents"=true:=by decide +kernel
theorem Rj:PyData.strOk "degree"=true:=by decide +kernel
section
variable{n:Nat}{l k:Nat}{H:Hp}{Q:PQ}
noncomputable def A8(how:Str)(rs:List Row):Rat:=if rs.isEmpty then 1 else if how=="line" then mkRat 1 4 else if how=="parents" then mkRat 1 2 else mkRat 3 4
theorem tC{a b:Str}(ha:PyData.strOk a=true)(hb:PyData.strOk b=true):eD .eq (.str a) (.str b) H=some (a==b):=by
 have e:∀{s:Str},PyData.strOk s=true->rd H 10 (.str s)=some (.str s):=λh=>if_pos h
 refine(?_:(rd H 10 (.str a)).bind (λd=>(rd H 10 (.str b)).map λe=>PyData.eqv d e)=_)
 rw[e ha,e hb];rfl
theorem Rk{lr b:Nat}{how:Str}{rs:List Row}{vs:List V}(ho:PyData.strOk how=true)(a:H[lr]?=some (.list vs))(r:iu b H rs vs)(q:∀H',aC H H'->Q (rv (A8 how rs)) H'):aA (n+2) y3 [.str how,.ref lr] H Q Y:=PD (by
 have q:=q _ (aC.aR H [.list []])
 unfold A8 at q
 apply ay (eq_nil (be _ a) (yb (r.ext (aC.aR _ _) (le_refl _))) (bj _ _))
 rw[isEmpty_map]
 refine ck (λh1=>?_) λh1=>?_
 ·rw[if_pos h1] at q;exact q
 ·rw[if_neg (by rw[h1];decide)] at q
  apply ay (tC ho Gs)
  refine ck (λh2=>?_) λh2=>?_
  ·rw[if_pos h2,<-Rat.normalize_eq_mkRat (by decide)] at q
   exact bP (ol (d:=4) _ q)
  ·rw[if_neg (by rw[h2];decide)] at q
   apply ay (tC ho Gu)
   refine ck (λh3=>?_) λh3=>?_
   ·rw[if_pos h3,<-Rat.normalize_eq_mkRat (by decide)] at q
    exact bP (ol (d:=2) _ q)
   ·rw[if_neg (by rw[h3];decide),<-Rat.normalize_eq_mkRat (by decide)] at q
    exact bP (ol (d:=4) _ q))
theorem Rl(ps:List aG)(d:Int)(k:Nat)(p:aG):A8 (fv ps d k p).1 (fv ps d k p).2.1=(fv ps d k p).2.2:=by
 unfold fv
 split
 ·rename_i h
  exact if_neg (by rw[not_eq_true' .. |>.mp h];decide)
 ·split
  ·rename_i h
   exact if_neg (by rw[not_eq_true' .. |>.mp h];decide)
  ·refine(?_:(if(vl ps d k).isEmpty=true then _ else _)=_)
   rw[show(vl ps d k).isEmpty=(lM ps d k).isEmpty from isEmpty_map]
   split<;>rfl
theorem Gv(ps:List aG)(d:Int)(k:Nat)(p:aG):PyData.strOk (fv ps d k p).1=true:=by
 unfold fv
 split
 ·exact Gs
 ·split
  ·exact Gu
  ·exact Rj
end
end Mine.L
namespace Mine.L
variable{Y:PQ}
open Mine.P PySem
noncomputable def mu(R:Rat)(how:Str)(r:Row):eZ:=⟨some r.i8,R*r.lH,how,r.line⟩
noncomputable def j1(ps:List aG)(d:Int)(gs:List (Nat×Rat)):Rat:=1 - gs.foldl (kP ps d) 0
noncomputable def vn(ps:List aG)(d:Int)(k:Nat)(p:aG)(gs:List (Nat×Rat))(sp:Option Nat):List eZ:=
 if(j1 ps d gs).num==0 then gs.flatMap (gJ ps d k) else match sp with
  |none=>if(fv ps d k p).2.1.isEmpty then gs.flatMap (gJ ps d k)++[⟨none,j1 ps d gs,"town",[k]⟩] else gs.flatMap (gJ ps d k)++(fv ps d k p).2.1.map (mu (j1 ps d gs) (fv ps d k p).1)
  |some s=>(gs.flatMap (gJ ps d k)++[⟨some s,j1 ps d gs*(fv ps d k p).2.2,"spouse",[k,s]⟩])++(fv ps d k p).2.1.map (mu (j1 ps d gs - j1 ps d gs*(fv ps d k p).2.2) (fv ps d k p).1)
noncomputable def yc(H:Hp)(rs:List eZ)(Q:PQ):Prop:=∀lr vs H',H.length<=lr->aC H H'->H'[lr]?=some (.list vs)->j0 H.length lr H' rs vs->Q (.ref lr) H'
theorem A9{ps:List aG}{d:Int}{n:Nat}:∀{gs:List (Nat×Rat)} {i:Nat} {s:Rat},nh n gs->Sm i s->Sm (i+11*gs.length) (gs.foldl (kP ps d) s)
 |[],i,s,_,h=>h
 |g::r,i,s,hg,h=>(A9 (gs:=r) (λg h=>hg g (.tail _ h)) (h.kP (hg g mem_cons_self).2)).le (by rw[length_cons];lia)
theorem Ba:Sm 1 (1:Rat):=⟨by decide,by decide⟩
theorem Rm{ps:List aG}{d:Int}{n:Nat}{gs:List (Nat×Rat)}(hg:nh n gs)(hl:gs.length<=10):Sm 200 (j1 ps d gs):=(Ba.sub (A9 (i:=1) hg ⟨by decide,by decide⟩)).le (by lia)
noncomputable def Bb(k:Str)(R:Rat)(lr lk b:Nat)(x0 x1 x2 x3 x5 x9 nj:Option V)(H₁:Hp)(tot:List eZ)(as:List Row)(ρ:aP)(H':Hp):Prop:=∀TlIζ:Prop,(∀(pU pV pW:Option V) (rs:List eZ) (vs:List V) (e:ρ=[x0,x1,x2,x3,some (.ref lr),x5,some (rv R),some (.str k),some (.ref lk),x9,nj,pU,pV,pW]) (x:bu lr H₁ H') (a:H'[lr]?=some (.list vs)) (r:j0 b lr H' rs vs) (t:rs++as.map (mu R k)=tot),TlIζ)->TlIζ
theorem Bb.mk{k:Str}{R:Rat}{lr lk b:Nat}{x0 x1 x2 x3 x5 x9 nj:Option V}{H₁:Hp}{tot:List eZ}{as:List Row}{ρ:aP}{H':Hp}(pU pV pW:Option V)(rs:List eZ)(vs:List V)(e:ρ=[x0,x1,x2,x3,some (.ref lr),x5,some (rv R),some (.str k),some (.ref lk),x9,nj,pU,pV,pW])(x:bu lr H₁ H')(a:H'[lr]?=some (.list vs))(r:j0 b lr H' rs vs)(t:rs++as.map (mu R k)=tot):Bb k R lr lk b x0 x1 x2 x3 x5 x9 nj H₁ tot as ρ H':=λZ bZ=>bZ pU pV pW rs vs e x a r t
theorem Rn(ps:List aG)(d:Int)(k:Nat)(p:aG):Sm 5 (fv ps d k p).2.2:=by
 unfold fv
 split
 ·exact Sm.inv (m:=4) (by decide) (by decide)
 ·split
  ·exact Sm.inv (m:=2) (by decide) (by decide)
  ·refine(?_:Sm 5 (if(lM ps d k).isEmpty=true then 1 else mkRat 3 4))
   split
   ·exact Ba.le (by decide)
   ·rw[<-Rat.normalize_eq_mkRat (by decide)];exact Sm.pG _ (by decide) (by decide)
section
variable{n:Nat}{l lm lw k:Nat}{H:Hp}{Q:PQ}
theorem Ro{x:Rat}:((x.num==0)&&(((x.den:Int)==1)&&true))=(x.num==0):=by
 cases h:x.num==0 with
 |false=>rfl
 |true=>
  have e:x=0:=Rat.num_eq_zero.mp (eq_of_beq h)
  rw[e];rfl
theorem Gw{how:Str}{R:Rat}{lr lk b i:Nat}{x0 x1 x2 x3 x5 x9 nj pU pV pW:Option V}{rs:List eZ}{vs us:List V}{kin:List Row}(hb:b<=lr)(a:H[lr]?=some (.list vs))(r:j0 b lr H rs vs)(ak:H[lk]?=some (.list us))(nV:lk≠lr)(rk:iu (lr+1) H kin us)(ok:jx kin)(sm:Sm i R)(hi:i<=1000)(Rp:rs.length<=12000000)
  (q:∀gW H',bu lr H H'->H'[lr]?=some (.list gW)->j0 b lr H' (rs++kin.map (mu R how)) gW->Q (.ref lr) H'):aM ⟨aA (n+2),Y⟩ (ze.drop 10) [x0,x1,x2,x3,some (.ref lr),x5,some (rv R),some (.str how),some (.ref lk),x9,nj,pU,pV,pW] H (bF Q):=by
 refine ok _ λlen ksm kln=>?_
 have ht:(rs++kin.map (mu R how)).length<=16000000:=by rw[length_append,length_map];exact le_trans (add_le_add Rp len) (by decide)
 apply ay (cW ak)
 refine vc (R:=λr v=>r∈kin/\kL (lr+1) H r v) (Bb how R lr lk b x0 x1 x2 x3 x5 x9 nj H (rs++kin.map (mu R how))) (λrw v bs ρ H' hv h=>?_) (λρ H' h=>?_) (rk.imp' λr v hr hv=>⟨hr,hv⟩) _ _ (.mk _ _ _ rs vs rfl (bu.refl _ _) a r rfl)
 ·refine hv.2 _ λll nc e al=>?_
  subst e
  refine h _ λpU pV pW rs vs e x a r t=>?_
  subst e
  refine λN hN=>?_
  refine fS a (bP (vb sm (ksm _ hv.1) (by lia) ?_))
  have nl:=ne_of_gt nc
  exact f9 a (by rw[r.len];exact na t ht) (hN _ _ (c9 ak ((x.trans (bu.set _ _ _)) _ _ nV ak)) (.mk _ _ _ (rs++[mu R how rw]) _ rfl (x.trans (bu.set _ _ _)) (dN a _) ((r.b (bu.set _ _ _)).snoc (.mk ll (le_trans hb (le_of_lt nc)) nl rfl ((x.trans (bu.set _ _ _)) _ _ nl al))) (gp t)))
 ·refine h _ λpU pV pW V4 vs e x a r t=>?_
  subst e
  rw[map_nil,append_nil] at t
  subst t
  exact q _ _ x a r
end
end Mine.L
namespace Mine.L
variable{Y:PQ}
open Mine.P PySem
structure cq where
 ps:List aG
 ms:List dP
 ws:List gf
noncomputable def cX(r:cq):Prop:=∀RollOkζ:Prop,(∀(wf:cL r.ps) (len:r.ps.length<=20) (fy:jZ r.ps.length r.ms) (cU:vj r.ps.length r.ws),RollOkζ)->RollOkζ
theorem cX.mk{r:cq}(wf:cL r.ps)(len:r.ps.length<=20)(fy:jZ r.ps.length r.ms)(cU:vj r.ps.length r.ws):cX r:=λZ bZ=>bZ wf len fy cU
noncomputable def cP(H:Hp)(r:cq)(l lm lw:Nat):Prop:=∀RollAtζ:Prop,(∀(ap:H[l]?=some (.list (r.ps.map bv))) (am:H[lm]?=some (.list (r.ms.map gI))) (aw:H[lw]?=some (.list (r.ws.map ia))),RollAtζ)->RollAtζ
theorem cP.mk{H:Hp}{r:cq}{l lm lw:Nat}(ap:H[l]?=some (.list (r.ps.map bv)))(am:H[lm]?=some (.list (r.ms.map gI)))(aw:H[lw]?=some (.list (r.ws.map ia))):cP H r l lm lw:=λZ bZ=>bZ ap am aw
noncomputable def oo(r:cq)(d:Int)(k:Nat):List (Nat×Rat):=iw k d r.ws (-1) []
noncomputable def rI(r:cq)(d:Int)(k:Nat)(p:aG):List eZ:=vn r.ps d k p (oo r d k) (lO r.ps d k r.ms)
theorem Bc{r:cq}(h:cX r)(d:Int)(k:Nat):nh r.ps.length (oo r d k)/\(oo r d k).length<=10:=h _ λZ Z Z g=>AX (P:=λgs=>nh r.ps.length gs/\gs.length<=10) _ _ _ (λw hw=>(g w hw) _ λgk Z Z Z Z Z Z Z Z Z Z=>gk) ⟨λZ h=>(nomatch h),zero_le _⟩
theorem Gx{r:cq}(h:cX r)(d:Int)(k:Nat):((oo r d k).flatMap (gJ r.ps d k)).length<=10485760:=h _ λhW hl Z Z=>le_trans (xR λg hg=>Gn hW hl ((Bc h d k).1 g hg).1) (Nat.mul_le_mul_right 1048576 (Bc h d k).2)
noncomputable def pX(r:eZ):Prop:=PyData.strOk r.how=true/\r.line.length<=1000
theorem Gy:PyData.strOk "will"=true:=by decide +kernel
theorem Rq:PyData.strOk "spouse"=true:=by decide +kernel
theorem Rr:PyData.strOk "town"=true:=by decide +kernel
theorem yd{r:cq}(hr:cX r){d:Int}{k:Nat}:∀x∈(oo r d k).flatMap (gJ r.ps d k),pX x:=λx hx=>hr _ λZ hl Z Z=>(List.mem_flatMap.mp hx).elim λg hg=>by
 have h:=hg.2
 unfold gJ at h
 split at h
 ·rw[mem_singleton.mp h];exact⟨Gy,show 2<=1000 by decide⟩
 ·exact(mem_map.mp h).elim λy hy=>hy.2▸⟨Gy,le_trans (succ_le_succ (rt hl 20 _ _ hy.1).2) (by decide)⟩
theorem Gz{ps:List aG}{d:Int}{k:Nat}{p:aG}(h:jx (fv ps d k p).2.1){R:Rat}:∀x∈(fv ps d k p).2.1.map (mu R (fv ps d k p).1),pX x:=λx hx=>(mem_map.mp hx).elim λy hy=>hy.2▸⟨Gv ps d k p,h _ λZ Z ln=>le_trans (ln y hy.1) (by decide)⟩
theorem Rt{r:cq}(hr:cX r){d:Int}{k:Nat}{p:aG}(h:((j1 r.ps d (oo r d k)).num==0)=false->jx (fv r.ps d k p).2.1):∀x∈rI r d k p,pX x:=by
 unfold rI vn
 cases h0:(j1 r.ps d (oo r d k)).num==0 with
 |true=>exact yd hr
 |false=>
  have ok:=h h0
  intro x hx
  rw[if_neg (by decide)] at hx
  cases hs:lO r.ps d k r.ms with
  |none=>
   rw[hs] at hx
   dsimp only at hx
   split at hx
   ·exact(mem_append.mp hx).elim (yd hr x) λh=>by rw[mem_singleton.mp h];exact⟨Rr,show 1<=1000 by decide⟩
   ·exact(mem_append.mp hx).elim (yd hr x) (Gz ok x)
  |some s=>
   rw[hs] at hx
   exact(mem_append.mp hx).elim (λh=>(mem_append.mp h).elim (yd hr x) λh=>by rw[mem_singleton.mp h];exact⟨Rq,show 2<=1000 by decide⟩) (Gz ok x)
theorem Ru{r:cq}(hr:cX r){d:Int}{k:Nat}{p:aG}(h:((j1 r.ps d (oo r d k)).num==0)=false->jx (fv r.ps d k p).2.1):(rI r d k p).length<=14000000:=by
 have hg:=Gx hr d k
 unfold rI vn
 cases h0:(j1 r.ps d (oo r d k)).num==0 with
 |true=>exact le_trans hg (by decide)
 |false=>
  have hk:(fv r.ps d k p).2.1.length<=2097152:=(h h0) _ λlen Z Z=>len
  rw[if_neg (by decide)]
  cases hs:lO r.ps d k r.ms with
  |none=>
   dsimp only
   split
   ·rw[length_append];exact le_trans (add_le_add_right hg 1) (by decide)
   ·rw[length_append,length_map];exact le_trans (add_le_add hg hk) (by decide)
  |some s=>
   dsimp only
   rw[length_append,length_append,length_map];exact le_trans (add_le_add (add_le_add_right hg 1) hk) (by decide)
section
variable{n:Nat}{l lm lw k:Nat}{H:Hp}{Q:PQ}
theorem Rv{r:cq}(hr:cX r)(at':cP H r l lm lw){p:aG}(hp:r.ps[k]?=some p){d:Int}(hd:p.bM=some d)(q:(∀x∈rI r d k p,pX x)->(rI r d k p).length<=14000000->yc H (rI r d k p) Q):aA (n+67) y4 [.aF [.ref l,.ref lm,.ref lw],nv k] H Q Y:=PE (by
 refine hr _ λhW hl hM hG=>at' _ λhA Rw Rx=>?_
 have hg:nh r.ps.length (iw k d r.ws (-1) [])/\(iw k d r.ws (-1) []).length<=10:=Bc hr d k
 have pS:((iw k d r.ws (-1) []).flatMap (gJ r.ps d k)).length<=10485760:=Gx hr d k
 have qd:(((j1 r.ps d (iw k d r.ws (-1) [])).num==0)=false->jx (fv r.ps d k p).2.1)->yc H (vn r.ps d k p (iw k d r.ws (-1) []) (lO r.ps d k r.ms)) Q:=λh=>q (Rt hr h) (Ru hr h)
 apply ay (du hA hp)
 unfold bv
 rw[hd]
 refine bP (Q7 Rx ?_)
 generalize iw k d r.ws (-1) []=gs at hg pS qd ⊢
 refine bP (Q9 (n:=n+2) hW hl hg.1 hg.2 hA λlr vs H₁ hb x a rr=>?_)
 have hT:Sm 199 (gs.foldl (kP r.ps d) 0):=(A9 (i:=1) hg.1 ⟨by decide,by decide⟩).le (by have:=hg.2;lia)
 refine bP (FG (x:=1) Ba hT (by decide) ?_)
 have hR:=Rm (ps:=r.ps) (d:=d) hg.1 hg.2
 unfold vn at qd
 rw[show(1:Rat) - gs.foldl (kP r.ps d) 0=j1 r.ps d gs from rfl]
 generalize j1 r.ps d gs=R at hR qd ⊢
 generalize gs.flatMap (gJ r.ps d k)=rs at rr pS qd
 refine(?_:bx ((R.num==0)&&(((R.den:Int)==1)&&true)) _ _)
 rw[Ro]
 refine ck (λh1=>?_) λh1=>?_
 ·have qd:=qd λh=>absurd (h1.symm.trans h) (by decide)
  rw[if_pos h1] at qd
  exact qd lr vs _ hb x a rr
 ·refine bP (Rh (n:=n) hW hl hp (x _ _ hA) λok lk us H₂ Ry b6 ak rk=>?_)
  have qd:=qd λZ=>ok
  rw[if_neg (by rw[h1];decide)] at qd
  have x2:=x.trans b6
  have nV:=lt_of_lt_of_le (cu a) Ry
  refine bP (Q6 (x2 _ _ hA) (x2 _ _ Rw) hM ?_)
  have qL:=Gv r.ps d k p
  have ye:=Rn r.ps d k p
  have ebs:=Rl r.ps d k p
  generalize fv r.ps d k p=kp at ok rk qd qL ye ebs ⊢
  have a2:=b6 _ _ a
  have r2:=j0.b rr (b6.b _)
  have Rz:=lt_of_le_of_lt hb (cu a2)
  generalize lO r.ps d k r.ms=sp at qd ⊢
  cases sp with
  |none=>
   have GA:=rk.ext (aC.aR H₂ [.list []]) (cu a)
   apply ay (eq_nil (be _ ak) (yb GA) (bj _ _))
   rw[isEmpty_map]
   have qd:yc H (if kp.2.1.isEmpty then rs++[⟨none,R,"town",[k]⟩] else rs++kp.2.1.map (mu R kp.1)) Q:=qd
   refine ck (λh2=>?_) λh2=>?_
   ·rw[if_pos h2] at qd
    have xx:∀a b c:List aZ,aC H₂ (H₂++[aZ.list []]++a++b++c):=λa b c=>(aC.aR H₂ _).trans ((aC.aR _ a).trans ((aC.aR _ b).trans (aC.aR _ c)))
    have fI:∀a b:List aZ,H₂.length<=(H₂++[aZ.list []]++a++b).length:=λa b=>((aC.aR H₂ [.list []]).trans ((aC.aR _ a).trans (aC.aR _ b))).len
    have an:=bj (H₂++[.list []]) (.list (aV [k]))
    have RA:H₂.length<(H₂++[aZ.list []]).length:=by rw[length_append];exact lt_succ_self _
    refine lI (be _ (be _ (be _ a2))) (bj _ _) (by rw[length_append,rr.len];exact lt_of_le_of_lt (add_le_add_right pS 1) (by decide)) ?_
    refine qd _ _ _ (le_trans x2.len (fI _ _)) (x2.trans (xx _ _ _)) (bj _ _) (cm.snoc (r2.imp λZ Z h=>h _ λll hb hn e al=>(.mk ll hb (ne_of_lt (lt_of_lt_of_le (cu al) (fI _ _))) e (xx _ _ _ _ _ al))) (.mk _ (le_trans x2.len (le_of_lt RA)) (ne_of_lt (cu (be _ an))) rfl (be _ (be _ an))))
   ·rw[if_neg (by rw[h2];decide)] at qd
    exact Gw (n:=n+64) hb (be _ a2) (r2.b (bu.aR _ _ _)) (be _ ak) (ne_of_gt nV) GA ok hR (by decide) (le_trans pS (by decide)) λgW H' x' a' r'=>qd _ _ _ hb (x'.ext (x2.trans (aC.aR _ _)) hb) a' r'
  |some s=>
   have qd:yc H ((rs++[⟨some s,R*kp.2.2,"spouse",[k,s]⟩])++kp.2.1.map (mu (R - R*kp.2.2) kp.1)) Q:=qd
   refine bP (Rk qL ak rk λH₃ cw=>?_)
   rw[ebs]
   refine bP (vb hR ye (by decide) ?_)
   have a3:=cw _ _ a2
   refine fS a3 (f9 (be _ a3) (by rw[rr.len];exact lt_of_le_of_lt pS (by decide)) ?_)
   refine bP (FG hR (hR.mul ye) (by decide) ?_)
   have x4:bu lr H₃ _:=(bu.aR lr H₃ [aZ.list (aV [k,s])]).trans (bu.set lr _ (.list (vs++[.aF [nv s,rv (R*kp.2.2),.str "spouse",.ref H₃.length]])))
   have nlk:=ne_of_gt nV
   exact Gw (n:=n+64) hb (dN (be _ a3) _) (((r2.b (cw.b _)).b x4).snoc (.mk H₃.length (le_trans (le_of_lt Rz) cw.len) (ne_of_gt (cu a3)) rfl (dF (bj _ _) _ (ne_of_lt (cu a3))))) (x4 _ _ nlk (cw _ _ ak)) nlk (rk.imp λZ Z h=>h.mono λll c hl e=>⟨le_trans (cu a) hl,x4 _ _ (ne_of_gt (lt_of_lt_of_le (cu a) hl)) (cw _ _ e)⟩) ok (hR.sub (hR.mul ye)) (by decide) (by rw[length_append];exact le_trans (add_le_add_right pS 1) (by decide)) λgW H' x' a' r'=>qd _ _ _ hb ((x4.trans x').ext (x2.trans cw) hb) a' r')
end
end Mine.L
namespace Mine.L
variable{Y:PQ}
open Mine.P PySem
section
variable{C:Ct}{ρ bV:aP}{H:Hp}{Q:PQ}{K:Out->Prop}{r:List S}{t:cN}{e a i:E}{v x y:V}
theorem fJ(h:WE C e ρ H λv H=>aJ (aN t v ρ) λbV=>aM C r bV H K):aM C (.aN t e::r) ρ H K:=h
theorem bY{j:Nat}(h:ρ[j]?.join=some v)(q:Q v H):WE C (.J j) ρ H Q:=ay h q
theorem vo(q:Q (.ref H.length) (H++[.list []])):WE C (.bJ []) ρ H Q:=q
theorem gg{op:lV}(h:WE C a ρ H λx H=>WE C i ρ H λy H=>sI op x y H Q):WE C (.bin op a i) ρ H Q:=h
theorem e7{op:lV}{p q z:Int}(h:binI op p q=some z)(k:Q (.int z) H):sI op (.int p) (.int q) H Q:=ay h k
theorem vp{it:It}{b:List S}(h:nQ C it ρ H λp H=>md p.2 H t (λρ H K=>aM C.xq b ρ H K) p.1 ρ H λo=>jn o (λρ H=>aM C r ρ H K) (K o)):aM C (.for t it b::r) ρ H K:=h
theorem yf{R:List V×List Nat->Hp->Prop}(h:WE C a ρ H λx H=>WE C i ρ H λy H=>uC x y λl=>R (l,[]) H):nQ C (.range a i) ρ H R:=h
theorem cj(q:Q v H):WE C (.k v) ρ H Q:=q
end
section
variable{n:Nat}{l lm lw k:Nat}{H:Hp}{Q:PQ}
end
end Mine.L
namespace Mine.L
variable{Y:PQ}
open Mine.P PySem
theorem GB:∀l:List Nat,PyData.eqvAll (l.map λi:Nat=>.int i) (l.map λi:Nat=>.int i)=true
 |[]=>rfl
 |a::r=>by
  refine(?_:(((a:Int)==(a:Int))&&PyData.eqvAll _ _)=true)
  rw[beq_self_eq_true,GB r];rfl
theorem RB(x:Rat):PyData.eqv (pT x) (pT x)=true:=by
 refine(?_:((x.num==x.num)&&(((x.den:Int)==(x.den:Int))&&true))=true)
 rw[beq_self_eq_true,beq_self_eq_true];rfl
section
variable{n:Nat}{l k:Nat}{H:Hp}{Q:PQ}
theorem V5{i:Int}(q:Q (.bool true) H):aA (n+1) lX [.int i] H Q Y:=Fq q
end
end Mine.L
namespace Mine.L
variable{Y:PQ}
open Mine.P PySem
theorem cP.ext{H H':Hp}{r:cq}{l lm lw:Nat}(h:cP H r l lm lw)(x:aC H H'):cP H' r l lm lw:=h _ λa b c=>(.mk (x _ _ a) (x _ _ b) (x _ _ c))
section
variable{n:Nat}{l lm lw l' tD tE k:Nat}{H:Hp}{Q:PQ}
end
end Mine.L
namespace Mine.L
variable{Y:PQ}
open Mine.P PySem
noncomputable def Bd(c:Int)(m:Nat)(H:Hp)(as:List Nat)(ρ:aP)(H':Hp):Prop:=∀StIζ:Prop,(∀(acc:List Int) (x:Int) (o:Option V) (e:ρ=[some (.int c),some (nv m),some (.ref H.length),some (.int x),o]) (ext:aC H H') (a:H'[H.length]?=some (.list (acc.map V.int))) (len:acc.length+as.length=m) (hx:0<=x/\x<2147483647) (ok:∀x∈acc,0<=x/\x<2147483647),StIζ)->StIζ
theorem Bd.mk{c:Int}{m:Nat}{H:Hp}{as:List Nat}{ρ:aP}{H':Hp}(acc:List Int)(x:Int)(o:Option V)(e:ρ=[some (.int c),some (nv m),some (.ref H.length),some (.int x),o])(ext:aC H H')(a:H'[H.length]?=some (.list (acc.map V.int)))(len:acc.length+as.length=m)(hx:0<=x/\x<2147483647)(ok:∀x∈acc,0<=x/\x<2147483647):Bd c m H as ρ H':=λZ bZ=>bZ acc x o e ext a len hx ok
section
variable{n:Nat}{l k:Nat}{H:Hp}{Q:PQ}
theorem nk(a:Int){b:Int}(h:0<b):0<=a.fmod b/\a.fmod b<b:=by
 rw[Int.fmod_eq_emod_of_nonneg a (Int.le_of_lt h)]
 exact⟨Int.emod_nonneg a (Int.ne_of_gt h),Int.emod_lt_of_pos a h⟩
theorem iy(x:Int){k:Nat}(h:0<k):∃a:Nat,x.fmod (k:Int)=(a:Int)/\a<k:=
 have z:=nk x (ofNat_lt.mpr h)
 ⟨(x.fmod (k:Int)).toNat,(Int.toNat_of_nonneg z.1).symm,(toNat_lt z.1).mpr z.2⟩
theorem RC{x:Int}{b:Nat}(h:0<=x/\x<b):x.natAbs<b:=by
 obtain⟨k,rfl⟩:=Int.eq_ofNat_of_zero_le h.1
 exact ofNat_lt.mp h.2
theorem nq{k b c:Nat}(h:k<b)(hb:b<=c):(k:Int).natAbs<c:=lt_of_lt_of_le h hb
theorem vq(x:Int){k c:Nat}(h:0<k)(hc:k<=c):∃r:Nat,1+x.fmod (k:Int)=(r:Int)/\0<r/\r<=c:=(iy x h).elim λa z=>⟨a+1,by rw[z.1];exact Int.add_comm _ _,succ_pos _,le_trans z.2 hc⟩
theorem mod2(x:Int){P:Int->Prop}(h0:P ((0:Nat):Int))(h1:P ((1:Nat):Int)):P (x.fmod 2):=(iy x (k:=2) (by decide)).elim λa z=>by
 rw[show x.fmod 2=(a:Int) from z.1]
 cases a with
 |zero=>exact h0
 |succ a=>cases a with
  |zero=>exact h1
  |succ a=>exact absurd z.2 (not_lt.mpr (le_add_left 2 a))
theorem RD(x:Int){P:Int->Prop}(h0:P ((0:Nat):Int))(h1:P ((1:Nat):Int))(h2:P ((2:Nat):Int)):P (x.fmod 3):=(iy x (k:=3) (by decide)).elim λa z=>by
 rw[show x.fmod 3=(a:Int) from z.1]
 cases a with
 |zero=>exact h0
 |succ a=>cases a with
  |zero=>exact h1
  |succ a=>cases a with
   |zero=>exact h2
   |succ a=>exact absurd z.2 (not_lt.mpr (le_add_left 3 a))
theorem gv{a b:Int}(h:b≠0):binI .mod a b=some (a.fmod b):=if_neg h
noncomputable def RF(H:Hp)(m:Nat)(Q:PQ):Prop:=∀(ls:Nat) (H':Hp) (xs:List Int),xs.length=m->(∀x∈xs,0<=x/\x<2147483647)->H.length<=ls->aC H H'->H'[ls]?=some (.list (xs.map V.int))->Q (.ref ls) H'
theorem tF{c:Int}{m:Nat}(hm:m<=1000)(q:RF H m Q):aA (n+1) lY [.int c,nv m] H Q Y:=PJ (by
 unfold zf
 refine fJ (vo (ay rfl ?_))
 refine fJ (gg (bY rfl (cj (e7 (gv (b:=2147483647) (by decide)) (ay rfl ?_)))))
 refine vp (yf (cj (bY rfl (mq (lt_of_le_of_lt hm (by decide)) ?_))))
 refine ft (Bd c m H) (λk as ρ H' h=>?_) (λρ H' h=>?_) _ _ _ (.mk [] _ none rfl (aC.aR _ _) (bj _ _) (by rw[length_range];exact zero_add m) (nk c (by decide)) (λZ h=>nomatch h))
 ·refine h _ λacc x o e ext a len hx ok=>?_
  subst e
  refine λN hN=>?_
  apply ay (i7 (i:=31) (j:=16) (a:=x) (b:=48271) (RC ⟨hx.1,Int.lt_trans hx.2 (by decide)⟩) (by decide) (by decide))
  have hy:=nk (x*48271+11+(k:Int)) (b:=2147483647) (by decide)
  rw[length_cons] at len
  exact fS a (f9 a (by rw[length_map];lia) (hN _ _ rfl (.mk (acc++[(x*48271+11+(k:Int)).fmod 2147483647]) _ _ rfl (ext.set (le_refl _) _) (by rw[map_append];exact dN a _) (by rw[length_append,<-len];exact(add_assoc _ 1 _).trans (by rw[add_comm 1])) hy (λy RG=>(mem_append.mp RG).elim (ok y) λh=>by rw[mem_singleton.mp h];exact hy))))
 ·refine h _ λacc x o e ext a len hx ok=>?_
  subst e
  exact q _ _ acc len ok (le_refl _) ext a)
theorem pick{es:List Nat}(he:es≠[])(h:H[l]?=some (.list (aV es)))(y:Int):∃j,j∈es/\fh (.ref l) (.int (y.fmod es.length)) H=some (nv j):=by
 have hl:0<es.length:=length_pos_iff.mpr he
 have hm:=nk y (ofNat_lt.mpr hl)
 have hi:(y.fmod es.length).toNat<es.length:=by lia
 refine⟨es[(y.fmod es.length).toNat],getElem_mem hi,?_⟩
 have:=gH (k:=(y.fmod es.length).toNat) (v:=nv es[(y.fmod es.length).toNat]) h (by rw[getElem?_map,getElem?_eq_getElem hi];rfl)
 rw[nv,Int.toNat_of_nonneg hm.1] at this
 exact this
theorem Be{es:List Nat}(he:es≠[]):(es.length:Int)≠0:=λh=>he (eq_nil_of_length_eq_zero (ofNat.inj h))
theorem yg{y f:Int}{es:List Nat}(hE:H[l]?=some (.list (aV es)))(q:∀al H',(∀j∈al,j∈es)->hJ al->(al=[]->es=[]\/f=0)->aC H H'->Q (.aF (aV al)) H'):aA (n+1) nG [.ref l,.int y,.int f] H Q Y:=PK (by
 have x:=aC.aR H [.list []]
 have r0:es=[]\/f=0->Q (.aF []) (H++[.list []]):=λhz=>q [] _ (λZ h=>nomatch h) ⟨by decide,nodup_nil⟩ (λZ=>hz) x
 apply ay (eq_nil (be _ hE) (m9 _ _) (bj _ _))
 rw[isEmpty_map]
 refine iG (λh0=>?_) λh0=>fH h0 (r0 (.inl (isEmpty_iff.mp h0)))
 have he:es≠[]:=λe=>by rw[e] at h0;cases h0
 have key:aM ⟨aA n,Y⟩ (zg.drop 1) [some (.ref l),some (.int y),some (.int f),none,none] (H++[.list []]) (bF Q):=by
  have vr:=x _ _ hE
  generalize H++[.list []]=H₁ at x vr r0
  apply ay (b7 vr)
  rw[length_map]
  apply ay (gv (Be he))
  refine(pick he vr y).elim λj hj=>?_
  apply ay hj.2
  apply ay (b7 vr)
  rw[length_map]
  apply ay (gv (Be he))
  refine(pick he vr (y.fdiv 60)).elim λj' lP=>?_
  apply ay lP.2
  have r1:Q (.aF (aV [j])) H₁:=q [j] _ (λi h=>by rw[mem_singleton.mp h];exact hj.1) ⟨show 1<=2 by decide,nodup_cons.mpr ⟨not_mem_nil,nodup_nil⟩⟩ (λh=>nomatch h) x
  have r2:((j:Int)==(j':Int))=false->Q (.aF (aV [j,j'])) H₁:=λcT=>q [j,j'] _ (λi h=>(mem_cons.mp h).elim (λe=>e▸hj.1) λh=>by rw[mem_singleton.mp h];exact lP.1) ⟨show 2<=2 by decide,nodup_cons.mpr ⟨λh=>(by rw[mem_singleton.mp h,beq_self_eq_true] at cT;cases cT),nodup_cons.mpr ⟨not_mem_nil,nodup_nil⟩⟩⟩ (λh=>nomatch h) x
  refine(?_:bx (((j:Int)==(j':Int))==false) _ _)
  refine iG (λh1=>?_) λh1=>fH h1 r1
  refine(?_:bx ((y.fdiv 3).fmod 4==0) _ _)
  exact ck (λZ=>r1) λZ=>r2 h1
 refine(?_:bx ((f==0)==true) _ _)
 refine fR (λh=>?_) λh=>gb h key
 refine(?_:bx ((y.fdiv 7).fmod 5==0) _ _)
 exact ck (λZ=>r0 (.inr (eq_of_beq h))) λZ=>key)
end
end Mine.L
namespace Mine.L
variable{Y:PQ}
open Mine.P PySem
noncomputable abbrev RH:S:=.aN (.J 7) (.bin .mul (.bin .add (.bin .mul (.k (.int 5)) (.bin .fdiv (.J 5) (.k (.int 3)))) (.bin .mod (.J 6) (.k (.int 11)))) (.J 3))
noncomputable abbrev RI:S:=.aN (.J 8) (.comp 1 (.J 0) (.J 0) (.range (.k (.int 0)) (.J 5)) [(.cmp .lt (.aE (.aE (.J 3) (.J 0)) (.k (.int 0))) (.J 8))])
noncomputable abbrev RJ:S:=.aN (.J 9) (.call nG [(.ii (.J 8) (some (.neg (.k (.int 7)))) none),(.bin .fdiv (.J 6) (.k (.int 11))),(.k (.int 0))])
noncomputable abbrev RK:S:=.ba (.and [(.cmp .gt (.J 5) (.k (.int 0))),(.cmp .eq (.bin .mod (.bin .fdiv (.J 6) (.k (.int 13))) (.k (.int 3))) (.k (.int 0))),(.cmp .eq (.comp 1 (.J 0) (.J 0) (.of (.aE (.aE (.J 2) (.bin .sub (.J 5) (.k (.int 1)))) (.k (.int 1)))) [(.cmp .iT (.J 0) (.J 9))]) (.bJ []))])
   [.aN (.J 9) (.aE (.aE (.J 2) (.bin .sub (.J 5) (.k (.int 1)))) (.k (.int 1)))]
   []
noncomputable abbrev RL:S:=.ba (.and [(.cmp .eq (.bin .mod (.bin .fdiv (.J 0) (.k (.int 4))) (.k (.int 3))) (.k (.int 0))),(.cmp .lt (.J 5) (.k (.int 12)))])
   [.aN (.J 7) (.bin .mul (.bin .add (.bin .mul (.k (.int 12)) (.bin .fdiv (.J 5) (.k (.int 2)))) (.bin .mod (.J 6) (.k (.int 11)))) (.J 3)),
    .aN (.J 9) (.aE (.J 4) (.J 5))]
   []
noncomputable abbrev RM:S:=.aN (.J 10) (.k .none)
noncomputable abbrev RN:S:=.ba (.cmp .gt (.bin .mod (.bin .fdiv (.J 6) (.k (.int 500))) (.aE (.bJ [(.k (.int 4)),(.k (.int 9))]) (.bin .mod (.bin .fdiv (.J 0) (.k (.int 12))) (.k (.int 2))))) (.k (.int 0)))
   [.aN (.J 10) (.bin .add (.J 7) (.bin .mul (.bin .mod (.bin .fdiv (.J 6) (.k (.int 1500))) (.k (.int 40))) (.J 3)))]
   []
noncomputable abbrev RP:S:=.expr (.c8 .append (.J 2) [(.aF [.J 7,.J 9,(.k .none),.J 10])])
noncomputable def GC:List (List Nat):=[[],[],[1,0],[1,0],[2],[3],[],[5],[3],[1],[],[2]]
noncomputable def yh:List V:=GC.map λl=>.aF (aV l)
section
variable{n:Nat}{c x sc b:Int}{m k lp lh:Nat}{H:Hp}{K:Out->Prop}{rest:List S}{ps:List aG}{o7 o8 o9 o10:Option V}
noncomputable abbrev j2(c:Int)(m lp:Nat)(sc:Int)(lh k:Nat)(x:Int)(o7 o8 o9 o10:Option V):aP:=[some (.int c),some (nv m),some (.ref lp),some (.int sc),some (.ref lh),some (nv k),some (.int x),o7,o8,o9,o10]
theorem GD(k:Nat)(d:Nat):Int.fdiv (k:Int) (d:Int)=((k/d:Nat):Int):=by rw[Int.fdiv_eq_ediv_of_nonneg _ (natCast_nonneg d)];rfl
theorem tG{a b:Int}(h:b≠0):binI .fdiv a b=some (a.fdiv b):=if_neg h
theorem yi{sc:Int}(h:sc=1\/sc=600):0<sc/\sc.natAbs<2^10:=h.elim (λe=>e▸⟨by decide,by decide⟩) λe=>e▸⟨by decide,by decide⟩
noncomputable def yj(b:Int):Prop:=0<=b/\b<=42000
theorem GF{sc:Int}(gX:sc=1\/sc=600){k:Nat}(hk:k<=70):yj ((k:Int)*sc):=by
 rcases gX with e|e<;>subst e<;>exact⟨by lia,by lia⟩
noncomputable def Bf(k:Nat)(p:aG):Prop:=(∀j∈p.bS,j<k)/\p.aQ<=42000/\(∀d,p.bM=some d->p.aQ<=d/\d<=100000)/\∀x,p.ad=some x->p.aQ<=x.1/\x.1<=100000/\(∀d,p.bM=some d->x.1<d)/\x.2≠[]
noncomputable def lQ(ps:List aG):Prop:=∀(k:Nat) p,ps[k]?=some p->Bf k p
theorem p1(hk:k<20)(gX:sc=1\/sc=600)(h:∀b,yj b->aM ⟨aA n,Y⟩ rest (j2 c m lp sc lh k x (some (.int b)) o8 o9 o10) H K):aM ⟨aA n,Y⟩ (RH::rest) (j2 c m lp sc lh k x o7 o8 o9 o10) H K:=by
 refine(iy x (k:=11) (by decide)).elim λa ha=>?_
 have ea:x.fmod 11=(a:Int):=ha.1
 have hs:=yi gX
 have GG:k/3<7:=Nat.div_lt_of_lt_mul (lt_trans hk (by decide))
 have h3:Int.fdiv (k:Int) 3=_:=GD k 3
 refine fJ (gg (gg (gg (cj (gg (bY rfl (cj ?_)))))))
 refine e7 (tG (by decide)) (e7 (i7 (i:=3) (j:=10) (by decide) ?_ (by decide)) ?_)
 ·rw[h3];exact nq GG (by decide)
 refine gg (bY rfl (cj ?_))
 refine e7 (gv (by decide)) (e7 rfl (bY rfl (e7 (i7 (i:=10) (j:=10) ?_ hs.2 (by decide)) (ay rfl (h _ ?_)))))
 ·rw[h3,ea];exact nq (k:=5*(k/3)+a) (Nat.add_lt_add_of_le_of_lt (mul_le_mul_left 5 (le_of_lt GG)) ha.2) (by decide)
 ·rw[h3,ea];exact GF (k:=5*(k/3)+a) gX (by have:=ha.2;lia)
end
end Mine.L
namespace Mine.L
variable{Y:PQ}
open Mine.P PySem
theorem tH{t:Bool}{H:Hp}{T:Bool->Hp->Prop}(h:T t H):bx t (T true H) (T false H):=by
 cases t<;>exact h
section
variable{C:Ct}{ρ:aP}{H:Hp}{Q:PQ}{a i:E}
theorem nr{nl:Nat}{elt:E}{t:cN}{it:It}{cs:List E}(h:nQ C it ρ H λp H=>fE (ma p.1) (g7 p.2 H t (λρ H Q=>WT C.no cs ρ H Q) (λρ H Q=>WE C.no elt ρ H Q) p.1 (replicate nl none++ρ) H [] λvs H=>kC vs H Q)):WE C (.comp nl elt t it cs) ρ H Q:=h
end
theorem GH(es:List Nat)(lo hi:Option Int):gj (aV es) lo hi=aV (gj es lo hi):=by
 unfold gj
 rw[length_map,aV,<-List.map_take,<-List.map_drop]
theorem RQ{es:List Nat}{lo hi:Option Int}{j:Nat}(h:j∈gj es lo hi):j∈es:=List.mem_of_mem_take (List.mem_of_mem_drop h)
theorem RT(es:List Nat)(lo hi:Option Int):(gj es lo hi).length<=es.length:=by
 unfold gj
 rw[length_drop,length_take]
 exact le_trans (Nat.sub_le _ _) (min_le_right _ _)
section
variable{n:Nat}{c x sc b:Int}{m k lp lh le:Nat}{H:Hp}{K:Out->Prop}{rest:List S}{ps:List aG}{es:List Nat}{o7 o8 o9 o10:Option V}
theorem GI{l:Nat}{ls:List Nat}(h:H[l]?=some (.list (aV ls))):eD .iT (nv k) (.ref l) H=some (!decide (k∈ls)):=congrArg (Option.map (!·)) (Fy h)
theorem GJ{l:Nat}{p:aG}{i:Int}(hi:i=(k:Int))(h:H[l]?=some (.list (ps.map bv)))(hv:ps[k]?=some p):fh (.ref l) (.int i) H=some (bv p):=hi▸du h hv
noncomputable def jy(ps:List aG)(b:Int)(j:Nat):Bool:=(ps[j]?).elim false λp=>decide (p.aQ<b)
theorem GK{j:Nat}(h:jy ps b j=true):fT ps b j:=by
 unfold jy at h
 cases hp:ps[j]? with
 |none=>rw[hp] at h;cases h
 |some p=>rw[hp] at h;exact⟨p,hp,of_decide_eq_true h⟩
theorem p2(hk:k<20)(hl:ps.length=k)(hA:H[lp]?=some (.list (ps.map bv)))(h:∀es le H',(∀j∈es,fT ps b j)->es.length<=20->aC H H'->H'[le]?=some (.list (aV es))->aM ⟨aA n,Y⟩ rest (j2 c m lp sc lh k x (some (.int b)) (some (.ref le)) o9 o10) H' K):aM ⟨aA n,Y⟩ (RI::rest) (j2 c m lp sc lh k x (some (.int b)) o8 o9 o10) H K:=by
 refine fJ (nr (yf (cj (bY rfl (mq (lt_trans hk (by decide)) (cz (cF ?_) ?_))))))
 ·rw[length_map,length_range];exact lt_trans hk (by decide)
 refine gV (P:=jy ps b) (F:=nv) _ _ _ (λj hj T hT=>?_) (λj Z Z N hN=>hN) (ay rfl (h _ _ _ (λj hj=>GK (mem_filter.mp hj).2) ?_ (aC.aR _ _) (bj _ _)))
 ·have hj:=mem_range.mp hj
  rw[<-hl] at hj
  refine(at_of hj).elim λp hp=>?_
  apply ay (du hA hp)
  unfold jy at hT
  rw[hp] at hT
  exact tH (T:=T) hT
 ·exact le_trans (length_filter_le _ _) (le_trans (le_of_eq length_range) (le_of_lt hk))
theorem p3(hE:H[le]?=some (.list (aV es)))(tI:es.length<=20)(h:∀al H',(∀j∈al,j∈es)->hJ al->aC H H'->aM ⟨aA (n+1),Y⟩ rest (j2 c m lp sc lh k x o7 (some (.ref le)) (some (.aF (aV al))) o10) H' K):aM ⟨aA (n+1),Y⟩ (RJ::rest) (j2 c m lp sc lh k x o7 (some (.ref le)) o9 o10) H K:=by
 apply ay (b7 hE)
 refine cz (cF ?_) ?_
 ·rw[GH,length_map];exact lt_of_le_of_lt (le_trans (RT _ _ _) tI) (by decide)
 rw[GH]
 exact bP (yg (bj _ _) λal H' dH h2 Z x=>h al H' (λj hj=>RQ (dH j hj)) h2 ((aC.aR _ _).trans x))
theorem p4{al:List Nat}(hl:ps.length=k)(hA:H[lp]?=some (.list (ps.map bv)))(hE:H[le]?=some (.list (aV es)))(Bg:∀p∈ps,hJ p.bS)(dH:∀j∈al,j∈es)(mv:hJ al)(h:∀al H',(∀j∈al,j∈es)->hJ al->aC H H'->aM ⟨aA n,Y⟩ rest (j2 c m lp sc lh k x o7 (some (.ref le)) (some (.aF (aV al))) o10) H' K):aM ⟨aA n,Y⟩ (RK::rest) (j2 c m lp sc lh k x o7 (some (.ref le)) (some (.aF (aV al))) o10) H K:=by
 have no:=h al H dH mv (aC.refl H)
 refine(?_:bx (decide ((k:Int)>0)==true) _ _)
 refine fR (λh1=>?_) λh1=>gb h1 no
 refine(?_:bx (((x.fdiv 13).fmod 3==0)==true) _ _)
 refine fR (λh2=>?_) λh2=>gb h2 no
 have V6:0<k:=ofNat_lt.mp (of_decide_eq_true h1)
 have hi:(k:Int) - 1=((k - 1:Nat):Int):=by lia
 refine(at_of (show k - 1<ps.length by lia)).elim λp hp=>?_
 have h2:=Bg p (mem_of_getElem? hp)
 apply ay (GJ hi hA hp)
 refine cz (cF (by rw[length_map];exact lt_of_le_of_lt h2.1 (by decide))) ?_
 refine gV (P:=λj=>!decide (j∈es)) (F:=nv) _ _ _ (λj hj T hT=>?_) (λj Z Z N hN=>hN) ?_
 ·apply ay (GI hE)
  exact tH (T:=T) hT
 ·apply ay (eq_nil (be _ (bj _ _)) (m9 _ _) (bj _ _))
  rw[isEmpty_map]
  have xx:∀a b:List aZ,aC H (H++a++b):=λa b=>(aC.aR _ _).trans (aC.aR _ _)
  refine ck (λh3=>?_) λh3=>h al _ dH mv (xx _ _)
  apply ay (GJ hi (xx _ _ _ _ hA) hp)
  refine h p.bS _ (λj hj=>?_) h2 (xx _ _)
  have:=List.filter_eq_nil_iff.mp (isEmpty_iff.mp h3) j hj
  exact Decidable.not_not.mp λhn=>this (by rw[decide_eq_false hn];rfl)
end
end Mine.L
namespace Mine.L
variable{Y:PQ}
open Mine.P PySem
noncomputable def pY(sc:Int)(i:Nat)(b:Int):Prop:=12*((i/2:Nat):Int)*sc<=b/\b<=(12*((i/2:Nat):Int)+10)*sc
theorem RU{sc:Int}(gX:sc=1\/sc=600){i j:Nat}(h:j/2<i/2){b b':Int}(hi:pY sc i b)(hj:pY sc j b'):b'<b:=
 Int.lt_of_le_of_lt hj.2 (Int.lt_of_lt_of_le (Int.mul_lt_mul_of_pos_right (ofNat_lt.mpr (show 12*(j/2)+10<12*(i/2) from lt_of_lt_of_le (Nat.add_lt_add_left (show 10<12 by decide) _) (mul_le_mul_left 12 h))) (yi gX).1) hi.1)
theorem RV:∀{k:Nat},k<12->∃ls,GC[k]?=some ls/\(ls.length<=2/\ls.Nodup)/\∀j∈ls,j<k/\j/2<k/2:=by decide +kernel
section
variable{n:Nat}{c x sc b:Int}{m k lp lh le:Nat}{H:Hp}{K:Out->Prop}{rest:List S}{ps:List aG}{es:List Nat}{o7 o8 o9 o10:Option V}
theorem p5{al:List Nat}(hk:k<20)(gX:sc=1\/sc=600)(hl:ps.length=k)(hH:H[lh]?=some (.list yh))(dH:∀j∈al,fT ps b j)(mv:hJ al)(pZ:yj b)(hI:((c.fdiv 4).fmod 3==0)=true->∀i p,i<12->ps[i]?=some p->pY sc i p.aQ)
  (h:∀b al,(∀j∈al,fT ps b j)->hJ al->yj b->(((c.fdiv 4).fmod 3==0)=true->k<12->pY sc k b)->aM ⟨aA n,Y⟩ rest (j2 c m lp sc lh k x (some (.int b)) o8 (some (.aF (aV al))) o10) H K):aM ⟨aA n,Y⟩ (RL::rest) (j2 c m lp sc lh k x (some (.int b)) o8 (some (.aF (aV al))) o10) H K:=by
 refine(?_:bx (((c.fdiv 4).fmod 3==0)==true) _ _)
 refine fR (λh1=>?_) λh1=>gb h1 (h b al dH mv pZ λq=>absurd (h1.symm.trans q) (by decide))
 refine(?_:bx (decide ((k:Int)<12)) _ _)
 refine ck (λhk=>?_) λhk=>h b al dH mv pZ λZ q=>absurd (show(k:Int)<12 from ofNat_lt.mpr q) (of_decide_eq_false hk)
 have hk:k<12:=ofNat_lt.mp (of_decide_eq_true hk)
 refine(iy x (k:=11) (by decide)).elim λa ha=>?_
 have ea:x.fmod 11=(a:Int):=ha.1
 have h3:Int.fdiv (k:Int) 2=_:=GD k 2
 have GL:k/2<6:=Nat.div_lt_of_lt_mul hk
 refine(RV hk).elim λls kQ=>?_
 have hs:=yi gX
 refine fJ (gg (gg (gg (cj (gg (bY rfl (cj ?_)))))))
 refine e7 (tG (by decide)) (e7 (i7 (i:=4) (j:=10) (by decide) ?_ (by decide)) ?_)
 ·rw[h3];exact nq GL (by decide)
 refine gg (bY rfl (cj ?_))
 refine e7 (gv (by decide)) (e7 rfl (bY rfl (e7 (i7 (i:=10) (j:=10) ?_ hs.2 (by decide)) (ay rfl ?_))))
 ·rw[h3,ea];exact nq (k:=12*(k/2)+a) (Nat.add_lt_add_of_le_of_lt (mul_le_mul_left 12 (le_of_lt GL)) ha.2) (by decide)
 apply ay (gH (v:=.aF (aV ls)) hH (by unfold yh;rw[getElem?_map,kQ.1];rfl))
 have hb:pY sc k ((12*Int.fdiv (k:Int) 2+x.fmod 11)*sc):=by
  rw[h3,ea]
  exact⟨Int.mul_le_mul_of_nonneg_right (Int.le_add_of_nonneg_right (natCast_nonneg _)) (Int.le_of_lt hs.1),Int.mul_le_mul_of_nonneg_right (Int.add_le_add_left (ofNat_le.mpr (le_of_lt_succ ha.2)) _) (Int.le_of_lt hs.1)⟩
 refine h _ ls (λj hj=>?_) kQ.2.1 (by rw[h3,ea];exact GF (k:=12*(k/2)+a) gX (by have:=ha.2;lia)) λZ Z=>hb
 have hj:=kQ.2.2 j hj
 refine(at_of (show j<ps.length from hl▸hj.1)).elim λp hp=>⟨p,hp,RU gX hj.2 hb (hI h1 j p (lt_trans hj.1 hk) hp)⟩
theorem p7(gX:sc=1\/sc=600)(h:∀(di:Option Int) H',(∀d,di=some d->b<=d/\d<=b+23400)->aC H H'->aM ⟨aA n,Y⟩ rest (j2 c m lp sc lh k x (some (.int b)) o8 o9 (some (g9 di))) H' K):aM ⟨aA n,Y⟩ (RM::RN::rest) (j2 c m lp sc lh k x (some (.int b)) o8 o9 o10) H K:=by
 refine(iy (x.fdiv 1500) (k:=40) (by decide)).elim λa ha=>?_
 have RW:((x.fdiv 1500).fmod 40).natAbs<2^10:=by rw[show(x.fdiv 1500).fmod 40=(a:Int) from ha.1];exact nq ha.2 (by decide)
 have z6:=(yi gX).2
 have hs:∃z:Int,fh (.ref H.length) (.int ((c.fdiv 12).fmod 2)) (H++[.list [.int 4,.int 9]])=some (.int z)/\z≠0:=
  mod2 (c.fdiv 12) (P:=λi=>∃z:Int,fh (.ref H.length) (.int i) (H++[.list [.int 4,.int 9]])=some (.int z)/\z≠0) ⟨4,gH (bj _ _) rfl,by decide⟩ ⟨9,gH (bj _ _) rfl,by decide⟩
 refine hs.elim λz hz=>?_
 apply ay hz.1
 apply ay (gv hz.2)
 refine(?_:bx (decide ((x.fdiv 500).fmod z>0)) _ _)
 refine ck (λZ=>?_) λZ=>h none _ (λZ h=>nomatch h) (aC.aR _ _)
 refine fJ (gg (bY rfl (gg (gg (gg (bY rfl (cj ?_)))))))
 refine e7 (tG (by decide)) (cj (e7 (gv (by decide)) (bY rfl (e7 (i7 (i:=10) (j:=10) RW z6 (by decide)) (e7 rfl (ay rfl ?_))))))
 refine h (some _) _ (λd hd=>?_) (aC.aR _ _)
 cases hd
 rw[show(x.fdiv 1500).fmod 40=(a:Int) from ha.1]
 have:=ha.2
 rcases gX with e|e<;>subst e<;>exact⟨by lia,by lia⟩
theorem p8{al:List Nat}{di:Option Int}(hl:ps.length<=20)(hA:H[lp]?=some (.list (ps.map bv)))(h:∀H',bu lp H H'->H'[lp]?=some (.list ((ps++[(⟨b,al,none,di⟩:aG)]).map bv))->K (.next (j2 c m lp sc lh k x (some (.int b)) o8 (some (.aF (aV al))) (some (g9 di))) H')):aM ⟨aA n,Y⟩ [RP] (j2 c m lp sc lh k x (some (.int b)) o8 (some (.aF (aV al))) (some (g9 di))) H K:=
 fS hA (f9 hA (by rw[length_map];exact lt_of_le_of_lt hl (by decide)) (h _ (bu.set _ _ _) (by rw[map_append];exact dN hA _)))
end
end Mine.L
namespace Mine.L
variable{Y:PQ}
open Mine.P PySem
noncomputable def en:Nat->List Int->List (Nat×Int)
 |_,[]=>[]
 |k,x::r=>(k,x)::en (k+1) r
noncomputable abbrev Bh(p:Nat×Int):V:=.aF [nv p.1,.int p.2]
theorem yk:∀(k:Nat) (xs:List Int),pf k (xs.map V.int)=(en k xs).map Bh
 |_,[]=>rfl
 |k,x::r=>congrArg (Bh (k,x)::·) (yk (k+1) r)
theorem fT.aR{ps:List aG}{b:Int}{j:Nat}(t:List aG)(h:fT ps b j):fT (ps++t) b j:=h.elim λq hq=>⟨q,by rw[getElem?_append_left (List.getElem?_eq_some_iff.mp hq.1).1];exact hq.1,hq.2⟩
theorem kK.aR{ps:List aG}{p:aG}(t:List aG)(h:kK ps p):kK (ps++t) p:=h _ λa b c d z=>(.mk (λj hj=>(a j hj).aR t) (λx hx j hj=>(b x hx j hj).aR t) c d z)
theorem yl{α:Type}{ps:List α}{p:α}{P:Nat->α->Prop}(h:∀(i:Nat) q,ps[i]?=some q->P i q)(hp:P ps.length p):∀(i:Nat) q,(ps++[p])[i]?=some q->P i q:=by
 intro i q hq
 rcases Nat.lt_trichotomy i ps.length with hi|hi|hi
 ·rw[getElem?_append_left hi] at hq;exact h i q hq
 ·subst hi
  rw[List.getElem?_concat_length] at hq
  cases hq;exact hp
 ·rw[getElem?_eq_none (by rw[length_append];exact hi)] at hq;cases hq
noncomputable def Bj(c:Int)(m lp:Nat)(sc:Int)(lh:Nat)(H₁:Hp)(as:List (Nat×Int))(ρ:aP)(H':Hp):Prop:=∀PeIζ:Prop,(∀(o5 o6 o7 o8 o9 o10:Option V) (xs:List Int) (ps:List aG) (e:ρ=[some (.int c),some (nv m),some (.ref lp),some (.int sc),some (.ref lh),o5,o6,o7,o8,o9,o10]) (x:bu lp H₁ H') (a:H'[lp]?=some (.list (ps.map bv))) (ea:as=en ps.length xs) (len:ps.length+xs.length=m) (wf:cL ps) (rp:lQ ps) (hI:((c.fdiv 4).fmod 3==0)=true->∀(i:Nat) p,i<12->ps[i]?=some p->pY sc i p.aQ),PeIζ)->PeIζ
theorem Bj.mk{c:Int}{m lp:Nat}{sc:Int}{lh:Nat}{H₁:Hp}{as:List (Nat×Int)}{ρ:aP}{H':Hp}(o5 o6 o7 o8 o9 o10:Option V)(xs:List Int)(ps:List aG)(e:ρ=[some (.int c),some (nv m),some (.ref lp),some (.int sc),some (.ref lh),o5,o6,o7,o8,o9,o10])(x:bu lp H₁ H')(a:H'[lp]?=some (.list (ps.map bv)))(ea:as=en ps.length xs)(len:ps.length+xs.length=m)(wf:cL ps)(rp:lQ ps)(hI:((c.fdiv 4).fmod 3==0)=true->∀(i:Nat) p,i<12->ps[i]?=some p->pY sc i p.aQ):Bj c m lp sc lh H₁ as ρ H':=λZ bZ=>bZ o5 o6 o7 o8 o9 o10 xs ps e x a ea len wf rp hI
section
variable{n:Nat}{c:Int}{m:Nat}{H:Hp}{Q:PQ}
theorem RX(c:Int):∃sc:Int,fh (.ref (H++[aZ.list []]).length) (.int (c.fmod 4)) (H++[aZ.list []]++[.list [.int 1,.int 1,.int 1,.int 600]])=some (.int sc)/\(sc=1\/sc=600):=by
 have h4:=nk c (b:=4) (by decide)
 have:c.fmod 4=((0:Nat):Int)\/c.fmod 4=((1:Nat):Int)\/c.fmod 4=((2:Nat):Int)\/c.fmod 4=((3:Nat):Int):=by lia
 rcases this with h|h|h|h<;>rw[h]
 ·exact⟨1,gH (bj _ _) rfl,.inl rfl⟩
 ·exact⟨1,gH (bj _ _) rfl,.inl rfl⟩
 ·exact⟨1,gH (bj _ _) rfl,.inl rfl⟩
 ·exact⟨600,gH (bj _ _) rfl,.inr rfl⟩
theorem RY(hm:m<=20)(q:∀lp H' ps,ps.length=m->cL ps->lQ ps->aC H H'->H.length<=lp->H'[lp]?=some (.list (ps.map bv))->Q (.ref lp) H'):aA (n+2) y7 [.int c,nv m] H Q Y:=PM (by
 refine(RX (H:=H) c).elim λsc gX=>?_
 apply ay gX.1
 have gX:=gX.2
 refine bP (tF (n:=n) (le_trans hm (by decide)) λls H₂ xs rJ Bk kQ b6 ax=>?_)
 have a0:=be [aZ.list yh] (be [.list [.int 1,.int 1,.int 1,.int 600]] (bj H (.list [])))
 have hh:=bj (H++[aZ.list []]++[.list [.int 1,.int 1,.int 1,.int 600]]) (.list yh)
 have l1:H.length<(H++[aZ.list []]++[aZ.list [.int 1,.int 1,.int 1,.int 600]]).length:=cu (be _ (bj _ _))
 have l2:H.length<ls:=lt_of_lt_of_le (cu a0) kQ
 apply ay (b7 ax)
 rw[yk]
 refine ft (Bj c m H.length sc (H++[aZ.list []]++[aZ.list [.int 1,.int 1,.int 1,.int 600]]).length H₂) (λkx as ρ H' h=>?_) (λρ H' h=>?_) _ _ _ (.mk none none none none none none xs [] rfl (bu.refl _ _) (b6 _ _ a0) rfl (by rw[length_nil,zero_add];exact rJ) (λk p h=>(nomatch h)) (λk p h=>(nomatch h)) (λZ i p Z h=>(nomatch h)))
 ·refine h _ λo5 o6 o7 o8 o9 o10 jt ps e x a ea len wf rp hI=>?_
  subst e
  cases jt with
  |nil=>cases ea
  |cons xx jt=>
   have ek:kx=(ps.length,xx):=(List.cons.inj ea).1
   have eas:as=en (ps.length+1) jt:=(List.cons.inj ea).2
   subst ek
   rw[length_cons] at len
   have hk:ps.length<20:=by lia
   refine λN hN=>?_
   have st:∀{H''},bu H.length H₂ H''->eF [ls] H₂ H''=true:=λx=>c9 ax (x _ _ (ne_of_gt l2) ax)
   refine p1 hk gX λb pZ=>p2 hk rfl a λes le H₃ tI RZ cw jT=>p3 (n:=n) jT RZ λal H₄ dH mv dQ=>p4 rfl ((cw.trans dQ) _ _ a) (dQ _ _ jT) (λp hp=>(getElem?_of_mem hp).elim λi hi=>(wf i p hi) _ λZ Z c Z Z=>c) dH mv λal H₅ dH mv gq=>?_
   have xh:=(cw.trans dQ).trans gq
   refine p5 hk gX rfl (xh _ _ (x _ _ (ne_of_gt l1) (b6 _ _ hh))) (λj hj=>tI j (dH j hj)) mv pZ hI λb al dH mv pZ hb=>p7 gX λdi H₆ GN fu=>p8 (le_of_lt hk) ((xh.trans fu) _ _ a) λH₇ vk R4=>?_
   have x8:=x.trans (((xh.trans fu).b _).trans vk)
   exact hN _ _ (st x8) (.mk _ _ _ _ _ _ jt (ps++[(⟨b,al,none,di⟩:aG)]) rfl x8 R4 (by rw[length_append];exact eas) (by rw[length_append,<-len];exact(add_assoc _ 1 _).trans (by rw[add_comm 1])) (yl (P:=λ_ (p:aG)=>kK (ps++[(⟨b,al,none,di⟩:aG)]) p) (λi q hq=>(wf i q hq).aR _) (.mk (λj hj=>(dH j hj).aR _) (λx hx=>(by cases hx)) mv (λx hx=>(by cases hx)) pZ.1)) (yl (P:=Bf) rp ⟨λj hj=>(dH j hj).elim λq hq=>(List.getElem?_eq_some_iff.mp hq.1).1,pZ.2,λd hd=>⟨(GN d hd).1,by have:=(GN d hd).2;have:=pZ.2;lia⟩,λx hx=>(by cases hx)⟩) (λh i p hi hp=>yl (P:=λi (p:aG)=>i<12->pY sc i p.aQ) (λi p hp hi=>hI h i p hi hp) (hb h) i p hp hi))
 ·refine h _ λo5 o6 o7 o8 o9 o10 jt ps e x a ea len wf rp hI=>?_
  subst e
  cases jt with
  |nil=>exact q _ _ ps len wf rp (x.ext (((aC.aR _ _).trans ((aC.aR _ _).trans (aC.aR _ _))).trans b6) (le_refl _)) (le_refl _) a
  |cons _ _=>cases ea)
end
end Mine.L
namespace Mine.L
variable{Y:PQ}
open Mine.P PySem
noncomputable def ym(ps d0:List aG):Prop:=d0.length=ps.length/\∀(i:Nat) p',d0[i]?=some p'->(kK ps p'/\Bf i p')/\∃p,ps[i]?=some p/\p'.aQ=p.aQ
theorem ym.wf{ps d0:List aG}(h:ym ps d0):cL d0:=by
 have up:∀{b j},fT ps b j->fT d0 b j:=λ{b j} ho=>ho.elim λq hq=>(at_of (show j<d0.length by rw[h.1];exact(List.getElem?_eq_some_iff.mp hq.1).1)).elim λp' dO=>(h.2 j p' dO).2.elim λp hp=>by
  rw[hp.1] at hq
  exact⟨p',dO,by rw[hp.2];cases hq.1;exact hq.2⟩
 exact λk p' dO=>(h.2 k p' dO).1.1 _ λa b c d z=>(.mk (λj hj=>up (a j hj)) (λx hx j hj=>up (b x hx j hj)) c d z)
noncomputable def Bm(ps:List aG)(c:Int)(l la:Nat)(H₁:Hp)(as:List (Nat×Int))(ρ:aP)(H':Hp):Prop:=∀AdIζ:Prop,(∀(o3 o4 o5 o6 o7 o8 o9 o10:Option V) (k:Nat) (xs:List Int) (d0:List aG) (e:ρ=[some (.ref l),some (.int c),some (.ref la),o3,o4,o5,o6,o7,o8,o9,o10]) (x:bu la H₁ H') (a:H'[la]?=some (.list (d0.map bv))) (ea:as=en k xs) (len:k+xs.length=ps.length) (ad:ym ps d0),AdIζ)->AdIζ
theorem Bm.mk{ps:List aG}{c:Int}{l la:Nat}{H₁:Hp}{as:List (Nat×Int)}{ρ:aP}{H':Hp}(o3 o4 o5 o6 o7 o8 o9 o10:Option V)(k:Nat)(xs:List Int)(d0:List aG)(e:ρ=[some (.ref l),some (.int c),some (.ref la),o3,o4,o5,o6,o7,o8,o9,o10])(x:bu la H₁ H')(a:H'[la]?=some (.list (d0.map bv)))(ea:as=en k xs)(len:k+xs.length=ps.length)(ad:ym ps d0):Bm ps c l la H₁ as ρ H':=λZ bZ=>bZ o3 o4 o5 o6 o7 o8 o9 o10 k xs d0 e x a ea len ad
section
variable{n:Nat}{c:Int}{l:Nat}{H:Hp}{Q:PQ}
theorem mm{vs:List V}(h:H[l]?=some (.list vs)):copyOf H (.ref l)=some vs:=by
 refine(?_:(match H[l]?.bind gQ with|some es=>_|none=>dt H (.ref l))=_)
 rw[h];exact b7 h
theorem Bo{vs:List V}{k:Nat}{v:V}{K:Hp->Prop}(h:H[l]?=some (.list vs))(hk:k<vs.length)(q:K (H.set l (.list (vs.set k v)))):oZ (.ref l) (nv k) v H K:=ay h (And.intro ⟨natCast_nonneg k,ofNat_lt.mpr hk⟩ q)
theorem R5{ps:List aG}(hA:H[l]?=some (.list (ps.map bv)))(hW:cL ps)(hl:ps.length<=20)(hR:lQ ps)(q:∀la H' d0,d0.length=ps.length->cL d0->lQ d0->aC H H'->H.length<=la->H'[la]?=some (.list (d0.map bv))->Q (.ref la) H'):aA (n+2) y8 [.ref l,.int c] H Q Y:=PN (by
 apply ay (mm hA)
 refine cz (cF (by rw[length_map];exact lt_of_le_of_lt hl (by decide))) ?_
 apply ay (b7 (be _ hA))
 rw[length_map]
 refine bP (tF (n:=n) (le_trans hl (by decide)) λls H₂ xs rJ Bk kQ b6 ax=>?_)
 have a0:=bj H (.list (ps.map bv))
 have l2:H.length<ls:=lt_of_lt_of_le (cu a0) kQ
 apply ay (b7 ax)
 rw[yk]
 refine ft (Bm ps c l H.length H₂) (λkx as ρ H' h=>?_) (λρ H' h=>?_) _ _ _ (.mk none none none none none none none none 0 xs ps rfl (bu.refl _ _) (b6 _ _ a0) rfl (by rw[zero_add];exact rJ) ⟨rfl,λi p hp=>⟨⟨hW i p hp,hR i p hp⟩,p,hp,rfl⟩⟩)
 ·refine h _ λo3 o4 o5 o6 o7 o8 o9 o10 k jt d0 e x a ea len ad=>?_
  subst e
  cases jt with
  |nil=>cases ea
  |cons xx jt=>
   have ek:kx=(k,xx):=(List.cons.inj ea).1
   have eas:as=en (k+1) jt:=(List.cons.inj ea).2
   subst ek
   rw[length_cons] at len
   have hk:k<ps.length:=by lia
   refine λN hN=>?_
   have xH:aC H H':=x.ext ((aC.aR _ _).trans b6) (le_refl _)
   have st:∀{H''},bu H.length H₂ H''->eF [ls] H₂ H''=true:=λx=>c9 ax (x _ _ (ne_of_gt l2) ax)
   refine(at_of hk).elim λp hp=>?_
   have iK:=xH _ _ hA
   apply ay (du iK hp)
   apply ay (b7 iK)
   rw[length_map]
   refine mq (lt_of_le_of_lt hl (by decide)) (cz (cF (by rw[length_map,length_range];exact lt_of_le_of_lt hl (by decide))) ?_)
   refine gV (P:=jy ps p.aQ) (F:=nv) _ _ _ (λj hj T hT=>?_) (λj Z Z N hN=>hN) ?_
   ·refine(at_of (mem_range.mp hj)).elim λpj vt=>?_
    apply ay (du iK vt)
    unfold jy at hT
    rw[vt] at hT
    exact tH (T:=T) hT
   ·have tI:∀j∈(List.range ps.length).filter (jy ps p.aQ),fT ps p.aQ j:=λj hj=>GK (mem_filter.mp hj).2
    have ae:=bj H' (.list (aV ((List.range ps.length).filter (jy ps p.aQ))))
    generalize (List.range ps.length).filter (jy ps p.aQ)=es at tI ae
    have no:∀{H''} {o3 o4 o5 o6 o7 o8 o9 o10},aC H' H''->N [some (.ref l),some (.int c),some (.ref H.length),o3,o4,o5,o6,o7,o8,o9,o10] H'':=λx'=>hN _ _ (st (x.trans (x'.b _))) (.mk _ _ _ _ _ _ _ _ (k+1) jt d0 rfl (x.trans (x'.b _)) (x' _ _ a) eas (by lia) ad)
    have fin:∀{al H₃} {o3 o4 o5 o6 o7 o8 o9 o10},(∀j∈al,j∈es)->hJ al->al≠[]->(∀d,p.bM=some d->p.aQ+xx.fmod 30<d)->aC H' H₃->oZ (.ref H.length) (nv k) (.aF [.int p.aQ,.aF (aV p.bS),.aF [.int (p.aQ+xx.fmod 30),.aF (aV al)],g9 p.bM]) H₃ (λH₄=>N [some (.ref l),some (.int c),some (.ref H.length),o3,o4,o5,o6,o7,o8,o9,o10] H₄):=λ{al H₃ _ _ _ _ _ _ _ _} dH h2 cT cO cw=>by
     have u4:k<d0.length:=by rw[ad.1];exact hk
     refine Bo (cw _ _ a) (by rw[length_map];exact u4) ?_
     have x4:=x.trans ((cw.b _).trans (bu.set H.length H₃ (.list ((d0.map bv).set k (.aF [.int p.aQ,.aF (aV p.bS),.aF [.int (p.aQ+xx.fmod 30),.aF (aV al)],g9 p.bM])))))
     refine hN _ _ (st x4) (.mk _ _ _ _ _ _ _ _ (k+1) jt (d0.set k ⟨p.aQ,p.bS,some (p.aQ+xx.fmod 30,al),p.bM⟩) rfl x4 (?_) eas (by lia) ⟨by rw[length_set];exact ad.1,λi p' dO=>?_⟩)
     ·rw[map_set];exact dN (cw _ _ a) _
     ·by_cases GO:k=i
      ·subst GO
       rw[getElem?_set_self u4] at dO
       cases dO
       exact⟨⟨(hW k p hp) _ λa' b' c' d' z'=>(.mk a' (λy hy j hj=>by cases hy;exact tI j (dH j hj)) c' (λy hy=>by cases hy;exact h2) z'),(hR k p hp).1,(hR k p hp).2.1,(hR k p hp).2.2.1,λy hy=>by
        cases hy
        have R6:=nk xx (b:=30) (by decide)
        have:=(hR k p hp).2.1
        exact⟨by refine(?_:p.aQ<=p.aQ+xx.fmod 30);lia,by refine(?_:p.aQ+xx.fmod 30<=100000);lia,cO,cT⟩⟩,p,hp,rfl⟩
      ·rw[getElem?_set_ne GO] at dO
       exact ad.2 i p' dO
    refine(?_:bx (((xx.fdiv 30).fmod 4==0)==true) _ _)
    refine fR (λh1=>?_) λh1=>gb h1 (no (aC.aR _ _))
    apply ay (ne_nil (be _ ae) (m9 _ _) (bj _ _))
    rw[isEmpty_map]
    have Bp:∀a b:List aZ,aC H' (H'++a++b):=λa b=>(aC.aR _ _).trans (aC.aR _ _)
    refine fR (λh2=>?_) λh2=>gb h2 (no (Bp _ _))
    have R7:es≠[]:=λe=>by rw[e] at h2;cases h2
    have sm:(∀d,p.bM=some d->p.aQ+xx.fmod 30<d)->∀(al:List Nat) (H₃:Hp),(∀j∈al,j∈es)->hJ al->(al=[]->es=[]\/(1:Int)=0)->aC (H'++[.list (aV es)]++[.list []]) H₃->_:=λcO al H₃ dH h2 hz cw=>fin (o3:=some (nv k)) (o4:=some (.int xx)) (o5:=some (.int p.aQ)) (o6:=some (.aF (aV p.bS))) (o7:=some (mY p.ad)) (o8:=some (g9 p.bM)) (o9:=some (.ref H'.length)) (o10:=some (.int (p.aQ+xx.fmod 30))) dH h2 (λe=>(hz e).elim R7 (by decide)) cO ((Bp _ _).trans cw)
    have Bq:=no (o3:=some (nv k)) (o4:=some (.int xx)) (o5:=some (.int p.aQ)) (o6:=some (.aF (aV p.bS))) (o7:=some (mY p.ad)) (o8:=some (g9 p.bM)) (o9:=some (.ref H'.length)) (o10:=some (.int (p.aQ+xx.fmod 30))) (Bp [.list (aV es)] [.list []])
    revert sm Bq
    cases hd:p.bM with
    |none=>exact λsm Z=>bP (yg (be _ ae) (sm λZ h=>nomatch h))
    |some e=>
     intro sm Bq
     refine(?_:bx (decide (p.aQ+xx.fmod 30<e)) _ _)
     exact ck (λcO=>bP (yg (be _ ae) (sm λd hd=>by cases hd;exact of_decide_eq_true cO))) λZ=>Bq
 ·refine h _ λo3 o4 o5 o6 o7 o8 o9 o10 k jt d0 e x a ea len ad=>?_
  subst e
  exact q _ _ d0 ad.1 ad.wf (λi p' dO=>(ad.2 i p' dO).1.2) (x.ext ((aC.aR _ _).trans b6) (le_refl _)) (le_refl _) a)
end
end Mine.L
namespace Mine.L
variable{Y:PQ}
open Mine.P PySem
section
variable{n:Nat}{c:Int}{l:Nat}{H:Hp}{Q:PQ}
theorem R8{C:Ct}{ρ:aP}{R:List V×List Nat->Hp->Prop}{a b z:V}{j:Nat}(h:ρ[j]?.join=some (.aF [a,b,z]))(q:R ([a,b],[]) H):nQ C (.of (.ii (.J j) none (some (.k (.int 2))))) ρ H R:=ay h q
theorem all_ints:∀{vs:List V},(∀v∈vs,∃i,v=.int i)->∃is,allInts vs=some is
 |[],_=>⟨[],rfl⟩
 |v::r,h=>(h v mem_cons_self).elim λi hi=>(all_ints λv hv=>h v (.tail _ hv)).elim λis rK=>⟨i::is,by
   rw[hi]
   refine(?_:(allInts r).map (i::·)=_)
   rw[rK];rfl⟩
noncomputable def gx(ps:List aG)(j:Nat):Bool:=(ps[j]?).elim false λp=>p.bM.isSome
noncomputable def jb(ps:List aG)(j:Nat):V:=(ps[j]?).elim .none λp=>g9 p.bM
noncomputable def dD(ps:List aG)(j:Nat):Option Int:=ps[j]?.bind (·.bM)
noncomputable def jz(D:Int):Option Int->Option Int->Int
 |none,none=>D
 |some x,none=>x
 |none,some y=>y
 |some x,some y=>min x y
theorem GP{ps:List aG}{a b:Nat}(ha:a<ps.length)(hb:b<ps.length):∃is,allInts (([a,b].filter (gx ps)).map (jb ps))=some is/\∀D,minOf is D=jz D (dD ps a) (dD ps b):=(at_of ha).elim λp hp=>(at_of hb).elim λp' dO=>by
 have e1:gx ps a=p.bM.isSome:=by unfold gx;rw[hp];rfl
 have e2:gx ps b=p'.bM.isSome:=by unfold gx;rw[dO];rfl
 have v1:jb ps a=g9 p.bM:=by unfold jb;rw[hp];rfl
 have v2:jb ps b=g9 p'.bM:=by unfold jb;rw[dO];rfl
 rw[filter_cons,filter_cons,e1,e2,filter_nil,show dD ps a=p.bM by unfold dD;rw[hp];rfl,show dD ps b=p'.bM by unfold dD;rw[dO];rfl]
 revert v1 v2
 generalize p.bM=o1
 generalize p'.bM=o2
 intro v1 v2
 cases o1 with
 |none=>
  cases o2 with
  |none=>exact⟨[],rfl,λZ=>rfl⟩
  |some y=>exact⟨[y],(by refine(?_:allInts [jb ps b]=_);rw[v2];rfl),λZ=>rfl⟩
 |some x=>
  cases o2 with
  |none=>exact⟨[x],(by refine(?_:allInts [jb ps a]=_);rw[v1];rfl),λZ=>rfl⟩
  |some y=>exact⟨[x,y],(by refine(?_:allInts [jb ps a,jb ps b]=_);rw[v1,v2];rfl),λZ=>rfl⟩
theorem GQ{C:Ct}{dz:aP}{ps:List aG}{ws:List Nat}{a b:Nat}{o:Option V}{test:aP->Hp->(Bool->Hp->Prop)->Prop}{elt:aP->Hp->PQ->Prop}{R:List V->Hp->Prop}(ha:a<ps.length)(hb:b<ps.length)(ht:∀(j:Nat) p (T:Bool->Hp->Prop),ps[j]?=some p->T p.bM.isSome H->test (some (nv j)::dz) H T)(he:∀(j:Nat) p (N:PQ),ps[j]?=some p->N (g9 p.bM) H->elt (some (nv j)::dz) H N)(q:R ([]++([a,b].filter (gx ps)).map (jb ps)) H):g7 ws H (.J 0) test elt [nv a,nv b] (o::dz) H [] R:=by
 have ml:∀j∈[a,b],j<ps.length:=λj hj=>(mem_cons.mp hj).elim (λe=>e▸ha) λh=>by rw[mem_singleton.mp h];exact hb
 refine gV (g:=nv) (P:=gx ps) (F:=jb ps) [a,b] _ _ (λj hj T hT=>?_) (λj hj Z N hN=>?_) q
 ·refine(at_of (ml j hj)).elim λp hp=>ht j p T hp ?_
  unfold gx at hT
  rw[hp] at hT
  exact hT
 ·refine(at_of (ml j hj)).elim λp hp=>he j p N hp ?_
  unfold jb at hN
  rw[hp] at hN
  exact hN
theorem GR{ps:List aG}{a b:Nat}{z:V}(hA:H[l]?=some (.list (ps.map bv)))(ha:a<ps.length)(hb:b<ps.length)(q:∀H',aC H H'->Q (.int (jz (10^9) (dD ps a) (dD ps b))) H'):aA (n+1) vY [.ref l,.aF [nv a,nv b,z]] H Q Y:=PP (by
 unfold zh
 refine fJ (nr (R8 (j:=1) rfl (cz (cF (show 2<16000000 by decide)) ?_)))
 refine GQ (C:=⟨aA n,xq Y⟩) ha hb (λj p T hp hT=>?_) (λj p N hp hN=>?_) ?_
 ·apply ay (du hA hp)
  unfold bv
  cases hd:p.bM with
  |none=>rw[hd] at hT;exact hT
  |some d=>rw[hd] at hT;exact hT
 ·apply ay (du hA hp)
  exact hN
 ·refine(GP ha hb).elim λis rK=>?_
  have e:jO (H++[.list ([]++([a,b].filter (gx ps)).map (jb ps))]) (.ref H.length)=some is:=by
   refine(?_:(dt _ (.ref H.length)).bind allInts=_)
   rw[b7 (bj _ _)];exact rK.1
  apply ay e
  have q:=q _ (aC.aR H [.list ([]++([a,b].filter (gx ps)).map (jb ps))])
  rw[<-rK.2] at q
  exact q)
noncomputable def Br(ps:List aG)(w u:dP):Bool:=decide (jz (10^9) (dD ps w.a) (dD ps w.b)>u.day)&&decide (jz (10^9) (dD ps u.a) (dD ps u.b)>w.day)
theorem R9{ps:List aG}{a b a' b':Nat}{d d':Int}(hA:H[l]?=some (.list (ps.map bv)))(ha:a<ps.length)(hb:b<ps.length)(qW:a'<ps.length)(ju:b'<ps.length)(q:∀H',aC H H'->Q (.bool (Br ps ⟨a,b,d⟩ ⟨a',b',d'⟩)) H'):aA (n+2) se [.ref l,.aF [nv a,nv b,.int d],.aF [nv a',nv b',.int d']] H Q Y:=PR (by
 refine bP (GR hA ha hb λH₁ vu=>?_)
 have q:∀H',aC H H'->Q (.bool (decide (jz (10^9) (dD ps a) (dD ps b)>d')&&decide (jz (10^9) (dD ps a') (dD ps b')>d))) H':=q
 refine(?_:bx (decide (jz (10^9) (dD ps a) (dD ps b)>d')==true) _ _)
 refine fR (λh1=>?_) λh1=>?_
 ·rw[h1] at q
  exact bP (GR (vu _ _ hA) qW ju λH₂ b6=>q _ (vu.trans b6))
 ·have q:=q _ vu
  rw[h1] at q
  refine(?_:Q (.bool (decide (jz (10^9) (dD ps a) (dD ps b)>d'))) H₁)
  rw[h1];exact q)
end
end Mine.L
namespace Mine.L
variable{Y:PQ}
open Mine.P PySem
noncomputable abbrev Sa:S:=.aN (.J 5) (.bin .mod (.J 4) (.bi .len [.J 0]))
noncomputable abbrev Sb:S:=.aN (.J 6) (.bin .mod (.bin .fdiv (.J 4) (.k (.int 60))) (.bi .len [.J 0]))
noncomputable abbrev Sd:S:=.aN (.J 7) (.bin .add (.bi .max2 [(.aE (.aE (.J 0) (.J 5)) (.k (.int 0))),(.aE (.aE (.J 0) (.J 6)) (.k (.int 0)))]) (.bin .mod (.bin .fdiv (.J 4) (.k (.int 3600))) (.k (.int 40))))
noncomputable abbrev Se:S:=.aN (.J 9) (.and [(.cmp .ne (.J 5) (.J 6)),(.call oJ [.J 0,.J 5,.J 7]),(.call oJ [.J 0,.J 6,.J 7])])
noncomputable abbrev Sf:List S:=[.ba (.or [(.cmp .iS (.J 5) (.ii (.J 10) none (some (.k (.int 2))))),(.cmp .iS (.J 6) (.ii (.J 10) none (some (.k (.int 2)))))])
    [.aN (.J 9) (.and [.J 9,(.not (.call se [.J 0,.J 8,.J 10]))])]
    []]
noncomputable abbrev Sg:S:=.for (.J 10) (.of (.J 3)) Sf
noncomputable abbrev j3(l:Nat)(c:Int)(m lf:Nat)(x:Int)(o5 o6 o7 o8 o9 o10:Option V):aP:=[some (.ref l),some (.int c),some (nv m),some (.ref lf),some (.int x),o5,o6,o7,o8,o9,o10]
noncomputable def qa(w u:dP):Bool:=(((u.a:Int)==(w.a:Int))||(((u.b:Int)==(w.a:Int))||false))||(((u.a:Int)==(w.b:Int))||(((u.b:Int)==(w.b:Int))||false))
noncomputable def clear(ps:List aG)(w u:dP):Bool:=!(qa w u&&Br ps w u)
noncomputable def Bs(ps:List aG)(w:dP):Prop:=w.a≠w.b/\lv ps w.day w.a=true/\lv ps w.day w.b=true/\0<=w.day/\w.day<=100000
noncomputable def yn(ps:List aG)(ms:List dP):Prop:=(∀w∈ms,Bs ps w)/\ms.Pairwise λu w=>clear ps w u=true
noncomputable def Bt(ps:List aG)(t0:Bool)(ms:List dP)(l:Nat)(c:Int)(m lf:Nat)(x:Int)(a b:Nat)(d:Int)(N:Nat)(H:Hp)(as:List dP)(ρ:aP)(H':Hp):Prop:=∀WmIζ:Prop,(∀(t:Bool) (o10:Option V) (pre:List dP) (e:ρ=j3 l c m lf x (some (nv a)) (some (nv b)) (some (.int d)) (some (.aF [nv a,nv b,.int d])) (some (.bool t)) o10) (ext:aC H H') (ok:jZ N as) (tot:pre++as=ms) (nm:t=true->t0=true/\∀u∈pre,clear ps ⟨a,b,d⟩ u=true),WmIζ)->WmIζ
theorem Bt.mk{ps:List aG}{t0:Bool}{ms:List dP}{l:Nat}{c:Int}{m lf:Nat}{x:Int}{a b:Nat}{d:Int}{N:Nat}{H:Hp}{as:List dP}{ρ:aP}{H':Hp}(t:Bool)(o10:Option V)(pre:List dP)(e:ρ=j3 l c m lf x (some (nv a)) (some (nv b)) (some (.int d)) (some (.aF [nv a,nv b,.int d])) (some (.bool t)) o10)(ext:aC H H')(ok:jZ N as)(tot:pre++as=ms)(nm:t=true->t0=true/\∀u∈pre,clear ps ⟨a,b,d⟩ u=true):Bt ps t0 ms l c m lf x a b d N H as ρ H':=λZ bZ=>bZ t o10 pre e ext ok tot nm
section
variable{n:Nat}{c x d:Int}{l m lf a b:Nat}{H:Hp}{K:Out->Prop}{rest:List S}{ps:List aG}{o5 o6 o7 o8 o9 o10:Option V}
theorem tJ{ps:List aG}(h:0<ps.length):((ps.length:Nat):Int)≠0:=Int.ofNat_ne_zero.mpr (ne_of_gt h)
theorem q5(hA:H[l]?=some (.list (ps.map bv)))(h0:0<ps.length)(h:∀a,a<ps.length->aM ⟨aA n,Y⟩ rest (j3 l c m lf x (some (nv a)) o6 o7 o8 o9 o10) H K):aM ⟨aA n,Y⟩ (Sa::rest) (j3 l c m lf x o5 o6 o7 o8 o9 o10) H K:=by
 apply ay (b7 hA)
 rw[length_map]
 apply ay (gv (a:=x) (tJ h0))
 refine(iy x h0).elim λa ha=>?_
 rw[ha.1]
 exact h a ha.2
theorem q6(hA:H[l]?=some (.list (ps.map bv)))(h0:0<ps.length)(h:∀a,a<ps.length->aM ⟨aA n,Y⟩ rest (j3 l c m lf x o5 (some (nv a)) o7 o8 o9 o10) H K):aM ⟨aA n,Y⟩ (Sb::rest) (j3 l c m lf x o5 o6 o7 o8 o9 o10) H K:=by
 apply ay (b7 hA)
 rw[length_map]
 apply ay (gv (a:=x.fdiv 60) (tJ h0))
 refine(iy (x.fdiv 60) h0).elim λa ha=>?_
 rw[ha.1]
 exact h a ha.2
theorem q7(hW:cL ps)(hR:lQ ps)(hA:H[l]?=some (.list (ps.map bv)))(ha:a<ps.length)(hb:b<ps.length)(h:∀d,0<=d/\d<=100000->aM ⟨aA n,Y⟩ rest (j3 l c m lf x (some (nv a)) (some (nv b)) (some (.int d)) o8 o9 o10) H K):aM ⟨aA n,Y⟩ (Sd::rest) (j3 l c m lf x (some (nv a)) (some (nv b)) o7 o8 o9 o10) H K:=by
 refine(at_of ha).elim λp hp=>(at_of hb).elim λp' dO=>?_
 apply ay (du hA hp)
 apply ay (du hA dO)
 refine h _ ?_
 have V7:=nk (x.fdiv 3600) (b:=40) (by decide)
 have z1:0<=p.aQ:=(hW a p hp) _ λZ Z Z Z z=>z
 have z2:0<=p'.aQ:=(hW b p' dO) _ λZ Z Z Z z=>z
 have b1:=(hR a p hp).2.1
 have b2:=(hR b p' dO).2.1
 refine(?_:0<=max p.aQ p'.aQ+(x.fdiv 3600).fmod 40/\max p.aQ p'.aQ+(x.fdiv 3600).fmod 40<=100000)
 rcases Int.le_total p.aQ p'.aQ with jT|jT
 ·rw[Int.max_eq_right jT];exact⟨by lia,by lia⟩
 ·rw[Int.max_eq_left jT];exact⟨by lia,by lia⟩
theorem q9(hA:H[l]?=some (.list (ps.map bv)))(ha:a<ps.length)(hb:b<ps.length)(h:∀t,(t=true->a≠b/\lv ps d a=true/\lv ps d b=true)->aM ⟨aA (n+1),Y⟩ rest (j3 l c m lf x (some (nv a)) (some (nv b)) (some (.int d)) o8 (some (.bool t)) o10) H K):aM ⟨aA (n+1),Y⟩ (Se::rest) (j3 l c m lf x (some (nv a)) (some (nv b)) (some (.int d)) o8 o9 o10) H K:=by
 refine(at_of ha).elim λp hp=>(at_of hb).elim λp' dO=>?_
 refine(?_:bx ((!((a:Int)==(b:Int)))==true) _ _)
 refine fR (λh1=>?_) λh1=>h _ λe=>absurd (h1.symm.trans e) Bool.false_ne_true
 refine bP (Gm hA hp ?_)
 refine(?_:bx (fq p d==true) _ _)
 refine fR (λh2=>?_) λh2=>h _ λe=>absurd (h2.symm.trans e) Bool.false_ne_true
 exact bP (Gm hA dO (h _ λh3=>⟨λe=>(by rw[e,beq_self_eq_true] at h1;cases h1),(jW hp).trans h2,(jW dO).trans h3⟩))
theorem Sh{ms:List dP}{t:Bool}(hA:H[l]?=some (.list (ps.map bv)))(ha:a<ps.length)(hb:b<ps.length)(hM:H[lf]?=some (.list (ms.map gI)))(ok:jZ ps.length ms)(h:∀t' o10 H',(t'=true->t=true/\∀u∈ms,clear ps ⟨a,b,d⟩ u=true)->aC H H'->aM ⟨aA (n+2),Y⟩ rest (j3 l c m lf x (some (nv a)) (some (nv b)) (some (.int d)) (some (.aF [nv a,nv b,.int d])) (some (.bool t')) o10) H' K):aM ⟨aA (n+2),Y⟩ (Sg::rest) (j3 l c m lf x (some (nv a)) (some (nv b)) (some (.int d)) (some (.aF [nv a,nv b,.int d])) (some (.bool t)) o10) H K:=by
 apply ay (cW hM)
 refine ft (Bt ps t ms l c m lf x a b d ps.length H) (λw as ρ H' hI=>?_) (λρ H' hI=>?_) _ _ _ (.mk t o10 [] rfl (aC.refl _) ok rfl λe=>⟨e,λZ h=>nomatch h⟩)
 ·refine hI _ λt' o10 pre e ext ok tot nm=>?_
  subst e
  refine λN hN=>?_
  have hw:=ok w mem_cons_self
  have no:∀t2 H'',(t2=true->t'=true/\clear ps ⟨a,b,d⟩ w=true)->aC H' H''->N (j3 l c m lf x (some (nv a)) (some (nv b)) (some (.int d)) (some (.aF [nv a,nv b,.int d])) (some (.bool t2)) (some (gI w))) H'':=λt2 H'' ht x'=>hN _ _ (c9 hM ((ext.trans x') _ _ hM)) (.mk t2 _ (pre++[w]) rfl (ext.trans x') (λw h=>ok w (.tail _ h)) (gp tot) λe=>⟨(nm (ht e).1).1,λu hu=>(mem_append.mp hu).elim ((nm (ht e).1).2 u) λhu=>by rw[mem_singleton.mp hu];exact(ht e).2⟩)
  have yes:qa ⟨a,b,d⟩ w=true->aM ⟨aA (n+2),Y⟩ [.aN (.J 9) (.and [.J 9,(.not (.call se [.J 0,.J 8,.J 10]))])] (j3 l c m lf x (some (nv a)) (some (nv b)) (some (.int d)) (some (.aF [nv a,nv b,.int d])) (some (.bool t')) (some (gI w))) H' (λo=>jn o N False):=λSi=>by
   refine(?_:bx (t'==true) _ _)
   refine fR (λh1=>?_) λh1=>no _ _ (λe=>absurd (h1.symm.trans e) Bool.false_ne_true) (aC.refl _)
   exact bP (R9 (n:=n) (ext _ _ hA) ha hb hw.1 hw.2 λH'' x'=>no _ _ (λe=>⟨h1,by unfold clear;rw[Si];exact e⟩) x')
  refine(?_:bx ((((w.a:Int)==(a:Int))||(((w.b:Int)==(a:Int))||false))==false) _ _)
  refine iG (λh1=>?_) λh1=>fH h1 (yes (by unfold qa;rw[h1];rfl))
  refine(?_:bx (((w.a:Int)==(b:Int))||(((w.b:Int)==(b:Int))||false)) _ _)
  exact ck (λh2=>yes (by unfold qa;rw[h2,Bool.or_true])) λh2=>no _ _ (λe=>⟨e,by unfold clear qa;rw[h1,h2];rfl⟩) (aC.refl _)
 ·refine hI _ λt' o10 pre e ext ok tot nm=>?_
  subst e
  rw[append_nil] at tot
  subst tot
  exact h _ _ _ nm ext
end
end Mine.L
namespace Mine.L
variable{Y:PQ}
open Mine.P PySem
noncomputable def Bu(ps:List aG)(c:Int)(m l lf N:Nat)(H₁:Hp)(as:List Int)(ρ:aP)(H':Hp):Prop:=∀WdIζ:Prop,(∀(o4 o5 o6 o7 o8 o9 o10:Option V) (ms:List dP) (e:ρ=[some (.ref l),some (.int c),some (nv m),some (.ref lf),o4,o5,o6,o7,o8,o9,o10]) (x:bu lf H₁ H') (a:H'[lf]?=some (.list (ms.map gI))) (ok:jZ N ms) (wr:yn ps ms) (len:ms.length+as.length<=m),WdIζ)->WdIζ
theorem Bu.mk{ps:List aG}{c:Int}{m l lf N:Nat}{H₁:Hp}{as:List Int}{ρ:aP}{H':Hp}(o4 o5 o6 o7 o8 o9 o10:Option V)(ms:List dP)(e:ρ=[some (.ref l),some (.int c),some (nv m),some (.ref lf),o4,o5,o6,o7,o8,o9,o10])(x:bu lf H₁ H')(a:H'[lf]?=some (.list (ms.map gI)))(ok:jZ N ms)(wr:yn ps ms)(len:ms.length+as.length<=m):Bu ps c m l lf N H₁ as ρ H':=λZ bZ=>bZ o4 o5 o6 o7 o8 o9 o10 ms e x a ok wr len
section
variable{n:Nat}{c:Int}{l m:Nat}{H:Hp}{Q:PQ}
theorem Sj{ps:List aG}(hW:cL ps)(hR:lQ ps)(hA:H[l]?=some (.list (ps.map bv)))(h0:0<ps.length)(hm:m<=1000)(q:∀lm H' ms,jZ ps.length ms->yn ps ms->ms.length<=m->aC H H'->H.length<=lm->H'[lm]?=some (.list (ms.map gI))->Q (.ref lm) H'):aA (n+3) y9 [.ref l,.int c,nv m] H Q Y:=PS (by
 refine bP (tF (n:=n+1) hm λls H₂ xs rJ Bk kQ b6 ax=>?_)
 have a0:=bj H (.list [])
 have l2:H.length<ls:=lt_of_lt_of_le (cu a0) kQ
 apply ay (cW ax)
 refine ft (Bu ps c m l H.length ps.length H₂) (λx as ρ H' h=>?_) (λρ H' h=>?_) _ _ _ (.mk none none none none none none none [] rfl (bu.refl _ _) (b6 _ _ a0) (λZ h=>(nomatch h)) ⟨λZ h=>(nomatch h),Pairwise.nil⟩ (by rw[length_nil,zero_add];exact le_of_eq rJ))
 ·refine h _ λo4 o5 o6 o7 o8 o9 o10 ms e x' a ok wr len=>?_
  subst e
  refine λN hN=>?_
  rw[length_cons] at len
  have xH:aC H H':=x'.ext ((aC.aR _ _).trans b6) (le_refl _)
  have iK:=xH _ _ hA
  have st:∀{H''},bu H.length H₂ H''->eF [ls] H₂ H''=true:=λx=>c9 ax (x _ _ (ne_of_gt l2) ax)
  refine q5 iK h0 λb hb=>q6 iK h0 λb' ju=>q7 hW hR iK hb ju λd hd=>?_
  refine fJ ?_
  refine q9 (n:=n+1) iK hb ju λt ht=>Sh (n:=n) iK hb ju a ok λt' o10 H₃ hc cw=>?_
  have a3:=cw _ _ a
  refine(?_:bx t' _ _)
  refine ck (λh1=>?_) λZ=>hN _ _ (st (x'.trans (cw.b _))) (.mk _ _ _ _ _ _ _ ms rfl (x'.trans (cw.b _)) a3 ok wr (by lia))
  refine fS a3 (f9 a3 (by rw[length_map];lia) (hN _ _ (st ((x'.trans (cw.b _)).trans (bu.set _ _ _))) (.mk _ _ _ _ _ _ _ (ms++[⟨b,b',d⟩]) rfl ((x'.trans (cw.b _)).trans (bu.set _ _ _)) (?_) (λw hw=>(mem_append.mp hw).elim (ok w) λh=>by rw[mem_singleton.mp h];exact⟨hb,ju⟩) ⟨λw hw=>(mem_append.mp hw).elim (wr.1 w) λh=>by rw[mem_singleton.mp h];exact⟨(ht (hc h1).1).1,(ht (hc h1).1).2.1,(ht (hc h1).1).2.2,hd⟩,List.pairwise_append.mpr ⟨wr.2,List.pairwise_singleton _ _,λu hu w hw=>by rw[mem_singleton.mp hw];exact(hc h1).2 u hu⟩⟩ (by rw[length_append];refine(?_:ms.length+1+as.length<=m);lia))))
  rw[map_append];exact dN a3 _
 ·refine h _ λo4 o5 o6 o7 o8 o9 o10 ms e x' a ok wr len=>?_
  subst e
  exact q _ _ ms ok wr (le_trans (le_add_right _ _) len) (x'.ext ((aC.aR _ _).trans b6) (le_refl _)) (le_refl _) a)
end
end Mine.L
namespace Mine.L
variable{Y:PQ}
open Mine.P PySem
noncomputable abbrev Bv(ov un j:Nat):V:=.aF [nv j,nv ov,nv un]
noncomputable def Bw(l kp:Nat)(x:Int)(r N:Nat)(H:Hp)(as:List Nat)(ρ:aP)(H':Hp):Prop:=∀GfIζ:Prop,(∀(o4 o5:Option V) (ns:List Nat) (e:ρ=[some (.ref l),some (nv kp),some (.int x),some (.ref H.length),o4,o5,none,none]) (ext:aC H H') (a:H'[H.length]?=some (.list (aV ns))) (ok:(∀j∈ns,j<N)/\ns.Nodup/\kp∉ns) (len:ns.length+as.length<=r) (small:∀k∈as,k<r),GfIζ)->GfIζ
theorem Bw.mk{l kp:Nat}{x:Int}{r N:Nat}{H:Hp}{as:List Nat}{ρ:aP}{H':Hp}(o4 o5:Option V)(ns:List Nat)(e:ρ=[some (.ref l),some (nv kp),some (.int x),some (.ref H.length),o4,o5,none,none])(ext:aC H H')(a:H'[H.length]?=some (.list (aV ns)))(ok:(∀j∈ns,j<N)/\ns.Nodup/\kp∉ns)(len:ns.length+as.length<=r)(small:∀k∈as,k<r):Bw l kp x r N H as ρ H':=λZ bZ=>bZ o4 o5 ns e ext a ok len small
section
variable{n:Nat}{x:Int}{l kp:Nat}{H:Hp}{Q:PQ}
noncomputable def Sk(H:Hp)(N kp:Nat)(Q:PQ):Prop:=∀(lg:Nat) (H':Hp) (ns:List Nat) (ov un:Nat),(∀j∈ns,j<N)/\ns.Nodup/\kp∉ns->ns.length<=10->ov<=3->1<=ov->ov*ns.length<=un->un<1000->aC H H'->H'[lg]?=some (.list (ns.map (Bv ov un)))->Q (.ref lg) H'
theorem Sl(x:Int):∃(z:Int) (r:Nat),fh (.ref (H++[aZ.list []]).length) (.int ((x.fdiv 30).fmod 3)) (H++[aZ.list []]++[.list [.int 3,.int 3,.int 10]])=some (.int z)/\z≠0/\1+x.fmod z=(r:Int)/\r<=10:=
 have h3:=vq x (k:=3) (c:=10) (by decide) (by decide)
 have kJ:=vq x (k:=10) (c:=10) (by decide) (by decide)
 RD (x.fdiv 30) (P:=λi=>∃(z:Int) (r:Nat),fh (.ref (H++[aZ.list []]).length) (.int i) (H++[aZ.list []]++[.list [.int 3,.int 3,.int 10]])=some (.int z)/\z≠0/\1+x.fmod z=(r:Int)/\r<=10)
  (h3.elim λr h=>⟨3,r,gH (bj _ _) rfl,by decide,h.1,h.2.2⟩) (h3.elim λr h=>⟨3,r,gH (bj _ _) rfl,by decide,h.1,h.2.2⟩) (kJ.elim λr h=>⟨10,r,gH (bj _ _) rfl,by decide,h.1,h.2.2⟩)
theorem So(x:Int):∃mo:Nat,fh (.ref H.length) (.int ((x.fdiv 7).fmod 2)) (H++[.list [.int ((x.fdiv 11340).fmod 4),.int ((x.fdiv 11340).fmod 900)]])=some (nv mo)/\mo<900:=
 (iy (x.fdiv 11340) (k:=4) (by decide)).elim λa ha=>(iy (x.fdiv 11340) (k:=900) (by decide)).elim λb hb=>mod2 (x.fdiv 7) (P:=λi=>∃mo:Nat,fh (.ref H.length) (.int i) (H++[.list [.int ((x.fdiv 11340).fmod 4),.int ((x.fdiv 11340).fmod 900)]])=some (nv mo)/\mo<900)
  ⟨a,(gH (bj _ _) rfl).trans (by rw[show(x.fdiv 11340).fmod 4=(a:Int) from ha.1]),lt_trans ha.2 (by decide)⟩ ⟨b,(gH (bj _ _) rfl).trans (by rw[show(x.fdiv 11340).fmod 900=(b:Int) from hb.1]),hb.2⟩
theorem Sp{ps:List aG}(hA:H[l]?=some (.list (ps.map bv)))(h0:0<ps.length)(q:Sk H ps.length kp Q):aA (n+1) za [.ref l,nv kp,.int x] H Q Y:=PT (by
 refine(Sl (H:=H) x).elim λz hz=>hz.elim λr hz=>?_
 apply ay hz.1
 apply ay (gv hz.2.1)
 refine e7 (op:=.add) (p:=1) (q:=x.fmod z) (z:=(r:Int)) (congrArg some hz.2.2.1) ?_
 have hr:=hz.2.2.2
 refine mq (lt_of_le_of_lt hr (by decide)) ?_
 refine ft (Bw l kp x r ps.length H) (λk as ρ H' h=>?_) (λρ H' h=>?_) _ _ _ (.mk none none [] rfl ((aC.aR _ _).trans (aC.aR _ _)) (be _ (bj _ _)) ⟨λZ h=>(nomatch h),nodup_nil,λh=>(nomatch h)⟩ (by rw[length_range,length_nil,zero_add];exact le_refl _) (λk hk=>mem_range.mp hk))
 ·refine h _ λo4 o5 ns e ext a ok len small=>?_
  subst e
  refine λN hN=>?_
  rw[length_cons] at len
  have hk:=small k mem_cons_self
  apply ay (i7 (i:=10) (j:=10) (a:=(k:Int)) (b:=1+(x.fdiv 540).fmod 7) (nq hk (le_trans hr (by decide))) ((vq (x.fdiv 540) (k:=7) (c:=1000) (by decide) (by decide)).elim λr h=>by rw[show 1+(x.fdiv 540).fmod 7=(r:Int) from h.1];exact nq (lt_succ_of_le h.2.2) (by decide)) (by decide))
  apply ay (b7 (ext _ _ hA))
  rw[length_map]
  apply ay (gv (a:=x.fdiv 90+(k:Int)*(1+(x.fdiv 540).fmod 7)) (tJ h0))
  refine(iy (x.fdiv 90+(k:Int)*(1+(x.fdiv 540).fmod 7)) h0).elim λj hj=>?_
  rw[hj.1]
  have no:N [some (.ref l),some (nv kp),some (.int x),some (.ref H.length),some (nv k),some (nv j),none,none] H':=hN _ _ rfl (.mk _ _ ns rfl ext a ok (le_of_succ_le len) (λk hk=>small k (.tail _ hk)))
  refine(?_:bx ((!((j:Int)==(kp:Int)))==true) _ _)
  refine fR (λh1=>?_) λh1=>gb h1 no
  apply ay (GI a)
  refine ck (λh2=>?_) λh2=>no
  have Bx:j∉ns:=λhm=>by rw[decide_eq_true hm] at h2;cases h2
  exact fS a (f9 a (by rw[length_map];exact lt_of_le_of_lt (le_trans (le_trans (le_add_right _ _) len) hr) (by decide)) (hN _ _ rfl (.mk _ _ (ns++[j]) rfl (ext.set (le_refl _) _) (by rw[<-rq];exact dN a _) ⟨λi hi=>(mem_append.mp hi).elim (ok.1 i) λh=>by rw[mem_singleton.mp h];exact hj.2,nodup_append.mpr ⟨ok.2.1,nodup_cons.mpr ⟨not_mem_nil,nodup_nil⟩,λi hi i' qN e=>Bx (mem_singleton.mp qN▸e▸hi)⟩,λhm=>(mem_append.mp hm).elim ok.2.2 λh=>by rw[mem_singleton.mp h,beq_self_eq_true] at h1;cases h1⟩ (by rw[length_append];refine(?_:ns.length+1+as.length<=r);rw[add_right_comm];exact len) (λk hk=>small k (.tail _ hk)))))
 ·refine h _ λo4 o5 ns e ext a ok len small=>?_
  subst e
  have jV:ns.length<=10:=le_trans (le_trans (le_add_right _ _) len) hr
  refine(vq (x.fdiv 3780) (k:=3) (c:=3) (by decide) (le_refl _)).elim λov mW=>?_
  refine fJ (gg (cj (gg (gg (bY rfl (cj ?_))))))
  refine e7 (tG (by decide)) (cj (e7 (gv (by decide)) (e7 rfl ?_)))
  rw[show 1+(x.fdiv 3780).fmod 3=(ov:Int) from mW.1]
  refine ay rfl ?_
  refine(So (H:=H') x).elim λmo GS=>?_
  apply ay GS.1
  apply ay (cW (be _ a))
  refine cz (cF (by rw[length_map];exact lt_of_le_of_lt jV (by decide))) ?_
  refine gV (P:=λZ=>true) (F:=Bv ov (ov*ns.length+mo)) _ _ _ (λj Z T hT=>hT) (λj Z Z N hN=>?_) ?_
  ·apply ay (b7 (be _ a))
   rw[length_map]
   apply ay (i7 (i:=10) (j:=10) (a:=(ov:Int)) (b:=(ns.length:Int)) (nq (lt_succ_of_le mW.2.2) (by decide)) (nq (lt_succ_of_le jV) (by decide)) (by decide))
   exact hN
  ·rw[pM]
   have hmul:ov*ns.length<=30:=le_trans (Nat.mul_le_mul mW.2.2 jV) (by decide)
   refine q _ _ ns ov (ov*ns.length+mo) ok jV mW.2.2 mW.2.1 (le_add_right _ _) (lt_of_lt_of_le (Nat.add_lt_add_of_le_of_lt hmul GS.2) (by decide)) (ext.trans ((aC.aR _ _).trans (aC.aR _ _))) (bj _ _))
end
end Mine.L
namespace Mine.L
variable{Y:PQ}
open Mine.P PySem
noncomputable def qb(ps:List aG)(w:gf):Prop:=∃p,ps[w.gr]?=some p/\p.aQ<=w.day/\w.day<=100000/\∀d,p.bM=some d->w.day<=d
noncomputable def By(ps:List aG)(c:Int)(m l lf N:Nat)(H₁:Hp)(as:List Int)(ρ:aP)(H':Hp):Prop:=∀WlIζ:Prop,(∀(o4 o5 o6 o7:Option V) (ws:List gf) (e:ρ=[some (.ref l),some (.int c),some (nv m),some (.ref lf),o4,o5,o6,o7]) (x:bu lf H₁ H') (a:H'[lf]?=some (.list (ws.map ia))) (ok:vj N ws) (wd:∀w∈ws,qb ps w) (len:ws.length+as.length<=m),WlIζ)->WlIζ
theorem By.mk{ps:List aG}{c:Int}{m l lf N:Nat}{H₁:Hp}{as:List Int}{ρ:aP}{H':Hp}(o4 o5 o6 o7:Option V)(ws:List gf)(e:ρ=[some (.ref l),some (.int c),some (nv m),some (.ref lf),o4,o5,o6,o7])(x:bu lf H₁ H')(a:H'[lf]?=some (.list (ws.map ia)))(ok:vj N ws)(wd:∀w∈ws,qb ps w)(len:ws.length+as.length<=m):By ps c m l lf N H₁ as ρ H':=λZ bZ=>bZ o4 o5 o6 o7 ws e x a ok wd len
noncomputable def Bz(q:Rat)(dz:aP)(H:Hp)(tot as:List Nat)(acc:List V)(ρ:aP)(H':Hp):Prop:=∀TuIζ:Prop,(∀(o o' oq:Option V) (an:List Nat) (e:ρ=o::o'::oq::dz) (eh:H'=H) (ea:acc=an.map λj=>ng (j,q)) (t:an++as=tot),TuIζ)->TuIζ
theorem Bz.mk{q:Rat}{dz:aP}{H:Hp}{tot as:List Nat}{acc:List V}{ρ:aP}{H':Hp}(o o' oq:Option V)(an:List Nat)(e:ρ=o::o'::oq::dz)(eh:H'=H)(ea:acc=an.map λj=>ng (j,q))(t:an++as=tot):Bz q dz H tot as acc ρ H':=λZ bZ=>bZ o o' oq an e eh ea t
theorem tK{α:Type}{f:V->Option PyData}{g:α->V}{d:α->PyData}(h:∀a,f (g a)=some (d a)):∀l:List α,eA f (l.map g)=some (l.map d)
 |[]=>rfl
 |a::r=>eJ (h a) (tK h r)
section
variable{n:Nat}{c:Int}{l m:Nat}{H:Hp}{Q:PQ}
theorem Sq{ps:List aG}(hW:cL ps)(hR:lQ ps)(hA:H[l]?=some (.list (ps.map bv)))(h0:0<ps.length)(hm:m<=1000)(q:∀lw H' ws,vj ps.length ws->(∀w∈ws,qb ps w)->ws.length<=m->aC H H'->H.length<=lw->H'[lw]?=some (.list (ws.map ia))->Q (.ref lw) H'):aA (n+2) zb [.ref l,.int c,nv m] H Q Y:=PU (by
 refine bP (tF (n:=n) hm λls H₂ xs rJ Bk kQ b6 ax=>?_)
 have a0:=bj H (.list [])
 have l2:H.length<ls:=lt_of_lt_of_le (cu a0) kQ
 apply ay (cW ax)
 refine ft (By ps c m l H.length ps.length H₂) (λx as ρ H' h=>?_) (λρ H' h=>?_) _ _ _ (.mk none none none none [] rfl (bu.refl _ _) (b6 _ _ a0) (λZ h=>(nomatch h)) (λZ h=>(nomatch h)) (by rw[length_nil,zero_add];exact le_of_eq rJ))
 ·refine h _ λo4 o5 o6 o7 ws e x' a ok wd len=>?_
  subst e
  refine λN hN=>?_
  rw[length_cons] at len
  have xH:aC H H':=x'.ext ((aC.aR _ _).trans b6) (le_refl _)
  have iK:=xH _ _ hA
  have st:∀{H''},bu H.length H₂ H''->eF [ls] H₂ H''=true:=λx=>c9 ax (x _ _ (ne_of_gt l2) ax)
  apply ay (b7 iK)
  rw[length_map]
  apply ay (gv (a:=x) (tJ h0))
  refine(iy x h0).elim λk hk=>?_
  rw[hk.1]
  refine(at_of hk.2).elim λp hp=>?_
  apply ay (du iK hp)
  refine bP (Sp (n:=n) iK h0 λlg H₃ ns ov un jV kJ mW GU jT GV cw ag=>?_)
  have no:∀{H''} {o4 o5 o6 o7},aC H' H''->N [some (.ref l),some (.int c),some (nv m),some (.ref H.length),o4,o5,o6,o7] H'':=λrF=>hN _ _ (st (x'.trans (rF.b _))) (.mk _ _ _ _ ws rfl (x'.trans (rF.b _)) (rF _ _ a) ok wd (le_of_succ_le len))
  have x4:=cw.trans (aC.aR H₃ [.list []])
  have vv:=be [.list []] ag
  apply ay (ne_nil vv (tK (d:=λj:Nat=>PyData.tuple [.int j,.int ov,.int un]) (λj=>rfl) ns) (bj _ _))
  rw[isEmpty_map]
  refine fR (λh1=>?_) λh1=>gb h1 (no x4)
  have cT:ns≠[]:=λe=>by rw[e] at h1;cases h1
  have hu:un≠0:=λe=>by have:1*1<=ov*ns.length:=Nat.mul_le_mul GU (length_pos_iff.mpr cT);exact absurd (le_trans this jT) (by rw[e];decide)
  generalize H₃++[aZ.list []]=H₄ at x4 vv
  have a4:=x4 _ _ a
  have fin:∀{d:Int} (hd:0<=d/\qb ps ⟨k,d,ns.map λj=>(j,Rat.normalize ov un hu)⟩) {o4 o5 o6 o7} {H₅:Hp},aC H₄ H₅->pg .append (.ref H.length) [.aF [nv k,.int d,.aF (ns.map λj=>ng (j,Rat.normalize ov un hu))]] H₅ (λZ H₆=>N [some (.ref l),some (.int c),some (nv m),some (.ref H.length),o4,o5,o6,o7] H₆):=λ{d} hd {_ _ _ _ H₅} x5=>by
   have a5:=x5 _ _ a4
   refine f9 a5 (by rw[length_map];exact lt_of_le_of_lt (le_trans (le_add_right _ _) len) (lt_of_le_of_lt hm (by decide))) ?_
   have x6:=(x'.trans ((x4.trans x5).b _)).trans (bu.set H.length H₅ (.list (ws.map ia++[.aF [nv k,.int d,.aF (ns.map λj=>ng (j,Rat.normalize ov un hu))]])))
   refine hN _ _ (st x6) (.mk _ _ _ _ (ws++[⟨k,d,ns.map λj=>(j,Rat.normalize ov un hu)⟩]) rfl x6 (?_) (λw hw=>(mem_append.mp hw).elim (ok w) λh=>?_) (λw hw=>(mem_append.mp hw).elim (wd w) λh=>by rw[mem_singleton.mp h];exact hd.2) (by rw[length_append];refine(?_:ws.length+1+as.length<=m);exact(by rw[add_right_comm];exact len)))
   ·rw[map_append,dN a5]
    refine(?_:_=some (aZ.list (_++[ia ⟨k,d,_⟩])))
    unfold ia ja
    rw[map_map];rfl
   ·rw[mem_singleton.mp h]
    refine(.mk ⟨λg hg=>(mem_map.mp hg).elim λj hj=>hj.2▸⟨jV.1 j hj.1,Sm.pG hu (show(ov:Int).natAbs<2^10 from nq (lt_succ_of_le mW) (by decide)) (show un<2^10 from lt_trans GV (by decide))⟩,by rw[length_map];exact kJ⟩ hd.1 ns ov un hu rfl GU GV jT ⟨jV.2.1,jV.2.2,cT⟩)
  have aF:∀{d:Int},0<=d/\qb ps ⟨k,d,ns.map λj=>(j,Rat.normalize ov un hu)⟩->aM ⟨aA (n+1),Y⟩ [.expr (.c8 .append (.J 3) [(.aF [.J 5,.J 6,(.bi .tupleOf [(.comp 3 (.aF [.J 0,(.call qr [.J 1,.J 2])]) (.aF [.J 0,.J 1,.J 2]) (.of (.J 7)) [])])])])] [some (.ref l),some (.int c),some (nv m),some (.ref H.length),some (.int x),some (nv k),some (.int d),some (.ref lg)] H₄ (λo=>jn o N False):=λ{d} hd=>by
   refine fS a4 ?_
   apply ay (cW vv)
   refine cz (cF (by rw[length_map];exact lt_of_le_of_lt kJ (by decide))) ?_
   refine m8 (g:=Bv ov un) (Bz (Rat.normalize ov un hu) [some (.ref l),some (.int c),some (nv m),some (.ref H.length),some (.int x),some (nv k),some (.int d),some (.ref lg)] H₄ ns) (λj as acc ρ H' h=>?_) (λacc ρ H' h=>?_) ns _ _ _ (.mk none none none [] rfl rfl rfl rfl)
   ·refine h _ λo o' oq an e eh ea t=>?_
    subst e eh
    refine λN' iI=>bP (Qu hu ?_)
    exact iI _ _ (c9 vv vv) (.mk _ _ _ (an++[j]) rfl rfl (by rw[ea,map_append];rfl) (gp t))
   ·refine h _ λo o' oq an e eh ea t=>?_
    rw[append_nil] at t
    subst eh ea t
    apply ay (b7 (bj _ _))
    exact fin hd (aC.aR _ _)
  have GW:0<=p.aQ+(x.fdiv 60).fmod 30:=Int.add_nonneg ((hW k p hp) _ λZ Z Z Z z=>z) (nk _ (by decide)).1
  have R6:=nk (x.fdiv 60) (b:=30) (by decide)
  have xD:p.aQ<=p.aQ+(x.fdiv 60).fmod 30:=by lia
  have GX:p.aQ+(x.fdiv 60).fmod 30<=100000:=by have:=(hR k p hp).2.1;lia
  apply ay (du (x4 _ _ iK) hp)
  unfold bv
  cases hd:p.bM with
  |none=>exact aF ⟨GW,p,hp,xD,GX,λd h=>by rw[hd] at h;cases h⟩
  |some dd=>
   apply ay (du (x4 _ _ iK) hp)
   unfold bv
   rw[hd]
   refine(?_:bx (decide (p.aQ+(x.fdiv 60).fmod 30<=dd)) _ _)
   exact ck (λh9=>aF ⟨GW,p,hp,xD,GX,λd h=>by rw[hd] at h;cases h;exact of_decide_eq_true h9⟩) λZ=>no x4
 ·refine h _ λo4 o5 o6 o7 ws e x' a ok wd len=>?_
  subst e
  exact q _ _ ws ok wd (le_trans (le_add_right _ _) len) (x'.ext ((aC.aR _ _).trans b6) (le_refl _)) (le_refl _) a)
end
end Mine.L
namespace Mine.L
variable{Y:PQ}
open Mine.P PySem
section
variable{C:Ct}{ρ bV:aP}{H:Hp}{Q:PQ}{K:Out->Prop}{r:List S}{t:cN}{e a i E1 E2:E}{v x y:V}{R:Bool->Hp->Prop}
theorem jA{vs:List V}(h:Q (.ref H.length) (H++[.list vs])):kC vs H Q:=h
theorem jc{b c:List S}(h:qD C e ρ H λt H=>bx t (aM C b ρ H λo=>jn o (λρ H=>aM C r ρ H K) (K o)) (aM C c ρ H λo=>jn o (λρ H=>aM C r ρ H K) (K o))):aM C (.ba e b c::r) ρ H K:=h
theorem qc{op:kU}(h:WE C a ρ H λx H=>WE C i ρ H λy H=>aJ (eD op x y H) λt=>R t H):qD C (.cmp op a i) ρ H R:=h
theorem qe(h:WE C a ρ H λx H=>aJ (truthy H x) λb=>R b H):qD C a ρ H R:=h
theorem V8(h:WE C E1 ρ H λx H=>aJ (truthy H x) λb=>R (!b) H):qD C (.not E1) ρ H R:=h
theorem Sr(h:WE C E1 ρ H λx H=>aJ (truthy H x) λb=>Q (.bool (!b)) H):WE C (.not E1) ρ H Q:=h
theorem tL{R:List V×List Nat->Hp->Prop}(h:WE C e ρ H λx H=>aJ (keysOf H x) λvs=>R (vs,watch x) H):nQ C (.of e) ρ H R:=h
theorem fK(h:WE C a ρ H λx H=>WE C i ρ H λy H=>aJ (fh x y H) λv=>Q v H):WE C (.aE a i) ρ H Q:=h
theorem V9{op:kU}(h:WE C a ρ H λx H=>WE C i ρ H λy H=>aJ (eD op x y H) λt=>bx t (R true H) (R false H)):WT C [.cmp op a i] ρ H R:=h
theorem yo(h:R true H):WT C [] ρ H R:=h
theorem Wa(h:WE C a ρ H λx H=>aJ (truthy H x) λb=>bx b (R true H) (R false H)):WT C [a] ρ H R:=h
theorem D9(h:K (.next ρ H)):aM C [] ρ H K:=h
theorem Wb(h:WE C a ρ H λv H=>K (.ret v H)):aM C (.ret a::r) ρ H K:=h
theorem GY(h:WE C e ρ H λZ H=>aM C r ρ H K):aM C (.expr e::r) ρ H K:=h
theorem qg{op:kU}(h:WE C E1 ρ H λx H=>WE C E2 ρ H λy H=>aJ (eD op x y H) λt=>Q (.bool t) H):WE C (.cmp op E1 E2) ρ H Q:=h
theorem tM(h:WE C E1 ρ H λx H=>aJ (truthy H x) λt=>bx (t==true) (WE C E2 ρ H Q) (Q x H)):WE C (.and [E1,E2]) ρ H Q:=h
theorem GZ(h:WE C E1 ρ H λx H=>aJ (truthy H x) λt=>bx (t==false) (WE C E2 ρ H Q) (Q x H)):WE C (.or [E1,E2]) ρ H Q:=h
theorem nu{f:Nat}{x y:E}(h:WE C x ρ H λu H=>WE C y ρ H λv H=>C.call f [u,v] H Q C.exc):WE C (.call f [x,y]) ρ H Q:=h
theorem Wc{f:Nat}{x y z:E}(h:WE C x ρ H λu H=>WE C y ρ H λv H=>WE C z ρ H λw H=>C.call f [u,v,w] H Q C.exc):WE C (.call f [x,y,z]) ρ H Q:=h
theorem Wd{j l:Nat}{vs:List V}(hj:ρ[j]?.join=some (.ref l))(h:H[l]?=some (.list vs))(q:Q (.int vs.length) H):WE C (.bi .len [.J j]) ρ H Q:=ay hj (ay (b7 h) q)
theorem We{j c:Nat}{b:Bool}(hv:ρ[j]?.join=some (nv c))(h:Q (sv (c,b)) H):WE C (.aF [.J j,.k (.bool b)]) ρ H Q:=ay hv h
theorem Wf{l j m:Nat}{vs:List V}(hj:ρ[j]?.join=some (.ref l))(hm:ρ[m]?.join=some v)(h:H[l]?=some (.list vs))(hs:vs.length<16000000)(k:aM C r ρ (H.set l (.list (vs++[v]))) K):aM C (.expr (.c8 .append (.J j) [.J m])::r) ρ H K:=ay hj (fS h (ay hm (f9 h hs k)))
end
theorem Wg(m:Nat):(List.range m).map nv=(range' 0 m).map nv:=by rw[List.range_eq_range']
theorem Wh{m:Nat}{f:List V->Prop}(h:m<1000000)(k:f ((range' 1 m).map nv)):uC (.int 1) (.int ((m:Int)+1)) f:=by
 refine⟨⟨by decide,lt_trans (show((m:Int)+1).natAbs<1000001 by lia) (by decide)⟩,?_⟩
 have e:mI 1 ((m:Int)+1)=(range' 1 m).map nv:=by
  unfold mI
  rw[show((m:Int)+1 - 1).toNat=m by lia,List.range'_eq_map_range,map_map]
  rfl
 rw[e];exact k
end Mine.L
namespace Mine.L
variable{Y:PQ}
open Mine.P PySem
noncomputable def tN:Option Int->PyData
 |none=>.none
 |some d=>.int d
noncomputable def ot(l:List Nat):PyData:=.tuple (l.map λi:Nat=>.int i)
noncomputable def tO:Option (Int×List Nat)->PyData
 |none=>.none
 |some a=>.tuple [.int a.1,ot a.2]
noncomputable def tP(p:aG):PyData:=.tuple [.int p.aQ,ot p.bS,tO p.ad,tN p.bM]
noncomputable def tQ(w:dP):PyData:=.tuple [.int w.a,.int w.b,.int w.day]
noncomputable def rL(g:Nat×Rat):PyData:=.tuple [.int g.1,pT g.2]
noncomputable def tR(w:gf):PyData:=.tuple [.int w.gr,.int w.day,.tuple (w.cU.map rL)]
theorem vw{α:Type}{d:α->PyData}(h:∀a,PyData.eqv (d a) (d a)=true):∀l:List α,PyData.eqvAll (l.map d) (l.map d)=true
 |[]=>rfl
 |a::r=>by
  refine(?_:(PyData.eqv (d a) (d a)&&PyData.eqvAll _ _)=true)
  rw[h a,vw h r];rfl
theorem nw(i:Int):PyData.eqv (.int i) (.int i)=true:=beq_self_eq_true i
theorem G0(l:List Nat):PyData.eqv (ot l) (ot l)=true:=GB l
theorem Ss(a:Option (Int×List Nat)):PyData.eqv (tO a) (tO a)=true:=by
 cases a with
 |none=>rfl
 |some a=>
  refine(?_:(PyData.eqv (.int a.1) (.int a.1)&&(PyData.eqv (ot a.2) (ot a.2)&&true))=true)
  rw[nw,G0];rfl
theorem Su(a:Option Int):PyData.eqv (tN a) (tN a)=true:=by
 cases a with
 |none=>rfl
 |some a=>exact nw a
theorem Sv(p:aG):PyData.eqv (tP p) (tP p)=true:=by
 refine(?_:(PyData.eqv (.int p.aQ) (.int p.aQ)&&(PyData.eqv (ot p.bS) (ot p.bS)&&(PyData.eqv (tO p.ad) (tO p.ad)&&(PyData.eqv (tN p.bM) (tN p.bM)&&true))))=true)
 rw[nw,G0,Ss,Su];rfl
theorem Sw(w:dP):PyData.eqv (tQ w) (tQ w)=true:=by
 refine(?_:(PyData.eqv (.int w.a) (.int w.a)&&(PyData.eqv (.int w.b) (.int w.b)&&(PyData.eqv (.int w.day) (.int w.day)&&true)))=true)
 rw[nw,nw,nw];rfl
theorem Sy(g:Nat×Rat):PyData.eqv (rL g) (rL g)=true:=by
 refine(?_:(PyData.eqv (.int g.1) (.int g.1)&&(PyData.eqv (pT g.2) (pT g.2)&&true))=true)
 rw[nw,RB];rfl
theorem Sz(w:gf):PyData.eqv (tR w) (tR w)=true:=by
 refine(?_:(PyData.eqv (.int w.gr) (.int w.gr)&&(PyData.eqv (.int w.day) (.int w.day)&&(PyData.eqvAll (w.cU.map rL) (w.cU.map rL)&&true)))=true)
 rw[nw,nw,vw Sy];rfl
section
variable{n:Nat}{l lm lw l' tD tE:Nat}{H:Hp}{Q:PQ}
theorem G6(ls:List Nat)(m:Nat):rd H (m+1) (.aF (aV ls))=some (ot ls):=congrArg (Option.map PyData.tuple) (m9 m ls)
theorem SA(p:aG):rd H 8 (bv p)=some (tP p):=by
 refine congrArg (Option.map PyData.tuple) (eJ (pE _ _) (eJ (G6 _ _) (eJ (d:=tO p.ad) ?_ (eJ (d:=tN p.bM) ?_ rfl))))
 ·cases p.ad with
  |none=>rfl
  |some a=>exact congrArg (Option.map PyData.tuple) (eJ (pE _ _) (eJ (G6 _ _) rfl))
 ·cases p.bM<;>rfl
theorem SD(w:dP):rd H 8 (gI w)=some (tQ w):=rfl
theorem SE(g:Nat×Rat):rd H 6 (ng g)=some (rL g):=congrArg (Option.map PyData.tuple) (eJ (pE _ _) (eJ (A5 _ _) rfl))
theorem SF(gs:List (Nat×Rat)):rd H 7 (ja gs)=some (.tuple (gs.map rL)):=congrArg (Option.map PyData.tuple) (tK SE gs)
theorem SG(w:gf):rd H 8 (ia w)=some (tR w):=congrArg (Option.map PyData.tuple) (eJ (pE _ _) (eJ (pE _ _) (eJ (SF w.cU) rfl)))
noncomputable def SH(r:cq):PyData:=.tuple [.list (r.ps.map tP),.list (r.ms.map tQ),.list (r.ws.map tR)]
theorem G7{r:cq}(h:cP H r l lm lw):rd H 10 (.aF [.ref l,.ref lm,.ref lw])=some (SH r):=h _ λa b c=>congrArg (Option.map PyData.tuple) (eJ (ni a (tK SA _)) (eJ (ni b (tK SD _)) (eJ (ni c (tK SG _)) rfl)))
theorem SI{r:cq}(h:cP H r l lm lw)(h':cP H r l' tD tE):eD .eq (.aF [.ref l,.ref lm,.ref lw]) (.aF [.ref l',.ref tD,.ref tE]) H=some true:=by
 refine(?_:(rd H 10 _).bind (λd=>(rd H 10 _).map λe=>PyData.eqv d e)=_)
 rw[G7 h,G7 h']
 refine(?_:some (PyData.eqvAll (r.ps.map tP) (r.ps.map tP)&&(PyData.eqvAll (r.ms.map tQ) (r.ms.map tQ)&&(PyData.eqvAll (r.ws.map tR) (r.ws.map tR)&&true)))=_)
 rw[vw Sv,vw Sw,vw Sz];rfl
noncomputable def vx(r:cq):Prop:=lQ r.ps/\yn r.ps r.ms/\∀w∈r.ws,qb r.ps w
theorem SJ{b:Nat}(hb:0<b)(ju:b<=20)(q:∀r l lm lw H',cX r->vx r->0<r.ps.length->r.ps.length<=b->r.ms.length<=1000->r.ws.length<=1000->cP H' r l lm lw->aC H H'->Q (.aF [.ref l,.ref lm,.ref lw]) H'):aA (n+4) vZ [.dU,nv b] H Q Y:=PW (by
 refine bP (mX (k:=0) ?_)
 have rA:=nk (X.is.getD 0 0) (b:=(b:Int)) (ofNat_lt.mpr hb)
 have hm:∃m:Nat,1+(X.is.getD 0 0).fmod b=(m:Int)/\0<m/\m<=20/\m<=b:=(vq _ hb (le_refl b)).imp λm h=>⟨h.1,h.2.1,le_trans h.2.2 ju,h.2.2⟩
 refine hm.elim λm hm=>?_
 refine bY (v:=nv b) rfl (e7 (gv (b:=(b:Int)) (Int.ne_of_gt (ofNat_lt.mpr hb))) (e7 (congrArg some hm.1) ?_))
 refine bP (mX (k:=1) ?_)
 refine bP (RY (n:=n+1) hm.2.2.1 λlp H₁ ps hl hW hR vu Z SK=>?_)
 refine bP (mX (k:=2) ?_)
 refine bP (R5 (n:=n+1) SK hW (hl▸hm.2.2.1) hR λla H₂ d0 gS BA BB b6 Z jX=>?_)
 have h0:0<d0.length:=by rw[gS,hl];exact hm.2.1
 refine bP (mX (k:=3) ?_)
 refine bP (mX (k:=0) ?_)
 have SM:=iy ((X.is.getD 0 0).fdiv 12) (k:=13) (by decide)
 refine SM.elim λm1 th=>?_
 refine cj (e7 (tG (b:=12) (by decide)) (cj (e7 ((gv (b:=13) (by decide)).trans (congrArg some th.1)) ?_)))
 refine bP (Sj (n:=n) BA BB jX h0 (le_trans (le_of_lt th.2) (by decide)) λlm H₃ ms SN SO BC cw Z vg=>?_)
 refine bP (mX (k:=4) ?_)
 refine bP (mX (k:=0) ?_)
 have h9:=iy ((X.is.getD 0 0).fdiv 156) (k:=9) (by decide)
 refine h9.elim λm2 BD=>?_
 refine cj (e7 (tG (b:=156) (by decide)) (cj (e7 ((gv (b:=9) (by decide)).trans (congrArg some BD.1)) ?_)))
 refine bP (Sq (n:=n+1) BA BB (cw _ _ jX) h0 (le_trans (le_of_lt BD.2) (by decide)) λlw H₄ ws SP SQ mr dQ Z om=>?_)
 exact q ⟨d0,ms,ws⟩ la lm lw H₄ (.mk BA (by refine(?_:d0.length<=20);rw[gS,hl];exact hm.2.2.1) SN SP) ⟨BB,SO,SQ⟩ h0 (by refine(?_:d0.length<=b);rw[gS,hl];exact hm.2.2.2) (le_trans BC (le_trans (le_of_lt th.2) (by decide))) (le_trans mr (le_trans (le_of_lt BD.2) (by decide))) (.mk ((cw.trans dQ) _ _ jX) (dQ _ _ vg) om) (vu.trans (b6.trans (cw.trans dQ))))
end
end Mine.L
namespace Mine.L
variable{Y:PQ}
open Mine.P PySem
noncomputable def cG(B:Nat)(H H':Hp):Prop:=∀(l:Nat) (c:aZ),(l<B\/B+5<=l)->H[l]?=some c->H'[l]?=some c
theorem aC.k{B:Nat}{H H':Hp}(x:aC H H'):cG B H H':=λl c Z h=>x l c h
theorem cG.refl(B:Nat)(H:Hp):cG B H H:=λZ Z Z h=>h
theorem cG.trans{B:Nat}{H H₁ H₂:Hp}(a:cG B H H₁)(b:cG B H₁ H₂):cG B H H₂:=λl c n h=>b l c n (a l c n h)
theorem cG.set{B:Nat}(H:Hp){m:Nat}(h1:B<=m)(h2:m<B+5)(c:aZ):cG B H (H.set m c):=λl c' n h=>dF h c λe=>by lia
noncomputable def BE(P:Nat->Prop)(H:Hp)(r:eZ)(v:V):Prop:=∃l,P l/\v=.aF [ya r.i8,rv r.part,.str r.how,.ref l]/\H[l]?=some (.list (aV r.line))
noncomputable def gL(P:Nat->Prop)(H:Hp)(v:V):Prop:=∃lr vs rs,v=.ref lr/\P lr/\H[lr]?=some (.list vs)/\cm (BE P H) rs vs/\∀x∈rs,pX x
theorem gL.k{P:Nat->Prop}{H H':Hp}{v:V}(h:gL P H v)(x:∀l c,P l->H[l]?=some c->H'[l]?=some c):gL P H' v:=h.imp λlr h=>h.imp λvs h=>h.imp λrs h=>⟨h.1,h.2.1,x _ _ h.2.1 h.2.2.1,h.2.2.2.1.imp λZ Z q=>q.imp λl q=>⟨q.1,q.2.1,x _ _ q.1 q.2.2⟩,h.2.2.2.2⟩
theorem gL.wk{P P':Nat->Prop}{H:Hp}{v:V}(h:gL P H v)(x:∀l,l<H.length->P l->P' l):gL P' H v:=h.imp λlr h=>h.imp λvs h=>h.imp λrs h=>⟨h.1,x _ (cu h.2.2.1) h.2.1,h.2.2.1,h.2.2.2.1.imp λZ Z q=>q.imp λl q=>⟨x _ (cu q.2.2) q.1,q.2⟩,h.2.2.2.2⟩
noncomputable abbrev vy(B:Nat)(H:Hp)(v:V):Prop:=gL (B+5<=·) H v
theorem vy.k{B:Nat}{H H':Hp}{v:V}(h:vy B H v)(x:cG B H H'):vy B H' v:=gL.k h λl c hl a=>x l c (.inr hl) a
noncomputable abbrev jB(B ld:Nat)(vf:V):aP:=[some (.ref (B+2)),some (.ref (B+3)),some (.ref (B+4)),some (.ref ld),some vf]
noncomputable def ct(B:Nat)(H:Hp)(r:cq):Prop:=∀Z:Prop,(∀(ld ep:Nat) (vf:V) (es:List (Int×V)) (a0:H[B]?=some (.bX (jB B ld vf))) (a1:H[B+1]?=some (.obj B)) (ap:H[B+2]?=some (.list (r.ps.map bv))) (am:H[B+3]?=some (.list (r.ms.map gI))) (aw:H[B+4]?=some (.list (r.ws.map ia))) (ad:H[ld]?=some (.dict ep es)) (hd:B+5<=ld) (de:∀e∈es,vy B H e.2),Z)->Z
theorem ct.mk{B:Nat}{H:Hp}{r:cq}(ld ep:Nat)(vf:V)(es:List (Int×V))(a0:H[B]?=some (.bX (jB B ld vf)))(a1:H[B+1]?=some (.obj B))(ap:H[B+2]?=some (.list (r.ps.map bv)))(am:H[B+3]?=some (.list (r.ms.map gI)))(aw:H[B+4]?=some (.list (r.ws.map ia)))(ad:H[ld]?=some (.dict ep es))(hd:B+5<=ld)(de:∀e∈es,vy B H e.2):ct B H r:=λZ k=>k ld ep vf es a0 a1 ap am aw ad hd de
theorem ct.ext{B:Nat}{H H':Hp}{r:cq}(b:ct B H r)(x:aC H H'):ct B H' r:=b _ λld ep vf es a0 a1 ap am aw ad hd de=>.mk ld ep vf es (x _ _ a0) (x _ _ a1) (x _ _ ap) (x _ _ am) (x _ _ aw) (x _ _ ad) hd λe he=>(de e he).k x.k
section
variable{n B i:Nat}{H:Hp}{Q:PQ}{fs:aP}{v:V}{A:Prop}
theorem eU{P:V->Prop}(a1:H[B+1]?=some (.obj B))(a0:H[B]?=some (.bX fs))(hi:fs[i]?.join=some v)(q:P v):aJ (cx H (.ref (B+1))) λt=>aJ (ph H t) λfs=>aJ (fs[i]?.join) λv=>P v:=ay (congrArg (Option.bind · oS) a1) (ay (congrArg (Option.bind · oU) a0) (ay hi q))
theorem mc(a1:H[B+1]?=some (.obj B))(a0:H[B]?=some (.bX fs))(h:A):aJ (cx H (.ref (B+1))) λt=>aJ (ph H t) λZ=>A:=ay (congrArg (Option.bind · oS) a1) (ay (congrArg (Option.bind · oU) a0) h)
theorem BF{P:Nat->aP->Prop}(a1:H[B+1]?=some (.obj B))(a0:H[B]?=some (.bX fs))(h:P B fs):aJ (cx H (.ref (B+1))) λt=>aJ (ph H t) λfs=>P t fs:=ay (congrArg (Option.bind · oS) a1) (ay (congrArg (Option.bind · oU) a0) h)
noncomputable def sc:V->Bool
 |.none=>true
 |.bool _=>true
 |.int _=>true
 |.str s=>PyData.strOk s
 |_=>false
noncomputable def wh:V->Int->Int->Bool
 |.int i,lo,hi=>decide (lo<=i)&&decide (i<=hi)
 |_,_,_=>false
theorem ox{lo hi:Int}(h:wh v lo hi=true):∃i,v=.int i/\lo<=i/\i<=hi:=by
 cases v with
 |int i=>exact⟨i,rfl,of_decide_eq_true (and_eq_true_iff.mp h).1,of_decide_eq_true (and_eq_true_iff.mp h).2⟩
 |_=>cases h
theorem yq{m:Nat}(h:wh v 0 ((m:Int) - 1)=true):∃k:Nat,v=nv k/\k<m:=(ox h).elim λi hi=>⟨i.toNat,by rw[hi.1];exact congrArg V.int (Int.toNat_of_nonneg hi.2.1).symm,by have:=hi.2;lia⟩
theorem BG{m k:Nat}(h:k<m):wh (nv k) 0 ((m:Int) - 1)=true:=and_eq_true_iff.mpr ⟨decide_eq_true (natCast_nonneg k),decide_eq_true (by lia)⟩
theorem yr{lo hi:Int}(hv:sc v=true)(q:Q (.bool (wh v lo hi)) H):aA (n+1) oI [v,.int lo,.int hi] H Q Y:=PF (by
 cases v with
 |int i=>
  have q:Q (.bool (decide (lo<=i)&&decide (i<=hi))) H:=q
  refine(?_:bx (decide (lo<=i)) (Q (.bool (decide (i<=hi))) H) (Q (.bool false) H))
  refine ck (λh=>?_) λh=>?_
  ·rw[h] at q;exact q
  ·rw[h] at q;exact q
 |aF _=>cases hv
 |ref _=>cases hv
 |dU=>cases hv
 |_=>exact q)
theorem ib{k:Nat}(h:Y (.ref H.length) (H++[.exc k])):xq Y (.ref H.length) (H++[.exc k]):=⟨(congrArg (λo=>isSome (Option.bind o mH)) (bj H (.exc k))).trans rfl,h⟩
theorem BH{ps:List aG}(a1:H[B+1]?=some (.obj B))(a0:H[B]?=some (.bX fs))(hf:fs[0]?.join=some (.ref (B+2)))(ap:H[B+2]?=some (.list (ps.map bv)))(hv:sc v=true)(q:wh v 0 ((ps.length:Int) - 1)=true->Q .none H)(y:wh v 0 ((ps.length:Int) - 1)=false->Y (.ref H.length) (H++[.exc 0])):aA (n+2) gP [.ref (B+1),v] H Q Y:=Qa (by
 refine eU (i:=0) a1 a0 hf ?_
 apply ay (b7 ap)
 rw[length_map]
 refine bP (yr hv ?_)
 refine(?_:bx (!wh v 0 ((ps.length:Int) - 1)) _ _)
 refine ck (λh=>ib (y (by rw[not_eq_true'] at h;exact h))) λh=>q (by rw[not_eq_false'] at h;exact h))
theorem BI(hv:sc v=true)(q:wh v 0 100000=true->Q .none H)(y:wh v 0 100000=false->Y (.ref H.length) (H++[.exc 1])):aA (n+2) km [v] H Q Y:=PG (by
 refine bP (yr hv ?_)
 refine(?_:bx (!wh v 0 100000) _ _)
 refine ck (λh=>ib (y (by rw[not_eq_true'] at h;exact h))) λh=>q (by rw[not_eq_false'] at h;exact h))
theorem ints_map:∀is:List Int,allInts (is.map .int)=some is
 |[]=>rfl
 |a::r=>by
  refine(?_:(allInts (r.map .int)).map (a::·)=_)
  rw[ints_map r];rfl
theorem SU{l:Nat}{is:List Int}(h:H[l]?=some (.list (is.map .int)))(hl:is.length<=1000)(q:∀t,(t=false↔is.Nodup)->Q (.bool t) H):aA (n+1) mC [.ref l] H Q Y:=PH (by
 have e:jO H (.ref l)=some is:=(congrArg (Option.bind · allInts) (b7 h)).trans (ints_map is)
 apply ay e
 refine⟨hl,λm hm=>?_⟩
 apply ay (b7 h)
 rw[length_map]
 refine(?_:Q (.bool (!((m:Int)==(is.length:Int)))) H)
 refine q _ ?_
 rw[<-hm,not_eq_false',beq_iff_eq]
 exact⟨ofNat.inj,congrArg _⟩)
end
theorem BJ{α:Type}{g:α->V}{ws:List Nat}{H₀ H:Hp}{t:cN}{K:Out->Prop}{body:aP->Hp->(Out->Prop)->Prop}{ok:α->Bool}{R:aP->Prop}{as:List α}(st:eF ws H₀ H=true)
  (step:∀a,a∈as->∀ρ,R ρ->aJ (aN t (g a) ρ) λbV=>∀N:aP->Hp->Prop,(ok a=true->∀fj,R fj->N fj H)->body bV H (mJ K N)) (fin:as.all ok=true->∀ρ,R ρ->K (.next ρ H)) {ρ:aP} (h:R ρ):md ws H₀ t body (as.map g) ρ H K:=by
 refine ft (λbs ρ H'=>H'=H/\R ρ/\∃pre,pre++bs=as/\pre.all ok=true) (λa bs ρ H' hI=>?_) (λρ H' hI=>?_) as ρ H ⟨rfl,h,[],rfl,rfl⟩
 ·obtain⟨rfl,hr,pre,e,hp⟩:=hI
  exact tm (step a (e▸mem_append.mpr (.inr mem_cons_self)) ρ hr) λbV hb N hN=>hb N λvz fj fk=>hN _ _ st ⟨rfl,fk,pre++[a],by rw[append_assoc];exact e,by rw[List.all_append,hp,List.all_cons,vz];rfl⟩
 ·obtain⟨rfl,hr,pre,e,hp⟩:=hI
  rw[append_nil] at e
  exact fin (e▸hp) ρ hr
end Mine.L
namespace Mine.L
variable{Y:PQ}
open Mine.P PySem
section
variable{n B l:Nat}{H:Hp}{Q:PQ}{fs:aP}{v:V}{A:Prop}
noncomputable def eO(ps:List aG):List Nat:=(List.range ps.length).filter (gx ps)
theorem G8{ps:List aG}{k:Nat}(h:k∈eO ps):∃p d,ps[k]?=some p/\p.bM=some d:=by
 have h:=mem_filter.mp h
 refine(at_of (mem_range.mp h.1)).elim λp hp=>?_
 have h2:=h.2
 unfold gx at h2
 rw[hp] at h2
 exact(isSome_iff_exists.mp h2).elim λd hd=>⟨p,d,hp,hd⟩
theorem SV{ps:List aG}(a1:H[B+1]?=some (.obj B))(a0:H[B]?=some (.bX fs))(hf:fs[0]?.join=some (.ref (B+2)))(ap:H[B+2]?=some (.list (ps.map bv)))(hl:ps.length<=60)(q:Q (.ref H.length) (H++[.list (aV (eO ps))])):aA (n+1) zc [.ref (B+1)] H Q Y:=Ql (by
 refine eU (i:=0) a1 a0 hf ?_
 apply ay (b7 ap)
 rw[length_map]
 refine mq (lt_of_le_of_lt hl (by decide)) ?_
 refine cz (cF (by rw[length_map,length_range];exact lt_of_le_of_lt hl (by decide))) ?_
 refine gV (P:=gx ps) (F:=nv) _ _ _ (λa ha T hT=>?_) (λa Z Z N hN=>hN) q
 refine(at_of (mem_range.mp ha)).elim λp hp=>?_
 refine(?_:aJ (cx H (.ref (B+1))) _)
 refine eU (i:=0) a1 a0 hf ?_
 apply ay (du ap hp)
 unfold gx at hT
 rw[hp] at hT
 have hT:T p.bM.isSome H:=hT
 unfold bv
 cases hd:p.bM with
 |none=>rw[hd] at hT;exact hT
 |some d=>rw[hd] at hT;exact hT)
noncomputable def G9:Option Nat->PyData
 |none=>.none
 |some k=>.int k
noncomputable def SW(r:eZ):PyData:=.tuple [G9 r.i8,pT r.part,.str r.how,A4 r.line]
theorem SX{P:Nat->Prop}{r:eZ}(h:BE P H r v)(ok:pX r):rd H 9 v=some (SW r):=h.elim λl h=>by
 rw[h.2.1]
 refine congrArg (Option.map PyData.tuple) (eJ (d:=G9 r.i8) ?_ (eJ (A5 _ _) (eJ (d:=.str r.how) (show rd H 8 (.str r.how)=some (.str r.how) from if_pos ok.1) (eJ (Gq h.2.2) rfl))))
 cases r.i8<;>rfl
theorem Ha{P:Nat->Prop}(h:gL P H v):jP H v=none/\∃d,rd H 10 v=some d:=by
 obtain⟨lr,vs,rs,rfl,_,a,hr,ok⟩:=h
 have key:∀{rs:List eZ} {vs:List V},cm (BE P H) rs vs->(∀x∈rs,pX x)->∃ds,eA (rd H 9) vs=some ds:=λhr=>hr.rec (motive:=λrs vs Z=>(∀x∈rs,pX x)->∃ds,eA (rd H 9) vs=some ds) (λZ=>⟨[],rfl⟩) λh Z ih ok=>(ih λx hx=>ok x (.tail _ hx)).elim λds e=>⟨_,eJ (SX h (ok _ mem_cons_self)) e⟩
 exact⟨none_list a,(key hr ok).elim λds e=>⟨_,ni a e⟩⟩
theorem SY{P P':Nat->Prop}{u:V}(h:gL P H v)(h':gL P' H u):∃t,eD .ne v u H=some t:=by
 obtain⟨h1,d,h2⟩:=Ha h
 obtain⟨_,d',h3⟩:=Ha h'
 refine⟨!PyData.eqv d d',?_⟩
 refine(?_:(jQ H v u).map (!·)=_)
 unfold jQ
 rw[h1,h2,h3];rfl
theorem Hc{ep:Nat}{es:List (Int×V)}(h:H[l]?=some (.dict ep es)):jN H (.ref l)=some es:=congrArg (Option.bind · gQ) h
theorem SZ{es:List (Int×V)}{k:Int}(h:iZ es k=true):∃e,e∈es/\fX es k=some e.2:=by
 unfold iZ at h
 unfold fX
 cases hf:es.find? (λp=>decide (p.1=k)) with
 |none=>
  obtain⟨e,he,h2⟩:=any_eq_true.mp h
  exact absurd h2 (List.find?_eq_none.mp hf e he)
 |some e=>exact⟨e,List.mem_of_find?_eq_some hf,rfl⟩
theorem S5{es:List (Int×V)}{k:Int}{P:V->Prop}(h:∀e∈es,P e.2)(hv:P v):∀e∈dput es k v,P e.2:=by
 unfold dput
 split
 ·exact λe he=>(mem_map.mp he).elim λx hx=>by
   rw[<-hx.2]
   split
   ·exact hv
   ·exact h x hx.1
 ·exact λe he=>(mem_append.mp he).elim (h e) λhe=>by rw[mem_singleton.mp he];exact hv
theorem S6(es:List (Int×V))(k:Int)(v:V):(dput es k v).length<=es.length+1:=by
 unfold dput
 split
 ·rw[length_map];exact le_succ _
 ·rw[length_append];exact le_refl _
end
end Mine.L
namespace Mine.L
variable{Y:PQ}
open Mine.P PySem
section
variable{n B l:Nat}{H:Hp}{Q:PQ}{K:Out->Prop}{rest:List S}{r:cq}
theorem S7{ep:Nat}{es:List (Int×V)}{k:Nat}(h:H[l]?=some (.dict ep es)):oY H (nv k) (.ref l)=some (iZ es (k:Int)):=by
 refine(?_:(match jN H (.ref l) with|some es=>(intOf (nv k)).map λk=>iZ es k|none=>_)=_)
 rw[Hc h];rfl
theorem S8{ep:Nat}{es:List (Int×V)}{k:Nat}{v:V}(h:H[l]?=some (.dict ep es))(hg:fX es (k:Int)=some v):fh (.ref l) (nv k) H=some v:=by
 have e:dt H (.ref l)=none:=by
  refine(?_:H[l]?.bind oR=none)
  rw[h];rfl
 refine(?_:(match dt H (.ref l) with|some vs=>_|none=>(jN H (.ref l)).bind λes=>fX es (k:Int))=_)
 rw[e,Hc h];exact hg
noncomputable def Pd(B lf:Nat)(l:Nat):Prop:=B+5<=l/\l≠lf/\l≠lf+1
noncomputable def BK(B lf lc ld:Nat)(D:List Nat)(r:cq)(H₀:Hp)(as:List Nat)(ρ:aP)(H':Hp):Prop:=∀Z:Prop,(∀(o2 o3:Option V) (oz ep:Nat) (j4 es:List (Int×V)) (fr:List Nat) (e:ρ=[some (.ref (B+1)),some (.ref (lf+1)),o2,o3]) (x:cG B H₀ H') (a0:H'[B]?=some (.bX (jB B ld (.ref lf)))) (a1:H'[B+1]?=some (.obj B)) (at':cP H' r (B+2) (B+3) (B+4)) (ad:H'[ld]?=some (.dict oz j4)) (de:∀e∈j4,gL (Pd B lf) H' e.2) (af:H'[lf]?=some (.list (aV fr))) (an:H'[lf+1]?=some (.dict ep es)) (dn:∀e∈es,gL (Pd B lf) H' e.2) (ac:H'[lc]?=some (.list (aV D))) (len:fr.length+as.length<=60/\es.length+as.length<=60) (mem:∀k∈as,k∈eO r.ps),Z)->Z
theorem BK.mk{B lf lc ld:Nat}{D:List Nat}{r:cq}{H₀:Hp}{as:List Nat}{ρ:aP}{H':Hp}(o2 o3:Option V)(oz ep:Nat)(j4 es:List (Int×V))(fr:List Nat)(e:ρ=[some (.ref (B+1)),some (.ref (lf+1)),o2,o3])(x:cG B H₀ H')(a0:H'[B]?=some (.bX (jB B ld (.ref lf))))(a1:H'[B+1]?=some (.obj B))(at':cP H' r (B+2) (B+3) (B+4))(ad:H'[ld]?=some (.dict oz j4))(de:∀e∈j4,gL (Pd B lf) H' e.2)(af:H'[lf]?=some (.list (aV fr)))(an:H'[lf+1]?=some (.dict ep es))(dn:∀e∈es,gL (Pd B lf) H' e.2)(ac:H'[lc]?=some (.list (aV D)))(len:fr.length+as.length<=60/\es.length+as.length<=60)(mem:∀k∈as,k∈eO r.ps):BK B lf lc ld D r H₀ as ρ H':=λZ k=>k o2 o3 oz ep j4 es fr e x a0 a1 at' ad de af an dn ac len mem
theorem cG.new{B:Nat}{H H':Hp}(x:cG B H H'){m:Nat}(h:H.length<=m)(c:aZ):cG B H (H'.set m c):=λl c' n e=>dF (x l c' n e) c λq=>absurd (cu e) (not_lt.mpr (q▸h))
noncomputable abbrev S9:S:=.ba (.or [(.cmp .iT (.J 2) (.attr (.J 0) 3)),(.cmp .ne (.aE (.attr (.J 0) 3) (.J 2)) (.J 3))]) [.expr (.c8 .append (.attr (.J 0) 4) [.J 2])] []
theorem Ta{C:Ct}{ld lf k oz:Nat}{j4:List (Int×V)}{fr:List Nat}{v:V}{ρ:aP}(Tb:ρ=[some (.ref (B+1)),some (.ref (lf+1)),some (nv k),some v])(a0:H[B]?=some (.bX (jB B ld (.ref lf))))(a1:H[B+1]?=some (.obj B))(ad:H[ld]?=some (.dict oz j4))(de:∀e∈j4,gL (Pd B lf) H e.2)(hv:gL (Pd B lf) H v)(af:H[lf]?=some (.list (aV fr)))(hl:fr.length<=60)
  (h1:aM C rest ρ H K) (h2:aM C rest ρ (H.set lf (.list (aV (fr++[k])))) K):aM C (S9::rest) ρ H K:=by
 subst Tb
 have yes:aM C [.expr (.c8 .append (.attr (.J 0) 4) [.J 2])] [some (.ref (B+1)),some (.ref (lf+1)),some (nv k),some v] H (λo=>jn o (λρ H=>aM C rest ρ H K) (K o)):=by
  refine eU (i:=4) a1 a0 rfl ?_
  refine fS af (f9 af (by rw[length_map];exact lt_of_le_of_lt hl (by decide)) ?_)
  rw[<-rq] at h2
  exact h2
 refine eU (i:=3) a1 a0 rfl ?_
 have e1:eD .iT (nv k) (.ref ld) H=some (!iZ j4 (k:Int)):=congrArg (Option.map (!·)) (S7 ad)
 apply ay e1
 refine(?_:bx ((!iZ j4 (k:Int))==false) _ _)
 refine iG (λh=>?_) λh=>fH h yes
 rw[not_eq_false'] at h
 obtain⟨e,he,hg⟩:=SZ h
 refine eU (i:=3) a1 a0 rfl ?_
 apply ay (S8 ad hg)
 obtain⟨t,ht⟩:=SY (de e he) hv
 apply ay ht
 refine(?_:bx t _ _)
 exact ck (λZ=>yes) λZ=>h1
theorem vA(hl:r.ps.length<=60)(hr:eO r.ps=[]\/cX r)(b:ct B H r)(q:∀H',cG B H H'->ct B H' r->Q .none H'):aA (n+68) qt [.ref (B+1)] H Q Y:=Qc (b _ λld ep vf es a0 a1 ap am aw ad hd de=>by
 have hB:B+5<=H.length:=le_trans hd (le_of_lt (cu ad))
 refine(?_:aJ (cx (H++[aZ.list []]) (.ref (B+1))) _)
 refine BF (be _ a1) (be _ a0) ?_
 have dg:((H++[aZ.list []]).set B (.bX ((jB B ld vf).set 4 (some (.ref H.length))))).length=H.length+1:=by rw[length_set,length_append];rfl
 have x1:cG B H ((H++[aZ.list []]).set B (.bX ((jB B ld vf).set 4 (some (.ref H.length))))):=(aC.aR _ _).k.trans (cG.set _ (le_refl _) (by lia) _)
 have b0:((H++[aZ.list []]).set B (.bX ((jB B ld vf).set 4 (some (.ref H.length)))))[B]?=some (.bX (jB B ld (.ref H.length))):=dN (be _ a0) _
 have ne:∀{l c},B≠l->H[l]?=some c->((H++[aZ.list []]).set B (.bX ((jB B ld vf).set 4 (some (.ref H.length)))))[l]?=some c:=λhn h=>dF (be _ h) _ hn
 have bf:((H++[aZ.list []]).set B (.bX ((jB B ld vf).set 4 (some (.ref H.length)))))[H.length]?=some (.list (aV [])):=dF (bj _ _) _ (by lia)
 have b1:=ne (by lia) a1
 have bp:=ne (by lia) ap
 have bm:=ne (by lia) am
 have bw:=ne (by lia) aw
 have bd:=ne (by lia) ad
 have Tc:∀e∈es,gL (Pd B H.length) ((H++[aZ.list []]).set B (.bX ((jB B ld vf).set 4 (some (.ref H.length))))) e.2:=λe he=>((de e he).wk (P':=λl=>Pd B H.length l/\l<H.length) λl hl h=>⟨⟨h,by lia,by lia⟩,hl⟩).k (λl c h a=>x1 l c (.inr h.1.1) a) |>.wk λl Z h=>h.1
 generalize ((H++[aZ.list []]).set B (.bX ((jB B ld vf).set 4 (some (.ref H.length)))))=H1 at *
 refine(?_:aJ (cx (H1++[aZ.dict 0 []]) (.ref (B+1))) _)
 refine mc (be _ b1) (be _ b0) ?_
 refine bP (SV (n:=n+66) (be _ b1) (be _ b0) rfl (be _ bp) hl ?_)
 have x2:aC H1 (H1++[aZ.dict 0 []]++[aZ.list (aV (eO r.ps))]):=(aC.aR _ _).trans (aC.aR _ _)
 have bn:(H1++[aZ.dict 0 []]++[aZ.list (aV (eO r.ps))])[H.length+1]?=some (.dict 0 []):=be _ (dg▸bj _ _)
 have bc:=bj (H1++[aZ.dict 0 []]) (.list (aV (eO r.ps)))
 have Td:(H1++[aZ.dict 0 []]).length=H.length+2:=by rw[length_append,dg];rfl
 have Hd:(eO r.ps).length<=60:=le_trans (length_filter_le _ _) (by rw[length_range];exact hl)
 rw[Td] at bc ⊢
 rw[dg]
 generalize H1++[aZ.dict 0 []]++[aZ.list (aV (eO r.ps))]=H2 at *
 apply ay (cW bc)
 have BL:=cu ad
 refine ft (BK B H.length (H.length+2) ld (eO r.ps) r H) (λk as ρ H' h=>?_) (λρ H' h=>?_) _ _ _ (.mk none none ep 0 es [] [] rfl (x1.trans x2.k) (x2 _ _ b0) (x2 _ _ b1) (.mk (x2 _ _ bp) (x2 _ _ bm) (x2 _ _ bw)) (x2 _ _ bd) (λe he=>(Tc e he).k λl c Z a=>x2 l c a) (x2 _ _ bf) bn (λZ h=>(nomatch h)) bc ⟨by rw[length_nil,zero_add];exact Hd,by rw[length_nil,zero_add];exact Hd⟩ λk h=>h)
 ·refine h _ λo2 o3 oz ep j4 es fr e x a0 a1 at' ad de af an dn ac len mem=>?_
  subst e
  refine λN hN=>?_
  have hk:=mem k mem_cons_self
  have ok:cX r:=hr.resolve_left λe=>by rw[e] at hk;cases hk
  rw[length_cons] at len
  obtain⟨p,d,hp,nX⟩:=G8 hk
  refine(?_:aJ (cx H' (.ref (B+1))) _)
  refine eU (i:=0) a1 a0 rfl (eU (i:=1) a1 a0 rfl (eU (i:=2) a1 a0 rfl ?_))
  refine bP (Rv (n:=n) ok at' hp nX λdok Z lr vs H₂ lJ b6 ar dr=>?_)
  have hH:H.length+2<H'.length:=cu ac
  have hv:gL (Pd B H.length) H₂ (.ref lr):=⟨lr,vs,_,rfl,⟨by lia,by lia,by lia⟩,ar,dr.imp λZ Z z=>z _ λl hb hn e a=>⟨l,⟨by lia,by lia,by lia⟩,e,a⟩,dok⟩
  have He:∀{H₃:Hp} {fr':List Nat},fr'.length<=fr.length+1->(∀l c,l≠H.length->H₂[l]?=some c->H₃[l]?=some c)->H₃[H.length]?=some (.list (aV fr'))->cG B H H₃->aM ⟨aA (n+67),xq (xq Y)⟩ [.iU (.J 1) (.J 2) (.J 3)] [some (.ref (B+1)),some (.ref (H.length+1)),some (nv k),some (.ref lr)] H₃ (λo=>jn o N False):=λ{H₃ fr'} hf x3 Te xb=>by
   have up:∀{l c},l≠H.length->H'[l]?=some c->H₃[l]?=some c:=λhn h=>x3 _ _ hn (b6 _ _ h)
   have Hf:=up (by lia) an
   refine ay Hf (cz (cF (by have:=len.2;lia)) λpn=>?_)
   have un:∀{l c},l≠H.length->l≠H.length+1->H'[l]?=some c->(H₃.set (H.length+1) (.dict pn (dput es (k:Int) (.ref lr))))[l]?=some c:=λh1 h2 h=>dF (up h1 h) _ (Ne.symm h2)
   have dk:∀{v},gL (Pd B H.length) H₂ v->gL (Pd B H.length) (H₃.set (H.length+1) (.dict pn (dput es (k:Int) (.ref lr)))) v:=λh=>h.k λl c hl a=>dF (x3 l c hl.2.1 a) _ (Ne.symm hl.2.2)
   refine hN _ _ (c9 bc (un (by lia) (by lia) ac)) (.mk _ _ oz pn j4 (dput es (k:Int) (.ref lr)) fr' rfl (xb.new (by lia) _) (un (by lia) (by lia) a0) (un (by lia) (by lia) a1) (at' _ λz1 z2 z3=>.mk (un (by lia) (by lia) z1) (un (by lia) (by lia) z2) (un (by lia) (by lia) z3)) (un (by lia) (by lia) ad) (λe he=>dk ((de e he).k λl c Z a=>b6 l c a)) (dF Te _ (by lia)) (dN Hf _) (S5 (λe he=>dk ((dn e he).k λl c Z a=>b6 l c a)) (dk hv)) (un (by lia) (by lia) ac) ⟨by have:=len.1;lia,by have:=S6 es (k:Int) (.ref lr);have:=len.2;lia⟩ λj hj=>mem j (.tail _ hj))
  refine Ta rfl (b6 _ _ a0) (b6 _ _ a1) (b6 _ _ ad) (λe he=>(de e he).k λl c Z a=>b6 l c a) hv (b6 _ _ af) (by have:=len.1;lia) ?_ ?_
  ·exact He (le_succ _) (λl c Z a=>a) (b6 _ _ af) (x.trans b6.k)
  ·exact He (fr':=fr++[k]) (by rw[length_append];exact le_refl _) (λl c hn a=>dF a _ (Ne.symm hn)) (dN (b6 _ _ af) _) ((x.trans b6.k).new (le_refl _) _)
 ·refine h _ λo2 o3 oz ep j4 es fr e x a0 a1 at' ad de af an dn ac len mem=>?_
  subst e
  refine(?_:aJ (cx H' (.ref (B+1))) _)
  refine BF a1 a0 ?_
  have un:∀{l c},B≠l->H'[l]?=some c->(H'.set B (.bX (jB B (H.length+1) (.ref H.length))))[l]?=some c:=λh1 h=>dF h _ h1
  have xx:cG B H' (H'.set B (.bX (jB B (H.length+1) (.ref H.length)))):=cG.set _ (le_refl _) (by lia) _
  exact q _ (x.trans xx) (at' _ λz1 z2 z3=>.mk (H.length+1) ep (.ref H.length) es (dN a0 _) (un (by lia) a1) (un (by lia) z1) (un (by lia) z2) (un (by lia) z3) (un (by lia) an) (by lia) λe he=>((dn e he).k λl c hl a=>xx l c (.inr hl.1) a).wk λl Z h=>h.1))
end
end Mine.L
namespace Mine.L
variable{Y:PQ}
open Mine.P PySem
section
variable{n B l lq:Nat}{H:Hp}{Q:PQ}{K:Out->Prop}{rest:List S}{r:cq}{v:V}{vs:List V}{fs:aP}
theorem ct.put(b:ct B H r)(ps:List aG):cG B H (H.set (B+2) (.list (ps.map bv)))/\ct B (H.set (B+2) (.list (ps.map bv))) ⟨ps,r.ms,r.ws⟩:=b _ λld ep vf es a0 a1 ap am aw ad hd de=>by
 have xx:cG B H (H.set (B+2) (.list (ps.map bv))):=cG.set _ (by lia) (by lia) _
 have ne:∀{l c},B+2≠l->H[l]?=some c->(H.set (B+2) (.list (ps.map bv)))[l]?=some c:=λhn h=>dF h _ hn
 exact⟨xx,.mk ld ep vf es (ne (by lia) a0) (ne (by lia) a1) (dN ap _) (ne (by lia) am) (ne (by lia) aw) (ne (by lia) ad) hd λe he=>(de e he).k xx⟩
theorem ct.Tf(b:ct B H r)(ms:List dP):cG B H (H.set (B+3) (.list (ms.map gI)))/\ct B (H.set (B+3) (.list (ms.map gI))) ⟨r.ps,ms,r.ws⟩:=b _ λld ep vf es a0 a1 ap am aw ad hd de=>by
 have xx:cG B H (H.set (B+3) (.list (ms.map gI))):=cG.set _ (by lia) (by lia) _
 have ne:∀{l c},B+3≠l->H[l]?=some c->(H.set (B+3) (.list (ms.map gI)))[l]?=some c:=λhn h=>dF h _ hn
 exact⟨xx,.mk ld ep vf es (ne (by lia) a0) (ne (by lia) a1) (ne (by lia) ap) (dN am _) (ne (by lia) aw) (ne (by lia) ad) hd λe he=>(de e he).k xx⟩
theorem ct.Tg(b:ct B H r)(ws:List gf):cG B H (H.set (B+4) (.list (ws.map ia)))/\ct B (H.set (B+4) (.list (ws.map ia))) ⟨r.ps,r.ms,ws⟩:=b _ λld ep vf es a0 a1 ap am aw ad hd de=>by
 have xx:cG B H (H.set (B+4) (.list (ws.map ia))):=cG.set _ (by lia) (by lia) _
 have ne:∀{l c},B+4≠l->H[l]?=some c->(H.set (B+4) (.list (ws.map ia)))[l]?=some c:=λhn h=>dF h _ hn
 exact⟨xx,.mk ld ep vf es (ne (by lia) a0) (ne (by lia) a1) (ne (by lia) ap) (ne (by lia) am) (dN aw _) (ne (by lia) ad) hd λe he=>(de e he).k xx⟩
theorem Hg{k:Nat}{p:aG}(b:ct B H r)(hk:k<r.ps.length)(q:∀H',cG B H H'->ct B H' ⟨r.ps.set k p,r.ms,r.ws⟩->Q .none H'):aA (n+1) sj [.ref (B+1),nv k,bv p] H Q Y:=Qb (b _ λld ep vf es a0 a1 ap am aw ad hd de=>by
 refine(?_:aJ (cx H (.ref (B+1))) _)
 refine eU (i:=0) a1 a0 rfl ?_
 refine Bo ap (by rw[length_map];exact hk) ?_
 have z:=b.put (r.ps.set k p)
 rw[map_set] at z
 exact q _ z.1 z.2)
theorem Th(b:ct B H r)(hl:r.ps.length<=60/\r.ms.length<=1000/\r.ws.length<=1000)(q:∀a c d H',aC H H'->cP H' r a c d->Q (.aF [.ref a,.ref c,.ref d]) H'):aA (n+1) ub [.ref (B+1)] H Q Y:=Qk (b _ λld ep vf es a0 a1 ap am aw ad hd de=>by
 refine(?_:aJ (cx H (.ref (B+1))) _)
 refine eU (i:=0) a1 a0 rfl ?_
 apply ay (mm ap)
 refine cz (cF (by rw[length_map];exact lt_of_le_of_lt hl.1 (by decide))) ?_
 refine(?_:aJ (cx (H++_) (.ref (B+1))) _)
 refine eU (i:=1) (be _ a1) (be _ a0) rfl ?_
 apply ay (mm (be _ am))
 refine cz (cF (by rw[length_map];exact lt_of_le_of_lt hl.2.1 (by decide))) ?_
 refine(?_:aJ (cx (H++_++_) (.ref (B+1))) _)
 refine eU (i:=2) (be _ (be _ a1)) (be _ (be _ a0)) rfl ?_
 apply ay (mm (be _ (be _ aw)))
 refine cz (cF (by rw[length_map];exact lt_of_le_of_lt hl.2.2 (by decide))) ?_
 exact q _ _ _ _ ((aC.aR _ _).trans ((aC.aR _ _).trans (aC.aR _ _))) (.mk (be _ (be _ (bj _ _))) (be _ (bj _ _)) (bj _ _)))
noncomputable def gy(ps:List aG)(vs:List V):Bool:=vs.all λv=>wh v 0 ((ps.length:Int) - 1)
noncomputable def natOf:V->Nat
 |.int i=>i.toNat
 |_=>0
noncomputable def cM:V->Int
 |.int i=>i
 |_=>0
theorem oA{ps:List aG}:∀{vs:List V},gy ps vs=true->vs=aV (vs.map natOf)/\∀k∈vs.map natOf,k<ps.length
 |[],_=>⟨rfl,λZ h=>nomatch h⟩
 |v::r,h=>by
  have h:=and_eq_true_iff.mp (show(wh v 0 ((ps.length:Int) - 1)&&gy ps r)=true from h)
  obtain⟨k,rfl,hk⟩:=yq h.1
  have ih:=oA h.2
  refine⟨congrArg (nv k::·) ih.1,λj hj=>(mem_cons.mp hj).elim (λe=>?_) (ih.2 j)⟩
  rw[e];exact hk
noncomputable def iL(ps:List aG)(k:Nat):Int:=(ps[k]?).elim 0 (·.aQ)
noncomputable def dj(ps:List aG)(ks:List Nat)(d:Int):Bool:=(decide (2<ks.length)||decide (¬ks.Nodup))||ks.any λk=>decide (iL ps k≥d)
noncomputable def eV(ps:List aG)(v:V)(vs:List V):Option Nat:=if gy ps vs then(if wh v 0 100000 then(if dj ps (vs.map natOf) (cM v) then some 2 else if 60<=ps.length then some 6 else none) else some 1) else some 0
theorem Hh{C:Ct}{ps:List aG}{ρf:Option V->aP}{j:Nat}(a1:H[B+1]?=some (.obj B))(a0:H[B]?=some (.bX fs))(hf:fs[0]?.join=some (.ref (B+2)))(ap:H[B+2]?=some (.list (ps.map bv)))(hq:H[lq]?=some (.list vs))(hs:∀v∈vs,sc v=true)(hC:C.call=aA (n+2))(hx:xq C.exc=Y)(h0:∀o,(ρf o)[0]?.join=some (.ref (B+1)))(hj:∀v,(ρf (some v))[j]?.join=some v)(ha:∀v o,aN (.J j) v (ρf o)=some (ρf (some v))){o:Option V}
  (y:gy ps vs=false->Y (.ref H.length) (H++[.exc 0])) (q:gy ps vs=true->∀o,K (.next (ρf o) H)):md [lq] H (.J j) (λρ H K=>aM C.xq [.expr (.dG gP (.J 0) [(.J j)])] ρ H K) vs (ρf o) H K:=by
 have e:vs=vs.map id:=(map_id vs).symm
 have key:=BJ (g:=id) (as:=vs) (ws:=[lq]) (H₀:=H) (H:=H) (t:=.J j) (K:=K) (body:=λρ H K=>aM C.xq [.expr (.dG gP (.J 0) [(.J j)])] ρ H K) (ok:=λv=>wh v 0 ((ps.length:Int) - 1)) (R:=λρ=>∃o,ρ=ρf o) (c9 hq hq) (λv hv ρ hr=>?_) (λBM ρ hr=>hr.elim λo e=>e▸q BM o) (ρ:=ρf o) ⟨o,rfl⟩
 ·rw[<-e] at key;exact key
 ·obtain⟨o,rfl⟩:=hr
  refine ay (ha v o) λN hN=>?_
  refine ay (h0 _) (mc a1 a0 (ay (hj v) ?_))
  refine(?_:C.call gP [.ref (B+1),v] H (λZ H=>mJ K N (.next (ρf (some v)) H)) (xq C.exc))
  rw[hC]
  refine BH a1 a0 hf ap (hs v hv) (λh=>hN h _ ⟨_,rfl⟩) λh=>?_
  rw[hx]
  refine y ?_
  cases hh:gy ps vs with
  |false=>rfl
  |true=>exact absurd (h.symm.trans (all_eq_true.mp hh v hv)) Bool.false_ne_true
end
end Mine.L
namespace Mine.L
variable{Y:PQ}
open Mine.P PySem
section
variable{n B l lq:Nat}{H:Hp}{Q:PQ}{K:Out->Prop}{rest:List S}{r:cq}{v:V}{vs:List V}{fs:aP}{ks:List Nat}{d:Int}{ρ:aP}{Ex:PQ}
theorem Ti(ks:List Nat):aV ks=(ks.map λk:Nat=>(k:Int)).map V.int:=by rw[map_map];rfl
theorem BN(h:H[l]?=some (.list (aV ks)))(hl:ks.length<=1000)(q:Q (.bool (decide (¬ks.Nodup))) H):aA (n+1) mC [.ref l] H Q Y:=by
 rw[Ti] at h
 refine SU h (by rw[length_map];exact hl) λt ht=>?_
 have e:(ks.map λk:Nat=>(k:Int)).Nodup↔ks.Nodup:=⟨λh=>Pairwise.of_map _ (λa b hn e=>hn (congrArg _ e)) h,λh=>Pairwise.map _ (λa b hn e=>hn (ofNat.inj e)) h⟩
 rw[e] at ht
 cases t with
 |false=>rw[decide_eq_false (λh=>h (ht.mp rfl))] at q;exact q
 |true=>rw[show decide (¬ks.Nodup)=true from decide_eq_true λh=>absurd (ht.mpr h) (by decide)] at q;exact q
theorem Tl{C:Ct}{j:Nat}{w:Str}(hC:C.call=aA (n+1))(hj:ρ[j]?.join=some (.ref lq))(hq:H[lq]?=some (.list (aV ks)))(hl:ks.length<=1000)(y:(decide (2<ks.length)||decide (¬ks.Nodup))=true->C.exc (.ref H.length) (H++[.exc 2]))(h:(decide (2<ks.length)||decide (¬ks.Nodup))=false->aM C rest ρ H K):aM C (.ba (.or [(.cmp .gt (.bi .len [(.J j)]) (.k (.int 2))),(.call mC [(.J j)])]) [.raise 2 w] []::rest) ρ H K:=by
 refine ay hj (ay (b7 hq) ?_)
 have e:(decide (((aV ks).length:Int)>2))=decide (2<ks.length):=by
  rw[length_map]
  exact decide_eq_decide.mpr ⟨λh=>by lia,λh=>by lia⟩
 refine(?_:bx (decide (((aV ks).length:Int)>2)==false) _ _)
 refine iG (λh1=>?_) λh1=>fH h1 (y (by rw[<-e,h1];rfl))
 rw[e] at h1
 refine ay hj ?_
 refine(?_:C.call mC [.ref lq] H _ C.exc)
 rw[hC]
 refine BN hq hl ?_
 refine(?_:bx (decide (¬ks.Nodup)) _ _)
 exact ck (λh2=>y (by rw[h2,Bool.or_true])) λh2=>h (by rw[h1,h2];rfl)
theorem Hi{k:Nat}{ps:List aG}(ap:H[l]?=some (.list (ps.map bv)))(hk:k<ps.length):∃p,ps[k]?=some p/\iL ps k=p.aQ/\fh (.ref l) (nv k) H=some (bv p):=(at_of hk).elim λp hp=>⟨p,hp,by unfold iL;rw[hp];rfl,du ap hp⟩
theorem Hj{C:Ct}{ps:List aG}{ρf:Option V->aP}{j jd:Nat}{w:Str}(a1:H[B+1]?=some (.obj B))(a0:H[B]?=some (.bX fs))(hf:fs[0]?.join=some (.ref (B+2)))(ap:H[B+2]?=some (.list (ps.map bv)))(hq:H[lq]?=some (.list (aV ks)))(hk:∀k∈ks,k<ps.length)(h0:∀o,(ρf o)[0]?.join=some (.ref (B+1)))(hj:∀v,(ρf (some v))[j]?.join=some v)(hd:∀o,(ρf o)[jd]?.join=some (.int d))(ha:∀v o,aN (.J j) v (ρf o)=some (ρf (some v))){o:Option V}
  (y:(ks.any λk=>decide (iL ps k≥d))=true->xq C.exc (.ref H.length) (H++[.exc 2])) (q:(ks.any λk=>decide (iL ps k≥d))=false->∀o,K (.next (ρf o) H)):md [lq] H (.J j) (λρ H K=>aM C.xq [.ba (.cmp .ge (.aE (.aE (.attr (.J 0) 0) (.J j)) (.k (.int 0))) (.J jd)) [.raise 2 w] []] ρ H K) (aV ks) (ρf o) H K:=by
 refine BJ (g:=nv) (as:=ks) (ok:=λk=>!decide (iL ps k≥d)) (R:=λρ=>∃o,ρ=ρf o) (c9 hq hq) (λk mw ρ hr=>?_) (λBM ρ hr=>hr.elim λo e=>e▸q ?_ o) ⟨o,rfl⟩
 ·obtain⟨o,rfl⟩:=hr
  refine ay (ha _ o) λN hN=>?_
  obtain⟨p,hp,eb,ix⟩:=Hi ap (hk k mw)
  refine ay (h0 _) (eU (i:=0) a1 a0 hf (ay (hj _) ?_))
  apply ay ix
  refine ay (hd _) ?_
  refine(?_:bx (decide (p.aQ≥d)) _ _)
  rw[<-eb]
  exact ck (λh=>y (any_eq_true.mpr ⟨k,mw,h⟩)) λh=>hN (by rw[h];rfl) _ ⟨_,rfl⟩
 ·cases hh:ks.any λk=>decide (iL ps k≥d) with
  |false=>rfl
  |true=>
   obtain⟨k,mw,h⟩:=any_eq_true.mp hh
   have h2:=all_eq_true.mp BM k mw
   rw[h] at h2;cases h2
theorem Tn{H1:Hp}{p:aG}{o1 o2 o3:Option V}(lR:r.ps.length<60)(hT:eO (r.ps++[p])=[]\/cX ⟨r.ps++[p],r.ms,r.ws⟩)(x:cG B H H1)(b2:ct B H1 ⟨r.ps++[p],r.ms,r.ws⟩)(q:∀H',cG B H H'->ct B H' ⟨r.ps++[p],r.ms,r.ws⟩->Q (nv r.ps.length) H'):aM ⟨aA (n+68),xq Y⟩ (wi.drop 6) [some (.ref (B+1)),o1,o2,o3] H1 (bF Q):=b2 _ λld ep vf es a0 a1 ap am aw ad hd de=>by
 refine(?_:aJ (cx H1 (.ref (B+1))) _)
 refine mc a1 a0 ?_
 refine bP (vA (n:=n) (r:=⟨r.ps++[p],r.ms,r.ws⟩) (by rw[length_append];exact lR) hT b2 λH2 x2 b3=>?_)
 refine b3 _ λld ep vf es a0 a1 ap am aw ad hd de=>?_
 refine(?_:aJ (cx H2 (.ref (B+1))) _)
 refine eU (i:=0) a1 a0 rfl ?_
 apply ay (b7 ap)
 rw[length_map,length_append]
 refine(?_:Q (.int (((r.ps.length+1:Nat):Int) - 1)) H2)
 rw[show(((r.ps.length+1:Nat):Int) - 1)=(r.ps.length:Int) by lia]
 exact q H2 (x.trans x2) b3
theorem To(b:ct B H r)(hl:r.ps.length<=60)(hq:H[lq]?=some (.list (aV ks)))(hk:∀k∈ks,k<r.ps.length)(fI:ks.length<=1000)(ic:lq<B\/B+5<=lq)(y2:dj r.ps ks d=true->Y (.ref H.length) (H++[.exc 2]))(y6:dj r.ps ks d=false->60<=r.ps.length->Y (.ref H.length) (H++[.exc 6]))(hT:dj r.ps ks d=false->r.ps.length<60->eO (r.ps++[⟨d,ks,none,none⟩])=[]\/cX ⟨r.ps++[⟨d,ks,none,none⟩],r.ms,r.ws⟩)
  (q:dj r.ps ks d=false->r.ps.length<60->∀H',cG B H H'->ct B H' ⟨r.ps++[⟨d,ks,none,none⟩],r.ms,r.ws⟩->Q (nv r.ps.length) H') {o:Option V}:aM ⟨aA (n+68),xq Y⟩ (wi.drop 2) [some (.ref (B+1)),some (.int d),some (.ref lq),o] H (bF Q):=b _ λld ep vf es a0 a1 ap am aw ad hd de=>by
 refine Tl (n:=n+67) rfl rfl hq fI (λh=>ib (y2 (by unfold dj;rw[h];rfl))) λh1=>?_
 apply ay (cW hq)
 refine Hj (C:=⟨aA (n+68),xq Y⟩) (ρf:=λo=>[some (.ref (B+1)),some (.int d),some (.ref lq),o]) a1 a0 rfl ap hq hk (λZ=>rfl) (λZ=>rfl) (λZ=>rfl) (λZ Z=>rfl) (λh=>ib (ib (y2 (by unfold dj;rw[h,Bool.or_true])))) λh2 o=>?_
 have BO:dj r.ps ks d=false:=by unfold dj;rw[h1,h2];rfl
 refine(?_:aJ (cx H (.ref (B+1))) _)
 refine eU (i:=0) a1 a0 rfl ?_
 apply ay (b7 ap)
 rw[length_map]
 refine(?_:bx (decide ((r.ps.length:Int)≥60)) _ _)
 refine oj (λh=>ib (y6 BO (by lia))) λh=>?_
 have lR:r.ps.length<60:=by lia
 refine(?_:aJ (cx H (.ref (B+1))) _)
 refine eU (i:=0) a1 a0 rfl ?_
 refine fS ap ?_
 apply ay (b7 hq)
 refine f9 ap (by rw[length_map];exact lt_trans lR (by decide)) ?_
 have z:=b.put (r.ps++[⟨d,ks,none,none⟩])
 rw[map_append] at z
 exact Tn lR (hT BO lR) z.1 z.2 (q BO lR)
theorem Hk(b:ct B H r)(hl:r.ps.length<=60)(hq:H[lq]?=some (.list vs))(hs:∀v∈vs,sc v=true)(hv:sc v=true)(fI:vs.length<=1000)(ic:lq<B\/B+5<=lq)(y:∀k,eV r.ps v vs=some k->Y (.ref H.length) (H++[.exc k]))(hT:eV r.ps v vs=none->eO (r.ps++[⟨cM v,vs.map natOf,none,none⟩])=[]\/cX ⟨r.ps++[⟨cM v,vs.map natOf,none,none⟩],r.ms,r.ws⟩)
  (q:eV r.ps v vs=none->∀H',cG B H H'->ct B H' ⟨r.ps++[⟨cM v,vs.map natOf,none,none⟩],r.ms,r.ws⟩->Q (nv r.ps.length) H'):aA (n+69) v8 [.ref (B+1),v,.ref lq] H Q Y:=Qd (b _ λld ep vf es a0 a1 ap am aw ad hd de=>by
 apply ay (cW hq)
 refine Hh (n:=n+66) (C:=⟨aA (n+68),xq Y⟩) (ρf:=λo=>[some (.ref (B+1)),some v,some (.ref lq),o]) a1 a0 rfl ap hq hs rfl rfl (λZ=>rfl) (λZ=>rfl) (λZ Z=>rfl) (λh=>ib (ib (y 0 (by unfold eV;rw[h];rfl)))) λh0 o=>?_
 have e1:eV r.ps v vs=if wh v 0 100000 then(if dj r.ps (vs.map natOf) (cM v) then some 2 else if 60<=r.ps.length then some 6 else none) else some 1:=if_pos h0
 refine(?_:aA (n+68) km [v] H _ _)
 refine BI (n:=n+66) hv (λh1=>?_) λh1=>ib (y 1 (by rw[e1,h1];rfl))
 have e2:eV r.ps v vs=if dj r.ps (vs.map natOf) (cM v) then some 2 else if 60<=r.ps.length then some 6 else none:=e1.trans (if_pos h1)
 obtain⟨d,rfl,_⟩:=ox h1
 obtain⟨rM,rN⟩:=oA h0
 refine To (ks:=vs.map natOf) (d:=d) b hl (rM▸hq) rN (by rw[length_map];exact fI) ic (λh=>y 2 (e2.trans (if_pos h))) (λh h6=>y 6 (e2.trans ((if_neg (by rw[show dj r.ps (vs.map natOf) (cM (.int d))=false from h];decide)).trans (if_pos h6)))) (λh h6=>hT (e2.trans ((if_neg (by rw[show dj r.ps (vs.map natOf) (cM (.int d))=false from h];decide)).trans (if_neg (Nat.not_le.mpr h6))))) λh h6=>q (e2.trans ((if_neg (by rw[show dj r.ps (vs.map natOf) (cM (.int d))=false from h];decide)).trans (if_neg (Nat.not_le.mpr h6)))))
end
end Mine.L
namespace Mine.L
variable{Y:PQ}
open Mine.P PySem
section
variable{n B l lq k:Nat}{H:Hp}{Q:PQ}{K:Out->Prop}{rest:List S}{r:cq}{c v:V}{vs:List V}{fs:aP}{ks:List Nat}{d:Int}{ρ:aP}{p:aG}
noncomputable def j5(p:aG)(d:Int):Bool:=decide (d<p.aQ)||(p.bM.elim false λe=>decide (d≥e))
noncomputable def gY(ps:List aG)(p:aG)(ks:List Nat)(d:Int):Option Nat:=if j5 p d then some 1 else if ks.isEmpty||dj ps ks p.aQ then some 2 else if p.ad.isSome then some 5 else none
noncomputable def fL(ps:List aG)(c v:V)(vs:List V):Option Nat:=if wh c 0 ((ps.length:Int) - 1)&&gy ps vs then(if wh v 0 100000 then(ps[natOf c]?).elim none λp=>gY ps p (vs.map natOf) (cM v) else some 1) else some 0
noncomputable abbrev eQ(p:aG)(d:Int)(ks:List Nat):aG:=⟨p.aQ,p.bS,some (d,ks),p.bM⟩
theorem Tp{o4:Option V}(b:ct B H r)(hl:r.ps.length<=60)(hp:r.ps[k]?=some p)(hT:eO (r.ps.set k (eQ p d ks))=[]\/cX ⟨r.ps.set k (eQ p d ks),r.ms,r.ws⟩)(hq:H[lq]?=some (.list (aV ks)))(q:∀H',cG B H H'->ct B H' ⟨r.ps.set k (eQ p d ks),r.ms,r.ws⟩->Q .none H'):aM ⟨aA (n+68),xq Y⟩ (sk.drop 8) [some (.ref (B+1)),some (nv k),some (.int d),some (.ref lq),o4,some (.int p.aQ),some (.aF (aV p.bS)),some (mY p.ad),some (g9 p.bM)] H (bF Q):=b _ λld ep vf es a0 a1 ap am aw ad hd de=>by
 refine(?_:aJ (cx H (.ref (B+1))) _)
 refine mc a1 a0 ?_
 apply ay (b7 hq)
 have hk:k<r.ps.length:=(List.getElem?_eq_some_iff.mp hp).1
 refine(?_:aA (n+68) sj [.ref (B+1),nv k,bv (eQ p d ks)] H _ _)
 refine Hg b hk λH1 x1 b1=>?_
 refine b1 _ λld ep vf es a0 a1 ap am aw ad hd de=>?_
 refine(?_:aJ (cx H1 (.ref (B+1))) _)
 refine mc a1 a0 ?_
 exact bP (vA (n:=n) (r:=⟨r.ps.set k (eQ p d ks),r.ms,r.ws⟩) (by rw[length_set];exact hl) hT b1 λH2 x2 b2=>q H2 (x1.trans x2) b2)
theorem Tq{o4 o5 o6 o7 o8:Option V}(b:ct B H r)(hl:r.ps.length<=60)(hp:r.ps[k]?=some p)(hq:H[lq]?=some (.list (aV ks)))(hk:∀k∈ks,k<r.ps.length)(fI:ks.length<=1000)(y:∀j,gY r.ps p ks d=some j->Y (.ref H.length) (H++[.exc j]))(hT:gY r.ps p ks d=none->eO (r.ps.set k (eQ p d ks))=[]\/cX ⟨r.ps.set k (eQ p d ks),r.ms,r.ws⟩)(q:gY r.ps p ks d=none->∀H',cG B H H'->ct B H' ⟨r.ps.set k (eQ p d ks),r.ms,r.ws⟩->Q .none H'):aM ⟨aA (n+68),xq Y⟩ (sk.drop 3) [some (.ref (B+1)),some (nv k),some (.int d),some (.ref lq),o4,o5,o6,o7,o8] H (bF Q):=b _ λld ep vf es a0 a1 ap am aw ad hd de=>by
 refine(?_:aJ (cx H (.ref (B+1))) _)
 refine eU (i:=0) a1 a0 rfl ?_
 apply ay (du ap hp)
 have l1:j5 p d=true->xq Y (.ref H.length) (H++[.exc 1]):=λh=>ib (y 1 (if_pos h))
 have key:j5 p d=false->aM ⟨aA (n+68),xq Y⟩ (sk.drop 5) [some (.ref (B+1)),some (nv k),some (.int d),some (.ref lq),o4,some (.int p.aQ),some (.aF (aV p.bS)),some (mY p.ad),some (g9 p.bM)] H (bF Q):=λh1=>by
  have e1:gY r.ps p ks d=if ks.isEmpty||dj r.ps ks p.aQ then some 2 else if p.ad.isSome then some 5 else none:=if_neg (by rw[h1];decide)
  have y2:(ks.isEmpty||dj r.ps ks p.aQ)=true->xq Y (.ref H.length) (H++[.exc 2]):=λh=>ib (y 2 (e1.trans (if_pos h)))
  have k2:(ks.isEmpty||(decide (2<ks.length)||decide (¬ks.Nodup)))=false->aM ⟨aA (n+68),xq Y⟩ (sk.drop 6) [some (.ref (B+1)),some (nv k),some (.int d),some (.ref lq),o4,some (.int p.aQ),some (.aF (aV p.bS)),some (mY p.ad),some (g9 p.bM)] H (bF Q):=λh2=>by
   have h2:=or_eq_false_iff.mp h2
   apply ay (cW hq)
   refine Hj (C:=⟨aA (n+68),xq Y⟩) (ρf:=λo=>[some (.ref (B+1)),some (nv k),some (.int d),some (.ref lq),o,some (.int p.aQ),some (.aF (aV p.bS)),some (mY p.ad),some (g9 p.bM)]) a1 a0 rfl ap hq hk (λZ=>rfl) (λZ=>rfl) (λZ=>rfl) (λZ Z=>rfl) (λh=>ib (y2 (by unfold dj;rw[h,Bool.or_true,Bool.or_true]))) λh3 o=>?_
   have e2:gY r.ps p ks d=if p.ad.isSome then some 5 else none:=e1.trans (if_neg (by unfold dj;rw[h2.1,h2.2,h3];decide))
   cases ha:p.ad with
   |some a=>exact ib (y 5 (by rw[e2,ha];rfl))
   |none=>
    have e3:gY r.ps p ks d=none:=by rw[e2,ha];rfl
    have z:=Tp (n:=n) (Y:=Y) (o4:=o) b hl hp (hT e3) hq (q e3)
    rw[ha] at z
    exact z
  have e9:(decide (1<=((aV ks).length:Int))&&decide (((aV ks).length:Int)<=2))=!(ks.isEmpty||decide (2<ks.length)):=by
   rw[length_map]
   cases ks with
   |nil=>rfl
   |cons a t=>
    rw[length_cons,List.isEmpty_cons,Bool.false_or,show decide (1<=((t.length+1:Nat):Int))=true from decide_eq_true (by lia),Bool.true_and,<-decide_not]
    exact decide_eq_decide.mpr ⟨λh=>by lia,λh=>by lia⟩
  apply ay (b7 hq)
  refine(?_:bx (decide (1<=((aV ks).length:Int))) _ _)
  refine ck (λh3=>?_) λh3=>?_
  ·rw[h3,Bool.true_and] at e9
   refine(?_:bx ((!decide (((aV ks).length:Int)<=2))==false) _ _)
   refine iG (λh4=>?_) λh4=>fH h4 (y2 ?_)
   ·rw[e9,not_not] at h4
    refine(?_:aA (n+68) mC [.ref lq] H _ _)
    refine BN hq fI ?_
    refine(?_:bx (decide (¬ks.Nodup)) _ _)
    refine ck (λh5=>y2 ?_) λh5=>k2 ?_
    ·unfold dj;rw[h5,Bool.or_true,Bool.true_or,Bool.or_true]
    ·rw[h5,Bool.or_false];exact h4
   ·rw[e9,not_not] at h4
    unfold dj
    rcases or_eq_true_iff.mp h4 with h|h
    ·rw[h];rfl
    ·rw[h,Bool.true_or,Bool.true_or,Bool.or_true]
  ·rw[h3,Bool.false_and] at e9
   have e9:(ks.isEmpty||decide (2<ks.length))=true:=by rw[<-not_eq_false'];exact e9.symm
   refine y2 ?_
   unfold dj
   rcases or_eq_true_iff.mp e9 with h|h
   ·rw[h];rfl
   ·rw[h,Bool.true_or,Bool.true_or,Bool.or_true]
 refine(?_:bx (decide (d<p.aQ)==false) _ _)
 refine iG (λh1=>?_) λh1=>fH h1 (l1 (by unfold j5;rw[h1];rfl))
 cases hd:p.bM with
 |none=>
  have z:=key (by unfold j5;rw[h1,hd];rfl)
  rw[hd] at z
  exact z
 |some e=>
  refine(?_:bx (decide (d≥e)) _ _)
  refine ck (λh2=>l1 (by unfold j5;rw[hd];exact or_eq_true_iff.mpr (.inr h2))) λh2=>?_
  have z:=key (by unfold j5;rw[h1,hd];exact h2)
  rw[hd] at z
  exact z
theorem Hl(b:ct B H r)(hl:r.ps.length<=60)(hq:H[lq]?=some (.list vs))(hs:∀v∈vs,sc v=true)(hv:sc v=true)(hc:sc c=true)(fI:vs.length<=1000)(y:∀k,fL r.ps c v vs=some k->Y (.ref H.length) (H++[.exc k]))
  (hT:fL r.ps c v vs=none->∀p,r.ps[natOf c]?=some p->eO (r.ps.set (natOf c) (eQ p (cM v) (vs.map natOf)))=[]\/cX ⟨r.ps.set (natOf c) (eQ p (cM v) (vs.map natOf)),r.ms,r.ws⟩)
  (q:fL r.ps c v vs=none->∀p,r.ps[natOf c]?=some p->∀H',cG B H H'->ct B H' ⟨r.ps.set (natOf c) (eQ p (cM v) (vs.map natOf)),r.ms,r.ws⟩->Q .none H'):aA (n+69) v9 [.ref (B+1),c,v,.ref lq] H Q Y:=Qe (b _ λld ep vf es a0 a1 ap am aw ad hd de=>by
 refine(?_:aJ (cx H (.ref (B+1))) _)
 refine mc a1 a0 ?_
 refine(?_:aA (n+68) gP [.ref (B+1),c] H _ _)
 refine BH (n:=n+66) a1 a0 rfl ap hc (λh0=>?_) λh0=>ib (y 0 (by unfold fL;rw[h0];rfl))
 apply ay (cW hq)
 refine Hh (n:=n+66) (C:=⟨aA (n+68),xq Y⟩) (ρf:=λo=>[some (.ref (B+1)),some c,some v,some (.ref lq),o,none,none,none,none]) a1 a0 rfl ap hq hs rfl rfl (λZ=>rfl) (λZ=>rfl) (λZ Z=>rfl) (λh=>ib (ib (y 0 (by unfold fL;rw[h,Bool.and_false];rfl)))) λh1 o=>?_
 have e1:fL r.ps c v vs=if wh v 0 100000 then(r.ps[natOf c]?).elim none λp=>gY r.ps p (vs.map natOf) (cM v) else some 1:=if_pos (by rw[h0,h1];rfl)
 refine(?_:aA (n+68) km [v] H _ _)
 refine BI (n:=n+66) hv (λh2=>?_) λh2=>ib (y 1 (by rw[e1,h2];rfl))
 obtain⟨k,rfl,hk⟩:=yq h0
 obtain⟨d,rfl,_⟩:=ox h2
 obtain⟨rM,rN⟩:=oA h1
 refine(at_of hk).elim λp hp=>?_
 have e2:fL r.ps (nv k) (.int d) vs=gY r.ps p (vs.map natOf) d:=e1.trans ((if_pos h2).trans (by rw[show natOf (nv k)=k from rfl,hp];rfl))
 exact Tq (ks:=vs.map natOf) (d:=d) (p:=p) b hl hp (rM▸hq) rN (by rw[length_map];exact fI) (λj h=>y j (e2.trans h)) (λh=>hT (e2.trans h) p hp) λh=>q (e2.trans h) p hp)
end
end Mine.L
namespace Mine.L
variable{Y:PQ}
open Mine.P PySem
section
variable{n B l lq k:Nat}{H:Hp}{Q:PQ}{K:Out->Prop}{rest:List S}{r:cq}{fs:aP}{ps:List aG}{d:Int}{ρ:aP}{p:aG}
theorem vB(a1:H[B+1]?=some (.obj B))(a0:H[B]?=some (.bX fs))(hf:fs[0]?.join=some (.ref (B+2)))(ap:H[B+2]?=some (.list (ps.map bv)))(hk:k<ps.length)(q:Q .none H):aA (n+2) gP [.ref (B+1),nv k] H Q Y:=BH a1 a0 hf ap rfl (λZ=>q) λh=>absurd (h.symm.trans (BG hk)) Bool.false_ne_true
theorem BP(h:0<=d/\d<=100000)(q:Q .none H):aA (n+2) km [.int d] H Q Y:=BI rfl (λZ=>q) λe=>absurd (e.symm.trans (and_eq_true_iff.mpr ⟨decide_eq_true h.1,decide_eq_true h.2⟩)) Bool.false_ne_true
noncomputable abbrev rO(p:aG)(d:Int):aG:=⟨p.aQ,p.bS,p.ad,some d⟩
theorem Tr(b:ct B H ⟨ps,[],[]⟩)(hl:ps.length<=60)(hp:ps[k]?=some p)(hd:p.bM=none)(ha:p.ad=none)(h:0<=d/\d<=100000)(hb:p.aQ<=d)(hT:cX ⟨ps.set k (rO p d),[],[]⟩)(q:∀H',cG B H H'->ct B H' ⟨ps.set k (rO p d),[],[]⟩->Q .none H'):aA (n+69) wb [.ref (B+1),nv k,.int d] H Q Y:=Qh (b _ λld ep vf es a0 a1 ap am aw ad uZ de=>by
 have hk:k<ps.length:=(List.getElem?_eq_some_iff.mp hp).1
 refine(?_:aJ (cx H (.ref (B+1))) _)
 refine mc a1 a0 ?_
 refine(?_:aA (n+68) gP [.ref (B+1),nv k] H _ _)
 refine vB (n:=n+66) a1 a0 rfl ap hk ?_
 refine(?_:aA (n+68) km [.int d] H _ _)
 refine BP (n:=n+66) h ?_
 refine(?_:aJ (cx H (.ref (B+1))) _)
 refine eU (i:=0) a1 a0 rfl ?_
 apply ay (du ap hp)
 unfold bv
 rw[hd,ha]
 refine(?_:bx (decide (d<p.aQ)==false) _ _)
 refine iG (λZ=>?_) λh1=>absurd (of_decide_eq_true h1) (Int.not_lt.mpr hb)
 refine(?_:aJ (cx H (.ref (B+1))) _)
 refine eU (i:=2) a1 a0 rfl ?_
 apply ay (cW aw)
 refine(?_:aJ (cx H (.ref (B+1))) _)
 refine eU (i:=1) a1 a0 rfl ?_
 apply ay (cW am)
 refine(?_:aJ (cx H (.ref (B+1))) _)
 refine mc a1 a0 ?_
 have Ts:cX ⟨ps.set k ⟨p.aQ,p.bS,none,some d⟩,[],[]⟩:=by have z:=hT;unfold rO at z;rw[ha] at z;exact z
 have q:∀H',cG B H H'->ct B H' ⟨ps.set k ⟨p.aQ,p.bS,none,some d⟩,[],[]⟩->Q .none H':=by have z:=q;unfold rO at z;rw[ha] at z;exact z
 refine(?_:aA (n+68) sj [.ref (B+1),nv k,bv ⟨p.aQ,p.bS,none,some d⟩] H _ _)
 refine Hg (r:=⟨ps,[],[]⟩) b hk λH1 x1 b1=>?_
 refine b1 _ λld ep vf es a0 a1 ap am aw ad hd de=>?_
 refine(?_:aJ (cx H1 (.ref (B+1))) _)
 refine mc a1 a0 ?_
 exact bP (vA (n:=n) (r:=⟨ps.set k ⟨p.aQ,p.bS,none,some d⟩,[],[]⟩) (by rw[length_set];exact hl) (.inr Ts) b1 λH2 x2 b2=>q H2 (x1.trans x2) b2))
theorem Tt{C:Ct}{i j:Nat}{x y:V}(hi:ρ[i]?.join=some x)(hj:ρ[j]?.join=some y)(q:Q (.aF [x,y]) H):WE C (.aF [.J i,.J j]) ρ H Q:=ay hi (ay hj q)
theorem Hm{a b:Nat}(a1:H[B+1]?=some (.obj B))(a0:H[B]?=some (.bX fs))(hf:fs[0]?.join=some (.ref (B+2)))(ap:H[B+2]?=some (.list (ps.map bv)))(ha:a<ps.length)(hb:b<ps.length)(q:∀H',aC H H'->Q (.int (jz 100001 (dD ps a) (dD ps b))) H'):aA (n+1) oO [.ref (B+1),nv a,nv b] H Q Y:=Qf (by
 unfold zr
 refine fJ (nr (tL (Tt (x:=nv a) (y:=nv b) rfl rfl ?_)))
 refine ay (a:=[nv a,nv b]) rfl (cz (cF (show 2<16000000 by decide)) ?_)
 refine GQ (C:=⟨aA n,xq Y⟩) ha hb (λj p T hp hT=>?_) (λj p N hp hN=>?_) ?_
 ·refine(?_:aJ (cx H (.ref (B+1))) _)
  refine eU (i:=0) a1 a0 hf ?_
  apply ay (du ap hp)
  unfold bv
  cases hd:p.bM with
  |none=>rw[hd] at hT;exact hT
  |some d=>rw[hd] at hT;exact hT
 ·refine(?_:aJ (cx H (.ref (B+1))) _)
  refine eU (i:=0) a1 a0 hf ?_
  apply ay (du ap hp)
  exact hN
 ·refine(GP ha hb).elim λis rK=>?_
  have e:jO (H++[.list ([]++([a,b].filter (gx ps)).map (jb ps))]) (.ref H.length)=some is:=by
   refine(?_:(dt _ (.ref H.length)).bind allInts=_)
   rw[b7 (bj _ _)];exact rK.1
  apply ay e
  have q:=q _ (aC.aR H [.list ([]++([a,b].filter (gx ps)).map (jb ps))])
  rw[<-rK.2] at q
  exact q)
theorem Hn{o1 o2:Option Int}{x:Int}(h:x<=100000):decide (jz 100001 o1 o2>x)=decide (jz (10^9) o1 o2>x):=by
 cases o1<;>cases o2<;>first|rfl|exact(decide_eq_true (show(100001:Int)>x by lia)).trans (decide_eq_true (show(10^9:Int)>x by lia)).symm
theorem Tu{w u:dP}:((((w.a:Int)==(u.a:Int))||(((w.b:Int)==(u.a:Int))||false))||(((w.a:Int)==(u.b:Int))||(((w.b:Int)==(u.b:Int))||false)))=qa w u:=by
 unfold qa
 rw[Bool.or_false,Bool.or_false,Bool.or_false,Bool.or_false,beq_comm (a:=(w.a:Int)),beq_comm (a:=(w.b:Int)),beq_comm (a:=(w.a:Int)) (b:=(u.b:Int)),beq_comm (a:=(w.b:Int)) (b:=(u.b:Int))]
 cases((u.a:Int)==(w.a:Int))<;>cases((u.a:Int)==(w.b:Int))<;>cases((u.b:Int)==(w.a:Int))<;>cases((u.b:Int)==(w.b:Int))<;>rfl
end
end Mine.L
namespace Mine.L
variable{Y:PQ}
open Mine.P PySem
section
variable{n B a b:Nat}{H:Hp}{Q:PQ}{K:Out->Prop}{rest:List S}{r:cq}{d:Int}{ρ:aP}
theorem Wi{x:Nat}:oY H (nv x) (.aF [nv a,nv b])=some (((a:Int)==(x:Int))||(((b:Int)==(x:Int))||false)):=rfl
noncomputable abbrev vC(B a b:Nat)(d:Int)(o4 o5 o6:Option V):aP:=[some (.ref (B+1)),some (nv a),some (nv b),some (.int d),o4,o5,o6]
theorem Tv(k:ct B H r)(ha:a<r.ps.length)(hb:b<r.ps.length)(ok:jZ r.ps.length r.ms)(hd:d<=100000)(hc:∀u∈r.ms,clear r.ps ⟨a,b,d⟩ u=true/\u.day<=100000)(q:∀o4 o5 o6 H',aC H H'->aM ⟨aA (n+68),xq Y⟩ (wj.drop 5) (vC B a b d o4 o5 o6) H' (bF Q)):aM ⟨aA (n+68),xq Y⟩ (wj.drop 4) (vC B a b d none none none) H (bF Q):=k _ λld ep vf es a0 a1 ap am aw ad uZ de=>by
 refine(?_:aJ (cx H (.ref (B+1))) _)
 refine eU (i:=1) a1 a0 rfl ?_
 apply ay (cW am)
 refine ft (g:=gI) (λas ρ H'=>(∃o4 o5 o6,ρ=vC B a b d o4 o5 o6)/\aC H H'/\∀u∈as,u∈r.ms) (λu as ρ H' h=>?_) (λρ H' h=>?_) _ _ _ ⟨⟨none,none,none,rfl⟩,aC.refl _,λZ h=>h⟩
 ·obtain⟨⟨o4,o5,o6,rfl⟩,x,hm⟩:=h
  refine λN hN=>?_
  have hu:=hm u mem_cons_self
  have no:∀H'',aC H' H''->N (vC B a b d (some (nv u.a)) (some (nv u.b)) (some (.int u.day))) H'':=λH'' x'=>hN _ _ (c9 am ((x.trans x') _ _ am)) ⟨⟨_,_,_,rfl⟩,x.trans x',λw h=>hm w (.tail _ h)⟩
  have cl:=hc u hu
  have yes:qa ⟨a,b,d⟩ u=true->aM ⟨aA (n+68),xq (xq Y)⟩ [.ba (.and [(.cmp .gt (.dG oO (.J 0) [.J 4,.J 5]) (.J 3)),(.cmp .gt (.dG oO (.J 0) [.J 1,.J 2]) (.J 6))]) [.raise 5 "another marriage meets it"] []] (vC B a b d (some (nv u.a)) (some (nv u.b)) (some (.int u.day))) H' (λo=>jn o N False):=λht=>by
   have me:(decide (jz 100001 (dD r.ps u.a) (dD r.ps u.b)>d)&&decide (jz 100001 (dD r.ps a) (dD r.ps b)>u.day))=false:=by
    have z:=cl.1
    unfold clear Br at z
    rw[ht,Bool.true_and,not_eq_true',Bool.and_comm] at z
    rw[Hn hd,Hn cl.2]
    exact z
   refine(?_:aJ (cx H' (.ref (B+1))) _)
   refine mc (x _ _ a1) (x _ _ a0) ?_
   refine(?_:aA (n+68) oO [.ref (B+1),nv u.a,nv u.b] H' _ _)
   refine Hm (x _ _ a1) (x _ _ a0) rfl (x _ _ ap) (ok u hu).1 (ok u hu).2 λH2 x2=>?_
   refine(?_:bx (decide (jz 100001 (dD r.ps u.a) (dD r.ps u.b)>d)==true) _ _)
   refine fR (λh1=>?_) λh1=>gb h1 (no H2 x2)
   have x3:=x.trans x2
   refine(?_:aJ (cx H2 (.ref (B+1))) _)
   refine mc (x3 _ _ a1) (x3 _ _ a0) ?_
   refine(?_:aA (n+68) oO [.ref (B+1),nv a,nv b] H2 _ _)
   refine Hm (x3 _ _ a1) (x3 _ _ a0) rfl (x3 _ _ ap) ha hb λH4 x4=>?_
   rw[h1,Bool.true_and] at me
   refine(?_:bx (decide (jz 100001 (dD r.ps a) (dD r.ps b)>u.day)) _ _)
   exact ck (λh2=>absurd (me.symm.trans h2) Bool.false_ne_true) λZ=>no H4 (x2.trans x4)
  refine(?_:bx ((((a:Int)==(u.a:Int))||(((b:Int)==(u.a:Int))||false))==false) _ _)
  have ti:=Tu (w:=⟨a,b,d⟩) (u:=u)
  refine iG (λh1=>?_) λh1=>fH h1 (yes (by rw[<-ti];exact or_eq_true_iff.mpr (.inl h1)))
  refine(?_:bx (((a:Int)==(u.b:Int))||(((b:Int)==(u.b:Int))||false)) _ _)
  exact ck (λh2=>yes (by rw[<-ti];exact or_eq_true_iff.mpr (.inr h2))) λh2=>no _ (aC.refl _)
 ·obtain⟨⟨o4,o5,o6,rfl⟩,x,hm⟩:=h
  exact q _ _ _ _ x
theorem Tw(k:ct B H r)(hl:r.ps.length<=60)(ha:a<r.ps.length)(hb:b<r.ps.length)(ok:jZ r.ps.length r.ms)(BC:r.ms.length<=1000)(g:Bs r.ps ⟨a,b,d⟩)(hc:∀u∈r.ms,clear r.ps ⟨a,b,d⟩ u=true/\u.day<=100000)(hT:cX ⟨r.ps,r.ms++[⟨a,b,d⟩],r.ws⟩)(q:∀H',cG B H H'->ct B H' ⟨r.ps,r.ms++[⟨a,b,d⟩],r.ws⟩->Q .none H'):aA (n+69) wa [.ref (B+1),nv a,nv b,.int d] H Q Y:=Qg (k _ λld ep vf es a0 a1 ap am aw ad hd de=>by
 have gd:=g.2.2.2
 refine(?_:aJ (cx H (.ref (B+1))) _)
 refine mc a1 a0 ?_
 refine(?_:aA (n+68) gP [.ref (B+1),nv a] H _ _)
 refine vB (n:=n+66) a1 a0 rfl ap ha ?_
 refine(?_:aJ (cx H (.ref (B+1))) _)
 refine mc a1 a0 ?_
 refine(?_:aA (n+68) gP [.ref (B+1),nv b] H _ _)
 refine vB (n:=n+66) a1 a0 rfl ap hb ?_
 refine(?_:aA (n+68) km [.int d] H _ _)
 refine BP (n:=n+66) gd ?_
 refine(?_:bx (((a:Int)==(b:Int))==false) _ _)
 refine iG (λZ=>?_) λh1=>absurd (ofNat.inj (eq_of_beq h1)) g.1
 obtain⟨p,hp⟩:=at_of ha
 obtain⟨p',dO⟩:=at_of hb
 have l1:fq p d=true:=(jW hp).symm.trans g.2.1
 have l2:fq p' d=true:=(jW dO).symm.trans g.2.2.1
 refine(?_:aJ (cx H (.ref (B+1))) _)
 refine eU (i:=0) a1 a0 rfl ?_
 refine(?_:aA (n+68) iW [.ref (B+2),nv a,.int d] H _ _)
 refine mZ ap hp ?_
 rw[l1]
 refine(?_:aJ (cx H (.ref (B+1))) _)
 refine eU (i:=0) a1 a0 rfl ?_
 refine(?_:aA (n+68) iW [.ref (B+2),nv b,.int d] H _ _)
 refine mZ ap dO ?_
 rw[l2]
 refine Tv (n:=n) k ha hb ok gd.2 hc λo4 o5 o6 H1 x1=>?_
 have k1:=k.ext x1
 refine k1 _ λld ep vf es a0 a1 ap am aw ad hd de=>?_
 refine(?_:aJ (cx H1 (.ref (B+1))) _)
 refine eU (i:=1) a1 a0 rfl ?_
 refine fS am (f9 am (by rw[length_map];exact lt_of_le_of_lt BC (by decide)) ?_)
 have z:=k1.Tf (r.ms++[⟨a,b,d⟩])
 rw[map_append] at z
 refine z.2 _ λld ep vf es a0 a1 ap am aw ad hd de=>?_
 refine(?_:aJ (cx (H1.set (B+3) _) (.ref (B+1))) _)
 refine mc a1 a0 ?_
 exact bP (vA (n:=n) (r:=⟨r.ps,r.ms++[(⟨a,b,d⟩:dP)],r.ws⟩) hl (.inr hT) z.2 λH2 x2 b2=>q H2 ((x1.k.trans z.1).trans x2) b2))
end
end Mine.L
namespace Mine.L
variable{Y:PQ}
open Mine.P PySem
theorem Tx{un ov:Nat}(h:un≠0)(j:Nat):mkRat ((j*ov:Nat):Int) un+mkRat (ov:Int) un=mkRat (((j+1)*ov:Nat):Int) un:=by
 rw[Rat.mkRat_add_mkRat _ _ h h,Rat.mkRat_eq_iff (Nat.mul_ne_zero h h) h]
 have:(((j+1)*ov:Nat):Int)=((j*ov:Nat):Int)+(ov:Int):=by rw[Nat.succ_mul];rfl
 rw[this,Int.natCast_mul un un]
 grind
theorem Hq{un m:Nat}(h:un≠0)(hm:m<=un):(mkRat (m:Int) un).num<=((mkRat (m:Int) un).den:Int):=by
 have e:(m:Int)*((mkRat (m:Int) un).den:Int)=(mkRat (m:Int) un).num*(un:Int):=(Rat.mkRat_eq_iff h (mkRat (m:Int) un).den_nz).mp (Rat.mkRat_self _).symm
 have h2:(m:Int)*((mkRat (m:Int) un).den:Int)<=(un:Int)*((mkRat (m:Int) un).den:Int):=Int.mul_le_mul_of_nonneg_right (ofNat_le.mpr hm) (natCast_nonneg _)
 rw[e,Int.mul_comm (un:Int)] at h2
 exact Int.le_of_mul_le_mul_right h2 (ofNat_lt.mpr (Nat.pos_of_ne_zero h))
theorem Tz{ov un:Nat}(h:un≠0)(o1:1<=ov)(le:ov<=un)(u1:un<1000):1<=(Rat.normalize ov un h).num/\(Rat.normalize ov un h).num<=1000/\1<=((Rat.normalize ov un h).den:Int)/\((Rat.normalize ov un h).den:Int)<=1000:=by
 have hn:=Hq h le
 rw[<-Rat.normalize_eq_mkRat h] at hn
 have hd:(Rat.normalize (ov:Int) un h).den<=un:=by
  rw[Rat.normalize_eq];exact Nat.div_le_self _ _
 have hp:=(Rat.normalize (ov:Int) un h).den_pos
 have h1:1<=(Rat.normalize (ov:Int) un h).num:=by
  rw[Rat.normalize_eq]
  refine(?_:1<=(ov:Int)/(((ov:Int).natAbs.gcd un:Nat):Int))
  have hg:0<(ov:Int).natAbs.gcd un:=Nat.gcd_pos_of_pos_right _ (Nat.pos_of_ne_zero h)
  exact(Int.le_ediv_iff_mul_le (ofNat_lt.mpr hg)).mpr (by rw[Int.one_mul];exact ofNat_le.mpr (Nat.gcd_le_left _ o1))
 exact⟨h1,by lia,by lia,by lia⟩
section
variable{n B kp lg:Nat}{H:Hp}{Q:PQ}{K:Out->Prop}{r:cq}{ns:List Nat}{q:Rat}{d:Int}{p:aG}
noncomputable abbrev oB(q:Rat)(j:Nat):V:=.aF [nv j,.int q.num,nv q.den]
theorem Hs{i:Int}(h:1<=i/\i<=1000):wh (.int i) 1 1000=true:=and_eq_true_iff.mpr ⟨decide_eq_true h.1,decide_eq_true h.2⟩
noncomputable def TA(B kp lg ln lf ov un:Nat)(q:Rat)(ns:List Nat)(H₀:Hp)(as:List Nat)(ρ:aP)(H':Hp):Prop:=∃o6 o7 o8,∃an:List Nat,ρ=[some (.ref (B+1)),some (nv kp),some (.ref lg),some (.ref ln),some (.ref lf),some (rv (mkRat ((an.length*ov:Nat):Int) un)),o6,o7,o8]/\bu lf H₀ H'/\H'[lf]?=some (.list (an.map λj=>ng (j,q)))/\an++as=ns
theorem TB{ov un:Nat}(hu:un≠0)(hq:q=Rat.normalize ov un hu)(o1:1<=ov)(u1:un<1000)(le:ov*ns.length<=un)(nd:ns.Nodup/\kp∉ns/\ns≠[])(kJ:ns.length<=10)(ag:H[lg]?=some (.list (ns.map (oB q))))(k:∀H',aC H H'->Q (ja (ns.map λj=>(j,q))) H'):aA (n+3) wc [.ref (B+1),nv kp,.ref lg] H Q Y:=Qi (by
 have dg:1<=ns.length:=length_pos_iff.mpr nd.2.2
 have ov_le:ov<=un:=le_trans (Nat.le_mul_of_pos_right ov dg) le
 have qk:=Tz hu o1 ov_le u1
 rw[<-hq] at qk
 apply ay (b7 ag)
 rw[length_map]
 refine(?_:bx (decide (1<=(ns.length:Int))) _ _)
 refine oj (λZ=>?_) λh=>absurd (ofNat_le.mpr dg) h
 refine(?_:bx (!decide ((ns.length:Int)<=10)) _ _)
 rw[show decide ((ns.length:Int)<=10)=true from decide_eq_true (ofNat_le.mpr kJ)]
 apply ay (cW ag)
 refine cz (cF (by rw[length_map];exact lt_of_le_of_lt kJ (by decide))) ?_
 refine gV (P:=λZ=>true) (F:=nv) ns _ _ (λj Z T hT=>hT) (λj Z Z N hN=>hN) ?_
 rw[pM]
 have anm:=bj H (.list ([]++aV ns))
 have x1:=aC.aR H [.list ([]++aV ns)]
 refine(?_:aA (n+2) mC [.ref H.length] (H++[.list ([]++aV ns)]) _ _)
 refine BN (n:=n+1) anm (le_trans kJ (by decide)) ?_
 rw[decide_eq_false (λh=>h nd.1)]
 apply ay (Fy (k:=kp) anm)
 rw[decide_eq_false nd.2.1]
 have a4:=bj (H++[.list ([]++aV ns)]) (.list [])
 have x2:=x1.trans (aC.aR _ [.list []])
 have Ht:lg≠(H++[aZ.list ([]++aV ns)]).length:=by
  have:=cu ag
  rw[length_append]
  exact ne_of_lt (lt_of_lt_of_le this (le_add_right _ _))
 have jT:H.length<=(H++[aZ.list ([]++aV ns)]).length:=by rw[length_append];exact le_add_right _ _
 apply ay (cW (x2 _ _ ag))
 refine ft (g:=oB q) (TA B kp lg H.length (H++[aZ.list ([]++aV ns)]).length ov un q ns (H++[.list ([]++aV ns)]++[.list []])) (λj as ρ H' h=>?_) (λρ H' h=>?_) ns _ _ ⟨none,none,none,[],by rw[show mkRat (((([]:List Nat).length*ov:Nat)):Int) un=0 by rw[length_nil,zero_mul];exact Rat.zero_mkRat un];rfl,bu.refl _ _,a4,rfl⟩
 ·obtain⟨o6,o7,o8,an,rfl,x,a,t⟩:=h
  refine λN hN=>?_
  have dH:an.length+1<=ns.length:=by rw[<-t,length_append,length_cons];exact add_le_add_left (succ_le_succ (zero_le _)) _
  refine(?_:aA (n+2) oI [.int q.num,.int 1,.int 1000] H' _ _)
  refine yr rfl ?_
  rw[Hs ⟨qk.1,qk.2.1⟩]
  refine(?_:aA (n+2) oI [nv q.den,.int 1,.int 1000] H' _ _)
  refine yr rfl ?_
  rw[Hs ⟨qk.2.2.1,qk.2.2.2⟩]
  refine fS a ?_
  refine(?_:aA (n+2) jJ [.int q.num,nv q.den] H' _ _)
  refine ol q.den_nz ?_
  rw[Rat.normalize_self]
  refine f9 a (by rw[length_map];exact lt_of_le_of_lt (le_trans (le_of_succ_le dH) kJ) (by decide)) ?_
  refine(?_:aA (n+2) jJ [.int q.num,nv q.den] (H'.set _ _) _ _)
  refine ol q.den_nz ?_
  rw[Rat.normalize_self]
  have hm:an.length*ov<2^10:=lt_of_le_of_lt (le_trans (by rw[mul_comm];exact mul_le_mul_left ov (le_of_succ_le dH)) le) (lt_trans u1 (by decide))
  have s1:Sm 10 (mkRat ((an.length*ov:Nat):Int) un):=by rw[<-Rat.normalize_eq_mkRat hu];exact Sm.pG hu (show(((an.length*ov:Nat)):Int).natAbs<2^10 from hm) (lt_trans u1 (by decide))
  have s2:Sm 10 q:=by rw[hq];exact Sm.pG hu (show((ov:Nat):Int).natAbs<2^10 from lt_of_le_of_lt ov_le (lt_trans u1 (by decide))) (lt_trans u1 (by decide))
  refine(?_:aA (n+2) r9 [rv (mkRat ((an.length*ov:Nat):Int) un),rv q] (H'.set _ _) _ _)
  refine Ay (n:=n) s1 s2 (by decide) ?_
  rw[show mkRat ((an.length*ov:Nat):Int) un+q=mkRat ((((an++[j]).length*ov:Nat)):Int) un by rw[hq,Rat.normalize_eq_mkRat,Tx hu,length_append];rfl]
  refine hN _ _ (c9 (x2 _ _ ag) (dF (x _ _ Ht (x2 _ _ ag)) _ (Ne.symm Ht))) ⟨_,_,_,an++[j],rfl,x.trans (bu.set _ _ _),?_,gp t⟩
  rw[map_append];exact dN a _
 ·obtain⟨o6,o7,o8,an,rfl,x,a,t⟩:=h
  rw[append_nil] at t
  subst t
  refine(?_:bx (decide ((mkRat ((an.length*ov:Nat):Int) un).num>((mkRat ((an.length*ov:Nat):Int) un).den:Int))) _ _)
  refine oj (λh=>absurd (Hq hu (m:=an.length*ov) (by rw[mul_comm];exact le)) (not_le.mpr h)) λZ=>?_
  apply ay (b7 a)
  have k:=k H' (x.ext x2 jT)
  unfold ja at k
  rw[map_map] at k
  exact k)
theorem TC{w:gf}(b:ct B H r)(hl:r.ps.length<=60)(mr:r.ws.length<=1000)(hw:rH r.ps.length w)(hd:qb r.ps w)(ag:H[lg]?=some (.list (w.cU.map λg=>oB g.2 g.1)))(hT:cX ⟨r.ps,r.ms,r.ws++[w]⟩)(q:∀H',cG B H H'->ct B H' ⟨r.ps,r.ms,r.ws++[w]⟩->Q .none H'):aA (n+69) we [.ref (B+1),nv w.gr,.int w.day,.ref lg] H Q Y:=Qj (b _ λld ep vf es a0 a1 ap am aw ad uZ de=>hw _ λgk dy ns ov un hu e o1 u1 le nd=>by
 obtain⟨p,hp,d1,d2,d3⟩:=hd
 have hk:w.gr<r.ps.length:=(List.getElem?_eq_some_iff.mp hp).1
 refine(?_:aJ (cx H (.ref (B+1))) _)
 refine mc a1 a0 ?_
 refine(?_:aA (n+68) gP [.ref (B+1),nv w.gr] H _ _)
 refine vB (n:=n+66) a1 a0 rfl ap hk ?_
 apply ay (cW ag)
 refine BJ (ok:=λZ=>true) (as:=w.cU) (R:=λρ=>∃o,ρ=[some (.ref (B+1)),some (nv w.gr),some (.int w.day),some (.ref lg),o,none,none,none,none]) (c9 ag ag) (λg hg ρ hr=>?_) (λZ ρ hr=>?_) ⟨none,rfl⟩
 ·obtain⟨o,rfl⟩:=hr
  refine λN hN=>?_
  refine(?_:aJ (cx H (.ref (B+1))) _)
  refine mc a1 a0 ?_
  refine(?_:aA (n+68) gP [.ref (B+1),nv g.1] H _ _)
  exact vB (n:=n+66) a1 a0 rfl ap (gk.1 g hg).1 (hN rfl _ ⟨_,rfl⟩)
 ·obtain⟨o,rfl⟩:=hr
  refine(?_:aA (n+68) km [.int w.day] H _ _)
  refine BP (n:=n+66) ⟨dy,d2⟩ ?_
  refine(?_:aJ (cx H (.ref (B+1))) _)
  refine eU (i:=0) a1 a0 rfl ?_
  apply ay (du ap hp)
  have key:∀{o4 o5 o6 o7 o8:Option V},aM ⟨aA (n+68),xq Y⟩ (zt.drop 5) [some (.ref (B+1)),some (nv w.gr),some (.int w.day),some (.ref lg),o4,o5,o6,o7,o8] H (bF Q):=λ{_ _ _ _ _}=>by
   refine(?_:aJ (cx H (.ref (B+1))) _)
   refine eU (i:=2) a1 a0 rfl ?_
   refine fS aw ?_
   refine(?_:aJ (cx H (.ref (B+1))) _)
   refine mc a1 a0 ?_
   refine(?_:aA (n+68) wc [.ref (B+1),nv w.gr,.ref lg] H _ _)
   have eg:w.cU.map (λg=>oB g.2 g.1)=ns.map (oB (Rat.normalize ov un hu)):=by rw[e,map_map];rfl
   have kJ:ns.length<=10:=by have z:=gk.2;rw[e,length_map] at z;exact z
   refine TB (n:=n+65) hu rfl o1 u1 le nd kJ (eg▸ag) λH1 x1=>?_
   rw[<-e]
   have b1:=b.ext x1
   refine b1 _ λld ep vf es a0 a1 ap am aw ad hd de=>?_
   refine f9 aw (by rw[length_map];exact lt_of_le_of_lt mr (by decide)) ?_
   have z:=b1.Tg (r.ws++[w])
   rw[map_append] at z
   refine z.2 _ λld ep vf es a0 a1 ap am aw ad hd de=>?_
   refine(?_:aJ (cx (H1.set (B+4) _) (.ref (B+1))) _)
   refine mc a1 a0 ?_
   exact bP (vA (n:=n) (r:=⟨r.ps,r.ms,r.ws++[w]⟩) hl (.inr hT) z.2 λH2 x2 b2=>q H2 ((x1.k.trans z.1).trans x2) b2)
  refine(?_:bx (decide (w.day<p.aQ)==false) _ _)
  refine iG (λZ=>?_) λh1=>absurd (of_decide_eq_true h1) (Int.not_lt.mpr d1)
  cases hd:p.bM with
  |none=>exact key
  |some e=>
   refine(?_:bx (decide (w.day>e)) _ _)
   exact oj (λh2=>absurd (d3 e hd) (not_le.mpr h2)) λZ=>key)
end
end Mine.L
namespace Mine.L
variable{Y:PQ}
open Mine.P PySem
section
variable{n B l j:Nat}{H G:Hp}{Q:PQ}{K:Out->Prop}{rest:List S}{fs:aP}{ρ:aP}
theorem vD{C:Ct}{i:Nat}{e:E}{c:aZ}(he:∀Q:PQ,Q (.ref G.length) (G++[c])->WE C e ρ G Q)(h0:ρ[0]?.join=some (.ref (B+1)))(a1:G[B+1]?=some (.obj B))(a0:G[B]?=some (.bX fs))(k:∀G':Hp,G'.length=G.length+1->G'[B]?=some (.bX (fs.set i (some (.ref G.length))))->G'[G.length]?=some c->(∀l c',l≠B->G[l]?=some c'->G'[l]?=some c')->aM C rest ρ G' K):aM C (.setAttr (.J 0) i e::rest) ρ G K:=by
 refine he _ (ay h0 (BF (be _ a1) (be _ a0) (k _ ?_ (dN (be _ a0) _) (dF (bj _ _) _ (ne_of_lt (cu a0))) λl c' hn h=>dF (be _ h) _ (Ne.symm hn))))
 rw[length_set,length_append];rfl
theorem TF{C:Ct}(hC:C.call=aA (n+1))(q:∀H',aC H H'->ct H.length H' ⟨[],[],[]⟩->Q (.ref (H.length+1)) H'):WE C (.new ua) ρ H Q:=by
 refine(?_:C.call ua [.ref (H.length+1)] (H++[.bX (replicate gK.bX.length none)]++[.obj H.length]) _ _)
 rw[hC]
 refine P9 ?_
 have e1:(H++[.bX (replicate gK.bX.length none)]++[.obj H.length])[H.length+1]?=some (.obj H.length):=by
  have z:=bj (H++[.bX (replicate gK.bX.length none)]) (.obj H.length)
  rw[length_append] at z;exact z
 have e0:(H++[.bX (replicate gK.bX.length none)]++[.obj H.length])[H.length]?=some (.bX [none,none,none,none,none]):=be _ (bj _ _)
 have hl:(H++[aZ.bX (replicate gK.bX.length none)]++[aZ.obj H.length]).length=H.length+2:=by rw[length_append,length_append];rfl
 have x0:aC H (H++[.bX (replicate gK.bX.length none)]++[.obj H.length]):=(aC.aR _ _).trans (aC.aR _ _)
 generalize H++[.bX (replicate gK.bX.length none)]++[.obj H.length]=G at *
 have xx:∀{G G':Hp},aC H G->(∀l c',l≠H.length->G[l]?=some c'->G'[l]?=some c')->aC H G':=λx f l c h=>f l c (ne_of_lt (cu h)) (x l c h)
 unfold zq
 refine vD (c:=.list []) (λQ h=>h) rfl e1 e0 λG1 l1 b1 c1 f1=>?_
 refine vD (c:=.list []) (λQ h=>h) rfl (f1 _ _ (by lia) e1) b1 λG2 l2 b2 c2 f2=>?_
 refine vD (c:=.list []) (λQ h=>h) rfl (f2 _ _ (by lia) (f1 _ _ (by lia) e1)) b2 λG3 l3 b3 c3 f3=>?_
 refine vD (c:=.dict 0 []) (λQ h=>h) rfl (f3 _ _ (by lia) (f2 _ _ (by lia) (f1 _ _ (by lia) e1))) b3 λG4 l4 b4 c4 f4=>?_
 refine vD (c:=.list []) (λQ h=>h) rfl (f4 _ _ (by lia) (f3 _ _ (by lia) (f2 _ _ (by lia) (f1 _ _ (by lia) e1)))) b4 λG5 l5 b5 c5 f5=>?_
 rw[hl] at l1 c1 b5
 rw[l1] at l2 c2 b5
 rw[l2] at l3 c3 b5
 rw[l3] at l4 c4 b5
 exact⟨rfl,q G5 (xx (xx (xx (xx (xx x0 f1) f2) f3) f4) f5) (.mk (H.length+5) 0 _ [] b5 (f5 _ _ (by lia) (f4 _ _ (by lia) (f3 _ _ (by lia) (f2 _ _ (by lia) (f1 _ _ (by lia) e1))))) (f5 _ _ (by lia) (f4 _ _ (by lia) (f3 _ _ (by lia) (f2 _ _ (by lia) c1)))) (f5 _ _ (by lia) (f4 _ _ (by lia) (f3 _ _ (by lia) c2))) (f5 _ _ (by lia) (f4 _ _ (by lia) c3)) (f5 _ _ (by lia) c4) (le_refl _) λZ h=>(nomatch h))⟩
noncomputable def oC:List Str:=["person","day","parents","match","will","again","full","dead"]
noncomputable def BQ(j:Nat):List Bool:=[gE j 0,gE j 1,gE j 2,gE j 3,gE j 4,gE j 5,gE j 6,gE j 7]
theorem TG:∀j,j<8->(BQ j).count true=1/\(BQ j).idxOf? true=some j/\(oC[j]?).isSome=true:=by decide
theorem ny(h:H[l]?=some (.exc j)):excAt H (.ref l)=some j:=congrArg (Option.bind · mH) h
theorem BR:∀bs:List Bool,i0 (bs.map V.bool)=some bs
 |[]=>rfl
 |b::r=>by
  refine(?_:(i0 (r.map V.bool)).map (b::·)=_)
  rw[BR r];rfl
theorem TH{bs:List Bool}(h:H[l]?=some (.list (bs.map V.bool)))(hl:bs.length<=1000)(q:Q (.int (bs.count true)) H):pg .count (.ref l) [.bool true] H Q:=ay (b7 h) (show aJ (i0 (bs.map V.bool)) (λnR=>(bs.map V.bool).length<=1000/\Q (.int (nR.count true)) H) from ay (BR bs) ⟨by rw[length_map];exact hl,q⟩)
theorem TI{bs:List Bool}{i:Nat}(h:H[l]?=some (.list (bs.map V.bool)))(hl:bs.length<=1000)(hi:bs.idxOf? true=some i)(q:Q (nv i) H):pg .index (.ref l) [.bool true] H Q:=ay (b7 h) (show aJ (i0 (bs.map V.bool)) (λnR=>(bs.map V.bool).length<=1000/\aJ (nR.idxOf? true) λi=>Q (nv i) H) from ay (BR bs) ⟨by rw[length_map];exact hl,ay hi q⟩)
theorem Hu{C:Ct}{v:V}{F:List V->Hp->Prop}(h:F [v] H):mf C [.k v] ρ H F:=h
theorem TJ{m:Nat}(h:G[l]?=some (.exc j))(a:G[m]?=some (.list ((BQ j).map V.bool)))(hj:j<8)(x:aC H G)(q:∀H',aC H H'->Q (.str (oC.getD j "")) H'):aM ⟨aA n,xq Y⟩ (zi.drop 2) [some (.ref l),some (.ref m)] G (bF Q):=by
 have ok:=TG j hj
 refine fS a ?_
 refine Hu ?_
 refine TH a (show 8<=1000 by decide) ?_
 rw[ok.1]
 apply ay (ny h)
 refine fS (be _ a) ?_
 refine Hu ?_
 refine TI (be _ a) (show 8<=1000 by decide) ok.2.1 ?_
 obtain⟨w,hw⟩:=isSome_iff_exists.mp ok.2.2
 have q:=q _ (x.trans (aC.aR _ [.list (oC.map V.str)]))
 rw[getD_eq_getElem?_getD,hw] at q
 apply ay (gH (v:=.str w) (bj _ (.list (oC.map V.str))) (by rw[getElem?_map,hw];rfl))
 exact q
theorem TK(h:H[l]?=some (.exc j))(hj:j<8)(q:∀H',aC H H'->Q (.str (oC.getD j "")) H'):aA (n+1) t9 [.ref l] H Q Y:=PX (by
 apply ay (ny h)
 apply ay (ny h)
 apply ay (ny h)
 apply ay (ny h)
 have h1:=be [.list [.bool (gE j 0),.bool (gE j 1),.bool (gE j 2),.bool (gE j 3)]] h
 apply ay (ny h1)
 apply ay (ny h1)
 apply ay (ny h1)
 apply ay (ny h1)
 refine lI (be _ (bj _ _)) (bj _ _) (show 8<16000000 by decide) ?_
 exact TJ (be _ (be _ h1)) (bj _ _) hj (((aC.aR _ _).trans (aC.aR _ _)).trans (aC.aR _ _)) q)
noncomputable def TL(j:Nat):V:=.aF [.str (oC.getD j ""),.none]
end
end Mine.L
namespace Mine.L
variable{Y:PQ}
open Mine.P PySem
noncomputable def knd:Nat->Str
 |0=>"born"
 |1=>"adopted"
 |2=>"married"
 |3=>"died"
 |_=>"will"
theorem vE:∀i,i<5->PyData.strOk (knd i)=true:=by decide +kernel
theorem TM:∀i,i<5->∀j,j<5->(knd i==knd j)=decide (i=j):=by decide +kernel
section
variable{n B l lq:Nat}{H:Hp}{Q:PQ}{K:Out->Prop}{rest:List S}{ρ:aP}{r:cq}
theorem rP(i j:Nat)(hi:i<5:=by decide)(hj:j<5:=by decide):eD .eq (.str (knd i)) (.str (knd j)) H=some (decide (i=j)):=(tC (vE i hi) (vE j hj)).trans (congrArg some (TM i hi j hj))
noncomputable abbrev je(v:V)(lq:Nat):V:=.aF [.str (knd 0),v,.ref lq]
noncomputable abbrev j6(c v:V)(lq:Nat):V:=.aF [.str (knd 1),c,v,.ref lq]
noncomputable abbrev yt(a b:Nat)(d:Int):V:=.aF [.str (knd 2),nv a,nv b,.int d]
noncomputable abbrev yu(k:Nat)(d:Int):V:=.aF [.str (knd 3),nv k,.int d]
noncomputable abbrev BS(k:Nat)(d:Int)(lg:Nat):V:=.aF [.str (knd 4),nv k,.int d,.ref lg]
theorem kt{C:Ct}{j i m:Nat}{w:Str}{vs:List V}{a:List S}(hj:ρ[j]?.join=some (.aF (.str (knd i)::vs)))(hw:w=knd m)(hi:i<5)(hm:m<5)(yes:i=m->aM C a ρ H (λo=>jn o (λρ H=>aM C rest ρ H K) (K o)))(no:i≠m->aM C rest ρ H K):aM C (.ba (.cmp .eq (.aE (.J j) (.k (.int 0))) (.k (.str w))) a []::rest) ρ H K:=by
 subst hw
 refine jc (qc (fK (bY hj (cj ?_))))
 exact ay (a:=V.str (knd i)) rfl (cj (ay (rP i m hi hm) (oj yes no)))
theorem kF{C:Ct}{j:Nat}(i m:Nat){w:Str}{vs:List V}{a:List S}(hj:ρ[j]?.join=some (.aF (.str (knd i)::vs)))(hw:w=knd m)(no:aM C rest ρ H K)(hi:i<5:=by decide)(hm:m<5:=by decide)(hn:i≠m:=by decide):aM C (.ba (.cmp .eq (.aE (.J j) (.k (.int 0))) (.k (.str w))) a []::rest) ρ H K:=kt hj hw hi hm (λh=>absurd h hn) λZ=>no
theorem kT{C:Ct}{j:Nat}(i:Nat){w:Str}{vs:List V}{a:List S}(hj:ρ[j]?.join=some (.aF (.str (knd i)::vs)))(hw:w=knd i)(yes:aM C a ρ H (λo=>jn o (λρ H=>aM C rest ρ H K) (K o)))(hi:i<5:=by decide):aM C (.ba (.cmp .eq (.aE (.J j) (.k (.int 0))) (.k (.str w))) a []::rest) ρ H K:=kt hj hw hi hi (λZ=>yes) λh=>absurd rfl h
theorem Hv{v:V}(b:ct B H r)(h:aA n v8 [.ref (B+1),v,.ref lq] H Q (xq Y)):aA (n+1) oK [.ref (B+1),je v lq] H Q Y:=u5 (b _ λld ep vf es a0 a1 ap am aw ad hd de=>by
 refine kT 0 rfl rfl ?_
 refine(?_:aJ (cx H (.ref (B+1))) _)
 exact mc a1 a0 h)
theorem Hw{c v:V}(b:ct B H r)(h:aA n v9 [.ref (B+1),c,v,.ref lq] H Q (xq Y)):aA (n+1) oK [.ref (B+1),j6 c v lq] H Q Y:=u5 (b _ λld ep vf es a0 a1 ap am aw ad hd de=>by
 refine kF 1 0 rfl rfl ?_
 refine kT 1 rfl rfl ?_
 refine(?_:aJ (cx H (.ref (B+1))) _)
 exact mc a1 a0 h)
theorem TN{a b:Nat}{d:Int}(k:ct B H r)(h:aA n wa [.ref (B+1),nv a,nv b,.int d] H Q (xq Y)):aA (n+1) oK [.ref (B+1),yt a b d] H Q Y:=u5 (k _ λld ep vf es a0 a1 ap am aw ad hd de=>by
 refine kF 2 0 rfl rfl ?_
 refine kF 2 1 rfl rfl ?_
 refine kT 2 rfl rfl ?_
 refine(?_:aJ (cx H (.ref (B+1))) _)
 exact mc a1 a0 h)
theorem TO{k:Nat}{d:Int}(b:ct B H r)(h:aA n wb [.ref (B+1),nv k,.int d] H Q (xq Y)):aA (n+1) oK [.ref (B+1),yu k d] H Q Y:=u5 (b _ λld ep vf es a0 a1 ap am aw ad hd de=>by
 refine kF 3 0 rfl rfl ?_
 refine kF 3 1 rfl rfl ?_
 refine kF 3 2 rfl rfl ?_
 refine kT 3 rfl rfl ?_
 refine(?_:aJ (cx H (.ref (B+1))) _)
 exact mc a1 a0 h)
theorem TP{k lg:Nat}{d:Int}(b:ct B H r)(h:aA n we [.ref (B+1),nv k,.int d,.ref lg] H Q (xq Y)):aA (n+1) oK [.ref (B+1),BS k d lg] H Q Y:=u5 (b _ λld ep vf es a0 a1 ap am aw ad hd de=>by
 refine kF 4 0 rfl rfl ?_
 refine kF 4 1 rfl rfl ?_
 refine kF 4 2 rfl rfl ?_
 refine kF 4 3 rfl rfl ?_
 refine(?_:aJ (cx H (.ref (B+1))) _)
 exact mc a1 a0 h)
theorem BU{D:V}{okR:V->Hp->Prop}{err:Option Nat}(h:∀Q' Y':PQ,(∀v H',okR v H'->Q' v H')->(∀j,err=some j->Y' (.ref H.length) (H++[.exc j]))->aA (n+1) oK [.ref (B+1),D] H Q' Y')(q:∀v H',okR v H'->Q (.aF [.str "",v]) H')(y:∀j,err=some j->j<8/\∀H',aC H H'->Q (TL j) H'):aA (n+2) oM [.ref (B+1),D] H Q Y:=PY (by
 refine h _ _ (λv H' ok=>q v H' ok) λj hj=>?_
 refine ay (ny (bj _ _)) ⟨by unfold gE;rw[show((8:Nat)==8)=true from rfl,Bool.or_true],?_⟩
 refine(?_:aA (n+1) t9 [.ref H.length] (H++[.exc j]) _ _)
 exact TK (bj _ _) (y j hj).1 λH' x=>(y j hj).2 H' ((aC.aR _ _).trans x))
end
end Mine.L
namespace Mine.L
variable{Y:PQ}
open Mine.P PySem
section
variable{n B l lm lw lq k:Nat}{H:Hp}{Q:PQ}{K:Out->Prop}{rest:List S}{ρ:aP}{r:cq}{v c:V}{vs:List V}{ks:List Nat}{ps:List aG}{d:Int}
noncomputable def TQ:V->Bool
 |.int _=>true
 |_=>false
theorem BV(hv:sc v=true)(q:Q (.bool (TQ v)) H):aA (n+1) lX [v] H Q Y:=Fq (by
 cases v with
 |aF _=>cases hv
 |ref _=>cases hv
 |dU=>cases hv
 |_=>exact q)
theorem TR(hA:H[l]?=some (.list (ps.map bv)))(hv:sc v=true)(q:Q (.bool (wh v 0 ((ps.length:Int) - 1))) H):aA (n+2) v0 [.ref l,v] H Q Y:=PZ (by
 refine(?_:aA (n+1) lX [v] H _ _)
 refine BV hv ?_
 cases v with
 |int i=>
  have q:Q (.bool (decide (0<=i)&&decide (i<=(ps.length:Int) - 1))) H:=q
  refine(?_:bx (decide (0<=i)) (WE ⟨aA (n+1),xq Y⟩ (.bi .len [.J 0]) [some (.ref l),some (.int i)] H λz H=>aJ (eD .lt (.int i) z H) λt=>Q (.bool t) H) (Q (.bool false) H))
  refine ck (λh=>?_) λh=>?_
  ·rw[h,Bool.true_and,show decide (i<=(ps.length:Int) - 1)=decide (i<(ps.length:Int)) from decide_eq_decide.mpr ⟨λh=>by lia,λh=>by lia⟩] at q
   apply ay (b7 hA)
   rw[length_map]
   exact q
  ·rw[h] at q;exact q
 |aF _=>cases hv
 |ref _=>cases hv
 |dU=>cases hv
 |_=>exact q)
theorem TS(hv:sc v=true)(m:Nat):∃d,rd H m v=some d:=by
 cases v with
 |aF _=>cases hv
 |ref _=>cases hv
 |dU=>cases hv
 |str s=>cases m<;>exact⟨.str s,if_pos hv⟩
 |none=>cases m<;>exact⟨_,rfl⟩
 |bool b=>cases m<;>exact⟨_,rfl⟩
 |int i=>cases m<;>exact⟨_,rfl⟩
theorem Hx:∀{vs:List V},(∀v∈vs,sc v=true)->∃ds,eA (rd H 9) vs=some ds/\ds.isEmpty=vs.isEmpty
 |[],_=>⟨[],rfl,rfl⟩
 |v::r,h=>(TS (h v mem_cons_self) 9).elim λd hd=>(Hx λv hv=>h v (.tail _ hv)).elim λds hs=>⟨d::ds,eJ hd hs.1,rfl⟩
theorem BW{α:Type}(P:α->Bool):∀vs:List α,(vs.filter λv=>!P v).isEmpty=vs.all P
 |[]=>rfl
 |a::t=>by
  rw[filter_cons,List.all_cons]
  cases h:P a with
  |true=>exact BW P t
  |false=>rfl
theorem TT{C:Ct}{R:Bool->Hp->Prop}{ws:List Nat}{test:aP->Hp->(Bool->Hp->Prop)->Prop}{elt:aP->Hp->PQ->Prop}{P:V->Bool}{dz:aP}{o:Option V}(hs:∀v∈vs,sc v=true)(ht:∀v∈vs,∀T:Bool->Hp->Prop,T (!P v) H->test (some v::dz) H T)(he:∀v (N:PQ),N v H->elt (some v::dz) H N)(q:∀H',aC H H'->R (!vs.all P) H'):g7 ws H (.J 0) test elt vs (o::dz) H [] λus H1=>kC us H1 λx H2=>WE C (.bJ []) ρ H2 λy H3=>aJ (eD .ne x y H3) λt=>R t H3:=by
 have key:=gV (g:=id) (P:=λv=>!P v) (F:=id) (ws:=ws) (H:=H) (test:=test) (elt:=elt) (dz:=dz) (Q:=λus H1=>kC us H1 λx H2=>WE C (.bJ []) ρ H2 λy H3=>aJ (eD .ne x y H3) λt=>R t H3) vs o [] (λv hv T hT=>ht v hv T hT) (λv hv Z N hN=>he v N hN) ?_
 ·rw[map_id] at key;exact key
 ·rw[map_id]
  have hf:∀v∈vs.filter (λv=>!P v),sc v=true:=λv hv=>hs v (mem_filter.mp hv).1
  obtain⟨ds,hd,he⟩:=Hx (H:=H++[.list ([]++vs.filter λv=>!P v)]++[.list []]) hf
  refine jA (vo ?_)
  apply ay (ne_nil (be _ (bj _ _)) hd (bj _ _))
  rw[he]
  rw[BW P vs]
  exact q _ ((aC.aR _ _).trans (aC.aR _ _))
theorem TU{a b:Nat}:decide (¬[a,b].Nodup)=((a:Int)==(b:Int)):=by
 by_cases h:a=b
 ·rw[h,beq_self_eq_true]
  exact decide_eq_true λhn=>(nodup_cons.mp hn).1 (mem_singleton.mpr rfl)
 ·rw[show((a:Int)==(b:Int))=false from beq_eq_false_iff_ne.mpr λe=>h (ofNat.inj e)]
  exact decide_eq_false λhn=>hn (nodup_cons.mpr ⟨λe=>h (mem_singleton.mp e),nodup_cons.mpr ⟨not_mem_nil,nodup_nil⟩⟩)
theorem Hy(hA:H[l]?=some (.list (ps.map bv)))(hq:H[lq]?=some (.list (aV ks)))(hk:∀k∈ks,k<ps.length)(hl:ks.length<=1000)(q:∀H',aC H H'->Q (.bool (dj ps ks d)) H'):aA (n+1) sf [.ref l,.ref lq,.int d] H Q Y:=P0 (by
 have tl:(decide (2<ks.length)||decide (¬ks.Nodup))=false->aM ⟨aA n,xq Y⟩ (zj.drop 1) [some (.ref l),some (.ref lq),some (.int d)] H (bF Q):=λh0=>by
  apply ay (cW hq)
  refine cz (cF (by rw[length_map];exact lt_of_le_of_lt hl (by decide))) ?_
  refine gV (P:=λk=>decide (iL ps k≥d)) (F:=nv) ks _ _ (λk mw T hT=>?_) (λk Z Z N hN=>hN) ?_
  ·obtain⟨p,hp,eb,ix⟩:=Hi hA (hk k mw)
   apply ay ix
   rw[eb] at hT
   exact tH (T:=T) hT
  ·refine jA (vo ?_)
   apply ay (ne_nil (be _ (bj _ _)) (m9 _ _) (bj _ _))
   have q:=q _ ((aC.aR H [.list ([]++aV (ks.filter λk=>decide (iL ps k≥d)))]).trans (aC.aR _ [.list []]))
   unfold dj at q
   rw[h0,Bool.false_or] at q
   rw[isEmpty_map]
   have e:(!(ks.filter λk=>decide (iL ps k≥d)).isEmpty)=ks.any λk=>decide (iL ps k≥d):=by
    have z:=BW (λk=>!decide (iL ps k≥d)) ks
    rw[show(λk=>!!decide (iL ps k≥d))=λk=>decide (iL ps k≥d) from funext λk=>not_not _] at z
    rw[z,List.not_all_eq_any_not]
    exact congrArg (List.any ks) (funext λk=>not_not _)
   rw[e]
   exact q
 have yes:(decide (2<ks.length)||decide (¬ks.Nodup))=true->Q (.bool true) H:=λh=>by
  have q:=q _ (aC.refl H)
  unfold dj at q
  rw[h] at q
  exact q
 match ks,hq,yes,tl with
 |[],hq,yes,tl=>
  apply ay (b7 hq)
  apply ay (b7 hq)
  exact tl (by decide)
 |[a],hq,yes,tl=>
  apply ay (b7 hq)
  apply ay (b7 hq)
  exact tl (by rw[show decide (¬[a].Nodup)=false from decide_eq_false λh=>h (nodup_cons.mpr ⟨not_mem_nil,nodup_nil⟩)];rfl)
 |[a,b],hq,yes,tl=>
  rw[TU] at yes tl
  apply ay (b7 hq)
  apply ay (b7 hq)
  apply ay (gH (k:=0) (v:=nv a) hq rfl)
  apply ay (gH (k:=1) (v:=nv b) hq rfl)
  refine(?_:bx ((a:Int)==(b:Int)) _ _)
  exact ck (λh=>yes (by rw[h];rfl)) λh=>tl (by rw[h];rfl)
 |a::b::c::t,hq,yes,tl=>
  apply ay (b7 hq)
  rw[length_map]
  refine(?_:bx (decide (((a::b::c::t).length:Int)>2)==false) _ _)
  refine iG (λh=>absurd (of_decide_eq_false h) (not_not_intro (by rw[length_cons,length_cons,length_cons];lia))) λh=>fH h (yes rfl))
end
end Mine.L
namespace Mine.L
variable{Y:PQ}
open Mine.P PySem
noncomputable def iz:Option Nat->Str
 |none=>""
 |some j=>oC.getD j ""
section
variable{n l lm lw lq:Nat}{H:Hp}{Q:PQ}{K:Out->Prop}{rest:List S}{ρ:aP}{r:cq}{v c D:V}{vs us:List V}{ks:List Nat}{ps:List aG}{d:Int}
theorem TV(q:Q v H):aA (n+1) sh [je v lq] H Q Y:=Ft (by
 refine kT 0 rfl rfl ?_
 exact q)
theorem TX(q:Q v H):aA (n+1) sh [j6 c v lq] H Q Y:=Ft (by
 refine kF 1 0 rfl rfl ?_
 refine kF 1 2 rfl rfl ?_
 exact q)
theorem TY(hq:H[lq]?=some (.list vs))(hl:vs.length<=1000)(q:∀la H',aC H H'->H'[la]?=some (.list vs)->Q (.ref la) H'):aA (n+1) sg [je v lq] H Q Y:=Fs (by
 refine kT 0 rfl rfl ?_
 apply ay (mm hq)
 exact cz (cF (lt_of_le_of_lt hl (by decide))) (q _ _ (aC.aR _ _) (bj _ _)))
theorem TZ(hq:H[lq]?=some (.list vs))(hl:vs.length<=1000)(q:∀la H',aC H H'->H'[la]?=some (.list (c::vs))->Q (.ref la) H'):aA (n+1) sg [j6 c v lq] H Q Y:=Fs (by
 refine kF 1 0 rfl rfl ?_
 refine kT 1 rfl rfl ?_
 refine(?_:sI .add (.ref H.length) (.ref lq) (H++[.list [c]]) _)
 refine lI (bj _ _) (be _ hq) (by rw[length_append];exact lt_of_le_of_lt (add_le_add_left hl 1) (by decide)) ?_
 exact q _ _ ((aC.aR _ _).trans (aC.aR _ _)) (bj _ _))
theorem Hz(zU:∀Q Y:PQ,(∀la H',aC H H'->H'[la]?=some (.list us)->Q (.ref la) H')->aA (n+2) sg [D] H Q Y)(T1:∀Q Y:PQ,Q v H->aA (n+2) sh [D] H Q Y)(hA:H[l]?=some (.list (ps.map bv)))(hs:∀u∈us,sc u=true)(fM:us.length<=1001)(hv:sc v=true)(q0:gy ps us=false->∀H',aC H H'->Q (.str "person") H')(q1:gy ps us=true->wh v 0 100000=false->∀H',aC H H'->Q (.str "day") H')
  (h:gy ps us=true->wh v 0 100000=true->∀H',aC H H'->aM ⟨aA (n+2),xq Y⟩ (zl.drop 4) [some (.aF [.ref l,.ref lm,.ref lw]),some D,some (.ref l),some v,none] H' (bF Q)):aA (n+3) si [.aF [.ref l,.ref lm,.ref lw],D] H Q Y:=P2 (by
 refine(?_:aA (n+2) sh [D] H _ _)
 refine T1 _ _ ?_
 refine(?_:aA (n+2) sg [D] H _ _)
 refine zU _ _ λla H1 x1 a1=>?_
 apply ay (cW a1)
 refine cz (cF (lt_of_le_of_lt fM (by decide))) ?_
 refine TT (C:=⟨aA (n+2),xq Y⟩) (P:=λv=>wh v 0 ((ps.length:Int) - 1)) hs (λu hu T hT=>?_) (λv N hN=>hN) λH2 x2=>?_
 ·refine(?_:aA (n+2) v0 [.ref l,u] H1 _ _)
  refine TR (x1 _ _ hA) (hs u hu) ?_
  exact tH (T:=T) hT
 ·have x3:=x1.trans x2
  refine(?_:bx (!gy ps us) _ _)
  refine ck (λh0=>q0 (by rw[not_eq_true'] at h0;exact h0) _ x3) λh0=>?_
  rw[not_eq_false'] at h0
  refine(?_:aA (n+2) lX [v] H2 _ _)
  refine BV hv ?_
  cases v with
  |int i=>
   have q1:gy ps us=true->(decide (0<=i)&&decide (i<=100000))=false->∀H',aC H H'->Q (.str "day") H':=q1
   refine(?_:bx (decide (0<=i)) _ _)
   refine ck (λh1=>?_) λh1=>q1 h0 (by rw[h1];rfl) _ x3
   refine(?_:bx (!decide (i<=100000)) _ _)
   refine ck (λh2=>q1 h0 (by rw[h1,Bool.true_and];rw[not_eq_true'] at h2;exact h2) _ x3) λh2=>?_
   rw[not_eq_false'] at h2
   exact h h0 (and_eq_true_iff.mpr ⟨h1,h2⟩) _ x3
  |aF _=>cases hv
  |ref _=>cases hv
  |dU=>cases hv
  |none=>exact q1 h0 rfl _ x3
  |bool b=>exact q1 h0 rfl _ x3
  |str s=>exact q1 h0 rfl _ x3)
theorem kA{C:Ct}{j:Nat}(i m:Nat){w:Str}{vs:List V}{a:List S}{e2:E}(hj:ρ[j]?.join=some (.aF (.str (knd i)::vs)))(hw:w=knd m)(no:aM C rest ρ H K)(hi:i<5:=by decide)(hm:m<5:=by decide)(hn:i≠m:=by decide):aM C (.ba (.and [(.cmp .eq (.aE (.J j) (.k (.int 0))) (.k (.str w))),e2]) a []::rest) ρ H K:=by
 subst hw
 refine jc (qe (tM (qg (fK (bY hj (cj ?_))))))
 refine ay (a:=V.str (knd i)) rfl (cj (ay (rP i m hi hm) ?_))
 rw[decide_eq_false hn]
 exact no
theorem BX{a b:V}{t:Bool}:fh (.ref H.length) (.int (if t then 1 else 0)) (H++[.list [a,b]])=some (if t then b else a):=by
 cases t
 ·exact gH (k:=0) (bj _ _) rfl
 ·exact gH (k:=1) (bj _ _) rfl
theorem T2(hA:H[l]?=some (.list (ps.map bv)))(hq:H[lq]?=some (.list vs))(hs:∀v∈vs,sc v=true)(hv:sc v=true)(fI:vs.length<=1000)(q:∀H',aC H H'->Q (.str (iz (eV ps v vs))) H'):aA (n+3) si [.aF [.ref l,.ref lm,.ref lw],je v lq] H Q Y:=
 Hz (us:=vs) (v:=v) (λQ Y k=>TY (n:=n+1) hq fI k) (λQ Y k=>TV (n:=n+1) k) hA hs (Nat.le_succ_of_le fI) hv (λh0 H' x=>by have q:=q H' x;rw[show eV ps v vs=some 0 by unfold eV;rw[h0];rfl] at q;exact q) (λh0 h1 H' x=>by have q:=q H' x;rw[show eV ps v vs=some 1 by unfold eV;rw[h0,h1];rfl] at q;exact q) λh0 h1 H1 x1=>by
  have e2:eV ps v vs=if dj ps (vs.map natOf) (cM v) then some 2 else if 60<=ps.length then some 6 else none:=(if_pos h0).trans (if_pos h1)
  obtain⟨d,rfl,_⟩:=ox h1
  obtain⟨rM,rN⟩:=oA h0
  refine jc (qe (tM (qg (fK (bY (v:=je (.int d) lq) rfl (cj ?_))))))
  refine ay (a:=V.str (knd 0)) rfl (cj (ay (rP 0 0) ?_))
  refine(?_:aA (n+2) sf [.ref l,.ref lq,.int d] H1 _ _)
  refine Hy (ks:=vs.map natOf) (x1 _ _ hA) (rM▸x1 _ _ hq) rN (by rw[length_map];exact fI) λH2 x2=>?_
  have x3:=x1.trans x2
  refine(?_:bx (dj ps (vs.map natOf) d) _ _)
  refine ck (λh2=>?_) λh2=>?_
  ·have q:=q H2 x3
   rw[e2.trans (if_pos h2)] at q
   exact q
  ·have e3:eV ps (.int d) vs=if 60<=ps.length then some 6 else none:=e2.trans (if_neg (by rw[show dj ps (vs.map natOf) (cM (.int d))=false from h2];decide))
   refine kT 0 rfl rfl ?_
   apply ay (b7 (be [.list [.str "",.str "full"]] (x3 _ _ hA)))
   rw[length_map]
   refine(?_:aJ (fh (.ref H2.length) (.int (if decide ((ps.length:Int)>59) then 1 else 0)) (H2++[.list [.str "",.str "full"]])) _)
   refine ay BX ?_
   have q:=q _ (x3.trans (aC.aR H2 [.list [.str "",.str "full"]]))
   rw[e3] at q
   by_cases h6:60<=ps.length
   ·rw[if_pos h6] at q
    rw[decide_eq_true (show(ps.length:Int)>59 by lia)]
    exact q
   ·rw[if_neg h6] at q
    rw[decide_eq_false (show ¬(ps.length:Int)>59 by lia)]
    exact q
theorem T3{k:Nat}{p:aG}(hA:H[l]?=some (.list (ps.map bv)))(hp:ps[k]?=some p)(hq:H[lq]?=some (.list (aV ks)))(hk:∀k∈ks,k<ps.length)(hl:ks.length<=1000)(q:∀H',aC H H'->Q (.str (iz (gY ps p ks d))) H'):aA (n+2) v5 [.ref l,nv k,.int d,.ref lq] H Q Y:=P1 (by
 have l1:j5 p d=true->Q (.str "day") H:=λh=>by have q:=q H (aC.refl H);rw[show gY ps p ks d=some 1 from if_pos h] at q;exact q
 have key:j5 p d=false->aM ⟨aA (n+1),xq Y⟩ (zk.drop 1) [some (.ref l),some (nv k),some (.int d),some (.ref lq)] H (bF Q):=λh1=>by
  have e1:gY ps p ks d=if ks.isEmpty||dj ps ks p.aQ then some 2 else if p.ad.isSome then some 5 else none:=if_neg (by rw[h1];decide)
  have y2:(ks.isEmpty||dj ps ks p.aQ)=true->∀H',aC H H'->Q (.str "parents") H':=λh H' x=>by have q:=q H' x;rw[e1.trans (if_pos h)] at q;exact q
  apply ay (eq_nil (be _ hq) (m9 _ _) (bj _ _))
  rw[isEmpty_map]
  refine iG (λh2=>?_) λh2=>fH h2 (y2 (by rw[h2];rfl) _ (aC.aR _ _))
  apply ay (du (be [.list []] hA) hp)
  refine(?_:aA (n+1) sf [.ref l,.ref lq,.int p.aQ] (H++[.list []]) _ _)
  refine Hy (be _ hA) (be _ hq) hk hl λH2 x2=>?_
  have x3:=(aC.aR H [.list []]).trans x2
  refine(?_:bx (dj ps ks p.aQ) _ _)
  refine ck (λh3=>y2 (by rw[h3,Bool.or_true]) _ x3) λh3=>?_
  have e2:gY ps p ks d=if p.ad.isSome then some 5 else none:=e1.trans (if_neg (by rw[h2,h3];decide))
  apply ay (du (be [.list [.str "",.str "again"]] (x3 _ _ hA)) hp)
  have q:=q _ (x3.trans (aC.aR H2 [.list [.str "",.str "again"]]))
  rw[e2] at q
  unfold bv
  cases ha:p.ad with
  |none=>
   rw[ha] at q
   refine(?_:aJ (fh (.ref H2.length) (.int (if false then 1 else 0)) (H2++[.list [.str "",.str "again"]])) _)
   exact ay BX q
  |some a=>
   rw[ha] at q
   refine(?_:aJ (fh (.ref H2.length) (.int (if true then 1 else 0)) (H2++[.list [.str "",.str "again"]])) _)
   exact ay BX q
 apply ay (du hA hp)
 refine(?_:bx (decide (d<p.aQ)==false) _ _)
 refine iG (λh1=>?_) λh1=>fH h1 (l1 (by unfold j5;rw[h1];rfl))
 have ix:=du hA hp
 apply ay ix
 unfold bv at ix ⊢
 cases hd:p.bM with
 |none=>exact key (by unfold j5;rw[h1,hd];rfl)
 |some e=>
  rw[hd] at ix
  apply ay ix
  refine(?_:bx (decide (d≥e)) _ _)
  exact ck (λh2=>l1 (by unfold j5;rw[hd];exact or_eq_true_iff.mpr (.inr h2))) λh2=>key (by unfold j5;rw[h1,hd];exact h2))
theorem T4(hA:H[l]?=some (.list (ps.map bv)))(hq:H[lq]?=some (.list vs))(hs:∀v∈vs,sc v=true)(hv:sc v=true)(hc:sc c=true)(fI:vs.length<=1000)(q:∀H',aC H H'->Q (.str (iz (fL ps c v vs))) H'):aA (n+3) si [.aF [.ref l,.ref lm,.ref lw],j6 c v lq] H Q Y:=
 Hz (us:=c::vs) (v:=v) (λQ Y k=>TZ (n:=n+1) hq fI k) (λQ Y k=>TX (n:=n+1) k) hA (λu hu=>(mem_cons.mp hu).elim (λe=>e▸hc) (hs u)) (succ_le_succ fI) hv (λh0 H' x=>by have q:=q H' x;rw[show fL ps c v vs=some 0 from if_neg (by rw[show(wh c 0 ((ps.length:Int) - 1)&&gy ps vs)=false from h0];decide)] at q;exact q) (λh0 h1 H' x=>by have q:=q H' x;rw[show fL ps c v vs=some 1 from(if_pos h0).trans (if_neg (by rw[h1];decide))] at q;exact q) λh0 h1 H1 x1=>by
  have e2:fL ps c v vs=(ps[natOf c]?).elim none λp=>gY ps p (vs.map natOf) (cM v):=(if_pos h0).trans (if_pos h1)
  obtain⟨d,rfl,_⟩:=ox h1
  have h0:=and_eq_true_iff.mp (show(wh c 0 ((ps.length:Int) - 1)&&gy ps vs)=true from h0)
  obtain⟨k,rfl,hk⟩:=yq h0.1
  obtain⟨rM,rN⟩:=oA h0.2
  obtain⟨p,hp⟩:=at_of hk
  refine kA 1 0 rfl rfl ?_
  refine kF 1 0 rfl rfl ?_
  refine kT 1 rfl rfl ?_
  refine(?_:aA (n+2) v5 [.ref l,nv k,.int d,.ref lq] H1 _ _)
  refine T3 (ks:=vs.map natOf) (x1 _ _ hA) hp (rM▸x1 _ _ hq) rN (by rw[length_map];exact fI) λH2 x2=>?_
  have q:=q H2 (x1.trans x2)
  rw[e2,show natOf (nv k)=k from rfl,hp] at q
  exact q
end
end Mine.L
namespace Mine.L
variable{Y:PQ}
open Mine.P PySem
section
variable{n l lm lw lq k:Nat}{H:Hp}{Q:PQ}{K:Out->Prop}{rest:List S}{ρ:aP}{r:cq}{v c D:V}{vs us:List V}{ks:List Nat}{d:Int}{p:aG}
theorem kE{C:Ct}{j:Nat}(i m:Nat){w:Str}{vs:List V}{a b:List S}(hj:ρ[j]?.join=some (.aF (.str (knd i)::vs)))(hw:w=knd m)(no:aM C b ρ H (λo=>jn o (λρ H=>aM C rest ρ H K) (K o)))(hi:i<5:=by decide)(hm:m<5:=by decide)(hn:i≠m:=by decide):aM C (.ba (.cmp .eq (.aE (.J j) (.k (.int 0))) (.k (.str w))) a b::rest) ρ H K:=by
 subst hw
 refine jc (qc (fK (bY hj (cj ?_))))
 exact ay (a:=V.str (knd i)) rfl (cj (ay (rP i m hi hm) (oj (λh=>absurd h hn) λZ=>no)))
theorem kY{C:Ct}{j:Nat}(i:Nat){w:Str}{vs:List V}{a b:List S}(hj:ρ[j]?.join=some (.aF (.str (knd i)::vs)))(hw:w=knd i)(yes:aM C a ρ H (λo=>jn o (λρ H=>aM C rest ρ H K) (K o)))(hi:i<5:=by decide):aM C (.ba (.cmp .eq (.aE (.J j) (.k (.int 0))) (.k (.str w))) a b::rest) ρ H K:=by
 subst hw
 refine jc (qc (fK (bY hj (cj ?_))))
 exact ay (a:=V.str (knd i)) rfl (cj (ay (rP i i hi hi) (oj (λZ=>yes) λh=>absurd rfl h)))
theorem HA(ok:r.ps.length<=60/\r.ms.length<=1000/\r.ws.length<=1000)(at':cP H r l lm lw)(h:∀H',aC H H'->H.length+3<=H'.length->cP H' r H.length (H.length+1) (H.length+2)->aM ⟨aA n,xq Y⟩ (zm.drop 3) [some (.aF [.ref l,.ref lm,.ref lw]),some D,some (.ref H.length),some (.ref (H.length+1)),some (.ref (H.length+2)),none,none,none,none,none] H' (bF Q)):aA (n+1) mD [.aF [.ref l,.ref lm,.ref lw],D] H Q Y:=P4 (at' _ λap am aw=>by
 apply ay (mm ap)
 refine cz (cF (by rw[length_map];exact lt_of_le_of_lt ok.1 (by decide))) ?_
 apply ay (mm (be _ am))
 refine cz (cF (by rw[length_map];exact lt_of_le_of_lt ok.2.1 (by decide))) ?_
 apply ay (mm (be _ (be _ aw)))
 refine cz (cF (by rw[length_map];exact lt_of_le_of_lt ok.2.2 (by decide))) ?_
 have e1:(H++[aZ.list (r.ps.map bv)]).length=H.length+1:=length_append
 have e2:(H++[aZ.list (r.ps.map bv)]++[aZ.list (r.ms.map gI)]).length=H.length+2:=by rw[length_append,e1];rfl
 have h:=h _ (((aC.aR H [.list (r.ps.map bv)]).trans (aC.aR _ [.list (r.ms.map gI)])).trans (aC.aR _ [.list (r.ws.map ia)])) (by rw[length_append,e2];exact le_refl _) (.mk (be _ (be _ (bj _ _))) (be _ (e1▸bj _ _)) (e2▸bj _ _))
 rw[<-e2,<-e1] at h
 exact h)
theorem T5(ok:r.ps.length<=60/\r.ms.length<=1000/\r.ws.length<=1000)(at':cP H r l lm lw)(hq:H[lq]?=some (.list (aV ks)))(q:∀a b c H',aC H H'->H.length<=a/\H.length<=b/\H.length<=c->cP H' ⟨r.ps++[⟨d,ks,none,none⟩],r.ms,r.ws⟩ a b c->Q (.aF [.ref a,.ref b,.ref c]) H'):aA (n+1) mD [.aF [.ref l,.ref lm,.ref lw],je (.int d) lq] H Q Y:=HA ok at' λH1 x1 hl oD=>oD _ λap am aw=>by
 refine kY 0 rfl rfl ?_
 refine fS ap ?_
 apply ay (b7 (x1 _ _ hq))
 refine f9 ap (by rw[length_map];exact lt_of_le_of_lt ok.1 (by decide)) ?_
 have z:(H1.set H.length (.list (r.ps.map bv++[bv ⟨d,ks,none,none⟩])))[H.length]?=some (.list ((r.ps++[(⟨d,ks,none,none⟩:aG)]).map bv)):=by rw[map_append];exact dN ap _
 exact q _ _ _ _ (x1.set (le_refl _) _) ⟨le_refl _,le_add_right _ _,le_add_right _ _⟩ (.mk z (dF am _ (by lia)) (dF aw _ (by lia)))
theorem T6(ok:r.ps.length<=60/\r.ms.length<=1000/\r.ws.length<=1000)(at':cP H r l lm lw)(hp:r.ps[k]?=some p)(hq:H[lq]?=some (.list (aV ks)))(q:∀a b c H',aC H H'->H.length<=a/\H.length<=b/\H.length<=c->cP H' ⟨r.ps.set k (eQ p d ks),r.ms,r.ws⟩ a b c->Q (.aF [.ref a,.ref b,.ref c]) H'):aA (n+1) mD [.aF [.ref l,.ref lm,.ref lw],j6 (nv k) (.int d) lq] H Q Y:=HA ok at' λH1 x1 hl oD=>oD _ λap am aw=>by
 refine kE 1 0 rfl rfl ?_
 refine kE 1 2 rfl rfl ?_
 refine kE 1 4 rfl rfl ?_
 apply ay (du ap hp)
 refine kE 1 3 rfl rfl ?_
 apply ay (b7 (x1 _ _ hq))
 have hk:k<r.ps.length:=(List.getElem?_eq_some_iff.mp hp).1
 refine(?_:oZ (.ref H.length) (nv k) (bv (eQ p d ks)) H1 _)
 refine Bo ap (by rw[length_map];exact hk) ?_
 have z:(H1.set H.length (.list ((r.ps.map bv).set k (bv (eQ p d ks)))))[H.length]?=some (.list ((r.ps.set k (eQ p d ks)).map bv)):=by rw[map_set];exact dN ap _
 exact q _ _ _ _ (x1.set (le_refl _) _) ⟨le_refl _,le_add_right _ _,le_add_right _ _⟩ (.mk z (dF am _ (by lia)) (dF aw _ (by lia)))
end
end Mine.L
namespace Mine.L
variable{Y:PQ}
open Mine.P PySem
section
variable{n l lx lt ld lq k:Nat}{H:Hp}{Q:PQ}{K:Out->Prop}{ρ:aP}{ps:List aG}{c:Int}{xs:List Int}{vs:List V}{ts:List Nat}{o3 o4 o5 o6 o7 o8 o9:Option V}
noncomputable abbrev dE(l:Nat)(c:Int)(lx:Nat)(o3 o4 o5 o6 o7 o8 o9:Option V):aP:=[some (.ref l),some (.int c),some (.ref lx),o3,o4,o5,o6,o7,o8,o9]
noncomputable abbrev DB(Y Q:PQ)(n i:Nat)(ρ:aP)(H:Hp):Prop:=aM ⟨aA (n+2),xq Y⟩ (zo.drop i) ρ H (bF Q)
structure Dw(H:Hp)(l lx:Nat)(ps:List aG)(xs:List Int):Prop where
 a:H[l]?=some (.list (ps.map bv))
 x:H[lx]?=some (.list (xs.map V.int))
 p:0<ps.length/\ps.length<=60
 n:xs.length=8
theorem Dw.ext{H':Hp}(h:Dw H l lx ps xs)(x:aC H H'):Dw H' l lx ps xs:=⟨x _ _ h.a,x _ _ h.x,h.p,h.n⟩
theorem Dw.g(h:Dw H l lx ps xs)(i:Nat)(hi:i<8:=by decide):fh (.ref lx) (nv i) H=some (.int (xs.getD i 0)):=gH h.x (by rw[getElem?_map,getD_eq_getElem?_getD,getElem?_eq_getElem (by rw[h.n];exact hi)];rfl)
theorem d1(w:Dw H l lx ps xs)(h:∀a,a<ps.length->DB Y Q n 2 (dE l c lx (some (nv a)) o4 o5 o6 o7 o8 o9) H):DB Y Q n 1 (dE l c lx o3 o4 o5 o6 o7 o8 o9) H:=by
 apply ay (w.g 0)
 apply ay (b7 w.a)
 rw[length_map]
 apply ay (gv (tJ w.p.1))
 obtain⟨a,ha,cO⟩:=iy (xs.getD 0 0) w.p.1
 rw[ha]
 exact h a cO
noncomputable def HB(ps:List aG)(j:Nat):Bool:=(ps[j]?).elim false λp=>p.ad.isSome
theorem d2(w:Dw H l lx ps xs)(h:∀ts lt H',(∀j∈ts,j<ps.length)->aC H H'->H'[lt]?=some (.list (aV ts))->DB Y Q n 3 (dE l c lx o3 (some (.ref lt)) o5 o6 o7 o8 o9) H'):DB Y Q n 2 (dE l c lx o3 o4 o5 o6 o7 o8 o9) H:=by
 apply ay (b7 w.a)
 rw[length_map]
 refine mq (lt_of_le_of_lt w.p.2 (by decide)) ?_
 refine cz (cF (by rw[length_map,length_range];exact lt_of_le_of_lt w.p.2 (by decide))) ?_
 refine gV (P:=HB ps) (F:=nv) _ _ _ (λa ha T hT=>?_) (λa Z Z N hN=>hN) (h _ _ _ (λj hj=>mem_range.mp (mem_filter.mp hj).1) (aC.aR _ _) (bj _ _))
 refine(at_of (mem_range.mp ha)).elim λp hp=>?_
 apply ay (du w.a hp)
 unfold HB at hT
 rw[hp] at hT
 have hT:T p.ad.isSome H:=hT
 unfold bv
 cases hd:p.ad with
 |none=>rw[hd] at hT;exact hT
 |some d=>rw[hd] at hT;exact hT
theorem d3(w:Dw H l lx ps xs)(hk:k<ps.length)(ht:∀j∈ts,j<ps.length)(hT:H[lt]?=some (.list (aV ts)))(h:∀k H',k<ps.length->aC H H'->DB Y Q n 4 (dE l c lx (some (nv k)) (some (.ref lt)) o5 o6 o7 o8 o9) H'):DB Y Q n 3 (dE l c lx (some (nv k)) (some (.ref lt)) o5 o6 o7 o8 o9) H:=by
 apply ay (w.g 0)
 refine(?_:bx ((((xs.getD 0 0).fdiv 3600).fmod 2==0)==true) _ _)
 refine fR (λZ=>?_) λh1=>gb h1 (h k H hk (aC.refl _))
 apply ay (ne_nil (be _ hT) (m9 _ _) (bj _ _))
 rw[isEmpty_map]
 refine ck (λh2=>?_) λh2=>h k _ hk (aC.aR _ _)
 have he:ts≠[]:=λe=>by rw[e] at h2;cases h2
 apply ay ((w.ext (aC.aR H [.list []])).g 0)
 apply ay (b7 (be _ hT))
 rw[length_map]
 apply ay (gv (Be he))
 obtain⟨j,hj,e⟩:=pick he (be [.list []] hT) ((xs.getD 0 0).fdiv 60)
 apply ay e
 exact h j _ (ht j hj) (aC.aR _ _)
end
end Mine.L
namespace Mine.L
variable{Y:PQ}
open Mine.P PySem
section
variable{n l lx lt ld lq k:Nat}{H:Hp}{Q:PQ}{K:Out->Prop}{ρ:aP}{ps:List aG}{c:Int}{xs:List Int}{vs us ds:List V}{ts:List Nat}{o3 o4 o5 o6 o7 o8 o9:Option V}
noncomputable def tS(vs:List V):Prop:=∀v∈vs,∃i,v=.int i
theorem HC(he:vs≠[])(h:H[l]?=some (.list vs))(y:Int):∃v,v∈vs/\fh (.ref l) (.int (y.fmod vs.length)) H=some v:=by
 have hl:0<vs.length:=length_pos_iff.mpr he
 obtain⟨a,ha,cO⟩:=iy y hl
 refine⟨vs[a],getElem_mem cO,?_⟩
 rw[ha]
 exact gH h (getElem?_eq_getElem cO)
theorem HD(he:vs≠[]):(vs.length:Int)≠0:=Int.ofNat_ne_zero.mpr (ne_of_gt (length_pos_iff.mpr he))
theorem d4(w:Dw H l lx ps xs)(hk:k<ps.length)(h:∀ds ld H',ds≠[]->tS ds->aC H H'->H'[ld]?=some (.list ds)->DB Y Q n 5 (dE l c lx (some (nv k)) o4 (some (.ref ld)) o6 o7 o8 o9) H'):DB Y Q n 4 (dE l c lx (some (nv k)) o4 o5 o6 o7 o8 o9) H:=by
 obtain⟨p,hp⟩:=at_of hk
 apply ay (du w.a hp)
 have hl:=w.p.2
 apply ay (cW (be [.list [.int p.aQ]] w.a))
 refine cz (cF (by rw[length_map];exact lt_of_le_of_lt hl (by decide))) ?_
 refine gV (g:=bv) (P:=λZ=>true) (F:=λp:aG=>V.int p.aQ) ps _ _ (λa Z T hT=>hT) (λa Z Z N hN=>hN) ?_
 rw[pM]
 refine lI (be _ (bj _ _)) (bj _ _) (by rw[length_append,nil_append,length_map];exact lt_of_le_of_lt (add_le_add_left hl 1) (by decide)) ?_
 apply ay (cW (be _ (be _ (be _ w.a))))
 refine cz (cF (by rw[length_map];exact lt_of_le_of_lt hl (by decide))) ?_
 refine gV (g:=bv) (P:=λp:aG=>p.bM.isSome) (F:=λp:aG=>g9 p.bM) ps _ _ (λp Z T hT=>?_) (λa Z Z N hN=>hN) ?_
 ·unfold bv
  cases hd:p.bM with
  |none=>rw[hd] at hT;exact hT
  |some d=>rw[hd] at hT;exact hT
 ·refine lI (be _ (bj _ _)) (bj _ _) (by
   rw[length_append,length_append,nil_append,nil_append,length_map,length_map]
   exact lt_of_le_of_lt (add_le_add (add_le_add_left hl 1) (le_trans (length_filter_le _ _) hl)) (by decide)) ?_
  refine h ([V.int p.aQ]++([]++ps.map λp:aG=>V.int p.aQ)++([]++(ps.filter λp:aG=>p.bM.isSome).map λp:aG=>g9 p.bM)) _ _ (cons_ne_nil _ _) (λv hv=>?_) ((((aC.aR _ _).trans (aC.aR _ _)).trans (aC.aR _ _)).trans ((aC.aR _ _).trans (aC.aR _ _))) (bj _ _)
  rcases mem_append.mp hv with hv|hv
  ·rcases mem_append.mp hv with hv|hv
   ·exact⟨_,mem_singleton.mp hv⟩
   ·rw[nil_append] at hv
    obtain⟨p,_,rfl⟩:=mem_map.mp hv
    exact⟨_,rfl⟩
  ·rw[nil_append] at hv
   obtain⟨p,hp,rfl⟩:=mem_map.mp hv
   obtain⟨e,he⟩:=isSome_iff_exists.mp (mem_filter.mp hp).2
   exact⟨e,by rw[he];rfl⟩
theorem BY{C:Ct}{a:E}{w:Bool}(h:WE C a ρ H λx H=>Q (.bool (tZ x==w)) H):WE C (.isNone w a) ρ H Q:=h
noncomputable abbrev T7:S:=.ba (.and [(.isNone false (.aE (.aE (.J 0) (.J 3)) (.k (.int 3)))),(.cmp .eq (.bin .mod (.bin .fdiv (.aE (.J 2) (.k (.int 2))) (.k (.int 12))) (.k (.int 3))) (.k (.int 0)))])
  [.aN (.J 5) (.bJ [(.aE (.aE (.J 0) (.J 3)) (.k (.int 3)))])]
  []
theorem T8{C:Ct}{rest:List S}(w:Dw H l lx ps xs)(hk:k<ps.length)(cT:ds≠[])(ha:tS ds)(hD:H[ld]?=some (.list ds))(h:∀ds ld H',ds≠[]->tS ds->aC H H'->H'[ld]?=some (.list ds)->aM C rest (dE l c lx (some (nv k)) o4 (some (.ref ld)) o6 o7 o8 o9) H' K):aM C (T7::rest) (dE l c lx (some (nv k)) o4 (some (.ref ld)) o6 o7 o8 o9) H K:=by
 obtain⟨p,hp⟩:=at_of hk
 have ix:=du w.a hp
 have no:aM C rest (dE l c lx (some (nv k)) o4 (some (.ref ld)) o6 o7 o8 o9) H K:=h _ _ _ cT ha (aC.refl _) hD
 refine jc (qe (tM (BY (fK (fK (bY rfl (bY rfl (ay ix (cj (ay (a:=g9 p.bM) rfl ?_))))))))))
 cases hd:p.bM with
 |none=>exact no
 |some e=>
  refine ay (a:=true) rfl (fH rfl ?_)
  apply ay (w.g 2)
  refine(?_:bx (((xs.getD 2 0).fdiv 12).fmod 3==0) _ _)
  refine ck (λZ=>?_) λZ=>no
  apply ay ix
  unfold bv
  rw[hd]
  exact h [.int e] _ _ (cons_ne_nil _ _) (λv hv=>⟨_,mem_singleton.mp hv⟩) (aC.aR _ _) (bj _ _)
theorem d5(w:Dw H l lx ps xs)(hk:k<ps.length)(cT:ds≠[])(ha:tS ds)(hD:H[ld]?=some (.list ds))(h:∀ds ld H',ds≠[]->tS ds->aC H H'->H'[ld]?=some (.list ds)->DB Y Q n 6 (dE l c lx (some (nv k)) o4 (some (.ref ld)) o6 o7 o8 o9) H'):DB Y Q n 5 (dE l c lx (some (nv k)) o4 (some (.ref ld)) o6 o7 o8 o9) H:=T8 w hk cT ha hD h
theorem d6(w:Dw H l lx ps xs)(cT:ds≠[])(ha:tS ds)(hD:H[ld]?=some (.list ds))(h:∀d,DB Y Q n 7 (dE l c lx o3 o4 (some (.ref ld)) (some (.int d)) o7 o8 o9) H):DB Y Q n 6 (dE l c lx o3 o4 (some (.ref ld)) o6 o7 o8 o9) H:=by
 apply ay (w.g 1)
 apply ay (b7 hD)
 apply ay (gv (HD cT))
 obtain⟨v,hv,e⟩:=HC cT hD (xs.getD 1 0)
 obtain⟨i,rfl⟩:=ha v hv
 apply ay e
 apply ay (w.g 2)
 exact h _
theorem d7{d:Int}(w:Dw H l lx ps xs)(h:∀d,DB Y Q n 8 (dE l c lx o3 o4 o5 (some (.int d)) o7 o8 o9) H):DB Y Q n 7 (dE l c lx o3 o4 o5 (some (.int d)) o7 o8 o9) H:=by
 apply ay (w.g 2)
 refine(?_:bx ((xs.getD 2 0).fmod 3==0) _ _)
 refine ck (λZ=>?_) λZ=>h _
 apply ay (w.g 3)
 exact h _
theorem T9(xs:List Int)(lo hi:Option Int):gj (xs.map V.int) lo hi=(gj xs lo hi).map V.int:=by
 unfold gj
 rw[length_map,<-List.map_take,<-List.map_drop]
theorem Ua{a:Nat}(hx:xs.length=8)(ha:a<4):(gj xs (some 4) (some ((4:Int)+(a:Int)))).length<=3:=by
 unfold gj qB
 rw[length_drop,length_take,hx]
 have:a=0\/a=1\/a=2\/a=3:=by lia
 rcases this with rfl|rfl|rfl|rfl<;>decide
theorem d8(w:Dw H l lx ps xs)(h:∀us lq H',(∀u∈us,sc u=true)->us.length<=3->aC H H'->H.length<=lq->H'[lq]?=some (.list us)->DB Y Q n 9 (dE l c lx o3 o4 o5 o6 (some (.ref lq)) o8 o9) H'):DB Y Q n 8 (dE l c lx o3 o4 o5 o6 o7 o8 o9) H:=by
 apply ay (w.g 7)
 obtain⟨a,ha,cO⟩:=iy (xs.getD 7 0) (k:=4) (by decide)
 have ha:(xs.getD 7 0).fmod 4=(a:Int):=ha
 refine(?_:wD (.ref lx) (.int 4) (.int (4+(xs.getD 7 0).fmod 4)) H _)
 rw[ha]
 have hp:wB (.int (4+(a:Int)))=some (some (4+(a:Int))):=if_pos (lt_trans (show(4+(a:Int)).natAbs<8 by lia) (by decide))
 refine ay (a:=some (4:Int)) rfl (ay hp ?_)
 apply ay (b7 w.x)
 rw[T9]
 have h3:=Ua w.n cO
 generalize gj xs (some 4) (some ((4:Int)+(a:Int)))=js at h3 ⊢
 refine cz (cF (by rw[length_map];exact lt_of_le_of_lt h3 (by decide))) ?_
 apply ay (cW (bj _ _))
 refine cz (cF (by rw[length_map];exact lt_of_le_of_lt h3 (by decide))) ?_
 refine gV (g:=V.int) (P:=λZ=>true) (F:=λx:Int=>V.int (x.fmod ps.length)) js _ _ (λa Z T hT=>hT) (λx Z Z N hN=>?_) ?_
 ·apply ay (b7 (be _ w.a))
  rw[length_map]
  apply ay (gv (tJ w.p.1))
  exact hN
 ·rw[pM]
  refine h _ _ _ (λu hu=>?_) (by rw[nil_append,length_map];exact h3) ((aC.aR _ _).trans (aC.aR _ _)) (by rw[length_append];exact le_add_right _ _) (bj _ _)
  rw[nil_append] at hu
  obtain⟨x,_,rfl⟩:=mem_map.mp hu
  rfl
end
end Mine.L
namespace Mine.L
variable{Y:PQ}
open Mine.P PySem
section
variable{n l lx lt ld lq ls k:Nat}{H:Hp}{Q:PQ}{K:Out->Prop}{ρ:aP}{ps:List aG}{c x:Int}{xs:List Int}{vs us ds os:List V}{ts:List Nat}{o3 o4 o5 o6 o7 o8 o9:Option V}{C:Ct}{rest:List S}{v:V}
theorem BZ(hs:H[ls]?=some (.list os))(cT:os≠[])(hv:sc v=true)(ho:∀u∈os,sc u=true)(q:∀u,sc u=true->Q u H):aA (n+1) kZ [.int x,v,.ref ls] H Q Y:=P6 (by
 refine(?_:bx (decide (x.fmod 4>0)) _ _)
 refine ck (λZ=>q v hv) λZ=>?_
 apply ay (b7 hs)
 apply ay (gv (HD cT))
 obtain⟨u,hu,e⟩:=HC cT hs (x.fdiv 4)
 apply ay e
 exact q u (ho u hu))
noncomputable abbrev Ub:S:=.ba (.cmp .gt (.bin .mod (.bin .fdiv (.aE (.J 2) (.k (.int 7))) (.k (.int 4))) (.k (.int 5))) (.k (.int 0)))
  [.aN (.J 8) (.comp 1 (.J 0) (.J 0) (.range (.k (.int 0)) (.bi .len [.J 0])) [(.cmp .lt (.aE (.aE (.J 1) (.J 0)) (.k (.int 0))) (.aE (.aE (.J 1) (.J 4)) (.k (.int 0))))]),
   .aN (.J 7) (.listOf (.call nG [.J 8,(.aE (.J 2) (.k (.int 4))),(.bin .mod (.bin .fdiv (.aE (.J 2) (.k (.int 0))) (.k (.int 60))) (.k (.int 2)))]))]
  []
theorem yv:copyOf H (.aF vs)=some vs:=rfl
theorem d9(hC:C.call=aA (n+1))(w:Dw H l lx ps xs)(hk:k<ps.length)(ie:∀u∈us,sc u=true)(fM:us.length<=3)(hq:H[lq]?=some (.list us)){b0:Nat}(hb:b0<=H.length)(ju:b0<=lq)(h:∀us lq o8 H',(∀u∈us,sc u=true)->us.length<=3->b0<=lq->aC H H'->H'[lq]?=some (.list us)->aM C rest (dE l c lx (some (nv k)) o4 o5 o6 (some (.ref lq)) o8 o9) H' K):aM C (Ub::rest) (dE l c lx (some (nv k)) o4 o5 o6 (some (.ref lq)) o8 o9) H K:=by
 apply ay (w.g 7)
 refine(?_:bx (decide (((xs.getD 7 0).fdiv 4).fmod 5>0)) _ _)
 refine ck (λZ=>?_) λZ=>h _ _ _ _ ie fM ju (aC.refl _) hq
 obtain⟨p,hp⟩:=at_of hk
 apply ay (b7 w.a)
 rw[length_map]
 refine mq (lt_of_le_of_lt w.p.2 (by decide)) ?_
 refine cz (cF (by rw[length_map,length_range];exact lt_of_le_of_lt w.p.2 (by decide))) ?_
 refine gV (P:=jy ps p.aQ) (F:=nv) _ _ _ (λj hj T hT=>?_) (λa Z Z N hN=>hN) ?_
 ·refine(at_of (mem_range.mp hj)).elim λpj vt=>?_
  apply ay (du w.a vt)
  apply ay (du w.a hp)
  unfold jy at hT
  rw[vt] at hT
  exact tH (T:=T) hT
 ·have w1:=w.ext (aC.aR H [.list ([]++aV ((List.range ps.length).filter (jy ps p.aQ)))])
  have a1:=bj H (.list ([]++aV ((List.range ps.length).filter (jy ps p.aQ))))
  have x1:=aC.aR H [.list ([]++aV ((List.range ps.length).filter (jy ps p.aQ)))]
  refine fJ (show WE C (.listOf (.call nG [.J 8,(.aE (.J 2) (.k (.int 4))),(.bin .mod (.bin .fdiv (.aE (.J 2) (.k (.int 0))) (.k (.int 60))) (.k (.int 2)))])) (dE l c lx (some (nv k)) o4 o5 o6 (some (.ref lq)) (some (.ref H.length)) o9) (H++[.list ([]++aV ((List.range ps.length).filter (jy ps p.aQ)))]) _ from ?_)
  apply ay (w1.g 4)
  apply ay (w1.g 0)
  refine(?_:C.call nG [.ref H.length,.int (xs.getD 4 0),.int (((xs.getD 0 0).fdiv 60).fmod 2)] _ _ C.exc)
  rw[hC]
  refine yg (n:=n) a1 λal H2 dH h2 Z x2=>?_
  refine ay yv (cz (cF (by rw[length_map];exact lt_of_le_of_lt h2.1 (by decide))) ?_)
  refine ay rfl (h (aV al) _ _ _ (λu hu=>?_) (by rw[length_map];exact Nat.le_succ_of_le h2.1) (le_trans hb (x1.trans x2).len) ((x1.trans x2).trans (aC.aR _ _)) (bj _ _))
  obtain⟨a,_,rfl⟩:=mem_map.mp hu
  rfl
noncomputable abbrev Uc:S:=.ba (.cmp .eq (.bin .mod (.bin .fdiv (.aE (.J 2) (.k (.int 6))) (.k (.int 7))) (.k (.int 5))) (.k (.int 0)))
  [.aN (.J 7) (.bin .mul (.ii (.J 7) none (some (.k (.int 1)))) (.k (.int 2)))]
  []
theorem Ud(w:Dw H l lx ps xs)(ie:∀u∈us,sc u=true)(fM:us.length<=3)(hq:H[lq]?=some (.list us)){b0:Nat}(hb:b0<=H.length)(ju:b0<=lq)(h:∀us lq H',(∀u∈us,sc u=true)->us.length<=3->b0<=lq->aC H H'->H'[lq]?=some (.list us)->aM C rest (dE l c lx o3 o4 o5 o6 (some (.ref lq)) o8 o9) H' K):aM C (Uc::rest) (dE l c lx o3 o4 o5 o6 (some (.ref lq)) o8 o9) H K:=by
 apply ay (w.g 6)
 refine(?_:bx (((xs.getD 6 0).fdiv 7).fmod 5==0) _ _)
 refine ck (λZ=>?_) λZ=>h _ _ _ ie fM ju (aC.refl _) hq
 refine fJ (gg ?_)
 refine(?_:wD (.ref lq) .none (.int 1) H _)
 refine ay (a:=none) rfl (ay (a:=some 1) rfl (ay (b7 hq) ?_))
 have e1:(gj us none (some 1)).length<=1:=by
  unfold gj qB
  rw[length_drop,length_take]
  refine le_trans (Nat.sub_le _ _) (le_trans (Nat.min_le_left _ _) ?_)
  have:(max (0:Int) (min (if(1:Int)<0 then 1+us.length else 1) us.length)).toNat<=1:=by
   rw[if_neg (by decide)]
   rcases Int.le_total 1 (us.length:Int) with h|h
   ·rw[Int.min_eq_left h];decide
   ·rw[Int.min_eq_right h,Int.max_eq_right (natCast_nonneg _)];lia
  exact this
 have e2:∀u∈gj us none (some 1),u∈us:=λu hu=>List.mem_of_mem_take (List.mem_of_mem_drop hu)
 refine cz (cF (lt_of_le_of_lt e1 (by decide))) ?_
 refine jA (cj ?_)
 refine ay (b7 (bj _ _)) ?_
 refine(?_:((2:Int)=2/\(gj us none (some 1)).length<=1000)/\_)
 refine⟨⟨rfl,le_trans e1 (by decide)⟩,?_⟩
 refine jA (ay rfl (h _ _ _ (λu hu=>(mem_append.mp hu).elim (λh=>ie u (e2 u h)) λh=>ie u (e2 u h)) (by rw[length_append];lia) (le_trans hb (aC.aR _ _).len) ((aC.aR _ _).trans (aC.aR _ _)) (bj _ _)))
end
end Mine.L
namespace Mine.L
variable{Y:PQ}
open Mine.P PySem
noncomputable def yw:Nat->List V->List (Nat×V)
 |_,[]=>[]
 |k,v::r=>(k,v)::yw (k+1) r
theorem HE:∀(k:Nat) (vs:List V),pf k vs=(yw k vs).map λp=>.aF [nv p.1,p.2]
 |_,[]=>rfl
 |k,v::r=>congrArg (V.aF [nv k,v]::·) (HE (k+1) r)
theorem B0:∀(k:Nat) (vs:List V),(yw k vs).length=vs.length
 |_,[]=>rfl
 |k,v::r=>congrArg (·+1) (B0 (k+1) r)
theorem HF:∀(k:Nat) (vs:List V),∀p∈yw k vs,p.2∈vs
 |_,[],_,h=>nomatch h
 |k,v::r,p,h=>(mem_cons.mp h).elim (λe=>e▸mem_cons_self) λh=>.tail _ (HF (k+1) r p h)
theorem Ue:PyData.strOk "0"=true:=by decide +kernel
theorem Ug:PyData.strOk "5"=true:=by decide +kernel
section
variable{n l lx lt ld lq ls k:Nat}{H:Hp}{Q:PQ}{K:Out->Prop}{ρ:aP}{ps:List aG}{c x d:Int}{xs:List Int}{vs us ds os:List V}{o3 o4 o5 o6 o7 o8 o9:Option V}{C:Ct}{rest:List S}{v:V}
noncomputable abbrev Uh:S:=.aN (.J 9) (.bJ [(.neg (.k (.int 1))),(.bi .len [.J 0]),(.k (.bool true)),(.k (.bool false)),(.k .none),(.k (.str "0"))])
theorem Ui(w:Dw H l lx ps xs)(h:∀os ls H',os≠[]->(∀u∈os,sc u=true)->aC H H'->H'[ls]?=some (.list os)->aM C rest (dE l c lx o3 o4 o5 o6 o7 o8 (some (.ref ls))) H' K):aM C (Uh::rest) (dE l c lx o3 o4 o5 o6 o7 o8 o9) H K:=by
 apply ay (b7 w.a)
 refine h [.int (-1),.int ((ps.map bv).length:Nat),.bool true,.bool false,.none,.str "0"] _ _ (cons_ne_nil _ _) (λu hu=>?_) (aC.aR _ _) (bj _ _)
 rcases mem_cons.mp hu with rfl|hu
 ·rfl
 rcases mem_cons.mp hu with rfl|hu
 ·rfl
 rcases mem_cons.mp hu with rfl|hu
 ·rfl
 rcases mem_cons.mp hu with rfl|hu
 ·rfl
 rcases mem_cons.mp hu with rfl|hu
 ·rfl
 rw[mem_singleton.mp hu];exact Ue
noncomputable abbrev Uj:S:=.aN (.J 3) (.call kZ [(.aE (.J 2) (.k (.int 5))),.J 3,.J 9])
noncomputable abbrev Uk:S:=.aN (.J 7) (.comp 2 (.call kZ [(.bin .add (.bin .fdiv (.aE (.J 4) (.k (.int 5))) (.k (.int 36))) (.J 0)),.J 1,.J 11]) (.aF [.J 0,.J 1]) (.jI (.J 7)) [])
noncomputable abbrev Ul:S:=.aN (.J 6) (.call kZ [(.aE (.J 2) (.k (.int 6))),.J 6,(.bJ [(.neg (.k (.int 1))),(.k (.int 100001)),(.k (.bool true)),(.k .none),(.k (.str "5")),(.bin .pow (.k (.int 10)) (.k (.int 20))),(.k (.int 100000)),(.k (.int 0))])])
theorem Um(hC:C.call=aA (n+1))(w:Dw H l lx ps xs)(cT:os≠[])(ho:∀u∈os,sc u=true)(hs:H[ls]?=some (.list os))(hv:sc v=true)(h:∀u,sc u=true->aM C rest (dE l c lx (some u) o4 o5 o6 o7 o8 (some (.ref ls))) H K):aM C (Uj::rest) (dE l c lx (some v) o4 o5 o6 o7 o8 (some (.ref ls))) H K:=by
 apply ay (w.g 5)
 refine(?_:C.call kZ [.int (xs.getD 5 0),v,.ref ls] H _ C.exc)
 rw[hC]
 exact BZ hs cT hv ho λu hu=>ay rfl (h u hu)
theorem Un(hC:C.call=aA (n+1))(w:Dw H l lx ps xs)(cT:os≠[])(ho:∀u∈os,sc u=true)(hs:H[ls]?=some (.list os))(ie:∀u∈us,sc u=true)(fM:us.length<=3)(hq:H[lq]?=some (.list us)){b0:Nat}(hb:b0<=H.length)(h:∀us lq H',(∀u∈us,sc u=true)->us.length<=3->b0<=lq->aC H H'->H'[lq]?=some (.list us)->aM C rest (dE l c lx o3 o4 o5 o6 (some (.ref lq)) o8 (some (.ref ls))) H' K):aM C (Uk::rest) (dE l c lx o3 o4 o5 o6 (some (.ref lq)) o8 (some (.ref ls))) H K:=by
 refine fJ (nr ?_)
 apply ay (b7 hq)
 rw[HE]
 refine cz (cF (by rw[length_map,B0];exact lt_of_le_of_lt fM (by decide))) ?_
 refine m8 (g:=λp:Nat×V=>V.aF [nv p.1,p.2]) (λas acc ρ H'=>(∃o o',ρ=o::o'::dE l c lx o3 o4 o5 o6 (some (.ref lq)) o8 (some (.ref ls)))/\H'=H/\(∀u∈acc,sc u=true)/\acc.length+as.length<=3/\∀p∈as,sc p.2=true) (λp as acc ρ H' hI=>?_) (λacc ρ H' hI=>?_) _ _ _ _ ⟨⟨none,none,rfl⟩,rfl,λZ h=>(nomatch h),by rw[length_nil,B0,zero_add];exact fM,λp hp=>ie _ (HF _ _ p hp)⟩
 ·obtain⟨⟨o,o',rfl⟩,rfl,qX,dg,has⟩:=hI
  refine ay (a:=some (nv p.1)::some p.2::dE l c lx o3 o4 o5 o6 (some (.ref lq)) o8 (some (.ref ls))) rfl λN hN=>?_
  refine(?_:WE C.no (.call kZ [(.bin .add (.bin .fdiv (.aE (.J 4) (.k (.int 5))) (.k (.int 36))) (.J 0)),.J 1,.J 11]) (some (nv p.1)::some p.2::dE l c lx o3 o4 o5 o6 (some (.ref lq)) o8 (some (.ref ls))) H' _)
  apply ay (w.g 5)
  refine(?_:C.call kZ [.int ((xs.getD 5 0).fdiv 36+(p.1:Int)),p.2,.ref ls] H' _ _)
  rw[hC]
  refine BZ hs cT (has p mem_cons_self) ho λu hu=>?_
  rw[length_cons] at dg
  exact hN _ _ (c9 hq hq) ⟨⟨_,_,rfl⟩,rfl,λz hz=>(mem_append.mp hz).elim (qX z) λh=>by rw[mem_singleton.mp h];exact hu,by rw[length_append];refine(?_:acc.length+1+as.length<=3);lia,λp hp=>has p (.tail _ hp)⟩
 ·obtain⟨_,rfl,qX,dg,_⟩:=hI
  exact jA (ay rfl (h acc _ _ qX (by rw[length_nil] at dg;exact dg) hb (aC.aR _ _) (bj _ _)))
noncomputable def HG:List V:=[.int (-1),.int 100001,.bool true,.none,.str "5",.int (10^20),.int 100000,.int 0]
theorem Uo:∀u∈HG,sc u=true:=by
 intro u hu
 rcases mem_cons.mp hu with rfl|hu
 ·rfl
 rcases mem_cons.mp hu with rfl|hu
 ·rfl
 rcases mem_cons.mp hu with rfl|hu
 ·rfl
 rcases mem_cons.mp hu with rfl|hu
 ·rfl
 rcases mem_cons.mp hu with rfl|hu
 ·exact Ug
 rcases mem_cons.mp hu with rfl|hu
 ·rfl
 rcases mem_cons.mp hu with rfl|hu
 ·rfl
 rw[mem_singleton.mp hu];rfl
theorem Up(hC:C.call=aA (n+1))(w:Dw H l lx ps xs)(hv:sc v=true)(h:∀u H',sc u=true->aC H H'->aM C rest (dE l c lx o3 o4 o5 (some u) o7 o8 o9) H' K):aM C (Ul::rest) (dE l c lx o3 o4 o5 (some v) o7 o8 o9) H K:=by
 apply ay (w.g 6)
 refine(?_:C.call kZ [.int (xs.getD 6 0),v,.ref H.length] (H++[.list HG]) _ C.exc)
 rw[hC]
 exact BZ (bj _ _) (cons_ne_nil _ _) hv Uo λu hu=>ay rfl (h u _ hu (aC.aR _ _))
end
end Mine.L
namespace Mine.L
variable{Y:PQ}
open Mine.P PySem
section
variable{n l:Nat}{H:Hp}{Q:PQ}{ps:List aG}{c:Int}
noncomputable def Uq(H:Hp)(Q:PQ):Prop:=∀us lq H' v,(∀u∈us,sc u=true)->us.length<=3->H.length<=lq->aC H H'->H'[lq]?=some (.list us)->sc v=true->Q (je v lq) H'/\∀k,sc k=true->Q (j6 k v lq) H'
theorem HH{lx lq:Nat}{v u:V}{o4 o5 o8 o9:Option V}{H':Hp}(h:Q (je v lq) H'/\Q (j6 u v lq) H'):DB Y Q n 13 (dE l c lx (some u) o4 o5 (some v) (some (.ref lq)) o8 o9) H':=by
 refine(?_:bx ((c.fdiv 2).fmod 2==0) _ _)
 exact ck (λZ=>h.1) λZ=>h.2
theorem Ur(hA:H[l]?=some (.list (ps.map bv)))(hp:0<ps.length/\ps.length<=60)(q:Uq H Q):aA (n+3) v7 [.ref l,.int c] H Q Y:=P7 (by
 refine(?_:aA (n+2) lY [.int c,nv 8] H _ _)
 refine tF (n:=n+1) (by decide) λlx H1 xs B1 Z Z x1 ax=>?_
 have w1:Dw H1 l lx ps xs:=⟨x1 _ _ hA,ax,hp,B1⟩
 refine d1 w1 λa ha=>d2 w1 λts lt H2 pI x2 aT=>d3 (w1.ext x2) ha pI aT λk H3 hk x3=>d4 ((w1.ext x2).ext x3) hk λds ld H4 cT B2 x4 aD=>?_
 have w4:=((w1.ext x2).ext x3).ext x4
 refine d5 w4 hk cT B2 aD λds ld H5 cT B2 x5 aD=>d6 (w4.ext x5) cT B2 aD λd=>d7 (w4.ext x5) λd=>d8 (w4.ext x5) λus lq H6 ie fM x6 ic aq=>?_
 have w6:=(w4.ext x5).ext x6
 have xx:aC H H6:=((((x1.trans x2).trans x3).trans x4).trans x5).trans x6
 refine d9 (n:=n+1) (C:=⟨aA (n+2),xq Y⟩) rfl w6 hk ie fM aq (b0:=H.length) xx.len (le_trans ((((x1.trans x2).trans x3).trans x4).trans x5).len ic) λus lq o8 H7 ie fM ic x7 aq=>?_
 refine Ud (w6.ext x7) ie fM aq (b0:=H.length) (xx.trans x7).len ic λus lq H8 ie fM ic x8 aq=>?_
 refine Ui ((w6.ext x7).ext x8) λos ls H9 cT ho x9 as=>?_
 have w9:=((w6.ext x7).ext x8).ext x9
 have xy:aC H H9:=((xx.trans x7).trans x8).trans x9
 have fin:∀{us lq H' u v},(∀u∈us,sc u=true)->us.length<=3->H.length<=lq->aC H H'->H'[lq]?=some (.list us)->sc v=true->sc u=true->Q (je v lq) H'/\Q (j6 u v lq) H':=λh1 h2 h3 h4 h5 h6 h7=>⟨(q _ _ _ _ h1 h2 h3 h4 h5 h6).1,(q _ _ _ _ h1 h2 h3 h4 h5 h6).2 _ h7⟩
 refine(?_:bx (c.fmod 2==1) _ _)
 refine ck (λZ=>?_) λZ=>HH (fin ie fM ic xy (x9 _ _ aq) rfl rfl)
 refine Um (n:=n+1) (C:=⟨aA (n+2),xq Y⟩) rfl w9 cT ho as rfl λu hu=>?_
 refine Un (n:=n+1) (C:=⟨aA (n+2),xq Y⟩) rfl w9 cT ho as ie fM (x9 _ _ aq) (b0:=H.length) xy.len λus lq H10 ie fM ic nj aq=>?_
 refine Up (n:=n+1) (C:=⟨aA (n+2),xq Y⟩) rfl (w9.ext nj) rfl λv H11 hv HI=>?_
 exact HH (fin ie fM ic ((xy.trans nj).trans HI) (HI _ _ aq) hv hu))
end
end Mine.L
namespace Mine.L
variable{Y:PQ}
open Mine.P PySem
inductive gz where
 |aQ (p:aG)
 |bM (k:Nat) (e:Int)
 |adopt (k:Nat) (x:Int×List Nat)
 |fy (w:dP)
 |kR (w:gf)
inductive dR(P:Nat->Prop)(H:Hp):gz->V->Prop
 |aQ {p:aG} {lq:Nat}:P lq->H[lq]?=some (.list (aV p.bS))->dR P H (.aQ p) (je (.int p.aQ) lq)
 |bM {k:Nat} {e:Int}:dR P H (.bM k e) (yu k e)
 |adopt {k:Nat} {x:Int×List Nat} {lq:Nat}:P lq->H[lq]?=some (.list (aV x.2))->dR P H (.adopt k x) (j6 (nv k) (.int x.1) lq)
 |fy {w:dP}:dR P H (.fy w) (yt w.a w.b w.day)
 |kR {w:gf} {lg:Nat}:P lg->H[lg]?=some (.list (w.cU.map λg=>oB g.2 g.1))->dR P H (.kR w) (BS w.gr w.day lg)
theorem dR.k{P P':Nat->Prop}{H H':Hp}{d:gz}{v:V}(h:dR P H d v)(x:∀l c,P l->H[l]?=some c->P' l/\H'[l]?=some c):dR P' H' d v:=h.casesOn (λh1 h2=>.aQ (x _ _ h1 h2).1 (x _ _ h1 h2).2) .bM (λh1 h2=>.adopt (x _ _ h1 h2).1 (x _ _ h1 h2).2) .fy λh1 h2=>.kR (x _ _ h1 h2).1 (x _ _ h1 h2).2
theorem B3{P:Nat->Prop}{H H':Hp}{ds:List gz}{vs:List V}(h:cm (dR P H) ds vs)(x:aC H H'):cm (dR P H') ds vs:=h.imp λZ Z h=>h.k λl c hp a=>⟨hp,x l c a⟩
noncomputable def Bl(b ld:Nat)(l:Nat):Prop:=b<=l/\l<ld
noncomputable def Bn(b ld:Nat)(l:Nat):Prop:=b<=l/\l≠ld
theorem B4{b:Nat}{H H':Hp}{P:Nat->Prop}{ds:List gz}{vs:List V}(h:cm (dR P H) ds vs)(hp:∀l,P l->b<=l)(x:aC H H'):cm (dR (Bl b H.length) H') ds vs:=h.imp λZ Z h=>h.k λl c hl a=>⟨⟨hp l hl,cu a⟩,x l c a⟩
theorem HJ{b ld:Nat}{H:Hp}{ds:List gz}{vs:List V}(h:cm (dR (Bl b ld) H) ds vs):cm (dR (Bn b ld) H) ds vs:=h.imp λZ Z h=>h.k λl c hl a=>⟨⟨hl.1,ne_of_lt hl.2⟩,a⟩
theorem cm.aR{α β:Type}{R:α->β->Prop}{as bs:List α}{us vs:List β}(h:cm R as us)(h':cm R bs vs):cm R (as++bs) (us++vs):=h.rec (motive:=λas us Z=>cm R (as++bs) (us++vs)) h' λr Z ih=>.cons r ih
noncomputable def yx(ps:List aG):List gz:=(eO ps).map λk=>.bM k ((dD ps k).getD 0)
noncomputable def jf(ps:List aG)(js:List Nat):List gz:=js.filterMap λk=>(ps[k]?).bind λp=>p.ad.map λx=>.adopt k x
noncomputable def nz(r:cq):List gz:=((r.ps.map .aQ++yx r.ps)++jf r.ps (List.range r.ps.length))++r.ms.map .fy++r.ws.map .kR
section
variable{n l lm lw b ld:Nat}{H:Hp}{Q:PQ}{K:Out->Prop}{rest:List S}{C:Ct}{r:cq}{ps:List aG}{vs:List V}{o2 o3 o4 o5 o6:Option V}
noncomputable abbrev fU(l lm lw:Nat)(o2 o3 o4 o5 o6:Option V):aP:=[some (.aF [.ref l,.ref lm,.ref lw]),some (.ref l),o2,o3,o4,o5,o6]
theorem B5{ρ:aP}{e1 e2 e3:E}(h:WE C e1 ρ H λa H=>WE C e2 ρ H λb H=>WE C e3 ρ H λc H=>Q (.aF [a,b,c]) H):WE C (.aF [e1,e2,e3]) ρ H Q:=h
theorem yy{ρ:aP}{e:E}(h:WE C e ρ H λx H=>aJ (copyOf H x) λvs=>qC vs H Q):WE C (.listOf e) ρ H Q:=h
noncomputable abbrev HK:S:=.aN (.J 2) (.comp 1 (.aF [(.k (.str "born")),(.aE (.J 0) (.k (.int 0))),(.listOf (.aE (.J 0) (.k (.int 1))))]) (.J 0) (.of (.J 1)) [])
theorem s1(hb:b<=H.length)(hA:H[l]?=some (.list (ps.map bv)))(hl:ps.length<=60)(h2:∀p∈ps,p.bS.length<=2)(h:∀vs ld H',aC H H'->b<=ld->H'[ld]?=some (.list vs)->cm (dR (Bl b ld) H') (ps.map .aQ) vs->aM C rest (fU l lm lw (some (.ref ld)) o3 o4 o5 o6) H' K):aM C (HK::rest) (fU l lm lw o2 o3 o4 o5 o6) H K:=by
 refine fJ (nr ?_)
 apply ay (cW hA)
 refine cz (cF (by rw[length_map];exact lt_of_le_of_lt hl (by decide))) ?_
 refine m8 (g:=bv) (λas acc ρ H'=>(∃o,ρ=o::fU l lm lw o2 o3 o4 o5 o6)/\aC H H'/\∃an,an++as=ps/\cm (dR (b<=·) H') (an.map .aQ) acc) (λp as acc ρ H' hI=>?_) (λacc ρ H' hI=>?_) _ _ _ _ ⟨⟨none,rfl⟩,aC.refl _,[],rfl,.nil⟩
 ·obtain⟨⟨o,rfl⟩,x,an,t,ha⟩:=hI
  refine ay (a:=some (bv p)::fU l lm lw o2 o3 o4 o5 o6) rfl λN hN=>?_
  refine yo (fH rfl ?_)
  have Bg:=h2 p (t▸mem_append.mpr (.inr mem_cons_self))
  refine B5 ?_
  refine cj ?_
  refine fK (bY (v:=bv p) rfl (cj ?_))
  refine ay (a:=V.int p.aQ) rfl ?_
  refine yy (fK (bY (v:=bv p) rfl (cj ?_)))
  refine ay (a:=V.aF (aV p.bS)) rfl ?_
  refine ay (yv (H:=H') (vs:=aV p.bS)) ?_
  refine(cz (cF (by rw[length_map];exact lt_of_le_of_lt Bg (by decide))) ?_)
  refine jA (hN _ _ (c9 hA (be _ (x _ _ hA))) ⟨⟨_,rfl⟩,x.trans (aC.aR _ _),an++[p],gp t,?_⟩)
  rw[map_append]
  exact(B3 ha (aC.aR _ _)).snoc (.aQ (le_trans hb x.len) (bj _ _))
 ·obtain⟨_,x,an,t,ha⟩:=hI
  rw[append_nil] at t
  subst t
  exact jA (ay rfl (h acc _ _ (x.trans (aC.aR _ _)) (le_trans hb x.len) (bj _ _) (B4 ha (λZ h=>h) (aC.aR _ _))))
theorem HL{P:Nat->Prop}{H:Hp}{f:Nat->Int}:∀js:List Nat,cm (dR P H) (js.map λk=>.bM k (f k)) (js.map λk=>yu k (f k))
 |[]=>.nil
 |_::js=>.cons .bM (HL js)
noncomputable abbrev HM:S:=.aN (.J 2) (.bin .add (.J 2) (.comp 1 (.aF [(.k (.str "died")),.J 0,(.aE (.aE (.J 2) (.J 0)) (.k (.int 3)))]) (.J 0) (.range (.k (.int 0)) (.bi .len [.J 1])) [(.isNone false (.aE (.aE (.J 2) (.J 0)) (.k (.int 3))))]))
theorem s2{ds:List gz}(hb:b<=H.length)(hA:H[l]?=some (.list (ps.map bv)))(hl:ps.length<=60)(oE:vs.length<=60)(hD:H[ld]?=some (.list vs))(hd:cm (dR (Bl b ld) H) ds vs)(h:∀vs ld H',aC H H'->b<=ld->vs.length<=120->H'[ld]?=some (.list vs)->cm (dR (Bl b ld) H') (ds++yx ps) vs->aM C rest (fU l lm lw (some (.ref ld)) o3 o4 o5 o6) H' K):aM C (HM::rest) (fU l lm lw (some (.ref ld)) o3 o4 o5 o6) H K:=by
 refine fJ (gg (bY rfl (nr ?_)))
 apply ay (b7 hA)
 rw[length_map]
 refine mq (lt_of_le_of_lt hl (by decide)) ?_
 refine cz (cF (by rw[length_map,length_range];exact lt_of_le_of_lt hl (by decide))) ?_
 refine gV (P:=gx ps) (F:=λk=>yu k ((dD ps k).getD 0)) (List.range ps.length) _ _ (λj hj T hT=>?_) (λj hj hd N hN=>?_) ?_
 ·refine(at_of (mem_range.mp hj)).elim λp hp=>?_
  refine(?_:aJ (fh (.ref l) (nv j) H) _)
  refine ay (du hA hp) ?_
  unfold gx at hT
  rw[hp] at hT
  have hT:T p.bM.isSome H:=hT
  unfold bv
  cases hd:p.bM with
  |none=>rw[hd] at hT;exact hT
  |some d=>rw[hd] at hT;exact hT
 ·refine(at_of (mem_range.mp hj)).elim λp hp=>?_
  refine(?_:aJ (fh (.ref l) (nv j) H) _)
  refine ay (du hA hp) ?_
  unfold gx at hd
  rw[hp] at hd
  obtain⟨e,he⟩:=isSome_iff_exists.mp hd
  unfold dD at hN
  rw[hp,show(some p).bind (·.bM)=some e from he] at hN
  unfold bv
  rw[he]
  exact hN
 ·refine jA ?_
  have dg:((List.range ps.length).filter (gx ps)).length<=60:=le_trans (length_filter_le _ _) (by rw[length_range];exact hl)
  refine lI (be _ hD) (bj _ _) (by rw[length_append,nil_append,length_map];exact lt_of_le_of_lt (add_le_add oE dg) (by decide)) ?_
  refine ay rfl (h _ _ _ ((aC.aR _ _).trans (aC.aR _ _)) (le_trans hb (aC.aR _ _).len) (by rw[length_append,nil_append,length_map];exact add_le_add oE dg) (bj _ _) ?_)
  refine(B4 (B3 hd (aC.aR _ _)) (λZ h=>h.1) (aC.aR _ _)).aR ?_
  unfold yx eO
  rw[nil_append]
  exact HL _
noncomputable abbrev Us:List S:=[.ba (.isNone false (.aE (.aE (.J 1) (.J 3)) (.k (.int 2))))
   [.expr (.c8 .append (.J 2) [(.aF [(.k (.str "adopted")),.J 3,(.aE (.aE (.aE (.J 1) (.J 3)) (.k (.int 2))) (.k (.int 0))),(.listOf (.aE (.aE (.aE (.J 1) (.J 3)) (.k (.int 2))) (.k (.int 1))))])])]
   []]
noncomputable abbrev HN:S:=.for (.J 3) (.range (.k (.int 0)) (.bi .len [.J 1])) Us
theorem B6{ρ:aP}{e1 e2 e3 e4:E}(h:WE C e1 ρ H λa H=>WE C e2 ρ H λb H=>WE C e3 ρ H λc H=>WE C e4 ρ H λd H=>Q (.aF [a,b,c,d]) H):WE C (.aF [e1,e2,e3,e4]) ρ H Q:=h
theorem HO{an:List Nat}{k:Nat}{p:aG}(hp:ps[k]?=some p):jf ps (an++[k])=jf ps an++(match p.ad with|none=>[]|some x=>[gz.adopt k x]):=by
 unfold jf
 rw[List.filterMap_append]
 congr 1
 refine(?_:List.filterMap _ [k]=_)
 rw[List.filterMap_cons,hp,List.filterMap_nil]
 rw[show((some p).bind λp=>p.ad.map λx=>gz.adopt k x)=p.ad.map (λx=>gz.adopt k x) from rfl]
 cases p.ad<;>rfl
theorem HP{ρ:aP}{j:Nat}{e:E}{us:List V}{lu:Nat}(hj:ρ[j]?.join=some (.ref lu))(hu:H[lu]?=some (.list us))(h:WE C e ρ H λv H1=>pg .append (.ref lu) [v] H1 Q):WE C (.c8 .append (.J j) [e]) ρ H Q:=ay hj (fS hu h)
theorem s3{ds:List gz}(hb:b<=ld)(hA:H[l]?=some (.list (ps.map bv)))(hl:ps.length<=60)(h2:∀p∈ps,∀x,p.ad=some x->x.2.length<=2)(oE:vs.length<=120)(B7:l<ld)(hD:H[ld]?=some (.list vs))(hd:cm (dR (Bl b ld) H) ds vs)(h:∀vs o3 H',bu ld H H'->vs.length<=180->H'[ld]?=some (.list vs)->cm (dR (Bn b ld) H') (ds++jf ps (List.range ps.length)) vs->aM C rest (fU l lm lw (some (.ref ld)) o3 o4 o5 o6) H' K):aM C (HN::rest) (fU l lm lw (some (.ref ld)) o3 o4 o5 o6) H K:=by
 refine vp (yf (cj ?_))
 apply ay (b7 hA)
 rw[length_map]
 refine mq (lt_of_le_of_lt hl (by decide)) ?_
 have BL:=cu hD
 refine ft (λas ρ H'=>(∃o3,ρ=fU l lm lw (some (.ref ld)) o3 o4 o5 o6)/\bu ld H H'/\∃an gW,an++as=List.range ps.length/\H'[ld]?=some (.list gW)/\cm (dR (Bn b ld) H') (ds++jf ps an) gW/\gW.length<=120+an.length) (λk as ρ H' hI=>?_) (λρ H' hI=>?_) _ _ _ ⟨⟨o3,rfl⟩,bu.refl _ _,[],vs,rfl,hD,by rw[show jf ps []=[] from rfl,append_nil];exact HJ hd,oE⟩
 ·obtain⟨⟨o,rfl⟩,x,an,gW,t,a,ha,gS⟩:=hI
  refine ay (a:=fU l lm lw (some (.ref ld)) (some (nv k)) o4 o5 o6) rfl λN hN=>?_
  have mw:k∈List.range ps.length:=t▸mem_append.mpr (.inr mem_cons_self)
  have dH:an.length<=60:=le_trans (by rw[<-length_range (n:=ps.length),<-t,length_append];exact le_add_right _ _) hl
  obtain⟨p,hp⟩:=at_of (mem_range.mp mw)
  have iK:=x _ _ (ne_of_lt B7) hA
  have ix:=du iK hp
  have sn:=HO (an:=an) hp
  refine jc (qe (BY (fK (fK (bY rfl (bY rfl (ay ix (cj (ay (a:=mY p.ad) rfl ?_)))))))))
  cases gT:p.ad with
  |none=>
   rw[gT] at sn
   refine ay (a:=false) rfl (gb rfl (hN _ _ rfl ⟨⟨_,rfl⟩,x,an++[k],gW,gp t,a,?_,by rw[length_append];exact le_trans gS (add_le_add_left (le_add_right _ _) _)⟩))
   rw[sn,append_nil];exact ha
  |some z=>
   rw[gT] at sn
   refine ay (a:=true) rfl (fH rfl (GY (HP rfl a (B6 (cj (bY rfl (fK (fK (fK (bY rfl (bY rfl (ay ix (cj (ay (a:=mY p.ad) rfl (cj ?_)))))))))))))))
   rw[gT]
   refine ay (a:=V.int z.1) rfl (yy (fK (fK (fK (bY rfl (bY rfl (ay ix (cj (ay (a:=mY p.ad) rfl (cj ?_))))))))))
   rw[gT]
   refine ay (a:=V.aF (aV z.2)) rfl (ay (yv (vs:=aV z.2)) (cz (cF (by rw[length_map];exact lt_of_le_of_lt (h2 p (mem_of_getElem? hp) z gT) (by decide))) (jA ?_)))
   have a':=be [.list (aV z.2)] a
   refine f9 a' (lt_of_le_of_lt gS (lt_of_le_of_lt (add_le_add_left dH _) (by decide))) ?_
   have fI:ld<H'.length:=cu a
   refine(hN _ _ rfl ⟨⟨_,rfl⟩,x.trans ((bu.aR _ _ _).trans (bu.set _ _ _)),an++[k],_,gp t,dN a' _,?_,by rw[length_append,length_append];exact succ_le_succ gS⟩)
   rw[sn,<-append_assoc]
   refine(ha.imp λZ Z h=>h.k λl c hp a=>⟨hp,dF (be _ a) _ (Ne.symm hp.2)⟩).snoc (.adopt ⟨le_trans hb (le_of_lt fI),ne_of_gt fI⟩ (dF (bj _ _) _ (ne_of_lt fI)))
 ·obtain⟨⟨o,rfl⟩,x,an,gW,t,a,ha,gS⟩:=hI
  rw[append_nil] at t
  subst t
  exact h gW o H' x (le_trans gS (by rw[length_range];exact add_le_add_left hl _)) a ha
end
end Mine.L
namespace Mine.L
variable{Y:PQ}
open Mine.P PySem
section
variable{n l lm lw b ld:Nat}{H:Hp}{Q:PQ}{K:Out->Prop}{rest:List S}{C:Ct}{r:cq}{ps:List aG}{ms:List dP}{ws:List gf}{vs:List V}{o2 o3 o4 o5 o6:Option V}
noncomputable abbrev HQ:S:=.aN (.J 2) (.bin .add (.J 2) (.comp 3 (.aF [(.k (.str "married")),.J 0,.J 1,.J 2]) (.aF [.J 0,.J 1,.J 2]) (.of (.aE (.J 0) (.k (.int 1)))) []))
theorem HR{P:Nat->Prop}{H:Hp}:∀ms:List dP,cm (dR P H) (ms.map .fy) (ms.map λw=>yt w.a w.b w.day)
 |[]=>.nil
 |_::ms=>.cons .fy (HR ms)
theorem s4{ds:List gz}(hb:b<=H.length)(hM:H[lm]?=some (.list (ms.map gI)))(hl:ms.length<=1000)(oE:vs.length<=180)(hD:H[ld]?=some (.list vs))(hd:cm (dR (Bn b ld) H) ds vs)(h:∀vs ld H',aC H H'->b<=ld->H.length<=ld->vs.length<=1180->H'[ld]?=some (.list vs)->cm (dR (Bl b ld) H') (ds++ms.map .fy) vs->aM C rest (fU l lm lw (some (.ref ld)) o3 o4 o5 o6) H' K):aM C (HQ::rest) (fU l lm lw (some (.ref ld)) o3 o4 o5 o6) H K:=by
 refine fJ (gg (bY rfl (nr (tL (fK (bY rfl (cj ?_)))))))
 refine ay (a:=V.ref lm) rfl (ay (cW hM) ?_)
 refine cz (cF (by rw[length_map];exact lt_of_le_of_lt hl (by decide))) ?_
 refine m8 (g:=gI) (λas acc ρ H'=>(∃o o' oq,ρ=o::o'::oq::fU l lm lw (some (.ref ld)) o3 o4 o5 o6)/\H'=H/\∃an,an++as=ms/\acc=an.map λw=>yt w.a w.b w.day) (λw as acc ρ H' hI=>?_) (λacc ρ H' hI=>?_) _ _ _ _ ⟨⟨none,none,none,rfl⟩,rfl,[],rfl,rfl⟩
 ·obtain⟨⟨o,o',oq,rfl⟩,rfl,an,t,rfl⟩:=hI
  refine ay (a:=some (nv w.a)::some (nv w.b)::some (.int w.day)::fU l lm lw (some (.ref ld)) o3 o4 o5 o6) rfl λN hN=>?_
  refine yo (fH rfl (B6 (cj (bY rfl (bY rfl (bY rfl ?_))))))
  exact hN _ _ (c9 hM hM) ⟨⟨_,_,_,rfl⟩,rfl,an++[w],gp t,by rw[map_append];rfl⟩
 ·obtain⟨_,rfl,an,t,rfl⟩:=hI
  rw[append_nil] at t
  subst t
  refine jA (lI (be _ hD) (bj _ _) (by rw[length_append,length_map];exact lt_of_le_of_lt (add_le_add oE hl) (by decide)) ?_)
  refine ay rfl (h _ _ _ ((aC.aR _ _).trans (aC.aR _ _)) (le_trans hb (aC.aR _ _).len) (aC.aR _ _).len (by rw[length_append,length_map];exact add_le_add oE hl) (bj _ _) ?_)
  exact(B4 (B3 hd (aC.aR _ _)) (λZ h=>h.1) (aC.aR _ _)).aR (HR _)
noncomputable abbrev HS:S:=.for (.aF [.J 4,.J 5,.J 6]) (.of (.aE (.J 0) (.k (.int 2)))) [.expr (.c8 .append (.J 2) [(.aF [(.k (.str "will")),.J 4,.J 5,(.comp 2 (.aF [.J 0,(.aE (.J 1) (.k (.int 0))),(.aE (.J 1) (.k (.int 1)))]) (.aF [.J 0,.J 1]) (.of (.J 6)) [])])])]
theorem s5{ds:List gz}(hb:b<=ld)(hW:H[lw]?=some (.list (ws.map ia)))(mr:ws.length<=1000)(hg:∀w∈ws,w.cU.length<=10)(oE:vs.length<=1180)(B7:lw<ld)(hD:H[ld]?=some (.list vs))(hd:cm (dR (Bl b ld) H) ds vs)(h:∀vs o4 o5 o6 H',bu ld H H'->H'[ld]?=some (.list vs)->cm (dR (Bn b ld) H') (ds++ws.map .kR) vs->aM C rest (fU l lm lw (some (.ref ld)) o3 o4 o5 o6) H' K):aM C (HS::rest) (fU l lm lw (some (.ref ld)) o3 o4 o5 o6) H K:=by
 refine vp (tL (fK (bY rfl (cj ?_))))
 refine ay (a:=V.ref lw) rfl (ay (cW hW) ?_)
 refine ft (g:=ia) (λas ρ H'=>(∃o4 o5 o6,ρ=fU l lm lw (some (.ref ld)) o3 o4 o5 o6)/\bu ld H H'/\∃an gW,an++as=ws/\H'[ld]?=some (.list gW)/\cm (dR (Bn b ld) H') (ds++an.map .kR) gW/\gW.length<=1180+an.length) (λw as ρ H' hI=>?_) (λρ H' hI=>?_) _ _ _ ⟨⟨o4,o5,o6,rfl⟩,bu.refl _ _,[],vs,rfl,hD,by rw[map_nil,append_nil];exact HJ hd,oE⟩
 ·obtain⟨⟨o4,o5,o6,rfl⟩,x,an,gW,t,a,ha,gS⟩:=hI
  refine ay (a:=fU l lm lw (some (.ref ld)) o3 (some (nv w.gr)) (some (.int w.day)) (some (ja w.cU))) rfl λN hN=>?_
  have dH:an.length<=1000:=le_trans (by rw[<-t,length_append];exact le_add_right _ _) mr
  have Ut:=hg w (t▸mem_append.mpr (.inr mem_cons_self))
  have fI:ld<H'.length:=cu a
  refine GY (HP rfl a (B6 (cj (bY rfl (bY rfl (nr (tL (bY rfl ?_))))))))
  refine ay (a:=w.cU.map ng) rfl (cz (cF (by rw[length_map];exact lt_of_le_of_lt Ut (by decide))) ?_)
  refine m8 (g:=ng) (λas acc ρ H''=>(∃o o',ρ=o::o'::fU l lm lw (some (.ref ld)) o3 (some (nv w.gr)) (some (.int w.day)) (some (ja w.cU)))/\H''=H'/\∃an,an++as=w.cU/\acc=an.map λg=>oB g.2 g.1) (λg as acc ρ H'' hI=>?_) (λacc ρ H'' hI=>?_) _ _ _ _ ⟨⟨none,none,rfl⟩,rfl,[],rfl,rfl⟩
  ·obtain⟨⟨o,o',rfl⟩,rfl,HT,t',rfl⟩:=hI
   refine ay (a:=some (nv g.1)::some (rv g.2)::fU l lm lw (some (.ref ld)) o3 (some (nv w.gr)) (some (.int w.day)) (some (ja w.cU))) rfl λN' iI=>?_
   refine yo (fH rfl (B5 (bY rfl (fK (bY (v:=rv g.2) rfl (cj ?_))))))
   refine ay (a:=V.int g.2.num) rfl (fK (bY (v:=rv g.2) rfl (cj ?_)))
   refine ay (a:=nv g.2.den) rfl ?_
   exact iI _ _ rfl ⟨⟨_,_,rfl⟩,rfl,HT++[g],gp t',by rw[map_append];rfl⟩
  ·obtain⟨_,rfl,HT,t',rfl⟩:=hI
   rw[append_nil] at t'
   subst t'
   have a':=be [.list (w.cU.map λg=>oB g.2 g.1)] a
   refine jA (f9 a' (lt_of_le_of_lt gS (lt_of_le_of_lt (add_le_add_left dH _) (by decide))) ?_)
   have hx:bu ld H ((H''++[aZ.list (w.cU.map λg=>oB g.2 g.1)]).set ld (.list (gW++[BS w.gr w.day H''.length]))):=x.trans ((bu.aR _ _ _).trans (bu.set _ _ _))
   refine hN _ _ (c9 hW (hx _ _ (ne_of_lt B7) hW)) ⟨⟨_,_,_,rfl⟩,hx,an++[w],_,gp t,dN a' _,?_,by rw[length_append,length_append];exact succ_le_succ gS⟩
   rw[map_append,<-append_assoc]
   exact(ha.imp λZ Z h=>h.k λl c hp a=>⟨hp,dF (be _ a) _ (Ne.symm hp.2)⟩).snoc (.kR ⟨le_trans hb (le_of_lt fI),ne_of_gt fI⟩ (dF (bj _ _) _ (ne_of_lt fI)))
 ·obtain⟨⟨o4,o5,o6,rfl⟩,x,an,gW,t,a,ha,gS⟩:=hI
  rw[append_nil] at t
  subst t
  exact h gW o4 o5 o6 H' x a ha
theorem Uu(hb:l<H.length/\lw<H.length)(at':cP H r l lm lw)(hl:r.ps.length<=60/\r.ms.length<=1000/\r.ws.length<=1000)(hW:cL r.ps)(hg:∀w∈r.ws,w.cU.length<=10)(q:∀vs ld H',aC H H'->H.length<=ld->H'[ld]?=some (.list vs)->cm (dR (Bn H.length ld) H') (nz r) vs->Q (.ref ld) H'):aA (n+1) v6 [.aF [.ref l,.ref lm,.ref lw]] H Q Y:=P5 (at' _ λap am aw=>by
 have two:∀p∈r.ps,p.bS.length<=2:=λp hp=>(getElem?_of_mem hp).elim λi hi=>(hW i p hi) _ λZ Z c Z Z=>c.1
 have two':∀p∈r.ps,∀x,p.ad=some x->x.2.length<=2:=λp hp x hx=>(getElem?_of_mem hp).elim λi hi=>(hW i p hi) _ λZ Z Z d Z=>(d x hx).1
 refine(?_:aM ⟨aA n,xq Y⟩ (HK::qu.drop 2) (fU l lm lw none none none none none) H (bF Q))
 refine s1 (b:=H.length) (le_refl _) ap hl.1 two λUv Uw H1 x1 b1 a1 d1=>?_
 have v1:Uv.length<=60:=by rw[d1.len,length_map];exact hl.1
 refine(?_:aM ⟨aA n,xq Y⟩ (HM::qu.drop 3) (fU l lm lw (some (.ref Uw)) none none none none) H1 (bF Q))
 refine s2 (b:=H.length) x1.len (x1 _ _ ap) hl.1 v1 a1 d1 λWj HU H2 x2 b2 v2 a2 d2=>?_
 have iA:=x1.trans x2
 refine(?_:aM ⟨aA n,xq Y⟩ (HN::qu.drop 4) (fU l lm lw (some (.ref HU)) none none none none) H2 (bF Q))
 refine s3 (b:=H.length) b2 (iA _ _ ap) hl.1 two' v2 (lt_of_lt_of_le hb.1 b2) a2 d2 λWk o3 H3 x3 v3 a3 d3=>?_
 have B8:aC H H3:=x3.ext iA b2
 refine(?_:aM ⟨aA n,xq Y⟩ (HQ::qu.drop 5) (fU l lm lw (some (.ref HU)) o3 none none none) H3 (bF Q))
 refine s4 (b:=H.length) B8.len (B8 _ _ am) hl.2.1 v3 a3 d3 λWl HV H4 x4 b4 Z v4 a4 d4=>?_
 have j8:=B8.trans x4
 refine(?_:aM ⟨aA n,xq Y⟩ (HS::qu.drop 6) (fU l lm lw (some (.ref HV)) o3 none none none) H4 (bF Q))
 refine s5 (b:=H.length) b4 (j8 _ _ aw) hl.2.2 hg v4 (lt_of_lt_of_le hb.2 b4) a4 d4 λUx o4 o5 o6 H5 x5 a5 d5=>?_
 exact q Ux HV H5 (x5.ext j8 b4) b4 a5 d5)
end
end Mine.L
namespace Mine.L
variable{Y:PQ}
open Mine.P PySem
noncomputable abbrev jC(p:aG):aG:=⟨p.aQ,p.bS,none,none⟩
inductive Acc:cq->gz->cq->Prop
 |aQ {r:cq} {p:aG}:eV r.ps (.int p.aQ) (aV p.bS)=none->p.bS.length<=2->r.ps.length<=60->(eO (r.ps++[jC p])=[]\/cX ⟨r.ps++[jC p],r.ms,r.ws⟩)->Acc r (.aQ p) ⟨r.ps++[jC p],r.ms,r.ws⟩
 |bM {ps:List aG} {k:Nat} {e:Int} {p:aG}:ps[k]?=some p->p.bM=none->p.ad=none->0<=e/\e<=100000->p.aQ<=e->ps.length<=60->cX ⟨ps.set k (rO p e),[],[]⟩->Acc ⟨ps,[],[]⟩ (.bM k e) ⟨ps.set k (rO p e),[],[]⟩
 |adopt {r:cq} {k:Nat} {x:Int×List Nat} {p:aG}:fL r.ps (nv k) (.int x.1) (aV x.2)=none->r.ps[k]?=some p->x.2.length<=2->r.ps.length<=60->(eO (r.ps.set k (eQ p x.1 x.2))=[]\/cX ⟨r.ps.set k (eQ p x.1 x.2),r.ms,r.ws⟩)->Acc r (.adopt k x) ⟨r.ps.set k (eQ p x.1 x.2),r.ms,r.ws⟩
 |fy {r:cq} {w:dP}:r.ps.length<=60->w.a<r.ps.length/\w.b<r.ps.length->jZ r.ps.length r.ms->r.ms.length<=1000->Bs r.ps w->(∀u∈r.ms,clear r.ps w u=true/\u.day<=100000)->cX ⟨r.ps,r.ms++[w],r.ws⟩->Acc r (.fy w) ⟨r.ps,r.ms++[w],r.ws⟩
 |kR {r:cq} {w:gf}:r.ps.length<=60->r.ws.length<=1000->rH r.ps.length w->qb r.ps w->cX ⟨r.ps,r.ms,r.ws++[w]⟩->Acc r (.kR w) ⟨r.ps,r.ms,r.ws++[w]⟩
inductive Runs:cq->List gz->cq->Prop
 |nil {r:cq}:Runs r [] r
 |cons {r r' r'':cq} {d:gz} {ds:List gz}:Acc r d r'->Runs r' ds r''->Runs r (d::ds) r''
theorem Runs.aR{r r' r'':cq}{ds es:List gz}(h:Runs r ds r')(h':Runs r' es r''):Runs r (ds++es) r'':=h.rec (motive:=λr ds r' Z=>Runs r' es r''->Runs r (ds++es) r'') (λh=>h) (λa Z ih h=>.cons a (ih h)) h'
theorem rQ:∀ks:List Nat,(aV ks).map natOf=ks
 |[]=>rfl
 |k::ks=>congrArg (k::·) (rQ ks)
theorem HW{ks:List Nat}:∀v∈aV ks,sc v=true:=λv hv=>(mem_map.mp hv).elim λk hk=>hk.2▸rfl
section
variable{n B:Nat}{H:Hp}{Q:PQ}{r r':cq}{d:gz}{v:V}{P:Nat->Prop}
noncomputable def Uy(B:Nat)(H:Hp)(r:cq)(v:V)(H':Hp):Prop:=cG B H H'/\ct B H' r
theorem Uz(b:ct B H r)(a:Acc r d r')(h:dR P H d v)(hP:∀l,P l->B+5<=l)(q:∀u H',cG B H H'->ct B H' r'->Q (.aF [.str "",u]) H'):aA (n+71) oM [.ref (B+1),v] H Q Y:=by
 refine BU (n:=n+69) (okR:=Uy B H r') (err:=none) (λQ' Y' hq Z=>?_) (λu H' ok=>q u H' ok.1 ok.2) λj hj=>(nomatch hj)
 cases a with
 |aQ h1 h2 h3 h4=>
  cases h with
  |aQ p1 p2=>
   refine Hv b (Hk (n:=n) b h3 p2 HW rfl (by rw[length_map];exact le_trans h2 (by decide)) (.inr (hP _ p1)) (λk hk=>by rw[h1] at hk;cases hk) (λZ=>?_) λZ H' x b'=>?_)
   ·rw[rQ];exact h4
   ·rw[rQ] at b';exact hq _ _ ⟨x,b'⟩
 |bM h1 h2 h3 h4 h5 h6 h7=>
  cases h with
  |bM=>exact TO b (Tr (n:=n) b h6 h1 h2 h3 h4 h5 h7 λH' x b'=>hq _ _ ⟨x,b'⟩)
 |adopt h1 h2 h3 h4 h5=>
  cases h with
  |adopt p1 p2=>
   refine Hw b (Hl (n:=n) b h4 p2 HW rfl rfl (by rw[length_map];exact le_trans h3 (by decide)) (λk hk=>by rw[h1] at hk;cases hk) (λZ p hp=>?_) λZ p hp H' x b'=>?_)
   ·have e:=Option.some.inj (h2.symm.trans hp)
    rw[rQ,<-e];exact h5
   ·have e:=Option.some.inj (h2.symm.trans hp)
    rw[rQ,<-e] at b';exact hq _ _ ⟨x,b'⟩
 |fy h1 h2 h3 h4 h5 h6 h7=>
  cases h with
  |fy=>exact TN b (Tw (n:=n) b h1 h2.1 h2.2 h3 h4 h5 h6 h7 λH' x b'=>hq _ _ ⟨x,b'⟩)
 |kR h1 h2 h3 h4 h5=>
  cases h with
  |kR p1 p2=>exact TP b (TC (n:=n) b h1 h2 h3 h4 p2 h5 λH' x b'=>hq _ _ ⟨x,b'⟩)
noncomputable abbrev B9:S:=.for (.J 3) (.of (.call v6 [.J 1]))
  [.ba (.cmp .ne (.aE (.call oM [.J 2,.J 3]) (.k (.int 0))) (.k (.str "")))
   [.ret (.k (.bool false))]
   []]
theorem yz:PyData.strOk ""=true:=by decide +kernel
theorem UA:eD .ne (.str "") (.str "") H=some false:=(congrArg (Option.map (!·)) (tC yz yz)).trans (by rw[beq_self_eq_true];rfl)
end
end Mine.L
namespace Mine.L
variable{Y:PQ}
open Mine.P PySem
section
variable{n B l lm lw:Nat}{H:Hp}{Q:PQ}{K:Out->Prop}{rest:List S}{C:Ct}{r:cq}{o3 o4 o5 o6 o7 o8 o9:Option V}
noncomputable abbrev fN(l lm lw B:Nat)(o3 o4 o5 o6 o7 o8 o9:Option V):aP:=[some .dU,some (.aF [.ref l,.ref lm,.ref lw]),some (.ref (B+1)),o3,o4,o5,o6,o7,o8,o9]
theorem ct.len(b:ct B H r):B+5<H.length:=b _ λZ Z Z Z Z Z Z Z Z ad hd Z=>lt_of_le_of_lt hd (cu ad)
theorem HX{ρ:aP}{f:Nat}{x:E}(h:WE C x ρ H λu H=>C.call f [u] H Q C.exc):WE C (.call f [x]) ρ H Q:=h
theorem UB(hC:C.call=aA (n+71))(at':cP H r l lm lw)(hb:l<H.length/\lw<H.length)(hl:r.ps.length<=60/\r.ms.length<=1000/\r.ws.length<=1000)(hW:cL r.ps)(hg:∀w∈r.ws,w.cU.length<=10)(b:ct B H ⟨[],[],[]⟩)(runs:Runs ⟨[],[],[]⟩ (nz r) r)(h:∀o3 H',cG B H H'->ct B H' r->aM C rest (fN l lm lw B o3 o4 o5 o6 o7 o8 o9) H' K):aM C (B9::rest) (fN l lm lw B o3 o4 o5 o6 o7 o8 o9) H K:=by
 have hB:=b.len
 refine vp (tL (HX (bY rfl ?_)))
 rw[hC]
 refine Uu (n:=n+70) hb at' hl hW hg λvs ld H1 x1 BL a1 d1=>?_
 refine ay (cW a1) ?_
 refine vc (R:=dR (Bn H.length ld) H1) (λas ρ H'=>(∃o3,ρ=fN l lm lw B o3 o4 o5 o6 o7 o8 o9)/\cG B H1 H'/\∃rb,ct B H' rb/\Runs rb as r) (λd v as ρ H' hv hI=>?_) (λρ H' hI=>?_) d1 _ _ ⟨⟨o3,rfl⟩,cG.refl _ _,_,b.ext x1,runs⟩
 ·obtain⟨⟨o,rfl⟩,x,rb,bb,rr⟩:=hI
  refine ay (a:=fN l lm lw B (some v) o4 o5 o6 o7 o8 o9) rfl λN hN=>?_
  cases rr with
  |cons ac rr=>
   refine jc (qc (fK (nu (bY rfl (bY rfl ?_)))))
   refine(?_:C.call oM [.ref (B+1),v] H' _ (xq C.exc))
   rw[hC]
   have UC:dR (Bn H.length ld) H' d v:=hv.k λl c hp a=>⟨hp,x l c (.inr (le_trans (le_of_lt hB) hp.1)) a⟩
   refine Uz (n:=n) bb ac UC (λl hp=>le_trans (le_of_lt hB) hp.1) λu H2 x2 b2=>?_
   have x3:=x.trans x2
   exact cj (ay (a:=V.str "") rfl (cj (ay UA (gb rfl (hN _ _ (c9 a1 (x3 _ _ (.inr (le_trans (le_of_lt hB) BL)) a1)) ⟨⟨_,rfl⟩,x3,_,b2,rr⟩)))))
 ·obtain⟨⟨o,rfl⟩,x,rb,bb,rr⟩:=hI
  cases rr with
  |nil=>exact h o H' (x1.k.trans x) bb
end
end Mine.L
namespace Mine.L
variable{Y:PQ}
open Mine.P PySem
theorem UD(s:Str):PyData.eqv (.str s) (.str s)=true:=beq_self_eq_true s
section
variable{n B l lm lw lq iB lh:Nat}{H:Hp}{Q:PQ}{K:Out->Prop}{rest:List S}{C:Ct}{v:V}{ss us:List V}{ρ:aP}
theorem HY(hv:sc v=true)(m:Nat):∃d,rd H m v=some d/\PyData.eqv d d=true:=by
 cases v with
 |aF _=>cases hv
 |ref _=>cases hv
 |dU=>cases hv
 |str s=>cases m<;>exact⟨.str s,if_pos hv,UD s⟩
 |none=>cases m<;>exact⟨_,rfl,rfl⟩
 |bool b=>cases m<;>exact⟨_,rfl,by cases b<;>rfl⟩
 |int i=>cases m<;>exact⟨_,rfl,nw i⟩
theorem HZ(m:Nat):∀{us:List V},(∀v∈us,sc v=true)->∃ds,eA (rd H m) us=some ds/\PyData.eqvAll ds ds=true
 |[],_=>⟨[],rfl,rfl⟩
 |v::r,h=>(HY (h v mem_cons_self) m).elim λd hd=>(HZ m λv hv=>h v (.tail _ hv)).elim λds hs=>⟨d::ds,eJ hd.1 hs.1,by
   refine(?_:(PyData.eqv d d&&PyData.eqvAll ds ds)=true)
   rw[hd.2,hs.2];rfl⟩
theorem UE(hs:∀v∈ss,sc v=true)(hu:∀v∈us,sc v=true):∃ds,PyData.eqvAll ds ds=true/\∀lq,H[lq]?=some (.list us)->eA (rd H 9) (ss++[.ref lq])=some ds:=by
 obtain⟨d2,e2,q2⟩:=HZ (H:=H) 8 hu
 have key:∀{ss:List V},(∀v∈ss,sc v=true)->∃ds,PyData.eqvAll ds ds=true/\∀lq,H[lq]?=some (.list us)->eA (rd H 9) (ss++[.ref lq])=some ds:=by
  intro ss
  induction ss with
  |nil=>exact λZ=>⟨[.list d2],by
    refine(?_:(PyData.eqvAll d2 d2&&true)=true)
    rw[q2];rfl,λlq a=>eJ (ni a e2) rfl⟩
  |cons v r ih=>exact λh=>(HY (H:=H) (h v mem_cons_self) 9).elim λd hd=>(ih λv hv=>h v (.tail _ hv)).elim λds lD=>⟨d::ds,by
    refine(?_:(PyData.eqv d d&&PyData.eqvAll ds ds)=true)
    rw[hd.2,lD.1];rfl,λlq a=>eJ hd.1 (lD.2 lq a)⟩
 exact key hs
theorem UG{la lb:Nat}(hs:∀v∈ss,sc v=true)(hu:∀v∈us,sc v=true)(hq:H[lq]?=some (.list us))(nA:H[iB]?=some (.list us))(ha:H[la]?=some (.list (ss++[.ref lq])))(hb:H[lb]?=some (.list (ss++[.ref iB]))):eD .ne (.ref la) (.ref lb) H=some false:=by
 obtain⟨ds,q,e⟩:=UE (H:=H) hs hu
 refine(?_:(jQ H (.ref la) (.ref lb)).map (!·)=_)
 unfold jQ
 rw[none_list ha,ni ha (e lq hq),ni hb (e iB nA)]
 refine(?_:some (!PyData.eqvAll ds ds)=_)
 rw[q];rfl
noncomputable abbrev H0:E:=.comp 1 (.ba (.bi (.jH .list) [.J 0]) (.listOf (.J 0)) (.J 0)) (.J 0) (.of (.J 3)) []
theorem UH{c a b:E}(h:WE C c ρ H λx H=>aJ (truthy H x) λt=>bx t (WE C a ρ H Q) (WE C b ρ H Q)):WE C (.ba c a b) ρ H Q:=h
theorem UI(hv:sc v=true):uB H .list v=some false:=by
 cases v with
 |aF _=>cases hv
 |ref _=>cases hv
 |dU=>cases hv
 |_=>rfl
theorem handed(h3:ρ[3]?.join=some (.aF (ss++[.ref lq])))(hs:∀v∈ss,sc v=true)(hl:ss.length<=10)(hu:us.length<=3)(hq:H[lq]?=some (.list us))(q:∀iB lh H',aC H H'->H.length<=iB->H.length<=lh->H'[iB]?=some (.list us)->H'[lh]?=some (.list (ss++[.ref iB]))->Q (.ref lh) H'):WE C H0 ρ H Q:=by
 refine nr (tL (bY h3 (ay (a:=ss++[.ref lq]) rfl ?_)))
 refine cz (cF (by rw[length_append];exact lt_of_le_of_lt (add_le_add_right hl _) (show 11<16000000 by decide))) ?_
 have key:=m8 (ws:=[]) (H₀:=H) (t:=.J 0) (test:=λρ H Q=>WT C.no [] ρ H Q) (elt:=λρ H Q=>WE C.no (.ba (.bi (.jH .list) [.J 0]) (.listOf (.J 0)) (.J 0)) ρ H Q) (Q:=λvs H=>kC vs H Q) (g:=id) (λas acc bV H'=>(∃o,bV=o::ρ)/\((H'=H/\∃tl,as=tl++[.ref lq]/\acc++tl=ss)\/(as=[]/\∃iB,aC H H'/\H.length<=iB/\H'[iB]?=some (.list us)/\acc=ss++[.ref iB]))) (λv as acc bV H' hI=>?_) (λacc bV H' hI=>?_) (ss++[.ref lq]) [] (none::ρ) H ⟨⟨none,rfl⟩,.inl ⟨rfl,ss,rfl,rfl⟩⟩
 ·rw[map_id] at key;exact key
 ·obtain⟨⟨o,rfl⟩,hI|hI⟩:=hI
  ·obtain⟨rfl,tl,e,t⟩:=hI
   refine ay (a:=some v::ρ) rfl λN hN=>yo (fH rfl (UH ?_))
   cases tl with
   |nil=>
    obtain⟨rfl,rfl⟩:=List.cons.inj e
    rw[append_nil] at t
    subst t
    refine(?_:aJ (uB H' .list (.ref lq)) _)
    refine ay (a:=true) (congrArg (Option.map λZ=>true) (b7 hq)) ?_
    refine(?_:WE C.no (.listOf (.J 0)) (some (.ref lq)::ρ) H' _)
    refine yy (bY rfl (ay (mm hq) (cz (cF (lt_of_le_of_lt hu (by decide))) (jA ?_))))
    exact hN _ _ rfl ⟨⟨_,rfl⟩,.inr ⟨rfl,_,aC.aR _ _,le_refl _,bj _ _,rfl⟩⟩
   |cons u tl=>
    obtain⟨rfl,rfl⟩:=List.cons.inj e
    refine(?_:aJ (uB H' .list v) _)
    refine ay (UI (hs v (t▸mem_append.mpr (.inr mem_cons_self)))) ?_
    refine ay (a:=false) rfl (gb rfl ?_)
    exact bY rfl (hN _ _ rfl ⟨⟨_,rfl⟩,.inl ⟨rfl,tl,rfl,gp t⟩⟩)
  ·cases hI.1
 ·obtain⟨⟨o,rfl⟩,hI|hI⟩:=hI
  ·obtain⟨_,tl,e,_⟩:=hI
   cases tl<;>cases e
  ·obtain⟨_,iB,x,h1,h2,rfl⟩:=hI
   exact jA (q iB _ _ (x.trans (aC.aR _ _)) h1 x.len (be _ h2) (bj _ _))
end
end Mine.L
namespace Mine.L
open Mine.P PySem
section
variable{r:cq}{ps:List aG}{v c:V}{vs:List V}{ks:List Nat}{d:Int}{k:Nat}{p:aG}{N:Nat}
theorem UJ{w:gf}(h:rH N w):rH (N+1) w:=h _ λgk dy ns ov un hu e o1 u1 le nd=>.mk ⟨λg hg=>⟨Nat.lt_succ_of_lt (gk.1 g hg).1,(gk.1 g hg).2⟩,gk.2⟩ dy ns ov un hu e o1 u1 le nd
theorem Cb(h:dj ps ks d=false):hJ ks/\∀k∈ks,iL ps k<d:=by
 have h1:=or_eq_false_iff.mp h
 have h2:=or_eq_false_iff.mp h1.1
 refine⟨⟨not_lt.mp (of_decide_eq_false h2.1),byContradiction λhn=>absurd (of_decide_eq_false h2.2) (not_not_intro hn)⟩,λk hk=>?_⟩
 have:=any_eq_false.mp h1.2 k hk
 exact not_le.mp λjT=>this (decide_eq_true jT)
theorem Ia(hk:∀k∈ks,k<ps.length)(h:dj ps ks d=false):∀k∈ks,fT ps d k:=λk mw=>(at_of (hk k mw)).elim λq hq=>⟨q,hq,by have:=(Cb h).2 k mw;unfold iL at this;rw[hq] at this;exact this⟩
theorem Cc(h:eV ps v vs=none):(∀k∈vs.map natOf,k<ps.length)/\(0<=cM v/\cM v<=100000)/\dj ps (vs.map natOf) (cM v)=false/\ps.length<60:=by
 unfold eV at h
 by_cases h0:gy ps vs=true
 ·rw[if_pos h0] at h
  by_cases h1:wh v 0 100000=true
  ·rw[if_pos h1] at h
   by_cases h2:dj ps (vs.map natOf) (cM v)=true
   ·rw[if_pos h2] at h;cases h
   ·rw[if_neg h2] at h
    by_cases h3:60<=ps.length
    ·rw[if_pos h3] at h;cases h
    ·obtain⟨i,rfl,hi⟩:=ox h1
     exact⟨(oA h0).2,hi,Bool.eq_false_iff.mpr h2,Nat.not_le.mp h3⟩
  ·rw[if_neg h1] at h;cases h
 ·rw[if_neg h0] at h;cases h
theorem UK(hr:cX r)(hl:r.ps.length<20)(h:eV r.ps v vs=none):cX ⟨r.ps++[⟨cM v,vs.map natOf,none,none⟩],r.ms,r.ws⟩:=hr _ λwf len fy cU=>by
 obtain⟨hk,hd,hb,_⟩:=Cc h
 have el:(r.ps++[(⟨cM v,vs.map natOf,none,none⟩:aG)]).length=r.ps.length+1:=length_append
 refine .mk (yl (p:=(⟨cM v,vs.map natOf,none,none⟩:aG)) (P:=λZ p=>kK (r.ps++[(⟨cM v,vs.map natOf,none,none⟩:aG)]) p) (λi q hq=>(wf i q hq).aR _) (.mk (λj hj=>(Ia hk hb j hj).aR _) (λx hx=>by cases hx) (Cb hb).1 (λx hx=>by cases hx) hd.1)) ?_ (λw hw=>?_) λw hw=>?_
 ·exact le_trans (le_of_eq el) hl
 ·have z:=fy w hw
  exact⟨lt_of_lt_of_le z.1 (el▸le_succ _),lt_of_lt_of_le z.2 (el▸le_succ _)⟩
 ·exact el▸UJ (cU w hw)
theorem Ib(h:fL ps c v vs=none)(hp:ps[natOf c]?=some p):(∀k∈vs.map natOf,k<ps.length)/\natOf c<ps.length/\(0<=cM v/\cM v<=100000)/\dj ps (vs.map natOf) p.aQ=false:=by
 unfold fL at h
 by_cases h0:(wh c 0 ((ps.length:Int) - 1)&&gy ps vs)=true
 ·rw[if_pos h0] at h
  by_cases h1:wh v 0 100000=true
  ·rw[if_pos h1,hp] at h
   have h:gY ps p (vs.map natOf) (cM v)=none:=h
   unfold gY at h
   split at h
   ·cases h
   ·split at h
    ·cases h
    ·rename_i h3
     obtain⟨i,rfl,hi⟩:=ox h1
     exact⟨(oA (and_eq_true_iff.mp h0).2).2,(List.getElem?_eq_some_iff.mp hp).1,hi,(or_eq_false_iff.mp (Bool.eq_false_iff.mpr h3)).2⟩
  ·rw[if_neg h1] at h;cases h
 ·rw[if_neg h0] at h;cases h
theorem Ic{q:aG}(hp:ps[k]?=some p)(hq:q.aQ=p.aQ){b:Int}{j:Nat}(h:fT ps b j):fT (ps.set k q) b j:=h.elim λz hz=>by
 by_cases e:k=j
 ·subst e
  rw[hp] at hz
  cases hz.1
  exact⟨q,getElem?_set_self (List.getElem?_eq_some_iff.mp hp).1,by rw[hq];exact hz.2⟩
 ·exact⟨z,(getElem?_set_ne e).trans hz.1,hz.2⟩
theorem UL{q:aG}(wf:cL ps)(hp:ps[k]?=some p)(hq:q.aQ=p.aQ)(ho:kK ps q):cL (ps.set k q):=λi z hz=>by
 have up:∀{z},kK ps z->kK (ps.set k q) z:=λh=>h _ λa b c d e=>.mk (λj hj=>Ic hp hq (a j hj)) (λx hx j hj=>Ic hp hq (b x hx j hj)) c d e
 by_cases e:k=i
 ·subst e
  rw[getElem?_set_self (List.getElem?_eq_some_iff.mp hp).1] at hz
  cases hz
  exact up ho
 ·rw[getElem?_set_ne e] at hz
  exact up (wf i z hz)
theorem UM{q:aG}(hr:cX r)(hp:r.ps[k]?=some p)(hq:q.aQ=p.aQ)(ho:cL r.ps->kK r.ps q):cX ⟨r.ps.set k q,r.ms,r.ws⟩:=hr _ λwf len fy cU=>by
 have el:(r.ps.set k q).length=r.ps.length:=length_set
 exact .mk (UL wf hp hq (ho wf)) (el▸len) (λw hw=>el▸fy w hw) λw hw=>el▸cU w hw
theorem UN(hr:cX r)(hp:r.ps[natOf c]?=some p)(h:fL r.ps c v vs=none):cX ⟨r.ps.set (natOf c) (eQ p (cM v) (vs.map natOf)),r.ms,r.ws⟩:=UM hr hp rfl λwf=>by
 obtain⟨hk,_,hd,hb⟩:=Ib h hp
 exact(wf _ p hp) _ λa b c d e=>.mk a (λx hx j hj=>by cases hx;exact Ia hk hb j hj) c (λx hx=>by cases hx;exact(Cb hb).1) e
theorem Cd(h:∀p∈ps,p.bM=none):eO ps=[]:=List.filter_eq_nil_iff.mpr λk hk=>by
 obtain⟨p,hp⟩:=at_of (mem_range.mp hk)
 unfold gx
 rw[hp]
 refine(?_:¬p.bM.isSome=true)
 rw[h p (mem_of_getElem? hp)]
 decide
end
end Mine.L
namespace Mine.L
variable{Y:PQ}
open Mine.P PySem
theorem Ie:∀j,j<8->PyData.strOk (oC.getD j "")=true/\(oC.getD j ""==("":Str))=false:=by decide +kernel
noncomputable def gh(B x:Nat):Prop:=x<B\/B+5<=x
section
variable{n B l lm lw lq i:Nat}{H:Hp}{Q:PQ}{K:Out->Prop}{C:Ct}{r r':cq}{ss us:List V}{f:V}{o:Option Nat}{o3 o4 o5 o6 o7 o8 o9:Option V}
theorem cP.k{H':Hp}(h:cP H r l lm lw)(hl:gh B l/\gh B lm/\gh B lw)(x:cG B H H'):cP H' r l lm lw:=h _ λa b c=>.mk (x _ _ hl.1 a) (x _ _ hl.2.1 b) (x _ _ hl.2.2 c)
theorem Ig{s:Str}(h:PyData.strOk s=true):eD .ne (.str s) (.str s) H=some false:=(congrArg (Option.map (!·)) (tC h h)).trans (by rw[beq_self_eq_true];rfl)
theorem Ih(h:∀j,o=some j->j<8):PyData.strOk (iz o)=true:=by
 cases o with
 |none=>exact yz
 |some j=>exact(Ie j (h j rfl)).1
theorem Ii(h:∀j,o=some j->j<8):eD .eq (.str (iz o)) (.str "") H=some o.isNone:=(tC (Ih h) yz).trans (by
 cases o with
 |none=>rw[show(iz none==("":Str))=true from beq_self_eq_true _];rfl
 |some j=>rw[show(iz (some j)==("":Str))=false from(Ie j (h j rfl)).2];rfl)
noncomputable abbrev vF:S:=.ba (.or [(.cmp .ne (.J 8) (.J 7)),(.cmp .ne (.listOf (.J 3)) (.J 6))]) [.ret (.k (.bool false))] []
noncomputable abbrev rR:S:=.ba (.cmp .eq (.J 7) (.k (.str "")))
   [.ba (.and [(.cmp .eq (.aE (.J 3) (.k (.int 0))) (.k (.str "born"))),(.or [(.not (.call lX [.J 9])),(.cmp .ne (.J 9) (.bi .len [(.aE (.J 1) (.k (.int 0)))]))])])
    [.ret (.k (.bool false))]
    [],
    .ba (.and [(.cmp .ne (.aE (.J 3) (.k (.int 0))) (.k (.str "born"))),(.isNone false (.J 9))])
    [.ret (.k (.bool false))]
    [],
    .aN (.J 1) (.call mD [.J 1,.J 3])]
   []
noncomputable abbrev vG:S:=.ba (.cmp .ne (.dG ub (.J 2) []) (.J 1)) [.ret (.k (.bool false))] []
theorem UO{l' tD tE:Nat}(h:cP H r l lm lw)(h':cP H r l' tD tE):eD .ne (.aF [.ref l,.ref lm,.ref lw]) (.aF [.ref l',.ref tD,.ref tE]) H=some false:=congrArg (Option.map (!·)) (SI h h')
theorem t5{rest:List S}(hC:C.call=aA (n+71))(b:ct B H r)(at':cP H r l lm lw)(hl:r.ps.length<=60/\r.ms.length<=1000/\r.ws.length<=1000)(h:∀H',aC H H'->aM C rest (fN l lm lw B o3 o4 o5 o6 o7 o8 o9) H' K):aM C (vG::rest) (fN l lm lw B o3 o4 o5 o6 o7 o8 o9) H K:=b _ λld ep vf es a0 a1 ap am aw ad hd de=>by
 refine jc (qc ?_)
 refine(?_:aJ (cx H (.ref (B+1))) _)
 refine mc a1 a0 ?_
 refine(?_:C.call ub [.ref (B+1)] H _ C.exc)
 rw[hC]
 refine Th b hl λa b' c H' x at2=>?_
 refine bY rfl ?_
 refine ay (UO at2 (at' _ λz1 z2 z3=>.mk (x _ _ z1) (x _ _ z2) (x _ _ z3))) ?_
 exact gb rfl (h H' x)
theorem t3{rest:List S}{lh iB:Nat}(hj:∀j,o=some j->j<8)(hs:∀v∈ss,sc v=true)(xX:ss.length<=10)(hu:∀v∈us,sc v=true)(hq:H[lq]?=some (.list us))(nA:H[iB]?=some (.list us))(hh:H[lh]?=some (.list (ss++[.ref iB])))(h:∀H',aC H H'->aM C rest (fN l lm lw B (some (.aF (ss++[.ref lq]))) o4 o5 (some (.ref lh)) (some (.str (iz o))) (some (.str (iz o))) o9) H' K):aM C (vF::rest) (fN l lm lw B (some (.aF (ss++[.ref lq]))) o4 o5 (some (.ref lh)) (some (.str (iz o))) (some (.str (iz o))) o9) H K:=by
 refine jc (qe (GZ (qg (bY rfl (bY rfl (ay (Ig (Ih hj)) ?_))))))
 refine ay (a:=false) rfl (fH rfl (qg (yy (bY rfl (ay yv (cz (cF (by rw[length_append];exact lt_of_le_of_lt (add_le_add_right xX _) (show 11<16000000 by decide))) (jA (bY rfl ?_))))))))
 refine ay (UG hs hu (be _ hq) (be _ nA) (bj _ _) (be _ hh)) ?_
 exact ay (a:=false) rfl (gb rfl (h _ (aC.aR _ _)))
end
end Mine.L
namespace Mine.L
variable{Y:PQ}
open Mine.P PySem
section
variable{n B l lm lw lq i:Nat}{H:Hp}{Q:PQ}{K:Out->Prop}{C:Ct}{r r':cq}{ss us:List V}{f:V}{o:Option Nat}{o3 o4 o5 o6 o7 o8 o9:Option V}{rest:List S}
theorem Ij{j:Nat}(hj:j<8)(h:aM C rest (fN l lm lw B o3 o4 o5 o6 (some (.str (iz (some j)))) o8 o9) H K):aM C (rR::rest) (fN l lm lw B o3 o4 o5 o6 (some (.str (iz (some j)))) o8 o9) H K:=by
 refine jc (qc (bY rfl (cj ?_)))
 refine ay (Ii (o:=some j) λk hk=>by cases hk;exact hj) ?_
 exact gb rfl h
theorem Ik:eD .eq (.str (iz none)) (.str "") H=some true:=Ii (o:=none) λZ h=>(nomatch h)
theorem Il{D:V}(hC:C.call=aA (n+71))(vH:∀Q Y:PQ,(∀a b c H',aC H H'->H.length<=a/\H.length<=b/\H.length<=c->cP H' r' a b c->Q (.aF [.ref a,.ref b,.ref c]) H')->aA (n+71) mD [.aF [.ref l,.ref lm,.ref lw],D] H Q Y)(h:∀a b c H',aC H H'->H.length<=a/\H.length<=b/\H.length<=c->cP H' r' a b c->aM C rest (fN a b c B (some D) o4 o5 o6 o7 o8 o9) H' K):aM C [.aN (.J 1) (.call mD [.J 1,.J 3])] (fN l lm lw B (some D) o4 o5 o6 o7 o8 o9) H (λo=>jn o (λρ H=>aM C rest ρ H K) (K o)):=by
 refine fJ (nu (bY rfl (bY rfl ?_)))
 rw[hC]
 exact vH _ _ λa b c H' x hl at2=>ay rfl (h a b c H' x hl at2)
theorem UP{v:V}{ps:List aG}(hC:C.call=aA (n+71))(hA:H[l]?=some (.list (ps.map bv)))(vH:∀Q Y:PQ,(∀a b c H',aC H H'->H.length<=a/\H.length<=b/\H.length<=c->cP H' r' a b c->Q (.aF [.ref a,.ref b,.ref c]) H')->aA (n+71) mD [.aF [.ref l,.ref lm,.ref lw],je v lq] H Q Y)(h:∀a b c H',aC H H'->H.length<=a/\H.length<=b/\H.length<=c->cP H' r' a b c->aM C rest (fN a b c B (some (je v lq)) o4 o5 o6 (some (.str (iz none))) o8 (some (nv ps.length))) H' K):aM C (rR::rest) (fN l lm lw B (some (je v lq)) o4 o5 o6 (some (.str (iz none))) o8 (some (nv ps.length))) H K:=by
 refine jc (qc (bY rfl (cj (ay Ik (fH rfl ?_)))))
 refine jc (qe (tM (qg (fK (bY (v:=je v lq) rfl (cj ?_))))))
 refine ay (a:=V.str (knd 0)) rfl (cj (ay (rP 0 0) ?_))
 refine ay (a:=true) rfl (fH rfl (GZ (Sr (HX (bY rfl ?_)))))
 rw[hC]
 refine BV (n:=n+70) rfl ?_
 refine ay (a:=true) rfl (ay (a:=false) rfl (fH rfl (qg (bY rfl ?_))))
 refine(?_:aJ (k7 H (.ref l)) _)
 refine ay (b7 hA) ?_
 rw[length_map]
 refine(?_:aJ (some (!((ps.length:Int)==(ps.length:Int)))) _)
 rw[beq_self_eq_true]
 refine jc (qe (tM (qg (fK (bY (v:=je v lq) rfl (cj ?_))))))
 refine ay (a:=V.str (knd 0)) rfl (cj (ay (Ig (vE 0 (by decide))) ?_))
 exact Il hC vH h
theorem UQ{c v:V}(hC:C.call=aA (n+71))(vH:∀Q Y:PQ,(∀a b c H',aC H H'->H.length<=a/\H.length<=b/\H.length<=c->cP H' r' a b c->Q (.aF [.ref a,.ref b,.ref c]) H')->aA (n+71) mD [.aF [.ref l,.ref lm,.ref lw],j6 c v lq] H Q Y)(h:∀a b d H',aC H H'->H.length<=a/\H.length<=b/\H.length<=d->cP H' r' a b d->aM C rest (fN a b d B (some (j6 c v lq)) o4 o5 o6 (some (.str (iz none))) o8 (some .none)) H' K):aM C (rR::rest) (fN l lm lw B (some (j6 c v lq)) o4 o5 o6 (some (.str (iz none))) o8 (some .none)) H K:=by
 refine jc (qc (bY rfl (cj (ay Ik (fH rfl ?_)))))
 refine kA 1 0 rfl rfl ?_
 have e1:eD .ne (.str (knd 1)) (.str (knd 0)) H=some true:=congrArg (Option.map (!·)) (rP 1 0)
 refine jc (qe (tM (qg (fK (bY (v:=j6 c v lq) rfl (cj ?_))))))
 refine ay (a:=V.str (knd 1)) rfl (cj (ay e1 ?_))
 refine ay (a:=true) rfl (fH rfl (BY (bY rfl ?_)))
 exact Il hC vH h
end
end Mine.L
namespace Mine.L
variable{Y:PQ}
open Mine.P PySem
theorem UR{ps:List aG}{v:V}{vs:List V}{j:Nat}(h:eV ps v vs=some j):j<8:=by
 unfold eV at h
 split at h
 ·split at h
  ·split at h
   ·cases h;decide
   ·split at h
    ·cases h;decide
    ·cases h
  ·cases h;decide
 ·cases h;decide
theorem US{ps:List aG}{c v:V}{vs:List V}{j:Nat}(h:fL ps c v vs=some j):j<8:=by
 unfold fL at h
 split at h
 ·split at h
  ·cases hp:ps[natOf c]? with
   |none=>rw[hp] at h;cases h
   |some p=>
    rw[hp] at h
    have h:gY ps p (vs.map natOf) (cM v)=some j:=h
    unfold gY at h
    split at h
    ·cases h;decide
    ·split at h
     ·cases h;decide
     ·split at h
      ·cases h;decide
      ·cases h
  ·cases h;decide
 ·cases h;decide
section
variable{n B l lm lw lq:Nat}{H:Hp}{K:Out->Prop}{C:Ct}{r:cq}{us:List V}{c v:V}{o4 o5 o6 o7 o8 o9:Option V}
noncomputable abbrev yA:S:=.aN (.J 6) H0
noncomputable abbrev yB:S:=.aN (.J 7) (.call si [.J 1,.J 3])
noncomputable abbrev yC:S:=.aN (.aF [.J 8,.J 9]) (.call oM [.J 2,.J 3])
noncomputable def tT(K:Out->Prop)(B:Nat)(o4 o5:Option V)(H:Hp)(r2:cq):Prop:=∀a b c o3 o6 o7 o8 o9 H',cG B H H'->cP H' r2 a b c->ct B H' r2->gh B a/\gh B b/\gh B c->K (.next (fN a b c B o3 o4 o5 o6 o7 o8 o9) H')
theorem UT(hC:C.call=aA (n+71))(at':cP H r l lm lw)(b:ct B H r)(jD:gh B l/\gh B lm/\gh B lw)(hl:r.ps.length<=60/\r.ms.length<=1000/\r.ws.length<=1000)(hq:H[lq]?=some (.list us))(ic:B+5<=lq)(hu:∀u∈us,sc u=true)(fM:us.length<=3)(hv:sc v=true)(hT:eV r.ps v us=none->eO (r.ps++[⟨cM v,us.map natOf,none,none⟩])=[]\/cX ⟨r.ps++[⟨cM v,us.map natOf,none,none⟩],r.ms,r.ws⟩)
  (h0:tT K B o4 o5 H r) (h1:eV r.ps v us=none->tT K B o4 o5 H ⟨r.ps++[⟨cM v,us.map natOf,none,none⟩],r.ms,r.ws⟩):aM C [yA,yB,yC,vF,rR,vG] (fN l lm lw B (some (je v lq)) o4 o5 o6 o7 o8 o9) H K:=by
 have hs:∀z∈[V.str (knd 0),v],sc z=true:=λz hz=>(mem_cons.mp hz).elim (λe=>e▸vE 0 (by decide)) λhz=>by rw[mem_singleton.mp hz];exact hv
 have vI:us.length<=1000:=le_trans fM (by decide)
 have hB:=b.len
 refine fJ (handed (ss:=[.str (knd 0),v]) rfl hs (show 2<=10 by decide) fM hq λiB lh H1 x1 Ce Cf vJ ah=>ay rfl ?_)
 have ap:H[l]?=some (.list (r.ps.map bv)):=at' _ λz Z Z=>z
 refine fJ (nu (bY rfl (bY rfl ?_)))
 rw[hC]
 refine T2 (n:=n+68) (x1 _ _ ap) (x1 _ _ hq) hu hv vI λH2 x2=>ay rfl ?_
 have iA:=x1.trans x2
 have b2:=b.ext iA
 have at2:cP H2 r l lm lw:=at' _ λz1 z2 z3=>.mk (iA _ _ z1) (iA _ _ z2) (iA _ _ z3)
 have hj:∀j,eV r.ps v us=some j->j<8:=λj hj=>UR hj
 refine fJ (nu (bY rfl (bY rfl ?_)))
 rw[hC]
 refine BU (n:=n+69) (okR:=λu H3=>eV r.ps v us=none/\u=nv r.ps.length/\cG B H2 H3/\ct B H3 ⟨r.ps++[⟨cM v,us.map natOf,none,none⟩],r.ms,r.ws⟩) (err:=eV r.ps v us) (λQ' Y' nA hy=>Hv b2 (Hk (n:=n) b2 hl.1 (iA _ _ hq) hu hv vI (.inr ic) (λk hk=>ib (hy k hk)) hT λe H3 x3 b3=>nA _ _ ⟨e,rfl,x3,b3⟩)) (λu H3 ok=>?_) λj lP=>⟨hj j lP,λH3 x3=>?_⟩
 ·obtain⟨e,rfl,x3,b3⟩:=ok
  refine ay rfl ?_
  have tU:=at2.k jD x3
  have UU:H3[l]?=some (.list (r.ps.map bv)):=tU _ λz Z Z=>z
  have up:∀{m cc},B+5<=m->H1[m]?=some cc->H3[m]?=some cc:=λhm a=>x3 _ _ (.inr hm) (x2 _ _ a)
  have UV:=(Cc e).2.2.2
  rw[e]
  refine t3 (o:=none) (ss:=[.str (knd 0),v]) (λZ h=>(nomatch h)) hs (show 2<=10 by decide) hu (up ic (x1 _ _ hq)) (up (le_trans (le_of_lt hB) Ce) vJ) (up (le_trans (le_of_lt hB) Cf) ah) λH4 x4=>?_
  have Cg:cP H4 r l lm lw:=tU _ λz1 z2 z3=>.mk (x4 _ _ z1) (x4 _ _ z2) (x4 _ _ z3)
  obtain⟨d,rfl⟩:∃d,v=.int d:=by
   unfold eV at e
   by_cases h0:gy r.ps us=true
   ·rw[if_pos h0] at e
    by_cases h1:wh v 0 100000=true
    ·exact(ox h1).imp λi h=>h.1
    ·rw[if_neg h1] at e;cases e
   ·rw[if_neg h0] at e;cases e
  have vz:gy r.ps us=true:=by
   cases h0:gy r.ps us with
   |true=>rfl
   |false=>unfold eV at e;rw[h0] at e;cases e
  have Ci:H4[lq]?=some (.list (aV (us.map natOf))):=by rw[<-(oA vz).1];exact x4 _ _ (up ic (x1 _ _ hq))
  refine UP (n:=n) hC (x4 _ _ UU) (λQ Y k=>T5 (n:=n+70) (r:=r) (ks:=us.map natOf) (d:=d) hl Cg Ci k) λa b' c' H5 x5 jS vK=>?_
  have rS:=x4.trans x5
  have dg:B+5<=H4.length:=le_of_lt (b3.ext x4).len
  refine t5 (n:=n) (r:=⟨r.ps++[⟨d,us.map natOf,none,none⟩],r.ms,r.ws⟩) hC (b3.ext rS) vK ⟨by rw[length_append];exact UV,hl.2⟩ λH6 x6=>?_
  exact h1 e a b' c' _ _ _ _ _ H6 (((iA.k.trans x3).trans rS.k).trans x6.k) (vK _ λz1 z2 z3=>.mk (x6 _ _ z1) (x6 _ _ z2) (x6 _ _ z3)) ((b3.ext rS).ext x6) ⟨.inr (le_trans dg jS.1),.inr (le_trans dg jS.2.1),.inr (le_trans dg jS.2.2)⟩
 ·refine ay rfl ?_
  have jw:=x2.trans x3
  rw[lP]
  refine t3 (o:=some j) (ss:=[.str (knd 0),v]) (λk hk=>by cases hk;exact hj j lP) hs (show 2<=10 by decide) hu (jw _ _ (x1 _ _ hq)) (jw _ _ vJ) (jw _ _ ah) λH4 x4=>?_
  refine Ij (hj j lP) ?_
  have j8:=(iA.trans x3).trans x4
  refine t5 (n:=n) (r:=r) hC (b.ext j8) (at' _ λz1 z2 z3=>.mk (j8 _ _ z1) (j8 _ _ z2) (j8 _ _ z3)) hl λH6 x6=>?_
  have mx:=j8.trans x6
  exact h0 l lm lw _ _ _ _ _ H6 mx.k (at' _ λz1 z2 z3=>.mk (mx _ _ z1) (mx _ _ z2) (mx _ _ z3)) (b.ext mx) jD
end
end Mine.L
namespace Mine.L
variable{Y:PQ}
open Mine.P PySem
section
variable{n B l lm lw lq:Nat}{H:Hp}{K:Out->Prop}{C:Ct}{r:cq}{us:List V}{c v:V}{o4 o5 o6 o7 o8 o9:Option V}
theorem UW(hC:C.call=aA (n+71))(at':cP H r l lm lw)(b:ct B H r)(jD:gh B l/\gh B lm/\gh B lw)(hl:r.ps.length<=60/\r.ms.length<=1000/\r.ws.length<=1000)(hq:H[lq]?=some (.list us))(ic:B+5<=lq)(hu:∀u∈us,sc u=true)(fM:us.length<=3)(hv:sc v=true)(hc:sc c=true)(hT:fL r.ps c v us=none->∀p,r.ps[natOf c]?=some p->eO (r.ps.set (natOf c) (eQ p (cM v) (us.map natOf)))=[]\/cX ⟨r.ps.set (natOf c) (eQ p (cM v) (us.map natOf)),r.ms,r.ws⟩)
  (h0:tT K B o4 o5 H r) (h1:fL r.ps c v us=none->∀p,r.ps[natOf c]?=some p->tT K B o4 o5 H ⟨r.ps.set (natOf c) (eQ p (cM v) (us.map natOf)),r.ms,r.ws⟩):aM C [yA,yB,yC,vF,rR,vG] (fN l lm lw B (some (j6 c v lq)) o4 o5 o6 o7 o8 o9) H K:=by
 have hs:∀z∈[V.str (knd 1),c,v],sc z=true:=λz hz=>(mem_cons.mp hz).elim (λe=>e▸vE 1 (by decide)) λhz=>(mem_cons.mp hz).elim (λe=>e▸hc) λhz=>by rw[mem_singleton.mp hz];exact hv
 have vI:us.length<=1000:=le_trans fM (by decide)
 have hB:=b.len
 refine fJ (handed (ss:=[.str (knd 1),c,v]) rfl hs (show 3<=10 by decide) fM hq λiB lh H1 x1 Ce Cf vJ ah=>ay rfl ?_)
 have ap:H[l]?=some (.list (r.ps.map bv)):=at' _ λz Z Z=>z
 refine fJ (nu (bY rfl (bY rfl ?_)))
 rw[hC]
 refine T4 (n:=n+68) (x1 _ _ ap) (x1 _ _ hq) hu hv hc vI λH2 x2=>ay rfl ?_
 have iA:=x1.trans x2
 have b2:=b.ext iA
 have at2:cP H2 r l lm lw:=at' _ λz1 z2 z3=>.mk (iA _ _ z1) (iA _ _ z2) (iA _ _ z3)
 have hj:∀j,fL r.ps c v us=some j->j<8:=λj hj=>US hj
 refine fJ (nu (bY rfl (bY rfl ?_)))
 rw[hC]
 refine BU (n:=n+69) (okR:=λu H3=>∃p,r.ps[natOf c]?=some p/\fL r.ps c v us=none/\u=.none/\cG B H2 H3/\ct B H3 ⟨r.ps.set (natOf c) (eQ p (cM v) (us.map natOf)),r.ms,r.ws⟩) (err:=fL r.ps c v us) (λQ' Y' nA hy=>Hw b2 (Hl (n:=n) b2 hl.1 (iA _ _ hq) hu hv hc vI (λk hk=>ib (hy k hk)) hT λe p hp H3 x3 b3=>nA _ _ ⟨p,hp,e,rfl,x3,b3⟩)) (λu H3 ok=>?_) λj lP=>⟨hj j lP,λH3 x3=>?_⟩
 ·obtain⟨p,hp,e,rfl,x3,b3⟩:=ok
  refine ay rfl ?_
  have tU:=at2.k jD x3
  have up:∀{m cc},B+5<=m->H1[m]?=some cc->H3[m]?=some cc:=λhm a=>x3 _ _ (.inr hm) (x2 _ _ a)
  have mO:=Ib e hp
  rw[e]
  refine t3 (o:=none) (ss:=[.str (knd 1),c,v]) (λZ h=>(nomatch h)) hs (show 3<=10 by decide) hu (up ic (x1 _ _ hq)) (up (le_trans (le_of_lt hB) Ce) vJ) (up (le_trans (le_of_lt hB) Cf) ah) λH4 x4=>?_
  have Cg:cP H4 r l lm lw:=tU _ λz1 z2 z3=>.mk (x4 _ _ z1) (x4 _ _ z2) (x4 _ _ z3)
  obtain⟨k,d,rfl,rfl,vz⟩:∃k d,c=nv k/\v=.int d/\gy r.ps us=true:=by
   unfold fL at e
   by_cases h0:(wh c 0 ((r.ps.length:Int) - 1)&&gy r.ps us)=true
   ·rw[if_pos h0] at e
    by_cases h1:wh v 0 100000=true
    ·obtain⟨k,hk,_⟩:=yq (and_eq_true_iff.mp h0).1
     obtain⟨d,hd,_⟩:=ox h1
     exact⟨k,d,hk,hd,(and_eq_true_iff.mp h0).2⟩
    ·rw[if_neg h1] at e;cases e
   ·rw[if_neg h0] at e;cases e
  have Ci:H4[lq]?=some (.list (aV (us.map natOf))):=by rw[<-(oA vz).1];exact x4 _ _ (up ic (x1 _ _ hq))
  refine UQ (n:=n) hC (λQ Y kk=>T6 (n:=n+70) (r:=r) (ks:=us.map natOf) (d:=d) (k:=k) hl Cg hp Ci kk) λa b' c' H5 x5 jS vK=>?_
  have rS:=x4.trans x5
  have dg:B+5<=H4.length:=le_of_lt (b3.ext x4).len
  refine t5 (n:=n) (r:=⟨r.ps.set k (eQ p d (us.map natOf)),r.ms,r.ws⟩) hC (b3.ext rS) vK ⟨by rw[length_set];exact hl.1,hl.2⟩ λH6 x6=>?_
  exact h1 e p hp a b' c' _ _ _ _ _ H6 (((iA.k.trans x3).trans rS.k).trans x6.k) (vK _ λz1 z2 z3=>.mk (x6 _ _ z1) (x6 _ _ z2) (x6 _ _ z3)) ((b3.ext rS).ext x6) ⟨.inr (le_trans dg jS.1),.inr (le_trans dg jS.2.1),.inr (le_trans dg jS.2.2)⟩
 ·refine ay rfl ?_
  have jw:=x2.trans x3
  rw[lP]
  refine t3 (o:=some j) (ss:=[.str (knd 1),c,v]) (λk hk=>by cases hk;exact hj j lP) hs (show 3<=10 by decide) hu (jw _ _ (x1 _ _ hq)) (jw _ _ vJ) (jw _ _ ah) λH4 x4=>?_
  refine Ij (hj j lP) ?_
  have j8:=(iA.trans x3).trans x4
  refine t5 (n:=n) (r:=r) hC (b.ext j8) (at' _ λz1 z2 z3=>.mk (j8 _ _ z1) (j8 _ _ z2) (j8 _ _ z3)) hl λH6 x6=>?_
  have mx:=j8.trans x6
  exact h0 l lm lw _ _ _ _ _ H6 mx.k (at' _ λz1 z2 z3=>.mk (mx _ _ z1) (mx _ _ z2) (mx _ _ z3)) (b.ext mx) jD
noncomputable def Tj(t:Nat)(r:cq):Prop:=0<r.ps.length/\r.ms.length<=1000/\r.ws.length<=1000/\((r.ps.length<=8+t/\cX r)\/(r.ps.length=60/\∀p∈r.ps,p.bM=none))
theorem Tj.len{t:Nat}(h:Tj t r)(ht:t<=12):r.ps.length<=60:=h.2.2.2.elim (λz=>le_trans z.1 (by lia)) λz=>le_of_eq z.1
theorem Tj.up{t:Nat}(h:Tj t r):Tj (t+1) r:=⟨h.1,h.2.1,h.2.2.1,h.2.2.2.imp (λz=>⟨Nat.le_succ_of_le z.1,z.2⟩) id⟩
theorem Tj.aQ{t:Nat}(h:Tj t r)(ht:t<8)(e:eV r.ps v us=none):(eO (r.ps++[⟨cM v,us.map natOf,none,none⟩])=[]\/cX ⟨r.ps++[⟨cM v,us.map natOf,none,none⟩],r.ms,r.ws⟩)/\Tj (t+1) ⟨r.ps++[⟨cM v,us.map natOf,none,none⟩],r.ms,r.ws⟩:=by
 have h6:=(Cc e).2.2.2
 rcases h.2.2.2 with⟨h1,h2⟩|⟨h1,h2⟩
 ·have ok:=UK h2 (lt_of_le_of_lt h1 (by lia)) e
  exact⟨.inr ok,by rw[length_append];exact succ_pos _,h.2.1,h.2.2.1,.inl ⟨by rw[length_append];exact succ_le_succ h1,ok⟩⟩
 ·exact absurd h1 (ne_of_lt h6)
theorem Tj.adopt{t:Nat}{p:aG}(h:Tj t r)(hp:r.ps[natOf c]?=some p)(e:fL r.ps c v us=none):(eO (r.ps.set (natOf c) (eQ p (cM v) (us.map natOf)))=[]\/cX ⟨r.ps.set (natOf c) (eQ p (cM v) (us.map natOf)),r.ms,r.ws⟩)/\Tj (t+1) ⟨r.ps.set (natOf c) (eQ p (cM v) (us.map natOf)),r.ms,r.ws⟩:=by
 have el:(r.ps.set (natOf c) (eQ p (cM v) (us.map natOf))).length=r.ps.length:=length_set
 rcases h.2.2.2 with⟨h1,h2⟩|⟨h1,h2⟩
 ·have ok:=UN h2 hp e
  exact⟨.inr ok,el▸h.1,h.2.1,h.2.2.1,.inl ⟨el▸Nat.le_succ_of_le h1,ok⟩⟩
 ·have hd:∀q∈r.ps.set (natOf c) (eQ p (cM v) (us.map natOf)),q.bM=none:=λq hq=>(List.mem_or_eq_of_mem_set hq).elim (h2 q) λe=>by rw[e];exact h2 p (mem_of_getElem? hp)
  exact⟨.inl (Cd hd),el▸h.1,h.2.1,h.2.2.1,.inr ⟨el.trans h1,hd⟩⟩
end
end Mine.L
namespace Mine.L
variable{Y:PQ}
open Mine.P PySem
section
variable{n B l lm lw:Nat}{H:Hp}{K:Out->Prop}{C:Ct}{r:cq}{rest:List S}{o3 o4 o5 o6 o7 o8 o9:Option V}
noncomputable abbrev Im:S:=.aN (.J 3) (.call v7 [(.aE (.J 1) (.k (.int 0))),(.bin .add (.call iX [.J 0,(.bin .add (.k (.int 5)) (.bin .mod (.J 4) (.k (.int 4))))]) (.J 5))])
noncomputable abbrev Cj:S:=.for (.aF [.J 4,.J 5]) (.jI (.call lY [(.call iX [.J 0,(.k (.int 9))]),(.k (.int 8))])) [Im,yA,yB,yC,vF,rR,vG]
theorem turn{k t:Nat}{x:Int}(hC:C.call=aA (n+71))(at':cP H r l lm lw)(b:ct B H r)(jD:gh B l/\gh B lm/\gh B lw)(hj:Tj t r)(ht:t<8)(h:∀r2,Tj (t+1) r2->tT K B (some (nv k)) (some (.int x)) H r2):aM C [Im,yA,yB,yC,vF,rR,vG] (fN l lm lw B o3 (some (nv k)) (some (.int x)) o6 o7 o8 o9) H K:=by
 have ap:H[l]?=some (.list (r.ps.map bv)):=at' _ λz Z Z=>z
 have vL:=hj.len (by lia)
 refine fJ (nu (fK (bY rfl (cj ?_))))
 refine ay (a:=V.ref l) rfl (gg (nu (bY rfl (gg (cj (gg (bY rfl (cj ?_))))))))
 obtain⟨m,hm,_⟩:=iy (k:Int) (k:=4) (by decide)
 refine e7 (gv (b:=4) (by decide)) ?_
 rw[show(k:Int).fmod 4=(m:Int) from hm]
 refine e7 (z:=((5+m:Nat):Int)) (by refine(?_:some ((5:Int)+(m:Int))=_);rw[Int.natCast_add];rfl) ?_
 rw[hC]
 refine mX (n:=n+70) (k:=5+m) ?_
 refine bY rfl (e7 rfl ?_)
 refine Ur (n:=n+68) ap ⟨hj.1,vL⟩ λus lq H1 v ie fM ic x1 aq hv=>?_
 have b1:=b.ext x1
 have oD:cP H1 r l lm lw:=at' _ λz1 z2 z3=>.mk (x1 _ _ z1) (x1 _ _ z2) (x1 _ _ z3)
 have hb:B+5<=lq:=le_trans (le_of_lt b.len) ic
 have tk:∀{r2},Tj (t+1) r2->tT K B (some (nv k)) (some (.int x)) H1 r2:=λz a b c o3 o6 o7 o8 o9 H' xx=>h _ z a b c o3 o6 o7 o8 o9 H' (x1.k.trans xx)
 refine⟨ay rfl ?_,λc hc=>ay rfl ?_⟩
 ·exact UT (n:=n) hC oD b1 jD ⟨vL,hj.2.1,hj.2.2.1⟩ aq hb ie fM hv (λe=>(hj.aQ ht e).1) (tk hj.up) λe=>tk (hj.aQ ht e).2
 ·exact UW (n:=n) hC oD b1 jD ⟨vL,hj.2.1,hj.2.2.1⟩ aq hb ie fM hv hc (λe p hp=>(hj.adopt hp e).1) (tk hj.up) λe p hp=>tk (hj.adopt hp e).2
theorem Io:∀(k:Nat) (xs:List Int),(en k xs).length=xs.length
 |_,[]=>rfl
 |k,x::r=>congrArg (·+1) (Io (k+1) r)
theorem turns(hC:C.call=aA (n+71))(at':cP H r l lm lw)(b:ct B H r)(jD:gh B l/\gh B lm/\gh B lw)(hj:Tj 0 r)(h:∀a b c o3 o4 o5 o6 o7 o8 o9 H',aM C rest (fN a b c B o3 o4 o5 o6 o7 o8 o9) H' K):aM C (Cj::rest) (fN l lm lw B o3 o4 o5 o6 o7 o8 o9) H K:=by
 refine vp ?_
 refine(?_:WE C (.call lY [(.call iX [.J 0,(.k (.int 9))]),(.k (.int 8))]) (fN l lm lw B o3 o4 o5 o6 o7 o8 o9) H _)
 refine nu (nu (bY rfl (cj ?_)))
 rw[hC]
 refine mX (n:=n+70) (k:=9) (cj ?_)
 refine tF (n:=n+70) (m:=8) (by decide) λls H1 xs B1 Z kQ x1 ax=>?_
 refine ay (b7 ax) ?_
 rw[yk]
 have hB:=b.len
 refine ft (g:=Bh) (λas ρ H'=>∃a b c r2 t o3 o4 o5 o6 o7 o8 o9,ρ=fN a b c B o3 o4 o5 o6 o7 o8 o9/\cP H' r2 a b c/\ct B H' r2/\(gh B a/\gh B b/\gh B c)/\Tj t r2/\t+as.length<=8/\cG B H1 H') (λkx as ρ H' hI=>?_) (λρ H' hI=>?_) _ _ _ ⟨l,lm,lw,r,0,o3,o4,o5,o6,o7,o8,o9,rfl,at' _ λz1 z2 z3=>.mk (x1 _ _ z1) (x1 _ _ z2) (x1 _ _ z3),b.ext x1,jD,hj,by rw[Io,B1];exact le_refl _,cG.refl _ _⟩
 ·obtain⟨a,b',c,r2,t,o3,o4,o5,o6,o7,o8,o9,rfl,at2,b2,UX,Bx,ht,x⟩:=hI
  rw[length_cons] at ht
  refine ay (a:=fN a b' c B o3 (some (nv kx.1)) (some (.int kx.2)) o6 o7 o8 o9) rfl λN hN=>?_
  refine turn (n:=n) (C:=C.xq) hC at2 b2 UX Bx (by lia) λr3 UY a' b3 c' p3 p6 p7 p8 p9 H3 xx tU UZ U0=>?_
  have x3:=x.trans xx
  exact hN _ _ (c9 ax (x3 _ _ (.inr (le_trans (le_of_lt hB) kQ)) ax)) ⟨a',b3,c',r3,t+1,_,_,_,_,_,_,_,rfl,tU,UZ,U0,UY,by lia,x3⟩
 ·obtain⟨a,b',c,r2,t,o3,o4,o5,o6,o7,o8,o9,rfl,_⟩:=hI
  exact h a b' c o3 o4 o5 o6 o7 o8 o9 H'
end
end Mine.L
namespace Mine.L
variable{Y:PQ}
open Mine.P PySem
noncomputable def gA:List aG:=(List.range 60).map λk:Nat=>⟨(k:Int),[],none,none⟩
noncomputable def rT:cq:=⟨gA,[],[]⟩
section
variable{n:Nat}{H:Hp}{Q:PQ}{r:cq}
theorem Ip{l lm lw:Nat}(at':cP H r l lm lw)(hj:Tj 0 r)(hW:cL r.ps)(hg:∀w∈r.ws,w.cU.length<=10)(runs:Runs ⟨[],[],[]⟩ (nz r) r)(q:∀H',Q (.bool true) H'):aM ⟨aA (n+71),xq Y⟩ (zp.drop 2) [some .dU,some (.aF [.ref l,.ref lm,.ref lw]),none,none,none,none,none,none,none,none] H (bF Q):=at' _ λap am aw=>by
 have vL:=hj.len (by decide)
 refine(?_:aM ⟨aA (n+71),xq Y⟩ (.aN (.J 2) (.new ua)::B9::Cj::[.ret (.k (.bool true))]) _ H (bF Q))
 refine fJ (TF (n:=n+70) (C:=⟨aA (n+71),xq Y⟩) rfl λH1 x1 b1=>ay rfl ?_)
 have oD:cP H1 r l lm lw:=.mk (x1 _ _ ap) (x1 _ _ am) (x1 _ _ aw)
 refine(?_:aM ⟨aA (n+71),xq Y⟩ (B9::Cj::[.ret (.k (.bool true))]) (fN l lm lw H.length none none none none none none none) H1 (bF Q))
 have jD:gh H.length l/\gh H.length lm/\gh H.length lw:=⟨.inl (cu ap),.inl (cu am),.inl (cu aw)⟩
 refine UB (n:=n) (C:=⟨aA (n+71),xq Y⟩) rfl oD ⟨cu (x1 _ _ ap),cu (x1 _ _ aw)⟩ ⟨vL,hj.2.1,hj.2.2.1⟩ hW hg b1 runs λo3 H2 x2 b2=>?_
 refine turns (n:=n) (C:=⟨aA (n+71),xq Y⟩) rfl (oD.k jD x2) b2 jD hj λa b c o3 o4 o5 o6 o7 o8 o9 H3=>?_
 exact q H3
theorem U1(hR:∀r,cX r->vx r->r.ps.length<=8->r.ms.length<=1000->r.ws.length<=1000->Runs ⟨[],[],[]⟩ (nz r) r)(lR:Runs ⟨[],[],[]⟩ (nz rT) rT)(U2:cL gA)(q:∀H',Q (.bool true) H'):aA (n+72) oN [.dU] H Q Y:=P8 (by
 refine(?_:aA (n+71) vZ [.dU,nv 8] H _ _)
 refine SJ (n:=n+67) (b:=8) (by decide) (by decide) λr l lm lw H1 ok rr h0 h8 hm hw at' x1=>?_
 refine(?_:aA (n+71) iX [.dU,nv 0] H1 _ _)
 refine mX (n:=n+70) (k:=0) ?_
 refine(?_:bx ((((X.is.getD 0 0).fdiv 7).fmod 8)==3) _ _)
 refine ck (λZ=>?_) λZ=>Ip at' ⟨h0,hm,hw,.inl ⟨h8,ok⟩⟩ (ok _ λwf Z Z Z=>wf) (λw kN=>ok _ λZ Z Z g=>(g w kN) _ λgk Z Z Z Z Z Z Z Z Z Z=>gk.2) (hR r ok rr h8 hm hw) q
 refine fJ (B5 (nr (yf (cj (cj (mq (m:=60) (by decide) (cz (cF (by rw[length_map,length_range];decide)) ?_)))))))
 refine gV (P:=λZ=>true) (F:=λk:Nat=>bv ⟨(k:Int),[],none,none⟩) (List.range 60) _ _ (λa Z T hT=>hT) (λa Z Z N hN=>hN) ?_
 rw[pM]
 have e:[]++(List.range 60).map (λk:Nat=>bv ⟨(k:Int),[],none,none⟩)=gA.map bv:=by unfold gA;rw[map_map];rfl
 rw[e]
 refine jA (vo (vo (ay rfl ?_)))
 have hl:gA.length=60:=by unfold gA;rw[length_map,length_range]
 exact Ip (r:=rT) (.mk (be _ (be _ (bj _ _))) (be _ (bj _ _)) (bj _ _)) ⟨by refine(?_:0<gA.length);rw[hl];decide,by decide,by decide,.inr ⟨hl,λp hp=>by
  obtain⟨k,_,rfl⟩:=mem_map.mp (show p∈gA from hp)
  rfl⟩⟩ U2 (λw hw=>nomatch hw) lR q)
end
end Mine.L
namespace Mine.L
open Mine.P PySem
section
variable{r:cq}{ps:List aG}
theorem Iq(ok:cX r)(rr:vx r)(hl:r.ps.length<=60)(hm:r.ms.length<=1000):∀(as an:List dP),an++as=r.ms->Runs ⟨r.ps,an,[]⟩ (as.map .fy) ⟨r.ps,r.ms,[]⟩
 |[],an,e=>by rw[append_nil] at e;rw[e];exact .nil
 |w::as,an,e=>ok _ λwf len fy cU=>by
  have hw:w∈r.ms:=e▸mem_append.mpr (.inr mem_cons_self)
  have sub:∀u∈an,u∈r.ms:=λu hu=>e▸mem_append.mpr (.inl hu)
  have e':(an++[w])++as=r.ms:=by rw[append_assoc];exact e
  have pw:=rr.2.1.2
  rw[<-e] at pw
  refine .cons (.fy hl (fy w hw) (λu hu=>fy u (sub u hu)) (le_trans (by rw[<-e,length_append];exact le_add_right _ _) hm) (rr.2.1.1 w hw) (λu hu=>⟨(List.pairwise_append.mp pw).2.2 u hu w mem_cons_self,(rr.2.1.1 u (sub u hu)).2.2.2.2⟩) (.mk wf len (λu hu=>fy u (e'▸mem_append.mpr (.inl hu))) λZ h=>(nomatch h))) (Iq ok rr hl hm as (an++[w]) e')
theorem Ir(ok:cX r)(rr:vx r)(hl:r.ps.length<=60)(hw:r.ws.length<=1000):∀(as an:List gf),an++as=r.ws->Runs ⟨r.ps,r.ms,an⟩ (as.map .kR) r
 |[],an,e=>by rw[append_nil] at e;rw[e];exact .nil
 |w::as,an,e=>ok _ λwf len fy cU=>by
  have hm:w∈r.ws:=e▸mem_append.mpr (.inr mem_cons_self)
  have e':(an++[w])++as=r.ws:=by rw[append_assoc];exact e
  exact .cons (.kR hl (le_trans (by rw[<-e,length_append];exact le_add_right _ _) hw) (cU w hm) (rr.2.2 w hm) (.mk wf len fy λu hu=>cU u (e'▸mem_append.mpr (.inl hu)))) (Ir ok rr hl hw as (an++[w]) e')
noncomputable def Iu(ps:List aG):Prop:=∀(k:Nat) p,ps[k]?=some p->(∀j∈p.bS,j<k/\fT ps p.aQ j)/\hJ p.bS/\0<=p.aQ/\p.aQ<=100000
theorem Iv{ks:List Nat}(h:∀k∈ks,k<ps.length):gy ps (aV ks)=true:=all_eq_true.mpr λv hv=>(mem_map.mp hv).elim λk hk=>hk.2▸BG (h k hk.1)
theorem Iw{ks:List Nat}{d:Int}(h2:hJ ks)(h:∀k∈ks,fT ps d k):dj ps ks d=false:=by
 unfold dj
 rw[decide_eq_false (not_lt.mpr h2.1),decide_eq_false (λhn=>hn h2.2)]
 refine any_eq_false.mpr λk hk=>?_
 obtain⟨q,hq,cO⟩:=h k hk
 unfold iL
 rw[hq,decide_eq_true_eq]
 exact not_le.mpr cO
theorem Ck(hB:Iu ps)(hl:ps.length<=60):∀(as an:List aG),an++as=ps->Runs ⟨an.map jC,[],[]⟩ (as.map .aQ) ⟨ps.map jC,[],[]⟩
 |[],an,e=>by rw[append_nil] at e;rw[e];exact .nil
 |p::as,an,e=>by
  have hp:ps[an.length]?=some p:=by rw[<-e,getElem?_append_right (le_refl _),sub_self];rfl
  obtain⟨h1,h2,h3,h4⟩:=hB an.length p hp
  have e':(an++[p])++as=ps:=by rw[append_assoc];exact e
  have dg:(an.map jC).length=an.length:=length_map _
  have cO:an.length<60:=lt_of_lt_of_le (List.getElem?_eq_some_iff.mp hp).1 hl
  have old:∀j∈p.bS,fT (an.map jC) p.aQ j:=λj hj=>(h1 j hj).2.elim λq hq=>⟨jC q,by
   rw[getElem?_map]
   have:=hq.1
   rw[<-e,getElem?_append_left (h1 j hj).1] at this
   rw[this];rfl,hq.2⟩
  have ob:eV (an.map jC) (.int p.aQ) (aV p.bS)=none:=by
   unfold eV
   rw[if_pos (Iv λk hk=>by rw[dg];exact(h1 k hk).1),if_pos (show wh (.int p.aQ) 0 100000=true from and_eq_true_iff.mpr ⟨decide_eq_true h3,decide_eq_true h4⟩),rQ,if_neg (by rw[show dj (an.map jC) p.bS (cM (.int p.aQ))=false from Iw h2 old];decide),if_neg (by rw[dg];exact Nat.not_le.mpr cO)]
  have z:=Ck hB hl as (an++[p]) e'
  rw[map_append] at z
  refine .cons (.aQ ob h2.1 (by rw[dg];exact le_of_lt cO) (.inl (Cd λq hq=>?_))) z
  rcases mem_append.mp hq with hq|hq
  ·obtain⟨x,_,rfl⟩:=mem_map.mp hq;rfl
  ·rw[mem_singleton.mp hq]
end
section
variable{r:cq}{ps qs:List aG}
noncomputable def rU(ps qs:List aG):Prop:=qs.length=ps.length/\∀(k:Nat) p,ps[k]?=some p->∃q,qs[k]?=some q/\q.aQ=p.aQ/\q.bS=p.bS/\(q.ad=none\/q.ad=p.ad)
theorem rU.old(h:rU ps qs){b:Int}{j:Nat}(o:fT ps b j):fT qs b j:=o.elim λz hz=>(h.2 j z hz.1).elim λq hq=>⟨q,hq.1,by rw[hq.2.1];exact hz.2⟩
theorem rU.wf(h:rU ps qs)(wf:cL ps):cL qs:=λk q hq=>by
 obtain⟨p,hp⟩:=at_of (show k<ps.length from h.1▸(List.getElem?_eq_some_iff.mp hq).1)
 obtain⟨q',nA,e1,e2,e3⟩:=h.2 k p hp
 rw[hq] at nA
 cases nA
 exact(wf k p hp) _ λa b c d e=>.mk (by rw[e2,e1];exact λj hj=>h.old (a j hj)) (λx hx j hj=>by rw[e1];rcases e3 with e3|e3<;>rw[e3] at hx<;>first|cases hx|exact h.old (b x hx j hj)) (e2▸c) (λx hx=>by rcases e3 with e3|e3<;>rw[e3] at hx<;>first|cases hx|exact d x hx) (e1▸e)
noncomputable def tV(ps:List aG)(as:List Nat)(qs:List aG):Prop:=qs.length=ps.length/\∀(k:Nat) p,ps[k]?=some p->qs[k]?=some (if k∈as then jC p else⟨p.aQ,p.bS,none,p.bM⟩)
noncomputable def yD(ps:List aG)(as:List Nat)(qs:List aG):Prop:=qs.length=ps.length/\∀(k:Nat) p,ps[k]?=some p->qs[k]?=some (if k∈as then⟨p.aQ,p.bS,none,p.bM⟩ else p)
theorem tV.yE{as:List Nat}(h:tV ps as qs):rU ps qs:=⟨h.1,λk p hp=>⟨_,h.2 k p hp,by split<;>rfl,by split<;>rfl,.inl (by split<;>rfl)⟩⟩
theorem yD.yE{as:List Nat}(h:yD ps as qs):rU ps qs:=⟨h.1,λk p hp=>⟨_,h.2 k p hp,by split<;>rfl,by split<;>rfl,by split;exact .inl rfl;exact .inr rfl⟩⟩
theorem Iy{Cm:List aG}{f:Nat->aG->aG}(h:qs.length=ps.length/\∀(k:Nat) p,ps[k]?=some p->qs[k]?=some (f k p))(h':Cm.length=ps.length/\∀(k:Nat) p,ps[k]?=some p->Cm[k]?=some (f k p)):qs=Cm:=ext_getElem? λk=>by
 cases hp:ps[k]? with
 |some p=>rw[h.2 k p hp,h'.2 k p hp]
 |none=>
  have hn:=List.getElem?_eq_none_iff.mp hp
  rw[List.getElem?_eq_none_iff.mpr (h.1▸hn),List.getElem?_eq_none_iff.mpr (h'.1▸hn)]
theorem Iz(h:rU ps qs)(wf:cL ps)(hl:ps.length<=20):cX ⟨qs,[],[]⟩:=.mk (h.wf wf) (h.1▸hl) (λZ h=>(nomatch h)) λZ h=>(nomatch h)
theorem IA(wf:cL ps)(rp:lQ ps)(hl:ps.length<=20){qf:List aG}(hf:tV ps [] qf):∀(as:List Nat) (qs:List aG),as.Nodup->(∀k∈as,k∈eO ps)->tV ps as qs->Runs ⟨qs,[],[]⟩ (as.map λk=>.bM k ((dD ps k).getD 0)) ⟨qf,[],[]⟩
 |[],qs,_,_,h=>by rw[Iy h hf];exact .nil
 |k::as,qs,nd,hd,h=>by
  obtain⟨p,e,hp,he⟩:=G8 (hd k mem_cons_self)
  have nd:=nodup_cons.mp nd
  have hk:=(List.getElem?_eq_some_iff.mp hp).1
  have hq:qs[k]?=some (jC p):=(h.2 k p hp).trans (by rw[if_pos mem_cons_self])
  have hi:(dD ps k).getD 0=e:=by unfold dD;rw[hp];exact congrArg (Option.getD · 0) he
  have st:tV ps as (qs.set k (rO (jC p) e)):=⟨by rw[length_set];exact h.1,λi q hi=>by
   by_cases ei:k=i
   ·subst ei
    rw[hp] at hi;cases hi
    rw[getElem?_set_self (h.1▸hk),if_neg nd.1,he]
   ·rw[getElem?_set_ne ei,h.2 i q hi]
    refine congrArg some ?_
    by_cases hm:i∈as
    ·rw[if_pos hm,if_pos (List.mem_cons_of_mem _ hm)]
    ·rw[if_neg hm,if_neg λhh=>(mem_cons.mp hh).elim (λe=>ei e.symm) hm]⟩
  have rk:=(rp k p hp).2.2.1 e he
  have z0:0<=p.aQ:=(wf k p hp) _ λZ Z Z Z z=>z
  rw[map_cons,hi]
  exact .cons (.bM hq rfl rfl ⟨by lia,rk.2⟩ rk.1 (h.1▸le_trans hl (by decide)) (Iz st.yE wf hl)) (IA wf rp hl hf as _ nd.2 (λj hj=>hd j (.tail _ hj)) st)
theorem Co(wf:cL ps)(rp:lQ ps)(hl:ps.length<=20):∀(as:List Nat) (qs:List aG),as.Nodup->(∀k∈as,k<ps.length)->yD ps as qs->Runs ⟨qs,[],[]⟩ (jf ps as) ⟨ps,[],[]⟩
 |[],qs,_,_,h=>by rw[Iy (f:=λZ p=>p) h ⟨rfl,λk p hp=>hp⟩];exact .nil
 |k::as,qs,nd,hd,h=>by
  obtain⟨p,hp⟩:=at_of (hd k mem_cons_self)
  have nd:=nodup_cons.mp nd
  have hk:=(List.getElem?_eq_some_iff.mp hp).1
  have hq:qs[k]?=some ⟨p.aQ,p.bS,none,p.bM⟩:=(h.2 k p hp).trans (by rw[if_pos mem_cons_self])
  have oth:∀{i q},k≠i->ps[i]?=some q->qs[i]?=some (if i∈as then⟨q.aQ,q.bS,none,q.bM⟩ else q):=λ{i q} ei hi=>by
   rw[h.2 i q hi]
   refine congrArg some ?_
   by_cases hm:i∈as
   ·rw[if_pos hm,if_pos (List.mem_cons_of_mem _ hm)]
   ·rw[if_neg hm,if_neg λhh=>(mem_cons.mp hh).elim (λe=>ei e.symm) hm]
  have ds:jf ps (k::as)=(match p.ad with|none=>[]|some x=>[gz.adopt k x])++jf ps as:=by
   have z2:jf ps (k::as)=jf ps ([]++[k])++jf ps as:=by
    unfold jf
    rw[<-List.filterMap_append];rfl
   rw[z2,HO (an:=[]) hp];rfl
  rw[ds]
  cases gT:p.ad with
  |none=>
   refine Co wf rp hl as qs nd.2 (λj hj=>hd j (.tail _ hj)) ⟨h.1,λi q hi=>?_⟩
   by_cases ei:k=i
   ·subst ei
    rw[hp] at hi;cases hi
    rw[hq,if_neg nd.1,<-gT]
   ·exact oth ei hi
  |some x=>
   obtain⟨r1,r2,r3,r4⟩:=(rp k p hp).2.2.2 x gT
   have z0:0<=p.aQ:=(wf k p hp) _ λZ Z Z Z z=>z
   have h2:hJ x.2:=(wf k p hp) _ λZ Z Z d Z=>d x gT
   have old:∀j∈x.2,fT qs p.aQ j:=(wf k p hp) _ λZ b Z Z Z=>λj hj=>h.yE.old (b x gT j hj)
   have st:yD ps as (qs.set k (eQ ⟨p.aQ,p.bS,none,p.bM⟩ x.1 x.2)):=⟨by rw[length_set];exact h.1,λi q hi=>by
    by_cases ei:k=i
    ·subst ei
     rw[hp] at hi;cases hi
     rw[getElem?_set_self (h.1▸hk),if_neg nd.1]
     obtain⟨pb,pp,pa,pd⟩:=p
     cases gT;rfl
    ·rw[getElem?_set_ne ei];exact oth ei hi⟩
   have oa:fL qs (nv k) (.int x.1) (aV x.2)=none:=by
    unfold fL
    rw[if_pos (and_eq_true_iff.mpr ⟨BG (h.1▸hk),Iv λj hj=>(old j hj).elim λz hz=>(List.getElem?_eq_some_iff.mp hz.1).1⟩),if_pos (show wh (.int x.1) 0 100000=true from and_eq_true_iff.mpr ⟨decide_eq_true (by lia),decide_eq_true r2⟩),show natOf (nv k)=k from rfl,hq,rQ]
    refine(?_:gY qs ⟨p.aQ,p.bS,none,p.bM⟩ x.2 x.1=none)
    unfold gY
    rw[if_neg,if_neg,if_neg]
    ·exact Bool.false_ne_true
    ·rw[show dj qs x.2 p.aQ=false from Iw h2 old,Bool.or_false]
     exact λhh=>r4 (isEmpty_iff.mp hh)
    ·unfold j5
     rw[decide_eq_false (Int.not_lt.mpr r1),Bool.false_or]
     cases nX:p.bM with
     |none=>exact Bool.false_ne_true
     |some e=>exact λhh=>absurd (r3 e nX) (Int.not_lt.mpr (of_decide_eq_true hh))
   exact .cons (.adopt oa hq h2.1 (h.1▸le_trans hl (by decide)) (.inr (Iz st.yE wf hl))) (Co wf rp hl as _ nd.2 (λj hj=>hd j (.tail _ hj)) st)
theorem U3(wf:cL ps)(rp:lQ ps):Iu ps:=λk p hp=>(wf k p hp) _ λa b c d e=>⟨λj hj=>⟨(rp k p hp).1 j hj,a j hj⟩,c,e,Int.le_trans (rp k p hp).2.1 (by decide)⟩
theorem U4(f:aG->aG):(ps.map f).length=ps.length/\∀(k:Nat) p,ps[k]?=some p->(ps.map f)[k]?=some (f p):=⟨length_map _,λk p hp=>by rw[getElem?_map,hp];rfl⟩
theorem U5(ok:cX r)(rr:vx r)(hl:r.ps.length<=8)(hm:r.ms.length<=1000)(hw:r.ws.length<=1000):Runs ⟨[],[],[]⟩ (nz r) r:=ok _ λwf len fy cU=>by
 have lR:r.ps.length<=60:=le_trans hl (by decide)
 unfold nz
 refine(((Runs.aR (r':=⟨r.ps.map jC,[],[]⟩) (r'':=⟨r.ps.map λp=>⟨p.aQ,p.bS,none,p.bM⟩,[],[]⟩) (Ck (U3 wf rr.1) lR r.ps [] rfl) ?_).aR ?_).aR (Iq ok rr lR hm r.ms [] rfl)).aR (Ir ok rr lR hw r.ws [] rfl)
 ·refine IA wf rr.1 len (U4 _:tV r.ps [] _) (eO r.ps) _ (Pairwise.filter _ List.nodup_range) (λk h=>h) ⟨length_map _,λk p hp=>?_⟩
  rw[getElem?_map,hp]
  refine congrArg some ?_
  by_cases hk:k∈eO r.ps
  ·rw[if_pos hk]
  ·rw[if_neg hk]
   have:p.bM=none:=by
    cases hd:p.bM with
    |none=>rfl
    |some e=>exact absurd (mem_filter.mpr ⟨mem_range.mpr (List.getElem?_eq_some_iff.mp hp).1,by unfold gx;rw[hp];refine(?_:p.bM.isSome=true);rw[hd];rfl⟩) hk
   rw[this]
 ·refine Co wf rr.1 len _ _ List.nodup_range (λk h=>mem_range.mp h) ⟨length_map _,λk p hp=>?_⟩
  rw[getElem?_map,hp,if_pos (mem_range.mpr (List.getElem?_eq_some_iff.mp hp).1)];rfl
end
end Mine.L
namespace Mine.L
variable{Y:PQ}
open Mine.P PySem
theorem yF{k:Nat}{p:aG}(h:gA[k]?=some p):∃j:Nat,j<60/\p=⟨(j:Int),[],none,none⟩:=by
 unfold gA at h
 obtain⟨j,hj,e⟩:=mem_map.mp (mem_of_getElem? h)
 exact⟨j,mem_range.mp hj,e.symm⟩
theorem U6:cL gA:=λk p hp=>by
 obtain⟨j,_,rfl⟩:=yF hp
 exact .mk (λZ h=>(nomatch h)) (λZ h=>(nomatch h)) ⟨zero_le _,nodup_nil⟩ (λZ h=>(nomatch h)) (natCast_nonneg j)
theorem U7:gA.length=60:=by unfold gA;rw[length_map,length_range]
theorem U8:gA.map jC=gA:=by unfold gA;rw[map_map];rfl
theorem U9:eO gA=[]:=Cd λp hp=>(getElem?_of_mem hp).elim λk hk=>(yF hk).elim λj hj=>by rw[hj.2]
theorem Va:jf gA (List.range gA.length)=[]:=by
 unfold jf
 refine List.filterMap_eq_nil_iff.mpr λk hk=>?_
 obtain⟨p,hp⟩:=at_of (mem_range.mp hk)
 obtain⟨j,_,rfl⟩:=yF hp
 rw[hp];rfl
theorem Vb:Runs ⟨[],[],[]⟩ (nz rT) rT:=by
 have z:=Ck (ps:=gA) (λk p hp=>by
  obtain⟨j,hj,rfl⟩:=yF hp
  exact⟨λZ h=>(nomatch h),⟨zero_le _,nodup_nil⟩,natCast_nonneg j,by refine(?_:(j:Int)<=100000);lia⟩) (le_of_eq U7) gA [] rfl
 rw[U8] at z
 have e:nz rT=gA.map .aQ:=by
  unfold nz rT yx
  rw[U9,Va,map_nil,append_nil,append_nil,map_nil,append_nil,map_nil,append_nil]
 rw[e]
 exact z
theorem Vc{n:Nat}{H:Hp}{Q:PQ}(q:∀H',Q (.bool true) H'):aA (n+72) oN [.dU] H Q Y:=U1 (λr ok rr hl hm hw=>U5 ok rr hl hm hw) Vb U6 q
end Mine.L
set_option tactic.hygienic true
section
open PySem PySem.W PyProof.Rows
namespace Mine
theorem Vd{c:ClaimW}{cl:Str->Option Addr}{mean:ExcName->Option Value}{args:List WData}{bT:Shared}{h':Heap}{tk:Nat}(hk:∀b o,bT.heap.get? b=some o->h'.get? b=some o)(hg:bT.gens=#[])
  (hn:∀cls,c.raises args cls=false) (hp:c.post args (.bool true) args=true):GoodWG c cl mean args bT (.ok (.ret (.bool true))) {bT with heap:=h',toks:=tk}:=
 ⟨.inl ⟨_,_,_,rfl,hn,.bool true,hp,λZ=>⟨.nil,λZ ha=>nomatch ha⟩⟩,⟨λb o e=>.inl (hk b o e),λb o e=>⟨o,hk b o e⟩⟩,rfl,.of_eq hg⟩
noncomputable def rV:Hook:=⟨Heap,λs=>s.heap,λw=>H.H1 w.params,λw h=>∀b o,(H.H1 w.params).get? b=some o->h.get? b=some o,λw s e=>e▸λZ Z x=>x,λw h h' x k b o e=>k b o (x b o e)⟩
theorem left:LeftO H.pp H.qv H.lo H.Xt (Hook.obs rV) (Hook.val rV) 20000:=
 LeftO.of_pieces (H₀:=boot_heap) (H₁:=H.H1) (m₀:=11) (ann:=H.an) H.Pe H.size H.run (by decide) λw=>funext λos=>H.pr (H.k1 w os) (H.pr (H.sn w os) rfl)
end Mine
set_option maxHeartbeats 40000000 in
theorem Mine.ws:PySem.Challenge.rw_uf020001_10.wellSaid=true:=by
 unfold OpenLaw.wellSaid OpenRow.wellSaid OpenRow.partSaid
 repeat' with_reducible refine look_both ?_ ?_
 all_goals decide +kernel
set_option maxHeartbeats 40000000 in
theorem PySem.Challenge.cw_uf020001_10_holds : PySem.Challenge.rw_uf020001_10.Holds := by
 w_on
 refine holds_law Mine.ws λsaid=>?_
 refine holds_open (q:=Mine.H.qv) (loose:=Mine.H.lo) (Xt:=Mine.H.Xt) (XP:=XL Mine.H.qv Mine.H.lv) (Yf:=Hook.obs Mine.rV) (Ya:=Hook.val Mine.rV) (YP:=Hook.says Mine.rV) (N:=20000) Mine.left Mine.rV.of Mine.rV.keeps (λs e=>xl_of s (and_eq_true_iff.mp e).1) XL.keeps (d:=Mine.H.rj) (kwd:=[]) Mine.H.d1 Mine.H.d2 Mine.H.d3 (λs e=>recFacts_of (and_eq_true_iff.mp e).2) (by rfl) said (by decide +kernel) ⟨rfl,rfl,rfl,rfl,rfl,by decide +kernel⟩ ?hw ?hc
 case hw=>w_witness2
 intro w z5 bT mg mb G Y fa o pm cd doc dV kV ho hd sS hD Ve hg args vals as Vf Vg Vh mr jD
 refine Ground.open G ?_
 intro T B D TE TW
 wrow_args Vf Vg Vh mr jD
 rename_i ns _ _ _ _ _ _ _ jm vs _ hL _ _ _ hI _ hc _
 refine Mine.O6 (Pr:=w.params) T Y ?_ Mine.J1 ?_ ?_ rfl hL hI ?_ rfl Ve (Mine.L.Vc (n:=0) λZ=>rfl) ?_
 ·kernel_rfl
 ·decide +kernel
 ·decide +kernel
 ·omega
 ·intro h' tk hk
  exact Mine.Vd hk hg (λZ=>rfl) (by with_unfolding_all rfl)
end
