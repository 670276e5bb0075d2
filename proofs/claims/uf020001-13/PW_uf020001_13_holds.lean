import PyProof.Rows.All
import Open.Line
import Open.Boot
import Open.Tree
import PyProof.Claim2
import PyProof.P3Statements
import PyProof.Methods
import PyProof.NoPylong
import PyProof.CodeObjX
import PyProof.Ends
import PyProof.Rows.TupIn
import PyProof.Rows.Own
import PyProof.Rows.PlainObj
import PyProof.Seq
import PyProof.Cells
import PyProof.TupleIter
import PyProof.PlainList
import PyProof.DictRoads
import PyProof.DictKinds
import PyProof.DictIter
import PyProof.DictRoadsH
import PyProof.EqKinds
import PyProof.DictTruth
import PyProof.ListMulRoad
import PyProof.EqAt
import PyProof.DictWalks
import PyProof.RaisesMany
import PyProof.RulesTry
import PyProof.RulesAs
import PyProof.CompFree
import PyProof.SliceSyntax
import PyProof.SliceList
import PyProof.Rows.TupMore
import KE.LcSums
import PyProof.MinMaxWalk
import PyProof.WalkInts
import PyProof.TupleOfSeq
import PyProof.Conv_int_bool
import PyProof.Rows.SortWalk
import PyProof.Rows.CallKwBuiltin
import PyProof.Rows.SetFrom
import PyProof.SetRoads
import PyProof.IsiNone
import KE.KSortAsk
import KE.KSortTup
import PyProof.Rows.SortShell
import PyProof.DictDisplay
import PyProof.ListRange
import PyProof.ListNew
import PyProof.Rows.TupDisplay
import PyProof.ObjNew
import PyProof.InstLoad
import PyProof.AssignAttr
import PyProof.Rows.PlainNoArg
import PyProof.Rows.Catch
import PyProof.ExcClass2
import PyProof.ExcAttrAll.ValueError
import PyProof.Rows.RuleN_isinstance
import PyProof.Rows.PlainStore
import PyProof.Rows.Nodes
import PySem.Challenge.RW_uf020001_13
set_option Elab.async false
set_option compiler.extract_closed false
set_option genSizeOfSpec false
set_option genSizeOf false
set_option genInjectivity false
set_option autoImplicit false
set_option linter.unusedVariables false
set_option linter.unusedSimpArgs false
set_option maxRecDepth 100000
set_option tactic.hygienic false
open Nat(le_trans lt_of_le_of_lt le_refl le_of_lt lt_of_lt_of_le ne_of_lt not_lt zero_le ne_of_gt le_add_right le_of_eq lt_trans zero_add add_le_add_left lt_succ_self le_of_succ_le add_le_add succ_le_succ le_succ add_comm mul_le_mul_left lt_or_ge sub_self add_le_add_right le_add_left le_of_lt_succ min_eq_left le_antisymm lt_irrefl succ_pos add_right_comm not_lt_zero lt_succ_of_le pow_le_pow_right le_total min_eq_right min_le_right add_assoc sub_le one_mul zero_mul mul_comm)
open List(length_map length_append mem_append getElem?_eq_getElem mem_cons_self mem_singleton mem_map append_nil mem_cons size_toArray mem_of_getElem? append_assoc getElem?_map replicate map_append mem_range length_range all_eq_true getD_eq_getElem?_getD length_cons nodup_cons length_set getElem?_eq_none map_cons mem_filter lookup_cons Perm map_map any_eq_true nodup_append nodup_nil length_nil length_take length_filter_le isEmpty_map getElem?_append_right eq_nil_of_length_eq_zero Pairwise getElem?_append_left getElem?_toArray ext_getElem? filter_cons not_mem_nil findSome?_cons any_cons drop_eq_nil_iff getElem?_range drop_zero foldl_cons countP_cons getElem?_nil drop_nil getElem?_set_self getElem?_set_ne length_drop contains_cons filter_nil sum_cons map_nil nil_append pairwise_cons take_nil find?_cons getElem?_inj forIn_cons filterMap_cons contains_iff_mem map_congr_left reverse_cons any_eq_false getElem_map take_append_drop isEmpty_iff filterMap ne_nil_of_mem flatMap_cons foldl_nil getElem_mem toArray nodup_range take_length flatMap_nil any_map all_append all_cons countP)
open Bool(and_eq_true_iff or_eq_true_iff not_eq_true' not_eq_false' or_eq_false_iff false_eq_true beq_comm decide_and toNat_le)
open PySem.Heap(get?_push_size get?_push_of_some ExtBut lt_size get?_update_self SameBut get?_update_other Ns)
open Int(ofNat ofNat_lt natCast_nonneg gcd ofNat_le toNat_natCast not_le natAbs_mul toNat_lt)
open Array(length_toList getElem?_toList)
open Option(isSome_iff_exists map_some map_eq_some_iff or_none isSome)
open Classical(byContradiction propDecidable)
namespace Mine
open PySem
inductive V where
 |none
 |bool (b:Bool)
 |int (i:Int)
 |str (s:Str)
 |aC (vs:List V)
 |ref (l:Nat)
 |fR
 deriving Inhabited
inductive aT where
 |list (vs:List V)
 |dict (ep:Nat) (es:List (Int×V))
 |cL (ep:Nat) (es:List ((Int×Bool)×V))
 |exc (k:Nat)
 |obj (t:Nat)
 |bT (fs:List (Option V))
 deriving Inhabited
noncomputable def uv:V->Bool
 |.none=>true
 |_=>false
noncomputable instance:DecidableEq V:=λa b=>propDecidable (a=b)
noncomputable instance:DecidableEq aT:=λa b=>propDecidable (a=b)
noncomputable abbrev Hp:=List aT
noncomputable abbrev aO:=List (Option V)
inductive Out where
 |next (ρ:aO) (h:Hp)
 |ret (v:V) (h:Hp)
inductive lX where|add|sub|mul|fdiv|mod|pow
 deriving DecidableEq
inductive lY where|eq|ne|lt|le|gt|ge|j8|gL
inductive Ty where|int|bool|list
inductive Bi where
 |len|nP (t:Ty)|any|max2|mP|tupleOf|wF|jF (m:Nat)|zh|lZ
inductive Me where
 |append|count|index
set_option genSizeOf true in
set_option genSizeOfSpec true in
inductive cX where
 |J (i:Nat)
 |aC (ts:List cX)
mutual
inductive E where
 |k (v:V)
 |J (i:Nat)
 |gk (j:Nat)
 |bin (op:lX) (a b:E)
 |neg (a:E)
 |not (a:E)
 |and (es:List E)
 |or (es:List E)
 |cmp (op:lY) (a b:E)
 |pf (op nQ:lY) (a b c:E)
 |isNone (y:Bool) (a:E)
 |aC (es:List E)
 |bX (es:List E)
 |aM (a i:E)
 |fG (a:E) (lo hi:Option E)
 |call (f:Nat) (es:List E)
 |bi (b:Bi) (es:List E)
 |c8 (m:Me) (a:E) (es:List E)
 |comp (nl:Nat) (elt:E) (t:cX) (it:It) (cs:List E)
 |listOf (e:E)
 |nR
 |l6
 |uw (a b:E)
 |bz (c a b:E)
 |attr (a:E) (i:Nat)
 |cx (f:Nat) (a:E) (es:List E)
 |new (f:Nat)
 |j9 (k:Option Nat) (a:E)
 |rev (a st:E)
inductive It where
 |of (e:E)
 |range (a b:E)
 |mQ (e:E)
end
inductive S where
 |expr (e:E)
 |aS (t:cX) (e:E)
 |ji (a i e:E)
 |setAttr (a:E) (i:Nat) (e:E)
 |ret (e:E)
 |bz (c:E) (a b:List S)
 |for (t:cX) (it:It) (body:List S)
 |while (c:E) (body:List S)
 |raise (k:Nat) (w:Str)
 |iX (r:Option cX) (e:E) (k i:Nat) (h:E)
noncomputable abbrev PQ:=V->Hp->Prop
structure Ct where
 call:Nat->List V->Hp->PQ->PQ->Prop
 exc:PQ
structure Fn where
 name:Str
 np:Nat
 nl:Nat
 body:List S
structure CK where
 kQ:List (Bool×Str)
 wG:List Str
 pg:List Str
 cls:Str
 bT:List Str
structure Sn where
 sc:Scope
 ns:List Str
 hd:Bool
namespace P
noncomputable abbrev iY:Nat:=0
noncomputable abbrev ux:Nat:=1
noncomputable abbrev qz:Nat:=2
noncomputable abbrev qA:Nat:=3
noncomputable abbrev zi:Nat:=4
noncomputable abbrev zj:Nat:=5
noncomputable abbrev zk:Nat:=6
noncomputable abbrev jG:Nat:=7
noncomputable abbrev sT:Nat:=8
noncomputable abbrev wH:Nat:=9
noncomputable abbrev qB:Nat:=10
noncomputable abbrev uy:Nat:=11
noncomputable abbrev wI:Nat:=12
noncomputable abbrev sU:Nat:=13
noncomputable abbrev wJ:Nat:=14
noncomputable abbrev zl:Nat:=15
noncomputable abbrev zm:Nat:=16
noncomputable abbrev zo:Nat:=17
noncomputable abbrev zp:Nat:=18
noncomputable abbrev zq:Nat:=19
noncomputable abbrev zr:Nat:=20
noncomputable abbrev zt:Nat:=21
noncomputable abbrev ph:Nat:=22
noncomputable abbrev ke:Nat:=23
noncomputable abbrev mR:Nat:=24
noncomputable abbrev wK:Nat:=25
noncomputable abbrev jj:Nat:=26
noncomputable abbrev sV:Nat:=28
noncomputable abbrev uz:Nat:=29
noncomputable abbrev zu:Nat:=30
noncomputable abbrev zv:Nat:=31
noncomputable abbrev sW:Nat:=32
noncomputable abbrev wL:Nat:=36
noncomputable abbrev uA:Nat:=37
noncomputable abbrev zw:Nat:=38
noncomputable abbrev zx:Nat:=39
noncomputable abbrev zy:Nat:=40
noncomputable abbrev uB:Nat:=41
noncomputable abbrev uC:Nat:=43
noncomputable abbrev uD:Nat:=44
noncomputable abbrev uE:Nat:=45
noncomputable abbrev pn:Nat:=46
noncomputable abbrev mS:Nat:=47
noncomputable abbrev uF:Nat:=48
noncomputable abbrev uG:Nat:=49
noncomputable abbrev pu:Nat:=50
noncomputable abbrev qC:Nat:=51
noncomputable abbrev qD:Nat:=52
noncomputable abbrev gA:Nat:=53
noncomputable abbrev sX:Nat:=54
noncomputable abbrev qE:Nat:=55
noncomputable abbrev wM:Nat:=56
noncomputable abbrev wN:Nat:=57
noncomputable abbrev pv:Nat:=58
noncomputable abbrev wO:Nat:=59
noncomputable abbrev wQ:Nat:=60
noncomputable abbrev wR:Nat:=61
noncomputable abbrev wU:Nat:=62
noncomputable abbrev l7:Nat:=64
noncomputable abbrev kR:Nat:=65
noncomputable abbrev qF:Nat:=66
noncomputable def JJ:List Str:=["people","person","day","born","parents","adopted","died"]
noncomputable def C6:List S:=
 [.aS (.aC [.J 3,.J 4,.J 5,.J 6]) (.aM (.J 0) (.J 1)),
  .ret (.and [(.cmp .le (.J 3) (.J 2)),(.or [(.isNone true (.J 6)),(.cmp .lt (.J 2) (.J 6))])])]
noncomputable def JK:List Str:=["people","person","day","born","parents","adopted","died"]
noncomputable def C7:List S:=
 [.aS (.aC [.J 3,.J 4,.J 5,.J 6]) (.aM (.J 0) (.J 1)),
  .bz (.and [(.isNone false (.J 5)),(.cmp .le (.aM (.J 5) (.k (.int 0))) (.J 2))])
  [.ret (.aM (.J 5) (.k (.int 1)))]
  [],
  .ret (.J 4)]
noncomputable def JL:List Str:=["people","person","day","found","child"]
noncomputable def C8:List S:=
 [.aS (.J 3) (.bX []),
  .for (.J 4) (.range (.k (.int 0)) (.bi .len [.J 0]))
  [.bz (.and [(.cmp .le (.aM (.aM (.J 0) (.J 4)) (.k (.int 0))) (.J 2)),(.cmp .j8 (.J 1) (.call ux [.J 0,.J 4,.J 2]))])
   [.expr (.c8 .append (.J 3) [.J 4])]
   []],
  .ret (.J 3)]
noncomputable def JM:List Str:=["people","person","day","child"]
noncomputable def C9:List S:=
 [.bz (.call iY [.J 0,.J 1,.J 2])
  [.ret (.k (.bool true))]
  [],
  .for (.J 3) (.of (.call qz [.J 0,.J 1,.J 2]))
  [.bz (.call qA [.J 0,.J 3,.J 2])
   [.ret (.k (.bool true))]
   []],
  .ret (.k (.bool false))]
noncomputable def JN:List Str:=["people","state","day","person","down","found"]
noncomputable def Dc:List S:=
 [.aS (.aC [.J 3,.J 4]) (.J 1),
  .aS (.J 5) (.comp 1 (.aC [.J 0,(.k (.bool true))]) (.J 0) (.of (.call qz [.J 0,.J 3,.J 2])) []),
  .bz (.not (.J 4))
  [.aS (.J 5) (.bin .add (.J 5) (.comp 1 (.aC [.J 0,(.k (.bool false))]) (.J 0) (.of (.call ux [.J 0,.J 3,.J 2])) []))]
  [],
  .ret (.J 5)]
noncomputable def JO:List Str:=["people","known","ways","day","found","state","other","way"]
noncomputable def Dd:List S:=
 [.aS (.J 4) .l6,
  .for (.J 5) (.of (.J 2))
  [.for (.J 6) (.of (.call zi [.J 0,.J 5,.J 3]))
   [.aS (.J 7) (.bin .add (.aM (.J 2) (.J 5)) (.bX [(.aM (.J 6) (.k (.int 0)))])),
    .bz (.and [(.cmp .gL (.J 6) (.J 1)),(.or [(.cmp .gL (.J 6) (.J 4)),(.cmp .lt (.J 7) (.aM (.J 4) (.J 6)))])])
    [.ji (.J 4) (.J 6) (.J 7)]
    []]],
  .ret (.J 4)]
noncomputable def JP:List Str:=["people","person","day","ways","known","heirs","state","heir"]
noncomputable def wV:List S:=
 [.aS (.J 3) (.uw (.aC [.J 1,(.k (.bool false))]) (.bX [.J 1])),
  .aS (.J 4) .l6,
  .aS (.J 5) .nR,
  .while (.and [(.cmp .eq (.J 5) .nR),(.cmp .ne (.J 3) .nR)])
  [.for (.J 6) (.of (.J 3))
   [.ji (.J 4) (.J 6) (.k (.bool true))],
   .aS (.J 3) (.call zj [.J 0,.J 4,.J 3,.J 2]),
   .for (.J 6) (.of (.J 3))
   [.aS (.J 7) (.aM (.J 6) (.k (.int 0))),
    .bz (.and [(.cmp .ne (.J 7) (.J 1)),(.call iY [.J 0,.J 7,.J 2]),(.or [(.cmp .gL (.J 7) (.J 5)),(.cmp .lt (.aM (.J 3) (.J 6)) (.aM (.J 5) (.J 7)))])])
    [.ji (.J 5) (.J 7) (.aM (.J 3) (.J 6))]
    []]],
  .ret (.comp 1 (.aC [.J 0,(.aM (.J 6) (.J 0))]) (.J 0) (.of (.bi .wF [(.listOf (.J 5))])) [])]
noncomputable def JQ:List Str:=["over","under","one","other","rest"]
noncomputable def zA:List S:=
 [.aS (.J 2) (.J 0),
  .aS (.J 3) (.J 1),
  .while (.cmp .gt (.J 3) (.k (.int 0)))
  [.aS (.J 4) (.bin .mod (.J 2) (.J 3)),
   .aS (.J 2) (.J 3),
   .aS (.J 3) (.J 4)],
  .ret (.aC [(.bin .fdiv (.J 0) (.J 2)),(.bin .fdiv (.J 1) (.J 2))])]
noncomputable def JR:List Str:=["one","other"]
noncomputable def De:List S:=
 [.ret (.call jG [(.bin .add (.bin .mul (.aM (.J 0) (.k (.int 0))) (.aM (.J 1) (.k (.int 1)))) (.bin .mul (.aM (.J 1) (.k (.int 0))) (.aM (.J 0) (.k (.int 1))))),(.bin .mul (.aM (.J 0) (.k (.int 1))) (.aM (.J 1) (.k (.int 1))))])]
noncomputable def JS:List Str:=["one","other"]
noncomputable def Df:List S:=
 [.ret (.call jG [(.bin .sub (.bin .mul (.aM (.J 0) (.k (.int 0))) (.aM (.J 1) (.k (.int 1)))) (.bin .mul (.aM (.J 1) (.k (.int 0))) (.aM (.J 0) (.k (.int 1))))),(.bin .mul (.aM (.J 0) (.k (.int 1))) (.aM (.J 1) (.k (.int 1))))])]
noncomputable def JT:List Str:=["one","other"]
noncomputable def Dg:List S:=
 [.ret (.call jG [(.bin .mul (.aM (.J 0) (.k (.int 0))) (.aM (.J 1) (.k (.int 0)))),(.bin .mul (.aM (.J 0) (.k (.int 1))) (.aM (.J 1) (.k (.int 1))))])]
noncomputable def JU:List Str:=["one","many"]
noncomputable def Dh:List S:=
 [.ret (.call jG [(.aM (.J 0) (.k (.int 0))),(.bin .mul (.aM (.J 0) (.k (.int 1))) (.J 1))])]
noncomputable def JV:List Str:=["people","person","children","day","takers","rows","child","share","heir","piece","line"]
noncomputable def Di:List S:=
 [.aS (.J 4) (.comp 1 (.J 0) (.J 0) (.of (.J 2)) [(.call qA [.J 1,.J 0,.J 4])]),
  .aS (.J 5) (.bX []),
  .for (.J 6) (.of (.J 4))
  [.aS (.J 7) (.call uy [(.gk 0),(.bi .len [.J 4])]),
   .bz (.call iY [.J 0,.J 6,.J 3])
   [.expr (.c8 .append (.J 5) [(.aC [.J 6,.J 7,(.bX [.J 1,.J 6])])])]
   [.for (.aC [.J 8,.J 9,.J 10]) (.of (.call sU [.J 0,.J 6,.J 3]))
    [.expr (.c8 .append (.J 5) [(.aC [.J 8,(.call qB [.J 7,.J 9]),(.bin .add (.bX [.J 1]) (.J 10))])])]]],
  .ret (.J 5)]
noncomputable def JW:List Str:=["people","person","day"]
noncomputable def Dj:List S:=
 [.ret (.call wI [.J 0,.J 1,(.call qz [.J 0,.J 1,.J 2]),.J 2])]
noncomputable def JX:List Str:=["people","parent","person","day"]
noncomputable def Dk:List S:=
 [.ret (.comp 1 (.J 0) (.J 0) (.of (.call qz [.J 0,.J 1,.J 3])) [(.cmp .ne (.J 0) (.J 3))])]
noncomputable def JY:List Str:=["people","person","day","takers","parent","others","rows","share","heir","piece","line"]
noncomputable def Dl:List S:=
 [.aS (.J 3) (.bX []),
  .for (.J 4) (.of (.call ux [.J 0,.J 1,.J 2]))
  [.aS (.J 5) (.call wJ [.J 0,.J 4,.J 1,.J 2]),
   .bz (.or [(.call iY [.J 0,.J 4,.J 2]),(.bi .any [(.comp 1 (.call qA [.J 1,.J 0,.J 3]) (.J 0) (.of (.J 5)) [])])])
   [.expr (.c8 .append (.J 3) [.J 4])]
   []],
  .aS (.J 6) (.bX []),
  .for (.J 4) (.of (.J 3))
  [.aS (.J 7) (.call uy [(.gk 0),(.bi .len [.J 3])]),
   .bz (.call iY [.J 0,.J 4,.J 2])
   [.expr (.c8 .append (.J 6) [(.aC [.J 4,.J 7,(.bX [.J 1,.J 4])])])]
   [.for (.aC [.J 8,.J 9,.J 10]) (.of (.call wI [.J 0,.J 4,(.call wJ [.J 0,.J 4,.J 1,.J 2]),.J 2]))
    [.expr (.c8 .append (.J 6) [(.aC [.J 8,(.call qB [.J 7,.J 9]),(.bin .add (.bX [.J 1]) (.J 10))])])]]],
  .ret (.J 6)]
noncomputable def JZ:List Str:=["roll","person","day","one","other","begun"]
noncomputable def Dm:List S:=
 [.for (.aC [.J 3,.J 4,.J 5]) (.of (.aM (.J 0) (.k (.int 1))))
  [.bz (.and [(.cmp .le (.J 5) (.J 2)),(.cmp .eq (.J 3) (.J 1)),(.call iY [(.aM (.J 0) (.k (.int 0))),.J 4,.J 2])])
   [.ret (.J 4)]
   [],
   .bz (.and [(.cmp .le (.J 5) (.J 2)),(.cmp .eq (.J 4) (.J 1)),(.call iY [(.aM (.J 0) (.k (.int 0))),.J 3,.J 2])])
   [.ret (.J 3)]
   []],
  .ret (.k .none)]
noncomputable def J0:List Str:=["roll","person","day","latest","found","one","told","gifts"]
noncomputable def Dn:List S:=
 [.aS (.J 3) (.neg (.k (.int 1))),
  .aS (.J 4) (.aC []),
  .for (.aC [.J 5,.J 6,.J 7]) (.of (.aM (.J 0) (.k (.int 2))))
  [.bz (.and [(.cmp .eq (.J 5) (.J 1)),(.pf .le .le (.J 3) (.J 6) (.J 2))])
   [.aS (.J 3) (.J 6),
    .aS (.J 4) (.J 7)]
   []],
  .ret (.J 4)]
noncomputable def J1:List Str:=["people","person","gifts","day","rows","total","named","piece","heir","share","line"]
noncomputable def Do:List S:=
 [.aS (.J 4) (.bX []),
  .aS (.J 5) (.gk 1),
  .for (.aC [.J 6,.J 7]) (.of (.J 2))
  [.bz (.call iY [.J 0,.J 6,.J 3])
   [.expr (.c8 .append (.J 4) [(.aC [.J 6,.J 7,(.k (.str "will")),(.bX [.J 1,.J 6])])]),
    .aS (.J 5) (.call sT [.J 5,.J 7])]
   [.bz (.bi .any [(.comp 1 (.call qA [.J 1,.J 0,.J 4]) (.J 0) (.of (.call qz [.J 0,.J 6,.J 3])) [])])
    [.for (.aC [.J 8,.J 9,.J 10]) (.of (.call sU [.J 0,.J 6,.J 3]))
     [.expr (.c8 .append (.J 4) [(.aC [.J 8,(.call qB [.J 7,.J 9]),(.k (.str "will")),(.bin .add (.bX [.J 1]) (.J 10))])])],
     .aS (.J 5) (.call sT [.J 5,.J 7])]
    []]],
  .ret (.aC [.J 4,.J 5])]
noncomputable def J2:List Str:=["people","person","day","rows","near"]
noncomputable def Dp:List S:=
 [.aS (.J 3) (.call sU [.J 0,.J 1,.J 2]),
  .bz (.cmp .ne (.J 3) (.bX []))
  [.ret (.aC [(.k (.str "line")),.J 3])]
  [],
  .aS (.J 3) (.call zl [.J 0,.J 1,.J 2]),
  .bz (.cmp .ne (.J 3) (.bX []))
  [.ret (.aC [(.k (.str "parents")),.J 3])]
  [],
  .aS (.J 4) (.call zk [.J 0,.J 1,.J 2]),
  .ret (.aC [(.k (.str "degree")),(.comp 2 (.aC [.J 0,(.call uy [(.gk 0),(.bi .len [.J 6])]),.J 1]) (.aC [.J 0,.J 1]) (.of (.J 4)) [])])]
noncomputable def J3:List Str:=["how","kin"]
noncomputable def Dq:List S:=
 [.bz (.cmp .eq (.J 1) (.bX []))
  [.ret (.gk 0)]
  [],
  .bz (.cmp .eq (.J 0) (.k (.str "line")))
  [.ret (.call jG [(.k (.int 1)),(.k (.int 4))])]
  [],
  .bz (.cmp .eq (.J 0) (.k (.str "parents")))
  [.ret (.call jG [(.k (.int 1)),(.k (.int 2))])]
  [],
  .ret (.call jG [(.k (.int 3)),(.k (.int 4))])]
noncomputable def J4:List Str:=["roll","person","people","day","rows","total","rest","how","kin","spouse","piece","heir","share","line"]
noncomputable def zB:List S:=
 [.aS (.J 2) (.aM (.J 0) (.k (.int 0))),
  .aS (.J 3) (.aM (.aM (.J 2) (.J 1)) (.k (.int 3))),
  .bz (.isNone true (.J 3))
  [.raise 7 "a person who is not dead"]
  [],
  .aS (.aC [.J 4,.J 5]) (.call zp [.J 2,.J 1,(.call zo [.J 0,.J 1,.J 3]),.J 3]),
  .aS (.J 6) (.call wH [(.gk 0),.J 5]),
  .bz (.cmp .eq (.J 6) (.gk 1))
  [.ret (.J 4)]
  [],
  .aS (.aC [.J 7,.J 8]) (.call zq [.J 2,.J 1,.J 3]),
  .aS (.J 9) (.call zm [.J 0,.J 1,.J 3]),
  .bz (.and [(.isNone true (.J 9)),(.cmp .eq (.J 8) (.bX []))])
  [.ret (.bin .add (.J 4) (.bX [(.aC [(.k .none),.J 6,(.k (.str "town")),(.bX [.J 1])])]))]
  [],
  .bz (.isNone false (.J 9))
  [.aS (.J 10) (.call qB [.J 6,(.call zr [.J 7,.J 8])]),
   .expr (.c8 .append (.J 4) [(.aC [.J 9,.J 10,(.k (.str "spouse")),(.bX [.J 1,.J 9])])]),
   .aS (.J 6) (.call wH [.J 6,.J 10])]
  [],
  .for (.aC [.J 11,.J 12,.J 13]) (.of (.J 8))
  [.expr (.c8 .append (.J 4) [(.aC [.J 11,(.call qB [.J 6,.J 12]),.J 7,.J 13])])],
  .ret (.J 4)]
noncomputable def J5:List Str:=["thing","low","high"]
noncomputable def Dr:List S:=
 [.ret (.and [(.bi (.nP .int) [.J 0]),(.not (.bi (.nP .bool) [.J 0])),(.pf .le .le (.J 1) (.J 0) (.J 2))])]
noncomputable def J6:List Str:=["day"]
noncomputable def Ds:List S:=
 [.bz (.not (.call ph [.J 0,(.k (.int 0)),(.gk 2)]))
  [.raise 1 "no day"]
  []]
noncomputable def J7:List Str:=["persons"]
noncomputable def Dt:List S:=
 [.ret (.cmp .ne (.bi .lZ [.J 0]) (.bi .len [.J 0]))]
noncomputable def J8:List Str:=["rows"]
noncomputable def zC:List S:=
 [.ret (.comp 4 (.aC [.J 0,.J 1,.J 2,(.listOf (.J 3))]) (.aC [.J 0,.J 1,.J 2,.J 3]) (.of (.J 0)) [])]
noncomputable def J9:List Str:=["_law_script","_law_k"]
noncomputable def Du:List S:=
 [.bz (.cmp .lt (.J 1) (.bi .len [.J 0]))
  [.ret (.aM (.J 0) (.J 1))]
  [],
  .ret (.k (.int 0))]
noncomputable def Ka:List Str:=["_law_cell","_law_many","_law_found","_law_number","_law_k"]
noncomputable def zD:List S:=
 [.aS (.J 2) (.bX []),
  .aS (.J 3) (.bin .mod (.J 0) (.k (.int 2147483647))),
  .for (.J 4) (.range (.k (.int 0)) (.J 1))
  [.aS (.J 3) (.bin .mod (.bin .add (.bin .add (.bin .mul (.J 3) (.k (.int 48271))) (.k (.int 11))) (.J 4)) (.k (.int 2147483647))),
   .expr (.c8 .append (.J 2) [.J 3])],
  .ret (.J 2)]
noncomputable def Kb:List Str:=["_law_elders","_law_y","_law_fewest","_law_one","_law_other"]
noncomputable def zE:List S:=
 [.bz (.or [(.cmp .eq (.J 0) (.bX [])),(.and [(.cmp .eq (.J 2) (.k (.int 0))),(.cmp .eq (.bin .mod (.bin .fdiv (.J 1) (.k (.int 7))) (.k (.int 5))) (.k (.int 0)))])])
  [.ret (.aC [])]
  [],
  .aS (.J 3) (.aM (.J 0) (.bin .mod (.J 1) (.bi .len [.J 0]))),
  .aS (.J 4) (.aM (.J 0) (.bin .mod (.bin .fdiv (.J 1) (.k (.int 60))) (.bi .len [.J 0]))),
  .bz (.or [(.cmp .eq (.J 3) (.J 4)),(.cmp .eq (.bin .mod (.bin .fdiv (.J 1) (.k (.int 3))) (.k (.int 4))) (.k (.int 0)))])
  [.ret (.aC [.J 3])]
  [],
  .ret (.aC [.J 3,.J 4])]
noncomputable def Kc:List Str:=["_law_cell","_law_many","_law_people_here","_law_scale","_law_house","_law_k","_law_x","_law_born","_law_elders","_law_parents_here","_law_died"]
noncomputable def Dv:List S:=
 [.aS (.J 2) (.bX []),
  .aS (.J 3) (.aM (.bX [(.k (.int 1)),(.k (.int 1)),(.k (.int 1)),(.k (.int 600))]) (.bin .mod (.J 0) (.k (.int 4)))),
  .aS (.J 4) (.bX [(.aC []),(.aC []),(.aC [(.k (.int 1)),(.k (.int 0))]),(.aC [(.k (.int 1)),(.k (.int 0))]),(.aC [(.k (.int 2))]),(.aC [(.k (.int 3))]),(.aC []),(.aC [(.k (.int 5))]),(.aC [(.k (.int 3))]),(.aC [(.k (.int 1))]),(.aC []),(.aC [(.k (.int 2))])]),
  .for (.aC [.J 5,.J 6]) (.mQ (.call sV [(.bin .fdiv (.J 0) (.k (.int 4))),.J 1]))
  [.aS (.J 7) (.bin .mul (.bin .add (.bin .mul (.k (.int 5)) (.bin .fdiv (.J 5) (.k (.int 3)))) (.bin .mod (.J 6) (.k (.int 11)))) (.J 3)),
   .aS (.J 8) (.comp 1 (.J 0) (.J 0) (.range (.k (.int 0)) (.J 5)) [(.cmp .lt (.aM (.aM (.J 3) (.J 0)) (.k (.int 0))) (.J 8))]),
   .aS (.J 9) (.call uz [(.fG (.J 8) (some (.neg (.k (.int 7)))) none),(.bin .fdiv (.J 6) (.k (.int 11))),(.k (.int 0))]),
   .bz (.and [(.cmp .gt (.J 5) (.k (.int 0))),(.cmp .eq (.bin .mod (.bin .fdiv (.J 6) (.k (.int 13))) (.k (.int 3))) (.k (.int 0))),(.cmp .eq (.comp 1 (.J 0) (.J 0) (.of (.aM (.aM (.J 2) (.bin .sub (.J 5) (.k (.int 1)))) (.k (.int 1)))) [(.cmp .gL (.J 0) (.J 9))]) (.bX []))])
   [.aS (.J 9) (.aM (.aM (.J 2) (.bin .sub (.J 5) (.k (.int 1)))) (.k (.int 1)))]
   [],
   .bz (.and [(.cmp .eq (.bin .mod (.bin .fdiv (.J 0) (.k (.int 4))) (.k (.int 3))) (.k (.int 0))),(.cmp .lt (.J 5) (.k (.int 12)))])
   [.aS (.J 7) (.bin .mul (.bin .add (.bin .mul (.k (.int 12)) (.bin .fdiv (.J 5) (.k (.int 2)))) (.bin .mod (.J 6) (.k (.int 11)))) (.J 3)),
    .aS (.J 9) (.aM (.J 4) (.J 5))]
   [],
   .aS (.J 10) (.k .none),
   .bz (.cmp .gt (.bin .mod (.bin .fdiv (.J 6) (.k (.int 500))) (.aM (.bX [(.k (.int 4)),(.k (.int 9))]) (.bin .mod (.bin .fdiv (.J 0) (.k (.int 12))) (.k (.int 2))))) (.k (.int 0)))
   [.aS (.J 10) (.bin .add (.J 7) (.bin .mul (.bin .mod (.bin .fdiv (.J 6) (.k (.int 1500))) (.k (.int 40))) (.J 3)))]
   [],
   .expr (.c8 .append (.J 2) [(.aC [.J 7,.J 9,(.k .none),.J 10])])],
  .ret (.J 2)]
noncomputable def Kd:List Str:=["_law_people_here","_law_cell","_law_found","_law_k","_law_x","_law_born","_law_parents_here","_law_adopted","_law_died","_law_elders","_law_day"]
noncomputable def Dw:List S:=
 [.aS (.J 2) (.listOf (.J 0)),
  .for (.aC [.J 3,.J 4]) (.mQ (.call sV [.J 1,(.bi .len [.J 0])]))
  [.aS (.aC [.J 5,.J 6,.J 7,.J 8]) (.aM (.J 0) (.J 3)),
   .aS (.J 9) (.comp 1 (.J 0) (.J 0) (.range (.k (.int 0)) (.bi .len [.J 0])) [(.cmp .lt (.aM (.aM (.J 1) (.J 0)) (.k (.int 0))) (.J 6))]),
   .aS (.J 10) (.bin .add (.J 5) (.bin .mod (.J 4) (.k (.int 30)))),
   .bz (.and [(.cmp .eq (.bin .mod (.bin .fdiv (.J 4) (.k (.int 30))) (.k (.int 4))) (.k (.int 0))),(.cmp .ne (.J 9) (.bX [])),(.or [(.isNone true (.J 8)),(.cmp .lt (.J 10) (.J 8))])])
   [.ji (.J 2) (.J 3) (.aC [.J 5,.J 6,(.aC [.J 10,(.call uz [.J 9,(.bin .fdiv (.J 4) (.k (.int 120))),(.k (.int 1))])]),.J 8])]
   []],
  .ret (.J 2)]
noncomputable def Ke:List Str:=["_law_people_here","_law_person","_law_day"]
noncomputable def Dx:List S:=
 [.bz (.cmp .lt (.J 2) (.aM (.aM (.J 0) (.J 1)) (.k (.int 0))))
  [.ret (.k (.bool false))]
  [],
  .ret (.or [(.isNone true (.aM (.aM (.J 0) (.J 1)) (.k (.int 3)))),(.cmp .gt (.aM (.aM (.J 0) (.J 1)) (.k (.int 3))) (.J 2))])]
noncomputable def Kf:List Str:=["_law_people_here","_law_marriage","_law_ends_here"]
noncomputable def zF:List S:=
 [.aS (.J 2) (.comp 1 (.aM (.aM (.J 1) (.J 0)) (.k (.int 3))) (.J 0) (.of (.fG (.J 1) none (some (.k (.int 2))))) [(.isNone false (.aM (.aM (.J 1) (.J 0)) (.k (.int 3))))]),
  .ret (.bi .mP [.J 2,(.bin .pow (.k (.int 10)) (.k (.int 9)))])]
noncomputable def Kg:List Str:=["_law_people_here","_law_one","_law_other"]
noncomputable def Dy:List S:=
 [.ret (.and [(.cmp .gt (.call wL [.J 0,.J 1]) (.aM (.J 2) (.k (.int 2)))),(.cmp .gt (.call wL [.J 0,.J 2]) (.aM (.J 1) (.k (.int 2))))])]
noncomputable def Kh:List Str:=["_law_people_here","_law_cell","_law_many","_law_found","_law_x","_law_one","_law_other","_law_day","_law_new","_law_fits","_law_marriage"]
noncomputable def Dz:List S:=
 [.aS (.J 3) (.bX []),
  .for (.J 4) (.of (.call sV [.J 1,.J 2]))
  [.aS (.J 5) (.bin .mod (.J 4) (.bi .len [.J 0])),
   .aS (.J 6) (.bin .mod (.bin .fdiv (.J 4) (.k (.int 60))) (.bi .len [.J 0])),
   .aS (.J 7) (.bin .add (.bi .max2 [(.aM (.aM (.J 0) (.J 5)) (.k (.int 0))),(.aM (.aM (.J 0) (.J 6)) (.k (.int 0)))]) (.bin .mod (.bin .fdiv (.J 4) (.k (.int 3600))) (.k (.int 40)))),
   .aS (.J 8) (.aC [.J 5,.J 6,.J 7]),
   .aS (.J 9) (.and [(.cmp .ne (.J 5) (.J 6)),(.call sW [.J 0,.J 5,.J 7]),(.call sW [.J 0,.J 6,.J 7])]),
   .for (.J 10) (.of (.J 3))
   [.bz (.or [(.cmp .j8 (.J 5) (.fG (.J 10) none (some (.k (.int 2))))),(.cmp .j8 (.J 6) (.fG (.J 10) none (some (.k (.int 2)))))])
    [.aS (.J 9) (.and [.J 9,(.not (.call uA [.J 0,.J 8,.J 10]))])]
    []],
   .bz (.J 9)
   [.expr (.c8 .append (.J 3) [.J 8])]
   []],
  .ret (.J 3)]
noncomputable def Ki:List Str:=["_law_people_here","_law_person","_law_x","_law_named","_law_k","_law_one","_law_over","_law_more"]
noncomputable def DA:List S:=
 [.aS (.J 3) (.bX []),
  .for (.J 4) (.range (.k (.int 0)) (.bin .add (.k (.int 1)) (.bin .mod (.J 2) (.aM (.bX [(.k (.int 3)),(.k (.int 3)),(.k (.int 10))]) (.bin .mod (.bin .fdiv (.J 2) (.k (.int 30))) (.k (.int 3)))))))
  [.aS (.J 5) (.bin .mod (.bin .add (.bin .fdiv (.J 2) (.k (.int 90))) (.bin .mul (.J 4) (.bin .add (.k (.int 1)) (.bin .mod (.bin .fdiv (.J 2) (.k (.int 540))) (.k (.int 7)))))) (.bi .len [.J 0])),
   .bz (.and [(.cmp .ne (.J 5) (.J 1)),(.cmp .gL (.J 5) (.J 3))])
   [.expr (.c8 .append (.J 3) [.J 5])]
   []],
  .aS (.J 6) (.bin .add (.k (.int 1)) (.bin .mod (.bin .fdiv (.J 2) (.k (.int 3780))) (.k (.int 3)))),
  .aS (.J 7) (.aM (.bX [(.bin .mod (.bin .fdiv (.J 2) (.k (.int 11340))) (.k (.int 4))),(.bin .mod (.bin .fdiv (.J 2) (.k (.int 11340))) (.k (.int 900)))]) (.bin .mod (.bin .fdiv (.J 2) (.k (.int 7))) (.k (.int 2)))),
  .ret (.comp 1 (.aC [.J 0,.J 7,(.bin .add (.bin .mul (.J 7) (.bi .len [.J 4])) (.J 8))]) (.J 0) (.of (.J 3)) [])]
noncomputable def Kj:List Str:=["_law_people_here","_law_cell","_law_many","_law_found","_law_x","_law_person","_law_day","_law_gifts_here"]
noncomputable def DB:List S:=
 [.aS (.J 3) (.bX []),
  .for (.J 4) (.of (.call sV [.J 1,.J 2]))
  [.aS (.J 5) (.bin .mod (.J 4) (.bi .len [.J 0])),
   .aS (.J 6) (.bin .add (.aM (.aM (.J 0) (.J 5)) (.k (.int 0))) (.bin .mod (.bin .fdiv (.J 4) (.k (.int 60))) (.k (.int 30)))),
   .aS (.J 7) (.call zx [.J 0,.J 5,(.bin .fdiv (.J 4) (.k (.int 1800)))]),
   .bz (.and [(.cmp .ne (.J 7) (.bX [])),(.or [(.isNone true (.aM (.aM (.J 0) (.J 5)) (.k (.int 3)))),(.cmp .le (.J 6) (.aM (.aM (.J 0) (.J 5)) (.k (.int 3))))])])
   [.expr (.c8 .append (.J 3) [(.aC [.J 5,.J 6,(.bi .tupleOf [(.comp 3 (.aC [.J 0,(.call uB [.J 1,.J 2])]) (.aC [.J 0,.J 1,.J 2]) (.of (.J 7)) [])])])])]
   []],
  .ret (.J 3)]
noncomputable def Kk:List Str:=["_law_over","_law_under","_law_a","_law_b","_law_c"]
noncomputable def DC:List S:=
 [.aS (.J 2) (.J 0),
  .aS (.J 3) (.J 1),
  .while (.cmp .gt (.J 3) (.k (.int 0)))
  [.aS (.J 4) (.bin .mod (.J 2) (.J 3)),
   .aS (.J 2) (.J 3),
   .aS (.J 3) (.J 4)],
  .ret (.aC [(.bin .fdiv (.J 0) (.J 2)),(.bin .fdiv (.J 1) (.J 2))])]
noncomputable def Kl:List Str:=["_law_script","_law_most","_law_many","_law_people_here","_law_weddings_here"]
noncomputable def DD:List S:=
 [.aS (.J 2) (.bin .add (.k (.int 1)) (.bin .mod (.call jj [.J 0,(.k (.int 0))]) (.J 1))),
  .aS (.J 3) (.call zv [(.call zu [(.call jj [.J 0,(.k (.int 1))]),.J 2]),(.call jj [.J 0,(.k (.int 2))])]),
  .aS (.J 4) (.call zw [.J 3,(.call jj [.J 0,(.k (.int 3))]),(.bin .mod (.bin .fdiv (.call jj [.J 0,(.k (.int 0))]) (.k (.int 12))) (.k (.int 13)))]),
  .ret (.aC [.J 3,.J 4,(.call zy [.J 3,(.call jj [.J 0,(.k (.int 4))]),(.bin .mod (.bin .fdiv (.call jj [.J 0,(.k (.int 0))]) (.k (.int 156))) (.k (.int 9)))])])]
noncomputable def Km:List Str:=["_law_people_here"]
noncomputable def zG:List S:=
 [.ret (.comp 1 (.J 0) (.J 0) (.range (.k (.int 0)) (.bi .len [.J 0])) [(.isNone false (.aM (.aM (.J 1) (.J 0)) (.k (.int 3))))])]
noncomputable def Ko:List Str:=["_law_e","_law_told"]
noncomputable def zH:List S:=
 [.aS (.J 1) (.bX [(.j9 (some 0) (.J 0)),(.j9 (some 1) (.J 0)),(.j9 (some 2) (.J 0)),(.j9 (some 3) (.J 0))]),
  .aS (.J 1) (.bin .add (.J 1) (.bX [(.j9 (some 4) (.J 0)),(.j9 (some 5) (.J 0)),(.j9 (some 6) (.J 0)),(.j9 (some 7) (.J 0))])),
  .bz (.or [(.cmp .ne (.c8 .count (.J 1) [(.k (.bool true))]) (.k (.int 1))),(.not (.j9 none (.J 0)))])
  [.ret (.k (.str "unlike"))]
  [],
  .ret (.aM (.bX [(.k (.str "person")),(.k (.str "day")),(.k (.str "parents")),(.k (.str "match")),(.k (.str "will")),(.k (.str "again")),(.k (.str "full")),(.k (.str "dead"))]) (.c8 .index (.J 1) [(.k (.bool true))]))]
noncomputable def Kq:List Str:=["_law_book","_law_deed"]
noncomputable def DE:List S:=
 [.bz (.cmp .eq (.aM (.J 1) (.k (.int 0))) (.k (.str "born")))
  [.ret (.cx wM (.J 0) [(.aM (.J 1) (.k (.int 1))),(.aM (.J 1) (.k (.int 2)))])]
  [],
  .bz (.cmp .eq (.aM (.J 1) (.k (.int 0))) (.k (.str "adopted")))
  [.ret (.cx wN (.J 0) [(.aM (.J 1) (.k (.int 1))),(.aM (.J 1) (.k (.int 2))),(.aM (.J 1) (.k (.int 3)))])]
  [],
  .bz (.cmp .eq (.aM (.J 1) (.k (.int 0))) (.k (.str "married")))
  [.ret (.cx wO (.J 0) [(.aM (.J 1) (.k (.int 1))),(.aM (.J 1) (.k (.int 2))),(.aM (.J 1) (.k (.int 3)))])]
  [],
  .bz (.cmp .eq (.aM (.J 1) (.k (.int 0))) (.k (.str "died")))
  [.ret (.cx wQ (.J 0) [(.aM (.J 1) (.k (.int 1))),(.aM (.J 1) (.k (.int 2)))])]
  [],
  .ret (.cx wU (.J 0) [(.aM (.J 1) (.k (.int 1))),(.aM (.J 1) (.k (.int 2))),(.aM (.J 1) (.k (.int 3)))])]
noncomputable def Kr:List Str:=["_law_book","_law_deed","_law_found","_law_e"]
noncomputable def DF:List S:=
 [.iX (some (.J 2)) (.call pn [.J 0,.J 1]) 8 3 (.aC [(.call uE [.J 3]),(.k .none)]),
  .ret (.aC [(.k (.str "")),.J 2])]
noncomputable def Ks:List Str:=["_law_roll_here","_law_people_here","_law_deeds_here","_law_k","_law_one","_law_day","_law_gifts_here"]
noncomputable def qG:List S:=
 [.aS (.J 1) (.aM (.J 0) (.k (.int 0))),
  .aS (.J 2) (.comp 1 (.aC [(.k (.str "born")),(.aM (.J 0) (.k (.int 0))),(.listOf (.aM (.J 0) (.k (.int 1))))]) (.J 0) (.of (.J 1)) []),
  .aS (.J 2) (.bin .add (.J 2) (.comp 1 (.aC [(.k (.str "died")),.J 0,(.aM (.aM (.J 2) (.J 0)) (.k (.int 3)))]) (.J 0) (.range (.k (.int 0)) (.bi .len [.J 1])) [(.isNone false (.aM (.aM (.J 2) (.J 0)) (.k (.int 3))))])),
  .for (.J 3) (.range (.k (.int 0)) (.bi .len [.J 1]))
  [.bz (.isNone false (.aM (.aM (.J 1) (.J 3)) (.k (.int 2))))
   [.expr (.c8 .append (.J 2) [(.aC [(.k (.str "adopted")),.J 3,(.aM (.aM (.aM (.J 1) (.J 3)) (.k (.int 2))) (.k (.int 0))),(.listOf (.aM (.aM (.aM (.J 1) (.J 3)) (.k (.int 2))) (.k (.int 1))))])])]
   []],
  .aS (.J 2) (.bin .add (.J 2) (.comp 3 (.aC [(.k (.str "married")),.J 0,.J 1,.J 2]) (.aC [.J 0,.J 1,.J 2]) (.of (.aM (.J 0) (.k (.int 1)))) [])),
  .for (.aC [.J 4,.J 5,.J 6]) (.of (.aM (.J 0) (.k (.int 2))))
  [.expr (.c8 .append (.J 2) [(.aC [(.k (.str "will")),.J 4,.J 5,(.comp 2 (.aC [.J 0,(.aM (.J 1) (.k (.int 0))),(.aM (.J 1) (.k (.int 1)))]) (.aC [.J 0,.J 1]) (.of (.J 6)) [])])])],
  .ret (.J 2)]
noncomputable def Kt:List Str:=["_law_roll_here","_law_wills_here","_law_one"]
noncomputable def DG:List S:=
 [.aS (.J 1) (.bX []),
  .for (.J 2) (.of (.aM (.J 0) (.k (.int 2))))
  [.bz (.cmp .gL (.fG (.J 2) none (some (.k (.int 2)))) (.comp 1 (.fG (.J 0) none (some (.k (.int 2)))) (.J 0) (.of (.J 1)) []))
   [.expr (.c8 .append (.J 1) [.J 2])]
   []],
  .ret (.aC [(.aM (.J 0) (.k (.int 0))),(.aM (.J 0) (.k (.int 1))),.J 1])]
noncomputable def Ku:List Str:=["_law_book","_law_deeds_here","_law_left","_law_deed","_law_told"]
noncomputable def DH:List S:=
 [.aS (.J 2) (.bX []),
  .for (.J 3) (.of (.J 1))
  [.aS (.J 4) (.aM (.call mS [.J 0,.J 3]) (.k (.int 0))),
   .bz (.and [(.cmp .eq (.J 4) (.k (.str "again"))),(.cmp .eq (.aM (.J 3) (.k (.int 0))) (.k (.str "married")))])
   [.expr (.c8 .append (.J 2) [.J 3])]
   [.bz (.cmp .ne (.J 4) (.k (.str "")))
    [.ret (.k (.bool false))]
    []]],
  .for (.J 3) (.of (.J 2))
  [.bz (.cmp .ne (.aM (.call mS [.J 0,.J 3]) (.k (.int 0))) (.k (.str "")))
   [.ret (.k (.bool false))]
   []],
  .ret (.k (.bool true))]
noncomputable def Kv:List Str:=["_law_script","_law_roll_here","_law_deeds_here","_law_many","_law_others","_law_at","_law_turned","_law_one","_law_other","_law_person"]
noncomputable def DI:List S:=
 [.aS (.J 1) (.call uG [(.call uC [.J 0,(.k (.int 9))])]),
  .aS (.J 2) (.call uF [.J 1]),
  .aS (.J 3) (.bi .len [(.aM (.J 1) (.k (.int 0)))]),
  .aS (.J 4) (.fG (.J 2) (some (.J 3)) none),
  .aS (.J 5) (.bin .mod (.bin .fdiv (.call jj [.J 0,(.k (.int 5))]) (.k (.int 2))) (.bin .add (.bi .len [.J 4]) (.k (.int 1)))),
  .aS (.J 6) (.bin .add (.fG (.J 4) (some (.J 5)) none) (.fG (.J 4) none (some (.J 5)))),
  .bz (.cmp .eq (.bin .mod (.call jj [.J 0,(.k (.int 5))]) (.k (.int 2))) (.k (.int 1)))
  [.aS (.J 6) (.rev (.J 6) (.neg (.k (.int 1))))]
  [],
  .aS (.J 7) (.new qD),
  .aS (.J 8) (.new qD),
  .bz (.or [(.not (.call pu [.J 7,.J 2])),(.not (.call pu [.J 8,(.bin .add (.fG (.J 2) none (some (.J 3))) (.J 6))]))])
  [.ret (.k (.bool false))]
  [],
  .bz (.or [(.cmp .ne (.cx l7 (.J 7) []) (.J 1)),(.cmp .ne (.aM (.cx l7 (.J 8) []) (.k (.int 0))) (.aM (.J 1) (.k (.int 0)))),(.cmp .ne (.cx kR (.J 8) []) (.cx kR (.J 7) []))])
  [.ret (.k (.bool false))]
  [],
  .bz (.or [(.cmp .ne (.bi (.jF 2) [(.aM (.cx l7 (.J 8) []) (.k (.int 1)))]) (.bi (.jF 2) [(.aM (.J 1) (.k (.int 1)))])),(.cmp .ne (.bi (.jF 1) [(.aM (.cx l7 (.J 8) []) (.k (.int 2)))]) (.bi (.jF 1) [(.aM (.J 1) (.k (.int 2)))]))])
  [.ret (.k (.bool false))]
  [],
  .for (.J 9) (.of (.cx kR (.J 7) []))
  [.bz (.cmp .ne (.cx qF (.J 7) [.J 9]) (.cx qF (.J 8) [.J 9]))
   [.ret (.k (.bool false))]
   []],
  .ret (.cmp .eq (.cx kR (.J 7) []) (.call uD [(.aM (.J 1) (.k (.int 0)))]))]
noncomputable def Kw:List Str:=["self"]
noncomputable def zI:List S:=
 [.setAttr (.J 0) 0 (.bX []),
  .setAttr (.J 0) 1 (.bX []),
  .setAttr (.J 0) 2 (.bX []),
  .setAttr (.J 0) 3 .nR,
  .setAttr (.J 0) 4 (.bX [])]
noncomputable def Kx:List Str:=["self","person"]
noncomputable def DJ:List S:=
 [.bz (.not (.call ph [.J 1,(.k (.int 0)),(.bin .sub (.bi .len [(.attr (.J 0) 0)]) (.k (.int 1)))]))
  [.raise 0 "no person"]
  []]
noncomputable def Ky:List Str:=["self","person","row"]
noncomputable def DK:List S:=
 [.ji (.attr (.J 0) 0) (.J 1) (.J 2)]
noncomputable def Kz:List Str:=["self","deals","person","rows"]
noncomputable def DL:List S:=
 [.setAttr (.J 0) 4 (.bX []),
  .aS (.J 1) .nR,
  .for (.J 2) (.of (.cx kR (.J 0) []))
  [.aS (.J 3) (.call zt [(.aC [(.attr (.J 0) 0),(.attr (.J 0) 1),(.attr (.J 0) 2)]),.J 2]),
   .bz (.or [(.cmp .gL (.J 2) (.attr (.J 0) 3)),(.cmp .ne (.aM (.attr (.J 0) 3) (.J 2)) (.J 3))])
   [.expr (.c8 .append (.attr (.J 0) 4) [.J 2])]
   [],
   .ji (.J 1) (.J 2) (.J 3)],
  .setAttr (.J 0) 3 (.J 1)]
noncomputable def KA:List Str:=["self","day","parents","parent"]
noncomputable def wW:List S:=
 [.for (.J 3) (.of (.J 2))
  [.expr (.cx gA (.J 0) [.J 3])],
  .expr (.call ke [.J 1]),
  .bz (.or [(.cmp .gt (.bi .len [.J 2]) (.k (.int 2))),(.call mR [.J 2])])
  [.raise 2 "more than two, or like ones"]
  [],
  .for (.J 3) (.of (.J 2))
  [.bz (.cmp .ge (.aM (.aM (.attr (.J 0) 0) (.J 3)) (.k (.int 0))) (.J 1))
   [.raise 2 "one was born on that day or later"]
   []],
  .bz (.cmp .ge (.bi .len [(.attr (.J 0) 0)]) (.gk 3))
  [.raise 6 "no more persons"]
  [],
  .expr (.c8 .append (.attr (.J 0) 0) [(.aC [.J 1,(.bi .tupleOf [.J 2]),(.k .none),(.k .none)])]),
  .expr (.cx qE (.J 0) []),
  .ret (.bin .sub (.bi .len [(.attr (.J 0) 0)]) (.k (.int 1)))]
noncomputable def KB:List Str:=["self","child","day","parents","parent","born","first","own","died"]
noncomputable def sY:List S:=
 [.expr (.cx gA (.J 0) [.J 1]),
  .for (.J 4) (.of (.J 3))
  [.expr (.cx gA (.J 0) [.J 4])],
  .expr (.call ke [.J 2]),
  .aS (.aC [.J 5,.J 6,.J 7,.J 8]) (.aM (.attr (.J 0) 0) (.J 1)),
  .bz (.or [(.cmp .lt (.J 2) (.J 5)),(.and [(.isNone false (.J 8)),(.cmp .ge (.J 2) (.J 8))])])
  [.raise 1 "the child does not live then"]
  [],
  .bz (.or [(.not (.pf .le .le (.k (.int 1)) (.bi .len [.J 3]) (.k (.int 2)))),(.call mR [.J 3])])
  [.raise 2 "none, more than two, or like ones"]
  [],
  .for (.J 4) (.of (.J 3))
  [.bz (.cmp .ge (.aM (.aM (.attr (.J 0) 0) (.J 4)) (.k (.int 0))) (.J 5))
   [.raise 2 "one was born not earlier than the child"]
   []],
  .bz (.isNone false (.J 7))
  [.raise 5 "adopted already"]
  [],
  .expr (.cx sX (.J 0) [.J 1,(.aC [.J 5,.J 6,(.aC [.J 2,(.bi .tupleOf [.J 3])]),.J 8])]),
  .expr (.cx qE (.J 0) [])]
noncomputable def KC:List Str:=["self","one","other","ends"]
noncomputable def zJ:List S:=
 [.aS (.J 3) (.comp 1 (.aM (.aM (.attr (.J 1) 0) (.J 0)) (.k (.int 3))) (.J 0) (.of (.aC [.J 1,.J 2])) [(.isNone false (.aM (.aM (.attr (.J 1) 0) (.J 0)) (.k (.int 3))))]),
  .ret (.bi .mP [.J 3,(.bin .add (.gk 2) (.k (.int 1)))])]
noncomputable def KD:List Str:=["self","one","other","day","first","second","begun"]
noncomputable def sZ:List S:=
 [.expr (.cx gA (.J 0) [.J 1]),
  .expr (.cx gA (.J 0) [.J 2]),
  .expr (.call ke [.J 3]),
  .bz (.or [(.cmp .eq (.J 1) (.J 2)),(.not (.call iY [(.attr (.J 0) 0),.J 1,.J 3])),(.not (.call iY [(.attr (.J 0) 0),.J 2,.J 3]))])
  [.raise 3 "one person, or one who does not live then"]
  [],
  .for (.aC [.J 4,.J 5,.J 6]) (.of (.attr (.J 0) 1))
  [.bz (.or [(.cmp .j8 (.J 4) (.aC [.J 1,.J 2])),(.cmp .j8 (.J 5) (.aC [.J 1,.J 2]))])
   [.bz (.and [(.cmp .gt (.cx pv (.J 0) [.J 4,.J 5]) (.J 3)),(.cmp .gt (.cx pv (.J 0) [.J 1,.J 2]) (.J 6))])
    [.raise 5 "another marriage meets it"]
    []]
   []],
  .expr (.c8 .append (.attr (.J 0) 1) [(.aC [.J 1,.J 2,.J 3])]),
  .expr (.cx qE (.J 0) [])]
noncomputable def KE:List Str:=["self","person","day","born","parents","own","dead","one","told","gifts","other","begun"]
noncomputable def nS:List S:=
 [.expr (.cx gA (.J 0) [.J 1]),
  .expr (.call ke [.J 2]),
  .aS (.aC [.J 3,.J 4,.J 5,.J 6]) (.aM (.attr (.J 0) 0) (.J 1)),
  .bz (.isNone false (.J 6))
  [.raise 5 "dead already"]
  [],
  .bz (.or [(.cmp .lt (.J 2) (.J 3)),(.and [(.isNone false (.J 5)),(.cmp .le (.J 2) (.aM (.J 5) (.k (.int 0))))])])
  [.raise 1 "earlier than the birth, or not later than the adoption"]
  [],
  .for (.aC [.J 7,.J 8,.J 9]) (.of (.attr (.J 0) 2))
  [.bz (.and [(.cmp .eq (.J 7) (.J 1)),(.cmp .lt (.J 2) (.J 8))])
   [.raise 1 "earlier than a will"]
   []],
  .for (.aC [.J 7,.J 10,.J 11]) (.of (.attr (.J 0) 1))
  [.bz (.and [(.cmp .j8 (.J 1) (.aC [.J 7,.J 10])),(.cmp .le (.J 2) (.J 11))])
   [.raise 1 "not later than a marriage"]
   []],
  .expr (.cx sX (.J 0) [.J 1,(.aC [.J 3,.J 4,.J 5,.J 2])]),
  .expr (.cx qE (.J 0) [])]
noncomputable def KG:List Str:=["self","person","gifts","named","found","total","one","over","under"]
noncomputable def DM:List S:=
 [.bz (.not (.pf .le .le (.k (.int 1)) (.bi .len [.J 2]) (.gk 4)))
  [.raise 4 "no gifts, or too many"]
  [],
  .aS (.J 3) (.comp 1 (.aM (.J 0) (.k (.int 0))) (.J 0) (.of (.J 2)) []),
  .bz (.or [(.call mR [.J 3]),(.cmp .j8 (.J 1) (.J 3))])
  [.raise 4 "one named twice, or the one whose will it is"]
  [],
  .aS (.J 4) (.bX []),
  .aS (.J 5) (.gk 1),
  .for (.aC [.J 6,.J 7,.J 8]) (.of (.J 2))
  [.bz (.or [(.not (.call ph [.J 7,(.k (.int 1)),(.gk 5)])),(.not (.call ph [.J 8,(.k (.int 1)),(.gk 5)]))])
   [.raise 4 "no numbers of a part"]
   [],
   .expr (.c8 .append (.J 4) [(.aC [.J 6,(.call jG [.J 7,.J 8])])]),
   .aS (.J 5) (.call sT [.J 5,(.call jG [.J 7,.J 8])])],
  .bz (.cmp .gt (.aM (.J 5) (.k (.int 0))) (.aM (.J 5) (.k (.int 1))))
  [.raise 4 "more than the whole"]
  [],
  .ret (.bi .tupleOf [.J 4])]
noncomputable def KH:List Str:=["self","person","day","gifts","gift","born","parents","own","died"]
noncomputable def zK:List S:=
 [.expr (.cx gA (.J 0) [.J 1]),
  .for (.J 4) (.of (.J 3))
  [.expr (.cx gA (.J 0) [(.aM (.J 4) (.k (.int 0)))])],
  .expr (.call ke [.J 2]),
  .aS (.aC [.J 5,.J 6,.J 7,.J 8]) (.aM (.attr (.J 0) 0) (.J 1)),
  .bz (.or [(.cmp .lt (.J 2) (.J 5)),(.and [(.isNone false (.J 8)),(.cmp .gt (.J 2) (.J 8))])])
  [.raise 1 "earlier than the birth, or later than the death"]
  [],
  .expr (.c8 .append (.attr (.J 0) 2) [(.aC [.J 1,.J 2,(.cx wR (.J 0) [.J 1,.J 3])])]),
  .expr (.cx qE (.J 0) [])]
noncomputable def KI:List Str:=["self"]
noncomputable def DN:List S:=
 [.ret (.aC [(.listOf (.attr (.J 0) 0)),(.listOf (.attr (.J 0) 1)),(.listOf (.attr (.J 0) 2))])]
noncomputable def KJ:List Str:=["self"]
noncomputable def DO:List S:=
 [.ret (.comp 1 (.J 0) (.J 0) (.range (.k (.int 0)) (.bi .len [(.attr (.J 0) 0)])) [(.isNone false (.aM (.aM (.attr (.J 1) 0) (.J 0)) (.k (.int 3))))])]
noncomputable def KL:List Str:=["self","person"]
noncomputable def DP:List S:=
 [.expr (.cx gA (.J 0) [.J 1]),
  .bz (.cmp .gL (.J 1) (.attr (.J 0) 3))
  [.raise 7 "a person who is not dead"]
  [],
  .ret (.call wK [(.aM (.attr (.J 0) 3) (.J 1))])]
end P
open P
noncomputable def wX:List Fn:=[
 ⟨"lives",3,4,C6⟩,
 ⟨"parents_on",3,4,C7⟩,
 ⟨"children_on",3,2,C8⟩,
 ⟨"has_line",3,1,C9⟩,
 ⟨"steps_from",3,3,Dc⟩,
 ⟨"further",4,4,Dd⟩,
 ⟨"nearest",3,5,wV⟩,
 ⟨"part",2,3,zA⟩,
 ⟨"added",2,0,De⟩,
 ⟨"less",2,0,Df⟩,
 ⟨"times",2,0,Dg⟩,
 ⟨"shared",2,0,Dh⟩,
 ⟨"lines_to",4,7,Di⟩,
 ⟨"by_lines",3,0,Dj⟩,
 ⟨"others_of",4,0,Dk⟩,
 ⟨"by_parents",3,8,Dl⟩,
 ⟨"spouse_on",3,3,Dm⟩,
 ⟨"will_on",3,5,Dn⟩,
 ⟨"given",4,7,Do⟩,
 ⟨"kin_of",3,2,Dp⟩,
 ⟨"spouse_part",2,0,Dq⟩,
 ⟨"dealt",2,12,zB⟩,
 ⟨"is_whole",3,0,Dr⟩,
 ⟨"need_day",1,0,Ds⟩,
 ⟨"are_alike",1,0,Dt⟩,
 ⟨"copied",1,0,zC⟩,
 ⟨"_law_cell_at",2,0,Du⟩,
 ⟨"_law_whole",999,0,[]⟩,
 ⟨"_law_stream",2,3,zD⟩,
 ⟨"_law_some",3,2,zE⟩,
 ⟨"_law_people",2,9,Dv⟩,
 ⟨"_law_adopting",2,9,Dw⟩,
 ⟨"_law_lives",3,0,Dx⟩,
 ⟨"_law_parents",999,0,[]⟩,
 ⟨"_law_children",999,0,[]⟩,
 ⟨"_law_lined",999,0,[]⟩,
 ⟨"_law_ends",2,1,zF⟩,
 ⟨"_law_meets",3,0,Dy⟩,
 ⟨"_law_weddings",3,8,Dz⟩,
 ⟨"_law_gifts",3,5,DA⟩,
 ⟨"_law_wills",3,5,DB⟩,
 ⟨"_law_lowest",2,3,DC⟩,
 ⟨"_law_is_part",999,0,[]⟩,
 ⟨"_law_roll",2,3,DD⟩,
 ⟨"_law_dead",1,0,zG⟩,
 ⟨"_law_class",1,1,zH⟩,
 ⟨"_law_called",2,0,DE⟩,
 ⟨"_law_tell",2,2,DF⟩,
 ⟨"_law_deeds",1,6,qG⟩,
 ⟨"_law_alone_wills",1,2,DG⟩,
 ⟨"_law_told_turned",2,3,DH⟩,
 ⟨"law",1,9,DI⟩,
 ⟨"__init__",1,0,zI⟩,
 ⟨"need_person",2,0,DJ⟩,
 ⟨"put",3,0,DK⟩,
 ⟨"told",1,3,DL⟩,
 ⟨"born",3,1,wW⟩,
 ⟨"adopted",4,5,sY⟩,
 ⟨"end_of",3,1,zJ⟩,
 ⟨"married",4,3,sZ⟩,
 ⟨"died",3,9,nS⟩,
 ⟨"need_gifts",3,6,DM⟩,
 ⟨"will",4,5,zK⟩,
 ⟨"anew",999,0,[]⟩,
 ⟨"roll",1,0,DN⟩,
 ⟨"dead",1,0,DO⟩,
 ⟨"deal",2,0,DP⟩]
noncomputable def zL:List (List Str):=[JJ,JK,JL,JM,JN,JO,JP,JQ,JR,JS,JT,JU,JV,JW,JX,JY,JZ,J0,J1,J2,J3,J4,J5,J6,J7,J8,J9,[],Ka,Kb,Kc,Kd,Ke,[],[],[],Kf,Kg,Kh,Ki,Kj,Kk,[],Kl,Km,Ko,Kq,Kr,Ks,Kt,Ku,Kv,Kw,Kx,Ky,Kz,KA,KB,KC,KD,KE,KG,KH,[],KI,KJ,KL]
noncomputable def KM:List (Bool×Str):=[(false,Str.ofString "lives"),(false,Str.ofString "parents_on"),(false,Str.ofString "children_on"),(false,Str.ofString "has_line"),(false,Str.ofString "steps_from"),(false,Str.ofString "further"),(false,Str.ofString "nearest"),(false,Str.ofString "part"),(false,Str.ofString "added"),(false,Str.ofString "less"),(false,Str.ofString "times"),(false,Str.ofString "shared"),(false,Str.ofString "lines_to"),(false,Str.ofString "by_lines"),(false,Str.ofString "others_of"),(false,Str.ofString "by_parents"),(false,Str.ofString "spouse_on"),(false,Str.ofString "will_on"),(false,Str.ofString "given"),(false,Str.ofString "kin_of"),(false,Str.ofString "spouse_part"),(false,Str.ofString "dealt"),(false,Str.ofString "is_whole"),(false,Str.ofString "need_day"),(false,Str.ofString "are_alike"),(false,Str.ofString "copied"),(false,Str.ofString "_law_cell_at"),(false,Str.ofString "_law_whole"),(false,Str.ofString "_law_stream"),(false,Str.ofString "_law_some"),(false,Str.ofString "_law_people"),(false,Str.ofString "_law_adopting"),(false,Str.ofString "_law_lives"),(false,Str.ofString "_law_parents"),(false,Str.ofString "_law_children"),(false,Str.ofString "_law_lined"),(false,Str.ofString "_law_ends"),(false,Str.ofString "_law_meets"),(false,Str.ofString "_law_weddings"),(false,Str.ofString "_law_gifts"),(false,Str.ofString "_law_wills"),(false,Str.ofString "_law_lowest"),(false,Str.ofString "_law_is_part"),(false,Str.ofString "_law_roll"),(false,Str.ofString "_law_dead"),(false,Str.ofString "_law_class"),(false,Str.ofString "_law_called"),(false,Str.ofString "_law_tell"),(false,Str.ofString "_law_deeds"),(false,Str.ofString "_law_alone_wills"),(false,Str.ofString "_law_told_turned"),(false,Str.ofString "law"),(true,Str.ofString "__init__"),(true,Str.ofString "need_person"),(true,Str.ofString "put"),(true,Str.ofString "told"),(true,Str.ofString "born"),(true,Str.ofString "adopted"),(true,Str.ofString "end_of"),(true,Str.ofString "married"),(true,Str.ofString "died"),(true,Str.ofString "need_gifts"),(true,Str.ofString "will"),(true,Str.ofString "anew"),(true,Str.ofString "roll"),(true,Str.ofString "dead"),(true,Str.ofString "deal")]
noncomputable def gK:CK:=⟨KM,["WHOLE","NOTHING","MOST_DAY","MOST_PEOPLE","MOST_GIFTS","MOST_NUMBER"],["NoPerson","NoDay","NoParents","NoMatch","NoWill","Again","Full","NotDead","EstateError"],"Book",["people","marriages","wills","deals","fresh"]⟩
noncomputable def uH:List V:=[(.aC [(.int 1),(.int 1)]),(.aC [(.int 0),(.int 1)]),(.int 100000),(.int 60),(.int 10),(.int 1000)]
noncomputable def gM(j k:Nat):Bool:=j==k||k==8
noncomputable def s6:List Nat:=[uE]
noncomputable def intOf:V->Option Int
 |.int i=>some i
 |_=>none
noncomputable def KN:Option NameKind->Bool
 |some .local=>true
 |some .cell=>true
 |some .free=>true
 |_=>false
noncomputable def s7:Option NameKind->Bool
 |some .local=>true
 |some .cell=>true
 |_=>false
noncomputable def kS(ns:List Str)(i:Nat)(x:Str):Bool:=decide (ns.idxOf x=i)&&decide (i<ns.length)
noncomputable def l9(σ:Sn)(x:Str):Bool:=decide (σ.sc.names.lookup x=some .globalImplicit)&&!(x==("__debug__":Str))
noncomputable def zM:V->Option Const
 |.none=>some .none
 |.bool b=>some (.bool b)
 |.int i=>some (.int i)
 |.str s=>some (.str s)
 |_=>none
noncomputable def pw:lX->Operator
 |.add=>.Add
 |.sub=>.Sub
 |.mul=>.Mult
 |.fdiv=>.FloorDiv
 |.mod=>.Mod
 |.pow=>.Pow
noncomputable def qH:lY->CmpOp
 |.eq=>.Eq
 |.ne=>.NotEq
 |.lt=>.Lt
 |.le=>.LtE
 |.gt=>.Gt
 |.ge=>.GtE
 |.j8=>.In
 |.gL=>.NotIn
noncomputable def iZ:Ty->String
 |.int=>"int"
 |.bool=>"bool"
 |.list=>"list"
noncomputable def uI:Bi->Option (Str×Nat)
 |.len=>some ("len",1)
 |.any=>some ("any",1)
 |.max2=>some ("max",2)
 |.tupleOf=>some ("tuple",1)
 |.wF=>some ("sorted",1)
 |.jF _=>some ("sorted",1)
 |.zh=>some ("int",1)
 |_=>none
noncomputable def s8:Me->Str×Nat
 |.append=>("append",1)
 |.count=>("count",1)
 |.index=>("index",1)
noncomputable def uJ(x:Expr):Bool:=decide (x.ctorIdx=23)
noncomputable def uK(x:Expr):Bool:=decide (x.ctorIdx=25)
theorem got{c:Prop}[i:Decidable c]{t:c->Bool}(h:(if hc:c then t hc else false)=true):c:=
 match i,h with
 |.isTrue hc,_=>hc
theorem aR{a b:Bool}{G:Prop}(h:(a&&b)=true)(k:a=true->b=true->G):G:=k (and_eq_true_iff.mp h).1 (and_eq_true_iff.mp h).2
noncomputable def nT(x:Expr)(f:Const->Bool):Bool:=if h:x.ctorIdx=19 then Expr.Constant.elim (motive_1:=λZ=>Bool) x h (λc Z Z=>f c) else false
theorem nT.k{G:Expr->Prop}{x:Expr}{f:Const->Bool}(h:nT x f=true)(k:∀a0 a1 a2,f a0=true->G (.Constant a0 a1 a2)):G x:=
 Expr.Constant.elim (motive_1:=λx=>nT x f=true->G x) x (got h) k h
noncomputable def eX(x:Expr)(f:Str->Bool):Bool:=if h:x.ctorIdx=23 then Expr.Name.elim (motive_1:=λZ=>Bool) x h (λy Z=>f y) else false
theorem eX.k{G:Expr->Prop}{x:Expr}{f:Str->Bool}(h:eX x f=true)(k:∀a0 a1,f a0=true->G (.Name a0 a1)):G x:=
 Expr.Name.elim (motive_1:=λx=>eX x f=true->G x) x (got h) k h
noncomputable def uL(x:Expr)(f:Expr->Operator->Expr->Bool):Bool:=if h:x.ctorIdx=2 then Expr.BinOp.elim (motive_1:=λZ=>Bool) x h (λl o r Z=>f l o r) else false
theorem uL.k{G:Expr->Prop}{x:Expr}{f:Expr->Operator->Expr->Bool}(h:uL x f=true)(k:∀a0 a1 a2 a3,f a0 a1 a2=true->G (.BinOp a0 a1 a2 a3)):G x:=
 Expr.BinOp.elim (motive_1:=λx=>uL x f=true->G x) x (got h) k h
noncomputable def qI(x:Expr)(f:UnaryOp->Expr->Bool):Bool:=if h:x.ctorIdx=3 then Expr.UnaryOp.elim (motive_1:=λZ=>Bool) x h (λo y Z=>f o y) else false
theorem qI.k{G:Expr->Prop}{x:Expr}{f:UnaryOp->Expr->Bool}(h:qI x f=true)(k:∀a0 a1 a2,f a0 a1=true->G (.UnaryOp a0 a1 a2)):G x:=
 Expr.UnaryOp.elim (motive_1:=λx=>qI x f=true->G x) x (got h) k h
noncomputable def qJ(x:Expr)(f:BoolOp->List Expr->Bool):Bool:=if h:x.ctorIdx=0 then Expr.BoolOp.elim (motive_1:=λZ=>Bool) x h (λo ys Z=>f o ys) else false
theorem qJ.k{G:Expr->Prop}{x:Expr}{f:BoolOp->List Expr->Bool}(h:qJ x f=true)(k:∀a0 a1 a2,f a0 a1=true->G (.BoolOp a0 a1 a2)):G x:=
 Expr.BoolOp.elim (motive_1:=λx=>qJ x f=true->G x) x (got h) k h
noncomputable def nU(x:Expr)(f:Expr->List CmpOp->List Expr->Bool):Bool:=if h:x.ctorIdx=15 then Expr.Compare.elim (motive_1:=λZ=>Bool) x h (λl os rs Z=>f l os rs) else false
theorem nU.k{G:Expr->Prop}{x:Expr}{f:Expr->List CmpOp->List Expr->Bool}(h:nU x f=true)(k:∀a0 a1 a2 a3,f a0 a1 a2=true->G (.Compare a0 a1 a2 a3)):G x:=
 Expr.Compare.elim (motive_1:=λx=>nU x f=true->G x) x (got h) k h
noncomputable def ma(x:Expr)(f:List Expr->Bool):Bool:=if h:x.ctorIdx=25 then Expr.Tuple.elim (motive_1:=λZ=>Bool) x h (λys Z Z=>f ys) else false
theorem ma.k{G:Expr->Prop}{x:Expr}{f:List Expr->Bool}(h:ma x f=true)(k:∀a0 a1 a2,f a0=true->G (.Tuple a0 a1 a2)):G x:=
 Expr.Tuple.elim (motive_1:=λx=>ma x f=true->G x) x (got h) k h
noncomputable def uM(x:Expr)(f:List Expr->Bool):Bool:=if h:x.ctorIdx=24 then Expr.List.elim (motive_1:=λZ=>Bool) x h (λys Z=>f ys) else false
theorem uM.k{G:Expr->Prop}{x:Expr}{f:List Expr->Bool}(h:uM x f=true)(k:∀a0 a1,f a0=true->G (.List a0 a1)):G x:=
 Expr.List.elim (motive_1:=λx=>uM x f=true->G x) x (got h) k h
noncomputable def md(x:Expr)(f:Expr->Expr->Bool):Bool:=if h:x.ctorIdx=21 then Expr.Subscript.elim (motive_1:=λZ=>Bool) x h (λy z Z=>f y z) else false
theorem md.k{G:Expr->Prop}{x:Expr}{f:Expr->Expr->Bool}(h:md x f=true)(k:∀a0 a1 a2,f a0 a1=true->G (.Subscript a0 a1 a2)):G x:=
 Expr.Subscript.elim (motive_1:=λx=>md x f=true->G x) x (got h) k h
noncomputable def qK(x:Expr)(f:Option Expr->Option Expr->Option Expr->Bool):Bool:=if h:x.ctorIdx=26 then Expr.Slice.elim (motive_1:=λZ=>Bool) x h (λl u t Z=>f l u t) else false
theorem qK.k{G:Expr->Prop}{x:Expr}{f:Option Expr->Option Expr->Option Expr->Bool}(h:qK x f=true)(k:∀a0 a1 a2 a3,f a0 a1 a2=true->G (.Slice a0 a1 a2 a3)):G x:=
 Expr.Slice.elim (motive_1:=λx=>qK x f=true->G x) x (got h) k h
noncomputable def fH(x:Expr)(f:Expr->List Expr->List Keyword->Pos->Bool):Bool:=if h:x.ctorIdx=16 then Expr.Call.elim (motive_1:=λZ=>Bool) x h (λg ys ks p=>f g ys ks p) else false
theorem fH.k{G:Expr->Prop}{x:Expr}{f:Expr->List Expr->List Keyword->Pos->Bool}(h:fH x f=true)(k:∀a0 a1 a2 a3,f a0 a1 a2 a3=true->G (.Call a0 a1 a2 a3)):G x:=
 Expr.Call.elim (motive_1:=λx=>fH x f=true->G x) x (got h) k h
noncomputable def qL(x:Expr):Bool:=decide (x.ctorIdx≠16)
noncomputable def mf(x:Expr)(f:Expr->Str->Pos->Bool):Bool:=if h:x.ctorIdx=20 then Expr.Attribute.elim (motive_1:=λZ=>Bool) x h (λo y p=>f o y p) else false
theorem mf.k{G:Expr->Prop}{x:Expr}{f:Expr->Str->Pos->Bool}(h:mf x f=true)(k:∀a0 a1 a2,f a0 a1 a2=true->G (.Attribute a0 a1 a2)):G x:=
 Expr.Attribute.elim (motive_1:=λx=>mf x f=true->G x) x (got h) k h
noncomputable def s9(x:Expr)(f:Expr->List Comprehension->Scope->Bool):Bool:=if h:x.ctorIdx=8 then Expr.ListComp.elim (motive_1:=λZ=>Bool) x h (λe gs c Z=>f e gs c) else false
theorem s9.k{G:Expr->Prop}{x:Expr}{f:Expr->List Comprehension->Scope->Bool}(h:s9 x f=true)(k:∀a0 a1 a2 a3,f a0 a1 a2=true->G (.ListComp a0 a1 a2 a3)):G x:=
 Expr.ListComp.elim (motive_1:=λx=>s9 x f=true->G x) x (got h) k h
noncomputable def uN(x:Expr)(f:Expr->Expr->Expr->Bool):Bool:=if h:x.ctorIdx=5 then Expr.IfExp.elim (motive_1:=λZ=>Bool) x h (λc a b Z=>f c a b) else false
theorem uN.k{G:Expr->Prop}{x:Expr}{f:Expr->Expr->Expr->Bool}(h:uN x f=true)(k:∀a0 a1 a2 a3,f a0 a1 a2=true->G (.IfExp a0 a1 a2 a3)):G x:=
 Expr.IfExp.elim (motive_1:=λx=>uN x f=true->G x) x (got h) k h
noncomputable def uO(x:Stmt)(f:Option Expr->Option Expr->Bool):Bool:=if h:x.ctorIdx=16 then Stmt.Raise.elim (motive_2:=λZ=>Bool) x h (λe c Z=>f e c) else false
theorem uO.k{G:Stmt->Prop}{x:Stmt}{f:Option Expr->Option Expr->Bool}(h:uO x f=true)(k:∀a0 a1 a2,f a0 a1=true->G (.Raise a0 a1 a2)):G x:=
 Stmt.Raise.elim (motive_2:=λx=>uO x f=true->G x) x (got h) k h
noncomputable def uP(x:Stmt)(f:List Stmt->List ExceptHandler->List Stmt->List Stmt->Bool):Bool:=if h:x.ctorIdx=17 then Stmt.Try.elim (motive_2:=λZ=>Bool) x h (λa b c d Z=>f a b c d) else false
theorem uP.k{G:Stmt->Prop}{x:Stmt}{f:List Stmt->List ExceptHandler->List Stmt->List Stmt->Bool}(h:uP x f=true)(k:∀a0 a1 a2 a3 a4,f a0 a1 a2 a3=true->G (.Try a0 a1 a2 a3 a4)):G x:=
 Stmt.Try.elim (motive_2:=λx=>uP x f=true->G x) x (got h) k h
noncomputable def uQ(x:Stmt)(f:Expr->Bool):Bool:=if h:x.ctorIdx=24 then Stmt.Expr.elim (motive_2:=λZ=>Bool) x h (λe Z=>f e) else false
theorem uQ.k{G:Stmt->Prop}{x:Stmt}{f:Expr->Bool}(h:uQ x f=true)(k:∀a0 a1,f a0=true->G (.Expr a0 a1)):G x:=
 Stmt.Expr.elim (motive_2:=λx=>uQ x f=true->G x) x (got h) k h
noncomputable def mh(x:Stmt)(f:List Expr->Expr->Bool):Bool:=if h:x.ctorIdx=5 then Stmt.Assign.elim (motive_2:=λZ=>Bool) x h (λts e Z=>f ts e) else false
theorem mh.k{G:Stmt->Prop}{x:Stmt}{f:List Expr->Expr->Bool}(h:mh x f=true)(k:∀a0 a1 a2,f a0 a1=true->G (.Assign a0 a1 a2)):G x:=
 Stmt.Assign.elim (motive_2:=λx=>mh x f=true->G x) x (got h) k h
noncomputable def nV(x:Stmt)(f:Option Expr->Bool):Bool:=if h:x.ctorIdx=3 then Stmt.Return.elim (motive_2:=λZ=>Bool) x h (λe Z=>f e) else false
theorem nV.k{G:Stmt->Prop}{x:Stmt}{f:Option Expr->Bool}(h:nV x f=true)(k:∀a0 a1,f a0=true->G (.Return a0 a1)):G x:=
 Stmt.Return.elim (motive_2:=λx=>nV x f=true->G x) x (got h) k h
noncomputable def uR(x:Stmt)(f:Expr->List Stmt->List Stmt->Bool):Bool:=if h:x.ctorIdx=12 then Stmt.If.elim (motive_2:=λZ=>Bool) x h (λt a b Z=>f t a b) else false
theorem uR.k{G:Stmt->Prop}{x:Stmt}{f:Expr->List Stmt->List Stmt->Bool}(h:uR x f=true)(k:∀a0 a1 a2 a3,f a0 a1 a2=true->G (.If a0 a1 a2 a3)):G x:=
 Stmt.If.elim (motive_2:=λx=>uR x f=true->G x) x (got h) k h
noncomputable def uS(x:Stmt)(f:Expr->Expr->List Stmt->List Stmt->Bool):Bool:=if h:x.ctorIdx=9 then Stmt.For.elim (motive_2:=λZ=>Bool) x h (λt i a b Z=>f t i a b) else false
theorem uS.k{G:Stmt->Prop}{x:Stmt}{f:Expr->Expr->List Stmt->List Stmt->Bool}(h:uS x f=true)(k:∀a0 a1 a2 a3 a4,f a0 a1 a2 a3=true->G (.For a0 a1 a2 a3 a4)):G x:=
 Stmt.For.elim (motive_2:=λx=>uS x f=true->G x) x (got h) k h
noncomputable def uT(x:Stmt)(f:Expr->List Stmt->List Stmt->Bool):Bool:=if h:x.ctorIdx=11 then Stmt.While.elim (motive_2:=λZ=>Bool) x h (λt a b Z=>f t a b) else false
theorem uT.k{G:Stmt->Prop}{x:Stmt}{f:Expr->List Stmt->List Stmt->Bool}(h:uT x f=true)(k:∀a0 a1 a2 a3,f a0 a1 a2=true->G (.While a0 a1 a2 a3)):G x:=
 Stmt.While.elim (motive_2:=λx=>uT x f=true->G x) x (got h) k h
noncomputable def nW(x:Expr)(f:List (Option Expr)->List Expr->Bool):Bool:=if h:x.ctorIdx=6 then Expr.Dict.elim (motive_1:=λZ=>Bool) x h (λa b Z=>f a b) else false
theorem nW.k{G:Expr->Prop}{x:Expr}{f:List (Option Expr)->List Expr->Bool}(h:nW x f=true)(k:∀a0 a1 a2,f a0 a1=true->G (.Dict a0 a1 a2)):G x:=
 Expr.Dict.elim (motive_1:=λx=>nW x f=true->G x) x (got h) k h
noncomputable def if1{α:Type}(l:List α)(f:α->Bool):Bool:=match l with
 |[a]=>f a
 |_=>false
noncomputable def if2{α:Type}(l:List α)(f:α->α->Bool):Bool:=match l with
 |[a,b]=>f a b
 |_=>false
noncomputable def mT{α:Type}(l:List α)(f:α->List α->Bool):Bool:=match l with
 |a::r=>f a r
 |_=>false
noncomputable def fj{α:Type}(l:Option α)(f:α->Bool):Bool:=match l with
 |some a=>f a
 |_=>false
theorem if1.k{α:Type}{G:List α->Prop}{l:List α}{f:α->Bool}(h:if1 l f=true)(k:∀a,f a=true->G [a]):G l:=by
 rcases l with _|⟨a,_|⟨b,l⟩⟩
 ·exact Bool.noConfusion h
 ·exact k a h
 ·exact Bool.noConfusion h
theorem if2.k{α:Type}{G:List α->Prop}{l:List α}{f:α->α->Bool}(h:if2 l f=true)(k:∀a b,f a b=true->G [a,b]):G l:=by
 rcases l with _|⟨a,_|⟨b,_|⟨c,l⟩⟩⟩
 ·exact Bool.noConfusion h
 ·exact Bool.noConfusion h
 ·exact k a b h
 ·exact Bool.noConfusion h
theorem mT.k{α:Type}{G:List α->Prop}{l:List α}{f:α->List α->Bool}(h:mT l f=true)(k:∀a r,f a r=true->G (a::r)):G l:=by
 cases l
 ·exact Bool.noConfusion h
 ·exact k _ _ h
theorem fj.k{α:Type}{G:Option α->Prop}{l:Option α}{f:α->Bool}(h:fj l f=true)(k:∀a,f a=true->G (some a)):G l:=by
 cases l
 ·exact Bool.noConfusion h
 ·exact k _ h
theorem eO{α:Type}{G:List α->Prop}{l:List α}(h:l.isEmpty=true)(k:G []):G l:=by cases l;exact k;cases h
theorem qM{α:Type}{G:Option α->Prop}{l:Option α}(h:l.isNone=true)(k:G none):G l:=by cases l;exact k;cases h
noncomputable def uU(a:E):Bool:=if h:a.ctorIdx=0 then E.k.elim (motive_1:=λZ=>Bool) a h (λv=>decide (intOf v=some 0)) else false
theorem bD{P:Prop}{α:Type}{x:Option α}{y:α}(h:x=none)(h':x=some y):P:=by rw[h] at h';cases h'
theorem intOf.k{v:V}{i:Int}(h:intOf v=some i)(P:V->Prop)(k:P (.int i)):P v:=
 V.casesOn (motive_1:=λv=>intOf v=some i->P v) v (λh=>bD rfl h) (λZ h=>bD rfl h) (λZ h=>Option.some.inj h▸k) (λZ h=>bD rfl h) (λZ h=>bD rfl h) (λZ h=>bD rfl h) (λh=>bD rfl h) h
theorem uU.k{a:E}{G:E->Prop}(h:uU a=true)(k:G (.k (.int 0))):G a:=
 E.k.elim (motive_1:=λa=>uU a=true->G a) a (got h) (λv h=>intOf.k (of_decide_eq_true h) (λv=>G (.k v)) k) h
noncomputable def uV(g:Comprehension)(f:Expr->Expr->List Expr->Bool):Bool:=decide (g.is_async=0)&&f g.target g.iter g.ifs
theorem uV.k{G:Comprehension->Prop}{g:Comprehension}{f:Expr->Expr->List Expr->Bool}(h:uV g f=true)(k:∀tg it ifs,f tg it ifs=true->G ⟨tg,it,ifs,0⟩):G g:=by
 obtain⟨tg,it,ifs,a⟩:=g
 refine aR h λh1 h2=>?_
 obtain rfl:a=0:=of_decide_eq_true h1
 exact k tg it ifs h2
noncomputable def uW(g:Keyword)(f:Str->Expr->Bool):Bool:=fj g.arg λy=>f y g.value
theorem uW.k{G:Keyword->Prop}{g:Keyword}{f:Str->Expr->Bool}(h:uW g f=true)(k:∀y v p,f y v=true->G ⟨some y,v,p⟩):G g:=by
 obtain⟨n,v,p⟩:=g
 exact fj.k (G:=λn=>G ⟨n,v,p⟩) h λy h=>k y v p h
mutual
noncomputable def iG(σ:Sn):cX->Expr->Bool
 |.J i,e=>eX e λx=>kS σ.ns i x&&s7 (σ.sc.names.lookup x)
 |.aC ts,e=>ma e λes=>!σ.hd&&uX σ ts es
noncomputable def uX(σ:Sn):List cX->List Expr->Bool
 |[],es=>es.isEmpty
 |t::ts,es=>mT es λe es=>iG σ t e&&uX σ ts es
end
noncomputable def KP(x:Expr):List Str:=if h:x.ctorIdx=23 then Expr.Name.elim (motive_1:=λZ=>List Str) x h (λy Z=>[y]) else[]
noncomputable def KQ(x:Expr):List Expr:=if h:x.ctorIdx=25 then Expr.Tuple.elim (motive_1:=λZ=>List Expr) x h (λy Z Z=>y) else[]
mutual
noncomputable def gO:cX->Expr->List Str
 |.J _,e=>KP e
 |.aC ts,e=>tc ts (KQ e)
noncomputable def tc:List cX->List Expr->List Str
 |t::ts,e::es=>gO t e++tc ts es
 |_,_=>[]
end
noncomputable def zN(a:Arguments)(ps:List Str):Bool:=
 a.posonlyargs.isEmpty&&(a.vararg.isNone&&(a.kwonlyargs.isEmpty&&(a.kw_defaults.isEmpty&&(a.kwarg.isNone&&(a.defaults.isEmpty&&decide (a.args.map (·.arg)=ps))))))
noncomputable def zO:Option NameKind->Bool
 |some .cell=>true
 |some .free=>true
 |_=>false
noncomputable def uY(σ:Sn)(loc:List Str)(sc:Scope):Bool:=
 decide (sc.kind=.function)&&(!sc.isGenerator&&(!sc.isCoroutine&&(decide ((sc.names.map (·.1)).Nodup) &&
 (sc.names.all (λp=>match p.2 with
  |.local=>p.1==(".0":Str)||loc.contains p.1
  |.cell=>false
  |.free=>σ.ns.contains p.1&&(!loc.contains p.1&&zO (σ.sc.names.lookup p.1))
  |.globalImplicit=>true
  |.globalExplicit=>false) &&
 (loc.all (λx=>decide (sc.names.lookup x=some .local))&&!σ.ns.contains (".0":Str))))))
noncomputable def td(it:It)(tg:Expr):Bool:=match it with
 |.mQ _=>uK tg
 |_=>uK tg||uJ tg
noncomputable def DQ(σ:Sn)(i:Nat)(x:Str):Bool:=kS σ.ns i x&&(KN (σ.sc.names.lookup x)&&(!(x==("__debug__":Str))&&!(x==("__classdict__":Str))))
noncomputable def dW(σ:Sn)(nm:Str)(g:Expr):Bool:=eX g λx=>(x==nm)&&l9 σ nm
noncomputable def wY(x:ExceptHandler)(f:Option Expr->Option Str->List Stmt->Bool):Bool:=match x with
 |.ExceptHandler t n b _=>f t n b
theorem wY.k{G:ExceptHandler->Prop}{x:ExceptHandler}{f:Option Expr->Option Str->List Stmt->Bool}(h:wY x f=true)(k:∀a0 a1 a2 a3,f a0 a1 a2=true->G (.ExceptHandler a0 a1 a2 a3)):G x:=by
 cases x;exact k _ _ _ _ h
noncomputable def qN(σ:Sn)(k:Option Nat)(nm:Expr):Bool:=match k with
 |some k=>eX nm λy=>decide (gK.pg[k]?=some y)&&l9 σ y
 |none=>dW σ "ValueError" nm
mutual
noncomputable def cg(σ:Sn):E->Expr->Bool
 |.k v,x=>nT x λc=>decide (zM v=some c)
 |.J i,x=>eX x (DQ σ i)
 |.gk j,x=>eX x λx=>decide (gK.wG[j]?=some x)&&l9 σ x
 |.bin op a b,x=>uL x λl o r=>decide (o=pw op)&&(cg σ a l&&cg σ b r)
 |.neg a,x=>qI x λo y=>decide (o=.USub)&&cg σ a y
 |.not a,x=>qI x λo y=>decide (o=.Not)&&cg σ a y
 |.and es,x=>qJ x λo xs=>decide (o=.And)&&gh σ es xs
 |.or es,x=>qJ x λo xs=>decide (o=.Or)&&gh σ es xs
 |.cmp op a b,x=>nU x λl os rs=>if1 os λo=>if1 rs λr=>decide (o=qH op)&&(cg σ a l&&cg σ b r)
 |.pf op nQ a b c,x=>nU x λl os rs=>if2 os λo o'=>if2 rs λr r'=>decide (o=qH op)&&(decide (o'=qH nQ)&&(cg σ a l&&(cg σ b r&&cg σ c r')))
 |.isNone w a,x=>nU x λl os rs=>if1 os λo=>decide (o=if w then .Is else .IsNot)&&if1 rs λr=>nT r λc=>decide (c=.none)&&cg σ a l
 |.aC es,x=>ma x λxs=>decide (es.length<1000)&&gh σ es xs
 |.bX es,x=>uM x λxs=>decide (es.length<1000)&&gh σ es xs
 |.aM a i,x=>md x λv s=>cg σ a v&&cg σ i s
 |.fG a lo hi,x=>md x λv s=>qK s λl u t=>t.isNone&&(cg σ a v&&(zP σ lo l&&zP σ hi u))
 |.rev a st,x=>md x λv s=>qK s λl u t=>l.isNone&&(u.isNone&&(cg σ a v&&fj t λt=>cg σ st t))
 |.call f es,x=>fH x λg xs kws Z=>kws.isEmpty&&eX g λx=>decide (gK.kQ[f]?=some (false,x))&&(l9 σ x&&((!σ.hd||s6.contains f)&&gh σ es xs))
 |.bi b es,x=>fH x λg xs kws Z=>!σ.hd&&match b with
   |.nP t=>kws.isEmpty&&(dW σ "isinstance" g&&if2 xs λe nm=>dW σ (Str.ofString (iZ t)) nm&&gh σ es [e])
   |.mP=>dW σ "min" g&&if1 kws λkw=>uW kw λy v=>(y==("default":Str))&&if1 xs λe=>gh σ es [e,v]
   |.lZ=>kws.isEmpty&&(dW σ "len" g&&if1 xs λe=>fH e λg xs kws Z=>kws.isEmpty&&(dW σ "set" g&&if1 xs λe=>gh σ es [e]))
   |b=>kws.isEmpty&&fj (uI b) λq=>dW σ q.1 g&&(decide (xs.length=q.2)&&gh σ es xs)
 |.c8 m a es,x=>fH x λg xs kws pos=>kws.isEmpty&&mf g λo y apos=>(y==(s8 m).1)&&(qL o&&((apos.endLine==pos.line)&&(decide (xs.length=(s8 m).2)&&(cg σ a o&&gh σ es xs))))
 |.comp nl elt t it cs,x=>s9 x λe gs c9=>if1 gs λg=>uV g λtg iter ifs=>
  !σ.hd&&(decide ((gO t tg).length=nl)&&(uY σ (gO t tg) c9&&(wZ σ it iter&&(td it tg&&(iG ⟨c9,gO t tg++σ.ns,false⟩ t tg&&(cg ⟨c9,gO t tg++σ.ns,false⟩ elt e&&gh ⟨c9,gO t tg++σ.ns,false⟩ cs ifs))))))
 |.listOf a,x=>fH x λg xs kws Z=>!σ.hd&&(kws.isEmpty&&(dW σ "list" g&&if1 xs λe=>cg σ a e))
 |.nR,x=>nW x λks vs=>ks.isEmpty&&vs.isEmpty
 |.l6,x=>nW x λks vs=>ks.isEmpty&&vs.isEmpty
 |.uw a b,x=>nW x λks vs=>if1 ks λk=>fj k λk=>if1 vs λv=>cg σ a k&&cg σ b v
 |.bz c a b,x=>uN x λt y z=>cg σ c t&&(cg σ a y&&cg σ b z)
 |.attr a i,x=>mf x λo y Z=>decide (gK.bT[i]?=some y)&&(uJ o&&cg σ a o)
 |.cx f a es,x=>fH x λg xs kws pos=>kws.isEmpty&&mf g λo y apos=>decide (gK.kQ[f]?=some (true,y))&&(!gK.bT.contains y&&(qL o&&((apos.endLine==pos.line)&&(decide (xs.length<20)&&(!σ.hd&&(cg σ a o&&gh σ es xs))))))
 |.new f,x=>fH x λg xs kws Z=>kws.isEmpty&&(xs.isEmpty&&(decide (gK.kQ[f]?=some (true,Str.ofString "__init__"))&&(!σ.hd&&dW σ gK.cls g)))
 |.j9 k a,x=>fH x λg xs kws Z=>kws.isEmpty&&(dW σ "isinstance" g&&if2 xs λe nm=>qN σ k nm&&cg σ a e)
noncomputable def gh(σ:Sn):List E->List Expr->Bool
 |[],xs=>xs.isEmpty
 |e::es,xs=>mT xs λx xs=>cg σ e x&&gh σ es xs
noncomputable def zP(σ:Sn):Option E->Option Expr->Bool
 |none,x=>x.isNone
 |some e,x=>fj x λx=>cg σ e x
noncomputable def wZ(σ:Sn):It->Expr->Bool
 |.range a b,x=>fH x λg xs kws Z=>kws.isEmpty&&(dW σ "range" g&&(if1 xs (λe=>uU a&&cg σ b e)||if2 xs λe1 e2=>cg σ a e1&&cg σ b e2))
 |.mQ a,x=>fH x λg xs kws Z=>kws.isEmpty&&(dW σ "enumerate" g&&if1 xs λe=>cg σ a e)
 |.of e,x=>cg σ e x
end
noncomputable def te(a b:Expr):Bool:=!(uK a&&uK b)
noncomputable def mU(x:Expr):Bool:=decide (x.ctorIdx≠8/\x.ctorIdx≠9/\x.ctorIdx≠10)
noncomputable def KR(e:E):Bool:=decide (e.ctorIdx=18)
noncomputable def DR(σ:Sn)(r:Option cX)(e:E)(st:Stmt):Bool:=match r with
 |some t=>mh st λts x=>if1 ts λtg=>iG σ t tg&&(cg σ e x&&(mU x&&te tg x))
 |none=>nV st λx=>fj x λx=>cg σ e x
mutual
noncomputable def DS(σ:Sn):S->Stmt->Bool
 |.expr e,st=>uQ st λx=>mU x&&cg σ e x
 |.aS t e,st=>mh st λts x=>if1 ts λtg=>iG σ t tg&&(cg σ e x&&((uJ tg&&KR e||mU x)&&te tg x))
 |.ji a i e,st=>mh st λts x=>if1 ts λtg=>md tg λo j=>mU x&&(cg σ a o&&(cg σ i j&&cg σ e x))
 |.setAttr a i e,st=>mh st λts x=>if1 ts λtg=>mf tg λo y Z=>decide (gK.bT[i]?=some y)&&(mU x&&(qL o&&(cg σ a o&&cg σ e x)))
 |.ret e,st=>nV st λx=>fj x λx=>cg σ e x
 |.bz c a b,st=>uR st λt x y=>cg σ c t&&(px σ a x&&px σ b y)
 |.for t it body,st=>uS st λtg iter b o=>!σ.hd&&(o.isEmpty&&(iG σ t tg&&(td it tg&&(wZ σ it iter&&px σ body b))))
 |.while c body,st=>uT st λt b o=>!σ.hd&&(o.isEmpty&&(cg σ c t&&px σ body b))
 |.raise k w,st=>uO st λe c=>c.isNone&&(!σ.hd&&fj e λe=>fH e λg xs kws Z=>kws.isEmpty&&eX g λx=>decide (gK.pg[k]?=some x)&&(l9 σ x&&if1 xs λa=>nT a λc=>decide (c=.str w)))
 |.iX r e k i h,st=>uP st λbd hs o f=>o.isEmpty&&(f.isEmpty&&(!σ.hd&&if1 bd λb=>DR σ r e b&&if1 hs λhd=>wY hd λt n hb=>fj t λt=>qN σ (some k) t&&fj n λn=>(kS σ.ns i n&&decide (σ.sc.names.lookup n=some .local))&&if1 hb λs=>nV s λx=>fj x λx=>cg ⟨σ.sc,σ.ns,true⟩ h x))
noncomputable def px(σ:Sn):List S->List Stmt->Bool
 |[],ss=>ss.isEmpty
 |s::r,ss=>mT ss λx t=>DS σ s x&&px σ r t
end
structure hU where
 name:Str
 params:Arguments
 body:List Stmt
 scope:Scope
noncomputable def DT(hd:Bool)(d:hU)(ns:List Str)(f:Fn):Bool:=
 decide (f.name=d.name)&&(zN d.params (ns.take f.np)&&(decide (ns.length=f.np+f.nl)&&(decide ns.Nodup &&
 (decide (d.scope.kind=.function)&&(!d.scope.isGenerator&&(!d.scope.isCoroutine&&(decide ((d.scope.names.map (·.1)).Nodup) &&
 (d.scope.names.all (λp=>decide (p.2=.globalImplicit)||(s7 (some p.2)&&ns.contains p.1)) &&
 (ns.all (λx=>s7 (d.scope.names.lookup x)) &&
 px ⟨d.scope,ns,hd⟩ f.body d.body)))))))))
noncomputable def KS(x:Stmt):Option hU:=if h:x.ctorIdx=0 then Stmt.FunctionDef.elim (motive_2:=λZ=>Option hU) x h (λn a b Z Z Z sc Z Z Z=>some ⟨n,a,b,sc⟩) else none
noncomputable def defsOf(l:List Stmt):List hU:=l.filterMap KS
noncomputable def w0(ds:List hU)(nss:List (List Str))(fs:List Fn):Bool:=
 (List.range fs.length).all λi=>fj fs[i]? λf=>fj ds[i]? λd=>fj nss[i]? λn=>decide (f.np=999)||DT (s6.contains i) d n f
end Mine
namespace Mine
open PySem PySem.Calls PyProof.Rows
noncomputable abbrev jH(xs:List Value)(n:Nat):Obj:={cls:=.type "tuple",data:=.seq xs.toArray n}
noncomputable abbrev gP(xs:List Value)(n:Nat):Obj:={cls:=.type "list",data:=.seq xs.toArray n}
structure jI where
 prog:Program
 w:World
 jk:Addr
 is:List Int
 mg:Str->Option Value
 mb:Str->Option Value
 bk:Addr
 bN:Addr
 mN:Str->Option Value
 exc:List Addr
 defs:List hU
 s:Shared
noncomputable abbrev jI.M(Y:jI):Model:=model Y.prog Y.w
noncomputable abbrev jI.dC(Y:jI):Heap:=Y.s.heap
noncomputable def mV:List (Str×Value):=[("len",.builtin "len"),("isinstance",.builtin "isinstance"),("int",.type "int"),("bool",.type "bool"),("tuple",.type "tuple"),("list",.type "list"),
 ("range",.type "range"),("enumerate",.type "enumerate"),("ValueError",.type "ValueError"),("sorted",.builtin "sorted"),("any",.builtin "any"),("min",.builtin "min"),("max",.builtin "max"),("set",.type "set")]
noncomputable def jJ(q:Bool×Str):Str:=if q.1 then gK.cls++"."++q.2 else q.2
inductive uZ(Y:jI)(f:Nat)(q:Bool×Str):Prop
 |mk (a:Addr) (o:Obj) (d:hU) (pm cd doc:Value) (e1:Y.defs[f]?=some d) (e3:(if q.1 then Y.mN q.2 else Y.mg q.2)=some (.ref a)) (e4:Y.dC.get? a=some o) (ec:q.1=true->o.cls=.type "function") (e5:o.data=.func (methDef d.name (jJ q) d.params d.body d.scope pm cd doc)) (e6:Y.dC.CodeRec cd (jJ q)):uZ Y f q
noncomputable def w5:List (Str×Option Value):=[("__getattribute__",some (.builtin "BaseException.__getattribute__")),("__getattr__",none),("__class__",some (.builtin "object.__class__"))]
inductive w6(Y:jI)(k:Nat)(x:Str):Prop
 |mk (C:Addr) (bm:List Value) (newId initId B:String) (O:OwnCls x C bm newId Y.mg Y.dC) (F:ExcBaseFacts B newId initId bm) (e:Y.exc[k]?=some C) (v:bm.contains (.type "ValueError")=true/\bm.contains (.type "object")=true)
  (m:∀o cd,Y.dC.get? C=some o->o.data=.cls cd->∀j D,Y.exc[j]?=some D->cd.mro.contains (.ref D)=gM k j)
  (lk:∀q,q∈w5->∀(A:Around) (Ex:Value->Shared->Prop) (h:Heap) (g:Array GenState) (d:Drawn) (t:Nat) (os:OsState) (Q:Option Value->Shared->Prop),(∀b o,Y.dC.get? b=some o->h.get? b=some o)->Q q.2 ⟨h,g,d,t,os⟩->wpAny Y.M A (typeLookup (.ref C) q.1) Q Ex ⟨h,g,d,t,os⟩):w6 Y k x
structure Good(Y:jI):Prop where
 g:Y.dC.Ns mainGlobals Y.mg
 b:Y.dC.Ns builtinsNs Y.mb
 bi:∀p,p∈mV->Y.mg p.1=none/\Y.mb p.1=some p.2
 fn:∀(f:Nat) (q:Bool×Str),gK.kQ[f]?=some q->uZ Y f q
 gk:∀(j:Nat) (x:Str),gK.wG[j]?=some x->(∃i t,uH[j]?=some (.int i)/\Y.mg x=some (.int i t))\/∃(a:Addr) (is:List Int) (vs:List Value) (n:Nat),uH[j]?=some (.aC (is.map .int))/\Y.mg x=some (.ref a)/\Y.dC.get? a=some (jH vs n)/\IntsAre vs is/\is.length<=1000
 ex:∀(k:Nat) (x:Str),gK.pg[k]?=some x->w6 Y k x
 DU:Y.exc.length=gK.pg.length
 bk:Y.mg gK.cls=some (.ref Y.bk)
 bc:ClsAt Y.dC Y.bk Y.bN Y.mN
 bq:∀n,n∈(["__setattr__","__getattribute__","__getattr__"]:List Str)++gK.bT->Y.mN n=none
 nolimit:Y.dC.NoLimit
 seer:Y.dC.NoSeer
 tree:Y.prog.given.tree=none
 fR:∃xs:List Value,Y.dC.IsList Y.jk xs.toArray/\IntsAre xs Y.is
 short:Y.is.length<=63
 low:∃o,Y.dC.get? cStatics=some o
 bm:∃b o,Y.mg "__builtins__"=some (.ref b)/\b≠builtinsNs/\Y.dC.get? b=some o/\o.cls=.type "module"/\o.dict=some builtinsNs/\o.data=.plain
 DV:w0 Y.defs zL wX=true
noncomputable abbrev NE:Value->Shared->Prop:=λZ Z=>False
noncomputable def Run(Y:jI):Prop:=∀(fa:Addr) (Q:Value->Shared->Prop),Y.mg "law"=some (.ref fa)->(∀h' tk,(∀b o,Y.s.heap.get? b=some o->h'.get? b=some o)->Q (.bool true) {Y.s with heap:=h',toks:=tk})->wpAny Y.M callerA (call (.ref fa) [.ref Y.jk]) Q NE Y.s
noncomputable def X:jI:=@Classical.epsilon jI ⟨⟨default,⟨λZ Z=>0,{strHash:=λZ=>0,shareClass:=λZ=>0,mergeTok:=id,idOf:=λZ=>0,idOfShared:=λZ Z=>0,followText:=λZ=>false,idOfImm:=λZ=>0}⟩,0,[],λZ=>none,λZ=>none,0,0,λZ=>none,[],[],{}⟩⟩ λY=>Good Y/\¬Run Y
theorem KU(h:Good X->Run X)(Y:jI)(g:Good Y):Run Y:=byContradiction λn=>
 have e:Good X/\¬Run X:=Classical.epsilon_spec (p:=λY=>Good Y/\¬Run Y) ⟨Y,g,n⟩
 e.2 (h e.1)
end Mine
namespace Mine
open PySem
noncomputable def KW(c:Str)(x:Stmt):List Stmt:=if h:x.ctorIdx=2 then Stmt.ClassDef.elim (motive_2:=λZ=>List Stmt) x h (λn Z Z b Z Z Z Z Z Z Z=>if n=c then b else[]) else[]
noncomputable def zQ(q:Program)(c:Str):List Stmt:=q.main.body.flatMap (KW c)
theorem KX:w0 (defsOf PySem.Challenge.pw_uf020001_13.main.body++defsOf (zQ PySem.Challenge.pw_uf020001_13 gK.cls)) zL wX=true:=by decide +kernel
end Mine
namespace Mine.H
open PySem PySem.W PyProof.Rows
noncomputable abbrev pp:Program:=PySem.Challenge.pw_uf020001_13
noncomputable def ob(c:Value)(d:Data):Obj:=⟨c,none,d,#[]⟩
noncomputable def tu(l:List Value):Obj:=ob (.type "tuple") (.seq l.toArray 0)
noncomputable def fl(c:Value)(l:List Value):Obj:=ob c (.fields l.toArray)
noncomputable def ri(n:Nat):Value:=.int n 0
noncomputable def ss(l:List Str):Nat->List Value:=List.rec (λZ=>[]) (λs Z f t=>.str s t::f (t+1)) l
noncomputable def en(n:Str)(t:Nat)(v:Value)(P:Params):DictEntry:=⟨PyData.keyHash P n,.str n t,v⟩
noncomputable abbrev er(n:Str)(t a:Nat):=en n t (.ref a)
noncomputable abbrev ei(n:Str)(t:Nat)(i:Int)(u:Nat):=en n t (.int i u)
noncomputable def di(P:Params)(l:List (Params->DictEntry))(ep:Nat):Obj:=ob (.type "dict") (.dict (l.map λf=>f P).toArray ep)
noncomputable def fi:Str:="/claim/cut.py"
noncomputable def co(nm qn:Str)(t ln np fg fr:Nat)(f:Bool)(v1 v2 v3:Value)(u:Nat):Obj:=fl (.type "code") [.str nm t,.str qn (t+1),.str fi (t+2),ri ln,ri np,ri 0,ri 0,ri fg,.ref fr,.bool f,ri 181,.ref (fr+1),.none,v1,v2,v3,ri u,ri ln,.str fi (u+1)]
noncomputable def fx(o:Option hU)(qn:hU->Str)(full:Bool)(a t ln:Nat)(pm:Value)(vs:List Str)(tl:List Obj):List Obj:=
 o.elim tl λd=>tu []::fl .none []::cond full
  (tu (ss vs (t+3))::tu []::ob .none (.func {name:=d.name,qualname:=qn d,params:=d.params,body:=.stmts d.body,scope:=d.scope,globals:=builtinsNs,closure:=[],defaults:=.none,kwdefaults:=.none})::co d.name (qn d) t ln d.params.args.length 3 a true (.ref (a+2)) (.ref (a+3)) (.ref (a+4)) (t+3+vs.length)::ob (.type "function") (.func (methDef d.name (qn d) d.params d.body d.scope pm (.ref (a+5)) .none))::tl)
  (ob .none (.func {name:=d.name,qualname:=qn d,params:=d.params,body:=.stmts d.body,scope:=d.scope,globals:=builtinsNs,closure:=[],defaults:=.none,kwdefaults:=.none})::co d.name (qn d) t ln d.params.args.length 3 a true .none .none (.ref (a+2)) (t+3)::ob (.type "function") (.func (methDef d.name (qn d) d.params d.body d.scope pm (.ref (a+3)) .none))::tl)
noncomputable abbrev fd(k:Nat):=fx (defsOf pp.main.body)[k]? (·.name)
noncomputable abbrev fm(k:Nat)(q:Str):=fx (defsOf (zQ pp gK.cls))[k]? λZ=>q
noncomputable abbrev cn(o:Obj)(tl:List Obj):List Obj:=o::tl
noncomputable def bf(s:String)(v:Value):Obj:=fl (.type "builtin_function_or_method") [.builtin s,v]
noncomputable def fr(c l:Nat)(m:Value):Obj:=⟨.type "frame",none,.plain,#[some (.ref c),some (.ref 3),some (.ref l),none,some m,none,some (.ref 0)]⟩
noncomputable def cl(nm:Str)(C N:Nat)(bs mro sb:List Value)(b:Option Value)(t:Nat)(new:String)(tl:List Obj):List Obj:=⟨.type "type",none,.cls {name:=nm,bases:=bs,mro:=.ref C::mro,ns:=N,qualname:=nm,subclasses:=sb},#[b,none,some (.str nm t),some (.str nm (t+8)),some (.builtin new),some (.bool true)]⟩::tl
noncomputable def su(C:Nat)(tl:List Obj):List Obj:=fl (.type "super") [.ref C,.ref C,.ref C]::bf "object.__init_subclass__" (.ref C)::tl
noncomputable def gs(n:Str)(t C:Nat)(g:String)(s:Value)(tl:List Obj):List Obj:=fl (.type "getset_descriptor") [.str n t,.ref C,.builtin g,s]::tl
noncomputable def ch(P:Params)(nm:Str)(b:Obj)(a t ln:Nat)(m:Value)(ms:List (Params->DictEntry))(sa sA ep:Nat)(tab:List Value)(vs:List Value)(more:List (Params->DictEntry))(mid:List Obj->List Obj)(tl:List Obj):List Obj:=
 b::bf "type.__prepare__" (.type "type")::di P (en "__module__" (t+7) m::en "__qualname__" (t+9) (.str nm (t+8))::en "__firstlineno__" (t+11) (.int ln (t+10))::(ms++[er "__static_attributes__" sa sA])) (4+ms.length)
  :: tu []::fl .none tab::co nm nm (t+2) ln 0 0 (a+3) false .none .none .none (t+5)::fr (a+5) (a+2) m::mid (tu vs::di P (en "__module__" (t+7) m::en "__firstlineno__" (t+11) (.int ln (t+10))::(ms++er "__static_attributes__" sa sA::more)) ep::tl)
noncomputable def mE:Value:=.str "estateroll.errors" 264
noncomputable def vm:List Value:=[.type "ValueError",.type "Exception",.type "BaseException",.type "object"]
noncomputable def xe(P:Params)(sb:List Value)(a t ln:Nat)(tl:List Obj):List Obj:=
 ch P "EstateError" (tu [.type "ValueError"]) a t ln mE [] (t+12) (a+7) 3 [] [] [er "__weakref__" (t+14) (a+10),en "__doc__" (t+15) .none] id <| cl "EstateError" (a+9) (a+8) [.type "ValueError"] vm sb (some (.ref a)) t "ValueError.__new__" <| gs "__weakref__" (t+13) (a+9) "ExceptionGroup.__weakref__" .none <| su (a+9) tl
noncomputable def xc(P:Params)(nm:Str)(a t ln:Nat)(tl:List Obj):List Obj:=
 ch P nm (tu [.ref 69]) a t ln mE [] (t+12) (a+7) 2 [] [] [en "__doc__" (t+13) .none] id <| cl nm (a+9) (a+8) [.ref 69] (.ref 69::vm) [] (some (.ref a)) t "ValueError.__new__" <| su (a+9) tl
noncomputable def DW(c:Nat)(l:List (Nat×Nat)):List Value:=l.flatMap λp=>[ri p.1,ri c,.ref p.2]
noncomputable def m0:Value:=.str "__main__" 164
noncomputable def m1:Value:=.str "estateroll.kin" 187
noncomputable def m2:Value:=.str "estateroll.degrees" 236
noncomputable def m3:Value:=.str "estateroll.parts" 412
noncomputable def m4:Value:=.str "estateroll.lines" 457
noncomputable def m5:Value:=.str "estateroll.deals" 489
noncomputable def m6:Value:=.str "estateroll.books" 560
noncomputable def m7:Value:=.str "law_uf020001_13" 769
noncomputable def e3:List (Params->DictEntry):=[en "__doc__" 166 (.none),en "__package__" 167 (.none),en "__loader__" 168 (.builtin "__main__.__loader__#opaque"),en "__spec__" 169 (.none),en "__annotations__" 170 (.ref 6),en "__builtins__" 171 (.ref 4),en "__file__" 173 (.str "/claim/cut.py" 172),en "__cached__" 174 (.none),er "lives" 201 21,er "parents_on" 214 28,er "children_on" 225 35,er "has_line" 235 42,er "steps_from" 243 47,er "further" 257 54,er "nearest" 263 59,er "EstateError" 283 69,er "NoPerson" 299 82,er "NoDay" 315 94,er "NoParents" 331 106,er "NoMatch" 347 118,er "NoWill" 363 130,er "Again" 379 142,er "Full" 395 154,er "NotDead" 411 166,er "part" 424 175,er "added" 432 182,er "less" 440 189,er "times" 448 196,er "shared" 456 203,er "WHOLE" 461 204,er "lines_to" 467 209,er "by_lines" 476 216,er "others_of" 482 221,er "by_parents" 488 226,er "NOTHING" 493 227,er "spouse_on" 505 234,er "will_on" 519 241,er "given" 525 246,er "kin_of" 531 251,er "spouse_part" 539 258,er "dealt" 559 265,ei "MOST_DAY" 563 100000 562,ei "MOST_PEOPLE" 565 60 564,ei "MOST_GIFTS" 567 10 566,ei "MOST_NUMBER" 569 1000 568,er "is_whole" 578 272,er "need_day" 585 279,er "are_alike" 592 286,er "copied" 598 291,er "Book" 768 400,er "_law_cell_at" 778 411,er "_law_whole" 785 418,er "_law_stream" 796 425,er "_law_some" 807 432,er "_law_people" 813 437,er "_law_adopting" 819 442,er "_law_lives" 828 449,er "_law_parents" 837 456,er "_law_children" 848 463,er "_law_lined" 860 470,er "_law_ends" 866 475,er "_law_meets" 875 482,er "_law_weddings" 892 489,er "_law_gifts" 898 494,er "_law_wills" 904 499,er "_law_lowest" 915 506,er "_law_is_part" 923 513,er "_law_roll" 934 520,er "_law_dead" 940 525,er "_law_class" 948 532,er "_law_called" 956 539,er "_law_tell" 966 546,er "_law_deeds" 972 551,er "_law_alone_wills" 978 556,er "_law_told_turned" 989 563,er "law" 1005 570]
noncomputable def tb:List (Nat×Nat):=[(2,20),(5,27),(10,34),(16,41),(24,46),(30,53),(38,58),(52,65),(54,78),(56,90),(58,102),(60,114),(62,126),(64,138),(66,150),(68,162),(71,174),(79,181),(81,188),(83,195),(85,202),(89,208),(100,215),(102,220),(104,225),(121,233),(128,240),(136,245),(148,250),(157,257),(165,264),(190,271),(192,278),(195,285),(197,290),(199,297),(335,410),(339,417),(341,424),(348,431),(356,436),(374,441),(383,448),(387,455),(391,462),(397,469),(408,474),(411,481),(413,488),(427,493),(436,498),(445,505),(453,512),(457,519),(462,524),(464,531),(470,538),(480,545),(486,550),(497,555),(503,562),(515,569)]
noncomputable def bm:List (Params->DictEntry):=[er "__init__" 617 305,er "need_person" 625 312,er "put" 634 319,er "told" 644 326,er "born" 654 333,er "adopted" 669 340,er "end_of" 675 345,er "married" 688 352,er "died" 706 359,er "need_gifts" 712 364,er "will" 727 371,er "anew" 734 378,er "roll" 741 385,er "dead" 747 390,er "deal" 755 397]
noncomputable def bk(P:Params)(a t ln:Nat)(ms:List Obj->List Obj)(tl:List Obj):List Obj:=
 ch P "Book" (tu []) a t ln m6 bm 761 398 4 (DW 4 [(201,304),(208,311),(212,318),(215,325),(225,332),(240,339),(258,344),(262,351),(275,358),(292,363),(309,370),(320,377),(323,384),(326,389),(329,396)]) (ss ["deals","fresh","marriages","people","wills"] 756) [er "__dict__" 763 401,er "__weakref__" 765 402,en "__doc__" 766 .none] ms <| cl "Book" 400 399 [.type "object"] [.type "object"] [] none t "object.__new__" <| gs "__dict__" 762 400 "function.__dict__" (.builtin "function.__dict__#set") <| gs "__weakref__" 764 400 "ExceptionGroup.__weakref__" .none <| su 400 tl
noncomputable def c0(P:Params)(sb:List Value)(tl:List Obj):List Obj:=
 fd 0 true 15 189 2 m1 ["people","person","day","born","parents","adopted","died"] <| fd 1 true 22 202 5 m1 ["people","person","day","born","parents","adopted","died"] <| fd 2 true 29 215 10 m1 ["people","person","day","found","child"] <| fd 3 true 36 226 16 m1 ["people","person","day","child"] <| fd 4 false 43 238 24 m2 [] <| fd 5 true 48 244 30 m2 ["people","known","ways","day","found","state","other","way"] <| fd 6 false 55 258 38 m2 [] <| xe P sb 60 266 52 <| xc P "NoPerson" 73 284 54 <| xc P "NoDay" 85 300 56 <| tl
noncomputable def c1(P:Params)(tl:List Obj):List Obj:=
 xc P "NoParents" 97 316 58 <| xc P "NoMatch" 109 332 60 <| xc P "NoWill" 121 348 62 <| xc P "Again" 133 364 64 <| tl
noncomputable def c2(P:Params)(tl:List Obj):List Obj:=
 xc P "Full" 145 380 66 <| xc P "NotDead" 157 396 68 <| fd 7 true 169 414 71 m3 ["over","under","one","other","rest"] <| fd 8 true 176 425 79 m3 ["one","other"] <| fd 9 true 183 433 81 m3 ["one","other"] <| fd 10 true 190 441 83 m3 ["one","other"] <| fd 11 true 197 449 85 m3 ["one","many"] <| cn (tu [.int 1 459,.int 1 460]) <| fd 12 false 205 462 89 m4 [] <| fd 13 true 210 468 100 m4 ["people","person","day"] <| fd 14 false 217 477 102 m4 [] <| fd 15 false 222 483 104 m4 [] <| cn (tu [.int 0 491,.int 1 492]) <| fd 16 true 228 494 121 m5 ["roll","person","day","one","other","begun"] <| fd 17 true 235 506 128 m5 ["roll","person","day","latest","found","one","told","gifts"] <| fd 18 false 242 520 136 m5 [] <| fd 19 false 247 526 148 m5 [] <| fd 20 true 252 532 157 m5 ["how","kin"] <| fd 21 true 259 540 165 m5 ["roll","person","people","day","rows","total","rest","how","kin","spouse","piece","heir","share","line"] <| tl
noncomputable def c3(P:Params)(tl:List Obj):List Obj:=
 fd 22 true 266 570 190 m6 ["thing","low","high"] <| fd 23 true 273 579 192 m6 ["day"] <| fd 24 true 280 586 195 m6 ["persons"] <| fd 25 false 287 593 197 m6 [] <| bk P 292 599 199 (λtl=>fm 0 "Book.__init__" true 299 611 201 m6 ["self"] <| fm 1 "Book.need_person" true 306 618 208 m6 ["self","person"] <| fm 2 "Book.put" true 313 626 212 m6 ["self","person","row"] <| fm 3 "Book.told" true 320 635 215 m6 ["self","deals","person","rows"] <| fm 4 "Book.born" true 327 645 225 m6 ["self","day","parents","parent"] <| fm 5 "Book.adopted" true 334 655 240 m6 ["self","child","day","parents","parent","born","first","own","died"] <| fm 6 "Book.end_of" false 341 670 258 m6 [] <| fm 7 "Book.married" true 346 676 262 m6 ["self","one","other","day","first","second","begun"] <| fm 8 "Book.died" true 353 689 275 m6 ["self","person","day","born","parents","own","dead","one","told","gifts","other","begun"] <| fm 9 "Book.need_gifts" false 360 707 292 m6 [] <| fm 10 "Book.will" true 365 713 309 m6 ["self","person","day","gifts","gift","born","parents","own","died"] <| fm 11 "Book.anew" true 372 728 320 m6 ["self"] <| fm 12 "Book.roll" true 379 735 323 m6 ["self"] <| fm 13 "Book.dead" false 386 742 326 m6 [] <| fm 14 "Book.deal" true 391 748 329 m6 ["self","person"] <| tl) <| tl
noncomputable def c4(P:Params)(tl:List Obj):List Obj:=
 fd 26 true 405 771 335 m7 ["_law_script","_law_k"] <| fd 27 true 412 779 339 m7 ["_law_found"] <| fd 28 true 419 786 341 m7 ["_law_cell","_law_many","_law_found","_law_number","_law_k"] <| fd 29 true 426 797 348 m7 ["_law_elders","_law_y","_law_fewest","_law_one","_law_other"] <| fd 30 false 433 808 356 m7 [] <| fd 31 false 438 814 374 m7 [] <| fd 32 true 443 820 383 m7 ["_law_people_here","_law_person","_law_day"] <| fd 33 true 450 829 387 m7 ["_law_people_here","_law_person","_law_day"] <| fd 34 true 457 838 391 m7 ["_law_people_here","_law_person","_law_day","_law_found","_law_one"] <| fd 35 true 464 849 397 m7 ["_law_people_here","_law_day","_law_lined_here","_law_one","_law_turn","_law_parent"] <| fd 36 false 471 861 408 m7 [] <| fd 37 true 476 867 411 m7 ["_law_people_here","_law_one","_law_other"] <| fd 38 true 483 876 413 m7 ["_law_people_here","_law_cell","_law_many","_law_found","_law_x","_law_one","_law_other","_law_day","_law_new","_law_fits","_law_marriage"] <| fd 39 false 490 893 427 m7 [] <| fd 40 false 495 899 436 m7 [] <| fd 41 true 500 905 445 m7 ["_law_over","_law_under","_law_a","_law_b","_law_c"] <| fd 42 true 507 916 453 m7 ["_law_found","_law_due"] <| fd 43 true 514 924 457 m7 ["_law_script","_law_most","_law_many","_law_people_here","_law_weddings_here"] <| fd 44 false 521 935 462 m7 [] <| fd 45 true 526 941 464 m7 ["_law_e","_law_told"] <| fd 46 true 533 949 470 m7 ["_law_book","_law_deed"] <| fd 47 true 540 957 480 m7 ["_law_book","_law_deed","_law_found","_law_e"] <| fd 48 false 547 967 486 m7 [] <| fd 49 false 552 973 497 m7 [] <| fd 50 true 557 979 503 m7 ["_law_book","_law_deeds_here","_law_left","_law_deed","_law_told"] <| fd 51 true 564 990 515 m7 ["_law_script","_law_roll_here","_law_deeds_here","_law_many","_law_others","_law_at","_law_turned","_law_one","_law_other","_law_person"] <| tl
noncomputable def st(P:Params)(nm:Value)(k m:Nat)(rest:List Obj):List Obj:=
 boot_o_0 P::boot_o_1 P::boot_o_2 P::di P (en "__name__" 165 nm::e3.take k) (k+1)::boot_o_4 P::boot_o_5 P::boot_o_6 P::boot_o_7 P::boot_o_8 P::boot_o_9 P::boot_o_10 P::tu []::fl .none (DW 0 (tb.take m))::co "<module>" "<module>" 182 1 0 0 11 false .none .none .none 185::fr 13 3 m0::rest
noncomputable def sp(l:List Obj):List Obj×List Obj:=List.rec ([],[]) (λx Z p=>(x::p.2,p.1)) l
noncomputable def tr(n:Nat):List Obj->BT:=Nat.rec (λZ=>.nil) (λZ f l=>List.rec .nil (λx t Z=>.node x (f (sp t).1) (f (sp t).2)) l) n
noncomputable def tf(l:Params->List Obj)(n k:Nat)(w:World)(os:OsState):SharedT:=⟨tr 11 (l w.params),n,(boot_heap w.params).life,Array.mk [],boot_drawn,k,os⟩
noncomputable def th:List Value:=[.ref 82,.ref 94,.ref 106,.ref 118,.ref 130,.ref 142,.ref 154,.ref 166]
noncomputable def an:Option Value:=some (.ref 6)
noncomputable def bE:List Stmt:=behindTheImports pp
noncomputable def env:Env:={scope:=pp.main.scope,locals:=mainNs,globals:=mainNs,cells:=[],code:=.ref 13,frame:=some 14}
noncomputable def cE:Code:=.body bE env
noncomputable def ps(a b c d:Nat):Pos:={line:=a,col:=b,endLine:=c,endCol:=d}
noncomputable def l0(P:Params):List Obj:=st P m0 8 0 []
noncomputable def l1(P:Params):List Obj:=st P mE 18 10 (c0 P (th.take 2) [])
noncomputable def l2(P:Params):List Obj:=st P mE 22 14 (c0 P (th.take 6) (c1 P []))
noncomputable def l3(P:Params):List Obj:=st P m5 41 31 (c0 P (th.take 8) (c1 P (c2 P [])))
noncomputable def l4(P:Params):List Obj:=st P m6 50 36 (c0 P (th.take 8) (c1 P (c2 P (c3 P []))))
noncomputable def l5(P:Params):List Obj:=st P m7 76 62 (c0 P (th.take 8) (c1 P (c2 P (c3 P (c4 P [])))))
noncomputable abbrev s0:=tf l0 15 187
noncomputable abbrev s1:=tf l1 97 316
noncomputable abbrev s2:=tf l2 145 380
noncomputable abbrev s3:=tf l3 266 560
noncomputable abbrev s4:=tf l4 405 769
noncomputable abbrev s5:=tf l5 571 1006
noncomputable def H1(P:Params):Heap:=⟨Array.mk (l5 P),(boot_heap P).life⟩
end Mine.H
namespace Mine
open PySem
noncomputable def aH{α:Type}(o:Option α)(f:α->Prop):Prop:=match o with|some a=>f a|none=>False
noncomputable def bB(t:Bool)(A B:Prop):Prop:=match t with|true=>A|false=>B
noncomputable def fu(t:Bool)(A:Prop):Prop:=match t with|true=>A|false=>False
noncomputable def fv(x:V)(f:Int->Prop):Prop:=match x with | .int i=>f i|_=>False
noncomputable def w1(vs:List V)(f:V->Prop):Prop:=match vs with | [x]=>f x|_=>False
noncomputable def w2(vs:List V)(f:V->V->Prop):Prop:=match vs with | [x,y]=>f x y|_=>False
noncomputable def KY{α:Type}(l:List α)(A B:Prop):Prop:=match l with | []=>A|_::_=>B
noncomputable def mi{α:Type}(l:List α):Bool:=decide (l.length<16000000)
noncomputable def zR(a b:Int):Bool:=!(decide (Builtin.Int.intBits a>shortFactorBits)&&decide (Builtin.Int.intBits b>shortFactorBits)&&Builtin.Int.intTooBig (Builtin.Int.intBits a+Builtin.Int.intBits b))
noncomputable def eY(f:V->Option PyData):List V->Option (List PyData)
 |[]=>some []
 |v::r=>match f v,eY f r with
  |some d,some ds=>some (d::ds)
  |_,_=>none
noncomputable def pz:aT->Option (List V)
 |.list vs=>some vs
 |_=>none
noncomputable def gQ:aT->Option (List (Int×V))
 |.dict _ es=>some es
 |_=>none
noncomputable def jl:aT->Option (List ((Int×Bool)×V))
 |.cL _ es=>some es
 |_=>none
noncomputable def mW:aT->Option Nat
 |.exc k=>some k
 |_=>none
noncomputable def pA:aT->Option Nat
 |.obj t=>some t
 |_=>none
noncomputable def pB:aT->Option aO
 |.bT fs=>some fs
 |_=>none
noncomputable def cellAt{β:Type}(f:aT->Option β)(H:Hp):V->Option β
 |.ref l=>H[l]?.bind f
 |_=>none
noncomputable abbrev cS(H:Hp):V->Option (List V):=cellAt pz H
noncomputable abbrev jL(H:Hp):V->Option (List (Int×V)):=cellAt gQ H
noncomputable abbrev excAt(H:Hp):V->Option Nat:=cellAt mW H
noncomputable abbrev cy(H:Hp):V->Option Nat:=cellAt pA H
noncomputable abbrev pC(H:Hp):V->Option (List ((Int×Bool)×V)):=cellAt jl H
noncomputable def xi:V->Option PyData
 |.none=>some .none
 |.bool b=>some (.bool b)
 |.int i=>some (.int i)
 |.str s=>if PyData.strOk s=true then some (.str s) else none
 |_=>none
noncomputable def rd(H:Hp):Nat->V->Option PyData
 |0,v=>xi v
 |n+1,.aC vs=>(eY (rd H n) vs).map .tuple
 |n+1,.ref l=>(cS H (.ref l)).bind λvs=>(eY (rd H n) vs).map .list
 |_+1,v=>xi v
noncomputable def truthy(H:Hp):V->Option Bool
 |.none=>some false
 |.bool b=>some b
 |.int i=>some (i != 0)
 |.aC vs=>some (!vs.isEmpty)
 |.ref l=>(cS H (.ref l)).map λvs=>!vs.isEmpty
 |_=>none
noncomputable def kU(H:Hp):V->Option (List V)
 |.aC vs=>some vs
 |.ref l=>cS H (.ref l)
 |.fR=>some (X.is.map .int)
 |_=>none
section
variable{K:Type}[DecidableEq K]
noncomputable def fI(es:List (K×V))(k:K):Option V:=(es.find? (λp=>decide (p.1=k))).map (·.2)
noncomputable def dput(es:List (K×V))(k:K)(v:V):List (K×V):=if es.any (λp=>decide (p.1=k)) then es.map (λp=>if p.1=k then(p.1,v) else p) else es++[(k,v)]
noncomputable def ee(es:List (K×V))(k:K):Bool:=es.any λp=>decide (p.1=k)
end
noncomputable def boolOf:V->Option Bool
 |.bool b=>some b
 |_=>none
noncomputable def pD:V->Option (List V)
 |.aC vs=>some vs
 |_=>none
noncomputable def two{α β:Type}(l:List α)(f:α->α->Option β):Option β:=match l with
 |[a,b]=>f a b
 |_=>none
noncomputable def pairOf(x:V):Option (Int×Bool):=(pD x).bind λvs=>two vs λa b=>(intOf a).bind λi=>(boolOf b).map λb=>(i,b)
noncomputable def allInts:List V->Option (List Int)
 |[]=>some []
 |v::r=>(intOf v).bind λi=>(allInts r).map (i::·)
noncomputable def i0:List V->Option (List Bool)
 |[]=>some []
 |v::r=>(boolOf v).bind λb=>(i0 r).map (b::·)
noncomputable def jM(H:Hp)(x:V):Option (List Int):=(cS H x).bind allInts
noncomputable def kg:List Int->List Int->Bool
 |_,[]=>false
 |[],_::_=>true
 |a::r,b::t=>if a=b then kg r t else decide (a<b)
noncomputable def zS(x y:V)(H:Hp):Option Bool:=match x,y with
 |.int a,.int b=>some (decide (a<b))
 |.ref l,.ref m=>(jM H (.ref l)).bind λa=>(jM H (.ref m)).map λb=>kg a b
 |_,_=>none
noncomputable def pE(x y:V)(f:Int->Int->Bool):Option Bool:=(intOf x).bind λa=>(intOf y).map λb=>f a b
noncomputable def il(H:Hp)(x:V):Option Bool:=match jL H x with
 |some es=>some es.isEmpty
 |none=>(pC H x).map (·.isEmpty)
noncomputable def kW(H:Hp)(x y:V):Option Bool:=match il H x with
 |some a=>(il H y).bind λb=>if a||b then some (a&&b) else none
 |none=>(rd H 10 x).bind λd=>(rd H 10 y).map λe=>PyData.eqv d e
noncomputable def pF(H:Hp)(x y:V):Option Bool:=match jL H y with
 |some es=>(intOf x).map λk=>ee es k
 |none=>match pC H y with
  |some es=>(pairOf x).map λq=>ee es q
  |none=>(kU H y).bind λvs=>(eY (rd H 10) vs).bind λds=>(rd H 10 x).map λd=>ds.any λe=>PyData.eqv e d
noncomputable def eQ(op:lY)(x y:V)(H:Hp):Option Bool:=match op with
 |.eq=>kW H x y
 |.ne=>(kW H x y).map (!·)
 |.lt=>zS x y H
 |.gt=>pE x y λa b=>decide (a>b)
 |.le=>pE x y λa b=>decide (a<=b)
 |.ge=>pE x y λa b=>decide (a≥b)
 |.j8=>pF H x y
 |.gL=>(pF H x y).map (!·)
noncomputable def kX{α:Type}(l:List α)(k:Int):Option α:=
 if 0<=k then l[k.toNat]? else if -(l.length:Int)<=k then l[(k+l.length).toNat]? else none
noncomputable def gB(x i:V)(H:Hp):Option V:=match i with
 |.int k=>match kU H x with
  |some vs=>kX vs k
  |none=>(jL H x).bind λes=>fI es k
 |i=>(pairOf i).bind λq=>(pC H x).bind λes=>fI es q
noncomputable def tj(n:Nat)(d:Nat):Option Int->Nat
 |none=>d
 |some k=>(max (0:Int) (min (if k<0 then k+n else k) n)).toNat
noncomputable def iH{α:Type}(l:List α)(lo hi:Option Int):List α:=
 (l.take (tj l.length l.length hi)).drop (tj l.length 0 lo)
noncomputable def xj:V->Option (Option Int)
 |.none=>some none
 |.int k=>if k.natAbs<2^60 then some (some k) else none
 |_=>none
mutual
noncomputable def aS:cX->V->aO->Option aO
 |.J i,v,ρ=>if i<ρ.length then some (ρ.set i (some v)) else none
 |.aC ts,.aC vs,ρ=>u0 ts vs ρ
 |.aC _,_,_=>none
noncomputable def u0:List cX->List V->aO->Option aO
 |[],[],ρ=>some ρ
 |t::ts,v::vs,ρ=>(aS t v ρ).bind (u0 ts vs)
 |_,_,_=>none
end
noncomputable def qO(x i v:V)(H:Hp)(k:Hp->Prop):Prop:=match x with
 |.ref l=>aH H[l]? λc=>match c with
  |.list xs=>fv i λj=>(0<=j/\j<xs.length)/\k (H.set l (.list (xs.set j.toNat v)))
  |.dict _ es=>fv i λj=>fu (mi es) (∀ep,k (H.set l (.dict ep (dput es j v))))
  |.cL _ es=>aH (pairOf i) λj=>fu (mi es) (∀ep,k (H.set l (.cL ep (dput es j v))))
  |_=>False
 |_=>False
noncomputable def kh(q:Int×Bool):V:=.aC [.int q.1,.bool q.2]
noncomputable def keysOf(H:Hp)(x:V):Option (List V):=match jL H x with
 |some es=>some (es.map λp=>.int p.1)
 |none=>match pC H x with
  |some es=>some (es.map λp=>kh p.1)
  |none=>kU H x
noncomputable def copyOf(H:Hp)(x:V):Option (List V):=match jL H x with
 |some es=>some (es.map λp=>.int p.1)
 |none=>match pD x with
  |some vs=>some vs
  |none=>cS H x
noncomputable def watch:V->List Nat
 |.ref l=>[l]
 |_=>[]
noncomputable def eZ(ws:List Nat)(H₀ H:Hp):Bool:=ws.all λl=>decide (H[l]?=H₀[l]?)
noncomputable def pG(a b:Int):List V:=(List.range (b - a).toNat).map λ(i:Nat)=>.int (a+(i:Int))
noncomputable def qP:Nat->List V->List V
 |_,[]=>[]
 |k,v::r=>.aC [.int k,v]::qP (k+1) r
noncomputable def weight:aO->Nat
 |[]=>1000
 |some (.int i)::r=>i.natAbs+weight r
 |_::r=>weight r
noncomputable def kY(vs:List V)(H:Hp)(Q:PQ):Prop:=Q (.ref H.length) (H++[.list vs])
noncomputable def kj(vs:List V)(H:Hp)(Q:PQ):Prop:=fu (mi vs) (kY vs H Q)
noncomputable def binI(op:lX)(a b:Int):Option Int:=match op with
 |.add=>some (a+b)
 |.sub=>some (a - b)
 |.mul=>if zR a b then some (a*b) else none
 |.fdiv=>if b=0 then none else some (a.fdiv b)
 |.mod=>if b=0 then none else some (a.fmod b)
 |.pow=>if a=10/\0<=b/\b<=64 then some (10^b.toNat) else none
noncomputable def DX(op:lX)(xs:List V)(y:V)(H:Hp)(Q:PQ):Prop:=match op with
 |.add=>aH (cS H y) λys=>kj (xs++ys) H Q
 |.mul=>fv y λn=>(n=2/\xs.length<=1000)/\kY (xs++xs) H Q
 |_=>False
noncomputable def u2(op:lX)(x y:V)(H:Hp)(Q:PQ):Prop:=match x with
 |.int a=>fv y λb=>aH (binI op a b) λi=>Q (.int i) H
 |x=>aH (cS H x) λxs=>DX op xs y H Q
noncomputable def DY(H:Hp)(t:Ty)(x:V):Option Bool:=match x,t with
 |.bool _,.bool=>some true
 |.bool _,.int=>some true
 |.int _,.int=>some true
 |.ref l,.list=>(cS H (.ref l)).map λZ=>true
 |.ref l,_=>(cS H (.ref l)).map λZ=>false
 |.fR,_=>none
 |_,_=>some false
noncomputable def minOf(is:List Int)(d:Int):Int:=match is with
 |[]=>d
 |a::r=>r.foldl min a
noncomputable def hZ:List Int->List Int->Bool
 |a::r,b::t=>if a=b then hZ r t else decide (a<b)
 |[],_::_=>true
 |[],[]=>false
 |_::_,[]=>false
noncomputable def KV(m:Nat)(u:V)(k:List Int):Prop:=∃rest,u=.aC (k.map .int++rest)/\k.length=m+1
noncomputable def u3(m:Nat)(us:List V)(ks:List (List Int)):Prop:=us.length=ks.length/\∀(i:Nat) u k,us[i]?=some u->ks[i]?=some k->KV m u k
noncomputable def u4(m:Nat)(us:List V)(H:Hp)(Q:PQ):Prop:=∃ks,u3 m us ks/\us.length<64/\ks.Nodup/\∀js DZ,u3 m js DZ->js.Perm us->DZ.Pairwise (λa b=>hZ b a=false)->kY js H Q
noncomputable def D0(b:Bi)(vs:List V)(H:Hp)(Q:PQ):Prop:=match b with
 |.len=>w1 vs λx=>aH (kU H x) λl=>Q (.int l.length) H
 |.nP t=>w1 vs λx=>aH (DY H t x) λb=>Q (.bool b) H
 |.any=>w1 vs λx=>aH ((cS H x).bind i0) λbs=>Q (.bool (bs.any id)) H
 |.max2=>w2 vs λx y=>fv x λa=>fv y λb=>Q (.int (max a b)) H
 |.mP=>w2 vs λx d=>fv d λd=>aH (jM H x) λis=>Q (.int (minOf is d)) H
 |.tupleOf=>w1 vs λx=>aH (cS H x) λxs=>Q (.aC xs) H
 |.zh=>w1 vs λx=>aH (boolOf x) λb=>Q (.int (if b then 1 else 0)) H
 |.wF=>w1 vs λx=>aH (jM H x) λis=>is.length<64/\∀js:List Int,js.Perm is->js.Pairwise (·<=·)->kY (js.map .int) H Q
 |.jF m=>w1 vs λx=>aH (cS H x) λus=>u4 m us H Q
 |.lZ=>w1 vs λx=>aH (jM H x) λis=>is.length<=1000/\∀n:Nat,(n=is.length↔is.Nodup)->Q (.int n) H
noncomputable def xk(x:V)(vs:List V)(H:Hp)(Q:PQ):Prop:=match x with
 |.ref l=>Q .none (H.set l (.list vs))
 |_=>False
noncomputable def pH(m:Me)(x:V)(vs:List V)(H:Hp)(Q:PQ):Prop:=aH (cS H x) λxs=>w1 vs λv=>match m with
 |.append=>fu (mi xs) (xk x (xs++[v]) H Q)
 |.count=>aH (boolOf v) λb=>aH (i0 xs) λbs=>xs.length<=1000/\Q (.int (bs.count b)) H
 |.index=>aH (boolOf v) λb=>aH (i0 xs) λbs=>xs.length<=1000/\aH (bs.idxOf? b) λi=>Q (.int i) H
noncomputable def qQ(x lo hi:V)(H:Hp)(Q:PQ):Prop:=aH (xj lo) λl=>aH (xj hi) λh=>match x with
 |.aC vs=>aH h λk=>fu (l.isNone&&decide (0<=k)) (Q (.aC (vs.take k.toNat)) H)
 |x=>aH (kU H x) λvs=>kj (iH vs l h) H Q
noncomputable def xl(x y:V)(f:List V->Prop):Prop:=fv x λi=>fv y λj=>(i.natAbs<2^60/\j.natAbs<2^60)/\f (pG i j)
noncomputable def kZ(o:Out)(f:aO->Hp->Prop)(A:Prop):Prop:=match o with | .next ρ H=>f ρ H | .ret _ _=>A
noncomputable def bH(Q:PQ)(o:Out):Prop:=match o with | .ret v H=>Q v H | .next _ H=>Q .none H
noncomputable def n0(K:Out->Prop)(N:aO->Hp->Prop)(o:Out):Prop:=match o with
 |.next ρ H=>N ρ H
 |.ret v H=>K (.ret v H)
noncomputable def ip(ws:List Nat)(H₀:Hp)(t:cX)(test:aO->Hp->(Bool->Hp->Prop)->Prop)(elt:aO->Hp->PQ->Prop):List V->aO->Hp->List V->(List V->Hp->Prop)->Prop
 |[],_,H,aL,Q=>Q aL H
 |v::vs,ρ,H,aL,Q=>aH (aS t v ρ) λb9=>test b9 H λb H₁=>
   bB b (elt b9 H₁ λy H₂=>eZ ws H₀ H₂=true/\ip ws H₀ t test elt vs b9 H₂ (aL++[y]) Q) (eZ ws H₀ H₁=true/\ip ws H₀ t test elt vs b9 H₁ aL Q)
noncomputable def mX(ws:List Nat)(H₀:Hp)(t:cX)(body:aO->Hp->(Out->Prop)->Prop):List V->aO->Hp->(Out->Prop)->Prop
 |[],ρ,H,K=>K (.next ρ H)
 |v::vs,ρ,H,K=>aH (aS t v ρ) λb9=>body b9 H (n0 K λgE H₁=>eZ ws H₀ H₁=true/\mX ws H₀ t body vs gE H₁ K)
noncomputable def xm(test:aO->Hp->(Bool->Hp->Prop)->Prop)(body:aO->Hp->(Out->Prop)->Prop):Nat->aO->Hp->(Out->Prop)->Prop
 |0,_,_,_=>False
 |n+1,ρ,H,K=>test ρ H λb H=>bB b (body ρ H (n0 K λgE H₁=>xm test body n gE H₁ K)) (K (.next ρ H))
noncomputable def xq(Y:PQ):PQ:=λv H=>(excAt H v).isSome=true/\Y v H
noncomputable abbrev Ct.xq(C:Ct):Ct:=⟨C.call,Mine.xq C.exc⟩
noncomputable abbrev Ct.no(C:Ct):Ct:=⟨C.call,λZ Z=>False⟩
noncomputable def mY(H:Hp)(t:Nat):Option aO:=H[t]?.bind pB
noncomputable def D1(j:Nat)(k:Option Nat):Bool:=match k with
 |some k=>gM j k
 |none=>true
noncomputable def KZ(r:Option cX)(ρ:aO)(K:Out->Prop)(v:V)(H:Hp):Prop:=match r with
 |some t=>aH (aS t v ρ) λb9=>K (.next b9 H)
 |none=>K (.ret v H)
mutual
noncomputable def WE:Ct->E->aO->Hp->PQ->Prop
 |_,.k v,_,H,Q=>Q v H
 |_,.J i,ρ,H,Q=>aH (ρ[i]?.join) λv=>Q v H
 |_,.gk j,_,H,Q=>aH uH[j]? λv=>Q v H
 |C,.bin op a b,ρ,H,Q=>WE C a ρ H λx H=>WE C b ρ H λy H=>u2 op x y H Q
 |C,.neg a,ρ,H,Q=>WE C a ρ H λx H=>fv x λi=>Q (.int (-i)) H
 |C,.not a,ρ,H,Q=>WE C a ρ H λx H=>aH (truthy H x) λb=>Q (.bool (!b)) H
 |C,.and es,ρ,H,Q=>tm C true es ρ H Q
 |C,.or es,ρ,H,Q=>tm C false es ρ H Q
 |C,.cmp op a b,ρ,H,Q=>WE C a ρ H λx H=>WE C b ρ H λy H=>aH (eQ op x y H) λt=>Q (.bool t) H
 |C,.pf op nQ a b c,ρ,H,Q=>WE C a ρ H λx H=>WE C b ρ H λy H=>aH (eQ op x y H) λt=>bB t (WE C c ρ H λz H=>aH (eQ nQ y z H) λt=>Q (.bool t) H) (Q (.bool false) H)
 |C,.isNone w a,ρ,H,Q=>WE C a ρ H λx H=>Q (.bool (uv x==w)) H
 |C,.aC es,ρ,H,Q=>mj C es ρ H λvs H=>Q (.aC vs) H
 |C,.bX es,ρ,H,Q=>mj C es ρ H λvs H=>kY vs H Q
 |C,.aM a i,ρ,H,Q=>WE C a ρ H λx H=>WE C i ρ H λy H=>aH (gB x y H) λv=>Q v H
 |C,.fG a lo hi,ρ,H,Q=>WE C a ρ H λx H=>WO C lo ρ H λl H=>WO C hi ρ H λh H=>qQ x l h H Q
 |C,.rev a st,ρ,H,Q=>WE C a ρ H λx H=>WE C st ρ H λk H=>k=.int (-1)/\aH (cS H x) λvs=>kj vs.reverse H Q
 |C,.call f es,ρ,H,Q=>mj C es ρ H λvs H=>C.call f vs H Q C.exc
 |C,.bi b es,ρ,H,Q=>mj C es ρ H λvs H=>D0 b vs H Q
 |C,.c8 m a es,ρ,H,Q=>WE C a ρ H λx H=>fu (cS H x).isSome (mj C es ρ H λvs H=>pH m x vs H Q)
 |C,.comp nl elt t it cs,ρ,H,Q=>oi C it ρ H λp H=>fu (mi p.1) (ip p.2 H t (λρ H Q=>WT C.no cs ρ H Q) (λρ H Q=>WE C.no elt ρ H Q) p.1 (replicate nl none++ρ) H [] λvs H=>kY vs H Q)
 |C,.listOf e,ρ,H,Q=>WE C e ρ H λx H=>aH (copyOf H x) λvs=>kj vs H Q
 |_,.nR,_,H,Q=>Q (.ref H.length) (H++[.dict 0 []])
 |_,.l6,_,H,Q=>Q (.ref H.length) (H++[.cL 0 []])
 |C,.uw a b,ρ,H,Q=>WE C a ρ (H++[.cL 0 []]) λx H1=>WE C b ρ H1 λy H2=>aH (pairOf x) λk=>H2[H.length]?=some (.cL 0 [])/\∀ep,Q (.ref H.length) (H2.set H.length (.cL ep [(k,y)]))
 |C,.bz c a b,ρ,H,Q=>WE C c ρ H λx H=>aH (truthy H x) λt=>bB t (WE C a ρ H Q) (WE C b ρ H Q)
 |C,.attr a i,ρ,H,Q=>WE C a ρ H λx H=>aH (cy H x) λt=>aH (mY H t) λfs=>aH (fs[i]?.join) λv=>Q v H
 |C,.cx f a es,ρ,H,Q=>WE C a ρ H λx H=>aH (cy H x) λt=>aH (mY H t) λZ=>mj C es ρ H λvs H=>C.call f (x::vs) H Q C.exc
 |C,.new f,_,H,Q=>C.call f [.ref (H.length+1)] (H++[.bT (replicate gK.bT.length none)]++[.obj H.length]) (λv H'=>v=.none/\Q (.ref (H.length+1)) H') λZ Z=>False
 |C,.j9 k a,ρ,H,Q=>WE C a ρ H λx H=>aH (excAt H x) λj=>Q (.bool (D1 j k)) H
noncomputable def mj:Ct->List E->aO->Hp->(List V->Hp->Prop)->Prop
 |_,[],_,H,Q=>Q [] H
 |C,e::r,ρ,H,Q=>WE C e ρ H λv H=>mj C r ρ H λvs H=>Q (v::vs) H
noncomputable def WO:Ct->Option E->aO->Hp->PQ->Prop
 |_,none,_,H,Q=>Q .none H
 |C,some e,ρ,H,Q=>WE C e ρ H Q
noncomputable def tm:Ct->Bool->List E->aO->Hp->PQ->Prop
 |_,_,[],_,_,_=>False
 |C,w,e::r,ρ,H,Q=>WE C e ρ H λx H=>KY r (Q x H) (aH (truthy H x) λt=>bB (t==w) (tm C w r ρ H Q) (Q x H))
noncomputable def WT:Ct->List E->aO->Hp->(Bool->Hp->Prop)->Prop
 |_,[],_,H,Q=>Q true H
 |C,e::r,ρ,H,Q=>WE C e ρ H λx H=>aH (truthy H x) λt=>bB t (WT C r ρ H Q) (Q false H)
noncomputable def oi:Ct->It->aO->Hp->(List V×List Nat->Hp->Prop)->Prop
 |C,.of e,ρ,H,Q=>WE C e ρ H λx H=>aH (keysOf H x) λvs=>Q (vs,watch x) H
 |C,.range a b,ρ,H,Q=>WE C a ρ H λx H=>WE C b ρ H λy H=>xl x y λl=>Q (l,[]) H
 |C,.mQ e,ρ,H,Q=>WE C e ρ H λx H=>aH (cS H x) λvs=>Q (qP 0 vs,watch x) H
end
noncomputable def tp(C:Ct)(e:E)(ρ:aO)(H:Hp)(Q:Bool->Hp->Prop):Prop:=WE C e ρ H λx H=>aH (truthy H x) λt=>Q t H
mutual
noncomputable def WS:Ct->S->aO->Hp->(Out->Prop)->Prop
 |C,.expr e,ρ,H,K=>WE C e ρ H λZ H=>K (.next ρ H)
 |C,.aS t e,ρ,H,K=>WE C e ρ H λv H=>aH (aS t v ρ) λb9=>K (.next b9 H)
 |C,.ji a i e,ρ,H,K=>WE C e ρ H λv H=>WE C a ρ H λx H=>WE C i ρ H λk H=>qO x k v H λH'=>K (.next ρ H')
 |C,.setAttr a i e,ρ,H,K=>WE C e ρ H λv H=>WE C a ρ H λx H=>aH (cy H x) λt=>aH (mY H t) λfs=>K (.next ρ (H.set t (.bT (fs.set i (some v)))))
 |C,.ret e,ρ,H,K=>WE C e ρ H λv H=>K (.ret v H)
 |C,.raise k _,ρ,H,_=>C.exc (.ref H.length) (H++[.exc k])
 |C,.iX r e k i h,ρ,H,K=>WE ⟨C.call,λv H=>aH (excAt H v) λj=>gM j k=true/\WE C.no h (ρ.set i (some v)) H λr H=>K (.ret r H)⟩ e ρ H λv H=>KZ r ρ K v H
 |C,.bz c a b,ρ,H,K=>tp C c ρ H λt H=>bB t (aN C a ρ H K) (aN C b ρ H K)
 |C,.for t it body,ρ,H,K=>oi C it ρ H λp H=>mX p.2 H t (λρ H K=>aN C.xq body ρ H K) p.1 ρ H K
 |C,.while c body,ρ,H,K=>xm (λρ H Q=>tp C.no c ρ H Q) (λρ H K=>aN C.no body ρ H K) (weight ρ) ρ H K
noncomputable def aN:Ct->List S->aO->Hp->(Out->Prop)->Prop
 |_,[],ρ,H,K=>K (.next ρ H)
 |C,s::r,ρ,H,K=>WS C s ρ H λo=>kZ o (λρ H=>aN C r ρ H K) (K o)
end
noncomputable def az:Nat->Nat->List V->Hp->PQ->PQ->Prop
 |0,_,_,_,_,_=>False
 |n+1,f,vs,H,Q,Y=>aH wX[f]? λd=>(vs.length=d.np/\d.np≠999)/\aN ⟨az n,xq Y⟩ d.body (vs.map some++replicate d.nl none) H (bH Q)
theorem K0(i n:Nat):min (i:Int) (n:Int)=((min i n:Nat):Int):=by
 rcases le_total i n with h|h
 ·rw[Int.min_eq_left (ofNat_le.mpr h),min_eq_left h]
 ·rw[Int.min_eq_right (ofNat_le.mpr h),min_eq_right h]
structure Ws where
 φ:List Addr
 h:Heap
mutual
inductive aY(p:Ws):V->Value->Prop
 |none:aY p .none .none
 |bool (b:Bool):aY p (.bool b) (.bool b)
 |int (i:Int) (t:Tok):aY p (.int i) (.int i t)
 |str (s:Str) (t:Tok):aY p (.str s) (.str s t)
 |aC {a:Addr} {n:Nat} {vs:List V} {xs:List Value}:p.h.get? a=some (jH xs n)->ba p vs xs->vs.length<=16000000->a∉p.φ->aY p (.aC vs) (.ref a)
 |ref {l:Nat} {a:Addr}:p.φ[l]?=some a->aY p (.ref l) (.ref a)
 |fR:aY p .fR (.ref X.jk)
inductive ba(p:Ws):List V->List Value->Prop
 |nil:ba p [] []
 |cons {v:V} {x:Value} {vs:List V} {xs:List Value}:aY p v x->ba p vs xs->ba p (v::vs) (x::xs)
end
noncomputable def aY.Inv(p:Ws)(P:Value->Prop):V->Prop
 |.none=>P .none
 |.bool b=>P (.bool b)
 |.int i=>∀t,P (.int i t)
 |.str s=>∀t,P (.str s t)
 |.aC vs=>∀a n xs,p.h.get? a=some (jH xs n)->ba p vs xs->vs.length<=16000000->a∉p.φ->P (.ref a)
 |.ref l=>∀a,p.φ[l]?=some a->P (.ref a)
 |.fR=>P (.ref X.jk)
theorem aY.inv{p:Ws}{v:V}{x:Value}(r:aY p v x)(P:Value->Prop):aY.Inv p P v->P x:=
 aY.casesOn (motive_1:=λv x Z=>aY.Inv p P v->P x) r (λk=>k) (λZ k=>k) (λZ t k=>k t) (λZ t k=>k t) (λe q z n k=>k _ _ _ e q z n) (λe k=>k _ e) (λk=>k)
noncomputable def ba.Inv(p:Ws)(P:List Value->Prop):List V->Prop
 |[]=>P []
 |v::vs=>∀x xs,aY p v x->ba p vs xs->P (x::xs)
theorem ba.inv{p:Ws}{vs:List V}{xs:List Value}(r:ba p vs xs)(P:List Value->Prop):ba.Inv p P vs->P xs:=
 ba.casesOn (motive_2:=λvs xs Z=>ba.Inv p P vs->P xs) r (λk=>k) (λa b k=>k _ _ a b)
theorem ba.ind{p:Ws}{M:List V->List Value->Prop}(n:M [] [])(c:∀{v x vs xs},aY p v x->ba p vs xs->M vs xs->M (v::vs) (x::xs)){vs:List V}{xs:List Value}(r:ba p vs xs):M vs xs:=
 ba.rec (motive_1:=λZ Z Z=>True) (motive_2:=λvs xs Z=>M vs xs) trivial (λZ=>trivial) (λZ Z=>trivial) (λZ Z=>trivial) (λZ Z Z Z Z=>trivial) (λZ=>trivial) trivial n (λa b Z m=>c a b m) r
theorem D2{α:Type}{l r:List α}{i:Nat}{a:α}(e:l[i]?=some a):(l++r)[i]?=some a:=by rw[getElem?_append_left (List.getElem?_eq_some_iff.mp e).1];exact e
noncomputable def dX(o:Obj):Bool:=match o.data with
 |.dict _ _=>true
 |_=>false
noncomputable def fJ(o:Obj):Bool:=match o.data with
 |.fields vs=>o.cls==.type "traceback"&&decide (3<vs.size)
 |_=>false
noncomputable def fz(o:Obj):Bool:=match o.data with
 |.seq _ _=>o.cls==.type "tuple"
 |.fields vs=>o.cls==.type "traceback"&&decide (3<vs.size)
 |_=>false
theorem u5{o:Obj}{es:Array DictEntry}{ep:Nat}(h:o.data=.dict es ep):fz o=false:=by unfold fz;rw[h]
theorem K1{o:Obj}{v:Option Value}(h:o.data=.cell v):fz o=false:=by unfold fz;rw[h]
theorem mZ{o:Obj}{c:Value}(hc:o.cls=c)(hn:(c==.type "tuple"||c==.type "traceback")=false):fz o=false:=by
 have h:=or_eq_false_iff.mp hn
 unfold fz;rw[hc,h.1,h.2]
 cases o.data<;>rfl
theorem xn{o:Obj}{es:Array DictEntry}{ep:Nat}(h:o.data=.dict es ep):dX o=true:=by unfold dX;rw[h]
theorem tq{o:Obj}{vs:Array Value}(h:o.data=.fields vs):dX o=false:=by unfold dX;rw[h]
theorem K2{o:Obj}{v:Option Value}(h:o.data=.cell v):dX o=false:=by unfold dX;rw[h]
theorem no{P:Prop}{b:Bool}(h:b=true)(h':b=false):P:=by rw[h] at h';cases h'
theorem zT{o:Obj}(h:dX o=true):fJ o=false:=by
 unfold dX at h;unfold fJ
 cases e:o.data<;>rw[e] at h<;>first|rfl|cases h
theorem D3{o:Obj}(h:fJ o=true):fz o=true:=by
 unfold fJ at h;unfold fz
 cases e:o.data<;>rw[e] at h<;>first|exact h|cases h
structure iq(o o':Obj):Prop where
 eq:dX o=false->fJ o=false->o'=o
 data:fJ o=false->o'.data=o.data/\o'.cls=o.cls
 tb:fJ o=true->fJ o'=true
theorem iq.refl{o:Obj}:iq o o:=⟨λZ Z=>rfl,λZ=>⟨rfl,rfl⟩,id⟩
theorem iq.dd{o o':Obj}(h:iq o o')(hb:fJ o=false):dX o'=dX o/\fJ o'=false/\fz o'=fz o:=by
 have x:=h.data hb
 unfold dX fJ fz
 rw[x.1,x.2]
 exact⟨rfl,hb,rfl⟩
theorem iq.trans{a b c:Obj}(h:iq a b)(k:iq b c):iq a c:=
 ⟨λh1 h2=>have x:=h.dd h2;(k.eq (x.1.trans h1) x.2.1).trans (h.eq h1 h2),λh2=>have x:=h.dd h2;have y:=k.data x.2.1;have z:=h.data h2;⟨y.1.trans z.1,y.2.trans z.2⟩,λh2=>k.tb (h.tb h2)⟩
theorem iq.dX{o o':Obj}(h:iq o o')(hd:Mine.dX o=true):Mine.dX o'=true:=(h.dd (zT hd)).1.trans hd
theorem iq.fz{o o':Obj}(h:iq o o')(hf:Mine.fz o=true):Mine.fz o'=true:=by
 cases e:fJ o with
 |true=>exact D3 (h.tb e)
 |false=>exact(h.dd e).2.2.trans hf
structure Kp(p q:Ws):Prop where
 pre:∀(l:Nat) (a:Addr),p.φ[l]?=some a->q.φ[l]?=some a
 xp:∀a o,fz o=true->p.h.get? a=some o->a∉p.φ->(∃o',q.h.get? a=some o'/\iq o o')/\a∉q.φ
structure bK(own:Addr->Prop)(p q:Ws):Prop where
 pre:∀(l:Nat) (a:Addr),p.φ[l]?=some a->q.φ[l]?=some a
 keep:∀a o,p.h.get? a=some o->a∉p.φ->(own a->fz o=true)->∃o',q.h.get? a=some o'/\iq o o'
 fresh:∀a,a∈q.φ->a∉p.φ->p.h.get? a=none
 alive:∀a o,p.h.get? a=some o->∃o',q.h.get? a=some o'/\(a∉p.φ->dX o=true->dX o'=true)
noncomputable abbrev gm:Addr->Prop:=λZ=>False
noncomputable def Ch(io:Addr->Prop)(h h':Heap):Prop:=∀a o,h.get? a=some o->(io a->fz o=true)->h'.get? a=some o
noncomputable def aA(h h':Heap):Prop:=∀a o,h.get? a=some o->h'.get? a=some o
section
variable{own own' io:Addr->Prop}{p q r:Ws}{h h':Heap}{a:Addr}{o:Obj}
theorem aA.push(o:Obj):aA h (h.push o):=λZ Z e=>get?_push_of_some o e
theorem aA.ch(e:aA h h'):Ch io h h':=λa o x Z=>e a o x
theorem Ch.but{b:Addr}(e:ExtBut b h h')(hb:∀o,h.get? b=some o->fz o=false):Ch (·=b) h h':=λa o x hf=>(Classical.em (a=b)).elim (λe'=>no (hf e') (hb o (e'▸x))) λhn=>e a o hn x
theorem bK.refl:bK own p p:=⟨λZ Z e=>e,λZ o e Z Z=>⟨o,e,.refl⟩,λZ h1 h2=>absurd h1 h2,λZ o e=>⟨o,e,λZ h=>h⟩⟩
theorem bK.m8(S:bK own p q)(ho:p.h.get? a=some o)(ha:a∉p.φ):a∉q.φ:=λhm=>bD (S.fresh a hm ha) ho
theorem bK.dead(S:bK own p q)(hn:q.h.get? a=none):p.h.get? a=none:=by
 cases e:p.h.get? a with
 |none=>rfl
 |some o=>exact(S.alive a o e).elim λZ e'=>bD hn e'.1
theorem bK.same(S:bK own p q)(e:p.h.get? a=some o)(hn:a∉p.φ)(h:own a->fz o=true)(hd:dX o=false)(ht:fJ o=false):q.h.get? a=some o:=(S.keep a o e hn h).elim λo' x=>x.2.eq hd ht▸x.1
theorem bK.trans(S:bK own p q)(T:bK own q r):bK own p r:=
 ⟨λl a e=>T.pre l a (S.pre l a e),λa o e h1 h2=>(S.keep a o e h1 h2).elim λo1 x=>(T.keep a o1 x.1 (S.m8 e h1) λh=>x.2.fz (h2 h)).imp λo2 y=>⟨y.1,x.2.trans y.2⟩,λa h1 h2=>(Classical.em (a∈q.φ)).elim (λh=>S.fresh a h h2) λh=>S.dead (T.fresh a h1 h),
  λa o e=>(S.alive a o e).elim λo1 x=>(T.alive a o1 x.1).imp λo2 y=>⟨y.1,λh1 h2=>y.2 (S.m8 e h1) (x.2 h1 h2)⟩⟩
theorem bK.ow(S:bK own p q)(hs:∀a,own a->own' a\/p.h.get? a=none):bK own' p q:=
 ⟨S.pre,λa o e h1 h2=>S.keep a o e h1 λhm=>(hs a hm).elim h2 λhn=>bD hn e,S.fresh,S.alive⟩
theorem bK.nil(S:bK gm p q):bK own p q:=S.ow λZ h=>h.elim
theorem bK.ch(S:bK own p q)(c:Ch io q.h h')(dG:∀a,io a->p.h.get? a=none\/own a/\∃o',h'.get? a=some o'/\∀o,q.h.get? a=some o->dX o=true->dX o'=true):bK own p ⟨q.φ,h'⟩:=
 ⟨S.pre,λa o e h1 h2=>(S.keep a o e h1 h2).imp λo1 x=>⟨c a o1 x.1 λhi=>(dG a hi).elim (λhn=>bD hn e) λy=>x.2.fz (h2 y.1),x.2⟩,S.fresh,
  λa o e=>(S.alive a o e).elim λo1 x=>(Classical.em (io a)).elim (λhi=>(dG a hi).elim (λhn=>bD hn e) λy=>y.2.imp λo2 z=>⟨z.1,λh1 h2=>z.2 o1 x.1 (x.2 h1 h2)⟩) λhn=>⟨o1,c a o1 x.1 λhi=>absurd hi hn,x.2⟩⟩
theorem bK.ext(S:bK own p q)(e:aA q.h h'):bK own p ⟨q.φ,h'⟩:=S.ch (io:=gm) e.ch λZ h=>h.elim
theorem bK.cell(S:bK own p q)(ha:a∈q.φ)(e:ExtBut a q.h h')(ho:h'.get? a=some o):bK own p ⟨q.φ,h'⟩:=
 ⟨S.pre,λb o' x h1 h2=>(S.keep b o' x h1 h2).imp λo1 y=>⟨e b o1 (λe'=>bD (S.fresh b (e'▸ha) h1) x) y.1,y.2⟩,S.fresh,
  λb o' x=>(Classical.em (b=a)).elim (λe'=>⟨o,e'▸ho,λh1 Z=>bD (S.fresh b (e'▸ha) h1) x⟩) λhn=>(S.alive b o' x).imp λo1 y=>⟨e b o1 hn y.1,y.2⟩⟩
theorem bK.adopt{D:Addr}(S:bK own p q)(hD:p.h.get? D=none):bK own p ⟨q.φ++[D],q.h⟩:=
 ⟨λl a e=>D2 (S.pre l a e),S.keep,λa h1 h2=>(mem_append.mp h1).elim (λh=>S.fresh a h h2) λh=>mem_singleton.mp h▸hD,S.alive⟩
theorem bK.kp(S:bK own p q):Kp p q:=⟨S.pre,λa o z e hn=>⟨S.keep a o e hn (λZ=>z),S.m8 e hn⟩⟩
theorem Ch.kp{φ:List Addr}(c:Ch io h h'):Kp ⟨φ,h⟩ ⟨φ,h'⟩:=⟨λZ Z e=>e,λa o z e hn=>⟨⟨o,c a o e λZ=>z,.refl⟩,hn⟩⟩
theorem Kp.refl:Kp p p:=⟨λZ Z e=>e,λZ o Z e hn=>⟨⟨o,e,.refl⟩,hn⟩⟩
theorem Kp.trans(S:Kp p q)(T:Kp q r):Kp p r:=⟨λl a e=>T.pre l a (S.pre l a e),λa o z e hn=>have h:=S.xp a o z e hn;h.1.elim λo1 x=>have k:=T.xp a o1 (x.2.fz z) x.1 h.2;⟨k.1.imp λo2 y=>⟨y.1,x.2.trans y.2⟩,k.2⟩⟩
theorem Kp.adopt{D:Addr}{φ:List Addr}(hD:∀o,h.get? D=some o->fz o=false):Kp ⟨φ,h⟩ ⟨φ++[D],h⟩:=
 ⟨λl a e=>D2 e,λa o z e hn=>⟨⟨o,e,.refl⟩,λhm=>(mem_append.mp hm).elim hn λh=>no z (hD o (mem_singleton.mp h▸e))⟩⟩
theorem Kp.aC(K:Kp p q){xs:List Value}{n:Nat}(e:p.h.get? a=some (jH xs n))(hn:a∉p.φ):q.h.get? a=some (jH xs n)/\a∉q.φ:=have h:=K.xp _ _ rfl e hn;⟨h.1.elim λo x=>x.2.eq rfl rfl▸x.1,h.2⟩
theorem aY.kp(K:Kp p q){v:V}{x:Value}(r:aY p v x):aY q v x:=
 aY.rec (motive_1:=λv x Z=>aY q v x) (motive_2:=λvs xs Z=>ba q vs xs) .none .bool .int .str (λe Z z hn m=>have h:=K.aC e hn;.aC h.1 m z h.2) (λe=>.ref (K.pre _ _ e)) .fR .nil (λZ Z a b=>.cons a b) r
theorem ba.kp(K:Kp p q){vs:List V}{xs:List Value}(r:ba p vs xs):ba q vs xs:=
 ba.ind (M:=λvs xs=>ba q vs xs) .nil (λa Z m=>.cons (a.kp K) m) r
theorem aY.mono(S:bK own p q){v:V}{x:Value}(r:aY p v x):aY q v x:=r.kp S.kp
theorem ba.mono(S:bK own p q){v:List V}{x:List Value}(r:ba p v x):ba q v x:=r.kp S.kp
end
section
variable{p:Ws}{vs ws:List V}{xs ys:List Value}{v:V}{x:Value}
theorem ba.k1(r:ba p [v] xs)(T:List Value->Prop)(k:∀x,aY p v x->T [x]):T xs:=r.inv T λx Z r1 r2=>r2.inv (λxs=>T (x::xs)) (k x r1)
theorem ba.k2{u:V}(r:ba p [u,v] xs)(T:List Value->Prop)(k:∀x y,aY p u x->aY p v y->T [x,y]):T xs:=r.inv T λx Z r1 r2=>r2.k1 (λxs=>T (x::xs)) λy r2=>k x y r1 r2
theorem ba.length(r:ba p vs xs):vs.length=xs.length:=ba.ind (M:=λvs xs=>vs.length=xs.length) rfl (λZ Z m=>congrArg (·+1) m) r
theorem ba.append(r:ba p vs xs)(q:ba p ws ys):ba p (vs++ws) (xs++ys):=ba.ind (M:=λvs xs=>ba p (vs++ws) (xs++ys)) q (λa Z m=>.cons a m) r
theorem ba.one(r:aY p v x):ba p [v] [x]:=.cons r .nil
theorem ba.get'(r:ba p vs xs):∀{i:Nat} {v:V},vs[i]?=some v->∃x,xs[i]?=some x/\aY p v x:=
 ba.ind (M:=λvs xs=>∀{i:Nat} {v:V},vs[i]?=some v->∃x,xs[i]?=some x/\aY p v x) (λe=>bD getElem?_nil e) (λ{_ x _ _} a _ m i=>match i with|0=>λe=>⟨x,rfl,Option.some.inj e▸a⟩|i+1=>λe=>m (i:=i) e) r
theorem ba.get{P:Prop}{i:Nat}(r:ba p vs xs)(e:vs[i]?=some v)(k:∀x,xs[i]?=some x->aY p v x->P):P:=(r.get' e).elim λx h=>k x h.1 h.2
theorem ba.take(r:ba p vs xs):∀k,ba p (vs.take k) (xs.take k):=
 ba.ind (M:=λvs xs=>∀k,ba p (vs.take k) (xs.take k)) (λk=>by rw[take_nil,take_nil];exact .nil) (λa Z m k=>match k with|0=>.nil|k+1=>.cons a (m k)) r
theorem ba.drop(r:ba p vs xs):∀k,ba p (vs.drop k) (xs.drop k):=
 ba.ind (M:=λvs xs=>∀k,ba p (vs.drop k) (xs.drop k)) (λk=>by rw[drop_nil,drop_nil];exact .nil) (λa b m k=>match k with|0=>.cons a b|k+1=>m k) r
theorem ba.set(r:ba p vs xs)(q:aY p v x):∀k,ba p (vs.set k v) (xs.set k x):=
 ba.ind (M:=λvs xs=>∀k,ba p (vs.set k v) (xs.set k x)) (λZ=>.nil) (λa b m k=>match k with|0=>.cons q b|k+1=>.cons a (m k)) r
end
inductive L2{α β:Type}(M:α->β->Prop):List α->List β->Prop
 |nil:L2 M [] []
 |cons {a:α} {b:β} {as:List α} {bs:List β}:M a b->L2 M as bs->L2 M (a::as) (b::bs)
section
variable{α β:Type}{M N:α->β->Prop}{as WL:List α}{bs oj:List β}
theorem L2.imp(h:L2 M as bs)(k:∀a b,M a b->N a b):L2 N as bs:=h.rec .nil λa Z m=>.cons (k _ _ a) m
theorem L2.length(h:L2 M as bs):as.length=bs.length:=h.rec rfl λZ Z m=>congrArg (·+1) m
theorem L2.snoc{a:α}{b:β}(h:L2 M as bs)(q:M a b):L2 M (as++[a]) (bs++[b]):=h.rec (.cons q .nil) λa Z m=>.cons a m
theorem L2.map{f:α->α}{g:β->β}(h:L2 M as bs)(k:∀a b,M a b->M (f a) (g b)):L2 M (as.map f) (bs.map g):=h.rec .nil λa Z m=>.cons (k _ _ a) m
theorem L2.any{f:α->Bool}{g:β->Bool}(h:L2 M as bs)(k:∀a b,M a b->f a=g b):as.any f=bs.any g:=h.rec rfl λa Z m=>by rw[any_cons,any_cons,k _ _ a,m]
theorem L2.get(h:L2 M as bs):∀{i:Nat} {a:α} {b:β},as[i]?=some a->bs[i]?=some b->M a b:=by
 induction h with
 |nil=>exact λe Z=>bD getElem?_nil e
 |cons q _ m=>
  intro i
  cases i with
  |zero=>exact λe e'=>Option.some.inj e▸Option.some.inj e'▸q
  |succ i=>exact λe e'=>m (i:=i) e e'
theorem L2.find{f:α->Bool}{g:β->Bool}(h:L2 M as bs)(k:∀a b,M a b->f a=g b):(as.find? f=none/\bs.find? g=none)\/∃a b,as.find? f=some a/\bs.find? g=some b/\M a b:=
 h.rec (.inl ⟨rfl,rfl⟩) λ{a b _ _} q _ m=>by
  rw[find?_cons,find?_cons,k _ _ q]
  cases g b with
  |true=>exact .inr ⟨a,b,rfl,rfl,q⟩
  |false=>exact m
end
noncomputable def k4(p:Ws)(e:Int×V)(kv:Int×Value):Prop:=e.1=kv.1/\aY p e.2 kv.2
noncomputable def ml(p:Ws)(e:(Int×Bool)×V)(kv:List Int×Addr×Value):Prop:=kv.1=[e.1.1,if e.1.2 then 1 else 0]/\aY p (kh e.1) (.ref kv.2.1)/\aY p e.2 kv.2.2
theorem k4.kp{p q:Ws}(K:Kp p q)(e:Int×V)(kv:Int×Value)(h:k4 p e kv):k4 q e kv:=⟨h.1,h.2.kp K⟩
theorem ml.kp{p q:Ws}(K:Kp p q)(e:(Int×Bool)×V)(kv:List Int×Addr×Value)(h:ml p e kv):ml q e kv:=⟨h.1,h.2.1.kp K,h.2.2.kp K⟩
noncomputable def D4(k:Int):Value->Bool
 |.int i _=>i==k
 |.bool b=>(if b then(1:Int) else 0)==k
 |_=>false
end Mine
namespace Mine
open PySem
section
variable{A:Around}{E:Value->Shared->Prop}{s:Shared}
noncomputable def bI(b:Bool):Int:=if b then 1 else 0
theorem K3{b:Bool}{Q:Int->Shared->Prop}(h:Q (hashInt (bI b)) {s with toks:=s.toks+1}):wpAny (model X.prog X.w) A (pyHash (.bool b)) Q E s:=by
 unfold pyHash
 refine wpAny_bind ?_
 rw[cRoomFor,if_neg (by exact Bool.false_ne_true)]
 refine wpAny_pure ?_
 refine wpAny_bind (wpAny_specialOf (show s.TypeIs (.bool b) "bool" from rfl) F.slot_bool_hash.lookup ?_)
 refine(?_:wpAny _ _ (if(some (Value.builtin "int.__hash__")==some Value.none)=true then _ else _) Q E s)
 rw[if_neg (by rw[beq_builtin_none];exact Bool.false_ne_true)]
 refine wpAny_bind (wpAny_specialOf (show s.TypeIs (.bool b) "bool" from rfl) F.slot_bool_hash.lookup ?_)
 refine(?_:wpAny _ _ (callSpecialIfBoundUnlessNone? (.bool b) "__hash__" _ >>= _) Q E s)
 refine wpAny_bind (wpAny_callSpecialIfBoundUnlessNone?_slot (show s.TypeIs (.bool b) "bool" from rfl) F.slot_bool_hash
  (wpAny_call_entry F.slot_bool_hash (show s.TypeIs (.bool b) "bool" from rfl) entry_int_hash
   (show wpAny _ _ (do ret (<-mkInt (rawHash (bI b)))) _ _ s from wpAny_ret_mkInt ?_) (args_int_hash _)))
 cases b<;>exact wpAny_pure h
theorem u6{k:Int}{v:Value}(h:D4 k v=true){P:Value->Prop}(ki:∀t,P (.int k t))(kb:∀b,bI b=k->P (.bool b)):P v:=by
 cases v with
 |int i t=>obtain rfl:=eq_of_beq h;exact ki t
 |bool b=>exact kb b (eq_of_beq h)
 |_=>exact Bool.noConfusion h
noncomputable def qR:KeyKind X.prog X.w Int where
 is:=D4
 hash:=hashInt
 inj:=λv a b h1 h2=>by cases v with
  |int i t=>exact(eq_of_beq h1).symm.trans (eq_of_beq h2)
  |bool b=>exact(eq_of_beq h1).symm.trans (eq_of_beq h2)
  |_=>exact Bool.noConfusion h1
 byValue:=λk v h=>u6 (P:=λv=>carriedByValue v=true) h (λZ=>rfl) λZ Z=>rfl
 pyHash:=λ{A E s k v Q} hv h=>u6 (P:=λv=>wpAny (model X.prog X.w) A (PySem.pyHash v) Q E s) hv (λZ=>wpAny_pyHash_int h) λb e=>K3 (e▸h)
 eqBool:=λ{A E s a b u v Q} hu hv h=>by
  refine u6 (P:=λu=>wpAny (model X.prog X.w) A (PySem.eqBool u v) Q E s) hu (λt=>?_) λc e=>?_
  ·refine u6 (P:=λv=>wpAny (model X.prog X.w) A (PySem.eqBool _ v) Q E s) hv (λt'=>SeqAt.EqAt.int_int _ _ _ _ _ _ _ _ h) λd e'=>?_
   subst e'
   exact SeqAt.EqAt.int_bool _ _ _ _ _ _ _ h
  ·subst e
   refine u6 (P:=λv=>wpAny (model X.prog X.w) A (PySem.eqBool _ v) Q E s) hv (λt'=>SeqAt.EqAt.bool_int _ _ _ _ _ _ _ h) λd e'=>?_
   subst e'
   refine SeqAt.EqAt.bool_bool _ _ _ _ _ _ ?_
   cases c<;>cases d<;>exact h
 «strs»:=λk x t v h=>Bool.noConfusion h
noncomputable abbrev km:KeyKind X.prog X.w Int:=intKind X.prog X.w
noncomputable abbrev k7:HeapKind X.prog X.w (List Int):=tupleKind qR
noncomputable def pK(q:Int×Bool):List Int:=[q.1,bI q.2]
theorem D5{q q':Int×Bool}(h:pK q=pK q'):q=q':=by
 obtain⟨i,b⟩:=q
 obtain⟨j,c⟩:=q'
 have h1:i=j:=(List.cons.inj h).1
 have h2:bI b=bI c:=(List.cons.inj (List.cons.inj h).2).1
 clear h
 subst h1
 cases b<;>cases c<;>first|rfl|exact absurd h2 (by decide)
theorem u7{p:Ws}{q:Int×Bool}{a:Addr}(r:aY p (kh q) (.ref a)):k7.is p.h (pK q) a:=by
 have key:∀x,aY p (kh q) x->x=.ref a->k7.is p.h (pK q) a:=λx r=>r.inv (λx=>x=.ref a->k7.is p.h (pK q) a) λb n xs e rl Z Z h=>by
  cases h
  refine⟨_,_,n,e,rfl,rfl,?_⟩
  refine(?_:ItemsAre qR (pK q) xs)
  exact rl.inv (λxs=>ItemsAre qR (pK q) xs) λx xs r1 rl=>r1.inv (λx=>ItemsAre qR (pK q) (x::xs)) λt=>rl.inv (λxs=>ItemsAre qR (pK q) (_::xs)) λy ys r2 rl=>
   r2.inv (λy=>ItemsAre qR (pK q) (_::y::ys)) (rl.inv (λys=>ItemsAre qR (pK q) (_::_::ys)) (.cons (beq_self_eq_true _) (.cons (beq_self_eq_true _) .nil)))
 exact key _ r rfl
end
noncomputable def lk(ns:List Str)(ρ:aO)(x:Str):Option V:=(ρ[ns.idxOf x]?).join
inductive ir(p:Ws):Option V->Option Value->Prop
 |none:ir p none none
 |some {v:V} {x:Value}:aY p v x->ir p (some v) (some x)
theorem ir.kp{p q:Ws}(K:Kp p q){v:Option V}{x:Option Value}(r:ir p v x):ir q v x:=r.casesOn (motive:=λv x Z=>ir q v x) .none λr=>.some (r.kp K)
theorem ir.inv{p:Ws}{v:V}{u:Option V}{x:Option Value}(r:ir p u x)(e:u=Option.some v)(P:Option Value->Prop)(k:∀y,aY p v y->P (Option.some y)):P x:=
 r.casesOn (motive:=λu x Z=>u=Option.some v->P x) (λe=>bD rfl e) (λr e=>k _ (Option.some.inj e▸r)) e
noncomputable def tv(p:Ws)(vs:Array Value)(T:Addr)(o:Obj):Prop:=vs[1]?=some (.ref T)/\p.h.get? T=some o/\fJ o=true/\T∉p.φ/\X.dC.get? T=none
noncomputable def u9(p:Ws)(vs:Array Value):Prop:=vs[1]?=some .none\/∃T o,tv p vs T o
theorem tv.kp{p q:Ws}{vs:Array Value}{T:Addr}{o:Obj}(K:Kp p q)(x:tv p vs T o):∃o',tv q vs T o':=have y:=K.xp T o (D3 x.2.2.1) x.2.1 x.2.2.2.1;y.1.imp λo' z=>⟨x.1,z.1,z.2.tb x.2.2.1,y.2,x.2.2.2.2⟩
theorem u9.kp{p q:Ws}{vs:Array Value}(K:Kp p q)(h:u9 p vs):u9 q vs:=h.imp id λh=>h.imp λT h=>h.elim λo x=>x.kp K
structure tw(p:Ws)(fs:aO)(m:Str->Option Value):Prop where
 len:fs.length=gK.bT.length
 at':∀x,x∈gK.bT->ir p (lk gK.bT fs x) (m x)
 out:∀x,x∉gK.bT->m x=none
theorem tw.kp{p q:Ws}{fs:aO}{m:Str->Option Value}(K:Kp p q)(h:tw p fs m):tw q fs m:=⟨h.len,λx hx=>(h.at' x hx).kp K,h.out⟩
inductive eR(p:Ws)(a:Addr):aT->Prop
 |list {vs:List V} {xs:List Value} {n:Nat}:p.h.get? a=some (gP xs n)->ba p vs xs->vs.length<=16000000->eR p a (.list vs)
 |dict {es:List (Int×V)} {o:Obj} {en:Array DictEntry} {ep:Nat} {kvs:List (Int×Value)}:p.h.get? a=some o->o.ExactDict->o.data=.dict en ep->KeysOf km en->Pairs km en.toList kvs->(kvs.map (·.1)).Nodup->L2 (k4 p) es kvs->(a==sysModules)=false->es.length<=16000000->eR p a (.dict ep es)
 |cL {es:List ((Int×Bool)×V)} {o:Obj} {en:Array DictEntry} {ep:Nat} {xs:List (List Int×Addr×Value)}:p.h.get? a=some o->o.ExactDict->o.data=.dict en ep->en.toList=xs.map (entryOfKey k7)->(xs.map (·.1)).Nodup->L2 (ml p) es xs->(a==sysModules)=false->es.length<=16000000->eR p a (.cL ep es)
 |exc {k:Nat} {o:Obj} {C:Addr} {vs:Array Value}:p.h.get? a=some o->X.exc[k]?=some C->o.cls=.ref C->o.data=.fields vs->u9 p vs->eR p a (.exc k)
 |obj {t:Nat} {o:Obj} {d:Addr}:p.h.get? a=some o->o.cls=.ref X.bk->(∀c,o.data≠.cls c)->o.dict=some d->p.φ[t]?=some d->eR p a (.obj t)
 |bT {fs:aO} {m:Str->Option Value}:p.h.Ns1 a m->tw p fs m->eR p a (.bT fs)
noncomputable def eR.Inv(p:Ws)(a:Addr)(G:Prop):aT->Prop
 |.list vs=>∀xs n,p.h.get? a=some (gP xs n)->ba p vs xs->vs.length<=16000000->G
 |.dict ep es=>∀o en kvs,p.h.get? a=some o->o.ExactDict->o.data=.dict en ep->KeysOf km en->Pairs km en.toList kvs->(kvs.map (·.1)).Nodup->L2 (k4 p) es kvs->(a==sysModules)=false->es.length<=16000000->G
 |.cL ep es=>∀o en xs,p.h.get? a=some o->o.ExactDict->o.data=.dict en ep->en.toList=xs.map (entryOfKey k7)->(xs.map (·.1)).Nodup->L2 (ml p) es xs->(a==sysModules)=false->es.length<=16000000->G
 |.exc k=>∀o C vs,p.h.get? a=some o->X.exc[k]?=some C->o.cls=.ref C->o.data=.fields vs->u9 p vs->G
 |.obj t=>∀o d,p.h.get? a=some o->o.cls=.ref X.bk->(∀c,o.data≠.cls c)->o.dict=some d->p.φ[t]?=some d->G
 |.bT fs=>∀m,p.h.Ns1 a m->tw p fs m->G
theorem eR.inv{p:Ws}{a:Addr}{c:aT}(h:eR p a c)(G:Prop):eR.Inv p a G c->G:=
 h.casesOn (motive:=λc Z=>eR.Inv p a G c->G) (λe r z k=>k _ _ e r z) (λe x1 x2 x3 x4 x5 r z n k=>k _ _ _ e x1 x2 x3 x4 x5 r z n) (λe x1 x2 x3 x4 r z n k=>k _ _ _ e x1 x2 x3 x4 r z n) (λe x1 x2 x3 x4 k=>k _ _ _ e x1 x2 x3 x4) (λe x1 x2 x3 x4 k=>k _ _ e x1 x2 x3 x4) (λe x k=>k _ e x)
structure SR(p:Ws)(H:Hp):Prop where
 keep:aA X.dC p.h
 fresh:∀a,a∈p.φ->X.dC.get? a=none
 nodup:p.φ.Nodup
 len:p.φ.length=H.length
 cell:∀(l:Nat) (c:aT),H[l]?=some c->∃a,p.φ[l]?=some a/\eR p a c
noncomputable def Ap(p:Ws)(a:Addr):Prop:=a∉p.φ/\X.dC.get? a=none
section
variable{own io:Addr->Prop}{p q:Ws}{h h':Heap}{H:Hp}{a:Addr}{c:aT}{o:Obj}{l:Nat}
theorem eR.kp(K:Kp p q)(ha:∀o,p.h.get? a=some o->q.h.get? a=some o)(r:eR p a c):eR q a c:=
 eR.casesOn (motive:=λc Z=>eR q a c) r (λe r z=>.list (ha _ e) (r.kp K) z) (λe x1 x2 x3 x4 x5 r z n=>.dict (ha _ e) x1 x2 x3 x4 x5 (r.imp (k4.kp K)) z n) (λe x1 x2 x3 x4 r z n=>.cL (ha _ e) x1 x2 x3 x4 (r.imp (ml.kp K)) z n)
  (λe x1 x2 x3 x4=>.exc (ha _ e) x1 x2 x3 (x4.kp K)) (λe x1 x2 x3 x4=>.obj (ha _ e) x1 x2 x3 (K.pre _ _ x4)) (λe x=>.bT (e.at ha) (x.kp K))
theorem eR.ob(r:eR p a c):∃o,p.h.get? a=some o:=
 r.casesOn (λe Z Z=>⟨_,e⟩) (λe Z Z Z Z Z Z Z Z=>⟨_,e⟩) (λe Z Z Z Z Z Z Z=>⟨_,e⟩) (λe Z Z Z Z=>⟨_,e⟩) (λe Z Z Z Z=>⟨_,e⟩) (λe Z=>e.elim λo x=>x.elim λZ x=>x.elim λZ x=>⟨o,x.1⟩)
theorem SR.at{G:Prop}(R:SR p H)(e:H[l]?=some c)(k:∀a,p.φ[l]?=some a->eR p a c->G):G:=(R.cell l c e).elim λa h=>k a h.1 h.2
theorem SR.obj(R:SR p H)(ha:a∈p.φ):∃o,p.h.get? a=some o:=
 (List.mem_iff_getElem?.mp ha).elim λl e=>R.at (l:=l) (getElem?_eq_getElem (R.len▸(List.getElem?_eq_some_iff.mp e).1)) λb hb r=>Option.some.inj (hb.symm.trans e)▸r.ob
theorem SR.ch(R:SR ⟨p.φ,h⟩ H)(dG:∀a,io a->Ap p a)(c:Ch io h h'):SR ⟨p.φ,h'⟩ H:=
 ⟨λa o e=>c a o (R.keep a o e) λhi=>bD (dG a hi).2 e,R.fresh,R.nodup,R.len,λl x e=>R.at e λa ha r=>⟨a,ha,r.kp c.kp λo e=>c a o e λhi=>absurd (mem_of_getElem? ha) (dG a hi).1⟩⟩
theorem SR.ext(R:SR ⟨p.φ,h⟩ H)(e:aA h h'):SR ⟨p.φ,h'⟩ H:=R.ch (io:=gm) (λZ h=>h.elim) e.ch
theorem gF(h:Heap){b:Addr}(hb:h.objs.size<=b):h.get? b=none:=by
 cases e:h.get? b with
 |none=>rfl
 |some o=>exact absurd (lt_size e) (not_lt.mpr hb)
theorem SR.new(R:SR p H)(hn:p.h.get? a=none):Ap p a:=
 ⟨λhm=>(R.obj hm).elim λZ e=>bD hn e,by
  cases e:X.dC.get? a with
  |none=>rfl
  |some o=>exact bD hn (R.keep a o e)⟩
theorem zU{α:Type}{l:List α}(hn:l.Nodup){i j:Nat}{x:α}(hi:l[i]?=some x)(hj:l[j]?=some x):i=j:=(getElem?_inj (List.getElem?_eq_some_iff.mp hi).1 hn).mp (hi.trans hj.symm)
theorem SR.adopt(R:SR p H)(hD:Ap p a)(hf:∀o,p.h.get? a=some o->fz o=false)(hc:eR p a c):SR ⟨p.φ++[a],p.h⟩ (H++[c]):=by
 have K:Kp p ⟨p.φ++[a],p.h⟩:=Kp.adopt (φ:=p.φ) (h:=p.h) hf
 refine⟨R.keep,λb hb=>(mem_append.mp hb).elim (R.fresh b) λh=>mem_singleton.mp h▸hD.2,?_,by rw[length_append,length_append,R.len];rfl,λl x e=>?_⟩
 ·exact nodup_append.mpr ⟨R.nodup,List.pairwise_singleton _ _,λx hx y hy e=>hD.1 (mem_singleton.mp hy▸e▸hx)⟩
 ·rcases lt_or_ge l H.length with hl|hl
  ·rw[getElem?_append_left hl] at e
   exact R.at e λb hb r=>⟨b,K.pre l b hb,r.kp K λZ e=>e⟩
  ·have fS:l=H.length:=le_antisymm (Nat.lt_succ_iff.mp (by simpa using (List.getElem?_eq_some_iff.mp e).1)) hl
   subst fS
   rw[getElem?_append_right (le_refl _),sub_self] at e
   exact⟨a,by rw[getElem?_append_right (le_of_eq R.len),R.len,sub_self];rfl,Option.some.inj e▸hc.kp K λZ e=>e⟩
theorem SR.K4(R:SR p H)(ha:p.φ[l]?=some a)(K:Kp p ⟨p.φ,h'⟩)(h0:aA X.dC h')(e:∀b o,b∈p.φ->b≠a->p.h.get? b=some o->h'.get? b=some o)(hc:eR ⟨p.φ,h'⟩ a c):SR ⟨p.φ,h'⟩ (H.set l c):=by
 refine⟨h0,R.fresh,R.nodup,by rw[length_set];exact R.len,λk x hx=>?_⟩
 by_cases hk:k=l
 ·subst hk
  rw[getElem?_set_self (R.len▸(List.getElem?_eq_some_iff.mp ha).1)] at hx
  exact⟨a,ha,Option.some.inj hx▸hc⟩
 ·rw[getElem?_set_ne (Ne.symm hk)] at hx
  exact R.at hx λb hb r=>⟨b,hb,r.kp K λo y=>e b o (mem_of_getElem? hb) (λe'=>hk (zU R.nodup hb (e'▸ha))) y⟩
theorem D6(ha:p.φ[l]?=some a)(e:ExtBut a p.h h'):Kp p ⟨p.φ,h'⟩:=⟨λZ Z e=>e,λb o z x hn=>⟨⟨o,e b o (λe'=>hn (e'▸mem_of_getElem? ha)) x,.refl⟩,hn⟩⟩
theorem SR.set(R:SR p H)(ha:p.φ[l]?=some a)(e:ExtBut a p.h h')(hc:eR ⟨p.φ,h'⟩ a c):SR ⟨p.φ,h'⟩ (H.set l c):=
 R.K4 ha (D6 ha e) (λb o x=>e b o (λe'=>bD (R.fresh b (e'▸mem_of_getElem? ha)) x) (R.keep b o x)) (λb o Z hn x=>e b o hn x) hc
end
end Mine
namespace Mine
open PySem PySem.Calls
noncomputable def om(k:Option NameKind):Prop:=zO k=true
noncomputable def ku(env:Env)(a:Addr):Prop:=a=env.locals\/∃x,env.cells.lookup x=some a
structure Fc(env:Env):Prop where
 fn:env.scope.kind=.function
 glob:env.globals=mainGlobals
 blt:env.builtins=builtinsNs
 gen:env.scope.isGenerator=false/\env.scope.isCoroutine=false/\interactive env=false
 apart:∀x y c,env.cells.lookup x=some c->env.cells.lookup y=some c->x=y
 ne:∀q,q∈env.cells->q.2≠env.locals
structure FR(env:Env)(ns:List Str)(ρ:aO)(p:Ws):Prop where
 fc:Fc env
 len:ρ.length=ns.length
 loc:∃m,p.h.Ns env.locals m/\∀x,x∈ns->env.kindOf x=some .local->ir p (lk ns ρ x) (m x)
 qS:∀x,x∈ns->om (env.kindOf x)->∃c v,env.cells.lookup x=some c/\p.h.IsCell c v/\ir p (lk ns ρ x) v
 ap:∀a,ku env a->Ap p a
 live:∀a,ku env a->∃o,p.h.get? a=some o
section
variable{env:Env}{ns:List Str}{ρ:aO}{own io:Addr->Prop}{p q:Ws}{h h':Heap}
theorem mem_lookup{α:Type}{x:Str}{c:α}:∀{l:List (Str×α)},l.lookup x=some c->(x,c)∈l
 |(y,d)::r,h=>by
  rw[lookup_cons] at h
  cases e:x==y with
  |true=>rw[e] at h;rw[eq_of_beq e,Option.some.inj h];exact .head _
  |false=>rw[e] at h;exact .tail _ (mem_lookup h)
theorem tx{x:Str}{c:Addr}(h:env.cells.lookup x=some c):ku env c:=.inr ⟨x,h⟩
theorem K5{a:Addr}{m:Str->Option Value}(hn:h.Ns a m)(e:∀o,h.get? a=some o->h'.get? a=some o):h'.Ns a m:=
 hn.imp λo h=>h.imp λes h=>h.imp λep h=>⟨e o h.1,h.2⟩
theorem zV{a:Addr}{v:Option Value}(hn:h.IsCell a v)(e:∀o,h.get? a=some o->h'.get? a=some o):h'.IsCell a v:=hn.imp λo h=>⟨e o h.1,h.2⟩
theorem D7{a:Addr}{m:Str->Option Value}(hn:h.Ns a m)(e:∀o,h.get? a=some o->∃o',h'.get? a=some o'/\iq o o'):h'.Ns a m:=
 hn.elim λo x=>x.elim λes x=>x.elim λep x=>(e o x.1).elim λo' y=>⟨o',es,ep,y.1,(y.2.data (zT (xn x.2.1))).1.trans x.2.1,x.2.2⟩
theorem K6{a:Addr}{v:Option Value}(hn:h.IsCell a v)(e:∀o,h.get? a=some o->∃o',h'.get? a=some o'/\iq o o'):h'.IsCell a v:=hn.elim λo x=>(e o x.1).elim λo' y=>⟨o',y.1,(y.2.data (by unfold fJ;rw[x.2])).1.trans x.2⟩
theorem FR.kp(F:FR env ns ρ p)(K:Kp p q)(hk:∀a,ku env a->(∀o,p.h.get? a=some o->∃o',q.h.get? a=some o'/\iq o o')/\a∉q.φ):FR env ns ρ q:=
 ⟨F.fc,F.len,F.loc.imp λm h=>⟨D7 h.1 (hk _ (.inl rfl)).1,λx hx hl=>(h.2 x hx hl).kp K⟩,λx hx hc=>(F.qS x hx hc).imp λc h=>h.imp λv h=>⟨h.1,K6 h.2.1 (hk c (tx h.1)).1,h.2.2.kp K⟩,
  λa ha=>⟨(hk a ha).2,(F.ap a ha).2⟩,λa ha=>(F.live a ha).elim λo e=>((hk a ha).1 o e).imp λZ x=>x.1⟩
theorem FR.mono(F:FR env ns ρ p)(S:bK own p q)(hn:∀a,ku env a->¬own a):FR env ns ρ q:=
 F.kp S.kp λa ha=>⟨λo e=>S.keep a o e (F.ap a ha).1 λho=>absurd ho (hn a ha),(F.live a ha).elim λo e=>S.m8 e (F.ap a ha).1⟩
theorem FR.ch(F:FR env ns ρ ⟨p.φ,h⟩)(c:Ch io h h')(hn:∀a,ku env a->¬io a):FR env ns ρ ⟨p.φ,h'⟩:=
 F.kp c.kp λa ha=>⟨λo e=>⟨o,c a o e λho=>absurd ho (hn a ha),.refl⟩,(F.ap a ha).1⟩
end
theorem gX(i:Nat)(h:i<mV.length):mV[i]'h∈mV:=getElem_mem h
structure jN(A:Around)(n:Nat):Prop where
 depth:A.depth+n+110<=recursionLimit
 units:A.units+5*n+200<=cLine
 frames:∃fe outer,A.frames=some (fe::outer)/\fe.scope.isGenerator=false/\fe.scope.isCoroutine=false/\fe.builtins=builtinsNs/\fe.globals=mainGlobals
theorem jN.less{A:Around}{n m:Nat}(rm:jN A n)(h:m<=n):jN A m:=⟨by have:=rm.depth;exact le_trans (add_le_add_right (add_le_add_left h _) _) this,by have:=rm.units;exact le_trans (add_le_add_right (add_le_add_left (mul_le_mul_left 5 h) _) _) this,rm.frames⟩
noncomputable def iI(A:Around):List Env:=A.frames.getD []
noncomputable def k8(A:Around)(p:Ws):Prop:=∀e,e∈iI A->e.scope.kind=.function/\∃L o,e.frame=some L/\p.h.get? L=some o/\dX o=true/\Ap p L
theorem k8.i5{A:Around}{own:Addr->Prop}{p q:Ws}(F:k8 A p)(S:bK own p q):k8 A q:=λe he=>
 ⟨(F e he).1,(F e he).2.imp λL x=>x.elim λo x=>(S.alive L o x.2.1).imp λo' y=>⟨x.1,y.1,y.2 x.2.2.2.1 x.2.2.1,S.m8 x.2.1 x.2.2.2.1,x.2.2.2.2⟩⟩
noncomputable abbrev upd(s:Shared)(h:Heap)(tk:Nat):Shared:={s with heap:=h,toks:=tk}
structure Pt where
 A:Around
 φ:List Addr
 H:Hp
 s:Shared
 Ex:Value->Shared->Prop
 rm:jN A 0
 R:SR ⟨φ,s.heap⟩ H
 fr:k8 A ⟨φ,s.heap⟩
noncomputable abbrev Pt.w(P:Pt):Ws:=⟨P.φ,P.s.heap⟩
theorem Pt.u1(P:Pt):P.A.units+1<cLine:=by have:=P.rm.units;lia
structure Nx(P:Pt)(H:Hp)where
 φ:List Addr
 h:Heap
 tk:Nat
 R:SR ⟨φ,h⟩ H
 S:bK gm P.w ⟨φ,h⟩
section
variable{P:Pt}{H H':Hp}
noncomputable abbrev Nx.w(N:Nx P H):Ws:=⟨N.φ,N.h⟩
noncomputable abbrev Nx.s(N:Nx P H):Shared:=(upd P.s N.h N.tk)
noncomputable abbrev Nx.pt(N:Nx P H):Pt:=⟨P.A,N.φ,H,N.s,P.Ex,P.rm,N.R,P.fr.i5 N.S⟩
noncomputable abbrev Nx.then(N:Nx P H)(N':Nx N.pt H'):Nx P H':=⟨N'.φ,N'.h,N'.tk,N'.R,N.S.trans N'.S⟩
noncomputable abbrev Pt.fT(P:Pt)(tk:Nat):Nx P P.H:=⟨P.φ,P.s.heap,tk,P.R,.refl⟩
noncomputable abbrev Pt.ext(P:Pt){h':Heap}(e:aA P.s.heap h')(tk:Nat):Nx P P.H:=⟨P.φ,h',tk,P.R.ext (p:=P.w) e,bK.ext (q:=P.w) .refl e⟩
noncomputable abbrev Pt.set(P:Pt){l:Nat}{a:Addr}{c:aT}{h':Heap}(ha:P.φ[l]?=some a)(e:ExtBut a P.s.heap h')(hc:eR ⟨P.φ,h'⟩ a c)(tk:Nat):Nx P (P.H.set l c):=
 ⟨P.φ,h',tk,SR.set (p:=P.w) P.R ha e hc,hc.ob.elim λZ ho=>bK.cell (q:=P.w) .refl (mem_of_getElem? ha) e ho⟩
theorem Pt.tA(P:Pt){l:Nat}{a:Addr}{h':Heap}(ha:P.φ[l]?=some a)(e:ExtBut a P.s.heap h'):Kp P.w ⟨P.φ,h'⟩:=D6 (p:=P.w) ha e
end
theorem vb{α:Type}{A:Around}{m:Sem α}{Q:α->Shared->Prop}{E:Value->Shared->Prop}{s:Shared}(h:wpAny X.M A m Q NE s):wpAny X.M A m Q E s:=wpAny_mono h (λZ Z q=>q) λZ Z h=>h.elim
noncomputable def Kn(P:Pt)(post:PQ)(Q:Value->Shared->Prop):Prop:=∀v H,post v H->∀(N:Nx P H) x,aY N.w v x->Q x N.s
noncomputable def zW(P:Pt)(m:Nat)(post:List V->Hp->Prop)(Q:List Value->Shared->Prop):Prop:=∀v H,post v H->v.length=m->∀(N:Nx P H) x,ba N.w v x->Q x N.s
noncomputable def vc(P:Pt)(post:PQ)(Q:Bool->Shared->Prop):Prop:=∀v H,post v H->aH (truthy H v) λb=>∀(N:Nx P H),Q b N.s
theorem aH.i{α:Type}{o:Option α}{f:α->Prop}{a:α}(e:o=some a)(h:f a):aH o f:=by rw[e];exact h
theorem aH.m{α:Type}{o:Option α}{f g:α->Prop}(h:aH o f)(k:∀a,f a->g a):aH o g:=by
 cases o
 ·exact h
 ·exact k _ h
theorem aH.at{α:Type}{o:Option α}{f:α->Prop}{a:α}(e:o=some a)(h:aH o f):f a:=by rw[e] at h;exact h
noncomputable def xr(P:Pt)(post:Bool->Hp->Prop)(Q:Bool->Shared->Prop):Prop:=∀v H,post v H->∀(N:Nx P H),Q v N.s
section
variable{P:Pt}{H:Hp}{Q:Value->Shared->Prop}
theorem Kn.nx{post:PQ}(k:Kn P post Q)(N:Nx P H):Kn N.pt post Q:=λv H' p N' x r=>k v H' p (N.then N') x r
theorem vc.nx{post:PQ}{Q:Bool->Shared->Prop}(k:vc P post Q)(N:Nx P H):vc N.pt post Q:=λv H' p=>(k v H' p).m λb h N'=>h (N.then N')
theorem xr.nx{post:Bool->Hp->Prop}{Q:Bool->Shared->Prop}(k:xr P post Q)(N:Nx P H):xr N.pt post Q:=λv H' p N'=>k v H' p (N.then N')
theorem Kn.now{post:PQ}{v:V}{x:Value}(k:Kn P post Q)(p:post v P.H)(r:aY P.w v x)(tk:Nat):Q x (upd P.s P.s.heap tk):=k v P.H p (P.fT tk) x r
theorem Kn.list{post:PQ}{vs:List V}{xs:List Value}{h':Heap}{c:Nat}(k:Kn P post Q)(e:aA P.s.heap h')(D:Addr)(hD:P.s.heap.get? D=none)(hg:h'.get? D=some (gP xs c))(r:ba P.w vs xs)(hz:vs.length<=16000000)(p:kY vs P.H post)(tk:Nat):Q (.ref D) (upd P.s h' tk):=
 have K:=(bK.ext (own:=gm) (p:=P.w) (q:=P.w) .refl e)
 have fr:=P.R.new (a:=D) hD
 have fr':Ap ⟨P.φ,h'⟩ D:=fr
 k _ _ p ⟨P.φ++[D],h',tk,SR.adopt (p:=⟨P.φ,h'⟩) (c:=.list vs) (P.R.ext (p:=P.w) e) fr' (λo x=>by rw[hg] at x;cases x;exact mZ rfl rfl) (.list hg (r.mono K) hz),K.adopt hD⟩ _
  (.ref (by rw[<-P.R.len,getElem?_append_right (le_refl _),sub_self];rfl))
end
noncomputable def D8(a b:Option NameKind):Prop:=a=b\/(om a/\om b)
noncomputable def Kinds(sc:Scope)(env:Env):Prop:=∀x,D8 (sc.names.lookup x) (env.kindOf x)
structure Lv where
 n:Nat
 m:Nat
 f:Sn
 x:PQ
noncomputable abbrev Lv.c(σ:Lv):Ct:=⟨az σ.m,σ.x⟩
noncomputable abbrev Lv.ex(σ:Lv)(x:PQ):Lv:=⟨σ.n,σ.m,σ.f,x⟩
noncomputable abbrev Lv.no(σ:Lv):Lv:=σ.ex λZ Z=>False
noncomputable def qT(own:Addr->Prop)(w:Ws)(s:Shared)(x:PQ)(Ex:Value->Shared->Prop):Prop:=∀v H,x v H->∀(φ:List Addr) (h:Heap) (tk:Nat),SR ⟨φ,h⟩ H->bK own w ⟨φ,h⟩->∀y,aY ⟨φ,h⟩ v y->Ex y (upd s h tk)
structure Fp(σ:Lv)extends Pt where
 env:Env
 ρ:aO
 own:Addr->Prop
 kd:Kinds σ.f.sc env
 F:FR env σ.f.ns ρ ⟨φ,s.heap⟩
 rn:jN A σ.n
 hf:∃fe,(iI A).head?=some fe/\fe.frame=env.frame
 calm:σ.f.hd=false->A.handled=none
 kx:qT own ⟨φ,s.heap⟩ s σ.x Ex
noncomputable abbrev Fp.to{σ:Lv}(P:Fp σ){H:Hp}(N:Nx P.toPt H):Fp σ:=⟨N.pt,P.env,P.ρ,P.own,P.kd,P.F.mono N.S λZ Z h=>h,P.rn,P.hf,P.calm,λv H' p φ h tk R S y r=>P.kx v H' p φ h tk R (N.S.nil.trans S) y r⟩
noncomputable abbrev Fp.ex{σ:Lv}(P:Fp σ)(x:PQ)(Ex:Value->Shared->Prop)(kx:qT P.own P.w P.s x Ex):Fp (σ.ex x):=⟨⟨P.A,P.φ,P.H,P.s,Ex,P.rm,P.R,P.fr⟩,P.env,P.ρ,P.own,P.kd,P.F,P.rn,P.hf,P.calm,kx⟩
noncomputable abbrev Fp.no{σ:Lv}(P:Fp σ):Fp σ.no:=P.ex _ NE λZ Z h=>h.elim
theorem Fp.kn{σ:Lv}(P:Fp σ):Kn P.toPt σ.x P.Ex:=λv H p N y r=>P.kx v H p N.φ N.h N.tk N.R N.S.nil y r
noncomputable def b8(σ:Lv)(c:E)(e:Expr):Prop:=
 ∀(P:Fp σ) (post:PQ) (Q:Value->Shared->Prop),WE σ.c c P.ρ P.H post->Kn P.toPt post Q->wpAny X.M P.A (eval e P.env) Q P.Ex P.s
noncomputable def tB(σ:Lv)(c:E)(e:Expr):Prop:=
 ∀(P:Fp σ) (post:PQ) (Q:Bool->Shared->Prop),WE σ.c c P.ρ P.H post->vc P.toPt post Q->wpAny X.M P.A (isTrue e P.env (eval e P.env)) Q P.Ex P.s
noncomputable def tC(m:Nat):Prop:=
 ∀(P:Pt) (f:Nat) (q:Bool×Str) (a:Addr) (vs:List V) (xs:List Value) (post x:PQ) (Q:Value->Shared->Prop),jN P.A (2*m)->(s6.contains f=false->P.A.handled=none) ->
  gK.kQ[f]?=some q->(if q.1 then X.mN q.2 else X.mg q.2)=some (.ref a)->ba P.w vs xs->az m f vs P.H post x->Kn P post Q->Kn P x P.Ex->wpAny X.M P.A (call (.ref a) xs) Q P.Ex P.s
end Mine
namespace Mine
open PySem PySem.Calls PyProof.Rows
section
variable{α:Type}{G:Prop}{H:Hp}{x:V}{vs:List V}
theorem aH.k{o:Option α}{f:α->Prop}(h:aH o f)(k:∀a,o=some a->f a->G):G:=by
 cases o
 ·exact h.elim
 ·exact k _ rfl h
theorem fu.k{t:Bool}{A:Prop}(h:fu t A)(k:t=true->A->G):G:=by
 cases t
 ·exact h.elim
 ·exact k rfl h
theorem fv.k{f:Int->Prop}(h:fv x f)(P:V->Prop)(k:∀i,f i->P (.int i)):P x:=
 V.casesOn (motive_1:=λx=>fv x f->P x) x (λh=>h.elim) (λZ h=>h.elim) (λi h=>k i h) (λZ h=>h.elim) (λZ h=>h.elim) (λZ h=>h.elim) (λh=>h.elim) h
theorem w1.k{f:V->Prop}(h:w1 vs f)(P:List V->Prop)(k:∀x,f x->P [x]):P vs:=by
 rcases vs with _|⟨a,_|⟨b,l⟩⟩<;>first|exact k _ h|exact h.elim
theorem w2.k{f:V->V->Prop}(h:w2 vs f)(P:List V->Prop)(k:∀x y,f x y->P [x,y]):P vs:=by
 rcases vs with _|⟨a,_|⟨b,_|⟨c,l⟩⟩⟩<;>first|exact k _ _ h|exact h.elim
theorem f9{β:Type}{o:Option α}{f:α->Option β}{b:β}(h:o.bind f=some b)(k:∀a,o=some a->f a=some b->G):G:=by
 cases o
 ·cases h
 ·exact k _ rfl h
theorem fK{β:Type}{o:Option α}{f:α->β}(P:β->Prop){b:β}(h:o.map f=some b)(k:∀a,o=some a->P (f a)):P b:=by
 cases o
 ·cases h
 ·exact Option.some.inj h▸k _ rfl
theorem qU{c:Prop}[Decidable c]{a b:α}(h:(if c then some a else none)=some b)(P:α->Prop)(k:c->P a):P b:=by
 by_cases hc:c
 ·rw[if_pos hc] at h;exact Option.some.inj h▸k hc
 ·rw[if_neg hc] at h;cases h
theorem D9{c:Prop}[Decidable c]{a b:α}(h:(if c then none else some a)=some b)(P:α->Prop)(k:¬c->P a):P b:=by
 by_cases hc:c
 ·rw[if_pos hc] at h;cases h
 ·rw[if_neg hc] at h;exact Option.some.inj h▸k hc
theorem cellAt.k{β:Type}{f:aT->Option β}{b:β}(h:cellAt f H x=some b)(P:V->Prop)(k:∀l c,H[l]?=some c->f c=some b->P (.ref l)):P x:=
 V.casesOn (motive_1:=λx=>cellAt f H x=some b->P x) x (λh=>bD rfl h) (λZ h=>bD rfl h) (λZ h=>bD rfl h) (λZ h=>bD rfl h) (λZ h=>bD rfl h) (λl h=>f9 h λc e h=>k l c e h) (λh=>bD rfl h) h
theorem pz.k{c:aT}(P:aT->Prop)(h:pz c=some vs)(k:P (.list vs)):P c:=
 c.casesOn (motive:=λc=>pz c=some vs->P c) (λZ h=>Option.some.inj h▸k) (λZ Z h=>bD rfl h) (λZ Z h=>bD rfl h) (λZ h=>bD rfl h) (λZ h=>bD rfl h) (λZ h=>bD rfl h) h
theorem gQ.k{c:aT}{es:List (Int×V)}(P:aT->Prop)(h:gQ c=some es)(k:∀ep,P (.dict ep es)):P c:=
 c.casesOn (motive:=λc=>gQ c=some es->P c) (λZ h=>bD rfl h) (λep Z h=>Option.some.inj h▸k ep) (λZ Z h=>bD rfl h) (λZ h=>bD rfl h) (λZ h=>bD rfl h) (λZ h=>bD rfl h) h
theorem jl.k{c:aT}{es:List ((Int×Bool)×V)}(P:aT->Prop)(h:jl c=some es)(k:∀ep,P (.cL ep es)):P c:=
 c.casesOn (motive:=λc=>jl c=some es->P c) (λZ h=>bD rfl h) (λZ Z h=>bD rfl h) (λep Z h=>Option.some.inj h▸k ep) (λZ h=>bD rfl h) (λZ h=>bD rfl h) (λZ h=>bD rfl h) h
theorem mW.k{c:aT}{j:Nat}(P:aT->Prop)(h:mW c=some j)(k:P (.exc j)):P c:=
 c.casesOn (motive:=λc=>mW c=some j->P c) (λZ h=>bD rfl h) (λZ Z h=>bD rfl h) (λZ Z h=>bD rfl h) (λZ h=>Option.some.inj h▸k) (λZ h=>bD rfl h) (λZ h=>bD rfl h) h
theorem pA.k{c:aT}{j:Nat}(P:aT->Prop)(h:pA c=some j)(k:P (.obj j)):P c:=
 c.casesOn (motive:=λc=>pA c=some j->P c) (λZ h=>bD rfl h) (λZ Z h=>bD rfl h) (λZ Z h=>bD rfl h) (λZ h=>bD rfl h) (λZ h=>Option.some.inj h▸k) (λZ h=>bD rfl h) h
theorem pB.k{c:aT}{fs:aO}(P:aT->Prop)(h:pB c=some fs)(k:P (.bT fs)):P c:=
 c.casesOn (motive:=λc=>pB c=some fs->P c) (λZ h=>bD rfl h) (λZ Z h=>bD rfl h) (λZ Z h=>bD rfl h) (λZ h=>bD rfl h) (λZ h=>bD rfl h) (λZ h=>Option.some.inj h▸k) h
theorem boolOf.k{b:Bool}(h:boolOf x=some b)(P:V->Prop)(k:P (.bool b)):P x:=
 V.casesOn (motive_1:=λx=>boolOf x=some b->P x) x (λh=>bD rfl h) (λZ h=>Option.some.inj h▸k) (λZ h=>bD rfl h) (λZ h=>bD rfl h) (λZ h=>bD rfl h) (λZ h=>bD rfl h) (λh=>bD rfl h) h
theorem pD.k(h:pD x=some vs)(P:V->Prop)(k:P (.aC vs)):P x:=
 V.casesOn (motive_1:=λx=>pD x=some vs->P x) x (λh=>bD rfl h) (λZ h=>bD rfl h) (λZ h=>bD rfl h) (λZ h=>bD rfl h) (λZ h=>Option.some.inj h▸k) (λZ h=>bD rfl h) (λh=>bD rfl h) h
theorem two.k{α β:Type}{l:List α}{f:α->α->Option β}{b:β}(h:two l f=some b)(P:List α->Prop)(k:∀a c,f a c=some b->P [a,c]):P l:=
 match l,h with
 |[],h=>bD rfl h
 |[_],h=>bD rfl h
 |[a,c],h=>k a c h
 |_::_::_::_,h=>bD rfl h
theorem pairOf.k{q:Int×Bool}(h:pairOf x=some q)(P:V->Prop)(k:P (kh q)):P x:=
 f9 h λvs e h=>pD.k e P (two.k h (λvs=>P (.aC vs)) λa b h=>f9 h λi e h=>intOf.k e (λa=>P (.aC [a,b])) (fK (λq=>P (kh q)->P (.aC [.int i,b])) h (λc e k=>boolOf.k e (λb=>P (.aC [.int i,b])) k) k))
end
section
variable{P:Pt}{v u:V}{x y:Value}{vs:List V}{l:Nat}
theorem Pt.cell{c:aT}(r:aY P.w (.ref l) x)(e:P.H[l]?=some c)(T:Value->Prop)(k:∀a,P.φ[l]?=some a->eR P.w a c->T (.ref a)):T x:=
 r.inv T λa ha=>P.R.at e λb hb h=>by rw[ha] at hb;cases hb;exact k a ha h
theorem Pt.list(r:aY P.w (.ref l) x)(e:P.H[l]?=some (.list vs))(T:Value->Prop)(k:∀a xs n,P.φ[l]?=some a->P.s.heap.get? a=some (gP xs n)->ba P.w vs xs->vs.length<=16000000->T (.ref a)):T x:=
 P.cell r e T λa ha h=>h.inv _ λxs n h1 h2 h3=>k a xs n ha h1 h2 h3
theorem bX(r:aY P.w v x)(e:cS P.H v=some vs)(T:Value->Prop)(k:∀l a xs n,v=.ref l->P.H[l]?=some (.list vs)->P.φ[l]?=some a->P.s.heap.get? a=some (gP xs n)->ba P.w vs xs->vs.length<=16000000->T (.ref a)):T x:=
 cellAt.k e (λu=>v=u->T x) (λl c hl hc=>pz.k (λc=>P.H[l]?=some c->v=.ref l->T x) hc (λhl ev=> P.list (ev▸r) hl T λa xs n h1 h2 h3 h4=>k l a xs n ev hl h1 h2 h3 h4) hl) rfl
theorem vd{h:Heap}{a:Addr}{xs:List Value}{n:Nat}(e:h.get? a=some (jH xs n)):IsTup h a xs.toArray:=⟨_,e,rfl,n,rfl⟩
theorem iJ{h:Heap}{a:Addr}{xs:List Value}{n:Nat}(e:h.get? a=some (gP xs n)):h.IsList a xs.toArray:=⟨_,e,rfl,n,rfl⟩
theorem small{xs:List Value}{p:Ws}(r:ba p vs xs)(hz:vs.length<=16000000):(xs.toArray.size:Int)<2^63:=by
 rw[size_toArray,<-r.length];exact Int.lt_of_le_of_lt (ofNat_le.mpr hz) (by decide)
theorem zX{p:Ws}{xs:List Value}{is:List Int}(h:IntsAre xs is):ba p (is.map .int) xs:=h.rec (motive:=λxs is Z=>ba p (is.map .int) xs) .nil λZ Z Z Z Z ih=>.cons (.int _ _) ih
theorem Gl.jk(G:Good X)(P:Pt){T:Prop}(k:∀xs:List Value,P.s.heap.IsList X.jk xs.toArray->ba P.w (X.is.map .int) xs->X.is.length<=1000->T):T:=
 G.fR.elim λxs h=>k xs (h.1.imp λo h=>⟨P.R.keep _ _ h.1,h.2⟩) (zX h.2) (le_trans G.short (by decide))
theorem items(G:Good X)(r:aY P.w v x)(e:kU P.H v=some vs)(T:Value->Prop)
  (kt:v=.aC vs->∀a xs n,P.s.heap.get? a=some (jH xs n)->ba P.w vs xs->vs.length<=16000000->a∉P.φ->T (.ref a)) (kl:∀a xs,P.s.heap.IsList a xs.toArray->ba P.w vs xs->vs.length<=16000000->T (.ref a)):T x:=by
 cases v with
 |aC us=>cases e;exact r.inv T λa n xs h1 h2 h3 h4=>kt rfl a xs n h1 h2 h3 h4
 |ref l=>exact bX r e T λZ a xs n Z Z Z h1 h2 h3=>kl a xs (iJ h1) h2 h3
 |fR=>cases e;exact r.inv T (Gl.jk G P λxs h1 h2 h3=>kl _ xs h1 h2 (by rw[length_map];exact le_trans h3 (by decide)))
 |_=>cases e
theorem empty_eq{p:Ws}{xs:List Value}(r:ba p vs xs):xs.toArray.isEmpty=vs.isEmpty:=ba.ind (M:=λvs xs=>xs.toArray.isEmpty=vs.isEmpty) rfl (λZ Z Z=>rfl) r
theorem zY{b:Bool}{Q:Bool->Shared->Prop}(r:aY P.w v x)(e:truthy P.H v=some b)(k:∀tk,Q b (upd P.s P.s.heap tk)):wpAny X.M P.A (PySem.truthy x) Q P.Ex P.s:=by
 cases v with
 |none=>cases e;exact r.inv (λx=>wpAny X.M P.A (PySem.truthy x) Q P.Ex P.s) (truthy_none (k _))
 |bool b'=>cases e;exact r.inv (λx=>wpAny X.M P.A (PySem.truthy x) Q P.Ex P.s) (wpAny_truthy_bool (k _))
 |int i=>cases e;exact r.inv (λx=>wpAny X.M P.A (PySem.truthy x) Q P.Ex P.s) λt=>truthy_int (k _)
 |aC vs=>cases e;exact r.inv (λx=>wpAny X.M P.A (PySem.truthy x) Q P.Ex P.s) λa n xs h1 h2 h3 Z=>truthy_tuple (vd h1) (small h2 h3) (empty_eq h2▸k _)
 |ref l=>exact fK (λb=>(∀tk,Q b (upd P.s P.s.heap tk))->wpAny X.M P.A (PySem.truthy x) Q P.Ex P.s) e (λvs e k=>bX r e (λx=>wpAny X.M P.A (PySem.truthy x) Q P.Ex P.s) λZ a xs n Z Z Z h1 h2 h3=>wpAny_truthy_list (iJ h1) (small h2 h3) (empty_eq h2▸k _)) k
 |_=>cases e
theorem K7(G:Good X)(P:Pt):PylongRoom X.M P.A P.s:=
 P.rm.frames.elim λfe h=>h.elim λouter h=>PylongRoom.of (G.nolimit.keeps P.R.keep) (by have:=P.rm.depth;refine(?_:P.A.depth+100<_);lia) (SeerAt.of (G.seer.keeps P.R.keep) G.tree h.1 h.2.1 h.2.2.1 h.2.2.2.1 h.2.2.2.2)
theorem K8{op:lX}{a b i:Int}{t t':Tok}{Q:Value->Shared->Prop}(G:Good X)(P:Pt)(e:binI op a b=some i)(k:∀tk t,Q (.int i t) (upd P.s P.s.heap tk)):wpAny X.M P.A (binaryOp (pw op) (.int a t) (.int b t')) Q P.Ex P.s:=by
 cases op with
 |add=>cases e;exact add_int (k _ _)
 |sub=>cases e;exact sub_int (k _ _)
 |mul=>exact qU e (λi=>(∀tk t,Q (.int i t) (upd P.s P.s.heap tk))->_) (λhm k=>mul_int (k _ _) λhc=>by unfold zR at hm;rw[hc] at hm;cases hm) k
 |fdiv=>exact D9 e (λi=>(∀tk t,Q (.int i t) (upd P.s P.s.heap tk))->_) (λhb k=>floordiv_int hb (k _ _) (.inr (K7 G P))) k
 |mod=>exact D9 e (λi=>(∀tk t,Q (.int i t) (upd P.s P.s.heap tk))->_) (λhb k=>mod_int' hb (k _ _)) k
 |pow=>exact qU e (λi=>(∀tk t,Q (.int i t) (upd P.s P.s.heap tk))->_) (λh k=>by
   obtain⟨rfl,h1,h2⟩:=h
   exact pow_int h1 (by rw[show Builtin.Int.intBits 10=4 by decide];lia) (k _ _)) k
theorem mul_list{a:Addr}{xs:List Value}{n:Nat}{t:Tok}{A:Around}{Ex Q:Value->Shared->Prop}{s:Shared}{M:Model}(prog:Program)(w:World)(eM:M=model prog w)(ha:s.heap.get? a=some (gP xs n))(hz:xs.length<=1000)(k:Q (.ref s.heap.objs.size) {s with heap:=s.heap.push (gP (xs++xs) 0)}):wpAny M A (binaryOp .Mult (.ref a) (.int 2 t)) Q Ex s:=by
 subst eM
 have e:List.foldl (λx1 x2=>x1++x2) #[] (replicate (if xs.toArray.isEmpty=true then 0 else(2:Int).toNat) xs.toArray)=(xs++xs).toArray:=by
  cases xs with
  |nil=>rfl
  |cons x r=>rw[if_neg (by exact Bool.false_ne_true)];exact(congrArg (·++_) (Array.empty_append)).trans (List.append_toArray _ _)
 refine wpAny_binaryOp_repeat_ref (T:="list") (U:="int") (by decide) ⟨_,ha,rfl⟩ (λs'=>typeIs_int s' 2 t) noFill_list_mul PySem.F.fills_int_mul PySem.F.slot_int_rmul repeat_list PySem.F.slot_int_index.lookup
  (call_meets PySem.F.slot_int_rmul (typeIs_int s 2 t) PySem.F.entry_int_rmul (PySem.F.args_int_rmul_2 _ _) (int___rmul___int_list 2 t a xs.toArray n)
   ⟨ha,rfl,⟨_,ha,rfl⟩,call_meets PySem.F.slot_list_mul ⟨_,ha,rfl⟩ PySem.F.entry_list_mul (PySem.F.args_list_mul_2 _ _) (AutoListH.list___mul___list_int_3 a xs.toArray n 2 t (by decide) ?_ ?_) ⟨ha,?_⟩⟩)
 ·rw[size_toArray];show ¬(xs.length*2>(2^63 - 1)/8);lia
 ·unfold Builtin.List.listTooLong
  rw[size_toArray]
  exact λh=>absurd (of_decide_eq_true h) (by show ¬(xs.length*2>16777216);lia)
 ·rw[e];exact k
theorem K9{op:lX}{post:PQ}{Q:Value->Shared->Prop}(G:Good X)(P:Pt)(r1:aY P.w v x)(r2:aY P.w u y)(p:u2 op v u P.H post)(k:Kn P post Q):wpAny X.M P.A (binaryOp (pw op) x y) Q P.Ex P.s:=by
 have key:(aH (cS P.H v) λxs=>DX op xs u P.H post)->wpAny X.M P.A (binaryOp (pw op) x y) Q P.Ex P.s:=λp=>aH.k p λxs e1 p=>bX r1 e1 (λx=>wpAny X.M P.A (binaryOp (pw op) x y) Q P.Ex P.s) λZ a xa ka Z Z Z q1 q2 q3=>by
  cases op with
  |add=>
   refine aH.k p λys e2 p=>fu.k p λhz p=>?_
   refine bX r2 e2 (λy=>wpAny X.M P.A (binaryOp .Add _ y) Q P.Ex P.s) λZ b xb kb Z Z Z t1 t2 t3=>?_
   have hl:(xs++ys).length<16000000:=of_decide_eq_true hz
   refine PySem.P.add_list (items:=xa.toArray) (items2:=xb.toArray) q1 t1 ?_ (by rw[size_toArray,size_toArray,<-q2.length,<-t2.length,<-length_append];unfold sizeLine;exact le_trans (le_of_lt hl) (by decide))
   rw[List.append_toArray]
   exact k.list (.push _) _ (gF _ (le_refl _)) (get?_push_size _ rfl) (q2.append t2) (le_of_lt hl) p _
  |mul=>
   exact fv.k p (λu=>aY P.w u y->_) (λn p r2=>by
    obtain⟨⟨rfl,hz⟩,p⟩:=p
    exact r2.inv (λy=>wpAny X.M P.A (binaryOp .Mult _ y) Q P.Ex P.s) λt=>mul_list X.prog X.w rfl q1 (by rw[<-q2.length];exact hz) (k.list (.push _) _ (gF _ (le_refl _)) (get?_push_size _ rfl) (q2.append q2) (by rw[length_append];lia) p _)) r2
  |_=>exact p.elim
 cases v with
 |int a=>exact fv.k p (λu=>aY P.w u y->_) (λb p r2=>aH.k p λi e p=>r1.inv (λx=>wpAny X.M P.A (binaryOp (pw op) x y) Q P.Ex P.s) λt=>r2.inv (λy=>wpAny X.M P.A (binaryOp (pw op) _ y) Q P.Ex P.s) λt'=>K8 G P e λtk t=>k.now p (.int _ _) tk) r2
 |_=>exact key p
end
inductive m9(h:Heap)(m:Nat)(d:PyData)(x:Value):Prop
 |mk (as:List Addr) (r:Reads h x d as) (c:d.canLay0=true) (l:d.depth<=m):m9 h m d x
inductive zZ(h:Heap)(m:Nat)(ds:List PyData)(xs:List Value):Prop
 |mk (as:List Addr) (r:ReadsAll h xs ds as) (c:PyData.canLayAll0 ds=true) (l:PyData.depthAll ds<=m):zZ h m ds xs
theorem La(d:PyData)(ds:List PyData):PyData.canLayAll0 (d::ds)=(d.canLay0&&PyData.canLayAll0 ds):=rfl
theorem Lb(d:PyData)(ds:List PyData):PyData.depthAll (d::ds)=max d.depth (PyData.depthAll ds):=rfl
section
variable{P:Pt}{v u:V}{x y:Value}{vs:List V}{l m:Nat}
theorem xt{h:Heap}{p:Ws}{f:V->Option PyData}(hf:∀v d x,f v=some d->aY p v x->m9 h m d x){xs:List Value}(r:ba p vs xs):∀ds,eY f vs=some ds->zZ h m ds xs:=
 ba.ind (M:=λvs xs=>∀ds,eY f vs=some ds->zZ h m ds xs) (λds e=>Option.some.inj e▸⟨_,.nil,rfl,zero_le _⟩) (λ{v x vs xs} r1 _ ih ds e=>by
  unfold eY at e
  cases e1:f v with
  |none=>rw[e1] at e;cases e
  |some d=>
   cases e2:eY f vs with
   |none=>rw[e1,e2] at e;cases e
   |some Lc=>
    rw[e1,e2] at e
    cases e
    exact(hf v d x e1 r1).casesOn λas q1 q2 q3=>(ih Lc e2).casesOn λbs t1 t2 t3=>⟨_,.cons q1 t1,by rw[La,q2,t2];rfl,by rw[Lb];exact Nat.max_le.mpr ⟨q3,t3⟩⟩) r
theorem Ea{d:PyData}(e:xi v=some d)(r:aY P.w v x):m9 P.s.heap m d x:=
 V.casesOn (motive_1:=λv=>xi v=some d->aY P.w v x->m9 P.s.heap m d x) v (λe r=>r.inv _ (Option.some.inj e▸⟨_,.none,rfl,zero_le _⟩)) (λZ e r=>r.inv _ (Option.some.inj e▸⟨_,.bool _,rfl,zero_le _⟩)) (λZ e r=>r.inv _ λt=>Option.some.inj e▸⟨_,.int _ _,rfl,zero_le _⟩)
  (λZ e r=>r.inv _ λt=>qU e (λd=>m9 P.s.heap m d (.str _ t)) λhs=>⟨_,.str _ _,hs,zero_le _⟩) (λZ e=>bD rfl e) (λZ e=>bD rfl e) (λe=>bD rfl e) e r
theorem vg(P:Pt)(m:Nat):∀(v:V) (d:PyData) (x:Value),rd P.H m v=some d->aY P.w v x->m9 P.s.heap m d x:=by
 induction m with
 |zero=>exact λv d x e r=>Ea e r
 |succ m ih=>
  intro v d x e r
  cases v with
  |aC vs=>exact fK (λd=>m9 P.s.heap (m+1) d x) e λds e1=>r.inv (λx=>m9 P.s.heap (m+1) (.tuple ds) x) λa n xs h1 h2 Z Z=>(xt ih h2 ds e1).casesOn λas q1 q2 q3=>⟨_,reads_tuple_at h1 rfl rfl q1,q2,succ_le_succ q3⟩
  |ref l=>exact f9 e λvs e0 e=>fK (λd=>m9 P.s.heap (m+1) d x) e λds e1=>bX r e0 (λx=>m9 P.s.heap (m+1) (.list ds) x) λZ a xs n Z Z Z h1 h2 Z=>(xt ih h2 ds e1).casesOn λas q1 q2 q3=>⟨_,reads_list_at h1 rfl rfl q1,q2,succ_le_succ q3⟩
  |fR=>cases e
  |_=>exact Ea e r
theorem xu{d:PyData}(h1:d.canLay0=true)(h2:d.depth<=10):SeqAt.shaped d=true:=by
 unfold SeqAt.shaped;rw[h1,Bool.true_and];exact decide_eq_true (by lia)
theorem z5(P:Pt):P.A.units+64<cLine:=by have:=P.rm.units;lia
theorem Ld{x y:Value}{Q:Value->Shared->Prop}(h:wpAny X.M P.A (compareOp .In x y) (λr s'=>∃b,r=.bool b/\Q (.bool (!b)) s') P.Ex P.s):wpAny X.M P.A (compareOp .NotIn x y) Q P.Ex P.s:=by
 intro Γ p Le
 have:=h Γ p Le
 change Sem.wp _ _ (contains y x >>= λb=>pure (Value.bool b)) _ _ _ _ at this
 refine(?_:Sem.wp _ _ (contains y x >>= λb=>pure (Value.bool (!b))) _ _ _ _)
 rw[Sem.wp_bind'] at this ⊢
 refine Sem.wp_mono _ _ _ (λb p' s' h'=>?_) (λZ Z Z h'=>h') _ _ this
 rw[Sem.wp_pure'] at h' ⊢
 exact h'.elim λb' h'=>by cases h'.1;exact h'.2
theorem tD(r:aY P.w v x){es:List (Int×V)}(G:Good X)(e:jL P.H v=some es)(T:Value->Prop)(k:∀l ep a kvs,v=.ref l->P.H[l]?=some (.dict ep es)->P.φ[l]?=some a->P.s.heap.DictOf km a kvs->L2 (k4 P.w) es kvs->(a==sysModules)=false->es.length<=16000000->T (.ref a)):T x:=
 cellAt.k e (λu=>v=u->T x) (λl c hl hc=>gQ.k (λc=>P.H[l]?=some c->v=.ref l->T x) hc (λep hl ev=>P.cell (ev▸r) hl T λa ha h=>h.inv _ λo en kvs x0 x1 x2 x3 x4 x5 r z n=>k l ep a kvs ev hl ha ⟨o,en,ep,x0,x1,x2,x3,x4,x5⟩ r z n) hl) rfl
theorem l6(r:aY P.w v x){es:List ((Int×Bool)×V)}(G:Good X)(e:pC P.H v=some es)(T:Value->Prop)(k:∀l ep a kvs,v=.ref l->P.H[l]?=some (.cL ep es)->P.φ[l]?=some a->P.s.heap.DictOfH k7 a kvs->L2 (ml P.w) es kvs->(a==sysModules)=false->es.length<=16000000->T (.ref a)):T x:=
 cellAt.k e (λu=>v=u->T x) (λl c hl hc=>jl.k (λc=>P.H[l]?=some c->v=.ref l->T x) hc (λep hl ev=>P.cell (ev▸r) hl T λa ha h=>h.inv _ λo en kvs x0 x1 x2 x3 x4 r z n=>k l ep a kvs ev hl ha (by
  refine⟨o,en,ep,x0,x1,x2,x3,?_,x4⟩
  clear x3 x4 n
  exact r.rec (motive:=λZ kvs Z=>∀q:List Int×Addr×Value,q∈kvs->k7.is P.s.heap q.1 q.2.1) (λq hq=>nomatch hq) λ{a b _ _} m _ ih q hq=>(mem_cons.mp hq).elim (λe=>by subst e;rw[m.1];exact u7 m.2.1) (ih q)) r z n) hl) rfl
theorem Eb{es:List (Int×V)}{kvs:List (Int×Value)}{p:Ws}(h:L2 (k4 p) es kvs)(k:Int):(fI es k=none/\valueAt kvs k=none)\/∃v x,fI es k=some v/\valueAt kvs k=some x/\aY p v x:=
 (h.find (f:=λq=>decide (q.1=k)) (g:=λq=>decide (q.1=k)) λa b m=>by rw[m.1]).imp (λh=>⟨congrArg _ h.1,congrArg _ h.2⟩) λh=>h.elim λa h=>h.elim λb h=>⟨a.2,b.2,congrArg _ h.1,congrArg _ h.2.1,h.2.2.2⟩
theorem z6{es:List ((Int×Bool)×V)}{kvs:List (List Int×Addr×Value)}{p:Ws}(h:L2 (ml p) es kvs)(k:Int×Bool):(fI es k=none/\atKey kvs (pK k)=none)\/∃v a x,fI es k=some v/\atKey kvs (pK k)=some (a,x)/\aY p v x:=
 (h.find (f:=λq=>decide (q.1=k)) (g:=λq=>decide (q.1=pK k)) λa b m=>by rw[m.1];exact decide_eq_decide.mpr ⟨λe=>e▸rfl,D5⟩).imp (λh=>⟨congrArg _ h.1,congrArg _ h.2⟩) λh=>h.elim λa h=>h.elim λb h=>⟨a.2,b.2.1,b.2.2,congrArg _ h.1,congrArg _ h.2.1,h.2.2.2.2⟩
theorem z7{K:Type}[DecidableEq K](es:List (K×V))(k:K):ee es k=(fI es k).isSome:=by
 unfold ee fI
 rw[Option.isSome_map,List.isSome_find?]
end
section
variable{A:Around}{E:Value->Shared->Prop}{s:Shared}{a b:Addr}{oa ob:Obj}{es ky:Array DictEntry}{ep oo:Nat}
theorem Ec(b:Bool):(b==true)=b:=by cases b<;>rfl
theorem Ed(b:Bool):(b==false)=!b:=by cases b<;>rfl
theorem Ee{nm:String}{Q:Bool->Shared->Prop}(ha:(a==sysModules)=false)(hb:(b==sysModules)=false)(oq:s.heap.get? a=some oa)(vh:oa.data=.dict es ep)(xv:s.heap.get? b=some ob)(xw:ob.data=.dict ky oo)
  (h0:es.size=0\/ky.size=0) (h:Q (es.size==ky.size) s):wpAny X.M A (Builtin.Dict.samePairs nm a b) Q E s:=by
 unfold Builtin.Dict.samePairs Builtin.Dict.showsAll
 rw[if_neg (show ¬(a==sysModules)=true by rw[ha];exact Bool.false_ne_true),if_neg (show ¬(b==sysModules)=true by rw[hb];exact Bool.false_ne_true)]
 refine wpAny_bind (wpAny_pure (wpAny_bind (wpAny_pure ?_)))
 refine wpAny_bind (wpAny_dictEntries oq vh ?_)
 dsimp only
 refine wpAny_bind (wpAny_dictEntries xv xw ?_)
 by_cases iu:es.size=ky.size
 ·rw[if_neg (by rw[iu,bne_self_eq_false];exact Bool.false_ne_true)]
  have hz:es.size=0:=h0.elim id λh=>iu.trans h
  rw[<-iu,beq_self_eq_true] at h
  refine wpAny_bind (wpAny_dictEpoch oq vh ?_)
  rw[hz,Std.Legacy.Range.forIn_eq_forIn_range']
  exact wpAny_bind (wpAny_pure (wpAny_pure h))
 ·rw[if_pos (bne_iff_ne.mpr iu)]
  rw[beq_eq_false_iff_ne.mpr iu] at h
  exact wpAny_bind (wpAny_rule (wpAny_pure h))
theorem Lg{Q:Value->Shared->Prop}(ta:s.TypeIs (.ref a) "dict")(tb:s.TypeIs (.ref b) "dict")(ha:(a==sysModules)=false)(hb:(b==sysModules)=false)(oq:s.heap.get? a=some oa)(vh:oa.data=.dict es ep)(xv:s.heap.get? b=some ob)(xw:ob.data=.dict ky oo)
  (h0:es.size=0\/ky.size=0) (hu:A.units<cLine) :
  (Q (.bool (es.size==ky.size)) s->wpAny X.M A (compareOp .Eq (.ref a) (.ref b)) Q E s)/\(Q (.bool (!(es.size==ky.size))) s->wpAny X.M A (compareOp .NotEq (.ref a) (.ref b)) Q E s):=by
 refine⟨λh=>wpAny_richCompare_same_room (op:=.Eq) ta tb PySem.F.slot_dict_eq (wpAny_call_entry PySem.F.slot_dict_eq ta PySem.F.entry_dict_eq ?_ (PySem.F.args_dict_eq_2 _ _)) hu,λh=>wpAny_richCompare_same_room (op:=.NotEq) ta tb PySem.F.slot_dict_ne (wpAny_call_entry PySem.F.slot_dict_ne ta PySem.F.entry_dict_ne ?_ (PySem.F.args_dict_ne_2 _ _)) hu⟩
 ·refine(?_:wpAny _ _ (Builtin.Dict.dictSlotArgs "__eq__" ⟨[.ref a,.ref b],[]⟩ >>= _) _ _ s)
  refine wpAny_bind (wpAny_bind (wpAny_notOrdered_dict ta (wpAny_pure (wpAny_bind (wpAny_isInstance (T:="dict") tb PySem.F.sub_dict_dict ?_)))))
  refine(?_:wpAny _ _ (Builtin.Dict.addrOf (.ref a) >>= _) _ _ s)
  exact wpAny_bind (wpAny_pure (wpAny_bind (wpAny_pure (wpAny_bind (Ee ha hb oq vh xv xw h0 (wpAny_pure ⟨_,rfl,nofun,by rw[Ec];exact h⟩))))))
 ·refine(?_:wpAny _ _ (Builtin.Dict.dictSlotArgs "__ne__" ⟨[.ref a,.ref b],[]⟩ >>= _) _ _ s)
  refine wpAny_bind (wpAny_bind (wpAny_notOrdered_dict ta (wpAny_pure (wpAny_bind (wpAny_isInstance (T:="dict") tb PySem.F.sub_dict_dict ?_)))))
  refine(?_:wpAny _ _ (Builtin.Dict.addrOf (.ref a) >>= _) _ _ s)
  exact wpAny_bind (wpAny_pure (wpAny_bind (wpAny_pure (wpAny_bind (Ee ha hb oq vh xv xw h0 (wpAny_pure ⟨_,rfl,nofun,by rw[Ed];exact h⟩))))))
open AutoSeq1 (wpAny_loadPart') in
open MeetsSeq MeetsSeq3 in
theorem Lh(l b:Addr)(ns ms:List Int)(ts us:Nat->Tok)(n n2:Nat)(items items2:Array Value)(h1:∀j:Nat,items[j]?=ns[j]?.map λi=>.int i (ts j))(h2:∀j:Nat,items2[j]?=ms[j]?.map λi=>.int i (us j))(k:Nat):
  ∀i:Nat,ns.length - i=k->Meets (Builtin.«list.__eq__.loop» ⟨[.ref l,.ref b,rawInt i,rawInt 0],[]⟩)
   (λA R s=>s.heap.get? l=some {cls:=.type "list",dict:=none,data:=.seq items n,slots:=#[]}/\s.heap.get? b=some {cls:=.type "list",dict:=none,data:=.seq items2 n2,slots:=#[]}/\i<=ns.length/\i<=ms.length/\items.size=ns.length/\items2.size=ms.length /\
    R (.ok (.ret (.bool (kg (ns.drop i) (ms.drop i))))) s):=by
 induction k with
 |zero=>
  intro i hk X.prog X.w A R s h
  obtain⟨hp,g,d,tk,os⟩:=s;obtain⟨hl,hb,iv,Li,pI,vi,h⟩:=h
  wp_walk using wpAny_loadPart' hl,wpAny_loadPart' hb
  have xy:items[((i:Nat):Int).toNat]?=none:=by rw[toNat_natCast,h1,getElem?_eq_none (Nat.sub_eq_zero_iff_le.mp hk)];rfl
  rw[xy]
  wp_walk using wpAny_loadPart' hl,wpAny_loadPart' hb
  refine(?_:R (.ok (.ret (.bool (decide (items.size<items2.size))))) _)
  have hd:ns.drop i=[]:=drop_eq_nil_iff.mpr (Nat.sub_eq_zero_iff_le.mp hk)
  rw[hd] at h
  have e:kg [] (ms.drop i)=decide (items.size<items2.size):=by
   cases hm:ms.drop i with
   |nil=>exact(decide_eq_false (by have:=drop_eq_nil_iff.mp hm;exact(by rw[pI,vi];exact not_lt.mpr (le_trans this iv)))).symm
   |cons x r=>exact(decide_eq_true (by have:=congrArg List.length hm;rw[length_drop,length_cons] at this;exact(by rw[pI,vi];exact lt_of_le_of_lt (Nat.sub_eq_zero_iff_le.mp hk) (Nat.sub_pos_iff_lt.mp (by rw[this];exact succ_pos _))))).symm
  rw[<-e];exact h
 |succ k ih=>
  intro i hk X.prog X.w A R s h
  obtain⟨hp,g,d,tk,os⟩:=s;obtain⟨hl,hb,iv,Li,pI,vi,h⟩:=h
  wp_walk using wpAny_loadPart' hl,wpAny_loadPart' hb
  have cU:i<ns.length:=Nat.sub_pos_iff_lt.mp (by rw[hk];exact succ_pos _)
  have xy:items[((i:Nat):Int).toNat]?=some (.int ns[i] (ts i)):=by rw[toNat_natCast,h1,getElem?_eq_getElem cU];rfl
  have Lj:ns.drop i=ns[i]::ns.drop (i+1):=List.drop_eq_getElem_cons cU
  rw[xy]
  rcases lt_or_ge i ms.length with z8|tE
  ·have xA:items2[((i:Nat):Int).toNat]?=some (.int ms[i] (us i)):=by rw[toNat_natCast,h2,getElem?_eq_getElem z8];rfl
   have Lk:ms.drop i=ms[i]::ms.drop (i+1):=List.drop_eq_getElem_cons z8
   have hc:((i:Int)+1)=((i+1:Nat):Int):=by push_cast;rfl
   rw[Lj,Lk] at h
   rw[xA]
   refine wpAny_bind (SeqAt.EqAt.int_int _ _ _ _ X.prog X.w _ _ ?_)
   by_cases e:ns[i]=ms[i]
   ·rw[beq_iff_eq.mpr e]
    wp_walk
    rw[hc]
    have e':kg (ns[i]::ns.drop (i+1)) (ms[i]::ms.drop (i+1))=kg (ns.drop (i+1)) (ms.drop (i+1)):=if_pos e
    rw[e'] at h
    exact⟨plainId_quiet plain_eq_loop _,codeAny_builtin entry_eq_loop (by
     rw[Around.under_plainId plain_eq_loop _]
     exact ih (i+1) (by rw[Nat.sub_succ,hk];rfl) X.prog X.w A R _ ⟨hl,hb,cU,z8,pI,vi,h⟩)⟩
   ·rw[beq_eq_false_iff_ne.mpr e]
    wp_walk using wpAny_loadPart' hl,wpAny_loadPart' hb
    rw[xy,xA]
    have e':kg (ns[i]::ns.drop (i+1)) (ms[i]::ms.drop (i+1))=decide (ns[i]<ms[i]):=if_neg e
    rw[e'] at h
    exact wpAny_bind (PyProof.Rows.lt_int (wpAny_pure h))
  ·have xA:items2[((i:Nat):Int).toNat]?=none:=by rw[toNat_natCast,h2,getElem?_eq_none tE];rfl
   rw[xA]
   wp_walk using wpAny_loadPart' hl,wpAny_loadPart' hb
   refine(?_:R (.ok (.ret (.bool (decide (items.size<items2.size))))) _)
   have hd:ms.drop i=[]:=drop_eq_nil_iff.mpr tE
   rw[hd] at h
   have e:kg (ns.drop i) []=decide (items.size<items2.size):=by
    rw[decide_eq_false (by rw[pI,vi];exact not_lt.mpr (le_trans tE (le_of_lt cU)))]
    cases ns.drop i<;>rfl
   rw[<-e];exact h
open AutoSeq1 (wpAny_loadPart') in
open MeetsSeq MeetsSeq3 in
theorem lt_meets(l b:Addr)(ns ms:List Int)(ts us:Nat->Tok)(n n2:Nat)(items items2:Array Value)(h1:∀j:Nat,items[j]?=ns[j]?.map λi=>.int i (ts j))(h2:∀j:Nat,items2[j]?=ms[j]?.map λi=>.int i (us j))(z1:items.size=ns.length)(z2:items2.size=ms.length):
  Meets (Builtin.«list.__lt__» ⟨[.ref l,.ref b],[]⟩) (λA R s=>s.heap.get? l=some {cls:=.type "list",dict:=none,data:=.seq items n,slots:=#[]}/\s.heap.get? b=some {cls:=.type "list",dict:=none,data:=.seq items2 n2,slots:=#[]}/\R (.ok (.ret (.bool (kg ns ms)))) s):=by
 intro X.prog X.w A R s h
 obtain⟨hp,g,d,tk,os⟩:=s;obtain⟨hl,hb,h⟩:=h
 have f3:=AutoSeq1.sub_list_list
 wp_walk using wpAny_loadPart' hl,wpAny_loadPart' hb
 exact⟨plainId_quiet plain_eq_loop _,codeAny_builtin entry_eq_loop (by
  rw[Around.under_plainId plain_eq_loop _]
  exact Lh l b ns ms ts us n n2 items items2 h1 h2 _ 0 rfl X.prog X.w A R _ ⟨hl,hb,zero_le _,zero_le _,z1,z2,h⟩)⟩
end
section
variable{P:Pt}{v u:V}{x y:Value}{vs:List V}{l m:Nat}{Q:Value->Shared->Prop}{b:Bool}
theorem xB{p:Ws}{xs:List Value}(r:ba p vs xs):∀is,allInts vs=some is->is.length=xs.length/\∃ts:Nat->Tok,∀j:Nat,xs.toArray[j]?=is[j]?.map λi=>.int i (ts j):=
 ba.ind (M:=λvs xs=>∀is,allInts vs=some is->is.length=xs.length/\∃ts:Nat->Tok,∀j:Nat,xs.toArray[j]?=is[j]?.map λi=>.int i (ts j)) (λis e=>Option.some.inj e▸⟨rfl,λZ=>0,λj=>rfl⟩) (λ{v x vs xs} r1 _ ih is e=>f9 e λi ei e=>fK (λis=>is.length=(x::xs).length/\∃ts:Nat->Tok,∀j:Nat,(x::xs).toArray[j]?=is[j]?.map λi=>.int i (ts j)) e λjs ej=>
  intOf.k ei (λv=>aY p v x->_) (λr1=>r1.inv (λx=>(i::js).length=(x::xs).length/\∃ts:Nat->Tok,∀j:Nat,(x::xs).toArray[j]?=(i::js)[j]?.map λi=>.int i (ts j)) λt=>have h:=ih js ej;⟨congrArg (·+1) h.1,h.2.elim λts h=>⟨λj=>match j with|0=>t|j+1=>ts j,λj=>match j with
   |0=>rfl
   |j+1=>by rw[getElem?_toArray,List.getElem?_cons_succ,List.getElem?_cons_succ,<-h j,getElem?_toArray]⟩⟩) r1) r
theorem Ll{a c:Addr}{xs ys:List Value}{us:List V}{ka kc:Nat}{is js:List Int}(h1:P.s.heap.get? a=some (gP xs ka))(h2:P.s.heap.get? c=some (gP ys kc))(r1:ba P.w vs xs)(r2:ba P.w us ys)(e1:allInts vs=some is)(e2:allInts us=some js)(k:Q (.bool (kg is js)) P.s):wpAny X.M P.A (compareOp .Lt (.ref a) (.ref c)) Q P.Ex P.s:=
 have q1:=xB r1 is e1
 have q2:=xB r2 js e2
 q1.2.elim λts z9=>q2.2.elim λEf Lm=>wpAny_richCompare_same_room (op:=.Lt) (iJ h1).typeIs (iJ h2).typeIs PySem.F.slot_list_lt
  (call_meets PySem.F.slot_list_lt (iJ h1).typeIs PySem.F.entry_list_lt (PySem.F.args_list_lt_2 _ _) (lt_meets a c is js ts Ef ka kc _ _ z9 Lm q1.1.symm q2.1.symm) ⟨h1,h2,nofun,k⟩) (by have:=P.rm.units;exact Nat.lt_of_succ_lt P.u1)
theorem il.k(r:aY P.w v x)(e:il P.H v=some b)(T:Value->Prop)(k:∀a o en ep,P.s.heap.get? a=some o->o.cls=.type "dict"->o.data=.dict en ep->b=decide (en.size=0)->(a==sysModules)=false->T (.ref a)):T x:=by
 have sz:∀{α β:Type} {as:List α} {bs:List β} {M:α->β->Prop} {en:Array DictEntry},L2 M as bs->en.toList.length=bs.length->as.isEmpty=decide (en.size=0):=λ{α β as bs M en} h e=>by
  rw[<-length_toList,e,<-h.length]
  cases as<;>rfl
 unfold il at e
 cases ed:jL P.H v with
 |some es=>
  rw[ed] at e
  exact cellAt.k ed (λu=>v=u->T x) (λl c hl hc=>gQ.k (λc=>P.H[l]?=some c->v=.ref l->T x) hc (λep hl ev=>P.cell (ev▸r) hl T λa ha h=>h.inv _ λo en kvs x0 x1 x2 x3 x4 x5 r z n=>k a o en ep x0 x1.1 x2 (Option.some.inj e▸sz r x4.length) z) hl) rfl
 |none=>
  rw[ed] at e
  exact fK (λb=>(∀a o en ep,P.s.heap.get? a=some o->o.cls=.type "dict"->o.data=.dict en ep->b=decide (en.size=0)->(a==sysModules)=false->T (.ref a))->T x) e (λes ed k=>cellAt.k ed (λu=>v=u->T x) (λl c hl hc=>jl.k (λc=>P.H[l]?=some c->v=.ref l->T x) hc (λep hl ev=>P.cell (ev▸r) hl T λa ha h=>h.inv _ λo en kvs x0 x1 x2 x3 x4 r z n=>k a o en ep x0 x1.1 x2 (sz r (by rw[x3,length_map])) z) hl) rfl) k
theorem Eg(r1:aY P.w v x)(r2:aY P.w u y)(e:kW P.H v u=some b):(Q (.bool b) P.s->wpAny X.M P.A (compareOp .Eq x y) Q P.Ex P.s)/\(Q (.bool (!b)) P.s->wpAny X.M P.A (compareOp .NotEq x y) Q P.Ex P.s):=by
 unfold kW at e
 cases eN:il P.H v with
 |some c=>
  rw[eN] at e
  refine f9 e λd ed e=>qU e (λb=>(Q (.bool b) P.s->wpAny X.M P.A (compareOp .Eq x y) Q P.Ex P.s)/\(Q (.bool (!b)) P.s->wpAny X.M P.A (compareOp .NotEq x y) Q P.Ex P.s)) λtF=>?_
  refine il.k r1 eN (λx=>(Q (.bool (c&&d)) P.s->wpAny X.M P.A (compareOp .Eq x y) Q P.Ex P.s)/\(Q (.bool (!(c&&d))) P.s->wpAny X.M P.A (compareOp .NotEq x y) Q P.Ex P.s)) λa o en ep a1 a2 a3 a4 a5=>il.k r2 ed (λy=>(Q (.bool (c&&d)) P.s->wpAny X.M P.A (compareOp .Eq _ y) Q P.Ex P.s)/\(Q (.bool (!(c&&d))) P.s->wpAny X.M P.A (compareOp .NotEq _ y) Q P.Ex P.s)) λa' o' xC oo b1 b2 b3 b4 b5=>?_
  subst a4 b4
  have h0:en.size=0\/xC.size=0:=(or_eq_true_iff.mp tF).imp of_decide_eq_true of_decide_eq_true
  have hb:(decide (en.size=0)&&decide (xC.size=0))=(en.size==xC.size):=by
   rcases h0 with h|h<;>rw[h]<;>cases en.size<;>cases xC.size<;>rfl
  rw[hb]
  exact Lg ⟨o,a1,a2⟩ ⟨o',b1,b2⟩ a5 b5 a1 a3 b1 b3 h0 (by have:=P.rm.units;exact Nat.lt_of_succ_lt P.u1)
 |none=>
  rw[eN] at e
  exact f9 e λd e1 e=>fK (λb=>(Q (.bool b) P.s->wpAny X.M P.A (compareOp .Eq x y) Q P.Ex P.s)/\(Q (.bool (!b)) P.s->wpAny X.M P.A (compareOp .NotEq x y) Q P.Ex P.s)) e λd' e2=>(vg P 10 v d x e1 r1).casesOn λas q1 q2 q3=>(vg P 10 u d' y e2 r2).casesOn λbs p1 p2 p3=>⟨eq_dataH q1 p1 (xu q2 q3) (xu p2 p3) (z5 P),ne_dataH q1 p1 (xu q2 q3) (xu p2 p3) (z5 P)⟩
theorem Eh(G:Good X)(r1:aY P.w v x)(r2:aY P.w u y)(e:pF P.H v u=some b)(k:∀tk,Q (.bool b) (upd P.s P.s.heap tk)):wpAny X.M P.A (compareOp .In x y) Q P.Ex P.s:=by
 unfold pF at e
 cases ed:jL P.H u with
 |some es=>
  rw[ed] at e
  exact fK (λb=>(∀tk,Q (.bool b) (upd P.s P.s.heap tk))->_) e (λi ei k=>intOf.k ei (λv=>aY P.w v x->_) (λr1=>r1.inv (λx=>wpAny X.M P.A (compareOp .In x y) Q P.Ex P.s) λt=>tD r2 G ed (λy=>wpAny X.M P.A (compareOp .In _ y) Q P.Ex P.s) λZ Z a kvs Z Z Z h2 h3 h1 h4=>
   wpAny_in_of (knd:=km) (k:=i) (beq_self_eq_true i) h1 h2.mapOf (by
    have h:=z7 es i
    rcases Eb h3 i with⟨w1,w2⟩|⟨_,_,w1,w2,_⟩<;>rw[w1] at h<;>rw[w2]<;>exact h▸k _)) r1) k
 |none=>
  rw[ed] at e
  cases ep:pC P.H u with
  |some es=>
   rw[ep] at e
   exact fK (λb=>(∀tk,Q (.bool b) (upd P.s P.s.heap tk))->_) e (λi ei k=>pairOf.k ei (λv=>aY P.w v x->_) (λr1=>l6 r2 G ep (λy=>wpAny X.M P.A (compareOp .In _ y) Q P.Ex P.s) λZ Z a kvs Z Z Z h2 h3 h1 h4=>r1.inv (λx=>aY P.w (kh i) x->wpAny X.M P.A (compareOp .In x _) Q P.Ex P.s) (λc n xs Z Z Z Z r1=>
    wpAny_in_heap (knd:=k7) (k:=pK i) (by refine(?_:P.A.units+1<cLine);have:=P.rm.units;exact P.u1) (u7 r1) h1 h2 (by
     have h:=z7 es i
     rcases z6 h3 i with⟨w1,w2⟩|⟨_,_,_,w1,w2,_⟩<;>rw[w1] at h<;>rw[w2]<;>exact h▸k _)) r1) r1) k
  |none=>
   rw[ep] at e
   refine f9 e λvs ev e=>f9 e λds eds e=>fK (λb=>(∀tk,Q (.bool b) (upd P.s P.s.heap tk))->_) e (λd e2 k=>(vg P 10 v d x e2 r1).casesOn λbs p1 p2 p3=>?_) k
   have hu:∀{m:Nat},P.A.units+1+min m d.depth<cLine:=by have:=z5 P;exact λ{_}=>lt_of_le_of_lt (add_le_add_left (le_trans (min_le_right _ _) p3) _) (lt_of_le_of_lt (add_le_add_left (show 11<=64 by decide) _) this)
   exact items G r2 ev (λy=>wpAny X.M P.A (compareOp .In x y) Q P.Ex P.s) (λZ a xs n h1 h2 Z Z=>(xt (vg P 10) h2 ds eds).casesOn λas q1 q2 q3=>SeqAt.in_tuple_reads (reads_tuple_at h1 rfl rfl q1) p1 q2 p2 hu (k _)) λa xs h1 h2 Z=>(xt (vg P 10) h2 ds eds).casesOn λas q1 q2 q3=>h1.elim λo h1=>h1.2.2.elim λn hd=>SeqAt.in_list_reads (reads_list_at h1.1 h1.2.1 hd q1) p1 q2 p2 hu (k _)
theorem pE.k{f:Int->Int->Bool}(e:pE v u f=some b)(r1:aY P.w v x)(r2:aY P.w u y)(T:Value->Value->Bool->Prop)(k:∀i j t t',T (.int i t) (.int j t') (f i j)):T x y b:=
 f9 e λi ei e=>fK (λb=>T x y b) e λj ej=>intOf.k ei (λv=>aY P.w v x->_) (λr1=>intOf.k ej (λu=>aY P.w u y->_) (λr2=>r1.inv (λx=>T x y _) λt=>r2.inv (λy=>T _ y _) λt'=>k i j t t') r2) r1
theorem tG{op:lY}(G:Good X)(r1:aY P.w v x)(r2:aY P.w u y)(e:eQ op v u P.H=some b)(k:∀tk,Q (.bool b) (upd P.s P.s.heap tk)):wpAny X.M P.A (compareOp (qH op) x y) Q P.Ex P.s:=by
 cases op with
 |eq=>exact(Eg r1 r2 e).1 (k _)
 |ne=>exact fK (λb=>(∀tk,Q (.bool b) (upd P.s P.s.heap tk))->_) e (λc e k=>(Eg r1 r2 e).2 (k _)) k
 |j8=>exact Eh G r1 r2 e k
 |gL=>exact fK (λb=>(∀tk,Q (.bool b) (upd P.s P.s.heap tk))->_) e (λc e k=>Ld (Eh G r1 r2 e λtk=>⟨_,rfl,k tk⟩)) k
 |le=>exact pE.k e r1 r2 (λx y b=>(∀tk,Q (.bool b) (upd P.s P.s.heap tk))->wpAny X.M P.A (compareOp .LtE x y) Q P.Ex P.s) (λZ Z Z Z k=>le_int (k _)) k
 |gt=>exact pE.k e r1 r2 (λx y b=>(∀tk,Q (.bool b) (upd P.s P.s.heap tk))->wpAny X.M P.A (compareOp .Gt x y) Q P.Ex P.s) (λZ Z Z Z k=>gt_int (k _)) k
 |ge=>exact pE.k e r1 r2 (λx y b=>(∀tk,Q (.bool b) (upd P.s P.s.heap tk))->wpAny X.M P.A (compareOp .GtE x y) Q P.Ex P.s) (λZ Z Z Z k=>ge_int (k _)) k
 |lt=>
  change zS v u P.H=some b at e
  unfold zS at e
  split at e
  ·cases e;exact r1.inv (λx=>wpAny X.M P.A (compareOp .Lt x y) Q P.Ex P.s) λt=>r2.inv (λy=>wpAny X.M P.A (compareOp .Lt _ y) Q P.Ex P.s) λt'=>lt_int (k _)
  ·exact f9 e λis e1 e=>fK (λb=>(∀tk,Q (.bool b) (upd P.s P.s.heap tk))->_) e (λjs e2 k=>f9 e1 λvs e3 e1=>f9 e2 λus e4 e2=>bX r1 e3 (λx=>wpAny X.M P.A (compareOp .Lt x y) Q P.Ex P.s) λZ a xs n Z Z Z h1 h2 Z=>bX r2 e4 (λy=>wpAny X.M P.A (compareOp .Lt _ y) Q P.Ex P.s) λZ c ys n' Z Z Z q1 q2 Z=>Ll h1 q1 h2 q2 e1 e2 (k _)) k
  ·cases e
end
section
variable{σ:Lv}{P:Fp σ}{Q:Value->Shared->Prop}{x:Str}{pos:Pos}
theorem Ln{k:Option NameKind}(h:om k){G:Prop}(kc:k=some .cell->G)(kf:k=some .free->G):G:=by
 cases k with
 |none=>cases h
 |some k=>cases k<;>first|cases h;done|exact kc rfl|exact kf rfl
theorem kS.k{ns:List Str}{i:Nat}{G:Prop}(h:kS ns i x=true)(k:ns.idxOf x=i->x∈ns->G):G:=aR h λh1 h2=>by
 have h1:=of_decide_eq_true h1
 exact k h1 (List.idxOf_lt_length_iff.mp (h1▸of_decide_eq_true h2))
theorem Lo{i:Nat}(h:DQ σ.f i x=true):b8 σ (.J i) (.Name x pos):=λP post Q p k=>
 aR h λh1 h=>aR h λh2 h=>aR h λh3 h4=>kS.k h1 λhi hx=>aH.k p λv hv p=>by
  rw[<-hi] at hv
  refine wpAny_Name ?_ (not_eq_true' _▸h3)
  have key:P.env.kindOf x=some .local\/om (P.env.kindOf x):=by
   rcases P.kd x with e|⟨_,e⟩
   ·rw[<-e]
    revert h2
    cases σ.f.sc.names.lookup x with
    |none=>exact λh=>Bool.noConfusion h
    |some k=>cases k<;>first|exact λh=>Bool.noConfusion h|exact λZ=>.inl rfl|exact λZ=>.inr rfl
   ·exact .inr e
  rcases key with hk|hk
  ·exact P.F.loc.elim λm h=>(h.2 x hx hk).inv hv (λy=>m x=y->_) (λy r e=>wpAny_loadName_local P.F.fc.fn hk h.1 e (k.now p r _)) rfl
  ·exact(P.F.qS x hx hk).elim λc h=>h.elim λy h=>h.2.2.inv hv (λy=>P.s.heap.IsCell c y->_) (λy r e=>Ln hk (λhk=>wpAny_loadName_cell P.F.fc.fn hk h.1 e (k.now p r _)) λhk=>wpAny_loadName_free P.F.fc.fn hk h.1 e (k.now p r _) (not_eq_true' _▸h4)) h.2.1
theorem Kinds.glob{env:Env}(kd:Kinds σ.f.sc env){G:Prop}(h:l9 σ.f x=true)(k:env.kindOf x=some .globalImplicit->(x==("__debug__":Str))=false->G):G:=aR h λh1 h2=>by
 have h1:=of_decide_eq_true h1
 rcases kd x with e|⟨e,_⟩
 ·exact k (e▸h1) (not_eq_true' _▸h2)
 ·rw[h1] at e;cases e
theorem tH(G:Good X)(P:Fp σ){y:Value}(e:X.mg x=some y)(h:l9 σ.f x=true)(hQ:Q y P.s):wpAny X.M P.A (eval (.Name x pos) P.env) Q P.Ex P.s:=
 P.kd.glob h λk1 k2=>Name_function_global P.F.fc.fn k1 (loadGlobal_global (by rw[P.F.fc.glob];exact G.g.keeps P.R.keep) e hQ) k2
theorem pJ(G:Good X)(P:Fp σ){y:Value}(e:(x,y)∈mV)(h:l9 σ.f x=true)(hQ:Q y P.s):wpAny X.M P.A (eval (.Name x pos) P.env) Q P.Ex P.s:=
 P.kd.glob h λk1 k2=>have e:=G.bi _ e;Name_function_global P.F.fc.fn k1 (loadGlobal_builtin (by rw[P.F.fc.glob];exact G.g.keeps P.R.keep) e.1 (by rw[P.F.fc.blt];exact G.b.keeps P.R.keep) e.2 hQ) k2
theorem Lp{j:Nat}(G:Good X)(h1:gK.wG[j]?=some x)(h2:l9 σ.f x=true):b8 σ (.gk j) (.Name x pos):=λP post Q p k=>
 aH.k p λv hv p=>(G.gk j x h1).elim (λh=>h.elim λi h=>h.elim λu h=>tH G P h.2 h2 (k.now p (Option.some.inj (h.1.symm.trans hv)▸aY.int i u) _)) λh=>h.elim λa h=>h.elim λis h=>h.elim λvs h=>h.elim λn h=>tH G P h.2.1 h2 (k.now p (Option.some.inj (h.1.symm.trans hv)▸aY.aC (P.R.keep _ _ h.2.2.1) (zX h.2.2.2.1) (by rw[length_map];exact le_trans h.2.2.2.2 (by decide)) λhm=>bD (P.R.fresh _ hm) h.2.2.1) _)
end
section
variable{P:Pt}{Q:Value->Shared->Prop}{v u:V}{x y:Value}{vs:List V}
theorem kX.k{xs:List Value}{p:Ws}{k:Int}{G:Prop}(r:ba p vs xs)(e:kX vs k=some v)
  (kk:∀j z,seqIndex? k xs.length=some j->xs[j]?=some z->aY p v z->((0<=k/\j=k.toNat)\/(k<0/\-(xs.length:Int)<=k/\j=(k+xs.length).toNat))->G):G:=by
 have hl:=r.length
 unfold kX at e
 by_cases h0:0<=k
 ·rw[if_pos h0] at e
  refine r.get e λz hz rz=>kk k.toNat z ?_ hz rz (.inl ⟨h0,rfl⟩)
  have cU:=(List.getElem?_eq_some_iff.mp hz).1
  unfold seqIndex?
  rw[if_neg (Int.not_lt.mpr h0),if_pos (by rw[decide_eq_true h0,decide_eq_true ((toNat_lt h0).mp cU)];rfl)]
 ·rw[if_neg h0] at e
  have h1:k<0:=not_le.mp h0
  rw[hl] at e
  by_cases h2:-(xs.length:Int)<=k
  ·rw[if_pos h2] at e
   refine r.get e λz hz rz=>kk _ z ?_ hz rz (.inr ⟨h1,h2,rfl⟩)
   unfold seqIndex?
   rw[if_pos h1,if_pos (by rw[decide_eq_true (by lia),decide_eq_true (by lia)];rfl)]
  ·rw[if_neg h2] at e;cases e
noncomputable def Aa(e:Expr):Bool:=decide (e.ctorIdx≠26)
theorem xD{e:Expr}(h:Aa e=true)(o i:Value):subscripted e false o i=operate [o,i] (getItem o i):=by
 cases e<;>first|rfl|cases h
theorem Lq{i:V}{value slice:Expr}(G:Good X)(P:Pt)(hs:Aa slice=true)(r1:aY P.w v x)(r2:aY P.w i y)(e:gB v i P.H=some u)(k:∀tk z,aY P.w u z->Q z (upd P.s P.s.heap tk)):wpAny X.M P.A (subscriptTail value slice x y) Q P.Ex P.s:=by
 have two:(pairOf i).bind (λq=>(pC P.H v).bind λes=>fI es q)=some u->wpAny X.M P.A (subscriptTail value slice x y) Q P.Ex P.s:=λe=>
  f9 e λq eq e=>f9 e λes ees e=>pairOf.k eq (λi=>aY P.w i y->_) (λr2=>r2.inv (λy=>aY P.w (kh q) y->wpAny X.M P.A (subscriptTail value slice x y) Q P.Ex P.s) (λa n xs Z Z Z Z r2=>l6 r1 G ees (λx=>wpAny X.M P.A (subscriptTail value slice x _) Q P.Ex P.s) λZ Z d kvs Z Z Z h2 h3 Z Z=>
   tail_any h2.typeIs PySem.slot_dict_getitem.lookup (by
    rcases z6 h3 q with⟨w1,_⟩|⟨_,_,_,w1,w2,w3⟩
    ·exact bD w1 e
    ·rw[w1] at e;cases e
     exact wpAny_getItem_heap (knd:=k7) (k:=pK q) (by refine(?_:P.A.units+1<cLine);have:=P.rm.units;exact P.u1) (u7 r2) h2 w2 (k _ _ w3)) (xD hs _ _)) r2) r2
 cases i with
 |int j=>
  refine r2.inv (λy=>wpAny X.M P.A (subscriptTail value slice x y) Q P.Ex P.s) λt=>?_
  change (match kU P.H v with|some vs=>kX vs j|none=>(jL P.H v).bind λes=>fI es j)=some u at e
  cases hi:kU P.H v with
  |some vs=>
   rw[hi] at e
   have bd:∀{m:Nat} {l:List Value},vs.length=l.length->vs.length<=16000000->m<l.length->(0<=j/\m=j.toNat)\/(j<0/\-(l.length:Int)<=j/\m=(j+l.length).toNat)->-(2:Int)^63<=j/\j<2^63:=λe hz hm h=>h.elim (λa=>⟨Int.le_trans (by decide) a.1,Int.lt_trans ((toNat_lt a.1).mp (show j.toNat<16000000 from a.2▸lt_of_lt_of_le hm (e▸hz))) (by decide)⟩) λa=>⟨Int.le_trans (Int.le_trans (show -(2:Int)^63<=-16000000 by decide) (Int.neg_le_neg (ofNat_le.mpr (e▸hz)))) a.2.1,Int.lt_trans a.1 (by decide)⟩
   refine items G r1 hi (λx=>wpAny X.M P.A (subscriptTail value slice x _) Q P.Ex P.s) (λZ a xs n h1 h2 h3 Z=>kX.k h2 e λm z q1 q2 q3 q4=>?_) λa xs h1 h2 h3=>kX.k h2 e λm z q1 q2 q3 q4=>?_
   ·have b:=bd h2.length h3 (List.getElem?_eq_some_iff.mp q2).1 q4
    exact item_tupleT (vd h1) b.1 b.2 q1 q2 (k _ z q3) (xD hs _ _)
   ·have b:=bd h2.length h3 (List.getElem?_eq_some_iff.mp q2).1 q4
    refine tail_any h1.typeIs PySem.slot_list_getitem.lookup ?_ (xD hs _ _)
    rcases q4 with⟨q4,rfl⟩|⟨q4,q5,rfl⟩
    ·exact wpAny_getItem_list h1 q4 b.2 (by rw[getElem?_toArray];exact q2) (k _ z q3)
    ·exact wpAny_getItem_list_neg h1 q4 q5 b.1 (by rw[getElem?_toArray];exact q2) (k _ z q3)
  |none=>
   rw[hi] at e
   exact f9 e λes ees e=>tD r1 G ees (λx=>wpAny X.M P.A (subscriptTail value slice x _) Q P.Ex P.s) λZ Z d kvs Z Z Z h2 h3 Z Z=>tail_any h2.typeIs PySem.slot_dict_getitem.lookup (by
    rcases Eb h3 j with⟨w1,_⟩|⟨_,_,w1,w2,w3⟩
    ·exact bD w1 e
    ·rw[w1] at e;cases e
     exact wpAny_getItem_of (knd:=km) (k:=j) (beq_self_eq_true j) h2.mapOf w2 (k _ _ w3)) (xD hs _ _)
 |_=>exact two e
end
noncomputable def pL(w:Bool):BoolOp:=if w then .And else .Or
section
variable{σ:Lv}{A:Around}{env:Env}{s:Shared}{Ex:Value->Shared->Prop}
theorem Lr{w:Bool}{Ei Ej:Expr}{rest:List Expr}{pos:Pos}{Q:Value->Shared->Prop}(h:wpAny X.M A (eval Ei env) (λv bU=>wpAny X.M A (PySem.truthy v) (λc ey=>bB (c==w) (wpAny X.M A (eval (.BoolOp (pL w) (Ej::rest) pos) env) Q Ex ey) (Q v ey)) Ex bU) Ex s):
  wpAny X.M A (eval (.BoolOp (pL w) (Ei::Ej::rest) pos) env) Q Ex s:=by
 cases w
 ·exact BoolOp_or (wpAny_mono h (λv bU h=>wpAny_mono h (λc ey h=>by cases c<;>exact h) λZ Z h=>h) λZ Z h=>h)
 ·exact BoolOp_and (wpAny_mono h (λv bU h=>wpAny_mono h (λc ey h=>by cases c<;>exact h) λZ Z h=>h) λZ Z h=>h)
theorem Ls{w:Bool}{e:Expr}{rest:List Expr}{Q:Bool->Shared->Prop}(h:wpAny X.M A (isTrue e env (eval e env)) (λc bU=>bB (c==w) (wpAny X.M A (allTrue (pL w) rest env) Q Ex bU) (Q c bU)) Ex s):wpAny X.M A (allTrue (pL w) (e::rest) env) Q Ex s:=by
 cases w
 ·exact wpAny_allTrue_Or_cons (wpAny_mono h (λc ey h=>by cases c<;>exact h) λZ Z h=>h)
 ·exact wpAny_allTrue_And_cons (wpAny_mono h (λc ey h=>by cases c<;>exact h) λZ Z h=>h)
theorem Lu{w:Bool}{Q:Bool->Shared->Prop}(h:Q w s):wpAny X.M A (allTrue (pL w) [] env) Q Ex s:=by
 cases w<;>exact wpAny_pure h
structure eA(σ:Lv)(cs:List E)(es:List Expr):Prop where
 len:cs.length=es.length
 na:∀(P:Fp σ) (post:List V->Hp->Prop) (Q:List Value->Shared->Prop) (pos:Pos),mj σ.c cs P.ρ P.H post->zW P.toPt cs.length post Q->wpAny X.M P.A (spliced (backTo pos (starEach es P.env))) Q P.Ex P.s
 plain:∀(env:Env) (pos:Pos),(backTo pos (starEach es env)).any (·.1)=false
 get:∀(i:Nat) c e,cs[i]?=some c->es[i]?=some e->b8 σ c e/\tB σ c e
 bo:∀(w:Bool) (P:Fp σ) (post:PQ) (Q:Value->Shared->Prop) (pos:Pos),tm σ.c w cs P.ρ P.H post->Kn P.toPt post Q->wpAny X.M P.A (eval (.BoolOp (pL w) es pos) P.env) Q P.Ex P.s
 xF:∀(w:Bool) (P:Fp σ) (post:PQ) (Q:Bool->Shared->Prop) ,tm σ.c w cs P.ρ P.H post->vc P.toPt post Q->wpAny X.M P.A (allTrue (pL w) es P.env) Q P.Ex P.s
 xG:∀(P:Fp σ) (post:Bool->Hp->Prop) (Q:Bool->Shared->Prop) ,WT σ.c cs P.ρ P.H post->xr P.toPt post Q ->
  wpAny X.M P.A (forIn es true λc r=>if r=true then do let ok <-isTrue c P.env (eval c P.env);pure (ForInStep.yield ok) else pure (ForInStep.yield r)) Q P.Ex P.s
theorem Lw{es:List Expr}{Q:Bool->Shared->Prop}(h:Q false s):
  wpAny X.M A (forIn es false λc r=>if r=true then do let ok <-isTrue c env (eval c env);pure (ForInStep.yield ok) else pure (ForInStep.yield r)) Q Ex s:=by
 induction es with
 |nil=>exact wpAny_pure h
 |cons e r ih=>rw[forIn_cons];exact wpAny_bind (wpAny_pure ih)
theorem pM{c:E}{e:Expr}(h:cg σ.f c e=true)(env:Env)(rest:List Expr):starEach (e::rest) env=(false,eval e env)::starEach rest env:=by
 cases e<;>first|rfl|skip
 exfalso
 cases c<;>exact Bool.noConfusion h
theorem eA.nil:eA σ [] [] where
 len:=rfl
 na:=λP post Q pos p k=>wpAny_items_nil (k _ _ p rfl (P.fT _) _ .nil)
 plain:=λZ Z=>rfl
 get:=λi c e h=>bD getElem?_nil h
 bo:=λw P post Q pos p=>p.elim
 xF:=λw P post Q p=>p.elim
 xG:=λP post Q p k=>wpAny_pure (k _ _ p (P.fT _))
theorem eA.cons{c:E}{cs:List E}{e:Expr}{es:List Expr}(h0:cg σ.f c e=true)(he:b8 σ c e/\tB σ c e)(hs:eA σ cs es):eA σ (c::cs) (e::es) where
 len:=congrArg (·+1) hs.len
 na:=λP post Q pos p k=>wpAny_items_cons (he.1 P _ _ p (λv H1 p1 N x r=>hs.na (P.to N) _ _ pos p1 (λvs H2 p2 hl N2 xs r2=>k _ _ p2 (congrArg (·+1) hl) (N.then N2) _ (.cons (r.mono N2.S) r2)))) (pM h0 P.env es)
 get:=λi c' e' h1 h2=>by
  cases i with
  |zero=>cases h1;cases h2;exact he
  |succ i=>exact hs.get i c' e' h1 h2
 plain:=λenv pos=>by
  rw[pM h0 env es]
  exact hs.plain env pos
 bo:=λw P post Q pos p k=>by
  cases cs with
  |nil=>
   cases es with
   |nil=>exact BoolOp_one (he.1 P _ _ p k)
   |cons _ _=>cases hs.len
  |cons c2 cs=>
   cases es with
   |nil=>cases hs.len
   |cons e2 es=>
    refine Lr (he.1 P _ _ p (λv H1 p1 N x r=>aH.k p1 λb hb p1=>zY (P:=N.pt) r hb λtk=>?_))
    cases hw:b==w with
    |true=>rw[hw] at p1;exact hs.bo w (P.to (N.then (N.pt.fT tk))) _ _ pos p1 (k.nx _)
    |false=>rw[hw] at p1;exact k _ _ p1 (N.then (N.pt.fT tk)) _ r
 xF:=λw P post Q p k=>by
  refine Ls ?_
  cases cs with
  |nil=>
   cases es with
   |cons _ _=>cases hs.len
   |nil=>
    refine he.2 P _ _ p (λv H1 p1=>(k v H1 p1).m λb h N=>?_)
    cases hw:b==w with
    |true=>exact Lu (eq_of_beq hw▸h N)
    |false=>exact h N
  |cons c2 cs=>
   refine he.2 P _ _ p (λv H1 p1=>aH.k p1 λb hb p1=>.i hb λN=>?_)
   cases hw:b==w with
   |true=>rw[hw] at p1;exact hs.xF w (P.to N) _ _ p1 (k.nx N)
   |false=>rw[hw] at p1;exact aH.at hb (k v H1 p1) N
 xG:=λP post Q p k=>by
  rw[forIn_cons]
  refine wpAny_bind (wpAny_bind (he.2 P _ _ p (λv H1 p1=>p1.m λb p1 N=>wpAny_pure ?_)))
  cases b with
  |true=>exact hs.xG (P.to N) _ _ p1 (k.nx N)
  |false=>exact Lw (k _ _ p1 N)
end
section
variable{σ:Lv}{a b c:E}{l r r':Expr}{pos:Pos}
noncomputable def bM(σ:Lv)(c:E)(e:Expr):Prop:=b8 σ c e/\tB σ c e
theorem b8.t{e:Expr}(ev:b8 σ c e)(he:∀env,isTrue e env (eval e env)=(do let v <-eval e env;standAt e.pos;holding [v] (PySem.truthy v))):bM σ c e:=
 ⟨ev,λP post Q p k=>wpAny_isTrue_value (ev P _ _ p (λv H1 p1 N x r=>aH.k (k v H1 p1) λb hb h=>zY (P:=N.pt) r hb λtk=>h (N.then (N.pt.fT tk)))) (he _)⟩
theorem qV(ha:b8 σ a l)(hb:b8 σ b r)(P:Fp σ){post:V->V->Hp->Prop}{Q:Value->Value->Shared->Prop}(p:WE σ.c a P.ρ P.H λx H=>WE σ.c b P.ρ H λy H=>post x y H)
  (k:∀v u H,post v u H->∀(N:Nx P.toPt H) x y,aY N.w v x->aY N.w u y->Q x y N.s):wpAny X.M P.A (eval l P.env) (λx bU=>wpAny X.M P.A (eval r P.env) (λy ey=>Q x y ey) P.Ex bU) P.Ex P.s:=
 ha P _ _ p (λv H1 p1 N x r1=>hb (P.to N) _ _ p1 (λu H2 p2 N2 y r2=>k v u H2 p2 (N.then N2) x y (r1.mono N2.S) r2))
theorem Lx{v:V}{c:Const}{k:Nat}(h:zM v=some c):b8 σ (.k v) (.Constant c k pos):=λP post Q p k=>
 V.casesOn (motive_1:=λv=>zM v=some c->post v P.H->wpAny X.M P.A (eval (.Constant c _ pos) P.env) Q P.Ex P.s) v (λh p=>Option.some.inj h▸wpAny_Constant_none (k.now p .none _)) (λZ h p=>Option.some.inj h▸wpAny_Constant_bool (k.now p (.bool _) _)) (λZ h p=>Option.some.inj h▸wpAny_Constant_int (k.now p (.int _ _) _))
  (λZ h p=>Option.some.inj h▸wpAny_Constant_str (k.now p (.str _ _) _)) (λZ h=>bD rfl h) (λZ h=>bD rfl h) (λh=>bD rfl h) h p
theorem Ly{op:lX}(G:Good X)(ha:b8 σ a l)(hb:b8 σ b r):b8 σ (.bin op a b) (.BinOp l (pw op) r pos):=λP post Q p k=>
 wpAny_BinOp (qV ha hb P p (λv u H q N x y r1 r2=>K9 G N.pt r1 r2 q (k.nx N)))
theorem Lz(ha:b8 σ a l):b8 σ (.neg a) (.UnaryOp .USub l pos):=λP post Q p k=>
 wpAny_UnaryOp (ha P _ _ p (λv H1 p1 N x r=>fv.k p1 (λv=>aY N.w v x->_) (λi p1 r=>r.inv (λx=>wpAny X.M P.A (unaryOp .USub x) Q P.Ex N.s) λt=>neg_int (k _ _ p1 (N.then (N.pt.fT _)) _ (.int _ _))) r))
theorem LA(ha:bM σ a l):bM σ (.not a) (.UnaryOp .Not l pos):=
 ⟨λP post Q p k=>wpAny_UnaryOp (ha.1 P _ _ p (λv H1 p1 N x r=>aH.k p1 λb hb p1=>not_of (zY (P:=N.pt) r hb λtk=>k _ _ p1 (N.then (N.pt.fT tk)) _ (.bool _)))),
  λP post Q p k=>wpAny_isTrue_Not (ha.2 P _ _ p (λv H1 p1=>p1.m λb p1=>k _ _ p1))⟩
theorem Ek{w:Bool}{cs:List E}{es:List Expr}(h:eA σ cs es)(hw:∀ρ H post,WE σ.c c ρ H post->tm σ.c w cs ρ H post):bM σ c (.BoolOp (pL w) es pos):=
 ⟨λP post Q p k=>h.bo w P post Q pos (hw _ _ _ p) k,λP post Q p k=>wpAny_isTrue_BoolOp (h.xF w P post Q (hw _ _ _ p) k)⟩
theorem xI{c:E}{e:Expr}(h:cg σ.f c e=true)(o:CmpOp):behindInMarks o e=false:=by
 cases e<;>first|rfl|skip
 exfalso
 cases c<;>exact Bool.noConfusion h
theorem LB{op:lY}(G:Good X)(h0:cg σ.f b r=true)(ha:b8 σ a l)(hb:b8 σ b r):bM σ (.cmp op a b) (.Compare l [qH op] [r] pos):=
 ⟨λP post Q p k=>wpAny_Compare1 (qV ha hb P p (λv u H q N x y r1 r2=>aH.k q λt ht q=>tG (P:=N.pt) G r1 r2 ht λtk=>k _ _ q (N.then (N.pt.fT tk)) _ (.bool _))) (xI h0 _),
  λP post Q p k=>wpAny_isTrue_Compare1 (qV ha hb P p (λv u H q N x y r1 r2=>aH.k q λt ht q=>tG (P:=N.pt) G r1 r2 ht λtk=>wpAny_truthy_bool (k _ _ q (N.then (N.pt.fT tk))))) (xI h0 _)⟩
theorem LC{op nQ:lY}(G:Good X)(h0:cg σ.f c r'=true)(ha:b8 σ a l)(hb:b8 σ b r)(hc:b8 σ c r'):bM σ (.pf op nQ a b c) (.Compare l [qH op,qH nQ] [r,r'] pos):=by
 refine⟨λP post Q p k=>Compare_chain (ha P _ _ p (λv H1 p1 N x r1=>chain_link (hb (P.to N) _ _ p1 (λu H2 p2 N2 y r2=>aH.k p2 λt ht p2=>tG (P:=N2.pt) G (r1.mono N2.S) r2 ht λtk=>wpAny_truthy_bool ?_)))) (xI h0 _),
  λP post Q p k=>isTrue_chain (ha P _ _ p (λv H1 p1 N x r1=>test_link (hb (P.to N) _ _ p1 (λu H2 p2 N2 y r2=>aH.k p2 λt ht p2=>tG (P:=N2.pt) G (r1.mono N2.S) r2 ht λtk=>wpAny_truthy_bool ?_)))) (xI h0 _)⟩
 ·have N3:=(N.then N2).then (N2.pt.fT tk)
  cases t with
  |true=>exact chain_last (hc (P.to ((N.then N2).then (N2.pt.fT tk))) _ _ p2 (λw H4 p4 N4 z r4=>aH.k p4 λt' qW p4=>tG (P:=N4.pt) G (r2.mono N4.S) r4 qW λnc=>k _ _ p4 ((N.then N2).then ((N2.pt.fT tk).then (N4.then (N4.pt.fT nc)))) _ (.bool _)))
  |false=>exact k _ _ p2 ((N.then N2).then (N2.pt.fT tk)) _ (.bool _)
 ·cases t with
  |true=>exact test_last (hc (P.to ((N.then N2).then (N2.pt.fT tk))) _ _ p2 (λw H4 p4 N4 z r4=>aH.k p4 λt' qW p4=>tG (P:=N4.pt) G (r2.mono N4.S) r4 qW λnc=>wpAny_truthy_bool (k _ _ p4 ((N.then N2).then ((N2.pt.fT tk).then (N4.then (N4.pt.fT nc)))))))
  |false=>exact k _ _ p2 ((N.then N2).then (N2.pt.fT tk))
theorem Ab{p:Ws}{v:V}{x:Value}(r:aY p v x):plainIs x .none=true/\(x==Value.none)=uv v:=
 r.casesOn (motive_1:=λv x Z=>plainIs x .none=true/\(x==Value.none)=uv v) ⟨rfl,rfl⟩ (λZ=>⟨rfl,rfl⟩) (λZ Z=>⟨rfl,rfl⟩) (λZ Z=>⟨rfl,rfl⟩) (λZ Z Z Z=>⟨rfl,rfl⟩) (λZ=>⟨rfl,rfl⟩) ⟨rfl,rfl⟩
theorem is_none{P:Pt}{w:Bool}{v:V}{x:Value}{Q:Value->Shared->Prop}(r:aY P.w v x)(h:Q (.bool (uv v==w)) P.s):wpAny X.M P.A (compareOp (if w then .Is else .IsNot) x .none) Q P.Ex P.s:=by
 rw[<-(Ab r).2] at h
 cases w
 ·rw[Ed] at h;exact wpAny_isNot_plain (Ab r).1 h
 ·rw[Ec] at h;exact wpAny_is_plain (Ab r).1 h
theorem LD{w:Bool}{k:Nat}{kp:Pos}(ha:b8 σ a l):bM σ (.isNone w a) (.Compare l [if w then .Is else .IsNot] [.Constant .none k kp] pos):=
 ⟨λP post Q p k=>wpAny_Compare1 (ha P _ _ p (λv H1 p1 N x r1=>wpAny_Constant_none (is_none (P:=N.pt) r1 (k _ _ p1 N _ (.bool _))))) rfl,
  λP post Q p k=>wpAny_isTrue_Compare1 (ha P _ _ p (λv H1 p1 N x r1=>wpAny_Constant_none (is_none (P:=N.pt) r1 (wpAny_truthy_bool (k _ _ p1 N))))) rfl⟩
theorem El{cs:List E}{vs:List V}{xs:List Value}{p:Ws}(hc:cs.length<1000)(hl:vs.length=cs.length)(r:ba p vs xs):xs.length<=sizeLine/\vs.length<=16000000:=by
 rw[<-r.length,hl];unfold sizeLine;lia
theorem LF{cs:List E}{es:List Expr}{k:Nat}(hc:cs.length<1000)(h:eA σ cs es):b8 σ (.aC cs) (.Tuple es k pos):=λP post Q p k=>
 wpAny_Tuple_spliced (h.na P _ _ pos p (λvs H1 p1 hl N xs r=>have z:=El hc hl r;⟨z.1,k _ _ p1 (N.then (N.pt.ext (.push _) N.tk)) _ (.aC (n:=0) (get?_push_size _ rfl) (r.mono (bK.ext (own:=gm) (p:=N.w) (q:=N.w) .refl (.push _))) z.2 (N.R.new (gF _ (le_refl _))).1)⟩))
theorem LG{cs:List E}{es:List Expr}(hc:cs.length<1000)(h:eA σ cs es):b8 σ (.bX cs) (.List es pos):=λP post Q p k=>
 wpAny_List_spliced (h.na P _ _ pos p (λvs H1 p1 hl N xs r=>have z:=El hc hl r;⟨z.1,Kn.list (P:=N.pt) (k.nx N) (.push _) _ (gF _ (le_refl _)) (get?_push_size _ rfl) r z.2 p1 _⟩))
theorem LH{c:E}{e:Expr}(h:cg σ.f c e=true):Aa e=true:=by
 cases e<;>first|rfl|skip
 exfalso
 cases c<;>exact Bool.noConfusion h
theorem LI(G:Good X)(h0:cg σ.f b r=true)(ha:b8 σ a l)(hb:b8 σ b r):b8 σ (.aM a b) (.Subscript l r pos):=λP post Q p k=>
 Subscript_ (qV ha hb P p (λv u H q N x y r1 r2=>aH.k q λw hw q=>Lq G N.pt (LH h0) r1 r2 hw λtk z rz=>k _ _ q (N.then (N.pt.fT tk)) _ rz))
theorem ot{A:Around}{s:Shared}{f:Value}{args:List (Bool×Sem Value)}{Q:Args->Shared->Prop}{Ex:Value->Shared->Prop}(hp:args.any (·.1)=false)(h:wpAny X.M A (spliced args) (λvs s'=>Q ⟨vs,[]⟩ s') Ex s):wpAny X.M A (evalArgs f true args []) Q Ex s:=by
 cases args with
 |nil=>
  refine(?_:wpAny X.M A (spliced [] >>= _) Q Ex s)
  exact wpAny_bind (wpAny_mono h (λvs s' h'=>wpAny_bind (wpAny_pure (wpAny_holding (wpAny_bind (wpAny_pure (wpAny_bind (wpAny_pure (wpAny_pure h')))))))) λZ Z x=>x)
 |cons a r=>
  obtain⟨b,t⟩:=a
  cases b with
  |false=>exact Calls.evalArgs_plain h
  |true=>cases hp
theorem LJ{f:Nat}{x:Str}{cs:List E}{es:List Expr}{np:Pos}(G:Good X)(hc:tC σ.m)(hn:2*σ.m+1<=σ.n)(h1:gK.kQ[f]?=some (false,x))(h2:l9 σ.f x=true)(hh:(!σ.f.hd||s6.contains f)=true)(h:eA σ cs es):b8 σ (.call f cs) (.Call (.Name x np) es [] pos):=λP post Q p k=>
 (G.fn f _ h1).casesOn λa o d pm cd doc e1 e3 e4 Z e5 Z=>wpAny_Call_NameR (tH G P e3 h2 (Calls.callWith_function (o:=o) (ot (h.plain P.env pos) (h.na P _ _ pos p (λvs H1 p1 Z N xs r=>⟨⟨N.R.keep _ _ e4,e5⟩,hc N.pt f _ a vs xs post σ.x Q (P.rn.less (le_of_succ_le hn)) (λhg=>P.calm (by rw[hg,Bool.or_false] at hh;exact not_eq_true' _▸hh)) h1 e3 r p1 (k.nx N) (P.kn.nx N)⟩)))))
end
structure Sx{σ:Lv}(P:Fp σ)(ρ:aO)(H:Hp)where
 φ:List Addr
 h:Heap
 tk:Nat
 R:SR ⟨φ,h⟩ H
 F:FR P.env σ.f.ns ρ ⟨φ,h⟩
 S:bK P.own P.w ⟨φ,h⟩
section
variable{σ:Lv}{P:Fp σ}{ρ b9:aO}{H H':Hp}
noncomputable abbrev Sx.w(N:Sx P ρ H):Ws:=⟨N.φ,N.h⟩
noncomputable abbrev Sx.s(N:Sx P ρ H):Shared:=(upd P.s N.h N.tk)
noncomputable abbrev Sx.fp(N:Sx P ρ H):Fp σ:=⟨⟨P.A,N.φ,H,N.s,P.Ex,P.rm,N.R,P.fr.i5 N.S⟩,P.env,ρ,P.own,P.kd,N.F,P.rn,P.hf,P.calm,λv H' p φ h tk R S y r=>P.kx v H' p φ h tk R (N.S.trans S) y r⟩
noncomputable abbrev Sx.then(N:Sx P ρ H)(N':Sx N.fp b9 H'):Sx P b9 H':=⟨N'.φ,N'.h,N'.tk,N'.R,N'.F,N.S.trans N'.S⟩
noncomputable abbrev Sx.un{x:PQ}{Ex:Value->Shared->Prop}{kx:qT P.own P.w P.s x Ex}(N:Sx (P.ex x Ex kx) ρ H):Sx P ρ H:=⟨N.φ,N.h,N.tk,N.R,N.F,N.S⟩
noncomputable abbrev Nx.sx(N:Nx P.toPt H):Sx P P.ρ H:=⟨N.φ,N.h,N.tk,N.R,P.F.mono N.S λZ Z h=>h,N.S.nil⟩
end
noncomputable def Ac(env:Env)(own:Addr->Prop)(x:Str):Prop:=(env.kindOf x=some .local/\own env.locals)\/(env.kindOf x=some .cell/\∀c,env.cells.lookup x=some c->own c)
section
variable{σ:Lv}
theorem Em{ns:List Str}{i:Nat}{x z:Str}{v:Option V}{ρ:aO}(hx:x∈ns)(hz:z∈ns)(hi:ns.idxOf x=i)(hl:i<ρ.length):lk ns (ρ.set i v) z=if z=x then v else lk ns ρ z:=by
 unfold lk
 by_cases e:z=x
 ·rw[if_pos e,e,hi,getElem?_set_self hl];rfl
 ·rw[if_neg e,getElem?_set_ne λe'=>e ?_]
  have h1:=List.idxOf_lt_length_of_mem hx
  have h2:=List.idxOf_lt_length_of_mem hz
  rw[<-hi] at e'
  have e1:ns[ns.idxOf x]?=some x:=by rw[getElem?_eq_getElem h1,List.getElem_idxOf]
  have e2:ns[ns.idxOf z]?=some z:=by rw[getElem?_eq_getElem h2,List.getElem_idxOf]
  rw[e'] at e1
  exact Option.some.inj (e2.symm.trans e1)
theorem En{Ex:Value->Shared->Prop}{P:Fp σ}{x:Str}{i:Nat}{v:V}{y:Value}{Q:Unit->Shared->Prop}(hi:σ.f.ns.idxOf x=i)(hx:x∈σ.f.ns)(ho:Ac P.env P.own x)(r:aY P.w v y)(k:∀N:Sx P (P.ρ.set i (some v)) P.H,Q () N.s):wpAny X.M P.A (storeName P.env x y) Q Ex P.s:=by
 have tI:i<P.ρ.length:=by rw[P.F.len,<-hi];exact List.idxOf_lt_length_of_mem hx
 have ox:∀z,z∈σ.f.ns->lk σ.f.ns (P.ρ.set i (some v)) z=if z=x then some v else lk σ.f.ns P.ρ z:=λz hz=>Em hx hz hi tI
 have key:∀(a:Addr) (h':Heap) (tk:Nat),ku P.env a->P.own a->ExtBut a P.s.heap h'->(∀o,P.s.heap.get? a=some o->fz o=false)->(∃o',h'.get? a=some o'/\∀o,P.s.heap.get? a=some o->dX o=true->dX o'=true) ->
   (∀(S:bK P.own P.w ⟨P.φ,h'⟩) (keep:∀b,b≠a->∀o,P.s.heap.get? b=some o->h'.get? b=some o),(∃m,h'.Ns P.env.locals m/\∀z,z∈σ.f.ns->P.env.kindOf z=some .local->ir ⟨P.φ,h'⟩ (lk σ.f.ns (P.ρ.set i (some v)) z) (m z)) /\
    ∀z,z∈σ.f.ns->om (P.env.kindOf z)->∃c v',P.env.cells.lookup z=some c/\h'.IsCell c v'/\ir ⟨P.φ,h'⟩ (lk σ.f.ns (P.ρ.set i (some v)) z) v')->Q () (upd P.s h' tk):=λa h' tk ha oq he hf hl hF=>
  have c:Ch (·=a) P.s.heap h':=.but he hf
  have S:bK P.own P.w ⟨P.φ,h'⟩:=bK.ch (io:=(·=a)) (q:=P.w) .refl c λb hb=>.inr (hb▸⟨oq,hl⟩)
  have q:=hF S λb hb o e=>he b o hb e
  k ⟨P.φ,h',tk,P.R.ch (p:=P.w) (io:=(·=a)) (λb hb=>hb▸P.F.ap a ha) c,⟨P.F.fc,by rw[length_set];exact P.F.len,q.1,q.2,P.F.ap,λb hb=>(P.F.live b hb).elim λo e=>(S.alive b o e).imp λZ x=>x.1⟩,S⟩
 rcases ho with⟨hk,hL⟩|⟨hk,hc⟩
 ·refine P.F.loc.elim λm hm=>wpAny_storeName_local hk hm.1 (λh' hn hs=>?_) (by rw[P.F.fc.fn];rfl)
  refine key P.env.locals h' _ (.inl rfl) hL hs.extBut (λo e=>hm.1.elim λo' q=>q.elim λZ q=>q.elim λZ q=>by rw[q.1] at e;cases e;exact u5 q.2.1) (hn.imp λo q=>q.elim λZ q=>q.elim λZ q=>⟨q.1,λZ Z Z=>xn q.2.1⟩) λS keep=>⟨⟨_,hn,λz hz mm=>?_⟩,λz hz mm=>?_⟩
  ·rw[ox z hz]
   by_cases e:z=x
   ·rw[if_pos e,if_pos e];exact .some (r.mono S)
   ·rw[if_neg e,if_neg e];exact(hm.2 z hz mm).kp S.kp
  ·refine(P.F.qS z hz mm).imp λc q=>q.imp λv' q=>⟨q.1,zV q.2.1 (keep c (P.F.fc.ne _ (mem_lookup q.1))),?_⟩
   rw[ox z hz,if_neg λe=>by rw[e,hk] at mm;cases mm]
   exact q.2.2.kp S.kp
 ·refine(P.F.qS x hx (by rw[hk];rfl)).elim λc q=>q.elim λv' q=>wpAny_storeName_cell P.F.fc.fn hk q.1 q.2.1 λh' hn hs=>?_
  refine key c h' _ (tx q.1) (hc c q.1) hs.extBut (λo e=>q.2.1.elim λo' q=>by rw[q.1] at e;cases e;exact K1 q.2) (hn.imp λo x=>⟨x.1,λo' e hd=>q.2.1.elim λo2 y=>by rw[y.1] at e;cases e;exact no hd (K2 y.2)⟩) λS keep=>⟨P.F.loc.imp λm hm=>⟨K5 hm.1 (keep _ (P.F.fc.ne _ (mem_lookup q.1)).symm),λz hz mm=>?_⟩,λz hz mm=>?_⟩
  ·rw[ox z hz,if_neg λe=>by rw[e,hk] at mm;cases mm]
   exact(hm.2 z hz mm).kp S.kp
  ·rw[ox z hz]
   by_cases e:z=x
   ·rw[if_pos e,e];exact⟨c,some y,q.1,hn,.some (r.mono S)⟩
   ·rw[if_neg e]
    exact(P.F.qS z hz mm).imp λc' q'=>q'.imp λv2 q'=>⟨q'.1,zV q'.2.1 (keep c' λe'=>e (P.F.fc.apart z x c (e'▸q'.1) q.1)),q'.2.2.kp S.kp⟩
theorem LK{P:Fp σ}{x:Str}{i:Nat}{v:V}{y:Value}{Q:Unit->Shared->Prop}(hi:σ.f.ns.idxOf x=i)(hx:x∈σ.f.ns)(ho:Ac P.env P.own x)(r:aY P.w v y)(k:∀N:Sx P (P.ρ.set i (some v)) P.H,Q () N.s):wpAny X.M P.A (bindName P.env x y) Q P.Ex P.s:=wpAny_bindName (En hi hx ho r k)
noncomputable def qX(env:Env)(own:Addr->Prop)(xs:List Str):Prop:=∀x,x∈xs->Ac env own x
theorem Ad{h h':Heap}(he:ExtBut h.objs.size h h'):aA h h':=λa o e=>he a o (λe'=>bD (gF h (le_of_eq e'.symm)) e) e
theorem xJ{t:cX}{e:Expr}{env:Env}(h:iG σ.f t e=true)(es:List Expr):assignEach (e::es) env=(false,assign e env)::assignEach es env:=by
 cases t with
 |J i=>exact eX.k (G:=λe=>assignEach (e::es) env=(false,assign e env)::assignEach es env) h λZ Z Z=>rfl
 |aC ts=>exact ma.k (G:=λe=>assignEach (e::es) env=(false,assign e env)::assignEach es env) h λZ Z Z Z=>rfl
theorem Eo:∀{ts:List cX} {es:List Expr} {vs:List V} {ρ b9:aO},uX σ.f ts es=true->u0 ts vs ρ=some b9->∀env,(assignEach es env).length=vs.length/\(assignEach es env).findIdx? (·.1)=none
 |[],es,[],_,_,h,_,env=>eO (G:=λes=>(assignEach es env).length=0/\(assignEach es env).findIdx? (·.1)=none) h ⟨rfl,rfl⟩
 |[],es,_::_,_,_,h,ea,env=>bD rfl ea
 |_::_,es,[],_,_,h,ea,env=>bD rfl ea
 |t::ts,es,v::vs,ρ,b9,h,ea,env=>mT.k (G:=λes=>(assignEach es env).length=vs.length+1/\(assignEach es env).findIdx? (·.1)=none) h λe es h=>aR h λh1 h2=>f9 ea λEp e1 e2=>by
  have q:=Eo h2 e2 env
  rw[xJ h1 es]
  exact⟨congrArg (·+1) q.1,by rw[List.findIdx?_cons,q.2];rfl⟩
mutual
theorem tJ:∀(t:cX) (e:Expr) (P:Fp σ) (v:V) (y:Value) (b9:aO) (Q:Unit->Shared->Prop) ,iG σ.f t e=true->qX P.env P.own (gO t e)->aY P.w v y->aS t v P.ρ=some b9->(∀N:Sx P b9 P.H,Q () N.s)->wpAny X.M P.A (assign e P.env y) Q P.Ex P.s
 |.J i,e,P,v,y,b9,Q,h,ho,r,ea,k=>eX.k (G:=λe=>qX P.env P.own (gO (.J i) e)->wpAny X.M P.A (assign e P.env y) Q P.Ex P.s) h (λx pos h ho=>aR h λh1 Z=>kS.k h1 λhi hx=>qU ea (λb9=>(∀N:Sx P b9 P.H,Q () N.s)->_) (λZ k=>by
   rw[PySem.assign_Name]
   exact wpAny_bind (wpAny_standAt (LK hi hx (ho x (mem_singleton.mpr rfl)) r k))) k) ho
 |.aC ts,e,P,v,y,b9,Q,h,ho,r,ea,k=>ma.k (G:=λe=>qX P.env P.own (gO (.aC ts) e)->wpAny X.M P.A (assign e P.env y) Q P.Ex P.s) h (λes j pos h ho=>by
   have hh:=(and_eq_true_iff.mp h).1
   have h:=(and_eq_true_iff.mp h).2
   have hv:∃vs,v=.aC vs:=by cases v<;>first|cases ea;done|exact⟨_,rfl⟩
   obtain⟨vs,rfl⟩:=hv
   change u0 ts vs P.ρ=some b9 at ea
   have q:=Eo h ea P.env
   exact r.inv (λy=>wpAny X.M P.A (assign (.Tuple es j pos) P.env y) Q P.Ex P.s) λa m xs h1 h2 Z Z=>wpAny_assign_Tuple (P.calm (not_eq_true' _▸hh)) ⟨_,h1,rfl,m,rfl⟩ (by rw[q.1,size_toArray,h2.length]) q.2 λh' he=>
    Er ts es (P.to (P.toPt.ext (Ad he) P.s.toks)) vs xs b9 Q h ho (h2.mono (P.toPt.ext (Ad he) P.s.toks).S) ea λN=>k ((P.toPt.ext (Ad he) P.s.toks).sx.then N)) ho
theorem Er:∀(ts:List cX) (es:List Expr) (P:Fp σ) (vs:List V) (ys:List Value) (b9:aO) (Q:Unit->Shared->Prop) ,uX σ.f ts es=true->qX P.env P.own (tc ts es)->ba P.w vs ys->u0 ts vs P.ρ=some b9->(∀N:Sx P b9 P.H,Q () N.s)->wpAny X.M P.A (assignInOrder ((assignEach es P.env).map (·.2)) ys) Q P.Ex P.s
 |[],es,P,vs,ys,b9,Q,h,ho,r,ea,k=>eO (G:=λes=>wpAny X.M P.A (assignInOrder ((assignEach es P.env).map (·.2)) ys) Q P.Ex P.s) h (by
   cases vs with
   |nil=>cases ea;exact r.inv (λys=>wpAny X.M P.A (assignInOrder [] ys) Q P.Ex P.s) (wpAny_pure (k (P.toPt.fT _).sx))
   |cons _ _=>cases ea)
 |t::ts,es,P,vs,ys,b9,Q,h,ho,r,ea,k=>mT.k (G:=λes=>qX P.env P.own (tc (t::ts) es)->wpAny X.M P.A (assignInOrder ((assignEach es P.env).map (·.2)) ys) Q P.Ex P.s) h (λe es h ho=>aR h λh1 h2=>by
   cases vs with
   |nil=>cases ea
   |cons v vs=>
    rw[xJ h1 es]
    exact f9 ea λEp e1 e2=>r.inv (λys=>wpAny X.M P.A (assignInOrder (((false,assign e P.env)::assignEach es P.env).map (·.2)) ys) Q P.Ex P.s) λy ys r1 r2=>wpAny_assignInOrder_more (tJ t e P v y Ep _ h1 (λx hx=>ho x (mem_append.mpr (.inl hx))) r1 e1 λN=>
     Er ts es N.fp vs ys b9 Q h2 (λx hx=>ho x (mem_append.mpr (.inr hx))) (r2.mono N.S) e2 λN'=>k (N.then N'))) ho
end
end
structure KO{σ:Lv}(P:Fp σ)(K:Out->Prop)(Q:Flow->Shared->Prop):Prop where
 next:∀ρ H,K (.next ρ H)->∀N:Sx P ρ H,Q .next N.s
 ret:∀v H,K (.ret v H)->∀(φ:List Addr) (h:Heap) (tk:Nat),SR ⟨φ,h⟩ H->bK P.own P.w ⟨φ,h⟩->∀x,aY ⟨φ,h⟩ v x->Q (.ret x) (upd P.s h tk)
noncomputable def tK(env:Env)(own:Addr->Prop)(ns:List Str):Prop:=qX env own ns/\∀a,own a->ku env a
section
variable{σ:Lv}{P:Fp σ}{K:Out->Prop}{Q:Flow->Shared->Prop}{ρ:aO}{H:Hp}
theorem KO.nx(k:KO P K Q)(N:Sx P ρ H):KO N.fp K Q:=⟨λb9 H' p N'=>k.next b9 H' p (N.then N'),λv H' p φ h tk R S x r=>k.ret v H' p φ h tk R (N.S.trans S) x r⟩
noncomputable def nf(σ:Lv)(cs:List S)(ss:List Stmt):Prop:=
 ∀(P:Fp σ) (K:Out->Prop) (Q:Flow->Shared->Prop) ,tK P.env P.own σ.f.ns->aN σ.c cs P.ρ P.H K->KO P K Q->wpAny X.M P.A (execs ss P.env) Q P.Ex P.s
noncomputable def SS(σ:Lv)(c:S)(st:Stmt):Prop:=
 ∀(P:Fp σ) (K:Out->Prop) (Q:Flow->Shared->Prop) ,tK P.env P.own σ.f.ns->WS σ.c c P.ρ P.H K->KO P K Q->wpAny X.M P.A (exec st P.env) Q P.Ex P.s
mutual
theorem vj:∀(t:cX) (e:Expr),iG σ.f t e=true->∀x,x∈gO t e->x∈σ.f.ns
 |.J i,e,h=>eX.k (G:=λe=>∀x,x∈gO (.J i) e->x∈σ.f.ns) h λy p h x hx=>aR h λh1 Z=>kS.k h1 λZ hy=>mem_singleton.mp hx▸hy
 |.aC ts,e,h=>ma.k (G:=λe=>∀x,x∈gO (.aC ts) e->x∈σ.f.ns) h λes Z Z h x hx=>Es ts es (and_eq_true_iff.mp h).2 x hx
theorem Es:∀(ts:List cX) (es:List Expr),uX σ.f ts es=true->∀x,x∈tc ts es->x∈σ.f.ns
 |[],es,h,x,hx=>nomatch hx
 |t::ts,es,h,x,hx=>mT.k (G:=λes=>x∈tc (t::ts) es->x∈σ.f.ns) h (λe es h hx=>aR h λh1 h2=>(mem_append.mp hx).elim (vj t e h1 x) (Es ts es h2 x)) hx
end
theorem vk{x:Expr}{o:Option Expr}{env:Env}(h:mU x=true)(line:Nat):swapsWith x o line env=pure false:=by
 cases x<;>first|rfl|cases h
theorem LL{e:E}{x:Expr}{pos:Pos}(hn:mU x=true)(he:b8 σ e x):SS σ (.expr e) (.Expr x pos):=λP K Q ho p k=>
 wpAny_Expr_any (he P _ _ p (λv H1 p1 N x r=>k.next _ _ p1 N.sx)) P.F.fc.gen.2.2 (vk hn _)
theorem Et{t:cX}{e:E}{tg x:Expr}{pos:Pos}(tL:swapsWithSole [tg] x pos.line P.env=pure false)(ht:iG σ.f t tg=true)(hx:te tg x=true)(he:b8 σ e x)(ho:tK P.env P.own σ.f.ns)(p:WS σ.c (.aS t e) P.ρ P.H K)(k:KO P K Q):wpAny X.M P.A (exec (.Assign [tg] x pos) P.env) Q P.Ex P.s:=by
 refine wpAny_Assign_stores (he P _ _ p (λv H1 p1 N y r=>aH.k p1 λb9 ha p1=>?_)) tL ?_
 ·rw[xJ ht []]
  exact tJ t tg (P.to N) v y b9 _ ht (λz hz=>ho.1 z (vj t tg ht z hz)) r ha λN'=>k.next _ _ p1 (N.sx.then N')
 ·cases t with
  |J i=>exact eX.k (G:=λtg=>swappedStores [tg] x P.env=pure none) ht λZ Z Z=>rfl
  |aC ts=>exact ma.k (G:=λtg=>te tg x=true->swappedStores [tg] x P.env=pure none) ht (λZ Z Z Z hx=>by cases x<;>first|rfl|cases hx) hx
theorem LM{t:cX}{e:E}{tg x:Expr}{pos:Pos}(hn:mU x=true)(ht:iG σ.f t tg=true)(hx:te tg x=true)(he:b8 σ e x):SS σ (.aS t e) (.Assign [tg] x pos):=λP K Q ho p k=>Et (vk hn _) ht hx he ho p k
theorem LN{e:E}{x:Expr}{pos:Pos}(he:b8 σ e x):SS σ (.ret e) (.Return (some x) pos):=λP K Q ho p k=>
 wpAny_Return_some (he P _ _ p (λv H1 p1 N x r=>k.ret _ _ p1 _ _ _ N.R N.S.nil _ r))
theorem LO{c:E}{a b:List S}{t:Expr}{x y:List Stmt}{pos:Pos}(hc:tB σ c t)(ha:nf σ a x)(hb:nf σ b y):SS σ (.bz c a b) (.If t x y pos):=λP K Q ho p k=>
 wpAny_If (hc P _ _ p (λv H1 p1=>p1.m λt p1 N=>by
  cases t
  ·exact hb N.sx.fp K Q ho p1 (k.nx N.sx)
  ·exact ha N.sx.fp K Q ho p1 (k.nx N.sx)))
theorem KO.ex(k:KO P K Q){x:PQ}{Ex:Value->Shared->Prop}(kx:qT P.own P.w P.s x Ex):KO (P.ex x Ex kx) K Q:=⟨λρ H p N=>k.next ρ H p N.un,λv H p φ h tk R S y r=>k.ret v H p φ h tk R S y r⟩
inductive Eu(P:Fp σ)(c:E)(b:List S)(K:Out->Prop)(k:Nat)(s:Shared):Prop
 |mk (ρ:aO) (H:Hp) (N:Sx P ρ H) (e:s=N.s) (p:xm (λρ H Q=>tp σ.c c ρ H Q) (λρ H K=>aN σ.c b ρ H K) k ρ H K):Eu P c b K k s
theorem LP{c:E}{b:List S}{t:Expr}{y:List Stmt}{pos:Pos}(hc:tB σ.no c t)(hb:nf σ.no b y):SS σ (.while c b) (.While t y [] pos):=λP K Q ho p k=>by
 refine wpAny_While (codeAny_whileLoop (Eu P.no c b K) (λj s' w=>w.casesOn λρ H N e p'=>?_) _ ⟨P.ρ,P.H,(P.no.toPt.fT P.s.toks).sx,rfl,p⟩)
 subst e
 have k:=k.ex (x:=λZ Z=>False) (Ex:=NE) λZ Z h=>h.elim
 cases j with
 |zero=>exact p'.elim
 |succ j=>
  refine vb (hc N.fp _ _ p' (λv H1 p1=>p1.m λb' p1 N1=>?_))
  cases b' with
  |false=>exact wpAny_execs_nil (k.next _ _ p1 (N.then N1.sx))
  |true=>exact vb (hb (N.then N1.sx).fp _ _ ho p1 ⟨λb9 H' p2 N2=>⟨j,lt_succ_self _,b9,H',(N.then N1.sx).then N2,rfl,p2⟩,λv H' p2 φ h tk R S x r=>k.ret v H' p2 φ h tk R ((N.then N1.sx).S.trans S) x r⟩)
theorem LQ:nf σ [] []:=λP K Q ho p k=>wpAny_execs_nil (k.next _ _ p (P.toPt.fT P.s.toks).sx)
theorem LR{c:S}{cs:List S}{st:Stmt}{ss:List Stmt}(h1:SS σ c st)(h2:nf σ cs ss):nf σ (c::cs) (st::ss):=λP K Q ho p k=>
 wpAny_execs_cons (h1 P _ _ ho p ⟨λb9 H' p1 N=>h2 N.fp K Q ho p1 (k.nx N),λv H' p1 φ h tk R S x r=>k.ret v H' p1 φ h tk R S x r⟩)
theorem LS{A:Around}{E:Value->Shared->Prop}{s:Shared}{l:Addr}{xs:List Value}{n:Nat}{k:Int}{t:Tok}{v:Value}{Q:Unit->Shared->Prop}(ho:s.heap.get? l=some (gP xs n))(h0:0<=k)(Ew:k<2^63)(hn:k<xs.length)
  (hQ:Q () {s with heap:=s.heap.update l (Obj.mapSeq (·.setIfInBounds k.toNat v))}):wpAny (model X.prog X.w) A (setItem (.ref l) (.int k t) v) Q E s:=by
 have hl:s.heap.IsList l xs.toArray:=iJ ho
 unfold setItem
 refine wpAny_holding (wpAny_bind (wpAny_sequenceKey hl.typeIs (by decide) (wpAny_bind (wpAny_callSpecial?_slot (name:=Str.ofString "__setitem__") hl.typeIs PySem.slot_list_setitem
  (wpAny_call_entry PySem.slot_list_setitem hl.typeIs PySem.entry_list_setitem ?_ (PySem.args_list_setitem _ _ _))))))
 refine(?_:wpAny _ _ (Builtin.List.listSubscript? (.int k t) >>= _) _ _ s)
 refine wpAny_bind (wpAny_listSubscript_int (fitsIndex_of h0 Ew) ?_)
 clear Ew
 obtain⟨j,rfl⟩:=Int.eq_ofNat_of_zero_le h0
 have hj:j<xs.toArray.size:=by rw[size_toArray];lia
 refine(?_:wpAny _ _ ((seqItemAt l j >>= λr=>pure (r.map (j,·))) >>= _) _ _ s)
 refine wpAny_bind (wpAny_bind (wpAny_seqItemAt ho rfl (wpAny_pure ?_)))
 rw[Array.getElem?_eq_getElem hj]
 refine(?_:wpAny _ _ (setSeqItemAt l j v >>= _) _ _ s)
 refine wpAny_bind (wpAny_setSeqItemAt ho rfl ?_)
 first
  |exact wpAny_bind (wpAny_pure (wpAny_pure ⟨.none,rfl,wpAny_pure hQ⟩))
  |exact wpAny_pure ⟨.none,rfl,wpAny_pure hQ⟩
theorem Ey{K:Type}[DecidableEq K](es:List (K×V))(k:K)(v:V):(dput es k v).length<=es.length+1:=by
 unfold dput
 split
 ·rw[length_map];lia
 ·rw[length_append];exact le_refl _
theorem LU{es:List (Int×V)}{kvs:List (Int×Value)}{p:Ws}{v:V}{x:Value}(h:L2 (k4 p) es kvs)(r:aY p v x)(k:Int):L2 (k4 p) (dput es k v) (stored kvs k x):=by
 unfold dput stored
 rw[h.any (f:=λq=>decide (q.1=k)) (g:=λq=>decide (q.1=k)) λa b m=>by rw[m.1]]
 split
 ·exact h.map λa b m=>by
   by_cases e:a.1=k
   ·rw[if_pos e,if_pos (m.1▸e)];exact⟨m.1,r⟩
   ·rw[if_neg e,if_neg (m.1▸e)];exact m
 ·exact h.snoc ⟨rfl,r⟩
theorem LV{es:List ((Int×Bool)×V)}{kvs:List (List Int×Addr×Value)}{p:Ws}{v:V}{x:Value}{a:Addr}{k:Int×Bool}(h:L2 (ml p) es kvs)(r:aY p v x)(rk:aY p (kh k) (.ref a)):L2 (ml p) (dput es k v) (storedH kvs (pK k) a x):=by
 unfold dput storedH
 have e:es.any (λq=>decide (q.1=k))=(atKey kvs (pK k)).isSome:=by
  rw[show es.any (λq=>decide (q.1=k))=ee es k from rfl,z7]
  rcases z6 h k with⟨w1,w2⟩|⟨_,_,_,w1,w2,_⟩<;>rw[w1,w2]<;>rfl
 rw[e]
 split
 ·exact h.map λa b m=>by
   unfold putAt
   by_cases e:a.1=k
   ·rw[if_pos e,if_pos (by rw[m.1,<-e];rfl)];exact⟨m.1,m.2.1,r⟩
   ·rw[if_neg e,if_neg λe'=>e (D5 (m.1.symm.trans e'))];exact m
 ·exact h.snoc ⟨rfl,rk,r⟩
theorem LW{P:Pt}{l:Nat}{xs:List V}{i v:V}{z kz y:Value}{k:Hp->Prop}{Q:Unit->Shared->Prop}(r2:aY P.w (.ref l) z)(r3:aY P.w i kz)(rv:aY P.w v y)(hl:P.H[l]?=some (.list xs))(p:fv i λj=>(0<=j/\j<xs.length)/\k (P.H.set l (.list (xs.set j.toNat v))))(fin:∀H,k H->∀N:Nx P H,Q () N.s):wpAny X.M P.A (setItem z kz y) Q P.Ex P.s:=
 fv.k p (λi=>aY P.w i kz->_) (λj p r3=>r3.inv (λkz=>wpAny X.M P.A (setItem z kz y) Q P.Ex P.s) λt=>P.list r2 hl (λz=>wpAny X.M P.A (setItem z _ y) Q P.Ex P.s) λad ys m jP q1 q2 q3=>
  LS q1 p.1.1 (by lia) (by rw[<-q2.length];exact p.1.2) (
   have he:=(SameBut.update P.s.heap ad (Obj.mapSeq (·.setIfInBounds j.toNat y))).extBut
   fin _ p.2 (P.set jP he (.list (n:=m) (by rw[get?_update_self _ q1 rfl];simp[Obj.mapSeq]) ((q2.set rv j.toNat).kp (P.tA jP he)) (by rw[length_set];exact q3)) P.s.toks))) r3
theorem LX{P:Pt}{l ep:Nat}{es:List (Int×V)}{i v:V}{z kz y:Value}{k:Hp->Prop}{Q:Unit->Shared->Prop}(G:Good X)(r2:aY P.w (.ref l) z)(r3:aY P.w i kz)(rv:aY P.w v y)(hl:P.H[l]?=some (.dict ep es))(p:fv i λj=>fu (mi es) (∀ep,k (P.H.set l (.dict ep (dput es j v)))))(fin:∀H,k H->∀N:Nx P H,Q () N.s):wpAny X.M P.A (setItem z kz y) Q P.Ex P.s:=
 fv.k p (λi=>aY P.w i kz->_) (λj p r3=>fu.k p λhz p=>r3.inv (λkz=>wpAny X.M P.A (setItem z kz y) Q P.Ex P.s) λt=>P.cell r2 hl (λz=>wpAny X.M P.A (setItem z _ y) Q P.Ex P.s) λad jP hc=>hc.inv _ λo' en kvs x0 x1 x2 x3 x4 x5 q z m=>by
  have hz:es.length<16000000:=of_decide_eq_true hz
  refine wpAny_setItem_pairs (knd:=km) (k:=j) (beq_self_eq_true j) ⟨o',en,ep,x0,x1,x2,x3,x4,x5⟩ (λh4 tM vn=>?_) (by rw[<-q.length];unfold sizeLine;lia)
  exact tM.elim λo4 w=>w.elim λLY w=>w.elim λAe w=>fin _ (p Ae) (P.set jP vn.extBut (.dict w.1 w.2.1 w.2.2.1 w.2.2.2.1 w.2.2.2.2.1 w.2.2.2.2.2 ((LU q rv j).imp (k4.kp (P.tA jP vn.extBut))) z (le_trans (Ey es j v) hz)) _)) r3
theorem LZ{P:Pt}{l ep:Nat}{es:List ((Int×Bool)×V)}{i v:V}{z kz y:Value}{k:Hp->Prop}{Q:Unit->Shared->Prop}(G:Good X)(r2:aY P.w (.ref l) z)(r3:aY P.w i kz)(rv:aY P.w v y)(hl:P.H[l]?=some (.cL ep es))(p:aH (pairOf i) λj=>fu (mi es) (∀ep,k (P.H.set l (.cL ep (dput es j v)))))(fin:∀H,k H->∀N:Nx P H,Q () N.s):wpAny X.M P.A (setItem z kz y) Q P.Ex P.s:=
 aH.k p λj ej p=>pairOf.k ej (λi=>aY P.w i kz->_) (λr3=>fu.k p λhz p=>r3.inv (λkz=>aY P.w (kh j) kz->wpAny X.M P.A (setItem z kz y) Q P.Ex P.s) (λka Z Z Z Z Z Z r3=>l6 r2 G (show(P.H[l]?).bind jl=some es by rw[hl];rfl) (λz=>wpAny X.M P.A (setItem z _ y) Q P.Ex P.s) λl' oo ad kvs el Z jP hD q z k9=>by
  have hz:es.length<16000000:=of_decide_eq_true hz
  cases el
  refine wpAny_setItem_heap (knd:=k7) (k:=pK j) (by refine(?_:P.A.units+1<cLine);have:=P.rm.units;lia) (u7 r3) hD (λh4 tM vn=>?_) (by rw[<-q.length];unfold sizeLine;lia)
  exact tM.elim λo4 w=>w.elim λLY w=>w.elim λAe w=>fin _ (p Ae) (P.set jP vn.extBut (.cL w.1 w.2.1 w.2.2.1 w.2.2.2.1 w.2.2.2.2.2 ((LV q rv r3).imp (ml.kp (P.tA jP vn.extBut))) z (le_trans (Ey es j v) hz)) _)) r3) r3
theorem L0{a i e:E}{o j x:Expr}{sp pos:Pos}(G:Good X)(hn:mU x=true)(ha:b8 σ a o)(hi:b8 σ i j)(he:b8 σ e x):SS σ (.ji a i e) (.Assign [.Subscript o j sp] x pos):=λP K Q ho p k=>by
 refine wpAny_Assign_Subscript (he P _ _ p (λv H1 p1 N y r=>qV ha hi (P.to N) p1 (λu w H2 p2 N2 z kz r2 r3=>?_))) (vk hn _)
 have fin:∀H3,K (.next P.ρ H3)->∀N3:Nx N2.pt H3,Q .next N3.s:=λH3 p3 N3=>k.next _ _ p3 (N.then (N2.then N3)).sx
 cases u with
 |ref l=>
  refine aH.k p2 λc hl p2=>?_
  cases c with
  |list xs=>exact LW (P:=N2.pt) r2 r3 (r.mono N2.S) hl p2 fin
  |dict ep es=>exact LX (P:=N2.pt) G r2 r3 (r.mono N2.S) hl p2 fin
  |cL ep es=>exact LZ (P:=N2.pt) G r2 r3 (r.mono N2.S) hl p2 fin
  |_=>exact p2.elim
 |_=>exact p2.elim
end
noncomputable def xK:List String:=["enumerate","zip","dict_itemiterator","dict_reverseitemiterator","odict_iterator","itertools.zip_longest","itertools.pairwise"]
structure kA(tg:Expr)(dD:Ws)(H₀:Hp)(ws:List Nat)(vs:List V)(I:Addr)(io:Addr->Prop)(St:Nat->Heap->Prop):Prop where
 keep:∀i h h',St i h->(∀a,io a->∀o,h.get? a=some o->h'.get? a=some o)->St i h'
 live:∀i h,St i h->∀a,io a->∃o,h.get? a=some o/\dX o=false/\fJ o=false
 item:∀(P:Pt) (i:Nat) (v:V) (Q:Value->Shared->Prop),P.A.handled=none->Kp dD P.w->eZ ws H₀ P.H=true->St i P.s.heap->(∀a,io a->Ap P.w a)->vs[i]?=some v ->
  (∀h' tk y,SR ⟨P.φ,h'⟩ P.H->bK io P.w ⟨P.φ,h'⟩->St (i+1) h'->aY ⟨P.φ,h'⟩ v y->Q y (upd P.s h' tk)) ->
  wpAny X.M P.A (pyNext (.ref I)) (λr bU=>aH r λy=>wpAny X.M P.A (letOwnedTupleGo tg (.ref I) y) (λZ ey=>Q y ey) P.Ex bU) P.Ex P.s
 done:∀(P:Pt) (i:Nat) (Q:Option Value->Shared->Prop),P.A.handled=none->Kp dD P.w->eZ ws H₀ P.H=true->St i P.s.heap->(∀a,io a->Ap P.w a)->vs[i]?=none ->
  (∀h' tk,Ch io P.s.heap h'->Q none (upd P.s h' tk))->wpAny X.M P.A (pyNext (.ref I)) Q P.Ex P.s
 self:∀(A:Around) (s:Shared) (Q Ex:Value->Shared->Prop),St 0 s.heap->Q (.ref I) s->wpAny X.M A (pyIter (.ref I)) Q Ex s
theorem kA.from{tg:Expr}{dD Ez:Ws}{H₀:Hp}{ws:List Nat}{vs:List V}{I:Addr}{io:Addr->Prop}{St:Nat->Heap->Prop}(h:kA tg dD H₀ ws vs I io St)(K:Kp dD Ez):kA tg Ez H₀ ws vs I io St:=
 ⟨h.keep,h.live,λP i v Q hh kp=>h.item P i v Q hh (K.trans kp),λP i Q hh kp=>h.done P i Q hh (K.trans kp),h.self⟩
section
variable{tg:Expr}{dD:Ws}{H₀:Hp}{ws:List Nat}{vs:List V}{I a:Addr}
theorem L1{A:Around}{s:Shared}{y:Value}{o:Obj}{nm:String}{Q:Unit->Shared->Prop}{Ex:Value->Shared->Prop}(ho:s.heap.get? I=some o)(hc:o.cls=.type nm)(hn:xK.contains nm=false)(hQ:Q () s):wpAny X.M A (letOwnedTupleGo tg (.ref I) y) Q Ex s:=by
 have key:∀a,wpAny X.M A (do
  let o <-load I
  match o.cls,o.data with
  |.type n,.fields vs=>
   if xK.contains n&&vs[0]?==some (rawInt a) then
    rule "for.unpacks-the-owned-tuple"
    updateField I 0 .none
  |_,_=>pure ()) Q Ex s:=by
  intro a
  refine wpAny_bind (wpAny_load ho ?_)
  rw[hc]
  cases o.data with
  |fields vs=>
   refine(?_:wpAny X.M A (if(xK.contains nm&&vs[0]?==some (rawInt a))=true then _ else _) Q Ex s)
   rw[hn,Bool.false_and,if_neg Bool.false_ne_true]
   exact wpAny_pure hQ
  |_=>exact wpAny_pure hQ
 unfold letOwnedTupleGo
 cases tg<;>first|exact wpAny_pure hQ|(cases y<;>first|exact wpAny_pure hQ|exact key _)
theorem EA{o:Obj}{nm:String}(hc:o.cls=.type nm)(hn:(Value.type nm==.type "traceback")=false)(hd:dX o=false):dX o=false/\fJ o=false:=⟨hd,by
 unfold fJ;rw[hc,hn]
 cases o.data<;>rfl⟩
theorem xM{nm:String}{St:Nat->Heap->Prop}(L3:(xK.contains nm||(Value.type nm==.type "tuple"||Value.type nm==.type "traceback"))=false)(qY:∀i h,St i h->∃o,h.get? I=some o/\o.cls=.type nm/\dX o=false)(keep:∀i h h',St i h->(∀o,h.get? I=some o->h'.get? I=some o)->St i h')
  (next:∀(P:Pt) (i:Nat) (v:V) (Q:Option Value->Shared->Prop),P.A.handled=none->Kp dD P.w->eZ ws H₀ P.H=true->St i P.s.heap->vs[i]?=some v->(∀h' tk y,St (i+1) h'->ExtBut I P.s.heap h'->aY P.w v y->Q (some y) (upd P.s h' tk))->wpAny X.M P.A (pyNext (.ref I)) Q P.Ex P.s)
  (stop:∀(P:Pt) (i:Nat) (Q:Option Value->Shared->Prop),P.A.handled=none->Kp dD P.w->eZ ws H₀ P.H=true->St i P.s.heap->vs[i]?=none->(∀h',ExtBut I P.s.heap h'->Q none {P.s with heap:=h'})->wpAny X.M P.A (pyNext (.ref I)) Q P.Ex P.s)
  (self:∀(A:Around) (s:Shared) (Q Ex:Value->Shared->Prop),St 0 s.heap->Q (.ref I) s->wpAny X.M A (pyIter (.ref I)) Q Ex s):kA tg dD H₀ ws vs I (·=I) St:=
 have h1:=or_eq_false_iff.mp L3
 have h2:=or_eq_false_iff.mp h1.2
 have EB:∀{i h},St i h->∀o,h.get? I=some o->fz o=false:=λst o e=>(qY _ _ st).elim λo' q=>by rw[e] at q;cases q.1;exact mZ q.2.1 h1.2
 {keep:=λi h h' st hk=>keep i h h' st (hk I rfl)
  live:=λi h st a ha=>(qY i h st).imp λo q=>⟨ha▸q.1,EA q.2.1 h2.2 q.2.2⟩
  item:=λP i v Q hh kp hw st dG hv k=>next P i v _ hh kp hw st hv λh' tk y kB he r=>
   have c:Ch (·=I) P.s.heap h':=.but he (EB st)
   (qY _ _ kB).elim λo q=>L1 (s:=(upd P.s h' tk)) q.1 q.2.1 h1.1 (k h' tk y (P.R.ch (p:=P.w) dG c) (bK.ch (io:=(·=I)) (q:=P.w) .refl c λb hb=>.inr ⟨hb,o,hb▸q.1,λo1 e hd=>(qY _ _ st).elim λo2 w=>by rw[hb] at e;rw[show P.s.heap.get? I=some o1 from e] at w;cases w.1;exact no hd w.2.2⟩) kB (r.kp c.kp))
  done:=λP i Q hh kp hw st dG hv k=>stop P i Q hh kp hw st hv λh' he=>k h' P.s.toks (.but he (EB st))
  self:=self}
noncomputable def SrcL(dD:Ws)(H₀:Hp)(ws:List Nat)(vs:List V)(a:Addr):Prop:=
 ∀(P:Pt),Kp dD P.w->eZ ws H₀ P.H=true->∃xs,P.s.heap.IsList a xs.toArray/\ba P.w vs xs
theorem Af{H:Hp}{l:Nat}(h:eZ ws H₀ H=true)(hl:l∈ws):H[l]?=H₀[l]?:=of_decide_eq_true (all_eq_true.mp h l hl)
theorem EC(ws:List Nat)(H:Hp):eZ ws H H=true:=all_eq_true.mpr λZ Z=>decide_eq_true rfl
theorem ED{l:Nat}(hl:dD.φ[l]?=some a)(e:H₀[l]?=some (.list vs))(hw:l∈ws):SrcL dD H₀ ws vs a:=λP kp hs=>
 P.R.at ((Af hs hw).trans e) λb hb hc=>hc.inv _ λxs m h1 h2 Z=>by
  rw[kp.pre l a hl] at hb;cases hb
  exact⟨xs,iJ h1,h2⟩
theorem L4(G:Good X):SrcL dD H₀ ws (X.is.map .int) X.jk:=λP Z Z=>Gl.jk G P λxs h1 h2 Z=>⟨xs,h1,h2⟩
theorem xN(xs:List Value)(i:Nat):xs.toArray[i]?=xs[i]?:=getElem?_toArray ..
theorem none_of{p:Ws}{xs:List Value}{i:Nat}(r:ba p vs xs)(h:vs[i]?=none):xs.toArray[i]?=none:=by
 rw[xN];exact getElem?_eq_none (r.length▸List.getElem?_eq_none_iff.mp h)
theorem EE(pN:SrcL dD H₀ ws vs a):kA tg dD H₀ ws vs I (·=I) (λi h=>h.IsListIter I a i):=
 xM (nm:="list_iterator") rfl (λi h st=>st.imp λo q=>⟨q.1,q.2.1,tq q.2.2⟩) (λi h h' st hk=>st.imp λo q=>⟨hk o q.1,q.2⟩)
  (λP i v Q hh kp hw st hv k=>(pN P kp hw).elim λxs h=>h.2.get hv λy hy r=>wpAny_pyNext_list_item st h.1 (by rw[xN];exact hy) λh' eD hs=>k h' P.s.toks y eD hs.extBut r)
  (λP i Q hh kp hw st hv k=>(pN P kp hw).elim λxs h=>wpAny_pyNext_list_end hh st h.1 (none_of h.2 hv) k) λA s Q Ex st h=>wpAny_pyIter_listiter st h
theorem L5{xs:List Value}{m:Nat}(e0:dD.h.get? a=some (jH xs m))(vo:a∉dD.φ)(r0:ba dD vs xs):kA tg dD H₀ ws vs I (·=I) (λi h=>h.IsTupleIter I a i):=
 xM (nm:="tuple_iterator") rfl (λi h st=>st.imp λo q=>⟨q.1,q.2.1,tq q.2.2⟩) (λi h h' st hk=>st.imp λo q=>⟨hk o q.1,q.2⟩)
  (λP i v Q hh kp hw st hv k=>(r0.kp kp).get hv λy hy r=>wpAny_pyNext_tuple_item st ⟨_,(kp.aC e0 vo).1,rfl,m,rfl⟩ (by rw[xN];exact hy) λh' eD hs=>k h' P.s.toks y eD hs.extBut r)
  (λP i Q hh kp hw st hv k=>wpAny_pyNext_tuple_end hh st ⟨_,(kp.aC e0 vo).1,rfl,m,rfl⟩ (none_of (r0.kp kp) hv) k) λA s Q Ex st h=>wpAny_pyIter_tupleiter st h
theorem EF{i:Nat}{x y:Int}:(pG x y)[i]?=if i<(y - x).toNat then some (.int (x+i)) else none:=by
 unfold pG
 rw[getElem?_map]
 by_cases h:i<(y - x).toNat
 ·rw[if_pos h,getElem?_range h];rfl
 ·rw[if_neg h,getElem?_eq_none (by rw[length_range];exact not_lt.mp h)];rfl
theorem L6{x y:Int}:kA tg dD H₀ ws (pG x y) I (·=I) (λi h=>IsRangeIter h I (x+i) (((y - x).toNat:Int) - i) 1):=
 xM (nm:="range_iterator") rfl (λi h st=>⟨_,st,rfl,rfl⟩) (λi h h' st hk=>hk _ st)
  (λP i v Q hh kp hw st hv k=>qU (EF▸hv) (λv=>(∀h' tk y',IsRangeIter h' I (x+((i+1:Nat):Int)) (((y - x).toNat:Int) - ((i+1:Nat):Int)) 1->ExtBut I P.s.heap h'->aY P.w v y'->Q (some y') (upd P.s h' tk))->_) (λhi k=>wpAny_pyNext_range_item st (Int.sub_pos_of_lt (ofNat_lt.mpr hi)) λh' eD hs=>k h' _ _ (by
   have e1:x+((i+1:Nat):Int)=x+i+1:=(Int.add_assoc x (i:Int) 1).symm
   have e2:(((y - x).toNat:Int) - ((i+1:Nat):Int))=((y - x).toNat:Int) - i - 1:=(Int.sub_sub _ (i:Int) 1).symm
   rw[e1,e2];exact eD) hs.extBut (.int _ _)) k)
  (λP i Q hh kp hw st hv k=>wpAny_pyNext_range_end hh st (by
   rw[EF] at hv
   by_cases h:i<(y - x).toNat
   ·rw[if_pos h] at hv;cases hv
   ·exact Int.sub_nonpos_of_le (ofNat_le.mpr (not_lt.mp h))) k) λA s Q Ex st h=>wpAny_pyIter_rangeiter st h
end
section
variable{A:Around}{E:Value->Shared->Prop}{s:Shared}{it d:Addr}{i ep:Nat}{od:Obj}{es:Array DictEntry}
theorem EG{Q:Value->Shared->Prop}(hd:(d==sysModules)=false)(tN:s.heap.get? d=some od)(tF:od.cls=.type "dict")(ng:od.data=.dict es ep)
  (hQ:Q (.ref s.heap.objs.size) {s with heap:=s.heap.push {cls:=.type "dict_keyiterator",data:=.fields #[.ref d,.int 0 0,.int es.size 0,.int ep 0]}}):wpAny X.M A (pyIter (.ref d)) Q E s:=by
 have hT:s.TypeIs (.ref d) "dict":=⟨od,tN,tF⟩
 refine wpAny_pyIter_slot hT F.slot_dict_iter (wpAny_call_entry F.slot_dict_iter hT F.entry_dict_iter ?_ (F.args_dict_iter_1 _))
 unfold Builtin.«dict.__iter__»
 refine wpAny_bind (wpAny_bind (wpAny_notOrdered_dict hT (wpAny_pure ?_)))
 refine(?_:wpAny _ _ (Builtin.Dict.showsAll d >>= _) _ _ s)
 unfold Builtin.Dict.showsAll
 rw[if_neg (by rw[hd];exact Bool.false_ne_true)]
 exact wpAny_bind (wpAny_pure (wpAny_bind (wpAny_dictEntries tN ng (wpAny_bind (wpAny_dictEpoch tN ng (wpAny_bind (wpAny_newObj_type (wpAny_pure ⟨_,rfl,"dict_keyiterator",_,⟨_,get?_push_size _ rfl,rfl⟩,F.slot_dict_keyiterator_next.lookup,hQ⟩))))))))
theorem EH{Q:Option Value->Shared->Prop}(hh:A.handled=none)(eD:s.heap.IsKeyIter it d i es.size ep)(tN:s.heap.get? d=some od)(ng:od.data=.dict es ep)
  (hQ:∀(cU:i<es.size) h',h'.IsKeyIter it d (i+1) es.size ep->SameBut it s.heap h'->Q (some es[i].key) {s with heap:=h'}) (hE:es.size<=i->∀h',ExtBut it s.heap h'->Q none {s with heap:=h'}):wpAny X.M A (pyNext (.ref it)) Q E s:=by
 obtain⟨o,ho,hc,hd⟩:=id eD
 unfold pyNext
 refine wpAny_bind (wpAny_attempt (wpAny_callSpecial?_slot (name:=Str.ofString "__next__") eD.typeIs F.slot_dict_keyiterator_next
  (wpAny_call_entry F.slot_dict_keyiterator_next eD.typeIs F.entry_dict_keyiterator_next ?_ (F.args_dict_keyiterator_next_1 _))))
 refine wpAny_bind (wpAny_pure ?_)
 refine wpAny_bind ?_
 refine wpAny_bind ?_
 first|refine wpAny_bind (wpAny_typeNameOfWhole_keyiter eD.typeIs (wpAny_pure ?_))|refine wpAny_bind (wpAny_typeNameOf_keyiter eD.typeIs (wpAny_pure ?_))
 refine wpAny_bind (wpAny_fieldsOf ho hd ?_)
 refine(?_:wpAny _ _ (if(Value.ref d==Value.none)=true then _ else _) _ _ s)
 rw[if_neg (show ¬((Value.ref d==Value.none)=true) from Bool.false_ne_true)]
 refine wpAny_bind (wpAny_pure ?_)
 refine wpAny_bind (wpAny_dictEntries tN ng ?_)
 rw[if_neg (by rw[bne_self_eq_false];exact Bool.false_ne_true)]
 refine wpAny_bind (wpAny_pure ?_)
 refine wpAny_bind (wpAny_dictEpoch tN ng ?_)
 rw[if_neg (by rw[bne_self_eq_false];exact Bool.false_ne_true)]
 refine wpAny_pure ?_
 dsimp only
 rcases lt_or_ge i es.size with cU|tE
 ·rw[if_neg (show ¬((i:Int)<0) from Int.not_lt.mpr (natCast_nonneg i)),toNat_natCast,Array.getElem?_eq_getElem cU]
  refine wpAny_bind ?_
  first|refine wpAny_bind (wpAny_typeNameOfWhole_keyiter eD.typeIs (wpAny_pure ?_))|refine wpAny_bind (wpAny_typeNameOf_keyiter eD.typeIs (wpAny_pure ?_))
  refine wpAny_bind (wpAny_isOneOf_keyiter eD.typeIs ?_)
  refine(?_:wpAny _ _ (setField (.ref it) 1 (rawInt ((i:Int)+1)) >>= _) _ _ s)
  refine wpAny_bind (wpAny_setField ho hd (Nat.lt_of_sub_pos (by exact Nat.zero_lt_succ _)) ?_)
  have qZ:(s.heap.update it (Obj.mapFields (·.setIfInBounds 1 (rawInt ((i:Int)+1))))).IsKeyIter it d (i+1) es.size ep:=
   ⟨_,get?_update_self _ ho (Obj.isFreed_of_fields (Obj.data_mapFields hd _)),(Obj.cls_mapFields ..).trans hc,by rw[Obj.data_mapFields hd];rfl⟩
  refine wpAny_bind (wpAny_holding ?_)
  refine wpAny_bind (wpAny_isOneOf_keyiter (s:={s with heap:=s.heap.update it (Obj.mapFields (·.setIfInBounds 1 (rawInt ((i:Int)+1))))}) qZ.typeIs ?_)
  refine(?_:wpAny _ _ (pure es[i].key) _ _ _)
  exact wpAny_pure (wpAny_pure ⟨_,rfl,wpAny_pure (hQ cU _ qZ (SameBut.update ..))⟩)
 ·rw[if_neg (show ¬((i:Int)<0) from Int.not_lt.mpr (natCast_nonneg i)),toNat_natCast,Array.getElem?_eq_none tE]
  refine wpAny_bind ?_
  first|refine wpAny_bind (wpAny_typeNameOfWhole_keyiter eD.typeIs (wpAny_pure ?_))|refine wpAny_bind (wpAny_typeNameOf_keyiter eD.typeIs (wpAny_pure ?_))
  refine(?_:wpAny _ _ (setField (.ref it) 0 .none >>= _) _ _ s)
  refine wpAny_bind (wpAny_setField ho hd (Nat.lt_of_sub_pos (by exact Nat.zero_lt_succ _)) ?_)
  refine(?_:wpAny _ _ (newExc (.type "StopIteration") [] >>= _) _ _ _)
  refine wpAny_bind (wpAny_bind (wpAny_newObj_type ?_ (by size_fits)))
  refine wpAny_bind (m:=firstArgMember _ _) (wpAny_of_eq (a:=Value.none) (by first|rfl|(simp only[firstArgMember];rfl)) ?_)
  refine wpAny_newObj_type ?_ (by size_fits)
  refine wpAny_bind (wpAny_handled ?_)
  rw[show A.in1.handled=none from hh]
  refine wpAny_bind (wpAny_pure (wpAny_throw ?_))
  refine wpAny_bind (wpAny_isInstance (T:="StopIteration") (b:=true) ⟨_,get?_push_size _ rfl,rfl⟩ isSubtype_stop ?_)
  exact wpAny_pure (hE tE _ (((SameBut.update ..).extBut.push _).push _))
end
section
variable{tg:Expr}{dD:Ws}{H₀:Hp}{ws:List Nat}{vs:List V}{I a:Addr}
noncomputable def Ag(dD:Ws)(H₀:Hp)(ws:List Nat)(vs:List V)(a:Addr)(m ep:Nat):Prop:=
 ∀(P:Pt),Kp dD P.w->eZ ws H₀ P.H=true->∃o en,P.s.heap.get? a=some o/\o.data=.dict en ep/\en.size=m/\vs.length=m/\∀i v,vs[i]?=some v->∃h:i<en.size,aY P.w v en[i].key
theorem EI{m ep:Nat}(pN:Ag dD H₀ ws vs a m ep):kA tg dD H₀ ws vs I (·=I) (λi h=>h.IsKeyIter I a i m ep):=
 xM (nm:="dict_keyiterator") rfl (λi h st=>st.imp λo q=>⟨q.1,q.2.1,tq q.2.2⟩) (λi h h' st hk=>st.imp λo q=>⟨hk o q.1,q.2⟩)
  (λP i v Q hh kp hw st hv k=>(pN P kp hw).elim λo h=>h.elim λen h=>(h.2.2.2.2 i v hv).elim λhl r=>EH hh (h.2.2.1▸st) h.1 h.2.1 (λZ h' eD hs=>k h' P.s.toks _ (h.2.2.1▸eD) hs.extBut r) λhg=>absurd hl (not_lt.mpr hg))
  (λP i Q hh kp hw st hv k=>(pN P kp hw).elim λo h=>h.elim λen h=>EH hh (h.2.2.1▸st) h.1 h.2.1 (λhl=>absurd hl (not_lt.mpr (by rw[h.2.2.1,<-h.2.2.2.1];exact List.getElem?_eq_none_iff.mp hv))) λZ=>k) λA s Q Ex st h=>wpAny_pyIter_keyiter st h
end
noncomputable def mn(P:Pt)(tg:Expr)(post:List V×List Nat->Hp->Prop)(Q:Value->Shared->Prop):Prop:=
 ∀p H,post p H->∀(N:Nx P H) I io St,kA tg N.w H p.2 p.1 I io St->St 0 N.h->(∀a,io a->Ap N.w a/\P.s.heap.get? a=none)->Q (.ref I) N.s
noncomputable def jm(σ:Lv)(it:It)(e:Expr):Prop:=
 (∀env x,foldedSetIterable e env x=pure x)/\∀(P:Fp σ) (tg:Expr) (post:List V×List Nat->Hp->Prop) (Q:Value->Shared->Prop),td it tg=true->oi σ.c it P.ρ P.H post->mn P.toPt tg post Q->wpAny X.M P.A (eval e P.env) (λx bU=>wpAny X.M P.A (pyIter x) Q P.Ex bU) P.Ex P.s
section
variable{σ:Lv}{tg:Expr}{Q:Value->Shared->Prop}{post:List V×List Nat->Hp->Prop}{P:Pt}{H:Hp}
theorem mn.nx(k:mn P tg post Q)(N:Nx P H):mn N.pt tg post Q:=λp H' q N' I io St it st dG=>k p H' q (N.then N') I io St it st λa ha=>have h:=dG a ha;⟨h.1,N.S.dead h.2⟩
theorem xO{x:Int}(h:x.natAbs<2^60):-2^62<=x/\x<2^62:=by lia
theorem tO(k:mn P tg post Q){vs:List V}{ws:List Nat}(o:Obj){St:Nat->Heap->Prop}(p:post (vs,ws) P.H)(it:kA tg (P.ext (.push o) P.s.toks).w P.H ws vs P.s.heap.objs.size (·=P.s.heap.objs.size) St)(st:St 0 (P.s.heap.push o)):Q (.ref P.s.heap.objs.size) {P.s with heap:=P.s.heap.push o}:=
 k _ _ p (P.ext (.push o) P.s.toks) _ _ _ it st λa ha=>by
  subst ha
  have hn:=gF P.s.heap (le_refl _)
  exact⟨P.R.new (p:=P.w) hn,hn⟩
theorem L7{dD:Ws}{H₀:Hp}{ws:List Nat}{l ep:Nat}{es:List (Int×V)}{a:Addr}(hl:dD.φ[l]?=some a)(e:H₀[l]?=some (.dict ep es))(hw:l∈ws):Ag dD H₀ ws (es.map λp=>.int p.1) a es.length ep:=λP kp hs=>
 P.R.at ((Af hs hw).trans e) λb hb hc=>hc.inv _ λo en kvs x0 x1 x2 x3 x4 x5 q z m=>by
  rw[kp.pre l a hl] at hb;cases hb
  have hz:en.size=es.length:=by rw[q.length,<-x4.length,length_toList]
  refine⟨o,en,x0,x2,hz,length_map _,λi v hv=>?_⟩
  rw[getElem?_map] at hv
  refine fK (λv=>∃h:i<en.size,aY P.w v en[i].key) hv λe' he=>?_
  have hi:=(List.getElem?_eq_some_iff.mp he).1
  have q0:i<en.size:=hz▸hi
  have hk:i<kvs.length:=q.length▸hi
  refine⟨q0,?_⟩
  have h1:=(x4.get? (e:=en[i]) (k:=(kvs[i]).1) (v:=(kvs[i]).2) (by rw[getElem?_toList,Array.getElem?_eq_getElem q0]) (getElem?_eq_getElem hk)).1
  have h2:e'.1=(kvs[i]).1:=(q.get he (getElem?_eq_getElem hk)).1
  obtain⟨t,ht⟩:=Value.isInt_shape h1
  rw[ht,<-h2];exact .int _ _
theorem L8{dD:Ws}{H₀:Hp}{ws:List Nat}{l ep:Nat}{es:List ((Int×Bool)×V)}{a:Addr}(hl:dD.φ[l]?=some a)(e:H₀[l]?=some (.cL ep es))(hw:l∈ws):Ag dD H₀ ws (es.map λp=>kh p.1) a es.length ep:=λP kp hs=>
 P.R.at ((Af hs hw).trans e) λb hb hc=>hc.inv _ λo en kvs x0 x1 x2 x3 x4 q z m=>by
  rw[kp.pre l a hl] at hb;cases hb
  have hz:en.size=es.length:=by rw[q.length,<-length_toList,x3,length_map]
  refine⟨o,en,x0,x2,hz,length_map _,λi v hv=>?_⟩
  rw[getElem?_map] at hv
  refine fK (λv=>∃h:i<en.size,aY P.w v en[i].key) hv λe' he=>?_
  have hi:=(List.getElem?_eq_some_iff.mp he).1
  have q0:i<en.size:=hz▸hi
  have hk:i<kvs.length:=q.length▸hi
  refine⟨q0,?_⟩
  have h1:=entry_at (knd:=k7) x3 i
  rw[Array.getElem?_eq_getElem q0,getElem?_eq_getElem hk] at h1
  rw[Option.some.inj h1]
  exact(q.get he (getElem?_eq_getElem hk)).2.1
theorem L9{v:V}{x:Value}{us:List V}(G:Good X)(r:aY P.w v x)(e:keysOf P.H v=some us)(k:mn P tg post Q)(p:post (us,watch v) P.H):wpAny X.M P.A (pyIter x) Q P.Ex P.s:=by
 unfold keysOf at e
 cases ed:jL P.H v with
 |some es=>
  rw[ed] at e;cases e
  exact tD r G ed (λx=>wpAny X.M P.A (pyIter x) Q P.Ex P.s) λl ep a kvs ev hl ha Z Z hs Z=>by
   subst ev
   refine P.R.at hl λb hb hc=>hc.inv _ λo en kvs x0 x1 x2 x3 x4 x5 q z m=>?_
   rw[ha] at hb;cases hb
   have hz:en.size=es.length:=by rw[q.length,<-x4.length,length_toList]
   exact EG hs x0 x1.1 x2 (tO k _ p (EI (L7 (l:=l) (ep:=ep) ha hl (.head _))) ⟨_,get?_push_size _ rfl,rfl,by rw[hz];rfl⟩)
 |none=>
  rw[ed] at e
  cases eP:pC P.H v with
  |some es=>
   rw[eP] at e;cases e
   exact l6 r G eP (λx=>wpAny X.M P.A (pyIter x) Q P.Ex P.s) λl ep a kvs ev hl ha Z Z hs Z=>by
    subst ev
    refine P.R.at hl λb hb hc=>hc.inv _ λo en kvs x0 x1 x2 x3 x4 q z m=>?_
    rw[ha] at hb;cases hb
    have hz:en.size=es.length:=by rw[q.length,<-length_toList,x3,length_map]
    exact EG hs x0 x1.1 x2 (tO k _ p (EI (L8 (l:=l) (ep:=ep) ha hl (.head _))) ⟨_,get?_push_size _ rfl,rfl,by rw[hz];rfl⟩)
  |none=>
   rw[eP] at e
   cases v with
   |aC WM=>cases e;exact r.inv (λx=>wpAny X.M P.A (pyIter x) Q P.Ex P.s) λa m xs h1 h2 Z h4=>wpAny_pyIter_tuple ⟨_,h1,rfl,m,rfl⟩ (tO k _ p (L5 (get?_push_of_some _ h1) h4 (h2.mono (P.ext (.push _) P.s.toks).S)) ⟨_,get?_push_size _ rfl,rfl,rfl⟩)
   |ref l=>
    exact bX r e (λx=>wpAny X.M P.A (pyIter x) Q P.Ex P.s) λl' a xs m ev hl ha h1 h2 Z=>by
     cases ev
     exact wpAny_pyIter_list (iJ h1) (tO k _ p (EE (ED (l:=l) ha hl (.head _))) ⟨_,get?_push_size _ rfl,rfl,rfl⟩)
   |fR=>cases e;exact r.inv (λx=>wpAny X.M P.A (pyIter x) Q P.Ex P.s) (Gl.jk G P λxs h1 h2 Z=>wpAny_pyIter_list h1 (tO k _ p (EE (L4 G)) ⟨_,get?_push_size _ rfl,rfl,rfl⟩))
   |_=>cases e
theorem Ma{c:E}{e:Expr}(h:cg σ.f c e=true)(env:Env)(x:Value):foldedSetIterable e env x=pure x:=by
 cases e<;>first|rfl|skip
 exfalso
 cases c<;>exact Bool.noConfusion h
theorem Mb{c:E}{e:Expr}(G:Good X)(h0:cg σ.f c e=true)(he:b8 σ c e):jm σ (.of c) e:=
 ⟨Ma h0,λP tg post Q Z p k=>he P _ _ p (λv H1 p1 N x r=>aH.k p1 λus hi p1=>L9 (P:=N.pt) G r hi (k.nx N) p1)⟩
theorem EJ{x y:Int}{r:Addr}{t u w:Tok}(k:mn P tg post Q)(hr:IsRange P.s.heap r x y 1 t u w)(hx:x.natAbs<2^60/\y.natAbs<2^60)(p:post (pG x y,[]) P.H):wpAny X.M P.A (pyIter (.ref r)) Q P.Ex P.s:=by
 refine wpAny_pyIter_range hr (small_one ((xO hx.1).1) ((xO hx.1).2) ((xO hx.2).1) ((xO hx.2).2)) (tO k _ p (L6 (x:=x) (y:=y)) ?_)
 have e1:x+((0:Nat):Int)=x:=Int.add_zero x
 have e2:(((y - x).toNat:Int) - ((0:Nat):Int))=Builtin.Range.rangeSize x y 1:=by rw[rangeSize_one];split<;>lia
 refine(?_:IsRangeIter _ _ (x+((0:Nat):Int)) (((y - x).toNat:Int) - ((0:Nat):Int)) 1)
 rw[e1,e2]
 exact get?_push_size _ rfl
theorem tP{P:Fp σ}{g:Expr}{nm:Str}{y:Value}{cs:List E}{es:List Expr}{pos:Pos}{post:List V->Hp->Prop}(G:Good X)(hg:dW σ.f nm g=true)(hm:(nm,y)∈mV)(hy:∃T,y=.type T)(h:eA σ cs es)(p:mj σ.c cs P.ρ P.H post)(k:zW P.toPt cs.length post λxs bU=>wpAny X.M P.A (call y xs) Q P.Ex bU):wpAny X.M P.A (eval (.Call g es [] pos) P.env) Q P.Ex P.s:=
 eX.k (G:=λg=>wpAny X.M P.A (eval (.Call g es [] pos) P.env) Q P.Ex P.s) hg λx np hg=>aR hg λe ho=>by
  obtain rfl:=eq_of_beq e
  obtain⟨T,rfl⟩:=hy
  exact wpAny_Call_NameR (pJ G P hm ho (PySem.callWith_type (h.plain P.env pos) (ot (h.plain P.env pos) (h.na P _ _ pos p k))))
theorem Mc{b:E}{g e:Expr}{pos:Pos}(G:Good X)(hg:dW σ.f "range" g=true)(h:eA σ [b] [e]):jm σ (.range (.k (.int 0)) b) (.Call g [e] [] pos):=
 ⟨λZ Z=>rfl,λP tg post Q Z p k=>tP (post:=λvs H=>w1 vs λy=>fv y λj=>((0:Int).natAbs<2^60/\j.natAbs<2^60)/\post (pG 0 j,[]) H) G hg (gX 6 (by decide)) ⟨_,rfl⟩ h p (λvs H1 p1 Z N xs r=>w1.k p1 (λvs=>ba N.w vs xs->_) (λv p1 r=>fv.k p1 (λv=>ba N.w [v] xs->_) (λj p1 r=>
  r.k1 (λxs=>wpAny X.M P.A (call (.type "range") xs) (λx bU=>wpAny X.M P.A (pyIter x) Q P.Ex bU) P.Ex N.s) λx r=>r.inv (λx=>wpAny X.M P.A (call (.type "range") [x]) (λx bU=>wpAny X.M P.A (pyIter x) Q P.Ex bU) P.Ex N.s) λt=>call_range_1 (EJ (P:=(N.pt.ext (.push _) _).pt) ((k.nx N).nx (N.pt.ext (.push _) _)) (IsRange.new _ _ _ _ _ _ _) p1.1 p1.2)) r) r)⟩
theorem Md{a b:E}{g e e':Expr}{pos:Pos}(G:Good X)(hg:dW σ.f "range" g=true)(h:eA σ [a,b] [e,e']):jm σ (.range a b) (.Call g [e,e'] [] pos):=
 ⟨λZ Z=>rfl,λP tg post Q Z p k=>tP (post:=λvs H=>w2 vs λx y=>xl x y λl=>post (l,[]) H) G hg (gX 6 (by decide)) ⟨_,rfl⟩ h p (λvs H1 p1 Z N xs r=>w2.k p1 (λvs=>ba N.w vs xs->_) (λu v p1 r=>fv.k p1 (λu=>ba N.w [u,v] xs->_) (λi p1 r=>fv.k p1 (λv=>ba N.w [.int i,v] xs->_) (λj p1 r=>
  r.k2 (λxs=>wpAny X.M P.A (call (.type "range") xs) (λx bU=>wpAny X.M P.A (pyIter x) Q P.Ex bU) P.Ex N.s) λx y r1 r2=>r1.inv (λx=>wpAny X.M P.A (call (.type "range") [x,y]) (λx bU=>wpAny X.M P.A (pyIter x) Q P.Ex bU) P.Ex N.s) λt=>r2.inv (λy=>wpAny X.M P.A (call (.type "range") [_,y]) (λx bU=>wpAny X.M P.A (pyIter x) Q P.Ex bU) P.Ex N.s) λt'=>call_range_2 (EJ (P:=(N.pt.ext (.push _) _).pt) ((k.nx N).nx (N.pt.ext (.push _) _)) (IsRange.new _ _ _ _ _ _ _) p1.1 p1.2)) r) r) r)⟩
end
theorem Ch.EK{h h':Heap}{a b:Addr}(k:∀c o,c≠a->c≠b->h.get? c=some o->h'.get? c=some o)(fa:∀o,h.get? a=some o->fz o=false)(fb:∀o,h.get? b=some o->fz o=false):Ch (λc=>c=a\/c=b) h h':=λc o e hf=>
 (Classical.em (c=a)).elim (λe'=>no (hf (.inl e')) (fa o (e'▸e))) λha=>(Classical.em (c=b)).elim (λe'=>no (hf (.inr e')) (fb o (e'▸e))) λhb=>k c o ha hb e
section
variable{σ:Lv}{tg:Expr}{dD:Ws}{H₀:Hp}{ws:List Nat}{vs:List V}{a e it:Addr}
theorem Ah:∀{us:List V} {k i:Nat},(qP k us)[i]?=us[i]?.map λu=>.aC [.int ((k+i:Nat):Int),u]
 |[],k,i=>rfl
 |u::us,k,0=>rfl
 |u::us,k,i+1=>by
  rw[qP,List.getElem?_cons_succ,List.getElem?_cons_succ,Ah,add_right_comm];rfl
theorem Mf(vp:uK tg=true)(pN:SrcL dD H₀ ws vs a)(fU:e≠it):kA tg dD H₀ ws (qP 0 vs) e (λc=>c=e\/c=it) (λi h=>(∃old,IsEnum h e it i old)/\h.IsListIter it a i) where
 keep:=λi h h' st hk=>⟨st.1.imp λold q=>hk e (.inl rfl) _ q,st.2.imp λo q=>⟨hk it (.inr rfl) o q.1,q.2⟩⟩
 live:=λi h st b hb=>hb.elim (λhb=>st.1.elim λold q=>⟨_,hb▸q,rfl,rfl⟩) λhb=>st.2.imp λo q=>⟨hb▸q.1,EA q.2.1 rfl (tq q.2.2)⟩
 item:=λP i v Q hh kp hw st dG hv k=>(pN P kp hw).elim λxs hx=>fK (λv=>(∀h' tk y,SR ⟨P.φ,h'⟩ P.H->bK (λc=>c=e\/c=it) P.w ⟨P.φ,h'⟩->((∃old,IsEnum h' e it ((i+1:Nat):Int) old)/\h'.IsListIter it a (i+1))->aY ⟨P.φ,h'⟩ v y->Q y (upd P.s h' tk))->_) (Ah▸hv) (λu hu k=>hx.2.get hu λy hy ry=>st.1.elim λold e1=>st.2.elim λo q=>by
  refine wpAny_pyNext_enum_item e1 st.2 hx.1 (by rw[xN];exact hy) fU λh' q1 q2 q3 q4 q5=>?_
  refine Expr.Tuple.elim (motive_1:=λtg=>wpAny X.M P.A (letOwnedTupleGo tg (.ref e) (.ref P.s.heap.objs.size)) (λZ ey=>Q (.ref P.s.heap.objs.size) ey) P.Ex (upd P.s h' (P.s.toks+1))) tg (of_decide_eq_true vp) λZ Z Z=>?_
  refine wpAny_letOwnedTupleGo_enum (s:=upd P.s h' (P.s.toks+1)) q1 λh2 w1 w2=>?_
  replace w2:SameBut e h' h2:=w2
  have hs:P.s.heap.objs.size≠e:=λe'=>bD (gF P.s.heap (le_of_eq e')) e1
  have keep:∀b o,b≠e->b≠it->P.s.heap.get? b=some o->h2.get? b=some o:=λb o n1 n2 x=>w2.extBut b o n1 (q5 b o n1 n2 x)
  have c:Ch (λc=>c=e\/c=it) P.s.heap h2:=.EK keep (λo x=>by rw[e1] at x;cases x;exact mZ rfl rfl) (λo' x=>by rw[q.1] at x;cases x;exact mZ q.2.1 rfl)
  refine q2.elim λo' q2=>?_
  have eD:h2.get? it=some o':=w2.extBut _ _ fU.symm q2.1
  have S:bK (λc=>c=e\/c=it) P.w ⟨P.φ,h2⟩:=bK.ch (io:=λc=>c=e\/c=it) (q:=P.w) .refl c λb hb=>.inr ⟨hb,hb.elim (λhb=>⟨_,hb▸w1,λo1 x hd=>by rw[hb,show P.w.h.get? e=_ from e1] at x;cases x;exact Bool.noConfusion hd⟩) λhb=>⟨_,hb▸eD,λo1 x hd=>by rw[hb,show P.w.h.get? it=_ from q.1] at x;cases x;exact no hd (tq q.2.2)⟩⟩
  have hc:((i+1:Nat):Int)=(i:Int)+1:=rfl
  have h0:((0+i:Nat):Int)=(i:Int):=by rw[zero_add]
  exact k h2 _ _ (P.R.ch (p:=P.w) dG c) S ⟨⟨y,w1⟩,o',eD,q2.2⟩ (.aC (w2.extBut _ _ hs q3) (.cons (h0▸.int _ _) (.cons (ry.mono S) .nil)) (Nat.le_of_ble_eq_true rfl) (P.R.new (p:=P.w) (gF _ (le_refl _))).1)) k
 done:=λP i Q hh kp hw st dG hv k=>(pN P kp hw).elim λxs hx=>st.1.elim λold e1=>st.2.elim λo q=>wpAny_pyNext_enum_end hh e1 st.2 hx.1 (none_of hx.2 (Option.map_eq_none_iff.mp (Ah▸hv))) λh' he=>
  k h' P.s.toks (.EK (λc o Z hc x=>he c o hc x) (λo x=>by rw[e1] at x;cases x;exact mZ rfl rfl) (λo' x=>by rw[q.1] at x;cases x;exact mZ q.2.1 rfl))
 self:=λA s Q Ex st h=>st.1.elim λold e1=>wpAny_pyIter_enum e1 h
theorem Mg{c:E}{g x:Expr}{pos:Pos}(G:Good X)(hg:dW σ.f "enumerate" g=true)(h:eA σ [c] [x]):jm σ (.mQ c) (.Call g [x] [] pos):=
 ⟨λZ Z=>rfl,λP tg post Q vp p k=>tP (post:=λvs H=>w1 vs λy=>aH (cS H y) λus=>post (qP 0 us,watch y) H) G hg (gX 7 (by decide)) ⟨_,rfl⟩ h p (λvs H1 p1 Z N xs r=>w1.k p1 (λvs=>ba N.w vs xs->_) (λv p1 r=>aH.k p1 λus hl p1=>r.k1 (λxs=>wpAny X.M P.A (call (.type "enumerate") xs) (λx bU=>wpAny X.M P.A (pyIter x) Q P.Ex bU) P.Ex N.s) λy r=>
  bX (P:=N.pt) r hl (λy=>wpAny X.M P.A (call (.type "enumerate") [y]) (λx bU=>wpAny X.M P.A (pyIter x) Q P.Ex bU) P.Ex N.s) λl a xs m ev fS ha h1 h2 Z=>by
   subst ev
   refine call_enumerate_list (s:=N.s) (iJ h1) λh2 w1 w2 w3 w4=>wpAny_pyIter_enum (s:=upd P.s h2 N.tk) w1 ?_
   have fr:∀b,N.h.objs.size<=b->Ap (N.pt.ext (h':=h2) w4 N.tk).w b/\P.s.heap.get? b=none:=λb hb=>have hn:=gF N.h hb;⟨N.R.new (p:=N.w) hn,N.S.dead hn⟩
   exact k _ _ p1 (N.then (N.pt.ext w4 N.tk)) _ _ _ (Mf vp (ED ha fS (.head _)) (Nat.succ_ne_self _)) ⟨⟨.none,w1⟩,w2⟩ λb hb=>hb.elim (λhb=>fr b (hb▸le_succ _)) λhb=>fr b (le_of_eq hb.symm)) r)⟩
end
section
variable{P:Pt}{l k:Nat}{a:Addr}{Q:Unit->Shared->Prop}{Ex:Value->Shared->Prop}
noncomputable def q8(p:Ws)(a:Addr):Prop:=∃oe vs T oT,p.h.get? a=some oe/\oe.data=.fields vs/\tv p vs T oT
theorem EL{o:Obj}{G:Prop}(h:fJ o=true)(k:∀ts,o.data=.fields ts->3<ts.size->G):G:=by
 unfold fJ at h
 cases e:o.data with
 |fields ts=>rw[e] at h;exact k ts e (of_decide_eq_true (and_eq_true_iff.mp h).2)
 |_=>rw[e] at h;cases h
theorem Mh{vs:Array Value}(h:3<vs.size):fJ {cls:=.type "traceback",data:=.fields vs}=true:=decide_eq_true h
noncomputable abbrev Pt.soft(P:Pt){h':Heap}(hc:∀b o,b∈P.φ->P.s.heap.get? b=some o->h'.get? b=some o)(h0:aA X.dC h')(hk:∀b o,P.s.heap.get? b=some o->∃o',h'.get? b=some o'/\iq o o')(tk:Nat):Nx P P.H:=
 have K:Kp P.w ⟨P.φ,h'⟩:=⟨λZ Z e=>e,λb o Z e hn=>⟨hk b o e,hn⟩⟩
 ⟨P.φ,h',tk,⟨h0,P.R.fresh,P.R.nodup,P.R.len,λl c e=>P.R.at e λb hb r=>⟨b,hb,r.kp K λo y=>hc b o (mem_of_getElem? hb) y⟩⟩,
  ⟨λZ Z e=>e,λb o e Z Z=>hk b o e,λZ h1 h2=>absurd h1 h2,λb o e=>(hk b o e).imp λo' x=>⟨x.1,λZ hd=>x.2.dX hd⟩⟩⟩
theorem EM{T:Addr}{oT:Obj}{z:Value}(e:P.s.heap.get? T=some oT)(ht:fJ oT=true)(hn:T∉P.φ)(h0:X.dC.get? T=none)(kq:∀N:Nx P P.H,(∀b,b≠T->N.h.get? b=P.s.heap.get? b)->Q () N.s):wpAny X.M P.A (setField (.ref T) 3 z) Q Ex P.s:=
 EL ht λts hd hz=>wpAny_setField e hd hz (by
  have hs:=get?_update_self (Obj.mapFields (·.setIfInBounds 3 z)) e (Obj.isFreed_of_fields (Obj.data_mapFields hd _))
  have ho:∀b,b≠T->(P.s.heap.update T (Obj.mapFields (·.setIfInBounds 3 z))).get? b=P.s.heap.get? b:=λb hb=>get?_update_other _ _ (Ne.symm hb)
  have qW:fJ (Obj.mapFields (·.setIfInBounds 3 z) oT)=true:=by
   unfold fJ at ht ⊢
   rw[Obj.data_mapFields hd,Obj.cls_mapFields]
   rw[hd] at ht
   exact(congrArg (λn=>_&&decide (3<n)) (Array.size_setIfInBounds)).trans ht
  refine kq (P.soft (λb o hb x=>(ho b λe'=>hn (e'▸hb)).trans x) (λb o x=>(ho b λe'=>bD h0 (e'▸x)).trans (P.R.keep b o x)) (λb o x=>?_) P.s.toks) ho
  by_cases e':b=T
  ·subst e'
   rw[e] at x;cases x
   exact⟨_,hs,λZ h=>no ht h,λh=>no ht h,λZ=>qW⟩
  ·exact⟨o,(ho b e').trans x,.refl⟩)
theorem xP{fr:Option Addr}(h:q8 P.w a)(ha:P.φ[l]?=some a)(kq:∀N:Nx P P.H,q8 N.w a->Q () N.s):wpAny X.M P.A (setFlight (.ref a) fr) Q Ex P.s:=by
 obtain⟨oe,vs,T,oT,e1,e2,e3⟩:=h
 unfold setFlight
 refine wpAny_bind (wpAny_field e1 e2 e3.1 ?_)
 rw[if_pos (show(Value.ref T != Value.none)=true from rfl)]
 exact EM e3.2.1 e3.2.2.1 e3.2.2.2.1 e3.2.2.2.2 λN hN=>(e3.kp N.S.kp).elim λo' y=>kq N ⟨oe,vs,T,o',(hN a λe=>e3.2.2.2.1 (e▸mem_of_getElem? ha)).trans e1,e2,y⟩
theorem Mi{α:Type}{l:List α}{i:Nat}{a:α}(h:l[i]?=some a):l.set i a=l:=by
 apply ext_getElem?
 intro j
 rw[List.getElem?_set]
 split
 ·rename_i e;subst e
  rw[if_pos (List.getElem?_eq_some_iff.mp h).1,h]
 ·rfl
theorem Mj{T:Addr}{oe oT:Obj}{C:Addr}{vs:Array Value}(hl:P.H[l]?=some (.exc k))(ha:P.φ[l]?=some a)(e1:P.s.heap.get? a=some oe)(e2:X.exc[k]?=some C)(e3:oe.cls=.ref C)(e4:oe.data=.fields vs)(iu:1<vs.size)(eT:P.s.heap.get? T=some oT)(ht:fJ oT=true)(hn:T∉P.φ)(h0:X.dC.get? T=none)
  (kq:∀N:Nx P P.H,q8 N.w a->Q () N.s):wpAny X.M P.A (setField (.ref a) 1 (.ref T)) Q Ex P.s:=
 wpAny_setField e1 e4 iu (by
  have hd:=Obj.data_mapFields e4 (·.setIfInBounds 1 (.ref T))
  have hs:=get?_update_self (Obj.mapFields (·.setIfInBounds 1 (.ref T))) e1 (Obj.isFreed_of_fields hd)
  have he:ExtBut a P.s.heap (P.s.heap.update a (Obj.mapFields (·.setIfInBounds 1 (.ref T)))):=λb o hb x=>(get?_update_other _ _ (Ne.symm hb)).trans x
  have Mk:T≠a:=λe=>hn (e▸mem_of_getElem? ha)
  have tb:tv ⟨P.φ,P.s.heap.update a (Obj.mapFields (·.setIfInBounds 1 (.ref T)))⟩ (vs.setIfInBounds 1 (.ref T)) T oT:=⟨by rw[Array.getElem?_setIfInBounds_self];exact if_pos iu,he T oT Mk eT,ht,hn,h0⟩
  have c:eR ⟨P.φ,P.s.heap.update a (Obj.mapFields (·.setIfInBounds 1 (.ref T)))⟩ a (.exc k):=.exc hs e2 ((Obj.cls_mapFields _ _).trans e3) hd (.inr ⟨T,oT,tb⟩)
  have N:=P.set ha he c P.s.toks
  exact kq ⟨P.φ,_,P.s.toks,Mi hl▸SR.set (p:=P.w) P.R ha he c,c.ob.elim λZ ho=>bK.cell (q:=P.w) .refl (mem_of_getElem? ha) he ho⟩ ⟨_,_,T,oT,hs,hd,tb⟩)
theorem Ml{e:Value}{env fe:Env}(h:fe.frame=env.frame):noteFrame e env=noteFrame e fe:=by unfold noteFrame PySem.frameOf;rw[h]
theorem k8.EN{A:Around}{p:Ws}:∀{l:List Env},(∀e,e∈l->e.scope.kind=.function/\∃L o,e.frame=some L/\p.h.get? L=some o/\dX o=true/\Ap p L)->p.h.FunFrames X.dC l/\∀b,b∈l.filterMap (·.frame)->∃o,p.h.get? b=some o/\dX o=true/\Ap p b
 |[],_=>⟨trivial,λZ h=>nomatch h⟩
 |e::l,H=>by
  have x:=H e (.head _)
  have r:=k8.EN (A:=A) λe he=>H e (.tail _ he)
  obtain⟨hk,L,o,h1,h2,h3,h4⟩:=x
  refine And.intro ⟨(by rw[hk];exact λh=>nomatch h),⟨L,o,h1,h4.2,h2,λvs hv=>no h3 (tq hv)⟩,r.1⟩ λb hb=>?_
  rw[filterMap_cons,h1] at hb
  exact(mem_cons.mp hb).elim (λe=>e▸⟨o,h2,h3,h4⟩) (r.2 b)
theorem Mm{fe:Env}{outer:List Env}{L:Addr}{Q:Value->Shared->Prop}(hA:P.A.frames=some (fe::outer))(hL:fe.frame=some L)(kq:∀N:Nx P P.H,(∀b,b∈P.φ->N.h.get? b=P.s.heap.get? b)->Q (.ref L) N.s):wpAny X.M P.A (PySem.frameOf fe) Q Ex P.s:=by
 have rj:iI P.A=fe::outer:=by unfold iI;rw[hA];rfl
 have fr:=k8.EN (A:=P.A) (p:=P.w) (l:=fe::outer) λe he=>P.fr e (rj▸he)
 refine wpAny_frameOf_fun hA fr.1 hL λfy hs=>?_
 have ho:∀b o,P.s.heap.get? b=some o->dX o=false->fy.get? b=some o:=λb o e hd=>(hs.2.1 b λhm=>(fr.2 b hm).elim λo' x=>by rw[show P.w.h.get? b=some o from e] at x;cases x.1;exact no x.2.1 hd).trans e
 have vo:∀b,Ap P.w b\/fy.get? b=P.s.heap.get? b:=λb=>(Classical.em (b∈(fe::outer).filterMap (·.frame))).elim (λh=>(fr.2 b h).elim λZ x=>.inl x.2.2) λh=>.inr (hs.2.1 b h)
 have hc:∀b,b∈P.φ->fy.get? b=P.s.heap.get? b:=λb hb=>(vo b).elim (λh=>absurd hb h.1) id
 exact kq (P.soft (h':=fy) (λb o hb x=>(hc b hb).trans x) (λb o x=>(vo b).elim (λh=>bD h.2 x) λh=>h.trans (P.R.keep b o x)) (λb o x=>(hs.2.2 b o x).elim λsl y=>by
  cases hd:dX o with
  |true=>exact⟨_,y,λh=>no hd h,λZ=>⟨rfl,rfl⟩,λh=>no h (zT hd)⟩
  |false=>exact⟨o,ho b o x hd,.refl⟩) P.s.toks) hc
theorem EO{fe:Env}{outer:List Env}{L:Addr}{head:Value}{nx:Bool}{oe:Obj}{C:Addr}{vs:Array Value}(hA:P.A.frames=some (fe::outer))(hL:fe.frame=some L)(hl:P.H[l]?=some (.exc k))(ha:P.φ[l]?=some a)(e1:P.s.heap.get? a=some oe)(e2:X.exc[k]?=some C)(e3:oe.cls=.ref C)(e4:oe.data=.fields vs)(iu:1<vs.size)(kq:∀N:Nx P P.H,q8 N.w a->Q () N.s):
  wpAny X.M P.A (do let f <-PySem.frameOf fe;let pl <-entryPlaceOf L nx;let b <-EntryCells.newEntry head f .none (rawInt L) .none pl;setField (.ref a) 1 b) Q Ex P.s:=by
 refine wpAny_bind (Mm hA hL λN hN=>wpAny_bind (wpAny_entryPlaceOf λpl nh=>?_))
 unfold EntryCells.newEntry newFields
 refine wpAny_bind (wpAny_newObj_type ?_ (nh.sizeOk5 _ _ _ _ _))
 have hn:=gF N.h (le_refl _)
 have ap:=N.R.new (p:=N.w) hn
 exact Mj (P:=(N.pt.ext (.push _) N.tk).pt) hl (N.S.pre _ _ ha) (get?_push_of_some _ ((hN a (mem_of_getElem? ha)).trans e1)) e2 e3 e4 iu (get?_push_size _ rfl) (by
  refine Mh ?_
  rw[size_toArray,length_append]
  exact lt_of_lt_of_le (show 3<5 by decide) (le_add_right _ _)) ap.1 ap.2 λN2 h2=>kq (N.then ((N.pt.ext (.push _) N.tk).then N2)) h2
theorem Ai{env:Env}(hf:∃fe,(iI P.A).head?=some fe/\fe.frame=env.frame)(hl:P.H[l]?=some (.exc k))(ha:P.φ[l]?=some a)(kq:∀N:Nx P P.H,q8 N.w a->Q () N.s):wpAny X.M P.A (noteFrame (.ref a) env) Q Ex P.s:=by
 obtain⟨fe,outer,hA,_⟩:=P.rm.frames
 have rj:iI P.A=fe::outer:=by unfold iI;rw[hA];rfl
 obtain⟨WN,h1,h2⟩:=hf
 rw[rj] at h1
 cases h1
 rw[Ml h2]
 obtain⟨_,L,oL,hL,_⟩:=P.fr fe (rj▸.head _)
 refine P.R.at hl λb hb hc=>?_
 rw[ha] at hb;cases hb
 refine hc.inv _ λoe Ca vs e1 e2 e3 e4 e5=>?_
 unfold noteFrame
 simp only[hL]
 rcases e5 with e5|⟨T,oT,e5⟩
 ·refine wpAny_bind (wpAny_field e1 e4 e5 ?_)
  rw[if_neg (by decide)]
  exact EO hA hL hl ha e1 e2 e3 e4 (Array.getElem?_eq_some_iff.mp e5).1 kq
 ·refine wpAny_bind (wpAny_field e1 e4 e5.1 ?_)
  rw[if_pos (show(Value.ref T != Value.none)=true from rfl)]
  refine EL e5.2.2.1 λts f2 f3=>wpAny_bind (wpAny_field e5.2.1 f2 (Array.getElem?_eq_getElem f3) ?_)
  by_cases hz:(ts[3]==rawInt L)=true
  ·rw[if_pos hz]
   exact wpAny_pure (kq (P.fT P.s.toks) ⟨oe,vs,T,oT,e1,e4,e5⟩)
  ·rw[if_neg hz]
   refine wpAny_bind (EM e5.2.1 e5.2.2.1 e5.2.2.2.1 e5.2.2.2.2 λN hN=>?_)
   exact EO (P:=N.pt) hA hL hl (N.S.pre _ _ ha) ((hN a λe=>e5.2.2.2.1 (e▸mem_of_getElem? ha)).trans e1) e2 e3 e4 (Array.getElem?_eq_some_iff.mp e5.1).1 λN2 h2=>kq (N.then N2) h2
theorem Mn{env:Env}(hf:∃fe,(iI P.A).head?=some fe/\fe.frame=env.frame)(hl:P.H[l]?=some (.exc k))(ha:P.φ[l]?=some a)(kq:∀N:Nx P P.H,q8 N.w a->Q () N.s):wpAny X.M P.A (leaving env (.ref a)) Q Ex P.s:=
 wpAny_bind (Ai hf hl ha λN hN=>xP (P:=N.pt) hN (N.S.pre _ _ ha) λN2 h2=>kq (N.then N2) h2)
theorem Mo{env:Env}(hf:∃fe,(iI P.A).head?=some fe/\fe.frame=env.frame)(hl:P.H[l]?=some (.exc k))(ha:P.φ[l]?=some a)(kq:∀N:Nx P P.H,Ex (.ref a) N.s):notedBy X.M P.A env (λe s'=>cameBackBy X.M P.A env Ex e s') (.ref a) P.s:=
 Ai hf hl ha λN hN=>by
  obtain⟨oe,vs,T,oT,e1,e2,e3⟩:=id hN
  unfold cameBackBy
  refine wpAny_bind (wpAny_field e1 e2 e3.1 ?_)
  refine(?_:wpAny X.M P.A (if(Value.ref T==Value.none)=true then _ else setFlight (.ref a) env.frame) _ _ _)
  rw[if_neg (show ¬((Value.ref T==Value.none)=true) from Bool.false_ne_true)]
  exact xP (P:=N.pt) hN (N.S.pre _ _ ha) λN2 Z=>kq (N.then N2)
theorem Fp.back{σ:Lv}(P:Fp σ):qT P.own P.w P.s (xq σ.x) (notedBy X.M P.A P.env λe s'=>cameBackBy X.M P.A P.env P.Ex e s'):=λv H p φ h tk R S y r=>
 (isSome_iff_exists.mp p.1).elim λj ej=>cellAt.k ej (λv=>σ.x v H->aY ⟨φ,h⟩ v y->_) (λl c hl hc q r=>mW.k (λc=>H[l]?=some c->_) hc (λhl=>r.inv (λy=>notedBy X.M P.A P.env (λe s'=>cameBackBy X.M P.A P.env P.Ex e s') y (upd P.s h tk)) λa ha=>
  Mo (P:=⟨P.A,φ,H,upd P.s h tk,P.Ex,P.rm,R,P.fr.i5 S⟩) P.hf hl ha λN=>P.kx _ _ q N.φ N.h N.tk N.R (S.trans N.S.nil) _ (.ref (N.S.pre _ _ ha))) hl) p.2 r
end
section
variable{A:Around}{R:Result->Shared->Prop}{s:Shared}
theorem Mp{target:Expr}{it:Value}{body:List Stmt}{env:Env}{Ex:Value->Shared->Prop}(eE:Ex=notedBy X.M A env λe s'=>R (.error e) s')(I:Nat->Shared->Prop)
  (turn:∀n s,I n s->wpAny X.M A (pyNext it) (λr bU=>r=none/\R (.ok .next) bU) NE s\/wpAny X.M A (pyNext it) (λr bU=>aH r λv=>
    wpAny X.M A (letOwnedTupleGo target it v) (λZ bU=>wpAny X.M A (assign target env v) (λZ ey=>wpAny X.M A (execs body env) (λf lj=>match f with
     |.next | .cont=>∃m,m<n/\I m lj
     |.brk=>R (.ok .next) lj
     |.ret v=>R (.ok (.ret v)) lj) Ex ey) Ex bU) NE bU) NE s)
  (n:Nat) (h:I n s):codeAny X.M A (.forLoop target it body [] env) R s:=by
 subst eE
 refine codeAny_loop' rfl I (λn s hI=>?_) n h
 refine(?_:wpAny _ _ ((forTurn target it body [] env).onRaise (λx=>do noteFrame x env;theTreesLotGoes x)) _ _ s)
 refine wpAny_noted ?_
 refine wpAny_bind (wpAny_standAt (wpAny_bind (wpAny_onRaise ((turn n s hI).elim (λht=>wpAny_mono ht (λr bU fy=>?_) λZ Z h'=>h'.elim) λht=>wpAny_mono ht (λr bU fy=>?_) λZ Z h'=>h'.elim))))
 ·rw[fy.1];exact wpAny_pure (.inr ⟨rfl,codeAny_block (wpAny_execs_nil fy.2)⟩)
 ·refine aH.k fy λv e fy=>?_
  subst e
  refine wpAny_bind (wpAny_mono fy (λZ ey iw=>wpAny_bind (wpAny_mono iw (λZ ey iw=>wpAny_bind (wpAny_mono iw (λf lj ro=>?_) λZ Z h'=>h')) λZ Z h'=>h')) λZ Z h'=>h'.elim)
  cases f with
  |next=>exact wpAny_pure (.inl ⟨rfl,ro⟩)
  |cont=>exact wpAny_pure (.inl ⟨rfl,ro⟩)
  |brk=>exact wpAny_pure ro
  |ret v=>exact wpAny_pure ro
end
section
variable{σ:Lv}{tg:Expr}{io:Addr->Prop}{St:Nat->Heap->Prop}{ρ:aO}{H:Hp}
theorem Sx.ch{P:Fp σ}{h':Heap}(N:Sx P ρ H)(c:Ch io N.h h')(dG:∀a,io a->Ap N.w a)(lx:∀a,io a->P.s.heap.get? a=none)(tk:Nat):∃N':Sx P ρ H,N'.φ=N.φ/\N'.h=h'/\N'.tk=tk:=
 ⟨⟨N.φ,h',tk,N.R.ch (p:=N.w) dG c,N.F.ch (p:=N.w) c λa ha hi=>(P.F.live a ha).elim λo e=>bD (lx a hi) e,bK.ch (q:=N.w) N.S c λa hi=>.inl (lx a hi)⟩,rfl,rfl,rfl⟩
noncomputable abbrev Sx.xQ{P:Fp σ}{h':Heap}(N:Sx P ρ H)(R:SR ⟨N.φ,h'⟩ H)(S:bK io N.w ⟨N.φ,h'⟩)(lx:∀a,io a->P.s.heap.get? a=none)(tk:Nat):Sx P ρ H:=
 ⟨N.φ,h',tk,R,N.F.mono S λa ha hi=>(P.F.live a ha).elim λo e=>bD (lx a hi) e,bK.ow (own:=λa=>P.own a\/io a) ((N.S.ow λZ h=>.inl (.inl h)).trans (S.ow λZ h=>.inl (.inr h))) λa h=>h.imp id λhi=>lx a hi⟩
inductive EP(P:Fp σ)(dD:Ws)(H₀:Hp)(ws:List Nat)(vs:List V)(io:Addr->Prop)(St:Nat->Heap->Prop)(t:cX)(body:List S)(K:Out->Prop)(j:Nat)(s:Shared):Prop
 |mk (i:Nat) (ρ:aO) (H:Hp) (N:Sx P ρ H) (e:s=N.s) (ej:j=(vs.drop i).length+1) (kp:Kp dD N.w) (hw:eZ ws H₀ H=true) (st:St i N.h) (dG:∀a,io a->Ap N.w a) (p:mX ws H₀ t (λρ H K=>aN σ.c body ρ H K) (vs.drop i) ρ H K):EP P dD H₀ ws vs io St t body K j s
theorem drop_cons{α:Type}{l:List α}{i:Nat}{a:α}(h:l[i]?=some a):l.drop i=a::l.drop (i+1):=by
 have h:=List.getElem?_eq_some_iff.mp h
 rw[List.drop_eq_getElem_cons h.1,h.2]
theorem Mq{t:cX}{it:It}{iter:Expr}{body:List S}{bs:List Stmt}{pos:Pos}(hh:σ.f.hd=false)(ht:iG σ.f t tg=true)(vp:td it tg=true)(eD:jm σ it iter)(hb:nf (σ.ex (xq σ.x)) body bs):SS σ (.for t it body) (.For tg iter bs [] pos):=λP K Q ho p k=>by
 refine wpAny_For (eD.2 P tg _ _ vp p (λq H1 p1 N0 I io St ly tQ dG=>?_)) (eD.1 P.env)
 have lx:∀a,io a->P.s.heap.get? a=none:=λa ha=>(dG a ha).2
 have pO:∀{a:Addr} {G:Prop},io a->P.own a->G:=λha oq=>(P.F.live _ (ho.2 _ oq)).elim λo e=>bD (lx _ ha) e
 have k:=k.ex P.back
 refine Mp rfl (EP (P.ex _ _ P.back) N0.w H1 q.2 q.1 io St t body K) (λj s' w=>w.casesOn λi ρ H N e ej kp hw st rq p'=>?_) (q.1.length+1) ⟨0,P.ρ,H1,⟨N0.φ,N0.h,N0.tk,N0.R,P.F.mono N0.S λZ Z h=>h,N0.S.nil⟩,rfl,by rw[drop_zero],.refl,EC _ _,tQ,λa ha=>(dG a ha).1,by rw[drop_zero];exact p1⟩
 subst e ej
 cases hv:q.1[i]? with
 |none=>
  refine .inl (ly.done N.fp.no.toPt i _ (P.calm hh) kp hw st rq hv λh2 i6 c=>⟨rfl,?_⟩)
  rw[drop_eq_nil_iff.mpr (List.getElem?_eq_none_iff.mp hv)] at p'
  exact(N.ch c rq lx i6).elim λN' e=>by have:=k.next _ _ p' N';rw[show N'.s=upd P.s N'.h N'.tk from rfl,e.2.1,e.2.2] at this;exact this
 |some v=>
  have hd:=drop_cons hv
  rw[hd] at p'
  refine aH.k p' λvq ha p'=>?_
  refine .inr (ly.item N.fp.no.toPt i v _ (P.calm hh) kp hw st rq hv λh2 i6 y R2 S2 lz r2=>?_)
  exact tJ t tg (N.xQ R2 S2 lx i6).fp v y vq _ ht (λx hx=>ho.1 x (vj (σ:=σ) t tg ht x hx)) r2 ha λN3=>hb ((N.xQ R2 S2 lx i6).then N3).fp _ _ ho p' ⟨λMr H4 p4 N4=>by
    have hk:∀a,io a->∀o,h2.get? a=some o->N4.h.get? a=some o:=λa ha o e=>(ly.live _ _ lz a ha).elim λo' x=>by
     rw[show h2.get? a=some o' from x.1] at e;cases e
     exact N4.S.same (N3.S.same x.1 (rq a ha).1 (λh=>pO ha h) x.2.1 x.2.2) (N3.S.m8 x.1 (rq a ha).1) (λh=>pO ha h) x.2.1 x.2.2
    exact⟨(q.1.drop (i+1)).length+1,by rw[hd];exact lt_succ_self _,i+1,Mr,H4,((N.xQ R2 S2 lx i6).then N3).then N4,rfl,rfl,(kp.trans S2.kp).trans (N3.S.kp.trans N4.S.kp),p4.1,ly.keep _ _ _ lz hk,λa ha=>⟨(ly.live _ _ lz a ha).elim λo e=>(N3.S.trans N4.S).m8 e.1 (rq a ha).1,(rq a ha).2⟩,p4.2⟩,
    λv4 H4 p4 φ h tk R S x r=>k.ret v4 H4 p4 φ h tk R (((N.xQ R2 S2 lx i6).then N3).S.trans S) x r⟩
end
theorem Aj{env:Env}{G:Prop}:∀(names:List (Str×NameKind)) (aL:List (Str×Addr)),(∀p,p∈aL->env.cells.lookup p.1=some p.2)->(∀p,p∈names->p.2=.free->∃c,env.cells.lookup p.1=some c) ->
  (∀cl:List (Str×Addr),(forIn names aL λ(x:Str×NameKind) (cs:List (Str×Addr))=>if(x.2==NameKind.free)=true then(do let c <-cellOf env x.1;pure (ForInStep.yield ((x.1,c)::cs))) else pure (ForInStep.yield cs):Sem (List (Str×Addr)))=pure cl ->
   (∀p,p∈cl->env.cells.lookup p.1=some p.2)->(∀p,p∈aL->p∈cl)->(∀x,(x,NameKind.free)∈names->∃c,(x,c)∈cl)->G)->G
 |[],aL,h,_,k=>k aL rfl h (λZ h=>h) λZ h=>nomatch h
 |(x,j)::r,aL,h,hn,k=>by
  by_cases hk:(j==NameKind.free)=true
  ·obtain rfl:=eq_of_beq hk
   exact(hn (x,.free) (.head _) rfl).elim λc hc=>Aj r ((x,c)::aL) (λp hp=>(mem_cons.mp hp).elim (λe=>e▸hc) (h p)) (λp hp=>hn p (.tail _ hp)) λcl e h1 h2 h3=>k cl (by
    rw[forIn_cons,if_pos hk,show cellOf env (x,NameKind.free).1=pure c by unfold cellOf;rw[hc]]
    exact e) h1 (λp hp=>h2 p (.tail _ hp)) λy hy=>(mem_cons.mp hy).elim (λe=>⟨c,h2 _ (by rw[(Prod.mk.inj e).1];exact .head _)⟩) (h3 y)
  ·exact Aj r aL h (λp hp=>hn p (.tail _ hp)) λcl e h1 h2 h3=>k cl (by rw[forIn_cons,if_neg hk];exact e) h1 h2 λy hy=>(mem_cons.mp hy).elim (λe=>absurd (beq_iff_eq.mpr (Prod.mk.inj e).2.symm) hk) (h3 y)
theorem EQ{α:Type}{x:Str}{c:α}:∀{l:List (Str×α)},(x,c)∈l->∃d,l.lookup x=some d
 |(y,e)::r,h=>by
  rw[lookup_cons]
  cases hb:x==y with
  |true=>exact⟨_,rfl⟩
  |false=>exact(mem_cons.mp h).elim (λh=>by rw[(Prod.mk.inj h).1,beq_self_eq_true] at hb;cases hb) EQ
theorem ER{x:Str}{k:NameKind}:∀{l:List (Str×NameKind)},(l.map (·.1)).Nodup->(x,k)∈l->l.lookup x=some k
 |(y,j)::r,hn,h=>by
  rw[lookup_cons]
  have hn:=nodup_cons.mp hn
  cases hb:x==y with
  |true=>exact(mem_cons.mp h).elim (λe=>by rw[(Prod.mk.inj e).2]) λh=>absurd (mem_map.mpr ⟨(x,k),h,eq_of_beq hb⟩) hn.1
  |false=>exact(mem_cons.mp h).elim (λe=>by rw[(Prod.mk.inj e).1,beq_self_eq_true] at hb;cases hb) (ER hn.2)
noncomputable def vr(f:Sn)(loc:List Str)(x:Str):NameKind->Prop
 |.local=>x=(".0":Str)\/x∈loc
 |.cell=>False
 |.free=>x∈f.ns/\x∉loc/\om (f.sc.names.lookup x)
 |.globalImplicit=>True
 |.globalExplicit=>False
structure ni(f:Sn)(loc:List Str)(cs:Scope):Prop where
 kind:cs.kind=.function
 gen:cs.isGenerator=false/\cs.isCoroutine=false
 nodup:(cs.names.map (·.1)).Nodup
 all:∀p,p∈cs.names->vr f loc p.1 p.2
 Ms:∀x,x∈loc->cs.names.lookup x=some .local
 Mt:(".0":Str)∉f.ns
theorem xR{b:Bool}(h:(!b)=true):b=false:=by cases b<;>first|rfl|cases h
theorem rA{x:Str}{l:List Str}(h:(!l.contains x)=true):x∉l:=λhm=>by rw[contains_iff_mem.mpr hm] at h;cases h
theorem vr.of{f:Sn}{loc:List Str}{p:Str×NameKind}(h:(match p.2 with
  |.local=>p.1==(".0":Str)||loc.contains p.1
  |.cell=>false
  |.free=>f.ns.contains p.1&&(!loc.contains p.1&&zO (f.sc.names.lookup p.1))
  |.globalImplicit=>true
  |.globalExplicit=>false)=true):vr f loc p.1 p.2:=by
 cases p with
 |mk x k=>
  cases k with
  |«local»=>exact(or_eq_true_iff.mp h).imp eq_of_beq contains_iff_mem.mp
  |free=>exact aR h λa b=>aR b λb c=>⟨contains_iff_mem.mp a,rA b,c⟩
  |globalImplicit=>trivial
  |_=>cases h
theorem uY.sc{f:Sn}{cs:Scope}{loc:List Str}(h:uY f loc cs=true):ni f loc cs:=
 aR h λh1 h=>aR h λh2 h=>aR h λh3 h=>aR h λh4 h=>aR h λh5 h=>aR h λh6 h7=>
  ⟨of_decide_eq_true h1,⟨xR h2,xR h3⟩,of_decide_eq_true h4,λp hp=>vr.of (all_eq_true.mp h5 p hp),λx hx=>of_decide_eq_true (all_eq_true.mp h6 x hx),rA h7⟩
section
variable{σ:Lv}{cs:Scope}{ns loc:List Str}{env:Env}{h':Heap}{cl:List (Str×Addr)}{D:Addr}
theorem ES{x:Str}(G:Option NameKind->Option NameKind->Prop)(h1:∀k,G k k)(h2:G (some .free) (some .cell)):G (cs.names.lookup x) ((relabel cs env).names.lookup x):=by
 unfold relabel
 refine(?_:G (cs.names.lookup x) ((cs.names.map _).lookup x))
 induction cs.names with
 |nil=>exact h1 _
 |cons p r ih=>
  obtain⟨y,k⟩:=p
  rw[map_cons]
  refine(?_:G _ (((if(k==NameKind.free&&env.scope.kind==.function&&env.kindOf y==some .cell)=true then(y,NameKind.cell) else(y,k))::_).lookup x))
  by_cases hc:(k==NameKind.free&&env.scope.kind==.function&&env.kindOf y==some .cell)=true
  ·rw[if_pos hc,lookup_cons,lookup_cons]
   cases hx:x==y with
   |true=>exact aR hc λa Z=>aR a λa Z=>by rw[eq_of_beq a];exact h2
   |false=>exact ih
  ·rw[if_neg hc,lookup_cons,lookup_cons]
   cases hx:x==y with
   |true=>exact h1 _
   |false=>exact ih
theorem Mu:Kinds cs (compEnvC cs cl D env):=λx=>ES (env:=env) (λa b=>D8 a b) (λZ=>.inl rfl) (.inr ⟨rfl,rfl⟩)
theorem ET(P:Fp σ){x:Str}(h:om (σ.f.sc.names.lookup x)):om (P.env.kindOf x):=(P.kd x).elim (λe=>e▸h) λe=>e.2
theorem Mv{x:Str}{k:NameKind}(h:(relabel cs env).names.lookup x=some k):cs.names.lookup x=some k\/(k=.cell/\cs.names.lookup x=some .free):=
 ES (cs:=cs) (env:=env) (x:=x) (λa b=>b=some k->a=some k\/(k=.cell/\a=some .free)) (λZ h=>.inl h) (λh=>.inr ⟨(Option.some.inj h).symm,rfl⟩) h
theorem ni.nm{f:Sn}(c:ni f loc cs){x:Str}{k:NameKind}(h:cs.names.lookup x=some k):vr f loc x k:=c.all _ (mem_lookup h)
theorem ni.fc{env':Env}(P:Fp σ)(hk:env'.scope.kind=.function)(hg:env'.scope.isGenerator=false/\env'.scope.isCoroutine=false)(h1:env'.globals=mainGlobals)(h2:env'.builtins=builtinsNs)(iy:∀p,p∈env'.cells->P.env.cells.lookup p.1=some p.2)(hC:P.s.heap.get? env'.locals=none):Fc env':=
 ⟨hk,h1,h2,⟨hg.1,hg.2,by unfold interactive;rw[hk];rfl⟩,
  λx y c h1 h2=>P.F.fc.apart x y c (iy _ (mem_lookup h1)) (iy _ (mem_lookup h2)),λq hq e=>(P.F.live _ (tx (iy q hq))).elim λo e'=>bD (e▸hC) e'⟩
theorem EU{x:Str}{ρl ρ:aO}(hl:ρl.length=loc.length)(hx:x∈loc):lk (loc++ns) (ρl++ρ) x=lk loc ρl x:=by
 unfold lk
 rw[List.idxOf_append,if_pos hx,getElem?_append_left (by rw[hl];exact List.idxOf_lt_length_of_mem hx)]
theorem EV{x:Str}{ρl ρ:aO}(hl:ρl.length=loc.length)(hx:x∉loc):lk (loc++ns) (ρl++ρ) x=lk ns ρ x:=by
 unfold lk
 rw[List.idxOf_append,if_neg hx,getElem?_append_right (by rw[hl];exact le_add_left _ _),hl,Nat.add_sub_cancel]
theorem Ak{x:Str}:lk loc (replicate loc.length none) x=none:=by
 unfold lk
 rw[List.getElem?_replicate]
 split<;>rfl
theorem ni.fr{env':Env}{ρl:aO}{m:Str->Option Value}(c:ni σ.f loc cs)(P:Fp σ)(fc:Fc env')(hk:∀x k,env'.kindOf x=some k->cs.names.lookup x=some k\/(k=.cell/\cs.names.lookup x=some .free))(iy:∀p,p∈env'.cells->P.env.cells.lookup p.1=some p.2)(vt:∀x,(x,NameKind.free)∈cs.names->∃c,(x,c)∈env'.cells)(hC:P.s.heap.get? env'.locals=none)(e:aA P.s.heap h')(hn:h'.Ns env'.locals m)
  (hl:ρl.length=loc.length) (hm:∀x,x∈loc->ir ⟨P.φ,h'⟩ (lk loc ρl x) (m x)):FR env' (loc++σ.f.ns) (ρl++P.ρ) ⟨P.φ,h'⟩:=
 ⟨fc,by rw[length_append,length_append,hl,P.F.len],
  ⟨_,hn,λx hx h=>(hk x _ h).elim (λh=>(Classical.em (x∈loc)).elim (λhx=>by rw[EU hl hx];exact hm x hx) λnj=>((c.nm h).elim (λe=>absurd (e▸(mem_append.mp hx).resolve_left nj) c.Mt) λhl=>absurd hl nj)) λh=>nomatch h.1⟩,
  λx hx h=>by
   have hf:cs.names.lookup x=some .free:=by
    cases ek:env'.kindOf x with
    |none=>rw[ek] at h;cases h
    |some k=>
     rw[ek] at h
     exact(hk x k ek).elim (λe=>by
      cases k with
      |free=>exact e
      |cell=>exact(c.nm e).elim
      |_=>cases h) λe=>e.2
   have q:=c.nm hf
   exact(vt x (mem_lookup hf)).elim λd hd=>(EQ hd).elim λd hd=>(P.F.qS x q.1 (ET P q.2.2)).elim λc1 w=>w.elim λv w=>by
    have:=iy _ (mem_lookup hd)
    rw[show P.env.cells.lookup x=some d from this] at w
    cases w.1
    exact⟨d,v,hd,zV w.2.1 (e _),by rw[EV hl q.2.1];exact w.2.2.kp (P.toPt.ext e 0).S.kp⟩,
  λa ha=>ha.elim (λea=>(by rw[ea];exact P.R.new (p:=P.w) hC)) λw=>w.elim λy hy=>P.F.ap _ (tx (iy _ (mem_lookup hy))),
  λa ha=>ha.elim (λea=>by rw[ea];exact hn.imp λo w=>w.elim λZ w=>w.elim λZ w=>w.1) λw=>w.elim λy hy=>(P.F.live _ (tx (iy _ (mem_lookup hy)))).imp λo x=>e _ _ x⟩
theorem ni.frame(c:ni σ.f loc cs)(P:Fp σ)(iy:∀p,p∈cl->P.env.cells.lookup p.1=some p.2)(vt:∀x,(x,NameKind.free)∈cs.names->∃c,(x,c)∈cl)(hC:P.s.heap.get? D=none)(e:aA P.s.heap h')(hn:h'.Ns D (λZ=>none)):FR (compEnvC cs cl D P.env) (loc++σ.f.ns) (replicate loc.length none++P.ρ) ⟨P.φ,h'⟩:=
 c.fr P (ni.fc P c.kind c.gen P.F.fc.glob P.F.fc.blt iy hC) (λx k h=>Mv (cs:=cs) (env:=P.env) h) iy vt hC e hn List.length_replicate λx hx=>by rw[Ak];exact .none
end
section
variable{A:Around}{R:Result->Shared->Prop}{s:Shared}
theorem Mw{elt target iter:Expr}{ifs:List Expr}{scope:Scope}{pos:Pos}{it aL:Value}{env:Env}(I:Nat->Shared->Prop)
  (turn:∀n s,I n s->wpAny X.M A (pyNext it) (λr bU=>r=none/\R (.ok .next) bU) NE s\/wpAny X.M A (pyNext it) (λr bU=>aH r λv=>
    wpAny X.M A (letOwnedTupleGo target it v) (λZ Al=>wpAny X.M A (assign target env v) (λZ ey=>
     wpAny X.M A (forIn ifs true λc r=>if r=true then do let ok <-isTrue c env (eval c env);pure (ForInStep.yield ok) else pure (ForInStep.yield r)) (λok lj=>
      bB ok (wpAny X.M A (eval elt env) (λx EW=>wpAny X.M A (call (.builtin "list.append") [aL,x]) (λZ EX=>∃m,m<n/\I m EX) NE EW) NE lj) (∃m,m<n/\I m lj)) NE ey) NE Al) NE bU) NE s)
  (n:Nat) (h:I n s):codeAny X.M A (.compLoop (.ListComp elt [⟨target,iter,ifs,0⟩] scope pos) 0 it aL env) R s:=by
 refine codeAny_loop rfl I (λn s hI=>?_) n h
 refine(?_:wpAny _ A ((compTurn (.ListComp elt [⟨target,iter,ifs,0⟩] scope pos) 0 it aL env).onRaise (λx=>do noteFrame x env;theTreesLotGoes x)) _ _ s)
 refine wpAny_noted ?_
 rw[compTurn_list]
 refine wpAny_bind (wpAny_standAt (wpAny_bind ((turn n s hI).elim (λht=>wpAny_mono ht (λr bU fy=>?_) λZ Z h'=>h'.elim) λht=>wpAny_mono ht (λr bU fy=>?_) λZ Z h'=>h'.elim)))
 ·rw[fy.1];exact wpAny_pure fy.2
 ·refine aH.k fy λv e fy=>?_
  subst e
  refine wpAny_bind (wpAny_mono fy (λZ Al dC=>wpAny_bind (wpAny_mono dC (λZ ey iw=>wpAny_bind (wpAny_mono iw (λok lj ro=>?_) λZ Z h'=>h'.elim)) λZ Z h'=>h'.elim)) λZ Z h'=>h'.elim)
  cases ok with
  |false=>exact wpAny_pure ⟨rfl,ro⟩
  |true=>exact wpAny_bind (wpAny_bind (wpAny_mono ro (λx EW Mx=>wpAny_bind (wpAny_mono Mx (λZ EX My=>wpAny_pure (wpAny_pure ⟨rfl,My⟩)) λZ Z h'=>h'.elim)) λZ Z h'=>h'.elim))
end
section
variable{σ:Lv}{io own:Addr->Prop}{St:Nat->Heap->Prop}{dD:Ws}{D:Addr}{i:Nat}{aL:List V}{ρ b9:aO}{H H':Hp}
structure Cx(P₀:Pt)(P:Fp σ.no)(D:Addr)(io:Addr->Prop)(St:Nat->Heap->Prop)(i:Nat)(aL:List V)(ρ:aO)(H:Hp)where
 φ:List Addr
 h:Heap
 tk:Nat
 ys:List Value
 k:Nat
 R:SR ⟨φ,h⟩ H
 F:FR P.env σ.f.ns ρ ⟨φ,h⟩
 fr:k8 P.A ⟨φ,h⟩
 S:bK gm P₀.w ⟨φ,h⟩
 kp:Kp P.w ⟨φ,h⟩
 st:St i h
 dG:∀a,io a->Ap ⟨φ,h⟩ a
 aD:Ap ⟨φ,h⟩ D
 hD:h.get? D=some (gP ys k)
 ra:ba ⟨φ,h⟩ aL ys
structure Cn(P₀:Pt)(P:Fp σ.no)(D:Addr)(io:Addr->Prop):Prop where
 new:∀a,a=P.env.locals\/a=D\/io a->P₀.s.heap.get? a=none
 ne:∀a,ku P.env a->a≠D/\¬io a
 D:¬io D
variable{P₀:Pt}{P:Fp σ.no}
noncomputable abbrev Cx.w(c:Cx P₀ P D io St i aL ρ H):Ws:=⟨c.φ,c.h⟩
noncomputable abbrev Cx.s(c:Cx P₀ P D io St i aL ρ H):Shared:=upd P.s c.h c.tk
noncomputable abbrev Cx.fp(c:Cx P₀ P D io St i aL ρ H):Fp σ.no:=⟨⟨P.A,c.φ,H,c.s,NE,P.rm,c.R,c.fr⟩,P.env,ρ,(·=P.env.locals),P.kd,c.F,P.rn,P.hf,P.calm,λZ Z h=>h.elim⟩
theorem bK.vu{p q r:Ws}(S:bK gm p q)(T:bK own q r)(h:∀a,own a->p.h.get? a=none):bK gm p r:=bK.ow (S.nil.trans T) λa ha=>.inr (h a ha)
noncomputable abbrev Cx.step(c:Cx P₀ P D io St i aL ρ H)(z:Cn P₀ P D io)(it:∀i h h',St i h->(∀a,io a->∀o,h.get? a=some o->h'.get? a=some o)->St i h')(lv:∀i h,St i h->∀a,io a->∃o,h.get? a=some o/\dX o=false/\fJ o=false)(N:Sx c.fp b9 H'):Cx P₀ P D io St i aL b9 H':=
 have hl:∀{a},ku P.env a->a=D\/io a->False:=λha h=>h.elim (z.ne _ ha).1 (z.ne _ ha).2
 {φ:=N.φ,h:=N.h,tk:=N.tk,ys:=c.ys,k:=c.k,R:=N.R,F:=N.F,fr:=c.fr.i5 N.S,S:=c.S.vu N.S λa ha=>z.new a (.inl ha),kp:=c.kp.trans N.S.kp
  st:=it _ _ _ c.st λa ha o e=>(lv _ _ c.st a ha).elim λo' x=>by rw[x.1] at e;cases e;exact N.S.same x.1 (c.dG a ha).1 (λho=>(hl (.inl ho) (.inr ha)).elim) x.2.1 x.2.2
  dG:=λa ha=>⟨(lv _ _ c.st a ha).elim λo e=>N.S.m8 e.1 (c.dG a ha).1,(c.dG a ha).2⟩
  aD:=⟨N.S.m8 c.hD c.aD.1,c.aD.2⟩
  hD:=N.S.same c.hD c.aD.1 (λho=>(hl (.inl ho) (.inl rfl)).elim) rfl rfl
  ra:=c.ra.mono N.S}
noncomputable abbrev Cx.item{h':Heap}(c:Cx P₀ P D io St i aL ρ H)(z:Cn P₀ P D io)(R:SR ⟨c.φ,h'⟩ H)(S:bK io c.w ⟨c.φ,h'⟩)(st:St (i+1) h')(tk:Nat):Cx P₀ P D io St (i+1) aL ρ H:=
 {φ:=c.φ,h:=h',tk:=tk,ys:=c.ys,k:=c.k,R:=R,F:=c.F.mono S λa ha=>(z.ne a ha).2,fr:=c.fr.i5 S,S:=c.S.vu S λa ha=>z.new a (.inr (.inr ha)),kp:=c.kp.trans S.kp,st:=st,dG:=c.dG,aD:=c.aD,hD:=S.same c.hD c.aD.1 (λho=>absurd ho z.D) rfl rfl,ra:=c.ra.mono S}
noncomputable abbrev Cx.aU{h':Heap}{v:V}{x:Value}{k:Nat}(c:Cx P₀ P D io St i aL ρ H)(z:Cn P₀ P D io)(it:∀i h h',St i h->(∀a,io a->∀o,h.get? a=some o->h'.get? a=some o)->St i h')(r:aY c.w v x)(hD:h'.get? D=some (gP (c.ys++[x]) k))(e:ExtBut D c.h h')(tk:Nat):Cx P₀ P D io St i (aL++[v]) ρ H:=
 have hc:Ch (·=D) c.h h':=.but e λo e'=>by rw[c.hD] at e';cases e';exact mZ rfl rfl
 {φ:=c.φ,h:=h',tk:=tk,ys:=c.ys++[x],k:=k,R:=c.R.ch (p:=c.w) (io:=(·=D)) (λa ha=>ha▸c.aD) hc,F:=c.F.ch (p:=c.w) hc λa ha e=>(z.ne a ha).1 e,fr:=c.fr.i5 (bK.ch (own:=(·=D)) (io:=(·=D)) (q:=c.w) .refl hc λb hb=>.inr ⟨hb,gP (c.ys++[x]) k,by rw[hb];exact hD,λo1 x hd=>by rw[hb,show c.w.h.get? D=_ from c.hD] at x;cases x;exact Bool.noConfusion hd⟩),S:=bK.ch (q:=c.w) c.S hc λa ha=>.inl (z.new a (.inr (.inl ha))),kp:=c.kp.trans hc.kp
  st:=it _ _ _ c.st λa ha o e'=>e a o (λe=>z.D (e▸ha)) e',dG:=c.dG,aD:=c.aD,hD:=hD,ra:=(c.ra.append (.one r)).kp hc.kp}
theorem Mz{v:V}{x:Value}{Q:Value->Shared->Prop}(c:Cx P₀ P D io St i aL ρ H)(z:Cn P₀ P D io)(it:∀i h h',St i h->(∀a,io a->∀o,h.get? a=some o->h'.get? a=some o)->St i h')(r:aY c.w v x)(hz:aL.length<=sizeLine)(k:∀c':Cx P₀ P D io St i (aL++[v]) ρ H,Q .none c'.s):wpAny X.M P.A (call (.builtin "list.append") [.ref D,x]) Q NE c.s:=
 wpAny_list_append_plain (items:=c.ys.toArray) ⟨c.k,c.hD⟩ (λh6 MA MB=>MA.elim λk6 MC=>k (c.aU z it r (k:=k6) (by rw[MC,List.push_toArray]) MB.extBut c.tk)) (by rw[size_toArray,<-c.ra.length];exact hz)
inductive EY(P₀:Pt)(P:Fp σ.no)(H₀:Hp)(ws:List Nat)(us:List V)(QQ:List V->Hp->Prop)(D:Addr)(io:Addr->Prop)(St:Nat->Heap->Prop)(t:cX)(cs:List E)(elt:E)(j:Nat)(s':Shared):Prop
 |mk (i:Nat) (ρ:aO) (H:Hp) (aL:List V) (c:Cx P₀ P D io St i aL ρ H) (e:s'=c.s) (ej:j=(us.drop i).length+1) (hw:eZ ws H₀ H=true) (dY:aL.length+(us.drop i).length<=us.length) (p:ip ws H₀ t (λρ H Q=>WT σ.no.c cs ρ H Q) (λρ H Q=>WE σ.no.c elt ρ H Q) (us.drop i) ρ H aL QQ):EY P₀ P H₀ ws us QQ D io St t cs elt j s'
theorem MD{elt:E}{t:cX}{cs:List E}{e tg iter:Expr}{ifs:List Expr}{sc':Scope}{pos:Pos}{H₀:Hp}{ws:List Nat}{us:List V}{QQ:List V->Hp->Prop}{I:Addr}{RR:Result->Shared->Prop}(z:Cn P₀ P D io)
  (hh:P.A.handled=none) (pO:qX P.env (·=P.env.locals) (gO t tg)) (ht:iG σ.f t tg=true) (ME:b8 σ.no elt e) (MF:eA σ.no cs ifs) (it:kA tg P.w H₀ ws us I io St) (c0:Cx P₀ P D io St 0 [] P.ρ P.H) (e0:c0.s=P.s) (hw:eZ ws H₀ P.H=true) (eU:us.length<16000000)
  (p:ip ws H₀ t (λρ H Q=>WT σ.no.c cs ρ H Q) (λρ H Q=>WE σ.no.c elt ρ H Q) us P.ρ P.H [] QQ)
  (fin:∀vs H φ h tk ρ ys k,QQ vs H->vs.length<16000000->SR ⟨φ,h⟩ H->bK gm P₀.w ⟨φ,h⟩->FR P.env σ.f.ns ρ ⟨φ,h⟩->h.get? D=some (gP ys k)->ba ⟨φ,h⟩ vs ys->D∉φ->RR (.ok .next) (upd P.s h tk)) :
  codeAny X.M P.A (.compLoop (.ListComp e [⟨tg,iter,ifs,0⟩] sc' pos) 0 (.ref I) (.ref D) P.env) RR P.s:=by
 refine Mw (EY P₀ P H₀ ws us QQ D io St t cs elt) (λj s' w=>w.casesOn λi ρ H aL c e ej hw dY p'=>?_) (us.length+1) ⟨0,P.ρ,P.H,[],c0,e0.symm,by rw[drop_zero],hw,by rw[drop_zero];exact le_of_eq (zero_add _),by rw[drop_zero];exact p⟩
 subst e ej
 cases hv:us[i]? with
 |none=>
  refine .inl (it.done c.fp.toPt i _ hh c.kp hw c.st c.dG hv λh2 i6 ch=>⟨rfl,?_⟩)
  rw[drop_eq_nil_iff.mpr (List.getElem?_eq_none_iff.mp hv)] at p' dY
  exact fin aL H c.φ h2 i6 ρ c.ys c.k p' (lt_of_le_of_lt dY eU) (c.R.ch (p:=c.w) c.dG ch) (bK.ch (q:=c.w) c.S ch λa ha=>.inl (z.new a (.inr (.inr ha)))) (c.F.ch (p:=c.w) ch λa ha=>(z.ne a ha).2) (ch _ _ c.hD λho=>absurd ho z.D) (c.ra.kp ch.kp) c.aD.1
 |some v=>
  have hd:=drop_cons hv
  rw[hd] at p' dY
  refine aH.k p' λvq ha p'=>?_
  refine .inr (it.item c.fp.toPt i v _ hh c.kp hw c.st c.dG hv λh2 i6 y R2 S2 lz r2=>?_)
  refine tJ t tg (c.item z R2 S2 lz i6).fp v y vq _ ht pO r2 ha λN3=>?_
  have lt:(us.drop (i+1)).length+1<(us.drop i).length+1:=by rw[hd];exact lt_succ_self _
  exact MF.xG ((c.item z R2 S2 lz i6).step z it.keep it.live N3).fp _ _ p' (λb H4 p4 N4=>by
   cases b with
   |false=>exact⟨_,lt,i+1,vq,H4,aL,((c.item z R2 S2 lz i6).step z it.keep it.live N3).step z it.keep it.live N4.sx,rfl,rfl,p4.1,le_of_succ_le dY,p4.2⟩
   |true=>
    refine ME (((c.item z R2 S2 lz i6).step z it.keep it.live N3).step z it.keep it.live N4.sx).fp _ _ p4 (λy5 H5 p5 N5 x5 r5=>?_)
    exact Mz ((((c.item z R2 S2 lz i6).step z it.keep it.live N3).step z it.keep it.live N4.sx).step z it.keep it.live N5.sx) z it.keep r5 (le_trans (le_of_lt (lt_of_le_of_lt (le_trans (le_add_right _ _) dY) eU)) (by decide)) λc'=>⟨_,lt,i+1,vq,H5,aL++[y5],c',rfl,rfl,p5.1,by rw[length_append,add_assoc,add_comm [y5].length];exact dY,p5.2⟩)
end
section
variable{σ:Lv}{c9:Scope}{loc:List Str}{elt:E}{t:cX}{it:It}{cs:List E}{e tg iter:Expr}{ifs:List Expr}
structure vv(σ:Lv)(c9:Scope)(loc:List Str)(elt:E)(t:cX)(it:It)(cs:List E)(e tg iter:Expr)(ifs:List Expr):Prop where
 hh:σ.f.hd=false
 c:ni σ.f loc c9
 hl:gO t tg=loc
 ht:iG ⟨c9,loc++σ.f.ns,false⟩ t tg=true
 hg:td it tg=true
 hi:jm σ it iter
 he:b8 ⟨σ.n,σ.m,⟨c9,loc++σ.f.ns,false⟩,λZ Z=>False⟩ elt e
 hs:eA ⟨σ.n,σ.m,⟨c9,loc++σ.f.ns,false⟩,λZ Z=>False⟩ cs ifs
theorem MG{pos:Pos}{QQ:List V->Hp->Prop}{H1:Hp}{q:List V×List Nat}{I D B:Addr}{io:Addr->Prop}{St:Nat->Heap->Prop}{iw:Heap}{cl:List (Str×Addr)}{RR:Result->Shared->Prop}(k:vv σ c9 loc elt t it cs e tg iter ifs)(P:Fp σ)(N:Nx P.toPt H1)
  (iy:∀p,p∈cl->P.env.cells.lookup p.1=some p.2) (vt:∀x,(x,NameKind.free)∈c9.names->∃c,(x,c)∈cl) (ly:kA tg N.w H1 q.2 q.1 I io St) (tQ:St 0 N.h) (dG:∀a,io a->Ap N.w a/\P.s.heap.get? a=none)
  (hD:N.h.get? D=none) (hB:N.h.get? B=none) (pP:B≠D) (old:aA N.h iw) (gD:iw.get? D=some (gP [] 0)) (jQ:iw.Ns B λZ=>none) (hz:mi q.1=true)
  (p1:ip q.2 H1 t (λρ H Q=>WT σ.c.no cs ρ H Q) (λρ H Q=>WE σ.c.no elt ρ H Q) q.1 (replicate loc.length none++P.ρ) H1 [] QQ)
  (fin:∀vs H φ h tk ys j m,QQ vs H->vs.length<16000000->SR ⟨φ,h⟩ H->bK gm P.w ⟨φ,h⟩->h.get? D=some (gP ys j)->ba ⟨φ,h⟩ vs ys->D∉φ->Ap ⟨φ,h⟩ B->h.Ns B m->RR (.ok .next) (upd P.s h tk)) :
  codeAny X.M P.A (.compStart (.ListComp e [⟨tg,iter,ifs,0⟩] c9 pos) 0 (.ref I) (.ref D) (compEnvC c9 cl B P.env)) RR (upd P.s iw N.tk):=by
 have lv:∀{a},io a->N.h.get? a=none->False:=λha hn=>(ly.live _ _ tQ _ ha).elim λo e=>bD hn e.1
 have lz:=ly.keep _ _ _ tQ λa Z o e=>old a o e
 have F:=k.c.frame (cl:=cl) (P.to N) iy vt hB old jQ
 have S:bK gm P.w ⟨N.φ,iw⟩:=bK.ext (q:=N.w) N.S old
 have R:=SR.ext (p:=N.w) N.R old
 have aD:Ap ⟨N.φ,iw⟩ D:=N.R.new (p:=N.w) hD
 have loop:=MD (iter:=iter) (sc':=c9) (pos:=pos) (P₀:=P.toPt) (σ:=⟨σ.n,σ.m,⟨c9,loc++σ.f.ns,false⟩,λZ Z=>False⟩) (P:=⟨⟨P.A,N.φ,H1,upd P.s iw N.tk,NE,P.rm,R,P.fr.i5 S⟩,compEnvC c9 cl B P.env,replicate loc.length none++P.ρ,(·=B),Mu,F,P.rn,P.hf,λZ=>P.calm k.hh,λZ Z h=>h.elim⟩) (D:=D) (RR:=RR)
  ⟨λa ha=>ha.elim (λe=>N.S.dead (e▸hB)) λha=>ha.elim (λe=>N.S.dead (e▸hD)) λha=>(dG a ha).2,λa ha=>ha.elim (λe=>⟨λe'=>pP (e.symm.trans e'),λh=>lv h (e▸hB)⟩) λw=>w.elim λy hy=>(P.F.live _ (tx (iy _ (mem_lookup hy)))).elim λo x=>⟨λe=>bD (N.S.dead (e▸hD)) x,λh=>bD (dG _ h).2 x⟩,λh=>lv h hD⟩
  (P.calm k.hh) (λx hx=>.inl ⟨lookup_relabel_local (k.c.Ms x (k.hl▸hx)),rfl⟩) k.ht k.he k.hs (ly.from (bK.ext (own:=gm) (p:=N.w) (q:=N.w) .refl old).kp) ⟨N.φ,iw,N.tk,[],0,R,F,P.fr.i5 S,S,.refl,lz,λa ha=>(dG a ha).1,aD,gD,.nil⟩ rfl (EC _ _) (of_decide_eq_true hz) p1
  λvs H φ h tk ρ ys j q hl R S F hD r hn=>F.loc.elim λm hm=>fin vs H φ h tk ys j m q hl R S hD r hn (F.ap _ (.inl rfl)) hm.1
 exact codeAny_compStart_list loop (ly.self P.A _ _ _ lz loop)
theorem EZ{pos p0:Pos}{use:Option (Value->Sem Unit)}{Q:Value->Shared->Prop}{QQ:List V->Hp->Prop}(k:vv σ c9 loc elt t it cs e tg iter ifs)(P:Fp σ)
  (p:oi σ.c it P.ρ P.H λp H=>fu (mi p.1) (ip p.2 H t (λρ H Q=>WT σ.c.no cs ρ H Q) (λρ H Q=>WE σ.c.no elt ρ H Q) p.1 (replicate loc.length none++P.ρ) H [] QQ))
  (fin:∀vs H φ h tk D B ys j m,QQ vs H->vs.length<16000000->SR ⟨φ,h⟩ H->bK gm P.w ⟨φ,h⟩->h.get? D=some (gP ys j)->ba ⟨φ,h⟩ vs ys->D∉φ->P.s.heap.get? D=none->Ap ⟨φ,h⟩ B->P.s.heap.get? B=none->B≠D->h.Ns B m->compPost X.M P.A P.Ex use Q (.ref D) B (.ok .next) (upd P.s h tk)) :
  wpAny X.M P.A (comprehension (.ListComp e [⟨tg,iter,ifs,0⟩] c9 pos) c9 P.env p0 (newList []) false (eval iter P.env) use) Q P.Ex P.s:=by
 refine Aj (env:=P.env) c9.names [] (λZ h=>nomatch h) (λq hq hk=>?_) λcl iy MH Z MI=>?_
 ·have:=k.c.all q hq
  rw[hk] at this
  exact(P.F.qS _ this.1 (ET P this.2.2)).imp λc w=>w.elim λZ w=>w.1
 refine wpAny_comprehension_free (cl:=cl) rfl (k.hi.1 P.env) (by unfold closureFor;rw[bind_pure];exact iy) k.c.kind (λx hx hl=>ER k.c.nodup (by rw[<-hl];exact hx)) (k.hi.2 P tg _ _ k.hg p (λq H1 p1 N I io St ly tQ dG=>fu.k p1 λhz p1=>?_))
 refine wpAny_newObj_type (wpAny_newFunctionEnv (λx hx hk=>by have:=k.c.all x hx;rw[hk] at this;exact this) (λy hy=>nomatch hy) (λiw jQ Am=>?_) k.c.kind)
 have sz:(N.h.push {cls:=.type "list",data:=.seq #[]}).objs.size=N.h.objs.size+1:=Heap.size_push _ _
 have old2:aA (N.h.push {cls:=.type "list",data:=.seq #[]}) iw:=λa o e=>Am.extBut a o (ne_of_lt (lt_size e)) (get?_push_of_some _ e)
 have hD:=gF N.h (le_refl N.h.objs.size)
 have hB:N.h.get? (N.h.push {cls:=.type "list",data:=.seq #[]}).objs.size=none:=gF N.h (by rw[sz];exact le_succ _)
 have pP:(N.h.push {cls:=.type "list",data:=.seq #[]}).objs.size≠N.h.objs.size:=by rw[sz];exact Nat.succ_ne_self _
 exact MG (D:=N.h.objs.size) k P N MH MI ly tQ dG hD hB pP (λa o e=>old2 a o (get?_push_of_some _ e)) (old2 _ _ (get?_push_size _ rfl)) jQ hz p1 λvs H φ h tk ys j m q hl R S hg r hn aB hm=>fin vs H φ h tk _ _ ys j m q hl R S hg r hn (N.S.dead hD) aB (N.S.dead hB) pP hm
noncomputable abbrev Pt.An{P:Pt}{H:Hp}{φ:List Addr}{h:Heap}{D:Addr}{ys:List Value}{j:Nat}{vs:List V}(R:SR ⟨φ,h⟩ H)(S:bK gm P.w ⟨φ,h⟩)(hg:h.get? D=some (gP ys j))(r:ba ⟨φ,h⟩ vs ys)(hn:D∉φ)(hD:P.s.heap.get? D=none)(hl:vs.length<16000000)(tk:Nat):Nx P (H++[.list vs]):=
 ⟨φ++[D],h,tk,SR.adopt (p:=⟨φ,h⟩) R ⟨hn,(P.R.new (p:=P.w) hD).2⟩ (λo x=>by rw[hg] at x;cases x;exact mZ rfl rfl) (.list hg r (le_of_lt hl)),bK.adopt (q:=⟨φ,h⟩) S hD⟩
theorem xT{H:Hp}{φ:List Addr}{h:Heap}{D:Addr}(R:SR ⟨φ,h⟩ H):aY ⟨φ++[D],h⟩ (.ref H.length) (.ref D):=.ref (by rw[<-R.len,getElem?_append_right (le_refl _),sub_self];rfl)
theorem E0{h h':Heap}{B:Addr}{m:Str->Option Value}(hm:h.Ns B m)(e:SameBut B h h'):Ch (·=B) h h':=.but e.extBut λo x=>hm.elim λo' w=>w.elim λZ w=>w.elim λZ w=>by rw[w.1] at x;cases x;exact u5 w.2.1
theorem E3{pos:Pos}(k:vv σ c9 loc elt t it cs e tg iter ifs):b8 σ (.comp loc.length elt t it cs) (.ListComp e [⟨tg,iter,ifs,0⟩] c9 pos):=λP post Q p kq=>by
 rw[eval_ListComp]
 exact EZ k P p λvs H φ h tk D B ys j m q hl R S hg r hn hD aB hB pP hm=>⟨m,hm,λh3 MJ=>
  have c:Ch (·=B) h h3:=E0 hm MJ
  have R3:=SR.ch (p:=⟨φ,h⟩) (io:=(·=B)) R (λa ha=>ha▸aB) c
  kq _ _ q (Pt.An R3 (bK.ch (q:=⟨φ,h⟩) S c λa ha=>.inl (ha▸hB)) (c _ _ hg λe=>absurd e.symm pP) (r.kp c.kp) hn hD hl tk) _ (xT R3)⟩
theorem MK{u:cX}{y:Str}{py cpos pos:Pos}(k:vv σ c9 loc elt t it cs e tg iter ifs)(hu:iG σ.f u (.Name y py)=true):SS σ (.aS u (.comp loc.length elt t it cs)) (.Assign [.Name y py] (.ListComp e [⟨tg,iter,ifs,0⟩] c9 cpos) pos):=λP K Q ho p kq=>by
 have tL:∃b,swapsWith (.ListComp e [⟨tg,iter,ifs,0⟩] c9 cpos) (some (.Name y py)) pos.line P.env=pure b:=⟨_,rfl⟩
 obtain⟨b,tL⟩:=tL
 cases b with
 |false=>exact Et tL hu rfl (E3 k) ho p kq
 |true=>
  rw[exec_Assign_Name_used _ _ _ _ tL]
  refine wpAny_bind (wpAny_standAt (wpAny_bind ?_))
  refine(?_:wpAny _ P.A (do let _ <-comprehension (.ListComp e [⟨tg,iter,ifs,0⟩] c9 cpos) c9 P.env _ (newList []) false (eval iter P.env) (some (assign (.Name y py) P.env))) _ _ P.s)
  refine wpAny_bind (wpAny_mono (Q:=λZ s'=>Q .next s') ?_ (λZ s' hq=>wpAny_pure (wpAny_pure hq)) λZ Z e=>e)
  exact EZ k P p λvs H φ h tk D B ys j m q hl R S hg r hn hD aB hB pP hm=>aH.k q λb9 ha q=>by
   refine tJ u (.Name y py) (P.to (Pt.An R S hg r hn hD hl tk)) (.ref H.length) (.ref D) b9 _ hu (λx hx=>ho.1 x (vj u _ hu x hx)) (xT R) ha λN=>?_
   have aB':B∉φ++[D]:=λhm=>(mem_append.mp hm).elim aB.1 λh=>pP (mem_singleton.mp h)
   have tM:N.h.Ns B m:=D7 hm λo e=>N.S.keep _ _ e aB' λh=>(P.F.live _ (ho.2 _ h)).elim λo e=>bD hB e
   have aB4:Ap N.w B:=⟨hm.elim λo w=>w.elim λZ w=>w.elim λZ w=>N.S.m8 w.1 aB',aB.2⟩
   exact⟨m,tM,λh5 ML=>(Sx.ch ((Nx.sx (P:=P) (Pt.An R S hg r hn hD hl tk)).then N) (E0 tM ML) (λa ha=>ha▸aB4) (λa ha=>ha▸hB) N.tk).elim λN' e=>by
    have:=kq.next _ _ q N'
    rw[show N'.s=upd P.s N'.h N'.tk from rfl,e.2.1,e.2.2] at this
    exact this⟩
end
theorem MM(lo hi:Option Int)(n:Nat):sliceBounds lo hi none n=(((tj n 0 lo:Nat):Int),((tj n n hi:Nat):Int),1):=by
 have key:∀(k:Option Int) (d:Nat),(match k with|none=>(d:Int)|some i=>if(1:Int)>0 then max 0 (min (if i<0 then i+n else i) n) else max (-1) (min (if i<0 then i+n else i) ((n:Int) - 1)))=((tj n d k:Nat):Int):=λk d=>by
  cases k with
  |none=>rfl
  |some k=>exact(Int.toNat_of_nonneg (Int.le_max_left _ _)).symm
 exact Prod.ext (key lo 0) (Prod.ext (key hi n) rfl)
theorem MN(xs:List Value)(lo hi:Option Int):slicePick xs.toArray lo hi none=(iH xs lo hi).toArray:=by
 unfold slicePick iH
 rw[size_toArray,MM]
 refine(?_:((sliceRange _ _ 1).filterMap _).toArray=_)
 rw[sliceRange_one,pick_run,List.drop_take]
section
variable{σ:Lv}{A:Around}{s:Shared}
theorem ba.slice{p:Ws}{vs:List V}{xs:List Value}(r:ba p vs xs)(lo hi:Option Int):ba p (iH vs lo hi) (iH xs lo hi):=by
 unfold iH
 rw[r.length]
 exact(r.take _).drop _
theorem MO{t sl:Addr}{xs:List Value}{b:Nat}{u:Tok}{Q Ex:Value->Shared->Prop}(ht:IsTup s.heap t xs.toArray)(hs:s.heap.IsSliceOf sl .none (.int b u) .none)(hz:xs.length<=sizeLine)
  (h:b<xs.length->Q (.ref s.heap.objs.size) {s with heap:=s.heap.push (jH (xs.take b) 0)}) (h':xs.length<=b->Q (.ref t) s):wpAny X.M A (getItem (.ref t) (.ref sl)) Q Ex s:=by
 have iu:sizeOk (.seq (xs.take b).toArray):=by
  refine(?_:(xs.take b).toArray.size<=sizeLine)
  rw[size_toArray,length_take];exact le_trans (min_le_right _ _) hz
 obtain⟨os,xU,tR,oz⟩:=id hs
 have MP:s.TypeIs (.ref sl) "slice":=⟨os,xU,tR⟩
 unfold getItem
 try with_reducible refine wpAny_holding ?_
 first|refine wpAny_bind (wpAny_pure ?_)|skip
 refine wpAny_bind (wpAny_sequenceKey ht.typeIs (by decide) (wpAny_bind (wpAny_callSpecial?_slot (name:=Str.ofString "__getitem__") ht.typeIs slot_tuple_getitem
  (wpAny_call_entry slot_tuple_getitem ht.typeIs entry_tuple_getitem ?_ (args_tuple_getitem _ _)))))
 refine(?_:wpAny _ _ (Builtin.Tuple.tupleItemsOf (.ref t) >>= _) _ _ s)
 refine wpAny_bind (tupleItemsOf_ ht (wpAny_bind (wpAny_typeOf MP ?_)))
 rw[if_pos (by decide)]
 refine wpAny_bind ?_
 unfold Builtin.Slice.sliceApplied Builtin.Slice.sliceFields
 refine wpAny_bind (wpAny_bind (wpAny_field xU oz (x:=.none) rfl (wpAny_bind (wpAny_field xU oz (x:=.int b u) rfl (wpAny_bind (wpAny_field xU oz (x:=.none) rfl (wpAny_pure (wpAny_bind (slicePart_none ?_)))))))))
 refine(?_:wpAny _ _ (if((1:Int)==0)=true then _ else _) _ _ s)
 rw[if_neg (by decide)]
 refine wpAny_bind (slicePart_none (wpAny_bind (slicePart_int (wpAny_bind (wpAny_pure ?_)))))
 obtain⟨m,hm⟩:∃m,m=min b xs.length:=⟨_,rfl⟩
 have e1:Builtin.Slice.sliceAdjust none (some (b:Int)) 1 ((xs.toArray.size:Nat):Int)=(0,(m:Int)):=by
  refine(?_:((0:Int),(if(b:Int)<0 then max ((b:Int)+(xs.toArray.size:Nat)) 0 else min (b:Int) (xs.toArray.size:Nat)))=_)
  rw[size_toArray,if_neg (Int.not_lt.mpr (natCast_nonneg b))]
  exact Prod.ext rfl (show min (b:Int) xs.length=m from(K0 _ _).trans (by rw[hm]))
 have e2:Builtin.Slice.slicePlaces 0 (m:Int) 1=m:=by
  refine(?_:((if(0:Int)<m then((m:Int) - 0 - 1)/1+1 else 0):Int).toNat=m)
  rw[Int.ediv_one];split<;>lia
 refine(?_:wpAny _ _ (match Builtin.Slice.sliceAdjust none (some (b:Int)) 1 ((xs.toArray.size:Nat):Int) with|(lo,hi)=>pure (lo,(1:Int),Builtin.Slice.slicePlaces lo hi 1)) _ _ s)
 rw[e1]
 refine(?_:wpAny _ _ (pure ((0:Int),(1:Int),Builtin.Slice.slicePlaces (0:Int) (m:Int) 1)) _ _ s)
 rw[e2]
 refine wpAny_pure ?_
 have MQ:((List.range m).filterMap λ(k:Nat)=>xs.toArray[((0:Int)+(k:Int)*1).toNat]?).toArray=(xs.take m).toArray:=by
  have e:(λ(k:Nat)=>xs.toArray[((0:Int)+(k:Int)*1).toNat]?)=(λx=>xs.toArray[x]?) ∘ λk=>0+k:=funext λk=>by
   refine(?_:xs.toArray[((0:Int)+(k:Int)*1).toNat]?=xs.toArray[0+k]?)
   rw[show((0:Int)+(k:Int)*1).toNat=0+k by rw[Int.mul_one,Int.zero_add,zero_add];rfl]
  rw[e,<-List.filterMap_map,pick_run]
  rfl
 refine(?_:wpAny _ _ (if((0:Int)==0&&(1:Int)==1&&m==xs.toArray.size)=true then _ else _) _ _ s)
 by_cases hb:b<xs.length
 ·have MR:m=b:=hm.trans (min_eq_left (le_of_lt hb))
  subst MR
  rw[if_neg λe=>absurd (eq_of_beq (and_eq_true_iff.mp e).2) (by rw[size_toArray];exact ne_of_lt hb),MQ]
  have h:=h hb
  first
   |exact wpAny_bind (m:=Builtin.Tuple.tupleExact _) (wpAny_newObj_type (wpAny_pure ⟨_,rfl,wpAny_pure h⟩) iu)
   |exact wpAny_bind (m:=Builtin.Tuple.tupleExact _) (wpAny_newObj_type (wpAny_bind (wpAny_pure (wpAny_pure ⟨_,rfl,wpAny_pure h⟩))) iu)
   |exact wpAny_bind (wpAny_bind (m:=Builtin.Tuple.tupleExact _) (wpAny_newObj_type (wpAny_pure (wpAny_pure ⟨_,rfl,wpAny_pure h⟩)) iu))
   |exact wpAny_bind (wpAny_bind (m:=Builtin.Tuple.tupleExact _) (wpAny_newObj_type (wpAny_pure ⟨_,rfl,wpAny_pure h⟩) iu))
 ·have h:=h' (Nat.le_of_not_lt hb)
  have hc:((0:Int)==0&&(1:Int)==1&&m==xs.toArray.size)=true:=by
   rw[size_toArray,show m=xs.length from hm.trans (min_eq_right (not_lt.mp hb)),beq_self_eq_true,beq_self_eq_true,beq_self_eq_true];rfl
  rw[if_pos hc]
  unfold Builtin.Tuple.tupleIsExact
  refine wpAny_bind (wpAny_bind (wpAny_typeOf ht.typeIs (wpAny_pure ?_)))
  rw[if_pos (by decide)]
  exact wpAny_bind (wpAny_rule (wpAny_pure ⟨_,rfl,wpAny_pure h⟩))
noncomputable def rB(σ:Lv)(c:Option E)(e:Option Expr):Prop:=
 ∀(P:Fp σ) (post:PQ) (Q:Value->Shared->Prop),WO σ.c c P.ρ P.H post->Kn P.toPt post Q->wpAny X.M P.A (evalPart e P.env) Q P.Ex P.s
theorem MS:rB σ none none:=λP post Q p k=>by rw[evalPart_none];exact wpAny_pure (k.now p .none P.s.toks)
theorem MT{c:E}{e:Expr}(h:b8 σ c e):rB σ (some c) (some e):=λP post Q p k=>by rw[evalPart_some];exact h P post Q p k
theorem E4{v:V}{x:Value}{k:Option Int}{p:Ws}(r:aY p v x)(e:xj v=some k):IsPart x k:=by
 cases v with
 |none=>cases e;exact r.inv (λx=>IsPart x _) .none
 |int i=>exact qU e (λk=>IsPart x k) λZ=>r.inv (λx=>IsPart x _) λt=>.int _ _
 |_=>cases e
theorem ba.MU{vs:List V}{k:Nat}(hz:vs.length<=16000000):(vs.take k).length<=16000000:=by rw[length_take];exact le_trans (min_le_right _ _) hz
theorem E5{P:Pt}{us:List V}{xs:List Value}{ad sa:Addr}{v sl:Expr}{z w:Value}{l h:Option Int}{post:PQ}{Q:Value->Shared->Prop}{ops:Value->Value->List Value}(hs:∀o i,subscripted sl false o i=operate (ops o i) (getItem o i))(q:P.s.heap.IsSliceOf sa z w .none)(q1:IsPart z l)(q2:IsPart w h)(hL:P.s.heap.IsList ad xs.toArray)(r:ba P.w us xs)(hz:us.length<=16000000)(p:kj (iH us l h) P.H post)(k:Kn P post Q):
  wpAny X.M P.A (subscriptTail v sl (.ref ad) (.ref sa)) Q P.Ex P.s:=fu.k p λAo p=>
 tail_any hL.typeIs PySem.slot_list_getitem.lookup (wpAny_getItem_list_slice hL q q1 q2 .none (λe=>nomatch e) (by
  rw[MN]
  exact Kn.list k (.push _) _ (gF _ (le_refl _)) (get?_push_size _ rfl) (r.slice l h) (le_of_lt (of_decide_eq_true Ao)) p P.s.toks) (by rw[size_toArray,<-r.length];unfold sizeLine;lia)) (hs _ _)
theorem MV{P:Pt}{us:List V}{sa:Addr}{v sl:Expr}{y z w:Value}{l h:Option Int}{post:PQ}{Q:Value->Shared->Prop}{ops:Value->Value->List Value}(hs:∀o i,subscripted sl false o i=operate (ops o i) (getItem o i))(q:P.s.heap.IsSliceOf sa z w .none)(q1:IsPart z l)(q2:IsPart w h)(r:aY P.w (.aC us) y)(p:aH h λk=>fu (l.isNone&&decide (0<=k)) (post (.aC (us.take k.toNat)) P.H))(k:Kn P post Q):
  wpAny X.M P.A (subscriptTail v sl y (.ref sa)) Q P.Ex P.s:=by
 refine aH.k p λj ej p1=>fu.k p1 λhj p2=>aR hj λhl hj=>?_
 have MW:=of_decide_eq_true hj
 clear p p1 hj
 subst ej
 obtain⟨m,rfl⟩:=Int.eq_ofNat_of_zero_le MW
 cases q1 with
 |int i t=>cases hl
 |none=>
  cases q2 with
  |int i t=>
   exact r.inv (λy=>wpAny X.M P.A (subscriptTail v sl y (.ref sa)) Q P.Ex P.s) λa n' xs h1 h2 h3 h4=>
    tail_any (vd h1).typeIs slot_tuple_getitem.lookup (MO (vd h1) q (by rw[<-h2.length];unfold sizeLine;lia)
     (λZ=>k _ _ p2 (P.ext (.push _) P.s.toks) _ (.aC (n:=0) (get?_push_size _ rfl) ((h2.take m).mono (P.ext (.push _) P.s.toks).S) (ba.MU h3) (P.R.new (p:=P.w) (gF _ (le_refl _))).1)) λhb=>by
      rw[show us.take ((m:Nat):Int).toNat=us from List.take_of_length_le (by rw[h2.length];exact hb)] at p2
      exact k.now p2 (.aC (n:=n') h1 h2 h3 h4) P.s.toks) (hs _ _)
theorem MX{P:Pt}{a lv hv:V}{sa:Addr}{v sl:Expr}{y z w:Value}{post:PQ}{Q:Value->Shared->Prop}(G:Good X){ops:Value->Value->List Value}(hs:∀o i,subscripted sl false o i=operate (ops o i) (getItem o i))(q:P.s.heap.IsSliceOf sa z w .none)(ra:aY P.w a y)(rl:aY P.w lv z)(rh:aY P.w hv w)(p:qQ a lv hv P.H post)(k:Kn P post Q):
  wpAny X.M P.A (subscriptTail v sl y (.ref sa)) Q P.Ex P.s:=by
 refine aH.k p λl el p=>aH.k p λh eh p=>?_
 have q1:=E4 rl el
 have q2:=E4 rh eh
 cases a with
 |aC us=>exact MV hs q q1 q2 ra p k
 |ref li=>exact aH.k p λus hi p=>bX ra hi (λy=>wpAny X.M P.A (subscriptTail v sl y (.ref sa)) Q P.Ex P.s) λZ a xs n' Z Z Z h1 h2 h3=>E5 hs q q1 q2 (iJ h1) h2 h3 p k
 |fR=>exact aH.k p λus hi p=>items G ra hi (λy=>wpAny X.M P.A (subscriptTail v sl y (.ref sa)) Q P.Ex P.s) (λe=>nomatch e) λa xs h1 h2 h3=>E5 hs q q1 q2 h1 h2 h3 p k
 |_=>exact p.elim
theorem MY{a:E}{lo hi:Option E}{v:Expr}{l u:Option Expr}{p0 pos:Pos}(G:Good X)(ha:b8 σ a v)(hl:rB σ lo l)(hu:rB σ hi u):b8 σ (.fG a lo hi) (.Subscript v (.Slice l u none p0) pos):=λP post Q p k=>
 Subscript_ (ha P _ _ p (λx H1 p1 N y r=>wpAny_Slice (hl (P.to N) _ _ p1 (λlv H2 p2 N2 z r2=>hu ((P.to N).to N2) _ _ p2 (λhv H3 p3 N3 w r3=>by
  rw[evalPart_none]
  exact wpAny_pure (MX (P:=(N3.pt.ext (.push _) N3.tk).pt) G (λZ Z=>rfl) (Heap.IsSliceOf.new N3.h z w .none) ((r.mono (N2.then N3).S).mono (N3.pt.ext (.push _) N3.tk).S) ((r2.mono N3.S).mono (N3.pt.ext (.push _) N3.tk).S) (r3.mono (N3.pt.ext (.push _) N3.tk).S) p3 (((k.nx N).nx (N2.then N3)).nx _)))))))
theorem MZ(xs:List Value):slicePick xs.toArray none none (some (-1))=xs.reverse.toArray:=by
 unfold slicePick
 rw[size_toArray]
 refine(?_:((sliceRange ((xs.length:Int) - 1) (-1) (-1)).filterMap (xs.toArray[·]?)).toArray=_)
 refine congrArg toArray ?_
 have e:sliceRange ((xs.length:Int) - 1) (-1) (-1)=(List.range xs.length).map λk=>xs.length - 1 - k:=by
  unfold sliceRange
  have c:(if(-1:Int)>0 then(if(xs.length:Int) - 1<(-1) then((-1) - ((xs.length:Int) - 1)+(-1) - 1)/(-1) else 0) else(if(xs.length:Int) - 1>(-1) then((xs.length:Int) - 1 - (-1) - (-1) - 1)/(-(-1)) else 0))=(xs.length:Int):=by
   rw[if_neg (by decide),show(-(-1):Int)=1 from rfl,Int.ediv_one]
   split<;>lia
  dsimp only
  rw[c,toNat_natCast]
  exact map_congr_left λk hk=>by have:=mem_range.mp hk;lia
 rw[e,List.filterMap_map]
 refine ext_getElem? λi=>?_
 have f:∀l:List Nat,(∀k∈l,k<xs.length)->l.filterMap ((xs.toArray[·]?) ∘ λk=>xs.length - 1 - k)=l.map λk=>xs.getD (xs.length - 1 - k) .none:=λl=>l.rec (λZ=>rfl) λk r ih h=>by
  have hk:=h k mem_cons_self
  rw[filterMap_cons,map_cons,ih λz hz=>h z (.tail _ hz)]
  have e1:((λx=>xs.toArray[x]?) ∘ λk=>xs.length - 1 - k) k=some (xs.getD (xs.length - 1 - k) .none):=by
   refine(?_:xs.toArray[xs.length - 1 - k]?=_)
   rw[getElem?_toArray,getD_eq_getElem?_getD,getElem?_eq_getElem (by lia:xs.length - 1 - k<xs.length)];rfl
  rw[e1]
 rw[f _ λk hk=>mem_range.mp hk,getElem?_map]
 by_cases h:i<xs.length
 ·rw[getElem?_range h,List.getElem?_reverse h,getElem?_eq_getElem (by lia:xs.length - 1 - i<xs.length),map_some,getD_eq_getElem?_getD,getElem?_eq_getElem (by lia:xs.length - 1 - i<xs.length)];rfl
 ·rw[getElem?_eq_none (by rw[length_range];exact not_lt.mp h),getElem?_eq_none (by rw[List.length_reverse];exact not_lt.mp h)];rfl
theorem ba.rev{p:Ws}{vs:List V}{xs:List Value}(r:ba p vs xs):ba p vs.reverse xs.reverse:=ba.ind (M:=λvs xs=>ba p vs.reverse xs.reverse) .nil (λa Z m=>by rw[reverse_cons,reverse_cons];exact m.append (.one a)) r
theorem M0{P:Pt}{us:List V}{xs:List Value}{ad sa:Addr}{t:Tok}{v sl:Expr}{post:PQ}{Q:Value->Shared->Prop}{ops:Value->Value->List Value}(hs:∀o i,subscripted sl false o i=operate (ops o i) (getItem o i))(q:P.s.heap.IsSliceOf sa .none .none (.int (-1) t))(hL:P.s.heap.IsList ad xs.toArray)(r:ba P.w us xs)(hz:us.length<=16000000)(p:kj us.reverse P.H post)(k:Kn P post Q):
  wpAny X.M P.A (subscriptTail v sl (.ref ad) (.ref sa)) Q P.Ex P.s:=fu.k p λAo p=>
 tail_any hL.typeIs PySem.slot_list_getitem.lookup (wpAny_getItem_list_slice hL q .none .none (.int _ _) (λe=>by cases e) (by
  rw[MZ]
  exact Kn.list k (.push _) _ (gF _ (le_refl _)) (get?_push_size _ rfl) r.rev (le_of_lt (of_decide_eq_true Ao)) p P.s.toks) (by rw[size_toArray,<-r.length];unfold sizeLine;lia)) (hs _ _)
theorem M1{a st:E}{v t:Expr}{p0 pos:Pos}(ha:b8 σ a v)(ht:b8 σ st t):b8 σ (.rev a st) (.Subscript v (.Slice none none (some t) p0) pos):=λP post Q p k=>
 Subscript_ (ha P _ _ p (λx H1 p1 N y r=>wpAny_Slice (by
  refine(?_:wpAny X.M P.A (pure Value.none) _ P.Ex N.s)
  refine wpAny_pure ?_
  refine(?_:wpAny X.M P.A (pure Value.none) _ P.Ex N.s)
  refine wpAny_pure ?_
  refine(?_:wpAny X.M P.A (eval t P.env) _ P.Ex N.s)
  refine ht (P.to N) _ _ p1 (λkv H2 p2 N2 z r2=>?_)
  obtain⟨rfl,p2⟩:=p2
  refine r2.inv (λz=>wpAny X.M P.A (subscriptTail v (.Slice none none (some t) p0) y (.ref N2.h.objs.size)) Q P.Ex {N2.s with heap:=N2.h.push {cls:=.type "slice",data:=.fields #[.none,.none,z]}}) λu=>?_
  refine aH.k p2 λus hi p2=>bX (P:=(N2.pt.ext (.push {cls:=.type "slice",data:=.fields #[.none,.none,.int (-1) u]}) N2.tk).pt) ((r.mono N2.S).mono (N2.pt.ext (.push _) N2.tk).S) hi (λy=>wpAny X.M P.A (subscriptTail v (.Slice none none (some t) p0) y (.ref N2.h.objs.size)) Q P.Ex _) λZ a xs n' Z Z Z h1 h2 h3=>?_
  exact M0 (P:=(N2.pt.ext (.push {cls:=.type "slice",data:=.fields #[.none,.none,.int (-1) u]}) N2.tk).pt) (λZ Z=>rfl) (Heap.IsSliceOf.new N2.h .none .none (.int (-1) u)) (iJ h1) h2 h3 p2 (((k.nx N).nx N2).nx _))))
end
section
variable{σ:Lv}{Q:Value->Shared->Prop}{P:Pt}{post:PQ}{v:V}{x:Value}
theorem E6{o:Expr}(h:qL o=true)(x:Str)(env:Env)(w:Sem Value):attributeBase o x env w=w:=by
 cases o<;>first|rfl|exact absurd rfl (of_decide_eq_true h)
theorem E7{es:List Expr}{cs:List E}{pos:Pos}(h:eA σ cs es)(hl:es.length<20)(env:Env):((backTo pos (starEach es env)).all (λx=>!x.1)&&(backToKw pos (keywordEach [] env)).all (λx=>x.1.isSome)
   && decide (es.length+([]:List Keyword).length+(if([]:List Keyword).isEmpty then 0 else 1)<30))=true:=by
 have h2:(backTo pos (starEach es env)).all (λx=>!x.1)=true:=all_eq_true.mpr λx hx=>by
  have:=any_eq_false.mp (h.plain env pos) x hx
  cases e:x.1
  ·rfl
  ·exact absurd e this
 rw[h2]
 exact decide_eq_true (show es.length+0+0<30 by lia)
structure vw(m:Me)(id:String):Prop where
 slot:Slot "list" (s8 m).1 id
 ty:typeOf (.builtin id)=pure (.type "method_descriptor")
 run:∀(P:Pt) (v:V) (x:Value) (us:List V) (zs:List Value) (post:PQ) (Q:Value->Shared->Prop),aY P.w v x->ba P.w us zs->pH m v us P.H post->Kn P post Q->wpAny X.M P.A (call (.builtin id) (x::zs)) Q P.Ex P.s
theorem M2(P:Pt)(v:V)(x:Value)(r:aY P.w v x)(h:(cS P.H v).isSome=true):P.s.TypeIs x "list"/\∀a,x=.ref a->∃ob,P.s.heap.get? a=some ob/\ob.dict=none:=
 (isSome_iff_exists.mp h).elim λvs e=>bX r e (λx=>P.s.TypeIs x "list"/\∀a,x=.ref a->∃ob,P.s.heap.get? a=some ob/\ob.dict=none) λZ a xs m Z Z Z h1 Z Z=>⟨(iJ h1).typeIs,λb e=>Value.ref.inj e▸⟨_,h1,rfl⟩⟩
theorem M3{m:Me}{id:String}{a:E}{o:Expr}{cs:List E}{es:List Expr}{ap pos:Pos}(M:vw m id)(ho:qL o=true)(vx:(ap.endLine==pos.line)=true)(hl:es.length=(s8 m).2)(ha:b8 σ a o)(h:eA σ cs es):b8 σ (.c8 m a cs) (.Call (.Attribute o (s8 m).1 ap) es [] pos):=λP post Q p k=>
 wpAny_Call_method (E6 ho _ P.env _) (E7 h (by rw[hl];cases m<;>decide) P.env) vx PySem.F.plainAttrs_list M.slot M.ty (ha P _ _ p (λv H1 p1 N x r=>fu.k p1 λhk p1=>
  have q:=M2 N.pt v x r hk
  ⟨q.1,q.2,Calls.callWith_builtin (h.plain P.env pos) (ot (h.plain P.env pos) (h.na (P.to N) _ _ pos p1 (λus H2 p2 Z N2 zs r2=>M.run N2.pt v x us zs post Q (r.mono N2.S) r2 p2 ((k.nx N).nx N2))))⟩))
theorem Kn.xk{l:Nat}{a:Addr}{vs:List V}{ys:List Value}{j:Nat}{h':Heap}(k:Kn P post Q)(ha:P.φ[l]?=some a)(he:ExtBut a P.s.heap h')(hg:h'.get? a=some (gP ys j))(r:ba P.w vs ys)(hz:vs.length<=16000000)(p:xk (.ref l) vs P.H post)(tk:Nat):Q .none (upd P.s h' tk):=
 k _ _ p (P.set ha he (.list hg (r.kp (P.tA ha he)) hz) tk) _ .none
theorem M4:vw .append "list.append" where
 slot:=PySem.F.slot_list_append
 ty:=PySem.F.type_list_append
 run:=λP v x us zs post Q r rz p k=>aH.k p λxs e p=>w1.k p (λus=>ba P.w us zs->_) (λu p rz=>fu.k p λhz p=>rz.k1 (λzs=>wpAny X.M P.A (call (.builtin "list.append") (x::zs)) Q P.Ex P.s) λz rz=>bX r e (λx=>wpAny X.M P.A (call (.builtin "list.append") [x,z]) Q P.Ex P.s) λl a ys m ev Z ha h1 h2 h3=>
  wpAny_list_append_plain (items:=ys.toArray) ⟨m,h1⟩ (λh' hp hs=>hp.elim λj hj=>k.xk (l:=l) (vs:=xs++[u]) ha hs.extBut (by rw[hj,List.push_toArray]) (h2.append (.one rz)) (by rw[length_append];exact of_decide_eq_true hz) (ev▸p) P.s.toks) (by rw[size_toArray,<-h2.length];unfold sizeLine;lia)) rz
noncomputable def xV(b:Bool):Value->Bool
 |.bool c=>c==b
 |_=>false
theorem E8{b:Bool}{y:Value}(h:∃c,y=.bool c):MeetsSeq.EqGives y (.bool b) (xV b y):=λZ Z Z Z Z Z hq=>by
 obtain⟨c,rfl⟩:=h
 exact SeqAt.EqAt.bool_bool _ _ _ _ _ _ hq
theorem ba.bools{p:Ws}{vs:List V}{xs:List Value}(r:ba p vs xs):∀{bs:List Bool},i0 vs=some bs->xs=bs.map .bool:=
 ba.ind (M:=λvs xs=>∀{bs:List Bool},i0 vs=some bs->xs=bs.map .bool) (λe=>by cases e;rfl) (λ{v x vs xs} a _ m bs e=>f9 e λb e1 e=>fK (λbs=>x::xs=bs.map .bool) e λbs e2=>boolOf.k e1 (λv=>aY p v x->_) (λr=>r.inv (λx=>x::xs=(b::bs).map .bool) (congrArg (Value.bool b::·) (m e2))) a) r
theorem E9{bs:List Bool}(y:Value)(h:y∈(bs.map Value.bool).toArray):∃c,y=.bool c:=(mem_map.mp (List.mem_toArray.mp h)).imp λc x=>x.2.symm
theorem Aq:vw .count "list.count" where
 slot:=PySem.F.slot_list_count
 ty:=PySem.F.type_list_count
 run:=λP v x us zs post Q r rz p k=>aH.k p λxs e p=>w1.k p (λus=>ba P.w us zs->_) (λu p rz=>rz.k1 (λzs=>wpAny X.M P.A (call (.builtin "list.count") (x::zs)) Q P.Ex P.s) λz rz=>bX r e (λx=>wpAny X.M P.A (call (.builtin "list.count") [x,z]) Q P.Ex P.s) λl a ys m ev Z ha h1 h2 h3=>
  aH.k p λb eb p=>aH.k p λbs ebs p=>boolOf.k eb (λu=>aY P.w u z->_) (λrz=>rz.inv (λz=>wpAny X.M P.A (call (.builtin "list.count") [.ref a,z]) Q P.Ex P.s) (by
   have e2:=h2.bools ebs
   subst e2
   refine call_meets PySem.F.slot_list_count ⟨_,h1,rfl⟩ PySem.F.entry_list_count (PySem.F.args_list_count_2 _ _) (MeetsSeq.list_count a _ m (.bool b) (xV b) λy hy=>E8 (E9 y hy)) ⟨h1,?_⟩
   have ec:(bs.map Value.bool).toArray.toList.countP (xV b)=bs.count b:=List.countP_map
   rw[ec]
   exact k.now p.2 (.int _ _) _)) rz) rz
theorem M5:vw .index "list.index" where
 slot:=PySem.F.slot_list_index
 ty:=PySem.F.type_list_index
 run:=λP v x us zs post Q r rz p k=>aH.k p λxs e p=>w1.k p (λus=>ba P.w us zs->_) (λu p rz=>rz.k1 (λzs=>wpAny X.M P.A (call (.builtin "list.index") (x::zs)) Q P.Ex P.s) λz rz=>bX r e (λx=>wpAny X.M P.A (call (.builtin "list.index") [x,z]) Q P.Ex P.s) λl a ys m ev Z ha h1 h2 h3=>
  aH.k p λb eb p=>aH.k p λbs ebs p=>boolOf.k eb (λu=>aY P.w u z->_) (λrz=>rz.inv (λz=>wpAny X.M P.A (call (.builtin "list.index") [.ref a,z]) Q P.Ex P.s) (aH.k p.2 λi ei p'=>by
   have e2:=h2.bools ebs
   have hl:bs.length<=1000:=by have:=p.1;rw[h2.length,e2,length_map] at this;exact this
   subst e2
   obtain⟨hi,he,M6⟩:=List.findIdx?_eq_some_iff_getElem.mp ei
   exact call_meets PySem.F.slot_list_index ⟨_,h1,rfl⟩ PySem.F.entry_list_index (PySem.F.args_list_index_2 _ _) (MeetsSeq.list_index a _ m (.bool b) (xV b) (λy hy=>E8 (E9 y hy)) i (by rw[size_toArray,length_map];exact hi) (by lia) (by rw[List.getElem_toArray,getElem_map];exact he) λj hj M7=>by
    rw[List.getElem_toArray,getElem_map];exact Bool.not_eq_true _▸M6 j M7) ⟨h1,k.now p' (.int _ _) _⟩)) rz) rz
end
section
variable{σ:Lv}{Q:Value->Shared->Prop}{P:Pt}{post:PQ}{v:V}{x:Value}
theorem Fa:∀{vs:List V} {is:List Int},allInts vs=some is->vs=is.map .int
 |[],is,h=>Option.some.inj h▸rfl
 |v::r,is,h=>f9 h λi h1 h=>by
  cases v with
  |int j=>exact fK (λis=>V.int j::r=is.map .int) h λjs e=>by rw[map_cons,<-Fa e,Option.some.inj h1]
  |_=>cases h1
theorem Fb:∀{vs:List V} {is:List Bool},i0 vs=some is->vs=is.map .bool
 |[],is,h=>Option.some.inj h▸rfl
 |v::r,is,h=>f9 h λi h1 h=>boolOf.k h1 (λv=>v::r=is.map .bool) (fK (λis=>V.bool i::r=is.map .bool) h λjs e=>by rw[map_cons,<-Fb e])
theorem intsAre_of{p:Ws}:∀{is:List Int} {xs:List Value},ba p (is.map .int) xs->IntsAre xs is
 |[],xs,r=>r.inv (λxs=>IntsAre xs []) .nil
 |i::is,xs,r=>r.inv (λxs=>IntsAre xs (i::is)) λx xs r1 r2=>r1.inv (λx=>IntsAre (x::xs) (i::is)) λt=>.cons _ _ (intsAre_of r2)
theorem Ar{is:List Int}(r:aY P.w v x)(e:jM P.H v=some is)(T:Value->Prop)(k:∀a xs,P.s.heap.IsList a xs.toArray->IntsAre xs is->T (.ref a)):T x:=
 f9 e λvs h1 h2=>bX r h1 T λZ a xs m Z Z Z g1 g2 Z=>k a xs (iJ g1) (intsAre_of (by rw[<-Fa h2];exact g2))
theorem Kn.later{x:Value}{h':Heap}(k:Kn P post Q)(p:post v P.H)(r:aY P.w v x)(e:aA P.s.heap h')(tk:Nat):Q x (upd P.s h' tk):=k _ _ p (P.ext e tk) _ (r.mono (P.ext e tk).S)
theorem M8(G:Good X)(r:aY P.w v x)(p:aH (kU P.H v) λl=>post (.int l.length) P.H)(k:Kn P post Q):wpAny X.M P.A (call (.builtin "len") [x]) Q P.Ex P.s:=
 aH.k p λl e p=>items G r e (λx=>wpAny X.M P.A (call (.builtin "len") [x]) Q P.Ex P.s) (λZ a xs m h1 h2 h3 Z=>PyProof.Rows.len_tuple (vd h1) (small h2 h3) (k.now (v:=.int l.length) p (by rw[size_toArray,<-h2.length];exact .int _ _) _)) λa xs h1 h2 h3=>call_len_list h1 (small h2 h3) (k.now (v:=.int l.length) p (by rw[size_toArray,<-h2.length];exact .int _ _) _)
theorem M9{t:Ty}(r:aY P.w v x)(p:aH (DY P.H t v) λb=>post (.bool b) P.H)(k:Kn P post Q):wpAny X.M P.A (call (.builtin "isinstance") [x,.type (iZ t)]) Q P.Ex P.s:=by
 refine aH.k p λb e p=>?_
 have fin:∀tk,Q (.bool b) (upd P.s P.s.heap tk):=λtk=>k.now p (.bool _) tk
 cases v with
 |bool c=>
  refine r.inv (λx=>wpAny X.M P.A (call (.builtin "isinstance") [x,.type (iZ t)]) Q P.Ex P.s) ?_
  cases t<;>cases e
  ·exact IsiPair.bool_int (fin _)
  ·exact IsiPair.bool_bool (fin _)
  ·exact IsiPair.bool_list (fin _)
 |int i=>
  refine r.inv (λx=>wpAny X.M P.A (call (.builtin "isinstance") [x,.type (iZ t)]) Q P.Ex P.s) λtk=>?_
  cases t<;>cases e
  ·exact IsiPair.int_int (fin _)
  ·exact IsiPair.int_bool (fin _)
  ·exact IsiPair.int_list (fin _)
 |none=>
  refine r.inv (λx=>wpAny X.M P.A (call (.builtin "isinstance") [x,.type (iZ t)]) Q P.Ex P.s) ?_
  cases t<;>cases e
  ·exact IsiPair.NoneType_int (fin _)
  ·exact IsiPair.NoneType_bool (fin _)
  ·exact IsiPair.NoneType_list (fin _)
 |str z=>
  refine r.inv (λx=>wpAny X.M P.A (call (.builtin "isinstance") [x,.type (iZ t)]) Q P.Ex P.s) λtk=>?_
  cases t<;>cases e
  ·exact IsiPair.str_int (fin _)
  ·exact IsiPair.str_bool (fin _)
  ·exact IsiPair.str_list (fin _)
 |aC vs=>
  refine r.inv (λx=>wpAny X.M P.A (call (.builtin "isinstance") [x,.type (iZ t)]) Q P.Ex P.s) λa m xs h1 Z Z Z=>?_
  cases t<;>cases e
  ·exact IsiPair.tuple_int h1 rfl (fin _)
  ·exact IsiPair.tuple_bool h1 rfl (fin _)
  ·exact IsiPair.tuple_list h1 rfl (fin _)
 |ref l=>
  have key:∀b',(cS P.H (.ref l)).map (λZ=>b')=some b->(∀a xs m,P.s.heap.get? a=some (gP xs m)->(∀tk,Q (.bool b') (upd P.s P.s.heap tk))->wpAny X.M P.A (call (.builtin "isinstance") [.ref a,.type (iZ t)]) Q P.Ex P.s)->wpAny X.M P.A (call (.builtin "isinstance") [x,.type (iZ t)]) Q P.Ex P.s:=λb' e h=>
   fK (λb=>(∀tk,Q (.bool b) (upd P.s P.s.heap tk))->_) e (λvs e fin=>bX r e (λx=>wpAny X.M P.A (call (.builtin "isinstance") [x,.type (iZ t)]) Q P.Ex P.s) λZ a xs m Z Z Z h1 Z Z=>h a xs m h1 fin) fin
  cases t
  ·exact key false e λa xs m h1 fin=>IsiPair.list_int h1 rfl (fin _)
  ·exact key false e λa xs m h1 fin=>IsiPair.list_bool h1 rfl (fin _)
  ·exact key true e λa xs m h1 fin=>IsiPair.list_list h1 rfl (fin _)
 |fR=>cases t<;>cases e
theorem Na(hh:P.A.handled=none)(r:aY P.w v x)(p:aH ((cS P.H v).bind i0) λbs=>post (.bool (bs.any id)) P.H)(k:Kn P post Q):wpAny X.M P.A (call (.builtin "any") [x]) Q P.Ex P.s:=
 aH.k p λbs e p=>f9 e λvs e1 e2=>bX r e1 (λx=>wpAny X.M P.A (call (.builtin "any") [x]) Q P.Ex P.s) λZ a xs m Z Z Z h1 h2 Z=>by
  rw[Fb e2] at h2
  refine call_any_walk (wpAny_pyIter_list (iJ h1) ⟨P.s.heap.objs.size,[P.s.heap.objs.size,a],[P.s.heap.objs.size],xs.toArray.size,_,_,λi=>(bs[i]?).getD false,rfl,Walks.list (A:=P.A.in1) hh _ a (ne_of_lt (lt_size h1)) xs.toArray,
   ⟨⟨_,get?_push_size _ rfl,rfl,rfl⟩,(iJ h1).push _⟩,λi w s' Q' E' hP hQ=>?_,λh' tk hk=>?_⟩)
  ·have vy:xs[i]?=some w:=by rw[<-getElem?_toArray];exact hP
   have tI:i<bs.length:=by rw[<-length_map (f:=V.bool),h2.length];exact(List.getElem?_eq_some_iff.mp vy).1
   refine h2.get (i:=i) (v:=.bool bs[i]) (by rw[getElem?_map,getElem?_eq_getElem tI];rfl) λy hy ry=>?_
   rw[vy] at hy;cases hy
   have hQ:Q' ((bs[i]?).getD false) s':=hQ
   rw[show(bs[i]?).getD false=bs[i] by rw[getElem?_eq_getElem tI];rfl] at hQ
   exact ry.inv (λw=>wpAny X.M P.A.in1 (PySem.truthy w) Q' E' s') (wpAny_truthy_bool hQ)
  ·rw[show((List.range xs.toArray.size).any λi=>(bs[i]?).getD false)=bs.any id by rw[size_toArray,<-h2.length,length_map];exact LSm.range_any bs]
   exact k.later p (.bool _) (LSm.kept_iter hk) tk
theorem Nb(hh:P.A.handled=none){a b:Int}{t u:Tok}(p:post (.int (max a b)) P.H)(k:Kn P post Q):wpAny X.M P.A (call (.builtin "max") [.int a t,.int b u]) Q P.Ex P.s:=
 max_two_ints hh λh' tk hk=>by
  by_cases xW:b>a
  ·rw[if_pos xW];exact k.later p (by rw[Int.max_eq_right (Int.le_of_lt xW)];exact .int _ _) hk tk
  ·rw[if_neg xW];exact k.later p (by rw[Int.max_eq_left (Int.not_lt.mp xW)];exact .int _ _) hk tk
theorem Nc(r:aY P.w v x)(p:aH (cS P.H v) λxs=>post (.aC xs) P.H)(k:Kn P post Q):wpAny X.M P.A (call (.type "tuple") [x]) Q P.Ex P.s:=
 aH.k p λvs e p=>bX r e (λx=>wpAny X.M P.A (call (.type "tuple") [x]) Q P.Ex P.s) λZ a xs m Z Z Z h1 h2 h3=>call_tuple_list (iJ h1) (λh' hk=>
  have e:aA P.s.heap (h'.push (jH xs 0)):=λb o x=>get?_push_of_some _ (hk b o x)
  k _ _ p (P.ext e P.s.toks) _ (.aC (n:=0) (get?_push_size _ rfl) (h2.mono (P.ext e P.s.toks).S) h3 (SR.new (p:=⟨P.φ,h'⟩) (SR.ext (p:=P.w) P.R hk) (gF _ (le_refl _))).1)) (by rw[size_toArray,<-h2.length];unfold sizeLine;exact le_trans h3 (by decide))
theorem Nd{b:Bool}(p:post (.int (if b then 1 else 0)) P.H)(k:Kn P post Q):wpAny X.M P.A (call (.type "int") [.bool b]) Q P.Ex P.s:=call_int_bool (k.now p (.int _ _) _)
theorem As:∀(l aL:List Int),(l.foldl step_dedup aL).length<=aL.length+l.length/\((l.foldl step_dedup aL).length=aL.length+l.length↔l.Nodup/\∀x,x∈l->x∉aL)
 |[],aL=>⟨le_refl _,⟨λZ=>⟨nodup_nil,λZ h=>nomatch h⟩,λZ=>rfl⟩⟩
 |a::r,aL=>by
  rw[foldl_cons,length_cons,nodup_cons]
  by_cases h:a∈aL
  ·rw[show step_dedup aL a=aL from if_pos (c:=(aL.any λx=>x==a)=true) (any_eq_true.mpr ⟨a,h,beq_self_eq_true a⟩)]
   have:=As r aL
   refine⟨by lia,⟨λe=>absurd e (by lia),λe=>absurd h (e.2 a (.head _))⟩⟩
  ·rw[show step_dedup aL a=aL++[a] from if_neg λe=>(any_eq_true.mp e).elim λb x=>h ((eq_of_beq x.2:b=a)▸x.1)]
   have:=As r (aL++[a])
   rw[length_append,List.length_singleton] at this
   refine⟨by lia,⟨λe=>?_,λe=>?_⟩⟩
   ·have x:=this.2.mp (by lia)
    exact⟨⟨λhm=>x.2 a hm (mem_append.mpr (.inr (.head _))),x.1⟩,λy hy=>(mem_cons.mp hy).elim (λe=>e▸h) λhy hm=>x.2 y hy (mem_append.mpr (.inl hm))⟩
   ·have x:=this.2.mpr ⟨e.1.2,λy hy hm=>(mem_append.mp hm).elim (e.2 y (.tail _ hy)) λhm=>e.1.1 (mem_singleton.mp hm▸hy)⟩
    lia
theorem Au(is:List Int):(List.range is.length).map (λi=>is.getD i 0)=is:=by
 apply ext_getElem?
 intro i
 rw[getElem?_map]
 by_cases h:i<is.length
 ·rw[getElem?_range h,getElem?_eq_getElem h,map_some,getD_eq_getElem?_getD,getElem?_eq_getElem h];rfl
 ·rw[getElem?_eq_none (not_lt.mp h),getElem?_eq_none (by rw[length_range];exact not_lt.mp h)];rfl
theorem Nf(hh:P.A.handled=none)(r:aY P.w v x)(p:aH (jM P.H v) λis=>is.length<=1000/\∀n:Nat,(n=is.length↔is.Nodup)->post (.int n) P.H)(k:Kn P post Q):wpAny X.M P.A (call (.type "set") [x]) (λy bU=>wpAny X.M P.A (call (.builtin "len") [y]) Q P.Ex bU) P.Ex P.s:=
 aH.k p λis e p=>Ar r e (λx=>wpAny X.M P.A (call (.type "set") [x]) (λy bU=>wpAny X.M P.A (call (.builtin "len") [y]) Q P.Ex bU) P.Ex P.s) λa xs h1 hI=>by
  have hl:xs.toArray.size=is.length:=by rw[size_toArray,hI.length]
  refine PySem.call_set_list hh h1 hI (by rw[hl];have:=p.1;show is.length+1<4096;lia) λh' tk hs hk=>?_
  obtain⟨o,es,ep,t,e1,e2,e3,_,_,_,e4,e5⟩:=hs
  have em:firstMet (λi=>is.getD i 0) xs.toArray.size=is.foldl step_dedup []:=by unfold firstMet;rw[hl,Au]
  rw[em] at e5
  have d:=As is []
  rw[length_nil,zero_add] at d
  have ext:aA P.s.heap h':=λb o x=>hk b o (lt_size x) x
  refine call_len_set (s:=upd P.s h' tk) e1 e2 e3 e4 (by have:=p.1;lia) ?_
  exact k.later (p.2 es.size (by rw[e5];exact d.2.trans ⟨λx=>x.1,λx=>⟨x,λZ Z h=>nomatch h⟩⟩)) (.int _ _) ext _
theorem Ng(r:aY P.w v x)(p:aH (jM P.H v) λis=>is.length<64/\∀js:List Int,js.Perm is->js.Pairwise (·<=·)->kY (js.map .int) P.H post)(k:Kn P post Q):wpAny X.M P.A (call (.builtin "sorted") [x]) Q P.Ex P.s:=
 aH.k p λis e p=>Ar r e (λx=>wpAny X.M P.A (call (.builtin "sorted") [x]) Q P.Ex P.s) λa xs h1 hI=>sorted_ints h1 hI (by rw[hI.length];exact p.1) λout js q1 q2 q3=>(sortedAll_at P.s.heap xs out).elim λc he=>Kn.list k (λb o x=>sortedAll_old x) _ (gF _ (le_succ _)) he (zX q1) (by rw[length_map,q2.length_eq];exact le_trans (le_of_lt p.1) (by decide)) (p.2 js q2 q3) P.s.toks
end
section
variable{A:Around}{E:Value->Shared->Prop}{s:Shared}{R:Result->Shared->Prop}{kw:List (Str×Value)}
theorem xX:(toString "min"++toString ".loop":String)="min.loop":=by decide
theorem Nh{i j:Int}{t u:Tok}{Q:Value->Shared->Prop}(h:Q (.bool (decide (i<j))) s):wpAny X.M A (richCompare .Lt (.int i t) (.int j u)) Q E s:=
 richCompare_gives (op:=.Lt) (typeIs_int s _ t) (typeIs_int s _ u) PySem.F.slot_int_lt PySem.F.entry_int_lt (PySem.F.args_int_lt_2 _ _) (gives_int_lt _ _ t u) (λx=>nomatch x) h
theorem rC{h:Heap}{a b:Addr}{o:Obj}{f:Obj->Obj}(hn:b≠a)(e:h.get? b=some o):(h.update a f).get? b=some o:=(get?_update_other _ _ (Ne.symm hn)).trans e
theorem Ni{I S a:Addr}{vs:Array Value}(hh:A.handled=none)(xY:a≠I)(nk:S≠I)(xZ:S≠a){xs:List Value}{is:List Int}(hI:IntsAre xs is):∀(j:Nat) (s:Shared) (m:Int) (t:Tok) (c:Nat),vs.toList.drop j=xs->s.heap.IsListIter I a j->s.heap.IsList a vs ->
  s.heap.get? S=some {cls:=.type "list",dict:=none,data:=.seq #[.int m t,.int m t] c,slots:=#[]} ->
  (∀t' h' tk,(∀b o,b≠I->b≠S->s.heap.get? b=some o->h'.get? b=some o)->R (.ok (.ret (.int (is.foldl min m) t'))) {s with heap:=h',toks:=tk}) ->
  codeAny X.M A (.builtin "min.loop" ⟨[.ref I,.none,.ref S],kw⟩) R s:=by
 induction hI with
 |nil=>
  intro j s m t c hd eD hl hS hR
  refine codeAny_builtin PySem.F.entry_min_loop ?_
  rw[Around.under_plainId PySem.F.plain_min_loop _]
  refine(?_:wpAny _ A.in1 (seqItems? (.ref S) >>= _) _ _ s)
  refine wpAny_bind (wpAny_seqItems hS rfl ?_)
  refine(?_:wpAny _ A.in1 (tryCatch (pyNext (.ref I)) _ >>= _) _ _ s)
  refine wpAny_bind (wpAny_tryCatch (wpAny_pyNext_list_end hh eD hl (by rw[<-getElem?_toList];exact List.getElem?_eq_none_iff.mpr (drop_eq_nil_iff.mp hd)) λh' he=>?_))
  refine(?_:wpAny _ A.in1 (updateSeq S (λZ=>#[]) >>= _) _ _ _)
  exact wpAny_bind (wpAny_updateSeq (he S _ nk hS) rfl (wpAny_bind (wpAny_letGo (wpAny_pure (hR t _ s.toks λb o hI hS e=>rC hS (he b o hI e))))))
 |cons i u h ih=>
  intro j s m t c hd eD hl hS hR
  have hx:vs[j]?=some (.int i u):=by rw[<-getElem?_toList,<-List.head?_drop,hd];rfl
  have tS:=(List.tail_drop (l:=vs.toList) (i:=j)).symm.trans (congrArg List.tail hd)
  refine codeAny_builtin PySem.F.entry_min_loop ?_
  rw[Around.under_plainId PySem.F.plain_min_loop _]
  refine(?_:wpAny _ A.in1 (seqItems? (.ref S) >>= _) _ _ s)
  refine wpAny_bind (wpAny_seqItems hS rfl ?_)
  refine(?_:wpAny _ A.in1 (tryCatch (pyNext (.ref I)) _ >>= _) _ _ s)
  refine wpAny_bind (wpAny_tryCatch (wpAny_pyNext_list_item eD hl hx λh' qZ lA=>?_))
  have nq:=lA.extBut S _ nk hS
  have fS:=hl.extBut lA.extBut xY
  refine(?_:wpAny _ A.in1 (tryCatch (holding [Value.int i u,Value.int i u] (richCompare .Lt (Value.int i u) (Value.int m t) >>= _)) _ >>= _) _ _ _)
  refine wpAny_bind (wpAny_tryCatch (wpAny_holding (wpAny_bind (Nh (wpAny_bind (wpAny_holding (wpAny_truthy_bool (wpAny_bind (wpAny_letGo (wpAny_pure ?_))))))))))
  by_cases hb:i<m
  ·rw[decide_eq_true hb]
   refine wpAny_bind (wpAny_updateSeq nq rfl (wpAny_bind (wpAny_letGo ?_)))
   rw[xX]
   exact wpAny_pure ⟨plainId_quiet PySem.F.plain_min_loop _,ih (j+1) _ i u _ tS (qZ.at λo e=>rC nk.symm e) (fS.at λo e=>rC xZ.symm e) (get?_update_self _ nq rfl) λt' vz tk hk=>by
    have:=hR t' vz tk λb o hI hS e=>hk b o hI hS (rC hS (lA.extBut b o hI e))
    rw[foldl_cons,Int.min_eq_right (Int.le_of_lt hb)] at this
    exact this⟩
  ·rw[decide_eq_false hb]
   refine wpAny_bind (wpAny_letGo ?_)
   rw[xX]
   exact wpAny_pure ⟨plainId_quiet PySem.F.plain_min_loop _,ih (j+1) _ m t c tS qZ fS nq λt' vz tk hk=>by
    have:=hR t' vz tk λb o hI hS e=>hk b o hI hS (lA.extBut b o hI e)
    rw[foldl_cons,Int.min_eq_left (Int.not_lt.mp hb)] at this
    exact this⟩
theorem Nj{I S a:Addr}{dn:Str}{d:Value}{c:Nat}{xs:List Value}{is:List Int}(hh:A.handled=none)(xY:a≠I)(nk:S≠I)(xZ:S≠a)(hI:IntsAre xs is)(eD:s.heap.IsListIter I a 0)(hl:s.heap.IsList a xs.toArray)
  (hS:s.heap.get? S=some {cls:=.type "list",dict:=none,data:=.seq #[] c,slots:=#[]})
  (hR:∀v h' tk,(is=[]/\v=d\/∃i r t,is=i::r/\v=.int (r.foldl min i) t)->(∀b o,b≠I->b≠S->s.heap.get? b=some o->h'.get? b=some o)->R (.ok (.ret v)) {s with heap:=h',toks:=tk}) :
  codeAny X.M A (.builtin "min.loop" ⟨[.ref I,.none,.ref S],[(dn,d)]⟩) R s:=by
 refine codeAny_builtin PySem.F.entry_min_loop ?_
 rw[Around.under_plainId PySem.F.plain_min_loop _]
 refine(?_:wpAny _ A.in1 (seqItems? (.ref S) >>= _) _ _ s)
 refine wpAny_bind (wpAny_seqItems hS rfl ?_)
 refine(?_:wpAny _ A.in1 (tryCatch (pyNext (.ref I)) _ >>= _) _ _ s)
 cases hI with
 |nil=>exact wpAny_bind (wpAny_tryCatch (wpAny_pyNext_list_end hh eD hl rfl λh' he=>wpAny_bind (wpAny_rule (wpAny_pure (hR d h' s.toks (.inl ⟨rfl,rfl⟩) λb o hI Z e=>he b o hI e)))))
 |cons i u h=>
  refine wpAny_bind (wpAny_tryCatch (wpAny_pyNext_list_item eD hl (x:=.int i u) rfl λh' qZ lA=>?_))
  have nq:=lA.extBut S _ nk hS
  refine(?_:wpAny _ A.in1 (updateSeq S (λZ=>#[.int i u,.int i u]) >>= _) _ _ _)
  refine wpAny_bind (wpAny_updateSeq nq rfl ?_)
  rw[xX]
  exact wpAny_pure ⟨plainId_quiet PySem.F.plain_min_loop _,Ni hh xY nk xZ h 1 _ i u _ rfl (qZ.at λo e=>rC nk.symm e) ((hl.extBut lA.extBut xY).at λo e=>rC xZ.symm e) (get?_update_self _ nq rfl) λt' vz tk hk=>hR _ vz tk (.inr ⟨i,_,t',rfl,rfl⟩) λb o hI hS e=>hk b o hI hS (rC hS (lA.extBut b o hI e))⟩
theorem Nk{id:String}{b:Builtin}{args:List Value}{Q:Value->Shared->Prop}(hk:builtinKind id=none)(hp:plainId id=true)(hb:entryFor table id=some b)(ha:argsOk id ⟨args,kw⟩)
  (hc:wpAny X.M A.in1 (b ⟨args,kw⟩) (λfin s'=>match fin with
   |.done f=>(match(Except.ok f:Result) with | .ok (.ret v)=>Q v s' | .ok _=>False | .error e=>E e s')
   |.again c'=>c'.quiet=true/\codeAny X.M A c' (λr s'=>match r with | .ok (.ret v)=>Q v s' | .ok _=>False | .error e=>E e s') s') E s) :
  wpAny X.M A (call (.builtin id) args kw) Q E s:=by
 refine wpAny_call (codeAny_call_builtin hp hb ?_)
 rw[checkBuiltinCall,hk]
 cases Nl:Manifest.signature? id with
 |none=>exact wpAny_pure hc
 |some sig=>
  have rD:Bind.checkArgs id sig ⟨args,kw⟩=pure ():=by simpa only[argsOk,Nl] using ha
  simp only[rD]
  exact wpAny_pure hc
theorem Nm{Q:Value->Shared->Prop}{l:Addr}{xs:List Value}{is:List Int}{d:Value}(hh:A.handled=none)(hl:s.heap.IsList l xs.toArray)(hI:IntsAre xs is)
  (hQ:∀v h' tk,(is=[]/\v=d\/∃i r t,is=i::r/\v=.int (r.foldl min i) t)->(∀b o,s.heap.get? b=some o->h'.get? b=some o)->Q v {s with heap:=h',toks:=tk}) :
  wpAny X.M A (call (.builtin "min") [.ref l] [("default",d)]) Q E s:=by
 have cU:l<s.heap.objs.size:=hl.elim λZ e=>lt_size e.1
 refine Nk PySem.F.kind_min PySem.F.plain_min PySem.F.entry_min (by unfold argsOk;rfl) ?_
 refine(?_:wpAny _ A.in1 (Builtin.Builtins.bindParams "min" ["key","default"] 0 ⟨[],[("default",d)]⟩ >>= _) _ _ s)
 refine wpAny_bind (wpAny_of_eq (show Builtin.Builtins.bindParams "min" ["key","default"] 0 ⟨[],[("default",d)]⟩=pure [none,some d] from rfl) (wpAny_bind (wpAny_pure (wpAny_bind (wpAny_pyIter_list hl (wpAny_bind (wpAny_newObj_type ?_)))))))
 rw[xX]
 have e1:(s.heap.push {cls:=.type "list_iterator",data:=.fields #[.ref l,.int 0 0]}).objs.size=s.heap.objs.size+1:=Heap.size_push ..
 exact wpAny_pure ⟨plainId_quiet PySem.F.plain_min_loop _,Nj (I:=s.heap.objs.size) (S:=(s.heap.push {cls:=.type "list_iterator",data:=.fields #[.ref l,.int 0 0]}).objs.size) hh (ne_of_lt cU) (by rw[e1];exact Nat.succ_ne_self _) (by rw[e1];exact ne_of_gt (Nat.lt_succ_of_lt cU)) hI ⟨_,get?_push_of_some _ (get?_push_size _ rfl),rfl,rfl⟩ ((hl.push _).push _) (get?_push_size _ rfl)
  λv h' tk hv hk=>hQ v h' tk hv λb o e=>hk b o (ne_of_lt (lt_size e)) (by rw[e1];exact ne_of_lt (Nat.lt_succ_of_lt (lt_size e))) (get?_push_of_some _ (get?_push_of_some _ e))⟩
end
end Mine
namespace Mine.K
open PySem PySem.W PyProof.Rows
noncomputable abbrev g(p:Array Nat)(i:Nat):Nat:=p.getD i 0
theorem oA(p:Array Nat)(i:Nat):g p i=p[i]?.getD 0:=Array.getD_eq_getD_getElem?
section
variable{N:Nat}{lt:Nat->Nat->Bool}{p:Array Nat}{s:Shared}
noncomputable def cm(N:Nat)(lt:Nat->Nat->Bool)(i j:Nat)(C:Bool->Shared->Prop)(s:Shared):Prop:=(i<N/\j<N/\i≠j)/\C (lt i j) s
theorem Fd{α:Type}{cmp:Nat->Nat->(Bool->Shared->Prop)->Shared->Prop}{Q:α->Shared->Prop}(hc:∀i j C,i<N->j<N->i≠j->C (lt i j) s->cmp i j C s):∀t:KasT α,t.kasWp (cm N lt) Q s->t.kasWp cmp Q s
 |.ret _,h=>h
 |.ask i j k,h=>hc i j _ h.1.1 h.1.2.1 h.1.2.2 (Fd hc (k (lt i j)) h.2)
structure Od(N:Nat)(lt:Nat->Nat->Bool):Prop where
 tr:∀a b c,lt a b=false->lt b c=false->lt a c=false
 as:∀a b,lt a b=true->lt b a=false
 tt:∀a b,a<N->b<N->a≠b->lt a b=false->lt b a=true
noncomputable def Pm(N:Nat)(p:Array Nat):Prop:=p.toList.Perm (List.range N)
theorem Pm.sz(h:Pm N p):p.size=N:=by have:=h.length_eq;rw[length_range] at this;exact this
theorem Pm.bd(h:Pm N p)(h0:0<N)(i:Nat):g p i<N:=by
 rw[oA]
 cases e:p[i]? with
 |none=>exact h0
 |some x=>exact mem_range.mp (h.mem_iff.mp (Array.mem_toList_iff.mpr (Array.mem_of_getElem? e)))
theorem Av{i:Nat}(h:i<p.size):p.toList[i]?=some (g p i):=by
 rw[getElem?_toList,oA,Array.getElem?_eq_getElem h];rfl
theorem Pm.nd(h:Pm N p){i j:Nat}(hi:i<N)(hj:j<N)(e:g p i=g p j):i=j:=by
 have n:p.toList.Nodup:=h.nodup_iff.mpr nodup_range
 have a:=Av (p:=p) (h.sz.symm▸hi)
 have b:=Av (p:=p) (h.sz.symm▸hj)
 rw[e] at a
 exact(getElem?_inj (show i<p.toList.length from(show p.toList.length=N from h.sz)▸hi) n).mp (a.trans b.symm)
theorem Pm.ask(h:Pm N p){i j:Nat}(hi:i<N)(hj:j<N)(e:i≠j):g p i<N/\g p j<N/\g p i≠g p j:=⟨h.bd (lt_of_le_of_lt (zero_le _) hi) i,h.bd (lt_of_le_of_lt (zero_le _) hi) j,λq=>e (h.nd hi hj q)⟩
theorem Pm.of(h:Pm N p){q:Array Nat}(hp:q.Perm p):Pm N q:=hp.toList.trans h
noncomputable def So(lt:Nat->Nat->Bool)(p:Array Nat)(k:Nat):Prop:=∀i j,i<=j->j<k->lt (g p j) (g p i)=false
theorem Od.self(o:Od N lt)(a:Nat):lt a a=false:=by
 cases e:lt a a with
 |false=>rfl
 |true=>exact e.symm.trans (o.as a a e)
theorem So.of(o:Od N lt):∀{k:Nat},(∀i,1<=i->i<k->lt (g p i) (g p (i - 1))=false)->So lt p k:=λ{k} h i j rE hj=>by
 induction j with
 |zero=>rw[Nat.le_zero.mp rE];exact o.self _
 |succ j ih=>
  rcases lt_or_ge i (j+1) with hl|hl
  ·exact o.tr _ _ _ (h (j+1) (succ_pos _) hj) (ih (le_of_lt_succ hl) (Nat.lt_of_succ_lt hj))
  ·rw[le_antisymm rE hl];exact o.self _
theorem Aw(hP:Pm N p){Q:Nat->Shared->Prop}:∀(f n:Nat),1<=n->n+f<=N->(∀m,n<=m->m<=n+f->(∀i,n<=i->i<m->lt (g p i) (g p (i - 1))=false)->(m<n+f->lt (g p m) (g p (m - 1))=true)->Q m s)->(kas_asc p f n).kasWp (cm N lt) Q s
 |0,n,_,_,h=>h n (le_refl _) (le_refl _) (λi a b=>absurd b (not_lt.mpr a)) λh=>absurd h (lt_irrefl _)
 |f+1,n,h1,hn,h=>⟨hP.ask (by lia) (by lia) (by lia),by
  dsimp only
  cases e:lt (p.getD n 0) (p.getD (n - 1) 0) with
  |true=>rw[if_pos rfl];exact h n (le_refl _) (le_add_right _ _) (λi a b=>absurd b (not_lt.mpr a)) λZ=>e
  |false=>
   rw[if_neg Bool.false_ne_true]
   exact Aw hP f (n+1) (Nat.le_succ_of_le h1) (by lia) λm a b c d=>h m (le_of_succ_le a) (by lia) (λi ha hb=>(lt_or_ge n i).elim (λx=>c i x hb) λx=>by rw[le_antisymm x ha];exact e) λx=>d (by lia)⟩
theorem Fe(o:Od N lt)(hP:Pm N p)(h0:0<N){Q:Array Nat×Nat×Nat->Shared->Prop}:∀(f n:Nat),1<=n->n+f<=N->(∀m,n<=m->m<=n+f->(∀i,n<=i->i<m->lt (g p i) (g p (i - 1))=true)->Q (p,m,0) s)->(kas_desc f p n 0).kasWp (cm N lt) Q s
 |0,n,_,_,h=>h n (le_refl _) (le_refl _) λi a b=>absurd b (not_lt.mpr a)
 |f+1,n,h1,hn,h=>⟨hP.ask (by lia) (by lia) (by lia),by
  dsimp only
  cases e:lt (p.getD n 0) (p.getD (n - 1) 0) with
  |true=>
   rw[if_pos rfl,if_neg (lt_irrefl _)]
   exact Fe o hP h0 f (n+1) (Nat.le_succ_of_le h1) (by lia) λm a b c=>h m (le_of_succ_le a) (by lia) λi ha hb=>(lt_or_ge n i).elim (λx=>c i x hb) λx=>by rw[le_antisymm x ha];exact e
  |false=>
   rw[if_neg Bool.false_ne_true]
   have d:=o.tt _ _ (hP.bd h0 n) (hP.bd h0 (n - 1)) (λq=>by have:=hP.nd (by lia) (by lia) q;lia) e
   refine⟨hP.ask (by lia) (by lia) (by lia),?_⟩
   dsimp only
   rw[show lt (p.getD (n - 1) 0) (p.getD n 0)=true from d,if_pos rfl]
   exact h n (le_refl _) (le_add_right _ _) λi a b=>absurd b (not_lt.mpr a)⟩
theorem Ff{n i:Nat}(hn:n<=p.size):g (kas_rev p 0 n) i=if i<n then g p (n - 1 - i) else g p i:=by
 rw[oA]
 unfold kas_rev
 rw[getElem?_mirror_all hn,zero_add]
 by_cases h:i<n
 ·rw[if_pos ⟨zero_le _,h⟩,if_pos h,<-oA]
 ·rw[if_neg λx=>h x.2,if_neg h,<-oA]
theorem Nn(o:Od N lt)(hP:Pm N p)(h0:0<N){n:Nat}(h1:1<=n)(hn:n<=N)(hd:∀i,1<=i->i<n->lt (g p i) (g p (i - 1))=true){Q:Nat×Array Nat->Shared->Prop}(h:∀m q,Pm N q->1<=m->m<=N->So lt q m->Q (m,q) s):(kas_tail3 n N p).kasWp (cm N lt) Q s:=by
 unfold kas_tail3
 rw[KasT.kasWp_bind]
 have vy:Pm N (kas_rev p 0 n):=hP.of (mirror_perm _ _ _ _)
 refine Aw vy _ _ h1 (by lia) λm a b c Z=>h m _ vy (le_trans h1 a) (by lia) (So.of o λi ha hb=>?_)
 rcases lt_or_ge i n with x|x
 ·rw[Ff (hP.sz▸hn),Ff (hP.sz▸hn),if_pos x,if_pos (by lia)]
  have:=hd (n - i) (by lia) (by lia)
  rw[show n - 1 - i=n - i - 1 by lia,show n - 1 - (i - 1)=n - i by lia]
  exact o.as _ _ this
 ·exact c i x hb
theorem Aq(o:Od N lt)(hP:Pm N p)(h2:2<=N){Q:Nat×Array Nat->Shared->Prop}(h:∀m q,Pm N q->1<=m->m<=N->So lt q m->Q (m,q) s):(kas_count N p).kasWp (cm N lt) Q s:=by
 have h0:0<N:=lt_of_lt_of_le (by decide) h2
 unfold kas_count
 rw[KasT.kasWp_bind]
 refine Aw hP _ _ (le_refl _) (by lia) λn a b c d=>?_
 have so:So lt p n:=So.of o λi ha hb=>c i ha hb
 by_cases e:n=N
 ·rw[if_pos (by rw[e];exact beq_self_eq_true N)];exact h n p hP a (by lia) so
 ·rw[if_neg (λx=>e (eq_of_beq x))]
  by_cases h1:1<n
  ·rw[if_pos h1]
   refine⟨hP.ask (by lia) (by lia) (by lia),?_⟩
   have:=o.tt _ _ (hP.bd h0 (n - 1)) (hP.bd h0 0) (λq=>by have:=hP.nd (by lia) (by lia) q;lia) (so 0 (n - 1) (zero_le _) (by lia))
   dsimp only
   rw[show lt (p.getD 0 0) (p.getD (n - 1) 0)=true from this,if_pos rfl]
   exact h n p hP a (by lia) so
  ·rw[if_neg h1]
   have e1:n=1:=by lia
   subst e1
   have d1:=d (by lia)
   unfold kas_descPart
   rw[KasT.kasWp_bind]
   refine Fe o hP h0 _ _ (by decide) (by lia) λm ha hb hc=>?_
   dsimp only
   rw[if_neg (lt_irrefl _)]
   exact Nn o hP h0 (by lia) (by lia) (λi x y=>(lt_or_ge 1 i).elim (λz=>hc i z y) λz=>by rw[le_antisymm z x];exact d1) h
theorem Ax(o:Od N lt)(hP:Pm N p){k:Nat}(hk:k<N)(so:So lt p k){Q:Nat->Shared->Prop}(h:∀l,l<=k->(∀i,i<l->lt (g p k) (g p i)=false)->(∀i,l<=i->i<k->lt (g p k) (g p i)=true)->Q l s):∀(f l r:Nat),r<=l+f->l<=r->r<=k->(∀i,i<l->lt (g p k) (g p i)=false)->(∀i,r<=i->i<k->lt (g p k) (g p i)=true)->(kas_place p k f l r).kasWp (cm N lt) Q s
 |0,l,r,hf,hl,hr,a,b=>h l (le_trans hl hr) a λi x y=>b i (by lia) y
 |f+1,l,r,hf,hl,hr,a,b=>by
  unfold kas_place
  by_cases e:l≥r
  ·rw[if_pos e];exact h l (le_trans hl hr) a λi x y=>b i (by lia) y
  ·rw[if_neg e]
   refine⟨hP.ask hk (by lia) (by lia),?_⟩
   dsimp only
   cases c:lt (p.getD k 0) (p.getD ((l+r)/2) 0) with
   |true=>
    rw[if_pos rfl]
    refine Ax o hP hk so h f l _ (by lia) (by lia) (by lia) a λi x y=>?_
    cases z:lt (g p k) (g p i) with
    |true=>rfl
    |false=>exact(o.tr _ _ _ z (so _ i x y)).symm.trans c
   |false=>
    rw[if_neg Bool.false_ne_true]
    exact Ax o hP hk so h f _ r (by lia) (by lia) hr (λi x=>o.tr _ _ _ c (so i _ (le_of_lt_succ x) (by lia))) b
theorem Fg{k l i:Nat}(hk:k<p.size)(hl:l<=k):g (bubble p k (k - l)) i=if i=l then g p k else if l<i/\i<=k then g p (i - 1) else g p i:=by
 rw[oA,getElem?_bubble hk _ (sub_le _ _),show k - (k - l)=l by lia]
 by_cases h:i=l
 ·rw[if_pos h,if_pos h,<-oA]
 ·rw[if_neg h,if_neg h]
  by_cases h2:l<i/\i<=k
  ·rw[if_pos h2,if_pos h2,<-oA]
  ·rw[if_neg h2,if_neg h2,<-oA]
theorem Fh(o:Od N lt)(h0:0<N){Q:Array Nat->Shared->Prop}(h:∀q,Pm N q->So lt q N->Q q s):∀(f:Nat) (p:Array Nat) (k:Nat),Pm N p->So lt p k->k+f=N->(kas_bin f p k).kasWp (cm N lt) Q s
 |0,p,k,hP,so,e=>h p hP (e▸so)
 |f+1,p,k,hP,so,e=>by
  unfold kas_bin
  rw[KasT.kasWp_bind]
  refine Ax o hP (by lia) so (λl hl a b=>?_) k 0 k (by lia) (zero_le _) (le_refl _) (λi x=>absurd x (not_lt_zero _)) λi x y=>absurd y (not_lt.mpr x)
  have hk:k<p.size:=hP.sz▸by lia
  refine Fh o h0 h f _ _ (hP.of (bubble_perm _ _ _)) (So.of o λi x y=>?_) (by lia)
  rw[Fg hk hl,Fg hk hl]
  rcases Nat.lt_trichotomy i l with z|z|z
  ·rw[if_neg (ne_of_lt z),if_neg (λq=>absurd q.1 (not_lt.mpr (le_of_lt z))),if_neg (by lia),if_neg (by lia)]
   exact so _ _ (sub_le _ _) (by lia)
  ·rw[if_pos z,if_neg (by lia),if_neg (by lia)]
   exact a _ (by lia)
  ·rw[if_neg (ne_of_gt z),if_pos ⟨z,by lia⟩]
   by_cases w:i - 1=l
   ·rw[if_pos w]
    exact o.as _ _ (b _ (by lia) (by lia))
   ·rw[if_neg w,if_pos ⟨by lia,by lia⟩]
    exact so _ _ (sub_le _ _) (by lia)
theorem Np(o:Od N lt)(h2:2<=N){Q:Array Nat->Shared->Prop}(h:∀q,Pm N q->So lt q N->Q q s):(kas_sort N).kasWp (cm N lt) Q s:=by
 unfold kas_sort
 rw[KasT.kasWp_bind]
 refine Aq o (show Pm N (List.range N).toArray from Perm.refl _) h2 λm q hq h1 hm so=>?_
 dsimp only
 by_cases e:m<N
 ·rw[if_pos e]
  refine Fh o (lt_of_lt_of_le (by decide) h2) h _ _ _ hq (by rw[Nat.max_eq_left h1];exact so) (by rw[Nat.max_eq_left h1];lia)
 ·rw[if_neg e]
  exact h q hq (le_antisymm hm (not_lt.mp e)▸so)
end
theorem Ay(a b:Int)(r t:List Int):hZ (a::r) (b::t)=if a=b then hZ r t else decide (a<b):=rfl
theorem ya{a:Int}{r t:List Int}:hZ (a::r) (a::t)=hZ r t:=(Ay _ _ _ _).trans (if_pos rfl)
theorem oC{a b:Int}{r t:List Int}(h:a≠b):hZ (a::r) (b::t)=decide (a<b):=(Ay _ _ _ _).trans (if_neg h)
theorem Fi:∀a b c:List Int,hZ a b=false->hZ b c=false->hZ a c=false
 |_,_,[],_,_=>by rename_i a _ _ _;cases a<;>rfl
 |[],[],_::_,_,h=>h
 |[],_::_,_::_,h,_=>Bool.noConfusion (show true=false from h)
 |_::_,[],_::_,_,h=>Bool.noConfusion (show true=false from h)
 |x::a,y::b,z::c,h,h'=>by
  by_cases e:x=y
  ·subst e
   rw[ya] at h
   by_cases e':x=z
   ·subst e';rw[ya] at h' ⊢;exact Fi a b c h h'
   ·rw[oC e'] at h' ⊢;exact h'
  ·rw[oC e] at h
   have h1:=of_decide_eq_false h
   by_cases e':y=z
   ·subst e';rw[oC e];exact decide_eq_false h1
   ·rw[oC e'] at h'
    have h2:=of_decide_eq_false h'
    rw[oC (by lia)];exact decide_eq_false (by lia)
theorem Fj:∀a b:List Int,hZ a b=true->hZ b a=false
 |[],[],h=>Bool.noConfusion (show false=true from h)
 |[],_::_,_=>rfl
 |_::_,[],h=>Bool.noConfusion (show false=true from h)
 |x::a,y::b,h=>by
  by_cases e:x=y
  ·subst e;rw[ya] at h ⊢;exact Fj a b h
  ·rw[oC e] at h
   have:=of_decide_eq_true h
   rw[oC (Ne.symm e)];exact decide_eq_false (by lia)
theorem Az:∀a b:List Int,a≠b->hZ a b=false->hZ b a=true
 |[],[],h,_=>absurd rfl h
 |[],_::_,_,h=>Bool.noConfusion (show true=false from h)
 |_::_,[],_,_=>rfl
 |x::a,y::b,n,h=>by
  by_cases e:x=y
  ·subst e;rw[ya] at h ⊢;exact Az a b (λq=>n (q▸rfl)) h
  ·rw[oC e] at h
   have:=of_decide_eq_false h
   rw[oC (Ne.symm e)];exact decide_eq_true (by lia)
noncomputable def KT(h:Heap)(v:Value)(ks:List Int):Prop:=∃(a:Addr) (is rest:List Value) (n:Nat),v=.ref a/\h.get? a=some (jH (is++rest) n)/\IntsAre is ks
theorem KT.keep{h h':Heap}{v:Value}{ks:List Int}(x:KT h v ks)(k:∀a o,h.get? a=some o->o.cls=.type "tuple"->h'.get? a=some o):KT h' v ks:=by
 obtain⟨a,is,rest,n,e,ho,hI⟩:=x
 exact⟨a,is,rest,n,e,k a _ ho rfl,hI⟩
section
variable{prog:Program}{w:World}{A:Around}{E:Value->Shared->Prop}{s:Shared}
theorem Nq{f:Bool}{i j:Int}{t u:Tok}{R:Bool->Shared->Prop}(h:R (decide (i<j)) s):wpAny (model prog w) A (oneLt' f (.int i t) (.int j u)) R E s:=by
 cases f with
 |true=>exact oneLt_int h
 |false=>exact kat_one _ _ (wpAny_lt_int h)
theorem Fk{b fin:Bool}{Q:Bool->Shared->Prop}{rest rest':List Value}:∀{is js:List Value} {ks ls:List Int} (i:Nat),IntsAre is ks->IntsAre js ls->ks.length=ls.length->ks≠ls->Q (hZ ks ls) s->KatLex prog w A b fin Q ((is++rest).zip (js++rest')) i s
 |_,_,_,_,_,.nil,.nil,_,n,_=>absurd rfl n
 |_,_,_,_,i,.cons x t hx,.cons y u hy,l,n,q=>by
  refine kat_cons (wpAny_eqBool_int ?_)
  rw[Ay] at q
  by_cases e:x=y
  ·subst e
   rw[if_pos rfl] at q
   rw[beq_self_eq_true]
   exact kat_yes (Fk (i+1) hx hy (Nat.succ.inj l) (λz=>n (z▸rfl)) q)
  ·rw[if_neg e] at q
   rw[beq_eq_false_iff_ne.mpr e]
   exact kat_no (Nq q)
 |_,_,_,_,_,.nil,.cons _ _ _,l,_,_=>nomatch l
 |_,_,_,_,_,.cons _ _ _,.nil,l,_,_=>nomatch l
theorem Nr{b:Bool}{x y:Value}{ks ls:List Int}{Q:Bool->Shared->Prop}(hx:KT s.heap x ks)(hy:KT s.heap y ls)(l:ks.length=ls.length)(n:ks≠ls)(q:Q (hZ ks ls) s):wpAny (model prog w) A (keyLt' (tuples' b) x y) Q E s:=by
 obtain⟨a,is,rest,m,rfl,ho,hI⟩:=hx
 obtain⟨c,js,rest',m',rfl,Nt,hJ⟩:=hy
 exact kat_lt ho rfl Nt rfl (Fk 0 hI hJ l n q)
theorem Fl{α β:Type}{f:α->Sem β}{P:α->β->Prop}{Q:List β->Shared->Prop}:∀l:List α,(∀x∈l,∀R:β->Shared->Prop,(∀y,P x y->R y s)->wpAny (model prog w) A (f x) R E s)->(∀ys:List β,(∀y∈ys,∃x,P x y)->Q ys s)->wpAny (model prog w) A (l.mapM f) Q E s
 |[],_,q=>by rw[List.mapM_nil];exact wpAny_pure (q [] λy h=>nomatch h)
 |x::r,h,q=>by
  rw[List.mapM_cons]
  exact wpAny_bind (h x mem_cons_self _ λy hy=>wpAny_bind (Fl r (λz hz=>h z (.tail _ hz)) λys AA=>wpAny_pure (q (y::ys) λu hu=>(mem_cons.mp hu).elim (λe=>⟨x,e▸hy⟩) (AA u))))
theorem Nu{v:Value}{k:Int}{ks:List Int}(hv:KT s.heap v (k::ks)){R:Option Value->Shared->Prop}(h:∀i t,R (some (.int i t)) s):wpAny (model prog w) A (firstOfTuple' v) R E s:=by
 obtain⟨a,is,rest,n,rfl,ho,hI⟩:=hv
 cases hI with
 |cons _ t hI=>
  rw[kas_first_eq]
  refine wpAny_bind (wpAny_typeOf ⟨_,ho,rfl⟩ ?_)
  rw[if_neg (by decide)]
  exact wpAny_bind (listItems_at ho rfl (wpAny_pure (h k t)))
theorem Fm:∀{vs:List Value},(∀v∈vs,∃i t,v=.int i t)->∃ns,IntsAre vs ns
 |[],_=>⟨[],.nil⟩
 |v::r,h=>by
  obtain⟨i,t,rfl⟩:=h v mem_cons_self
  obtain⟨ns,hn⟩:=Fm λv hv=>h v (.tail _ hv)
  exact⟨i::ns,.cons i t hn⟩
theorem Nv{keys:List Value}(hk:∀v∈keys,∃k ks,KT s.heap v (k::ks)){R:SortKind->Shared->Prop}(h:∀b,R (tuples' b) s):wpAny (model prog w) A (keyKind' keys.toArray) R E s:=by
 rw[keyKind'_eq,List.mapM_toArray]
 refine wpAny_bind (wpAny_map (Fl (P:=λ(_:Value) y=>∃i t,y=some (.int i t)) keys (λv hv R hR=>(hk v hv).elim λk x=>x.elim λks x=>Nu x λi t=>hR _ ⟨i,t,rfl⟩) λys AA=>?_))
 have nu:∀y∈ys,∃i t,y=some (Value.int i t):=λy hy=>(AA y hy).elim λZ z=>z
 rw[if_pos (by
  rw[List.all_toArray,all_eq_true]
  intro y hy
  obtain⟨i,t,rfl⟩:=nu y hy
  rfl)]
 refine wpAny_bind (wpAny_rule ?_)
 obtain⟨ns,hI⟩:∃ns,IntsAre (ys.filterMap id) ns:=Fm λv hv=>by
  obtain⟨y,hy,e⟩:=List.mem_filterMap.mp hv
  obtain⟨i,t,rfl⟩:=nu y hy
  cases e;exact⟨i,t,rfl⟩
 rw[List.filterMap_toArray,oneTypeOnly'_eq,List.mapM_toArray,mapM_typeOf_ints hI,map_pure,pure_bind]
 split
 ·exact wpAny_pure (h _)
 ·exact wpAny_pure (h _)
end
noncomputable def pQ(kss:List (List Int))(i j:Nat):Bool:=hZ (kss.getD i []) (kss.getD j [])
theorem Fo{kss:List (List Int)}(nd:kss.Nodup):Od kss.length (pQ kss):=⟨λa b c=>Fi _ _ _,λa b=>Fj _ _,λa b ha hb n h=>Az _ _ (λe=>n (by
 rw[getD_eq_getElem?_getD,getD_eq_getElem?_getD,getElem?_eq_getElem ha,getElem?_eq_getElem hb] at e
 exact(getElem?_inj ha nd).mp (by rw[getElem?_eq_getElem ha,getElem?_eq_getElem hb];exact congrArg some e))) h⟩
noncomputable def lB(h:Heap)(m:Nat)(vs:List Value)(kss:List (List Int)):Prop:=kss.length=vs.length/\(∀(i:Nat) v k,vs[i]?=some v->kss[i]?=some k->KT h v k)/\(∀k∈kss,k.length=m+1)/\kss.Nodup
noncomputable def mq(vs:List Value)(p:Array Nat):List Value:=p.toList.map λi=>vs.getD i .none
section
variable{prog:Program}{w:World}{A:Around}{E:Value->Shared->Prop}{s:Shared}{m:Nat}{vs:List Value}{kss:List (List Int)}
theorem lB.keep{h h':Heap}(x:lB h m vs kss)(k:∀a o,h.get? a=some o->o.cls=.type "tuple"->h'.get? a=some o):lB h' m vs kss:=⟨x.1,λi v q e e'=>(x.2.1 i v q e e').keep k,x.2.2⟩
theorem lB.at{h:Heap}(x:lB h m vs kss){i:Nat}(hi:i<vs.length):KT h (vs.getD i .none) (kss.getD i [])/\(kss.getD i []).length=m+1:=by
 have hj:i<kss.length:=x.1▸hi
 rw[getD_eq_getElem?_getD,getD_eq_getElem?_getD,getElem?_eq_getElem hi,getElem?_eq_getElem hj]
 exact⟨x.2.1 i _ _ (getElem?_eq_getElem hi) (getElem?_eq_getElem hj),x.2.2.1 _ (getElem_mem hj)⟩
theorem lB.first{h:Heap}(x:lB h m vs kss):∀v∈vs,∃k ks,KT h v (k::ks):=λv hv=>by
 obtain⟨i,hi,e⟩:=List.getElem_of_mem hv
 have y:=x.at hi
 rw[getD_eq_getElem?_getD,getElem?_eq_getElem hi] at y
 have e:vs[i]=v:=e
 rw[show(some vs[i]).getD Value.none=v from e] at y
 cases ek:kss.getD i [] with
 |nil=>rw[ek] at y;exact nomatch y.2
 |cons k ks=>rw[ek] at y;exact⟨k,ks,y.1⟩
theorem Nw{f:Bool}(hv:lB s.heap m vs kss)(h2:2<=vs.length)(nw:vs.length<64){Q:Unit->SortSt->Shared->Prop}
  (h:∀p kB,Pm vs.length p->So (pQ kss) p vs.length->(arrOf kB).map (·.2)=(mq vs p).toArray->failedOf kB=none->Q () kB s):kasC (model prog w) A E sortRuns' Q (SortSt.mk' (tuples' f) (vs.toArray.zip vs.toArray) #[] 7 none) s:=by
 have e:SortSt.mk' (tuples' f) (vs.toArray.zip vs.toArray) #[] 7 none=kas_st (tuples' f) (pairsOf vs) (toArray (List.range vs.length)):=by
  unfold kas_st
  rw[<-pairsOf_size vs,kas_range];rfl
 rw[e]
 have sz:(pairsOf vs).size=vs.length:=pairsOf_size vs
 refine kas_runs (n:=vs.length) h2 nw (G:=λp s'=>s'=s/\Pm vs.length p/\So (pQ kss) p vs.length) (λp kB s' Z ha hf hg=>?_) (Fd (N:=vs.length) (lt:=pQ kss) (λi j C hi hj n hC=>?_) _ (Np (hv.1▸Fo hv.2.2.2) h2 λq a b=>⟨rfl,a,b⟩))
 ·obtain⟨rfl,hp,hs⟩:=hg
  refine h p kB hp hs ?_ hf
  rw[ha,Array.map_map]
  unfold mq
  refine Array.toList_inj.mp ?_
  rw[Array.toList_map]
  refine map_congr_left λi Z=>?_
  exact congrArg Prod.snd (kas_item_eq vs i)
 ·unfold kas_cmp
  rw[kas_item_eq,kas_item_eq]
  have a:=hv.at hi
  have b:=hv.at hj
  refine Nr a.1 b.1 (a.2.trans b.2.symm) (λe=>n ?_) hC
  rw[getD_eq_getElem?_getD,getD_eq_getElem?_getD,getElem?_eq_getElem (hv.1▸hi),getElem?_eq_getElem (hv.1▸hj)] at e
  exact(getElem?_inj (hv.1▸hi) hv.2.2.2).mp (by rw[getElem?_eq_getElem (hv.1▸hi),getElem?_eq_getElem (hv.1▸hj)];exact congrArg some e)
end
section
variable{prog:Program}{w:World}{A:Around}{E:Value->Shared->Prop}{s:Shared}{m:Nat}{vs:List Value}{kss:List (List Int)}
theorem Fq{p:Array Nat}(h:Pm vs.length p):(mq vs p).toArray.size=vs.length:=by
 unfold mq
 rw[size_toArray,length_map,length_toList,h.sz]
theorem Ny:(mq vs (List.range vs.length).toArray)=vs:=by
 unfold mq
 refine ext_getElem? λi=>?_
 rw[getElem?_map]
 by_cases h:i<vs.length
 ·rw[getElem?_range h,getElem?_eq_getElem h,map_some,getD_eq_getElem?_getD,getElem?_eq_getElem h];rfl
 ·rw[getElem?_eq_none (by rw[length_range];exact not_lt.mp h),getElem?_eq_none (not_lt.mp h)];rfl
theorem Nz{a:Addr}{n:Nat}{P:PySem.Fin->Shared->Prop}(ho:s.heap.get? a=some (seqObj "list" vs.toArray n))(hv:lB s.heap m vs kss)(nw:vs.length<64)
  (h:∀p:Array Nat,Pm vs.length p->So (pQ kss) p vs.length->P (.done (.ret .none)) {s with heap:=sortedHeap s.heap a vs (mq vs p).toArray}):wpAny (model prog w) A (Builtin.«list.sort» ⟨[.ref a],[]⟩) P E s:=by
 rw[list_sort_plain]
 have ha:a<s.heap.objs.size:=lt_size ho
 have hb:vs.length<=sizeLine:=by rw[sizeLine_eq];exact le_trans (le_of_lt nw) (by decide)
 refine wpAny_bind (listItems_at ho rfl ?_)
 refine wpAny_bind (listUpdate_at ho rfl ?_)
 obtain⟨e1,Fs⟩:∃e1,(s.heap.update a (Obj.mapSeq λZ=>#[])).get? a=some (seqObj "list" #[] e1):=⟨_,get?_update_seq ho (λZ=>#[])⟩
 refine wpAny_bind (seqEpoch_at Fs rfl ?_)
 refine wpAny_bind (wpAny_newTuple ?_)
 refine wpAny_bind (wpAny_newList ?_)
 refine wpAny_holding ?_
 have keep:∀b o,s.heap.get? b=some o->b≠a->(((s.heap.update a (Obj.mapSeq λZ=>#[])).push (seqObj "tuple" vs.toArray 0)).push (seqObj "list" #[] 0)).get? b=some o:=λb o e hb=>
  get?_push_of_some _ (get?_push_of_some _ (((SameBut.update s.heap a (Obj.mapSeq λZ=>#[])).2 b hb).trans e))
 have yb:(((s.heap.update a (Obj.mapSeq λZ=>#[])).push (seqObj "tuple" vs.toArray 0)).push (seqObj "list" #[] 0)).get? a=some (seqObj "list" #[] e1):=get?_push_of_some _ (get?_push_of_some _ Fs)
 refine(?_:wpAny (model prog w) A _ P E {s with heap:=((s.heap.update a (Obj.mapSeq λZ=>#[])).push (seqObj "tuple" vs.toArray 0)).push (seqObj "list" #[] 0)})
 have Ft:lB (((s.heap.update a (Obj.mapSeq λZ=>#[])).push (seqObj "tuple" vs.toArray 0)).push (seqObj "list" #[] 0)) m vs kss:=hv.keep λb o e hc=>keep b o e λq=>by
  subst q
  rw[ho] at e;cases e
  exact absurd (show Value.type "list"=Value.type "tuple" from hc) (by decide)
 dsimp only
 by_cases h2:vs.toArray.size<2
 ·rw[if_pos h2,if_pos h2]
  refine wpAny_bind (wpAny_pure ?_)
  rw[StateT.run_pure]
  refine wpAny_bind (wpAny_pure ?_)
  dsimp only
  have hp:Pm vs.length (List.range vs.length).toArray:=Perm.refl _
  have e:(arrOf (SortSt.mk' general' (vs.toArray.zip vs.toArray) #[] 7 none)).map (·.2)=(mq vs (List.range vs.length).toArray).toArray:=by
   rw[Ny]
   refine(?_:(vs.toArray.zip vs.toArray).map (·.2)=_)
   refine Array.toList_inj.mp ?_
   rw[Array.toList_map,Array.toList_zip]
   exact List.map_snd_zip (le_refl _)
  rw[e]
  refine wpAny_bind (seqEpoch_at yb rfl ?_)
  refine wpAny_bind (listUpdate_at yb rfl ?_ (hsz2:=by rw[Fq hp];exact Nat.le_succ_of_le hb))
  simp only[bne_self_eq_false,false_eq_true,if_false]
  refine wpAny_pure (h _ hp λi j rE hj=>?_)
  rw[size_toArray] at h2
  have e0:j=0:=by lia
  have e1:i=0:=by lia
  rw[e0,e1]
  exact Od.self (hv.1▸Fo hv.2.2.2) _
 ·rw[if_neg h2,if_neg h2]
  refine wpAny_bind (Nv Ft.first λf=>?_)
  rw[size_toArray] at h2
  have run:=Nw (prog:=prog) (w:=w) (A:=A) (E:=E) (f:=f) (Q:=λZ kB s'=>s'={s with heap:=((s.heap.update a (Obj.mapSeq λZ=>#[])).push (seqObj "tuple" vs.toArray 0)).push (seqObj "list" #[] 0)}/\∃p,Pm vs.length p/\So (pQ kss) p vs.length/\(arrOf kB).map (·.2)=(mq vs p).toArray/\failedOf kB=none) (s:={s with heap:=((s.heap.update a (Obj.mapSeq λZ=>#[])).push (seqObj "tuple" vs.toArray 0)).push (seqObj "list" #[] 0)}) Ft (not_lt.mp h2) nw λp kB a1 a2 a3 a4=>⟨rfl,p,a1,a2,a3,a4⟩
  refine wpAny_bind (wpAny_mono run ?_ λZ Z e=>e)
  rintro⟨⟨⟩,kB⟩ s' ⟨rfl,p,hp,hs,e,hf⟩
  dsimp only at e hf ⊢
  rw[e]
  refine wpAny_bind (seqEpoch_at yb rfl ?_)
  refine wpAny_bind (listUpdate_at yb rfl ?_ (hsz2:=by rw[Fq hp];exact Nat.le_succ_of_le hb))
  rw[hf]
  simp only[bne_self_eq_false,false_eq_true,if_false]
  exact wpAny_pure (h p hp hs)
theorem NA{l:Addr}{Q:Value->Shared->Prop}(hl:s.heap.IsList l vs.toArray)(hv:lB s.heap m vs kss)(nw:vs.length<64)
  (h:∀p:Array Nat,Pm vs.length p->So (pQ kss) p vs.length->Q (.ref (s.heap.objs.size+1)) {s with heap:=sortedAll s.heap vs (mq vs p).toArray}):wpAny (model prog w) A (call (.builtin "sorted") [.ref l]) Q E s:=by
 refine Calls.call_function_entry kind_sorted plain_sorted entry_sorted (args_sorted1 _) ?_
 unfold Builtin.«sorted»
 have hb:vs.length<=sizeLine:=by rw[sizeLine_eq];exact le_trans (le_of_lt nw) (by decide)
 refine wpAny_bind (m:=checkCount "sorted" 1 1 _) (wpAny_pure ?_)
 refine wpAny_bind (collect_list hl ?_ hb)
 refine wpAny_bind (wpAny_newList ?_ hb)
 have iu:((s.heap.push (seqObj "list" #[] 0)).update s.heap.objs.size (Obj.mapSeq (·++vs.toArray))).objs.size=s.heap.objs.size+1:=by
  rw[Heap.size_update,size_push']
 have Fu:(((s.heap.push (seqObj "list" #[] 0)).update s.heap.objs.size (Obj.mapSeq (·++vs.toArray))).push (seqObj "list" vs.toArray 0)).get? (s.heap.objs.size+1)=some (seqObj "list" vs.toArray 0):=by
  rw[<-iu];exact get?_push_size _ rfl
 refine(?_:wpAny _ _ _ _ _ {s with heap:=((s.heap.push (seqObj "list" #[] 0)).update s.heap.objs.size (Obj.mapSeq (·++vs.toArray))).push (seqObj "list" vs.toArray 0)})
 rw[iu]
 have keep:∀b o,s.heap.get? b=some o->o.cls=.type "tuple"->(((s.heap.push (seqObj "list" #[] 0)).update s.heap.objs.size (Obj.mapSeq (·++vs.toArray))).push (seqObj "list" vs.toArray 0)).get? b=some o:=λb o q Z=>
  get?_push_of_some _ (((SameBut.update _ s.heap.objs.size (Obj.mapSeq (·++vs.toArray))).2 b (ne_of_lt (lt_size q))).trans (get?_push_of_some _ q))
 refine wpAny_bind (wpAny_holding (wpAny_call_entry slot_list_sort ⟨_,Fu,rfl⟩ entry_list_sort (Nz Fu (hv.keep keep) nw λp a1 a2=>⟨_,rfl,?_⟩) (args_list_sort _)))
 exact wpAny_pure ⟨_,rfl,h p a1 a2⟩
end
end Mine.K
namespace Mine
open PySem PySem.Calls PyProof.Rows
section
variable{P:Pt}{v:V}{x:Value}{post:PQ}{Q:Value->Shared->Prop}{m:Nat}{us:List V}{xs:List Value}{ks:List (List Int)}{p:Array Nat}
theorem NB{u:V}{k:List Int}(r:aY P.w u x)(h:KV m u k):K.KT P.s.heap x k:=by
 obtain⟨rest,rfl,hl⟩:=h
 refine r.inv (λx=>K.KT P.s.heap x k) λa n ys h1 h2 h3 h4=>⟨a,ys.take k.length,ys.drop k.length,n,rfl,by rw[take_append_drop];exact h1,intsAre_of (p:=P.w) ?_⟩
 have t:=h2.take k.length
 rw[List.take_left' (length_map _)] at t
 exact t
theorem NC(r:ba P.w us xs)(h:u3 m us ks)(nd:ks.Nodup):K.lB P.s.heap m xs ks:=⟨h.1.symm.trans r.length,λi y k e1 e2=>by
 have hi:i<us.length:=by rw[r.length];exact(List.getElem?_eq_some_iff.mp e1).1
 refine r.get (getElem?_eq_getElem hi) λy' e ry=>?_
 rw[e1] at e;cases e
 exact NB ry (h.2 i _ k (getElem?_eq_getElem hi) e2),λk hk=>by
 obtain⟨i,hi,e⟩:=List.getElem_of_mem hk
 have hu:i<us.length:=h.1▸hi
 exact(h.2 i _ k (getElem?_eq_getElem hu) (e▸getElem?_eq_getElem hi)).elim λZ z=>z.2,nd⟩
theorem ba.pick{w:Ws}(r:ba w us xs):∀l:List Nat,(∀i∈l,i<us.length)->ba w (l.map λi=>us.getD i .none) (l.map λi=>xs.getD i .none)
 |[],_=>.nil
 |i::l,h=>by
  have hi:=h i mem_cons_self
  refine .cons ?_ (r.pick l λj hj=>h j (.tail _ hj))
  refine r.get (getElem?_eq_getElem hi) λy e ry=>?_
  refine(?_:aY w (us.getD i .none) (xs.getD i .none))
  rw[getD_eq_getElem?_getD,getD_eq_getElem?_getD,getElem?_eq_getElem hi,e]
  exact ry
theorem Fv{n:Nat}(h:K.Pm n p):∀i∈p.toList,i<n:=λi hi=>mem_range.mp (h.mem_iff.mp hi)
theorem ND(us:List V):(List.range us.length).map (λi=>us.getD i .none)=us:=by
 refine ext_getElem? λi=>?_
 rw[getElem?_map]
 by_cases h:i<us.length
 ·rw[getElem?_range h,getElem?_eq_getElem h,map_some,getD_eq_getElem?_getD,getElem?_eq_getElem h];rfl
 ·rw[getElem?_eq_none (by rw[length_range];exact not_lt.mp h),getElem?_eq_none (not_lt.mp h)];rfl
theorem NF(h:u3 m us ks)(hp:K.Pm us.length p):u3 m (p.toList.map λi=>us.getD i .none) (p.toList.map λi=>ks.getD i []):=⟨by rw[length_map,length_map],λj u k e1 e2=>by
 rw[getElem?_map] at e1 e2
 cases e:p.toList[j]? with
 |none=>rw[e] at e1;cases e1
 |some i=>
  rw[e] at e1 e2
  have hi:=Fv hp i (mem_of_getElem? e)
  have hk:i<ks.length:=h.1▸hi
  cases e1;cases e2
  refine(?_:KV m (us.getD i .none) (ks.getD i []))
  rw[getD_eq_getElem?_getD,getD_eq_getElem?_getD,getElem?_eq_getElem hi,getElem?_eq_getElem hk]
  exact h.2 i _ _ (getElem?_eq_getElem hi) (getElem?_eq_getElem hk)⟩
theorem NG{n:Nat}(hp:K.Pm n p)(hs:K.So (K.pQ ks) p n):(p.toList.map λi=>ks.getD i []).Pairwise λa b=>hZ b a=false:=by
 rw[List.pairwise_iff_getElem]
 intro i j hi hj rE
 rw[getElem_map,getElem_map]
 rw[length_map] at hi hj
 have e:∀i (h:i<p.toList.length),p.toList[i]=K.g p i:=λi h=>by
  have z:=K.Av (p:=p) (i:=i) h
  rw[getElem?_eq_getElem h] at z
  exact Option.some.inj z
 rw[e i hi,e j hj]
 exact hs i j (le_of_lt rE) (by rw[<-hp.sz];exact hj)
theorem NH(r:aY P.w v x)(p:aH (cS P.H v) λus=>u4 m us P.H post)(k:Kn P post Q):wpAny X.M P.A (call (.builtin "sorted") [x]) Q P.Ex P.s:=
 aH.k p λus e p=>bX r e (λx=>wpAny X.M P.A (call (.builtin "sorted") [x]) Q P.Ex P.s) λl a xs n Z Z Z h1 h2 h3=>by
  obtain⟨ks,hk,nw,nd,q⟩:=p
  have hx:us.length=xs.length:=h2.length
  refine K.NA (iJ h1) (NC h2 hk nd) (hx▸nw) λp hp hs=>?_
  rw[<-hx] at hp hs
  exact(sortedAll_at P.s.heap xs (K.mq xs p).toArray).elim λc he=>Kn.list k (λb o x=>sortedAll_old x) _ (gF _ (le_succ _)) he (h2.pick p.toList (Fv hp)) (by rw[length_map,length_toList,hp.sz];exact le_trans (le_of_lt nw) (by decide)) (q _ _ (NF hk hp) ((hp.map _).trans (by rw[ND])) (NG hp hs)) P.s.toks
end
section
variable{σ:Lv}{cs:List E}{es:List Expr}{g:Expr}{pos:Pos}
theorem NI{T:Value->List Value->Prop}{post:List V->Hp->Prop}{P:Fp σ}{Q:Value->Shared->Prop}{nm:Str}{y:Value}(G:Good X)(hg:dW σ.f nm g=true)(hm:(nm,y)∈mV)(hy:(∃T,y=.type T)\/∃T,y=.builtin T)(h:eA σ cs es)(p:mj σ.c cs P.ρ P.H post)(k:zW P.toPt cs.length post λxs bU=>wpAny X.M P.A (call y xs) Q P.Ex bU):wpAny X.M P.A (eval (.Call g es [] pos) P.env) Q P.Ex P.s:=
 hy.elim (λhy=>tP G hg hm hy h p k) λhy=>eX.k (G:=λg=>wpAny X.M P.A (eval (.Call g es [] pos) P.env) Q P.Ex P.s) hg λx np hg=>aR hg λe ho=>by
  obtain rfl:=eq_of_beq e
  obtain⟨T,rfl⟩:=hy
  exact wpAny_Call_NameR (pJ G P hm ho (Calls.callWith_builtin (h.plain P.env pos) (ot (h.plain P.env pos) (h.na P _ _ pos p k))))
theorem NJ{b:Bi}{q:Str×Nat}(hb:uI b=some q)(G:Good X){T:Prop}(k:∀y,(q.1,y)∈mV->((∃T,y=.type T)\/∃T,y=.builtin T) ->
  (∀(P:Pt) (vs:List V) (xs:List Value) (post:PQ) (Q:Value->Shared->Prop),P.A.handled=none->ba P.w vs xs->D0 b vs P.H post->Kn P post Q->wpAny X.M P.A (call y xs) Q P.Ex P.s)->T):T:=by
 have one:∀{y:Value} {f:Hp->V->PQ->Prop},(∀(P:Pt) (v:V) (x:Value) (post:PQ) (Q:Value->Shared->Prop),P.A.handled=none->aY P.w v x->f P.H v post->Kn P post Q->wpAny X.M P.A (call y [x]) Q P.Ex P.s) ->
   ∀(P:Pt) (vs:List V) (xs:List Value) (post:PQ) (Q:Value->Shared->Prop),P.A.handled=none->ba P.w vs xs->w1 vs (λv=>f P.H v post)->Kn P post Q->wpAny X.M P.A (call y xs) Q P.Ex P.s:=λh P vs xs post Q hh r p k=>
  w1.k p (λvs=>ba P.w vs xs->_) (λv p r=>r.k1 (λxs=>wpAny X.M P.A (call _ xs) Q P.Ex P.s) λx r=>h P v x post Q hh r p k) r
 cases b with
 |len=>cases hb;exact k _ (gX 0 (by decide)) (.inr ⟨_,rfl⟩) (one (f:=λH v post=>aH (kU H v) λl=>post (.int l.length) H) λP v x post Q hh r p k=>M8 G r p k)
 |any=>cases hb;exact k _ (gX 10 (by decide)) (.inr ⟨_,rfl⟩) (one (f:=λH v post=>aH ((cS H v).bind i0) λbs=>post (.bool (bs.any id)) H) λP v x post Q hh r p k=>Na hh r p k)
 |max2=>cases hb;exact k _ (gX 12 (by decide)) (.inr ⟨_,rfl⟩) λP vs xs post Q hh r p k=>w2.k p (λvs=>ba P.w vs xs->_) (λu v p r=>r.k2 (λxs=>wpAny X.M P.A (call _ xs) Q P.Ex P.s) λx y rx ry=>fv.k p (λu=>aY P.w u x->_) (λa p rx=>fv.k p (λv=>aY P.w v y->_) (λb p ry=>rx.inv (λx=>wpAny X.M P.A (call _ [x,y]) Q P.Ex P.s) λt=>ry.inv (λy=>wpAny X.M P.A (call _ [_,y]) Q P.Ex P.s) λt'=>Nb hh p k) ry) rx) r
 |tupleOf=>cases hb;exact k _ (gX 4 (by decide)) (.inl ⟨_,rfl⟩) (one (f:=λH v post=>aH (cS H v) λxs=>post (.aC xs) H) λP v x post Q hh r p k=>Nc r p k)
 |wF=>cases hb;exact k _ (gX 9 (by decide)) (.inr ⟨_,rfl⟩) (one (f:=λH v post=>aH (jM H v) λis=>is.length<64/\∀js:List Int,js.Perm is->js.Pairwise (·<=·)->kY (js.map .int) H post) λP v x post Q hh r p k=>Ng r p k)
 |jF m=>cases hb;exact k _ (gX 9 (by decide)) (.inr ⟨_,rfl⟩) (one (f:=λH v post=>aH (cS H v) λus=>u4 m us H post) λP v x post Q hh r p k=>NH r p k)
 |zh=>cases hb;exact k _ (gX 2 (by decide)) (.inl ⟨_,rfl⟩) (one (f:=λH v post=>aH (boolOf v) λb=>post (.int (if b then 1 else 0)) H) λP v x post Q hh r p k=>aH.k p λb e p=>boolOf.k e (λv=>aY P.w v x->_) (λr=>r.inv (λx=>wpAny X.M P.A (call _ [x]) Q P.Ex P.s) (Nd p k)) r)
 |_=>cases hb
theorem NK{b:Bi}{q:Str×Nat}(hh:σ.f.hd=false)(G:Good X)(hb:uI b=some q)(hg:dW σ.f q.1 g=true)(h:eA σ cs es):b8 σ (.bi b cs) (.Call g es [] pos):=λP post Q p k=>
 NJ hb G λy hm hy run=>NI (T:=λZ Z=>True) G hg hm hy h p (λvs H1 p1 Z N xs r=>run N.pt vs xs post Q (P.calm hh) r p1 (k.nx N))
theorem NL(t:Ty):(Str.ofString (iZ t),Value.type (iZ t))∈mV:=by
 cases t
 ·exact gX 2 (by decide)
 ·exact gX 3 (by decide)
 ·exact gX 5 (by decide)
theorem NM{t:Ty}{e nm:Expr}{c:E}(G:Good X)(hg:dW σ.f "isinstance" g=true)(hn:dW σ.f (Str.ofString (iZ t)) nm=true)(h0:cg σ.f c e=true)(he:b8 σ c e):b8 σ (.bi (.nP t) [c]) (.Call g [e,nm] [] pos):=λP post Q p k=>
 eX.k (G:=λg=>wpAny X.M P.A (eval (.Call g [e,nm] [] pos) P.env) Q P.Ex P.s) hg λx np hg=>aR hg λe1 ho=>eX.k (G:=λnm=>wpAny X.M P.A (eval (.Call _ [e,nm] [] pos) P.env) Q P.Ex P.s) hn λy yp hn=>aR hn λe2 NN=>by
  obtain rfl:=eq_of_beq e1
  obtain rfl:=eq_of_beq e2
  have nh:(backTo pos (starEach [e,.Name (Str.ofString (iZ t)) yp] P.env)).any (·.1)=false:=by rw[pM h0 P.env];rfl
  refine wpAny_Call_NameR (pJ G P (gX 1 (by decide)) ho (Calls.callWith_builtin nh (ot nh (wpAny_items_cons (he P _ _ p (λv H1 p1 N x r=>?_)) (pM h0 P.env _)))))
  exact wpAny_items_cons (pJ G (P.to N) (y:=.type (iZ t)) (NL t) NN (wpAny_items_nil (M9 (P:=N.pt) r p1 (k.nx N)))) rfl
theorem NO(hh:σ.f.hd=false){c d:E}{e v:Expr}{kp:Pos}(G:Good X)(hg:dW σ.f "min" g=true)(h0:cg σ.f c e=true)(he:b8 σ c e)(hv:b8 σ d v):b8 σ (.bi .mP [c,d]) (.Call g [e] [⟨some "default",v,kp⟩] pos):=λP post Q p k=>
 eX.k (G:=λg=>wpAny X.M P.A (eval (.Call g [e] [⟨some "default",v,kp⟩] pos) P.env) Q P.Ex P.s) hg λx np hg=>aR hg λe1 ho=>by
  obtain rfl:=eq_of_beq e1
  obtain⟨y,hy⟩:∃y,backTo pos (starEach [e] P.env)=[(false,y)]:=⟨_,by rw[pM h0 P.env];rfl⟩
  refine(?_:wpAny X.M P.A (do callWith pos (<-eval (.Name "min" np) P.env) [] (backTo pos (starEach [e] P.env)) (backToKw pos (keywordEach [⟨some "default",v,kp⟩] P.env))) Q P.Ex P.s)
  refine wpAny_bind (pJ G P (y:=.builtin "min") (gX 11 (by decide)) ho (callWith_builtin_kwB (by rw[hy];rfl) rfl ?_))
  rw[hy]
  refine evalArgs_kwB rfl ?_
  rw[<-hy]
  exact wpAny_items_cons (he P _ _ p (λu H1 p1 N x r=>wpAny_items_nil (kws_cons (hv (P.to N) _ _ p1 (λw H2 p2 N2 z r2=>kws_nil (fv.k p2 (λw=>aY N2.w w z->_) (λd p2 r2=>aH.k p2 λis ei p2=>Ar (P:=N2.pt) (r.mono N2.S) ei (λx=>wpAny X.M P.A (call (.builtin "min") [x] [("default",z)]) Q P.Ex N2.s) λa xs h1 hI=>Nm (P.calm hh) h1 hI λy h' tk hy hk=>
   ((k.nx N).nx N2).later p2 (by
    rcases hy with⟨rfl,rfl⟩|⟨i,r,t,rfl,rfl⟩
    ·exact r2
    ·exact .int _ _) hk tk) r2)))))) (pM h0 P.env _)
theorem NP{c:E}{e g':Expr}{pos':Pos}(hh:σ.f.hd=false)(G:Good X)(hg:dW σ.f "len" g=true)(NQ:dW σ.f "set" g'=true)(h:eA σ [c] [e]):b8 σ (.bi .lZ [c]) (.Call g [.Call g' [e] [] pos'] [] pos):=λP post Q p k=>
 eX.k (G:=λg=>wpAny X.M P.A (eval (.Call g [.Call g' [e] [] pos'] [] pos) P.env) Q P.Ex P.s) hg λx np hg=>aR hg λe1 ho=>by
  obtain rfl:=eq_of_beq e1
  have nh:(backTo pos (starEach [.Call g' [e] [] pos'] P.env)).any (·.1)=false:=rfl
  refine wpAny_Call_NameR (pJ G P (gX 0 (by decide)) ho (Calls.callWith_builtin nh (ot nh (wpAny_items_cons ?_ rfl))))
  exact tP (post:=λvs H=>w1 vs λx=>aH (jM H x) λis=>is.length<=1000/\∀n:Nat,(n=is.length↔is.Nodup)->post (.int n) H) G NQ (gX 13 (by decide)) ⟨_,rfl⟩ h p λvs H1 p1 Z N xs r=>w1.k p1 (λvs=>ba N.w vs xs->_) (λv p1 r=>r.k1 (λxs=>wpAny X.M P.A (call (.type "set") xs) _ P.Ex N.s) λx r=>wpAny_mono (Nf (P:=N.pt) (P.calm hh) r p1 (k.nx N)) (λy bU h=>wpAny_items_nil h) λZ Z h=>h) r
end
section
variable{A:Around}{E:Value->Shared->Prop}{s:Shared}{d:Addr}{kvs:List (Int×Value)}{ep:Nat}
theorem NR{Q:Bool->Shared->Prop}(hT:s.TypeIs (.ref d) "dict")(h:Q false s):wpAny X.M A (Builtin.List.listLengthHint (.ref d)) Q E s:=by
 unfold Builtin.List.listLengthHint
 refine wpAny_bind (wpAny_specialOf hT PySem.F.slot_dict_len.lookup ?_)
 generalize Fw:("dict.__len__":String)=NS
 wp_delta
 rw[show splitId NS=some ("dict","__len__") from by subst Fw;decide +kernel]
 subst Fw
 refine wpAny_bind (wpAny_isInstance (T:="dict") (b:=true) hT (by rw[isSubtype_type];kernel_rfl) ?_)
 refine wpAny_ite_split (λi7=>absurd i7 (by decide)) (λZ=>?_)
 refine wpAny_ite_split (λZ=>?_) (λi7=>absurd (by decide +kernel) i7)
 exact wpAny_bind (wpAny_typeOf hT (wpAny_pure h))
noncomputable abbrev AB(kvs:List (Int×Value))(i:Nat)(v:Value):Prop:=∃k x,kvs[i]?=some (k,x)/\km.is k v=true
theorem NT{R:Result->Shared->Prop}{S:Addr}{yc:Nat}(hh:A.handled=none)(lo:(d==sysModules)=false)(hD:s.heap.DictAt km d kvs ep)(tT:S≠d)(hn:kvs.length<=sizeLine)
  (hS:s.heap.get? S=some {cls:=.type "list",data:=.seq #[] yc})
  (hR:∀h' tk aL c',(∀b o,b≠S->s.heap.get? b=some o->h'.get? b=some o)->h'.get? S=some {cls:=.type "list",dict:=none,data:=.seq aL c',slots:=#[]}->ItemsOf (AB kvs) aL kvs.length->R (.ok (.ret .none)) {s with heap:=h',toks:=tk}) :
  wpAny X.M A.in1 (Builtin.List.listExtendWith (.ref S) (.ref d) .none)
   (λfin s'=>match fin with | .done f=>R (.ok f) s' | .again c'=>c'.quiet=true/\codeAny X.M A c' R s') (λe s'=>R (.error e) s') s:=by
 have hT:s.TypeIs (.ref d) "dict":=hD.dictOf.typeIs
 have nk:S≠s.heap.objs.size:=ne_of_lt (lt_size hS)
 have NU:S∉[s.heap.objs.size,d]:=by
  intro hm
  rcases mem_cons.mp hm with e|hm
  ·exact nk e
  ·exact tT (mem_singleton.mp hm)
 have W:=Walks.dictKeys (A:=A.in1) (knd:=km) hh s.heap.objs.size d (ne_of_lt hD.lt_size) kvs ep
 have go:∀(h:Heap) (AC tk:Nat),h.IsKeyIter s.heap.objs.size d 0 kvs.length ep->h.DictAt km d kvs ep->(∀b o,b≠S->s.heap.get? b=some o->h.get? b=some o)->h.get? S=some {cls:=.type "list",data:=.seq #[] AC} ->
   codeAny X.M A (.builtin "list.extend.loop" ⟨[.ref S,.ref s.heap.objs.size,.none],[]⟩) R {s with heap:=h,toks:=tk}:=by
  intro h AC tk i1 i2 hk vA
  refine codeAny_extend_loopS W.toS hn S NU .none kvs.length 0 _ #[] AC rfl (zero_le _) ⟨i1,i2⟩ vA (ItemsOf.nil _) λs' aL c' hm nq AD=>?_
  rw[Moved.eq_with hm]
  refine hR s'.heap s'.toks aL c' (λb o hb e=>hm.heap b o (λtU=>?_) (hk b o hb e)) nq AD
  rcases mem_cons.mp tU with e'|tU
  ·exact hb e'
  ·rw[mem_singleton.mp tU] at e
   exact absurd (lt_size e) (lt_irrefl _)
 unfold Builtin.List.listExtendWith
 refine wpAny_bind (wpAny_typeOf (T:="dict") hT ?_)
 have h1:Builtin.List.listSameRef (.ref S) (.ref d)=false:=by simp[Builtin.List.listSameRef,tT]
 simp only[h1,show(Value.type "dict"==Value.type "list")=false from by decide,show(Value.type "dict"==Value.type "tuple")=false from by decide,Bool.or_false,false_eq_true,if_false]
 refine wpAny_bind (wpAny_pyIter_dict lo hD ?_)
 have vA:=get?_push_of_some {cls:=.type "dict_keyiterator",data:=.fields #[.ref d,.int 0 0,.int kvs.length 0,.int ep 0]} hS
 have i1:(s.heap.push {cls:=.type "dict_keyiterator",data:=.fields #[.ref d,.int 0 0,.int kvs.length 0,.int ep 0]}).IsKeyIter s.heap.objs.size d 0 kvs.length ep:=⟨_,get?_push_size _ rfl,rfl,rfl⟩
 have i2:=hD.push {cls:=.type "dict_keyiterator",data:=.fields #[.ref d,.int 0 0,.int kvs.length 0,.int ep 0]}
 refine wpAny_bind (wpAny_holding (NR i2.dictOf.typeIs ?_))
 refine wpAny_ite_split (λZ=>?_) (λZ=>wpAny_pure ⟨plainId_quiet PySem.F.plain_extend_loop _,go _ yc _ i1 i2 (λb o Z e=>get?_push_of_some _ e) vA⟩)
 refine wpAny_bind (wpAny_rule (wpAny_bind ?_))
 refine(?_:wpAny _ _ (updateSeq S (·.push .none) >>= λZ=>updateSeq S (·.pop)) _ _ _)
 refine wpAny_bind (wpAny_updateSeq vA rfl ?_)
 have yd:=get?_update_self (Obj.mapSeq (·.push Value.none)) vA rfl
 refine wpAny_updateSeq (hz:=by seq_fits) yd rfl ?_
 have NV:=get?_update_self (Obj.mapSeq (·.pop)) yd rfl
 have oth:∀b o,b≠S->(s.heap.push {cls:=.type "dict_keyiterator",data:=.fields #[.ref d,.int 0 0,.int kvs.length 0,.int ep 0]}).get? b=some o->(((s.heap.push {cls:=.type "dict_keyiterator",data:=.fields #[.ref d,.int 0 0,.int kvs.length 0,.int ep 0]}).update S (Obj.mapSeq (·.push Value.none))).update S (Obj.mapSeq (·.pop))).get? b=some o:=
  λb o hb e=>(get?_update_other _ _ (Ne.symm hb)).trans ((get?_update_other _ _ (Ne.symm hb)).trans e)
 exact wpAny_pure ⟨plainId_quiet PySem.F.plain_extend_loop _,go _ _ _ (i1.at λo e=>oth _ o nk.symm e) (i2.at' λo e=>oth _ o tT.symm e) (λb o hb e=>oth b o hb (get?_push_of_some _ e)) NV⟩
theorem NW{Q:Value->Shared->Prop}(hh:A.handled=none)(lo:(d==sysModules)=false)(hD:s.heap.DictAt km d kvs ep)(hn:kvs.length<=sizeLine)
  (hQ:∀h' tk aL c',(∀b o,s.heap.get? b=some o->h'.get? b=some o)->h'.get? s.heap.objs.size=some {cls:=.type "list",dict:=none,data:=.seq aL c',slots:=#[]}->ItemsOf (AB kvs) aL kvs.length->Q (.ref s.heap.objs.size) {s with heap:=h',toks:=tk}) :
  wpAny X.M A (call (.type "list") [.ref d]) Q E s:=by
 refine callType_codes (Q₁:=λobj bU=>obj=.ref s.heap.objs.size/\bU={s with heap:=s.heap.push {cls:=.type "list",data:=.seq #[]}}) PySem.F.called_list (PySem.F.typeCall_list_1 _) PySem.F.entry_list_init
  (code_list_new _ ⟨rfl,rfl⟩) λobj bU fy=>?_
 obtain⟨rfl,rfl⟩:=fy
 have hS:(s.heap.push {cls:=.type "list",data:=.seq #[]}).get? s.heap.objs.size=some {cls:=.type "list",data:=.seq #[]}:=get?_push_size _ rfl
 have tT:s.heap.objs.size≠d:=ne_of_gt hD.lt_size
 refine⟨⟨_,hS,rfl⟩,PySem.F.args_list_init_2 _ _,?_⟩
 refine(?_:wpAny _ _ (do let old <-Builtin.List.listItems (.ref s.heap.objs.size);Builtin.List.listUpdate (.ref s.heap.objs.size) (λZ=>#[]);letGo old.toList.reverse;Builtin.List.listExtendWith (.ref s.heap.objs.size) (.ref d) .none) _ _ _)
 refine wpAny_bind ?_
 unfold Builtin.List.listItems
 refine wpAny_bind (wpAny_seqItems hS rfl (wpAny_pure ?_))
 refine(?_:wpAny _ _ (updateSeq s.heap.objs.size (λZ=>#[]) >>= λZ=>letGo (#[]:Array Value).toList.reverse >>= λZ=>Builtin.List.listExtendWith (.ref s.heap.objs.size) (.ref d) .none) _ _ _)
 refine wpAny_bind (wpAny_updateSeq hS rfl ?_)
 have yd:=get?_update_self (Obj.mapSeq (λZ=>(#[]:Array Value))) hS rfl
 have oth:∀b o,b≠s.heap.objs.size->(s.heap.push {cls:=.type "list",data:=.seq #[]}).get? b=some o->((s.heap.push {cls:=.type "list",data:=.seq #[]}).update s.heap.objs.size (Obj.mapSeq (λZ=>(#[]:Array Value)))).get? b=some o:=
  λb o hb e=>(get?_update_other _ _ (Ne.symm hb)).trans e
 refine wpAny_bind (wpAny_letGo ?_)
 refine NT (A:=A.in1) hh lo ((hD.push _).at' λo e=>oth _ o tT.symm e) tT hn yd λh' tk aL c' hk nq AD=>?_
 exact⟨rfl,hQ h' tk aL c' (λb o e=>hk b o (ne_of_lt (lt_size e)) (oth b o (ne_of_lt (lt_size e)) (get?_push_of_some _ e))) nq AD⟩
end
section
variable{σ:Lv}{Q:Value->Shared->Prop}{P:Pt}{post:PQ}{H:Hp}
theorem Fx(G:Good X)(P:Pt):(P.s.heap.objs.size==sysModules)=false:=
 G.low.elim λo ho=>beq_eq_false_iff_ne.mpr λe=>absurd (lt_size (P.R.keep _ _ ho)) (by rw[e];decide)
theorem ye(P:Pt):P.s.heap.get? P.s.heap.objs.size=none:=gF _ (le_refl _)
theorem NX{h:Heap}{D:Addr}{o o':Obj}{en:Array DictEntry}{ep:Nat}(e:h.get? D=some o)(hd:o.data=.dict en ep)(e':h.get? D=some o'):fz o'=false:=by rw[e] at e';cases e';exact u5 hd
noncomputable abbrev rF:Obj:={cls:=.type "dict",data:=.dict #[]}
noncomputable abbrev Pt.newD(P:Pt){c:aT}(hc:eR ⟨P.φ,P.s.heap.push rF⟩ P.s.heap.objs.size c):Nx P (P.H++[c]):=
 ⟨P.φ++[P.s.heap.objs.size],P.s.heap.push rF,P.s.toks,SR.adopt (p:=⟨P.φ,P.s.heap.push rF⟩) (SR.ext (p:=P.w) P.R (.push _)) (P.R.new (p:=P.w) (ye P)) (λo e=>NX (get?_push_size _ rfl) rfl e) hc,bK.adopt (q:=⟨P.φ,P.s.heap.push rF⟩) (bK.ext (q:=P.w) .refl (.push _)) (ye P)⟩
theorem Pt.AE(P:Pt):(P.φ++[P.s.heap.objs.size])[P.H.length]?=some P.s.heap.objs.size:=by rw[<-P.R.len,getElem?_append_right (le_refl _),sub_self];rfl
theorem NY(G:Good X)(P:Pt):eR ⟨P.φ,P.s.heap.push rF⟩ P.s.heap.objs.size (.dict 0 []):=.dict (kvs:=[]) (en:=#[]) (get?_push_size _ rfl) ⟨rfl,rfl,rfl⟩ rfl (λe he=>absurd he (Array.not_mem_empty e)) .nil .nil .nil (Fx G P) (zero_le _)
theorem Fy(G:Good X)(P:Pt):eR ⟨P.φ,P.s.heap.push rF⟩ P.s.heap.objs.size (.cL 0 []):=.cL (xs:=[]) (en:=#[]) (get?_push_size _ rfl) ⟨rfl,rfl,rfl⟩ rfl rfl .nil .nil (Fx G P) (zero_le _)
theorem NZ{pos:Pos}(G:Good X):b8 σ .nR (.Dict [] [] pos):=λP post Q p k=>wpAny_Dict_empty (k _ _ p (P.toPt.newD (NY G P.toPt)) _ (.ref P.toPt.AE))
theorem N6{pos:Pos}(G:Good X):b8 σ .l6 (.Dict [] [] pos):=λP post Q p k=>wpAny_Dict_empty (k _ _ p (P.toPt.newD (Fy G P.toPt)) _ (.ref P.toPt.AE))
theorem N7{c d:E}{k v:Expr}{pos:Pos}{post:V->V->Hp->Prop}(P:Fp σ){ce:aT}(hc:eR ⟨P.φ,P.s.heap.push rF⟩ P.s.heap.objs.size ce)(hk:b8 σ c k)(hv:b8 σ d v)(p:WE σ.c c P.ρ (P.H++[ce]) λx H=>WE σ.c d P.ρ H λy H=>post x y H)
  (kn:∀u w H,post u w H->∀(N:Nx P.toPt H) x y,N.φ[P.H.length]?=some P.s.heap.objs.size->aY N.w u x->aY N.w w y->wpAny X.M P.A (dictSet P.s.heap.objs.size x y) (λZ ey=>Q (.ref P.s.heap.objs.size) ey) P.Ex N.s):wpAny X.M P.A (eval (.Dict [some k] [v] pos) P.env) Q P.Ex P.s:=
 wpAny_Dict_any rfl rfl (λe=>nomatch e) (show(1:Nat)<=15 by decide) (pairTrees_cons_walk (qV hk hv (P.to (P.toPt.newD hc)) p (λu w H q N x y r1 r2=>pairTrees_nil_walk (wpAny_bind (wpAny_bind (wpAny_mono (kn u w H q ((P.toPt.newD hc).then N) x y (N.S.pre _ _ P.toPt.AE) r1 r2) (λZ ey h=>wpAny_pure (wpAny_pure h)) λZ Z h=>h))))))
theorem N8{c d:E}{k v:Expr}{pos:Pos}(G:Good X)(hk:b8 σ c k)(hv:b8 σ d v):b8 σ (.uw c d) (.Dict [some k] [v] pos):=λP post Q p kn=>
 N7 P (Fy G P.toPt) hk hv p (λu w H q N x y Fz r1 r2=>aH.k q λj ej q=>pairOf.k ej (λu=>aY N.w u x->_) (λr1=>r1.inv (λx=>aY N.w (kh j) x->wpAny X.M P.A (dictSet P.s.heap.objs.size x y) (λZ ey=>Q (.ref P.s.heap.objs.size) ey) P.Ex N.s) (λka Z Z Z Z Z Z r1=>N.R.at q.1 λa ha hc=>hc.inv _ λo en kvs x0 x1 x2 x3 x4 q' z m=>by
  rw[show N.φ[P.H.length]?=some a from ha] at Fz
  cases Fz
  cases q'
  refine wpAny_dictSet_heap (knd:=k7) (k:=pK j) (xs:=[]) (by refine(?_:P.A.units<cLine);have:=P.rm.units;exact Nat.lt_of_succ_lt (Pt.u1 _)) (u7 r1) ⟨o,en,0,x0,x1,x2,x3,(λq hq=>nomatch hq),x4⟩ (λh3 hm hs=>hm.elim λo3 w3=>w3.elim λen w3=>w3.elim λep w3=>?_) (zero_le _)
  have K:=N.pt.tA ha hs.extBut
  exact kn _ _ (q.2 ep) (N.then (N.pt.set ha hs.extBut (.cL w3.1 w3.2.1 w3.2.2.1 w3.2.2.2.1 w3.2.2.2.2.2 (.cons ⟨rfl,r1.kp K,r2.kp K⟩ .nil) z (show(1:Nat)<=16000000 by decide)) _)) _ (.ref ha)) r1) r1)
end
section
variable{σ:Lv}{Q:Value->Shared->Prop}{P:Pt}{post:PQ}{H:Hp}
theorem FA{p:Ws}:∀{vs:List V} {xs:List Value},vs.length=xs.length->(∀(j:Nat) v x,vs[j]?=some v->xs[j]?=some x->aY p v x)->ba p vs xs
 |[],[],_,_=>.nil
 |[],_::_,h,_=>nomatch h
 |_::_,[],h,_=>nomatch h
 |v::vs,x::xs,h,k=>.cons (k 0 v x rfl rfl) (FA (Nat.succ.inj h) λj v x h1 h2=>k (j+1) v x h1 h2)
theorem N9{p:Ws}{es:List (Int×V)}{kvs:List (Int×Value)}{aL:Array Value}(q:L2 (k4 p) es kvs)(h:ItemsOf (AB kvs) aL kvs.length):ba p (es.map λp=>.int p.1) aL.toList:=
 FA (by rw[length_map,q.length,length_toList];exact h.1.symm) λj v x h1 h2=>by
  rw[getElem?_map] at h1
  refine fK (λv=>aY p v x) h1 λe he=>?_
  exact(h.2 j x (by rw[<-getElem?_toList];exact h2)).elim λk w=>w.elim λy w=>by
   obtain⟨t,rfl⟩:=Value.isInt_shape w.2
   rw[(q.get he w.1).1]
   exact .int _ _
theorem rG(hh:P.A.handled=none){v:V}{x:Value}{us:List V}(G:Good X)(r:aY P.w v x)(e:copyOf P.H v=some us)(k:Kn P post Q)(p:kj us P.H post):wpAny X.M P.A (call (.type "list") [x]) Q P.Ex P.s:=by
 refine fu.k p λhz p=>?_
 have hz:=le_of_lt (of_decide_eq_true hz)
 have seq:∀{a xs T o c},T="list"\/T="tuple"->P.s.heap.get? a=some o->o.cls=.type T->o.data=.seq (toArray xs) c->ba P.w us xs->wpAny X.M P.A (call (.type "list") [.ref a]) Q P.Ex P.s:=λt1 t2 t3 t4 r=>
  call_list_seq _ t1 t2 t3 t4 (λh2 c' w1 w2=>k.list w1 _ (ye P) w2 r hz p P.s.toks) (by rw[size_toArray,<-r.length];unfold sizeLine;exact le_trans hz (by decide))
 unfold copyOf at e
 cases ed:jL P.H v with
 |some es=>
  rw[ed] at e;cases e
  exact tD r G ed (λx=>wpAny X.M P.A (call (.type "list") [x]) Q P.Ex P.s) λl ep a kvs ev hl ha hD q hs hn=>hD.dictAt.elim λepc Oa=>
   NW hh hs Oa (by rw[<-q.length];unfold sizeLine;exact le_trans hn (by decide)) λh2 i6 aL c' w1 w2 w3=>k.list (xs:=aL.toList) w1 _ (ye P) (by rw[w2]) (N9 q w3) hz p i6
 |none=>
  rw[ed] at e
  cases et:pD v with
  |some vs=>rw[et] at e;cases e;exact pD.k et (λv=>aY P.w v x->_) (λr=>r.inv (λx=>wpAny X.M P.A (call (.type "list") [x]) Q P.Ex P.s) λa m xs h1 h2 Z Z=>seq (.inr rfl) h1 rfl rfl h2) r
  |none=>rw[et] at e;exact bX r e (λx=>wpAny X.M P.A (call (.type "list") [x]) Q P.Ex P.s) λZ a xs m Z Z Z h1 h2 Z=>seq (.inl rfl) h1 rfl rfl h2
theorem Ob(hh:σ.f.hd=false){a:E}{g e:Expr}{pos:Pos}(G:Good X)(hg:dW σ.f "list" g=true)(h:eA σ [a] [e]):b8 σ (.listOf a) (.Call g [e] [] pos):=λP post Q p k=>
 tP (post:=λvs H=>w1 vs λx=>aH (copyOf H x) λvs=>kj vs H post) G hg (gX 5 (by decide)) ⟨_,rfl⟩ h p (λvs H1 p1 Z N xs r=>w1.k p1 (λvs=>ba N.w vs xs->_) (λv p1 r=>r.k1 (λxs=>wpAny X.M P.A (call (.type "list") xs) Q P.Ex N.s) λx r=>aH.k p1 λus e p1=>rG (P:=N.pt) (P.calm hh) G r e (k.nx N) p1) r)
end
theorem AF{α:Type}:∀{ps:List Str} {xs:List α} {i:Nat} {x:Str} {v:α},ps.Nodup->ps[i]?=some x->xs[i]?=some v->(ps.zip xs).lookup x=some v
 |[],_,i,x,v,_,h,_=>bD getElem?_nil h
 |p::ps,[],i,x,v,_,_,h=>bD getElem?_nil h
 |p::ps,y::xs,0,x,v,_,h1,h2=>by rw[List.zip_cons_cons,<-Option.some.inj h1,List.lookup_cons_self];exact h2
 |p::ps,y::xs,i+1,x,v,hn,h1,h2=>by
  have hn:=nodup_cons.mp hn
  rw[List.zip_cons_cons,lookup_cons,show(x==p)=false from beq_eq_false_iff_ne.mpr λe=>hn.1 (e▸mem_of_getElem? h1)]
  exact AF (i:=i) hn.2 h1 h2
theorem FC{α:Type}:∀{ps:List Str} {xs:List α} {f:Str->Option α},ps.length=xs.length->(∀(i:Nat) (x:Str) (v:α),ps[i]?=some x->xs[i]?=some v->f x=some v)->ps.filterMap (λn=>(f n).map (n,·))=ps.zip xs
 |[],[],_,_,_=>rfl
 |[],_::_,_,h,_=>nomatch h
 |_::_,[],_,h,_=>nomatch h
 |p::ps,x::xs,f,h,hf=>by
  rw[filterMap_cons,hf 0 p x rfl rfl]
  exact congrArg ((p,x)::·) (FC (Nat.succ.inj h) λi y v h1 h2=>hf (i+1) y v h1 h2)
theorem Oc{α:Type}{ps:List Str}{xs:List α}(hn:ps.Nodup)(hl:ps.length=xs.length):((ps.filter λn=>((ps.zip xs).lookup n).isNone).isEmpty)=true:=by
 rw[isEmpty_iff,List.filter_eq_nil_iff]
 intro x hx h
 obtain⟨i,hi,rfl⟩:=List.getElem_of_mem hx
 rw[AF hn (getElem?_eq_getElem hi) (getElem?_eq_getElem (hl▸hi))] at h
 cases h
noncomputable abbrev yf(ar:List Arg):Arguments:=⟨[],ar,none,[],[],none,[]⟩
theorem Oe{a:Arguments}{ps:List Str}(h:zN a ps=true)(G:Arguments->Prop)(k:∀ar:List Arg,ar.map (·.arg)=ps->G (yf ar)):G a:=
 have key:∀po ar va ko kd kw df,(po.isEmpty&&(va.isNone&&(ko.isEmpty&&(kd.isEmpty&&(kw.isNone&&(df.isEmpty&&decide (ar.map Arg.arg=ps)))))))=true->G ⟨po,ar,va,ko,kd,kw,df⟩:=λpo ar va ko kd kw df h=>
  aR h λh1 h=>aR h λh2 h=>aR h λh3 h=>aR h λh4 h=>aR h λh5 h=>aR h λh6 h=>eO (G:=λpo=>G ⟨po,ar,va,ko,kd,kw,df⟩) h1 (qM (G:=λva=>G ⟨[],ar,va,ko,kd,kw,df⟩) h2 (eO (G:=λko=>G ⟨[],ar,none,ko,kd,kw,df⟩) h3 (eO (G:=λkd=>G ⟨[],ar,none,[],kd,kw,df⟩) h4 (qM (G:=λkw=>G ⟨[],ar,none,[],[],kw,df⟩) h5 (eO (G:=λdf=>G ⟨[],ar,none,[],[],none,df⟩) h6 (k ar (of_decide_eq_true h)))))))
 by cases a;exact key _ _ _ _ _ _ _ h
theorem Of{fd:FuncData}{ar:List Arg}{xs:List Value}(hd:fd.defaults=.none)(hp:fd.params=yf ar)(hn:(ar.map (·.arg)).Nodup)(hl:(ar.map (·.arg)).length=xs.length):bindArgs fd ⟨xs,[]⟩=pure ((ar.map (·.arg)).zip xs):=by
 obtain⟨a1,a2,a3,a4,a5,a6,a7,a8,a9,gn,WP,WQ,WR,WU,WV⟩:=fd
 cases hd;cases hp
 have hD:(([]:List Value).drop (0 - (ar.map Arg.arg).length))=[]:=drop_nil
 generalize Og:(([]:List Value).drop (0 - (ar.map Arg.arg).length))=D at hD
 change (if(decide (xs.length>(ar.map Arg.arg).length)&&true)=true then _ else(if(!((((ar.map Arg.arg).take ((ar.map Arg.arg).length - (([]:List Value).drop (0 - (ar.map Arg.arg).length)).length)).filter λn=>(((ar.map Arg.arg).zip xs).lookup n).isNone).isEmpty))=true then _ else(forIn (((ar.map Arg.arg).drop ((ar.map Arg.arg).length - (([]:List Value).drop (0 - (ar.map Arg.arg).length)).length)).zip (([]:List Value).drop (0 - (ar.map Arg.arg).length))) ((ar.map Arg.arg).zip xs) _ >>= _:Sem _)))=_
 rw[if_neg (λe=>absurd (of_decide_eq_true (and_eq_true_iff.mp e).1) (by rw[hl];exact lt_irrefl _)),Og,hD,List.zip_nil_right,List.forIn_nil]
 rw[show(ar.map Arg.arg).length - ([]:List Value).length=(ar.map Arg.arg).length from rfl,take_length,if_neg (by rw[Oc hn hl];exact Bool.false_ne_true)]
 exact congrArg (pure (f:=Sem)) ((congrArg (filterMap _) (append_nil _)).trans (FC hl λi x v h1 h2=>AF hn h1 h2))
theorem yg{T:Prop}(G:Good X)(k:∀{nm q bs sn sub col dd k0 k1 k2 k3 k5},X.dC.get? X.bk=some (excClassObj nm q X.bk X.bN bs [.type "object"] true sn sub false col dd k0 k1 k2 k3 k5 "object.__new__")->T):T:=by
 obtain⟨nm,q,bs,sn,sub,col,dd,k0,k1,k2,k3,k5,hC⟩:=G.bc.obj
 exact k hC
theorem FD:∀x,x∈gK.bT->typeLookup (.type "object") x=pure none:=by
 intro x hx
 refine(?_:typeLookup (.type "object") x=pure none)
 rcases mem_cons.mp hx with rfl|hx
 ·rw[typeLookup_type,builtinLookup_eq_fast];kernel_rfl
 rcases mem_cons.mp hx with rfl|hx
 ·rw[typeLookup_type,builtinLookup_eq_fast];kernel_rfl
 rcases mem_cons.mp hx with rfl|hx
 ·rw[typeLookup_type,builtinLookup_eq_fast];kernel_rfl
 rcases mem_cons.mp hx with rfl|hx
 ·rw[typeLookup_type,builtinLookup_eq_fast];kernel_rfl
 rw[mem_singleton.mp hx,typeLookup_type,builtinLookup_eq_fast];kernel_rfl
section
variable{P:Pt}{v:V}{x:Value}{t:Nat}{fs:aO}
theorem book(r:aY P.w v x)(e:cy P.H v=some t)(ef:mY P.H t=some fs)(T:Value->Prop)(k:∀l a d m o,v=.ref l->P.φ[l]?=some a->P.φ[t]?=some d->P.H[t]?=some (.bT fs)->P.s.heap.get? a=some o->o.dict=some d->a≠d->P.s.heap.Inst a X.bk m->P.s.heap.Ns1 d m->tw P.w fs m->T (.ref a)):T x:=
 cellAt.k e (λu=>v=u->T x) (λl c hl hc=>pA.k (λc=>P.H[l]?=some c->v=.ref l->T x) hc (λhl ev=>P.cell (ev▸r) hl T λa ha h=>h.inv _ λo d e1 e2 e3 e4 e5=>f9 ef λc2 Oh ef=>pB.k (λc2=>P.H[t]?=some c2->T (.ref a)) ef (λht=>P.R.at ht λb hb Oi=>Oi.inv _ λm n1 n2=>by
  rw[show P.φ[t]?=some d from e5] at hb;cases hb
  have fU:a≠d:=λe'=>by
   have:l=t:=zU P.R.nodup ha (e'▸e5)
   subst this
   rw[hl] at ht;cases ht
  exact k l a d m o ev ha e5 ht e1 e4 fU ⟨o,e1,e2,e3,.inr ⟨d,e4,fU.symm,n1⟩⟩ n1 n2) Oh) hl) rfl
theorem handed{p:Ws}{v:V}{x:Value}(r:aY p v x):handedOut x=pure x:=r.inv (λx=>handedOut x=pure x) (by cases v<;>first|rfl|exact λZ=>rfl|exact λZ Z=>rfl|exact λZ Z Z Z Z Z Z=>rfl)
theorem FE{i:Nat}{y:Str}(h:gK.bT[i]?=some y):y∈gK.bT/\gK.bT.idxOf y=i:=by
 have hm:=mem_of_getElem? h
 have nd:gK.bT.Nodup:=by decide
 exact⟨hm,zU nd (List.getElem?_eq_some_iff.mpr ⟨List.idxOf_lt_length_of_mem hm,List.getElem_idxOf _⟩) h⟩
end
section
variable{σ:Lv}{a:E}{o:Expr}{i:Nat}{y:Str}{pos:Pos}
theorem Oj(G:Good X)(hi:gK.bT[i]?=some y)(ho:uJ o=true)(ha:b8 σ a o):b8 σ (.attr a i) (.Attribute o y pos):=λP post Q p k=>
 Expr.Name.elim (motive_1:=λo=>b8 σ a o->wpAny X.M P.A (eval (.Attribute o y pos) P.env) Q P.Ex P.s) o (of_decide_eq_true ho) (λn np ha=>Attribute_name (ha P _ _ p λv H1 p1 N x r=>aH.k p1 λt et p1=>aH.k p1 λfs ef p1=>aH.k p1 λu eu p1=>
  book (P:=N.pt) r et ef (λx=>wpAny X.M P.A (getAttr x y true) Q P.Ex N.s) λl b d m ob Z Z Z Z Z Z Z I Z fr=>by
   have hy:=FE hi
   refine yg G λhC=>?_
   refine(fr.at' y hy.1).inv (v:=u) (by unfold lk;rw[hy.2];exact eu) (λz=>m y=z->_) (λz rz ez=>?_) rfl
   exact load_attr (N.R.keep _ _ hC) (G.bc.ns.keeps N.R.keep) (G.bq _ (by decide)) (G.bq _ (mem_append.mpr (.inr hy.1))) (FD y hy.1) I ez (handed rz) (k _ _ p1 (N.then (N.pt.fT (N.tk+1))) _ rz))) ha
theorem Ol(x:Str):∃r,typeLookup (.type "object") x=pure r:=by
 rw[typeLookup_type]
 unfold builtinLookup
 rw[show builtinMro "object"=some [.type "object"] by rw[builtinMro_eq_fast];kernel_rfl]
 exact⟨_,rfl⟩
theorem Om{o o':Obj}(h1:o'.cls=o.cls)(h2:o'.data=o.data)(h3:o'.slots=o.slots)(h4:o'.dict=o.dict):o'=o:=by
 obtain⟨a,b,c,d⟩:=o
 obtain⟨a',b',c',d'⟩:=o'
 cases h1;cases h2;cases h3;cases h4;rfl
theorem Oo{P:Pt}{v u:V}{x z:Value}{t:Nat}{fs:aO}{Q:Unit->Shared->Prop}(G:Good X)(hi:gK.bT[i]?=some y)(r:aY P.w v x)(ru:aY P.w u z)(e:cy P.H v=some t)(ef:mY P.H t=some fs)(k:∀N:Nx P (P.H.set t (.bT (fs.set i (some u)))),Q () N.s):wpAny X.M P.A (setAttr x y z) Q P.Ex P.s:=
 book r e ef (λx=>wpAny X.M P.A (setAttr x y z) Q P.Ex P.s) λl b d m ob Z hb hd ht eb ed fU I n1 fr=>by
  have hy:=FE hi
  refine yg G λhC=>?_
  refine store_attr PySem.F.store_object (P.R.keep _ _ hC) (G.bc.ns.keeps P.R.keep) (G.bq _ (by decide)) (G.bq _ (mem_append.mpr (.inr hy.1))) (FD y hy.1) (λe'=>bD (P.R.fresh _ (mem_of_getElem? hb)) (e'▸hC)) I (λh' nc I' hk hs=>?_) (ns:=gK.bT) (λz hz=>byContradiction λhn=>hz (fr.out z hn)) (by decide)
  refine(hs ob eb).elim λo1 x1=>?_
  have eo:o1=ob:=Om x1.2.1 x1.2.2.1 x1.2.2.2.1 ((x1.2.2.2.2 d ed).trans ed.symm)
  subst eo
  have he:ExtBut d P.s.heap h':=λc oc hc ec=>(Classical.em (c=b)).elim (λe'=>by subst e';rw[show P.s.heap.get? c=some o1 from eb] at ec;cases ec;exact x1.1) λhn=>hk c oc hn (λo0 dx e1 e2=>by rw[eb] at e1;cases e1;rw[ed] at e2;cases e2;exact hc) ec
  have n2:h'.Ns1 d (λw=>if w=y then some z else m w):=by
   obtain⟨o2,f1,_,_,f2⟩:=I'
   rw[x1.1] at f1;cases f1
   rcases f2 with⟨f2,_⟩|⟨d',f2,_,f3⟩
   ·rw[ed] at f2;cases f2
   ·rw[ed] at f2;cases f2;exact f3
  have K:=P.tA hd he
  have tI:i<fs.length:=by rw[fr.len];exact(List.getElem?_eq_some_iff.mp hi).1
  exact k (P.set hd he (.bT n2 ⟨by rw[length_set];exact fr.len,λw hw=>by
   rw[Em hy.1 hw hy.2 tI]
   by_cases e':w=y
   ·rw[if_pos e',if_pos e'];exact .some (ru.kp K)
   ·rw[if_neg e',if_neg e'];exact(fr.at' w hw).kp K,λw hw=>(if_neg λe':w=y=>hw (e'▸hy.1)).trans (fr.out w hw)⟩) nc)
theorem Oq{e:E}{x:Expr}{sp:Pos}(G:Good X)(hi:gK.bT[i]?=some y)(hn:mU x=true)(ha:b8 σ a o)(he:b8 σ e x):SS σ (.setAttr a i e) (.Assign [.Attribute o y sp] x pos):=λP K Q ho p k=>
 plainObj_wpAny_Assign_Attribute (qV he ha P p λu v H1 p1 N z w r1 r2=>aH.k p1 λt et p1=>aH.k p1 λfs ef p1=>Oo (P:=N.pt) G hi r2 r1 et ef λN2=>k.next _ _ p1 (N.then N2).sx) (vk hn _)
theorem Ot{P:Fp σ}{ap:Pos}{cs:List E}{es:List Expr}{Q:Value->Shared->Prop}(ho:qL o=true)(hl:es.length<20)(vx:(ap.endLine==pos.line)=true)(h:eA σ cs es)
  (hk:wpAny X.M P.A (eval o P.env) (λov bU=>wpAny X.M P.A (getMethod ov y (do return (<-importBound o P.env).getD true)) (λq ey=>wpAny X.M P.A (callWith pos q.1 q.2 (backTo pos (starEach es P.env)) []) Q P.Ex ey) P.Ex bU) P.Ex P.s) :
  wpAny X.M P.A (eval (.Call (.Attribute o y ap) es [] pos) P.env) Q P.Ex P.s:=by
 rw[arm_eval_Call,E6 ho]
 refine wpAny_bind (wpAny_mono hk (λov bU fy=>wpAny_bind (wpAny_standAt ?_)) λZ Z e=>e)
 have Ou:methodCallForm (es.length+([]:List Keyword).length) (backTo pos (starEach es P.env)) (backToKw pos (keywordEach [] P.env))=true:=E7 h hl P.env
 have Ov:methodCallPos true o P.env ap pos=pure pos:=by unfold methodCallPos;rw[vx];rfl
 unfold methodCall
 rw[Ou]
 exact wpAny_bind (wpAny_holding (wpAny_mono fy (λq ey iw=>wpAny_bind (wpAny_of_eq Ov iw)) λZ Z e=>e))
theorem Ox{f:Nat}{cs:List E}{es:List Expr}{ap:Pos}(G:Good X)(hc:tC σ.m)(hn:2*σ.m+1<=σ.n)(hh:σ.f.hd=false)(h1:gK.kQ[f]?=some (true,y))(hy:y∉gK.bT)(ho:qL o=true)(vx:(ap.endLine==pos.line)=true)(hl:es.length<20)(ha:b8 σ a o)(h:eA σ cs es):b8 σ (.cx f a cs) (.Call (.Attribute o y ap) es [] pos):=λP post Q p k=>
 (G.fn f _ h1).casesOn λfa fo d pm cd doc e1 e3 e4 ec e5 Z=>Ot ho hl vx h (ha P _ _ p λv H1 p1 N x r=>aH.k p1 λt et p1=>aH.k p1 λfs ef p1=>
  book (P:=N.pt) r et ef (λx=>wpAny X.M P.A (getMethod x y _) _ P.Ex N.s) λl b d m ob ev hb Z Z Z Z Z I Z fr=>by
   refine yg G λhC=>?_
   refine(Ol y).elim λr0 hB=>method_of (N.R.keep _ _ hC) (G.bc.ns.keeps N.R.keep) (G.bq _ (by decide)) (G.bq _ (by decide)) e3 (N.R.keep _ _ e4) (ec rfl) hB I (fr.out y hy) ?_
   exact Calls.callWith_function (o:=fo) (ot (h.plain P.env pos) (h.na (P.to N) _ _ pos p1 λus H2 p2 Z N2 zs r2=>⟨⟨(N.then N2).R.keep _ _ e4,e5⟩,hc (N.then N2).pt f _ fa (v::us) (.ref b::zs) post σ.x Q (P.rn.less (le_of_succ_le hn)) (λZ=>P.calm hh) h1 e3 (.cons (ev▸.ref ((N2.S.pre _ _ hb))) r2) p2 (k.nx (N.then N2)) (P.kn.nx (N.then N2))⟩)))
theorem jN.under{A:Around}{n:Nat}{C:Addr}(rm:jN A (n+1)):jN (A.under (.builtin "type.__call__" ⟨[.ref C],[]⟩)) n:=
 ⟨by have:=rm.depth;refine(?_:A.depth+1+n+110<=_);lia,by have:=rm.units;refine(?_:A.units+1+5*n+200<=_);lia,rm.frames.elim λfe h=>h.elim λou h=>⟨fe,ou,by refine(?_:pushEnvs [] A.frames=_);rw[h.1];rfl,h.2⟩⟩
theorem Oy{f:Nat}{g:Expr}(G:Good X)(hc:tC σ.m)(hn:2*σ.m+1<=σ.n)(hh:σ.f.hd=false)(h1:gK.kQ[f]?=some (true,Str.ofString "__init__"))(hg:dW σ.f gK.cls g=true):b8 σ (.new f) (.Call g [] [] pos):=λP post Q p k=>
 eX.k (G:=λg=>wpAny X.M P.A (eval (.Call g [] [] pos) P.env) Q P.Ex P.s) hg λx np hg=>aR hg λe1 ho=>(G.fn f _ h1).casesOn λfa fo d pm cd doc Z e3 e4 ec e5 Z=>by
  obtain rfl:=eq_of_beq e1
  refine wpAny_Call_NameR (tH G P G.bk ho (callWith_cls0 G.bc P.R.keep ?_))
  refine yg G λhC=>?_
  refine wpAny_call_obj_init PySem.F.objNew (P.R.keep _ _ hC) (G.bc.ns.keeps P.R.keep) e3 (P.R.keep _ _ e4) (ec rfl) λh' b dx M=>?_
  obtain⟨ob,i1,i2,i3,i4⟩:=M.inst
  have hd:=M.dict ob i1
  rcases i4 with⟨i4,_⟩|⟨d',i4,fU,n1⟩
  ·rw[hd] at i4;cases i4
  rw[hd] at i4;cases i4
  have S1:bK gm P.w ⟨P.φ,h'⟩:=bK.ext (q:=P.w) .refl M.keeps
  have R1:SR ⟨P.φ,h'⟩ P.H:=SR.ext (p:=P.w) P.R M.keeps
  have a1:=P.R.new (p:=P.w) M.newD
  have a2:=P.R.new (p:=P.w) M.newX
  have R2:SR ⟨P.φ++[dx],h'⟩ (P.H++[.bT (replicate gK.bT.length none)]):=SR.adopt (p:=⟨P.φ,h'⟩) R1 a1 (λo e=>n1.elim λo' w=>w.elim λZ w=>w.elim λZ w=>by rw[show h'.get? dx=some o' from w.1] at e;cases e;exact u5 w.2.1) (.bT n1 ⟨List.length_replicate,λx hx=>by rw[Ak];exact .none,λZ Z=>rfl⟩)
  have e1:(P.φ++[dx])[P.H.length]?=some dx:=by rw[<-P.R.len,getElem?_append_right (le_refl _),sub_self];rfl
  have R3:=SR.adopt (p:=⟨P.φ++[dx],h'⟩) (a:=b) (c:=.obj P.H.length) R2 ⟨λhm=>(mem_append.mp hm).elim a2.1 λh=>fU (mem_singleton.mp h).symm,a2.2⟩ (λo e=>by rw[show h'.get? b=some ob from i1] at e;cases e;exact mZ i2 rfl) (.obj i1 i2 i3 hd e1)
  have S3:bK gm P.w ⟨P.φ++[dx]++[b],h'⟩:=bK.adopt (q:=⟨P.φ++[dx],h'⟩) (bK.adopt (q:=⟨P.φ,h'⟩) S1 M.newD) M.newX
  have eU:(P.H++[aT.bT (replicate gK.bT.length none)]).length=P.H.length+1:=by rw[length_append];rfl
  have rb:aY ⟨P.φ++[dx]++[b],h'⟩ (.ref (P.H.length+1)) (.ref b):=eU▸xT R2
  refine hc ⟨P.A.under (.builtin "type.__call__" ⟨[.ref X.bk],[]⟩),P.φ++[dx]++[b],_,upd P.s h' P.s.toks,P.Ex,jN.under ((P.rn.less hn).less (by lia)),R3,λe he=>P.fr.i5 S3 e (by
    obtain⟨fe,ou,hA,_⟩:=P.rm.frames
    unfold iI at he ⊢
    rw[show(P.A.under (.builtin "type.__call__" ⟨[.ref X.bk],[]⟩)).frames=pushEnvs [] P.A.frames from rfl,hA] at he
    rw[hA];exact he)⟩ f _ fa [.ref (P.H.length+1)] [.ref b] _ _ _ (jN.under (P.rn.less hn)) (λZ=>P.calm hh) h1 e3 (.one rb) p (λv H1 p1 N x r=>?_) λZ Z h=>h.elim
  obtain⟨rfl,p1⟩:=p1
  exact r.inv (λx=>x=.none/\Q (.ref b) N.s) ⟨rfl,k _ _ p1 ⟨N.φ,N.h,N.tk,N.R,S3.trans N.S⟩ _ (rb.mono N.S)⟩
end
section
variable{σ:Lv}{k:Nat}{x w:Str}
theorem Oz{np cp ap pos:Pos}{kk:Nat}(G:Good X)(hh:σ.f.hd=false)(hx:gK.pg[k]?=some x)(ho:l9 σ.f x=true):SS σ (.raise k w) (.Raise (some (.Call (.Name x np) [.Constant (.str w) kk ap] [] cp)) none pos):=λP K Q Z p Z=>by
 refine(G.ex k x hx).casesOn λCa bm newId initId B O FB hC Z Z Z=>?_
 obtain⟨tl,N,nm,q,bs,hdct,sn,sub,ab,col,dd,k0,k1,k2,k3,k5,mN,gC,gN,AG,T⟩:=O.obj
 refine wpAny_Raise_call_subT (C:=Ca) (nm:=nm) (q:=q) (N:=N) (bs:=bs) (bm:=tl) (hdct:=hdct) (sn:=sn) (sub:=sub) (ab:=ab) (col:=col) (dd:=dd) (k0:=k0) (k1:=k1) (k2:=k2) (k3:=k3) (k5:=k5) FB (mN:=mN) (T.hasType FB.hasBase) (P.calm hh) rfl AG (tH G P O.bound ho ⟨rfl,ot rfl (wpAny_items_cons (wpAny_Constant_str (wpAny_items_nil ⟨rfl,show(1:Nat)<=sizeLine by decide,P.R.keep _ _ gC,gN.keeps P.R.keep,T.keeps P.R.keep,λh' e hm=>?_⟩)) rfl)⟩)
 obtain⟨t,he,_,_⟩:=hm.there
 have R1:SR ⟨P.φ,h'⟩ P.H:=SR.ext (p:=P.w) P.R hm.keeps
 exact P.kn _ _ p ⟨P.φ++[e],h',P.s.toks+1,SR.adopt (p:=⟨P.φ,h'⟩) R1 (P.R.new (p:=P.w) hm.new) (λo x=>by rw[he] at x;cases x;exact mZ rfl rfl) (.exc he hC rfl rfl (.inl rfl)),bK.adopt (q:=⟨P.φ,h'⟩) (bK.ext (q:=P.w) .refl hm.keeps) hm.new⟩ _ (xT R1)
theorem OA{P:Pt}{v:V}{y:Value}{j:Nat}(r:aY P.w v y)(e:excAt P.H v=some j)(T:Value->Prop)(kk:∀l a o C,P.H[l]?=some (.exc j)->P.φ[l]?=some a->v=.ref l->P.s.heap.get? a=some o->o.cls=.ref C->X.exc[j]?=some C->T (.ref a)):T y:=
 cellAt.k e (λu=>v=u->T y) (λl c hl hc=>mW.k (λc=>P.H[l]?=some c->v=.ref l->T y) hc (λhl ev=>P.cell (ev▸r) hl T λa ha h=>h.inv _ λo C vs e1 e2 e3 Z Z=>kk l a o C hl ha ev e1 e3 e2) hl) rfl
theorem AH{T:Prop}{C:Addr}{j:Nat}(G:Good X)(e:X.exc[j]?=some C)(kk:∀{nm q N bs bm hdct sn sub ab col dd k0 k1 k2 k3 k5 newId},X.dC.get? C=some (excClassObj nm q C N bs bm hdct sn sub ab col dd k0 k1 k2 k3 k5 newId)->bm.contains (.type "BaseException")=true->bm.contains (.type "ValueError")=true->(∀k D,X.exc[k]?=some D->(Value.ref C::bm).contains (.ref D)=gM j k)->T):T:=by
 have hj:j<gK.pg.length:=G.DU▸(List.getElem?_eq_some_iff.mp e).1
 refine(G.ex j _ (getElem?_eq_getElem hj)).casesOn λC' bm newId initId B O FB hC hv hm Z=>?_
 rw[e] at hC;cases hC
 obtain⟨tl,N,nm,q,bs,hdct,sn,sub,ab,col,dd,k0,k1,k2,k3,k5,mN,gC,gN,AG,T'⟩:=O.obj
 exact kk gC (T'.hasType FB.hasBase) (T'.hasType hv.1) λk D hD=>hm _ _ gC rfl k D hD
end
section
variable{A:Around}{Ex:Value->Shared->Prop}{h:Heap}{g:Array GenState}{d:Drawn}{t:Nat}{os:OsState}{a C D:Addr}{o:Obj}{nm q:Str}{N:Addr}{bs bm:List Value}{hdct:Bool}{sn:List Str}{sub:List Value}{ab:Bool}{col:Option Bool}{dd:Option Addr}{k0 k1 k2 k3 k5:Option Value}{newId:String}
noncomputable abbrev mr(h:Heap)(C:Addr)(n:Str)(y:Option Value):Prop:=∀{A:Around} {Ex:Value->Shared->Prop} {g:Array GenState} {d:Drawn} {t:Nat} {os:OsState} {Q:Option Value->Shared->Prop},Q y ⟨h,g,d,t,os⟩->wpAny X.M A (typeLookup (.ref C) n) Q Ex ⟨h,g,d,t,os⟩
theorem OB{R:Result->Shared->Prop}(hC:h.get? C=some (excClassObj nm q C N bs bm hdct sn sub ab col dd k0 k1 k2 k3 k5 newId))(hO:bm.contains (.type "object")=true)(hx:h.get? a=some o)(hc:o.cls=.ref C)(hq:R (.ok (.ret (.ref C))) ⟨h,g,d,t,os⟩):
  codeAny X.M A (.call (.builtin "getset_descriptor.__get__") ⟨[.builtin "object.__class__",.ref a,.ref C],[]⟩) R ⟨h,g,d,t,os⟩:=by
 have FF:(⟨h,g,d,t,os⟩:Shared).TypeIs (.builtin "object.__class__") "getset_descriptor":=PySem.F.typeOf_object_class
 have rH:(Value.ref C::bm).contains (.type (".".intercalate ("object.__class__".cutAt '.').dropLast))=true:=by rw[PySem.F.owner_object_class,contains_cons,hO];rfl
 refine codeAny_call_builtin PySem.F.slot_gs_get.plain PySem.F.entry_gs_get (PySem.F.slot_gs_get.check _ _ _ _ _ _ _ _ FF (PySem.F.args_gs_get _ _ _) ?_)
 repeat (any_goals (first|assumption|(with_reducible refine wpAny_loadPart_at hx ?_;rw[hc])|(with_reducible refine wpAny_isSubtype_exc hC ?_;rw[rH])|wp_step))
 refine⟨Code.quiet_builtin _ (by decide +kernel),codeAny_builtin PySem.F.entry_object_class ?_⟩
 repeat (any_goals (first|assumption|(with_reducible refine wpAny_loadPart_at hx ?_;rw[hc])|wp_step))
theorem OC{tk:Tok}{Q:PySem.Fin->Shared->Prop}(hC:h.get? C=some (excClassObj nm q C N bs bm hdct sn sub ab col dd k0 k1 k2 k3 k5 newId))(hO:bm.contains (.type "object")=true)(l3:mr h C "__class__" (some (.builtin "object.__class__")))(hx:h.get? a=some o)(hc:o.cls=.ref C)(hq:Q (.done (.ret (.ref C))) ⟨h,g,d,t,os⟩):
  wpAny X.M A (Builtin.«object.__getattribute__» ⟨[.ref a,.str "__class__" tk],[]⟩) Q Ex ⟨h,g,d,t,os⟩:=by
 have FF:(⟨h,g,d,t,os⟩:Shared).TypeIs (.builtin "object.__class__") "getset_descriptor":=PySem.F.typeOf_object_class
 have f5:=PySem.F.typeOf_object_class
 have f6:=PySem.F.slot_gs_get.lookup
 have f7:=PySem.F.slot_gs_set.lookup
 repeat (any_goals (first|assumption|(with_reducible refine wpAny_loadPart_at hx ?_;rw[hc])|with_reducible refine l3 ?_|wp_step))
 refine OB hC hO hx hc ?_
 repeat (any_goals (first|assumption|wp_step))
theorem OD{nameV:Value}{Q:Unit->Shared->Prop}(hC:h.get? C=some (excClassObj nm q C N bs bm hdct sn sub ab col dd k0 k1 k2 k3 k5 newId))(hB:bm.contains (.type "BaseException")=true)(hx:h.get? a=some o)(hc:o.cls=.ref C)(hq:Q () ⟨h,g,d,t,os⟩):wpAny X.M A (checkBuiltinCall "BaseException.__getattribute__" ⟨[.ref a,nameV],[]⟩) Q Ex ⟨h,g,d,t,os⟩:=by
 have hk:builtinKind "BaseException.__getattribute__"=some .slot:=by decide +kernel
 have OE:splitId "BaseException.__getattribute__"=some ("BaseException","__getattribute__"):=by decide +kernel
 have rH:(Value.ref C::bm).contains (.type "BaseException")=true:=by rw[contains_cons,hB];rfl
 have ha:=PySem.F.args_bexc_ga (.ref a) nameV
 simp only[checkBuiltinCall,hk,OE]
 refine wpAny_bind ?_
 unfold isInstance
 repeat (first|(with_reducible refine wpAny_loadPart_at hx ?_;rw[hc])|(with_reducible refine wpAny_isSubtype_exc hC ?_;rw[rH])|wp_step)
 exact hq
theorem OF{tk:Tok}{fill expr:Bool}{Q:Value->Shared->Prop}(hC:h.get? C=some (excClassObj nm q C N bs bm hdct sn sub ab col dd k0 k1 k2 k3 k5 newId))(hB:bm.contains (.type "BaseException")=true)(hO:bm.contains (.type "object")=true)(l1:mr h C "__getattribute__" (some (.builtin "BaseException.__getattribute__")))(l2:mr h C "__getattr__" none)(l3:mr h C "__class__" (some (.builtin "object.__class__")))(hx:h.get? a=some o)(hc:o.cls=.ref C)(hq:Q (.ref C) ⟨h,g,d,t,os⟩):wpAny X.M A (getAttrBy (.ref a) (.str "__class__" tk) fill expr) Q Ex ⟨h,g,d,t,os⟩:=by
 have ga:=PySem.F.attr_ValueError.ga
 have f3:=ga.bind (.ref a)
 have WW:(expr&&onTheHeap (Value.builtin "BaseException.__getattribute__"))=false:=by cases expr<;>rfl
 have OG:(Value.builtin "BaseException.__getattribute__"==Value.builtin "object.__getattribute__")=false:=by decide +kernel
 have WX:(onTheHeap (Value.ref C)&&Value.builtin "BaseException.__getattribute__"==Value.builtin "object.__getattribute__")=false:=by rw[OG];rfl
 repeat (any_goals (first|assumption|(with_reducible refine wpAny_loadPart_at hx ?_;rw[hc])|with_reducible refine l1 ?_|with_reducible refine l2 ?_|wp_step))
 refine codeAny_call_builtin ga.plain PySem.F.entry_bexc_ga (OD hC hB hx hc (OC hC hO l3 hx hc ?_))
 repeat (any_goals (first|assumption|wp_step))
theorem OH{Q:Option Value->Shared->Prop}(hC:h.get? C=some (excClassObj nm q C N bs bm hdct sn sub ab col dd k0 k1 k2 k3 k5 newId))(hB:bm.contains (.type "BaseException")=true)(hO:bm.contains (.type "object")=true)(l1:mr h C "__getattribute__" (some (.builtin "BaseException.__getattribute__")))(l2:mr h C "__getattr__" none)(l3:mr h C "__class__" (some (.builtin "object.__class__")))(hx:h.get? a=some o)(hc:o.cls=.ref C)(hq:Q (some (.ref C)) ⟨h,g,d,t+1,os⟩):wpAny X.M A (getAttr? (.ref a) "__class__") Q Ex ⟨h,g,d,t,os⟩:=by
 unfold getAttr? getAttrBy?
 repeat (any_goals (first|assumption|with_reducible apply OF hC hB hO l1 l2 l3 hx hc|wp_step))
theorem OI{dep:Int}{tk:Tok}{b:Bool}{tD:Option Addr}{cd:ClassData}{sl:Array (Option Value)}{Q:PySem.Fin->Shared->Prop}(hC:h.get? C=some (excClassObj nm q C N bs bm hdct sn sub ab col dd k0 k1 k2 k3 k5 newId))(hB:bm.contains (.type "BaseException")=true)(hO:bm.contains (.type "object")=true)(l1:mr h C "__getattribute__" (some (.builtin "BaseException.__getattribute__")))(l2:mr h C "__getattr__" none)(l3:mr h C "__class__" (some (.builtin "object.__class__")))(hx:h.get? a=some o)(hc:o.cls=.ref C)(hD:h.get? D=some {cls:=.type "type",dict:=tD,data:=.cls cd,slots:=sl})(hb:(Value.ref C::bm).contains (.ref D)=b)(hq:∀nc,Q (.done (.ret (.bool b))) ⟨h,g,d,nc,os⟩):
  wpAny X.M A (Builtin.«isinstance.nested» ⟨[.ref a,.ref D,.int dep tk],[]⟩) Q Ex ⟨h,g,d,t,os⟩:=by
 cases he:(Value.ref C==Value.ref D) with
 |true=>
  have yh:b=true:=by rw[<-hb,contains_cons,show(Value.ref D==Value.ref C)=true from beq_iff_eq.mpr (beq_iff_eq.mp he).symm,Bool.true_or]
  subst yh
  repeat (any_goals (first|assumption|(with_reducible refine wpAny_loadPart_at hx ?_;rw[hc])|wp_step))
  exact hq _
 |false=>
  cases b with
  |true=>
   repeat (any_goals (first|assumption|(with_reducible refine wpAny_loadPart_at hx ?_;rw[hc])|with_reducible refine wpAny_loadPart_at hD ?_|(with_reducible refine wpAny_isSubtype_exc hC ?_;rw[hb])|wp_step))
   exact hq _
  |false=>
   repeat (any_goals (first|assumption|(with_reducible refine wpAny_loadPart_at hx ?_;rw[hc])|with_reducible refine wpAny_loadPart_at hD ?_|(with_reducible refine wpAny_isSubtype_exc hC ?_;rw[hb])|with_reducible apply OH hC hB hO l1 l2 l3 hx hc|wp_step))
   exact hq _
theorem OJ{dep:Int}{tk:Tok}{Q:PySem.Fin->Shared->Prop}(hC:h.get? C=some (excClassObj nm q C N bs bm hdct sn sub ab col dd k0 k1 k2 k3 k5 newId))(hV:bm.contains (.type "ValueError")=true)(hx:h.get? a=some o)(hc:o.cls=.ref C)(hq:Q (.done (.ret (.bool true))) ⟨h,g,d,t,os⟩):
  wpAny X.M A (Builtin.«isinstance.nested» ⟨[.ref a,.type "ValueError",.int dep tk],[]⟩) Q Ex ⟨h,g,d,t,os⟩:=by
 have WY:typeOf (.type "ValueError")=pure (.type "type"):=by kernel_rfl
 have rH:(Value.ref C::bm).contains (.type "ValueError")=true:=by rw[contains_cons,hV];rfl
 repeat (any_goals (first|assumption|(with_reducible refine wpAny_loadPart_at hx ?_;rw[hc])|(with_reducible refine wpAny_isSubtype_exc hC ?_;rw[rH])|wp_step))
end
section
variable{σ:Lv}{a:E}{e nm g:Expr}{pos:Pos}
inductive yi:Option Nat->Value->Prop
 |own {k:Nat} {D:Addr}:X.exc[k]?=some D->yi (some k) (.ref D)
 |ve:yi none (.type "ValueError")
theorem OK{P:Pt}{v:V}{y c:Value}{j:Nat}{Q:Value->Shared->Prop}{k:Option Nat}(G:Good X)(hk:yi k c)(r:aY P.w v y)(ej:excAt P.H v=some j)(kq:∀tk,Q (.bool (D1 j k)) (upd P.s P.s.heap tk)):wpAny X.M P.A (call (.builtin "isinstance") [y,c]) Q P.Ex P.s:=
 OA r ej (λy=>wpAny X.M P.A (call (.builtin "isinstance") [y,c]) Q P.Ex P.s) λl a o C hl ha ev e1 e2 e3=>by
  have hj:j<gK.pg.length:=G.DU▸(List.getElem?_eq_some_iff.mp e3).1
  refine(G.ex j _ (getElem?_eq_getElem hj)).casesOn λC' bm newId initId B O FB hC hv hm lk=>?_
  obtain rfl:C=C':=Option.some.inj (e3.symm.trans hC)
  obtain⟨tl,N,nm,q,bs,hdct,sn,sub,ab,col,dd,k0,k1,k2,k3,k5,mN,gC,gN,AG,T'⟩:=O.obj
  have hO:tl.contains (.type "object")=true:=T'.hasType hv.2
  obtain⟨A,φ,H,⟨hp,gs,d,t,os⟩,Ex,rm,R,fr⟩:=P
  have l:∀q,q∈w5->mr hp C q.1 q.2:=λq hq Z Z Z Z Z Z Z z=>lk q hq _ _ _ _ _ _ _ _ R.keep z
  cases hk with
  |own hD=>exact AH G hD λgD Z Z Z=>call_isinstance_of (OI (R.keep _ _ gC) (T'.hasType FB.hasBase) hO (l _ (.head _)) (l _ (.tail _ (.head _))) (l _ (.tail _ (.tail _ (.head _)))) e1 e2 (R.keep _ _ gD) (hm _ _ gC rfl _ _ hD) kq) (λh=>by cases h)
  |ve=>exact call_isinstance_of (OJ (R.keep _ _ gC) (T'.hasType hv.1) e1 e2 (kq _)) (λh=>by cases h)
end
section
variable{σ:Lv}{a b c:E}{e nm g t y z:Expr}{pos:Pos}{k:Option Nat}
theorem OL(hc:tB σ c t)(ha:bM σ a y)(hb:bM σ b z):bM σ (.bz c a b) (.IfExp t y z pos):=
 ⟨λP post Q p k=>IfExp_ (hc P _ _ p λv H1 p1=>p1.m λt p1 N=>by
  cases t
  ·exact hb.1 (P.to N) _ _ p1 (k.nx N)
  ·exact ha.1 (P.to N) _ _ p1 (k.nx N)),λP post Q p k=>isTrue_IfExp (hc P _ _ p λv H1 p1=>p1.m λt p1 N=>by
  cases t
  ·exact hb.2 (P.to N) _ _ p1 (k.nx N)
  ·exact ha.2 (P.to N) _ _ p1 (k.nx N))⟩
theorem FG{T:Expr->Prop}(G:Good X)(hn:qN σ.f k nm=true)(kk:∀y p,(∀(P:Fp σ) (Q:Value->Shared->Prop),(∀c,yi k c->Q c P.s)->wpAny X.M P.A (eval (.Name y p) P.env) Q P.Ex P.s)->T (.Name y p)):T nm:=by
 cases k with
 |none=>
  exact eX.k (G:=T) hn λx np h=>aR h λe1 ho=>kk x np λP Q kq=>by
   obtain rfl:=eq_of_beq e1
   exact pJ G P (y:=.type "ValueError") (gX 8 (by decide)) ho (kq _ .ve)
 |some k=>exact eX.k (G:=T) hn λx np h=>aR h λe1 ho=>kk x np λP Q kq=>(G.ex k x (of_decide_eq_true e1)).casesOn λC bm newId initId B O FB hC hv hm lk=>tH G P O.bound ho (kq _ (.own hC))
theorem OM(G:Good X)(hg:dW σ.f "isinstance" g=true)(hn:qN σ.f k nm=true)(h0:cg σ.f c e=true)(he:b8 σ c e):b8 σ (.j9 k c) (.Call g [e,nm] [] pos):=λP post Q p kq=>
 eX.k (G:=λg=>wpAny X.M P.A (eval (.Call g [e,nm] [] pos) P.env) Q P.Ex P.s) hg λx np hg=>aR hg λe1 ho=>FG (T:=λnm=>wpAny X.M P.A (eval (.Call (.Name x np) [e,nm] [] pos) P.env) Q P.Ex P.s) G hn λy yp hy=>by
  obtain rfl:=eq_of_beq e1
  have nh:(backTo pos (starEach [e,.Name y yp] P.env)).any (·.1)=false:=by rw[pM h0 P.env];rfl
  refine wpAny_Call_NameR (pJ G P (gX 1 (by decide)) ho (Calls.callWith_builtin nh (ot nh (wpAny_items_cons (he P _ _ p (λv H1 p1 N x r=>?_)) (pM h0 P.env _)))))
  exact wpAny_items_cons (hy (P.to N) _ λc hc=>wpAny_items_nil (aH.k p1 λj ej p1=>OK (P:=N.pt) G hc r ej λtk=>(kq.nx N).now p1 (.bool _) tk)) rfl
end
section
variable{M:Model}{A:Around}{E:Value->Shared->Prop}{h:Heap}{g:Array GenState}{d:Drawn}{t:Nat}{os:OsState}{e C D:Addr}{oe:Obj}{nm q:Str}{N:Addr}{bs bm:List Value}{hdct:Bool}{sn:List Str}{sub:List Value}{ab:Bool}{col:Option Bool}{dd:Option Addr}{k0 k1 k2 k3 k5:Option Value}{newId:String}{ON q':Str}{N':Addr}{oj AI:List Value}{OO:Bool}{OP:List Str}{sub':List Value}{OQ:Bool}{col':Option Bool}{OR:Option Addr}{OS OT OU OV OW:Option Value}{newId':String}
theorem OX{Q:Bool->Shared->Prop}(hC:h.get? C=some (excClassObj nm q C N bs bm hdct sn sub ab col dd k0 k1 k2 k3 k5 newId))(hD:h.get? D=some (excClassObj ON q' D N' oj AI OO OP sub' OQ col' OR OS OT OU OV OW newId'))(he:h.get? e=some oe)(OY:oe.cls=.ref C)(OZ:AI.contains (.type "BaseException")=true)(hb:(Value.ref C::bm).contains (.ref D)=true)
  (hq:Q true ⟨h,g,d,t,os⟩):wpAny M A (excMatches (.ref e) (.ref D)) Q E ⟨h,g,d,t,os⟩:=by
 have rH:(Value.ref D::AI).contains (.type "BaseException")=true:=by rw[contains_cons,OZ,Bool.or_true]
 have f:=tc_notTuple
 unfold excMatches
 repeat (first|(with_reducible refine wpAny_loadPart_at he ?_;rw[OY])|with_reducible refine wpAny_loadPart_at hD ?_|(with_reducible refine wpAny_isSubtype_exc hD ?_;rw[rH])|(with_reducible refine wpAny_isSubtype_exc hC ?_;rw[hb])|wp_step)
 exact hq
end
section
variable{σ:Lv}{r:Option cX}{e h:E}{k i j l:Nat}{b:Stmt}{t x:Expr}{n:Str}{rp hp pos:Pos}{K:Out->Prop}{Q:Flow->Shared->Prop}
noncomputable abbrev Lv.hd(σ:Lv):Lv:=⟨σ.n,σ.m,⟨σ.f.sc,σ.f.ns,true⟩,λZ Z=>False⟩
noncomputable abbrev Fp.hd(P:Fp σ)(y:Value):Fp σ.hd:=
 ⟨⟨P.A.mark (some y),P.φ,P.H,P.s,NE,⟨P.rm.depth,P.rm.units,P.rm.frames⟩,P.R,P.fr⟩,P.env,P.ρ,P.own,P.kd,P.F,⟨P.rn.depth,P.rn.units,P.rn.frames⟩,P.hf,λh=>(nomatch h),λZ Z h=>h.elim⟩
theorem O0{P:Fp σ}{a:Addr}(G:Good X)(ht:qN σ.f (some k) t=true)(hn:kS σ.f.ns i n=true)(tV:σ.f.sc.names.lookup n=some .local)(hx:b8 σ.hd h x)(hl:P.H[l]?=some (.exc j))(ha:P.φ[l]?=some a)(hT:q8 P.w a)(hs:gM j k=true)(ho:tK P.env P.own σ.f.ns)(p:WE σ.hd.c h (P.ρ.set i (some (.ref l))) P.H λr H=>K (.ret r H))(kq:KO P K Q):
  wpAny X.M P.A (handleBy (.ref a) P.env [.ExceptHandler (some t) (some n) [.Return (some x) rp] hp]) Q P.Ex P.s:=by
 refine wpAny_handleBy_cons (codeAny_handlers_test ?_) (λe=>nomatch e)
 refine FG (σ:=σ.hd) (k:=some k) (T:=λt=>wpAny X.M (P.A.mark (some (.ref a))) (eval t P.env) _ _ P.s) G ht λy yp hy=>vb (hy (P.hd (.ref a)) _ λc hc=>?_)
 cases hc with
 |own hD=>
  refine P.R.at hl λa' rD hc=>?_
  rw[show P.φ[l]?=some a' from rD] at ha;cases ha
  refine hc.inv _ λoe Ca vs e1 e2 e3 e4 e5=>AH G e2 λgC Z Z hm=>AH G hD λgD hB Z Z=>?_
  refine OX (P.R.keep _ _ gC) (P.R.keep _ _ gD) e1 e3 hB ((hm _ _ hD).trans hs) (codeAny_handlers_suite_as ?_)
  refine xP (P:=(P.hd (.ref a)).toPt) hT rD λN hN=>?_
  refine kS.k hn λhi tU=>?_
  have ny:=ho.1 n tU
  refine En (P:=(P.hd (.ref a)).to N) hi tU ny (.ref (N.S.pre _ _ rD)) λN2=>?_
  refine wpAny_execs_cons (wpAny_Return_some (vb (hx N2.fp _ _ p λv H1 p1 N3 y r=>?_)))
  have hk:P.env.kindOf n=some .local:=by
   rcases P.kd n with e|⟨e,_⟩
   ·rw[<-e];exact tV
   ·rw[tV] at e;cases e
  have pO:P.own P.env.locals:=by
   rcases ny with h|h
   ·exact h.2
   ·rw[hk] at h;cases h.1
  have F3:=N2.F.mono N3.S λZ Z h=>h
  obtain⟨m,tW,_⟩:=F3.loc
  refine wpAny_nameGoes hk tW (by rw[P.F.fc.fn];rfl) λh' m' O1 lA=>?_
  have c:Ch (·=P.env.locals) N3.h h':=.but lA.extBut λo e=>tW.elim λo' q=>q.elim λZ q=>q.elim λZ q=>by rw[q.1] at e;cases e;exact u5 q.2.1
  have S3:bK P.own P.w N3.w:=(N.S.nil.trans N2.S).trans N3.S.nil
  have S4:bK P.own N3.w ⟨N3.φ,h'⟩:=bK.ch (io:=(·=P.env.locals)) (q:=N3.w) .refl c λb hb=>.inr (hb▸⟨pO,O1.imp λo q=>q.elim λZ q=>q.elim λZ q=>⟨q.1,λZ Z Z=>xn q.2.1⟩⟩)
  exact kq.ret _ _ p1 N3.φ h' _ (N3.R.ch (p:=N3.w) (io:=(·=P.env.locals)) (λb hb=>hb▸F3.ap _ (.inl rfl)) c) (S3.trans S4) _ (r.mono S4)
theorem O2{P:Fp σ}(G:Good X)(ht:qN σ.f (some k) t=true)(hn:kS σ.f.ns i n=true)(tV:σ.f.sc.names.lookup n=some .local)(hx:b8 σ.hd h x)(ho:tK P.env P.own σ.f.ns)(kq:KO P K Q):
  qT gm P.w P.s (λv H=>aH (excAt H v) λj=>gM j k=true/\WE σ.c.no h (P.ρ.set i (some v)) H λr H=>K (.ret r H))
   (λe bU=>wpAny X.M P.A (noteFrame e P.env) (λZ ey=>wpAny X.M P.A (setFlight e none) (λZ lj=>wpAny X.M P.A (handleBy e P.env [.ExceptHandler (some t) (some n) [.Return (some x) rp] hp]) Q P.Ex lj) P.Ex ey) P.Ex bU):=λv H p φ hh tk R S y ry=>
 aH.k p λj ej p1=>cellAt.k ej (λu=>v=u->wpAny X.M P.A (noteFrame y P.env) _ P.Ex (upd P.s hh tk)) (λl c hl hc=>mW.k (λc=>H[l]?=some c->v=.ref l->wpAny X.M P.A (noteFrame y P.env) _ P.Ex (upd P.s hh tk)) hc (λhl ev=>by
  subst ev
  have N:Nx P.toPt H:=⟨φ,hh,tk,R,S⟩
  refine ry.inv (λy=>wpAny X.M P.A (noteFrame y P.env) (λZ ey=>wpAny X.M P.A (setFlight y none) (λZ lj=>wpAny X.M P.A (handleBy y P.env [.ExceptHandler (some t) (some n) [.Return (some x) rp] hp]) Q P.Ex lj) P.Ex ey) P.Ex (upd P.s hh tk)) λa ha=>?_
  refine Ai (P:=(⟨φ,hh,tk,R,S⟩:Nx P.toPt H).pt) P.hf hl ha λN1 h1=>xP (P:=N1.pt) h1 (N1.S.pre _ _ ha) λN2 h2=>?_
  exact O0 (P:=P.to ((⟨φ,hh,tk,R,S⟩:Nx P.toPt H).then (N1.then N2))) G ht hn tV hx hl (N2.S.pre _ _ (N1.S.pre _ _ ha)) h2 p1.1 ho p1.2 (kq.nx ((⟨φ,hh,tk,R,S⟩:Nx P.toPt H).then (N1.then N2)).sx)) hl) rfl
noncomputable abbrev Fp.FH(P:Fp σ)(x:PQ)(Ex:Value->Shared->Prop)(kx:qT gm P.w P.s x Ex):Fp (σ.ex x):=⟨⟨P.A,P.φ,P.H,P.s,Ex,P.rm,P.R,P.fr⟩,P.env,P.ρ,gm,P.kd,P.F,P.rn,P.hf,P.calm,kx⟩
theorem O3(G:Good X)(ht:qN σ.f (some k) t=true)(hn:kS σ.f.ns i n=true)(tV:σ.f.sc.names.lookup n=some .local)(hx:b8 σ.hd h x)(hb:DR σ.f r e b=true)(he:∀x' y,cg σ.f e x'=true->b8 (σ.ex y) e x'):SS σ (.iX r e k i h) (.Try [b] [.ExceptHandler (some t) (some n) [.Return (some x) rp] hp] [] [] pos):=λP K Q ho p kq=>by
 refine wpAny_Try_except (wpAny_execs_cons ?_)
 have kx:=O2 (rp:=rp) (hp:=hp) G ht hn tV hx ho kq
 cases r with
 |none=>exact nV.k (G:=λb=>wpAny X.M P.A (exec b P.env) _ _ P.s) hb λx' O4 h=>fj.k (G:=λx'=>wpAny X.M P.A (exec (.Return x' O4) P.env) _ _ P.s) h λx' h=>wpAny_Return_some (he x' _ h (P.FH _ _ kx) _ _ p λv H1 p1 N y ry=>kq.ret _ _ p1 _ _ _ N.R N.S.nil _ ry)
 |some t=>
  exact mh.k (G:=λb=>wpAny X.M P.A (exec b P.env) _ _ P.s) hb λts x' ap h=>if1.k (G:=λts=>wpAny X.M P.A (exec (.Assign ts x' ap) P.env) _ _ P.s) h λtg h=>aR h λh1 h=>aR h λh2 h=>aR h λh3 h4=>by
   refine wpAny_Assign_stores (he x' _ h2 (P.FH _ _ kx) _ _ p (λv H1 p1 N y ry=>aH.k p1 λb9 ha p1=>?_)) (vk h3 _) ?_
   ·rw[xJ h1 []]
    exact vb (tJ t tg (P.no.to (⟨N.φ,N.h,N.tk,N.R,N.S⟩:Nx P.no.toPt H1)) v y b9 _ h1 (λz hz=>ho.1 z (vj t tg h1 z hz)) ry ha λN'=>wpAny_execs_nil (wpAny_execs_nil (kq.next _ _ p1 ⟨N'.φ,N'.h,N'.tk,N'.R,N'.F,N.S.nil.trans N'.S⟩)))
   ·cases t with
    |J i=>exact eX.k (G:=λtg=>swappedStores [tg] x' P.env=pure none) h1 λZ Z Z=>rfl
    |aC ts=>exact ma.k (G:=λtg=>te tg x'=true->swappedStores [tg] x' P.env=pure none) h1 (λZ Z Z Z hx=>by cases x'<;>first|rfl|cases hx) h4
end
noncomputable def Ok(σ:Lv):Prop:=Good X/\tC σ.m/\2*σ.m+1<=σ.n
noncomputable def RE(c:E):Prop:=∀(σ:Lv) (e:Expr),Ok σ->cg σ.f c e=true->bM σ c e
noncomputable def pR(c:It):Prop:=∀(σ:Lv) (e:Expr),Ok σ->wZ σ.f c e=true->jm σ c e
noncomputable def jn(c:List E):Prop:=∀(σ:Lv) (e:List Expr),Ok σ->gh σ.f c e=true->eA σ c e
noncomputable def RO(c:Option E):Prop:=∀(σ:Lv) (e:Option Expr),Ok σ->zP σ.f c e=true->rB σ c e
section
variable{a b c:E}{es:List E}
theorem nt{b:Bool}(h:(!b)=true):b=false:=not_eq_true' _▸h
theorem O5{v:V}:RE (.k v):=λσ e og h=>nT.k (G:=λe=>bM σ _ e) h λc k p h=>(Lx (of_decide_eq_true h)).t λZ=>rfl
theorem O6{i:Nat}:RE (.J i):=λσ e og h=>eX.k (G:=λe=>bM σ _ e) h λx p h=>(Lo h).t λZ=>rfl
theorem O7{j:Nat}:RE (.gk j):=λσ e og h=>eX.k (G:=λe=>bM σ _ e) h λx p h=>aR h λh1 h2=>(Lp og.1 (of_decide_eq_true h1) h2).t λZ=>rfl
theorem O8{op:lX}(ra:RE a)(rb:RE b):RE (.bin op a b):=λσ e og h=>uL.k (G:=λe=>bM σ _ e) h λl o r p h=>aR h λh1 h=>aR h λh2 h3=>of_decide_eq_true h1▸(Ly og.1 (ra σ l og h2).1 (rb σ r og h3).1).t λZ=>rfl
theorem O9(ra:RE a):RE (.neg a):=λσ e og h=>qI.k (G:=λe=>bM σ _ e) h λo y p h=>aR h λh1 h=>of_decide_eq_true h1▸(Lz (ra σ y og h).1).t λZ=>rfl
theorem Pa(ra:RE a):RE (.not a):=λσ e og h=>qI.k (G:=λe=>bM σ _ e) h λo y p h=>aR h λh1 h=>of_decide_eq_true h1▸LA (ra σ y og h)
theorem Pb(r:jn es):RE (.and es):=λσ e og h=>qJ.k (G:=λe=>bM σ _ e) h λo xs p h=>aR h λh1 h=>of_decide_eq_true h1▸Ek (w:=true) (r σ xs og h) λZ Z Z p=>p
theorem Pc(r:jn es):RE (.or es):=λσ e og h=>qJ.k (G:=λe=>bM σ _ e) h λo xs p h=>aR h λh1 h=>of_decide_eq_true h1▸Ek (w:=false) (r σ xs og h) λZ Z Z p=>p
theorem Pe{op:lY}(ra:RE a)(rb:RE b):RE (.cmp op a b):=λσ e og h=>nU.k (G:=λe=>bM σ _ e) h λl os rs p h=>if1.k (G:=λos=>bM σ _ (.Compare l os rs p)) h λo h=>if1.k (G:=λrs=>bM σ _ (.Compare l [o] rs p)) h λr h=>aR h λh1 h=>aR h λh2 h3=>of_decide_eq_true h1▸LB og.1 h3 (ra σ l og h2).1 (rb σ r og h3).1
theorem Pf{op nQ:lY}(ra:RE a)(rb:RE b)(rc:RE c):RE (.pf op nQ a b c):=λσ e og h=>nU.k (G:=λe=>bM σ _ e) h λl os rs p h=>if2.k (G:=λos=>bM σ _ (.Compare l os rs p)) h λo o' h=>if2.k (G:=λrs=>bM σ _ (.Compare l [o,o'] rs p)) h λr r' h=>aR h λh1 h=>aR h λz9 h=>aR h λh2 h=>aR h λh3 h4=>of_decide_eq_true h1▸of_decide_eq_true z9▸LC og.1 h4 (ra σ l og h2).1 (rb σ r og h3).1 (rc σ r' og h4).1
theorem Pg{w:Bool}(ra:RE a):RE (.isNone w a):=λσ e og h=>nU.k (G:=λe=>bM σ _ e) h λl os rs p h=>if1.k (G:=λos=>bM σ _ (.Compare l os rs p)) h λo h=>aR h λh1 h=>if1.k (G:=λrs=>bM σ _ (.Compare l [o] rs p)) h λr h=>nT.k (G:=λr=>bM σ _ (.Compare l [o] [r] p)) h λc k kp h=>aR h λh2 h=>of_decide_eq_true h1▸of_decide_eq_true h2▸LD (ra σ l og h).1
theorem Ph(r:jn es):RE (.aC es):=λσ e og h=>ma.k (G:=λe=>bM σ _ e) h λxs k p h=>aR h λh1 h=>(LF (of_decide_eq_true h1) (r σ xs og h)).t λZ=>rfl
theorem Pj(r:jn es):RE (.bX es):=λσ e og h=>uM.k (G:=λe=>bM σ _ e) h λxs p h=>aR h λh1 h=>(LG (of_decide_eq_true h1) (r σ xs og h)).t λZ=>rfl
theorem Pk(ra:RE a)(rb:RE b):RE (.aM a b):=λσ e og h=>md.k (G:=λe=>bM σ _ e) h λv s p h=>aR h λh1 h2=>(LI og.1 h2 (ra σ v og h1).1 (rb σ s og h2).1).t λZ=>rfl
theorem Pl{st:E}(ra:RE a)(rt:RE st):RE (.rev a st):=λσ e og h=>md.k (G:=λe=>bM σ _ e) h λv s p h=>qK.k (G:=λs=>bM σ _ (.Subscript v s p)) h λl u t sp h=>aR h λh0 h=>aR h λh1 h=>aR h λh2 h=>qM (G:=λl=>bM σ _ (.Subscript v (.Slice l u t sp) p)) h0 (qM (G:=λu=>bM σ _ (.Subscript v (.Slice none u t sp) p)) h1 (fj.k (G:=λt=>bM σ _ (.Subscript v (.Slice none none t sp) p)) h λt h=>(M1 (ra σ v og h2).1 (rt σ t og h).1).t λZ=>rfl))
theorem Pn{lo hi:Option E}(ra:RE a)(rl:RO lo)(rh:RO hi):RE (.fG a lo hi):=λσ e og h=>md.k (G:=λe=>bM σ _ e) h λv s p h=>qK.k (G:=λs=>bM σ _ (.Subscript v s p)) h λl u t sp h=>aR h λh0 h=>aR h λh1 h=>aR h λh2 h3=>qM (G:=λt=>bM σ _ (.Subscript v (.Slice l u t sp) p)) h0 ((MY og.1 (ra σ v og h1).1 (rl σ l og h2) (rh σ u og h3)).t λZ=>rfl)
theorem Po{f:Nat}(r:jn es):RE (.call f es):=λσ e og h=>fH.k (G:=λe=>bM σ _ e) h λg xs kws p h=>aR h λh0 h=>eO (G:=λkws=>bM σ _ (.Call g xs kws p)) h0 (eX.k (G:=λg=>bM σ _ (.Call g xs [] p)) h λx np h=>aR h λh1 h=>aR h λh2 h=>aR h λh4 h3=>(LJ og.1 og.2.1 og.2.2 (of_decide_eq_true h1) h2 h4 (r σ xs og h3)).t λZ=>rfl)
theorem Pp:RE .nR:=λσ e og h=>nW.k (G:=λe=>bM σ _ e) h λks vs p h=>aR h λh1 h2=>eO (G:=λks=>bM σ _ (.Dict ks vs p)) h1 (eO (G:=λvs=>bM σ _ (.Dict [] vs p)) h2 ((NZ og.1).t λZ=>rfl))
theorem Pq:RE .l6:=λσ e og h=>nW.k (G:=λe=>bM σ _ e) h λks vs p h=>aR h λh1 h2=>eO (G:=λks=>bM σ _ (.Dict ks vs p)) h1 (eO (G:=λvs=>bM σ _ (.Dict [] vs p)) h2 ((N6 og.1).t λZ=>rfl))
theorem Ps(ra:RE a)(rb:RE b):RE (.uw a b):=λσ e og h=>nW.k (G:=λe=>bM σ _ e) h λks vs p h=>if1.k (G:=λks=>bM σ _ (.Dict ks vs p)) h λk h=>fj.k (G:=λk=>bM σ _ (.Dict [k] vs p)) h λk h=>if1.k (G:=λvs=>bM σ _ (.Dict [some k] vs p)) h λv h=>aR h λh1 h2=>(N8 og.1 (ra σ k og h1).1 (rb σ v og h2).1).t λZ=>rfl
theorem yk{σ:Lv}{e:Expr}(ra:RE a)(og:Ok σ)(h:cg σ.f a e=true):eA σ [a] [e]:=.cons h (ra σ e og h) .nil
theorem Pu(ra:RE a):RE (.listOf a):=λσ e og h=>fH.k (G:=λe=>bM σ _ e) h λg xs kws p h=>aR h λhh h=>aR h λh0 h=>eO (G:=λkws=>bM σ _ (.Call g xs kws p)) h0 (aR h λh1 h=>if1.k (G:=λxs=>bM σ _ (.Call g xs [] p)) h λe h=>(Ob (nt hh) og.1 h1 (yk ra og h)).t λZ=>rfl)
theorem Pw{m:Me}(ra:RE a)(r:jn es):RE (.c8 m a es):=λσ e og h=>fH.k (G:=λe=>bM σ _ e) h λg xs kws p h=>aR h λh0 h=>eO (G:=λkws=>bM σ _ (.Call g xs kws p)) h0 (mf.k (G:=λg=>bM σ _ (.Call g xs [] p)) h λo y ap h=>aR h λh1 h=>aR h λh2 h=>aR h λh3 h=>aR h λh4 h=>aR h λh5 h6=>by
 obtain rfl:=eq_of_beq h1
 have key:∀{id:String},vw m id->bM σ (.c8 m a es) (.Call (.Attribute o (s8 m).1 ap) xs [] p):=λM=>(M3 M h2 h3 (of_decide_eq_true h4) (ra σ o og h5).1 (r σ xs og h6)).t λZ=>rfl
 cases m with
 |append=>exact key M4
 |count=>exact key Aq
 |index=>exact key M5)
theorem Px(rc:RE c)(ra:RE a)(rb:RE b):RE (.bz c a b):=λσ e og h=>uN.k (G:=λe=>bM σ _ e) h λt y z p h=>aR h λh1 h=>aR h λh2 h3=>OL (rc σ t og h1).2 (ra σ y og h2) (rb σ z og h3)
theorem Py{i:Nat}(ra:RE a):RE (.attr a i):=λσ e og h=>mf.k (G:=λe=>bM σ _ e) h λo y p h=>aR h λh1 h=>aR h λh2 h3=>(Oj og.1 (of_decide_eq_true h1) h2 (ra σ o og h3).1).t λZ=>rfl
theorem Pz{f:Nat}(ra:RE a)(r:jn es):RE (.cx f a es):=λσ e og h=>fH.k (G:=λe=>bM σ _ e) h λg xs kws p h=>aR h λh0 h=>eO (G:=λkws=>bM σ _ (.Call g xs kws p)) h0 (mf.k (G:=λg=>bM σ _ (.Call g xs [] p)) h λo y ap h=>aR h λh1 h=>aR h λh2 h=>aR h λh3 h=>aR h λh4 h=>aR h λh5 h=>aR h λh6 h=>aR h λh7 h8=>(Ox og.1 og.2.1 og.2.2 (nt h6) (of_decide_eq_true h1) (λhm=>by rw[contains_iff_mem.mpr hm] at h2;cases h2) h3 h4 (of_decide_eq_true h5) (ra σ o og h7).1 (r σ xs og h8)).t λZ=>rfl)
theorem PA{f:Nat}:RE (.new f):=λσ e og h=>fH.k (G:=λe=>bM σ _ e) h λg xs kws p h=>aR h λh0 h=>eO (G:=λkws=>bM σ _ (.Call g xs kws p)) h0 (aR h λh1 h=>eO (G:=λxs=>bM σ _ (.Call g xs [] p)) h1 (aR h λh2 h=>aR h λh3 h4=>(Oy og.1 og.2.1 og.2.2 (nt h3) (of_decide_eq_true h2) h4).t λZ=>rfl))
theorem PB{k:Option Nat}(ra:RE a):RE (.j9 k a):=λσ e og h=>fH.k (G:=λe=>bM σ _ e) h λg xs kws p h=>aR h λh0 h=>eO (G:=λkws=>bM σ _ (.Call g xs kws p)) h0 (aR h λh1 h=>if2.k (G:=λxs=>bM σ _ (.Call g xs [] p)) h λe nm h=>aR h λh2 h3=>(OM og.1 h1 h2 h3 (ra σ e og h3).1).t λZ=>rfl)
end
section
variable{a b c:E}{es:List E}
theorem AJ{σ:Lv}{x:Expr}(h:gh σ.f es [x]=true)(G:List E->Prop)(k:∀a,cg σ.f a x=true->G [a]):G es:=by
 cases es with
 |nil=>cases h
 |cons a r=>
  refine aR (show(cg σ.f a x&&gh σ.f r [])=true from h) λh1 h2=>?_
  cases r with
  |nil=>exact k a h1
  |cons _ _=>cases h2
theorem PC{bi:Bi}(r:jn es):RE (.bi bi es):=λσ e og h=>fH.k (G:=λe=>bM σ (.bi bi es) e) h λg xs kws p h=>aR h λhh h=>by
 have hh:=nt hh
 have plain:(kws.isEmpty&&fj (uI bi) λq=>dW σ.f q.1 g&&(decide (xs.length=q.2)&&gh σ.f es xs))=true->bM σ (.bi bi es) (.Call g xs kws p):=λh=>aR h λh0 h=>eO (G:=λkws=>bM σ (.bi bi es) (.Call g xs kws p)) h0 (by
  cases hb:uI bi with
  |none=>rw[hb] at h;cases h
  |some q=>
   rw[hb] at h
   exact aR (show(dW σ.f q.1 g&&(decide (xs.length=q.2)&&gh σ.f es xs))=true from h) λh1 h=>aR h λh2 h3=>(NK hh og.1 hb h1 (r σ xs og h3)).t λZ=>rfl)
 cases bi with
 |nP t=>
  refine aR (show(kws.isEmpty&&(dW σ.f "isinstance" g&&if2 xs λe nm=>dW σ.f (Str.ofString (iZ t)) nm&&gh σ.f es [e]))=true from h) λh0 h=>eO (G:=λkws=>bM σ (.bi (.nP t) es) (.Call g xs kws p)) h0 (aR h λh1 h=>if2.k (G:=λxs=>bM σ (.bi (.nP t) es) (.Call g xs [] p)) h λe nm h=>aR h λh2 h3=>?_)
  have rs:=r σ [e] og h3
  exact AJ h3 (λes=>eA σ es [e]->bM σ (.bi (.nP t) es) (.Call g [e,nm] [] p)) (λa h4 rs=>(NM og.1 h1 h2 h4 (rs.get 0 a e rfl rfl).1).t λZ=>rfl) rs
 |mP=>
  refine aR (show(dW σ.f "min" g&&if1 kws λkw=>uW kw λy v=>(y==("default":Str))&&if1 xs λe=>gh σ.f es [e,v])=true from h) λh1 h=>if1.k (G:=λkws=>bM σ (.bi .mP es) (.Call g xs kws p)) h λkw h=>uW.k (G:=λkw=>bM σ (.bi .mP es) (.Call g xs [kw] p)) h λy v kp h=>aR h λh2 h=>if1.k (G:=λxs=>bM σ (.bi .mP es) (.Call g xs [⟨some y,v,kp⟩] p)) h λe h9=>?_
  obtain rfl:=eq_of_beq h2
  have rs:=r σ [e,v] og h9
  cases es with
  |nil=>cases h9
  |cons a ky=>
   exact aR (show(cg σ.f a e&&gh σ.f ky [v])=true from h9) λh3 h4=>AJ h4 (λky=>eA σ (a::ky) [e,v]->bM σ (.bi .mP (a::ky)) (.Call g [e] [⟨some "default",v,kp⟩] p)) (λd h5 rs=>(NO hh og.1 h1 h3 (rs.get 0 a e rfl rfl).1 (rs.get 1 d v rfl rfl).1).t λZ=>rfl) rs
 |lZ=>
  refine aR (show(kws.isEmpty&&(dW σ.f "len" g&&if1 xs λe=>fH e λg xs kws Z=>kws.isEmpty&&(dW σ.f "set" g&&if1 xs λe=>gh σ.f es [e])))=true from h) λh0 h=>eO (G:=λkws=>bM σ (.bi .lZ es) (.Call g xs kws p)) h0 (aR h λh1 h=>if1.k (G:=λxs=>bM σ (.bi .lZ es) (.Call g xs [] p)) h λe h=>fH.k (G:=λe=>bM σ (.bi .lZ es) (.Call g [e] [] p)) h λg' jo kws' p' h=>aR h λh2 h=>eO (G:=λkws=>bM σ (.bi .lZ es) (.Call g [.Call g' jo kws p'] [] p)) h2 (aR h λh3 h=>if1.k (G:=λxs=>bM σ (.bi .lZ es) (.Call g [.Call g' xs [] p'] [] p)) h λe h=>?_))
  have rs:=r σ [e] og h
  exact AJ h (λes=>eA σ es [e]->bM σ (.bi .lZ es) (.Call g [.Call g' [e] [] p'] [] p)) (λa Z rs=>(NP hh og.1 h1 h3 rs).t λZ=>rfl) rs
 |_=>exact plain h
theorem FI{σ:Lv}{elt:E}{t:cX}{it:It}{c9:Scope}{e tg iter:Expr}{ifs:List Expr}(re:RE elt)(ri:pR it)(r:jn es)(og:Ok σ)(hh:σ.f.hd=false)
  (h:(uY σ.f (gO t tg) c9&&(wZ σ.f it iter&&(td it tg&&(iG ⟨c9,gO t tg++σ.f.ns,false⟩ t tg&&(cg ⟨c9,gO t tg++σ.f.ns,false⟩ elt e&&gh ⟨c9,gO t tg++σ.f.ns,false⟩ es ifs)))))=true):vv σ c9 (gO t tg) elt t it es e tg iter ifs:=
 aR h λh1 h=>aR h λh2 h=>aR h λh3 h=>aR h λh4 h=>aR h λh5 h6=>⟨hh,uY.sc h1,rfl,h4,h3,ri σ iter og h2,(re ⟨σ.n,σ.m,⟨c9,gO t tg++σ.f.ns,false⟩,λZ Z=>False⟩ e og h5).1,r ⟨σ.n,σ.m,⟨c9,gO t tg++σ.f.ns,false⟩,λZ Z=>False⟩ ifs og h6⟩
theorem PD{nl:Nat}{elt:E}{t:cX}{it:It}(re:RE elt)(ri:pR it)(r:jn es):RE (.comp nl elt t it es):=λσ e og h=>s9.k (G:=λe=>bM σ (.comp nl elt t it es) e) h λe gs c9 p h=>if1.k (G:=λgs=>bM σ (.comp nl elt t it es) (.ListComp e gs c9 p)) h λg h=>uV.k (G:=λg=>bM σ (.comp nl elt t it es) (.ListComp e [g] c9 p)) h λtg iter ifs h=>aR h λhh h=>aR h λh1 h=>of_decide_eq_true h1▸(E3 (FI re ri r og (nt hh) h)).t λZ=>rfl
theorem FJ(ra:RE a):pR (.of a):=λσ e og h=>Mb og.1 h (ra σ e og h).1
theorem PE{σ:Lv}{e f:Expr}(ra:RE a)(rb:RE b)(og:Ok σ)(h:cg σ.f a e=true)(h':cg σ.f b f=true):eA σ [a,b] [e,f]:=.cons h (ra σ e og h) (yk rb og h')
theorem FK(ra:RE a)(rb:RE b):pR (.range a b):=λσ e og h=>fH.k (G:=λe=>jm σ (.range a b) e) h λg xs kws p h=>aR h λh0 h=>eO (G:=λkws=>jm σ (.range a b) (.Call g xs kws p)) h0 (aR h λh1 h=>(or_eq_true_iff.mp h).elim
 (λh=>if1.k (G:=λxs=>jm σ (.range a b) (.Call g xs [] p)) h λe h=>aR h λh2 h3=>uU.k (G:=λa=>jm σ (.range a b) (.Call g [e] [] p)) h2 (Mc og.1 h1 (yk rb og h3)))
 λh=>if2.k (G:=λxs=>jm σ (.range a b) (.Call g xs [] p)) h λe f h=>aR h λh2 h3=>Md og.1 h1 (PE ra rb og h2 h3))
theorem FL(ra:RE a):pR (.mQ a):=λσ e og h=>fH.k (G:=λe=>jm σ (.mQ a) e) h λg xs kws p h=>aR h λh0 h=>eO (G:=λkws=>jm σ (.mQ a) (.Call g xs kws p)) h0 (aR h λh1 h=>if1.k (G:=λxs=>jm σ (.mQ a) (.Call g xs [] p)) h λe h=>Mg og.1 h1 (yk ra og h))
theorem FN:jn []:=λσ e og h=>eO (G:=λe=>eA σ [] e) h .nil
theorem FO(ra:RE a)(r:jn es):jn (a::es):=λσ e og h=>mT.k (G:=λe=>eA σ (a::es) e) h λx xs h=>aR h λh1 h2=>.cons h1 (ra σ x og h1) (r σ xs og h2)
theorem PF:RO none:=λσ e og h=>qM (G:=λe=>rB σ none e) h MS
theorem PG(ra:RE a):RO (some a):=λσ e og h=>fj.k (G:=λe=>rB σ (some a) e) h λx h=>MT (ra σ x og h).1
theorem iz(c:E):RE c:=
 E.rec (motive_1:=RE) (motive_2:=pR) (motive_3:=jn) (motive_4:=RO) (λZ=>O5) (λZ=>O6) (λZ=>O7) (λZ Z Z ra rb=>O8 ra rb) (λZ ra=>O9 ra) (λZ ra=>Pa ra) (λZ r=>Pb r) (λZ r=>Pc r) (λZ Z Z ra rb=>Pe ra rb) (λZ Z Z Z Z ra rb rc=>Pf ra rb rc) (λZ Z ra=>Pg ra) (λZ r=>Ph r) (λZ r=>Pj r) (λZ Z ra rb=>Pk ra rb)
  (λZ Z Z ra rl rh=>Pn ra rl rh) (λZ Z r=>Po r) (λZ Z r=>PC r) (λZ Z Z ra r=>Pw ra r) (λZ Z Z Z Z re ri r=>PD re ri r) (λZ ra=>Pu ra) Pp Pq (λZ Z ra rb=>Ps ra rb) (λZ Z Z rc ra rb=>Px rc ra rb) (λZ Z ra=>Py ra) (λZ Z Z ra r=>Pz ra r) (λZ=>PA) (λZ Z ra=>PB ra) (λZ Z ra rb=>Pl ra rb) (λZ ra=>FJ ra) (λZ Z ra rb=>FK ra rb) (λZ ra=>FL ra) FN (λZ Z ra r=>FO ra r) PF (λZ ra=>PG ra) c
end
noncomputable def RS(c:S):Prop:=∀(σ:Lv) (e:Stmt),Ok σ->DS σ.f c e=true->SS σ c e
noncomputable def oD(c:List S):Prop:=∀(σ:Lv) (e:List Stmt),Ok σ->px σ.f c e=true->nf σ c e
section
variable{e a i:E}{es:List E}{b b':List S}
theorem FP(c:It):pR c:=
 It.casesOn (motive_2:=pR) c (λa=>FJ (iz a)) (λa b=>FK (iz a) (iz b)) (λa=>FL (iz a))
theorem FQ:∀es:List E,jn es
 |[]=>FN
 |a::es=>FO (iz a) (FQ es)
theorem PH:RS (.expr e):=λσ st og h=>uQ.k (G:=λst=>SS σ (.expr e) st) h λx p h=>aR h λh1 h2=>LL h1 (iz e σ x og h2).1
theorem PI:RS (.ji a i e):=λσ st og h=>mh.k (G:=λst=>SS σ (.ji a i e) st) h λts x p h=>if1.k (G:=λts=>SS σ (.ji a i e) (.Assign ts x p)) h λtg h=>md.k (G:=λtg=>SS σ (.ji a i e) (.Assign [tg] x p)) h λo j sp h=>aR h λh1 h=>aR h λh2 h=>aR h λh3 h4=>L0 og.1 h1 (iz a σ o og h2).1 (iz i σ j og h3).1 (iz e σ x og h4).1
theorem PJ{i:Nat}:RS (.setAttr a i e):=λσ st og h=>mh.k (G:=λst=>SS σ (.setAttr a i e) st) h λts x p h=>if1.k (G:=λts=>SS σ (.setAttr a i e) (.Assign ts x p)) h λtg h=>mf.k (G:=λtg=>SS σ (.setAttr a i e) (.Assign [tg] x p)) h λo y sp h=>aR h λh1 h=>aR h λh2 h=>aR h λh3 h=>aR h λh4 h5=>Oq og.1 (of_decide_eq_true h1) h2 (iz a σ o og h4).1 (iz e σ x og h5).1
theorem PK{k:Nat}{w:Str}:RS (.raise k w):=λσ st og h=>uO.k (G:=λst=>SS σ (.raise k w) st) h λe c p h=>aR h λh0 h=>qM (G:=λc=>SS σ (.raise k w) (.Raise e c p)) h0 (aR h λhh h=>fj.k (G:=λe=>SS σ (.raise k w) (.Raise e none p)) h λe h=>fH.k (G:=λe=>SS σ (.raise k w) (.Raise (some e) none p)) h λg xs kws cp h=>aR h λh1 h=>eO (G:=λkws=>SS σ (.raise k w) (.Raise (some (.Call g xs kws cp)) none p)) h1 (eX.k (G:=λg=>SS σ (.raise k w) (.Raise (some (.Call g xs [] cp)) none p)) h λx np h=>aR h λh2 h=>aR h λh3 h=>if1.k (G:=λxs=>SS σ (.raise k w) (.Raise (some (.Call (.Name x np) xs [] cp)) none p)) h λa h=>nT.k (G:=λa=>SS σ (.raise k w) (.Raise (some (.Call (.Name x np) [a] [] cp)) none p)) h λc kk ap h=>of_decide_eq_true h▸Oz og.1 (nt hh) (of_decide_eq_true h2) h3))
theorem PM{r:Option cX}{k i:Nat}{h:E}:RS (.iX r e k i h):=λσ st og hs=>uP.k (G:=λst=>SS σ (.iX r e k i h) st) hs λbd oz o f p hs=>aR hs λh0 hs=>eO (G:=λo=>SS σ (.iX r e k i h) (.Try bd oz o f p)) h0 (aR hs λh0 hs=>eO (G:=λf=>SS σ (.iX r e k i h) (.Try bd oz [] f p)) h0 (aR hs λhh hs=>if1.k (G:=λbd=>SS σ (.iX r e k i h) (.Try bd oz [] [] p)) hs λb hs=>aR hs λh1 hs=>if1.k (G:=λoz=>SS σ (.iX r e k i h) (.Try [b] oz [] [] p)) hs λhd hs=>wY.k (G:=λhd=>SS σ (.iX r e k i h) (.Try [b] [hd] [] [] p)) hs λt n hb hp hs=>fj.k (G:=λt=>SS σ (.iX r e k i h) (.Try [b] [.ExceptHandler t n hb hp] [] [] p)) hs λt hs=>aR hs λh2 hs=>fj.k (G:=λn=>SS σ (.iX r e k i h) (.Try [b] [.ExceptHandler (some t) n hb hp] [] [] p)) hs λn hs=>aR hs λh3 hs=>aR h3 λh3 h4=>if1.k (G:=λhb=>SS σ (.iX r e k i h) (.Try [b] [.ExceptHandler (some t) (some n) hb hp] [] [] p)) hs λs hs=>nV.k (G:=λs=>SS σ (.iX r e k i h) (.Try [b] [.ExceptHandler (some t) (some n) [s] hp] [] [] p)) hs λx rp hs=>fj.k (G:=λx=>SS σ (.iX r e k i h) (.Try [b] [.ExceptHandler (some t) (some n) [.Return x rp] hp] [] [] p)) hs λx hs=>O3 og.1 h2 h3 (of_decide_eq_true h4) (iz h σ.hd x og hs).1 h1 λx' y h5=>(iz e (σ.ex y) x' og h5).1))
theorem PN:RS (.ret e):=λσ st og h=>nV.k (G:=λst=>SS σ (.ret e) st) h λx p h=>fj.k (G:=λx=>SS σ (.ret e) (.Return x p)) h λx h=>LN (iz e σ x og h).1
theorem PO(ra:oD b)(rb:oD b'):RS (.bz e b b'):=λσ st og h=>uR.k (G:=λst=>SS σ (.bz e b b') st) h λt x y p h=>aR h λh1 h=>aR h λh2 h3=>LO (iz e σ t og h1).2 (ra σ x og h2) (rb σ y og h3)
theorem PP{t:cX}{it:It}(rb:oD b):RS (.for t it b):=λσ st og h=>uS.k (G:=λst=>SS σ (.for t it b) st) h λtg iter bs o p h=>aR h λhh h=>aR h λh0 h=>eO (G:=λo=>SS σ (.for t it b) (.For tg iter bs o p)) h0 (aR h λh1 h=>aR h λh2 h=>aR h λh3 h4=>Mq (nt hh) h1 h2 (FP it σ iter og h3) (rb (σ.ex (xq σ.x)) bs og h4))
theorem PR(rb:oD b):RS (.while e b):=λσ st og h=>uT.k (G:=λst=>SS σ (.while e b) st) h λt bs o p h=>aR h λhh h=>aR h λh0 h=>eO (G:=λo=>SS σ (.while e b) (.While t bs o p)) h0 (aR h λh1 h2=>LP (iz e σ.no t og h1).2 (rb σ.no bs og h2))
theorem PS{u:cX}{nl:Nat}{elt:E}{t:cX}{it:It}{σ:Lv}{tg x:Expr}{p:Pos}(og:Ok σ)(h1:iG σ.f u tg=true)(h2:cg σ.f (.comp nl elt t it es) x=true)(h3:uJ tg=true):SS σ (.aS u (.comp nl elt t it es)) (.Assign [tg] x p):=
 Expr.Name.elim (motive_1:=λtg=>iG σ.f u tg=true->SS σ (.aS u (.comp nl elt t it es)) (.Assign [tg] x p)) tg (of_decide_eq_true h3) (λy py h1=>s9.k (G:=λx=>SS σ (.aS u (.comp nl elt t it es)) (.Assign [.Name y py] x p)) h2 λe gs c9 cp h=>if1.k (G:=λgs=>SS σ (.aS u (.comp nl elt t it es)) (.Assign [.Name y py] (.ListComp e gs c9 cp) p)) h λg h=>uV.k (G:=λg=>SS σ (.aS u (.comp nl elt t it es)) (.Assign [.Name y py] (.ListComp e [g] c9 cp) p)) h λtg iter ifs h=>aR h λhh h=>aR h λh4 h=>of_decide_eq_true h4▸MK (FI (iz elt) (FP it) (FQ es) og (nt hh) h) h1) h1
theorem PT{t:cX}:RS (.aS t e):=λσ st og h=>mh.k (G:=λst=>SS σ (.aS t e) st) h λts x p h=>if1.k (G:=λts=>SS σ (.aS t e) (.Assign ts x p)) h λtg h=>aR h λh1 h=>aR h λh2 h=>aR h λh3 h4=>(or_eq_true_iff.mp h3).elim (λh3=>aR h3 λh5 h6=>E.comp.elim (motive_1:=λe=>cg σ.f e x=true->SS σ (.aS t e) (.Assign [tg] x p)) e (of_decide_eq_true h6) (λnl elt t' it cs h2=>PS og h1 h2 h5) h2) λh3=>LM h3 h1 h4 (iz e σ x og h2).1
theorem PU:oD []:=λσ e og h=>eO (G:=λe=>nf σ [] e) h LQ
theorem PV{c:S}(r:RS c)(rs:oD b):oD (c::b):=λσ e og h=>mT.k (G:=λe=>nf σ (c::b) e) h λx xs h=>aR h λh1 h2=>LR (r σ x og h1) (rs σ xs og h2)
theorem PW(b:List S):oD b:=
 S.rec_1 (motive_1:=RS) (motive_2:=oD) (λZ=>PH) (λZ Z=>PT) (λZ Z Z=>PI) (λZ Z Z=>PJ) (λZ=>PN) (λZ Z Z ra rb=>PO ra rb) (λZ Z Z rb=>PP rb) (λZ Z rb=>PR rb) (λZ Z=>PK) (λZ Z Z Z Z=>PM) PU (λZ Z r rs=>PV r rs) b
end
theorem cellsFrom_some{x:Str}:∀{names:List (Str×NameKind)} {k:Nat} {aL:List (Str×Addr)},names.lookup x=some .cell\/(∃c,aL.lookup x=some c)->∃c,(cellsFrom k names aL).lookup x=some c
 |[],_,_,h=>h.elim (λe=>nomatch e) id
 |(y,kd)::r,k,aL,h=>by
  rw[lookup_cons] at h
  by_cases hk:(kd==NameKind.cell)=true
  ·rw[show cellsFrom k ((y,kd)::r) aL=cellsFrom (k+1) r ((y,k)::aL) from if_pos hk]
   refine cellsFrom_some ?_
   rw[lookup_cons]
   cases hy:x==y with
   |true=>exact .inr ⟨_,rfl⟩
   |false=>rw[hy] at h;exact h
  ·rw[show cellsFrom k ((y,kd)::r) aL=cellsFrom k r aL from if_neg hk]
   refine cellsFrom_some (h.elim (λh=>?_) .inr)
   cases hy:x==y with
   |true=>rw[hy] at h;exact absurd (by rw[Option.some.inj h];rfl) hk
   |false=>rw[hy] at h;exact .inl h
theorem lookup_none{α:Type}{x:Str}{l:List (Str×α)}(h:x∉l.map (·.1)):l.lookup x=none:=by
 cases e:l.lookup x with
 |none=>rfl
 |some v=>exact absurd (mem_map.mpr ⟨_,mem_lookup e,rfl⟩) h
theorem FS{kf:Str->Option NameKind}{x:Str}(hk:kf x=some .local):∀{bs:List (Str×Value)} {m:Str->Option Value},(bs.map (·.1)).Nodup->PySem.bindL kf bs m x=(bs.lookup x).or (m x)
 |[],m,_=>rfl
 |(y,v)::r,m,hn=>by
  have hn:=nodup_cons.mp hn
  refine(?_:PySem.bindL kf r (if kf y=some .local then λz=>if z=y then some v else m z else m) x=_)
  rw[FS hk hn.2,lookup_cons]
  by_cases e:x=y
  ·rw[e] at hk ⊢
   rw[lookup_none hn.1,if_pos hk,if_pos rfl,beq_self_eq_true];rfl
  ·rw[beq_eq_false_iff_ne.mpr e]
   split
   ·exact congrArg _ (if_neg e)
   ·rfl
theorem FT{kf:Str->Option NameKind}{x:Str}(hk:kf x=some .cell):∀{bs:List (Str×Value)} {m:Str->Option Value},(bs.map (·.1)).Nodup->PySem.bindC kf bs m x=(bs.lookup x).or (m x)
 |[],m,_=>rfl
 |(y,v)::r,m,hn=>by
  have hn:=nodup_cons.mp hn
  refine(?_:PySem.bindC kf r (if kf y=some .local then m else λz=>if z=y then some v else m z) x=_)
  rw[FT hk hn.2,lookup_cons]
  by_cases e:x=y
  ·rw[e] at hk ⊢
   rw[lookup_none hn.1,if_neg (by rw[hk];exact λh=>nomatch h),if_pos rfl,beq_self_eq_true];rfl
  ·rw[beq_eq_false_iff_ne.mpr e]
   split
   ·rfl
   ·exact congrArg _ (if_neg e)
theorem FU{p:Ws}{x:Str}:∀{ps:List Str} {vs:List V} {xs:List Value},ps.length=vs.length->ba p vs xs->ir p (lk ps (vs.map some) x) ((ps.zip xs).lookup x)
 |[],vs,xs,hl,r=>by
  cases vs with
  |nil=>exact .none
  |cons _ _=>cases hl
 |q::ps,vs,xs,hl,r=>by
  cases vs with
  |nil=>cases hl
  |cons v vs=>
   refine r.inv (λxs=>ir p (lk (q::ps) ((v::vs).map some) x) (((q::ps).zip xs).lookup x)) λy ys r1 r2=>?_
   refine(?_:ir p (lk (q::ps) ((v::vs).map some) x) (List.lookup x ((q,y)::ps.zip ys)))
   rw[lookup_cons]
   unfold lk
   by_cases e:x=q
   ·rw[e,List.idxOf_cons_self,beq_self_eq_true];exact .some r1
   ·rw[beq_eq_false_iff_ne.mpr e,List.idxOf_cons,beq_eq_false_iff_ne.mpr (Ne.symm e)]
    exact FU (Nat.succ.inj hl) r2
theorem PX{p:Ws}{ns:List Str}{np nl:Nat}{vs:List V}{xs:List Value}(eU:ns.length=np+nl)(hv:vs.length=np)(r:ba p vs xs)(x:Str):ir p (lk ns (vs.map some++replicate nl none) x) (((ns.take np).zip xs).lookup x):=by
 have hl:(ns.take np).length=vs.length:=by rw[length_take,hv,eU];exact min_eq_left (le_add_right _ _)
 have e:=take_append_drop np ns
 have h0:∀y,lk ns (vs.map some++replicate nl none) y=lk (ns.take np++ns.drop np) (vs.map some++replicate nl none) y:=λy=>by rw[e]
 rw[h0]
 by_cases hx:x∈ns.take np
 ·rw[EU (by rw[length_map,hl]) hx];exact FU hl r
 ·rw[EV (by rw[length_map,hl]) hx,show nl=(ns.drop np).length by rw[length_drop,eU,Nat.add_sub_cancel_left],Ak,lookup_none λhm=>hx ?_]
  ·exact .none
  ·rw[List.map_fst_zip (by rw[hl,r.length];exact le_refl _)] at hm;exact hm
structure rI(A:Around)(n:Nat):Prop where
 depth:A.depth+n+110<=recursionLimit
 units:A.units+5*n+200<=cLine
 frames:∃l,A.frames=some l
theorem jN.PY{A:Around}{n:Nat}(rm:jN A n):rI A n:=⟨rm.depth,rm.units,rm.frames.elim λfe h=>h.elim λl h=>⟨_,h.1⟩⟩
theorem rI.deeper{A:Around}{n:Nat}{env:Env}(rm:rI A (n+1))(h1:env.scope.isGenerator=false)(h2:env.scope.isCoroutine=false)(h3:env.builtins=builtinsNs)(h4:env.globals=mainGlobals):jN (A.deeper env) n:=by
 obtain⟨l,e⟩:=rm.frames
 refine⟨?_,?_,env,l,?_,h1,h2,h3,h4⟩
 ·have:=rm.depth;refine(?_:A.depth+1+n+110<=_);exact(by rw[add_right_comm A.depth];exact this)
 ·have:=rm.units;refine(?_:A.units+3+5*n+200<=_);lia
 ·refine(?_:A.frames.map (env::·)=_);rw[e];rfl
theorem rI.iI{A:Around}{n:Nat}(rm:rI A n)(env:Env):iI (A.deeper env)=env::iI A:=by
 obtain⟨l,e⟩:=rm.frames
 refine(?_:(A.frames.map (env::·)).getD []=env::A.frames.getD [])
 rw[e];rfl
theorem k8.deeper{A A':Around}{p:Ws}{env':Env}{L:Addr}(F:k8 A p)(hA:iI A'=env'::iI A)(hk:env'.scope.kind=.function)(hf:env'.frame=some L)(hn:∃m,p.h.Ns L m)(ha:Ap p L):k8 A' p:=λe he=>by
 rw[hA] at he
 exact(mem_cons.mp he).elim (λe'=>e'▸⟨hk,L,hn.elim λm x=>x.imp λo x=>x.elim λes x=>x.elim λep x=>⟨hf,x.1,xn x.2.1,ha⟩⟩) (F e)
section
variable{φ:List Addr}{H:Hp}{s:Shared}
noncomputable def FV(φ:List Addr)(s:Shared)(post:PQ)(Q:Value->Shared->Prop):Prop:=∀v H',post v H'->∀oE h' tk x,SR ⟨oE,h'⟩ H'->bK gm ⟨φ,s.heap⟩ ⟨oE,h'⟩->aY ⟨oE,h'⟩ v x->Q x (upd s h' tk)
structure vB(hd:Bool)(d:hU)(ns:List Str)(f:Fn):Prop where
 b6:zN d.params (ns.take f.np)=true
 len:ns.length=f.np+f.nl
 nd:ns.Nodup
 kind:d.scope.kind=.function
 gen:d.scope.isGenerator=false/\d.scope.isCoroutine=false
 own:∀x,x∈ns->d.scope.names.lookup x=some .local\/d.scope.names.lookup x=some .cell
 body:px ⟨d.scope,ns,hd⟩ f.body d.body=true
theorem s7.k{k:Option NameKind}(h:s7 k=true):k=some .local\/k=some .cell:=by
 cases k with
 |none=>cases h
 |some k=>cases k<;>first|exact .inl rfl|exact .inr rfl|cases h
theorem PZ{hd:Bool}{d:hU}{ns:List Str}{f:Fn}(h:DT hd d ns f=true):vB hd d ns f:=
 aR h λZ h=>aR h λh2 h=>aR h λh3 h=>aR h λh4 h=>aR h λh5 h=>aR h λh6 h=>aR h λh7 h=>aR h λZ h=>aR h λZ h=>aR h λkC P0=>
  ⟨h2,of_decide_eq_true h3,of_decide_eq_true h4,of_decide_eq_true h5,⟨xR h6,xR h7⟩,λx hx=>s7.k (all_eq_true.mp kC x hx),P0⟩
theorem P1{hh:Bool}{d:hU}{ns:List Str}{f:Fn}{env:Env}{vs:List V}{xs:List Value}{bU:Shared}(o:vB hh d ns f)(R:SR ⟨φ,s.heap⟩ H)(r:ba ⟨φ,s.heap⟩ vs xs)(hv:vs.length=f.np)(eL:env.locals=s.heap.objs.size)(eS:env.scope=d.scope)(eG:env.globals=mainGlobals)(eB:env.builtins=builtinsNs)(eC:∀x,d.scope.names.lookup x=some .cell->∃c,env.cells.lookup x=some c)
  (iv:InCallC s env.locals (PySem.bindL env.kindOf ((ns.take f.np).zip xs) λZ=>none) env.cells (PySem.bindC env.kindOf ((ns.take f.np).zip xs) λZ=>none) bU):FR env ns (vs.map some++replicate f.nl none) ⟨φ,bU.heap⟩:=by
 have keep:aA s.heap bU.heap:=iv.toInCall.keep
 have S0:bK gm ⟨φ,s.heap⟩ ⟨φ,bU.heap⟩:=bK.ext (q:=⟨φ,s.heap⟩) .refl keep
 have eK:∀x,env.kindOf x=d.scope.names.lookup x:=λx=>by unfold Env.kindOf;rw[eS]
 have FW:(((ns.take f.np).zip xs).map (·.1)).Nodup:=by
  rw[List.map_fst_zip (by rw[length_take,<-r.length,hv];exact Nat.min_le_left _ _)]
  exact o.nd.sublist (List.take_sublist _ _)
 have rep:=PX o.len hv (r.mono S0)
 have ap:∀c,s.heap.objs.size<=c->Ap ⟨φ,bU.heap⟩ c:=λc hc=>SR.new (p:=⟨φ,s.heap⟩) R (gF _ hc)
 have abv:∀{x c},env.cells.lookup x=some c->s.heap.objs.size<=c:=λh=>le_of_lt (eL▸iv.above _ _ (mem_lookup h))
 refine⟨⟨by rw[eS];exact o.kind,eG,eB,⟨by rw[eS];exact o.gen.1,by rw[eS];exact o.gen.2,by unfold interactive;rw[eS,o.kind];rfl⟩,λx y c h1 h2=>name_of_addr iv.apart (mem_lookup h1) (mem_lookup h2),λq hq e=>absurd (iv.above q.1 q.2 hq) (by rw[e];exact lt_irrefl _)⟩,by rw[length_append,length_map,List.length_replicate,hv,o.len],⟨_,iv.toInCall.ns,λx hx hk=>?_⟩,λx hx hk=>?_,λa ha=>ha.elim (λe=>ap a (by rw[e,eL];exact le_refl _)) λw=>w.elim λx hx=>ap a (abv hx),λa ha=>ha.elim (λe=>e▸iv.toInCall.ns.imp λo w=>w.elim λZ w=>w.elim λZ w=>w.1) λw=>w.elim λx hx=>(iv.cell x a hx).imp λo w=>w.1⟩
 ·rw[FS hk FW,or_none];exact rep x
 ·have oF:env.kindOf x=some .cell:=(o.own x hx).elim (λh=>by rw[eK,h] at hk;cases hk) λh=>(eK x).trans h
  exact(eC x ((eK x).symm.trans oF)).elim λc hc=>⟨c,_,hc,iv.cell x c hc,by rw[FT oF FW,or_none];exact rep x⟩
theorem FX{m:Nat}{hh:Bool}{f:Fn}{q:Bool×Str}{d:hU}{ns:List Str}{A:Around}{a:Addr}{o:Obj}{pm cd doc:Value}{vs:List V}{xs:List Value}{post Y:PQ}{Q Ex:Value->Shared->Prop}(G:Good X)(hc:tC m)(rm:rI A (2*m+2))(hA:hh=false->A.handled=none)(R:SR ⟨φ,s.heap⟩ H)(fr:k8 A ⟨φ,s.heap⟩)
  (ok:vB hh d ns f) (ho:X.dC.get? a=some o) (hd:o.data=.func (methDef d.name (jJ q) d.params d.body d.scope pm cd doc)) (tF:X.dC.CodeRec cd (jJ q)) (r:ba ⟨φ,s.heap⟩ vs xs) (hv:vs.length=f.np)
  (p:aN ⟨az m,xq Y⟩ f.body (vs.map some++replicate f.nl none) H (bH post)) (kq:FV φ s post Q) (kx:FV φ s Y Ex):wpAny X.M A (call (.ref a) xs) Q Ex s:=by
 obtain⟨ar,hp,AK⟩:∃ar,d.params=yf ar/\ar.map (·.arg)=ns.take f.np:=Oe ok.b6 (λq=>∃ar,q=yf ar/\ar.map (·.arg)=ns.take f.np) λar e=>⟨ar,rfl,e⟩
 have hb:=Of (fd:=methDef d.name (jJ q) d.params d.body d.scope pm cd doc) (ar:=ar) (xs:=xs) rfl hp (by rw[AK];exact ok.nd.sublist (List.take_sublist _ _)) (by rw[AK,length_take,<-r.length,hv,ok.len];exact min_eq_left (le_add_right _ _))
 rw[AK] at hb
 refine wpAny_call (codeAny_call_cells (by have:=rm.depth;lia) (R.keep _ _ ho) hd (G.nolimit.keeps R.keep) (tF.keeps R.keep) rfl hb rfl (λx hx=>(ok.own _ (List.mem_of_mem_take (List.of_mem_zip hx).1)).imp id λh=>⟨h,(cellsFrom_some (.inl h)).elim λc e=>by rw[e];rfl⟩) (λbU iv=>?_) ok.gen.2 ok.gen.1 ok.kind)
 have P2:Kinds d.scope (callEnvC (methDef d.name (jJ q) d.params d.body d.scope pm cd doc) s.heap.objs.size a):=λx=>.inl rfl
 have hF:=P1 (env:=callEnvC (methDef d.name (jJ q) d.params d.body d.scope pm cd doc) s.heap.objs.size a) ok R r hv rfl rfl rfl rfl (λx h=>cellsFrom_some (.inl h)) iv
 have abv:∀b,ku (callEnvC (methDef d.name (jJ q) d.params d.body d.scope pm cd doc) s.heap.objs.size a) b->s.heap.get? b=none:=λb hb=>gF _ (hb.elim (λe=>le_of_eq e.symm) λw=>w.elim λx h=>le_of_lt (iv.above _ _ (mem_lookup h)))
 have pO:tK (callEnvC (methDef d.name (jJ q) d.params d.body d.scope pm cd doc) s.heap.objs.size a) (ku (callEnvC (methDef d.name (jJ q) d.params d.body d.scope pm cd doc) s.heap.objs.size a)) ns:=⟨λx hx=>(ok.own x hx).imp (λh=>⟨h,.inl rfl⟩) λh=>⟨h,λc hc=>.inr ⟨x,hc⟩⟩,λZ h=>h⟩
 have AL:=rm.deeper (env:=callEnvC (methDef d.name (jJ q) d.params d.body d.scope pm cd doc) s.heap.objs.size a) ok.gen.1 ok.gen.2 rfl rfl
 have rj:=rm.iI (callEnvC (methDef d.name (jJ q) d.params d.body d.scope pm cd doc) s.heap.objs.size a)
 have hL:(callEnvC (methDef d.name (jJ q) d.params d.body d.scope pm cd doc) s.heap.objs.size a).frame=some s.heap.objs.size:=rfl
 have keep:aA s.heap bU.heap:=iv.toInCall.keep
 have jQ:∃m,bU.heap.Ns s.heap.objs.size m:=⟨_,iv.toInCall.ns⟩
 obtain⟨fy,P4,P5⟩:=iv.toInCall.same
 clear hb iv
 generalize callEnvC (methDef d.name (jJ q) d.params d.body d.scope pm cd doc) s.heap.objs.size a=env at *
 subst P5
 have S0:bK gm ⟨φ,s.heap⟩ ⟨φ,fy⟩:=bK.ext (q:=⟨φ,s.heap⟩) .refl keep
 have FY:=(fr.i5 S0).deeper rj hF.fc.fn hL jQ (SR.new (p:=⟨φ,s.heap⟩) R (gF _ (le_refl _)))
 have hf:∃fe,(iI (A.deeper env)).head?=some fe/\fe.frame=env.frame:=⟨env,by rw[rj];rfl,rfl⟩
 refine wpAny_mono (PW f.body ⟨2*m+1,m,⟨d.scope,ns,hh⟩,xq Y⟩ d.body ⟨G,hc,le_refl _⟩ ok.body ⟨⟨A.deeper env,φ,H,upd s fy P4,λe s'=>wpAny X.M (A.deeper env) (leaving env e) (λZ rJ=>Ex e rJ) (λe' rJ=>Ex e' rJ) s',AL.less (zero_le _),SR.ext (p:=⟨φ,s.heap⟩) R keep,FY⟩,env,_,ku env,P2,hF,AL,hf,hA,λv H' pe oE h' nc R' S' y r'=>?_⟩ (bH post) (λfl s'=>Q (match fl with | .ret v=>v|_=>.none) s') pO p
  ⟨λρ H p N=>kq _ _ p N.φ N.h N.tk _ N.R (S0.vu N.S abv) .none,λv H p oE h' tk R' S' x r'=>kq _ _ p oE h' tk x R' (S0.vu S' abv) r'⟩) (λfl s' q=>by cases fl<;>exact q) (λe s' q=>q)
 exact(isSome_iff_exists.mp pe.1).elim λj ej=>cellAt.k ej (λv=>Y v H'->aY ⟨oE,h'⟩ v y->_) (λl c hl hc q r=>mW.k (λc=>H'[l]?=some c->_) hc (λhl=>r.inv (λy=>wpAny X.M (A.deeper env) (leaving env y) (λZ rJ=>Ex y rJ) (λe' rJ=>Ex e' rJ) (upd s h' nc)) λb hb=>
  Mn (P:=⟨A.deeper env,oE,H',upd s h' nc,NE,AL.less (zero_le _),R',FY.i5 S'⟩) hf hl hb λN Z=>kx _ _ q N.φ N.h N.tk _ N.R (S0.vu (S'.trans N.S.nil) abv) (.ref (N.S.pre _ _ hb))) hl) pe.2 r'
end
theorem FZ{ds:List hU}{nss:List (List Str)}{fs:List Fn}{i:Nat}{f:Fn}{d:hU}(h:w0 ds nss fs=true)(hf:fs[i]?=some f)(hd:ds[i]?=some d)(hn:f.np≠999):∃ns,vB (s6.contains i) d ns f:=by
 have hi:=(List.getElem?_eq_some_iff.mp hf).1
 have h:=all_eq_true.mp h i (mem_range.mpr hi)
 rw[hf,hd] at h
 refine fj.k (G:=λZ=>∃ns,vB (s6.contains i) d ns f) (l:=nss[i]?) h λns h=>⟨ns,PZ ((or_eq_true_iff.mp h).resolve_left λh=>hn (of_decide_eq_true h))⟩
theorem F0(G:Good X):∀n,tC n
 |0=>λP f q a vs xs post x Q rm hh h1 h2 r p=>p.elim
 |n+1=>λP f q a vs xs post x Q rm hh h1 h2 r p k kx=>(G.fn f q h1).casesOn λa' o d pm cd doc e1 e3 e4 ec e5 e6=>by
  rw[h2] at e3;cases e3
  refine aH.k p λfn hf p=>(FZ G.DV hf e1 p.1.2).elim λns ok=>?_
  exact FX G (F0 G n) (rm.less (le_of_eq (by lia))).PY hh P.R P.fr ok e4 e5 e6 r p.1.1 p.2 (λv H p φ h tk x R S r=>k v H p ⟨φ,h,tk,R,S⟩ x r) (λv H p φ h tk x R S r=>kx v H p ⟨φ,h,tk,R,S⟩ x r)
end Mine
namespace Mine
open PySem PySem.Calls PyProof.Rows PySem.W
noncomputable def P6(d:DefRec):hU:=⟨d.name,d.params,d.body,d.scope⟩
noncomputable abbrev dT:List hU:=defsOf H.pp.main.body
noncomputable abbrev dM:List hU:=defsOf (zQ H.pp gK.cls)
noncomputable def P7(q:Program)(loose:List Str):Bool:=mV.all λp=>!startupNames.contains p.1&&(!loose.contains p.1&&(!((recsOf q).map (·.name)).contains p.1&&(!((litsOf q).map (·.1)).contains p.1&&(!((clssOf q loose).map (·.name)).contains p.1 &&
 (!(p.1==("__name__":Str))&&decide (bootBuiltins p.1=some p.2))))))
theorem P8(AM:gK.kQ[P.qC]?=some (false,Str.ofString "law"))(AN:az 73 P.qC [.fR] [] (λv Z=>v=.bool true) λZ Z=>False)(G:Good X):Run X:=λfa Q tX hQ=>by
 have R0:SR ⟨[],X.s.heap⟩ []:=⟨λZ Z e=>e,λa ha=>(nomatch ha),.nil,rfl,λl c e=>(nomatch e)⟩
 refine(G.fn P.qC _ AM).casesOn λa' o d pm cd doc e1 e3 e4 ec e5 e6=>?_
 have e3:X.mg "law"=some (.ref a'):=e3
 rw[tX] at e3;cases e3
 refine aH.k AN λfn hf hr=>(FZ G.DV hf e1 hr.1.2).elim λnn ok=>?_
 have rm:rI callerA (2*72+2):=⟨by decide,by decide,_,rfl⟩
 refine FX G (F0 G 72) rm (λZ=>rfl) R0 (λe he=>(nomatch he)) ok e4 e5 e6 (.cons .fR .nil) hr.1.1 hr.2 (λv H p oE h' tk x R1 S1 r1=>?_) λv H p=>p.elim
 cases p
 exact r1.inv (λx=>Q x (upd X.s h' tk)) (hQ h' tk R1.keep)
theorem P9:gK.kQ=(dT.map λd=>(false,d.name))++dM.map λd=>(true,d.name):=by kernel_rfl
theorem Qa{Y:jI}(hT:∀d,d∈dT->∃a o pm cd doc,Y.mg d.name=some (.ref a)/\Y.dC.get? a=some o/\o.data=.func (docDef d.name d.params d.body d.scope pm cd doc)/\Y.dC.CodeRec cd d.name)
  (hM:∀d,d∈dM->∃a o pm cd doc,Y.mN d.name=some (.ref a)/\Y.dC.get? a=some o/\o.cls=.type "function"/\o.data=.func (methDef d.name (gK.cls++"."++d.name) d.params d.body d.scope pm cd doc)/\Y.dC.CodeRec cd (gK.cls++"."++d.name)) (hd:Y.defs=dT++dM) (f:Nat) (q:Bool×Str) (hx:gK.kQ[f]?=some q):uZ Y f q:=by
 rw[P9,List.getElem?_append,length_map] at hx
 have e:Y.defs[f]?=_:=(congrArg (λl:List hU=>l[f]?) hd).trans List.getElem?_append
 by_cases hf:f<dT.length
 ·rw[if_pos hf,getElem?_map] at hx
  rw[if_pos hf] at e
  refine fK (λq=>uZ Y f q) hx λd h1=>?_
  exact(hT d (mem_of_getElem? h1)).elim λa y=>y.elim λo y=>y.elim λpm y=>y.elim λcd y=>y.elim λdoc y=>⟨a,o,d,pm,cd,doc,e.trans h1,y.1,y.2.1,λh=>(nomatch h),y.2.2.1,y.2.2.2⟩
 ·rw[if_neg hf,getElem?_map] at hx
  rw[if_neg hf] at e
  refine fK (λq=>uZ Y f q) hx λd h1=>?_
  exact(hM d (mem_of_getElem? h1)).elim λa y=>y.elim λo y=>y.elim λpm y=>y.elim λcd y=>y.elim λdoc y=>⟨a,o,d,pm,cd,doc,e.trans h1,y.1,y.2.1,λZ=>y.2.2.1,y.2.2.2.1,y.2.2.2.2⟩
noncomputable def lC:List (Str×Nat×Nat×Bool):=[("NoPerson",82,284,false),("NoDay",94,300,false),("NoParents",106,316,false),("NoMatch",118,332,false),("NoWill",130,348,false),("Again",142,364,false),("Full",154,380,false),("NotDead",166,396,false),("EstateError",69,266,true)]
noncomputable abbrev yl(e:Bool):List Value:=cond e H.vm (.ref 69::H.vm)
noncomputable def ym(r:Str×Nat×Nat×Bool):Obj:=excClassObj r.1 r.1 r.2.1 (r.2.1 - 1) (cond r.2.2.2 [.type "ValueError"] [.ref 69]) (yl r.2.2.2) true [] (cond r.2.2.2 H.th []) false none none (some (.ref (r.2.1 - 9))) none (some (.str r.1 r.2.2.1)) (some (.str r.1 (r.2.2.1+8))) (some (.bool true)) "ValueError.__new__"
noncomputable def AO:List Str:=["__init__","__getattribute__","__getattr__","__class__"]
theorem Qb(P:Params):(lC.map λr=>(H.H1 P).get? r.2.1)=lC.map λr=>some (ym r):=by kernel_rfl
theorem Qc(P:Params):(lC.all λr=>(H.H1 P).isNs (r.2.1 - 1)&&AO.all λn=>((H.H1 P).nsMap (r.2.1 - 1) n).isNone)=true:=by kernel_rfl
theorem Qd(P:Params):(lC.map λr=>(H.H1 P).nsMap mainGlobals r.1)=lC.map λr=>some (.ref r.2.1):=by kernel_rfl
theorem Qe:((List.range 9).all λk=>(List.range 9).all λj=>match lC[k]?,lC[j]? with|some r,some r'=>(Value.ref r.2.1::yl r.2.2.2).contains (.ref r'.2.1)==gM k j|_,_=>true)=true:=by decide +kernel
theorem AP{α β:Type}{f g:α->β}:∀{l:List α},l.map f=l.map g->∀a,a∈l->f a=g a
 |b::l,h,a,ha=>(mem_cons.mp ha).elim (λe=>e▸(List.cons.inj h).1) λm=>AP (List.cons.inj h).2 a m
theorem Qf:typeLookup (.type "ValueError") "__class__"=pure (some (.builtin "object.__class__")):=by rw[typeLookup_type,builtinLookup_eq_fast];kernel_rfl
theorem Qg(p:Str×Option Value)(hp:p∈w5):p.1∈AO/\typeLookup (.type "ValueError") p.1=pure p.2:=by
 unfold w5 at hp
 rcases mem_cons.mp hp with e|hp
 ·subst e;exact⟨.tail _ (.head _),F.attr_ValueError.ga.lookup⟩
 rcases mem_cons.mp hp with e|hp
 ·subst e;exact⟨.tail _ (.tail _ (.head _)),F.attrBase_ValueError.noGetattr⟩
 rcases mem_cons.mp hp with e|hp
 ·subst e;exact⟨.tail _ (.tail _ (.tail _ (.head _))),Qf⟩
 ·cases hp
theorem Qh{M:Model}{A:Around}{Ex:Value->Shared->Prop}{h:Heap}{g:Array GenState}{d:Drawn}{t:Nat}{os:OsState}{Q:Option Value->Shared->Prop}{r r0:Str×Nat×Nat×Bool}{n:Str}{y:Option Value}{m m0:Str->Option Value}
  (hC:h.get? r.2.1=some (ym r)) (hN:h.Ns (r.2.1 - 1) m) (hm:m n=none) (h0:r0.2.1=69) (Qi:h.get? r0.2.1=some (ym r0)) (Qj:h.Ns (r0.2.1 - 1) m0) (Qk:m0 n=none) (hB:typeLookup (.type "ValueError") n=pure y) (hq:Q y ⟨h,g,d,t,os⟩):wpAny M A (typeLookup (.ref r.2.1) n) Q Ex ⟨h,g,d,t,os⟩:=by
 have hr:lookupAlong H.vm n=pure y:=by rw[typeLookup_eq,show mroOf (.type "ValueError")=pure H.vm from F.excBase_ValueError.mroIs] at hB;exact hB
 rw[typeLookup_eq]
 refine wpAny_bind (wpAny_mroOf_exc hC ?_)
 rw[lookupAlong_cons]
 refine wpAny_bind (wpAny_classOwn_exc hC hN ?_)
 rw[hm]
 obtain⟨x,C,t,e⟩:=r
 cases e with
 |true=>refine(?_:wpAny M A (lookupAlong H.vm n) Q Ex _);rw[hr];exact wpAny_pure hq
 |false=>
  refine(?_:wpAny M A (lookupAlong (.ref 69::H.vm) n) Q Ex _)
  rw[lookupAlong_cons]
  refine wpAny_bind ?_
  rw[<-h0]
  refine wpAny_classOwn_exc Qi Qj ?_
  rw[Qk]
  refine(?_:wpAny M A (lookupAlong H.vm n) Q Ex _)
  rw[hr];exact wpAny_pure hq
theorem Ql{Y:jI}{Pr:Params}(hh:∀b o,(H.H1 Pr).get? b=some o->Y.dC.get? b=some o)(hg:Y.mg=(H.H1 Pr).nsMap mainGlobals)(he:Y.exc=lC.map (·.2.1))(k:Nat)(x:Str)(hx:gK.pg[k]?=some x):w6 Y k x:=by
 have nj:(lC.map (·.1))[k]?=some x:=hx
 rw[getElem?_map] at nj
 have at':∀r,r∈lC->Y.dC.get? r.2.1=some (ym r)/\Y.dC.Ns (r.2.1 - 1) ((H.H1 Pr).nsMap (r.2.1 - 1))/\∀n,n∈AO->(H.H1 Pr).nsMap (r.2.1 - 1) n=none:=λr hr=>
  aR (all_eq_true.mp (Qc Pr) r hr) λh1 h2=>⟨hh _ _ (AP (Qb Pr) r hr),(Ns.of_isNs h1).keeps hh,λn hn=>Option.isNone_iff_eq_none.mp (all_eq_true.mp h2 n hn)⟩
 refine fK (λx=>w6 Y k x) nj λr hr=>?_
 have hm:=mem_of_getElem? hr
 have A:=at' r hm
 have r0:((Str.ofString "EstateError",69,266,true):Str×Nat×Nat×Bool)∈lC:=.tail _ (.tail _ (.tail _ (.tail _ (.tail _ (.tail _ (.tail _ (.tail _ (.head _))))))))
 have B:=at' _ r0
 have hk:k<9:=(List.getElem?_eq_some_iff.mp hr).1
 refine⟨r.2.1,H.vm,"ValueError.__new__",_,"ValueError",⟨?_,?_⟩,F.excBase_ValueError,?_,⟨by decide,by decide⟩,λo cd ho hd j D hj=>?_,λp hp A' Ex h g d t os Q hk hq=>?_⟩
 ·rw[hg];exact AP (Qd Pr) r hm
 ·refine⟨yl r.2.2.2,r.2.1 - 1,_,_,_,_,_,_,_,_,_,_,_,_,_,_,_,A.1,A.2.1,A.2.2 _ (.head _),?_⟩
  obtain⟨x,C,t,e⟩:=r
  cases e with
  |true=>exact .base
  |false=>exact .own B.1 B.2.1 (B.2.2 _ (.head _)) .base
 ·rw[he,getElem?_map,hr];rfl
 ·rw[A.1] at ho;cases ho;cases hd
  rw[he,getElem?_map] at hj
  refine fK (λD=>(Value.ref r.2.1::yl r.2.2.2).contains (.ref D)=gM k j) hj λr' yn=>?_
  have q:=all_eq_true.mp (all_eq_true.mp Qe k (mem_range.mpr hk)) j (mem_range.mpr (List.getElem?_eq_some_iff.mp yn).1)
  rw[hr,yn] at q
  exact eq_of_beq q
 ·have z:=Qg p hp
  exact Qh (r:=r) (r0:=(Str.ofString "EstateError",69,266,true)) (hk _ _ A.1) (A.2.1.keeps hk) (A.2.2 _ z.1) rfl (hk _ _ B.1) (B.2.1.keeps hk) (B.2.2 _ z.1) z.2 hq
noncomputable def F1:ClsRec:=⟨gK.cls,none,[],gK.bT,0,dM.map λd=>⟨d.name,d.params,d.body,d.scope⟩⟩
theorem Qm(P:Params):(H.H1 P).plainShapeAt F1=some F1.plainShape:=by kernel_rfl
theorem Qn(P:Params):(H.H1 P).isNs mainGlobals=true:=by kernel_rfl
theorem Qo(P:Params):(["MOST_DAY","MOST_PEOPLE","MOST_GIFTS","MOST_NUMBER"]:List Str).map ((H.H1 P).nsMap mainGlobals)=[some (.int 100000 562),some (.int 60 564),some (.int 10 566),some (.int 1000 568)]:=by kernel_rfl
theorem Qp(P:Params):(["WHOLE","NOTHING"]:List Str).map ((H.H1 P).nsMap mainGlobals)=[some (.ref 204),some (.ref 227)]:=by kernel_rfl
theorem Qq(P:Params):(H.H1 P).get? 204=some (jH [.int 1 459,.int 1 460] 0):=by kernel_rfl
theorem Qr(P:Params):(H.H1 P).get? 227=some (jH [.int 0 491,.int 1 492] 0):=by kernel_rfl
theorem Qs{Y:jI}{Pr:Params}(hh:∀b o,(H.H1 Pr).get? b=some o->Y.dC.get? b=some o)(hg:Y.mg=(H.H1 Pr).nsMap mainGlobals)(j:Nat)(x:Str)(hx:gK.wG[j]?=some x):
  (∃i t,uH[j]?=some (.int i)/\Y.mg x=some (.int i t))\/∃(a:Addr) (is:List Int) (vs:List Value) (n:Nat),uH[j]?=some (.aC (is.map .int))/\Y.mg x=some (.ref a)/\Y.dC.get? a=some (jH vs n)/\IntsAre vs is/\is.length<=1000:=by
 rw[hg]
 have I:=Qo Pr
 have T:=Qp Pr
 match j,hx with
 |0,hx=>cases hx;exact .inr ⟨204,[1,1],_,_,rfl,(List.cons.inj T).1,hh _ _ (Qq Pr),.cons _ _ (.cons _ _ .nil),by decide⟩
 |1,hx=>cases hx;exact .inr ⟨227,[0,1],_,_,rfl,(List.cons.inj (List.cons.inj T).2).1,hh _ _ (Qr Pr),.cons _ _ (.cons _ _ .nil),by decide⟩
 |2,hx=>cases hx;exact .inl ⟨_,_,rfl,(List.cons.inj I).1⟩
 |3,hx=>cases hx;exact .inl ⟨_,_,rfl,(List.cons.inj (List.cons.inj I).2).1⟩
 |4,hx=>cases hx;exact .inl ⟨_,_,rfl,(List.cons.inj (List.cons.inj (List.cons.inj I).2).2).1⟩
 |5,hx=>cases hx;exact .inl ⟨_,_,rfl,(List.cons.inj (List.cons.inj (List.cons.inj (List.cons.inj I).2).2).2).1⟩
 |j+6,hx=>cases hx
theorem Qt{q prog:Program}{loose:List Str}{mean:ExcName->Option Value}{mg mb:Str->Option Value}{w:World}{bU:Shared}{jk:Addr}{vs:List Value}{ns:List Int}{fa:Addr}{Pr:Params}{Q Ex:Value->Shared->Prop}
  (T:Top q loose mean mg mb bU.heap) (hh:∀b o,(H.H1 Pr).get? b=some o->bU.heap.get? b=some o) (hK:dT=(recsOf q).map P6) (Qu:w0 (dT++dM) zL wX=true) (Qv:P7 q loose=true) (Qw:importsNone q=true) (Qx:prog.given.tree=none)
  (hL:bU.heap.IsList jk vs.toArray) (hI:IntsAre vs ns) (eU:ns.length<=63) (AM:gK.kQ[P.qC]?=some (false,Str.ofString "law")) (tX:mg "law"=some (.ref fa))
  (AN:az 73 P.qC [.fR] [] (λv Z=>v=.bool true) λZ Z=>False)
  (hQ:∀h' tk,(∀b o,bU.heap.get? b=some o->h'.get? b=some o)->Q (.bool true) {bU with heap:=h',toks:=tk}):wpAny (model prog w) callerA (call (.ref fa) [.ref jk]) Q Ex bU:=by
 have hg:mg=(H.H1 Pr).nsMap mainGlobals:=T.g.eq_nsMap.trans ((Ns.of_isNs (Qn Pr)).keeps hh).eq_nsMap.symm
 obtain⟨C,N,hC,PL⟩:=plainAt_of_shape (Qm Pr)
 have PL:=PL.keeps hh
 refine wpAny_mono (KU (P8 AM AN) ⟨prog,w,jk,ns,mg,mb,C,N,(H.H1 Pr).nsMap N,lC.map (·.2.1),dT++dM,bU⟩ ?_ fa Q tX hQ) (λZ Z q=>q) λZ Z h=>h.elim
 refine⟨T.g,T.b,λp hp=>?_,Qa (λd hd=>?_) (λd hd=>?_) rfl,Qs hh hg,Ql hh hg rfl,rfl,hg▸hC,PL.cls,PL.quiet,T.nolimit,T.seer Qw,Qx,⟨vs,hL,hI⟩,eU,?_,T.bmain,Qu⟩
 ·exact aR (all_eq_true.mp Qv p hp) λh1 h=>aR h λh2 h=>aR h λh3 h=>aR h λh4 h=>aR h λh5 h=>aR h λh6 h7=>⟨T.free p.1 (rA h1) (rA h2) (rA h3) (rA h4) (rA h5),(T.builtins p.1 (λe=>by rw[e] at h6;exact absurd h6 (by decide))).trans (of_decide_eq_true h7)⟩
 ·rw[hK] at hd
  exact(mem_map.mp hd).elim λr y=>y.2▸T.fn r y.1
 ·exact PL.meths _ (mem_map.mpr ⟨d,hd,rfl⟩)
 ·exact T.nodigits.elim λmc h=>h.1.imp λo h=>h.elim λZ h=>h.elim λZ h=>h.1
end Mine
namespace Mine.H
open PySem PySem.W PyProof.Rows
theorem pre(w:World)(os:OsState):topGo treeTable pp w 11 an 12 ⟨boot_heap w.params,Array.mk [],boot_drawn,boot_toks,os⟩ (topStub pp)=some ((s0 w os).abs,⟨denote treeTable cE,cE,ps 0 0 0 0,[topFrame (ps 0 0 0 0)]⟩):=by kernel_rfl
theorem Qy(w:World)(os:OsState):segRun treeTable pp w 11 an 1 1 (s0 w os).abs (blockOf bE env cE (ps 0 0 0 0) [topFrame (ps 0 0 0 0)])=some (.next,(s0 w os).abs,cE,ps 0 0 0 0):=by kernel_rfl
noncomputable abbrev r0:List Stmt:=bE
theorem g0(w:World)(os:OsState):segRunT treeTable pp w 11 an 1 2000 (s0 w os) (piecesOf (r0.take 13) env cE (ps 0 0 0 0) [topFrame (ps 0 0 0 0)])=some (.next,s1 w os,cE,ps 56 0 57 8):=by kernel_rfl
noncomputable abbrev r1:List Stmt:=r0.drop 13
theorem g1(w:World)(os:OsState):segRunT treeTable pp w 11 an 1 2000 (s1 w os) (piecesOf (r1.take 4) env cE (ps 56 0 57 8) [topFrame (ps 0 0 0 0)])=some (.next,s2 w os,cE,ps 64 0 65 8):=by kernel_rfl
noncomputable abbrev r2:List Stmt:=r1.drop 4
theorem g2(w:World)(os:OsState):segRunT treeTable pp w 11 an 1 2000 (s2 w os) (piecesOf (r2.take 22) env cE (ps 64 0 65 8) [topFrame (ps 0 0 0 0)])=some (.next,s3 w os,cE,ps 165 0 184 15):=by kernel_rfl
noncomputable abbrev r3:List Stmt:=r2.drop 22
theorem g3(w:World)(os:OsState):segRunT treeTable pp w 11 an 1 2000 (s3 w os) (piecesOf (r3.take 10) env cE (ps 165 0 184 15) [topFrame (ps 0 0 0 0)])=some (.next,s4 w os,cE,ps 199 0 333 41):=by kernel_rfl
noncomputable abbrev r4:List Stmt:=r3.drop 10
theorem g4(w:World)(os:OsState):segRunT treeTable pp w 11 an 1 2000 (s4 w os) (piecesOf (r4.take 27) env cE (ps 199 0 333 41) [topFrame (ps 0 0 0 0)])=some (.next,s5 w os,cE,ps 515 0 535 58):=by kernel_rfl
noncomputable abbrev r5:List Stmt:=r4.drop 27
theorem fin(w:World)(os:OsState):topRun treeTable pp w 11 an 5 (s5 w os).abs (restOf r5 env cE (ps 515 0 535 58) [topFrame (ps 0 0 0 0)])=some ⟨H1 w.params,Array.mk [],boot_drawn,1006,os⟩:=by kernel_rfl
theorem pc{w:World}{n N m:Nat}{s s' r:Shared}{l:List Stmt}{pos p':Pos}(h:segRun treeTable pp w 11 an 1 n s (piecesOf (l.take m) env cE pos [topFrame (ps 0 0 0 0)])=some (.next,s',cE,p'))(k:topRun treeTable pp w 11 an N s' (restOf (l.drop m) env cE p' [topFrame (ps 0 0 0 0)])=some r):topRun treeTable pp w 11 an (n+N) s (restOf l env cE pos [topFrame (ps 0 0 0 0)])=some r:=by
 have e:=piece_app h k
 rw[take_append_drop] at e
 exact e
theorem run(w:World)(os:OsState):topRun treeTable pp w 11 an (12+(1+(2000+(2000+(2000+(2000+(2000+5))))))) ⟨boot_heap w.params,Array.mk [],boot_drawn,boot_toks,os⟩ (topStub pp)=some ⟨H1 w.params,Array.mk [],boot_drawn,1006,os⟩:=
 go_top (pre w os) (piece_block (Qy w os) (pc (segRun_of (g0 w os)) (pc (segRun_of (g1 w os)) (pc (segRun_of (g2 w os)) (pc (segRun_of (g3 w os)) (pc (segRun_of (g4 w os)) (fin w os)))))))
noncomputable def pk(ns:List Nat):List Stmt->List Stmt:=List.rec (λZ=>[]) (λn Z f l=>l.take n++f (l.drop (n+1))) ns
noncomputable def qv:Program:={pp with main:={pp.main with body:=pk [0,4,3,9,5,5,7,9,26] pp.main.body}}
noncomputable def rK:DefRec:=(recsOf qv).getLastD ⟨Str.empty,default,[],default,default⟩
theorem d1:defOf qv PySem.Challenge.rw_uf020001_13.row.name=some (rK,[]):=by kernel_rfl
theorem d2:pp.theDef PySem.Challenge.rw_uf020001_13.row.name=some (rK.params,rK.body,rK.scope):=by kernel_rfl
theorem d3:kwWritten? rK.params.kwonlyargs rK.params.kw_defaults=some []:=by kernel_rfl
noncomputable abbrev lo:List Str:=[]
noncomputable abbrev lv:List (Str×WData):=[]
noncomputable abbrev Qz:OpenRow:=PySem.Challenge.rw_uf020001_13.row
noncomputable abbrev Xt(s:Shared):Bool:=xlAt qv lv s&&recOk (RowW.records Qz.toRowW) s
noncomputable abbrev sF(w:World)(os:OsState):Shared:=⟨H1 w.params,Array.mk [],boot_drawn,1006,os⟩
theorem size(w:World):((boot_heap w.params).isNs mainGlobals&&(Array.mk []:Array GenState).size==0,(boot_heap w.params).objs.size,(boot_heap w.params).nsMap mainGlobals "__annotations__")=(true,11,an):=by kernel_rfl
theorem QA(w:World):(fencedOpening treeTable pp w 20000).map (λs=>(s.heap,s.gens,s.drawn,s.toks))=some (boot_heap w.params,Array.mk [],boot_drawn,boot_toks):=boot_open (by kernel_rfl) (by decide) (λs=>by kernel_rfl) w
theorem k1(w:World)(os:OsState):(staticsOk (importedModules pp.main.body) (boot_heap w.params) (H1 w.params)&&namesBound pp (H1 w.params)&&gensDone (sF w os)&&laidKept (boot_heap w.params) (H1 w.params))=true:=by kernel_rfl
theorem n1(w:World)(os:OsState):seen ((recsOf qv).map (·.name)) (ownsOf qv) [] {sF w os with gens:=#[]}=expectedOf qv:=by kernel_rfl
theorem n2(w:World)(os:OsState):(sF w os).heap.bltView=bltViewBooted:=by kernel_rfl
theorem n3(w:World)(os:OsState):((sF w os).heap.keysOk (looseW qv lo) ((recsOf qv).map (·.name)) ((litsOf qv).map (·.1)) ((clssOf qv (looseW qv lo)).map (·.name))&&(sF w os).heap.accountedOkI (importedModules pp.main.body)&&(sF w os).heap.isNs mainGlobals&&(sF w os).heap.isNs builtinsNs&&tablesOk qv (sF w os).heap&&Xt (sF w os)&&(if true then(sF w os).gens.size==0 else !leftWithCleanup (sF w os).gens))=true:=by kernel_rfl
theorem n4(w:World)(os:OsState):tabsOk qv (sF w os)=true:=by kernel_rfl
theorem n5(w:World)(os:OsState):pinSeenD qv (drecsOf qv) (sF w os)=pinGoodD (drecsOf qv):=by kernel_rfl
theorem n6(w:World)(os:OsState):plainSeenE qv (looseW qv lo) (sF w os)=plainGoodE qv (looseW qv lo):=by kernel_rfl
theorem n7(w:World)(os:OsState):plainSeenD qv lo (sF w os)=plainGoodD qv lo:=by kernel_rfl
theorem n8(w:World)(os:OsState):wideSeen qv (sF w os)=wideGood qv:=by kernel_rfl
theorem n9(w:World)(os:OsState):clsSeenW qv lo (sF w os)=clsGoodW qv lo:=by kernel_rfl
theorem pr{α β:Type}{a a':α}{b b':β}(x:a=a')(y:b=b'):(a,b)=(a',b'):=by rw[x,y]
theorem sn(w:World)(os:OsState):openSeen qv lo (importedModules pp.main.body) Xt true (sF w os)=openGood qv lo:=pr (n1 w os) (pr (n2 w os) (pr (n3 w os) (pr (n4 w os) (pr (n5 w os) (pr (n6 w os) (pr (n7 w os) (pr (n8 w os) (n9 w os))))))))
end Mine.H
namespace Mine.P
open PySem
theorem QB{n:Nat}{x0 x1 x2:V}{H:Hp}{Q Y:PQ}(h:aN ⟨az n,xq Y⟩ C6 [some x0,some x1,some x2,none,none,none,none] H (bH Q)):az (n+1) iY [x0,x1,x2] H Q Y:=⟨⟨rfl,by decide⟩,h⟩
theorem QC{n:Nat}{x0 x1 x2:V}{H:Hp}{Q Y:PQ}(h:aN ⟨az n,xq Y⟩ C7 [some x0,some x1,some x2,none,none,none,none] H (bH Q)):az (n+1) ux [x0,x1,x2] H Q Y:=⟨⟨rfl,by decide⟩,h⟩
theorem QD{n:Nat}{x0 x1 x2:V}{H:Hp}{Q Y:PQ}(h:aN ⟨az n,xq Y⟩ C8 [some x0,some x1,some x2,none,none] H (bH Q)):az (n+1) qz [x0,x1,x2] H Q Y:=⟨⟨rfl,by decide⟩,h⟩
theorem QE{n:Nat}{x0 x1 x2:V}{H:Hp}{Q Y:PQ}(h:aN ⟨az n,xq Y⟩ C9 [some x0,some x1,some x2,none] H (bH Q)):az (n+1) qA [x0,x1,x2] H Q Y:=⟨⟨rfl,by decide⟩,h⟩
theorem QF{n:Nat}{x0 x1 x2:V}{H:Hp}{Q Y:PQ}(h:aN ⟨az n,xq Y⟩ Dc [some x0,some x1,some x2,none,none,none] H (bH Q)):az (n+1) zi [x0,x1,x2] H Q Y:=⟨⟨rfl,by decide⟩,h⟩
theorem QG{n:Nat}{x0 x1 x2 x3:V}{H:Hp}{Q Y:PQ}(h:aN ⟨az n,xq Y⟩ Dd [some x0,some x1,some x2,some x3,none,none,none,none] H (bH Q)):az (n+1) zj [x0,x1,x2,x3] H Q Y:=⟨⟨rfl,by decide⟩,h⟩
theorem QH{n:Nat}{x0 x1 x2:V}{H:Hp}{Q Y:PQ}(h:aN ⟨az n,xq Y⟩ wV [some x0,some x1,some x2,none,none,none,none,none] H (bH Q)):az (n+1) zk [x0,x1,x2] H Q Y:=⟨⟨rfl,by decide⟩,h⟩
theorem QI{n:Nat}{x0 x1:V}{H:Hp}{Q Y:PQ}(h:aN ⟨az n,xq Y⟩ zA [some x0,some x1,none,none,none] H (bH Q)):az (n+1) jG [x0,x1] H Q Y:=⟨⟨rfl,by decide⟩,h⟩
theorem QJ{n:Nat}{x0 x1:V}{H:Hp}{Q Y:PQ}(h:aN ⟨az n,xq Y⟩ De [some x0,some x1] H (bH Q)):az (n+1) sT [x0,x1] H Q Y:=⟨⟨rfl,by decide⟩,h⟩
theorem QK{n:Nat}{x0 x1:V}{H:Hp}{Q Y:PQ}(h:aN ⟨az n,xq Y⟩ Df [some x0,some x1] H (bH Q)):az (n+1) wH [x0,x1] H Q Y:=⟨⟨rfl,by decide⟩,h⟩
theorem QL{n:Nat}{x0 x1:V}{H:Hp}{Q Y:PQ}(h:aN ⟨az n,xq Y⟩ Dg [some x0,some x1] H (bH Q)):az (n+1) qB [x0,x1] H Q Y:=⟨⟨rfl,by decide⟩,h⟩
theorem QM{n:Nat}{x0 x1:V}{H:Hp}{Q Y:PQ}(h:aN ⟨az n,xq Y⟩ Dh [some x0,some x1] H (bH Q)):az (n+1) uy [x0,x1] H Q Y:=⟨⟨rfl,by decide⟩,h⟩
theorem QN{n:Nat}{x0 x1 x2 x3:V}{H:Hp}{Q Y:PQ}(h:aN ⟨az n,xq Y⟩ Di [some x0,some x1,some x2,some x3,none,none,none,none,none,none,none] H (bH Q)):az (n+1) wI [x0,x1,x2,x3] H Q Y:=⟨⟨rfl,by decide⟩,h⟩
theorem QO{n:Nat}{x0 x1 x2:V}{H:Hp}{Q Y:PQ}(h:aN ⟨az n,xq Y⟩ Dj [some x0,some x1,some x2] H (bH Q)):az (n+1) sU [x0,x1,x2] H Q Y:=⟨⟨rfl,by decide⟩,h⟩
theorem QP{n:Nat}{x0 x1 x2 x3:V}{H:Hp}{Q Y:PQ}(h:aN ⟨az n,xq Y⟩ Dk [some x0,some x1,some x2,some x3] H (bH Q)):az (n+1) wJ [x0,x1,x2,x3] H Q Y:=⟨⟨rfl,by decide⟩,h⟩
theorem QR{n:Nat}{x0 x1 x2:V}{H:Hp}{Q Y:PQ}(h:aN ⟨az n,xq Y⟩ Dl [some x0,some x1,some x2,none,none,none,none,none,none,none,none] H (bH Q)):az (n+1) zl [x0,x1,x2] H Q Y:=⟨⟨rfl,by decide⟩,h⟩
theorem QS{n:Nat}{x0 x1 x2:V}{H:Hp}{Q Y:PQ}(h:aN ⟨az n,xq Y⟩ Dm [some x0,some x1,some x2,none,none,none] H (bH Q)):az (n+1) zm [x0,x1,x2] H Q Y:=⟨⟨rfl,by decide⟩,h⟩
theorem QT{n:Nat}{x0 x1 x2:V}{H:Hp}{Q Y:PQ}(h:aN ⟨az n,xq Y⟩ Dn [some x0,some x1,some x2,none,none,none,none,none] H (bH Q)):az (n+1) zo [x0,x1,x2] H Q Y:=⟨⟨rfl,by decide⟩,h⟩
theorem QU{n:Nat}{x0 x1 x2 x3:V}{H:Hp}{Q Y:PQ}(h:aN ⟨az n,xq Y⟩ Do [some x0,some x1,some x2,some x3,none,none,none,none,none,none,none] H (bH Q)):az (n+1) zp [x0,x1,x2,x3] H Q Y:=⟨⟨rfl,by decide⟩,h⟩
theorem QV{n:Nat}{x0 x1 x2:V}{H:Hp}{Q Y:PQ}(h:aN ⟨az n,xq Y⟩ Dp [some x0,some x1,some x2,none,none] H (bH Q)):az (n+1) zq [x0,x1,x2] H Q Y:=⟨⟨rfl,by decide⟩,h⟩
theorem QW{n:Nat}{x0 x1:V}{H:Hp}{Q Y:PQ}(h:aN ⟨az n,xq Y⟩ Dq [some x0,some x1] H (bH Q)):az (n+1) zr [x0,x1] H Q Y:=⟨⟨rfl,by decide⟩,h⟩
theorem QX{n:Nat}{x0 x1:V}{H:Hp}{Q Y:PQ}(h:aN ⟨az n,xq Y⟩ zB [some x0,some x1,none,none,none,none,none,none,none,none,none,none,none,none] H (bH Q)):az (n+1) zt [x0,x1] H Q Y:=⟨⟨rfl,by decide⟩,h⟩
theorem QY{n:Nat}{x0 x1 x2:V}{H:Hp}{Q Y:PQ}(h:aN ⟨az n,xq Y⟩ Dr [some x0,some x1,some x2] H (bH Q)):az (n+1) ph [x0,x1,x2] H Q Y:=⟨⟨rfl,by decide⟩,h⟩
theorem QZ{n:Nat}{x0:V}{H:Hp}{Q Y:PQ}(h:aN ⟨az n,xq Y⟩ Ds [some x0] H (bH Q)):az (n+1) ke [x0] H Q Y:=⟨⟨rfl,by decide⟩,h⟩
theorem Q0{n:Nat}{x0:V}{H:Hp}{Q Y:PQ}(h:aN ⟨az n,xq Y⟩ Dt [some x0] H (bH Q)):az (n+1) mR [x0] H Q Y:=⟨⟨rfl,by decide⟩,h⟩
theorem Q1{n:Nat}{x0:V}{H:Hp}{Q Y:PQ}(h:aN ⟨az n,xq Y⟩ zC [some x0] H (bH Q)):az (n+1) wK [x0] H Q Y:=⟨⟨rfl,by decide⟩,h⟩
theorem Q2{n:Nat}{x0 x1:V}{H:Hp}{Q Y:PQ}(h:aN ⟨az n,xq Y⟩ Du [some x0,some x1] H (bH Q)):az (n+1) jj [x0,x1] H Q Y:=⟨⟨rfl,by decide⟩,h⟩
theorem Q3{n:Nat}{x0 x1:V}{H:Hp}{Q Y:PQ}(h:aN ⟨az n,xq Y⟩ zD [some x0,some x1,none,none,none] H (bH Q)):az (n+1) sV [x0,x1] H Q Y:=⟨⟨rfl,by decide⟩,h⟩
theorem Q4{n:Nat}{x0 x1 x2:V}{H:Hp}{Q Y:PQ}(h:aN ⟨az n,xq Y⟩ zE [some x0,some x1,some x2,none,none] H (bH Q)):az (n+1) uz [x0,x1,x2] H Q Y:=⟨⟨rfl,by decide⟩,h⟩
theorem Q5{n:Nat}{x0 x1:V}{H:Hp}{Q Y:PQ}(h:aN ⟨az n,xq Y⟩ Dv [some x0,some x1,none,none,none,none,none,none,none,none,none] H (bH Q)):az (n+1) zu [x0,x1] H Q Y:=⟨⟨rfl,by decide⟩,h⟩
theorem Q6{n:Nat}{x0 x1:V}{H:Hp}{Q Y:PQ}(h:aN ⟨az n,xq Y⟩ Dw [some x0,some x1,none,none,none,none,none,none,none,none,none] H (bH Q)):az (n+1) zv [x0,x1] H Q Y:=⟨⟨rfl,by decide⟩,h⟩
theorem Q7{n:Nat}{x0 x1 x2:V}{H:Hp}{Q Y:PQ}(h:aN ⟨az n,xq Y⟩ Dx [some x0,some x1,some x2] H (bH Q)):az (n+1) sW [x0,x1,x2] H Q Y:=⟨⟨rfl,by decide⟩,h⟩
theorem Q8{n:Nat}{x0 x1:V}{H:Hp}{Q Y:PQ}(h:aN ⟨az n,xq Y⟩ zF [some x0,some x1,none] H (bH Q)):az (n+1) wL [x0,x1] H Q Y:=⟨⟨rfl,by decide⟩,h⟩
theorem Q9{n:Nat}{x0 x1 x2:V}{H:Hp}{Q Y:PQ}(h:aN ⟨az n,xq Y⟩ Dy [some x0,some x1,some x2] H (bH Q)):az (n+1) uA [x0,x1,x2] H Q Y:=⟨⟨rfl,by decide⟩,h⟩
theorem Ra{n:Nat}{x0 x1 x2:V}{H:Hp}{Q Y:PQ}(h:aN ⟨az n,xq Y⟩ Dz [some x0,some x1,some x2,none,none,none,none,none,none,none,none] H (bH Q)):az (n+1) zw [x0,x1,x2] H Q Y:=⟨⟨rfl,by decide⟩,h⟩
theorem Rb{n:Nat}{x0 x1 x2:V}{H:Hp}{Q Y:PQ}(h:aN ⟨az n,xq Y⟩ DA [some x0,some x1,some x2,none,none,none,none,none] H (bH Q)):az (n+1) zx [x0,x1,x2] H Q Y:=⟨⟨rfl,by decide⟩,h⟩
theorem Rc{n:Nat}{x0 x1 x2:V}{H:Hp}{Q Y:PQ}(h:aN ⟨az n,xq Y⟩ DB [some x0,some x1,some x2,none,none,none,none,none] H (bH Q)):az (n+1) zy [x0,x1,x2] H Q Y:=⟨⟨rfl,by decide⟩,h⟩
theorem Rd{n:Nat}{x0 x1:V}{H:Hp}{Q Y:PQ}(h:aN ⟨az n,xq Y⟩ DC [some x0,some x1,none,none,none] H (bH Q)):az (n+1) uB [x0,x1] H Q Y:=⟨⟨rfl,by decide⟩,h⟩
theorem Rf{n:Nat}{x0 x1:V}{H:Hp}{Q Y:PQ}(h:aN ⟨az n,xq Y⟩ DD [some x0,some x1,none,none,none] H (bH Q)):az (n+1) uC [x0,x1] H Q Y:=⟨⟨rfl,by decide⟩,h⟩
theorem Rg{n:Nat}{x0:V}{H:Hp}{Q Y:PQ}(h:aN ⟨az n,xq Y⟩ zG [some x0] H (bH Q)):az (n+1) uD [x0] H Q Y:=⟨⟨rfl,by decide⟩,h⟩
theorem Rh{n:Nat}{x0:V}{H:Hp}{Q Y:PQ}(h:aN ⟨az n,xq Y⟩ zH [some x0,none] H (bH Q)):az (n+1) uE [x0] H Q Y:=⟨⟨rfl,by decide⟩,h⟩
theorem vC{n:Nat}{x0 x1:V}{H:Hp}{Q Y:PQ}(h:aN ⟨az n,xq Y⟩ DE [some x0,some x1] H (bH Q)):az (n+1) pn [x0,x1] H Q Y:=⟨⟨rfl,by decide⟩,h⟩
theorem Ri{n:Nat}{x0 x1:V}{H:Hp}{Q Y:PQ}(h:aN ⟨az n,xq Y⟩ DF [some x0,some x1,none,none] H (bH Q)):az (n+1) mS [x0,x1] H Q Y:=⟨⟨rfl,by decide⟩,h⟩
theorem Rj{n:Nat}{x0:V}{H:Hp}{Q Y:PQ}(h:aN ⟨az n,xq Y⟩ qG [some x0,none,none,none,none,none,none] H (bH Q)):az (n+1) uF [x0] H Q Y:=⟨⟨rfl,by decide⟩,h⟩
theorem Rk{n:Nat}{x0:V}{H:Hp}{Q Y:PQ}(h:aN ⟨az n,xq Y⟩ DG [some x0,none,none] H (bH Q)):az (n+1) uG [x0] H Q Y:=⟨⟨rfl,by decide⟩,h⟩
theorem Rl{n:Nat}{x0 x1:V}{H:Hp}{Q Y:PQ}(h:aN ⟨az n,xq Y⟩ DH [some x0,some x1,none,none,none] H (bH Q)):az (n+1) pu [x0,x1] H Q Y:=⟨⟨rfl,by decide⟩,h⟩
theorem Rm{n:Nat}{x0:V}{H:Hp}{Q Y:PQ}(h:aN ⟨az n,xq Y⟩ DI [some x0,none,none,none,none,none,none,none,none,none] H (bH Q)):az (n+1) qC [x0] H Q Y:=⟨⟨rfl,by decide⟩,h⟩
theorem Rn{n:Nat}{x0:V}{H:Hp}{Q Y:PQ}(h:aN ⟨az n,xq Y⟩ zI [some x0] H (bH Q)):az (n+1) qD [x0] H Q Y:=⟨⟨rfl,by decide⟩,h⟩
theorem Ro{n:Nat}{x0 x1:V}{H:Hp}{Q Y:PQ}(h:aN ⟨az n,xq Y⟩ DJ [some x0,some x1] H (bH Q)):az (n+1) gA [x0,x1] H Q Y:=⟨⟨rfl,by decide⟩,h⟩
theorem Rp{n:Nat}{x0 x1 x2:V}{H:Hp}{Q Y:PQ}(h:aN ⟨az n,xq Y⟩ DK [some x0,some x1,some x2] H (bH Q)):az (n+1) sX [x0,x1,x2] H Q Y:=⟨⟨rfl,by decide⟩,h⟩
theorem Rq{n:Nat}{x0:V}{H:Hp}{Q Y:PQ}(h:aN ⟨az n,xq Y⟩ DL [some x0,none,none,none] H (bH Q)):az (n+1) qE [x0] H Q Y:=⟨⟨rfl,by decide⟩,h⟩
theorem Rr{n:Nat}{x0 x1 x2:V}{H:Hp}{Q Y:PQ}(h:aN ⟨az n,xq Y⟩ wW [some x0,some x1,some x2,none] H (bH Q)):az (n+1) wM [x0,x1,x2] H Q Y:=⟨⟨rfl,by decide⟩,h⟩
theorem Rt{n:Nat}{x0 x1 x2 x3:V}{H:Hp}{Q Y:PQ}(h:aN ⟨az n,xq Y⟩ sY [some x0,some x1,some x2,some x3,none,none,none,none,none] H (bH Q)):az (n+1) wN [x0,x1,x2,x3] H Q Y:=⟨⟨rfl,by decide⟩,h⟩
theorem Ru{n:Nat}{x0 x1 x2:V}{H:Hp}{Q Y:PQ}(h:aN ⟨az n,xq Y⟩ zJ [some x0,some x1,some x2,none] H (bH Q)):az (n+1) pv [x0,x1,x2] H Q Y:=⟨⟨rfl,by decide⟩,h⟩
theorem Rv{n:Nat}{x0 x1 x2 x3:V}{H:Hp}{Q Y:PQ}(h:aN ⟨az n,xq Y⟩ sZ [some x0,some x1,some x2,some x3,none,none,none] H (bH Q)):az (n+1) wO [x0,x1,x2,x3] H Q Y:=⟨⟨rfl,by decide⟩,h⟩
theorem Rw{n:Nat}{x0 x1 x2:V}{H:Hp}{Q Y:PQ}(h:aN ⟨az n,xq Y⟩ nS [some x0,some x1,some x2,none,none,none,none,none,none,none,none,none] H (bH Q)):az (n+1) wQ [x0,x1,x2] H Q Y:=⟨⟨rfl,by decide⟩,h⟩
theorem Rx{n:Nat}{x0 x1 x2:V}{H:Hp}{Q Y:PQ}(h:aN ⟨az n,xq Y⟩ DM [some x0,some x1,some x2,none,none,none,none,none,none] H (bH Q)):az (n+1) wR [x0,x1,x2] H Q Y:=⟨⟨rfl,by decide⟩,h⟩
theorem Ry{n:Nat}{x0 x1 x2 x3:V}{H:Hp}{Q Y:PQ}(h:aN ⟨az n,xq Y⟩ zK [some x0,some x1,some x2,some x3,none,none,none,none,none] H (bH Q)):az (n+1) wU [x0,x1,x2,x3] H Q Y:=⟨⟨rfl,by decide⟩,h⟩
theorem Rz{n:Nat}{x0:V}{H:Hp}{Q Y:PQ}(h:aN ⟨az n,xq Y⟩ DN [some x0] H (bH Q)):az (n+1) l7 [x0] H Q Y:=⟨⟨rfl,by decide⟩,h⟩
theorem RA{n:Nat}{x0:V}{H:Hp}{Q Y:PQ}(h:aN ⟨az n,xq Y⟩ DO [some x0] H (bH Q)):az (n+1) kR [x0] H Q Y:=⟨⟨rfl,by decide⟩,h⟩
theorem RB{n:Nat}{x0 x1:V}{H:Hp}{Q Y:PQ}(h:aN ⟨az n,xq Y⟩ DP [some x0,some x1] H (bH Q)):az (n+1) qF [x0,x1] H Q Y:=⟨⟨rfl,by decide⟩,h⟩
end Mine.P
namespace Mine.L
variable{Y:PQ}
theorem ay{α:Type}{o:Option α}{f:α->Prop}{a:α}(e:o=some a)(h:f a):aH o f:=by rw[e];exact h
theorem vD{α:Type}{o:Option α}{f g:α->Prop}(h:aH o f)(k:∀a,f a->g a):aH o g:=by
 cases o
 ·exact h
 ·exact k _ h
section
variable{ws:List Nat}{H₀:Hp}{t:cX}{K:Out->Prop}
theorem AQ{test:aO->Hp->(Bool->Hp->Prop)->Prop}{body:aO->Hp->(Out->Prop)->Prop}(I:Nat->aO->Hp->Prop)(step:∀n ρ H,I n ρ H->∀T:Bool->Hp->Prop,(∀H',(∀N:aO->Hp->Prop,(∀m gE H₁,m<n->I m gE H₁->N gE H₁)->body ρ H' (n0 K N))->T true H')->(∀H',K (.next ρ H')->T false H')->test ρ H T):∀k n ρ H,n<k->I n ρ H->xm test body k ρ H K
 |0,n,ρ,H,hk,h=>absurd hk (not_lt_zero _)
 |k+1,n,ρ,H,hk,h=>step n ρ H h _ (λH' hb=>hb _ λm gE H₁ hm hi=>AQ I step k m gE H₁ (lt_of_lt_of_le hm (le_of_lt_succ hk)) hi) (λH' hk=>hk)
end
end Mine.L
namespace Mine.L
variable{Y:PQ}
open Mine.P
noncomputable def AR(a b:Int)(H:Hp)(n:Nat)(ρ:aO)(H':Hp):Prop:=∀PartIζ:Prop,(∀(x y:Int) (z:Option V) (e:ρ=[some (.int a),some (.int b),some (.int x),some (.int y),z]) (eh:H'=H) (hy:0<=y) (hn:n=y.toNat) (hg:gcd x y=gcd a b) (hx:y=0->0<=x),PartIζ)->PartIζ
theorem AR.mk{a b:Int}{H:Hp}{n:Nat}{ρ:aO}{H':Hp}(x y:Int)(z:Option V)(e:ρ=[some (.int a),some (.int b),some (.int x),some (.int y),z])(eh:H'=H)(hy:0<=y)(hn:n=y.toNat)(hg:gcd x y=gcd a b)(hx:y=0->0<=x):AR a b H n ρ H':=λZ bY=>bY x y z e eh hy hn hg hx
theorem F2{C:Ct}{a b:Int}{H:Hp}{Q:PQ}(hb:0<b)(k:Q (.aC [.int (a.fdiv (gcd a b)),.int (b.fdiv (gcd a b))]) H):aN C zA [some (.int a),some (.int b),none,none,none] H (bH Q):=by
 refine AQ (K:=_) (AR a b H) (λm ρ H' h T ht hf=>?_) _ b.toNat _ _ ?_ (.mk a b none rfl rfl (Int.le_of_lt hb) rfl rfl (λe=>absurd e (Int.ne_of_gt hb)))
 ·refine h _ λx y z e eh hy hn hg hx=>?_
  subst e eh
  refine(?_:T (decide (y>0)) _)
  by_cases rL:y>0
  ·rw[decide_eq_true rL]
   refine ht _ λN hN=>?_
   refine(?_:aH (binI .mod x y) _)
   refine ay (a:=x.fmod y) (if_neg (Int.ne_of_gt rL)) ?_
   have hm:x.fmod y=x - (x/y)*y:=by rw[Int.fmod_eq_emod_of_nonneg x hy,Int.emod_def,Int.mul_comm]
   exact hN (x.fmod y).toNat _ _ (by rw[hn,Int.fmod_eq_emod_of_nonneg x hy];exact(Int.toNat_lt_toNat rL).mpr (Int.emod_lt_of_pos x rL)) (.mk y (x.fmod y) _ rfl rfl (by rw[Int.fmod_eq_emod_of_nonneg x hy];exact Int.emod_nonneg x (Int.ne_of_gt rL)) rfl (by rw[hm,Int.gcd_sub_mul_right_right,Int.gcd_comm];exact hg) (λZ=>hy))
  ·rw[decide_eq_false rL]
   refine hf _ ?_
   obtain rfl:y=0:=Int.le_antisymm (Int.not_lt.mp rL) hy
   have nj:x=((gcd a b:Nat):Int):=by rw[<-hg,Int.gcd_zero_right];exact(Int.natAbs_of_nonneg (hx rfl)).symm
   have F4:((gcd a b:Nat):Int)≠0:=λh=>absurd (Int.gcd_eq_zero_iff.mp (ofNat.inj h)).2 (Int.ne_of_gt hb)
   subst nj
   refine(?_:aH (binI .fdiv a _) _)
   refine ay (if_neg F4) ?_
   refine(?_:aH (binI .fdiv b _) _)
   exact ay (if_neg F4) k
 ·refine(?_:b.toNat<weight [some (.int a),some (.int b),some (.int a),some (.int b),none])
  refine(?_:b.toNat<a.natAbs+(b.natAbs+(a.natAbs+(b.natAbs+1000))))
  lia
section
variable{n:Nat}{a b:Int}{H:Hp}{Q:PQ}(hb:0<b)(kq:Q (.aC [.int (a.fdiv (gcd a b)),.int (b.fdiv (gcd a b))]) H)
include hb kq
theorem RC:az (n+1) jG [.int a,.int b] H Q Y:=QI (F2 hb kq)
theorem RD:az (n+1) uB [.int a,.int b] H Q Y:=Rd (F2 hb kq)
end
end Mine.L
namespace Mine.L
variable{Y:PQ}
open Mine.P
theorem cM{t:Bool}{A B:Prop}(h1:t=true->A)(h2:t=false->B):bB t A B:=by
 cases t
 ·exact h2 rfl
 ·exact h1 rfl
section
variable{n:Nat}{H:Hp}{Q:PQ}
theorem oG{k:Nat}(q:Q (.int (X.is.getD k 0)) H):az (n+1) jj [.fR,.int k] H Q Y:=Q2 (by
 refine(?_:bB (decide ((k:Int)<((X.is.map V.int).length:Int))) _ _)
 refine cM (λh=>?_) λh=>?_
 ·have hk:k<X.is.length:=by have:=of_decide_eq_true h;rw[length_map] at this;exact ofNat_lt.mp this
  refine(?_:aH (kX (X.is.map V.int) (k:Int)) _)
  refine ay (a:=.int (X.is.getD k 0)) ?_ q
  rw[show kX (X.is.map V.int) (k:Int)=(X.is.map V.int)[k]? from if_pos (natCast_nonneg k),getElem?_map,getElem?_eq_getElem hk,getD_eq_getElem?_getD,getElem?_eq_getElem hk];rfl
 ·have hk:¬k<X.is.length:=λhk=>absurd (of_decide_eq_false h) (not_not_intro (by rw[length_map];exact ofNat_lt.mpr hk))
  rw[getD_eq_getElem?_getD,List.getElem?_eq_none_iff.mpr (Nat.le_of_not_lt hk)] at q
  exact q)
end
end Mine.L
namespace Mine.L
variable{Y:PQ}
open Mine.P
noncomputable abbrev nv(k:Nat):V:=.int (k:Int)
noncomputable abbrev aW(l:List Nat):List V:=l.map nv
structure aE where
 aX:Int
 b6:List Nat
 ad:Option (Int×List Nat)
 bA:Option Int
noncomputable def ib:Option Int->V
 |none=>.none
 |some d=>.int d
noncomputable def kD:Option (Int×List Nat)->V
 |none=>.none
 |some a=>.aC [.int a.1,.aC (aW a.2)]
noncomputable def bL(p:aE):V:=.aC [.int p.aX,.aC (aW p.b6),kD p.ad,ib p.bA]
noncomputable def before(d:Int):Option Int->Bool
 |none=>true
 |some e=>decide (d<e)
noncomputable def dK(p:aE)(d:Int):Bool:=decide (p.aX<=d)&&before d p.bA
noncomputable def gY(p:aE)(d:Int):List Nat:=match p.ad with
 |none=>p.b6
 |some a=>if a.1<=d then a.2 else p.b6
noncomputable def aA(H H':Hp):Prop:=∀(l:Nat) (c:aT),H[l]?=some c->H'[l]?=some c
theorem aA.refl(H:Hp):aA H H:=λZ Z h=>h
theorem aA.trans{H H₁ H₂:Hp}(a:aA H H₁)(b:aA H₁ H₂):aA H H₂:=λl c h=>b l c (a l c h)
theorem cb{H:Hp}{l:Nat}{c:aT}(h:H[l]?=some c):l<H.length:=(List.getElem?_eq_some_iff.mp h).1
theorem be{H:Hp}{l:Nat}{c:aT}(t:List aT)(h:H[l]?=some c):(H++t)[l]?=some c:=(getElem?_append_left (cb h)).trans h
theorem aA.aU(H t:Hp):aA H (H++t):=λl c h=>be t h
theorem bu(H:Hp)(c:aT):(H++[c])[H.length]?=some c:=List.getElem?_concat_length
theorem dZ{H:Hp}{l:Nat}{c:aT}(h:H[l]?=some c)(c':aT):(H.set l c')[l]?=some c':=getElem?_set_self (cb h)
theorem dQ{H:Hp}{l m:Nat}{c:aT}(h:H[l]?=some c)(c':aT)(hn:m≠l):(H.set m c')[l]?=some c:=(getElem?_set_ne hn).trans h
theorem aA.set{H H':Hp}(h:aA H H'){r:Nat}(hr:H.length<=r)(c:aT):aA H (H'.set r c):=λl c' e=>dQ (h l c' e) c λq=>absurd (cb e) (not_lt.mpr (q▸hr))
theorem aA.len{H H':Hp}(h:aA H H'):H.length<=H'.length:=by
 cases e:H.length with
 |zero=>exact zero_le _
 |succ k=>exact cb (h k _ (getElem?_eq_getElem (by rw[e];exact lt_succ_self k)))
section
variable{n:Nat}{H:Hp}{Q:PQ}{l k:Nat}{vs:List V}
theorem bQ{f:Nat}{as:List V}(h:az n f as H Q Y):az n f as H Q Y:=h
theorem cA(h:H[l]?=some (.list vs)):cS H (.ref l)=some vs:=congrArg (Option.bind · pz) h
theorem dg(h:H[l]?=some (.list vs)):keysOf H (.ref l)=some vs:=by
 refine(?_:(match H[l]?.bind gQ with|some es=>_|none=>_)=_)
 rw[h]
 refine(?_:(match H[l]?.bind jl with|some es=>_|none=>kU H (.ref l))=_)
 rw[h]
 exact cA h
theorem RF{α:Type}{l:List α}{a:α}(h:l[k]?=some a):kX l (k:Int)=some a:=(if_pos (natCast_nonneg k)).trans h
theorem jp{v:V}(h:H[l]?=some (.list vs))(hv:vs[k]?=some v):gB (.ref l) (nv k) H=some v:=by
 refine(?_:(match cS H (.ref l) with|some vs=>kX vs (k:Int)|none=>_)=_)
 rw[cA h];exact RF hv
theorem e7{ps:List aE}{p:aE}(h:H[l]?=some (.list (ps.map bL)))(hv:ps[k]?=some p):gB (.ref l) (nv k) H=some (bL p):=jp h (by rw[getElem?_map,hv];rfl)
theorem rM{c:Prop}[Decidable c]{A B:Prop}(h1:c->A)(h2:¬c->B):bB (decide c) A B:=cM (λh=>h1 (of_decide_eq_true h)) λh=>h2 (of_decide_eq_false h)
theorem fL{t:Bool}{A B:Prop}(h1:t=true->A)(h2:t=false->B):bB (t==true) A B:=by
 cases t
 ·exact h2 rfl
 ·exact h1 rfl
theorem jq{t:Bool}{A B:Prop}(h1:t=false->A)(h2:t=true->B):bB (t==false) A B:=by
 cases t
 ·exact h1 rfl
 ·exact h2 rfl
theorem nz{d:Int}{ps:List aE}{p:aE}(hA:H[l]?=some (.list (ps.map bL)))(hp:ps[k]?=some p)(q:Q (.bool (dK p d)) H):az (n+1) iY [.ref l,nv k,.int d] H Q Y:=QB (by
 apply ay (e7 hA hp)
 refine(?_:bB (decide (p.aX<=d)==true) _ _)
 refine fL (λh=>?_) λh=>?_
 ·have q:Q (.bool (decide (p.aX<=d)&&before d p.bA)) H:=q
  rw[h] at q
  cases hd:p.bA with
  |none=>rw[hd] at q;exact q
  |some e=>rw[hd] at q;exact q
 ·have q:Q (.bool (decide (p.aX<=d)&&before d p.bA)) H:=q
  rw[h] at q
  refine(?_:Q (.bool (decide (p.aX<=d))) H)
  rw[h];exact q)
end
end Mine.L
namespace Mine.L
variable{Y:PQ}
open Mine.P PySem
section
variable{ws:List Nat}{H₀:Hp}{t:cX}{K:Out->Prop}{α:Type}{g:α->V}
theorem e8{body:aO->Hp->(Out->Prop)->Prop}(I:List α->aO->Hp->Prop)(step:∀a as ρ H,I (a::as) ρ H->aH (aS t (g a) ρ) λb9=>∀N:aO->Hp->Prop,(∀gE H₁,eZ ws H₀ H₁=true->I as gE H₁->N gE H₁)->body b9 H (n0 K N))(fin:∀ρ H,I [] ρ H->K (.next ρ H)):∀as ρ H,I as ρ H->mX ws H₀ t body (as.map g) ρ H K
 |[],ρ,H,h=>fin ρ H h
 |a::as,ρ,H,h=>vD (step a as ρ H h) λb9 hb=>hb _ λgE H₁ hs hi=>⟨hs,e8 I step fin as gE H₁ hi⟩
theorem pS{test:aO->Hp->(Bool->Hp->Prop)->Prop}{elt:aO->Hp->PQ->Prop}{Q:List V->Hp->Prop}(I:List α->List V->aO->Hp->Prop)(step:∀a as aL ρ H,I (a::as) aL ρ H->aH (aS t (g a) ρ) λb9=>∀N:List V->Hp->Prop,(∀acc' H',eZ ws H₀ H'=true->I as acc' b9 H'->N acc' H')->test b9 H λb H₁=>bB b (elt b9 H₁ λy H₂=>N (aL++[y]) H₂) (N aL H₁))(fin:∀aL ρ H,I [] aL ρ H->Q aL H):∀as aL ρ H,I as aL ρ H->ip ws H₀ t test elt (as.map g) ρ H aL Q
 |[],aL,ρ,H,h=>fin aL ρ H h
 |a::as,aL,ρ,H,h=>vD (step a as aL ρ H h) λb9 hb=>hb (λacc' H'=>eZ ws H₀ H'=true/\ip ws H₀ t test elt (as.map g) b9 H' acc' Q) λacc' H' hs hi=>⟨hs,pS I step fin as acc' b9 H' hi⟩
end
section
variable{n:Nat}{H:Hp}{Q:PQ}{l k:Nat}{vs:List V}
theorem dj{t:Bool}{A:Prop}(e:t=true)(h:A):fu t A:=by rw[e];exact h
theorem du{α:Type}{l:List α}(h:l.length<16000000):mi l=true:=decide_eq_true h
theorem gb{A:Prop}(h:H[l]?=some (.list vs))(a:A):fu ((cS H (.ref l)).isSome) A:=dj (congrArg isSome (cA h)) a
theorem gc{v:V}(h:H[l]?=some (.list vs))(hs:vs.length<16000000)(q:Q .none (H.set l (.list (vs++[v])))):pH .append (.ref l) [v] H Q:=ay (cA h) (dj (du hs) q)
theorem oH{m:Nat}{f:List V->Prop}(h:m<1000000)(k:f ((List.range m).map nv)):xl (.int 0) (.int m) f:=by
 refine⟨⟨by decide,lt_trans (show(m:Int).natAbs<1000000 from h) (by decide)⟩,?_⟩
 have e:pG 0 m=(List.range m).map nv:=by
  unfold pG
  rw[Int.sub_zero]
  exact map_congr_left λi Z=>congrArg V.int (Int.zero_add _)
 rw[e];exact k
theorem cV{H':Hp}{c:aT}(h:H[l]?=some c)(h':H'[l]?=some c):eZ [l] H H'=true:=by
 refine(?_:(decide (H'[l]?=H[l]?)&&true)=true)
 rw[h,h',decide_eq_true rfl];rfl
theorem pT(i:Int):∀m,rd H m (.int i)=some (.int i)
 |0=>rfl
 |_+1=>rfl
theorem rN(m:Nat):∀ls:List Nat,eY (rd H m) (aW ls)=some (ls.map λi=>.int i)
 |[]=>rfl
 |a::r=>by
  refine(?_:(match rd H m (nv a),eY (rd H m) (aW r) with|some d,some ds=>some (d::ds)|_,_=>none)=_)
  rw[pT,rN m r];rfl
theorem F5(k:Nat):∀ls:List Nat,((ls.map λi:Nat=>PyData.int i).any λe=>PyData.eqv e (.int k))=decide (k∈ls)
 |[]=>rfl
 |a::r=>by
  rw[map_cons,any_cons,F5 k r]
  refine(?_:(((a:Int)==(k:Int))||decide (k∈r))=_)
  by_cases h:k=a
  ·rw[h,beq_self_eq_true];exact(decide_eq_true (mem_cons_self)).symm
  ·rw[show((a:Int)==(k:Int))=false from beq_eq_false_iff_ne.mpr λe=>h (ofNat.inj e).symm,Bool.false_or]
   exact decide_eq_decide.mpr ⟨λm=>.tail _ m,λm=>(mem_cons.mp m).resolve_left h⟩
theorem F6{ls:List Nat}:pF H (nv k) (.aC (aW ls))=some (decide (k∈ls)):=by
 refine(?_:((eY (rd H 10) (aW ls)).bind λds=>some (ds.any λe=>PyData.eqv e (.int k)))=_)
 rw[rN]
 exact congrArg some (F5 k ls)
theorem F7{ls:List Nat}(h:H[l]?=some (.list (aW ls))):pF H (nv k) (.ref l)=some (decide (k∈ls)):=by
 refine(?_:(match H[l]?.bind gQ with|some es=>_|none=>_)=_)
 rw[h]
 refine(?_:(match H[l]?.bind jl with|some es=>_|none=>(cS H (.ref l)).bind _)=_)
 rw[h,cA h]
 exact F6 (ls:=ls)
theorem nA{α:Type}{aL:List α}{a:α}{r tot:List α}{B:Nat}(e:aL++(a::r)=tot)(h:tot.length<=B):aL.length<B:=by
 rw[<-e,length_append,length_cons] at h;lia
theorem gd{α:Type}{aL:List α}{a:α}{r tot:List α}(e:aL++(a::r)=tot):(aL++[a])++r=tot:=by rw[append_assoc];exact e
theorem AS{d:Int}{ps:List aE}{p:aE}(hA:H[l]?=some (.list (ps.map bL)))(hp:ps[k]?=some p)(q:Q (.aC (aW (gY p d))) H):az (n+1) ux [.ref l,nv k,.int d] H Q Y:=QC (by
 apply ay (e7 hA hp)
 have q:Q (.aC (aW (match p.ad with|none=>p.b6|some a=>if a.1<=d then a.2 else p.b6))) H:=q
 unfold bL
 cases ha:p.ad with
 |none=>rw[ha] at q;exact q
 |some a=>
  rw[ha] at q
  refine(?_:bB (decide (a.1<=d)) _ _)
  exact rM (λh=>by rw[show(match(some a:Option (Int×List Nat)) with|none=>p.b6|some a=>if a.1<=d then a.2 else p.b6)=a.2 from if_pos h] at q;exact q) λh=>by rw[show(match(some a:Option (Int×List Nat)) with|none=>p.b6|some a=>if a.1<=d then a.2 else p.b6)=p.b6 from if_neg h] at q;exact q)
noncomputable def lD(ps:List aE)(d:Int)(k c:Nat):Bool:=match ps[c]? with
 |some q=>decide (q.aX<=d)&&decide (k∈gY q d)
 |none=>false
noncomputable def kids(ps:List aE)(d:Int)(k:Nat):List Nat:=(List.range ps.length).filter (lD ps d k)
noncomputable def AU(ps:List aE)(d:Int)(k l:Nat)(H:Hp)(as:List Nat)(ρ:aO)(H':Hp):Prop:=∀ChIζ:Prop,(∀(aL:List Nat) (o:Option V) (e:ρ=[some (.ref l),some (nv k),some (.int d),some (.ref H.length),o]) (x:aA H H') (a:H'[H.length]?=some (.list (aW aL))) (t:aL++as.filter (lD ps d k)=kids ps d k) (b:∀c∈as,c<ps.length),ChIζ)->ChIζ
theorem AU.mk{ps:List aE}{d:Int}{k l:Nat}{H:Hp}{as:List Nat}{ρ:aO}{H':Hp}(aL:List Nat)(o:Option V)(e:ρ=[some (.ref l),some (nv k),some (.int d),some (.ref H.length),o])(x:aA H H')(a:H'[H.length]?=some (.list (aW aL)))(t:aL++as.filter (lD ps d k)=kids ps d k)(b:∀c∈as,c<ps.length):AU ps d k l H as ρ H':=λZ bY=>bY aL o e x a t b
theorem rO(l:List Nat)(c:Nat):aW l++[nv c]=aW (l++[c]):=(map_append (l₁:=l) (l₂:=[c])).symm
theorem at_of{α:Type}{l:List α}{k:Nat}(h:k<l.length):∃a,l[k]?=some a:=⟨_,getElem?_eq_getElem h⟩
theorem pU(ps:List aE)(d:Int)(k:Nat):(kids ps d k).length<=ps.length:=le_trans (length_filter_le _ _) (le_of_eq length_range)
noncomputable abbrev RG(f:Nat):List S:=
 [.aS (.J 3) (.bX []),
  .for (.J 4) (.range (.k (.int 0)) (.bi .len [.J 0]))
  [.bz (.and [(.cmp .le (.aM (.aM (.J 0) (.J 4)) (.k (.int 0))) (.J 2)),(.cmp .j8 (.J 1) (.call f [.J 0,.J 4,.J 2]))])
   [.expr (.c8 .append (.J 3) [.J 4])]
   []],
  .ret (.J 3)]
theorem RH{f:Nat}{d:Int}{ps:List aE}(hf:∀{H:Hp} {Q Y:PQ} {c:Nat} {p:aE},H[l]?=some (.list (ps.map bL))->ps[c]?=some p->Q (.aC (aW (gY p d))) H->az (n+1) f [.ref l,nv c,.int d] H Q Y)(hA:H[l]?=some (.list (ps.map bL)))(hl:ps.length<=20)(q:∀lc H',H.length<=lc->aA H H'->H'[lc]?=some (.list (aW (kids ps d k)))->Q (.ref lc) H'):aN ⟨az (n+1),Y⟩ (RG f) [some (.ref l),some (nv k),some (.int d),none,none] H (bH Q):=by
 apply ay (cA (be [.list []] hA))
 rw[length_map]
 refine oH (lt_of_le_of_lt hl (by decide)) (e8 (AU ps d k l H) (λc as ρ H' h=>?_) (λρ H' h=>?_) _ _ _ (.mk [] none rfl (aA.aU _ _) (bu _ _) rfl (λc hc=>mem_range.mp hc)))
 ·refine h _ λaL o e x a t b=>?_
  subst e
  refine λN hN=>?_
  refine(at_of (b c mem_cons_self)).elim λp hc=>?_
  apply ay (e7 (x l _ hA) hc)
  have ht:aL++(if lD ps d k c then c::as.filter (lD ps d k) else as.filter (lD ps d k))=kids ps d k:=by rw[<-filter_cons];exact t
  rw[show lD ps d k c=(decide (p.aX<=d)&&decide (k∈gY p d)) by unfold lD;rw[hc]] at ht
  have no:∀o,(decide (p.aX<=d)&&decide (k∈gY p d))=false->N [some (.ref l),some (nv k),some (.int d),some (.ref H.length),o] H':=λo e=>hN _ _ rfl (.mk aL o rfl x a (by rw[e] at ht;exact ht) (λc hc=>b c (.tail _ hc)))
  refine(?_:bB (decide (p.aX<=d)==true) _ _)
  refine fL (λh1=>?_) λh1=>?_
  ·refine bQ (hf (x l _ hA) hc ?_)
   apply ay (F6)
   refine cM (λh2=>?_) λh2=>no _ (by rw[h2,Bool.and_false])
   rw[h1,h2] at ht
   exact gb a (gc a (by rw[length_map];exact nA ht (le_trans (pU ps d k) (le_trans hl (by decide)))) (hN _ _ rfl (.mk (aL++[c]) _ rfl (x.set (le_refl _) _) (by rw[<-rO];exact dZ a _) (gd ht) (λc hc=>b c (.tail _ hc)))))
  ·refine(?_:bB (decide (p.aX<=d)) _ _)
   exact cM (λh2=>absurd (h1.symm.trans h2) Bool.false_ne_true) λZ=>no _ (by rw[h1,Bool.false_and])
 ·refine h _ λaL o e x a t b=>?_
  subst e
  rw[filter_nil,append_nil] at t
  exact q _ _ (le_refl _) x (t▸a)
theorem vE{d:Int}{ps:List aE}(hA:H[l]?=some (.list (ps.map bL)))(hl:ps.length<=20)(q:∀lc H',H.length<=lc->aA H H'->H'[lc]?=some (.list (aW (kids ps d k)))->Q (.ref lc) H'):az (n+2) qz [.ref l,nv k,.int d] H Q Y:=QD (RH (λa b q=>AS a b q) hA hl q)
end
end Mine.L
namespace Mine.L
variable{Y:PQ}
open Mine.P PySem
noncomputable def fk(ps:List aE)(b:Int):Nat:=ps.countP λq=>decide (b<q.aX)
theorem RI{b b':Int}(h:b<=b')(ps:List aE):fk ps b'<=fk ps b:=List.countP_mono_left λq Z hq=>decide_eq_true (Int.lt_of_le_of_lt h (of_decide_eq_true hq))
theorem AV{b:Int}{q:aE}(hb:b<q.aX):∀{ps:List aE},q∈ps->fk ps q.aX<fk ps b
 |p::r,h=>by
  refine(?_:countP _ (p::r)<countP _ (p::r))
  rw[countP_cons,countP_cons]
  rcases mem_cons.mp h with e|h
  ·rw[<-e,decide_eq_false (Int.lt_irrefl _),decide_eq_true hb]
   exact lt_succ_of_le (RI (Int.le_of_lt hb) r)
  ·refine Nat.add_lt_add_of_lt_of_le (AV hb h) ?_
   by_cases h1:q.aX<p.aX
   ·rw[decide_eq_true h1,decide_eq_true (Int.lt_trans hb h1)];exact le_refl _
   ·rw[decide_eq_false h1];exact zero_le _
theorem vF{ps:List aE}{q:aE}(h:q∈ps):fk ps q.aX<ps.length:=lt_of_lt_of_le (AV (b:=q.aX - 1) (Int.sub_lt_self _ (by decide)) h) List.countP_le_length
noncomputable def gG(ps:List aE)(b:Int)(j:Nat):Prop:=∃q,ps[j]?=some q/\q.aX<b
noncomputable def ic(l:List Nat):Prop:=l.length<=2/\l.Nodup
noncomputable def pV(ps:List aE)(p:aE):Prop:=∀WfOneζ:Prop,(∀(a:∀j∈p.b6,gG ps p.aX j) (b:∀x,p.ad=some x->∀j∈x.2,gG ps p.aX j) (c:ic p.b6) (d:∀x,p.ad=some x->ic x.2) (z:0<=p.aX),WfOneζ)->WfOneζ
theorem pV.mk{ps:List aE}{p:aE}(a:∀j∈p.b6,gG ps p.aX j)(b:∀x,p.ad=some x->∀j∈x.2,gG ps p.aX j)(c:ic p.b6)(d:∀x,p.ad=some x->ic x.2)(z:0<=p.aX):pV ps p:=λZ bY=>bY a b c d z
noncomputable def dE(ps:List aE):Prop:=∀(k:Nat) p,ps[k]?=some p->pV ps p
theorem F8{ps:List aE}{p:aE}{P:List Nat->Prop}(h1:P p.b6)(h2:∀x,p.ad=some x->P x.2)(d:Int):P (gY p d):=by
 unfold gY
 cases h:p.ad with
 |none=>exact h1
 |some a=>
  refine(?_:P (if a.1<=d then a.2 else p.b6))
  split
  ·exact h2 a h
  ·exact h1
theorem vG{ps:List aE}(hW:dE ps){k:Nat}{p:aE}(hp:ps[k]?=some p)(d:Int):∀j∈gY p d,gG ps p.aX j:=(hW k p hp) _ λa b Z Z Z=>F8 (ps:=ps) (P:=λl=>∀j∈l,gG ps p.aX j) a b d
theorem RJ{ps:List aE}(hW:dE ps){k:Nat}{p:aE}(hp:ps[k]?=some p)(d:Int):ic (gY p d):=(hW k p hp) _ λZ Z a b Z=>F8 (ps:=ps) (P:=ic) a b d
theorem F9{ps:List aE}(hW:dE ps){k:Nat}{p:aE}(hp:ps[k]?=some p)(d:Int):(gY p d).length<=2:=(RJ hW hp d).1
theorem Ga{ps:List aE}{d:Int}{k c:Nat}{M:Prop}(h:lD ps d k c=true)(f:∀q,ps[c]?=some q->k∈gY q d->M):M:=by
 unfold lD at h
 cases hq:ps[c]? with
 |none=>rw[hq] at h;exact absurd h Bool.false_ne_true
 |some q=>rw[hq] at h;exact f q hq (of_decide_eq_true (and_eq_true_iff.mp h).2)
theorem tY{ps:List aE}(hW:dE ps){d:Int}{k c:Nat}{p:aE}(hp:ps[k]?=some p){M:Prop}(h:c∈kids ps d k)(f:∀q,ps[c]?=some q->p.aX<q.aX->fk ps q.aX<fk ps p.aX->M):M:=
 Ga (mem_filter.mp h).2 λq hq hm=>(vG hW hq d k hm).elim λq2 h2=>by
  rw[hp] at h2
  obtain⟨e,cU⟩:=h2
  cases e
  exact f q hq cU (AV cU (mem_of_getElem? hq))
noncomputable def lv(ps:List aE)(d:Int)(k:Nat):Bool:=match ps[k]? with
 |some p=>dK p d
 |none=>false
theorem gR{ps:List aE}{d:Int}{k:Nat}{p:aE}(h:ps[k]?=some p):lv ps d k=dK p d:=by unfold lv;rw[h]
noncomputable def gH(ps:List aE)(d:Int):Nat->Nat->Bool
 |0,_=>false
 |f+1,k=>lv ps d k||(kids ps d k).any (gH ps d f)
noncomputable def AW(ps:List aE)(d:Int)(f k l lc:Nat)(H:Hp)(as:List Nat)(ρ:aO)(H':Hp):Prop:=∀LnIζ:Prop,(∀(o:Option V) (e:ρ=[some (.ref l),some (nv k),some (.int d),o]) (x:aA H H') (a:H'[lc]?=some (.list (aW (kids ps d k)))) (t:as.any (gH ps d f)=gH ps d (f+1) k) (b:∀c∈as,c∈kids ps d k),LnIζ)->LnIζ
theorem AW.mk{ps:List aE}{d:Int}{f k l lc:Nat}{H:Hp}{as:List Nat}{ρ:aO}{H':Hp}(o:Option V)(e:ρ=[some (.ref l),some (nv k),some (.int d),o])(x:aA H H')(a:H'[lc]?=some (.list (aW (kids ps d k))))(t:as.any (gH ps d f)=gH ps d (f+1) k)(b:∀c∈as,c∈kids ps d k):AW ps d f k l lc H as ρ H':=λZ bY=>bY o e x a t b
section
variable{Q:PQ}{l:Nat}
theorem AX{d:Int}{ps:List aE}(hW:dE ps)(hl:ps.length<=20){n:Nat}:∀{f k:Nat} {p:aE} {H:Hp} {Q Y:PQ},H[l]?=some (.list (ps.map bL))->ps[k]?=some p->fk ps p.aX<f->(∀H',aA H H'->Q (.bool (gH ps d f k)) H')->az (n+f+2) qA [.ref l,nv k,.int d] H Q Y
 |0,k,p,H,Q,Y,_,_,hf,_=>absurd hf (not_lt_zero _)
 |f+1,k,p,H,Q,Y,hA,hp,hf,q=>QE (by
  have e0:gH ps d (f+1) k=(dK p d||(kids ps d k).any (gH ps d f)):=by rw[<-gR hp];rfl
  refine bQ (nz hA hp ?_)
  refine(?_:bB (dK p d) _ _)
  refine cM (λh=>?_) λh=>?_
  ·rw[h] at e0
   have:=q H (aA.refl H)
   rw[e0] at this
   exact this
  ·rw[h] at e0
   refine bQ (vE (n:=n+f) hA hl λlc H₁ Z x hc=>?_)
   apply ay (dg hc)
   refine e8 (AW ps d f k l lc H) (λc as ρ H' h=>?_) (λρ H' h=>?_) _ _ _ (.mk _ rfl x hc e0.symm (λc h=>h))
   ·refine h _ λo e x' a t b=>?_
    subst e
    refine λN hN=>?_
    refine tY hW hp (b c mem_cons_self) λp' cB Z hy=>?_
    rw[any_cons] at t
    refine bQ (AX hW hl (x' l _ hA) cB (lt_of_lt_of_le hy (le_of_lt_succ hf)) λH₂ b7=>?_)
    refine(?_:bB (gH ps d f c) _ _)
    refine cM (λh2=>?_) λh2=>?_
    ·rw[h2] at t
     have:=q H₂ (x'.trans b7)
     rw[<-t] at this
     exact this
    ·rw[h2] at t
     exact hN _ _ (cV hc (b7 _ _ a)) (.mk _ rfl (x'.trans b7) (b7 _ _ a) t (λc hc=>b c (.tail _ hc)))
   ·refine h _ λo e x' a t b=>?_
    subst e
    have:=q H' x'
    rw[<-t] at this
    exact this)
end
end Mine.L
namespace Mine.L
variable{Y:PQ}
open Mine.P PySem
noncomputable def rv(x:Rat):V:=.aC [.int x.num,.int (x.den:Int)]
noncomputable def Sm(b:Nat)(x:Rat):Prop:=x.num.natAbs<2^b/\x.den<2^b
theorem Gb{a:Int}{d:Nat}(hd:d≠0):rv (Rat.normalize a d hd)=.aC [.int (a.fdiv (gcd a d)),.int ((d:Int).fdiv (gcd a d))]:=by
 rw[Rat.normalize_eq,Int.fdiv_eq_ediv_of_nonneg _ (natCast_nonneg _),Int.fdiv_eq_ediv_of_nonneg _ (natCast_nonneg _)]
 rfl
theorem Sm.pW{b:Nat}{a:Int}{d:Nat}(hd:d≠0)(ha:a.natAbs<2^b)(h:d<2^b):Sm b (Rat.normalize a d hd):=by
 rw[Rat.normalize_eq]
 exact⟨lt_of_le_of_lt (Int.natAbs_ediv_le_natAbs _ _) ha,lt_of_le_of_lt (Nat.div_le_self _ _) h⟩
theorem pX{a b i j:Nat}(ha:a<2^i)(hb:b<2^j):a*b<2^(i+j):=by
 rw[Nat.pow_add]
 exact Nat.mul_lt_mul_of_lt_of_le ha (le_of_lt hb) (Nat.two_pow_pos j)
theorem Sm.le{b c:Nat}{x:Rat}(h:Sm b x)(e:b<=c):Sm c x:=⟨lt_of_lt_of_le h.1 (pow_le_pow_right (by decide) e),lt_of_lt_of_le h.2 (pow_le_pow_right (by decide) e)⟩
theorem Sm.mul{i j:Nat}{x y:Rat}(hx:Sm i x)(hy:Sm j y):Sm (i+j) (x*y):=by
 rw[Rat.mul_def]
 exact Sm.pW _ (by rw[natAbs_mul];exact pX hx.1 hy.1) (pX hx.2 hy.2)
theorem Gc{a b i:Nat}(ha:a<2^i)(hb:b<2^i):a+b<2^(i+1):=by rw[Nat.pow_succ,Nat.mul_two];exact Nat.add_lt_add ha hb
theorem Sm.sub{i j:Nat}{x y:Rat}(hx:Sm i x)(hy:Sm j y):Sm (i+j+1) (x - y):=by
 rw[Rat.sub_def]
 refine Sm.pW _ (lt_of_le_of_lt (Int.natAbs_sub_le _ _) ?_) (lt_of_lt_of_le (pX hx.2 hy.2) (pow_le_pow_right (by decide) (le_succ _)))
 rw[natAbs_mul,natAbs_mul]
 exact Gc (pX hx.1 hy.2) (by rw[add_comm];exact pX hy.1 hx.2)
theorem Gd{a:Int}{i:Nat}(h:a.natAbs<2^i):Builtin.Int.intBits a<=i:=by
 unfold Builtin.Int.intBits
 split
 ·exact zero_le _
 ·rename_i h0
  exact(Nat.log2_lt λe=>h0 (by rw[Int.natAbs_eq_zero.mp e];rfl)).mpr h
theorem i8{a b:Int}{i j:Nat}(ha:a.natAbs<2^i)(hb:b.natAbs<2^j)(h:i+j<=1000000):binI .mul a b=some (a*b):=by
 refine if_pos ?_
 have e:Builtin.Int.intTooBig (Builtin.Int.intBits a+Builtin.Int.intBits b)=false:=decide_eq_false λq=>absurd (le_trans (add_le_add (Gd ha) (Gd hb)) h) (Nat.not_le.mpr (lt_of_le_of_lt (by decide:1000000<=bitsLine) (ofNat_lt.mp q)))
 unfold zR
 rw[e,Bool.and_false];rfl
section
variable{n:Nat}{H:Hp}{Q:PQ}{a:Int}{d:Nat}
theorem oI(hd:d≠0)(k:Q (rv (Rat.normalize a d hd)) H):az (n+1) jG [.int a,nv d] H Q Y:=RC (ofNat_lt.mpr (Nat.pos_of_ne_zero hd)) (Gb hd▸k)
theorem RK(hd:d≠0)(k:Q (rv (Rat.normalize a d hd)) H):az (n+1) uB [.int a,nv d] H Q Y:=RD (ofNat_lt.mpr (Nat.pos_of_ne_zero hd)) (Gb hd▸k)
section
variable{x y:Rat}{i j:Nat}(hx:Sm i x)(hy:Sm j y)(h:i+j<=1000000)
include hx hy h
theorem vH(k:Q (rv (x*y)) H):az (n+2) qB [rv x,rv y] H Q Y:=QL (by
 apply ay (i8 hx.1 hy.1 h)
 apply ay (i8 (a:=(x.den:Int)) (b:=(y.den:Int)) hx.2 hy.2 h)
 rw[Rat.mul_def] at k
 exact bQ (oI _ k))
theorem AY(k:Q (rv (x+y)) H):az (n+2) sT [rv x,rv y] H Q Y:=QJ (by
 apply ay (i8 (b:=(y.den:Int)) hx.1 hy.2 h)
 apply ay (i8 (b:=(x.den:Int)) hy.1 hx.2 (by rw[add_comm];exact h))
 apply ay (i8 (a:=(x.den:Int)) (b:=(y.den:Int)) hx.2 hy.2 h)
 rw[Rat.add_def] at k
 exact bQ (oI _ k))
theorem Ge(k:Q (rv (x - y)) H):az (n+2) wH [rv x,rv y] H Q Y:=QK (by
 apply ay (i8 (b:=(y.den:Int)) hx.1 hy.2 h)
 apply ay (i8 (b:=(x.den:Int)) hy.1 hx.2 (by rw[add_comm];exact h))
 apply ay (i8 (a:=(x.den:Int)) (b:=(y.den:Int)) hx.2 hy.2 h)
 rw[Rat.sub_def] at k
 exact bQ (oI _ k))
end
theorem AZ{m:Nat}(hm:m≠0)(hb:m<2^5)(k:Q (rv (mkRat 1 m)) H):az (n+2) uy [.aC [.int 1,.int 1],nv m] H Q Y:=QM (by
 have e:∀m',m'=m->∀h,Q (rv (Rat.normalize 1 m' h)) H:=by intro m' e h;rw[Rat.normalize_eq_mkRat,e];exact k
 exact bQ (oI (d:=1*m) (by rw[one_mul];exact hm) (e _ (one_mul m) _)))
theorem Sm.inv{m:Nat}(hm:m≠0)(hb:m<2^5):Sm 5 (mkRat 1 m):=by rw[<-Rat.normalize_eq_mkRat hm];exact Sm.pW hm (by decide) hb
end
end Mine.L
namespace Mine.L
variable{Y:PQ}
open Mine.P PySem
noncomputable def bj(r:Nat)(H H':Hp):Prop:=∀(l:Nat) (c:aT),l≠r->H[l]?=some c->H'[l]?=some c
theorem bj.refl(r:Nat)(H:Hp):bj r H H:=λZ Z Z h=>h
theorem bj.trans{r:Nat}{H H₁ H₂:Hp}(a:bj r H H₁)(b:bj r H₁ H₂):bj r H H₂:=λl c n h=>b l c n (a l c n h)
theorem aA.b{H H':Hp}(h:aA H H')(r:Nat):bj r H H':=λl c Z e=>h l c e
theorem bj.aU(r:Nat)(H t:Hp):bj r H (H++t):=(aA.aU H t).b r
theorem bj.set(r:Nat)(H:Hp)(c:aT):bj r H (H.set r c):=λl c' n h=>dQ h c λe=>n e.symm
theorem bj.ext{r:Nat}{H H₁ H':Hp}(h:bj r H₁ H')(x:aA H H₁)(hr:H.length<=r):aA H H':=λl c e=>h l c (λq=>absurd (cb e) (not_lt.mpr (q▸hr))) (x l c e)
inductive bP{α β:Type}(R:α->β->Prop):List α->List β->Prop
 |nil:bP R [] []
 |cons {a:α} {v:β} {as:List α} {vs:List β}:R a v->bP R as vs->bP R (a::as) (v::vs)
theorem bP.imp{α β:Type}{R R':α->β->Prop}{as:List α}{vs:List β}(h:bP R as vs)(f:∀a v,R a v->R' a v):bP R' as vs:=h.rec (motive:=λas vs Z=>bP R' as vs) .nil λr Z ih=>.cons (f _ _ r) ih
theorem bP.imp'{α β:Type}{R R':α->β->Prop}{as:List α}{vs:List β}(h:bP R as vs):(∀a v,a∈as->R a v->R' a v)->bP R' as vs:=h.rec (motive:=λas vs Z=>(∀a v,a∈as->R a v->R' a v)->bP R' as vs) (λZ=>.nil) λr Z ih f=>.cons (f _ _ mem_cons_self r) (ih λa v m=>f a v (.tail _ m))
theorem bP.snoc{α β:Type}{R:α->β->Prop}{as:List α}{vs:List β}(h:bP R as vs){a:α}{v:β}(r:R a v):bP R (as++[a]) (vs++[v]):=h.rec (motive:=λas vs Z=>bP R (as++[a]) (vs++[v])) (.cons r .nil) λr Z ih=>.cons r ih
theorem bP.len{α β:Type}{R:α->β->Prop}{as:List α}{vs:List β}(h:bP R as vs):vs.length=as.length:=by
 induction h with
 |nil=>rfl
 |cons _ _ ih=>exact congrArg Nat.succ ih
section
variable{ws:List Nat}{H₀:Hp}{t:cX}{K:Out->Prop}{α:Type}{R:α->V->Prop}
theorem vI{body:aO->Hp->(Out->Prop)->Prop}(I:List α->aO->Hp->Prop)(step:∀a v as ρ H,R a v->I (a::as) ρ H->aH (aS t v ρ) λb9=>∀N:aO->Hp->Prop,(∀gE H₁,eZ ws H₀ H₁=true->I as gE H₁->N gE H₁)->body b9 H (n0 K N))(fin:∀ρ H,I [] ρ H->K (.next ρ H)){as:List α}{vs:List V}(h:bP R as vs):∀ρ H,I as ρ H->mX ws H₀ t body vs ρ H K:=
 h.rec (motive:=λas vs Z=>∀ρ H,I as ρ H->mX ws H₀ t body vs ρ H K) fin λr Z ih ρ H h=>vD (step _ _ _ ρ H r h) λb9 hb=>hb _ λgE H₁ hs hi=>⟨hs,ih gE H₁ hi⟩
end
structure Row where
 gI:Nat
 lE:Rat
 line:List Nat
noncomputable def kE(b:Nat)(H:Hp)(r:Row)(v:V):Prop:=∀RowAtζ:Prop,(∀(l:Nat) (hb:b<=l) (e:v=.aC [nv r.gI,rv r.lE,.ref l]) (a:H[l]?=some (.list (aW r.line))),RowAtζ)->RowAtζ
theorem kE.mk{b:Nat}{H:Hp}{r:Row}{v:V}(l:Nat)(hb:b<=l)(e:v=.aC [nv r.gI,rv r.lE,.ref l])(a:H[l]?=some (.list (aW r.line))):kE b H r v:=λZ bY=>bY l hb e a
theorem kE.mono{b b':Nat}{H H':Hp}{r:Row}{v:V}(h:kE b H r v)(f:∀(l:Nat) c,b<=l->H[l]?=some c->b'<=l/\H'[l]?=some c):kE b' H' r v:=h _ λl hb e a=>(.mk l ((f l _ hb a).1) e ((f l _ hb a).2))
noncomputable abbrev iA(b:Nat)(H:Hp):List Row->List V->Prop:=bP (kE b H)
theorem iA.b{r:Nat}{H H':Hp}{rs:List Row}{vs:List V}(h:iA (r+1) H rs vs)(x:bj r H H'):iA (r+1) H' rs vs:=h.imp λZ Z h=>h.mono λl c hb e=>⟨hb,x l c (ne_of_gt hb) e⟩
noncomputable def iB(ps:List aE)(d:Int)(cs:List Nat):List Nat:=cs.filter (gH ps d 20)
noncomputable def up(k:Nat)(s:Rat)(r:Row):Row:=⟨r.gI,s*r.lE,k::r.line⟩
noncomputable def rowsOf(ps:List aE)(d:Int)(rec:Nat->List Row)(k:Nat)(s:Rat)(c:Nat):List Row:=if lv ps d c then[⟨c,s,[k,c]⟩] else(rec c).map (up k s)
noncomputable def ie(ps:List aE)(d:Int)(rec:Nat->List Row)(k:Nat)(ts:List Nat):List Row:=ts.flatMap (rowsOf ps d rec k (mkRat 1 ts.length))
noncomputable def iK(ps:List aE)(d:Int):Nat->Nat->List Row
 |0,_=>[]
 |f+1,k=>ie ps d (iK ps d f) k (iB ps d (kids ps d k))
noncomputable def yo(H:Hp)(rs:List Row)(Q:PQ):Prop:=∀lr vs H',H.length<=lr->aA H H'->H'[lr]?=some (.list vs)->iA (lr+1) H' rs vs->Q (.ref lr) H'
noncomputable def A0(ps:List aE)(d:Int)(eF:aO)(H:Hp)(cs as:List Nat)(aL:List V)(ρ:aO)(H':Hp):Prop:=∀TkIζ:Prop,(∀(o:Option V) (an:List Nat) (e:ρ=o::eF) (x:aA H H') (ea:aL=aW an) (t:an++iB ps d as=iB ps d cs) (b:∀c∈as,c∈cs),TkIζ)->TkIζ
theorem A0.mk{ps:List aE}{d:Int}{eF:aO}{H:Hp}{cs as:List Nat}{aL:List V}{ρ:aO}{H':Hp}(o:Option V)(an:List Nat)(e:ρ=o::eF)(x:aA H H')(ea:aL=aW an)(t:an++iB ps d as=iB ps d cs)(b:∀c∈as,c∈cs):A0 ps d eF H cs as aL ρ H':=λZ bY=>bY o an e x ea t b
noncomputable def A1(ps:List aE)(d:Int)(rec:Nat->List Row)(l k lc lt lr:Nat)(H₁:Hp)(s:Rat)(tot:List Row)(ts as:List Nat)(ρ:aO)(H':Hp):Prop:=∀LtIζ:Prop,(∀(a6 a7 a8 a9 gn:Option V) (rs:List Row) (vs:List V) (e:ρ=[some (.ref l),some (nv k),some (.ref lc),some (.int d),some (.ref lt),some (.ref lr),a6,a7,a8,a9,gn]) (x:bj lr H₁ H') (a:H'[lr]?=some (.list vs)) (r:iA (lr+1) H' rs vs) (t:rs++as.flatMap (rowsOf ps d rec k s)=tot) (b:∀c∈as,c∈ts),LtIζ)->LtIζ
theorem A1.mk{ps:List aE}{d:Int}{rec:Nat->List Row}{l k lc lt lr:Nat}{H₁:Hp}{s:Rat}{tot:List Row}{ts as:List Nat}{ρ:aO}{H':Hp}(a6 a7 a8 a9 gn:Option V)(rs:List Row)(vs:List V)(e:ρ=[some (.ref l),some (nv k),some (.ref lc),some (.int d),some (.ref lt),some (.ref lr),a6,a7,a8,a9,gn])(x:bj lr H₁ H')(a:H'[lr]?=some (.list vs))(r:iA (lr+1) H' rs vs)(t:rs++as.flatMap (rowsOf ps d rec k s)=tot)(b:∀c∈as,c∈ts):A1 ps d rec l k lc lt lr H₁ s tot ts as ρ H':=λZ bY=>bY a6 a7 a8 a9 gn rs vs e x a r t b
noncomputable def yq(l k lr:Nat)(x2 x3 x4 x5 x6:Option V)(H₁:Hp)(s:Rat)(tot rest:List Row)(as:List Row)(ρ:aO)(H':Hp):Prop:=∀LuIζ:Prop,(∀(a8 a9 gn:Option V) (rs:List Row) (vs:List V) (e:ρ=[some (.ref l),some (nv k),x2,x3,x4,x5,x6,some (rv s),a8,a9,gn]) (x:bj lr H₁ H') (a:H'[lr]?=some (.list vs)) (r:iA (lr+1) H' rs vs) (t:rs++(as.map (up k s)++rest)=tot),LuIζ)->LuIζ
theorem yq.mk{l k lr:Nat}{x2 x3 x4 x5 x6:Option V}{H₁:Hp}{s:Rat}{tot rest:List Row}{as:List Row}{ρ:aO}{H':Hp}(a8 a9 gn:Option V)(rs:List Row)(vs:List V)(e:ρ=[some (.ref l),some (nv k),x2,x3,x4,x5,x6,some (rv s),a8,a9,gn])(x:bj lr H₁ H')(a:H'[lr]?=some (.list vs))(r:iA (lr+1) H' rs vs)(t:rs++(as.map (up k s)++rest)=tot):yq l k lr x2 x3 x4 x5 x6 H₁ s tot rest as ρ H':=λZ bY=>bY a8 a9 gn rs vs e x a r t
end Mine.L
namespace Mine.L
variable{Y:PQ}
open Mine.P PySem
section
variable{n:Nat}{l lc k:Nat}{H:Hp}{Q:PQ}
theorem mu{a b:Nat}{xs ys:List V}(ha:H[a]?=some (.list xs))(hb:H[b]?=some (.list ys))(hs:(xs++ys).length<16000000)(q:Q (.ref H.length) (H++[.list (xs++ys)])):u2 .add (.ref a) (.ref b) H Q:=by
 exact ay (cA ha) (ay (cA hb) (dj (du hs) q))
noncomputable def kG(f:Nat)(r:Row):Prop:=Sm (5*f) r.lE/\r.line.length<=f+1
theorem Gf{d:Int}{ps:List aE}(hW:dE ps)(hl:ps.length<=20){rec:Nat->List Row}{cs:List Nat}(iy:cs.length<=20)(tR:∀c∈cs,∃p,ps[c]?=some p)(hr:∀c∈cs,∀r∈rec c,kG 21 r)(ht:(ie ps d rec k (iB ps d cs)).length<=16000000)
  (IH:∀c∈cs,∀(H:Hp) (Q Y:PQ),H[l]?=some (.list (ps.map bL))->yo H (rec c) Q->az (n+23) sU [.ref l,nv c,.int d] H Q Y)
  (hA:H[l]?=some (.list (ps.map bL))) (hC:H[lc]?=some (.list (aW cs))) (q:yo H (ie ps d rec k (iB ps d cs)) Q):az (n+24) wI [.ref l,nv k,.ref lc,.int d] H Q Y:=QN (by
 apply ay (dg hC)
 refine dj (du (by rw[length_map];exact lt_of_le_of_lt iy (by decide))) ?_
 refine pS (A0 ps d [some (.ref l),some (nv k),some (.ref lc),some (.int d),none,none,none,none,none,none,none] H cs) (λc as aL ρ H' h=>?_) (λaL ρ H' h=>?_) _ _ _ _ (.mk none [] rfl (aA.refl H) rfl rfl (λc h=>h))
 ·refine h _ λo an e x ea t b=>?_
  subst e
  refine λN hN=>?_
  refine(tR c (b c mem_cons_self)).elim λp hp=>?_
  have t':an++(if gH ps d 20 c then c::iB ps d as else iB ps d as)=iB ps d cs:=by rw[<-t];unfold iB;rw[filter_cons]
  refine bQ (AX (n:=n+1) (f:=20) hW hl (x l _ hA) hp (lt_of_lt_of_le (vF (mem_of_getElem? hp)) hl) λH₂ b7=>?_)
  have st:eZ [lc] H H₂=true:=cV hC ((x.trans b7) _ _ hC)
  refine(?_:bB (gH ps d 20 c) _ _)
  refine cM (λh2=>?_) λh2=>?_
  ·rw[h2] at t'
   exact hN _ _ st (.mk _ (an++[c]) rfl (x.trans b7) (by rw[ea];exact rO an c) (gd t') (λc hc=>b c (.tail _ hc)))
  ·rw[h2] at t'
   exact hN _ _ st (.mk _ an rfl (x.trans b7) ea t' (λc hc=>b c (.tail _ hc)))
 ·refine h _ λo an e x ea t b=>?_
  subst ea
  rw[show iB ps d []=[] from rfl,append_nil] at t
  subst t
  generalize rP:iB ps d cs=ts at *
  have hm:∀c∈ts,c∈cs:=λc h=>(mem_filter.mp (show c∈cs.filter _ from rP▸h)).1
  have cU:ts.length<=20:=le_trans (le_trans (le_of_eq (congrArg List.length rP.symm)) (length_filter_le _ _)) iy
  generalize hs:mkRat 1 ts.length=s
  have A2:ts≠[]->Sm 5 s:=λh=>hs▸Sm.inv (λe=>h (eq_nil_of_length_eq_zero e)) (lt_of_le_of_lt cU (by decide))
  have a1:(H'++[aT.list (aW ts)]++[aT.list []])[H'.length]?=some (.list (aW ts)):=be _ (bu _ _)
  apply ay (dg a1)
  have lF:H'.length<(H'++[aT.list (aW ts)]).length:=by rw[length_append];exact lt_succ_self _
  refine e8 (A1 ps d rec l k lc H'.length (H'++[aT.list (aW ts)]).length (H'++[aT.list (aW ts)]++[aT.list []]) s (ie ps d rec k ts) ts) (λc as ρ H₂ h=>?_) (λρ H₂ h=>?_) _ _ _ (.mk none none none none none [] [] rfl (bj.refl _ _) (bu _ _) .nil (by rw[<-hs];rfl) (λc h=>h))
  ·refine h _ λa6 a7 a8 a9 gn rs vs e b7 a r t b=>?_
   subst e
   refine λN hN=>?_
   have jS:=b7 _ _ (ne_of_lt lF) a1
   have cz:aA H H₂:=b7.ext (x.trans ((aA.aU _ _).trans (aA.aU _ _))) (le_trans x.len (le_of_lt lF))
   have hc:=b c mem_cons_self
   have fU:ts≠[]:=ne_nil_of_mem hc
   refine(tR c (hm c hc)).elim λp hp=>?_
   rw[flatMap_cons,show rowsOf ps d rec k s c=if dK p d then[⟨c,s,[k,c]⟩] else(rec c).map (up k s) by rw[<-gR hp];rfl] at t
   apply ay (cA jS)
   rw[length_map]
   refine bQ (AZ (λe=>fU (eq_nil_of_length_eq_zero e)) (lt_of_le_of_lt cU (by decide)) ?_)
   rw[hs]
   refine bQ (nz (cz l _ hA) hp ?_)
   refine(?_:bB (dK p d) _ _)
   refine cM (λh2=>?_) λh2=>?_
   ·rw[h2] at t
    have t:rs++(⟨c,s,[k,c]⟩::as.flatMap (rowsOf ps d rec k s))=ie ps d rec k ts:=t
    refine gb a (gc (be _ a) (by rw[r.len];exact nA t ht) (hN _ _ (cV a1 (dQ (be _ jS) _ (ne_of_gt lF))) (.mk _ _ _ _ _ (rs++[⟨c,s,[k,c]⟩]) _ rfl (b7.trans ((bj.aU _ _ _).trans (bj.set _ _ _))) (dZ (be _ a) _) ((r.b ((bj.aU _ _ _).trans (bj.set _ _ _))).snoc (.mk H₂.length (cb a) rfl (dQ (bu _ _) _ (ne_of_lt (cb a))))) (gd t) (λc hc=>b c (.tail _ hc)))))
   ·rw[h2] at t
    have t:rs++((rec c).map (up k s)++as.flatMap (rowsOf ps d rec k s))=ie ps d rec k ts:=t
    refine bQ (IH c (hm c hc) _ _ _ (cz l _ hA) λlb us H₃ hb d7 ab rb=>?_)
    have a':=d7 _ _ a
    have pY:=lt_of_lt_of_le (cb a) hb
    apply ay (dg ab)
    refine vI (R:=λr v=>r∈rec c/\kE (lb+1) H₃ r v) (yq l k (H'++[aT.list (aW ts)]).length (some (.ref lc)) (some (.int d)) (some (.ref H'.length)) (some (.ref (H'++[aT.list (aW ts)]).length)) (some (nv c)) H₃ s (ie ps d rec k ts) (as.flatMap (rowsOf ps d rec k s))) (λrw v bs ρ H₄ hv h=>?_) (λρ H₄ h=>?_) (rb.imp' λr v hr hv=>⟨hr,hv⟩) _ _ (.mk _ _ _ rs vs rfl (bj.refl _ _) a' (r.b (d7.b _)) t)
    ·refine hv.2 _ λll jr e al=>?_
     subst e
     refine h _ λa8 a9 gn rs vs e gp a r t=>?_
     subst e
     refine λN' iL=>?_
     have sr:=hr c (hm c hc) _ hv.1
     have nl:ll≠(H'++[aT.list (aW ts)]).length:=ne_of_gt (lt_trans pY jr)
     refine gb a (bQ (vH (A2 fU) sr.1 (by decide) ?_))
     refine mu (bu _ _) (be _ (gp _ _ nl al)) (by rw[length_append,length_map];exact lt_of_le_of_lt (add_le_add_left sr.2 _) (show 1+(21+1)<16000000 by decide)) ?_
     have fA:bj (H'++[aT.list (aW ts)]).length H₄ _:=(bj.aU _ H₄ [aT.list [nv k]]).trans ((bj.aU _ _ [aT.list (aW (k::rw.line))]).trans (bj.set _ _ (.list (vs++[.aC [nv rw.gI,rv (s*rw.lE),.ref (H₄++[aT.list [nv k]]).length]]))))
     refine gc (be _ (be _ a)) (by rw[r.len];exact nA t ht) (iL _ _ (cV ab ((gp.trans fA) _ _ (ne_of_gt pY) ab)) (.mk _ _ _ (rs++[up k s rw]) _ rfl (gp.trans fA) (dZ (be _ (be _ a)) _) ((r.b fA).snoc (.mk ((H₄++[aT.list [nv k]]).length) (cb (be _ a)) rfl (dQ (bu _ _) _ (ne_of_lt (cb (be _ a)))))) (gd t)))
    ·refine h _ λa8 a9 gn rs vs e gp a r t=>?_
     subst e
     have fA:=(d7.b (H'++[aT.list (aW ts)]).length).trans gp
     exact hN _ _ (cV a1 (fA _ _ (ne_of_lt lF) jS)) (.mk _ _ _ _ _ rs vs rfl (b7.trans fA) a r t (λc hc=>b c (.tail _ hc)))
  ·refine h _ λa6 a7 a8 a9 gn rs vs e b7 a r t b=>?_
   subst e
   rw[flatMap_nil,append_nil] at t
   exact q _ vs _ (le_trans x.len (le_of_lt lF)) (b7.ext (x.trans ((aA.aU _ _).trans (aA.aU _ _))) (le_trans x.len (le_of_lt lF))) a (t▸r))
end
end Mine.L
namespace Mine.L
variable{Y:PQ}
open Mine.P PySem
noncomputable def wt(w:Int->Nat)(b:Int)(q:aE):Nat:=if b<q.aX then w q.aX else 0
theorem Gg(w:Int->Nat)(b:Int):∀l:List aE,(l.map (wt w (b - 1))).sum=(l.map (wt w b)).sum+l.countP (λq=>decide (q.aX=b))*w b
 |[]=>by rw[List.countP_nil,zero_mul];rfl
 |q::r=>by
  rw[map_cons,map_cons,sum_cons,sum_cons,Gg w b r,countP_cons,Nat.add_mul]
  unfold wt
  by_cases h:q.aX=b
  ·rw[if_pos (by rw[h];exact Int.sub_lt_self b (by decide)),if_neg (by rw[h];exact Int.lt_irrefl b),decide_eq_true h,h]
   simp only[if_true,one_mul];lia
  ·rw[decide_eq_false h]
   by_cases h2:b<q.aX
   ·rw[if_pos h2,if_pos (Int.lt_of_le_of_lt (Int.sub_le_self b (by decide)) h2)]
    simp only[false_eq_true,if_false,zero_mul];lia
   ·rw[if_neg h2,if_neg (Int.not_lt.mpr (Int.le_sub_one_of_lt (Int.lt_iff_le_and_ne.mpr ⟨Int.not_lt.mp h2,h⟩)))]
    simp only[false_eq_true,if_false,zero_mul];lia
theorem Gh(b:Int):∀l:List aE,fk l (b - 1)=fk l b+l.countP (λq=>decide (q.aX=b))
 |[]=>rfl
 |q::r=>by
  have ih:=Gh b r
  unfold fk at *
  rw[countP_cons,countP_cons,countP_cons,ih]
  by_cases h:q.aX=b
  ·rw[decide_eq_true h,decide_eq_true (show b - 1<q.aX by rw[h];exact Int.sub_lt_self b (by decide)),decide_eq_false (show ¬b<q.aX by rw[h];exact Int.lt_irrefl _)];rfl
  ·rw[decide_eq_false h]
   by_cases h2:b<q.aX
   ·rw[decide_eq_true h2,decide_eq_true (show b - 1<q.aX from Int.lt_of_le_of_lt (Int.sub_le_self b (by decide)) h2)];exact add_right_comm _ _ 1
   ·rw[decide_eq_false h2,decide_eq_false (show ¬b - 1<q.aX from Int.not_lt.mpr (Int.le_sub_one_of_lt (Int.lt_iff_le_and_ne.mpr ⟨Int.not_lt.mp h2,h⟩)))];rfl
theorem Gi(ps:List aE)(B:Int)(hB:∀q∈ps,q.aX<=B):∀j:Nat,(ps.map (wt (λb=>2^fk ps b) (B - j))).sum<2^fk ps (B - j)
 |0=>by
  have e:∀l:List aE,(∀q∈l,q.aX<=B)->(l.map (wt (λb=>2^fk ps b) (B - (0:Nat)))).sum=0:=λl=>l.rec (motive:=λl=>(∀q∈l,q.aX<=B)->(l.map (wt (λb=>2^fk ps b) (B - (0:Nat)))).sum=0) (λZ=>rfl) λq r ih hl=>by
   rw[map_cons,sum_cons,ih λq hq=>hl q (.tail _ hq)]
   exact if_neg (by have:=hl q mem_cons_self;exact Int.not_lt.mpr (by rw[show B - ((0:Nat):Int)=B from Int.sub_zero B];exact this))
  rw[e ps hB];exact Nat.two_pow_pos _
 |j+1=>by
  have ih:=Gi ps B hB j
  rw[show B - ((j+1:Nat):Int)=B - (j:Int) - 1 from(Int.sub_sub B (j:Int) 1).symm,Gg,Gh,Nat.pow_add]
  generalize ps.countP (λq=>decide (q.aX=B - (j:Int)))=e
  have h1:e+1<=2^e:=Nat.lt_two_pow_self
  have h2:=Nat.mul_le_mul_right (2^fk ps (B - (j:Int))) h1
  rw[Nat.add_mul,one_mul] at h2
  rw[mul_comm (2^fk ps (B - (j:Int))) (2^e)]
  exact lt_of_lt_of_le (by rw[add_comm];exact Nat.add_lt_add_left ih _) h2
theorem Gj:∀ps:List aE,∃B,∀q∈ps,q.aX<=B
 |[]=>⟨0,λZ h=>nomatch h⟩
 |p::r=>(Gj r).elim λB h=>⟨max B p.aX,λq hq=>(mem_cons.mp hq).elim (λe=>e▸Int.le_max_right _ _) λhr=>Int.le_trans (h q hr) (Int.le_max_left _ _)⟩
theorem RL(ps:List aE)(b:Int):(ps.map (wt (λb=>2^fk ps b) b)).sum<2^fk ps b:=(Gj ps).elim λB hB=>by
 have h:=Gi ps (max B b) (λq hq=>Int.le_trans (hB q hq) (Int.le_max_left _ _)) (max B b - b).toNat
 rw[show max B b - ((max B b - b).toNat:Int)=b by lia] at h
 exact h
theorem Gk{α:Type}{P:α->Bool}{h g:α->Nat}:∀l:List α,(∀c∈l,P c=true->h c<=g c)->((l.filter P).map h).sum<=(l.map g).sum
 |[],_=>le_refl _
 |a::r,f=>by
  have ih:=Gk r λc hc=>f c (.tail _ hc)
  rw[filter_cons,map_cons,sum_cons]
  split
  ·rename_i hp
   rw[map_cons,sum_cons];exact add_le_add (f a mem_cons_self hp) ih
  ·exact le_trans ih (le_add_left _ _)
theorem Au{α:Type}(ps:List α):(List.range ps.length).map (λi=>ps[i]?)=ps.map some:=by
 apply ext_getElem?
 intro i
 rw[getElem?_map,getElem?_map]
 by_cases h:i<ps.length
 ·rw[getElem?_range h,getElem?_eq_getElem h];exact congrArg some (getElem?_eq_getElem h)
 ·rw[getElem?_eq_none (by rw[length_range];exact not_lt.mp h),getElem?_eq_none (not_lt.mp h)];rfl
theorem RM{ps:List aE}{b:Int}{P:Nat->Bool}{h:Nat->Nat}(hh:∀c,P c=true->∃q,ps[c]?=some q/\b<q.aX/\h c<=2^fk ps q.aX):(((List.range ps.length).filter P).map h).sum<2^fk ps b:=by
 refine lt_of_le_of_lt (Gk (g:=λc=>(ps[c]?).elim 0 (wt (λb=>2^fk ps b) b)) _ λc Z hc=>?_) (lt_of_le_of_lt (le_of_eq ?_) (RL ps b))
 ·obtain⟨q,h1,h2,h3⟩:=hh c hc
  rw[h1]
  exact le_trans h3 (le_of_eq (if_pos h2).symm)
 ·have e:=congrArg (λl=>(l.map λo:Option aE=>o.elim 0 (wt (λb=>2^fk ps b) b)).sum) (Au ps)
  rw[map_map,map_map] at e
  exact e
end Mine.L
namespace Mine.L
variable{Y:PQ}
open Mine.P PySem
theorem kG.up{f k:Nat}{s:Rat}{r:Row}(hs:Sm 5 s)(h:kG f r):kG (f+1) (up k s r):=⟨(hs.mul h.1).le (le_of_eq (add_comm 5 (5*f))),succ_le_succ h.2⟩
theorem kG.le{f g:Nat}{r:Row}(h:kG f r)(e:f<=g):kG g r:=⟨h.1.le (mul_le_mul_left 5 e),le_trans h.2 (succ_le_succ e)⟩
theorem A3{ps:List aE}{d:Int}{rec:Nat->List Row}{k f:Nat}{ts:List Nat}(hl:ts.length<=20)(h:∀c∈ts,∀r∈rec c,kG f r):∀r∈ie ps d rec k ts,kG (f+1) r:=by
 intro r hr
 obtain⟨c,hc,hr⟩:=List.mem_flatMap.mp hr
 have hs:Sm 5 (mkRat 1 ts.length):=Sm.inv (λe=>absurd (eq_nil_of_length_eq_zero e) (ne_nil_of_mem hc)) (lt_of_le_of_lt hl (by decide))
 unfold rowsOf at hr
 split at hr
 ·rw[mem_singleton.mp hr]
  exact⟨hs.le (le_add_left 5 (5*f)),le_add_left 2 f⟩
 ·obtain⟨r',yn,rfl⟩:=mem_map.mp hr
  exact(h c hc r' yn).up hs
theorem Gm(ps:List aE)(d:Int)(cs:List Nat):(iB ps d cs).length<=cs.length:=length_filter_le _ _
theorem rQ{ps:List aE}{d:Int}(hl:ps.length<=20):∀(f k:Nat),∀r∈iK ps d f k,kG f r
 |0,k=>λr hr=>nomatch hr
 |f+1,k=>A3 (le_trans (Gm _ _ _) (le_trans (pU ps d k) hl)) λc Z=>rQ hl f c
theorem Gn{ps:List aE}(hW:dE ps){d:Int}{rec:Nat->List Row}{k k':Nat}{p:aE}(hp:ps[k]?=some p){P:Nat->Bool}(hP:∀c,P c=true->lD ps d k c=true)(h:∀c q,ps[c]?=some q->(rec c).length<=2^fk ps q.aX):(ie ps d rec k' ((List.range ps.length).filter P)).length<2^fk ps p.aX:=by
 unfold ie
 rw[List.length_flatMap]
 refine RM λc hc=>Ga (hP c hc) λq hq hm=>(vG hW hq d k hm).elim λq2 h2=>?_
 rw[hp] at h2
 refine⟨q,hq,by cases h2.1;exact h2.2,?_⟩
 unfold rowsOf
 split
 ·exact Nat.two_pow_pos _
 ·rw[length_map];exact h c q hq
theorem vJ{ps:List aE}(hW:dE ps){d:Int}:∀(f k:Nat) (p:aE),ps[k]?=some p->(iK ps d f k).length<=2^fk ps p.aX
 |0,k,p,_=>zero_le _
 |f+1,k,p,hp=>by
  refine(?_:(ie ps d (iK ps d f) k (((List.range ps.length).filter (lD ps d k)).filter (gH ps d 20))).length<=_)
  rw[List.filter_filter]
  exact le_of_lt (Gn hW hp (λc h=>(and_eq_true_iff.mp h).2) (vJ hW f))
theorem yr{ps:List aE}(hl:ps.length<=20)(b:Int):2^fk ps b<=1048576:=pow_le_pow_right (n:=2) (j:=20) (by decide) (le_trans List.countP_le_length hl)
section
variable{n:Nat}{l:Nat}
theorem yt{d:Int}{ps:List aE}(hW:dE ps)(hl:ps.length<=20):∀{f k:Nat} {p:aE} {H:Hp} {Q Y:PQ},f<=20->H[l]?=some (.list (ps.map bL))->ps[k]?=some p->fk ps p.aX<f->yo H (iK ps d f k) Q->az (n+2*f+23) sU [.ref l,nv k,.int d] H Q Y
 |0,k,p,H,Q,Y,_,_,_,hf,_=>absurd hf (not_lt_zero _)
 |f+1,k,p,H,Q,Y,rR,hA,hp,hf,q=>QO (by
  refine bQ (vE (n:=n+2*f+22) hA hl λlc H₁ Z x hc=>?_)
  refine bQ (Gf (n:=n+2*f) (rec:=iK ps d f) hW hl (le_trans (pU ps d k) hl) (λc hc=>tY hW hp hc λq hq Z Z=>⟨q,hq⟩) (λc Z r hr=>(rQ hl f c r hr).le (le_trans (le_of_succ_le rR) (by decide))) (le_trans (vJ hW (f+1) k p hp) (le_trans (yr hl _) (by decide))) (λc hc H₂ Q₂ Y₂ RN RP=>tY hW hp hc λq hq Z hy=>yt hW hl (le_of_succ_le rR) RN hq (lt_of_lt_of_le hy (le_of_lt_succ hf)) RP) (x _ _ hA) hc ?_)
  exact λlr vs H' hr x' a r=>q lr vs H' (le_trans x.len hr) (x.trans x') a r)
end
end Mine.L
namespace Mine.L
variable{Y:PQ}
open Mine.P PySem
noncomputable def pZ(k c:Nat):Bool:=!((c:Int)==(k:Int))
noncomputable def others(ps:List aE)(d:Int)(k b6:Nat):List Nat:=(kids ps d b6).filter (pZ k)
noncomputable def A4(eF:aO)(H:Hp)(F:Nat->Bool)(tot:List Nat)(as:List Nat)(aL:List V)(ρ:aO)(H':Hp):Prop:=∀OtIζ:Prop,(∀(o:Option V) (an:List Nat) (e:ρ=o::eF) (eh:H'=H) (ea:aL=aW an) (t:an++as.filter F=tot),OtIζ)->OtIζ
theorem A4.mk{eF:aO}{H:Hp}{F:Nat->Bool}{tot:List Nat}{as:List Nat}{aL:List V}{ρ:aO}{H':Hp}(o:Option V)(an:List Nat)(e:ρ=o::eF)(eh:H'=H)(ea:aL=aW an)(t:an++as.filter F=tot):A4 eF H F tot as aL ρ H':=λZ bY=>bY o an e eh ea t
section
variable{n:Nat}{l k:Nat}{H:Hp}{Q:PQ}
theorem A5{α:Type}{F:α->Bool}{aL as tot:List α}{a:α}(t:aL++(a::as).filter F=tot){M:Prop}(h1:F a=true->(aL++[a])++as.filter F=tot->M)(h2:F a=false->aL++as.filter F=tot->M):M:=by
 rw[filter_cons] at t
 cases h:F a with
 |true=>rw[h] at t;exact h1 h (gd t)
 |false=>rw[h] at t;exact h2 h t
theorem Go{d:Int}{ps:List aE}{b6:Nat}(hA:H[l]?=some (.list (ps.map bL)))(hl:ps.length<=20)(q:∀lc H',H.length<=lc->aA H H'->H'[lc]?=some (.list (aW (others ps d k b6)))->Q (.ref lc) H'):az (n+3) wJ [.ref l,nv b6,nv k,.int d] H Q Y:=QP (by
 refine bQ (vE (n:=n) hA hl λlc H₁ hb x hc=>?_)
 apply ay (dg hc)
 refine dj (du (by rw[length_map];exact lt_of_le_of_lt (le_trans (pU ps d b6) hl) (by decide))) ?_
 refine pS (A4 [some (.ref l),some (nv b6),some (nv k),some (.int d)] H₁ (pZ k) (others ps d k b6)) (λc as aL ρ H' h=>?_) (λaL ρ H' h=>?_) _ _ _ _ (.mk none [] rfl rfl rfl rfl)
 ·refine h _ λo an e eh ea t=>?_
  subst e eh
  refine λN hN=>?_
  refine(?_:bB (pZ k c) _ _)
  exact A5 t (λh t=>by rw[h];exact hN _ _ (cV hc hc) (.mk _ (an++[c]) rfl rfl (by rw[ea];exact rO an c) t)) λh t=>by rw[h];exact hN _ _ (cV hc hc) (.mk _ an rfl rfl ea t)
 ·refine h _ λo an e eh ea t=>?_
  subst eh ea
  rw[filter_nil,append_nil] at t
  subst t
  exact q _ _ (le_trans hb (le_of_lt (cb hc))) (x.trans (aA.aU _ _)) (bu _ _))
inductive RQ{α:Type}(eF:aO)(H:Hp)(F:α->V)(cs as:List α)(aL:List V)(ρ:aO)(H':Hp):Prop
 |mk (o:Option V) (an:List α) (e:ρ=o::eF) (x:aA H H') (ea:aL=an.map F) (t:an++as=cs)
theorem Gp{d:Int}{ps:List aE}(hW:dE ps)(hl:ps.length<=20){cs:List Nat}(tR:∀c∈cs,∃p,ps[c]?=some p){r:aO}{i lc:Nat}(hr:r[i]?.join=some (.int d))(hA:H[l]?=some (.list (ps.map bL))){yc:aT}(hC:H[lc]?=some yc){Q:List V->Hp->Prop}(q:∀H',aA H H'->Q (cs.map λc=>.bool (gH ps d 20 c)) H'):
  ip [lc] H (.J 0) (λρ H Q=>WT ⟨az (n+22),Y⟩ [] ρ H Q) (λρ H Q=>WE ⟨az (n+22),Y⟩ (.call qA [.J 1,.J 0,.J (i+2)]) ρ H Q) (aW cs) (none::some (.ref l)::r) H [] Q:=by
 refine pS (RQ (some (.ref l)::r) H (λc=>.bool (gH ps d 20 c)) cs) (λc as aL ρ H' h=>?_) (λaL ρ H' h=>?_) _ _ _ _ ⟨none,[],rfl,aA.refl H,rfl,rfl⟩
 ·refine h.casesOn λo an e x ea t=>?_
  subst e
  refine λN hN=>?_
  refine(tR c (t▸List.mem_append_right _ mem_cons_self)).elim λp hp=>?_
  apply ay (show((some (nv c)::some (V.ref l)::r)[i+2]?).join=some (.int d) from hr)
  exact bQ (AX (n:=n) (f:=20) hW hl (x l _ hA) hp (lt_of_lt_of_le (vF (mem_of_getElem? hp)) hl) λH₂ b7=>hN _ _ (cV hC ((x.trans b7) _ _ hC)) ⟨_,an++[c],rfl,x.trans b7,by rw[ea,map_append];rfl,gd t⟩)
 ·refine h.casesOn λo an e x ea t=>?_
  rw[append_nil] at t
  subst ea t
  exact q _ x
theorem all_bools{α:Type}(b:α->Bool):∀cs:List α,i0 (cs.map λc=>.bool (b c))=some (cs.map b)
 |[]=>rfl
 |c::r=>by
  refine(?_:((i0 (r.map λc=>.bool (b c))).map (b c::·))=_)
  rw[all_bools b r];rfl
theorem Gq{α:Type}{b:α->Bool}{cs:List α}{m:Nat}(h:H[m]?=some (.list (cs.map λc=>.bool (b c)))):(cS H (.ref m)).bind i0=some (cs.map b):=by rw[cA h];exact all_bools b cs
theorem Gr{α:Type}(b:α->Bool)(cs:List α):(cs.map b).any id=cs.any b:=any_map
end
end Mine.L
namespace Mine.L
variable{Y:PQ}
open Mine.P PySem
theorem fV{t:Bool}{A B:Prop}(h:t=true)(a:A):bB t A B:=by rw[h];exact a
theorem fq{t:Bool}{A B:Prop}(h:t=false)(b:B):bB t A B:=by rw[h];exact b
theorem RT{α:Type}{aL:List α}{a:α}{r tot:List α}{B:Nat}(e:(aL++[a])++r=tot)(h:tot.length<=B):aL.length<B:=nA ((append_assoc aL [a] r).symm.trans e) h
noncomputable def tZ(ps:List aE)(d:Int)(k b6:Nat):Bool:=lv ps d b6||(others ps d k b6).any (gH ps d 20)
noncomputable def t5(ps:List aE)(d:Int)(k:Nat)(p:aE):List Nat:=(gY p d).filter (tZ ps d k)
noncomputable def iM(ps:List aE)(d:Int)(k b6:Nat):List Row:=ie ps d (iK ps d 20) b6 (iB ps d (others ps d k b6))
noncomputable def t6(ps:List aE)(d:Int)(k:Nat)(p:aE):List Row:=ie ps d (iM ps d k) k (t5 ps d k p)
theorem A6(ps:List aE)(d:Int)(k b6:Nat):(others ps d k b6).length<=ps.length:=le_trans (length_filter_le _ _) (pU ps d b6)
theorem Gs{ps:List aE}(hW:dE ps)(hl:ps.length<=20){d:Int}{k b6:Nat}{q:aE}(hq:ps[b6]?=some q):(iM ps d k b6).length<=1048576:=by
 unfold iM iB others kids
 rw[List.filter_filter,List.filter_filter]
 exact le_trans (le_of_lt (Gn hW hq (λc h=>(and_eq_true_iff.mp h).2) (vJ hW 20))) (yr hl _)
theorem Gu{ps:List aE}(hl:ps.length<=20){d:Int}{k b6:Nat}:∀r∈iM ps d k b6,kG 21 r:=A3 (le_trans (Gm _ _ _) (le_trans (A6 ps d k b6) hl)) λc Z=>rQ hl 20 c
theorem yu{α β:Type}{f:α->List β}{B:Nat}:∀{l:List α},(∀a∈l,(f a).length<=B)->(l.flatMap f).length<=l.length*B
 |[],_=>zero_le _
 |a::r,h=>by
  rw[flatMap_cons,length_append,length_cons,Nat.succ_mul,add_comm]
  exact add_le_add (yu λa ha=>h a (.tail _ ha)) (h a mem_cons_self)
theorem Gv{ps:List aE}{d:Int}{k:Nat}{p:aE}{c:Nat}(h:c∈t5 ps d k p):c∈gY p d:=(mem_filter.mp h).1
theorem yv{ps:List aE}(hW:dE ps){d:Int}{k k':Nat}{p:aE}(hp:ps[k']?=some p):(t5 ps d k p).length<=2:=le_trans (length_filter_le _ _) (F9 hW hp d)
theorem Gw{ps:List aE}(hW:dE ps)(hl:ps.length<=20){d:Int}{k:Nat}{p:aE}(hp:ps[k]?=some p):(t6 ps d k p).length<=2097152:=
 le_trans (yu (B:=1048576) λc hc=>by
  unfold rowsOf
  split
  ·exact(by decide:1<=1048576)
  ·rw[length_map]
   exact(vG hW hp d c (Gv hc)).elim λq hq=>Gs hW hl hq.1) (Nat.mul_le_mul_right 1048576 (yv hW hp))
theorem RU{ps:List aE}(hW:dE ps)(hl:ps.length<=20){d:Int}{k:Nat}{p:aE}(hp:ps[k]?=some p):∀r∈t6 ps d k p,kG 22 r:=A3 (le_trans (yv hW hp) (by decide)) λc Z=>Gu hl
noncomputable def A7(ps:List aE)(d:Int)(k l:Nat)(p:aE)(H:Hp)(as:List Nat)(ρ:aO)(H':Hp):Prop:=∀PtIζ:Prop,(∀(o4 o5:Option V) (aL:List Nat) (e:ρ=[some (.ref l),some (nv k),some (.int d),some (.ref H.length),o4,o5,none,none,none,none,none]) (x:aA H H') (a:H'[H.length]?=some (.list (aW aL))) (t:aL++as.filter (tZ ps d k)=t5 ps d k p) (b:∀c∈as,c∈gY p d),PtIζ)->PtIζ
theorem A7.mk{ps:List aE}{d:Int}{k l:Nat}{p:aE}{H:Hp}{as:List Nat}{ρ:aO}{H':Hp}(o4 o5:Option V)(aL:List Nat)(e:ρ=[some (.ref l),some (nv k),some (.int d),some (.ref H.length),o4,o5,none,none,none,none,none])(x:aA H H')(a:H'[H.length]?=some (.list (aW aL)))(t:aL++as.filter (tZ ps d k)=t5 ps d k p)(b:∀c∈as,c∈gY p d):A7 ps d k l p H as ρ H':=λZ bY=>bY o4 o5 aL e x a t b
noncomputable def A8(ps:List aE)(d:Int)(rec:Nat->List Row)(l k lt lr:Nat)(H₁:Hp)(s:Rat)(tot:List Row)(ts as:List Nat)(ρ:aO)(H':Hp):Prop:=∀PuIζ:Prop,(∀(a4 a5 a7 a8 a9 gn:Option V) (rs:List Row) (vs:List V) (e:ρ=[some (.ref l),some (nv k),some (.int d),some (.ref lt),a4,a5,some (.ref lr),a7,a8,a9,gn]) (x:bj lr H₁ H') (a:H'[lr]?=some (.list vs)) (r:iA (lr+1) H' rs vs) (t:rs++as.flatMap (rowsOf ps d rec k s)=tot) (b:∀c∈as,c∈ts),PuIζ)->PuIζ
theorem A8.mk{ps:List aE}{d:Int}{rec:Nat->List Row}{l k lt lr:Nat}{H₁:Hp}{s:Rat}{tot:List Row}{ts as:List Nat}{ρ:aO}{H':Hp}(a4 a5 a7 a8 a9 gn:Option V)(rs:List Row)(vs:List V)(e:ρ=[some (.ref l),some (nv k),some (.int d),some (.ref lt),a4,a5,some (.ref lr),a7,a8,a9,gn])(x:bj lr H₁ H')(a:H'[lr]?=some (.list vs))(r:iA (lr+1) H' rs vs)(t:rs++as.flatMap (rowsOf ps d rec k s)=tot)(b:∀c∈as,c∈ts):A8 ps d rec l k lt lr H₁ s tot ts as ρ H':=λZ bY=>bY a4 a5 a7 a8 a9 gn rs vs e x a r t b
section
variable{n:Nat}{l k:Nat}{H:Hp}{Q:PQ}
theorem RV{d:Int}{ps:List aE}(hW:dE ps)(hl:ps.length<=20){p:aE}(hp:ps[k]?=some p)(hA:H[l]?=some (.list (ps.map bL)))(q:yo H (t6 ps d k p) Q):az (n+65) zl [.ref l,nv k,.int d] H Q Y:=QR (by
 refine bQ (AS (be _ hA) hp ?_)
 have Gx:=vG hW hp d
 refine e8 (A7 ps d k l p H) (λc as ρ H' h=>?_) (λρ H' h=>?_) _ _ _ (.mk none none [] rfl (aA.aU _ _) (bu _ _) rfl (λc h=>h))
 ·refine h _ λo4 o5 aL e x a t b=>?_
  subst e
  refine λN hN=>(Gx c (b c mem_cons_self)).elim λpq nB=>?_
  refine bQ (Go (n:=n+61) (x _ _ hA) hl λlo H₂ A9 b7 ao=>?_)
  have ext:=x.trans b7
  have kH:∀c∈as,c∈gY p d:=λc hc=>b c (.tail _ hc)
  have yes:∀H₃,aA H₂ H₃->tZ ps d k c=true->fu ((cS H₃ (.ref H.length)).isSome) (pH .append (.ref H.length) [nv c] H₃ λZ H₄=>N [some (.ref l),some (nv k),some (.int d),some (.ref H.length),some (nv c),some (.ref lo),none,none,none,none,none] H₄):=λH₃ cz hk=>by
   have vK:=cz _ _ (b7 _ _ a)
   exact A5 t (λZ t=>gb vK (gc vK (by rw[length_map];exact RT t (le_trans (yv hW hp) (by decide))) (hN _ _ rfl (.mk _ _ (aL++[c]) rfl ((ext.trans cz).set (le_refl _) _) (by rw[<-rO];exact dZ vK _) t kH)))) λh Z=>absurd (hk.symm.trans h) (by decide)
  have no:∀H₃,aA H₂ H₃->tZ ps d k c=false->N [some (.ref l),some (nv k),some (.int d),some (.ref H.length),some (nv c),some (.ref lo),none,none,none,none,none] H₃:=λH₃ cz hk=>A5 t (λh Z=>absurd (hk.symm.trans h) (by decide)) λZ t=>hN _ _ rfl (.mk _ _ aL rfl (ext.trans cz) (cz _ _ (b7 _ _ a)) t kH)
  have ek:tZ ps d k c=(dK pq d||(others ps d k c).any (gH ps d 20)):=by rw[<-gR nB.1];rfl
  refine bQ (nz (ext _ _ hA) nB.1 ?_)
  refine(?_:bB (dK pq d==false) _ _)
  refine jq (λh2=>?_) λh2=>?_
  ·rw[h2,Bool.false_or] at ek
   apply ay (dg ao)
   refine dj (du (by rw[length_map];exact lt_of_le_of_lt (le_trans (A6 ps d k c) hl) (by decide))) ?_
   refine Gp (n:=n+42) (i:=1) hW hl (λc' lG=>tY hW nB.1 (mem_filter.mp lG).1 λq hq Z Z=>⟨q,hq⟩) rfl (ext _ _ hA) ao λH₃ cz=>?_
   apply ay (Gq (bu _ _))
   rw[Gr]
   refine cM (λh3=>?_) λh3=>?_
   ·exact yes _ (cz.trans (aA.aU _ _)) (ek.trans h3)
   ·exact no _ (cz.trans (aA.aU _ _)) (ek.trans h3)
  ·rw[h2,Bool.true_or] at ek
   exact fV h2 (yes _ (aA.refl _) ek)
 ·refine h _ λo4 o5 ts e x a1 t b=>?_
  subst e
  rw[filter_nil,append_nil] at t
  subst t
  generalize rP:t5 ps d k p=ts at *
  have hm:∀c∈ts,c∈gY p d:=λc h=>Gv (rP▸h)
  have cU:ts.length<=2:=rP▸yv hW hp
  have ht:=Gw hW hl (d:=d) hp
  rw[show t6 ps d k p=ie ps d (iM ps d k) k ts by rw[<-rP];rfl] at ht q
  generalize hs:mkRat 1 ts.length=s
  have A2:ts≠[]->Sm 5 s:=λh=>hs▸Sm.inv (λe=>h (eq_nil_of_length_eq_zero e)) (lt_of_le_of_lt cU (by decide))
  have lF:=cb a1
  have Ba:H.length<=H'.length:=le_of_lt lF
  have yw:=be [.list []] a1
  apply ay (dg yw)
  refine e8 (A8 ps d (iM ps d k) l k H.length H'.length (H'++[.list []]) s (ie ps d (iM ps d k) k ts) ts) (λc as ρ H₂ h=>?_) (λρ H₂ h=>?_) _ _ _ (.mk _ _ none none none none [] [] rfl (bj.refl _ _) (bu _ _) .nil (by rw[<-hs];rfl) (λc h=>h))
  ·refine h _ λa4 a5 a7 a8 a9 gn rs vs e b7 a r t b=>?_
   subst e
   refine λN hN=>?_
   have jS:=b7 _ _ (ne_of_lt lF) yw
   have cz:aA H H₂:=b7.ext (x.trans (aA.aU _ _)) Ba
   have hc:=b c mem_cons_self
   have fU:ts≠[]:=ne_nil_of_mem hc
   refine(Gx c (hm c hc)).elim λpq nB=>?_
   have nB:=nB.1
   rw[flatMap_cons,show rowsOf ps d (iM ps d k) k s c=if dK pq d then[⟨c,s,[k,c]⟩] else(iM ps d k c).map (up k s) by rw[<-gR nB];rfl] at t
   apply ay (cA jS)
   rw[length_map]
   refine bQ (AZ (λe=>fU (eq_nil_of_length_eq_zero e)) (lt_of_le_of_lt cU (by decide)) ?_)
   rw[hs]
   refine bQ (nz (cz l _ hA) nB ?_)
   refine(?_:bB (dK pq d) _ _)
   refine cM (λh2=>?_) λh2=>?_
   ·rw[h2] at t
    have t:rs++(⟨c,s,[k,c]⟩::as.flatMap (rowsOf ps d (iM ps d k) k s))=ie ps d (iM ps d k) k ts:=t
    exact gb a (gc (be _ a) (by rw[r.len];exact nA t (le_trans ht (by decide))) (hN _ _ (cV yw (dQ (be _ jS) _ (ne_of_gt lF))) (.mk _ _ _ _ _ _ (rs++[⟨c,s,[k,c]⟩]) _ rfl (b7.trans ((bj.aU _ _ _).trans (bj.set _ _ _))) (dZ (be _ a) _) ((r.b ((bj.aU _ _ _).trans (bj.set _ _ _))).snoc (.mk H₂.length (cb a) rfl (dQ (bu _ _) _ (ne_of_lt (cb a))))) (gd t) (λc hc=>b c (.tail _ hc)))))
   ·rw[h2] at t
    have t:rs++((iM ps d k c).map (up k s)++as.flatMap (rowsOf ps d (iM ps d k) k s))=ie ps d (iM ps d k) k ts:=t
    refine bQ (Go (n:=n+61) (cz _ _ hA) hl λlo Ho WZ xo ao=>?_)
    have Gy:∀c'∈others ps d k c,∃p,ps[c']?=some p:=λc' lG=>tY hW nB (mem_filter.mp lG).1 λq hq Z Z=>⟨q,hq⟩
    refine bQ (Gf (n:=n+40) (rec:=iK ps d 20) hW hl (le_trans (A6 ps d k c) hl) Gy (λc Z r hr=>(rQ hl 20 c r hr).le (by decide)) (le_trans (Gs hW hl nB) (by decide)) (λc' lG H₅ Q₅ Y₅ RW RX=>(Gy c' lG).elim λpc Gz=>yt (n:=n) hW hl (f:=20) (le_refl _) RW Gz (lt_of_lt_of_le (vF (mem_of_getElem? Gz)) hl) RX) ((cz.trans xo) _ _ hA) ao λlb us H₃ hb RY ab rb=>?_)
    have d7:=xo.trans RY
    have hb:=le_trans xo.len hb
    have a':=d7 _ _ a
    have pY:=lt_of_lt_of_le (cb a) hb
    apply ay (dg ab)
    refine vI (R:=λr v=>r∈iM ps d k c/\kE (lb+1) H₃ r v) (yq l k H'.length (some (.int d)) (some (.ref H.length)) (some (nv c)) a5 (some (.ref H'.length)) H₃ s (ie ps d (iM ps d k) k ts) (as.flatMap (rowsOf ps d (iM ps d k) k s))) (λrw v bs ρ H₄ hv h=>?_) (λρ H₄ h=>?_) (rb.imp' λr v hr hv=>⟨hr,hv⟩) _ _ (.mk _ _ _ rs vs rfl (bj.refl _ _) a' (r.b (d7.b _)) t)
    ·refine hv.2 _ λll jr e al=>?_
     subst e
     refine h _ λa8 a9 gn rs vs e gp a r t=>?_
     subst e
     refine λN' iL=>?_
     have sr:=Gu hl _ hv.1
     have nl:ll≠H'.length:=ne_of_gt (lt_trans pY jr)
     refine gb a (bQ (vH (A2 fU) sr.1 (by decide) ?_))
     refine mu (bu _ _) (be _ (gp _ _ nl al)) (by rw[length_append,length_map];exact lt_of_le_of_lt (add_le_add_left sr.2 _) (show 1+(21+1)<16000000 by decide)) ?_
     have fA:bj H'.length H₄ _:=(bj.aU _ H₄ [aT.list [nv k]]).trans ((bj.aU _ _ [aT.list (aW (k::rw.line))]).trans (bj.set _ _ (.list (vs++[.aC [nv rw.gI,rv (s*rw.lE),.ref (H₄++[aT.list [nv k]]).length]]))))
     exact gc (be _ (be _ a)) (by rw[r.len];exact nA t (le_trans ht (by decide))) (iL _ _ (cV ab ((gp.trans fA) _ _ (ne_of_gt pY) ab)) (.mk _ _ _ (rs++[up k s rw]) _ rfl (gp.trans fA) (dZ (be _ (be _ a)) _) ((r.b fA).snoc (.mk ((H₄++[aT.list [nv k]]).length) (cb (be _ a)) rfl (dQ (bu _ _) _ (ne_of_lt (cb (be _ a)))))) (gd t)))
    ·refine h _ λa8 a9 gn rs vs e gp a r t=>?_
     subst e
     have fA:=(d7.b H'.length).trans gp
     exact hN _ _ (cV yw (fA _ _ (ne_of_lt lF) jS)) (.mk _ _ _ _ _ _ rs vs rfl (b7.trans fA) a r t (λc hc=>b c (.tail _ hc)))
  ·refine h _ λa4 a5 a7 a8 a9 gn rs vs e b7 a r t b=>?_
   subst e
   rw[flatMap_nil,append_nil] at t
   exact q _ vs _ Ba (b7.ext (x.trans (aA.aU _ _)) Ba) a (t▸r))
end
end Mine.L
namespace Mine.L
variable{Y:PQ}
open Mine.P PySem
theorem RZ{l m:List Int}(h:l.Perm m)(a:l.Pairwise (·<=·))(b:m.Pairwise (·<=·)):l=m:=h.eq_of_pairwise (λx y Z Z h1 h2=>Int.le_antisymm h1 h2) a b
section
variable{A B K:Type}[DecidableEq A][DecidableEq K]
noncomputable def rS(ws:List (A×B))(a:A):Option B:=(ws.find? λp=>decide (p.1=a)).map (·.2)
noncomputable def jt(ws:List (A×B))(a:A)(b:B):List (A×B):=if ws.any (λp=>decide (p.1=a)) then ws.map (λp=>if p.1=a then(p.1,b) else p) else ws++[(a,b)]
noncomputable def gf(ws:List (A×B))(a:A):Bool:=ws.any λp=>decide (p.1=a)
noncomputable def dH(f:A->K)(S:B->V->Prop):List (A×B)->List (K×V)->Prop:=bP λw e=>e.1=f w.1/\S w.2 e.2
variable{f:A->K}(hf:∀a b,f a=f b->a=b){S:B->V->Prop}{ws:List (A×B)}{es:List (K×V)}
include hf
theorem GA{a b:A}{k:K}(e:k=f b):decide (k=f a)=decide (b=a):=decide_eq_decide.mpr ⟨λh=>hf _ _ (e▸h),λh=>e.trans (congrArg f h)⟩
theorem dH.has(h:dH f S ws es)(a:A):ee es (f a)=gf ws a:=h.rec (motive:=λws es Z=>ee es (f a)=gf ws a) rfl λr Z ih=>by
 refine(?_:(decide (_=f a)||ee _ (f a))=(decide (_=a)||gf _ a))
 rw[ih,GA hf r.1]
theorem dH.get(h:dH f S ws es)(a:A):gf ws a=true->∃b v,rS ws a=some b/\fI es (f a)=some v/\S b v:=h.rec (motive:=λws es Z=>gf ws a=true->∃b v,rS ws a=some b/\fI es (f a)=some v/\S b v) (λh=>absurd h Bool.false_ne_true) λ{w e ws es} r _ ih h=>by
 unfold rS fI
 rw[find?_cons,find?_cons,GA hf r.1]
 cases hd:decide (w.1=a) with
 |true=>exact⟨w.2,e.2,rfl,rfl,r.2⟩
 |false=>
  refine ih ?_
  have h:(decide (w.1=a)||gf ws a)=true:=h
  rw[hd] at h;exact h
theorem dH.put(h:dH f S ws es){a:A}{b:B}{v:V}(r:S b v):dH f S (jt ws a b) (dput es (f a) v):=by
 unfold jt dput
 rw[show(es.any λp=>decide (p.1=f a))=_ from dH.has hf h a]
 cases ha:gf ws a with
 |false=>
  rw[show(ws.any λp=>decide (p.1=a))=false from ha]
  exact bP.snoc h ⟨rfl,r⟩
 |true=>
  rw[show(ws.any λp=>decide (p.1=a))=true from ha]
  refine h.rec (motive:=λws es Z=>dH f S (ws.map λp:A×B=>if p.1=a then(p.1,b) else p) (es.map λp:K×V=>if p.1=f a then(p.1,v) else p)) .nil λ{w e ws es} r' _ ih=>.cons ?_ ih
  refine(?_:(if e.1=f a then(e.1,v) else e).1=f (if w.1=a then(w.1,b) else w).1/\S (if w.1=a then(w.1,b) else w).2 (if e.1=f a then(e.1,v) else e).2)
  by_cases hd:w.1=a
  ·rw[if_pos hd,if_pos (by rw[r'.1,hd])];exact⟨r'.1,r⟩
  ·rw[if_neg hd,if_neg λq=>hd (hf _ _ (r'.1▸q))];exact r'
omit hf
theorem rT{a:A}:gf ws a=true↔a∈ws.map (·.1):=by
 unfold gf
 rw[any_eq_true,mem_map]
 exact⟨λ⟨p,h1,h2⟩=>⟨p,h1,of_decide_eq_true h2⟩,λ⟨p,h1,h2⟩=>⟨p,h1,decide_eq_true h2⟩⟩
theorem GB(a:A)(b:B):(jt ws a b).map (·.1)=if gf ws a then ws.map (·.1) else ws.map (·.1)++[a]:=by
 unfold jt
 refine(?_:(if gf ws a=true then _ else _:List (A×B)).map _=_)
 split
 ·rw[map_map]
  exact map_congr_left λp Z=>by refine(?_:(if p.1=a then(p.1,b) else p).1=p.1);split<;>rfl
 ·rw[map_append];rfl
theorem Bb{a:A}{b:B}{p:A×B}(h:p∈jt ws a b):p∈ws\/p=(a,b):=by
 unfold jt at h
 split at h
 ·obtain⟨q,hq,e⟩:=mem_map.mp h
  split at e
  ·rename_i h1;exact .inr (by rw[<-e,h1])
  ·exact .inl (e▸hq)
 ·rcases mem_append.mp h with h|h
  ·exact .inl h
  ·exact .inr (mem_singleton.mp h)
omit [DecidableEq A] [DecidableEq K] in
theorem dH.keys{g:K->V}(h:dH f S ws es):es.map (λp=>g p.1)=(ws.map (·.1)).map λa=>g (f a):=h.rec (motive:=λws es Z=>es.map (λp=>g p.1)=(ws.map (·.1)).map λa=>g (f a)) rfl λr Z ih=>by
 rw[map_cons,map_cons,map_cons,ih,r.1]
omit [DecidableEq A] [DecidableEq K] in
theorem dH.imp{S':B->V->Prop}(h:dH f S ws es)(k:∀b v,S b v->S' b v):dH f S' ws es:=bP.imp h λZ Z r=>⟨r.1,k _ _ r.2⟩
end
theorem Bc:∀(n:Nat) (l:List Nat),l.Nodup->(∀k∈l,k<n)->l.length<=n
 |0,l,_,h=>by
  cases l with
  |nil=>exact le_refl 0
  |cons a r=>exact absurd (h a mem_cons_self) (not_lt_zero a)
 |n+1,l,hn,h=>by
  have ih:=Bc n (l.erase n) (hn.erase _) λk hk=>Nat.lt_of_le_of_ne (le_of_lt_succ (h k ((hn.mem_erase_iff).mp hk).2)) ((hn.mem_erase_iff).mp hk).1
  rw[List.length_erase] at ih
  split at ih<;>lia
end Mine.L
namespace Mine.L
variable{Y:PQ}
open Mine.P PySem
noncomputable abbrev St:=Nat×Bool
noncomputable abbrev sv(s:St):V:=.aC [nv s.1,.bool s.2]
noncomputable abbrev kz(s:St):Int×Bool:=((s.1:Int),s.2)
theorem rU(a b:St)(h:kz a=kz b):a=b:=Prod.ext (ofNat.inj (congrArg (λp:Int×Bool=>p.1) h)) (congrArg (λp:Int×Bool=>p.2) h)
noncomputable def vL(ps:List aE)(d:Int)(p:aE)(k:Nat)(down:Bool):List St:=(kids ps d k).map (λc=>(c,true))++(if down then[] else(gY p d).map λc=>(c,false))
section
variable{n:Nat}{l k:Nat}{H:Hp}{Q:PQ}
theorem jT{α:Type}{g:α->V}{ws:List Nat}{test:aO->Hp->(Bool->Hp->Prop)->Prop}{elt:aO->Hp->PQ->Prop}{Q:List V->Hp->Prop}{eF:aO}{P:α->Bool}{F:α->V}:∀(as:List α) (o:Option V) (aL:List V),(∀a,a∈as->∀T:Bool->Hp->Prop,T (P a) H->test (some (g a)::eF) H T)->(∀a,a∈as->P a=true->∀N:PQ,N (F a) H->elt (some (g a)::eF) H N)->Q (aL++(as.filter P).map F) H->ip ws H (.J 0) test elt (as.map g) (o::eF) H aL Q
 |[],o,aL,_,_,q=>by rw[filter_nil,map_nil,append_nil] at q;exact q
 |a::as,o,aL,ht,he,q=>by
  have st:eZ ws H H=true:=all_eq_true.mpr λl Z=>decide_eq_true rfl
  refine ay (a:=some (g a)::eF) rfl (ht a mem_cons_self _ ?_)
  rw[filter_cons] at q
  have go:∀acc',Q (acc'++(as.filter P).map F) H->ip ws H (.J 0) test elt (as.map g) (some (g a)::eF) H acc' Q:=λacc'=>jT as _ acc' (λa ha=>ht a (.tail _ ha)) λa ha=>he a (.tail _ ha)
  cases hp:P a with
  |true=>
   rw[hp] at q
   exact he a mem_cons_self hp _ ⟨st,go _ (by rw[append_assoc];exact q)⟩
  |false=>
   rw[hp] at q
   exact⟨st,go _ q⟩
theorem t7{α:Type}(l:List α):l.filter (λZ=>true)=l:=List.filter_eq_self.mpr λZ Z=>rfl
theorem R4{d:Int}{ps:List aE}(hW:dE ps)(hl:ps.length<=20){p:aE}(hp:ps[k]?=some p)(down:Bool)(hA:H[l]?=some (.list (ps.map bL)))(q:∀lc H',H.length<=lc->aA H H'->H'[lc]?=some (.list ((vL ps d p k down).map sv))->Q (.ref lc) H'):az (n+3) zi [.ref l,sv (k,down),.int d] H Q Y:=QF (by
 have hk:=lt_of_le_of_lt (le_trans (pU ps d k) hl) (show 20<16000000 by decide)
 refine bQ (vE (n:=n) hA hl λlc H₁ hb x hc=>?_)
 apply ay (dg hc)
 refine dj (du (by rw[length_map];exact hk)) (jT (P:=λZ=>true) (F:=λc=>sv (c,true)) _ _ _ (λa Z T h=>h) (λa Z Z N h=>h) ?_)
 rw[t7]
 have a1:=bu H₁ (.list ((kids ps d k).map λc=>sv (c,true)))
 have h1:=le_trans hb (le_of_lt (cb hc))
 cases down with
 |true=>exact q _ _ h1 (x.trans (aA.aU _ _)) (by unfold vL;rw[map_append,map_map];refine(?_:_=some (aT.list (_++[])));rw[append_nil];exact a1)
 |false=>
  refine bQ (AS (be _ (x _ _ hA)) hp ?_)
  have h2:=F9 hW hp d
  refine dj (du (by rw[length_map];exact lt_of_le_of_lt h2 (by decide))) (jT (P:=λZ=>true) (F:=λc=>sv (c,false)) _ _ _ (λa Z T h=>h) (λa Z Z N h=>h) ?_)
  rw[t7]
  refine mu (be _ a1) (bu _ _) (by rw[length_append,nil_append,length_map,length_map];exact lt_of_le_of_lt (add_le_add (le_trans (pU ps d k) hl) h2) (by decide)) ?_
  exact q _ _ (le_trans h1 (by rw[length_append,length_append,add_assoc];exact le_add_right _ _)) ((x.trans (aA.aU _ _)).trans ((aA.aU _ _).trans (aA.aU _ _))) (by rw[bu];unfold vL;rw[map_append,map_map];refine(?_:_=some (aT.list (_++((gY p d).map λc=>(c,false)).map sv)));rw[map_map];rfl))
end
end Mine.L
namespace Mine.L
variable{Y:PQ}
open Mine.P PySem
noncomputable abbrev dN:=List (St×List Nat)
noncomputable abbrev Kn:=List (St×Unit)
noncomputable def eV(b:Nat)(H:Hp)(w:List Nat)(v:V):Prop:=∀LnAtζ:Prop,(∀(l:Nat) (hb:b<=l) (e:v=.ref l) (a:H[l]?=some (.list (aW w))),LnAtζ)->LnAtζ
theorem eV.mk{b:Nat}{H:Hp}{w:List Nat}{v:V}(l:Nat)(hb:b<=l)(e:v=.ref l)(a:H[l]?=some (.list (aW w))):eV b H w v:=λZ bY=>bY l hb e a
theorem eV.ext{b:Nat}{H H':Hp}{w:List Nat}{v:V}(h:eV b H w v)(x:aA H H'):eV b H' w v:=h _ λl hb e a=>(.mk l hb e (x _ _ a))
theorem eV.set{b lf:Nat}{H H':Hp}{w:List Nat}{v:V}{c:aT}(h:eV b H w v)(hf:H[lf]?=some c)(hc:∀vs,c≠.list vs)(x:bj lf H H'):eV b H' w v:=h _ λl hb e a=>(.mk l hb e (x l _ (λq=>hc _ (by rw[<-q] at hf;exact Option.some.inj (hf.symm.trans a))) a))
noncomputable def p6(a b:List Nat):Bool:=kg (a.map λi:Nat=>(i:Int)) (b.map λi:Nat=>(i:Int))
noncomputable def i9(ws:dN)(s:St):List Nat:=(rS ws s).getD []
noncomputable def i5(kn:Kn)(way:List Nat)(found:dN)(o:St):dN:=if !gf kn o&&(!gf found o||p6 (way++[o.1]) (i9 found o)) then jt found o (way++[o.1]) else found
noncomputable def GC(ps:List aE)(d:Int)(s:St):List St:=match ps[s.1]? with
 |some p=>vL ps d p s.1 s.2
 |none=>[]
noncomputable def p9(ps:List aE)(d:Int)(kn:Kn)(ws:dN)(found:dN)(s:St):dN:=(GC ps d s).foldl (i5 kn (i9 ws s)) found
noncomputable def jU(n L:Nat)(ks:List St)(ws:dN):Prop:=∀WOkζ:Prop,(∀(nd:(ks++ws.map (·.1)).Nodup) (rg:∀e∈ws,e.1.1<n) (ln:∀e∈ws,e.2.length<=L),WOkζ)->WOkζ
theorem jU.mk{n L:Nat}{ks:List St}{ws:dN}(nd:(ks++ws.map (·.1)).Nodup)(rg:∀e∈ws,e.1.1<n)(ln:∀e∈ws,e.2.length<=L):jU n L ks ws:=λZ bY=>bY nd rg ln
theorem R5{a b:St}(e:2*a.1+a.2.toNat=2*b.1+b.2.toNat):a=b:=by
 have h1:=toNat_le a.2
 have h2:=toNat_le b.2
 refine Prod.ext (by lia) ?_
 have e2:a.2.toNat=b.2.toNat:=by lia
 revert e2
 cases a.2<;>cases b.2<;>first|(intro;rfl)|(intro h;cases h)
theorem Bd{n:Nat}{l:List St}(h:l.Nodup)(hr:∀s∈l,s.1<n):l.length<=2*n:=by
 have h':(l.map λs:St=>2*s.1+s.2.toNat).Nodup:=Pairwise.map _ (λa b i7 e=>i7 (R5 e)) h
 have:=Bc (2*n) _ h' λk hk=>by
  obtain⟨s,hs,rfl⟩:=mem_map.mp hk
  have:=hr s hs
  have:=toNat_le s.2
  lia
 rw[length_map] at this;exact this
theorem jU.len{n L:Nat}{ks:List St}{ws:dN}(h:jU n L ks ws):ws.length<=2*n:=h _ λnd rg Z=>by
 rw[<-length_map (f:=(·.1))]
 exact Bd (nodup_append.mp nd).2.1 λs hs=>(mem_map.mp hs).elim λe he=>he.2▸rg e he.1
theorem jU.put{n L:Nat}{ks:List St}{ws:dN}(h:jU n L ks ws){s:St}{w:List Nat}(hk:s∉ks)(hn:s.1<n)(hw:w.length<=L):jU n L ks (jt ws s w):=h _ λnd rg ln=>by
 refine(.mk (?_) (λe he=>(Bb he).elim (rg e) λq=>by rw[q];exact hn) (λe he=>(Bb he).elim (ln e) λq=>by rw[q];exact hw))
 rw[GB]
 split
 ·exact nd
 ·rename_i hs
  have hs:s∉ws.map (·.1):=λm=>hs (rT.mpr m)
  rw[<-append_assoc]
  exact nodup_append.mpr ⟨nd,nodup_cons.mpr ⟨not_mem_nil,nodup_nil⟩,λa ha b hb e=>by
   rw[mem_singleton.mp hb] at e
   exact(mem_append.mp (e▸ha)).elim hk hs⟩
section
variable{n:Nat}{l k:Nat}{H:Hp}{Q:PQ}
theorem yx{lw ew:Nat}{es:List ((Int×Bool)×V)}{s:St}{v:V}(h:H[lw]?=some (.cL ew es))(e:fI es (kz s)=some v):gB (.ref lw) (sv s) H=some v:=by
 refine(?_:((H[lw]?.bind jl).bind λes=>fI es (kz s))=_)
 rw[h];exact e
theorem GD{lw ew:Nat}{es:List ((Int×Bool)×V)}{s:St}(h:H[lw]?=some (.cL ew es)):eQ .gL (sv s) (.ref lw) H=some (!ee es (kz s)):=by
 refine(?_:Option.map _ (match H[lw]?.bind gQ with|some es=>_|none=>_)=_)
 rw[h]
 refine(?_:Option.map _ (match H[lw]?.bind jl with|some es=>_|none=>_)=_)
 rw[h];rfl
theorem yy:∀l:List Nat,allInts (aW l)=some (l.map λi:Nat=>(i:Int))
 |[]=>rfl
 |a::r=>by
  refine(?_:((allInts (aW r)).map ((a:Int)::·))=_)
  rw[yy r];rfl
theorem GF{a b:Nat}{x y:List Nat}(ha:H[a]?=some (.list (aW x)))(hb:H[b]?=some (.list (aW y))):eQ .lt (.ref a) (.ref b) H=some (p6 x y):=by
 refine(?_:(((cS H (.ref a)).bind allInts).bind λp=>((cS H (.ref b)).bind allInts).map λq=>kg p q)=_)
 rw[cA ha,cA hb]
 refine(?_:((allInts (aW x)).bind λp=>(allInts (aW y)).map λq=>kg p q)=_)
 rw[yy,yy];rfl
theorem GG{lf ef:Nat}{fs:List ((Int×Bool)×V)}{s:St}{v:V}{k:Hp->Prop}(h:H[lf]?=some (.cL ef fs))(hs:fs.length<16000000)(q:∀ep,k (H.set lf (.cL ep (dput fs (kz s) v)))):qO (.ref lf) (sv s) v H k:=ay h (dj (du hs) q)
theorem Be{lw ew:Nat}{es:List ((Int×Bool)×V)}(h:H[lw]?=some (.cL ew es)):keysOf H (.ref lw)=some (es.map λp=>kh p.1):=by
 refine(?_:(match H[lw]?.bind gQ with|some es=>_|none=>_)=_)
 rw[h]
 refine(?_:(match H[lw]?.bind jl with|some es=>_|none=>_)=_)
 rw[h];rfl
end
end Mine.L
namespace Mine.L
variable{Y:PQ}
open Mine.P PySem
noncomputable def Bf(ps:List aE)(F:dN->St->dN)(tot:dN)(ks:List St)(L b lf:Nat)(x0 x1 x2 x3:V)(H₁:Hp)(ss as:List St)(ρ:aO)(H':Hp):Prop:=∀FuIζ:Prop,(∀(o5 o6 o7:Option V) (ef:Nat) (fs:List ((Int×Bool)×V)) (found:dN) (e:ρ=[some x0,some x1,some x2,some x3,some (.ref lf),o5,o6,o7]) (x:bj lf H₁ H') (a:H'[lf]?=some (.cL ef fs)) (dc:dH kz (eV b H') found fs) (ok:jU ps.length L ks found) (t:as.foldl F found=tot) (qa:∀s∈as,s∈ss),FuIζ)->FuIζ
theorem Bf.mk{ps:List aE}{F:dN->St->dN}{tot:dN}{ks:List St}{L b lf:Nat}{x0 x1 x2 x3:V}{H₁:Hp}{ss as:List St}{ρ:aO}{H':Hp}(o5 o6 o7:Option V)(ef:Nat)(fs:List ((Int×Bool)×V))(found:dN)(e:ρ=[some x0,some x1,some x2,some x3,some (.ref lf),o5,o6,o7])(x:bj lf H₁ H')(a:H'[lf]?=some (.cL ef fs))(dc:dH kz (eV b H') found fs)(ok:jU ps.length L ks found)(t:as.foldl F found=tot)(qa:∀s∈as,s∈ss):Bf ps F tot ks L b lf x0 x1 x2 x3 H₁ ss as ρ H':=λZ bY=>bY o5 o6 o7 ef fs found e x a dc ok t qa
noncomputable def Bg(ps:List aE)(F:dN->St->dN)(tot:dN)(ks:List St)(L b lf:Nat)(x0 x1 x2 x3 x5:V)(H₁:Hp)(as:List St)(ρ:aO)(H':Hp):Prop:=∀FvIζ:Prop,(∀(o6 o7:Option V) (ef:Nat) (fs:List ((Int×Bool)×V)) (found:dN) (e:ρ=[some x0,some x1,some x2,some x3,some (.ref lf),some x5,o6,o7]) (x:bj lf H₁ H') (a:H'[lf]?=some (.cL ef fs)) (dc:dH kz (eV b H') found fs) (ok:jU ps.length L ks found) (t:as.foldl F found=tot) (qa:∀o∈as,o.1<ps.length),FvIζ)->FvIζ
theorem Bg.mk{ps:List aE}{F:dN->St->dN}{tot:dN}{ks:List St}{L b lf:Nat}{x0 x1 x2 x3 x5:V}{H₁:Hp}{as:List St}{ρ:aO}{H':Hp}(o6 o7:Option V)(ef:Nat)(fs:List ((Int×Bool)×V))(found:dN)(e:ρ=[some x0,some x1,some x2,some x3,some (.ref lf),some x5,o6,o7])(x:bj lf H₁ H')(a:H'[lf]?=some (.cL ef fs))(dc:dH kz (eV b H') found fs)(ok:jU ps.length L ks found)(t:as.foldl F found=tot)(qa:∀o∈as,o.1<ps.length):Bg ps F tot ks L b lf x0 x1 x2 x3 x5 H₁ as ρ H':=λZ bY=>bY o6 o7 ef fs found e x a dc ok t qa
section
variable{n:Nat}{l k:Nat}{H:Hp}{Q:PQ}
theorem R6{ps:List aE}(hW:dE ps){d:Int}{p:aE}{k:Nat}(hp:ps[k]?=some p){down:Bool}:∀o∈vL ps d p k down,o.1<ps.length:=by
 intro o ho
 rcases mem_append.mp ho with h|h
 ·obtain⟨c,hc,rfl⟩:=mem_map.mp h
  exact mem_range.mp (mem_filter.mp hc).1
 ·cases down with
  |true=>cases h
  |false=>
   obtain⟨c,hc,rfl⟩:=mem_map.mp (show o∈(gY p d).map λc=>(c,false) from h)
   exact(vG hW hp d c hc).elim λq hq=>(List.getElem?_eq_some_iff.mp hq.1).1
theorem R7{d:Int}{ps:List aE}(hW:dE ps)(hl:ps.length<=20){kn:Kn}{ws:dN}{ks es:List ((Int×Bool)×V)}{ek ew lk lw b L:Nat}(hL:L<=1000)(hA:H[l]?=some (.list (ps.map bL)))(hK:H[lk]?=some (.cL ek ks))(dk:dH kz (λ(_:Unit) _=>True) kn ks)(hY:H[lw]?=some (.cL ew es))(dw:dH kz (eV b H) ws es)(hb:b<=H.length)(nd:(kn.map (·.1)).Nodup)(rg:∀e∈ws,e.1.1<ps.length)(ln:∀s,(i9 ws s).length<=L)
  (q:∀lf ef fs H',aA H H'->H.length<=lf->H'[lf]?=some (.cL ef fs)->dH kz (eV b H') ((ws.map (·.1)).foldl (p9 ps d kn ws) []) fs->jU ps.length (L+1) (kn.map (·.1)) ((ws.map (·.1)).foldl (p9 ps d kn ws) [])->Q (.ref lf) H'):az (n+4) zj [.ref l,.ref lk,.ref lw,.int d] H Q Y:=QG (by
 have cU:∀{m c},H[m]?=some c->m≠H.length:=λh=>ne_of_lt (cb h)
 have Bh:=be [.cL 0 []] hY
 apply ay (Be Bh)
 rw[dw.keys]
 refine e8 (Bf ps (p9 ps d kn ws) ((ws.map (·.1)).foldl (p9 ps d kn ws) []) (kn.map (·.1)) (L+1) b H.length (.ref l) (.ref lk) (.ref lw) (.int d) (H++[.cL 0 []]) (ws.map (·.1))) (λs as ρ H' h=>?_) (λρ H' h=>?_) _ _ _ (.mk none none none 0 [] [] rfl (bj.refl _ _) (bu _ _) .nil (.mk (by rw[map_nil,append_nil];exact nd) (λZ h=>(nomatch h)) (λZ h=>(nomatch h))) rfl (λs h=>h))
 ·refine h _ λo5 o6 o7 ef fs found e x a dc ok t bs=>?_
  subst e
  refine λN hN=>?_
  have x':aA H H':=x.ext (aA.aU _ _) (le_refl _)
  refine(mem_map.mp (bs s mem_cons_self)).elim λe he=>(at_of (he.2▸rg e he.1:s.1<ps.length)).elim λp hp=>?_
  refine bQ (R4 (n:=n) hW hl hp s.2 (x' _ _ hA) λlc H₂ A9 b7 hc=>?_)
  refine(dw.get rU s (rT.mpr (bs s mem_cons_self))).elim λw hw=>hw.elim λwv hw=>?_
  apply ay (dg hc)
  have GH:H.length<lc:=lt_of_lt_of_le (cb a) A9
  refine e8 (Bg ps (i5 kn (i9 ws s)) (p9 ps d kn ws found s) (kn.map (·.1)) (L+1) b H.length (.ref l) (.ref lk) (.ref lw) (.int d) (sv s) H₂) (λo os ρ H₃ h=>?_) (λρ H₃ h=>?_) _ _ _ (.mk o6 o7 ef fs found rfl (bj.refl _ _) (b7 _ _ a) (dc.imp λZ Z h=>h.ext b7) ok (by unfold p9 GC;rw[hp]) (R6 hW hp))
  ·refine h _ λo6 o7 ef fs found e cz a dc ok t bo=>?_
   subst e
   refine λN' iL=>?_
   have d7:aA H H₃:=cz.ext (x'.trans b7) (le_refl _)
   refine hw.2.2 _ λlv W0 ev av=>?_
   subst ev
   have gw:i9 ws s=w:=by unfold i9;rw[hw.1];rfl
   have mv:=ln s
   rw[gw] at mv t
   have ho:=bo o mem_cons_self
   have GI:∀o∈os,o.1<ps.length:=λo h=>bo o (.tail _ h)
   apply ay (yx (d7 _ _ hY) hw.2.1)
   refine mu (be _ (d7 _ _ av)) (bu _ _) (by rw[length_append,length_map];exact lt_of_le_of_lt (add_le_add_right (le_trans mv hL) _) (show 1000+1<16000000 by decide)) ?_
   have am:=bu (H₃++[aT.list [nv o.1]]) (.list (aW w++[nv o.1]))
   rw[rO w o.1] at am ⊢
   generalize hm:(H₃++[aT.list [nv o.1]]).length=m at *
   have R8:b<=m:=by rw[<-hm];exact le_trans (le_trans hb d7.len) (by rw[length_append];exact le_add_right _ _)
   have gp:aA H₃ (H₃++[aT.list [nv o.1]]++[aT.list (aW (w++[o.1]))]):=(aA.aU _ _).trans (aA.aU _ _)
   generalize H₃++[aT.list [nv o.1]]++[aT.list (aW (w++[o.1]))]=H₄ at *
   have oJ:=gp _ _ a
   have vM:dH kz (eV b H₄) found fs:=dc.imp λZ Z h=>h.ext gp
   rw[foldl_cons] at t
   have yes:(!gf kn o&&(!gf found o||p6 (w++[o.1]) (i9 found o)))=true->qO (.ref H.length) (sv o) (.ref m) H₄ (λH'=>N' [some (.ref l),some (.ref lk),some (.ref lw),some (.int d),some (.ref H.length),some (sv s),some (sv o),some (.ref m)] H'):=λlG=>by
    refine GG oJ (by rw[bP.len vM];exact lt_of_le_of_lt (le_trans ok.len (mul_le_mul_left 2 hl)) (by decide)) λep=>?_
    have fA:=bj.set H.length H₄ (.cL ep (dput fs (kz o) (.ref m)))
    refine iL _ _ (cV hc (((cz.trans (gp.b _)).trans fA) _ _ (ne_of_gt GH) hc)) (.mk _ _ ep _ (jt found o (w++[o.1])) rfl ((cz.trans (gp.b _)).trans fA) (dZ oJ _) (?_) (ok.put ?_ ho (by rw[length_append];exact succ_le_succ mv)) (?_) GI)
    ·exact dH.put rU (vM.imp λZ Z h=>h.set oJ (λvs h=>nomatch h) fA) ((eV.mk m R8 rfl am:eV b H₄ (w++[o.1]) (.ref m)).set oJ (λvs h=>nomatch h) fA)
    ·exact λhm=>absurd (rT.mpr hm) (by rw[Bool.not_eq_true];exact(not_eq_true' _).mp (and_eq_true_iff.mp lG).1)
    ·rw[show i5 kn w found o=jt found o (w++[o.1]) from if_pos lG] at t;rw[gw];exact t
   have no:(!gf kn o&&(!gf found o||p6 (w++[o.1]) (i9 found o)))=false->N' [some (.ref l),some (.ref lk),some (.ref lw),some (.int d),some (.ref H.length),some (sv s),some (sv o),some (.ref m)] H₄:=λlG=>
    iL _ _ (cV hc ((cz.trans (gp.b _)) _ _ (ne_of_gt GH) hc)) (.mk _ _ ef fs found rfl (cz.trans (gp.b _)) oJ vM ok (by rw[show i5 kn w found o=found from if_neg (by rw[lG];decide)] at t;rw[gw];exact t) GI)
   apply ay (GD (s:=o) (gp _ _ (d7 _ _ hK)))
   rw[dk.has rU]
   refine fL (λh1=>?_) λh1=>fq h1 (no (by rw[h1];rfl))
   rw[h1,Bool.true_and] at yes no
   apply ay (GD (s:=o) oJ)
   rw[vM.has rU]
   refine jq (λh2=>?_) λh2=>fV h2 (yes (by rw[h2];rfl))
   rw[h2,Bool.false_or] at yes no
   refine(vM.get rU o (not_eq_false' .. |>.mp h2)).elim λw' mw=>mw.elim λR9 mw=>?_
   have Sa:i9 found o=w':=by unfold i9;rw[mw.1];rfl
   rw[Sa] at yes no
   apply ay (yx oJ mw.2.1)
   refine mw.2.2 _ λW1 Z Sb Sd=>?_
   subst Sb
   apply ay (GF am Sd)
   exact cM yes no
  ·refine h _ λo6 o7 ef fs found' e cz a dc ok t' bo=>?_
   subst e
   rw[foldl_nil] at t'
   subst t'
   have d7:=(b7.b H.length).trans cz
   exact hN _ _ (cV Bh ((x.trans d7) _ _ (cU hY) Bh)) (.mk _ _ _ ef fs _ rfl (x.trans d7) a dc ok t (λs hs=>bs s (.tail _ hs)))
 ·refine h _ λo5 o6 o7 ef fs found e x a dc ok t bs=>?_
  subst e
  rw[foldl_nil] at t
  subst t
  exact q _ ef fs _ (x.ext (aA.aU _ _) (le_refl _)) (le_refl _) a dc ok)
end
end Mine.L
namespace Mine.L
variable{Y:PQ}
open Mine.P PySem
noncomputable abbrev Hr:=List (Nat×List Nat)
noncomputable abbrev hz(k:Nat):Int:=(k:Int)
theorem yz(a b:Nat)(h:hz a=hz b):a=b:=ofNat.inj h
noncomputable def lH(hp:Hr)(h:Nat):List Nat:=(rS hp h).getD []
noncomputable def qb(ps:List aE)(d:Int)(k:Nat)(ws:dN)(hp:Hr)(s:St):Hr:=if pZ k s.1&&(lv ps d s.1&&(!gf hp s.1||p6 (i9 ws s) (lH hp s.1))) then jt hp s.1 (i9 ws s) else hp
noncomputable def ii(kn:Kn)(ws:dN):Kn:=kn++ws.map λe=>(e.1,())
noncomputable def rV(ps:List aE)(d:Int)(kn:Kn)(ws:dN):dN:=(ws.map (·.1)).foldl (p9 ps d kn ws) []
noncomputable def qc(ps:List aE)(d:Int)(k:Nat):Nat->Kn->dN->Hr->Hr
 |0,_,_,h=>h
 |f+1,kn,ws,h=>if h.isEmpty&&!ws.isEmpty then qc ps d k f (ii kn ws) (rV ps d (ii kn ws) ws) (((rV ps d (ii kn ws) ws).map (·.1)).foldl (qb ps d k (rV ps d (ii kn ws) ws)) h) else h
noncomputable def t8(l:List Nat):List Nat:=l.mergeSort λa b=>decide (a<=b)
noncomputable def lI(ps:List aE)(d:Int)(k:Nat):List (Nat×List Nat):=(t8 ((qc ps d k 41 [] [((k,false),[k])] []).map (·.1))).map λh=>(h,lH (qc ps d k 41 [] [((k,false),[k])] []) h)
noncomputable def Bj(b:Nat)(H:Hp)(p:Nat×List Nat)(v:V):Prop:=∀NrAtζ:Prop,(∀(l:Nat) (hb:b<=l) (e:v=.aC [nv p.1,.ref l]) (a:H[l]?=some (.list (aW p.2))),NrAtζ)->NrAtζ
theorem Bj.mk{b:Nat}{H:Hp}{p:Nat×List Nat}{v:V}(l:Nat)(hb:b<=l)(e:v=.aC [nv p.1,.ref l])(a:H[l]?=some (.list (aW p.2))):Bj b H p v:=λZ bY=>bY l hb e a
theorem Se{l:List Nat}{js:List Int}(h:js.Perm (l.map hz))(hs:js.Pairwise (·<=·)):js=(t8 l).map hz:=RZ (h.trans ((List.mergeSort_perm l _).map hz).symm) hs (by
 have:=List.pairwise_mergeSort (le:=λa b:Nat=>decide (a<=b)) (λa b c h1 h2=>decide_eq_true (le_trans (of_decide_eq_true h1) (of_decide_eq_true h2))) (λa b=>by rw[Bool.or_eq_true];exact(le_total a b).imp (λh=>decide_eq_true h) λh=>decide_eq_true h) l
 exact Pairwise.map _ (λa b h=>ofNat_le.mpr (of_decide_eq_true h)) this)
noncomputable def lJ(n:Nat)(hp:Hr):Prop:=∀HOkζ:Prop,(∀(nd:(hp.map (·.1)).Nodup) (rg:∀h∈hp.map (·.1),h<n) (ln:∀e∈hp,e.2.length<=42),HOkζ)->HOkζ
theorem lJ.mk{n:Nat}{hp:Hr}(nd:(hp.map (·.1)).Nodup)(rg:∀h∈hp.map (·.1),h<n)(ln:∀e∈hp,e.2.length<=42):lJ n hp:=λZ bY=>bY nd rg ln
theorem lJ.len{n:Nat}{hp:Hr}(h:lJ n hp):hp.length<=n:=h _ λnd rg Z=>by rw[<-length_map (f:=(·.1))];exact Bc n _ nd rg
theorem lJ.put{n:Nat}{hp:Hr}(h:lJ n hp){k:Nat}{w:List Nat}(hk:k<n)(hw:w.length<=42):lJ n (jt hp k w):=h _ λnd rg ln=>by
 refine(.mk (?_) (?_) (λe he=>(Bb he).elim (ln e) λq=>by rw[q];exact hw))<;>rw[GB]<;>split
 ·exact nd
 ·rename_i hs
  exact nodup_append.mpr ⟨nd,nodup_cons.mpr ⟨not_mem_nil,nodup_nil⟩,λa ha b hb e=>by
   rw[mem_singleton.mp hb] at e
   exact hs (rT.mpr (e▸ha))⟩
 ·exact rg
 ·intro h hh
  exact(mem_append.mp hh).elim (rg h) λq=>by rw[mem_singleton.mp q];exact hk
section
variable{n:Nat}{l k:Nat}{H:Hp}{Q:PQ}
theorem GJ{lw ew:Nat}{es:List (Int×V)}{s:Nat}{v:V}(h:H[lw]?=some (.dict ew es))(e:fI es (hz s)=some v):gB (.ref lw) (nv s) H=some v:=by
 refine(?_:(match H[lw]?.bind pz with|some vs=>kX vs (s:Int)|none=>(H[lw]?.bind gQ).bind λes=>fI es (hz s))=_)
 rw[h];exact e
theorem Sf{lw ew:Nat}{es:List (Int×V)}{s:Nat}(h:H[lw]?=some (.dict ew es)):eQ .gL (nv s) (.ref lw) H=some (!ee es (hz s)):=by
 refine(?_:Option.map _ (match H[lw]?.bind gQ with|some es=>_|none=>_)=_)
 rw[h];rfl
theorem Sg{lf ef:Nat}{fs:List (Int×V)}{s:Nat}{v:V}{k:Hp->Prop}(h:H[lf]?=some (.dict ef fs))(hs:fs.length<16000000)(q:∀ep,k (H.set lf (.dict ep (dput fs (hz s) v)))):qO (.ref lf) (nv s) v H k:=ay h (dj (du hs) q)
theorem Sh{a b ea:Nat}{es:List (Int×V)}(h:H[a]?=some (.dict ea es))(h':H[b]?=some (.dict 0 [])):eQ .eq (.ref a) (.ref b) H=some es.isEmpty:=by
 refine(?_:kW H (.ref a) (.ref b)=_)
 have e1:il H (.ref a)=some es.isEmpty:=by
  refine(?_:(match H[a]?.bind gQ with|some es=>some es.isEmpty|none=>_)=_)
  rw[h];rfl
 have e2:il H (.ref b)=some true:=by
  refine(?_:(match H[b]?.bind gQ with|some es=>some es.isEmpty|none=>_)=_)
  rw[h'];rfl
 unfold kW
 rw[e1,e2]
 refine(?_:(if(es.isEmpty||true)=true then some (es.isEmpty&&true) else none)=_)
 rw[Bool.or_true,Bool.and_true];rfl
theorem Si{a b ea:Nat}{es:List ((Int×Bool)×V)}(h:H[a]?=some (.cL ea es))(h':H[b]?=some (.dict 0 [])):eQ .ne (.ref a) (.ref b) H=some (!es.isEmpty):=by
 refine(?_:(kW H (.ref a) (.ref b)).map _=_)
 have e1:il H (.ref a)=some es.isEmpty:=by
  refine(?_:(match H[a]?.bind gQ with|some es=>_|none=>(H[a]?.bind jl).map List.isEmpty)=_)
  rw[h];rfl
 have e2:il H (.ref b)=some true:=by
  refine(?_:(match H[b]?.bind gQ with|some es=>some es.isEmpty|none=>_)=_)
  rw[h'];rfl
 unfold kW
 rw[e1,e2]
 refine(?_:(if(es.isEmpty||true)=true then some (es.isEmpty&&true) else none).map _=_)
 rw[Bool.or_true,Bool.and_true];rfl
theorem Sj{a ea:Nat}{es:List (Int×V)}(h:H[a]?=some (.dict ea es)):copyOf H (.ref a)=some (es.map λp=>.int p.1):=by
 refine(?_:(match H[a]?.bind gQ with|some es=>_|none=>_)=_)
 rw[h];rfl
theorem xB{a:Nat}{ls:List Nat}(h:H[a]?=some (.list (aW ls))):jM H (.ref a)=some (ls.map hz):=by
 refine(?_:(cS H (.ref a)).bind allInts=_)
 rw[cA h];exact yy ls
theorem GK{α β:Type}{R:α->β->Prop}{as:List α}{bs:List β}(h:bP R as bs):bs.isEmpty=as.isEmpty:=h.casesOn rfl λZ Z=>rfl
theorem Sk{A B:Type}[DecidableEq A]{ws:List (A×B)}{a:A}{b:B}(h:gf ws a=false):jt ws a b=ws++[(a,b)]:=if_neg (by rw[show(ws.any λp=>decide (p.1=a))=false from h];decide)
end
end Mine.L
namespace Mine.L
variable{Y:PQ}
open Mine.P PySem
noncomputable def Bk(ps:List aE)(d:Int)(k l:Nat)(tot:Hr)(H:Hp)(f:Nat)(ρ:aO)(H':Hp):Prop:=∀NeIζ:Prop,(∀(o6 o7:Option V) (lw lk lh ew ek eh:Nat) (es ks:List ((Int×Bool)×V)) (hs:List (Int×V)) (kn:Kn) (ws:dN) (hp:Hr) (L:Nat) (e:ρ=[some (.ref l),some (nv k),some (.int d),some (.ref lw),some (.ref lk),some (.ref lh),o6,o7]) (x:aA H H') (bk:H.length<=lk) (bh:H.length<=lh) (ne:lw≠lk) (aw:H'[lw]?=some (.cL ew es)) (ak:H'[lk]?=some (.cL ek ks)) (ah:H'[lh]?=some (.dict eh hs)) (dw:dH kz (eV H.length H') ws es) (dk:dH kz (λ(_:Unit) _=>True) kn ks) (dh:dH hz (eV H.length H') hp hs) (ok:jU ps.length L (kn.map (·.1)) ws) (kr:∀s∈kn.map (·.1),s.1<ps.length) (oh:lJ ps.length hp) (hf:2*ps.length<f+kn.length) (hL:L+f=42) (t:qc ps d k f kn ws hp=tot),NeIζ)->NeIζ
theorem Bk.mk{ps:List aE}{d:Int}{k l:Nat}{tot:Hr}{H:Hp}{f:Nat}{ρ:aO}{H':Hp}(o6 o7:Option V)(lw lk lh ew ek eh:Nat)(es ks:List ((Int×Bool)×V))(hs:List (Int×V))(kn:Kn)(ws:dN)(hp:Hr)(L:Nat)(e:ρ=[some (.ref l),some (nv k),some (.int d),some (.ref lw),some (.ref lk),some (.ref lh),o6,o7])(x:aA H H')(bk:H.length<=lk)(bh:H.length<=lh)(ne:lw≠lk)(aw:H'[lw]?=some (.cL ew es))(ak:H'[lk]?=some (.cL ek ks))(ah:H'[lh]?=some (.dict eh hs))(dw:dH kz (eV H.length H') ws es)(dk:dH kz (λ(_:Unit) _=>True) kn ks)(dh:dH hz (eV H.length H') hp hs)(ok:jU ps.length L (kn.map (·.1)) ws)(kr:∀s∈kn.map (·.1),s.1<ps.length)(oh:lJ ps.length hp)(hf:2*ps.length<f+kn.length)(hL:L+f=42)(t:qc ps d k f kn ws hp=tot):Bk ps d k l tot H f ρ H':=λZ bY=>bY o6 o7 lw lk lh ew ek eh es ks hs kn ws hp L e x bk bh ne aw ak ah dw dk dh ok kr oh hf hL t
noncomputable def mn(tot:Kn)(lk:Nat)(x0 x1 x2 x3 x5 x7:Option V)(H₁:Hp)(as:List St)(ρ:aO)(H':Hp):Prop:=∀KnIζ:Prop,(∀(o6:Option V) (ek:Nat) (ks:List ((Int×Bool)×V)) (kd:Kn) (e:ρ=[x0,x1,x2,x3,some (.ref lk),x5,o6,x7]) (x:bj lk H₁ H') (a:H'[lk]?=some (.cL ek ks)) (dk:dH kz (λ(_:Unit) _=>True) kd ks) (t:kd++as.map (λs=>(s,()))=tot),KnIζ)->KnIζ
theorem mn.mk{tot:Kn}{lk:Nat}{x0 x1 x2 x3 x5 x7:Option V}{H₁:Hp}{as:List St}{ρ:aO}{H':Hp}(o6:Option V)(ek:Nat)(ks:List ((Int×Bool)×V))(kd:Kn)(e:ρ=[x0,x1,x2,x3,some (.ref lk),x5,o6,x7])(x:bj lk H₁ H')(a:H'[lk]?=some (.cL ek ks))(dk:dH kz (λ(_:Unit) _=>True) kd ks)(t:kd++as.map (λs=>(s,()))=tot):mn tot lk x0 x1 x2 x3 x5 x7 H₁ as ρ H':=λZ bY=>bY o6 ek ks kd e x a dk t
noncomputable def Bm(ps:List aE)(F:Hr->St->Hr)(tot:Hr)(b lh:Nat)(x0 x1 x2 x3 x4:Option V)(H₁:Hp)(ss as:List St)(ρ:aO)(H':Hp):Prop:=∀HeIζ:Prop,(∀(o6 o7:Option V) (eh:Nat) (hs:List (Int×V)) (hp:Hr) (e:ρ=[x0,x1,x2,x3,x4,some (.ref lh),o6,o7]) (x:bj lh H₁ H') (a:H'[lh]?=some (.dict eh hs)) (dh:dH hz (eV b H') hp hs) (oh:lJ ps.length hp) (t:as.foldl F hp=tot) (qa:∀s∈as,s∈ss),HeIζ)->HeIζ
theorem Bm.mk{ps:List aE}{F:Hr->St->Hr}{tot:Hr}{b lh:Nat}{x0 x1 x2 x3 x4:Option V}{H₁:Hp}{ss as:List St}{ρ:aO}{H':Hp}(o6 o7:Option V)(eh:Nat)(hs:List (Int×V))(hp:Hr)(e:ρ=[x0,x1,x2,x3,x4,some (.ref lh),o6,o7])(x:bj lh H₁ H')(a:H'[lh]?=some (.dict eh hs))(dh:dH hz (eV b H') hp hs)(oh:lJ ps.length hp)(t:as.foldl F hp=tot)(qa:∀s∈as,s∈ss):Bm ps F tot b lh x0 x1 x2 x3 x4 H₁ ss as ρ H':=λZ bY=>bY o6 o7 eh hs hp e x a dh oh t qa
theorem GL{ws:dN}{L:Nat}(h:∀e∈ws,e.2.length<=L)(s:St):(i9 ws s).length<=L:=by
 unfold i9 rS
 cases hf:ws.find? λp=>decide (p.1=s) with
 |none=>exact zero_le _
 |some e=>exact h e (List.mem_of_find?_eq_some hf)
theorem GN(kn:Kn)(ws:dN):(ii kn ws).map (·.1)=kn.map (·.1)++ws.map (·.1):=by
 unfold ii;rw[map_append,map_map];rfl
theorem GO{α β γ:Type}{R:β->γ->Prop}{f:α->β}{g:α->γ}:∀l:List α,(∀a∈l,R (f a) (g a))->bP R (l.map f) (l.map g)
 |[],_=>.nil
 |a::r,h=>.cons (h a mem_cons_self) (GO r λa ha=>h a (.tail _ ha))
noncomputable def GP(H:Hp)(ns:List (Nat×List Nat))(Q:PQ):Prop:=∀lr vs H',ns.length<=20->(∀e∈ns,e.2.length<=42)->H.length<=lr->aA H H'->H'[lr]?=some (.list vs)->bP (Bj H.length H') ns vs->Q (.ref lr) H'
section
variable{n:Nat}{l k:Nat}{H:Hp}{Q:PQ}
noncomputable abbrev Sl:S:=.aS (.J 7) (.aM (.J 6) (.k (.int 0)))
noncomputable abbrev rW:S:=.bz (.and [(.cmp .ne (.J 7) (.J 1)),(.call iY [.J 0,.J 7,.J 2]),(.or [(.cmp .gL (.J 7) (.J 5)),(.cmp .lt (.aM (.J 3) (.J 6)) (.aM (.J 5) (.J 7)))])])
    [.ji (.J 5) (.J 7) (.aM (.J 3) (.J 6))]
    []
theorem Sp{d:Int}{ps:List aE}{lf lk lh ef eh b:Nat}{fs:List ((Int×Bool)×V)}{hs:List (Int×V)}{hp:Hr}{s:St}{p':aE}{w:List Nat}{wv:V}{o7:Option V}{K:Out->Prop}{N:aO->Hp->Prop}(hA:H[l]?=some (.list (ps.map bL)))(cB:ps[s.1]?=some p')(af:H[lf]?=some (.cL ef fs))(fw:fI fs (kz s)=some wv)(ah:H[lh]?=some (.dict eh hs))(dh:dH hz (eV b H) hp hs)(lw:eV b H w wv)(sm:hs.length<16000000)
  (yes:(pZ k s.1&&(dK p' d&&(!gf hp s.1||p6 w (lH hp s.1))))=true->∀ep,N [some (.ref l),some (nv k),some (.int d),some (.ref lf),some (.ref lk),some (.ref lh),some (sv s),some (nv s.1)] (H.set lh (.dict ep (dput hs (hz s.1) wv))))
  (no:(pZ k s.1&&(dK p' d&&(!gf hp s.1||p6 w (lH hp s.1))))=false->N [some (.ref l),some (nv k),some (.int d),some (.ref lf),some (.ref lk),some (.ref lh),some (sv s),some (nv s.1)] H) :
  aN ⟨az (n+4),Y⟩ [Sl,rW] [some (.ref l),some (nv k),some (.int d),some (.ref lf),some (.ref lk),some (.ref lh),some (sv s),o7] H (n0 K N):=by
 have yes:(pZ k s.1&&(dK p' d&&(!gf hp s.1||p6 w (lH hp s.1))))=true->aH (gB (.ref lf) (sv s) H) λv=>qO (.ref lh) (nv s.1) v H λH'=>N [some (.ref l),some (nv k),some (.int d),some (.ref lf),some (.ref lk),some (.ref lh),some (sv s),some (nv s.1)] H':=λhc=>ay (yx af fw) (Sg ah sm (yes hc))
 refine(?_:bB (pZ k s.1==true) _ _)
 refine fL (λh1=>?_) λh1=>fq h1 (no (by rw[h1];rfl))
 rw[h1,Bool.true_and] at yes no
 refine bQ (nz hA cB ?_)
 refine(?_:bB (dK p' d==true) _ _)
 refine fL (λh2=>?_) λh2=>fq h2 (no (by rw[h2];rfl))
 rw[h2,Bool.true_and] at yes no
 apply ay (Sf (s:=s.1) ah)
 rw[dh.has yz]
 refine jq (λh3=>?_) λh3=>fV h3 (yes (by rw[h3];rfl))
 rw[h3,Bool.false_or] at yes no
 refine(dh.get yz s.1 (not_eq_false' .. |>.mp h3)).elim λw' mw=>mw.elim λR9 mw=>?_
 rw[show lH hp s.1=w' by unfold lH;rw[mw.1];rfl] at yes no
 apply ay (yx af fw)
 apply ay (GJ ah mw.2.1)
 refine lw _ λla Z ea aa=>?_
 refine mw.2.2 _ λlb Z eb ab=>?_
 rw[ea,eb]
 apply ay (GF aa ab)
 exact cM yes no
theorem Sq{d:Int}{ps:List aE}{H':Hp}{o3 o4 o6 o7:Option V}{lh eh:Nat}{hs:List (Int×V)}{hp:Hr}(hl:ps.length<=20)(x:aA H H')(ah:H'[lh]?=some (.dict eh hs))(dh:dH hz (eV H.length H') hp hs)(oh:lJ ps.length hp)(q:GP H ((t8 (hp.map (·.1))).map λh=>(h,lH hp h)) Q):aN ⟨az (n+4),Y⟩ (wV.drop 4) [some (.ref l),some (nv k),some (.int d),o3,o4,some (.ref lh),o6,o7] H' (bH Q):=by
 have eU:(hp.map (·.1)).length<=20:=by rw[length_map];exact le_trans oh.len hl
 apply ay (Sj ah)
 rw[dh.keys (g:=V.int)]
 refine dj (du (by rw[length_map];exact lt_of_le_of_lt eU (by decide))) ?_
 apply ay (xB (ls:=hp.map (·.1)) (bu _ _))
 refine And.intro (by rw[length_map];exact lt_of_le_of_lt eU (by decide)) λjs hj lA=>?_
 rw[Se hj lA]
 apply ay (dg (bu _ _))
 have GQ:(t8 (hp.map (·.1))).length<=20:=le_trans (le_of_eq (List.mergeSort_perm _ _).length_eq) eU
 refine dj (du (by rw[length_map,length_map];exact lt_of_le_of_lt GQ (by decide))) ?_
 refine(?_:ip _ _ _ _ _ (((t8 (hp.map (·.1))).map hz).map V.int) _ _ _ _)
 rw[map_map]
 have get:∀h∈t8 (hp.map (·.1)),∃v,fI hs (hz h)=some v/\eV H.length H' (lH hp h) v:=λh hh=>(dh.get yz h (rT.mpr ((List.mergeSort_perm _ _).mem_iff.mp hh))).elim λw hw=>hw.elim λv hv=>⟨v,hv.2.1,by unfold lH;rw[hv.1];exact hv.2.2⟩
 refine jT (P:=λZ=>true) (F:=λh=>.aC [nv h,(fI hs (hz h)).getD .none]) _ _ _ (λa Z T h=>h) (λh hh Z N hN=>(get h hh).elim λv hv=>?_) ?_
 ·refine ay (GJ (be _ (be _ ah)) hv.1) ?_
  rw[hv.1] at hN
  exact hN
 ·rw[t7]
  have xx:∀a b c:List aT,aA H' (H'++a++b++c):=λa b c=>(aA.aU H' a).trans ((aA.aU _ b).trans (aA.aU _ c))
  refine q _ _ _ (by rw[length_map];exact GQ) (λe he=>(mem_map.mp he).elim λh hh=>hh.2▸?_) (x.trans ((aA.aU H' _).trans (aA.aU _ _))).len (x.trans (xx _ _ _)) (bu _ _) ?_
  ·refine(?_:(lH hp h).length<=42)
   unfold lH rS
   cases hf:hp.find? λp=>decide (p.1=h) with
   |none=>exact zero_le _
   |some e=>exact oh _ λZ Z ln=>ln e (List.mem_of_find?_eq_some hf)
  ·exact GO _ λh hh=>(get h hh).elim λv hv=>hv.2 _ λlv hb ev av=>(.mk lv hb (by rw[hv.1,ev];rfl) (xx _ _ _ _ _ av))
theorem Sr{d:Int}{ps:List aE}(hW:dE ps)(hl:ps.length<=20){p:aE}(hp:ps[k]?=some p)(hA:H[l]?=some (.list (ps.map bL)))(q:GP H (lI ps d k) Q):az (n+5) zk [.ref l,nv k,.int d] H Q Y:=QH (by
 have Ss:=(List.getElem?_eq_some_iff.mp hp).1
 refine And.intro (be _ (bu _ _)) λep=>?_
 generalize Bo:(H++[aT.cL 0 []]++[aT.list [nv k]]).set H.length (.cL ep [(kz (k,false),.ref (H++[aT.cL 0 []]).length)])=H₂
 have b7:aA H H₂:=by rw[<-Bo];exact((aA.aU _ _).trans (aA.aU _ _)).set (le_refl _) _
 have jS:H₂[H.length]?=some (.cL ep [(kz (k,false),.ref (H++[aT.cL 0 []]).length)]):=by rw[<-Bo];exact dZ (be _ (bu _ _)) _
 have GR:H.length<(H++[aT.cL 0 []]).length:=by rw[length_append];exact lt_succ_self _
 have Su:H₂[(H++[aT.cL 0 []]).length]?=some (.list (aW [k])):=by rw[<-Bo];exact dQ (bu _ _) _ (ne_of_lt GR)
 have len₂:=cb jS
 have cz:aA H₂ (H₂++[aT.cL 0 []]++[aT.dict 0 []]):=(aA.aU _ _).trans (aA.aU _ _)
 refine AQ (Bk ps d k l (qc ps d k 41 [] [((k,false),[k])] []) H) (λf ρ H' h T ht tX=>?_) _ 41 _ _ (show 41<(k:Int).natAbs+(d.natAbs+1000) by lia) (.mk none none H.length H₂.length ((H₂++[aT.cL 0 []]).length) ep 0 0 _ [] [] [] [((k,false),[k])] [] 1 rfl (b7.trans cz) (le_of_lt len₂) (le_trans (le_of_lt len₂) (by rw[length_append];exact le_add_right _ _)) (ne_of_lt len₂) (cz _ _ jS) (be _ (bu _ _)) (bu _ _) (.cons ⟨rfl,(.mk _ (le_of_lt GR) rfl (cz _ _ Su))⟩ .nil) .nil .nil (.mk (nodup_cons.mpr ⟨not_mem_nil,nodup_nil⟩) (λe he=>by rw[mem_singleton.mp he];exact Ss) (λe he=>by rw[mem_singleton.mp he];exact le_refl 1)) (λs h=>(nomatch h)) (.mk nodup_nil (λs h=>(nomatch h)) (λs h=>(nomatch h))) (by refine(?_:2*ps.length<41+0);lia) rfl rfl)
 refine h _ λo6 o7 lw lk lh ew ek eh es ks hs kn ws hp L e x bk bh ne aw ak ah dw dk dh ok kr oh hf hL t=>?_
 subst e
 have done:hp=qc ps d k 41 [] [((k,false),[k])] []->∀H'',aA H' H''->aN ⟨az (n+4),Y⟩ (wV.drop 4) [some (.ref l),some (nv k),some (.int d),some (.ref lw),some (.ref lk),some (.ref lh),o6,o7] H'' (bH Q):=λqW H'' rX=>Sq hl (x.trans rX) (rX _ _ ah) (dh.imp λZ Z h=>h.ext rX) oh (by unfold lI at q;rw[<-qW] at q;exact q)
 cases f with
 |zero=>exact absurd (Bd (ok _ λnd Z Z=>(nodup_append.mp nd).1) kr) (by rw[length_map];lia)
 |succ f=>
  have t':(if hp.isEmpty&&!ws.isEmpty then qc ps d k f (ii kn ws) (rV ps d (ii kn ws) ws) (((rV ps d (ii kn ws) ws).map (·.1)).foldl (qb ps d k (rV ps d (ii kn ws) ws)) hp) else hp)=_:=t
  apply ay (Sh (be [.dict 0 []] ah) (bu H' (.dict 0 [])))
  rw[GK dh]
  refine fL (λh1=>?_) λh1=>?_
  ·apply ay (Si (be _ (be [.dict 0 []] aw)) (bu _ _))
   rw[GK dw]
   rw[h1,Bool.true_and] at t'
   refine(?_:T (!ws.isEmpty) _)
   cases hw:!ws.isEmpty with
   |false=>
    rw[hw] at t'
    exact tX _ (done t' _ ((aA.aU _ _).trans (aA.aU _ _)))
   |true=>
    rw[hw] at t'
    refine ht _ λN hN=>?_
    have xb:aA H' (H'++[aT.dict 0 []]++[aT.dict 0 []]):=(aA.aU _ _).trans (aA.aU _ _)
    generalize H'++[aT.dict 0 []]++[aT.dict 0 []]=Hb at xb ⊢
    have rY:=xb _ _ aw
    have yA:((ii kn ws).map (·.1)).Nodup:=by rw[GN];exact ok _ λnd Z Z=>nd
    have GS:∀s∈(ii kn ws).map (·.1),s.1<ps.length:=by
     rw[GN]
     exact λs hs=>(mem_append.mp hs).elim (kr s) λh=>(mem_map.mp h).elim λe he=>he.2▸ok _ λZ rg Z=>rg e he.1
    have len2:(ii kn ws).length<=40:=by rw[<-length_map (f:=(·.1))];exact le_trans (Bd yA GS) (mul_le_mul_left 2 hl)
    have nkh:lh≠lk:=λe=>by rw[e,ak] at ah;cases ah
    apply ay (Be rY)
    rw[dw.keys]
    refine e8 (mn (ii kn ws) lk (some (.ref l)) (some (nv k)) (some (.int d)) (some (.ref lw)) (some (.ref lh)) o7 Hb) (λs as ρ H₃ h=>?_) (λρ H₃ h=>?_) _ _ _ (.mk o6 ek ks kn rfl (bj.refl _ _) (xb _ _ ak) dk (by unfold ii;rw[map_map];rfl))
    ·refine h _ λo6 ek ks kd e x3 a dk t=>?_
     subst e
     refine λN' iL=>?_
     have hs:gf kd s=false:=by
      cases h:gf kd s with
      |false=>rfl
      |true=>
       rw[<-t,map_append] at yA
       exact absurd rfl ((nodup_append.mp yA).2.2 s (rT.mp h) s mem_cons_self)
     exact GG a (by rw[bP.len dk];exact nA t (le_trans len2 (by decide))) λep=>iL _ _ (cV rY ((x3.trans (bj.set _ _ _)) _ _ ne rY)) (.mk _ ep _ (kd++[(s,())]) rfl (x3.trans (bj.set _ _ _)) (dZ a _) (by rw[<-Sk hs];exact dH.put rU dk trivial) (gd t))
    ·refine h _ λo6 ek ks kd e x3 a dk t=>?_
     subst e
     rw[map_nil,append_nil] at t
     subst t
     have xH3:aA H H₃:=x3.ext (x.trans xb) bk
     have up:∀{w v},eV H.length H' w v->eV H.length H₃ w v:=λh=>(h.ext xb).set (xb _ _ ak) (λvs h=>nomatch h) x3
     refine ok _ λnd rg ln=>?_
     refine bQ (R7 (n:=n) hW hl (L:=L) (le_trans (le_trans (le_add_right L _) (le_of_eq hL)) (by decide)) (xH3 _ _ hA) a dk (x3 _ _ ne rY) (dw.imp λZ Z h=>up h) xH3.len yA rg (GL ln) λlf ef fs H₄ d7 blf af df okf=>?_)
     generalize Sv:(List.map (·.1) ws).foldl (p9 ps d (ii kn ws) ws) []=W at df okf
     rw[show rV ps d (ii kn ws) ws=W from Sv] at t'
     have x4H:=xH3.trans d7
     apply ay (Be af)
     rw[df.keys]
     have klt:=lt_of_lt_of_le (cb a) blf
     refine e8 (Bm ps (qb ps d k W) ((W.map (·.1)).foldl (qb ps d k W) hp) H.length lh (some (.ref l)) (some (nv k)) (some (.int d)) (some (.ref lf)) (some (.ref lk)) H₄ (W.map (·.1))) (λs as ρ H₅ h=>?_) (λρ H₅ h=>?_) _ _ _ (.mk o6 o7 eh hs hp rfl (bj.refl _ _) (d7 _ _ (x3 _ _ nkh (xb _ _ ah))) (dh.imp λZ Z h=>(up h).ext d7) oh rfl (λs h=>h))
     ·refine h _ λo6 o7 eh hs hp e x5 rZ t9 oh t bs=>?_
      subst e
      refine λN' iL=>?_
      have pI:s.1<ps.length:=(mem_map.mp (bs s mem_cons_self)).elim λe he=>he.2▸okf _ λZ rg Z=>rg e he.1
      refine(at_of pI).elim λp' cB=>?_
      have x5H:aA H H₅:=x5.ext x4H bh
      have nfh:lf≠lh:=λe=>by rw[e,d7 _ _ (x3 _ _ nkh (xb _ _ ah))] at af;cases af
      have GU:=x5 _ _ nfh af
      have st:∀c,eZ [lf] H₄ (H₅.set lh c)=true:=λc=>cV af ((x5.trans (bj.set _ _ c)) _ _ nfh af)
      refine(df.get rU s (rT.mpr (bs s mem_cons_self))).elim λw hw=>hw.elim λwv hw=>?_
      have gw:i9 W s=w:=by unfold i9;rw[hw.1];rfl
      have GV:eV H.length H₅ w wv:=hw.2.2.set (d7 _ _ (x3 _ _ nkh (xb _ _ ah))) (λvs h=>nomatch h) x5
      rw[foldl_cons] at t
      have oj:∀s∈as,s∈W.map (·.1):=λs h=>bs s (.tail _ h)
      refine Sp (n:=n) (x5H _ _ hA) cB GU hw.2.1 rZ t9 GV (by rw[bP.len t9];exact lt_of_le_of_lt (le_trans oh.len hl) (by decide)) (λhc ep=>?_) λhc=>?_
      ·have x6:=bj.set lh H₅ (.dict ep (dput hs (hz s.1) wv))
       refine iL _ _ (st _) (.mk _ _ ep _ (jt hp s.1 w) rfl (x5.trans x6) (dZ rZ _) (dH.put yz (t9.imp λZ Z h=>h.set rZ (λvs h=>nomatch h) x6) (GV.set rZ (λvs h=>nomatch h) x6)) (oh.put pI (by rw[<-gw];exact GL (okf _ λZ Z ln=>λe he=>le_trans (ln e he) (by lia)) s)) (?_) oj)
       rw[show qb ps d k W hp s=jt hp s.1 w by unfold qb;rw[gw,gR cB,if_pos hc]] at t
       exact t
      ·refine iL _ _ (cV af GU) (.mk _ _ eh hs hp rfl x5 rZ t9 oh (?_) oj)
       rw[show qb ps d k W hp s=hp by unfold qb;rw[gw,gR cB,if_neg (by rw[hc];decide)]] at t
       exact t
     ·refine h _ λo6 o7 eh hs hp e x5 rZ t9 oh t bs=>?_
      subst e
      rw[foldl_nil] at t
      rw[<-t] at t'
      have lkh:lk≠lh:=λe=>nkh e.symm
      have a5:=x5 _ _ lkh (d7 _ _ a)
      have nfh:lf≠lh:=λe=>by rw[e,d7 _ _ (x3 _ _ nkh (xb _ _ ah))] at af;cases af
      exact hN f _ _ (lt_succ_self f) (.mk o6 o7 lf lk lh ef _ eh fs _ hs (ii kn ws) W hp (L+1) rfl (x5.ext x4H bh) bk bh (ne_of_gt klt) (x5 _ _ nfh af) a5 rZ (df.imp λZ Z h=>h.set (d7 _ _ (x3 _ _ nkh (xb _ _ ah))) (λvs h=>nomatch h) x5) dk t9 okf GS oh (by
       have:1<=ws.length:=by
        cases ws with
        |nil=>cases hw
        |cons a r=>exact le_add_left _ _
       unfold ii
       rw[length_append,length_map]
       lia) (by lia) t')
  ·rw[h1,Bool.false_and] at t'
   refine(?_:T hp.isEmpty _)
   rw[h1]
   exact tX _ (done t' _ (aA.aU _ _)))
end
end Mine.L
namespace Mine.L
variable{Y:PQ}
open Mine.P PySem
structure cc where
 a:Nat
 b:Nat
 day:Int
structure c6 where
 cT:Nat
 day:Int
 cC:List (Nat×Rat)
noncomputable def gq(w:cc):V:=.aC [nv w.a,nv w.b,.int w.day]
noncomputable def nC(g:Nat×Rat):V:=.aC [nv g.1,rv g.2]
noncomputable def ij(gs:List (Nat×Rat)):V:=.aC (gs.map nC)
noncomputable def d6(w:c6):V:=.aC [nv w.cT,.int w.day,ij w.cC]
noncomputable def eH(a k:Nat):Bool:=((a:Int)==(k:Int))
noncomputable def optN:Option Nat->V
 |none=>.none
 |some k=>nv k
noncomputable def iC(ps:List aE)(d:Int)(k:Nat):List cc->Option Nat
 |[]=>none
 |w::r=>if decide (w.day<=d)&&(eH w.a k&&lv ps d w.b) then some w.b else if decide (w.day<=d)&&(eH w.b k&&lv ps d w.a) then some w.a else iC ps d k r
noncomputable def dS(k:Nat)(d:Int):List c6->Int->List (Nat×Rat)->List (Nat×Rat)
 |[],_,g=>g
 |w::r,m,g=>if eH w.cT k&&(decide (m<=w.day)&&decide (w.day<=d)) then dS k d r w.day w.cC else dS k d r m g
theorem Bp{P:List (Nat×Rat)->Prop}{k:Nat}{d:Int}:∀(ws:List c6) (m:Int) (g:List (Nat×Rat)),(∀w∈ws,P w.cC)->P g->P (dS k d ws m g)
 |[],_,g,_,h=>h
 |w::r,m,g,hw,h=>by
  unfold dS
  split
  ·exact Bp r _ _ (λw h=>hw w (.tail _ h)) (hw w mem_cons_self)
  ·exact Bp r _ _ (λw h=>hw w (.tail _ h)) h
noncomputable def lK(n:Nat)(ms:List cc):Prop:=∀w∈ms,w.a<n/\w.b<n
noncomputable def Bq(ps:List aE)(d:Int)(k:Nat)(x0:V)(tot:Option Nat)(n:Nat)(H:Hp)(as:List cc)(ρ:aO)(H':Hp):Prop:=∀SpIζ:Prop,(∀(o3 o4 o5:Option V) (e:ρ=[some x0,some (nv k),some (.int d),o3,o4,o5]) (eh:H'=H) (t:iC ps d k as=tot) (b:lK n as),SpIζ)->SpIζ
theorem Bq.mk{ps:List aE}{d:Int}{k:Nat}{x0:V}{tot:Option Nat}{n:Nat}{H:Hp}{as:List cc}{ρ:aO}{H':Hp}(o3 o4 o5:Option V)(e:ρ=[some x0,some (nv k),some (.int d),o3,o4,o5])(eh:H'=H)(t:iC ps d k as=tot)(b:lK n as):Bq ps d k x0 tot n H as ρ H':=λZ bY=>bY o3 o4 o5 e eh t b
noncomputable def Br(k:Nat)(d:Int)(x0:V)(tot:List (Nat×Rat))(H:Hp)(as:List c6)(ρ:aO)(H':Hp):Prop:=∀WiIζ:Prop,(∀(m:Int) (g:List (Nat×Rat)) (o5 o6 o7:Option V) (e:ρ=[some x0,some (nv k),some (.int d),some (.int m),some (ij g),o5,o6,o7]) (eh:H'=H) (t:dS k d as m g=tot),WiIζ)->WiIζ
theorem Br.mk{k:Nat}{d:Int}{x0:V}{tot:List (Nat×Rat)}{H:Hp}{as:List c6}{ρ:aO}{H':Hp}(m:Int)(g:List (Nat×Rat))(o5 o6 o7:Option V)(e:ρ=[some x0,some (nv k),some (.int d),some (.int m),some (ij g),o5,o6,o7])(eh:H'=H)(t:dS k d as m g=tot):Br k d x0 tot H as ρ H':=λZ bY=>bY m g o5 o6 o7 e eh t
section
variable{n:Nat}{l lm lw k:Nat}{H:Hp}{Q:PQ}
theorem Sw{d:Int}{ps:List aE}{ms:List cc}{z:V}(hA:H[l]?=some (.list (ps.map bL)))(hM:H[lm]?=some (.list (ms.map gq)))(hw:lK ps.length ms)(q:Q (optN (iC ps d k ms)) H):az (n+2) zm [.aC [.ref l,.ref lm,z],nv k,.int d] H Q Y:=QS (by
 apply ay (dg hM)
 refine e8 (Bq ps d k (.aC [.ref l,.ref lm,z]) (iC ps d k ms) ps.length H) (λw as ρ H' h=>?_) (λρ H' h=>?_) _ _ _ (.mk none none none rfl rfl rfl hw)
 ·refine h _ λo3 o4 o5 e eh t b=>?_
  subst e eh
  refine λN hN=>?_
  have i7:=b w mem_cons_self
  refine(at_of i7.1).elim λpa ha=>(at_of i7.2).elim λpb hb=>?_
  have t:(if decide (w.day<=d)&&(eH w.a k&&lv ps d w.b) then some w.b else if decide (w.day<=d)&&(eH w.b k&&lv ps d w.a) then some w.a else iC ps d k as)=iC ps d k ms:=t
  rw[gR ha,gR hb] at t
  have no:(decide (w.day<=d)&&(eH w.a k&&dK pb d))=false->(decide (w.day<=d)&&(eH w.b k&&dK pa d))=false->N [some (.aC [.ref l,.ref lm,z]),some (nv k),some (.int d),some (nv w.a),some (nv w.b),some (.int w.day)] H':=λh1 h2=>hN _ _ (cV hM hM) (.mk _ _ _ rfl rfl (by rw[h1,h2] at t;exact t) (λw h=>b w (.tail _ h)))
  have second:(decide (w.day<=d)&&(eH w.a k&&dK pb d))=false->aN ⟨az (n+1),Y⟩ [.bz (.and [(.cmp .le (.J 5) (.J 2)),(.cmp .eq (.J 4) (.J 1)),(.call iY [(.aM (.J 0) (.k (.int 0))),.J 3,.J 2])]) [.ret (.J 3)] []] [some (.aC [.ref l,.ref lm,z]),some (nv k),some (.int d),some (nv w.a),some (nv w.b),some (.int w.day)] H' (n0 (λo=>kZ o (λρ H=>aN ⟨az (n+1),Y⟩ [.ret (.k .none)] ρ H (bH Q)) (bH Q o)) N):=λh1=>by
   have no:=no h1
   rw[h1] at t
   refine(?_:bB (decide (w.day<=d)==true) _ _)
   refine fL (λh2=>?_) λh2=>fq h2 (no (by rw[h2];rfl))
   rw[h2] at t no
   refine(?_:bB (eH w.b k==true) _ _)
   refine fL (λh3=>?_) λh3=>fq h3 (no (by rw[h3];rfl))
   rw[h3] at t no
   refine bQ (nz hA ha ?_)
   refine(?_:bB (dK pa d) _ _)
   refine cM (λh4=>?_) λh4=>no (by rw[h4];rfl)
   rw[h4] at t
   rw[<-t] at q
   exact q
  refine(?_:bB (decide (w.day<=d)==true) _ _)
  refine fL (λh2=>?_) λh2=>fq h2 (second (by rw[h2];rfl))
  rw[h2] at t second
  refine(?_:bB (eH w.a k==true) _ _)
  refine fL (λh3=>?_) λh3=>fq h3 (second (by rw[h3];rfl))
  rw[h3] at t second
  refine bQ (nz hA hb ?_)
  refine(?_:bB (dK pb d) _ _)
  refine cM (λh4=>?_) λh4=>second (by rw[h4];rfl)
  rw[h4] at t
  rw[<-t] at q
  exact q
 ·refine h _ λo3 o4 o5 e eh t b=>?_
  subst e eh
  rw[<-t] at q
  exact q)
theorem Sy{d:Int}{ws:List c6}{y z:V}(hM:H[lw]?=some (.list (ws.map d6)))(q:Q (ij (dS k d ws (-1) [])) H):az (n+1) zo [.aC [y,z,.ref lw],nv k,.int d] H Q Y:=QT (by
 apply ay (dg hM)
 refine e8 (Br k d (.aC [y,z,.ref lw]) (dS k d ws (-1) []) H) (λw as ρ H' h=>?_) (λρ H' h=>?_) _ _ _ (.mk (-1) [] none none none rfl rfl rfl)
 ·refine h _ λm g o5 o6 o7 e eh t=>?_
  subst e eh
  refine λN hN=>?_
  have t:(if eH w.cT k&&(decide (m<=w.day)&&decide (w.day<=d)) then dS k d as w.day w.cC else dS k d as m g)=dS k d ws (-1) []:=t
  have no:(eH w.cT k&&(decide (m<=w.day)&&decide (w.day<=d)))=false->N [some (.aC [y,z,.ref lw]),some (nv k),some (.int d),some (.int m),some (ij g),some (nv w.cT),some (.int w.day),some (ij w.cC)] H':=λh=>hN _ _ (cV hM hM) (.mk m g _ _ _ rfl rfl (by rw[h] at t;exact t))
  refine(?_:bB (eH w.cT k==true) _ _)
  refine fL (λh1=>?_) λh1=>fq h1 (no (by rw[h1];rfl))
  rw[h1] at t no
  refine(?_:bB (decide (m<=w.day)) _ _)
  refine cM (λh2=>?_) λh2=>no (by rw[h2];rfl)
  rw[h2] at t no
  refine(?_:bB (decide (w.day<=d)) _ _)
  refine cM (λh3=>?_) λh3=>no (by rw[h3];rfl)
  rw[h3] at t
  exact hN _ _ (cV hM hM) (.mk w.day w.cC _ _ _ rfl rfl t)
 ·refine h _ λm g o5 o6 o7 e eh t=>?_
  subst e eh
  have t:g=_:=t
  rw[<-t] at q
  exact q)
theorem GW{d:Int}{ps:List aE}{p:aE}(hA:H[l]?=some (.list (ps.map bL)))(hp:ps[k]?=some p)(q:Q (.bool (dK p d)) H):az (n+1) sW [.ref l,nv k,.int d] H Q Y:=Q7 (by
 have q:Q (.bool (decide (p.aX<=d)&&before d p.bA)) H:=q
 apply ay (e7 hA hp)
 refine(?_:bB (decide (d<p.aX)) _ _)
 refine rM (λh=>?_) λh=>?_
 ·rw[decide_eq_false (not_le.mpr h)] at q;exact q
 ·rw[decide_eq_true (Int.not_lt.mp h),Bool.true_and] at q
  apply ay (e7 hA hp)
  unfold bL
  cases hd:p.bA with
  |none=>rw[hd] at q;exact q
  |some e=>
   rw[hd] at q
   apply ay (e7 hA hp)
   unfold bL
   rw[hd]
   exact q)
end
end Mine.L
namespace Mine.L
variable{Y:PQ}
open Mine.P PySem
structure dO where
 gI:Option Nat
 part:Rat
 how:Str
 line:List Nat
noncomputable def Bs(b lr:Nat)(H:Hp)(r:dO)(v:V):Prop:=∀DealAtζ:Prop,(∀(l:Nat) (hb:b<=l) (hn:l≠lr) (e:v=.aC [optN r.gI,rv r.part,.str r.how,.ref l]) (a:H[l]?=some (.list (aW r.line))),DealAtζ)->DealAtζ
theorem Bs.mk{b lr:Nat}{H:Hp}{r:dO}{v:V}(l:Nat)(hb:b<=l)(hn:l≠lr)(e:v=.aC [optN r.gI,rv r.part,.str r.how,.ref l])(a:H[l]?=some (.list (aW r.line))):Bs b lr H r v:=λZ bY=>bY l hb hn e a
noncomputable abbrev jV(b lr:Nat)(H:Hp):List dO->List V->Prop:=bP (Bs b lr H)
theorem jV.b{b lr:Nat}{H H':Hp}{rs:List dO}{vs:List V}(h:jV b lr H rs vs)(x:bj lr H H'):jV b lr H' rs vs:=h.imp λZ Z h=>h _ λl hb hn e a=>(.mk l hb hn e (x l _ hn a))
noncomputable def ua(k:Nat)(s:Rat)(r:Row):dO:=⟨some r.gI,s*r.lE,"will",k::r.line⟩
noncomputable def gS(ps:List aE)(d:Int)(k:Nat)(g:Nat×Rat):List dO:=if lv ps d g.1 then[⟨some g.1,g.2,"will",[k,g.1]⟩] else(iK ps d 20 g.1).map (ua k g.2)
noncomputable def counts(ps:List aE)(d:Int)(g:Nat×Rat):Bool:=lv ps d g.1||(kids ps d g.1).any (gH ps d 20)
noncomputable def kI(ps:List aE)(d:Int)(t:Rat)(g:Nat×Rat):Rat:=if counts ps d g then t+g.2 else t
noncomputable def nD(n:Nat)(gs:List (Nat×Rat)):Prop:=∀g∈gs,g.1<n/\Sm 10 g.2
noncomputable def vN(N:Nat)(w:c6):Prop:=∀WlOkζ:Prop,(∀(gk:nD N w.cC/\w.cC.length<=10) (dy:0<=w.day) (ns:List Nat) (ov un:Nat) (h:un≠0) (e:w.cC=ns.map λj=>(j,Rat.normalize ov un h)) (o1:1<=ov) (u1:un<1000) (le:ov*ns.length<=un) (nd:ns.Nodup/\w.cT∉ns/\ns≠[]),WlOkζ)->WlOkζ
theorem vN.mk{N:Nat}{w:c6}(gk:nD N w.cC/\w.cC.length<=10)(dy:0<=w.day)(ns:List Nat)(ov un:Nat)(h:un≠0)(e:w.cC=ns.map λj=>(j,Rat.normalize ov un h))(o1:1<=ov)(u1:un<1000)(le:ov*ns.length<=un)(nd:ns.Nodup/\w.cT∉ns/\ns≠[]):vN N w:=λZ bY=>bY gk dy ns ov un h e o1 u1 le nd
noncomputable def vO(N:Nat)(ws:List c6):Prop:=∀w∈ws,vN N w
theorem Sm.add{i j:Nat}{x y:Rat}(hx:Sm i x)(hy:Sm j y):Sm (i+j+1) (x+y):=by
 rw[Rat.add_def]
 refine Sm.pW _ (lt_of_le_of_lt (Int.natAbs_add_le _ _) ?_) (lt_of_lt_of_le (pX hx.2 hy.2) (pow_le_pow_right (by decide) (le_succ _)))
 rw[natAbs_mul,natAbs_mul]
 exact Gc (pX hx.1 hy.2) (by rw[add_comm];exact pX hy.1 hx.2)
theorem Sm.kI{ps:List aE}{d:Int}{i:Nat}{t:Rat}{g:Nat×Rat}(ht:Sm i t)(hg:Sm 10 g.2):Sm (i+11) (kI ps d t g):=by
 unfold L.kI
 split
 ·exact ht.add hg
 ·exact ht.le (le_add_right _ _)
theorem Sz{ps:List aE}{d:Int}{k:Nat}(h:(kids ps d k).any (gH ps d 20)=false):iK ps d 20 k=[]:=by
 have e:iB ps d (kids ps d k)=[]:=List.filter_eq_nil_iff.mpr λc hc=>by
  rw[any_eq_false] at h
  exact h c hc
 refine(?_:ie ps d (iK ps d 19) k (iB ps d (kids ps d k))=[])
 rw[e];rfl
theorem GX{ps:List aE}(hW:dE ps)(hl:ps.length<=20){d:Int}{k:Nat}{g:Nat×Rat}(hg:g.1<ps.length):(gS ps d k g).length<=1048576:=by
 unfold gS
 split
 ·exact(by decide:1<=1048576)
 ·rw[length_map]
  exact le_trans (vJ hW 20 g.1 _ (getElem?_eq_getElem hg)) (yr hl _)
noncomputable def Bt(ps:List aE)(d:Int)(k l lr b:Nat)(x2:V)(H₁:Hp)(tot:List dO)(sum:Rat)(as:List (Nat×Rat))(ρ:aO)(H':Hp):Prop:=∀GvIζ:Prop,(∀(o6 o7 o8 o9 o10:Option V) (s:Rat) (i:Nat) (rs:List dO) (vs:List V) (e:ρ=[some (.ref l),some (nv k),some x2,some (.int d),some (.ref lr),some (rv s),o6,o7,o8,o9,o10]) (x:bj lr H₁ H') (a:H'[lr]?=some (.list vs)) (r:jV b lr H' rs vs) (t:rs++as.flatMap (gS ps d k)=tot) (ts:as.foldl (kI ps d) s=sum) (sm:Sm i s) (hi:i+11*as.length<=1000) (g:nD ps.length as),GvIζ)->GvIζ
theorem Bt.mk{ps:List aE}{d:Int}{k l lr b:Nat}{x2:V}{H₁:Hp}{tot:List dO}{sum:Rat}{as:List (Nat×Rat)}{ρ:aO}{H':Hp}(o6 o7 o8 o9 o10:Option V)(s:Rat)(i:Nat)(rs:List dO)(vs:List V)(e:ρ=[some (.ref l),some (nv k),some x2,some (.int d),some (.ref lr),some (rv s),o6,o7,o8,o9,o10])(x:bj lr H₁ H')(a:H'[lr]?=some (.list vs))(r:jV b lr H' rs vs)(t:rs++as.flatMap (gS ps d k)=tot)(ts:as.foldl (kI ps d) s=sum)(sm:Sm i s)(hi:i+11*as.length<=1000)(g:nD ps.length as):Bt ps d k l lr b x2 H₁ tot sum as ρ H':=λZ bY=>bY o6 o7 o8 o9 o10 s i rs vs e x a r t ts sm hi g
noncomputable def Bu(k lr b:Nat)(x0 x2 x3 x5 x6:Option V)(s:Rat)(H₁:Hp)(rest tot:List dO)(as:List Row)(ρ:aO)(H':Hp):Prop:=∀GwIζ:Prop,(∀(o8 o9 o10:Option V) (rs:List dO) (vs:List V) (e:ρ=[x0,some (nv k),x2,x3,some (.ref lr),x5,x6,some (rv s),o8,o9,o10]) (x:bj lr H₁ H') (a:H'[lr]?=some (.list vs)) (r:jV b lr H' rs vs) (t:rs++(as.map (ua k s)++rest)=tot),GwIζ)->GwIζ
theorem Bu.mk{k lr b:Nat}{x0 x2 x3 x5 x6:Option V}{s:Rat}{H₁:Hp}{rest tot:List dO}{as:List Row}{ρ:aO}{H':Hp}(o8 o9 o10:Option V)(rs:List dO)(vs:List V)(e:ρ=[x0,some (nv k),x2,x3,some (.ref lr),x5,x6,some (rv s),o8,o9,o10])(x:bj lr H₁ H')(a:H'[lr]?=some (.list vs))(r:jV b lr H' rs vs)(t:rs++(as.map (ua k s)++rest)=tot):Bu k lr b x0 x2 x3 x5 x6 s H₁ rest tot as ρ H':=λZ bY=>bY o8 o9 o10 rs vs e x a r t
section
variable{n:Nat}{l k:Nat}{H:Hp}{Q:PQ}
theorem SA{d:Int}{ps:List aE}(hW:dE ps)(hl:ps.length<=20){gs:List (Nat×Rat)}(hg:nD ps.length gs)(qe:gs.length<=10)(hA:H[l]?=some (.list (ps.map bL)))
  (q:∀lr vs H',H.length<=lr->aA H H'->H'[lr]?=some (.list vs)->jV H.length lr H' (gs.flatMap (gS ps d k)) vs->Q (.aC [.ref lr,rv (gs.foldl (kI ps d) 0)]) H'):az (n+64) zp [.ref l,nv k,ij gs,.int d] H Q Y:=QU (by
 have ht:(gs.flatMap (gS ps d k)).length<=16000000:=le_trans (yu λg h=>GX hW hl (hg g h).1) (le_trans (Nat.mul_le_mul_right _ qe) (by decide))
 refine e8 (g:=nC) (Bt ps d k l H.length H.length (ij gs) (H++[.list []]) (gs.flatMap (gS ps d k)) (gs.foldl (kI ps d) 0)) (λg as ρ H' h=>?_) (λρ H' h=>?_) gs _ _ (.mk none none none none none 0 1 [] [] rfl (bj.refl _ _) (bu _ _) .nil rfl rfl ⟨by decide,by decide⟩ (by lia) hg)
 ·refine h _ λo6 o7 o8 o9 o10 s i rs vs e x a r t ts sm hi hg=>?_
  subst e
  refine λN hN=>?_
  have ub:=hg g mem_cons_self
  have xH:aA H H':=x.ext (aA.aU _ _) (le_refl _)
  refine(at_of ub.1).elim λp hp=>?_
  rw[flatMap_cons,show gS ps d k g=if dK p d then[⟨some g.1,g.2,"will",[k,g.1]⟩] else(iK ps d 20 g.1).map (ua k g.2) by rw[<-gR hp];rfl] at t
  rw[foldl_cons,show kI ps d s g=if dK p d||(kids ps d g.1).any (gH ps d 20) then s+g.2 else s by rw[<-gR hp];rfl] at ts
  rw[length_cons] at hi
  have GY:i+10<=1000000:=by lia
  refine bQ (nz (xH _ _ hA) hp ?_)
  refine(?_:bB (dK p d) _ _)
  refine cM (λh1=>?_) λh1=>?_
  ·rw[h1] at t ts
   have t:rs++(⟨some g.1,g.2,"will",[k,g.1]⟩::as.flatMap (gS ps d k))=_:=t
   refine gb a (gc (be _ a) (by rw[r.len];exact nA t ht) ?_)
   refine bQ (AY sm ub.2 GY ?_)
   exact hN _ _ rfl (.mk _ _ _ _ _ (s+g.2) (i+11) (rs++[⟨some g.1,g.2,"will",[k,g.1]⟩]) _ rfl (x.trans ((bj.aU _ _ _).trans (bj.set _ _ _))) (dZ (be _ a) _) ((r.b ((bj.aU _ _ _).trans (bj.set _ _ _))).snoc (.mk H'.length xH.len (ne_of_gt (cb a)) rfl (dQ (bu _ _) _ (ne_of_lt (cb a))))) (gd t) ts (sm.add ub.2) (by lia) (λg h=>hg g (.tail _ h)))
  ·rw[h1] at t ts
   have t:rs++((iK ps d 20 g.1).map (ua k g.2)++as.flatMap (gS ps d k))=_:=t
   refine bQ (vE (n:=n+61) (xH _ _ hA) hl λlc H₂ A9 b7 hc=>?_)
   apply ay (dg hc)
   refine dj (du (by rw[length_map];exact lt_of_le_of_lt (le_trans (pU ps d g.1) hl) (by decide))) ?_
   refine Gp (n:=n+41) (i:=2) hW hl (λc' lG=>tY hW hp lG λq hq Z Z=>⟨q,hq⟩) rfl ((xH.trans b7) _ _ hA) hc λH₃ cz=>?_
   apply ay (Gq (bu _ _))
   rw[Gr]
   have r6:=b7.trans (cz.trans (aA.aU _ [.list ((kids ps d g.1).map λc=>.bool (gH ps d 20 c))]))
   generalize H₃++[aT.list ((kids ps d g.1).map λc=>.bool (gH ps d 20 c))]=H₄ at r6 ⊢
   refine cM (λh2=>?_) λh2=>?_
   ·rw[h2] at ts
    refine bQ (yt (n:=n) hW hl (f:=20) (le_refl _) ((xH.trans r6) _ _ hA) hp (lt_of_lt_of_le (vF (mem_of_getElem? hp)) hl) λlb us H₅ hb gp ab rb=>?_)
    have Bv:=r6.trans gp
    have a':=Bv _ _ a
    have pY:=lt_of_lt_of_le (lt_of_lt_of_le (cb a) r6.len) hb
    apply ay (dg ab)
    refine vI (R:=λr v=>r∈iK ps d 20 g.1/\kE (lb+1) H₅ r v) (Bu k H.length H.length (some (.ref l)) (some (ij gs)) (some (.int d)) (some (rv s)) (some (nv g.1)) g.2 H₅ (as.flatMap (gS ps d k)) (gs.flatMap (gS ps d k))) (λrw v bs ρ H₆ hv h=>?_) (λρ H₆ h=>?_) (rb.imp' λr v hr hv=>⟨hr,hv⟩) _ _ (.mk _ _ _ rs vs rfl (bj.refl _ _) a' (r.b (Bv.b _)) t)
    ·refine hv.2 _ λll jr e al=>?_
     subst e
     refine h _ λo8 o9 o10 rs vs e fA a r t=>?_
     subst e
     refine λN' iL=>?_
     have sr:=rQ hl 20 _ _ hv.1
     have nl:ll≠H.length:=ne_of_gt (lt_trans pY jr)
     refine gb a (bQ (vH ub.2 sr.1 (by decide) ?_))
     refine mu (bu _ _) (be _ (fA _ _ nl al)) (by rw[length_append,length_map];exact lt_of_le_of_lt (add_le_add_left sr.2 _) (show 1+(20+1)<16000000 by decide)) ?_
     have vP:bj H.length H₆ _:=(bj.aU _ H₆ [aT.list [nv k]]).trans ((bj.aU _ _ [aT.list (aW (k::rw.line))]).trans (bj.set _ _ (.list (vs++[.aC [nv rw.gI,rv (g.2*rw.lE),.str "will",.ref (H₆++[aT.list [nv k]]).length]]))))
     have cU:=cb (be [aT.list [nv k]] a)
     exact gc (be _ (be _ a)) (by rw[r.len];exact nA t ht) (iL _ _ (cV ab ((fA.trans vP) _ _ (ne_of_gt pY) ab)) (.mk _ _ _ (rs++[ua k g.2 rw]) _ rfl (fA.trans vP) (dZ (be _ (be _ a)) _) ((r.b vP).snoc (.mk ((H₆++[aT.list [nv k]]).length) (le_of_lt cU) (ne_of_gt cU) rfl (dQ (bu _ _) _ (ne_of_lt cU)))) (gd t)))
    ·refine h _ λo8 o9 o10 rs vs e fA a r t=>?_
     subst e
     refine bQ (AY sm ub.2 GY ?_)
     exact hN _ _ rfl (.mk _ _ _ _ _ (s+g.2) (i+11) rs vs rfl (x.trans ((Bv.b _).trans fA)) a r t ts (sm.add ub.2) (by lia) (λg h=>hg g (.tail _ h)))
   ·rw[h2] at ts
    rw[Sz h2] at t
    exact hN _ _ rfl (.mk _ _ _ _ _ s i rs vs rfl (x.trans (r6.b _)) (r6 _ _ a) (r.b (r6.b _)) t ts sm (by lia) (λg h=>hg g (.tail _ h)))
 ·refine h _ λo6 o7 o8 o9 o10 s i rs vs e x a r t ts sm hi hg=>?_
  subst e
  rw[flatMap_nil,append_nil] at t
  rw[foldl_nil] at ts
  subst t ts
  exact q _ vs _ (le_refl _) (x.ext (aA.aU _ _) (le_refl _)) a r)
end
end Mine.L
namespace Mine.L
variable{Y:PQ}
open Mine.P PySem
noncomputable def nE(x:Rat):PyData:=.tuple [.int x.num,.int (x.den:Int)]
noncomputable def Bw(l:List Nat):PyData:=.list (l.map λi:Nat=>.int i)
noncomputable def GZ(r:Row):PyData:=.tuple [.int r.gI,nE r.lE,Bw r.line]
section
variable{n:Nat}{l k:Nat}{H:Hp}{Q:PQ}
theorem mx{m:Nat}{vs:List V}{ds:List PyData}(h:H[l]?=some (.list vs))(e:eY (rd H m) vs=some ds):rd H (m+1) (.ref l)=some (.list ds):=by
 refine(?_:((cS H (.ref l)).bind λvs=>(eY (rd H m) vs).map PyData.list)=_)
 rw[cA h]
 refine(?_:(eY (rd H m) vs).map PyData.list=_)
 rw[e];rfl
theorem G0{m:Nat}{w:List Nat}(h:H[l]?=some (.list (aW w))):rd H (m+1) (.ref l)=some (Bw w):=mx h (rN m w)
theorem fB{f:V->Option PyData}{v:V}{r:List V}{d:PyData}{ds:List PyData}(h:f v=some d)(hr:eY f r=some ds):eY f (v::r)=some (d::ds):=by
 refine(?_:(match f v,eY f r with|some d,some ds=>some (d::ds)|_,_=>none)=_)
 rw[h,hr]
theorem SD{α:Type}{R:α->V->Prop}{f:V->Option PyData}{g:α->PyData}{as:List α}{vs:List V}(h:bP R as vs)(k:∀a v,R a v->f v=some (g a)):eY f vs=some (as.map g):=h.rec (motive:=λas vs Z=>eY f vs=some (as.map g)) rfl λr Z ih=>fB (k _ _ r) ih
theorem Bx(x:Rat)(m:Nat):rd H (m+1) (rv x)=some (nE x):=congrArg (Option.map PyData.tuple) (fB (pT _ _) (fB (pT _ _) rfl))
theorem SE{b:Nat}{r:Row}{v:V}(h:kE b H r v):rd H 9 v=some (GZ r):=h _ λl Z e a=>by
 rw[e]
 exact congrArg (Option.map PyData.tuple) (fB rfl (fB (Bx _ _) (fB (G0 a) rfl)))
theorem none_list{vs:List V}(h:H[l]?=some (.list vs)):il H (.ref l)=none:=by
 refine(?_:(match H[l]?.bind gQ with|some es=>some es.isEmpty|none=>(H[l]?.bind jl).map List.isEmpty)=_)
 rw[h];rfl
theorem eq_nil{m:Nat}{vs:List V}{ds:List PyData}(h:H[l]?=some (.list vs))(e:eY (rd H 9) vs=some ds)(h':H[m]?=some (.list [])):eQ .eq (.ref l) (.ref m) H=some ds.isEmpty:=by
 refine(?_:kW H (.ref l) (.ref m)=_)
 unfold kW
 rw[none_list h,mx h e,mx h' (rfl:eY (rd H 9) []=some [])]
 cases ds<;>rfl
theorem ne_nil{m:Nat}{vs:List V}{ds:List PyData}(h:H[l]?=some (.list vs))(e:eY (rd H 9) vs=some ds)(h':H[m]?=some (.list [])):eQ .ne (.ref l) (.ref m) H=some (!ds.isEmpty):=congrArg (Option.map (!·)) (eq_nil h e h')
end
section
variable{ws:List Nat}{H₀:Hp}{t:cX}{α:Type}{R:α->V->Prop}
theorem G6{test:aO->Hp->(Bool->Hp->Prop)->Prop}{elt:aO->Hp->PQ->Prop}{Q:List V->Hp->Prop}(I:List α->List V->aO->Hp->Prop)(step:∀a v as aL ρ H,R a v->I (a::as) aL ρ H->aH (aS t v ρ) λb9=>∀N:List V->Hp->Prop,(∀acc' H',eZ ws H₀ H'=true->I as acc' b9 H'->N acc' H')->test b9 H λb H₁=>bB b (elt b9 H₁ λy H₂=>N (aL++[y]) H₂) (N aL H₁))(fin:∀aL ρ H,I [] aL ρ H->Q aL H){as:List α}{vs:List V}(h:bP R as vs):∀aL ρ H,I as aL ρ H->ip ws H₀ t test elt vs ρ H aL Q:=
 h.rec (motive:=λas vs Z=>∀aL ρ H,I as aL ρ H->ip ws H₀ t test elt vs ρ H aL Q) fin λr Z ih aL ρ H h=>vD (step _ _ _ aL ρ H r h) λb9 hb=>hb (λacc' H'=>eZ ws H₀ H'=true/\ip ws H₀ t test elt _ b9 H' acc' Q) λacc' H' hs hi=>⟨hs,ih acc' b9 H' hi⟩
end
noncomputable def By(m:Nat)(p:Nat×List Nat):Row:=⟨p.1,mkRat 1 m,p.2⟩
noncomputable def vQ(ps:List aE)(d:Int)(k:Nat):List Row:=(lI ps d k).map (By (lI ps d k).length)
noncomputable def Bz(b m:Nat)(eF:aO)(H:Hp)(tot:List (Nat×List Nat))(as:List (Nat×List Nat))(aL:List V)(ρ:aO)(H':Hp):Prop:=∀DgIζ:Prop,(∀(o o':Option V) (an:List (Nat×List Nat)) (e:ρ=o::o'::eF) (eh:H'=H) (r:bP (kE b H) (an.map (By m)) aL) (t:an++as=tot),DgIζ)->DgIζ
theorem Bz.mk{b m:Nat}{eF:aO}{H:Hp}{tot:List (Nat×List Nat)}{as:List (Nat×List Nat)}{aL:List V}{ρ:aO}{H':Hp}(o o':Option V)(an:List (Nat×List Nat))(e:ρ=o::o'::eF)(eh:H'=H)(r:bP (kE b H) (an.map (By m)) aL)(t:an++as=tot):Bz b m eF H tot as aL ρ H':=λZ bY=>bY o o' an e eh r t
noncomputable def SF(H:Hp)(rs:List Row)(f:V->V)(Q:PQ):Prop:=∀lr vs H',H.length<=lr->aA H H'->H'[lr]?=some (.list vs)->iA H.length H' rs vs->Q (f (.ref lr)) H'
noncomputable def fC(ps:List aE)(d:Int)(k:Nat)(p:aE):Str×List Row×Rat:=
 if !(iK ps d 20 k).isEmpty then("line",iK ps d 20 k,mkRat 1 4) else if !(t6 ps d k p).isEmpty then("parents",t6 ps d k p,mkRat 1 2) else("degree",vQ ps d k,if(lI ps d k).isEmpty then 1 else mkRat 3 4)
end Mine.L
namespace Mine.L
variable{Y:PQ}
open Mine.P PySem
noncomputable def ju(rs:List Row):Prop:=∀KinOkζ:Prop,(∀(len:rs.length<=2097152) (sm:∀r∈rs,Sm 120 r.lE) (ln:∀r∈rs,r.line.length<=50),KinOkζ)->KinOkζ
theorem ju.mk{rs:List Row}(len:rs.length<=2097152)(sm:∀r∈rs,Sm 120 r.lE)(ln:∀r∈rs,r.line.length<=50):ju rs:=λZ bY=>bY len sm ln
theorem iA.ext{b b':Nat}{H H':Hp}{rs:List Row}{vs:List V}(h:iA b H rs vs)(x:aA H H')(hb:b'<=b):iA b' H' rs vs:=h.imp λZ Z h=>h.mono λl c hl e=>⟨le_trans hb hl,x l c e⟩
theorem ju.of{f:Nat}{rs:List Row}(hf:f<=22)(hl:rs.length<=2097152)(h:∀r∈rs,kG f r):ju rs:=(.mk hl (λr hr=>(h r hr).1.le (le_trans (mul_le_mul_left 5 hf) (by decide))) (λr hr=>le_trans (h r hr).2 (le_trans (succ_le_succ hf) (by decide))))
theorem ju.SG{ps:List aE}{d:Int}{k:Nat}(h1:(lI ps d k).length<=20)(h2:∀e∈lI ps d k,e.2.length<=42):ju (vQ ps d k):=(.mk (by unfold vQ;rw[length_map];exact le_trans h1 (by decide)) (λr hr=>(mem_map.mp hr).elim λe he=>he.2▸(Sm.inv (λq=>absurd (eq_nil_of_length_eq_zero q) (ne_nil_of_mem he.1)) (lt_of_le_of_lt h1 (by decide))).le (by decide)) (λr hr=>(mem_map.mp hr).elim λe he=>he.2▸le_trans (h2 e he.1) (by decide)))
noncomputable def SH(H:Hp)(rs:List Row)(f:V->V)(Q:PQ):Prop:=ju rs->SF H rs f Q
section
variable{n:Nat}{l k:Nat}{H:Hp}{Q:PQ}
theorem yB{b:Nat}{rs:List Row}{vs:List V}(h:iA b H rs vs):eY (rd H 9) vs=some (rs.map GZ):=SD h λZ Z h=>SE h
theorem SI{d:Int}{ps:List aE}(hW:dE ps)(hl:ps.length<=20){p:aE}(hp:ps[k]?=some p)(hA:H[l]?=some (.list (ps.map bL)))(q:SH H (fC ps d k p).2.1 (λr=>.aC [.str (fC ps d k p).1,r]) Q):az (n+66) zq [.ref l,nv k,.int d] H Q Y:=QV (by
 refine bQ (yt (n:=n+2) hW hl (f:=20) (le_refl _) hA hp (lt_of_lt_of_le (vF (mem_of_getElem? hp)) hl) λlr vs H₁ hb x a r=>?_)
 have r':=r.ext (aA.aU H₁ [.list []]) (le_trans hb (le_succ _))
 apply ay (ne_nil (be _ a) (yB r') (bu _ _))
 rw[isEmpty_map]
 refine cM (λh1=>?_) λh1=>?_
 ·rw[show fC ps d k p=(("line":Str),iK ps d 20 k,mkRat 1 4) from if_pos h1] at q
  exact q (ju.of (by decide) (le_trans (vJ hW 20 k p hp) (le_trans (yr hl _) (by decide))) (rQ hl 20 k)) lr vs _ hb (x.trans (aA.aU _ _)) (be _ a) r'
 ·rw[show fC ps d k p=_ from if_neg (by rw[h1];decide)] at q
  have x1:=x.trans (aA.aU H₁ [.list []])
  generalize H₁++[aT.list []]=H₁' at x1 ⊢
  clear r' r a x
  refine bQ (RV (n:=n) hW hl hp (x1 _ _ hA) λlr vs H₂ hb x a r=>?_)
  have r':=r.ext (aA.aU H₂ [.list []]) (le_trans (le_trans x1.len hb) (le_succ _))
  apply ay (ne_nil (be _ a) (yB r') (bu _ _))
  rw[isEmpty_map]
  refine cM (λh2=>?_) λh2=>?_
  ·rw[if_pos h2] at q
   exact q (ju.of (le_refl _) (Gw hW hl hp) (RU hW hl hp)) lr vs _ (le_trans x1.len hb) ((x1.trans x).trans (aA.aU _ _)) (be _ a) r'
  ·rw[if_neg (by rw[h2];decide)] at q
   have x2:=(x1.trans x).trans (aA.aU H₂ [.list []])
   generalize H₂++[aT.list []]=H₂' at x2 ⊢
   clear r' r a x
   refine bQ (Sr (n:=n+60) hW hl hp (x2 _ _ hA) λlr vs H₃ rR SJ hb x a r=>?_)
   have ok:=ju.SG rR SJ
   have x3:=x2.trans x
   apply ay (dg a)
   refine dj (du (by rw[r.len];exact lt_of_le_of_lt rR (by decide))) ?_
   refine G6 (Bz H.length (lI ps d k).length [some (.ref l),some (nv k),some (.int d),_,some (.ref lr)] H₃ (lI ps d k)) (λe v as aL ρ H' hv h=>?_) (λaL ρ H' h=>?_) r _ _ _ (.mk none none [] rfl rfl .nil rfl)
   ·refine h _ λo o' an G7 eh ra t=>?_
    subst G7 eh
    refine hv _ λll jr ev al=>?_
    subst ev
    refine λN hN=>?_
    apply ay (cA a)
    rw[r.len]
    have hm:(lI ps d k).length≠0:=λq=>by
     have:=eq_nil_of_length_eq_zero q
     rw[this] at t
     cases an<;>cases t
    refine bQ (AZ hm (lt_of_le_of_lt rR (by decide)) ?_)
    exact hN _ _ (cV a a) (.mk _ _ (an++[e]) rfl rfl (by rw[map_append];exact ra.snoc (.mk ll (le_trans x2.len jr) rfl al)) (gd t))
   ·refine h _ λo o' an G7 eh ra t=>?_
    rw[append_nil] at t
    subst eh t
    exact q ok _ aL _ x3.len (x3.trans (aA.aU _ _)) (bu _ _) (iA.ext ra (aA.aU _ _) (le_refl _)))
end
end Mine.L
namespace Mine.L
variable{Y:PQ}
open Mine.P PySem
theorem G8:PyData.strOk "line"=true:=by decide +kernel
theorem G9:PyData.strOk "parents"=true:=by decide +kernel
theorem SK:PyData.strOk "degree"=true:=by decide +kernel
section
variable{n:Nat}{l k:Nat}{H:Hp}{Q:PQ}
noncomputable def BA(how:Str)(rs:List Row):Rat:=if rs.isEmpty then 1 else if how=="line" then mkRat 1 4 else if how=="parents" then mkRat 1 2 else mkRat 3 4
theorem uc{a b:Str}(ha:PyData.strOk a=true)(hb:PyData.strOk b=true):eQ .eq (.str a) (.str b) H=some (a==b):=by
 have e:∀{s:Str},PyData.strOk s=true->rd H 10 (.str s)=some (.str s):=λh=>if_pos h
 refine(?_:(rd H 10 (.str a)).bind (λd=>(rd H 10 (.str b)).map λe=>PyData.eqv d e)=_)
 rw[e ha,e hb];rfl
theorem SM{lr b:Nat}{how:Str}{rs:List Row}{vs:List V}(ho:PyData.strOk how=true)(a:H[lr]?=some (.list vs))(r:iA b H rs vs)(q:∀H',aA H H'->Q (rv (BA how rs)) H'):az (n+2) zr [.str how,.ref lr] H Q Y:=QW (by
 have q:=q _ (aA.aU H [.list []])
 unfold BA at q
 apply ay (eq_nil (be _ a) (yB (r.ext (aA.aU _ _) (le_refl _))) (bu _ _))
 rw[isEmpty_map]
 refine cM (λh1=>?_) λh1=>?_
 ·rw[if_pos h1] at q;exact q
 ·rw[if_neg (by rw[h1];decide)] at q
  apply ay (uc ho G8)
  refine cM (λh2=>?_) λh2=>?_
  ·rw[if_pos h2,<-Rat.normalize_eq_mkRat (by decide)] at q
   exact bQ (oI (d:=4) _ q)
  ·rw[if_neg (by rw[h2];decide)] at q
   apply ay (uc ho G9)
   refine cM (λh3=>?_) λh3=>?_
   ·rw[if_pos h3,<-Rat.normalize_eq_mkRat (by decide)] at q
    exact bQ (oI (d:=2) _ q)
   ·rw[if_neg (by rw[h3];decide),<-Rat.normalize_eq_mkRat (by decide)] at q
    exact bQ (oI (d:=4) _ q))
theorem SN(ps:List aE)(d:Int)(k:Nat)(p:aE):BA (fC ps d k p).1 (fC ps d k p).2.1=(fC ps d k p).2.2:=by
 unfold fC
 split
 ·rename_i h
  exact if_neg (by rw[not_eq_true' .. |>.mp h];decide)
 ·split
  ·rename_i h
   exact if_neg (by rw[not_eq_true' .. |>.mp h];decide)
  ·refine(?_:(if(vQ ps d k).isEmpty=true then _ else _)=_)
   rw[show(vQ ps d k).isEmpty=(lI ps d k).isEmpty from isEmpty_map]
   split<;>rfl
theorem Ha(ps:List aE)(d:Int)(k:Nat)(p:aE):PyData.strOk (fC ps d k p).1=true:=by
 unfold fC
 split
 ·exact G8
 ·split
  ·exact G9
  ·exact SK
end
end Mine.L
namespace Mine.L
variable{Y:PQ}
open Mine.P PySem
noncomputable def my(R:Rat)(how:Str)(r:Row):dO:=⟨some r.gI,R*r.lE,how,r.line⟩
noncomputable def jW(ps:List aE)(d:Int)(gs:List (Nat×Rat)):Rat:=1 - gs.foldl (kI ps d) 0
noncomputable def r7(ps:List aE)(d:Int)(k:Nat)(p:aE)(gs:List (Nat×Rat))(sp:Option Nat):List dO:=
 if(jW ps d gs).num==0 then gs.flatMap (gS ps d k) else match sp with
  |none=>if(fC ps d k p).2.1.isEmpty then gs.flatMap (gS ps d k)++[⟨none,jW ps d gs,"town",[k]⟩] else gs.flatMap (gS ps d k)++(fC ps d k p).2.1.map (my (jW ps d gs) (fC ps d k p).1)
  |some s=>(gs.flatMap (gS ps d k)++[⟨some s,jW ps d gs*(fC ps d k p).2.2,"spouse",[k,s]⟩])++(fC ps d k p).2.1.map (my (jW ps d gs - jW ps d gs*(fC ps d k p).2.2) (fC ps d k p).1)
noncomputable def yC(H:Hp)(rs:List dO)(Q:PQ):Prop:=∀lr vs H',H.length<=lr->aA H H'->H'[lr]?=some (.list vs)->jV H.length lr H' rs vs->Q (.ref lr) H'
theorem BB{ps:List aE}{d:Int}{n:Nat}:∀{gs:List (Nat×Rat)} {i:Nat} {s:Rat},nD n gs->Sm i s->Sm (i+11*gs.length) (gs.foldl (kI ps d) s)
 |[],i,s,_,h=>h
 |g::r,i,s,hg,h=>(BB (gs:=r) (λg h=>hg g (.tail _ h)) (h.kI (hg g mem_cons_self).2)).le (by rw[length_cons];lia)
theorem BC:Sm 1 (1:Rat):=⟨by decide,by decide⟩
theorem SO{ps:List aE}{d:Int}{n:Nat}{gs:List (Nat×Rat)}(hg:nD n gs)(hl:gs.length<=10):Sm 200 (jW ps d gs):=(BC.sub (BB (i:=1) hg ⟨by decide,by decide⟩)).le (by lia)
noncomputable def BD(k:Str)(R:Rat)(lr lk b:Nat)(x0 x1 x2 x3 x5 x9 oK:Option V)(H₁:Hp)(tot:List dO)(as:List Row)(ρ:aO)(H':Hp):Prop:=∀TlIζ:Prop,(∀(dI qf qg:Option V) (rs:List dO) (vs:List V) (e:ρ=[x0,x1,x2,x3,some (.ref lr),x5,some (rv R),some (.str k),some (.ref lk),x9,oK,dI,qf,qg]) (x:bj lr H₁ H') (a:H'[lr]?=some (.list vs)) (r:jV b lr H' rs vs) (t:rs++as.map (my R k)=tot),TlIζ)->TlIζ
theorem BD.mk{k:Str}{R:Rat}{lr lk b:Nat}{x0 x1 x2 x3 x5 x9 oK:Option V}{H₁:Hp}{tot:List dO}{as:List Row}{ρ:aO}{H':Hp}(dI qf qg:Option V)(rs:List dO)(vs:List V)(e:ρ=[x0,x1,x2,x3,some (.ref lr),x5,some (rv R),some (.str k),some (.ref lk),x9,oK,dI,qf,qg])(x:bj lr H₁ H')(a:H'[lr]?=some (.list vs))(r:jV b lr H' rs vs)(t:rs++as.map (my R k)=tot):BD k R lr lk b x0 x1 x2 x3 x5 x9 oK H₁ tot as ρ H':=λZ bY=>bY dI qf qg rs vs e x a r t
theorem SP(ps:List aE)(d:Int)(k:Nat)(p:aE):Sm 5 (fC ps d k p).2.2:=by
 unfold fC
 split
 ·exact Sm.inv (m:=4) (by decide) (by decide)
 ·split
  ·exact Sm.inv (m:=2) (by decide) (by decide)
  ·refine(?_:Sm 5 (if(lI ps d k).isEmpty=true then 1 else mkRat 3 4))
   split
   ·exact BC.le (by decide)
   ·rw[<-Rat.normalize_eq_mkRat (by decide)];exact Sm.pW _ (by decide) (by decide)
section
variable{n:Nat}{l lm lw k:Nat}{H:Hp}{Q:PQ}
theorem SQ{x:Rat}:((x.num==0)&&(((x.den:Int)==1)&&true))=(x.num==0):=by
 cases h:x.num==0 with
 |false=>rfl
 |true=>
  have e:x=0:=Rat.num_eq_zero.mp (eq_of_beq h)
  rw[e];rfl
theorem Hc{how:Str}{R:Rat}{lr lk b i:Nat}{x0 x1 x2 x3 x5 x9 oK dI qf qg:Option V}{rs:List dO}{vs us:List V}{kin:List Row}(hb:b<=lr)(a:H[lr]?=some (.list vs))(r:jV b lr H rs vs)(ak:H[lk]?=some (.list us))(ox:lk≠lr)(rk:iA (lr+1) H kin us)(ok:ju kin)(sm:Sm i R)(hi:i<=1000)(SU:rs.length<=12000000)
  (q:∀gZ H',bj lr H H'->H'[lr]?=some (.list gZ)->jV b lr H' (rs++kin.map (my R how)) gZ->Q (.ref lr) H'):aN ⟨az (n+2),Y⟩ (zB.drop 10) [x0,x1,x2,x3,some (.ref lr),x5,some (rv R),some (.str how),some (.ref lk),x9,oK,dI,qf,qg] H (bH Q):=by
 refine ok _ λlen ksm kln=>?_
 have ht:(rs++kin.map (my R how)).length<=16000000:=by rw[length_append,length_map];exact le_trans (add_le_add SU len) (by decide)
 apply ay (dg ak)
 refine vI (R:=λr v=>r∈kin/\kE (lr+1) H r v) (BD how R lr lk b x0 x1 x2 x3 x5 x9 oK H (rs++kin.map (my R how))) (λrw v bs ρ H' hv h=>?_) (λρ H' h=>?_) (rk.imp' λr v hr hv=>⟨hr,hv⟩) _ _ (.mk _ _ _ rs vs rfl (bj.refl _ _) a r rfl)
 ·refine hv.2 _ λll jr e al=>?_
  subst e
  refine h _ λdI qf qg rs vs e x a r t=>?_
  subst e
  refine λN hN=>?_
  refine gb a (bQ (vH sm (ksm _ hv.1) (by lia) ?_))
  have nl:=ne_of_gt jr
  exact gc a (by rw[r.len];exact nA t ht) (hN _ _ (cV ak ((x.trans (bj.set _ _ _)) _ _ ox ak)) (.mk _ _ _ (rs++[my R how rw]) _ rfl (x.trans (bj.set _ _ _)) (dZ a _) ((r.b (bj.set _ _ _)).snoc (.mk ll (le_trans hb (le_of_lt jr)) nl rfl ((x.trans (bj.set _ _ _)) _ _ nl al))) (gd t)))
 ·refine h _ λdI qf qg W2 vs e x a r t=>?_
  subst e
  rw[map_nil,append_nil] at t
  subst t
  exact q _ _ x a r
end
end Mine.L
namespace Mine.L
variable{Y:PQ}
open Mine.P PySem
structure bC where
 ps:List aE
 ms:List cc
 ws:List c6
noncomputable def dA(r:bC):Prop:=∀RollOkζ:Prop,(∀(wf:dE r.ps) (len:r.ps.length<=20) (cJ:lK r.ps.length r.ms) (cC:vO r.ps.length r.ws),RollOkζ)->RollOkζ
theorem dA.mk{r:bC}(wf:dE r.ps)(len:r.ps.length<=20)(cJ:lK r.ps.length r.ms)(cC:vO r.ps.length r.ws):dA r:=λZ bY=>bY wf len cJ cC
noncomputable def g5(H:Hp)(r:bC)(l lm lw:Nat):Prop:=∀RollAtζ:Prop,(∀(ap:H[l]?=some (.list (r.ps.map bL))) (am:H[lm]?=some (.list (r.ms.map gq))) (aw:H[lw]?=some (.list (r.ws.map d6))),RollAtζ)->RollAtζ
theorem g5.mk{H:Hp}{r:bC}{l lm lw:Nat}(ap:H[l]?=some (.list (r.ps.map bL)))(am:H[lm]?=some (.list (r.ms.map gq)))(aw:H[lw]?=some (.list (r.ws.map d6))):g5 H r l lm lw:=λZ bY=>bY ap am aw
noncomputable def mz(r:bC)(d:Int)(k:Nat):List (Nat×Rat):=dS k d r.ws (-1) []
noncomputable def lL(r:bC)(d:Int)(k:Nat)(p:aE):List dO:=r7 r.ps d k p (mz r d k) (iC r.ps d k r.ms)
theorem BE{r:bC}(h:dA r)(d:Int)(k:Nat):nD r.ps.length (mz r d k)/\(mz r d k).length<=10:=h _ λZ Z Z g=>Bp (P:=λgs=>nD r.ps.length gs/\gs.length<=10) _ _ _ (λw hw=>(g w hw) _ λgk Z Z Z Z Z Z Z Z Z Z=>gk) ⟨λZ h=>(nomatch h),zero_le _⟩
theorem Hd{r:bC}(h:dA r)(d:Int)(k:Nat):((mz r d k).flatMap (gS r.ps d k)).length<=10485760:=h _ λhW hl Z Z=>le_trans (yu λg hg=>GX hW hl ((BE h d k).1 g hg).1) (Nat.mul_le_mul_right 1048576 (BE h d k).2)
noncomputable def kJ(r:dO):Prop:=PyData.strOk r.how=true/\r.line.length<=1000
theorem He:PyData.strOk "will"=true:=by decide +kernel
theorem SV:PyData.strOk "spouse"=true:=by decide +kernel
theorem SW:PyData.strOk "town"=true:=by decide +kernel
theorem yD{r:bC}(hr:dA r){d:Int}{k:Nat}:∀x∈(mz r d k).flatMap (gS r.ps d k),kJ x:=λx hx=>hr _ λZ hl Z Z=>(List.mem_flatMap.mp hx).elim λg hg=>by
 have h:=hg.2
 unfold gS at h
 split at h
 ·rw[mem_singleton.mp h];exact⟨He,show 2<=1000 by decide⟩
 ·exact(mem_map.mp h).elim λy hy=>hy.2▸⟨He,le_trans (succ_le_succ (rQ hl 20 _ _ hy.1).2) (by decide)⟩
theorem Hf{ps:List aE}{d:Int}{k:Nat}{p:aE}(h:ju (fC ps d k p).2.1){R:Rat}:∀x∈(fC ps d k p).2.1.map (my R (fC ps d k p).1),kJ x:=λx hx=>(mem_map.mp hx).elim λy hy=>hy.2▸⟨Ha ps d k p,h _ λZ Z ln=>le_trans (ln y hy.1) (by decide)⟩
theorem SX{r:bC}(hr:dA r){d:Int}{k:Nat}{p:aE}(h:((jW r.ps d (mz r d k)).num==0)=false->ju (fC r.ps d k p).2.1):∀x∈lL r d k p,kJ x:=by
 unfold lL r7
 cases h0:(jW r.ps d (mz r d k)).num==0 with
 |true=>exact yD hr
 |false=>
  have ok:=h h0
  intro x hx
  rw[if_neg (by decide)] at hx
  cases hs:iC r.ps d k r.ms with
  |none=>
   rw[hs] at hx
   dsimp only at hx
   split at hx
   ·exact(mem_append.mp hx).elim (yD hr x) λh=>by rw[mem_singleton.mp h];exact⟨SW,show 1<=1000 by decide⟩
   ·exact(mem_append.mp hx).elim (yD hr x) (Hf ok x)
  |some s=>
   rw[hs] at hx
   exact(mem_append.mp hx).elim (λh=>(mem_append.mp h).elim (yD hr x) λh=>by rw[mem_singleton.mp h];exact⟨SV,show 2<=1000 by decide⟩) (Hf ok x)
theorem SY{r:bC}(hr:dA r){d:Int}{k:Nat}{p:aE}(h:((jW r.ps d (mz r d k)).num==0)=false->ju (fC r.ps d k p).2.1):(lL r d k p).length<=14000000:=by
 have hg:=Hd hr d k
 unfold lL r7
 cases h0:(jW r.ps d (mz r d k)).num==0 with
 |true=>exact le_trans hg (by decide)
 |false=>
  have hk:(fC r.ps d k p).2.1.length<=2097152:=(h h0) _ λlen Z Z=>len
  rw[if_neg (by decide)]
  cases hs:iC r.ps d k r.ms with
  |none=>
   dsimp only
   split
   ·rw[length_append];exact le_trans (add_le_add_right hg 1) (by decide)
   ·rw[length_append,length_map];exact le_trans (add_le_add hg hk) (by decide)
  |some s=>
   dsimp only
   rw[length_append,length_append,length_map];exact le_trans (add_le_add (add_le_add_right hg 1) hk) (by decide)
section
variable{n:Nat}{l lm lw k:Nat}{H:Hp}{Q:PQ}
theorem SZ{r:bC}(hr:dA r)(at':g5 H r l lm lw){p:aE}(hp:r.ps[k]?=some p){d:Int}(hd:p.bA=some d)(q:(∀x∈lL r d k p,kJ x)->(lL r d k p).length<=14000000->yC H (lL r d k p) Q):az (n+67) zt [.aC [.ref l,.ref lm,.ref lw],nv k] H Q Y:=QX (by
 refine hr _ λhW hl hM hG=>at' _ λhA S5 S6=>?_
 have hg:nD r.ps.length (dS k d r.ws (-1) [])/\(dS k d r.ws (-1) []).length<=10:=BE hr d k
 have qe:((dS k d r.ws (-1) []).flatMap (gS r.ps d k)).length<=10485760:=Hd hr d k
 have qd:(((jW r.ps d (dS k d r.ws (-1) [])).num==0)=false->ju (fC r.ps d k p).2.1)->yC H (r7 r.ps d k p (dS k d r.ws (-1) []) (iC r.ps d k r.ms)) Q:=λh=>q (SX hr h) (SY hr h)
 apply ay (e7 hA hp)
 unfold bL
 rw[hd]
 refine bQ (Sy S6 ?_)
 generalize dS k d r.ws (-1) []=gs at hg qe qd ⊢
 refine bQ (SA (n:=n+2) hW hl hg.1 hg.2 hA λlr vs H₁ hb x a rr=>?_)
 have hT:Sm 199 (gs.foldl (kI r.ps d) 0):=(BB (i:=1) hg.1 ⟨by decide,by decide⟩).le (by have:=hg.2;lia)
 refine bQ (Ge (x:=1) BC hT (by decide) ?_)
 have hR:=SO (ps:=r.ps) (d:=d) hg.1 hg.2
 unfold r7 at qd
 rw[show(1:Rat) - gs.foldl (kI r.ps d) 0=jW r.ps d gs from rfl]
 generalize jW r.ps d gs=R at hR qd ⊢
 generalize gs.flatMap (gS r.ps d k)=rs at rr qe qd
 refine(?_:bB ((R.num==0)&&(((R.den:Int)==1)&&true)) _ _)
 rw[SQ]
 refine cM (λh1=>?_) λh1=>?_
 ·have qd:=qd λh=>absurd (h1.symm.trans h) (by decide)
  rw[if_pos h1] at qd
  exact qd lr vs _ hb x a rr
 ·refine bQ (SI (n:=n) hW hl hp (x _ _ hA) λok lk us H₂ S7 b7 ak rk=>?_)
  have qd:=qd λZ=>ok
  rw[if_neg (by rw[h1];decide)] at qd
  have x2:=x.trans b7
  have ox:=lt_of_lt_of_le (cb a) S7
  refine bQ (Sw (x2 _ _ hA) (x2 _ _ S5) hM ?_)
  have qY:=Ha r.ps d k p
  have yE:=SP r.ps d k p
  have ebs:=SN r.ps d k p
  generalize fC r.ps d k p=kp at ok rk qd qY yE ebs ⊢
  have a2:=b7 _ _ a
  have r2:=jV.b rr (b7.b _)
  have S8:=lt_of_le_of_lt hb (cb a2)
  generalize iC r.ps d k r.ms=sp at qd ⊢
  cases sp with
  |none=>
   have Hg:=rk.ext (aA.aU H₂ [.list []]) (cb a)
   apply ay (eq_nil (be _ ak) (yB Hg) (bu _ _))
   rw[isEmpty_map]
   have qd:yC H (if kp.2.1.isEmpty then rs++[⟨none,R,"town",[k]⟩] else rs++kp.2.1.map (my R kp.1)) Q:=qd
   refine cM (λh2=>?_) λh2=>?_
   ·rw[if_pos h2] at qd
    have xx:∀a b c:List aT,aA H₂ (H₂++[aT.list []]++a++b++c):=λa b c=>(aA.aU H₂ _).trans ((aA.aU _ a).trans ((aA.aU _ b).trans (aA.aU _ c)))
    have iD:∀a b:List aT,H₂.length<=(H₂++[aT.list []]++a++b).length:=λa b=>((aA.aU H₂ [.list []]).trans ((aA.aU _ a).trans (aA.aU _ b))).len
    have an:=bu (H₂++[.list []]) (.list (aW [k]))
    have S9:H₂.length<(H₂++[aT.list []]).length:=by rw[length_append];exact lt_succ_self _
    refine mu (be _ (be _ (be _ a2))) (bu _ _) (by rw[length_append,rr.len];exact lt_of_le_of_lt (add_le_add_right qe 1) (by decide)) ?_
    refine qd _ _ _ (le_trans x2.len (iD _ _)) (x2.trans (xx _ _ _)) (bu _ _) (bP.snoc (r2.imp λZ Z h=>h _ λll hb hn e al=>(.mk ll hb (ne_of_lt (lt_of_lt_of_le (cb al) (iD _ _))) e (xx _ _ _ _ _ al))) (.mk _ (le_trans x2.len (le_of_lt S9)) (ne_of_lt (cb (be _ an))) rfl (be _ (be _ an))))
   ·rw[if_neg (by rw[h2];decide)] at qd
    exact Hc (n:=n+64) hb (be _ a2) (r2.b (bj.aU _ _ _)) (be _ ak) (ne_of_gt ox) Hg ok hR (by decide) (le_trans qe (by decide)) λgZ H' x' a' r'=>qd _ _ _ hb (x'.ext (x2.trans (aA.aU _ _)) hb) a' r'
  |some s=>
   have qd:yC H ((rs++[⟨some s,R*kp.2.2,"spouse",[k,s]⟩])++kp.2.1.map (my (R - R*kp.2.2) kp.1)) Q:=qd
   refine bQ (SM qY ak rk λH₃ cz=>?_)
   rw[ebs]
   refine bQ (vH hR yE (by decide) ?_)
   have a3:=cz _ _ a2
   refine gb a3 (gc (be _ a3) (by rw[rr.len];exact lt_of_le_of_lt qe (by decide)) ?_)
   refine bQ (Ge hR (hR.mul yE) (by decide) ?_)
   have x4:bj lr H₃ _:=(bj.aU lr H₃ [aT.list (aW [k,s])]).trans (bj.set lr _ (.list (vs++[.aC [nv s,rv (R*kp.2.2),.str "spouse",.ref H₃.length]])))
   have nlk:=ne_of_gt ox
   exact Hc (n:=n+64) hb (dZ (be _ a3) _) (((r2.b (cz.b _)).b x4).snoc (.mk H₃.length (le_trans (le_of_lt S8) cz.len) (ne_of_gt (cb a3)) rfl (dQ (bu _ _) _ (ne_of_lt (cb a3))))) (x4 _ _ nlk (cz _ _ ak)) nlk (rk.imp λZ Z h=>h.mono λll c hl e=>⟨le_trans (cb a) hl,x4 _ _ (ne_of_gt (lt_of_lt_of_le (cb a) hl)) (cz _ _ e)⟩) ok (hR.sub (hR.mul yE)) (by decide) (by rw[length_append];exact le_trans (add_le_add_right qe 1) (by decide)) λgZ H' x' a' r'=>qd _ _ _ hb ((x4.trans x').ext (x2.trans cz) hb) a' r')
end
end Mine.L
namespace Mine.L
variable{Y:PQ}
open Mine.P PySem
section
variable{C:Ct}{ρ b9:aO}{H:Hp}{Q:PQ}{K:Out->Prop}{r:List S}{t:cX}{e a i:E}{v x y:V}
theorem fW(h:WE C e ρ H λv H=>aH (aS t v ρ) λb9=>aN C r b9 H K):aN C (.aS t e::r) ρ H K:=h
theorem bS{j:Nat}(h:ρ[j]?.join=some v)(q:Q v H):WE C (.J j) ρ H Q:=ay h q
theorem BF(q:Q (.ref H.length) (H++[.list []])):WE C (.bX []) ρ H Q:=q
theorem fM{op:lX}(h:WE C a ρ H λx H=>WE C i ρ H λy H=>u2 op x y H Q):WE C (.bin op a i) ρ H Q:=h
theorem ff{op:lX}{p q z:Int}(h:binI op p q=some z)(k:Q (.int z) H):u2 op (.int p) (.int q) H Q:=ay h k
theorem r8{it:It}{b:List S}(h:oi C it ρ H λp H=>mX p.2 H t (λρ H K=>aN C.xq b ρ H K) p.1 ρ H λo=>kZ o (λρ H=>aN C r ρ H K) (K o)):aN C (.for t it b::r) ρ H K:=h
theorem yF{R:List V×List Nat->Hp->Prop}(h:WE C a ρ H λx H=>WE C i ρ H λy H=>xl x y λl=>R (l,[]) H):oi C (.range a i) ρ H R:=h
theorem ct(q:Q v H):WE C (.k v) ρ H Q:=q
end
section
variable{n:Nat}{l lm lw k:Nat}{H:Hp}{Q:PQ}
end
end Mine.L
namespace Mine.L
variable{Y:PQ}
open Mine.P PySem
theorem BG:∀l:List Nat,PyData.eqvAll (l.map λi:Nat=>.int i) (l.map λi:Nat=>.int i)=true
 |[]=>rfl
 |a::r=>by
  refine(?_:(((a:Int)==(a:Int))&&PyData.eqvAll _ _)=true)
  rw[beq_self_eq_true,BG r];rfl
theorem Hh(x:Rat):PyData.eqv (nE x) (nE x)=true:=by
 refine(?_:((x.num==x.num)&&(((x.den:Int)==(x.den:Int))&&true))=true)
 rw[beq_self_eq_true,beq_self_eq_true];rfl
end Mine.L
namespace Mine.L
variable{Y:PQ}
open Mine.P PySem
section
variable{n:Nat}{l lm lw l' BH BI k:Nat}{H:Hp}{Q:PQ}
end
end Mine.L
namespace Mine.L
variable{Y:PQ}
open Mine.P PySem
noncomputable def BJ(c:Int)(m:Nat)(H:Hp)(as:List Nat)(ρ:aO)(H':Hp):Prop:=∀StIζ:Prop,(∀(aL:List Int) (x:Int) (o:Option V) (e:ρ=[some (.int c),some (nv m),some (.ref H.length),some (.int x),o]) (ext:aA H H') (a:H'[H.length]?=some (.list (aL.map V.int))) (len:aL.length+as.length=m) (hx:0<=x/\x<2147483647) (ok:∀x∈aL,0<=x/\x<2147483647),StIζ)->StIζ
theorem BJ.mk{c:Int}{m:Nat}{H:Hp}{as:List Nat}{ρ:aO}{H':Hp}(aL:List Int)(x:Int)(o:Option V)(e:ρ=[some (.int c),some (nv m),some (.ref H.length),some (.int x),o])(ext:aA H H')(a:H'[H.length]?=some (.list (aL.map V.int)))(len:aL.length+as.length=m)(hx:0<=x/\x<2147483647)(ok:∀x∈aL,0<=x/\x<2147483647):BJ c m H as ρ H':=λZ bY=>bY aL x o e ext a len hx ok
section
variable{n:Nat}{l k:Nat}{H:Hp}{Q:PQ}
theorem nF(a:Int){b:Int}(h:0<b):0<=a.fmod b/\a.fmod b<b:=by
 rw[Int.fmod_eq_emod_of_nonneg a (Int.le_of_lt h)]
 exact⟨Int.emod_nonneg a (Int.ne_of_gt h),Int.emod_lt_of_pos a h⟩
theorem jv(x:Int){k:Nat}(h:0<k):∃a:Nat,x.fmod (k:Int)=(a:Int)/\a<k:=
 have z:=nF x (ofNat_lt.mpr h)
 ⟨(x.fmod (k:Int)).toNat,(Int.toNat_of_nonneg z.1).symm,(toNat_lt z.1).mpr z.2⟩
theorem Ta{x:Int}{b:Nat}(h:0<=x/\x<b):x.natAbs<b:=by
 obtain⟨k,rfl⟩:=Int.eq_ofNat_of_zero_le h.1
 exact ofNat_lt.mp h.2
theorem nG{k b c:Nat}(h:k<b)(hb:b<=c):(k:Int).natAbs<c:=lt_of_lt_of_le h hb
theorem vS(x:Int){k c:Nat}(h:0<k)(hc:k<=c):∃r:Nat,1+x.fmod (k:Int)=(r:Int)/\0<r/\r<=c:=(jv x h).elim λa z=>⟨a+1,by rw[z.1];exact Int.add_comm _ _,succ_pos _,le_trans z.2 hc⟩
theorem mod2(x:Int){P:Int->Prop}(h0:P ((0:Nat):Int))(h1:P ((1:Nat):Int)):P (x.fmod 2):=(jv x (k:=2) (by decide)).elim λa z=>by
 rw[show x.fmod 2=(a:Int) from z.1]
 cases a with
 |zero=>exact h0
 |succ a=>cases a with
  |zero=>exact h1
  |succ a=>exact absurd z.2 (not_lt.mpr (le_add_left 2 a))
theorem Tb(x:Int){P:Int->Prop}(h0:P ((0:Nat):Int))(h1:P ((1:Nat):Int))(h2:P ((2:Nat):Int)):P (x.fmod 3):=(jv x (k:=3) (by decide)).elim λa z=>by
 rw[show x.fmod 3=(a:Int) from z.1]
 cases a with
 |zero=>exact h0
 |succ a=>cases a with
  |zero=>exact h1
  |succ a=>cases a with
   |zero=>exact h2
   |succ a=>exact absurd z.2 (not_lt.mpr (le_add_left 3 a))
theorem iE{a b:Int}(h:b≠0):binI .mod a b=some (a.fmod b):=if_neg h
noncomputable def Tc(H:Hp)(m:Nat)(Q:PQ):Prop:=∀(ls:Nat) (H':Hp) (xs:List Int),xs.length=m->(∀x∈xs,0<=x/\x<2147483647)->H.length<=ls->aA H H'->H'[ls]?=some (.list (xs.map V.int))->Q (.ref ls) H'
theorem yG{c:Int}{m:Nat}(hm:m<=1000)(q:Tc H m Q):az (n+1) sV [.int c,nv m] H Q Y:=Q3 (by
 unfold zD
 refine fW (BF (ay rfl ?_))
 refine fW (fM (bS rfl (ct (ff (iE (b:=2147483647) (by decide)) (ay rfl ?_)))))
 refine r8 (yF (ct (bS rfl (oH (lt_of_le_of_lt hm (by decide)) ?_))))
 refine e8 (BJ c m H) (λk as ρ H' h=>?_) (λρ H' h=>?_) _ _ _ (.mk [] _ none rfl (aA.aU _ _) (bu _ _) (by rw[length_range];exact zero_add m) (nF c (by decide)) (λZ h=>nomatch h))
 ·refine h _ λaL x o e ext a len hx ok=>?_
  subst e
  refine λN hN=>?_
  apply ay (i8 (i:=31) (j:=16) (a:=x) (b:=48271) (Ta ⟨hx.1,Int.lt_trans hx.2 (by decide)⟩) (by decide) (by decide))
  have hy:=nF (x*48271+11+(k:Int)) (b:=2147483647) (by decide)
  rw[length_cons] at len
  exact gb a (gc a (by rw[length_map];lia) (hN _ _ rfl (.mk (aL++[(x*48271+11+(k:Int)).fmod 2147483647]) _ _ rfl (ext.set (le_refl _) _) (by rw[map_append];exact dZ a _) (by rw[length_append,<-len];exact(add_assoc _ 1 _).trans (by rw[add_comm 1])) hy (λy yH=>(mem_append.mp yH).elim (ok y) λh=>by rw[mem_singleton.mp h];exact hy))))
 ·refine h _ λaL x o e ext a len hx ok=>?_
  subst e
  exact q _ _ aL len ok (le_refl _) ext a)
theorem pick{es:List Nat}(he:es≠[])(h:H[l]?=some (.list (aW es)))(y:Int):∃j,j∈es/\gB (.ref l) (.int (y.fmod es.length)) H=some (nv j):=by
 have hl:0<es.length:=List.length_pos_iff.mpr he
 have hm:=nF y (ofNat_lt.mpr hl)
 have hi:(y.fmod es.length).toNat<es.length:=by lia
 refine⟨es[(y.fmod es.length).toNat],getElem_mem hi,?_⟩
 have:=jp (k:=(y.fmod es.length).toNat) (v:=nv es[(y.fmod es.length).toNat]) h (by rw[getElem?_map,getElem?_eq_getElem hi];rfl)
 rw[nv,Int.toNat_of_nonneg hm.1] at this
 exact this
theorem Hi{es:List Nat}(he:es≠[]):(es.length:Int)≠0:=λh=>he (eq_nil_of_length_eq_zero (ofNat.inj h))
theorem BK{y f:Int}{es:List Nat}(hE:H[l]?=some (.list (aW es)))(q:∀al H',(∀j∈al,j∈es)->ic al->(al=[]->es=[]\/f=0)->aA H H'->Q (.aC (aW al)) H'):az (n+1) uz [.ref l,.int y,.int f] H Q Y:=Q4 (by
 have x:=aA.aU H [.list []]
 have r0:es=[]\/f=0->Q (.aC []) (H++[.list []]):=λhz=>q [] _ (λZ h=>nomatch h) ⟨by decide,nodup_nil⟩ (λZ=>hz) x
 apply ay (eq_nil (be _ hE) (rN _ _) (bu _ _))
 rw[isEmpty_map]
 refine jq (λh0=>?_) λh0=>fV h0 (r0 (.inl (isEmpty_iff.mp h0)))
 have he:es≠[]:=λe=>by rw[e] at h0;cases h0
 have key:aN ⟨az n,Y⟩ (zE.drop 1) [some (.ref l),some (.int y),some (.int f),none,none] (H++[.list []]) (bH Q):=by
  have vT:=x _ _ hE
  generalize H++[.list []]=H₁ at x vT r0
  apply ay (cA vT)
  rw[length_map]
  apply ay (iE (Hi he))
  refine(pick he vT y).elim λj hj=>?_
  apply ay hj.2
  apply ay (cA vT)
  rw[length_map]
  apply ay (iE (Hi he))
  refine(pick he vT (y.fdiv 60)).elim λj' Hj=>?_
  apply ay Hj.2
  have r1:Q (.aC (aW [j])) H₁:=q [j] _ (λi h=>by rw[mem_singleton.mp h];exact hj.1) ⟨show 1<=2 by decide,nodup_cons.mpr ⟨not_mem_nil,nodup_nil⟩⟩ (λh=>nomatch h) x
  have r2:((j:Int)==(j':Int))=false->Q (.aC (aW [j,j'])) H₁:=λfU=>q [j,j'] _ (λi h=>(mem_cons.mp h).elim (λe=>e▸hj.1) λh=>by rw[mem_singleton.mp h];exact Hj.1) ⟨show 2<=2 by decide,nodup_cons.mpr ⟨λh=>(by rw[mem_singleton.mp h,beq_self_eq_true] at fU;cases fU),nodup_cons.mpr ⟨not_mem_nil,nodup_nil⟩⟩⟩ (λh=>nomatch h) x
  refine(?_:bB (((j:Int)==(j':Int))==false) _ _)
  refine jq (λh1=>?_) λh1=>fV h1 r1
  refine(?_:bB ((y.fdiv 3).fmod 4==0) _ _)
  exact cM (λZ=>r1) λZ=>r2 h1
 refine(?_:bB ((f==0)==true) _ _)
 refine fL (λh=>?_) λh=>fq h key
 refine(?_:bB ((y.fdiv 7).fmod 5==0) _ _)
 exact cM (λZ=>r0 (.inr (eq_of_beq h))) λZ=>key)
end
end Mine.L
namespace Mine.L
variable{Y:PQ}
open Mine.P PySem
noncomputable abbrev Td:S:=.aS (.J 7) (.bin .mul (.bin .add (.bin .mul (.k (.int 5)) (.bin .fdiv (.J 5) (.k (.int 3)))) (.bin .mod (.J 6) (.k (.int 11)))) (.J 3))
noncomputable abbrev Te:S:=.aS (.J 8) (.comp 1 (.J 0) (.J 0) (.range (.k (.int 0)) (.J 5)) [(.cmp .lt (.aM (.aM (.J 3) (.J 0)) (.k (.int 0))) (.J 8))])
noncomputable abbrev Tf:S:=.aS (.J 9) (.call uz [(.fG (.J 8) (some (.neg (.k (.int 7)))) none),(.bin .fdiv (.J 6) (.k (.int 11))),(.k (.int 0))])
noncomputable abbrev Tg:S:=.bz (.and [(.cmp .gt (.J 5) (.k (.int 0))),(.cmp .eq (.bin .mod (.bin .fdiv (.J 6) (.k (.int 13))) (.k (.int 3))) (.k (.int 0))),(.cmp .eq (.comp 1 (.J 0) (.J 0) (.of (.aM (.aM (.J 2) (.bin .sub (.J 5) (.k (.int 1)))) (.k (.int 1)))) [(.cmp .gL (.J 0) (.J 9))]) (.bX []))])
   [.aS (.J 9) (.aM (.aM (.J 2) (.bin .sub (.J 5) (.k (.int 1)))) (.k (.int 1)))]
   []
noncomputable abbrev Th:S:=.bz (.and [(.cmp .eq (.bin .mod (.bin .fdiv (.J 0) (.k (.int 4))) (.k (.int 3))) (.k (.int 0))),(.cmp .lt (.J 5) (.k (.int 12)))])
   [.aS (.J 7) (.bin .mul (.bin .add (.bin .mul (.k (.int 12)) (.bin .fdiv (.J 5) (.k (.int 2)))) (.bin .mod (.J 6) (.k (.int 11)))) (.J 3)),
    .aS (.J 9) (.aM (.J 4) (.J 5))]
   []
noncomputable abbrev Ti:S:=.aS (.J 10) (.k .none)
noncomputable abbrev Tj:S:=.bz (.cmp .gt (.bin .mod (.bin .fdiv (.J 6) (.k (.int 500))) (.aM (.bX [(.k (.int 4)),(.k (.int 9))]) (.bin .mod (.bin .fdiv (.J 0) (.k (.int 12))) (.k (.int 2))))) (.k (.int 0)))
   [.aS (.J 10) (.bin .add (.J 7) (.bin .mul (.bin .mod (.bin .fdiv (.J 6) (.k (.int 1500))) (.k (.int 40))) (.J 3)))]
   []
noncomputable abbrev Tl:S:=.expr (.c8 .append (.J 2) [(.aC [.J 7,.J 9,(.k .none),.J 10])])
noncomputable def Hk:List (List Nat):=[[],[],[1,0],[1,0],[2],[3],[],[5],[3],[1],[],[2]]
noncomputable def yI:List V:=Hk.map λl=>.aC (aW l)
section
variable{n:Nat}{c x sc b:Int}{m k lp lh:Nat}{H:Hp}{K:Out->Prop}{rest:List S}{ps:List aE}{o7 o8 o9 o10:Option V}
noncomputable abbrev jX(c:Int)(m lp:Nat)(sc:Int)(lh k:Nat)(x:Int)(o7 o8 o9 o10:Option V):aO:=[some (.int c),some (nv m),some (.ref lp),some (.int sc),some (.ref lh),some (nv k),some (.int x),o7,o8,o9,o10]
theorem Hl(k:Nat)(d:Nat):Int.fdiv (k:Int) (d:Int)=((k/d:Nat):Int):=by rw[Int.fdiv_eq_ediv_of_nonneg _ (natCast_nonneg d)];rfl
theorem r9{a b:Int}(h:b≠0):binI .fdiv a b=some (a.fdiv b):=if_neg h
theorem yJ{sc:Int}(h:sc=1\/sc=600):0<sc/\sc.natAbs<2^10:=h.elim (λe=>e▸⟨by decide,by decide⟩) λe=>e▸⟨by decide,by decide⟩
noncomputable def yK(b:Int):Prop:=0<=b/\b<=42000
theorem Hm{sc:Int}(g6:sc=1\/sc=600){k:Nat}(hk:k<=70):yK ((k:Int)*sc):=by
 rcases g6 with e|e<;>subst e<;>exact⟨by lia,by lia⟩
noncomputable def BL(k:Nat)(p:aE):Prop:=(∀j∈p.b6,j<k)/\p.aX<=42000/\(∀d,p.bA=some d->p.aX<=d/\d<=100000)/\∀x,p.ad=some x->p.aX<=x.1/\x.1<=100000/\(∀d,p.bA=some d->x.1<d)/\x.2≠[]
noncomputable def nH(ps:List aE):Prop:=∀(k:Nat) p,ps[k]?=some p->BL k p
theorem p1(hk:k<20)(g6:sc=1\/sc=600)(h:∀b,yK b->aN ⟨az n,Y⟩ rest (jX c m lp sc lh k x (some (.int b)) o8 o9 o10) H K):aN ⟨az n,Y⟩ (Td::rest) (jX c m lp sc lh k x o7 o8 o9 o10) H K:=by
 refine(jv x (k:=11) (by decide)).elim λa ha=>?_
 have ea:x.fmod 11=(a:Int):=ha.1
 have hs:=yJ g6
 have Hn:k/3<7:=Nat.div_lt_of_lt_mul (lt_trans hk (by decide))
 have h3:Int.fdiv (k:Int) 3=_:=Hl k 3
 refine fW (fM (fM (fM (ct (fM (bS rfl (ct ?_)))))))
 refine ff (r9 (by decide)) (ff (i8 (i:=3) (j:=10) (by decide) ?_ (by decide)) ?_)
 ·rw[h3];exact nG Hn (by decide)
 refine fM (bS rfl (ct ?_))
 refine ff (iE (by decide)) (ff rfl (bS rfl (ff (i8 (i:=10) (j:=10) ?_ hs.2 (by decide)) (ay rfl (h _ ?_)))))
 ·rw[h3,ea];exact nG (k:=5*(k/3)+a) (Nat.add_lt_add_of_le_of_lt (mul_le_mul_left 5 (le_of_lt Hn)) ha.2) (by decide)
 ·rw[h3,ea];exact Hm (k:=5*(k/3)+a) g6 (by have:=ha.2;lia)
end
end Mine.L
namespace Mine.L
variable{Y:PQ}
open Mine.P PySem
theorem BM{t:Bool}{H:Hp}{T:Bool->Hp->Prop}(h:T t H):bB t (T true H) (T false H):=by
 cases t<;>exact h
section
variable{C:Ct}{ρ:aO}{H:Hp}{Q:PQ}{a i:E}
theorem nI{nl:Nat}{elt:E}{t:cX}{it:It}{cs:List E}(h:oi C it ρ H λp H=>fu (mi p.1) (ip p.2 H t (λρ H Q=>WT C.no cs ρ H Q) (λρ H Q=>WE C.no elt ρ H Q) p.1 (replicate nl none++ρ) H [] λvs H=>kY vs H Q)):WE C (.comp nl elt t it cs) ρ H Q:=h
end
theorem Hq(es:List Nat)(lo hi:Option Int):iH (aW es) lo hi=aW (iH es lo hi):=by
 unfold iH
 rw[length_map,aW,<-List.map_take,<-List.map_drop]
theorem To{es:List Nat}{lo hi:Option Int}{j:Nat}(h:j∈iH es lo hi):j∈es:=List.mem_of_mem_take (List.mem_of_mem_drop h)
theorem Tp(es:List Nat)(lo hi:Option Int):(iH es lo hi).length<=es.length:=by
 unfold iH
 rw[length_drop,length_take]
 exact le_trans (sub_le _ _) (min_le_right _ _)
section
variable{n:Nat}{c x sc b:Int}{m k lp lh le:Nat}{H:Hp}{K:Out->Prop}{rest:List S}{ps:List aE}{es:List Nat}{o7 o8 o9 o10:Option V}
theorem Hs{l:Nat}{ls:List Nat}(h:H[l]?=some (.list (aW ls))):eQ .gL (nv k) (.ref l) H=some (!decide (k∈ls)):=congrArg (Option.map (!·)) (F7 h)
theorem Ht{l:Nat}{p:aE}{i:Int}(hi:i=(k:Int))(h:H[l]?=some (.list (ps.map bL)))(hv:ps[k]?=some p):gB (.ref l) (.int i) H=some (bL p):=hi▸e7 h hv
noncomputable def oM(ps:List aE)(b:Int)(j:Nat):Bool:=(ps[j]?).elim false λp=>decide (p.aX<b)
theorem Hu{j:Nat}(h:oM ps b j=true):gG ps b j:=by
 unfold oM at h
 cases hp:ps[j]? with
 |none=>rw[hp] at h;cases h
 |some p=>rw[hp] at h;exact⟨p,hp,of_decide_eq_true h⟩
theorem p2(hk:k<20)(hl:ps.length=k)(hA:H[lp]?=some (.list (ps.map bL)))(h:∀es le H',(∀j∈es,gG ps b j)->es.length<=20->aA H H'->H'[le]?=some (.list (aW es))->aN ⟨az n,Y⟩ rest (jX c m lp sc lh k x (some (.int b)) (some (.ref le)) o9 o10) H' K):aN ⟨az n,Y⟩ (Te::rest) (jX c m lp sc lh k x (some (.int b)) o8 o9 o10) H K:=by
 refine fW (nI (yF (ct (bS rfl (oH (lt_trans hk (by decide)) (dj (du ?_) ?_))))))
 ·rw[length_map,length_range];exact lt_trans hk (by decide)
 refine jT (P:=oM ps b) (F:=nv) _ _ _ (λj hj T hT=>?_) (λj Z Z N hN=>hN) (ay rfl (h _ _ _ (λj hj=>Hu (mem_filter.mp hj).2) ?_ (aA.aU _ _) (bu _ _)))
 ·have hj:=mem_range.mp hj
  rw[<-hl] at hj
  refine(at_of hj).elim λp hp=>?_
  apply ay (e7 hA hp)
  unfold oM at hT
  rw[hp] at hT
  exact BM (T:=T) hT
 ·exact le_trans (length_filter_le _ _) (le_trans (le_of_eq length_range) (le_of_lt hk))
theorem p3(hE:H[le]?=some (.list (aW es)))(ud:es.length<=20)(h:∀al H',(∀j∈al,j∈es)->ic al->aA H H'->aN ⟨az (n+1),Y⟩ rest (jX c m lp sc lh k x o7 (some (.ref le)) (some (.aC (aW al))) o10) H' K):aN ⟨az (n+1),Y⟩ (Tf::rest) (jX c m lp sc lh k x o7 (some (.ref le)) o9 o10) H K:=by
 apply ay (cA hE)
 refine dj (du ?_) ?_
 ·rw[Hq,length_map];exact lt_of_le_of_lt (le_trans (Tp _ _ _) ud) (by decide)
 rw[Hq]
 exact bQ (BK (bu _ _) λal H' dY h2 Z x=>h al H' (λj hj=>To (dY j hj)) h2 ((aA.aU _ _).trans x))
theorem p4{al:List Nat}(hl:ps.length=k)(hA:H[lp]?=some (.list (ps.map bL)))(hE:H[le]?=some (.list (aW es)))(ja:∀p∈ps,ic p.b6)(dY:∀j∈al,j∈es)(mA:ic al)(h:∀al H',(∀j∈al,j∈es)->ic al->aA H H'->aN ⟨az n,Y⟩ rest (jX c m lp sc lh k x o7 (some (.ref le)) (some (.aC (aW al))) o10) H' K):aN ⟨az n,Y⟩ (Tg::rest) (jX c m lp sc lh k x o7 (some (.ref le)) (some (.aC (aW al))) o10) H K:=by
 have no:=h al H dY mA (aA.refl H)
 refine(?_:bB (decide ((k:Int)>0)==true) _ _)
 refine fL (λh1=>?_) λh1=>fq h1 no
 refine(?_:bB (((x.fdiv 13).fmod 3==0)==true) _ _)
 refine fL (λh2=>?_) λh2=>fq h2 no
 have BN:0<k:=ofNat_lt.mp (of_decide_eq_true h1)
 have hi:(k:Int) - 1=((k - 1:Nat):Int):=by lia
 refine(at_of (show k - 1<ps.length by lia)).elim λp hp=>?_
 have h2:=ja p (mem_of_getElem? hp)
 apply ay (Ht hi hA hp)
 refine dj (du (by rw[length_map];exact lt_of_le_of_lt h2.1 (by decide))) ?_
 refine jT (P:=λj=>!decide (j∈es)) (F:=nv) _ _ _ (λj hj T hT=>?_) (λj Z Z N hN=>hN) ?_
 ·apply ay (Hs hE)
  exact BM (T:=T) hT
 ·apply ay (eq_nil (be _ (bu _ _)) (rN _ _) (bu _ _))
  rw[isEmpty_map]
  have xx:∀a b:List aT,aA H (H++a++b):=λa b=>(aA.aU _ _).trans (aA.aU _ _)
  refine cM (λh3=>?_) λh3=>h al _ dY mA (xx _ _)
  apply ay (Ht hi (xx _ _ _ _ hA) hp)
  refine h p.b6 _ (λj hj=>?_) h2 (xx _ _)
  have:=List.filter_eq_nil_iff.mp (isEmpty_iff.mp h3) j hj
  exact Decidable.not_not.mp λhn=>this (by rw[decide_eq_false hn];rfl)
end
end Mine.L
namespace Mine.L
variable{Y:PQ}
open Mine.P PySem
noncomputable def qh(sc:Int)(i:Nat)(b:Int):Prop:=12*((i/2:Nat):Int)*sc<=b/\b<=(12*((i/2:Nat):Int)+10)*sc
theorem Tq{sc:Int}(g6:sc=1\/sc=600){i j:Nat}(h:j/2<i/2){b b':Int}(hi:qh sc i b)(hj:qh sc j b'):b'<b:=
 Int.lt_of_le_of_lt hj.2 (Int.lt_of_lt_of_le (Int.mul_lt_mul_of_pos_right (ofNat_lt.mpr (show 12*(j/2)+10<12*(i/2) from lt_of_lt_of_le (Nat.add_lt_add_left (show 10<12 by decide) _) (mul_le_mul_left 12 h))) (yJ g6).1) hi.1)
theorem Tr:∀{k:Nat},k<12->∃ls,Hk[k]?=some ls/\(ls.length<=2/\ls.Nodup)/\∀j∈ls,j<k/\j/2<k/2:=by decide +kernel
section
variable{n:Nat}{c x sc b:Int}{m k lp lh le:Nat}{H:Hp}{K:Out->Prop}{rest:List S}{ps:List aE}{es:List Nat}{o7 o8 o9 o10:Option V}
theorem p5{al:List Nat}(hk:k<20)(g6:sc=1\/sc=600)(hl:ps.length=k)(hH:H[lh]?=some (.list yI))(dY:∀j∈al,gG ps b j)(mA:ic al)(qi:yK b)(hI:((c.fdiv 4).fmod 3==0)=true->∀i p,i<12->ps[i]?=some p->qh sc i p.aX)
  (h:∀b al,(∀j∈al,gG ps b j)->ic al->yK b->(((c.fdiv 4).fmod 3==0)=true->k<12->qh sc k b)->aN ⟨az n,Y⟩ rest (jX c m lp sc lh k x (some (.int b)) o8 (some (.aC (aW al))) o10) H K):aN ⟨az n,Y⟩ (Th::rest) (jX c m lp sc lh k x (some (.int b)) o8 (some (.aC (aW al))) o10) H K:=by
 refine(?_:bB (((c.fdiv 4).fmod 3==0)==true) _ _)
 refine fL (λh1=>?_) λh1=>fq h1 (h b al dY mA qi λq=>absurd (h1.symm.trans q) (by decide))
 refine(?_:bB (decide ((k:Int)<12)) _ _)
 refine cM (λhk=>?_) λhk=>h b al dY mA qi λZ q=>absurd (show(k:Int)<12 from ofNat_lt.mpr q) (of_decide_eq_false hk)
 have hk:k<12:=ofNat_lt.mp (of_decide_eq_true hk)
 refine(jv x (k:=11) (by decide)).elim λa ha=>?_
 have ea:x.fmod 11=(a:Int):=ha.1
 have h3:Int.fdiv (k:Int) 2=_:=Hl k 2
 have Hv:k/2<6:=Nat.div_lt_of_lt_mul hk
 refine(Tr hk).elim λls mB=>?_
 have hs:=yJ g6
 refine fW (fM (fM (fM (ct (fM (bS rfl (ct ?_)))))))
 refine ff (r9 (by decide)) (ff (i8 (i:=4) (j:=10) (by decide) ?_ (by decide)) ?_)
 ·rw[h3];exact nG Hv (by decide)
 refine fM (bS rfl (ct ?_))
 refine ff (iE (by decide)) (ff rfl (bS rfl (ff (i8 (i:=10) (j:=10) ?_ hs.2 (by decide)) (ay rfl ?_))))
 ·rw[h3,ea];exact nG (k:=12*(k/2)+a) (Nat.add_lt_add_of_le_of_lt (mul_le_mul_left 12 (le_of_lt Hv)) ha.2) (by decide)
 apply ay (jp (v:=.aC (aW ls)) hH (by unfold yI;rw[getElem?_map,mB.1];rfl))
 have hb:qh sc k ((12*Int.fdiv (k:Int) 2+x.fmod 11)*sc):=by
  rw[h3,ea]
  exact⟨Int.mul_le_mul_of_nonneg_right (Int.le_add_of_nonneg_right (natCast_nonneg _)) (Int.le_of_lt hs.1),Int.mul_le_mul_of_nonneg_right (Int.add_le_add_left (ofNat_le.mpr (le_of_lt_succ ha.2)) _) (Int.le_of_lt hs.1)⟩
 refine h _ ls (λj hj=>?_) mB.2.1 (by rw[h3,ea];exact Hm (k:=12*(k/2)+a) g6 (by have:=ha.2;lia)) λZ Z=>hb
 have hj:=mB.2.2 j hj
 refine(at_of (show j<ps.length from hl▸hj.1)).elim λp hp=>⟨p,hp,Tq g6 hj.2 hb (hI h1 j p (lt_trans hj.1 hk) hp)⟩
theorem p7(g6:sc=1\/sc=600)(h:∀(di:Option Int) H',(∀d,di=some d->b<=d/\d<=b+23400)->aA H H'->aN ⟨az n,Y⟩ rest (jX c m lp sc lh k x (some (.int b)) o8 o9 (some (ib di))) H' K):aN ⟨az n,Y⟩ (Ti::Tj::rest) (jX c m lp sc lh k x (some (.int b)) o8 o9 o10) H K:=by
 refine(jv (x.fdiv 1500) (k:=40) (by decide)).elim λa ha=>?_
 have Ts:((x.fdiv 1500).fmod 40).natAbs<2^10:=by rw[show(x.fdiv 1500).fmod 40=(a:Int) from ha.1];exact nG ha.2 (by decide)
 have Am:=(yJ g6).2
 have hs:∃z:Int,gB (.ref H.length) (.int ((c.fdiv 12).fmod 2)) (H++[.list [.int 4,.int 9]])=some (.int z)/\z≠0:=
  mod2 (c.fdiv 12) (P:=λi=>∃z:Int,gB (.ref H.length) (.int i) (H++[.list [.int 4,.int 9]])=some (.int z)/\z≠0) ⟨4,jp (bu _ _) rfl,by decide⟩ ⟨9,jp (bu _ _) rfl,by decide⟩
 refine hs.elim λz hz=>?_
 apply ay hz.1
 apply ay (iE hz.2)
 refine(?_:bB (decide ((x.fdiv 500).fmod z>0)) _ _)
 refine cM (λZ=>?_) λZ=>h none _ (λZ h=>nomatch h) (aA.aU _ _)
 refine fW (fM (bS rfl (fM (fM (fM (bS rfl (ct ?_)))))))
 refine ff (r9 (by decide)) (ct (ff (iE (by decide)) (bS rfl (ff (i8 (i:=10) (j:=10) Ts Am (by decide)) (ff rfl (ay rfl ?_))))))
 refine h (some _) _ (λd hd=>?_) (aA.aU _ _)
 cases hd
 rw[show(x.fdiv 1500).fmod 40=(a:Int) from ha.1]
 have:=ha.2
 rcases g6 with e|e<;>subst e<;>exact⟨by lia,by lia⟩
theorem p8{al:List Nat}{di:Option Int}(hl:ps.length<=20)(hA:H[lp]?=some (.list (ps.map bL)))(h:∀H',bj lp H H'->H'[lp]?=some (.list ((ps++[(⟨b,al,none,di⟩:aE)]).map bL))->K (.next (jX c m lp sc lh k x (some (.int b)) o8 (some (.aC (aW al))) (some (ib di))) H')):aN ⟨az n,Y⟩ [Tl] (jX c m lp sc lh k x (some (.int b)) o8 (some (.aC (aW al))) (some (ib di))) H K:=
 gb hA (gc hA (by rw[length_map];exact lt_of_le_of_lt hl (by decide)) (h _ (bj.set _ _ _) (by rw[map_append];exact dZ hA _)))
end
end Mine.L
namespace Mine.L
variable{Y:PQ}
open Mine.P PySem
noncomputable def en:Nat->List Int->List (Nat×Int)
 |_,[]=>[]
 |k,x::r=>(k,x)::en (k+1) r
noncomputable abbrev Hw(p:Nat×Int):V:=.aC [nv p.1,.int p.2]
theorem BO:∀(k:Nat) (xs:List Int),qP k (xs.map V.int)=(en k xs).map Hw
 |_,[]=>rfl
 |k,x::r=>congrArg (Hw (k,x)::·) (BO (k+1) r)
theorem gG.aU{ps:List aE}{b:Int}{j:Nat}(t:List aE)(h:gG ps b j):gG (ps++t) b j:=h.elim λq hq=>⟨q,by rw[getElem?_append_left (List.getElem?_eq_some_iff.mp hq.1).1];exact hq.1,hq.2⟩
theorem pV.aU{ps:List aE}{p:aE}(t:List aE)(h:pV ps p):pV (ps++t) p:=h _ λa b c d z=>(.mk (λj hj=>(a j hj).aU t) (λx hx j hj=>(b x hx j hj).aU t) c d z)
theorem BP{α:Type}{ps:List α}{p:α}{P:Nat->α->Prop}(h:∀(i:Nat) q,ps[i]?=some q->P i q)(hp:P ps.length p):∀(i:Nat) q,(ps++[p])[i]?=some q->P i q:=by
 intro i q hq
 rcases Nat.lt_trichotomy i ps.length with hi|hi|hi
 ·rw[getElem?_append_left hi] at hq;exact h i q hq
 ·subst hi
  rw[List.getElem?_concat_length] at hq
  cases hq;exact hp
 ·rw[getElem?_eq_none (by rw[length_append];exact hi)] at hq;cases hq
noncomputable def BQ(c:Int)(m lp:Nat)(sc:Int)(lh:Nat)(H₁:Hp)(as:List (Nat×Int))(ρ:aO)(H':Hp):Prop:=∀PeIζ:Prop,(∀(o5 o6 o7 o8 o9 o10:Option V) (xs:List Int) (ps:List aE) (e:ρ=[some (.int c),some (nv m),some (.ref lp),some (.int sc),some (.ref lh),o5,o6,o7,o8,o9,o10]) (x:bj lp H₁ H') (a:H'[lp]?=some (.list (ps.map bL))) (ea:as=en ps.length xs) (len:ps.length+xs.length=m) (wf:dE ps) (rp:nH ps) (hI:((c.fdiv 4).fmod 3==0)=true->∀(i:Nat) p,i<12->ps[i]?=some p->qh sc i p.aX),PeIζ)->PeIζ
theorem BQ.mk{c:Int}{m lp:Nat}{sc:Int}{lh:Nat}{H₁:Hp}{as:List (Nat×Int)}{ρ:aO}{H':Hp}(o5 o6 o7 o8 o9 o10:Option V)(xs:List Int)(ps:List aE)(e:ρ=[some (.int c),some (nv m),some (.ref lp),some (.int sc),some (.ref lh),o5,o6,o7,o8,o9,o10])(x:bj lp H₁ H')(a:H'[lp]?=some (.list (ps.map bL)))(ea:as=en ps.length xs)(len:ps.length+xs.length=m)(wf:dE ps)(rp:nH ps)(hI:((c.fdiv 4).fmod 3==0)=true->∀(i:Nat) p,i<12->ps[i]?=some p->qh sc i p.aX):BQ c m lp sc lh H₁ as ρ H':=λZ bY=>bY o5 o6 o7 o8 o9 o10 xs ps e x a ea len wf rp hI
section
variable{n:Nat}{c:Int}{m:Nat}{H:Hp}{Q:PQ}
theorem Tt(c:Int):∃sc:Int,gB (.ref (H++[aT.list []]).length) (.int (c.fmod 4)) (H++[aT.list []]++[.list [.int 1,.int 1,.int 1,.int 600]])=some (.int sc)/\(sc=1\/sc=600):=by
 have h4:=nF c (b:=4) (by decide)
 have:c.fmod 4=((0:Nat):Int)\/c.fmod 4=((1:Nat):Int)\/c.fmod 4=((2:Nat):Int)\/c.fmod 4=((3:Nat):Int):=by lia
 rcases this with h|h|h|h<;>rw[h]
 ·exact⟨1,jp (bu _ _) rfl,.inl rfl⟩
 ·exact⟨1,jp (bu _ _) rfl,.inl rfl⟩
 ·exact⟨1,jp (bu _ _) rfl,.inl rfl⟩
 ·exact⟨600,jp (bu _ _) rfl,.inr rfl⟩
theorem Tu(hm:m<=20)(q:∀lp H' ps,ps.length=m->dE ps->nH ps->aA H H'->H.length<=lp->H'[lp]?=some (.list (ps.map bL))->Q (.ref lp) H'):az (n+2) zu [.int c,nv m] H Q Y:=Q5 (by
 refine(Tt (H:=H) c).elim λsc g6=>?_
 apply ay g6.1
 have g6:=g6.2
 refine bQ (yG (n:=n) (le_trans hm (by decide)) λls H₂ xs sd BR mB b7 ax=>?_)
 have a0:=be [aT.list yI] (be [.list [.int 1,.int 1,.int 1,.int 600]] (bu H (.list [])))
 have hh:=bu (H++[aT.list []]++[.list [.int 1,.int 1,.int 1,.int 600]]) (.list yI)
 have l1:H.length<(H++[aT.list []]++[aT.list [.int 1,.int 1,.int 1,.int 600]]).length:=cb (be _ (bu _ _))
 have l2:H.length<ls:=lt_of_lt_of_le (cb a0) mB
 apply ay (cA ax)
 rw[BO]
 refine e8 (BQ c m H.length sc (H++[aT.list []]++[aT.list [.int 1,.int 1,.int 1,.int 600]]).length H₂) (λkx as ρ H' h=>?_) (λρ H' h=>?_) _ _ _ (.mk none none none none none none xs [] rfl (bj.refl _ _) (b7 _ _ a0) rfl (by rw[length_nil,zero_add];exact sd) (λk p h=>(nomatch h)) (λk p h=>(nomatch h)) (λZ i p Z h=>(nomatch h)))
 ·refine h _ λo5 o6 o7 o8 o9 o10 jo ps e x a ea len wf rp hI=>?_
  subst e
  cases jo with
  |nil=>cases ea
  |cons xx jo=>
   have ek:kx=(ps.length,xx):=(List.cons.inj ea).1
   have eas:as=en (ps.length+1) jo:=(List.cons.inj ea).2
   subst ek
   rw[length_cons] at len
   have hk:ps.length<20:=by lia
   refine λN hN=>?_
   have st:∀{H''},bj H.length H₂ H''->eZ [ls] H₂ H''=true:=λx=>cV ax (x _ _ (ne_of_gt l2) ax)
   refine p1 hk g6 λb qi=>p2 hk rfl a λes le H₃ ud Tv cz k9=>p3 (n:=n) k9 Tv λal H₄ dY mA d7=>p4 rfl ((cz.trans d7) _ _ a) (d7 _ _ k9) (λp hp=>(List.getElem?_of_mem hp).elim λi hi=>(wf i p hi) _ λZ Z c Z Z=>c) dY mA λal H₅ dY mA gp=>?_
   have xh:=(cz.trans d7).trans gp
   refine p5 hk g6 rfl (xh _ _ (x _ _ (ne_of_gt l1) (b7 _ _ hh))) (λj hj=>ud j (dY j hj)) mA qi hI λb al dY mA qi hb=>p7 g6 λdi H₆ Hx fA=>p8 (le_of_lt hk) ((xh.trans fA) _ _ a) λH₇ vP Tw=>?_
   have x8:=x.trans (((xh.trans fA).b _).trans vP)
   exact hN _ _ (st x8) (.mk _ _ _ _ _ _ jo (ps++[(⟨b,al,none,di⟩:aE)]) rfl x8 Tw (by rw[length_append];exact eas) (by rw[length_append,<-len];exact(add_assoc _ 1 _).trans (by rw[add_comm 1])) (BP (P:=λ_ (p:aE)=>pV (ps++[(⟨b,al,none,di⟩:aE)]) p) (λi q hq=>(wf i q hq).aU _) (.mk (λj hj=>(dY j hj).aU _) (λx hx=>(by cases hx)) mA (λx hx=>(by cases hx)) qi.1)) (BP (P:=BL) rp ⟨λj hj=>(dY j hj).elim λq hq=>(List.getElem?_eq_some_iff.mp hq.1).1,qi.2,λd hd=>⟨(Hx d hd).1,by have:=(Hx d hd).2;have:=qi.2;lia⟩,λx hx=>(by cases hx)⟩) (λh i p hi hp=>BP (P:=λi (p:aE)=>i<12->qh sc i p.aX) (λi p hp hi=>hI h i p hi hp) (hb h) i p hp hi))
 ·refine h _ λo5 o6 o7 o8 o9 o10 jo ps e x a ea len wf rp hI=>?_
  subst e
  cases jo with
  |nil=>exact q _ _ ps len wf rp (x.ext (((aA.aU _ _).trans ((aA.aU _ _).trans (aA.aU _ _))).trans b7) (le_refl _)) (le_refl _) a
  |cons _ _=>cases ea)
end
end Mine.L
namespace Mine.L
variable{Y:PQ}
open Mine.P PySem
noncomputable def yL(ps dU:List aE):Prop:=dU.length=ps.length/\∀(i:Nat) p',dU[i]?=some p'->(pV ps p'/\BL i p')/\∃p,ps[i]?=some p/\p'.aX=p.aX
theorem yL.wf{ps dU:List aE}(h:yL ps dU):dE dU:=by
 have up:∀{b j},gG ps b j->gG dU b j:=λ{b j} ho=>ho.elim λq hq=>(at_of (show j<dU.length by rw[h.1];exact(List.getElem?_eq_some_iff.mp hq.1).1)).elim λp' cB=>(h.2 j p' cB).2.elim λp hp=>by
  rw[hp.1] at hq
  exact⟨p',cB,by rw[hp.2];cases hq.1;exact hq.2⟩
 exact λk p' cB=>(h.2 k p' cB).1.1 _ λa b c d z=>(.mk (λj hj=>up (a j hj)) (λx hx j hj=>up (b x hx j hj)) c d z)
noncomputable def BS(ps:List aE)(c:Int)(l la:Nat)(H₁:Hp)(as:List (Nat×Int))(ρ:aO)(H':Hp):Prop:=∀AdIζ:Prop,(∀(o3 o4 o5 o6 o7 o8 o9 o10:Option V) (k:Nat) (xs:List Int) (dU:List aE) (e:ρ=[some (.ref l),some (.int c),some (.ref la),o3,o4,o5,o6,o7,o8,o9,o10]) (x:bj la H₁ H') (a:H'[la]?=some (.list (dU.map bL))) (ea:as=en k xs) (len:k+xs.length=ps.length) (ad:yL ps dU),AdIζ)->AdIζ
theorem BS.mk{ps:List aE}{c:Int}{l la:Nat}{H₁:Hp}{as:List (Nat×Int)}{ρ:aO}{H':Hp}(o3 o4 o5 o6 o7 o8 o9 o10:Option V)(k:Nat)(xs:List Int)(dU:List aE)(e:ρ=[some (.ref l),some (.int c),some (.ref la),o3,o4,o5,o6,o7,o8,o9,o10])(x:bj la H₁ H')(a:H'[la]?=some (.list (dU.map bL)))(ea:as=en k xs)(len:k+xs.length=ps.length)(ad:yL ps dU):BS ps c l la H₁ as ρ H':=λZ bY=>bY o3 o4 o5 o6 o7 o8 o9 o10 k xs dU e x a ea len ad
section
variable{n:Nat}{c:Int}{l:Nat}{H:Hp}{Q:PQ}
theorem rG{vs:List V}(h:H[l]?=some (.list vs)):copyOf H (.ref l)=some vs:=by
 refine(?_:(match H[l]?.bind gQ with|some es=>_|none=>cS H (.ref l))=_)
 rw[h];exact cA h
theorem Hy{vs:List V}{k:Nat}{v:V}{K:Hp->Prop}(h:H[l]?=some (.list vs))(hk:k<vs.length)(q:K (H.set l (.list (vs.set k v)))):qO (.ref l) (nv k) v H K:=ay h (And.intro ⟨natCast_nonneg k,ofNat_lt.mpr hk⟩ q)
theorem Tx{ps:List aE}(hA:H[l]?=some (.list (ps.map bL)))(hW:dE ps)(hl:ps.length<=20)(hR:nH ps)(q:∀la H' dU,dU.length=ps.length->dE dU->nH dU->aA H H'->H.length<=la->H'[la]?=some (.list (dU.map bL))->Q (.ref la) H'):az (n+2) zv [.ref l,.int c] H Q Y:=Q6 (by
 apply ay (rG hA)
 refine dj (du (by rw[length_map];exact lt_of_le_of_lt hl (by decide))) ?_
 apply ay (cA (be _ hA))
 rw[length_map]
 refine bQ (yG (n:=n) (le_trans hl (by decide)) λls H₂ xs sd BR mB b7 ax=>?_)
 have a0:=bu H (.list (ps.map bL))
 have l2:H.length<ls:=lt_of_lt_of_le (cb a0) mB
 apply ay (cA ax)
 rw[BO]
 refine e8 (BS ps c l H.length H₂) (λkx as ρ H' h=>?_) (λρ H' h=>?_) _ _ _ (.mk none none none none none none none none 0 xs ps rfl (bj.refl _ _) (b7 _ _ a0) rfl (by rw[zero_add];exact sd) ⟨rfl,λi p hp=>⟨⟨hW i p hp,hR i p hp⟩,p,hp,rfl⟩⟩)
 ·refine h _ λo3 o4 o5 o6 o7 o8 o9 o10 k jo dU e x a ea len ad=>?_
  subst e
  cases jo with
  |nil=>cases ea
  |cons xx jo=>
   have ek:kx=(k,xx):=(List.cons.inj ea).1
   have eas:as=en (k+1) jo:=(List.cons.inj ea).2
   subst ek
   rw[length_cons] at len
   have hk:k<ps.length:=by lia
   refine λN hN=>?_
   have xH:aA H H':=x.ext ((aA.aU _ _).trans b7) (le_refl _)
   have st:∀{H''},bj H.length H₂ H''->eZ [ls] H₂ H''=true:=λx=>cV ax (x _ _ (ne_of_gt l2) ax)
   refine(at_of hk).elim λp hp=>?_
   have iN:=xH _ _ hA
   apply ay (e7 iN hp)
   apply ay (cA iN)
   rw[length_map]
   refine oH (lt_of_le_of_lt hl (by decide)) (dj (du (by rw[length_map,length_range];exact lt_of_le_of_lt hl (by decide))) ?_)
   refine jT (P:=oM ps p.aX) (F:=nv) _ _ _ (λj hj T hT=>?_) (λj Z Z N hN=>hN) ?_
   ·refine(at_of (mem_range.mp hj)).elim λpj Hz=>?_
    apply ay (e7 iN Hz)
    unfold oM at hT
    rw[Hz] at hT
    exact BM (T:=T) hT
   ·have ud:∀j∈(List.range ps.length).filter (oM ps p.aX),gG ps p.aX j:=λj hj=>Hu (mem_filter.mp hj).2
    have ae:=bu H' (.list (aW ((List.range ps.length).filter (oM ps p.aX))))
    generalize (List.range ps.length).filter (oM ps p.aX)=es at ud ae
    have no:∀{H''} {o3 o4 o5 o6 o7 o8 o9 o10},aA H' H''->N [some (.ref l),some (.int c),some (.ref H.length),o3,o4,o5,o6,o7,o8,o9,o10] H'':=λx'=>hN _ _ (st (x.trans (x'.b _))) (.mk _ _ _ _ _ _ _ _ (k+1) jo dU rfl (x.trans (x'.b _)) (x' _ _ a) eas (by lia) ad)
    have fin:∀{al H₃} {o3 o4 o5 o6 o7 o8 o9 o10},(∀j∈al,j∈es)->ic al->al≠[]->(∀d,p.bA=some d->p.aX+xx.fmod 30<d)->aA H' H₃->qO (.ref H.length) (nv k) (.aC [.int p.aX,.aC (aW p.b6),.aC [.int (p.aX+xx.fmod 30),.aC (aW al)],ib p.bA]) H₃ (λH₄=>N [some (.ref l),some (.int c),some (.ref H.length),o3,o4,o5,o6,o7,o8,o9,o10] H₄):=λ{al H₃ _ _ _ _ _ _ _ _} dY h2 fU cU cz=>by
     have oF:k<dU.length:=by rw[ad.1];exact hk
     refine Hy (cz _ _ a) (by rw[length_map];exact oF) ?_
     have x4:=x.trans ((cz.b _).trans (bj.set H.length H₃ (.list ((dU.map bL).set k (.aC [.int p.aX,.aC (aW p.b6),.aC [.int (p.aX+xx.fmod 30),.aC (aW al)],ib p.bA])))))
     refine hN _ _ (st x4) (.mk _ _ _ _ _ _ _ _ (k+1) jo (dU.set k ⟨p.aX,p.b6,some (p.aX+xx.fmod 30,al),p.bA⟩) rfl x4 (?_) eas (by lia) ⟨by rw[length_set];exact ad.1,λi p' cB=>?_⟩)
     ·rw[List.map_set];exact dZ (cz _ _ a) _
     ·by_cases HA:k=i
      ·subst HA
       rw[getElem?_set_self oF] at cB
       cases cB
       exact⟨⟨(hW k p hp) _ λa' b' c' d' z'=>(.mk a' (λy hy j hj=>by cases hy;exact ud j (dY j hj)) c' (λy hy=>by cases hy;exact h2) z'),(hR k p hp).1,(hR k p hp).2.1,(hR k p hp).2.2.1,λy hy=>by
        cases hy
        have Tz:=nF xx (b:=30) (by decide)
        have:=(hR k p hp).2.1
        exact⟨by refine(?_:p.aX<=p.aX+xx.fmod 30);lia,by refine(?_:p.aX+xx.fmod 30<=100000);lia,cU,fU⟩⟩,p,hp,rfl⟩
      ·rw[getElem?_set_ne HA] at cB
       exact ad.2 i p' cB
    refine(?_:bB (((xx.fdiv 30).fmod 4==0)==true) _ _)
    refine fL (λh1=>?_) λh1=>fq h1 (no (aA.aU _ _))
    apply ay (ne_nil (be _ ae) (rN _ _) (bu _ _))
    rw[isEmpty_map]
    have BU:∀a b:List aT,aA H' (H'++a++b):=λa b=>(aA.aU _ _).trans (aA.aU _ _)
    refine fL (λh2=>?_) λh2=>fq h2 (no (BU _ _))
    have TA:es≠[]:=λe=>by rw[e] at h2;cases h2
    have sm:(∀d,p.bA=some d->p.aX+xx.fmod 30<d)->∀(al:List Nat) (H₃:Hp),(∀j∈al,j∈es)->ic al->(al=[]->es=[]\/(1:Int)=0)->aA (H'++[.list (aW es)]++[.list []]) H₃->_:=λcU al H₃ dY h2 hz cz=>fin (o3:=some (nv k)) (o4:=some (.int xx)) (o5:=some (.int p.aX)) (o6:=some (.aC (aW p.b6))) (o7:=some (kD p.ad)) (o8:=some (ib p.bA)) (o9:=some (.ref H'.length)) (o10:=some (.int (p.aX+xx.fmod 30))) dY h2 (λe=>(hz e).elim TA (by decide)) cU ((BU _ _).trans cz)
    have BV:=no (o3:=some (nv k)) (o4:=some (.int xx)) (o5:=some (.int p.aX)) (o6:=some (.aC (aW p.b6))) (o7:=some (kD p.ad)) (o8:=some (ib p.bA)) (o9:=some (.ref H'.length)) (o10:=some (.int (p.aX+xx.fmod 30))) (BU [.list (aW es)] [.list []])
    revert sm BV
    cases hd:p.bA with
    |none=>exact λsm Z=>bQ (BK (be _ ae) (sm λZ h=>nomatch h))
    |some e=>
     intro sm BV
     refine(?_:bB (decide (p.aX+xx.fmod 30<e)) _ _)
     exact cM (λcU=>bQ (BK (be _ ae) (sm λd hd=>by cases hd;exact of_decide_eq_true cU))) λZ=>BV
 ·refine h _ λo3 o4 o5 o6 o7 o8 o9 o10 k jo dU e x a ea len ad=>?_
  subst e
  exact q _ _ dU ad.1 ad.wf (λi p' cB=>(ad.2 i p' cB).1.2) (x.ext ((aA.aU _ _).trans b7) (le_refl _)) (le_refl _) a)
end
end Mine.L
namespace Mine.L
variable{Y:PQ}
open Mine.P PySem
section
variable{n:Nat}{c:Int}{l:Nat}{H:Hp}{Q:PQ}
theorem TB{C:Ct}{ρ:aO}{R:List V×List Nat->Hp->Prop}{a b z:V}{j:Nat}(h:ρ[j]?.join=some (.aC [a,b,z]))(q:R ([a,b],[]) H):oi C (.of (.fG (.J j) none (some (.k (.int 2))))) ρ H R:=ay h q
noncomputable def eW(ps:List aE)(j:Nat):Bool:=(ps[j]?).elim false λp=>p.bA.isSome
noncomputable def jb(ps:List aE)(j:Nat):V:=(ps[j]?).elim .none λp=>ib p.bA
noncomputable def cH(ps:List aE)(j:Nat):Option Int:=ps[j]?.bind (·.bA)
noncomputable def gT(D:Int):Option Int->Option Int->Int
 |none,none=>D
 |some x,none=>x
 |none,some y=>y
 |some x,some y=>min x y
theorem HB{ps:List aE}{a b:Nat}(ha:a<ps.length)(hb:b<ps.length):∃is,allInts (([a,b].filter (eW ps)).map (jb ps))=some is/\∀D,minOf is D=gT D (cH ps a) (cH ps b):=(at_of ha).elim λp hp=>(at_of hb).elim λp' cB=>by
 have e1:eW ps a=p.bA.isSome:=by unfold eW;rw[hp];rfl
 have e2:eW ps b=p'.bA.isSome:=by unfold eW;rw[cB];rfl
 have v1:jb ps a=ib p.bA:=by unfold jb;rw[hp];rfl
 have v2:jb ps b=ib p'.bA:=by unfold jb;rw[cB];rfl
 rw[filter_cons,filter_cons,e1,e2,filter_nil,show cH ps a=p.bA by unfold cH;rw[hp];rfl,show cH ps b=p'.bA by unfold cH;rw[cB];rfl]
 revert v1 v2
 generalize p.bA=o1
 generalize p'.bA=o2
 intro v1 v2
 cases o1 with
 |none=>
  cases o2 with
  |none=>exact⟨[],rfl,λZ=>rfl⟩
  |some y=>exact⟨[y],(by refine(?_:allInts [jb ps b]=_);rw[v2];rfl),λZ=>rfl⟩
 |some x=>
  cases o2 with
  |none=>exact⟨[x],(by refine(?_:allInts [jb ps a]=_);rw[v1];rfl),λZ=>rfl⟩
  |some y=>exact⟨[x,y],(by refine(?_:allInts [jb ps a,jb ps b]=_);rw[v1,v2];rfl),λZ=>rfl⟩
theorem HC{C:Ct}{eF:aO}{ps:List aE}{ws:List Nat}{a b:Nat}{o:Option V}{test:aO->Hp->(Bool->Hp->Prop)->Prop}{elt:aO->Hp->PQ->Prop}{R:List V->Hp->Prop}(ha:a<ps.length)(hb:b<ps.length)(ht:∀(j:Nat) p (T:Bool->Hp->Prop),ps[j]?=some p->T p.bA.isSome H->test (some (nv j)::eF) H T)(he:∀(j:Nat) p (N:PQ),ps[j]?=some p->N (ib p.bA) H->elt (some (nv j)::eF) H N)(q:R ([]++([a,b].filter (eW ps)).map (jb ps)) H):ip ws H (.J 0) test elt [nv a,nv b] (o::eF) H [] R:=by
 have i7:∀j∈[a,b],j<ps.length:=λj hj=>(mem_cons.mp hj).elim (λe=>e▸ha) λh=>by rw[mem_singleton.mp h];exact hb
 refine jT (g:=nv) (P:=eW ps) (F:=jb ps) [a,b] _ _ (λj hj T hT=>?_) (λj hj Z N hN=>?_) q
 ·refine(at_of (i7 j hj)).elim λp hp=>ht j p T hp ?_
  unfold eW at hT
  rw[hp] at hT
  exact hT
 ·refine(at_of (i7 j hj)).elim λp hp=>he j p N hp ?_
  unfold jb at hN
  rw[hp] at hN
  exact hN
theorem HD{ps:List aE}{a b:Nat}{z:V}(hA:H[l]?=some (.list (ps.map bL)))(ha:a<ps.length)(hb:b<ps.length)(q:∀H',aA H H'->Q (.int (gT (10^9) (cH ps a) (cH ps b))) H'):az (n+1) wL [.ref l,.aC [nv a,nv b,z]] H Q Y:=Q8 (by
 unfold zF
 refine fW (nI (TB (j:=1) rfl (dj (du (show 2<16000000 by decide)) ?_)))
 refine HC (C:=⟨az n,xq Y⟩) ha hb (λj p T hp hT=>?_) (λj p N hp hN=>?_) ?_
 ·apply ay (e7 hA hp)
  unfold bL
  cases hd:p.bA with
  |none=>rw[hd] at hT;exact hT
  |some d=>rw[hd] at hT;exact hT
 ·apply ay (e7 hA hp)
  exact hN
 ·refine(HB ha hb).elim λis vU=>?_
  have e:jM (H++[.list ([]++([a,b].filter (eW ps)).map (jb ps))]) (.ref H.length)=some is:=by
   refine(?_:(cS _ (.ref H.length)).bind allInts=_)
   rw[cA (bu _ _)];exact vU.1
  apply ay e
  have q:=q _ (aA.aU H [.list ([]++([a,b].filter (eW ps)).map (jb ps))])
  rw[<-vU.2] at q
  exact q)
noncomputable def vV(ps:List aE)(w u:cc):Bool:=decide (gT (10^9) (cH ps w.a) (cH ps w.b)>u.day)&&decide (gT (10^9) (cH ps u.a) (cH ps u.b)>w.day)
theorem TC{ps:List aE}{a b a' b':Nat}{d d':Int}(hA:H[l]?=some (.list (ps.map bL)))(ha:a<ps.length)(hb:b<ps.length)(rD:a'<ps.length)(kH:b'<ps.length)(q:∀H',aA H H'->Q (.bool (vV ps ⟨a,b,d⟩ ⟨a',b',d'⟩)) H'):az (n+2) uA [.ref l,.aC [nv a,nv b,.int d],.aC [nv a',nv b',.int d']] H Q Y:=Q9 (by
 refine bQ (HD hA ha hb λH₁ vW=>?_)
 have q:∀H',aA H H'->Q (.bool (decide (gT (10^9) (cH ps a) (cH ps b)>d')&&decide (gT (10^9) (cH ps a') (cH ps b')>d))) H':=q
 refine(?_:bB (decide (gT (10^9) (cH ps a) (cH ps b)>d')==true) _ _)
 refine fL (λh1=>?_) λh1=>?_
 ·rw[h1] at q
  exact bQ (HD (vW _ _ hA) rD kH λH₂ b7=>q _ (vW.trans b7))
 ·have q:=q _ vW
  rw[h1] at q
  refine(?_:Q (.bool (decide (gT (10^9) (cH ps a) (cH ps b)>d'))) H₁)
  rw[h1];exact q)
end
end Mine.L
namespace Mine.L
variable{Y:PQ}
open Mine.P PySem
noncomputable abbrev TF:S:=.aS (.J 5) (.bin .mod (.J 4) (.bi .len [.J 0]))
noncomputable abbrev TG:S:=.aS (.J 6) (.bin .mod (.bin .fdiv (.J 4) (.k (.int 60))) (.bi .len [.J 0]))
noncomputable abbrev TH:S:=.aS (.J 7) (.bin .add (.bi .max2 [(.aM (.aM (.J 0) (.J 5)) (.k (.int 0))),(.aM (.aM (.J 0) (.J 6)) (.k (.int 0)))]) (.bin .mod (.bin .fdiv (.J 4) (.k (.int 3600))) (.k (.int 40))))
noncomputable abbrev TI:S:=.aS (.J 9) (.and [(.cmp .ne (.J 5) (.J 6)),(.call sW [.J 0,.J 5,.J 7]),(.call sW [.J 0,.J 6,.J 7])])
noncomputable abbrev TJ:List S:=[.bz (.or [(.cmp .j8 (.J 5) (.fG (.J 10) none (some (.k (.int 2))))),(.cmp .j8 (.J 6) (.fG (.J 10) none (some (.k (.int 2)))))])
    [.aS (.J 9) (.and [.J 9,(.not (.call uA [.J 0,.J 8,.J 10]))])]
    []]
noncomputable abbrev TK:S:=.for (.J 10) (.of (.J 3)) TJ
noncomputable abbrev jY(l:Nat)(c:Int)(m lf:Nat)(x:Int)(o5 o6 o7 o8 o9 o10:Option V):aO:=[some (.ref l),some (.int c),some (nv m),some (.ref lf),some (.int x),o5,o6,o7,o8,o9,o10]
noncomputable def iO(w u:cc):Bool:=(((u.a:Int)==(w.a:Int))||(((u.b:Int)==(w.a:Int))||false))||(((u.a:Int)==(w.b:Int))||(((u.b:Int)==(w.b:Int))||false))
noncomputable def clear(ps:List aE)(w u:cc):Bool:=!(iO w u&&vV ps w u)
noncomputable def yM(ps:List aE)(w:cc):Prop:=w.a≠w.b/\lv ps w.day w.a=true/\lv ps w.day w.b=true/\0<=w.day/\w.day<=100000
noncomputable def yN(ps:List aE)(ms:List cc):Prop:=(∀w∈ms,yM ps w)/\ms.Pairwise λu w=>clear ps w u=true
noncomputable def BW(ps:List aE)(t0:Bool)(ms:List cc)(l:Nat)(c:Int)(m lf:Nat)(x:Int)(a b:Nat)(d:Int)(N:Nat)(H:Hp)(as:List cc)(ρ:aO)(H':Hp):Prop:=∀WmIζ:Prop,(∀(t:Bool) (o10:Option V) (pre:List cc) (e:ρ=jY l c m lf x (some (nv a)) (some (nv b)) (some (.int d)) (some (.aC [nv a,nv b,.int d])) (some (.bool t)) o10) (ext:aA H H') (ok:lK N as) (tot:pre++as=ms) (nm:t=true->t0=true/\∀u∈pre,clear ps ⟨a,b,d⟩ u=true),WmIζ)->WmIζ
theorem BW.mk{ps:List aE}{t0:Bool}{ms:List cc}{l:Nat}{c:Int}{m lf:Nat}{x:Int}{a b:Nat}{d:Int}{N:Nat}{H:Hp}{as:List cc}{ρ:aO}{H':Hp}(t:Bool)(o10:Option V)(pre:List cc)(e:ρ=jY l c m lf x (some (nv a)) (some (nv b)) (some (.int d)) (some (.aC [nv a,nv b,.int d])) (some (.bool t)) o10)(ext:aA H H')(ok:lK N as)(tot:pre++as=ms)(nm:t=true->t0=true/\∀u∈pre,clear ps ⟨a,b,d⟩ u=true):BW ps t0 ms l c m lf x a b d N H as ρ H':=λZ bY=>bY t o10 pre e ext ok tot nm
section
variable{n:Nat}{c x d:Int}{l m lf a b:Nat}{H:Hp}{K:Out->Prop}{rest:List S}{ps:List aE}{o5 o6 o7 o8 o9 o10:Option V}
theorem yO{ps:List aE}(h:0<ps.length):((ps.length:Nat):Int)≠0:=Int.ofNat_ne_zero.mpr (ne_of_gt h)
theorem q5(hA:H[l]?=some (.list (ps.map bL)))(h0:0<ps.length)(h:∀a,a<ps.length->aN ⟨az n,Y⟩ rest (jY l c m lf x (some (nv a)) o6 o7 o8 o9 o10) H K):aN ⟨az n,Y⟩ (TF::rest) (jY l c m lf x o5 o6 o7 o8 o9 o10) H K:=by
 apply ay (cA hA)
 rw[length_map]
 apply ay (iE (a:=x) (yO h0))
 refine(jv x h0).elim λa ha=>?_
 rw[ha.1]
 exact h a ha.2
theorem q6(hA:H[l]?=some (.list (ps.map bL)))(h0:0<ps.length)(h:∀a,a<ps.length->aN ⟨az n,Y⟩ rest (jY l c m lf x o5 (some (nv a)) o7 o8 o9 o10) H K):aN ⟨az n,Y⟩ (TG::rest) (jY l c m lf x o5 o6 o7 o8 o9 o10) H K:=by
 apply ay (cA hA)
 rw[length_map]
 apply ay (iE (a:=x.fdiv 60) (yO h0))
 refine(jv (x.fdiv 60) h0).elim λa ha=>?_
 rw[ha.1]
 exact h a ha.2
theorem q7(hW:dE ps)(hR:nH ps)(hA:H[l]?=some (.list (ps.map bL)))(ha:a<ps.length)(hb:b<ps.length)(h:∀d,0<=d/\d<=100000->aN ⟨az n,Y⟩ rest (jY l c m lf x (some (nv a)) (some (nv b)) (some (.int d)) o8 o9 o10) H K):aN ⟨az n,Y⟩ (TH::rest) (jY l c m lf x (some (nv a)) (some (nv b)) o7 o8 o9 o10) H K:=by
 refine(at_of ha).elim λp hp=>(at_of hb).elim λp' cB=>?_
 apply ay (e7 hA hp)
 apply ay (e7 hA cB)
 refine h _ ?_
 have W3:=nF (x.fdiv 3600) (b:=40) (by decide)
 have z1:0<=p.aX:=(hW a p hp) _ λZ Z Z Z z=>z
 have z2:0<=p'.aX:=(hW b p' cB) _ λZ Z Z Z z=>z
 have b1:=(hR a p hp).2.1
 have b2:=(hR b p' cB).2.1
 refine(?_:0<=max p.aX p'.aX+(x.fdiv 3600).fmod 40/\max p.aX p'.aX+(x.fdiv 3600).fmod 40<=100000)
 rcases Int.le_total p.aX p'.aX with k9|k9
 ·rw[Int.max_eq_right k9];exact⟨by lia,by lia⟩
 ·rw[Int.max_eq_left k9];exact⟨by lia,by lia⟩
theorem q9(hA:H[l]?=some (.list (ps.map bL)))(ha:a<ps.length)(hb:b<ps.length)(h:∀t,(t=true->a≠b/\lv ps d a=true/\lv ps d b=true)->aN ⟨az (n+1),Y⟩ rest (jY l c m lf x (some (nv a)) (some (nv b)) (some (.int d)) o8 (some (.bool t)) o10) H K):aN ⟨az (n+1),Y⟩ (TI::rest) (jY l c m lf x (some (nv a)) (some (nv b)) (some (.int d)) o8 o9 o10) H K:=by
 refine(at_of ha).elim λp hp=>(at_of hb).elim λp' cB=>?_
 refine(?_:bB ((!((a:Int)==(b:Int)))==true) _ _)
 refine fL (λh1=>?_) λh1=>h _ λe=>absurd (h1.symm.trans e) Bool.false_ne_true
 refine bQ (GW hA hp ?_)
 refine(?_:bB (dK p d==true) _ _)
 refine fL (λh2=>?_) λh2=>h _ λe=>absurd (h2.symm.trans e) Bool.false_ne_true
 exact bQ (GW hA cB (h _ λh3=>⟨λe=>(by rw[e,beq_self_eq_true] at h1;cases h1),(gR hp).trans h2,(gR cB).trans h3⟩))
theorem TL{ms:List cc}{t:Bool}(hA:H[l]?=some (.list (ps.map bL)))(ha:a<ps.length)(hb:b<ps.length)(hM:H[lf]?=some (.list (ms.map gq)))(ok:lK ps.length ms)(h:∀t' o10 H',(t'=true->t=true/\∀u∈ms,clear ps ⟨a,b,d⟩ u=true)->aA H H'->aN ⟨az (n+2),Y⟩ rest (jY l c m lf x (some (nv a)) (some (nv b)) (some (.int d)) (some (.aC [nv a,nv b,.int d])) (some (.bool t')) o10) H' K):aN ⟨az (n+2),Y⟩ (TK::rest) (jY l c m lf x (some (nv a)) (some (nv b)) (some (.int d)) (some (.aC [nv a,nv b,.int d])) (some (.bool t)) o10) H K:=by
 apply ay (dg hM)
 refine e8 (BW ps t ms l c m lf x a b d ps.length H) (λw as ρ H' hI=>?_) (λρ H' hI=>?_) _ _ _ (.mk t o10 [] rfl (aA.refl _) ok rfl λe=>⟨e,λZ h=>nomatch h⟩)
 ·refine hI _ λt' o10 pre e ext ok tot nm=>?_
  subst e
  refine λN hN=>?_
  have hw:=ok w mem_cons_self
  have no:∀t2 H'',(t2=true->t'=true/\clear ps ⟨a,b,d⟩ w=true)->aA H' H''->N (jY l c m lf x (some (nv a)) (some (nv b)) (some (.int d)) (some (.aC [nv a,nv b,.int d])) (some (.bool t2)) (some (gq w))) H'':=λt2 H'' ht x'=>hN _ _ (cV hM ((ext.trans x') _ _ hM)) (.mk t2 _ (pre++[w]) rfl (ext.trans x') (λw h=>ok w (.tail _ h)) (gd tot) λe=>⟨(nm (ht e).1).1,λu hu=>(mem_append.mp hu).elim ((nm (ht e).1).2 u) λhu=>by rw[mem_singleton.mp hu];exact(ht e).2⟩)
  have yes:iO ⟨a,b,d⟩ w=true->aN ⟨az (n+2),Y⟩ [.aS (.J 9) (.and [.J 9,(.not (.call uA [.J 0,.J 8,.J 10]))])] (jY l c m lf x (some (nv a)) (some (nv b)) (some (.int d)) (some (.aC [nv a,nv b,.int d])) (some (.bool t')) (some (gq w))) H' (λo=>kZ o N False):=λTM=>by
   refine(?_:bB (t'==true) _ _)
   refine fL (λh1=>?_) λh1=>no _ _ (λe=>absurd (h1.symm.trans e) Bool.false_ne_true) (aA.refl _)
   exact bQ (TC (n:=n) (ext _ _ hA) ha hb hw.1 hw.2 λH'' x'=>no _ _ (λe=>⟨h1,by unfold clear;rw[TM];exact e⟩) x')
  refine(?_:bB ((((w.a:Int)==(a:Int))||(((w.b:Int)==(a:Int))||false))==false) _ _)
  refine jq (λh1=>?_) λh1=>fV h1 (yes (by unfold iO;rw[h1];rfl))
  refine(?_:bB (((w.a:Int)==(b:Int))||(((w.b:Int)==(b:Int))||false)) _ _)
  exact cM (λh2=>yes (by unfold iO;rw[h2,Bool.or_true])) λh2=>no _ _ (λe=>⟨e,by unfold clear iO;rw[h1,h2];rfl⟩) (aA.refl _)
 ·refine hI _ λt' o10 pre e ext ok tot nm=>?_
  subst e
  rw[append_nil] at tot
  subst tot
  exact h _ _ _ nm ext
end
end Mine.L
namespace Mine.L
variable{Y:PQ}
open Mine.P PySem
noncomputable def BX(ps:List aE)(c:Int)(m l lf N:Nat)(H₁:Hp)(as:List Int)(ρ:aO)(H':Hp):Prop:=∀WdIζ:Prop,(∀(o4 o5 o6 o7 o8 o9 o10:Option V) (ms:List cc) (e:ρ=[some (.ref l),some (.int c),some (nv m),some (.ref lf),o4,o5,o6,o7,o8,o9,o10]) (x:bj lf H₁ H') (a:H'[lf]?=some (.list (ms.map gq))) (ok:lK N ms) (wr:yN ps ms) (len:ms.length+as.length<=m),WdIζ)->WdIζ
theorem BX.mk{ps:List aE}{c:Int}{m l lf N:Nat}{H₁:Hp}{as:List Int}{ρ:aO}{H':Hp}(o4 o5 o6 o7 o8 o9 o10:Option V)(ms:List cc)(e:ρ=[some (.ref l),some (.int c),some (nv m),some (.ref lf),o4,o5,o6,o7,o8,o9,o10])(x:bj lf H₁ H')(a:H'[lf]?=some (.list (ms.map gq)))(ok:lK N ms)(wr:yN ps ms)(len:ms.length+as.length<=m):BX ps c m l lf N H₁ as ρ H':=λZ bY=>bY o4 o5 o6 o7 o8 o9 o10 ms e x a ok wr len
section
variable{n:Nat}{c:Int}{l m:Nat}{H:Hp}{Q:PQ}
theorem TN{ps:List aE}(hW:dE ps)(hR:nH ps)(hA:H[l]?=some (.list (ps.map bL)))(h0:0<ps.length)(hm:m<=1000)(q:∀lm H' ms,lK ps.length ms->yN ps ms->ms.length<=m->aA H H'->H.length<=lm->H'[lm]?=some (.list (ms.map gq))->Q (.ref lm) H'):az (n+3) zw [.ref l,.int c,nv m] H Q Y:=Ra (by
 refine bQ (yG (n:=n+1) hm λls H₂ xs sd BR mB b7 ax=>?_)
 have a0:=bu H (.list [])
 have l2:H.length<ls:=lt_of_lt_of_le (cb a0) mB
 apply ay (dg ax)
 refine e8 (BX ps c m l H.length ps.length H₂) (λx as ρ H' h=>?_) (λρ H' h=>?_) _ _ _ (.mk none none none none none none none [] rfl (bj.refl _ _) (b7 _ _ a0) (λZ h=>(nomatch h)) ⟨λZ h=>(nomatch h),Pairwise.nil⟩ (by rw[length_nil,zero_add];exact le_of_eq sd))
 ·refine h _ λo4 o5 o6 o7 o8 o9 o10 ms e x' a ok wr len=>?_
  subst e
  refine λN hN=>?_
  rw[length_cons] at len
  have xH:aA H H':=x'.ext ((aA.aU _ _).trans b7) (le_refl _)
  have iN:=xH _ _ hA
  have st:∀{H''},bj H.length H₂ H''->eZ [ls] H₂ H''=true:=λx=>cV ax (x _ _ (ne_of_gt l2) ax)
  refine q5 iN h0 λb hb=>q6 iN h0 λb' kH=>q7 hW hR iN hb kH λd hd=>?_
  refine fW ?_
  refine q9 (n:=n+1) iN hb kH λt ht=>TL (n:=n) iN hb kH a ok λt' o10 H₃ hc cz=>?_
  have a3:=cz _ _ a
  refine(?_:bB t' _ _)
  refine cM (λh1=>?_) λZ=>hN _ _ (st (x'.trans (cz.b _))) (.mk _ _ _ _ _ _ _ ms rfl (x'.trans (cz.b _)) a3 ok wr (by lia))
  refine gb a3 (gc a3 (by rw[length_map];lia) (hN _ _ (st ((x'.trans (cz.b _)).trans (bj.set _ _ _))) (.mk _ _ _ _ _ _ _ (ms++[⟨b,b',d⟩]) rfl ((x'.trans (cz.b _)).trans (bj.set _ _ _)) (?_) (λw hw=>(mem_append.mp hw).elim (ok w) λh=>by rw[mem_singleton.mp h];exact⟨hb,kH⟩) ⟨λw hw=>(mem_append.mp hw).elim (wr.1 w) λh=>by rw[mem_singleton.mp h];exact⟨(ht (hc h1).1).1,(ht (hc h1).1).2.1,(ht (hc h1).1).2.2,hd⟩,List.pairwise_append.mpr ⟨wr.2,List.pairwise_singleton _ _,λu hu w hw=>by rw[mem_singleton.mp hw];exact(hc h1).2 u hu⟩⟩ (by rw[length_append];refine(?_:ms.length+1+as.length<=m);lia))))
  rw[map_append];exact dZ a3 _
 ·refine h _ λo4 o5 o6 o7 o8 o9 o10 ms e x' a ok wr len=>?_
  subst e
  exact q _ _ ms ok wr (le_trans (le_add_right _ _) len) (x'.ext ((aA.aU _ _).trans b7) (le_refl _)) (le_refl _) a)
end
end Mine.L
namespace Mine.L
variable{Y:PQ}
open Mine.P PySem
noncomputable abbrev BY(ov un j:Nat):V:=.aC [nv j,nv ov,nv un]
noncomputable def BZ(l kp:Nat)(x:Int)(r N:Nat)(H:Hp)(as:List Nat)(ρ:aO)(H':Hp):Prop:=∀GfIζ:Prop,(∀(o4 o5:Option V) (ns:List Nat) (e:ρ=[some (.ref l),some (nv kp),some (.int x),some (.ref H.length),o4,o5,none,none]) (ext:aA H H') (a:H'[H.length]?=some (.list (aW ns))) (ok:(∀j∈ns,j<N)/\ns.Nodup/\kp∉ns) (len:ns.length+as.length<=r) (small:∀k∈as,k<r),GfIζ)->GfIζ
theorem BZ.mk{l kp:Nat}{x:Int}{r N:Nat}{H:Hp}{as:List Nat}{ρ:aO}{H':Hp}(o4 o5:Option V)(ns:List Nat)(e:ρ=[some (.ref l),some (nv kp),some (.int x),some (.ref H.length),o4,o5,none,none])(ext:aA H H')(a:H'[H.length]?=some (.list (aW ns)))(ok:(∀j∈ns,j<N)/\ns.Nodup/\kp∉ns)(len:ns.length+as.length<=r)(small:∀k∈as,k<r):BZ l kp x r N H as ρ H':=λZ bY=>bY o4 o5 ns e ext a ok len small
section
variable{n:Nat}{x:Int}{l kp:Nat}{H:Hp}{Q:PQ}
noncomputable def TO(H:Hp)(N kp:Nat)(Q:PQ):Prop:=∀(lg:Nat) (H':Hp) (ns:List Nat) (ov un:Nat),(∀j∈ns,j<N)/\ns.Nodup/\kp∉ns->ns.length<=10->ov<=3->1<=ov->ov*ns.length<=un->un<1000->aA H H'->H'[lg]?=some (.list (ns.map (BY ov un)))->Q (.ref lg) H'
theorem TP(x:Int):∃(z:Int) (r:Nat),gB (.ref (H++[aT.list []]).length) (.int ((x.fdiv 30).fmod 3)) (H++[aT.list []]++[.list [.int 3,.int 3,.int 10]])=some (.int z)/\z≠0/\1+x.fmod z=(r:Int)/\r<=10:=
 have h3:=vS x (k:=3) (c:=10) (by decide) (by decide)
 have kC:=vS x (k:=10) (c:=10) (by decide) (by decide)
 Tb (x.fdiv 30) (P:=λi=>∃(z:Int) (r:Nat),gB (.ref (H++[aT.list []]).length) (.int i) (H++[aT.list []]++[.list [.int 3,.int 3,.int 10]])=some (.int z)/\z≠0/\1+x.fmod z=(r:Int)/\r<=10)
  (h3.elim λr h=>⟨3,r,jp (bu _ _) rfl,by decide,h.1,h.2.2⟩) (h3.elim λr h=>⟨3,r,jp (bu _ _) rfl,by decide,h.1,h.2.2⟩) (kC.elim λr h=>⟨10,r,jp (bu _ _) rfl,by decide,h.1,h.2.2⟩)
theorem TQ(x:Int):∃mo:Nat,gB (.ref H.length) (.int ((x.fdiv 7).fmod 2)) (H++[.list [.int ((x.fdiv 11340).fmod 4),.int ((x.fdiv 11340).fmod 900)]])=some (nv mo)/\mo<900:=
 (jv (x.fdiv 11340) (k:=4) (by decide)).elim λa ha=>(jv (x.fdiv 11340) (k:=900) (by decide)).elim λb hb=>mod2 (x.fdiv 7) (P:=λi=>∃mo:Nat,gB (.ref H.length) (.int i) (H++[.list [.int ((x.fdiv 11340).fmod 4),.int ((x.fdiv 11340).fmod 900)]])=some (nv mo)/\mo<900)
  ⟨a,(jp (bu _ _) rfl).trans (by rw[show(x.fdiv 11340).fmod 4=(a:Int) from ha.1]),lt_trans ha.2 (by decide)⟩ ⟨b,(jp (bu _ _) rfl).trans (by rw[show(x.fdiv 11340).fmod 900=(b:Int) from hb.1]),hb.2⟩
theorem TR{ps:List aE}(hA:H[l]?=some (.list (ps.map bL)))(h0:0<ps.length)(q:TO H ps.length kp Q):az (n+1) zx [.ref l,nv kp,.int x] H Q Y:=Rb (by
 refine(TP (H:=H) x).elim λz hz=>hz.elim λr hz=>?_
 apply ay hz.1
 apply ay (iE hz.2.1)
 refine ff (op:=.add) (p:=1) (q:=x.fmod z) (z:=(r:Int)) (congrArg some hz.2.2.1) ?_
 have hr:=hz.2.2.2
 refine oH (lt_of_le_of_lt hr (by decide)) ?_
 refine e8 (BZ l kp x r ps.length H) (λk as ρ H' h=>?_) (λρ H' h=>?_) _ _ _ (.mk none none [] rfl ((aA.aU _ _).trans (aA.aU _ _)) (be _ (bu _ _)) ⟨λZ h=>(nomatch h),nodup_nil,λh=>(nomatch h)⟩ (by rw[length_range,length_nil,zero_add];exact le_refl _) (λk hk=>mem_range.mp hk))
 ·refine h _ λo4 o5 ns e ext a ok len small=>?_
  subst e
  refine λN hN=>?_
  rw[length_cons] at len
  have hk:=small k mem_cons_self
  apply ay (i8 (i:=10) (j:=10) (a:=(k:Int)) (b:=1+(x.fdiv 540).fmod 7) (nG hk (le_trans hr (by decide))) ((vS (x.fdiv 540) (k:=7) (c:=1000) (by decide) (by decide)).elim λr h=>by rw[show 1+(x.fdiv 540).fmod 7=(r:Int) from h.1];exact nG (lt_succ_of_le h.2.2) (by decide)) (by decide))
  apply ay (cA (ext _ _ hA))
  rw[length_map]
  apply ay (iE (a:=x.fdiv 90+(k:Int)*(1+(x.fdiv 540).fmod 7)) (yO h0))
  refine(jv (x.fdiv 90+(k:Int)*(1+(x.fdiv 540).fmod 7)) h0).elim λj hj=>?_
  rw[hj.1]
  have no:N [some (.ref l),some (nv kp),some (.int x),some (.ref H.length),some (nv k),some (nv j),none,none] H':=hN _ _ rfl (.mk _ _ ns rfl ext a ok (le_of_succ_le len) (λk hk=>small k (.tail _ hk)))
  refine(?_:bB ((!((j:Int)==(kp:Int)))==true) _ _)
  refine fL (λh1=>?_) λh1=>fq h1 no
  apply ay (Hs a)
  refine cM (λh2=>?_) λh2=>no
  have TS:j∉ns:=λhm=>by rw[decide_eq_true hm] at h2;cases h2
  exact gb a (gc a (by rw[length_map];exact lt_of_le_of_lt (le_trans (le_trans (le_add_right _ _) len) hr) (by decide)) (hN _ _ rfl (.mk _ _ (ns++[j]) rfl (ext.set (le_refl _) _) (by rw[<-rO];exact dZ a _) ⟨λi hi=>(mem_append.mp hi).elim (ok.1 i) λh=>by rw[mem_singleton.mp h];exact hj.2,nodup_append.mpr ⟨ok.2.1,nodup_cons.mpr ⟨not_mem_nil,nodup_nil⟩,λi hi i' q0 e=>TS (mem_singleton.mp q0▸e▸hi)⟩,λhm=>(mem_append.mp hm).elim ok.2.2 λh=>by rw[mem_singleton.mp h,beq_self_eq_true] at h1;cases h1⟩ (by rw[length_append];refine(?_:ns.length+1+as.length<=r);rw[add_right_comm];exact len) (λk hk=>small k (.tail _ hk)))))
 ·refine h _ λo4 o5 ns e ext a ok len small=>?_
  subst e
  have jQ:ns.length<=10:=le_trans (le_trans (le_add_right _ _) len) hr
  refine(vS (x.fdiv 3780) (k:=3) (c:=3) (by decide) (le_refl _)).elim λov ny=>?_
  refine fW (fM (ct (fM (fM (bS rfl (ct ?_))))))
  refine ff (r9 (by decide)) (ct (ff (iE (by decide)) (ff rfl ?_)))
  rw[show 1+(x.fdiv 3780).fmod 3=(ov:Int) from ny.1]
  refine ay rfl ?_
  refine(TQ (H:=H') x).elim λmo HE=>?_
  apply ay HE.1
  apply ay (dg (be _ a))
  refine dj (du (by rw[length_map];exact lt_of_le_of_lt jQ (by decide))) ?_
  refine jT (P:=λZ=>true) (F:=BY ov (ov*ns.length+mo)) _ _ _ (λj Z T hT=>hT) (λj Z Z N hN=>?_) ?_
  ·apply ay (cA (be _ a))
   rw[length_map]
   apply ay (i8 (i:=10) (j:=10) (a:=(ov:Int)) (b:=(ns.length:Int)) (nG (lt_succ_of_le ny.2.2) (by decide)) (nG (lt_succ_of_le jQ) (by decide)) (by decide))
   exact hN
  ·rw[t7]
   have hmul:ov*ns.length<=30:=le_trans (Nat.mul_le_mul ny.2.2 jQ) (by decide)
   refine q _ _ ns ov (ov*ns.length+mo) ok jQ ny.2.2 ny.2.1 (le_add_right _ _) (lt_of_lt_of_le (Nat.add_lt_add_of_le_of_lt hmul HE.2) (by decide)) (ext.trans ((aA.aU _ _).trans (aA.aU _ _))) (bu _ _))
end
end Mine.L
namespace Mine.L
variable{Y:PQ}
open Mine.P PySem
noncomputable def qj(ps:List aE)(w:c6):Prop:=∃p,ps[w.cT]?=some p/\p.aX<=w.day/\w.day<=100000/\∀d,p.bA=some d->w.day<=d
noncomputable def B0(ps:List aE)(c:Int)(m l lf N:Nat)(H₁:Hp)(as:List Int)(ρ:aO)(H':Hp):Prop:=∀WlIζ:Prop,(∀(o4 o5 o6 o7:Option V) (ws:List c6) (e:ρ=[some (.ref l),some (.int c),some (nv m),some (.ref lf),o4,o5,o6,o7]) (x:bj lf H₁ H') (a:H'[lf]?=some (.list (ws.map d6))) (ok:vO N ws) (wd:∀w∈ws,qj ps w) (len:ws.length+as.length<=m),WlIζ)->WlIζ
theorem B0.mk{ps:List aE}{c:Int}{m l lf N:Nat}{H₁:Hp}{as:List Int}{ρ:aO}{H':Hp}(o4 o5 o6 o7:Option V)(ws:List c6)(e:ρ=[some (.ref l),some (.int c),some (nv m),some (.ref lf),o4,o5,o6,o7])(x:bj lf H₁ H')(a:H'[lf]?=some (.list (ws.map d6)))(ok:vO N ws)(wd:∀w∈ws,qj ps w)(len:ws.length+as.length<=m):B0 ps c m l lf N H₁ as ρ H':=λZ bY=>bY o4 o5 o6 o7 ws e x a ok wd len
noncomputable def B1(q:Rat)(eF:aO)(H:Hp)(tot as:List Nat)(aL:List V)(ρ:aO)(H':Hp):Prop:=∀TuIζ:Prop,(∀(o o' oN:Option V) (an:List Nat) (e:ρ=o::o'::oN::eF) (eh:H'=H) (ea:aL=an.map λj=>nC (j,q)) (t:an++as=tot),TuIζ)->TuIζ
theorem B1.mk{q:Rat}{eF:aO}{H:Hp}{tot as:List Nat}{aL:List V}{ρ:aO}{H':Hp}(o o' oN:Option V)(an:List Nat)(e:ρ=o::o'::oN::eF)(eh:H'=H)(ea:aL=an.map λj=>nC (j,q))(t:an++as=tot):B1 q eF H tot as aL ρ H':=λZ bY=>bY o o' oN an e eh ea t
theorem oO{α:Type}{f:V->Option PyData}{g:α->V}{d:α->PyData}(h:∀a,f (g a)=some (d a)):∀l:List α,eY f (l.map g)=some (l.map d)
 |[]=>rfl
 |a::r=>fB (h a) (oO h r)
section
variable{n:Nat}{c:Int}{l m:Nat}{H:Hp}{Q:PQ}
theorem TT{ps:List aE}(hW:dE ps)(hR:nH ps)(hA:H[l]?=some (.list (ps.map bL)))(h0:0<ps.length)(hm:m<=1000)(q:∀lw H' ws,vO ps.length ws->(∀w∈ws,qj ps w)->ws.length<=m->aA H H'->H.length<=lw->H'[lw]?=some (.list (ws.map d6))->Q (.ref lw) H'):az (n+2) zy [.ref l,.int c,nv m] H Q Y:=Rc (by
 refine bQ (yG (n:=n) hm λls H₂ xs sd BR mB b7 ax=>?_)
 have a0:=bu H (.list [])
 have l2:H.length<ls:=lt_of_lt_of_le (cb a0) mB
 apply ay (dg ax)
 refine e8 (B0 ps c m l H.length ps.length H₂) (λx as ρ H' h=>?_) (λρ H' h=>?_) _ _ _ (.mk none none none none [] rfl (bj.refl _ _) (b7 _ _ a0) (λZ h=>(nomatch h)) (λZ h=>(nomatch h)) (by rw[length_nil,zero_add];exact le_of_eq sd))
 ·refine h _ λo4 o5 o6 o7 ws e x' a ok wd len=>?_
  subst e
  refine λN hN=>?_
  rw[length_cons] at len
  have xH:aA H H':=x'.ext ((aA.aU _ _).trans b7) (le_refl _)
  have iN:=xH _ _ hA
  have st:∀{H''},bj H.length H₂ H''->eZ [ls] H₂ H''=true:=λx=>cV ax (x _ _ (ne_of_gt l2) ax)
  apply ay (cA iN)
  rw[length_map]
  apply ay (iE (a:=x) (yO h0))
  refine(jv x h0).elim λk hk=>?_
  rw[hk.1]
  refine(at_of hk.2).elim λp hp=>?_
  apply ay (e7 iN hp)
  refine bQ (TR (n:=n) iN h0 λlg H₃ ns ov un jQ kC ny HF k9 HG cz ag=>?_)
  have no:∀{H''} {o4 o5 o6 o7},aA H' H''->N [some (.ref l),some (.int c),some (nv m),some (.ref H.length),o4,o5,o6,o7] H'':=λrX=>hN _ _ (st (x'.trans (rX.b _))) (.mk _ _ _ _ ws rfl (x'.trans (rX.b _)) (rX _ _ a) ok wd (le_of_succ_le len))
  have x4:=cz.trans (aA.aU H₃ [.list []])
  have vX:=be [.list []] ag
  apply ay (ne_nil vX (oO (d:=λj:Nat=>PyData.tuple [.int j,.int ov,.int un]) (λj=>rfl) ns) (bu _ _))
  rw[isEmpty_map]
  refine fL (λh1=>?_) λh1=>fq h1 (no x4)
  have fU:ns≠[]:=λe=>by rw[e] at h1;cases h1
  have hu:un≠0:=λe=>by have:1*1<=ov*ns.length:=Nat.mul_le_mul HF (List.length_pos_iff.mpr fU);exact absurd (le_trans this k9) (by rw[e];decide)
  generalize H₃++[aT.list []]=H₄ at x4 vX
  have a4:=x4 _ _ a
  have fin:∀{d:Int} (hd:0<=d/\qj ps ⟨k,d,ns.map λj=>(j,Rat.normalize ov un hu)⟩) {o4 o5 o6 o7} {H₅:Hp},aA H₄ H₅->pH .append (.ref H.length) [.aC [nv k,.int d,.aC (ns.map λj=>nC (j,Rat.normalize ov un hu))]] H₅ (λZ H₆=>N [some (.ref l),some (.int c),some (nv m),some (.ref H.length),o4,o5,o6,o7] H₆):=λ{d} hd {_ _ _ _ H₅} x5=>by
   have a5:=x5 _ _ a4
   refine gc a5 (by rw[length_map];exact lt_of_le_of_lt (le_trans (le_add_right _ _) len) (lt_of_le_of_lt hm (by decide))) ?_
   have x6:=(x'.trans ((x4.trans x5).b _)).trans (bj.set H.length H₅ (.list (ws.map d6++[.aC [nv k,.int d,.aC (ns.map λj=>nC (j,Rat.normalize ov un hu))]])))
   refine hN _ _ (st x6) (.mk _ _ _ _ (ws++[⟨k,d,ns.map λj=>(j,Rat.normalize ov un hu)⟩]) rfl x6 (?_) (λw hw=>(mem_append.mp hw).elim (ok w) λh=>?_) (λw hw=>(mem_append.mp hw).elim (wd w) λh=>by rw[mem_singleton.mp h];exact hd.2) (by rw[length_append];refine(?_:ws.length+1+as.length<=m);exact(by rw[add_right_comm];exact len)))
   ·rw[map_append,dZ a5]
    refine(?_:_=some (aT.list (_++[d6 ⟨k,d,_⟩])))
    unfold d6 ij
    rw[map_map];rfl
   ·rw[mem_singleton.mp h]
    refine(.mk ⟨λg hg=>(mem_map.mp hg).elim λj hj=>hj.2▸⟨jQ.1 j hj.1,Sm.pW hu (show(ov:Int).natAbs<2^10 from nG (lt_succ_of_le ny) (by decide)) (show un<2^10 from lt_trans HG (by decide))⟩,by rw[length_map];exact kC⟩ hd.1 ns ov un hu rfl HF HG k9 ⟨jQ.2.1,jQ.2.2,fU⟩)
  have aC:∀{d:Int},0<=d/\qj ps ⟨k,d,ns.map λj=>(j,Rat.normalize ov un hu)⟩->aN ⟨az (n+1),Y⟩ [.expr (.c8 .append (.J 3) [(.aC [.J 5,.J 6,(.bi .tupleOf [(.comp 3 (.aC [.J 0,(.call uB [.J 1,.J 2])]) (.aC [.J 0,.J 1,.J 2]) (.of (.J 7)) [])])])])] [some (.ref l),some (.int c),some (nv m),some (.ref H.length),some (.int x),some (nv k),some (.int d),some (.ref lg)] H₄ (λo=>kZ o N False):=λ{d} hd=>by
   refine gb a4 ?_
   apply ay (dg vX)
   refine dj (du (by rw[length_map];exact lt_of_le_of_lt kC (by decide))) ?_
   refine pS (g:=BY ov un) (B1 (Rat.normalize ov un hu) [some (.ref l),some (.int c),some (nv m),some (.ref H.length),some (.int x),some (nv k),some (.int d),some (.ref lg)] H₄ ns) (λj as aL ρ H' h=>?_) (λaL ρ H' h=>?_) ns _ _ _ (.mk none none none [] rfl rfl rfl rfl)
   ·refine h _ λo o' oN an e eh ea t=>?_
    subst e eh
    refine λN' iL=>bQ (RK hu ?_)
    exact iL _ _ (cV vX vX) (.mk _ _ _ (an++[j]) rfl rfl (by rw[ea,map_append];rfl) (gd t))
   ·refine h _ λo o' oN an e eh ea t=>?_
    rw[append_nil] at t
    subst eh ea t
    apply ay (cA (bu _ _))
    exact fin hd (aA.aU _ _)
  have HH:0<=p.aX+(x.fdiv 60).fmod 30:=Int.add_nonneg ((hW k p hp) _ λZ Z Z Z z=>z) (nF _ (by decide)).1
  have Tz:=nF (x.fdiv 60) (b:=30) (by decide)
  have yh:p.aX<=p.aX+(x.fdiv 60).fmod 30:=by lia
  have HI:p.aX+(x.fdiv 60).fmod 30<=100000:=by have:=(hR k p hp).2.1;lia
  apply ay (e7 (x4 _ _ iN) hp)
  unfold bL
  cases hd:p.bA with
  |none=>exact aC ⟨HH,p,hp,yh,HI,λd h=>by rw[hd] at h;cases h⟩
  |some dd=>
   apply ay (e7 (x4 _ _ iN) hp)
   unfold bL
   rw[hd]
   refine(?_:bB (decide (p.aX+(x.fdiv 60).fmod 30<=dd)) _ _)
   exact cM (λh9=>aC ⟨HH,p,hp,yh,HI,λd h=>by rw[hd] at h;cases h;exact of_decide_eq_true h9⟩) λZ=>no x4
 ·refine h _ λo4 o5 o6 o7 ws e x' a ok wd len=>?_
  subst e
  exact q _ _ ws ok wd (le_trans (le_add_right _ _) len) (x'.ext ((aA.aU _ _).trans b7) (le_refl _)) (le_refl _) a)
end
end Mine.L
namespace Mine.L
variable{Y:PQ}
open Mine.P PySem
section
variable{C:Ct}{ρ b9:aO}{H:Hp}{Q:PQ}{K:Out->Prop}{r:List S}{t:cX}{e a i E1 E2:E}{v x y:V}{R:Bool->Hp->Prop}
theorem jZ{vs:List V}(h:Q (.ref H.length) (H++[.list vs])):kY vs H Q:=h
theorem lM{b c:List S}(h:tp C e ρ H λt H=>bB t (aN C b ρ H λo=>kZ o (λρ H=>aN C r ρ H K) (K o)) (aN C c ρ H λo=>kZ o (λρ H=>aN C r ρ H K) (K o))):aN C (.bz e b c::r) ρ H K:=h
theorem ue{op:lY}(h:WE C a ρ H λx H=>WE C i ρ H λy H=>aH (eQ op x y H) λt=>R t H):tp C (.cmp op a i) ρ H R:=h
theorem uf(h:WE C a ρ H λx H=>aH (truthy H x) λb=>R b H):tp C a ρ H R:=h
theorem HJ(h:WE C E1 ρ H λx H=>aH (truthy H x) λb=>Q (.bool (!b)) H):WE C (.not E1) ρ H Q:=h
theorem nJ{R:List V×List Nat->Hp->Prop}(h:WE C e ρ H λx H=>aH (keysOf H x) λvs=>R (vs,watch x) H):oi C (.of e) ρ H R:=h
theorem fD(h:WE C a ρ H λx H=>WE C i ρ H λy H=>aH (gB x y H) λv=>Q v H):WE C (.aM a i) ρ H Q:=h
theorem yP(h:R true H):WT C [] ρ H R:=h
theorem B2(h:WE C a ρ H λv H=>K (.ret v H)):aN C (.ret a::r) ρ H K:=h
theorem B3(h:WE C e ρ H λZ H=>aN C r ρ H K):aN C (.expr e::r) ρ H K:=h
theorem HK(h:WE C E1 ρ H λx H=>aH (truthy H x) λt=>bB (t==true) (WE C E2 ρ H Q) (Q x H)):WE C (.and [E1,E2]) ρ H Q:=h
theorem B4(h:WE C E1 ρ H λx H=>aH (truthy H x) λt=>bB (t==false) (WE C E2 ρ H Q) (Q x H)):WE C (.or [E1,E2]) ρ H Q:=h
theorem se{f:Nat}{x y:E}(h:WE C x ρ H λu H=>WE C y ρ H λv H=>C.call f [u,v] H Q C.exc):WE C (.call f [x,y]) ρ H Q:=h
theorem HL{j l:Nat}{vs:List V}(hj:ρ[j]?.join=some (.ref l))(h:H[l]?=some (.list vs))(q:Q (.int vs.length) H):WE C (.bi .len [.J j]) ρ H Q:=ay hj (ay (cA h) q)
theorem TU{l j m:Nat}{vs:List V}(hj:ρ[j]?.join=some (.ref l))(hm:ρ[m]?.join=some v)(h:H[l]?=some (.list vs))(hs:vs.length<16000000)(k:aN C r ρ (H.set l (.list (vs++[v]))) K):aN C (.expr (.c8 .append (.J j) [.J m])::r) ρ H K:=ay hj (gb h (ay hm (gc h hs k)))
end
end Mine.L
namespace Mine.L
variable{Y:PQ}
open Mine.P PySem
noncomputable def ug:Option Int->PyData
 |none=>.none
 |some d=>.int d
noncomputable def oP(l:List Nat):PyData:=.tuple (l.map λi:Nat=>.int i)
noncomputable def uh:Option (Int×List Nat)->PyData
 |none=>.none
 |some a=>.tuple [.int a.1,oP a.2]
noncomputable def sf(p:aE):PyData:=.tuple [.int p.aX,oP p.b6,uh p.ad,ug p.bA]
noncomputable def mC(w:cc):PyData:=.tuple [.int w.a,.int w.b,.int w.day]
noncomputable def sg(g:Nat×Rat):PyData:=.tuple [.int g.1,nE g.2]
noncomputable def sh(w:c6):PyData:=.tuple [.int w.cT,.int w.day,.tuple (w.cC.map sg)]
theorem si{α:Type}{d:α->PyData}(h:∀a,PyData.eqv (d a) (d a)=true):∀l:List α,PyData.eqvAll (l.map d) (l.map d)=true
 |[]=>rfl
 |a::r=>by
  refine(?_:(PyData.eqv (d a) (d a)&&PyData.eqvAll _ _)=true)
  rw[h a,si h r];rfl
theorem mD(i:Int):PyData.eqv (.int i) (.int i)=true:=beq_self_eq_true i
theorem HM(l:List Nat):PyData.eqv (oP l) (oP l)=true:=BG l
theorem TV(a:Option (Int×List Nat)):PyData.eqv (uh a) (uh a)=true:=by
 cases a with
 |none=>rfl
 |some a=>
  refine(?_:(PyData.eqv (.int a.1) (.int a.1)&&(PyData.eqv (oP a.2) (oP a.2)&&true))=true)
  rw[mD,HM];rfl
theorem TX(a:Option Int):PyData.eqv (ug a) (ug a)=true:=by
 cases a with
 |none=>rfl
 |some a=>exact mD a
theorem HN(p:aE):PyData.eqv (sf p) (sf p)=true:=by
 refine(?_:(PyData.eqv (.int p.aX) (.int p.aX)&&(PyData.eqv (oP p.b6) (oP p.b6)&&(PyData.eqv (uh p.ad) (uh p.ad)&&(PyData.eqv (ug p.bA) (ug p.bA)&&true))))=true)
 rw[mD,HM,TV,TX];rfl
theorem HO(w:cc):PyData.eqv (mC w) (mC w)=true:=by
 refine(?_:(PyData.eqv (.int w.a) (.int w.a)&&(PyData.eqv (.int w.b) (.int w.b)&&(PyData.eqv (.int w.day) (.int w.day)&&true)))=true)
 rw[mD,mD,mD];rfl
theorem TY(g:Nat×Rat):PyData.eqv (sg g) (sg g)=true:=by
 refine(?_:(PyData.eqv (.int g.1) (.int g.1)&&(PyData.eqv (nE g.2) (nE g.2)&&true))=true)
 rw[mD,Hh];rfl
theorem HP(w:c6):PyData.eqv (sh w) (sh w)=true:=by
 refine(?_:(PyData.eqv (.int w.cT) (.int w.cT)&&(PyData.eqv (.int w.day) (.int w.day)&&(PyData.eqvAll (w.cC.map sg) (w.cC.map sg)&&true)))=true)
 rw[mD,mD,si TY];rfl
section
variable{n:Nat}{l lm lw l' BH BI:Nat}{H:Hp}{Q:PQ}
theorem HQ(ls:List Nat)(m:Nat):rd H (m+1) (.aC (aW ls))=some (oP ls):=congrArg (Option.map PyData.tuple) (rN m ls)
theorem HR{m:Nat}(p:aE):rd H (m+3) (bL p)=some (sf p):=by
 refine congrArg (Option.map PyData.tuple) (fB (pT _ _) (fB (HQ _ _) (fB (d:=uh p.ad) ?_ (fB (d:=ug p.bA) ?_ rfl))))
 ·cases p.ad with
  |none=>rfl
  |some a=>exact congrArg (Option.map PyData.tuple) (fB (pT _ _) (fB (HQ _ _) rfl))
 ·cases p.bA<;>rfl
theorem HS{m:Nat}(w:cc):rd H (m+2) (gq w)=some (mC w):=rfl
theorem TZ{m:Nat}(g:Nat×Rat):rd H (m+2) (nC g)=some (sg g):=congrArg (Option.map PyData.tuple) (fB (pT _ _) (fB (Bx _ _) rfl))
theorem T1{m:Nat}(gs:List (Nat×Rat)):rd H (m+3) (ij gs)=some (.tuple (gs.map sg)):=congrArg (Option.map PyData.tuple) (oO TZ gs)
theorem HT{m:Nat}(w:c6):rd H (m+4) (d6 w)=some (sh w):=congrArg (Option.map PyData.tuple) (fB (pT _ _) (fB (pT _ _) (fB (T1 w.cC) rfl)))
noncomputable def T2(r:bC):PyData:=.tuple [.list (r.ps.map sf),.list (r.ms.map mC),.list (r.ws.map sh)]
theorem HU{r:bC}(h:g5 H r l lm lw):rd H 10 (.aC [.ref l,.ref lm,.ref lw])=some (T2 r):=h _ λa b c=>congrArg (Option.map PyData.tuple) (fB (mx a (oO HR _)) (fB (mx b (oO HS _)) (fB (mx c (oO HT _)) rfl)))
theorem T3{r:bC}(h:g5 H r l lm lw)(h':g5 H r l' BH BI):eQ .eq (.aC [.ref l,.ref lm,.ref lw]) (.aC [.ref l',.ref BH,.ref BI]) H=some true:=by
 refine(?_:(rd H 10 _).bind (λd=>(rd H 10 _).map λe=>PyData.eqv d e)=_)
 rw[HU h,HU h']
 refine(?_:some (PyData.eqvAll (r.ps.map sf) (r.ps.map sf)&&(PyData.eqvAll (r.ms.map mC) (r.ms.map mC)&&(PyData.eqvAll (r.ws.map sh) (r.ws.map sh)&&true)))=_)
 rw[si HN,si HO,si HP];rfl
noncomputable def gU(r:bC):Prop:=nH r.ps/\yN r.ps r.ms/\∀w∈r.ws,qj r.ps w
theorem T4{b:Nat}(hb:0<b)(kH:b<=20)(q:∀r l lm lw H',dA r->gU r->0<r.ps.length->r.ps.length<=b->r.ms.length<=60->r.ws.length<=60->g5 H' r l lm lw->aA H H'->Q (.aC [.ref l,.ref lm,.ref lw]) H'):az (n+4) uC [.fR,nv b] H Q Y:=Rf (by
 refine bQ (oG (k:=0) ?_)
 have rR:=nF (X.is.getD 0 0) (b:=(b:Int)) (ofNat_lt.mpr hb)
 have hm:∃m:Nat,1+(X.is.getD 0 0).fmod b=(m:Int)/\0<m/\m<=20/\m<=b:=(vS _ hb (le_refl b)).imp λm h=>⟨h.1,h.2.1,le_trans h.2.2 kH,h.2.2⟩
 refine hm.elim λm hm=>?_
 refine bS (v:=nv b) rfl (ff (iE (b:=(b:Int)) (Int.ne_of_gt (ofNat_lt.mpr hb))) (ff (congrArg some hm.1) ?_))
 refine bQ (oG (k:=1) ?_)
 refine bQ (Tu (n:=n+1) hm.2.2.1 λlp H₁ ps hl hW hR vW Z T5=>?_)
 refine bQ (oG (k:=2) ?_)
 refine bQ (Tx (n:=n+1) T5 hW (hl▸hm.2.2.1) hR λla H₂ dU fS B5 B6 b7 Z jS=>?_)
 have h0:0<dU.length:=by rw[fS,hl];exact hm.2.1
 refine bQ (oG (k:=3) ?_)
 refine bQ (oG (k:=0) ?_)
 have T6:=jv ((X.is.getD 0 0).fdiv 12) (k:=13) (by decide)
 refine T6.elim λm1 tW=>?_
 refine ct (ff (r9 (b:=12) (by decide)) (ct (ff ((iE (b:=13) (by decide)).trans (congrArg some tW.1)) ?_)))
 refine bQ (TN (n:=n) B5 B6 jS h0 (le_trans (le_of_lt tW.2) (by decide)) λlm H₃ ms T7 T8 vY cz Z vK=>?_)
 refine bQ (oG (k:=4) ?_)
 refine bQ (oG (k:=0) ?_)
 have h9:=jv ((X.is.getD 0 0).fdiv 156) (k:=9) (by decide)
 refine h9.elim λm2 B7=>?_
 refine ct (ff (r9 (b:=156) (by decide)) (ct (ff ((iE (b:=9) (by decide)).trans (congrArg some B7.1)) ?_)))
 refine bQ (TT (n:=n+1) B5 B6 (cz _ _ jS) h0 (le_trans (le_of_lt B7.2) (by decide)) λlw H₄ ws T9 Ua mv d7 Z oJ=>?_)
 exact q ⟨dU,ms,ws⟩ la lm lw H₄ (.mk B5 (by refine(?_:dU.length<=20);rw[fS,hl];exact hm.2.2.1) T7 T9) ⟨B6,T8,Ua⟩ h0 (by refine(?_:dU.length<=b);rw[fS,hl];exact hm.2.2.2) (le_trans vY (le_trans (le_of_lt tW.2) (by decide))) (le_trans mv (le_trans (le_of_lt B7.2) (by decide))) (.mk ((cz.trans d7) _ _ jS) (d7 _ _ vK) oJ) (vW.trans (b7.trans (cz.trans d7))))
end
end Mine.L
namespace Mine.L
variable{Y:PQ}
open Mine.P PySem
noncomputable def cP(B:Nat)(H H':Hp):Prop:=∀(l:Nat) (c:aT),(l<B\/B+5<=l)->H[l]?=some c->H'[l]?=some c
theorem aA.k{B:Nat}{H H':Hp}(x:aA H H'):cP B H H':=λl c Z h=>x l c h
theorem cP.refl(B:Nat)(H:Hp):cP B H H:=λZ Z Z h=>h
theorem cP.trans{B:Nat}{H H₁ H₂:Hp}(a:cP B H H₁)(b:cP B H₁ H₂):cP B H H₂:=λl c n h=>b l c n (a l c n h)
theorem cP.set{B:Nat}(H:Hp){m:Nat}(h1:B<=m)(h2:m<B+5)(c:aT):cP B H (H.set m c):=λl c' n h=>dQ h c λe=>by lia
noncomputable def nK(P:Nat->Prop)(H:Hp)(r:dO)(v:V):Prop:=∃l,P l/\v=.aC [optN r.gI,rv r.part,.str r.how,.ref l]/\H[l]?=some (.list (aW r.line))
noncomputable def g7(P:Nat->Prop)(H:Hp)(v:V):Prop:=∃lr vs rs,v=.ref lr/\P lr/\H[lr]?=some (.list vs)/\bP (nK P H) rs vs/\∀x∈rs,kJ x
theorem g7.k{P:Nat->Prop}{H H':Hp}{v:V}(h:g7 P H v)(x:∀l c,P l->H[l]?=some c->H'[l]?=some c):g7 P H' v:=h.imp λlr h=>h.imp λvs h=>h.imp λrs h=>⟨h.1,h.2.1,x _ _ h.2.1 h.2.2.1,h.2.2.2.1.imp λZ Z q=>q.imp λl q=>⟨q.1,q.2.1,x _ _ q.1 q.2.2⟩,h.2.2.2.2⟩
theorem g7.wk{P P':Nat->Prop}{H:Hp}{v:V}(h:g7 P H v)(x:∀l,l<H.length->P l->P' l):g7 P' H v:=h.imp λlr h=>h.imp λvs h=>h.imp λrs h=>⟨h.1,x _ (cb h.2.2.1) h.2.1,h.2.2.1,h.2.2.2.1.imp λZ Z q=>q.imp λl q=>⟨x _ (cb q.2.2) q.1,q.2⟩,h.2.2.2.2⟩
noncomputable abbrev Ow(z:Nat->Prop)(B l:Nat):Prop:=B+5<=l/\¬z l
noncomputable abbrev vZ(z:Nat->Prop)(B:Nat)(H:Hp)(v:V):Prop:=g7 (Ow z B) H v
theorem vZ.k{z:Nat->Prop}{B:Nat}{H H':Hp}{v:V}(h:vZ z B H v)(x:cP B H H'):vZ z B H' v:=g7.k h λl c hl a=>x l c (.inr hl.1) a
noncomputable abbrev iP(B ld:Nat)(vf:V):aO:=[some (.ref (B+2)),some (.ref (B+3)),some (.ref (B+4)),some (.ref ld),some vf]
noncomputable def dB(z:Nat->Prop)(B:Nat)(H:Hp)(r:bC):Prop:=∀Z:Prop,(∀(ld ep:Nat) (vf:V) (es:List (Int×V)) (a0:H[B]?=some (.bT (iP B ld vf))) (a1:H[B+1]?=some (.obj B)) (ap:H[B+2]?=some (.list (r.ps.map bL))) (am:H[B+3]?=some (.list (r.ms.map gq))) (aw:H[B+4]?=some (.list (r.ws.map d6))) (ad:H[ld]?=some (.dict ep es)) (hd:B+5<=ld/\¬z ld/\∀l,z l->l<H.length) (de:∀e∈es,vZ z B H e.2),Z)->Z
theorem dB.mk{z:Nat->Prop}{B:Nat}{H:Hp}{r:bC}(ld ep:Nat)(vf:V)(es:List (Int×V))(a0:H[B]?=some (.bT (iP B ld vf)))(a1:H[B+1]?=some (.obj B))(ap:H[B+2]?=some (.list (r.ps.map bL)))(am:H[B+3]?=some (.list (r.ms.map gq)))(aw:H[B+4]?=some (.list (r.ws.map d6)))(ad:H[ld]?=some (.dict ep es))(hd:B+5<=ld/\¬z ld/\∀l,z l->l<H.length)(de:∀e∈es,vZ z B H e.2):dB z B H r:=λZ k=>k ld ep vf es a0 a1 ap am aw ad hd de
theorem dB.ext{z:Nat->Prop}{B:Nat}{H H':Hp}{r:bC}(b:dB z B H r)(x:aA H H'):dB z B H' r:=b _ λld ep vf es a0 a1 ap am aw ad hd de=>.mk ld ep vf es (x _ _ a0) (x _ _ a1) (x _ _ ap) (x _ _ am) (x _ _ aw) (x _ _ ad) ⟨hd.1,hd.2.1,λl h=>lt_of_lt_of_le (hd.2.2 l h) x.len⟩ λe he=>(de e he).k λl c Z h=>x l c h
noncomputable def oQ(r:bC)(j:Nat):List dO:=(r.ps[j]?.bind λp=>p.bA.map λd=>lL r d j p).getD []
noncomputable def jw(P:Nat->Prop)(H:Hp)(r:bC)(e:Int×V):Prop:=∃(j lr:Nat) (vs:List V),e.1=(j:Int)/\e.2=.ref lr/\P lr/\H[lr]?=some (.list vs)/\bP (nK P H) (oQ r j) vs/\(∀x∈oQ r j,kJ x)/\(oQ r j).length<=14000000
theorem jw.p{P:Nat->Prop}{H:Hp}{r:bC}{e:Int×V}(h:jw P H r e):g7 P H e.2:=h.elim λj h=>h.elim λlr h=>h.elim λvs h=>⟨lr,vs,_,h.2.1,h.2.2.1,h.2.2.2.1,h.2.2.2.2.1,h.2.2.2.2.2.1⟩
theorem jw.k{P:Nat->Prop}{H H':Hp}{r:bC}{e:Int×V}(h:jw P H r e)(x:∀l c,P l->H[l]?=some c->H'[l]?=some c):jw P H' r e:=h.imp λj h=>h.imp λlr h=>h.imp λvs h=>⟨h.1,h.2.1,h.2.2.1,x _ _ h.2.2.1 h.2.2.2.1,h.2.2.2.2.1.imp λZ Z q=>q.imp λl q=>⟨q.1,q.2.1,x _ _ q.1 q.2.2⟩,h.2.2.2.2.2⟩
theorem jw.wk{P P':Nat->Prop}{H:Hp}{r:bC}{e:Int×V}(h:jw P H r e)(x:∀l,l<H.length->P l->P' l):jw P' H r e:=h.imp λj h=>h.imp λlr h=>h.imp λvs h=>⟨h.1,h.2.1,x _ (cb h.2.2.2.1) h.2.2.1,h.2.2.2.1,h.2.2.2.2.1.imp λZ Z q=>q.imp λl q=>⟨x _ (cb q.2.2) q.1,q.2⟩,h.2.2.2.2.2⟩
noncomputable def cD(z:Nat->Prop)(B:Nat)(H:Hp)(r:bC):Prop:=∀Z:Prop,(∀(ld ep:Nat) (vf:V) (es:List (Int×V)) (a0:H[B]?=some (.bT (iP B ld vf))) (a1:H[B+1]?=some (.obj B)) (ap:H[B+2]?=some (.list (r.ps.map bL))) (am:H[B+3]?=some (.list (r.ms.map gq))) (aw:H[B+4]?=some (.list (r.ws.map d6))) (ad:H[ld]?=some (.dict ep es)) (hd:B+5<=ld/\¬z ld/\∀l,z l->l<H.length) (de:∀e∈es,jw (Ow z B) H r e) (dk:∀j:Nat,ee es (j:Int)=eW r.ps j),Z)->Z
theorem cD.mk{z:Nat->Prop}{B:Nat}{H:Hp}{r:bC}(ld ep:Nat)(vf:V)(es:List (Int×V))(a0:H[B]?=some (.bT (iP B ld vf)))(a1:H[B+1]?=some (.obj B))(ap:H[B+2]?=some (.list (r.ps.map bL)))(am:H[B+3]?=some (.list (r.ms.map gq)))(aw:H[B+4]?=some (.list (r.ws.map d6)))(ad:H[ld]?=some (.dict ep es))(hd:B+5<=ld/\¬z ld/\∀l,z l->l<H.length)(de:∀e∈es,jw (Ow z B) H r e)(dk:∀j:Nat,ee es (j:Int)=eW r.ps j):cD z B H r:=λZ k=>k ld ep vf es a0 a1 ap am aw ad hd de dk
theorem cD.b{z:Nat->Prop}{B:Nat}{H:Hp}{r:bC}(b:cD z B H r):dB z B H r:=b _ λld ep vf es a0 a1 ap am aw ad hd de Z=>.mk ld ep vf es a0 a1 ap am aw ad hd λe he=>(de e he).p
theorem cD.ext{z:Nat->Prop}{B:Nat}{H H':Hp}{r:bC}(b:cD z B H r)(x:aA H H'):cD z B H' r:=b _ λld ep vf es a0 a1 ap am aw ad hd de dk=>.mk ld ep vf es (x _ _ a0) (x _ _ a1) (x _ _ ap) (x _ _ am) (x _ _ aw) (x _ _ ad) ⟨hd.1,hd.2.1,λl h=>lt_of_lt_of_le (hd.2.2 l h) x.len⟩ (λe he=>(de e he).k λl c Z h=>x l c h) dk
section
variable{z:Nat->Prop}{n B i:Nat}{H:Hp}{Q:PQ}{fs:aO}{v:V}{A:Prop}
theorem eI{P:V->Prop}(a1:H[B+1]?=some (.obj B))(a0:H[B]?=some (.bT fs))(hi:fs[i]?.join=some v)(q:P v):aH (cy H (.ref (B+1))) λt=>aH (mY H t) λfs=>aH (fs[i]?.join) λv=>P v:=ay (congrArg (Option.bind · pA) a1) (ay (congrArg (Option.bind · pB) a0) (ay hi q))
theorem mc(a1:H[B+1]?=some (.obj B))(a0:H[B]?=some (.bT fs))(h:A):aH (cy H (.ref (B+1))) λt=>aH (mY H t) λZ=>A:=ay (congrArg (Option.bind · pA) a1) (ay (congrArg (Option.bind · pB) a0) h)
theorem B8{P:Nat->aO->Prop}(a1:H[B+1]?=some (.obj B))(a0:H[B]?=some (.bT fs))(h:P B fs):aH (cy H (.ref (B+1))) λt=>aH (mY H t) λfs=>P t fs:=ay (congrArg (Option.bind · pA) a1) (ay (congrArg (Option.bind · pB) a0) h)
noncomputable def sc:V->Bool
 |.none=>true
 |.bool _=>true
 |.int _=>true
 |.str s=>PyData.strOk s
 |_=>false
noncomputable def wh:V->Int->Int->Bool
 |.int i,lo,hi=>decide (lo<=i)&&decide (i<=hi)
 |_,_,_=>false
theorem v0{lo hi:Int}(h:wh v lo hi=true):∃i,v=.int i/\lo<=i/\i<=hi:=by
 cases v with
 |int i=>exact⟨i,rfl,of_decide_eq_true (and_eq_true_iff.mp h).1,of_decide_eq_true (and_eq_true_iff.mp h).2⟩
 |_=>cases h
theorem wa{m:Nat}(h:wh v 0 ((m:Int) - 1)=true):∃k:Nat,v=nv k/\k<m:=(v0 h).elim λi hi=>⟨i.toNat,by rw[hi.1];exact congrArg V.int (Int.toNat_of_nonneg hi.2.1).symm,by have:=hi.2;lia⟩
theorem sj{m k:Nat}(h:k<m):wh (nv k) 0 ((m:Int) - 1)=true:=and_eq_true_iff.mpr ⟨decide_eq_true (natCast_nonneg k),decide_eq_true (by lia)⟩
theorem yQ{lo hi:Int}(hv:sc v=true)(q:Q (.bool (wh v lo hi)) H):az (n+1) ph [v,.int lo,.int hi] H Q Y:=QY (by
 cases v with
 |int i=>
  have q:Q (.bool (decide (lo<=i)&&decide (i<=hi))) H:=q
  refine(?_:bB (decide (lo<=i)) (Q (.bool (decide (i<=hi))) H) (Q (.bool false) H))
  refine cM (λh=>?_) λh=>?_
  ·rw[h] at q;exact q
  ·rw[h] at q;exact q
 |aC _=>cases hv
 |ref _=>cases hv
 |fR=>cases hv
 |_=>exact q)
theorem d8{k:Nat}(h:Y (.ref H.length) (H++[.exc k])):xq Y (.ref H.length) (H++[.exc k]):=⟨(congrArg (λo=>isSome (Option.bind o mW)) (bu H (.exc k))).trans rfl,h⟩
theorem sk{ps:List aE}(a1:H[B+1]?=some (.obj B))(a0:H[B]?=some (.bT fs))(hf:fs[0]?.join=some (.ref (B+2)))(ap:H[B+2]?=some (.list (ps.map bL)))(hv:sc v=true)(q:wh v 0 ((ps.length:Int) - 1)=true->Q .none H)(y:wh v 0 ((ps.length:Int) - 1)=false->Y (.ref H.length) (H++[.exc 0])):az (n+2) gA [.ref (B+1),v] H Q Y:=Ro (by
 refine eI (i:=0) a1 a0 hf ?_
 apply ay (cA ap)
 rw[length_map]
 refine bQ (yQ hv ?_)
 refine(?_:bB (!wh v 0 ((ps.length:Int) - 1)) _ _)
 refine cM (λh=>d8 (y (by rw[not_eq_true'] at h;exact h))) λh=>q (by rw[not_eq_false'] at h;exact h))
theorem wb(hv:sc v=true)(q:wh v 0 100000=true->Q .none H)(y:wh v 0 100000=false->Y (.ref H.length) (H++[.exc 1])):az (n+2) ke [v] H Q Y:=QZ (by
 refine bQ (yQ hv ?_)
 refine(?_:bB (!wh v 0 100000) _ _)
 refine cM (λh=>d8 (y (by rw[not_eq_true'] at h;exact h))) λh=>q (by rw[not_eq_false'] at h;exact h))
theorem ints_map:∀is:List Int,allInts (is.map .int)=some is
 |[]=>rfl
 |a::r=>by
  refine(?_:(allInts (r.map .int)).map (a::·)=_)
  rw[ints_map r];rfl
theorem Ub{l:Nat}{is:List Int}(h:H[l]?=some (.list (is.map .int)))(hl:is.length<=1000)(q:∀t,(t=false↔is.Nodup)->Q (.bool t) H):az (n+1) mR [.ref l] H Q Y:=Q0 (by
 have e:jM H (.ref l)=some is:=(congrArg (Option.bind · allInts) (cA h)).trans (ints_map is)
 apply ay e
 refine⟨hl,λm hm=>?_⟩
 apply ay (cA h)
 rw[length_map]
 refine(?_:Q (.bool (!((m:Int)==(is.length:Int)))) H)
 refine q _ ?_
 rw[<-hm,not_eq_false',beq_iff_eq]
 exact⟨ofNat.inj,congrArg _⟩)
end
theorem wc{α:Type}{g:α->V}{ws:List Nat}{H₀ H:Hp}{t:cX}{K:Out->Prop}{body:aO->Hp->(Out->Prop)->Prop}{ok:α->Bool}{R:aO->Prop}{as:List α}(st:eZ ws H₀ H=true)
  (step:∀a,a∈as->∀ρ,R ρ->aH (aS t (g a) ρ) λb9=>∀N:aO->Hp->Prop,(ok a=true->∀gE,R gE->N gE H)->body b9 H (n0 K N)) (fin:as.all ok=true->∀ρ,R ρ->K (.next ρ H)) {ρ:aO} (h:R ρ):mX ws H₀ t body (as.map g) ρ H K:=by
 refine e8 (λbs ρ H'=>H'=H/\R ρ/\∃pre,pre++bs=as/\pre.all ok=true) (λa bs ρ H' hI=>?_) (λρ H' hI=>?_) as ρ H ⟨rfl,h,[],rfl,rfl⟩
 ·obtain⟨rfl,hr,pre,e,hp⟩:=hI
  exact vD (step a (e▸mem_append.mpr (.inr mem_cons_self)) ρ hr) λb9 hb N hN=>hb N λUc gE fy=>hN _ _ st ⟨rfl,fy,pre++[a],by rw[append_assoc];exact e,by rw[all_append,hp,all_cons,Uc];rfl⟩
 ·obtain⟨rfl,hr,pre,e,hp⟩:=hI
  rw[append_nil] at e
  exact fin (e▸hp) ρ hr
end Mine.L
namespace Mine.L
variable{Y:PQ}
open Mine.P PySem
section
variable{z:Nat->Prop}{n B l:Nat}{H:Hp}{Q:PQ}{fs:aO}{v:V}{A:Prop}
noncomputable def cY(ps:List aE):List Nat:=(List.range ps.length).filter (eW ps)
theorem HV{ps:List aE}{k:Nat}(h:k∈cY ps):∃p d,ps[k]?=some p/\p.bA=some d:=by
 have h:=mem_filter.mp h
 refine(at_of (mem_range.mp h.1)).elim λp hp=>?_
 have h2:=h.2
 unfold eW at h2
 rw[hp] at h2
 exact(isSome_iff_exists.mp h2).elim λd hd=>⟨p,d,hp,hd⟩
theorem HW{ps:List aE}(a1:H[B+1]?=some (.obj B))(a0:H[B]?=some (.bT fs))(hf:fs[0]?.join=some (.ref (B+2)))(ap:H[B+2]?=some (.list (ps.map bL)))(hl:ps.length<=60)(q:Q (.ref H.length) (H++[.list (aW (cY ps))])):az (n+1) kR [.ref (B+1)] H Q Y:=RA (by
 refine eI (i:=0) a1 a0 hf ?_
 apply ay (cA ap)
 rw[length_map]
 refine oH (lt_of_le_of_lt hl (by decide)) ?_
 refine dj (du (by rw[length_map,length_range];exact lt_of_le_of_lt hl (by decide))) ?_
 refine jT (P:=eW ps) (F:=nv) _ _ _ (λa ha T hT=>?_) (λa Z Z N hN=>hN) q
 refine(at_of (mem_range.mp ha)).elim λp hp=>?_
 refine(?_:aH (cy H (.ref (B+1))) _)
 refine eI (i:=0) a1 a0 hf ?_
 apply ay (e7 ap hp)
 unfold eW at hT
 rw[hp] at hT
 have hT:T p.bA.isSome H:=hT
 unfold bL
 cases hd:p.bA with
 |none=>rw[hd] at hT;exact hT
 |some d=>rw[hd] at hT;exact hT)
noncomputable def ui:Option Nat->PyData
 |none=>.none
 |some k=>.int k
noncomputable def we(r:dO):PyData:=.tuple [ui r.gI,nE r.part,.str r.how,Bw r.line]
theorem HX{P:Nat->Prop}{r:dO}(h:nK P H r v)(ok:kJ r):rd H 9 v=some (we r):=h.elim λl h=>by
 rw[h.2.1]
 refine congrArg (Option.map PyData.tuple) (fB (d:=ui r.gI) ?_ (fB (Bx _ _) (fB (d:=.str r.how) (show rd H 8 (.str r.how)=some (.str r.how) from if_pos ok.1) (fB (G0 h.2.2) rfl))))
 cases r.gI<;>rfl
theorem HY{P:Nat->Prop}(h:g7 P H v):il H v=none/\∃d,rd H 10 v=some d:=by
 obtain⟨lr,vs,rs,rfl,_,a,hr,ok⟩:=h
 have key:∀{rs:List dO} {vs:List V},bP (nK P H) rs vs->(∀x∈rs,kJ x)->∃ds,eY (rd H 9) vs=some ds:=λhr=>hr.rec (motive:=λrs vs Z=>(∀x∈rs,kJ x)->∃ds,eY (rd H 9) vs=some ds) (λZ=>⟨[],rfl⟩) λh Z ih ok=>(ih λx hx=>ok x (.tail _ hx)).elim λds e=>⟨_,fB (HX h (ok _ mem_cons_self)) e⟩
 exact⟨none_list a,(key hr ok).elim λds e=>⟨_,mx a e⟩⟩
theorem Ud{P P':Nat->Prop}{u:V}(h:g7 P H v)(h':g7 P' H u):∃t,eQ .ne v u H=some t:=by
 obtain⟨h1,d,h2⟩:=HY h
 obtain⟨_,d',h3⟩:=HY h'
 refine⟨!PyData.eqv d d',?_⟩
 refine(?_:(kW H v u).map (!·)=_)
 unfold kW
 rw[h1,h2,h3];rfl
theorem HZ{ep:Nat}{es:List (Int×V)}(h:H[l]?=some (.dict ep es)):jL H (.ref l)=some es:=congrArg (Option.bind · gQ) h
theorem Ue{es:List (Int×V)}{k:Int}(h:ee es k=true):∃e,e∈es/\fI es k=some e.2:=by
 unfold ee at h
 unfold fI
 cases hf:es.find? (λp=>decide (p.1=k)) with
 |none=>
  obtain⟨e,he,h2⟩:=any_eq_true.mp h
  exact absurd h2 (List.find?_eq_none.mp hf e he)
 |some e=>exact⟨e,List.mem_of_find?_eq_some hf,rfl⟩
theorem Ug{es:List (Int×V)}{k:Int}{P:Int×V->Prop}(h:∀e∈es,P e)(hv:P (k,v)):∀e∈dput es k v,P e:=by
 unfold dput
 split
 ·exact λe he=>(mem_map.mp he).elim λx hx=>by
   rw[<-hx.2]
   split
   ·rename_i e1;rw[e1];exact hv
   ·exact h x hx.1
 ·exact λe he=>(mem_append.mp he).elim (h e) λhe=>by rw[mem_singleton.mp he];exact hv
theorem Uh(es:List (Int×V))(k:Int)(v:V):(dput es k v).length<=es.length+1:=by
 unfold dput
 split
 ·rw[length_map];exact le_succ _
 ·rw[length_append];exact le_refl _
end
theorem Ui{es:List (Int×V)}{k j:Int}{v:V}:ee (dput es k v) j=(decide (k=j)||ee es j):=by
 unfold dput
 split
 ·rename_i h
  have e:ee (es.map λp=>if p.1=k then(p.1,v) else p) j=ee es j:=by
   unfold ee
   rw[any_map]
   refine congrArg (List.any es) (funext λp=>?_)
   refine(?_:decide ((if p.1=k then(p.1,v) else p).1=j)=_)
   split<;>rfl
  rw[e]
  by_cases hk:k=j
  ·subst hk
   rw[decide_eq_true rfl,Bool.true_or];exact h
  ·rw[decide_eq_false hk,Bool.false_or]
 ·unfold ee
  rw[List.any_append,any_cons,List.any_nil,Bool.or_false,Bool.or_comm]
theorem Uj{ps:List aE}{j:Nat}:decide (j∈cY ps)=eW ps j:=by
 unfold cY
 cases h:eW ps j with
 |false=>exact decide_eq_false λhm=>by have:=(mem_filter.mp hm).2;rw[h] at this;cases this
 |true=>
  refine decide_eq_true (mem_filter.mpr ⟨mem_range.mpr ?_,h⟩)
  unfold eW at h
  cases hp:ps[j]? with
  |none=>rw[hp] at h;cases h
  |some p=>exact(List.getElem?_eq_some_iff.mp hp).1
end Mine.L
namespace Mine.L
variable{Y:PQ}
open Mine.P PySem
section
variable{z:Nat->Prop}{n B l:Nat}{H:Hp}{Q:PQ}{K:Out->Prop}{rest:List S}{r:bC}
theorem Ia{ep:Nat}{es:List (Int×V)}{k:Nat}(h:H[l]?=some (.dict ep es)):pF H (nv k) (.ref l)=some (ee es (k:Int)):=by
 refine(?_:(match jL H (.ref l) with|some es=>(intOf (nv k)).map λk=>ee es k|none=>_)=_)
 rw[HZ h];rfl
theorem Ib{ep:Nat}{es:List (Int×V)}{k:Nat}{v:V}(h:H[l]?=some (.dict ep es))(hg:fI es (k:Int)=some v):gB (.ref l) (nv k) H=some v:=by
 have e:cS H (.ref l)=none:=by
  refine(?_:H[l]?.bind pz=none)
  rw[h];rfl
 refine(?_:(match cS H (.ref l) with|some vs=>_|none=>(jL H (.ref l)).bind λes=>fI es (k:Int))=_)
 rw[e,HZ h];exact hg
noncomputable def Pd(z:Nat->Prop)(B lf:Nat)(l:Nat):Prop:=B+5<=l/\l≠lf/\l≠lf+1/\¬z l
noncomputable def B9(z:Nat->Prop)(B lf lc ld:Nat)(D:List Nat)(r:bC)(H₀:Hp)(as:List Nat)(ρ:aO)(H':Hp):Prop:=∀Z:Prop,(∀(o2 o3:Option V) (oR ep:Nat) (j0 es:List (Int×V)) (fr:List Nat) (e:ρ=[some (.ref (B+1)),some (.ref (lf+1)),o2,o3]) (x:cP B H₀ H') (a0:H'[B]?=some (.bT (iP B ld (.ref lf)))) (a1:H'[B+1]?=some (.obj B)) (at':g5 H' r (B+2) (B+3) (B+4)) (ad:H'[ld]?=some (.dict oR j0)) (de:∀e∈j0,g7 (Pd z B lf) H' e.2) (af:H'[lf]?=some (.list (aW fr))) (an:H'[lf+1]?=some (.dict ep es)) (dn:∀e∈es,jw (Pd z B lf) H' r e) (ac:H'[lc]?=some (.list (aW D))) (len:fr.length+as.length<=60/\es.length+as.length<=60) (pre:List Nat) (tt:pre++as=cY r.ps) (kk:∀j:Nat,ee es (j:Int)=decide (j∈pre)),Z)->Z
theorem B9.mk{z:Nat->Prop}{B lf lc ld:Nat}{D:List Nat}{r:bC}{H₀:Hp}{as:List Nat}{ρ:aO}{H':Hp}(o2 o3:Option V)(oR ep:Nat)(j0 es:List (Int×V))(fr:List Nat)(e:ρ=[some (.ref (B+1)),some (.ref (lf+1)),o2,o3])(x:cP B H₀ H')(a0:H'[B]?=some (.bT (iP B ld (.ref lf))))(a1:H'[B+1]?=some (.obj B))(at':g5 H' r (B+2) (B+3) (B+4))(ad:H'[ld]?=some (.dict oR j0))(de:∀e∈j0,g7 (Pd z B lf) H' e.2)(af:H'[lf]?=some (.list (aW fr)))(an:H'[lf+1]?=some (.dict ep es))(dn:∀e∈es,jw (Pd z B lf) H' r e)(ac:H'[lc]?=some (.list (aW D)))(len:fr.length+as.length<=60/\es.length+as.length<=60)(pre:List Nat)(tt:pre++as=cY r.ps)(kk:∀j:Nat,ee es (j:Int)=decide (j∈pre)):B9 z B lf lc ld D r H₀ as ρ H':=λZ k=>k o2 o3 oR ep j0 es fr e x a0 a1 at' ad de af an dn ac len pre tt kk
theorem cP.new{B:Nat}{H H':Hp}(x:cP B H H'){m:Nat}(h:H.length<=m)(c:aT):cP B H (H'.set m c):=λl c' n e=>dQ (x l c' n e) c λq=>absurd (cb e) (not_lt.mpr (q▸h))
noncomputable abbrev Uk:S:=.bz (.or [(.cmp .gL (.J 2) (.attr (.J 0) 3)),(.cmp .ne (.aM (.attr (.J 0) 3) (.J 2)) (.J 3))]) [.expr (.c8 .append (.attr (.J 0) 4) [.J 2])] []
theorem Ul{C:Ct}{ld lf k oR:Nat}{j0:List (Int×V)}{fr:List Nat}{v:V}{ρ:aO}(Um:ρ=[some (.ref (B+1)),some (.ref (lf+1)),some (nv k),some v])(a0:H[B]?=some (.bT (iP B ld (.ref lf))))(a1:H[B+1]?=some (.obj B))(ad:H[ld]?=some (.dict oR j0))(de:∀e∈j0,g7 (Pd z B lf) H e.2)(hv:g7 (Pd z B lf) H v)(af:H[lf]?=some (.list (aW fr)))(hl:fr.length<=60)
  (h1:aN C rest ρ H K) (h2:aN C rest ρ (H.set lf (.list (aW (fr++[k])))) K):aN C (Uk::rest) ρ H K:=by
 subst Um
 have yes:aN C [.expr (.c8 .append (.attr (.J 0) 4) [.J 2])] [some (.ref (B+1)),some (.ref (lf+1)),some (nv k),some v] H (λo=>kZ o (λρ H=>aN C rest ρ H K) (K o)):=by
  refine eI (i:=4) a1 a0 rfl ?_
  refine gb af (gc af (by rw[length_map];exact lt_of_le_of_lt hl (by decide)) ?_)
  rw[<-rO] at h2
  exact h2
 refine eI (i:=3) a1 a0 rfl ?_
 have e1:eQ .gL (nv k) (.ref ld) H=some (!ee j0 (k:Int)):=congrArg (Option.map (!·)) (Ia ad)
 apply ay e1
 refine(?_:bB ((!ee j0 (k:Int))==false) _ _)
 refine jq (λh=>?_) λh=>fV h yes
 rw[not_eq_false'] at h
 obtain⟨e,he,hg⟩:=Ue h
 refine eI (i:=3) a1 a0 rfl ?_
 apply ay (Ib ad hg)
 obtain⟨t,ht⟩:=Ud (de e he) hv
 apply ay ht
 refine(?_:bB t _ _)
 exact cM (λZ=>yes) λZ=>h1
theorem wg(hl:r.ps.length<=60)(hr:cY r.ps=[]\/dA r)(b:dB z B H r)(q:∀H',cP B H H'->cD z B H' r->Q .none H'):az (n+68) qE [.ref (B+1)] H Q Y:=Rq (b _ λld ep vf es a0 a1 ap am aw ad hd de=>by
 have hB:B+5<=H.length:=le_trans hd.1 (le_of_lt (cb ad))
 refine(?_:aH (cy (H++[aT.list []]) (.ref (B+1))) _)
 refine B8 (be _ a1) (be _ a0) ?_
 have eU:((H++[aT.list []]).set B (.bT ((iP B ld vf).set 4 (some (.ref H.length))))).length=H.length+1:=by rw[length_set,length_append];rfl
 have x1:cP B H ((H++[aT.list []]).set B (.bT ((iP B ld vf).set 4 (some (.ref H.length))))):=(aA.aU _ _).k.trans (cP.set _ (le_refl _) (by lia) _)
 have b0:((H++[aT.list []]).set B (.bT ((iP B ld vf).set 4 (some (.ref H.length)))))[B]?=some (.bT (iP B ld (.ref H.length))):=dZ (be _ a0) _
 have ne:∀{l c},B≠l->H[l]?=some c->((H++[aT.list []]).set B (.bT ((iP B ld vf).set 4 (some (.ref H.length)))))[l]?=some c:=λhn h=>dQ (be _ h) _ hn
 have bf:((H++[aT.list []]).set B (.bT ((iP B ld vf).set 4 (some (.ref H.length)))))[H.length]?=some (.list (aW [])):=dQ (bu _ _) _ (by lia)
 have b1:=ne (by lia) a1
 have bp:=ne (by lia) ap
 have bm:=ne (by lia) am
 have bw:=ne (by lia) aw
 have bd:=ne (by lia) ad
 have Un:∀e∈es,g7 (Pd z B H.length) ((H++[aT.list []]).set B (.bT ((iP B ld vf).set 4 (some (.ref H.length))))) e.2:=λe he=>((de e he).wk (P':=λl=>Pd z B H.length l/\l<H.length) λl hl h=>⟨⟨h.1,by lia,by lia,h.2⟩,hl⟩).k (λl c h a=>x1 l c (.inr h.1.1) a) |>.wk λl Z h=>h.1
 generalize ((H++[aT.list []]).set B (.bT ((iP B ld vf).set 4 (some (.ref H.length)))))=H1 at *
 refine(?_:aH (cy (H1++[aT.dict 0 []]) (.ref (B+1))) _)
 refine mc (be _ b1) (be _ b0) ?_
 refine bQ (HW (n:=n+66) (be _ b1) (be _ b0) rfl (be _ bp) hl ?_)
 have x2:aA H1 (H1++[aT.dict 0 []]++[aT.list (aW (cY r.ps))]):=(aA.aU _ _).trans (aA.aU _ _)
 have bn:(H1++[aT.dict 0 []]++[aT.list (aW (cY r.ps))])[H.length+1]?=some (.dict 0 []):=be _ (eU▸bu _ _)
 have bc:=bu (H1++[aT.dict 0 []]) (.list (aW (cY r.ps)))
 have Uo:(H1++[aT.dict 0 []]).length=H.length+2:=by rw[length_append,eU];rfl
 have uj:(cY r.ps).length<=60:=le_trans (length_filter_le _ _) (by rw[length_range];exact hl)
 rw[Uo] at bc ⊢
 rw[eU]
 generalize H1++[aT.dict 0 []]++[aT.list (aW (cY r.ps))]=H2 at *
 apply ay (dg bc)
 have Up:=cb ad
 refine e8 (B9 z B H.length (H.length+2) ld (cY r.ps) r H) (λk as ρ H' h=>?_) (λρ H' h=>?_) _ _ _ (.mk none none ep 0 es [] [] rfl (x1.trans x2.k) (x2 _ _ b0) (x2 _ _ b1) (.mk (x2 _ _ bp) (x2 _ _ bm) (x2 _ _ bw)) (x2 _ _ bd) (λe he=>(Un e he).k λl c Z a=>x2 l c a) (x2 _ _ bf) bn (λZ h=>(nomatch h)) bc ⟨by rw[length_nil,zero_add];exact uj,by rw[length_nil,zero_add];exact uj⟩ [] rfl λj=>(decide_eq_false not_mem_nil).symm)
 ·refine h _ λo2 o3 oR ep j0 es fr e x a0 a1 at' ad de af an dn ac len pre tt kk=>?_
  subst e
  refine λN hN=>?_
  have hk:k∈cY r.ps:=tt▸mem_append.mpr (.inr mem_cons_self)
  have ok:dA r:=hr.resolve_left λe=>by rw[e] at hk;cases hk
  rw[length_cons] at len
  obtain⟨p,d,hp,ng⟩:=HV hk
  refine(?_:aH (cy H' (.ref (B+1))) _)
  refine eI (i:=0) a1 a0 rfl (eI (i:=1) a1 a0 rfl (eI (i:=2) a1 a0 rfl ?_))
  refine bQ (SZ (n:=n) ok at' hp ng λdok dlen lr vs H₂ lF b7 ar dr=>?_)
  have hH:H.length+2<H'.length:=cb ac
  have uj:oQ r k=lL r d k p:=by unfold oQ;rw[hp];refine(?_:(p.bA.map λd=>lL r d k p).getD []=_);rw[ng];rfl
  have hV:jw (Pd z B H.length) H₂ r ((k:Int),.ref lr):=⟨k,lr,vs,rfl,rfl,⟨by lia,by lia,by lia,λq=>absurd (hd.2.2 _ q) (by lia)⟩,ar,by rw[uj];exact dr.imp λZ Z z=>z _ λl hb hn e a=>⟨l,⟨by lia,by lia,by lia,λq=>absurd (hd.2.2 _ q) (by lia)⟩,e,a⟩,by rw[uj];exact dok,by rw[uj];exact dlen⟩
  have hv:g7 (Pd z B H.length) H₂ (.ref lr):=hV.p
  have Ic:∀{H₃:Hp} {fr':List Nat},fr'.length<=fr.length+1->(∀l c,l≠H.length->H₂[l]?=some c->H₃[l]?=some c)->H₃[H.length]?=some (.list (aW fr'))->cP B H H₃->aN ⟨az (n+67),xq (xq Y)⟩ [.ji (.J 1) (.J 2) (.J 3)] [some (.ref (B+1)),some (.ref (H.length+1)),some (nv k),some (.ref lr)] H₃ (λo=>kZ o N False):=λ{H₃ fr'} hf x3 Uq xb=>by
   have up:∀{l c},l≠H.length->H'[l]?=some c->H₃[l]?=some c:=λhn h=>x3 _ _ hn (b7 _ _ h)
   have Ie:=up (by lia) an
   refine ay Ie (dj (du (by have:=len.2;lia)) λoo=>?_)
   have un:∀{l c},l≠H.length->l≠H.length+1->H'[l]?=some c->(H₃.set (H.length+1) (.dict oo (dput es (k:Int) (.ref lr))))[l]?=some c:=λh1 h2 h=>dQ (up h1 h) _ (Ne.symm h2)
   have dk:∀{v},g7 (Pd z B H.length) H₂ v->g7 (Pd z B H.length) (H₃.set (H.length+1) (.dict oo (dput es (k:Int) (.ref lr)))) v:=λh=>h.k λl c hl a=>dQ (x3 l c hl.2.1 a) _ (Ne.symm hl.2.2.1)
   have dV:∀{v},jw (Pd z B H.length) H₂ r v->jw (Pd z B H.length) (H₃.set (H.length+1) (.dict oo (dput es (k:Int) (.ref lr)))) r v:=λh=>h.k λl c hl a=>dQ (x3 l c hl.2.1 a) _ (Ne.symm hl.2.2.1)
   refine hN _ _ (cV bc (un (by lia) (by lia) ac)) (.mk _ _ oR oo j0 (dput es (k:Int) (.ref lr)) fr' rfl (xb.new (by lia) _) (un (by lia) (by lia) a0) (un (by lia) (by lia) a1) (at' _ λz1 z2 z3=>.mk (un (by lia) (by lia) z1) (un (by lia) (by lia) z2) (un (by lia) (by lia) z3)) (un (by lia) (by lia) ad) (λe he=>dk ((de e he).k λl c Z a=>b7 l c a)) (dQ Uq _ (by lia)) (dZ Ie _) (Ug (λe he=>dV ((dn e he).k λl c Z a=>b7 l c a)) (dV hV)) (un (by lia) (by lia) ac) ⟨by have:=len.1;lia,by have:=Uh es (k:Int) (.ref lr);have:=len.2;lia⟩ (pre++[k]) (gd tt) λj=>by rw[Ui,kk];by_cases hj:k=j;{subst hj;rw[decide_eq_true rfl,Bool.true_or];exact(decide_eq_true (mem_append.mpr (.inr (mem_singleton.mpr rfl)))).symm};{rw[show decide ((k:Int)=(j:Int))=false from decide_eq_false (λe=>hj (ofNat.inj e)),Bool.false_or];exact decide_eq_decide.mpr ⟨λh=>mem_append.mpr (.inl h),λh=>(mem_append.mp h).elim id λh=>absurd (mem_singleton.mp h).symm hj⟩})
  refine Ul rfl (b7 _ _ a0) (b7 _ _ a1) (b7 _ _ ad) (λe he=>(de e he).k λl c Z a=>b7 l c a) hv (b7 _ _ af) (by have:=len.1;lia) ?_ ?_
  ·exact Ic (le_succ _) (λl c Z a=>a) (b7 _ _ af) (x.trans b7.k)
  ·exact Ic (fr':=fr++[k]) (by rw[length_append];exact le_refl _) (λl c hn a=>dQ a _ (Ne.symm hn)) (dZ (b7 _ _ af) _) ((x.trans b7.k).new (le_refl _) _)
 ·refine h _ λo2 o3 oR ep j0 es fr e x a0 a1 at' ad de af an dn ac len pre tt kk=>?_
  subst e
  refine(?_:aH (cy H' (.ref (B+1))) _)
  refine B8 a1 a0 ?_
  have un:∀{l c},B≠l->H'[l]?=some c->(H'.set B (.bT (iP B (H.length+1) (.ref H.length))))[l]?=some c:=λh1 h=>dQ h _ h1
  have xx:cP B H' (H'.set B (.bT (iP B (H.length+1) (.ref H.length)))):=cP.set _ (le_refl _) (by lia) _
  exact q _ (x.trans xx) (at' _ λz1 z2 z3=>.mk (H.length+1) ep (.ref H.length) es (dZ a0 _) (un (by lia) a1) (un (by lia) z1) (un (by lia) z2) (un (by lia) z3) (un (by lia) an) ⟨by lia,λq=>absurd (hd.2.2 _ q) (by lia),λl q=>by rw[length_set];have:=cb an;have:=hd.2.2 l q;lia⟩ (λe he=>((dn e he).k λl c hl a=>xx l c (.inr hl.1) a).wk λl Z h=>⟨h.1,h.2.2.2⟩) λj=>by rw[kk,<-Uj,<-tt,append_nil]))
end
end Mine.L
namespace Mine.L
variable{Y:PQ}
open Mine.P PySem
section
variable{z:Nat->Prop}{n B l lq:Nat}{H:Hp}{Q:PQ}{K:Out->Prop}{rest:List S}{r:bC}{v:V}{vs:List V}{fs:aO}
theorem dB.put(b:dB z B H r)(ps:List aE):cP B H (H.set (B+2) (.list (ps.map bL)))/\dB z B (H.set (B+2) (.list (ps.map bL))) ⟨ps,r.ms,r.ws⟩:=b _ λld ep vf es a0 a1 ap am aw ad hd de=>by
 have xx:cP B H (H.set (B+2) (.list (ps.map bL))):=cP.set _ (by lia) (by lia) _
 have ne:∀{l c},B+2≠l->H[l]?=some c->(H.set (B+2) (.list (ps.map bL)))[l]?=some c:=λhn h=>dQ h _ hn
 exact⟨xx,.mk ld ep vf es (ne (by lia) a0) (ne (by lia) a1) (dZ ap _) (ne (by lia) am) (ne (by lia) aw) (ne (by lia) ad) ⟨hd.1,hd.2.1,λl h=>by rw[length_set];exact hd.2.2 l h⟩ λe he=>(de e he).k xx⟩
theorem dB.Ur(b:dB z B H r)(ms:List cc):cP B H (H.set (B+3) (.list (ms.map gq)))/\dB z B (H.set (B+3) (.list (ms.map gq))) ⟨r.ps,ms,r.ws⟩:=b _ λld ep vf es a0 a1 ap am aw ad hd de=>by
 have xx:cP B H (H.set (B+3) (.list (ms.map gq))):=cP.set _ (by lia) (by lia) _
 have ne:∀{l c},B+3≠l->H[l]?=some c->(H.set (B+3) (.list (ms.map gq)))[l]?=some c:=λhn h=>dQ h _ hn
 exact⟨xx,.mk ld ep vf es (ne (by lia) a0) (ne (by lia) a1) (ne (by lia) ap) (dZ am _) (ne (by lia) aw) (ne (by lia) ad) ⟨hd.1,hd.2.1,λl h=>by rw[length_set];exact hd.2.2 l h⟩ λe he=>(de e he).k xx⟩
theorem dB.Us(b:dB z B H r)(ws:List c6):cP B H (H.set (B+4) (.list (ws.map d6)))/\dB z B (H.set (B+4) (.list (ws.map d6))) ⟨r.ps,r.ms,ws⟩:=b _ λld ep vf es a0 a1 ap am aw ad hd de=>by
 have xx:cP B H (H.set (B+4) (.list (ws.map d6))):=cP.set _ (by lia) (by lia) _
 have ne:∀{l c},B+4≠l->H[l]?=some c->(H.set (B+4) (.list (ws.map d6)))[l]?=some c:=λhn h=>dQ h _ hn
 exact⟨xx,.mk ld ep vf es (ne (by lia) a0) (ne (by lia) a1) (ne (by lia) ap) (ne (by lia) am) (dZ aw _) (ne (by lia) ad) ⟨hd.1,hd.2.1,λl h=>by rw[length_set];exact hd.2.2 l h⟩ λe he=>(de e he).k xx⟩
theorem Ig{k:Nat}{p:aE}(b:dB z B H r)(hk:k<r.ps.length)(q:∀H',cP B H H'->dB z B H' ⟨r.ps.set k p,r.ms,r.ws⟩->Q .none H'):az (n+1) sX [.ref (B+1),nv k,bL p] H Q Y:=Rp (b _ λld ep vf es a0 a1 ap am aw ad hd de=>by
 refine(?_:aH (cy H (.ref (B+1))) _)
 refine eI (i:=0) a1 a0 rfl ?_
 refine Hy ap (by rw[length_map];exact hk) ?_
 have z:=b.put (r.ps.set k p)
 rw[List.map_set] at z
 exact q _ z.1 z.2)
theorem Ut(b:dB z B H r)(hl:r.ps.length<=60/\r.ms.length<=1000/\r.ws.length<=1000)(q:∀a c d H',aA H H'->g5 H' r a c d->Q (.aC [.ref a,.ref c,.ref d]) H'):az (n+1) l7 [.ref (B+1)] H Q Y:=Rz (b _ λld ep vf es a0 a1 ap am aw ad hd de=>by
 refine(?_:aH (cy H (.ref (B+1))) _)
 refine eI (i:=0) a1 a0 rfl ?_
 apply ay (rG ap)
 refine dj (du (by rw[length_map];exact lt_of_le_of_lt hl.1 (by decide))) ?_
 refine(?_:aH (cy (H++_) (.ref (B+1))) _)
 refine eI (i:=1) (be _ a1) (be _ a0) rfl ?_
 apply ay (rG (be _ am))
 refine dj (du (by rw[length_map];exact lt_of_le_of_lt hl.2.1 (by decide))) ?_
 refine(?_:aH (cy (H++_++_) (.ref (B+1))) _)
 refine eI (i:=2) (be _ (be _ a1)) (be _ (be _ a0)) rfl ?_
 apply ay (rG (be _ (be _ aw)))
 refine dj (du (by rw[length_map];exact lt_of_le_of_lt hl.2.2 (by decide))) ?_
 exact q _ _ _ _ ((aA.aU _ _).trans ((aA.aU _ _).trans (aA.aU _ _))) (.mk (be _ (be _ (bu _ _))) (be _ (bu _ _)) (bu _ _)))
noncomputable def ql(ps:List aE)(vs:List V):Bool:=vs.all λv=>wh v 0 ((ps.length:Int) - 1)
noncomputable def natOf:V->Nat
 |.int i=>i.toNat
 |_=>0
noncomputable def gr:V->Int
 |.int i=>i
 |_=>0
theorem Cb{ps:List aE}:∀{vs:List V},ql ps vs=true->vs=aW (vs.map natOf)/\∀k∈vs.map natOf,k<ps.length
 |[],_=>⟨rfl,λZ h=>nomatch h⟩
 |v::r,h=>by
  have h:=and_eq_true_iff.mp (show(wh v 0 ((ps.length:Int) - 1)&&ql ps r)=true from h)
  obtain⟨k,rfl,hk⟩:=wa h.1
  have ih:=Cb h.2
  refine⟨congrArg (nv k::·) ih.1,λj hj=>(mem_cons.mp hj).elim (λe=>?_) (ih.2 j)⟩
  rw[e];exact hk
noncomputable def qm(ps:List aE)(k:Nat):Int:=(ps[k]?).elim 0 (·.aX)
noncomputable def fN(ps:List aE)(ks:List Nat)(d:Int):Bool:=(decide (2<ks.length)||decide (¬ks.Nodup))||ks.any λk=>decide (qm ps k≥d)
noncomputable def oS(ps:List aE)(v:V)(vs:List V):Option Nat:=if ql ps vs then(if wh v 0 100000 then(if fN ps (vs.map natOf) (gr v) then some 2 else if 60<=ps.length then some 6 else none) else some 1) else some 0
theorem Ih{C:Ct}{ps:List aE}{ρf:Option V->aO}{j:Nat}(a1:H[B+1]?=some (.obj B))(a0:H[B]?=some (.bT fs))(hf:fs[0]?.join=some (.ref (B+2)))(ap:H[B+2]?=some (.list (ps.map bL)))(hq:H[lq]?=some (.list vs))(hs:∀v∈vs,sc v=true)(hC:C.call=az (n+2))(hx:xq C.exc=Y)(h0:∀o,(ρf o)[0]?.join=some (.ref (B+1)))(hj:∀v,(ρf (some v))[j]?.join=some v)(ha:∀v o,aS (.J j) v (ρf o)=some (ρf (some v))){o:Option V}
  (y:ql ps vs=false->Y (.ref H.length) (H++[.exc 0])) (q:ql ps vs=true->∀o,K (.next (ρf o) H)):mX [lq] H (.J j) (λρ H K=>aN C.xq [.expr (.cx gA (.J 0) [(.J j)])] ρ H K) vs (ρf o) H K:=by
 have e:vs=vs.map id:=(List.map_id vs).symm
 have key:=wc (g:=id) (as:=vs) (ws:=[lq]) (H₀:=H) (H:=H) (t:=.J j) (K:=K) (body:=λρ H K=>aN C.xq [.expr (.cx gA (.J 0) [(.J j)])] ρ H K) (ok:=λv=>wh v 0 ((ps.length:Int) - 1)) (R:=λρ=>∃o,ρ=ρf o) (cV hq hq) (λv hv ρ hr=>?_) (λnu ρ hr=>hr.elim λo e=>e▸q nu o) (ρ:=ρf o) ⟨o,rfl⟩
 ·rw[<-e] at key;exact key
 ·obtain⟨o,rfl⟩:=hr
  refine ay (ha v o) λN hN=>?_
  refine ay (h0 _) (mc a1 a0 (ay (hj v) ?_))
  refine(?_:C.call gA [.ref (B+1),v] H (λZ H=>n0 K N (.next (ρf (some v)) H)) (xq C.exc))
  rw[hC]
  refine sk a1 a0 hf ap (hs v hv) (λh=>hN h _ ⟨_,rfl⟩) λh=>?_
  rw[hx]
  refine y ?_
  cases hh:ql ps vs with
  |false=>rfl
  |true=>exact absurd (h.symm.trans (all_eq_true.mp hh v hv)) Bool.false_ne_true
end
end Mine.L
namespace Mine.L
variable{Y:PQ}
open Mine.P PySem
section
variable{z:Nat->Prop}{n B l lq:Nat}{H:Hp}{Q:PQ}{K:Out->Prop}{rest:List S}{r:bC}{v:V}{vs:List V}{fs:aO}{ks:List Nat}{d:Int}{ρ:aO}{Ex:PQ}
theorem Uu(ks:List Nat):aW ks=(ks.map λk:Nat=>(k:Int)).map V.int:=by rw[map_map];rfl
theorem Cc(h:H[l]?=some (.list (aW ks)))(hl:ks.length<=1000)(q:Q (.bool (decide (¬ks.Nodup))) H):az (n+1) mR [.ref l] H Q Y:=by
 rw[Uu] at h
 refine Ub h (by rw[length_map];exact hl) λt ht=>?_
 have e:(ks.map λk:Nat=>(k:Int)).Nodup↔ks.Nodup:=⟨λh=>Pairwise.of_map _ (λa b hn e=>hn (congrArg _ e)) h,λh=>Pairwise.map _ (λa b hn e=>hn (ofNat.inj e)) h⟩
 rw[e] at ht
 cases t with
 |false=>rw[decide_eq_false (λh=>h (ht.mp rfl))] at q;exact q
 |true=>rw[show decide (¬ks.Nodup)=true from decide_eq_true λh=>absurd (ht.mpr h) (by decide)] at q;exact q
theorem Uv{C:Ct}{j:Nat}{w:Str}(hC:C.call=az (n+1))(hj:ρ[j]?.join=some (.ref lq))(hq:H[lq]?=some (.list (aW ks)))(hl:ks.length<=1000)(y:(decide (2<ks.length)||decide (¬ks.Nodup))=true->C.exc (.ref H.length) (H++[.exc 2]))(h:(decide (2<ks.length)||decide (¬ks.Nodup))=false->aN C rest ρ H K):aN C (.bz (.or [(.cmp .gt (.bi .len [(.J j)]) (.k (.int 2))),(.call mR [(.J j)])]) [.raise 2 w] []::rest) ρ H K:=by
 refine ay hj (ay (cA hq) ?_)
 have e:(decide (((aW ks).length:Int)>2))=decide (2<ks.length):=by
  rw[length_map]
  exact decide_eq_decide.mpr ⟨λh=>by lia,λh=>by lia⟩
 refine(?_:bB (decide (((aW ks).length:Int)>2)==false) _ _)
 refine jq (λh1=>?_) λh1=>fV h1 (y (by rw[<-e,h1];rfl))
 rw[e] at h1
 refine ay hj ?_
 refine(?_:C.call mR [.ref lq] H _ C.exc)
 rw[hC]
 refine Cc hq hl ?_
 refine(?_:bB (decide (¬ks.Nodup)) _ _)
 exact cM (λh2=>y (by rw[h2,Bool.or_true])) λh2=>h (by rw[h1,h2];rfl)
theorem Uw{k:Nat}{ps:List aE}(ap:H[l]?=some (.list (ps.map bL)))(hk:k<ps.length):∃p,ps[k]?=some p/\qm ps k=p.aX/\gB (.ref l) (nv k) H=some (bL p):=(at_of hk).elim λp hp=>⟨p,hp,by unfold qm;rw[hp];rfl,e7 ap hp⟩
theorem Ii{C:Ct}{ps:List aE}{ρf:Option V->aO}{j jd:Nat}{w:Str}(a1:H[B+1]?=some (.obj B))(a0:H[B]?=some (.bT fs))(hf:fs[0]?.join=some (.ref (B+2)))(ap:H[B+2]?=some (.list (ps.map bL)))(hq:H[lq]?=some (.list (aW ks)))(hk:∀k∈ks,k<ps.length)(h0:∀o,(ρf o)[0]?.join=some (.ref (B+1)))(hj:∀v,(ρf (some v))[j]?.join=some v)(hd:∀o,(ρf o)[jd]?.join=some (.int d))(ha:∀v o,aS (.J j) v (ρf o)=some (ρf (some v))){o:Option V}
  (y:(ks.any λk=>decide (qm ps k≥d))=true->xq C.exc (.ref H.length) (H++[.exc 2])) (q:(ks.any λk=>decide (qm ps k≥d))=false->∀o,K (.next (ρf o) H)):mX [lq] H (.J j) (λρ H K=>aN C.xq [.bz (.cmp .ge (.aM (.aM (.attr (.J 0) 0) (.J j)) (.k (.int 0))) (.J jd)) [.raise 2 w] []] ρ H K) (aW ks) (ρf o) H K:=by
 refine wc (g:=nv) (as:=ks) (ok:=λk=>!decide (qm ps k≥d)) (R:=λρ=>∃o,ρ=ρf o) (cV hq hq) (λk qo ρ hr=>?_) (λnu ρ hr=>hr.elim λo e=>e▸q ?_ o) ⟨o,rfl⟩
 ·obtain⟨o,rfl⟩:=hr
  refine ay (ha _ o) λN hN=>?_
  obtain⟨p,hp,eb,ix⟩:=Uw ap (hk k qo)
  refine ay (h0 _) (eI (i:=0) a1 a0 hf (ay (hj _) ?_))
  apply ay ix
  refine ay (hd _) ?_
  refine(?_:bB (decide (p.aX≥d)) _ _)
  rw[<-eb]
  exact cM (λh=>y (any_eq_true.mpr ⟨k,qo,h⟩)) λh=>hN (by rw[h];rfl) _ ⟨_,rfl⟩
 ·cases hh:ks.any λk=>decide (qm ps k≥d) with
  |false=>rfl
  |true=>
   obtain⟨k,qo,h⟩:=any_eq_true.mp hh
   have h2:=all_eq_true.mp nu k qo
   rw[h] at h2;cases h2
theorem Ux{H1:Hp}{p:aE}{o1 o2 o3:Option V}(uk:r.ps.length<60)(hT:cY (r.ps++[p])=[]\/dA ⟨r.ps++[p],r.ms,r.ws⟩)(x:cP B H H1)(b2:dB z B H1 ⟨r.ps++[p],r.ms,r.ws⟩)(q:∀H',cP B H H'->cD z B H' ⟨r.ps++[p],r.ms,r.ws⟩->Q (nv r.ps.length) H'):aN ⟨az (n+68),xq Y⟩ (wW.drop 6) [some (.ref (B+1)),o1,o2,o3] H1 (bH Q):=b2 _ λld ep vf es a0 a1 ap am aw ad hd de=>by
 refine(?_:aH (cy H1 (.ref (B+1))) _)
 refine mc a1 a0 ?_
 refine bQ (wg (n:=n) (r:=⟨r.ps++[p],r.ms,r.ws⟩) (by rw[length_append];exact uk) hT b2 λH2 x2 b3=>?_)
 refine b3.b _ λld ep vf es a0 a1 ap am aw ad hd de=>?_
 refine(?_:aH (cy H2 (.ref (B+1))) _)
 refine eI (i:=0) a1 a0 rfl ?_
 apply ay (cA ap)
 rw[length_map,length_append]
 refine(?_:Q (.int (((r.ps.length+1:Nat):Int) - 1)) H2)
 rw[show(((r.ps.length+1:Nat):Int) - 1)=(r.ps.length:Int) by lia]
 exact q H2 (x.trans x2) b3
theorem Uy(b:dB z B H r)(hl:r.ps.length<=60)(hq:H[lq]?=some (.list (aW ks)))(hk:∀k∈ks,k<r.ps.length)(iD:ks.length<=1000)(Ij:lq<B\/B+5<=lq)(y2:fN r.ps ks d=true->Y (.ref H.length) (H++[.exc 2]))(y6:fN r.ps ks d=false->60<=r.ps.length->Y (.ref H.length) (H++[.exc 6]))(hT:fN r.ps ks d=false->r.ps.length<60->cY (r.ps++[⟨d,ks,none,none⟩])=[]\/dA ⟨r.ps++[⟨d,ks,none,none⟩],r.ms,r.ws⟩)
  (q:fN r.ps ks d=false->r.ps.length<60->∀H',cP B H H'->cD z B H' ⟨r.ps++[⟨d,ks,none,none⟩],r.ms,r.ws⟩->Q (nv r.ps.length) H') {o:Option V}:aN ⟨az (n+68),xq Y⟩ (wW.drop 2) [some (.ref (B+1)),some (.int d),some (.ref lq),o] H (bH Q):=b _ λld ep vf es a0 a1 ap am aw ad hd de=>by
 refine Uv (n:=n+67) rfl rfl hq iD (λh=>d8 (y2 (by unfold fN;rw[h];rfl))) λh1=>?_
 apply ay (dg hq)
 refine Ii (C:=⟨az (n+68),xq Y⟩) (ρf:=λo=>[some (.ref (B+1)),some (.int d),some (.ref lq),o]) a1 a0 rfl ap hq hk (λZ=>rfl) (λZ=>rfl) (λZ=>rfl) (λZ Z=>rfl) (λh=>d8 (d8 (y2 (by unfold fN;rw[h,Bool.or_true])))) λh2 o=>?_
 have Cd:fN r.ps ks d=false:=by unfold fN;rw[h1,h2];rfl
 refine(?_:aH (cy H (.ref (B+1))) _)
 refine eI (i:=0) a1 a0 rfl ?_
 apply ay (cA ap)
 rw[length_map]
 refine(?_:bB (decide ((r.ps.length:Int)≥60)) _ _)
 refine rM (λh=>d8 (y6 Cd (by lia))) λh=>?_
 have uk:r.ps.length<60:=by lia
 refine(?_:aH (cy H (.ref (B+1))) _)
 refine eI (i:=0) a1 a0 rfl ?_
 refine gb ap ?_
 apply ay (cA hq)
 refine gc ap (by rw[length_map];exact lt_trans uk (by decide)) ?_
 have z:=b.put (r.ps++[⟨d,ks,none,none⟩])
 rw[map_append] at z
 exact Ux uk (hT Cd uk) z.1 z.2 (q Cd uk)
theorem Uz(b:dB z B H r)(hl:r.ps.length<=60)(hq:H[lq]?=some (.list vs))(hs:∀v∈vs,sc v=true)(hv:sc v=true)(iD:vs.length<=1000)(Ij:lq<B\/B+5<=lq)(y:∀k,oS r.ps v vs=some k->Y (.ref H.length) (H++[.exc k]))(hT:oS r.ps v vs=none->cY (r.ps++[⟨gr v,vs.map natOf,none,none⟩])=[]\/dA ⟨r.ps++[⟨gr v,vs.map natOf,none,none⟩],r.ms,r.ws⟩)
  (q:oS r.ps v vs=none->∀H',cP B H H'->cD z B H' ⟨r.ps++[⟨gr v,vs.map natOf,none,none⟩],r.ms,r.ws⟩->Q (nv r.ps.length) H'):az (n+69) wM [.ref (B+1),v,.ref lq] H Q Y:=Rr (b _ λld ep vf es a0 a1 ap am aw ad hd de=>by
 apply ay (dg hq)
 refine Ih (n:=n+66) (C:=⟨az (n+68),xq Y⟩) (ρf:=λo=>[some (.ref (B+1)),some v,some (.ref lq),o]) a1 a0 rfl ap hq hs rfl rfl (λZ=>rfl) (λZ=>rfl) (λZ Z=>rfl) (λh=>d8 (d8 (y 0 (by unfold oS;rw[h];rfl)))) λh0 o=>?_
 have e1:oS r.ps v vs=if wh v 0 100000 then(if fN r.ps (vs.map natOf) (gr v) then some 2 else if 60<=r.ps.length then some 6 else none) else some 1:=if_pos h0
 refine(?_:az (n+68) ke [v] H _ _)
 refine wb (n:=n+66) hv (λh1=>?_) λh1=>d8 (y 1 (by rw[e1,h1];rfl))
 have e2:oS r.ps v vs=if fN r.ps (vs.map natOf) (gr v) then some 2 else if 60<=r.ps.length then some 6 else none:=e1.trans (if_pos h1)
 obtain⟨d,rfl,_⟩:=v0 h1
 obtain⟨Ce,Cf⟩:=Cb h0
 refine Uy (ks:=vs.map natOf) (d:=d) b hl (Ce▸hq) Cf (by rw[length_map];exact iD) Ij (λh=>y 2 (e2.trans (if_pos h))) (λh h6=>y 6 (e2.trans ((if_neg (by rw[show fN r.ps (vs.map natOf) (gr (.int d))=false from h];decide)).trans (if_pos h6)))) (λh h6=>hT (e2.trans ((if_neg (by rw[show fN r.ps (vs.map natOf) (gr (.int d))=false from h];decide)).trans (if_neg (Nat.not_le.mpr h6))))) λh h6=>q (e2.trans ((if_neg (by rw[show fN r.ps (vs.map natOf) (gr (.int d))=false from h];decide)).trans (if_neg (Nat.not_le.mpr h6)))))
end
end Mine.L
namespace Mine.L
variable{Y:PQ}
open Mine.P PySem
section
variable{z:Nat->Prop}{n B l lq k:Nat}{H:Hp}{Q:PQ}{K:Out->Prop}{rest:List S}{r:bC}{c v:V}{vs:List V}{fs:aO}{ks:List Nat}{d:Int}{ρ:aO}{p:aE}
noncomputable def qp(p:aE)(d:Int):Bool:=decide (d<p.aX)||(p.bA.elim false λe=>decide (d≥e))
noncomputable def mF(ps:List aE)(p:aE)(ks:List Nat)(d:Int):Option Nat:=if qp p d then some 1 else if ks.isEmpty||fN ps ks p.aX then some 2 else if p.ad.isSome then some 5 else none
noncomputable def lN(ps:List aE)(c v:V)(vs:List V):Option Nat:=if wh c 0 ((ps.length:Int) - 1)&&ql ps vs then(if wh v 0 100000 then(ps[natOf c]?).elim none λp=>mF ps p (vs.map natOf) (gr v) else some 1) else some 0
noncomputable abbrev jx(p:aE)(d:Int)(ks:List Nat):aE:=⟨p.aX,p.b6,some (d,ks),p.bA⟩
theorem UA{o4:Option V}(b:dB z B H r)(hl:r.ps.length<=60)(hp:r.ps[k]?=some p)(hT:cY (r.ps.set k (jx p d ks))=[]\/dA ⟨r.ps.set k (jx p d ks),r.ms,r.ws⟩)(hq:H[lq]?=some (.list (aW ks)))(q:∀H',cP B H H'->cD z B H' ⟨r.ps.set k (jx p d ks),r.ms,r.ws⟩->Q .none H'):aN ⟨az (n+68),xq Y⟩ (sY.drop 8) [some (.ref (B+1)),some (nv k),some (.int d),some (.ref lq),o4,some (.int p.aX),some (.aC (aW p.b6)),some (kD p.ad),some (ib p.bA)] H (bH Q):=b _ λld ep vf es a0 a1 ap am aw ad hd de=>by
 refine(?_:aH (cy H (.ref (B+1))) _)
 refine mc a1 a0 ?_
 apply ay (cA hq)
 have hk:k<r.ps.length:=(List.getElem?_eq_some_iff.mp hp).1
 refine(?_:az (n+68) sX [.ref (B+1),nv k,bL (jx p d ks)] H _ _)
 refine Ig b hk λH1 x1 b1=>?_
 refine b1 _ λld ep vf es a0 a1 ap am aw ad hd de=>?_
 refine(?_:aH (cy H1 (.ref (B+1))) _)
 refine mc a1 a0 ?_
 exact bQ (wg (n:=n) (r:=⟨r.ps.set k (jx p d ks),r.ms,r.ws⟩) (by rw[length_set];exact hl) hT b1 λH2 x2 b2=>q H2 (x1.trans x2) b2)
theorem UB{o4 o5 o6 o7 o8:Option V}(b:dB z B H r)(hl:r.ps.length<=60)(hp:r.ps[k]?=some p)(hq:H[lq]?=some (.list (aW ks)))(hk:∀k∈ks,k<r.ps.length)(iD:ks.length<=1000)(y:∀j,mF r.ps p ks d=some j->Y (.ref H.length) (H++[.exc j]))(hT:mF r.ps p ks d=none->cY (r.ps.set k (jx p d ks))=[]\/dA ⟨r.ps.set k (jx p d ks),r.ms,r.ws⟩)(q:mF r.ps p ks d=none->∀H',cP B H H'->cD z B H' ⟨r.ps.set k (jx p d ks),r.ms,r.ws⟩->Q .none H'):aN ⟨az (n+68),xq Y⟩ (sY.drop 3) [some (.ref (B+1)),some (nv k),some (.int d),some (.ref lq),o4,o5,o6,o7,o8] H (bH Q):=b _ λld ep vf es a0 a1 ap am aw ad hd de=>by
 refine(?_:aH (cy H (.ref (B+1))) _)
 refine eI (i:=0) a1 a0 rfl ?_
 apply ay (e7 ap hp)
 have l1:qp p d=true->xq Y (.ref H.length) (H++[.exc 1]):=λh=>d8 (y 1 (if_pos h))
 have key:qp p d=false->aN ⟨az (n+68),xq Y⟩ (sY.drop 5) [some (.ref (B+1)),some (nv k),some (.int d),some (.ref lq),o4,some (.int p.aX),some (.aC (aW p.b6)),some (kD p.ad),some (ib p.bA)] H (bH Q):=λh1=>by
  have e1:mF r.ps p ks d=if ks.isEmpty||fN r.ps ks p.aX then some 2 else if p.ad.isSome then some 5 else none:=if_neg (by rw[h1];decide)
  have y2:(ks.isEmpty||fN r.ps ks p.aX)=true->xq Y (.ref H.length) (H++[.exc 2]):=λh=>d8 (y 2 (e1.trans (if_pos h)))
  have k2:(ks.isEmpty||(decide (2<ks.length)||decide (¬ks.Nodup)))=false->aN ⟨az (n+68),xq Y⟩ (sY.drop 6) [some (.ref (B+1)),some (nv k),some (.int d),some (.ref lq),o4,some (.int p.aX),some (.aC (aW p.b6)),some (kD p.ad),some (ib p.bA)] H (bH Q):=λh2=>by
   have h2:=or_eq_false_iff.mp h2
   apply ay (dg hq)
   refine Ii (C:=⟨az (n+68),xq Y⟩) (ρf:=λo=>[some (.ref (B+1)),some (nv k),some (.int d),some (.ref lq),o,some (.int p.aX),some (.aC (aW p.b6)),some (kD p.ad),some (ib p.bA)]) a1 a0 rfl ap hq hk (λZ=>rfl) (λZ=>rfl) (λZ=>rfl) (λZ Z=>rfl) (λh=>d8 (y2 (by unfold fN;rw[h,Bool.or_true,Bool.or_true]))) λh3 o=>?_
   have e2:mF r.ps p ks d=if p.ad.isSome then some 5 else none:=e1.trans (if_neg (by unfold fN;rw[h2.1,h2.2,h3];decide))
   cases ha:p.ad with
   |some a=>exact d8 (y 5 (by rw[e2,ha];rfl))
   |none=>
    have e3:mF r.ps p ks d=none:=by rw[e2,ha];rfl
    have z:=UA (n:=n) (Y:=Y) (o4:=o) b hl hp (hT e3) hq (q e3)
    rw[ha] at z
    exact z
  have e9:(decide (1<=((aW ks).length:Int))&&decide (((aW ks).length:Int)<=2))=!(ks.isEmpty||decide (2<ks.length)):=by
   rw[length_map]
   cases ks with
   |nil=>rfl
   |cons a t=>
    rw[length_cons,List.isEmpty_cons,Bool.false_or,show decide (1<=((t.length+1:Nat):Int))=true from decide_eq_true (by lia),Bool.true_and,<-decide_not]
    exact decide_eq_decide.mpr ⟨λh=>by lia,λh=>by lia⟩
  apply ay (cA hq)
  refine(?_:bB (decide (1<=((aW ks).length:Int))) _ _)
  refine cM (λh3=>?_) λh3=>?_
  ·rw[h3,Bool.true_and] at e9
   refine(?_:bB ((!decide (((aW ks).length:Int)<=2))==false) _ _)
   refine jq (λh4=>?_) λh4=>fV h4 (y2 ?_)
   ·rw[e9,Bool.not_not] at h4
    refine(?_:az (n+68) mR [.ref lq] H _ _)
    refine Cc hq iD ?_
    refine(?_:bB (decide (¬ks.Nodup)) _ _)
    refine cM (λh5=>y2 ?_) λh5=>k2 ?_
    ·unfold fN;rw[h5,Bool.or_true,Bool.true_or,Bool.or_true]
    ·rw[h5,Bool.or_false];exact h4
   ·rw[e9,Bool.not_not] at h4
    unfold fN
    rcases or_eq_true_iff.mp h4 with h|h
    ·rw[h];rfl
    ·rw[h,Bool.true_or,Bool.true_or,Bool.or_true]
  ·rw[h3,Bool.false_and] at e9
   have e9:(ks.isEmpty||decide (2<ks.length))=true:=by rw[<-not_eq_false'];exact e9.symm
   refine y2 ?_
   unfold fN
   rcases or_eq_true_iff.mp e9 with h|h
   ·rw[h];rfl
   ·rw[h,Bool.true_or,Bool.true_or,Bool.or_true]
 refine(?_:bB (decide (d<p.aX)==false) _ _)
 refine jq (λh1=>?_) λh1=>fV h1 (l1 (by unfold qp;rw[h1];rfl))
 cases hd:p.bA with
 |none=>
  have z:=key (by unfold qp;rw[h1,hd];rfl)
  rw[hd] at z
  exact z
 |some e=>
  refine(?_:bB (decide (d≥e)) _ _)
  refine cM (λh2=>l1 (by unfold qp;rw[hd];exact or_eq_true_iff.mpr (.inr h2))) λh2=>?_
  have z:=key (by unfold qp;rw[h1,hd];exact h2)
  rw[hd] at z
  exact z
theorem UC(b:dB z B H r)(hl:r.ps.length<=60)(hq:H[lq]?=some (.list vs))(hs:∀v∈vs,sc v=true)(hv:sc v=true)(hc:sc c=true)(iD:vs.length<=1000)(y:∀k,lN r.ps c v vs=some k->Y (.ref H.length) (H++[.exc k]))
  (hT:lN r.ps c v vs=none->∀p,r.ps[natOf c]?=some p->cY (r.ps.set (natOf c) (jx p (gr v) (vs.map natOf)))=[]\/dA ⟨r.ps.set (natOf c) (jx p (gr v) (vs.map natOf)),r.ms,r.ws⟩)
  (q:lN r.ps c v vs=none->∀p,r.ps[natOf c]?=some p->∀H',cP B H H'->cD z B H' ⟨r.ps.set (natOf c) (jx p (gr v) (vs.map natOf)),r.ms,r.ws⟩->Q .none H'):az (n+69) wN [.ref (B+1),c,v,.ref lq] H Q Y:=Rt (b _ λld ep vf es a0 a1 ap am aw ad hd de=>by
 refine(?_:aH (cy H (.ref (B+1))) _)
 refine mc a1 a0 ?_
 refine(?_:az (n+68) gA [.ref (B+1),c] H _ _)
 refine sk (n:=n+66) a1 a0 rfl ap hc (λh0=>?_) λh0=>d8 (y 0 (by unfold lN;rw[h0];rfl))
 apply ay (dg hq)
 refine Ih (n:=n+66) (C:=⟨az (n+68),xq Y⟩) (ρf:=λo=>[some (.ref (B+1)),some c,some v,some (.ref lq),o,none,none,none,none]) a1 a0 rfl ap hq hs rfl rfl (λZ=>rfl) (λZ=>rfl) (λZ Z=>rfl) (λh=>d8 (d8 (y 0 (by unfold lN;rw[h,Bool.and_false];rfl)))) λh1 o=>?_
 have e1:lN r.ps c v vs=if wh v 0 100000 then(r.ps[natOf c]?).elim none λp=>mF r.ps p (vs.map natOf) (gr v) else some 1:=if_pos (by rw[h0,h1];rfl)
 refine(?_:az (n+68) ke [v] H _ _)
 refine wb (n:=n+66) hv (λh2=>?_) λh2=>d8 (y 1 (by rw[e1,h2];rfl))
 obtain⟨k,rfl,hk⟩:=wa h0
 obtain⟨d,rfl,_⟩:=v0 h2
 obtain⟨Ce,Cf⟩:=Cb h1
 refine(at_of hk).elim λp hp=>?_
 have e2:lN r.ps (nv k) (.int d) vs=mF r.ps p (vs.map natOf) d:=e1.trans ((if_pos h2).trans (by rw[show natOf (nv k)=k from rfl,hp];rfl))
 exact UB (ks:=vs.map natOf) (d:=d) (p:=p) b hl hp (Ce▸hq) Cf (by rw[length_map];exact iD) (λj h=>y j (e2.trans h)) (λh=>hT (e2.trans h) p hp) λh=>q (e2.trans h) p hp)
end
end Mine.L
namespace Mine.L
variable{Y:PQ}
open Mine.P PySem
section
variable{z:Nat->Prop}{n B l lq k:Nat}{H:Hp}{Q:PQ}{K:Out->Prop}{rest:List S}{r:bC}{fs:aO}{ps:List aE}{d:Int}{ρ:aO}{p:aE}
theorem Ik(a1:H[B+1]?=some (.obj B))(a0:H[B]?=some (.bT fs))(hf:fs[0]?.join=some (.ref (B+2)))(ap:H[B+2]?=some (.list (ps.map bL)))(hk:k<ps.length)(q:Q .none H):az (n+2) gA [.ref (B+1),nv k] H Q Y:=sk a1 a0 hf ap rfl (λZ=>q) λh=>absurd (h.symm.trans (sj hk)) Bool.false_ne_true
theorem UD(h:0<=d/\d<=100000)(q:Q .none H):az (n+2) ke [.int d] H Q Y:=wb rfl (λZ=>q) λe=>absurd (e.symm.trans (and_eq_true_iff.mpr ⟨decide_eq_true h.1,decide_eq_true h.2⟩)) Bool.false_ne_true
noncomputable abbrev mG(p:aE)(d:Int):aE:=⟨p.aX,p.b6,p.ad,some d⟩
theorem UE{C:Ct}{i j:Nat}{x y:V}(hi:ρ[i]?.join=some x)(hj:ρ[j]?.join=some y)(q:Q (.aC [x,y]) H):WE C (.aC [.J i,.J j]) ρ H Q:=ay hi (ay hj q)
theorem Il{a b:Nat}(a1:H[B+1]?=some (.obj B))(a0:H[B]?=some (.bT fs))(hf:fs[0]?.join=some (.ref (B+2)))(ap:H[B+2]?=some (.list (ps.map bL)))(ha:a<ps.length)(hb:b<ps.length)(q:∀H',aA H H'->Q (.int (gT 100001 (cH ps a) (cH ps b))) H'):az (n+1) pv [.ref (B+1),nv a,nv b] H Q Y:=Ru (by
 unfold zJ
 refine fW (nI (nJ (UE (x:=nv a) (y:=nv b) rfl rfl ?_)))
 refine ay (a:=[nv a,nv b]) rfl (dj (du (show 2<16000000 by decide)) ?_)
 refine HC (C:=⟨az n,xq Y⟩) ha hb (λj p T hp hT=>?_) (λj p N hp hN=>?_) ?_
 ·refine(?_:aH (cy H (.ref (B+1))) _)
  refine eI (i:=0) a1 a0 hf ?_
  apply ay (e7 ap hp)
  unfold bL
  cases hd:p.bA with
  |none=>rw[hd] at hT;exact hT
  |some d=>rw[hd] at hT;exact hT
 ·refine(?_:aH (cy H (.ref (B+1))) _)
  refine eI (i:=0) a1 a0 hf ?_
  apply ay (e7 ap hp)
  exact hN
 ·refine(HB ha hb).elim λis vU=>?_
  have e:jM (H++[.list ([]++([a,b].filter (eW ps)).map (jb ps))]) (.ref H.length)=some is:=by
   refine(?_:(cS _ (.ref H.length)).bind allInts=_)
   rw[cA (bu _ _)];exact vU.1
  apply ay e
  have q:=q _ (aA.aU H [.list ([]++([a,b].filter (eW ps)).map (jb ps))])
  rw[<-vU.2] at q
  exact q)
theorem Im{o1 o2:Option Int}{x:Int}(h:x<=100000):decide (gT 100001 o1 o2>x)=decide (gT (10^9) o1 o2>x):=by
 cases o1<;>cases o2<;>first|rfl|exact(decide_eq_true (show(100001:Int)>x by lia)).trans (decide_eq_true (show(10^9:Int)>x by lia)).symm
theorem UG{w u:cc}:((((w.a:Int)==(u.a:Int))||(((w.b:Int)==(u.a:Int))||false))||(((w.a:Int)==(u.b:Int))||(((w.b:Int)==(u.b:Int))||false)))=iO w u:=by
 unfold iO
 rw[Bool.or_false,Bool.or_false,Bool.or_false,Bool.or_false,beq_comm (a:=(w.a:Int)),beq_comm (a:=(w.b:Int)),beq_comm (a:=(w.a:Int)) (b:=(u.b:Int)),beq_comm (a:=(w.b:Int)) (b:=(u.b:Int))]
 cases((u.a:Int)==(w.a:Int))<;>cases((u.a:Int)==(w.b:Int))<;>cases((u.b:Int)==(w.a:Int))<;>cases((u.b:Int)==(w.b:Int))<;>rfl
end
end Mine.L
namespace Mine.L
variable{Y:PQ}
open Mine.P PySem
section
variable{z:Nat->Prop}{n B a b:Nat}{H:Hp}{Q:PQ}{K:Out->Prop}{rest:List S}{r:bC}{d:Int}{ρ:aO}
noncomputable abbrev sq(B a b:Nat)(d:Int)(o4 o5 o6:Option V):aO:=[some (.ref (B+1)),some (nv a),some (nv b),some (.int d),o4,o5,o6]
end
end Mine.L
namespace Mine.L
variable{Y:PQ}
open Mine.P PySem
theorem UH{un ov:Nat}(h:un≠0)(j:Nat):mkRat ((j*ov:Nat):Int) un+mkRat (ov:Int) un=mkRat (((j+1)*ov:Nat):Int) un:=by
 rw[Rat.mkRat_add_mkRat _ _ h h,Rat.mkRat_eq_iff (Nat.mul_ne_zero h h) h]
 have:(((j+1)*ov:Nat):Int)=((j*ov:Nat):Int)+(ov:Int):=by rw[Nat.succ_mul];rfl
 rw[this,Int.natCast_mul un un]
 grind
theorem Io{un m:Nat}(h:un≠0)(hm:m<=un):(mkRat (m:Int) un).num<=((mkRat (m:Int) un).den:Int):=by
 have e:(m:Int)*((mkRat (m:Int) un).den:Int)=(mkRat (m:Int) un).num*(un:Int):=(Rat.mkRat_eq_iff h (mkRat (m:Int) un).den_nz).mp (Rat.mkRat_self _).symm
 have h2:(m:Int)*((mkRat (m:Int) un).den:Int)<=(un:Int)*((mkRat (m:Int) un).den:Int):=Int.mul_le_mul_of_nonneg_right (ofNat_le.mpr hm) (natCast_nonneg _)
 rw[e,Int.mul_comm (un:Int)] at h2
 exact Int.le_of_mul_le_mul_right h2 (ofNat_lt.mpr (Nat.pos_of_ne_zero h))
theorem UI{ov un:Nat}(h:un≠0)(o1:1<=ov)(le:ov<=un)(u1:un<1000):1<=(Rat.normalize ov un h).num/\(Rat.normalize ov un h).num<=1000/\1<=((Rat.normalize ov un h).den:Int)/\((Rat.normalize ov un h).den:Int)<=1000:=by
 have hn:=Io h le
 rw[<-Rat.normalize_eq_mkRat h] at hn
 have hd:(Rat.normalize (ov:Int) un h).den<=un:=by
  rw[Rat.normalize_eq];exact Nat.div_le_self _ _
 have hp:=(Rat.normalize (ov:Int) un h).den_pos
 have h1:1<=(Rat.normalize (ov:Int) un h).num:=by
  rw[Rat.normalize_eq]
  refine(?_:1<=(ov:Int)/(((ov:Int).natAbs.gcd un:Nat):Int))
  have hg:0<(ov:Int).natAbs.gcd un:=Nat.gcd_pos_of_pos_right _ (Nat.pos_of_ne_zero h)
  exact(Int.le_ediv_iff_mul_le (ofNat_lt.mpr hg)).mpr (by rw[Int.one_mul];exact ofNat_le.mpr (Nat.gcd_le_left _ o1))
 exact⟨h1,by lia,by lia,by lia⟩
section
variable{z:Nat->Prop}{n B kp lg:Nat}{H:Hp}{Q:PQ}{K:Out->Prop}{r:bC}{ns:List Nat}{q:Rat}{d:Int}{p:aE}
noncomputable abbrev oU(q:Rat)(j:Nat):V:=.aC [nv j,.int q.num,nv q.den]
theorem Ip{i:Int}(h:1<=i/\i<=1000):wh (.int i) 1 1000=true:=and_eq_true_iff.mpr ⟨decide_eq_true h.1,decide_eq_true h.2⟩
noncomputable def UJ(B kp lg ln lf ov un:Nat)(q:Rat)(ns:List Nat)(H₀:Hp)(as:List Nat)(ρ:aO)(H':Hp):Prop:=∃o6 o7 o8,∃an:List Nat,ρ=[some (.ref (B+1)),some (nv kp),some (.ref lg),some (.ref ln),some (.ref lf),some (rv (mkRat ((an.length*ov:Nat):Int) un)),o6,o7,o8]/\bj lf H₀ H'/\H'[lf]?=some (.list (an.map λj=>nC (j,q)))/\an++as=ns
theorem UK{ov un:Nat}(hu:un≠0)(hq:q=Rat.normalize ov un hu)(o1:1<=ov)(u1:un<1000)(le:ov*ns.length<=un)(nd:ns.Nodup/\kp∉ns/\ns≠[])(kC:ns.length<=10)(ag:H[lg]?=some (.list (ns.map (oU q))))(k:∀H',aA H H'->Q (ij (ns.map λj=>(j,q))) H'):az (n+3) wR [.ref (B+1),nv kp,.ref lg] H Q Y:=Rx (by
 have eU:1<=ns.length:=List.length_pos_iff.mpr nd.2.2
 have ov_le:ov<=un:=le_trans (Nat.le_mul_of_pos_right ov eU) le
 have qk:=UI hu o1 ov_le u1
 rw[<-hq] at qk
 apply ay (cA ag)
 rw[length_map]
 refine(?_:bB (decide (1<=(ns.length:Int))) _ _)
 refine rM (λZ=>?_) λh=>absurd (ofNat_le.mpr eU) h
 refine(?_:bB (!decide ((ns.length:Int)<=10)) _ _)
 rw[show decide ((ns.length:Int)<=10)=true from decide_eq_true (ofNat_le.mpr kC)]
 apply ay (dg ag)
 refine dj (du (by rw[length_map];exact lt_of_le_of_lt kC (by decide))) ?_
 refine jT (P:=λZ=>true) (F:=nv) ns _ _ (λj Z T hT=>hT) (λj Z Z N hN=>hN) ?_
 rw[t7]
 have anm:=bu H (.list ([]++aW ns))
 have x1:=aA.aU H [.list ([]++aW ns)]
 refine(?_:az (n+2) mR [.ref H.length] (H++[.list ([]++aW ns)]) _ _)
 refine Cc (n:=n+1) anm (le_trans kC (by decide)) ?_
 rw[decide_eq_false (λh=>h nd.1)]
 apply ay (F7 (k:=kp) anm)
 rw[decide_eq_false nd.2.1]
 have a4:=bu (H++[.list ([]++aW ns)]) (.list [])
 have x2:=x1.trans (aA.aU _ [.list []])
 have Iq:lg≠(H++[aT.list ([]++aW ns)]).length:=by
  have:=cb ag
  rw[length_append]
  exact ne_of_lt (lt_of_lt_of_le this (le_add_right _ _))
 have k9:H.length<=(H++[aT.list ([]++aW ns)]).length:=by rw[length_append];exact le_add_right _ _
 apply ay (dg (x2 _ _ ag))
 refine e8 (g:=oU q) (UJ B kp lg H.length (H++[aT.list ([]++aW ns)]).length ov un q ns (H++[.list ([]++aW ns)]++[.list []])) (λj as ρ H' h=>?_) (λρ H' h=>?_) ns _ _ ⟨none,none,none,[],by rw[show mkRat (((([]:List Nat).length*ov:Nat)):Int) un=0 by rw[length_nil,zero_mul];exact Rat.zero_mkRat un];rfl,bj.refl _ _,a4,rfl⟩
 ·obtain⟨o6,o7,o8,an,rfl,x,a,t⟩:=h
  refine λN hN=>?_
  have dY:an.length+1<=ns.length:=by rw[<-t,length_append,length_cons];exact add_le_add_left (succ_le_succ (zero_le _)) _
  refine(?_:az (n+2) ph [.int q.num,.int 1,.int 1000] H' _ _)
  refine yQ rfl ?_
  rw[Ip ⟨qk.1,qk.2.1⟩]
  refine(?_:az (n+2) ph [nv q.den,.int 1,.int 1000] H' _ _)
  refine yQ rfl ?_
  rw[Ip ⟨qk.2.2.1,qk.2.2.2⟩]
  refine gb a ?_
  refine(?_:az (n+2) jG [.int q.num,nv q.den] H' _ _)
  refine oI q.den_nz ?_
  rw[Rat.normalize_self]
  refine gc a (by rw[length_map];exact lt_of_le_of_lt (le_trans (le_of_succ_le dY) kC) (by decide)) ?_
  refine(?_:az (n+2) jG [.int q.num,nv q.den] (H'.set _ _) _ _)
  refine oI q.den_nz ?_
  rw[Rat.normalize_self]
  have hm:an.length*ov<2^10:=lt_of_le_of_lt (le_trans (by rw[mul_comm];exact mul_le_mul_left ov (le_of_succ_le dY)) le) (lt_trans u1 (by decide))
  have s1:Sm 10 (mkRat ((an.length*ov:Nat):Int) un):=by rw[<-Rat.normalize_eq_mkRat hu];exact Sm.pW hu (show(((an.length*ov:Nat)):Int).natAbs<2^10 from hm) (lt_trans u1 (by decide))
  have s2:Sm 10 q:=by rw[hq];exact Sm.pW hu (show((ov:Nat):Int).natAbs<2^10 from lt_of_le_of_lt ov_le (lt_trans u1 (by decide))) (lt_trans u1 (by decide))
  refine(?_:az (n+2) sT [rv (mkRat ((an.length*ov:Nat):Int) un),rv q] (H'.set _ _) _ _)
  refine AY (n:=n) s1 s2 (by decide) ?_
  rw[show mkRat ((an.length*ov:Nat):Int) un+q=mkRat ((((an++[j]).length*ov:Nat)):Int) un by rw[hq,Rat.normalize_eq_mkRat,UH hu,length_append];rfl]
  refine hN _ _ (cV (x2 _ _ ag) (dQ (x _ _ Iq (x2 _ _ ag)) _ (Ne.symm Iq))) ⟨_,_,_,an++[j],rfl,x.trans (bj.set _ _ _),?_,gd t⟩
  rw[map_append];exact dZ a _
 ·obtain⟨o6,o7,o8,an,rfl,x,a,t⟩:=h
  rw[append_nil] at t
  subst t
  refine(?_:bB (decide ((mkRat ((an.length*ov:Nat):Int) un).num>((mkRat ((an.length*ov:Nat):Int) un).den:Int))) _ _)
  refine rM (λh=>absurd (Io hu (m:=an.length*ov) (by rw[mul_comm];exact le)) (not_le.mpr h)) λZ=>?_
  apply ay (cA a)
  have k:=k H' (x.ext x2 k9)
  unfold ij at k
  rw[map_map] at k
  exact k)
theorem UL{w:c6}(b:dB z B H r)(hl:r.ps.length<=60)(mv:r.ws.length<=1000)(hw:vN r.ps.length w)(hd:qj r.ps w)(ag:H[lg]?=some (.list (w.cC.map λg=>oU g.2 g.1)))(hT:dA ⟨r.ps,r.ms,r.ws++[w]⟩)(q:∀H',cP B H H'->cD z B H' ⟨r.ps,r.ms,r.ws++[w]⟩->Q .none H'):az (n+69) wU [.ref (B+1),nv w.cT,.int w.day,.ref lg] H Q Y:=Ry (b _ λld ep vf es a0 a1 ap am aw ad tS de=>hw _ λgk dy ns ov un hu e o1 u1 le nd=>by
 obtain⟨p,hp,d1,d2,d3⟩:=hd
 have hk:w.cT<r.ps.length:=(List.getElem?_eq_some_iff.mp hp).1
 refine(?_:aH (cy H (.ref (B+1))) _)
 refine mc a1 a0 ?_
 refine(?_:az (n+68) gA [.ref (B+1),nv w.cT] H _ _)
 refine Ik (n:=n+66) a1 a0 rfl ap hk ?_
 apply ay (dg ag)
 refine wc (ok:=λZ=>true) (as:=w.cC) (R:=λρ=>∃o,ρ=[some (.ref (B+1)),some (nv w.cT),some (.int w.day),some (.ref lg),o,none,none,none,none]) (cV ag ag) (λg hg ρ hr=>?_) (λZ ρ hr=>?_) ⟨none,rfl⟩
 ·obtain⟨o,rfl⟩:=hr
  refine λN hN=>?_
  refine(?_:aH (cy H (.ref (B+1))) _)
  refine mc a1 a0 ?_
  refine(?_:az (n+68) gA [.ref (B+1),nv g.1] H _ _)
  exact Ik (n:=n+66) a1 a0 rfl ap (gk.1 g hg).1 (hN rfl _ ⟨_,rfl⟩)
 ·obtain⟨o,rfl⟩:=hr
  refine(?_:az (n+68) ke [.int w.day] H _ _)
  refine UD (n:=n+66) ⟨dy,d2⟩ ?_
  refine(?_:aH (cy H (.ref (B+1))) _)
  refine eI (i:=0) a1 a0 rfl ?_
  apply ay (e7 ap hp)
  have key:∀{o4 o5 o6 o7 o8:Option V},aN ⟨az (n+68),xq Y⟩ (zK.drop 5) [some (.ref (B+1)),some (nv w.cT),some (.int w.day),some (.ref lg),o4,o5,o6,o7,o8] H (bH Q):=λ{_ _ _ _ _}=>by
   refine(?_:aH (cy H (.ref (B+1))) _)
   refine eI (i:=2) a1 a0 rfl ?_
   refine gb aw ?_
   refine(?_:aH (cy H (.ref (B+1))) _)
   refine mc a1 a0 ?_
   refine(?_:az (n+68) wR [.ref (B+1),nv w.cT,.ref lg] H _ _)
   have eg:w.cC.map (λg=>oU g.2 g.1)=ns.map (oU (Rat.normalize ov un hu)):=by rw[e,map_map];rfl
   have kC:ns.length<=10:=by have z:=gk.2;rw[e,length_map] at z;exact z
   refine UK (n:=n+65) hu rfl o1 u1 le nd kC (eg▸ag) λH1 x1=>?_
   rw[<-e]
   have b1:=b.ext x1
   refine b1 _ λld ep vf es a0 a1 ap am aw ad hd de=>?_
   refine gc aw (by rw[length_map];exact lt_of_le_of_lt mv (by decide)) ?_
   have z:=b1.Us (r.ws++[w])
   rw[map_append] at z
   refine z.2 _ λld ep vf es a0 a1 ap am aw ad hd de=>?_
   refine(?_:aH (cy (H1.set (B+4) _) (.ref (B+1))) _)
   refine mc a1 a0 ?_
   exact bQ (wg (n:=n) (r:=⟨r.ps,r.ms,r.ws++[w]⟩) hl (.inr hT) z.2 λH2 x2 b2=>q H2 ((x1.k.trans z.1).trans x2) b2)
  refine(?_:bB (decide (w.day<p.aX)==false) _ _)
  refine jq (λZ=>?_) λh1=>absurd (of_decide_eq_true h1) (Int.not_lt.mpr d1)
  cases hd:p.bA with
  |none=>exact key
  |some e=>
   refine(?_:bB (decide (w.day>e)) _ _)
   exact rM (λh2=>absurd (d3 e hd) (not_le.mpr h2)) λZ=>key)
end
end Mine.L
namespace Mine.L
variable{Y:PQ}
open Mine.P PySem
section
variable{z:Nat->Prop}{n B l j:Nat}{H G:Hp}{Q:PQ}{K:Out->Prop}{rest:List S}{fs:aO}{ρ:aO}
theorem wi{C:Ct}{i:Nat}{e:E}{c:aT}(he:∀Q:PQ,Q (.ref G.length) (G++[c])->WE C e ρ G Q)(h0:ρ[0]?.join=some (.ref (B+1)))(a1:G[B+1]?=some (.obj B))(a0:G[B]?=some (.bT fs))(k:∀G':Hp,G'.length=G.length+1->G'[B]?=some (.bT (fs.set i (some (.ref G.length))))->G'[G.length]?=some c->(∀l c',l≠B->G[l]?=some c'->G'[l]?=some c')->aN C rest ρ G' K):aN C (.setAttr (.J 0) i e::rest) ρ G K:=by
 refine he _ (ay h0 (B8 (be _ a1) (be _ a0) (k _ ?_ (dZ (be _ a0) _) (dQ (bu _ _) _ (ne_of_lt (cb a0))) λl c' hn h=>dQ (be _ h) _ (Ne.symm hn))))
 rw[length_set,length_append];rfl
theorem Ir{C:Ct}(hC:C.call=az (n+1))(q:∀H',aA H H'->cD (λZ=>False) H.length H' ⟨[],[],[]⟩->Q (.ref (H.length+1)) H'):WE C (.new qD) ρ H Q:=by
 refine(?_:C.call qD [.ref (H.length+1)] (H++[.bT (replicate gK.bT.length none)]++[.obj H.length]) _ _)
 rw[hC]
 refine Rn ?_
 have e1:(H++[.bT (replicate gK.bT.length none)]++[.obj H.length])[H.length+1]?=some (.obj H.length):=by
  have z:=bu (H++[.bT (replicate gK.bT.length none)]) (.obj H.length)
  rw[length_append] at z;exact z
 have e0:(H++[.bT (replicate gK.bT.length none)]++[.obj H.length])[H.length]?=some (.bT [none,none,none,none,none]):=be _ (bu _ _)
 have hl:(H++[aT.bT (replicate gK.bT.length none)]++[aT.obj H.length]).length=H.length+2:=by rw[length_append,length_append];rfl
 have x0:aA H (H++[.bT (replicate gK.bT.length none)]++[.obj H.length]):=(aA.aU _ _).trans (aA.aU _ _)
 generalize H++[.bT (replicate gK.bT.length none)]++[.obj H.length]=G at *
 have xx:∀{G G':Hp},aA H G->(∀l c',l≠H.length->G[l]?=some c'->G'[l]?=some c')->aA H G':=λx f l c h=>f l c (ne_of_lt (cb h)) (x l c h)
 unfold zI
 refine wi (c:=.list []) (λQ h=>h) rfl e1 e0 λG1 l1 b1 c1 f1=>?_
 refine wi (c:=.list []) (λQ h=>h) rfl (f1 _ _ (by lia) e1) b1 λG2 l2 b2 c2 f2=>?_
 refine wi (c:=.list []) (λQ h=>h) rfl (f2 _ _ (by lia) (f1 _ _ (by lia) e1)) b2 λG3 l3 b3 c3 f3=>?_
 refine wi (c:=.dict 0 []) (λQ h=>h) rfl (f3 _ _ (by lia) (f2 _ _ (by lia) (f1 _ _ (by lia) e1))) b3 λG4 l4 b4 c4 f4=>?_
 refine wi (c:=.list []) (λQ h=>h) rfl (f4 _ _ (by lia) (f3 _ _ (by lia) (f2 _ _ (by lia) (f1 _ _ (by lia) e1)))) b4 λG5 l5 b5 c5 f5=>?_
 rw[hl] at l1 c1 b5
 rw[l1] at l2 c2 b5
 rw[l2] at l3 c3 b5
 rw[l3] at l4 c4 b5
 exact⟨rfl,q G5 (xx (xx (xx (xx (xx x0 f1) f2) f3) f4) f5) (.mk (H.length+5) 0 _ [] b5 (f5 _ _ (by lia) (f4 _ _ (by lia) (f3 _ _ (by lia) (f2 _ _ (by lia) (f1 _ _ (by lia) e1))))) (f5 _ _ (by lia) (f4 _ _ (by lia) (f3 _ _ (by lia) (f2 _ _ (by lia) c1)))) (f5 _ _ (by lia) (f4 _ _ (by lia) (f3 _ _ (by lia) c2))) (f5 _ _ (by lia) (f4 _ _ (by lia) c3)) (f5 _ _ (by lia) c4) ⟨le_refl _,λq=>q,λZ q=>q.elim⟩ (λZ h=>(nomatch h)) λZ=>rfl)⟩
noncomputable def ul:List Str:=["person","day","parents","match","will","again","full","dead"]
noncomputable def Cg(j:Nat):List Bool:=[gM j 0,gM j 1,gM j 2,gM j 3,gM j 4,gM j 5,gM j 6,gM j 7]
theorem UM:∀j,j<8->(Cg j).count true=1/\(Cg j).idxOf? true=some j/\(ul[j]?).isSome=true:=by decide
theorem nL(h:H[l]?=some (.exc j)):excAt H (.ref l)=some j:=congrArg (Option.bind · mW) h
theorem Ci:∀bs:List Bool,i0 (bs.map V.bool)=some bs
 |[]=>rfl
 |b::r=>by
  refine(?_:(i0 (r.map V.bool)).map (b::·)=_)
  rw[Ci r];rfl
theorem UN{bs:List Bool}(h:H[l]?=some (.list (bs.map V.bool)))(hl:bs.length<=1000)(q:Q (.int (bs.count true)) H):pH .count (.ref l) [.bool true] H Q:=ay (cA h) (show aH (i0 (bs.map V.bool)) (λoj=>(bs.map V.bool).length<=1000/\Q (.int (oj.count true)) H) from ay (Ci bs) ⟨by rw[length_map];exact hl,q⟩)
theorem UO{bs:List Bool}{i:Nat}(h:H[l]?=some (.list (bs.map V.bool)))(hl:bs.length<=1000)(hi:bs.idxOf? true=some i)(q:Q (nv i) H):pH .index (.ref l) [.bool true] H Q:=ay (cA h) (show aH (i0 (bs.map V.bool)) (λoj=>(bs.map V.bool).length<=1000/\aH (oj.idxOf? true) λi=>Q (nv i) H) from ay (Ci bs) ⟨by rw[length_map];exact hl,ay hi q⟩)
theorem Iu{C:Ct}{v:V}{F:List V->Hp->Prop}(h:F [v] H):mj C [.k v] ρ H F:=h
theorem UP{m:Nat}(h:G[l]?=some (.exc j))(a:G[m]?=some (.list ((Cg j).map V.bool)))(hj:j<8)(x:aA H G)(q:∀H',aA H H'->Q (.str (ul.getD j "")) H'):aN ⟨az n,xq Y⟩ (zH.drop 2) [some (.ref l),some (.ref m)] G (bH Q):=by
 have ok:=UM j hj
 refine gb a ?_
 refine Iu ?_
 refine UN a (show 8<=1000 by decide) ?_
 rw[ok.1]
 apply ay (nL h)
 refine gb (be _ a) ?_
 refine Iu ?_
 refine UO (be _ a) (show 8<=1000 by decide) ok.2.1 ?_
 obtain⟨w,hw⟩:=isSome_iff_exists.mp ok.2.2
 have q:=q _ (x.trans (aA.aU _ [.list (ul.map V.str)]))
 rw[getD_eq_getElem?_getD,hw] at q
 apply ay (jp (v:=.str w) (bu _ (.list (ul.map V.str))) (by rw[getElem?_map,hw];rfl))
 exact q
theorem UQ(h:H[l]?=some (.exc j))(hj:j<8)(q:∀H',aA H H'->Q (.str (ul.getD j "")) H'):az (n+1) uE [.ref l] H Q Y:=Rh (by
 apply ay (nL h)
 apply ay (nL h)
 apply ay (nL h)
 apply ay (nL h)
 have h1:=be [.list [.bool (gM j 0),.bool (gM j 1),.bool (gM j 2),.bool (gM j 3)]] h
 apply ay (nL h1)
 apply ay (nL h1)
 apply ay (nL h1)
 apply ay (nL h1)
 refine mu (be _ (bu _ _)) (bu _ _) (show 8<16000000 by decide) ?_
 exact UP (be _ (be _ h1)) (bu _ _) hj (((aA.aU _ _).trans (aA.aU _ _)).trans (aA.aU _ _)) q)
noncomputable def Iv(j:Nat):V:=.aC [.str (ul.getD j ""),.none]
end
end Mine.L
namespace Mine.L
variable{Y:PQ}
open Mine.P PySem
noncomputable def knd:Nat->Str
 |0=>"born"
 |1=>"adopted"
 |2=>"married"
 |3=>"died"
 |_=>"will"
theorem Iw:∀i,i<5->PyData.strOk (knd i)=true:=by decide +kernel
theorem UR:∀i,i<5->∀j,j<5->(knd i==knd j)=decide (i=j):=by decide +kernel
section
variable{z:Nat->Prop}{n B l lq:Nat}{H:Hp}{Q:PQ}{K:Out->Prop}{rest:List S}{ρ:aO}{r:bC}
theorem US(i j:Nat)(hi:i<5:=by decide)(hj:j<5:=by decide):eQ .eq (.str (knd i)) (.str (knd j)) H=some (decide (i=j)):=(uc (Iw i hi) (Iw j hj)).trans (congrArg some (UR i hi j hj))
noncomputable abbrev Iy(v:V)(lq:Nat):V:=.aC [.str (knd 0),v,.ref lq]
noncomputable abbrev Iz(c v:V)(lq:Nat):V:=.aC [.str (knd 1),c,v,.ref lq]
noncomputable abbrev IA(u v w:V):V:=.aC [.str (knd 2),u,v,w]
noncomputable abbrev IB(u v:V):V:=.aC [.str (knd 3),u,v]
noncomputable abbrev IC(u v:V)(lg:Nat):V:=.aC [.str (knd 4),u,v,.ref lg]
noncomputable abbrev wj(a b:Nat)(d:Int):V:=IA (nv a) (nv b) (.int d)
noncomputable abbrev Cj(k:Nat)(d:Int):V:=IB (nv k) (.int d)
noncomputable abbrev ID(k:Nat)(d:Int)(lg:Nat):V:=IC (nv k) (.int d) lg
theorem kt{C:Ct}{j i m:Nat}{w:Str}{vs:List V}{a:List S}(hj:ρ[j]?.join=some (.aC (.str (knd i)::vs)))(hw:w=knd m)(hi:i<5)(hm:m<5)(yes:i=m->aN C a ρ H (λo=>kZ o (λρ H=>aN C rest ρ H K) (K o)))(no:i≠m->aN C rest ρ H K):aN C (.bz (.cmp .eq (.aM (.J j) (.k (.int 0))) (.k (.str w))) a []::rest) ρ H K:=by
 subst hw
 refine lM (ue (fD (bS hj (ct ?_))))
 exact ay (a:=V.str (knd i)) rfl (ct (ay (US i m hi hm) (rM yes no)))
theorem kF{C:Ct}{j:Nat}(i m:Nat){w:Str}{vs:List V}{a:List S}(hj:ρ[j]?.join=some (.aC (.str (knd i)::vs)))(hw:w=knd m)(no:aN C rest ρ H K)(hi:i<5:=by decide)(hm:m<5:=by decide)(hn:i≠m:=by decide):aN C (.bz (.cmp .eq (.aM (.J j) (.k (.int 0))) (.k (.str w))) a []::rest) ρ H K:=kt hj hw hi hm (λh=>absurd h hn) λZ=>no
theorem kT{C:Ct}{j:Nat}(i:Nat){w:Str}{vs:List V}{a:List S}(hj:ρ[j]?.join=some (.aC (.str (knd i)::vs)))(hw:w=knd i)(yes:aN C a ρ H (λo=>kZ o (λρ H=>aN C rest ρ H K) (K o)))(hi:i<5:=by decide):aN C (.bz (.cmp .eq (.aM (.J j) (.k (.int 0))) (.k (.str w))) a []::rest) ρ H K:=kt hj hw hi hi (λZ=>yes) λh=>absurd rfl h
theorem UT{v:V}(b:dB z B H r)(h:az n wM [.ref (B+1),v,.ref lq] H Q (xq Y)):az (n+1) pn [.ref (B+1),Iy v lq] H Q Y:=vC (b _ λld ep vf es a0 a1 ap am aw ad hd de=>by
 refine kT 0 rfl rfl ?_
 refine(?_:aH (cy H (.ref (B+1))) _)
 exact mc a1 a0 h)
theorem UU{c v:V}(b:dB z B H r)(h:az n wN [.ref (B+1),c,v,.ref lq] H Q (xq Y)):az (n+1) pn [.ref (B+1),Iz c v lq] H Q Y:=vC (b _ λld ep vf es a0 a1 ap am aw ad hd de=>by
 refine kF 1 0 rfl rfl ?_
 refine kT 1 rfl rfl ?_
 refine(?_:aH (cy H (.ref (B+1))) _)
 exact mc a1 a0 h)
theorem IE{u v w:V}(k:dB z B H r)(h:az n wO [.ref (B+1),u,v,w] H Q (xq Y)):az (n+1) pn [.ref (B+1),IA u v w] H Q Y:=vC (k _ λld ep vf es a0 a1 ap am aw ad hd de=>by
 refine kF 2 0 rfl rfl ?_
 refine kF 2 1 rfl rfl ?_
 refine kT 2 rfl rfl ?_
 refine(?_:aH (cy H (.ref (B+1))) _)
 exact mc a1 a0 h)
theorem UV{u v:V}(b:dB z B H r)(h:az n wQ [.ref (B+1),u,v] H Q (xq Y)):az (n+1) pn [.ref (B+1),IB u v] H Q Y:=vC (b _ λld ep vf es a0 a1 ap am aw ad hd de=>by
 refine kF 3 0 rfl rfl ?_
 refine kF 3 1 rfl rfl ?_
 refine kF 3 2 rfl rfl ?_
 refine kT 3 rfl rfl ?_
 refine(?_:aH (cy H (.ref (B+1))) _)
 exact mc a1 a0 h)
theorem UW{u v:V}{lg:Nat}(b:dB z B H r)(h:az n wU [.ref (B+1),u,v,.ref lg] H Q (xq Y)):az (n+1) pn [.ref (B+1),IC u v lg] H Q Y:=vC (b _ λld ep vf es a0 a1 ap am aw ad hd de=>by
 refine kF 4 0 rfl rfl ?_
 refine kF 4 1 rfl rfl ?_
 refine kF 4 2 rfl rfl ?_
 refine kF 4 3 rfl rfl ?_
 refine(?_:aH (cy H (.ref (B+1))) _)
 exact mc a1 a0 h)
end
end Mine.L
namespace Mine.L
variable{Y:PQ}
open Mine.P PySem
section
variable{z:Nat->Prop}{n B l lq k:Nat}{H:Hp}{Q:PQ}{K:Out->Prop}{rest:List S}{r:bC}{c v:V}{d:Int}{ρ:aO}{p:aE}
noncomputable def sy(p:aE)(d:Int):Bool:=p.ad.elim false λx=>decide (d<=x.1)
noncomputable def qq(k:Nat)(d:Int)(w:c6):Bool:=((w.cT:Int)==(k:Int))&&decide (d<w.day)
noncomputable def qr(k:Nat)(d:Int)(m:cc):Bool:=(((m.a:Int)==(k:Int))||(((m.b:Int)==(k:Int))||false))&&decide (d<=m.day)
noncomputable def qs(r:bC)(p:aE)(k:Nat)(d:Int):Bool:=(decide (d<p.aX)||sy p d)||(r.ws.any (qq k d)||r.ms.any (qr k d))
noncomputable def lO(r:bC)(p:aE)(k:Nat)(d:Int):Option Nat:=if p.bA.isSome then some 5 else if qs r p k d then some 1 else none
noncomputable def outD(r:bC)(c v:V):Option Nat:=if wh c 0 ((r.ps.length:Int) - 1) then(if wh v 0 100000 then(r.ps[natOf c]?).elim none λp=>lO r p (natOf c) (gr v) else some 1) else some 0
noncomputable abbrev dR(B k:Nat)(d:Int)(p:aE)(o7 o8 o9 o10 dI:Option V):aO:=[some (.ref (B+1)),some (nv k),some (.int d),some (.int p.aX),some (.aC (aW p.b6)),some (kD p.ad),some (ib p.bA),o7,o8,o9,o10,dI]
theorem IF{α:Type}{P:α->Bool}{as:List α}(h:(as.all λa=>!P a)=true):as.any P=false:=by
 cases hh:as.any P with
 |false=>rfl
 |true=>
  obtain⟨k,qo,h1⟩:=any_eq_true.mp hh
  have h2:=all_eq_true.mp h k qo
  rw[h1] at h2;cases h2
theorem UX{o7 o8 o9 o10 dI:Option V}(b:dB z B H r)(hl:r.ps.length<=60)(hp:r.ps[k]?=some p)(hT:dA ⟨r.ps.set k (mG p d),r.ms,r.ws⟩)(q:∀H',cP B H H'->cD z B H' ⟨r.ps.set k (mG p d),r.ms,r.ws⟩->Q .none H'):aN ⟨az (n+68),xq Y⟩ (nS.drop 7) (dR B k d p o7 o8 o9 o10 dI) H (bH Q):=b _ λld ep vf es a0 a1 ap am aw ad hd de=>by
 have hk:k<r.ps.length:=(List.getElem?_eq_some_iff.mp hp).1
 refine(?_:aH (cy H (.ref (B+1))) _)
 refine mc a1 a0 ?_
 refine(?_:az (n+68) sX [.ref (B+1),nv k,bL (mG p d)] H _ _)
 refine Ig b hk λH1 x1 b1=>?_
 refine b1 _ λld ep vf es a0 a1 ap am aw ad hd de=>?_
 refine(?_:aH (cy H1 (.ref (B+1))) _)
 refine mc a1 a0 ?_
 exact bQ (wg (n:=n) (r:=⟨r.ps.set k (mG p d),r.ms,r.ws⟩) (by rw[length_set];exact hl) (.inr hT) b1 λH2 x2 b2=>q H2 (x1.trans x2) b2)
theorem UY{o7 o8 o9 o10 dI:Option V}(b:dB z B H r)(y:r.ms.any (qr k d)=true->Y (.ref H.length) (H++[.exc 1]))(h:r.ms.any (qr k d)=false->∀o7 o10 dI,aN ⟨az (n+68),xq Y⟩ (nS.drop 7) (dR B k d p o7 o8 o9 o10 dI) H K):aN ⟨az (n+68),xq Y⟩ (nS.drop 6) (dR B k d p o7 o8 o9 o10 dI) H K:=b _ λld ep vf es a0 a1 ap am aw ad hd de=>by
 refine(?_:aH (cy H (.ref (B+1))) _)
 refine eI (i:=1) a1 a0 rfl ?_
 apply ay (dg am)
 refine wc (g:=gq) (as:=r.ms) (ok:=λm=>!qr k d m) (R:=λρ=>∃o7 o10 dI,ρ=dR B k d p o7 o8 o9 o10 dI) (cV am am) (λm hm ρ hr=>?_) (λnu ρ hr=>hr.elim λo7 e=>e.elim λo10 e=>e.elim λdI e=>e▸h (IF nu) o7 o10 dI) ⟨_,_,_,rfl⟩
 obtain⟨o7,o10,dI,rfl⟩:=hr
 refine ay (a:=dR B k d p (some (nv m.a)) o8 o9 (some (nv m.b)) (some (.int m.day))) rfl λN hN=>?_
 have no:qr k d m=false->N (dR B k d p (some (nv m.a)) o8 o9 (some (nv m.b)) (some (.int m.day))) H:=λe=>hN (by rw[e];rfl) _ ⟨_,_,_,rfl⟩
 refine(?_:bB ((((m.a:Int)==(k:Int))||(((m.b:Int)==(k:Int))||false))==true) _ _)
 refine fL (λh1=>?_) λh1=>fq h1 (no (by unfold qr;rw[h1];rfl))
 refine(?_:bB (decide (d<=m.day)) _ _)
 exact cM (λh2=>d8 (d8 (y (any_eq_true.mpr ⟨m,hm,by unfold qr;rw[h1,h2];rfl⟩)))) λh2=>no (by unfold qr;rw[h2,Bool.and_false])
theorem UZ{o7 o8 o9 o10 dI:Option V}(b:dB z B H r)(y:r.ws.any (qq k d)=true->Y (.ref H.length) (H++[.exc 1]))(h:r.ws.any (qq k d)=false->∀o7 o8 o9,aN ⟨az (n+68),xq Y⟩ (nS.drop 6) (dR B k d p o7 o8 o9 o10 dI) H K):aN ⟨az (n+68),xq Y⟩ (nS.drop 5) (dR B k d p o7 o8 o9 o10 dI) H K:=b _ λld ep vf es a0 a1 ap am aw ad hd de=>by
 refine(?_:aH (cy H (.ref (B+1))) _)
 refine eI (i:=2) a1 a0 rfl ?_
 apply ay (dg aw)
 refine wc (g:=d6) (as:=r.ws) (ok:=λm=>!qq k d m) (R:=λρ=>∃o7 o8 o9,ρ=dR B k d p o7 o8 o9 o10 dI) (cV aw aw) (λm hm ρ hr=>?_) (λnu ρ hr=>hr.elim λo7 e=>e.elim λo10 e=>e.elim λdI e=>e▸h (IF nu) o7 o10 dI) ⟨_,_,_,rfl⟩
 obtain⟨o7,o8,o9,rfl⟩:=hr
 refine ay (a:=dR B k d p (some (nv m.cT)) (some (.int m.day)) (some (ij m.cC)) o10 dI) rfl λN hN=>?_
 have no:qq k d m=false->N (dR B k d p (some (nv m.cT)) (some (.int m.day)) (some (ij m.cC)) o10 dI) H:=λe=>hN (by rw[e];rfl) _ ⟨_,_,_,rfl⟩
 refine(?_:bB (((m.cT:Int)==(k:Int))==true) _ _)
 refine fL (λh1=>?_) λh1=>fq h1 (no (by unfold qq;rw[h1];rfl))
 refine(?_:bB (decide (d<m.day)) _ _)
 exact cM (λh2=>d8 (d8 (y (any_eq_true.mpr ⟨m,hm,by unfold qq;rw[h1,h2];rfl⟩)))) λh2=>no (by unfold qq;rw[h2,Bool.and_false])
theorem U0{o3 o4 o5 o6 o7 o8 o9 o10 dI:Option V}(b:dB z B H r)(hl:r.ps.length<=60)(hp:r.ps[k]?=some p)(y:∀j,lO r p k d=some j->Y (.ref H.length) (H++[.exc j]))(hT:lO r p k d=none->dA ⟨r.ps.set k (mG p d),r.ms,r.ws⟩)(q:lO r p k d=none->∀H',cP B H H'->cD z B H' ⟨r.ps.set k (mG p d),r.ms,r.ws⟩->Q .none H'):aN ⟨az (n+68),xq Y⟩ (nS.drop 2) [some (.ref (B+1)),some (nv k),some (.int d),o3,o4,o5,o6,o7,o8,o9,o10,dI] H (bH Q):=b _ λld ep vf es a0 a1 ap am aw ad hd de=>by
 refine(?_:aH (cy H (.ref (B+1))) _)
 refine eI (i:=0) a1 a0 rfl ?_
 apply ay (e7 ap hp)
 unfold bL
 cases hd:p.bA with
 |some e=>exact d8 (y 5 (by unfold lO;rw[hd];rfl))
 |none=>
  have e1:lO r p k d=if qs r p k d then some 1 else none:=by unfold lO;rw[hd];rfl
  have y1:qs r p k d=true->Y (.ref H.length) (H++[.exc 1]):=λh=>y 1 (e1.trans (if_pos h))
  have key:(decide (d<p.aX)||sy p d)=false->aN ⟨az (n+68),xq Y⟩ (nS.drop 5) (dR B k d p o7 o8 o9 o10 dI) H (bH Q):=λh1=>by
   refine UZ (n:=n) b (λh2=>y1 (by unfold qs;rw[h2];exact or_eq_true_iff.mpr (.inr rfl))) λh2 o7 o8 o9=>?_
   refine UY (n:=n) b (λh3=>y1 (by unfold qs;rw[h3,Bool.or_true,Bool.or_true])) λh3 o7 o10 dI=>?_
   have e2:lO r p k d=none:=e1.trans (if_neg (by unfold qs;rw[h1,h2,h3];decide))
   exact UX (n:=n) b hl hp (hT e2) (q e2)
  have l1:(decide (d<p.aX)||sy p d)=true->xq Y (.ref H.length) (H++[.exc 1]):=λh=>d8 (y1 (by unfold qs;rw[h];rfl))
  refine(?_:bB (decide (d<p.aX)==false) _ _)
  refine jq (λh1=>?_) λh1=>fV h1 (l1 (by rw[h1];rfl))
  cases ha:p.ad with
  |none=>
   have z:=key (by unfold sy;rw[h1,ha];rfl)
   rw[show dR B k d p o7 o8 o9 o10 dI=[some (.ref (B+1)),some (nv k),some (.int d),some (.int p.aX),some (.aC (aW p.b6)),some (kD none),some (ib none),o7,o8,o9,o10,dI] by unfold dR;rw[ha,hd]] at z
   exact z
  |some x=>
   refine(?_:bB (decide (d<=x.1)) _ _)
   refine cM (λh2=>l1 (by unfold sy;rw[ha];exact or_eq_true_iff.mpr (.inr h2))) λh2=>?_
   have z:=key (by unfold sy;rw[h1,ha];exact h2)
   rw[show dR B k d p o7 o8 o9 o10 dI=[some (.ref (B+1)),some (nv k),some (.int d),some (.int p.aX),some (.aC (aW p.b6)),some (kD (some x)),some (ib none),o7,o8,o9,o10,dI] by unfold dR;rw[ha,hd]] at z
   exact z
theorem U1(b:dB z B H r)(hl:r.ps.length<=60)(hc:sc c=true)(hv:sc v=true)(y:∀j,outD r c v=some j->Y (.ref H.length) (H++[.exc j]))(hT:outD r c v=none->∀p,r.ps[natOf c]?=some p->dA ⟨r.ps.set (natOf c) (mG p (gr v)),r.ms,r.ws⟩)(q:outD r c v=none->∀p,r.ps[natOf c]?=some p->∀H',cP B H H'->cD z B H' ⟨r.ps.set (natOf c) (mG p (gr v)),r.ms,r.ws⟩->Q .none H'):az (n+69) wQ [.ref (B+1),c,v] H Q Y:=Rw (b _ λld ep vf es a0 a1 ap am aw ad tS de=>by
 refine(?_:aH (cy H (.ref (B+1))) _)
 refine mc a1 a0 ?_
 refine(?_:az (n+68) gA [.ref (B+1),c] H _ _)
 refine sk (n:=n+66) a1 a0 rfl ap hc (λh1=>?_) λh1=>d8 (y 0 (if_neg (by rw[h1];decide)))
 have e1:outD r c v=if wh v 0 100000 then(r.ps[natOf c]?).elim none λp=>lO r p (natOf c) (gr v) else some 1:=if_pos h1
 refine(?_:az (n+68) ke [v] H _ _)
 refine wb (n:=n+66) hv (λh2=>?_) λh2=>d8 (y 1 (e1.trans (if_neg (by rw[h2];decide))))
 obtain⟨k,rfl,hk⟩:=wa h1
 obtain⟨d,rfl,-,-⟩:=v0 h2
 refine(at_of hk).elim λp hp=>?_
 have e2:outD r (nv k) (.int d)=lO r p k d:=(e1.trans (if_pos h2)).trans (by rw[show natOf (nv k)=k from rfl,hp];rfl)
 exact U0 (n:=n) b hl hp (λj h=>y j (e2.trans h)) (λh=>hT (e2.trans h) p hp) λh=>q (e2.trans h) p hp)
end
end Mine.L
namespace Mine.L
variable{Y:PQ}
open Mine.P PySem
section
variable{z:Nat->Prop}{n B a b:Nat}{H:Hp}{Q:PQ}{K:Out->Prop}{rest:List S}{r:bC}{d:Int}{ρ:aO}{u v w:V}
noncomputable def sC(r:bC):Prop:=lK r.ps.length r.ms/\∀w∈r.ms,w.day<=100000
noncomputable def nM(r:bC)(w:cc):Option Nat:=if(((w.a:Int)==(w.b:Int))||(!lv r.ps w.day w.a||!lv r.ps w.day w.b)) then some 3 else if r.ms.all (clear r.ps w) then none else some 5
noncomputable def kK(r:bC)(u v w:V):Option Nat:=if wh u 0 ((r.ps.length:Int) - 1)&&wh v 0 ((r.ps.length:Int) - 1) then(if wh w 0 100000 then nM r ⟨natOf u,natOf v,gr w⟩ else some 1) else some 0
theorem U2(k:dB z B H r)(ha:a<r.ps.length)(hb:b<r.ps.length)(ok:sC r)(hd:d<=100000)(y:r.ms.all (clear r.ps ⟨a,b,d⟩)=false->∀H',aA H H'->Y (.ref H'.length) (H'++[.exc 5]))(q:r.ms.all (clear r.ps ⟨a,b,d⟩)=true->∀o4 o5 o6 H',aA H H'->aN ⟨az (n+68),xq Y⟩ (sZ.drop 5) (sq B a b d o4 o5 o6) H' (bH Q)):aN ⟨az (n+68),xq Y⟩ (sZ.drop 4) (sq B a b d none none none) H (bH Q):=k _ λld ep vf es a0 a1 ap am aw ad tS de=>by
 refine(?_:aH (cy H (.ref (B+1))) _)
 refine eI (i:=1) a1 a0 rfl ?_
 apply ay (dg am)
 refine e8 (g:=gq) (λas ρ H'=>(∃o4 o5 o6,ρ=sq B a b d o4 o5 o6)/\aA H H'/\∃pre,pre++as=r.ms/\pre.all (clear r.ps ⟨a,b,d⟩)=true) (λu as ρ H' h=>?_) (λρ H' h=>?_) _ _ _ ⟨⟨none,none,none,rfl⟩,aA.refl _,[],rfl,rfl⟩
 ·obtain⟨⟨o4,o5,o6,rfl⟩,x,pre,e,wl⟩:=h
  refine λN hN=>?_
  have hu:u∈r.ms:=e▸mem_append.mpr (.inr mem_cons_self)
  have no:clear r.ps ⟨a,b,d⟩ u=true->∀H'',aA H' H''->N (sq B a b d (some (nv u.a)) (some (nv u.b)) (some (.int u.day))) H'':=λhc H'' x'=>hN _ _ (cV am ((x.trans x') _ _ am)) ⟨⟨_,_,_,rfl⟩,x.trans x',pre++[u],by rw[append_assoc];exact e,by rw[all_append,wl,all_cons,hc];rfl⟩
  have bad:clear r.ps ⟨a,b,d⟩ u=false->∀H'',aA H' H''->xq (xq Y) (.ref H''.length) (H''++[.exc 5]):=λhc H'' x'=>d8 (d8 (y (by rw[<-e,all_append,all_cons,hc,Bool.false_and,Bool.and_false]) H'' (x.trans x')))
  have yes:iO ⟨a,b,d⟩ u=true->aN ⟨az (n+68),xq (xq Y)⟩ [.bz (.and [(.cmp .gt (.cx pv (.J 0) [.J 4,.J 5]) (.J 3)),(.cmp .gt (.cx pv (.J 0) [.J 1,.J 2]) (.J 6))]) [.raise 5 "another marriage meets it"] []] (sq B a b d (some (nv u.a)) (some (nv u.b)) (some (.int u.day))) H' (λo=>kZ o N False):=λht=>by
   have me:clear r.ps ⟨a,b,d⟩ u=!(decide (gT 100001 (cH r.ps u.a) (cH r.ps u.b)>d)&&decide (gT 100001 (cH r.ps a) (cH r.ps b)>u.day)):=by
    unfold clear vV
    rw[ht,Bool.true_and,Im hd,Im (ok.2 u hu),Bool.and_comm]
   refine(?_:aH (cy H' (.ref (B+1))) _)
   refine mc (x _ _ a1) (x _ _ a0) ?_
   refine(?_:az (n+68) pv [.ref (B+1),nv u.a,nv u.b] H' _ _)
   refine Il (x _ _ a1) (x _ _ a0) rfl (x _ _ ap) (ok.1 u hu).1 (ok.1 u hu).2 λH2 x2=>?_
   refine(?_:bB (decide (gT 100001 (cH r.ps u.a) (cH r.ps u.b)>d)==true) _ _)
   refine fL (λh1=>?_) λh1=>fq h1 (no (by rw[me,h1];rfl) H2 x2)
   have x3:=x.trans x2
   refine(?_:aH (cy H2 (.ref (B+1))) _)
   refine mc (x3 _ _ a1) (x3 _ _ a0) ?_
   refine(?_:az (n+68) pv [.ref (B+1),nv a,nv b] H2 _ _)
   refine Il (x3 _ _ a1) (x3 _ _ a0) rfl (x3 _ _ ap) ha hb λH4 x4=>?_
   rw[h1,Bool.true_and] at me
   refine(?_:bB (decide (gT 100001 (cH r.ps a) (cH r.ps b)>u.day)) _ _)
   exact cM (λh2=>bad (by rw[me,h2];rfl) H4 (x2.trans x4)) λh2=>no (by rw[me,h2];rfl) H4 (x2.trans x4)
  have cn:iO ⟨a,b,d⟩ u=false->clear r.ps ⟨a,b,d⟩ u=true:=λh=>by unfold clear;rw[h];rfl
  refine(?_:bB ((((a:Int)==(u.a:Int))||(((b:Int)==(u.a:Int))||false))==false) _ _)
  have ti:=UG (w:=⟨a,b,d⟩) (u:=u)
  refine jq (λh1=>?_) λh1=>fV h1 (yes (by rw[<-ti];exact or_eq_true_iff.mpr (.inl h1)))
  refine(?_:bB (((a:Int)==(u.b:Int))||(((b:Int)==(u.b:Int))||false)) _ _)
  exact cM (λh2=>yes (by rw[<-ti];exact or_eq_true_iff.mpr (.inr h2))) λh2=>no (cn (by rw[<-ti];exact or_eq_false_iff.mpr ⟨h1,h2⟩)) _ (aA.refl _)
 ·obtain⟨⟨o4,o5,o6,rfl⟩,x,pre,e,wl⟩:=h
  rw[append_nil] at e
  exact q (e▸wl) _ _ _ _ x
theorem U3(k:dB z B H r)(hl:r.ps.length<=60)(ha:a<r.ps.length)(hb:b<r.ps.length)(ok:sC r)(vY:r.ms.length<=1000)(hd:d<=100000)(y:∀j,nM r ⟨a,b,d⟩=some j->∀H',aA H H'->Y (.ref H'.length) (H'++[.exc j]))(hT:nM r ⟨a,b,d⟩=none->cY r.ps=[]\/dA ⟨r.ps,r.ms++[⟨a,b,d⟩],r.ws⟩)(q:nM r ⟨a,b,d⟩=none->∀H',cP B H H'->cD z B H' ⟨r.ps,r.ms++[⟨a,b,d⟩],r.ws⟩->Q .none H'):aN ⟨az (n+68),xq Y⟩ (sZ.drop 3) (sq B a b d none none none) H (bH Q):=k _ λld ep vf es a0 a1 ap am aw ad tS de=>by
 obtain⟨p,hp⟩:=at_of ha
 obtain⟨p',cB⟩:=at_of hb
 have y3:(((a:Int)==(b:Int))||(!dK p d||!dK p' d))=true->xq Y (.ref H.length) (H++[.exc 3]):=λh=>d8 (y 3 (if_pos (by rw[<-gR hp,<-gR cB] at h;exact h)) H (aA.refl _))
 have key:(((a:Int)==(b:Int))||(!dK p d||!dK p' d))=false->aN ⟨az (n+68),xq Y⟩ (sZ.drop 4) (sq B a b d none none none) H (bH Q):=λh=>by
  have e1:nM r ⟨a,b,d⟩=if r.ms.all (clear r.ps ⟨a,b,d⟩) then none else some 5:=if_neg (by rw[<-gR hp,<-gR cB] at h;rw[h];decide)
  refine U2 (n:=n) k ha hb ok hd (λh2=>y 5 (e1.trans (if_neg (by rw[h2];decide)))) λh2 o4 o5 o6 H1 x1=>?_
  have e2:nM r ⟨a,b,d⟩=none:=e1.trans (if_pos h2)
  have k1:=k.ext x1
  refine k1 _ λld ep vf es a0 a1 ap am aw ad hd de=>?_
  refine(?_:aH (cy H1 (.ref (B+1))) _)
  refine eI (i:=1) a1 a0 rfl ?_
  refine gb am (gc am (by rw[length_map];exact lt_of_le_of_lt vY (by decide)) ?_)
  have z:=k1.Ur (r.ms++[⟨a,b,d⟩])
  rw[map_append] at z
  refine z.2 _ λld ep vf es a0 a1 ap am aw ad hd de=>?_
  refine(?_:aH (cy (H1.set (B+3) _) (.ref (B+1))) _)
  refine mc a1 a0 ?_
  exact bQ (wg (n:=n) (r:=⟨r.ps,r.ms++[(⟨a,b,d⟩:cc)],r.ws⟩) hl (hT e2) z.2 λH2 x2 b2=>q e2 H2 ((x1.k.trans z.1).trans x2) b2)
 refine(?_:bB (((a:Int)==(b:Int))==false) _ _)
 refine jq (λh1=>?_) λh1=>fV h1 (y3 (by rw[h1];rfl))
 refine(?_:aH (cy H (.ref (B+1))) _)
 refine eI (i:=0) a1 a0 rfl ?_
 refine(?_:az (n+68) iY [.ref (B+2),nv a,.int d] H _ _)
 refine nz ap hp ?_
 refine(?_:bB ((!dK p d)==false) _ _)
 refine jq (λh2=>?_) λh2=>fV h2 (y3 (by rw[h2,Bool.true_or,Bool.or_true]))
 refine(?_:aH (cy H (.ref (B+1))) _)
 refine eI (i:=0) a1 a0 rfl ?_
 refine(?_:az (n+68) iY [.ref (B+2),nv b,.int d] H _ _)
 refine nz ap cB ?_
 refine(?_:bB (!dK p' d) _ _)
 exact cM (λh3=>y3 (by rw[h3,Bool.or_true,Bool.or_true])) λh3=>key (by rw[h1,h2,h3];rfl)
theorem IG(k:dB z B H r)(hl:r.ps.length<=60)(ok:sC r)(vY:r.ms.length<=1000)(hu:sc u=true)(hv:sc v=true)(hw:sc w=true)(y:∀j,kK r u v w=some j->∀H',aA H H'->Y (.ref H'.length) (H'++[.exc j]))(hT:kK r u v w=none->cY r.ps=[]\/dA ⟨r.ps,r.ms++[⟨natOf u,natOf v,gr w⟩],r.ws⟩)(q:kK r u v w=none->∀H',cP B H H'->cD z B H' ⟨r.ps,r.ms++[⟨natOf u,natOf v,gr w⟩],r.ws⟩->Q .none H'):az (n+69) wO [.ref (B+1),u,v,w] H Q Y:=Rv (k _ λld ep vf es a0 a1 ap am aw ad hd de=>by
 refine(?_:aH (cy H (.ref (B+1))) _)
 refine mc a1 a0 ?_
 refine(?_:az (n+68) gA [.ref (B+1),u] H _ _)
 refine sk (n:=n+66) a1 a0 rfl ap hu (λh1=>?_) λh1=>d8 (y 0 (if_neg (by rw[h1,Bool.false_and];decide)) H (aA.refl _))
 refine(?_:aH (cy H (.ref (B+1))) _)
 refine mc a1 a0 ?_
 refine(?_:az (n+68) gA [.ref (B+1),v] H _ _)
 refine sk (n:=n+66) a1 a0 rfl ap hv (λh2=>?_) λh2=>d8 (y 0 (if_neg (by rw[h1,h2];decide)) H (aA.refl _))
 have e1:kK r u v w=if wh w 0 100000 then nM r ⟨natOf u,natOf v,gr w⟩ else some 1:=if_pos (by rw[h1,h2];rfl)
 refine(?_:az (n+68) ke [w] H _ _)
 refine wb (n:=n+66) hw (λh3=>?_) λh3=>d8 (y 1 (e1.trans (if_neg (by rw[h3];decide))) H (aA.refl _))
 obtain⟨a,rfl,ha⟩:=wa h1
 obtain⟨b,rfl,hb⟩:=wa h2
 obtain⟨d,rfl,-,hd⟩:=v0 h3
 have e2:kK r (nv a) (nv b) (.int d)=nM r ⟨a,b,d⟩:=e1.trans (if_pos h3)
 exact U3 (n:=n) k hl ha hb ok vY hd (λj h=>y j (e2.trans h)) (λh=>hT (e2.trans h)) λh=>q (e2.trans h))
theorem II{D:V}{okR:V->Hp->Prop}{err:Option Nat}(h:∀Q' Y':PQ,(∀v H',okR v H'->Q' v H')->(∀j,err=some j->∀H',aA H H'->Y' (.ref H'.length) (H'++[.exc j]))->az (n+1) pn [.ref (B+1),D] H Q' Y')(q:∀v H',okR v H'->Q (.aC [.str "",v]) H')(y:∀j,err=some j->j<8/\∀H',aA H H'->Q (Iv j) H'):az (n+2) mS [.ref (B+1),D] H Q Y:=Ri (by
 refine h _ _ (λv H' ok=>q v H' ok) λj hj H' x'=>?_
 refine ay (nL (bu _ _)) ⟨by unfold gM;rw[show((8:Nat)==8)=true from rfl,Bool.or_true],?_⟩
 refine(?_:az (n+1) uE [.ref H'.length] (H'++[.exc j]) _ _)
 exact UQ (bu _ _) (y j hj).1 λH'' x=>(y j hj).2 H'' (x'.trans ((aA.aU _ _).trans x)))
end
end Mine.L
namespace Mine.L
open Mine.P PySem
theorem U4{C:Ct}{ρ:aO}{H:Hp}{Q:PQ}{a:E}{w:Bool}(h:WE C a ρ H λx H=>Q (.bool (uv x==w)) H):WE C (.isNone w a) ρ H Q:=h
theorem IJ{H:Hp}{vs:List V}:copyOf H (.aC vs)=some vs:=rfl
end Mine.L
namespace Mine.L
variable{Y:PQ}
open Mine.P PySem
inductive ci where
 |aX (p:aE)
 |bA (k:Nat) (e:Int)
 |adopt (k:Nat) (x:Int×List Nat)
 |cJ (w:cc)
 |fO (w:c6)
inductive dv(P:Nat->Prop)(H:Hp):ci->V->Prop
 |aX {p:aE} {lq:Nat}:P lq->H[lq]?=some (.list (aW p.b6))->dv P H (.aX p) (Iy (.int p.aX) lq)
 |bA {k:Nat} {e:Int}:dv P H (.bA k e) (Cj k e)
 |adopt {k:Nat} {x:Int×List Nat} {lq:Nat}:P lq->H[lq]?=some (.list (aW x.2))->dv P H (.adopt k x) (Iz (nv k) (.int x.1) lq)
 |cJ {w:cc}:dv P H (.cJ w) (wj w.a w.b w.day)
 |fO {w:c6} {lg:Nat}:P lg->H[lg]?=some (.list (w.cC.map λg=>oU g.2 g.1))->dv P H (.fO w) (ID w.cT w.day lg)
theorem dv.k{P P':Nat->Prop}{H H':Hp}{d:ci}{v:V}(h:dv P H d v)(x:∀l c,P l->H[l]?=some c->P' l/\H'[l]?=some c):dv P' H' d v:=h.casesOn (λh1 h2=>.aX (x _ _ h1 h2).1 (x _ _ h1 h2).2) .bA (λh1 h2=>.adopt (x _ _ h1 h2).1 (x _ _ h1 h2).2) .cJ λh1 h2=>.fO (x _ _ h1 h2).1 (x _ _ h1 h2).2
theorem Ck{P:Nat->Prop}{H H':Hp}{ds:List ci}{vs:List V}(h:bP (dv P H) ds vs)(x:aA H H'):bP (dv P H') ds vs:=h.imp λZ Z h=>h.k λl c hp a=>⟨hp,x l c a⟩
noncomputable def Bl(b ld:Nat)(l:Nat):Prop:=b<=l/\l<ld
noncomputable def Bn(b ld:Nat)(l:Nat):Prop:=b<=l/\l≠ld
theorem Cm{b:Nat}{H H':Hp}{P:Nat->Prop}{ds:List ci}{vs:List V}(h:bP (dv P H) ds vs)(hp:∀l,P l->b<=l)(x:aA H H'):bP (dv (Bl b H.length) H') ds vs:=h.imp λZ Z h=>h.k λl c hl a=>⟨⟨hp l hl,cb a⟩,x l c a⟩
theorem IK{b ld:Nat}{H:Hp}{ds:List ci}{vs:List V}(h:bP (dv (Bl b ld) H) ds vs):bP (dv (Bn b ld) H) ds vs:=h.imp λZ Z h=>h.k λl c hl a=>⟨⟨hl.1,ne_of_lt hl.2⟩,a⟩
theorem bP.aU{α β:Type}{R:α->β->Prop}{as bs:List α}{us vs:List β}(h:bP R as us)(h':bP R bs vs):bP R (as++bs) (us++vs):=h.rec (motive:=λas us Z=>bP R (as++bs) (us++vs)) h' λr Z ih=>.cons r ih
noncomputable def mH(ps:List aE):List ci:=(cY ps).map λk=>.bA k ((cH ps k).getD 0)
noncomputable def j1(ps:List aE)(js:List Nat):List ci:=js.filterMap λk=>(ps[k]?).bind λp=>p.ad.map λx=>.adopt k x
noncomputable def kL(r:bC):List ci:=((r.ps.map .aX++mH r.ps)++j1 r.ps (List.range r.ps.length))++r.ms.map .cJ++r.ws.map .fO
section
variable{n l lm lw b ld:Nat}{H:Hp}{Q:PQ}{K:Out->Prop}{rest:List S}{C:Ct}{r:bC}{ps:List aE}{vs:List V}{o2 o3 o4 o5 o6:Option V}
noncomputable abbrev fX(l lm lw:Nat)(o2 o3 o4 o5 o6:Option V):aO:=[some (.aC [.ref l,.ref lm,.ref lw]),some (.ref l),o2,o3,o4,o5,o6]
theorem IL{ρ:aO}{e1 e2 e3:E}(h:WE C e1 ρ H λa H=>WE C e2 ρ H λb H=>WE C e3 ρ H λc H=>Q (.aC [a,b,c]) H):WE C (.aC [e1,e2,e3]) ρ H Q:=h
theorem Co{ρ:aO}{e:E}(h:WE C e ρ H λx H=>aH (copyOf H x) λvs=>kj vs H Q):WE C (.listOf e) ρ H Q:=h
noncomputable abbrev IM:S:=.aS (.J 2) (.comp 1 (.aC [(.k (.str "born")),(.aM (.J 0) (.k (.int 0))),(.listOf (.aM (.J 0) (.k (.int 1))))]) (.J 0) (.of (.J 1)) [])
theorem s1(hb:b<=H.length)(hA:H[l]?=some (.list (ps.map bL)))(hl:ps.length<=60)(h2:∀p∈ps,p.b6.length<=2)(h:∀vs ld H',aA H H'->b<=ld->H'[ld]?=some (.list vs)->bP (dv (Bl b ld) H') (ps.map .aX) vs->aN C rest (fX l lm lw (some (.ref ld)) o3 o4 o5 o6) H' K):aN C (IM::rest) (fX l lm lw o2 o3 o4 o5 o6) H K:=by
 refine fW (nI ?_)
 apply ay (dg hA)
 refine dj (du (by rw[length_map];exact lt_of_le_of_lt hl (by decide))) ?_
 refine pS (g:=bL) (λas aL ρ H'=>(∃o,ρ=o::fX l lm lw o2 o3 o4 o5 o6)/\aA H H'/\∃an,an++as=ps/\bP (dv (b<=·) H') (an.map .aX) aL) (λp as aL ρ H' hI=>?_) (λaL ρ H' hI=>?_) _ _ _ _ ⟨⟨none,rfl⟩,aA.refl _,[],rfl,.nil⟩
 ·obtain⟨⟨o,rfl⟩,x,an,t,ha⟩:=hI
  refine ay (a:=some (bL p)::fX l lm lw o2 o3 o4 o5 o6) rfl λN hN=>?_
  refine yP (fV rfl ?_)
  have ja:=h2 p (t▸mem_append.mpr (.inr mem_cons_self))
  refine IL ?_
  refine ct ?_
  refine fD (bS (v:=bL p) rfl (ct ?_))
  refine ay (a:=V.int p.aX) rfl ?_
  refine Co (fD (bS (v:=bL p) rfl (ct ?_)))
  refine ay (a:=V.aC (aW p.b6)) rfl ?_
  refine ay (IJ (H:=H') (vs:=aW p.b6)) ?_
  refine(dj (du (by rw[length_map];exact lt_of_le_of_lt ja (by decide))) ?_)
  refine jZ (hN _ _ (cV hA (be _ (x _ _ hA))) ⟨⟨_,rfl⟩,x.trans (aA.aU _ _),an++[p],gd t,?_⟩)
  rw[map_append]
  exact(Ck ha (aA.aU _ _)).snoc (.aX (le_trans hb x.len) (bu _ _))
 ·obtain⟨_,x,an,t,ha⟩:=hI
  rw[append_nil] at t
  subst t
  exact jZ (ay rfl (h aL _ _ (x.trans (aA.aU _ _)) (le_trans hb x.len) (bu _ _) (Cm ha (λZ h=>h) (aA.aU _ _))))
theorem IP{P:Nat->Prop}{H:Hp}{f:Nat->Int}:∀js:List Nat,bP (dv P H) (js.map λk=>.bA k (f k)) (js.map λk=>Cj k (f k))
 |[]=>.nil
 |_::js=>.cons .bA (IP js)
noncomputable abbrev IQ:S:=.aS (.J 2) (.bin .add (.J 2) (.comp 1 (.aC [(.k (.str "died")),.J 0,(.aM (.aM (.J 2) (.J 0)) (.k (.int 3)))]) (.J 0) (.range (.k (.int 0)) (.bi .len [.J 1])) [(.isNone false (.aM (.aM (.J 2) (.J 0)) (.k (.int 3))))]))
theorem s2{ds:List ci}(hb:b<=H.length)(hA:H[l]?=some (.list (ps.map bL)))(hl:ps.length<=60)(oV:vs.length<=60)(hD:H[ld]?=some (.list vs))(hd:bP (dv (Bl b ld) H) ds vs)(h:∀vs ld H',aA H H'->b<=ld->vs.length<=120->H'[ld]?=some (.list vs)->bP (dv (Bl b ld) H') (ds++mH ps) vs->aN C rest (fX l lm lw (some (.ref ld)) o3 o4 o5 o6) H' K):aN C (IQ::rest) (fX l lm lw (some (.ref ld)) o3 o4 o5 o6) H K:=by
 refine fW (fM (bS rfl (nI ?_)))
 apply ay (cA hA)
 rw[length_map]
 refine oH (lt_of_le_of_lt hl (by decide)) ?_
 refine dj (du (by rw[length_map,length_range];exact lt_of_le_of_lt hl (by decide))) ?_
 refine jT (P:=eW ps) (F:=λk=>Cj k ((cH ps k).getD 0)) (List.range ps.length) _ _ (λj hj T hT=>?_) (λj hj hd N hN=>?_) ?_
 ·refine(at_of (mem_range.mp hj)).elim λp hp=>?_
  refine(?_:aH (gB (.ref l) (nv j) H) _)
  refine ay (e7 hA hp) ?_
  unfold eW at hT
  rw[hp] at hT
  have hT:T p.bA.isSome H:=hT
  unfold bL
  cases hd:p.bA with
  |none=>rw[hd] at hT;exact hT
  |some d=>rw[hd] at hT;exact hT
 ·refine(at_of (mem_range.mp hj)).elim λp hp=>?_
  refine(?_:aH (gB (.ref l) (nv j) H) _)
  refine ay (e7 hA hp) ?_
  unfold eW at hd
  rw[hp] at hd
  obtain⟨e,he⟩:=isSome_iff_exists.mp hd
  unfold cH at hN
  rw[hp,show(some p).bind (·.bA)=some e from he] at hN
  unfold bL
  rw[he]
  exact hN
 ·refine jZ ?_
  have eU:((List.range ps.length).filter (eW ps)).length<=60:=le_trans (length_filter_le _ _) (by rw[length_range];exact hl)
  refine mu (be _ hD) (bu _ _) (by rw[length_append,nil_append,length_map];exact lt_of_le_of_lt (add_le_add oV eU) (by decide)) ?_
  refine ay rfl (h _ _ _ ((aA.aU _ _).trans (aA.aU _ _)) (le_trans hb (aA.aU _ _).len) (by rw[length_append,nil_append,length_map];exact add_le_add oV eU) (bu _ _) ?_)
  refine(Cm (Ck hd (aA.aU _ _)) (λZ h=>h.1) (aA.aU _ _)).aU ?_
  unfold mH cY
  rw[nil_append]
  exact IP _
noncomputable abbrev U5:List S:=[.bz (.isNone false (.aM (.aM (.J 1) (.J 3)) (.k (.int 2))))
   [.expr (.c8 .append (.J 2) [(.aC [(.k (.str "adopted")),.J 3,(.aM (.aM (.aM (.J 1) (.J 3)) (.k (.int 2))) (.k (.int 0))),(.listOf (.aM (.aM (.aM (.J 1) (.J 3)) (.k (.int 2))) (.k (.int 1))))])])]
   []]
noncomputable abbrev IR:S:=.for (.J 3) (.range (.k (.int 0)) (.bi .len [.J 1])) U5
theorem Cp{ρ:aO}{e1 e2 e3 e4:E}(h:WE C e1 ρ H λa H=>WE C e2 ρ H λb H=>WE C e3 ρ H λc H=>WE C e4 ρ H λd H=>Q (.aC [a,b,c,d]) H):WE C (.aC [e1,e2,e3,e4]) ρ H Q:=h
theorem U6{an:List Nat}{k:Nat}{p:aE}(hp:ps[k]?=some p):j1 ps (an++[k])=j1 ps an++(match p.ad with|none=>[]|some x=>[ci.adopt k x]):=by
 unfold j1
 rw[List.filterMap_append]
 congr 1
 refine(?_:filterMap _ [k]=_)
 rw[filterMap_cons,hp,List.filterMap_nil]
 rw[show((some p).bind λp=>p.ad.map λx=>ci.adopt k x)=p.ad.map (λx=>ci.adopt k x) from rfl]
 cases p.ad<;>rfl
theorem Cq{ρ:aO}{j:Nat}{e:E}{us:List V}{lu:Nat}(hj:ρ[j]?.join=some (.ref lu))(hu:H[lu]?=some (.list us))(h:WE C e ρ H λv H1=>pH .append (.ref lu) [v] H1 Q):WE C (.c8 .append (.J j) [e]) ρ H Q:=ay hj (gb hu h)
theorem s3{ds:List ci}(hb:b<=ld)(hA:H[l]?=some (.list (ps.map bL)))(hl:ps.length<=60)(h2:∀p∈ps,∀x,p.ad=some x->x.2.length<=2)(oV:vs.length<=120)(Cr:l<ld)(hD:H[ld]?=some (.list vs))(hd:bP (dv (Bl b ld) H) ds vs)(h:∀vs o3 H',bj ld H H'->vs.length<=180->H'[ld]?=some (.list vs)->bP (dv (Bn b ld) H') (ds++j1 ps (List.range ps.length)) vs->aN C rest (fX l lm lw (some (.ref ld)) o3 o4 o5 o6) H' K):aN C (IR::rest) (fX l lm lw (some (.ref ld)) o3 o4 o5 o6) H K:=by
 refine r8 (yF (ct ?_))
 apply ay (cA hA)
 rw[length_map]
 refine oH (lt_of_le_of_lt hl (by decide)) ?_
 have Up:=cb hD
 refine e8 (λas ρ H'=>(∃o3,ρ=fX l lm lw (some (.ref ld)) o3 o4 o5 o6)/\bj ld H H'/\∃an gZ,an++as=List.range ps.length/\H'[ld]?=some (.list gZ)/\bP (dv (Bn b ld) H') (ds++j1 ps an) gZ/\gZ.length<=120+an.length) (λk as ρ H' hI=>?_) (λρ H' hI=>?_) _ _ _ ⟨⟨o3,rfl⟩,bj.refl _ _,[],vs,rfl,hD,by rw[show j1 ps []=[] from rfl,append_nil];exact IK hd,oV⟩
 ·obtain⟨⟨o,rfl⟩,x,an,gZ,t,a,ha,fS⟩:=hI
  refine ay (a:=fX l lm lw (some (.ref ld)) (some (nv k)) o4 o5 o6) rfl λN hN=>?_
  have qo:k∈List.range ps.length:=t▸mem_append.mpr (.inr mem_cons_self)
  have dY:an.length<=60:=le_trans (by rw[<-length_range (n:=ps.length),<-t,length_append];exact le_add_right _ _) hl
  obtain⟨p,hp⟩:=at_of (mem_range.mp qo)
  have iN:=x _ _ (ne_of_lt Cr) hA
  have ix:=e7 iN hp
  have sn:=U6 (an:=an) hp
  refine lM (uf (U4 (fD (fD (bS rfl (bS rfl (ay ix (ct (ay (a:=kD p.ad) rfl ?_)))))))))
  cases jP:p.ad with
  |none=>
   rw[jP] at sn
   refine ay (a:=false) rfl (fq rfl (hN _ _ rfl ⟨⟨_,rfl⟩,x,an++[k],gZ,gd t,a,?_,by rw[length_append];exact le_trans fS (add_le_add_left (le_add_right _ _) _)⟩))
   rw[sn,append_nil];exact ha
  |some z=>
   rw[jP] at sn
   refine ay (a:=true) rfl (fV rfl (B3 (Cq rfl a (Cp (ct (bS rfl (fD (fD (fD (bS rfl (bS rfl (ay ix (ct (ay (a:=kD p.ad) rfl (ct ?_)))))))))))))))
   rw[jP]
   refine ay (a:=V.int z.1) rfl (Co (fD (fD (fD (bS rfl (bS rfl (ay ix (ct (ay (a:=kD p.ad) rfl (ct ?_))))))))))
   rw[jP]
   refine ay (a:=V.aC (aW z.2)) rfl (ay (IJ (vs:=aW z.2)) (dj (du (by rw[length_map];exact lt_of_le_of_lt (h2 p (mem_of_getElem? hp) z jP) (by decide))) (jZ ?_)))
   have a':=be [.list (aW z.2)] a
   refine gc a' (lt_of_le_of_lt fS (lt_of_le_of_lt (add_le_add_left dY _) (by decide))) ?_
   have iD:ld<H'.length:=cb a
   refine(hN _ _ rfl ⟨⟨_,rfl⟩,x.trans ((bj.aU _ _ _).trans (bj.set _ _ _)),an++[k],_,gd t,dZ a' _,?_,by rw[length_append,length_append];exact succ_le_succ fS⟩)
   rw[sn,<-append_assoc]
   refine(ha.imp λZ Z h=>h.k λl c hp a=>⟨hp,dQ (be _ a) _ (Ne.symm hp.2)⟩).snoc (.adopt ⟨le_trans hb (le_of_lt iD),ne_of_gt iD⟩ (dQ (bu _ _) _ (ne_of_lt iD)))
 ·obtain⟨⟨o,rfl⟩,x,an,gZ,t,a,ha,fS⟩:=hI
  rw[append_nil] at t
  subst t
  exact h gZ o H' x (le_trans fS (by rw[length_range];exact add_le_add_left hl _)) a ha
end
end Mine.L
namespace Mine.L
variable{Y:PQ}
open Mine.P PySem
section
variable{n l lm lw b ld:Nat}{H:Hp}{Q:PQ}{K:Out->Prop}{rest:List S}{C:Ct}{r:bC}{ps:List aE}{ms:List cc}{ws:List c6}{vs:List V}{o2 o3 o4 o5 o6:Option V}
noncomputable abbrev IS:S:=.aS (.J 2) (.bin .add (.J 2) (.comp 3 (.aC [(.k (.str "married")),.J 0,.J 1,.J 2]) (.aC [.J 0,.J 1,.J 2]) (.of (.aM (.J 0) (.k (.int 1)))) []))
theorem IT{P:Nat->Prop}{H:Hp}:∀ms:List cc,bP (dv P H) (ms.map .cJ) (ms.map λw=>wj w.a w.b w.day)
 |[]=>.nil
 |_::ms=>.cons .cJ (IT ms)
theorem s4{ds:List ci}(hb:b<=H.length)(hM:H[lm]?=some (.list (ms.map gq)))(hl:ms.length<=1000)(oV:vs.length<=180)(hD:H[ld]?=some (.list vs))(hd:bP (dv (Bn b ld) H) ds vs)(h:∀vs ld H',aA H H'->b<=ld->H.length<=ld->vs.length<=1180->H'[ld]?=some (.list vs)->bP (dv (Bl b ld) H') (ds++ms.map .cJ) vs->aN C rest (fX l lm lw (some (.ref ld)) o3 o4 o5 o6) H' K):aN C (IS::rest) (fX l lm lw (some (.ref ld)) o3 o4 o5 o6) H K:=by
 refine fW (fM (bS rfl (nI (nJ (fD (bS rfl (ct ?_)))))))
 refine ay (a:=V.ref lm) rfl (ay (dg hM) ?_)
 refine dj (du (by rw[length_map];exact lt_of_le_of_lt hl (by decide))) ?_
 refine pS (g:=gq) (λas aL ρ H'=>(∃o o' oN,ρ=o::o'::oN::fX l lm lw (some (.ref ld)) o3 o4 o5 o6)/\H'=H/\∃an,an++as=ms/\aL=an.map λw=>wj w.a w.b w.day) (λw as aL ρ H' hI=>?_) (λaL ρ H' hI=>?_) _ _ _ _ ⟨⟨none,none,none,rfl⟩,rfl,[],rfl,rfl⟩
 ·obtain⟨⟨o,o',oN,rfl⟩,rfl,an,t,rfl⟩:=hI
  refine ay (a:=some (nv w.a)::some (nv w.b)::some (.int w.day)::fX l lm lw (some (.ref ld)) o3 o4 o5 o6) rfl λN hN=>?_
  refine yP (fV rfl (Cp (ct (bS rfl (bS rfl (bS rfl ?_))))))
  exact hN _ _ (cV hM hM) ⟨⟨_,_,_,rfl⟩,rfl,an++[w],gd t,by rw[map_append];rfl⟩
 ·obtain⟨_,rfl,an,t,rfl⟩:=hI
  rw[append_nil] at t
  subst t
  refine jZ (mu (be _ hD) (bu _ _) (by rw[length_append,length_map];exact lt_of_le_of_lt (add_le_add oV hl) (by decide)) ?_)
  refine ay rfl (h _ _ _ ((aA.aU _ _).trans (aA.aU _ _)) (le_trans hb (aA.aU _ _).len) (aA.aU _ _).len (by rw[length_append,length_map];exact add_le_add oV hl) (bu _ _) ?_)
  exact(Cm (Ck hd (aA.aU _ _)) (λZ h=>h.1) (aA.aU _ _)).aU (IT _)
noncomputable abbrev IU:S:=.for (.aC [.J 4,.J 5,.J 6]) (.of (.aM (.J 0) (.k (.int 2)))) [.expr (.c8 .append (.J 2) [(.aC [(.k (.str "will")),.J 4,.J 5,(.comp 2 (.aC [.J 0,(.aM (.J 1) (.k (.int 0))),(.aM (.J 1) (.k (.int 1)))]) (.aC [.J 0,.J 1]) (.of (.J 6)) [])])])]
theorem s5{ds:List ci}(hb:b<=ld)(hW:H[lw]?=some (.list (ws.map d6)))(mv:ws.length<=1000)(hg:∀w∈ws,w.cC.length<=10)(oV:vs.length<=1180)(Cr:lw<ld)(hD:H[ld]?=some (.list vs))(hd:bP (dv (Bl b ld) H) ds vs)(h:∀vs o4 o5 o6 H',bj ld H H'->H'[ld]?=some (.list vs)->bP (dv (Bn b ld) H') (ds++ws.map .fO) vs->aN C rest (fX l lm lw (some (.ref ld)) o3 o4 o5 o6) H' K):aN C (IU::rest) (fX l lm lw (some (.ref ld)) o3 o4 o5 o6) H K:=by
 refine r8 (nJ (fD (bS rfl (ct ?_))))
 refine ay (a:=V.ref lw) rfl (ay (dg hW) ?_)
 refine e8 (g:=d6) (λas ρ H'=>(∃o4 o5 o6,ρ=fX l lm lw (some (.ref ld)) o3 o4 o5 o6)/\bj ld H H'/\∃an gZ,an++as=ws/\H'[ld]?=some (.list gZ)/\bP (dv (Bn b ld) H') (ds++an.map .fO) gZ/\gZ.length<=1180+an.length) (λw as ρ H' hI=>?_) (λρ H' hI=>?_) _ _ _ ⟨⟨o4,o5,o6,rfl⟩,bj.refl _ _,[],vs,rfl,hD,by rw[map_nil,append_nil];exact IK hd,oV⟩
 ·obtain⟨⟨o4,o5,o6,rfl⟩,x,an,gZ,t,a,ha,fS⟩:=hI
  refine ay (a:=fX l lm lw (some (.ref ld)) o3 (some (nv w.cT)) (some (.int w.day)) (some (ij w.cC))) rfl λN hN=>?_
  have dY:an.length<=1000:=le_trans (by rw[<-t,length_append];exact le_add_right _ _) mv
  have U7:=hg w (t▸mem_append.mpr (.inr mem_cons_self))
  have iD:ld<H'.length:=cb a
  refine B3 (Cq rfl a (Cp (ct (bS rfl (bS rfl (nI (nJ (bS rfl ?_))))))))
  refine ay (a:=w.cC.map nC) rfl (dj (du (by rw[length_map];exact lt_of_le_of_lt U7 (by decide))) ?_)
  refine pS (g:=nC) (λas aL ρ H''=>(∃o o',ρ=o::o'::fX l lm lw (some (.ref ld)) o3 (some (nv w.cT)) (some (.int w.day)) (some (ij w.cC)))/\H''=H'/\∃an,an++as=w.cC/\aL=an.map λg=>oU g.2 g.1) (λg as aL ρ H'' hI=>?_) (λaL ρ H'' hI=>?_) _ _ _ _ ⟨⟨none,none,rfl⟩,rfl,[],rfl,rfl⟩
  ·obtain⟨⟨o,o',rfl⟩,rfl,IV,t',rfl⟩:=hI
   refine ay (a:=some (nv g.1)::some (rv g.2)::fX l lm lw (some (.ref ld)) o3 (some (nv w.cT)) (some (.int w.day)) (some (ij w.cC))) rfl λN' iL=>?_
   refine yP (fV rfl (IL (bS rfl (fD (bS (v:=rv g.2) rfl (ct ?_))))))
   refine ay (a:=V.int g.2.num) rfl (fD (bS (v:=rv g.2) rfl (ct ?_)))
   refine ay (a:=nv g.2.den) rfl ?_
   exact iL _ _ rfl ⟨⟨_,_,rfl⟩,rfl,IV++[g],gd t',by rw[map_append];rfl⟩
  ·obtain⟨_,rfl,IV,t',rfl⟩:=hI
   rw[append_nil] at t'
   subst t'
   have a':=be [.list (w.cC.map λg=>oU g.2 g.1)] a
   refine jZ (gc a' (lt_of_le_of_lt fS (lt_of_le_of_lt (add_le_add_left dY _) (by decide))) ?_)
   have hx:bj ld H ((H''++[aT.list (w.cC.map λg=>oU g.2 g.1)]).set ld (.list (gZ++[ID w.cT w.day H''.length]))):=x.trans ((bj.aU _ _ _).trans (bj.set _ _ _))
   refine hN _ _ (cV hW (hx _ _ (ne_of_lt Cr) hW)) ⟨⟨_,_,_,rfl⟩,hx,an++[w],_,gd t,dZ a' _,?_,by rw[length_append,length_append];exact succ_le_succ fS⟩
   rw[map_append,<-append_assoc]
   exact(ha.imp λZ Z h=>h.k λl c hp a=>⟨hp,dQ (be _ a) _ (Ne.symm hp.2)⟩).snoc (.fO ⟨le_trans hb (le_of_lt iD),ne_of_gt iD⟩ (dQ (bu _ _) _ (ne_of_lt iD)))
 ·obtain⟨⟨o4,o5,o6,rfl⟩,x,an,gZ,t,a,ha,fS⟩:=hI
  rw[append_nil] at t
  subst t
  exact h gZ o4 o5 o6 H' x a ha
theorem U8(hb:l<H.length/\lw<H.length)(at':g5 H r l lm lw)(hl:r.ps.length<=60/\r.ms.length<=1000/\r.ws.length<=1000)(hW:dE r.ps)(hg:∀w∈r.ws,w.cC.length<=10)(q:∀vs ld H',aA H H'->H.length<=ld->H'[ld]?=some (.list vs)->bP (dv (Bn H.length ld) H') (kL r) vs->Q (.ref ld) H'):az (n+1) uF [.aC [.ref l,.ref lm,.ref lw]] H Q Y:=Rj (at' _ λap am aw=>by
 have two:∀p∈r.ps,p.b6.length<=2:=λp hp=>(List.getElem?_of_mem hp).elim λi hi=>(hW i p hi) _ λZ Z c Z Z=>c.1
 have two':∀p∈r.ps,∀x,p.ad=some x->x.2.length<=2:=λp hp x hx=>(List.getElem?_of_mem hp).elim λi hi=>(hW i p hi) _ λZ Z Z d Z=>(d x hx).1
 refine(?_:aN ⟨az n,xq Y⟩ (IM::qG.drop 2) (fX l lm lw none none none none none) H (bH Q))
 refine s1 (b:=H.length) (le_refl _) ap hl.1 two λU9 Va H1 x1 b1 a1 d1=>?_
 have v1:U9.length<=60:=by rw[d1.len,length_map];exact hl.1
 refine(?_:aN ⟨az n,xq Y⟩ (IQ::qG.drop 3) (fX l lm lw (some (.ref Va)) none none none none) H1 (bH Q))
 refine s2 (b:=H.length) x1.len (x1 _ _ ap) hl.1 v1 a1 d1 λW4 IW H2 x2 b2 v2 a2 d2=>?_
 have IX:=x1.trans x2
 refine(?_:aN ⟨az n,xq Y⟩ (IR::qG.drop 4) (fX l lm lw (some (.ref IW)) none none none none) H2 (bH Q))
 refine s3 (b:=H.length) b2 (IX _ _ ap) hl.1 two' v2 (lt_of_lt_of_le hb.1 b2) a2 d2 λW5 o3 H3 x3 v3 a3 d3=>?_
 have Cs:aA H H3:=x3.ext IX b2
 refine(?_:aN ⟨az n,xq Y⟩ (IS::qG.drop 5) (fX l lm lw (some (.ref IW)) o3 none none none) H3 (bH Q))
 refine s4 (b:=H.length) Cs.len (Cs _ _ am) hl.2.1 v3 a3 d3 λW6 IY H4 x4 b4 Z v4 a4 d4=>?_
 have um:=Cs.trans x4
 refine(?_:aN ⟨az n,xq Y⟩ (IU::qG.drop 6) (fX l lm lw (some (.ref IY)) o3 none none none) H4 (bH Q))
 refine s5 (b:=H.length) b4 (um _ _ aw) hl.2.2 hg v4 (lt_of_lt_of_le hb.2 b4) a4 d4 λVb o4 o5 o6 H5 x5 a5 d5=>?_
 exact q Vb IY H5 (x5.ext um b4) b4 a5 d5)
end
end Mine.L
namespace Mine.L
variable{Y:PQ}
open Mine.P PySem
noncomputable abbrev kM(p:aE):aE:=⟨p.aX,p.b6,none,none⟩
inductive Acc:bC->ci->bC->Prop
 |aX {r:bC} {p:aE}:oS r.ps (.int p.aX) (aW p.b6)=none->p.b6.length<=2->r.ps.length<=60->(cY (r.ps++[kM p])=[]\/dA ⟨r.ps++[kM p],r.ms,r.ws⟩)->Acc r (.aX p) ⟨r.ps++[kM p],r.ms,r.ws⟩
 |bA {r:bC} {k:Nat} {e:Int} {p:aE}:r.ps[k]?=some p->outD r (nv k) (.int e)=none->r.ps.length<=60->dA ⟨r.ps.set k (mG p e),r.ms,r.ws⟩->Acc r (.bA k e) ⟨r.ps.set k (mG p e),r.ms,r.ws⟩
 |adopt {r:bC} {k:Nat} {x:Int×List Nat} {p:aE}:lN r.ps (nv k) (.int x.1) (aW x.2)=none->r.ps[k]?=some p->x.2.length<=2->r.ps.length<=60->(cY (r.ps.set k (jx p x.1 x.2))=[]\/dA ⟨r.ps.set k (jx p x.1 x.2),r.ms,r.ws⟩)->Acc r (.adopt k x) ⟨r.ps.set k (jx p x.1 x.2),r.ms,r.ws⟩
 |cJ {r:bC} {w:cc}:r.ps.length<=60->sC r->r.ms.length<=1000->kK r (nv w.a) (nv w.b) (.int w.day)=none->dA ⟨r.ps,r.ms++[w],r.ws⟩->Acc r (.cJ w) ⟨r.ps,r.ms++[w],r.ws⟩
 |fO {r:bC} {w:c6}:r.ps.length<=60->r.ws.length<=1000->vN r.ps.length w->qj r.ps w->dA ⟨r.ps,r.ms,r.ws++[w]⟩->Acc r (.fO w) ⟨r.ps,r.ms,r.ws++[w]⟩
inductive Runs:bC->List ci->bC->Prop
 |nil {r:bC}:Runs r [] r
 |cons {r r' lP:bC} {d:ci} {ds:List ci}:Acc r d r'->Runs r' ds lP->Runs r (d::ds) lP
theorem Runs.aU{r r' lP:bC}{ds es:List ci}(h:Runs r ds r')(h':Runs r' es lP):Runs r (ds++es) lP:=h.rec (motive:=λr ds r' Z=>Runs r' es lP->Runs r (ds++es) lP) (λh=>h) (λa Z ih h=>.cons a (ih h)) h'
theorem sD:∀ks:List Nat,(aW ks).map natOf=ks
 |[]=>rfl
 |k::ks=>congrArg (k::·) (sD ks)
theorem IZ{ks:List Nat}:∀v∈aW ks,sc v=true:=λv hv=>(mem_map.mp hv).elim λk hk=>hk.2▸rfl
section
variable{z:Nat->Prop}{n B:Nat}{H:Hp}{Q:PQ}{r r':bC}{d:ci}{v:V}{P:Nat->Prop}
noncomputable def Vc(z:Nat->Prop)(B:Nat)(H:Hp)(r:bC)(v:V)(H':Hp):Prop:=cP B H H'/\cD z B H' r
theorem I0(b:dB z B H r)(a:Acc r d r')(h:dv P H d v)(hP:∀l,P l->l<B\/B+5<=l)(q:∀u H',cP B H H'->cD z B H' r'->Q (.aC [.str "",u]) H'):az (n+71) mS [.ref (B+1),v] H Q Y:=by
 refine II (n:=n+69) (okR:=Vc z B H r') (err:=none) (λQ' Y' hq Z=>?_) (λu H' ok=>q u H' ok.1 ok.2) λj hj=>(nomatch hj)
 cases a with
 |aX h1 h2 h3 h4=>
  cases h with
  |aX p1 p2=>
   refine UT b (Uz (n:=n) b h3 p2 IZ rfl (by rw[length_map];exact le_trans h2 (by decide)) (hP _ p1) (λk hk=>by rw[h1] at hk;cases hk) (λZ=>?_) λZ H' x b'=>?_)
   ·rw[sD];exact h4
   ·rw[sD] at b';exact hq _ _ ⟨x,b'⟩
 |bA h1 h2 h3 h4=>
  cases h with
  |bA=>
   refine UV b (U1 (n:=n) b h3 rfl rfl (λj hj=>by rw[h2] at hj;cases hj) (λZ p hp=>?_) λZ p hp H' x b'=>?_)
   ·have e:=Option.some.inj (h1.symm.trans hp)
    rw[<-e];exact h4
   ·have e:=Option.some.inj (h1.symm.trans hp)
    rw[<-e] at b';exact hq _ _ ⟨x,b'⟩
 |adopt h1 h2 h3 h4 h5=>
  cases h with
  |adopt p1 p2=>
   refine UU b (UC (n:=n) b h4 p2 IZ rfl rfl (by rw[length_map];exact le_trans h3 (by decide)) (λk hk=>by rw[h1] at hk;cases hk) (λZ p hp=>?_) λZ p hp H' x b'=>?_)
   ·have e:=Option.some.inj (h2.symm.trans hp)
    rw[sD,<-e];exact h5
   ·have e:=Option.some.inj (h2.symm.trans hp)
    rw[sD,<-e] at b';exact hq _ _ ⟨x,b'⟩
 |cJ h1 h2 h3 h4 h5=>
  cases h with
  |cJ=>exact IE b (IG (n:=n) b h1 h2 h3 rfl rfl rfl (λj hj=>by rw[h4] at hj;cases hj) (λZ=>.inr h5) λZ H' x b'=>hq _ _ ⟨x,b'⟩)
 |fO h1 h2 h3 h4 h5=>
  cases h with
  |fO p1 p2=>exact UW b (UL (n:=n) b h1 h2 h3 h4 p2 h5 λH' x b'=>hq _ _ ⟨x,b'⟩)
theorem Vd{w:cc}(b:cD z B H r)(hl:r.ps.length<=60)(ok:sC r)(hm:r.ms.length<=1000)(e:kK r (nv w.a) (nv w.b) (.int w.day)=some 5)(q:∀H',aA H H'->Q (Iv 5) H'):az (n+71) mS [.ref (B+1),wj w.a w.b w.day] H Q Y:=
 II (n:=n+69) (okR:=λZ Z=>False) (err:=some 5) (λQ' Y' hq hy=>IE b.b (IG (n:=n) b.b hl ok hm rfl rfl rfl (λj hj H' x=>d8 (hy j (e.symm.trans hj) H' x)) (λh=>by rw[e] at h;cases h) λh=>by rw[e] at h;cases h)) (λZ Z ok=>ok.elim) λj hj=>by cases hj;exact⟨by decide,q⟩
theorem Cu:PyData.strOk ""=true:=by decide +kernel
theorem I1:eQ .ne (.str "") (.str "") H=some false:=(congrArg (Option.map (!·)) (uc Cu Cu)).trans (by rw[beq_self_eq_true];rfl)
end
end Mine.L
namespace Mine.L
variable{Y:PQ}
open Mine.P PySem
inductive Tn:bC->List cc->List ci->bC->List cc->Prop
 |nil {r:bC} {L:List cc}:Tn r L [] r L
 |aL {r r' rf:bC} {L Lf:List cc} {d:ci} {ds:List ci}:Acc r d r'->Tn r' L ds rf Lf->Tn r L (d::ds) rf Lf
 |ref {r rf:bC} {L Lf:List cc} {w:cc} {ds:List ci}:r.ps.length<=60->sC r->r.ms.length<=1000->kK r (nv w.a) (nv w.b) (.int w.day)=some 5->Tn r (L++[w]) ds rf Lf->Tn r L (.cJ w::ds) rf Lf
theorem Tn.of{r r':bC}{L:List cc}{ds:List ci}(h:Runs r ds r'):Tn r L ds r' L:=h.rec (motive:=λr ds r' Z=>Tn r L ds r' L) .nil λa Z ih=>.aL a ih
section
variable{n B ldd ll:Nat}{H:Hp}{Q:PQ}{K:Out->Prop}{rest:List S}{C:Ct}{r rf:bC}{o3 o4:Option V}{ds:List ci}{vs:List V}{L Lf:List cc}{P:Nat->Prop}
noncomputable abbrev mI(B ldd ll:Nat)(o3 o4:Option V):aO:=[some (.ref (B+1)),some (.ref ldd),some (.ref ll),o3,o4]
noncomputable abbrev I2:S:=.for (.J 3) (.of (.J 1))
  [.aS (.J 4) (.aM (.call mS [.J 0,.J 3]) (.k (.int 0))),
   .bz (.and [(.cmp .eq (.J 4) (.k (.str "again"))),(.cmp .eq (.aM (.J 3) (.k (.int 0))) (.k (.str "married")))])
   [.expr (.c8 .append (.J 2) [.J 3])]
   [.bz (.cmp .ne (.J 4) (.k (.str "")))
    [.ret (.k (.bool false))]
    []]]
noncomputable abbrev I3:S:=.for (.J 3) (.of (.J 2))
  [.bz (.cmp .ne (.aM (.call mS [.J 0,.J 3]) (.k (.int 0))) (.k (.str "")))
   [.ret (.k (.bool false))]
   []]
theorem I4:PyData.strOk "again"=true:=by decide +kernel
theorem Ve:PyData.strOk "married"=true:=by decide +kernel
theorem Vf:eQ .eq (.str "") (.str "again") H=some false:=(uc Cu I4).trans (by decide +kernel)
theorem I5{s:Str}(h:PyData.strOk s=true):eQ .eq (.str s) (.str s) H=some true:=(uc h h).trans (by rw[beq_self_eq_true])
noncomputable def mJ(B ll:Nat)(H H':Hp):Prop:=∀(l:Nat) (c:aT),(l<B\/B+5<=l)->l≠ll->H[l]?=some c->H'[l]?=some c
theorem mJ.b{H H':Hp}{B ll:Nat}(x:cP B H H'):mJ B ll H H':=λl c h Z e=>x l c h e
theorem mJ.trans{H₁ H₂ H₃:Hp}{B ll:Nat}(x:mJ B ll H₁ H₂)(y:mJ B ll H₂ H₃):mJ B ll H₁ H₃:=λl c h n e=>y l c h n (x l c h n e)
theorem cD.fill{z:Nat->Prop}{m:Nat}(b:cD z B H r)(hm:z m)(hz:B+5<=m)(c:aT):cD z B (H.set m c) r:=b _ λld ep vf es a0 a1 ap am aw ad hd de dk=>by
 have ne:∀{l c'},l≠m->H[l]?=some c'->(H.set m c)[l]?=some c':=λhn h=>dQ h _ (Ne.symm hn)
 exact .mk ld ep vf es (ne (by lia) a0) (ne (by lia) a1) (ne (by lia) ap) (ne (by lia) am) (ne (by lia) aw) (ne (λe=>hd.2.1 (e▸hm)) ad) ⟨hd.1,hd.2.1,λl h=>by rw[length_set];exact hd.2.2 l h⟩ (λe he=>(de e he).k λl c' h a=>ne (λe=>h.2 (e▸hm)) a) dk
theorem cD.start{z z':Nat->Prop}{H':Hp}(b:cD z B H ⟨[],[],[]⟩)(x:aA H H')(h1:∀l,z' l->z l\/H.length<=l)(h2:∀l,z' l->l<H'.length):cD z' B H' ⟨[],[],[]⟩:=b _ λld ep vf es a0 a1 ap am aw ad hd de dk=>by
 have e:es=[]:=by
  cases es with
  |nil=>rfl
  |cons e es=>
   obtain⟨j,_,_,ej,_⟩:=de e mem_cons_self
   have z:=dk j
   rw[show ee (e::es) (j:Int)=true by unfold ee;rw[any_cons,ej,decide_eq_true rfl,Bool.true_or]] at z
   exact absurd z (by intro h;cases h)
 subst e
 have hl:=cb ad
 exact .mk ld ep vf [] (x _ _ a0) (x _ _ a1) (x _ _ ap) (x _ _ am) (x _ _ aw) (x _ _ ad) ⟨hd.1,λq=>(h1 _ q).elim hd.2.1 λh=>absurd hl (not_lt.mpr h),h2⟩ (λZ h=>(nomatch h)) dk
theorem cD.keep{z:Nat->Prop}{B':Nat}{H':Hp}(b:cD z B H r)(hB:B+5<=B'/\(∀l,B'<=l->l<B'+5->z l)\/B'+5<=B)(x:cP B' H H')(hl:H.length<=H'.length):cD z B H' r:=b _ λld ep vf es a0 a1 ap am aw ad hd de dk=>by
 have ow:∀{l c},Ow z B l->H[l]?=some c->H'[l]?=some c:=λ{l c} h a=>x l c (by
  rcases hB with hB|hB
  ·by_cases h1:l<B'
   ·exact .inl h1
   ·by_cases h2:l<B'+5
    ·exact absurd (hB.2 l (not_lt.mp h1) h2) h.2
    ·exact .inr (not_lt.mp h2)
  ·exact .inr (le_trans hB (le_trans (le_add_right _ _) h.1))) a
 have nr:∀{l c},B<=l->l<B+5->H[l]?=some c->H'[l]?=some c:=λ{l c} h1 h2 a=>x l c (by lia) a
 exact .mk ld ep vf es (nr (by lia) (by lia) a0) (nr (by lia) (by lia) a1) (nr (by lia) (by lia) ap) (nr (by lia) (by lia) am) (nr (by lia) (by lia) aw) (ow ⟨hd.1,hd.2.1⟩ ad) ⟨hd.1,hd.2.1,λl h=>lt_of_lt_of_le (hd.2.2 l h) hl⟩ (λe he=>(de e he).k λl c h a=>ow h a) dk
end
end Mine.L
namespace Mine.L
variable{Y:PQ}
open Mine.P PySem
section
variable{n B ldd ll:Nat}{H:Hp}{Q:PQ}{K:Out->Prop}{rest:List S}{C:Ct}{r rf:bC}{o3 o4:Option V}{ds:List ci}{vs:List V}{L Lf:List cc}{P:Nat->Prop}
noncomputable abbrev j2(w:cc):V:=wj w.a w.b w.day
theorem qt{op:lY}{a i:E}{ρ:aO}(h:WE C a ρ H λx H=>WE C i ρ H λy H=>aH (eQ op x y H) λt=>Q (.bool t) H):WE C (.cmp op a i) ρ H Q:=h
theorem Vg{z:Nat->Prop}(hz:z ll)(hC:C.call=az (n+71))(jr:B+5<=ll)(ad:H[ldd]?=some (.list vs))(ho:(ldd<B\/B+5<=ldd)/\ldd≠ll)(hd:bP (dv P H) ds vs)(hP:∀l,P l->(l<B\/B+5<=l)/\l≠ll)(b:cD z B H r)(al:H[ll]?=some (.list (L.map j2)))(t:Tn r L ds rf Lf)(hL:L.length+ds.length<=10000)(h:∀o3 o4 H',mJ B ll H H'->cD z B H' rf->H'[ll]?=some (.list (Lf.map j2))->aN C rest (mI B ldd ll o3 o4) H' K):aN C (I2::rest) (mI B ldd ll o3 o4) H K:=by
 refine r8 (nJ (bS (v:=.ref ldd) rfl ?_))
 refine ay (dg ad) ?_
 refine vI (R:=dv P H) (λas ρ H'=>(∃o3 o4,ρ=mI B ldd ll o3 o4)/\mJ B ll H H'/\∃rb L,cD z B H' rb/\H'[ll]?=some (.list (L.map j2))/\L.length+as.length<=10000/\Tn rb L as rf Lf) (λd v as ρ H' hv hI=>?_) (λρ H' hI=>?_) hd _ _ ⟨⟨o3,o4,rfl⟩,λZ Z Z Z e=>e,r,L,b,al,hL,t⟩
 ·obtain⟨⟨o3,o4,rfl⟩,x,rb,L,bb,al,hL,t⟩:=hI
  refine ay (a:=mI B ldd ll (some v) o4) rfl λN hN=>?_
  have I6:dv P H' d v:=hv.k λl c hp a=>⟨hp,x l c (hP l hp).1 (hP l hp).2 a⟩
  rw[length_cons] at hL
  refine fW (fD (se (bS (v:=.ref (B+1)) rfl (bS (v:=v) rfl ?_))))
  refine(?_:C.call mS [.ref (B+1),v] H' _ (xq C.exc))
  rw[hC]
  cases t with
  |aL ac t=>
   refine I0 (n:=n) bb.b ac I6 (λl hp=>(hP l hp).1) λu H2 x2 b2=>?_
   refine ct (ay (a:=V.str "") rfl (ay (a:=mI B ldd ll (some v) (some (.str ""))) rfl ?_))
   have x3:=x.trans (mJ.b x2)
   refine lM (uf (HK (qt (bS (v:=.str "") rfl (ct (ay Vf (ay (a:=false) rfl (fq rfl (ay (a:=false) rfl (fq rfl ?_))))))))))
   refine lM (ue (bS (v:=.str "") rfl (ct (ay I1 (fq rfl ?_)))))
   exact hN _ _ (cV ad (x3 _ _ ho.1 ho.2 ad)) ⟨⟨_,_,rfl⟩,x3,_,L,b2,x2 _ _ (.inr jr) al,by lia,t⟩
  |ref h1 h2 h3 h4 t=>
   cases I6
   rename_i w
   refine Vd (n:=n) bb h1 h2 h3 h4 λH2 x2=>?_
   refine ct (ay (a:=V.str "again") rfl (ay (a:=mI B ldd ll (some (j2 w)) (some (.str "again"))) rfl ?_))
   refine lM (uf (HK (qt (bS (v:=.str "again") rfl (ct (ay (I5 I4) (ay (a:=true) rfl (fV rfl (qt (fD (bS (v:=j2 w) rfl (ct (ay (a:=.str "married") rfl (ct (ay (I5 Ve) (ay (a:=true) rfl (fV rfl ?_)))))))))))))))))
   have x3:=x.trans (mJ.b (ll:=ll) x2.k)
   refine B3 (Cq (us:=L.map j2) rfl (x2 _ _ al) (bS (v:=j2 w) rfl (gc (x2 _ _ al) (by rw[length_map];lia) ?_)))
   have x4:mJ B ll H2 (H2.set ll (.list (L.map j2++[j2 w]))):=λl c Z hn e=>dQ e _ (Ne.symm hn)
   exact hN _ _ (cV ad ((x3.trans x4) _ _ ho.1 ho.2 ad)) ⟨⟨_,_,rfl⟩,x3.trans x4,rb,L++[w],(bb.ext x2).fill hz jr _,by rw[map_append];exact dZ (x2 _ _ al) _,by rw[length_append,List.length_singleton];lia,t⟩
 ·obtain⟨⟨o3,o4,rfl⟩,x,rb,L,bb,al,hL,t⟩:=hI
  cases t with
  |nil=>exact h o3 o4 H' x bb al
theorem Vh{z:Nat->Prop}(hC:C.call=az (n+71))(jr:B+5<=ll)(b:cD z B H rf)(al:H[ll]?=some (.list (Lf.map j2)))(t:Runs rf (Lf.map .cJ) r)(h:∀o3 o4 H',cP B H H'->cD z B H' r->aN C rest (mI B ldd ll o3 o4) H' K):aN C (I3::rest) (mI B ldd ll o3 o4) H K:=by
 refine r8 (nJ (bS (v:=.ref ll) rfl ?_))
 refine ay (dg al) ?_
 refine e8 (g:=j2) (λas ρ H'=>(∃o3,ρ=mI B ldd ll o3 o4)/\cP B H H'/\∃rb,cD z B H' rb/\Runs rb (as.map .cJ) r) (λw as ρ H' hI=>?_) (λρ H' hI=>?_) _ _ _ ⟨⟨o3,rfl⟩,cP.refl _ _,_,b,t⟩
 ·obtain⟨⟨o3,rfl⟩,x,rb,bb,t⟩:=hI
  refine ay (a:=mI B ldd ll (some (j2 w)) o4) rfl λN hN=>?_
  cases t with
  |cons ac t=>
   refine lM (ue (fD (se (bS (v:=.ref (B+1)) rfl (bS (v:=j2 w) rfl ?_)))))
   refine(?_:C.call mS [.ref (B+1),j2 w] H' _ (xq C.exc))
   rw[hC]
   refine I0 (P:=λZ=>False) (n:=n) bb.b ac .cJ (λl hp=>hp.elim) λu H2 x2 b2=>?_
   have x3:=x.trans x2
   exact ct (ay (a:=V.str "") rfl (ct (ay I1 (fq rfl (hN _ _ (cV al (x3 _ _ (.inr jr) al)) ⟨⟨_,rfl⟩,x3,_,b2,t⟩)))))
 ·obtain⟨⟨o3,rfl⟩,x,rb,bb,t⟩:=hI
  cases t with
  |nil=>exact h o3 o4 H' x bb
theorem I7{z:Nat->Prop}(hb:B+5<=H.length)(ad:H[ldd]?=some (.list vs))(ho:ldd<B\/B+5<=ldd)(hd:bP (dv P H) ds vs)(hP:∀l,P l->l<B\/B+5<=l)(b:cD z B H ⟨[],[],[]⟩)(t:Tn ⟨[],[],[]⟩ [] ds rf Lf)(t2:Runs rf (Lf.map .cJ) r)(hL:ds.length<=10000)(q:∀H',cP B H H'->cD (λl=>z l\/l=H.length) B H' r->Q (.bool true) H'):az (n+72) pu [.ref (B+1),.ref ldd] H Q Y:=Rl (by
 refine(?_:aN ⟨az (n+71),xq Y⟩ (.aS (.J 2) (.bX [])::I2::I3::[.ret (.k (.bool true))]) [some (.ref (B+1)),some (.ref ldd),none,none,none] H (bH Q))
 refine fW (BF (ay (a:=mI B ldd H.length none none) rfl ?_))
 have x1:=aA.aU H [.list []]
 have cU:H.length<(H++[aT.list []]).length:=by rw[length_append];exact lt_succ_self _
 refine Vg (z:=λl=>z l\/l=H.length) (.inr rfl) (n:=n) (C:=⟨az (n+71),xq Y⟩) (P:=λl=>P l/\l<H.length) (L:=[]) rfl hb (x1 _ _ ad) ⟨ho,ne_of_lt (cb ad)⟩ (hd.imp λZ Z h=>h.k λl c hp a=>⟨⟨hp,cb a⟩,x1 l c a⟩) (λl hp=>⟨hP l hp.1,ne_of_lt hp.2⟩) (b.start x1 (λl h=>h.imp id λe=>le_of_eq e.symm) λl h=>h.elim (λh=>lt_of_lt_of_le (b _ λZ Z Z Z Z Z Z Z Z Z hd Z Z=>hd.2.2 l h) x1.len) λe=>e▸cU) (bu _ _) t (by rw[length_nil,zero_add];exact hL) λo3 o4 H2 x2 b2 al=>?_
 refine Vh (z:=λl=>z l\/l=H.length) (n:=n) (C:=⟨az (n+71),xq Y⟩) rfl hb b2 al t2 λo3 o4 H3 x3 b3=>?_
 exact q H3 (λl c hl e=>x3 _ _ hl (x2 _ _ hl (ne_of_lt (cb e)) (x1 _ _ e))) b3)
end
end Mine.L
namespace Mine.L
open Mine.P PySem
noncomputable def jy:List ci->List cc:=filterMap λ| .cJ w=>some w|_=>none
noncomputable def lQ:List ci->List c6:=filterMap λ| .fO w=>some w|_=>none
noncomputable def I8(r:bC):ci->Prop
 |.bA k e=>∃p,r.ps[k]?=some p/\p.bA=some e
 |.adopt k x=>∃p,r.ps[k]?=some p/\p.ad=some x
 |.cJ _=>True
 |.fO _=>True
 |.aX _=>False
noncomputable def Part(as:List ci)(k:Nat)(p p':aE):Prop:=(p'.aX=p.aX/\p'.b6=p.b6)/\((p'.ad=none\/p'.ad=p.ad)/\(p'.bA=none\/p'.bA=p.bA))/\((∀x,ci.adopt k x∉as)->p'.ad=p.ad)/\((∀e,ci.bA k e∉as)->p'.bA=p.bA)/\(∀x,ci.adopt k x∈as->p'.ad=none)/\∀e,ci.bA k e∈as->p'.bA=none
structure cv(r:bC)(as:List ci)(q:bC)(L:List cc):Prop where
 len:q.ps.length=r.ps.length
 kN:∀(k:Nat) p,r.ps[k]?=some p->∃p',q.ps[k]?=some p'/\Part as k p p'
 ms:(q.ms++L++jy as).Perm r.ms
 ws:(q.ws++lQ as).Perm r.ws
 nd:as.Nodup
 ok:∀d∈as,I8 r d
section
variable{r q:bC}{as:List ci}{L:List cc}
theorem cv.mem(h:cv r as q L){w:cc}(hw:w∈q.ms++L++jy as):w∈r.ms:=h.ms.mem_iff.mp hw
theorem cv.Cv(h:cv r as q L){w:c6}(hw:w∈q.ws++lQ as):w∈r.ws:=h.ws.mem_iff.mp hw
theorem cv.at'(h:cv r as q L){k:Nat}{p':aE}(hp:q.ps[k]?=some p'):∃p,r.ps[k]?=some p/\Part as k p p':=by
 obtain⟨p,e⟩:=at_of (show k<r.ps.length from h.len▸(List.getElem?_eq_some_iff.mp hp).1)
 obtain⟨p2,e2,z⟩:=h.kN k p e
 rw[hp] at e2;cases e2
 exact⟨p,e,z⟩
theorem cv.old(h:cv r as q L){b:Int}{j:Nat}(o:gG r.ps b j):gG q.ps b j:=o.elim λz hz=>(h.kN j z hz.1).elim λp' hp=>⟨p',hp.1,by rw[hp.2.1.1];exact hz.2⟩
theorem cv.wf(h:cv r as q L)(wf:dE r.ps):dE q.ps:=λk p' hp=>by
 obtain⟨p,e,z⟩:=h.at' hp
 exact(wf k p e) _ λa b c d e0=>.mk (by rw[z.1.2,z.1.1];exact λj hj=>h.old (a j hj)) (λx hx j hj=>by rw[z.1.1];rcases z.2.1.1 with e3|e3<;>rw[e3] at hx<;>first|cases hx|exact h.old (b x hx j hj)) (z.1.2▸c) (λx hx=>by rcases z.2.1.1 with e3|e3<;>rw[e3] at hx<;>first|cases hx|exact d x hx) (z.1.1▸e0)
theorem cv.wm(h:cv r as q L)(ok:dA r):dA q:=ok _ λwf len cJ cC=>.mk (h.wf wf) (h.len▸len) (λw hw=>h.len▸cJ w (h.mem (mem_append.mpr (.inl (mem_append.mpr (.inl hw)))))) λw hw=>h.len▸cC w (h.Cv (mem_append.mpr (.inl hw)))
end
section
variable{r q:bC}{as:List ci}{L:List cc}{k:Nat}{p p':aE}
theorem yR{d:Int}(h:0<=d/\d<=100000):wh (.int d) 0 100000=true:=and_eq_true_iff.mpr ⟨decide_eq_true h.1,decide_eq_true h.2⟩
theorem Vi{d:Int}(z:Part as k p p')(h:dK p d=true):dK p' d=true:=by
 unfold dK at h ⊢
 obtain⟨h1,h2⟩:=and_eq_true_iff.mp h
 refine and_eq_true_iff.mpr ⟨by rw[z.1.1];exact h1,?_⟩
 rcases z.2.1.2 with e|e<;>rw[e]
 ·rfl
 ·exact h2
theorem cv.lv(h:cv r as q L){d:Int}(hl:lv r.ps d k=true):Mine.L.lv q.ps d k=true:=by
 cases e:r.ps[k]? with
 |none=>unfold Mine.L.lv at hl;rw[e] at hl;cases hl
 |some p=>
  obtain⟨p',e',z⟩:=h.kN k p e
  rw[gR e] at hl
  rw[gR e'];exact Vi z hl
theorem Cw{d e:Int}(h:dK p d=true)(hd:p.bA=some e):d<e:=by
 unfold dK at h
 rw[hd] at h
 exact of_decide_eq_true (and_eq_true_iff.mp h).2
theorem cv.kK(h:cv r as q L){w:cc}(hw:yM r.ps w)(i7:w.a<r.ps.length/\w.b<r.ps.length):Mine.L.kK q (nv w.a) (nv w.b) (.int w.day)=if q.ms.all (clear q.ps w) then none else some 5:=by
 unfold Mine.L.kK
 rw[if_pos (and_eq_true_iff.mpr ⟨sj (h.len▸i7.1),sj (h.len▸i7.2)⟩),if_pos (yR ⟨hw.2.2.2.1,hw.2.2.2.2⟩)]
 refine(?_:nM q w=_)
 unfold nM
 rw[if_neg]
 rw[h.lv hw.2.1,h.lv hw.2.2.1,show((w.a:Int)==(w.b:Int))=false from beq_eq_false_iff_ne.mpr λe=>hw.1 (ofNat.inj e)]
 exact Bool.false_ne_true
end
section
variable{ps:List aE}
theorem I9{ks:List Nat}(h:∀k∈ks,k<ps.length):ql ps (aW ks)=true:=all_eq_true.mpr λv hv=>(mem_map.mp hv).elim λk hk=>hk.2▸sj (h k hk.1)
theorem Ja{ks:List Nat}{d:Int}(h2:ic ks)(h:∀k∈ks,gG ps d k):fN ps ks d=false:=by
 unfold fN
 rw[decide_eq_false (not_lt.mpr h2.1),decide_eq_false (λhn=>hn h2.2)]
 refine any_eq_false.mpr λk hk=>?_
 obtain⟨q,hq,cU⟩:=h k hk
 unfold qm
 rw[hq,decide_eq_true_eq]
 exact not_le.mpr cU
end
section
variable{r q:bC}{as:List ci}{L:List cc}{k:Nat}{p p':aE}{e:Int}
theorem Cy{α:Type}{a b c:List α}{x:α}(h:x∈a):x∈a++b++c:=mem_append.mpr (.inl (mem_append.mpr (.inl h)))
theorem cv.outD(h:cv r as q L)(wf:dE r.ps)(rr:gU r)(hp:r.ps[k]?=some p)(he:p.bA=some e)(cB:q.ps[k]?=some p')(z:Part as k p p')(hn:p'.bA=none):Mine.L.outD q (nv k) (.int e)=none:=by
 have rk:=rr.1 k p hp
 have z0:0<=p.aX:=(wf k p hp) _ λZ Z Z Z z=>z
 have d0:=rk.2.2.1 e he
 unfold Mine.L.outD
 rw[if_pos (sj (List.getElem?_eq_some_iff.mp cB).1),if_pos (yR ⟨by lia,d0.2⟩),show natOf (nv k)=k from rfl,cB]
 refine(?_:lO q p' k e=none)
 unfold lO
 rw[hn]
 refine(if_neg (show ¬(none:Option Int).isSome=true from Bool.false_ne_true)).trans (if_neg λhl=>?_)
 unfold qs at hl
 rcases or_eq_true_iff.mp hl with hl|hl
 ·rcases or_eq_true_iff.mp hl with hl|hl
  ·have:=of_decide_eq_true hl;rw[z.1.1] at this;lia
  ·unfold sy at hl
   rcases z.2.1.1 with e1|e1<;>rw[e1] at hl
   ·cases hl
   ·cases ha:p.ad with
    |none=>rw[ha] at hl;cases hl
    |some x=>
     rw[ha] at hl
     have:=of_decide_eq_true (show decide (e<=x.1)=true from hl)
     have:=(rk.2.2.2 x ha).2.2.1 e he
     lia
 ·rcases or_eq_true_iff.mp hl with hl|hl
  ·obtain⟨w,hw,hh⟩:=any_eq_true.mp hl
   obtain⟨h1,h2⟩:=and_eq_true_iff.mp (show(((w.cT:Int)==(k:Int))&&decide (e<w.day))=true from hh)
   have hk:w.cT=k:=ofNat.inj (eq_of_beq h1)
   obtain⟨p2,ja,_,_,h5⟩:=rr.2.2 w (h.Cv (mem_append.mpr (.inl hw)))
   rw[hk,hp] at ja;cases ja
   have:=of_decide_eq_true h2
   have:=h5 e he
   lia
  ·obtain⟨w,hw,hh⟩:=any_eq_true.mp hl
   obtain⟨h1,h2⟩:=and_eq_true_iff.mp (show((((w.a:Int)==(k:Int))||(((w.b:Int)==(k:Int))||false))&&decide (e<=w.day))=true from hh)
   have g:=rr.2.1.1 w (h.mem (Cy hw))
   have h2:=of_decide_eq_true h2
   rw[Bool.or_false] at h1
   rcases or_eq_true_iff.mp h1 with h1|h1
   ·have hk:w.a=k:=ofNat.inj (eq_of_beq h1)
    have gl:=g.2.1
    rw[hk,gR hp] at gl
    exact absurd (Cw gl he) (Int.not_lt.mpr h2)
   ·have hk:w.b=k:=ofNat.inj (eq_of_beq h1)
    have gl:=g.2.2.1
    rw[hk,gR hp] at gl
    exact absurd (Cw gl he) (Int.not_lt.mpr h2)
theorem cv.lN(h:cv r as q L)(wf:dE r.ps)(rr:gU r){x:Int×List Nat}(hp:r.ps[k]?=some p)(hx:p.ad=some x)(cB:q.ps[k]?=some p')(z:Part as k p p')(hn:p'.ad=none):Mine.L.lN q.ps (nv k) (.int x.1) (aW x.2)=none:=by
 obtain⟨r1,r2,r3,r4⟩:=(rr.1 k p hp).2.2.2 x hx
 have z0:0<=p.aX:=(wf k p hp) _ λZ Z Z Z z=>z
 have h2:ic x.2:=(wf k p hp) _ λZ Z Z d Z=>d x hx
 have old:∀j∈x.2,gG q.ps p.aX j:=(wf k p hp) _ λZ b Z Z Z=>λj hj=>h.old (b x hx j hj)
 unfold Mine.L.lN
 rw[if_pos (and_eq_true_iff.mpr ⟨sj (List.getElem?_eq_some_iff.mp cB).1,I9 λj hj=>(old j hj).elim λz hz=>(List.getElem?_eq_some_iff.mp hz.1).1⟩),if_pos (yR ⟨by lia,r2⟩),show natOf (nv k)=k from rfl,cB,sD]
 refine(?_:mF q.ps p' x.2 x.1=none)
 unfold mF
 rw[if_neg,if_neg,if_neg]
 ·rw[hn];exact Bool.false_ne_true
 ·rw[z.1.1,show fN q.ps x.2 p.aX=false from Ja h2 old,Bool.or_false]
  exact λhh=>r4 (isEmpty_iff.mp hh)
 ·unfold qp
  rw[z.1.1,decide_eq_false (Int.not_lt.mpr r1),Bool.false_or]
  rcases z.2.1.2 with e1|e1<;>rw[e1]
  ·exact Bool.false_ne_true
  ·cases ng:p.bA with
   |none=>exact Bool.false_ne_true
   |some e=>exact λhh=>absurd (r3 e ng) (Int.not_lt.mpr (of_decide_eq_true hh))
end
section
variable{r q:bC}{as:List ci}{L:List cc}{k:Nat}{p p':aE}{e:Int}{d:ci}
theorem Part.tail(z:Part (d::as) k p p')(h1:∀x,d≠.adopt k x)(h2:∀e,d≠.bA k e):Part as k p p':=⟨z.1,z.2.1,λh=>z.2.2.1 λx hm=>(mem_cons.mp hm).elim (λe=>h1 x e.symm) (h x),λh=>z.2.2.2.1 λe hm=>(mem_cons.mp hm).elim (λq=>h2 e q.symm) (h e),λx hm=>z.2.2.2.2.1 x (.tail _ hm),λe hm=>z.2.2.2.2.2 e (.tail _ hm)⟩
theorem Jb{ps:List aE}{j:Nat}{a b:aE}(h:ps[k]?=some a)(hj:j≠k):(ps.set k b)[j]?=ps[j]?:=getElem?_set_ne (Ne.symm hj)
theorem Jc{ps:List aE}{a b:aE}(h:ps[k]?=some a):(ps.set k b)[k]?=some b:=getElem?_set_self (List.getElem?_eq_some_iff.mp h).1
theorem cv.bA(h:cv r (.bA k e::as) q L)(hp:r.ps[k]?=some p)(he:p.bA=some e)(cB:q.ps[k]?=some p')(z:Part (.bA k e::as) k p p'):cv r as ⟨q.ps.set k (mG p' e),q.ms,q.ws⟩ L:=by
 have nd:=nodup_cons.mp h.nd
 refine⟨length_set.trans h.len,λj p0 hj=>?_,h.ms,h.ws,nd.2,λd hd=>h.ok d (.tail _ hd)⟩
 by_cases ej:j=k
 ·subst ej
  rw[hp] at hj;cases hj
  refine⟨_,Jc cB,z.1,⟨z.2.1.1,.inr he.symm⟩,λhh=>z.2.2.1 λx hm=>(mem_cons.mp hm).elim (λq=>nomatch q) (hh x),λZ=>he.symm,λx hm=>z.2.2.2.2.1 x (.tail _ hm),λe' hm=>?_⟩
  obtain⟨p2,ja,rW⟩:=h.ok _ (.tail _ hm)
  rw[hp] at ja;cases ja
  rw[he] at rW;cases rW
  exact absurd hm nd.1
 ·obtain⟨p2,ja,z2⟩:=h.kN j p0 hj
  exact⟨p2,(Jb cB ej).trans ja,z2.tail (λx q=>nomatch q) λe' q=>ej (by cases q;rfl)⟩
theorem cv.adopt{x:Int×List Nat}(h:cv r (.adopt k x::as) q L)(hp:r.ps[k]?=some p)(hx:p.ad=some x)(cB:q.ps[k]?=some p')(z:Part (.adopt k x::as) k p p'):cv r as ⟨q.ps.set k (jx p' x.1 x.2),q.ms,q.ws⟩ L:=by
 have nd:=nodup_cons.mp h.nd
 refine⟨length_set.trans h.len,λj p0 hj=>?_,h.ms,h.ws,nd.2,λd hd=>h.ok d (.tail _ hd)⟩
 by_cases ej:j=k
 ·subst ej
  rw[hp] at hj;cases hj
  refine⟨_,Jc cB,z.1,⟨.inr hx.symm,z.2.1.2⟩,λZ=>hx.symm,λhh=>z.2.2.2.1 λx hm=>(mem_cons.mp hm).elim (λq=>nomatch q) (hh x),λx' hm=>?_,λe' hm=>z.2.2.2.2.2 e' (.tail _ hm)⟩
  obtain⟨p2,ja,rW⟩:=h.ok _ (.tail _ hm)
  rw[hp] at ja;cases ja
  rw[hx] at rW;cases rW
  exact absurd hm nd.1
 ·obtain⟨p2,ja,z2⟩:=h.kN j p0 hj
  exact⟨p2,(Jb cB ej).trans ja,z2.tail (λx q=>ej (by cases q;rfl)) λe' q=>nomatch q⟩
theorem cv.cJ{w:cc}(h:cv r (.cJ w::as) q L):cv r as ⟨q.ps,q.ms++[w],q.ws⟩ L:=by
 refine⟨h.len,λj p0 hj=>(h.kN j p0 hj).imp λp2 z=>⟨z.1,z.2.tail (λx q=>nomatch q) λe q=>nomatch q⟩,?_,h.ws,(nodup_cons.mp h.nd).2,λd hd=>h.ok d (.tail _ hd)⟩
 refine Perm.trans ?_ (show(q.ms++L++(w::jy as)).Perm r.ms from h.ms)
 refine(?_:(q.ms++[w]++L++jy as).Perm _)
 rw[append_assoc,append_assoc,append_assoc]
 exact Perm.append_left _ (show(w::(L++jy as)).Perm (L++w::jy as) from List.perm_middle.symm)
theorem cv.keep{w:cc}(h:cv r (.cJ w::as) q L):cv r as q (L++[w]):=by
 refine⟨h.len,λj p0 hj=>(h.kN j p0 hj).imp λp2 z=>⟨z.1,z.2.tail (λx q=>nomatch q) λe q=>nomatch q⟩,?_,h.ws,(nodup_cons.mp h.nd).2,λd hd=>h.ok d (.tail _ hd)⟩
 have m:(q.ms++L++(w::jy as)).Perm r.ms:=h.ms
 rw[<-append_assoc,append_assoc]
 exact m
theorem cv.fO{w:c6}(h:cv r (.fO w::as) q L):cv r as ⟨q.ps,q.ms,q.ws++[w]⟩ L:=by
 refine⟨h.len,λj p0 hj=>(h.kN j p0 hj).imp λp2 z=>⟨z.1,z.2.tail (λx q=>nomatch q) λe q=>nomatch q⟩,h.ms,?_,(nodup_cons.mp h.nd).2,λd hd=>h.ok d (.tail _ hd)⟩
 have m:(q.ws++(w::lQ as)).Perm r.ws:=h.ws
 refine(?_:((q.ws++[w])++lQ as).Perm r.ws)
 rw[append_assoc]
 exact m
end
section
variable{r q:bC}{L:List cc}
theorem cv.wo{as:List ci}(h:cv r as q L)(hl:r.ps.length<=60/\r.ms.length<=1000/\r.ws.length<=1000):q.ps.length<=60/\q.ms.length<=1000/\q.ws.length<=1000:=by
 have a:=h.ms.length_eq
 have b:=h.ws.length_eq
 rw[length_append,length_append] at a
 rw[length_append] at b
 exact⟨h.len▸hl.1,by lia,by lia⟩
theorem cv.mC{as:List ci}(h:cv r as q L)(ok:dA r)(rr:gU r):sC q:=ok _ λZ Z cJ Z=>⟨λw hw=>h.len▸cJ w (h.mem (Cy hw)),λw hw=>(rr.2.1.1 w (h.mem (Cy hw))).2.2.2.2⟩
theorem cv.tn(ok:dA r)(rr:gU r)(hl:r.ps.length<=60/\r.ms.length<=1000/\r.ws.length<=1000):∀(as:List ci) (q:bC) (L:List cc),cv r as q L->∃rf Lf,Tn q L as rf Lf/\cv r [] rf Lf
 |[],q,L,h=>⟨q,L,.nil,h⟩
 |.aX p::as,q,L,h=>(h.ok _ mem_cons_self).elim
 |.bA k e::as,q,L,h=>ok _ λwf Z Z Z=>by
  obtain⟨p,hp,he⟩:=h.ok _ mem_cons_self
  obtain⟨p',cB,z⟩:=h.kN k p hp
  have s:=h.bA hp he cB z
  obtain⟨rf,Lf,t,f⟩:=cv.tn ok rr hl as _ L s
  exact⟨rf,Lf,.aL (.bA cB (h.outD wf rr hp he cB z (z.2.2.2.2.2 e mem_cons_self)) (h.wo hl).1 (s.wm ok)) t,f⟩
 |.adopt k x::as,q,L,h=>ok _ λwf Z Z Z=>by
  obtain⟨p,hp,hx⟩:=h.ok _ mem_cons_self
  obtain⟨p',cB,z⟩:=h.kN k p hp
  have s:=h.adopt hp hx cB z
  have h2:ic x.2:=(wf k p hp) _ λZ Z Z d Z=>d x hx
  obtain⟨rf,Lf,t,f⟩:=cv.tn ok rr hl as _ L s
  exact⟨rf,Lf,.aL (.adopt (h.lN wf rr hp hx cB z (z.2.2.2.2.1 x mem_cons_self)) cB h2.1 (h.wo hl).1 (.inr (s.wm ok))) t,f⟩
 |.cJ w::as,q,L,h=>ok _ λwf Z cJ Z=>by
  have hw:w∈r.ms:=h.mem (mem_append.mpr (.inr (show w∈w::jy as from mem_cons_self)))
  have o:=h.kK (rr.2.1.1 w hw) (cJ w hw)
  have ln:=h.wo hl
  cases c:q.ms.all (clear q.ps w) with
  |true=>
   rw[c,if_pos rfl] at o
   obtain⟨rf,Lf,t,f⟩:=cv.tn ok rr hl as _ L h.cJ
   exact⟨rf,Lf,.aL (.cJ ln.1 (h.mC ok rr) ln.2.1 o (h.cJ.wm ok)) t,f⟩
  |false=>
   rw[c,if_neg Bool.false_ne_true] at o
   obtain⟨rf,Lf,t,f⟩:=cv.tn ok rr hl as _ _ h.keep
   exact⟨rf,Lf,.ref ln.1 (h.mC ok rr) ln.2.1 o t,f⟩
 |.fO w::as,q,L,h=>ok _ λwf Z Z cC=>by
  have hw:w∈r.ws:=h.Cv (mem_append.mpr (.inr (show w∈w::lQ as from mem_cons_self)))
  have ln:=h.wo hl
  obtain⟨p,hp,h1,h2,h3⟩:=rr.2.2 w hw
  obtain⟨p',cB,z⟩:=h.kN _ p hp
  obtain⟨rf,Lf,t,f⟩:=cv.tn ok rr hl as _ L h.fO
  exact⟨rf,Lf,.aL (.fO ln.1 ln.2.2 (h.len▸cC w hw) ⟨p',cB,z.1.1▸h1,h2,λd hd=>by rcases z.2.1.2 with e|e<;>rw[e] at hd<;>first|cases hd|exact h3 d hd⟩ (h.fO.wm ok)) t,f⟩
end
section
variable{r q:bC}{L:List cc}
theorem cv.fin(h:cv r [] q L):q.ps=r.ps:=ext_getElem? λk=>by
 cases e:r.ps[k]? with
 |none=>exact List.getElem?_eq_none_iff.mpr (h.len▸List.getElem?_eq_none_iff.mp e)
 |some p=>
  obtain⟨p',hp,z⟩:=h.kN k p e
  rw[hp]
  have e1:=z.2.2.1 λx hm=>nomatch hm
  have e2:=z.2.2.2.1 λx hm=>nomatch hm
  obtain⟨b,pr,a,d⟩:=p'
  obtain⟨b',Vj,a',d'⟩:=p
  have e3:b=b':=z.1.1
  have e4:pr=Vj:=z.1.2
  have e1:a=a':=e1
  have e2:d=d':=e2
  rw[e1,e2,e3,e4]
theorem Vk(w u:cc):iO w u=iO u w:=by
 unfold iO
 rw[Bool.or_false,Bool.or_false,Bool.or_false,Bool.or_false,BEq.comm (a:=(u.a:Int)) (b:=(w.a:Int)),BEq.comm (a:=(u.b:Int)) (b:=(w.a:Int)),BEq.comm (a:=(u.a:Int)) (b:=(w.b:Int)),BEq.comm (a:=(u.b:Int)) (b:=(w.b:Int))]
 cases((w.a:Int)==(u.a:Int))<;>cases((w.a:Int)==(u.b:Int))<;>cases((w.b:Int)==(u.a:Int))<;>cases((w.b:Int)==(u.b:Int))<;>rfl
theorem Vl(ps:List aE)(w u:cc):clear ps w u=clear ps u w:=by
 unfold clear
 rw[Vk]
 refine congrArg (λx=>!(iO u w&&x)) ?_
 unfold vV
 exact Bool.and_comm _ _
theorem cv.clear(h:cv r [] q L)(rr:gU r):(q.ms++L).Pairwise λu w=>Mine.L.clear r.ps w u=true:=by
 have m:(q.ms++L++[]).Perm r.ms:=h.ms
 rw[append_nil] at m
 exact(m.pairwise_iff λ{a b} (i7:Mine.L.clear r.ps b a=true)=>(Vl r.ps a b).trans i7).mpr rr.2.1.2
theorem cv.runs(ok:dA r)(rr:gU r)(hl:r.ps.length<=60/\r.ms.length<=1000/\r.ws.length<=1000):∀(L:List cc) (q:bC),cv r [] q L->Runs q (L.map .cJ) ⟨q.ps,q.ms++L,q.ws⟩
 |[],q,h=>by rw[append_nil];exact .nil
 |w::L,q,h=>ok _ λwf Z cJ Z=>by
  have hw:w∈r.ms:=h.mem (mem_append.mpr (.inl (mem_append.mpr (.inr mem_cons_self))))
  have o:=h.kK (rr.2.1.1 w hw) (cJ w hw)
  have ln:=h.wo hl
  have cl:=(List.pairwise_append.mp (h.clear rr)).2.2
  rw[if_pos (all_eq_true.mpr λu hu=>by rw[h.fin];exact cl u hu w mem_cons_self)] at o
  have s:cv r [] ⟨q.ps,q.ms++[w],q.ws⟩ L:=⟨h.len,h.kN,by
   have m:(q.ms++(w::L)++[]).Perm r.ms:=h.ms
   refine(?_:(q.ms++[w]++L++[]).Perm r.ms)
   rw[append_assoc q.ms];exact m,h.ws,h.nd,h.ok⟩
  have t:=cv.runs ok rr hl L _ s
  rw[show(bC.mk q.ps (q.ms++[w]++L) q.ws)=⟨q.ps,q.ms++w::L,q.ws⟩ by rw[append_assoc];rfl] at t
  exact .cons (.cJ ln.1 (h.mC ok rr) ln.2.1 o (s.wm ok)) t
end
section
variable{r:bC}{ps:List aE}
theorem Tn.aU{r r' lP:bC}{L L' L'':List cc}{ds es:List ci}(h:Tn r L ds r' L')(h':Tn r' L' es lP L''):Tn r L (ds++es) lP L'':=h.rec (motive:=λr L ds r' L' Z=>Tn r' L' es lP L''->Tn r L (ds++es) lP L'') (λh=>h) (λa Z ih h=>.aL a (ih h)) (λh1 h2 h3 h4 Z ih h=>.ref h1 h2 h3 h4 (ih h)) h'
theorem Vm(h:∀p∈ps,p.bA=none):cY ps=[]:=List.filter_eq_nil_iff.mpr λk hk=>by
 obtain⟨p,hp⟩:=at_of (mem_range.mp hk)
 unfold eW
 rw[hp]
 refine(?_:¬p.bA.isSome=true)
 rw[h p (mem_of_getElem? hp)]
 exact Bool.false_ne_true
theorem Cz(wf:dE ps)(rp:nH ps)(hl:ps.length<=60):∀(as an:List aE),an++as=ps->Runs ⟨an.map kM,[],[]⟩ (as.map .aX) ⟨ps.map kM,[],[]⟩
 |[],an,e=>by rw[append_nil] at e;rw[e];exact .nil
 |p::as,an,e=>by
  have hp:ps[an.length]?=some p:=by rw[<-e,getElem?_append_right (le_refl _),sub_self];rfl
  have rk:=rp an.length p hp
  have h1:∀j∈p.b6,j<an.length/\gG ps p.aX j:=λj hj=>⟨rk.1 j hj,(wf _ p hp) _ λa Z Z Z Z=>a j hj⟩
  have h2:ic p.b6:=(wf _ p hp) _ λZ Z c Z Z=>c
  have h3:0<=p.aX:=(wf _ p hp) _ λZ Z Z Z e=>e
  have e':(an++[p])++as=ps:=by rw[append_assoc];exact e
  have eU:(an.map kM).length=an.length:=length_map _
  have cU:an.length<60:=lt_of_lt_of_le (List.getElem?_eq_some_iff.mp hp).1 hl
  have old:∀j∈p.b6,gG (an.map kM) p.aX j:=λj hj=>(h1 j hj).2.elim λq hq=>⟨kM q,by
   rw[getElem?_map]
   have:=hq.1
   rw[<-e,getElem?_append_left (h1 j hj).1] at this
   rw[this];rfl,hq.2⟩
  have ob:oS (an.map kM) (.int p.aX) (aW p.b6)=none:=by
   unfold oS
   rw[if_pos (I9 λk hk=>by rw[eU];exact(h1 k hk).1),if_pos (yR ⟨h3,Int.le_trans rk.2.1 (by decide)⟩),sD,if_neg (by rw[show fN (an.map kM) p.b6 (gr (.int p.aX))=false from Ja h2 old];decide),if_neg (by rw[eU];exact Nat.not_le.mpr cU)]
  have z:=Cz wf rp hl as (an++[p]) e'
  rw[map_append] at z
  refine .cons (.aX ob h2.1 (by rw[eU];exact le_of_lt cU) (.inl (Vm λq hq=>?_))) z
  rcases mem_append.mp hq with hq|hq
  ·obtain⟨x,_,rfl⟩:=mem_map.mp hq;rfl
  ·rw[mem_singleton.mp hq]
theorem Jd(ok:dA r)(rr:gU r)(hl:r.ps.length<=60)(hw:r.ws.length<=1000):∀(as an:List c6),an++as=r.ws->Runs ⟨r.ps,r.ms,an⟩ (as.map .fO) r
 |[],an,e=>by rw[append_nil] at e;rw[e];exact .nil
 |w::as,an,e=>ok _ λwf len cJ cC=>by
  have hm:w∈r.ws:=e▸mem_append.mpr (.inr mem_cons_self)
  have e':(an++[w])++as=r.ws:=by rw[append_assoc];exact e
  exact .cons (.fO hl (le_trans (by rw[<-e,length_append];exact le_add_right _ _) hw) (cC w hm) (rr.2.2 w hm) (.mk wf len cJ λu hu=>cC u (e'▸mem_append.mpr (.inl hu)))) (Jd ok rr hl hw as (an++[w]) e')
noncomputable def gV(r:bC):List ci:=mH r.ps++(j1 r.ps (List.range r.ps.length)++(r.ms.map .cJ++r.ws.map .fO))
theorem wq:kL r=r.ps.map .aX++gV r:=by
 unfold kL gV
 rw[append_assoc,append_assoc,append_assoc]
theorem Vn{k:Nat}{e:Int}(h:ci.bA k e∈mH ps):∃p,ps[k]?=some p/\p.bA=some e:=by
 obtain⟨j,hj,q⟩:=mem_map.mp h
 obtain⟨p,d,hp,hd⟩:=HV hj
 injection q with q1 q2
 subst q1
 exact⟨p,hp,by rw[<-q2];unfold cH;rw[hp];refine(?_:p.bA=some (p.bA.getD 0));rw[hd];rfl⟩
theorem Vo{k:Nat}{e:Int}{p:aE}(hp:ps[k]?=some p)(h:p.bA=some e):ci.bA k e∈mH ps:=by
 refine mem_map.mpr ⟨k,mem_filter.mpr ⟨mem_range.mpr (List.getElem?_eq_some_iff.mp hp).1,?_⟩,?_⟩
 ·unfold eW;rw[hp];refine(?_:p.bA.isSome=true);rw[h];rfl
 ·unfold cH;rw[hp];refine(?_:ci.bA k (p.bA.getD 0)=_);rw[h];rfl
theorem wu{d:ci}{js:List Nat}(h:d∈j1 ps js):∃k x p,d=.adopt k x/\ps[k]?=some p/\p.ad=some x:=by
 obtain⟨k,hk,e⟩:=List.mem_filterMap.mp h
 cases hp:ps[k]? with
 |none=>rw[hp] at e;cases e
 |some p=>
  rw[hp] at e
  have e:p.ad.map (λx=>ci.adopt k x)=some d:=e
  cases hx:p.ad with
  |none=>rw[hx] at e;cases e
  |some x=>rw[hx] at e;exact⟨k,x,p,(Option.some.inj e).symm,hp,hx⟩
theorem Vp{k:Nat}{x:Int×List Nat}{p:aE}(hp:ps[k]?=some p)(h:p.ad=some x):ci.adopt k x∈j1 ps (List.range ps.length):=
 List.mem_filterMap.mpr ⟨k,mem_range.mpr (List.getElem?_eq_some_iff.mp hp).1,by rw[hp];refine(?_:p.ad.map (λx=>ci.adopt k x)=_);rw[h];rfl⟩
theorem CA{ds:List ci}(h:∀d∈ds,∀w,d≠.cJ w):jy ds=[]:=List.filterMap_eq_nil_iff.mpr λd hd=>by
 cases d with
 |cJ w=>exact absurd rfl (h _ hd w)
 |_=>rfl
theorem CB{ds:List ci}(h:∀d∈ds,∀w,d≠.fO w):lQ ds=[]:=List.filterMap_eq_nil_iff.mpr λd hd=>by
 cases d with
 |fO w=>exact absurd rfl (h _ hd w)
 |_=>rfl
theorem Je:∀ms:List cc,jy (ms.map .cJ)=ms
 |[]=>rfl
 |w::ms=>congrArg (w::·) (Je ms)
theorem Jf:∀ws:List c6,lQ (ws.map .fO)=ws
 |[]=>rfl
 |w::ws=>congrArg (w::·) (Jf ws)
theorem yS{d:ci}(h:d∈mH ps):∃k e,d=.bA k e:=(mem_map.mp h).elim λk hk=>⟨k,_,hk.2.symm⟩
theorem Vq:jy (gV r)=r.ms:=by
 unfold gV
 have a:∀x y:List ci,jy (x++y)=jy x++jy y:=λx y=>List.filterMap_append
 rw[a,a,a,CA,CA,Je,CA,append_nil];rfl
 ·intro d hd w e;obtain⟨u,_,q⟩:=mem_map.mp hd;rw[e] at q;cases q
 ·intro d hd w e;obtain⟨k,x,p,q,_⟩:=wu hd;rw[e] at q;cases q
 ·intro d hd w e;obtain⟨k,x,q⟩:=yS hd;rw[e] at q;cases q
theorem Vr:lQ (gV r)=r.ws:=by
 unfold gV
 have a:∀x y:List ci,lQ (x++y)=lQ x++lQ y:=λx y=>List.filterMap_append
 rw[a,a,a,CB,CB,CB,Jf];rfl
 ·intro d hd w e;obtain⟨u,_,q⟩:=mem_map.mp hd;rw[e] at q;cases q
 ·intro d hd w e;obtain⟨k,x,p,q,_⟩:=wu hd;rw[e] at q;cases q
 ·intro d hd w e;obtain⟨k,x,q⟩:=yS hd;rw[e] at q;cases q
theorem Vs:∀d∈gV r,I8 r d:=λd hd=>by
 rcases mem_append.mp hd with h|h
 ·obtain⟨k,e,rfl⟩:=yS h
  exact Vn h
 ·rcases mem_append.mp h with h|h
  ·obtain⟨k,x,p,rfl,hp,hx⟩:=wu h
   exact⟨p,hp,hx⟩
  ·rcases mem_append.mp h with h|h
   ·obtain⟨w,_,rfl⟩:=mem_map.mp h;trivial
   ·obtain⟨w,_,rfl⟩:=mem_map.mp h;trivial
end
section
variable{r:bC}{ps:List aE}{d:Int}{k:Nat}{w u:cc}
theorem CC{D:Int}{a b:Option Int}(hD:d<D)(ha:∀e,a=some e->d<e)(hb:∀e,b=some e->d<e):d<gT D a b:=by
 cases a with
 |none=>cases b with
  |none=>exact hD
  |some y=>exact hb y rfl
 |some x=>cases b with
  |none=>exact ha x rfl
  |some y=>exact Int.lt_min.mpr ⟨ha x rfl,hb y rfl⟩
theorem uo(h:lv ps d k=true):∀e,cH ps k=some e->d<e:=λe he=>by
 unfold cH at he
 cases hp:ps[k]? with
 |none=>rw[hp] at he;cases he
 |some p=>
  rw[hp] at he
  rw[gR hp] at h
  exact Cw h he
theorem Jg(g:yM ps w):w.day<gT (10^9) (cH ps w.a) (cH ps w.b):=CC (Int.lt_of_le_of_lt g.2.2.2.2 (by decide)) (uo g.2.1) (uo g.2.2.1)
theorem Jh(t:iO w u=true)(h1:u.day<gT (10^9) (cH ps w.a) (cH ps w.b))(h2:w.day<gT (10^9) (cH ps u.a) (cH ps u.b)):¬clear ps w u=true:=by
 unfold clear vV
 rw[t,show decide (gT (10^9) (cH ps w.a) (cH ps w.b)>u.day)=true from decide_eq_true h1,show decide (gT (10^9) (cH ps u.a) (cH ps u.b)>w.day)=true from decide_eq_true h2]
 exact Bool.false_ne_true
theorem Ji(rr:gU r):r.ms.Nodup:=rr.2.1.2.imp_of_mem λ{u w} hu hw h e=>by
 subst e
 have g:=rr.2.1.1 u hu
 exact Jh (by unfold iO;rw[beq_self_eq_true,Bool.true_or,Bool.true_or]) (Jg g) (Jg g) h
noncomputable def jc(u w:c6):Prop:=¬(u.cT=w.cT/\u.day=w.day)
theorem Vt{ws:List c6}(h:ws.Pairwise jc):ws.Nodup:=h.imp λ{u w} (h:jc u w) (e:u=w)=>h (by rw[e];exact⟨rfl,rfl⟩)
theorem Vu(rr:gU r)(hw:r.ws.Pairwise jc):(gV r).Nodup:=by
 have inj:∀{α:Type} {f:α->ci} {l:List α},l.Nodup->(∀a b,f a=f b->a=b)->(l.map f).Nodup:=λh q=>Pairwise.map _ (λa b h e=>h (q a b e)) h
 unfold gV
 refine nodup_append.mpr ⟨inj (Pairwise.filter _ nodup_range) λa b e=>by injection e,nodup_append.mpr ⟨?_,nodup_append.mpr ⟨inj (Ji rr) λa b e=>by injection e,inj (Vt hw) λa b e=>by injection e,λa ha b hb e=>?_⟩,λa ha b hb e=>?_⟩,λa ha b hb e=>?_⟩
 ·unfold j1
  refine Pairwise.filterMap (R:=(·≠·)) _ (λa a' h b hb b' kH (e:b=b')=>h ?_) nodup_range
  have key:∀{a:Nat} {b:ci},((r.ps[a]?).bind λp=>p.ad.map λx=>ci.adopt a x)=some b->∃x,b=.adopt a x:=λ{a b} h=>by
   obtain⟨p,_,h⟩:=Option.bind_eq_some_iff.mp h
   obtain⟨x,_,h⟩:=map_eq_some_iff.mp h
   exact⟨x,h.symm⟩
  obtain⟨x,e1⟩:=key hb
  obtain⟨y,e2⟩:=key kH
  rw[e1,e2] at e
  injection e
 ·obtain⟨x,_,rfl⟩:=mem_map.mp ha
  obtain⟨y,_,rfl⟩:=mem_map.mp hb
  cases e
 ·obtain⟨k,x,p,rfl,_⟩:=wu ha
  rcases mem_append.mp hb with h|h<;>obtain⟨y,_,rfl⟩:=mem_map.mp h<;>cases e
 ·obtain⟨k,x,rfl⟩:=yS ha
  rcases mem_append.mp hb with h|h
  ·obtain⟨k,x,p,rfl,_⟩:=wu h;cases e
  ·rcases mem_append.mp h with h|h<;>obtain⟨y,_,rfl⟩:=mem_map.mp h<;>cases e
theorem cv.begin(rr:gU r)(hw:r.ws.Pairwise jc){as:List ci}(h:as.Perm (gV r)):cv r as ⟨r.ps.map kM,[],[]⟩ []:=by
 refine⟨length_map _,λk p hp=>⟨kM p,?_,⟨rfl,rfl⟩,⟨.inl rfl,.inl rfl⟩,λhn=>?_,λhn=>?_,λZ Z=>rfl,λZ Z=>rfl⟩,?_,?_,h.nodup_iff.mpr (Vu rr hw),λd hd=>Vs d (h.mem_iff.mp hd)⟩
 ·refine(?_:(r.ps.map kM)[k]?=_);rw[getElem?_map,hp];rfl
 ·cases hx:p.ad with
  |none=>rfl
  |some x=>exact absurd (h.mem_iff.mpr (mem_append.mpr (.inr (mem_append.mpr (.inl (Vp hp hx)))))) (hn x)
 ·cases hx:p.bA with
  |none=>rfl
  |some e=>exact absurd (h.mem_iff.mpr (mem_append.mpr (.inl (Vo hp hx)))) (hn e)
 ·exact(show(jy as).Perm r.ms from(h.filterMap _).trans (Perm.of_eq Vq))
 ·exact(show(lQ as).Perm r.ws from(h.filterMap _).trans (Perm.of_eq Vr))
end
section
variable{r:bC}{ps:List aE}{d:Int}{k:Nat}{w u:cc}
theorem Vv{α β:Type}{g:α->Option β}{as bs:List α}(h:as.Perm bs):as.Pairwise (λu w=>g u=none\/g w=none)->as.findSome? g=bs.findSome? g:=by
 induction h with
 |nil=>intro _;rfl
 |cons x _ ih=>
  intro hp
  rw[findSome?_cons,findSome?_cons,ih (pairwise_cons.mp hp).2]
 |swap x y l=>
  intro hp
  have:=(pairwise_cons.mp hp).1 x mem_cons_self
  rw[findSome?_cons,findSome?_cons,findSome?_cons,findSome?_cons]
  rcases this with e|e<;>rw[e]
 |trans h1 _ i1 i2=>
  intro hp
  exact(i1 hp).trans (i2 ((h1.pairwise_iff λ{a b} h=>h.symm).mp hp))
noncomputable def uq(ps:List aE)(d:Int)(k:Nat)(w:cc):Option Nat:=if decide (w.day<=d)&&(eH w.a k&&lv ps d w.b) then some w.b else if decide (w.day<=d)&&(eH w.b k&&lv ps d w.a) then some w.a else none
theorem CD:∀ms:List cc,iC ps d k ms=ms.findSome? (uq ps d k)
 |[]=>rfl
 |w::ms=>by
  rw[findSome?_cons,<-CD ms]
  refine(?_:(if decide (w.day<=d)&&(eH w.a k&&lv ps d w.b) then some w.b else if decide (w.day<=d)&&(eH w.b k&&lv ps d w.a) then some w.a else iC ps d k ms)=_)
  unfold uq
  by_cases h1:(decide (w.day<=d)&&(eH w.a k&&lv ps d w.b))=true
  ·rw[if_pos h1,if_pos h1]
  ·rw[if_neg h1,if_neg h1]
   by_cases h2:(decide (w.day<=d)&&(eH w.b k&&lv ps d w.a))=true
   ·rw[if_pos h2,if_pos h2]
   ·rw[if_neg h2,if_neg h2]
theorem Jj(dk:cH ps k=some d)(h:¬uq ps d k w=none):(w.a=k\/w.b=k)/\(∀e,cH ps w.a=some e->d<=e)/\∀e,cH ps w.b=some e->d<=e:=by
 have self:∀{j},j=k->∀e,cH ps j=some e->d<=e:=λ{j} hj e he=>by rw[hj,dk] at he;cases he;exact Int.le_refl _
 unfold uq at h
 by_cases h1:(decide (w.day<=d)&&(eH w.a k&&lv ps d w.b))=true
 ·have z:=and_eq_true_iff.mp (and_eq_true_iff.mp h1).2
  have e1:w.a=k:=ofNat.inj (eq_of_beq z.1)
  exact⟨.inl e1,self e1,λe he=>Int.le_of_lt (uo z.2 e he)⟩
 ·rw[if_neg h1] at h
  by_cases h2:(decide (w.day<=d)&&(eH w.b k&&lv ps d w.a))=true
  ·have z:=and_eq_true_iff.mp (and_eq_true_iff.mp h2).2
   have e1:w.b=k:=ofNat.inj (eq_of_beq z.1)
   exact⟨.inr e1,λe he=>Int.le_of_lt (uo z.2 e he),self e1⟩
  ·rw[if_neg h2] at h
   exact absurd rfl h
theorem Jk(g:yM ps w)(h:w.a=k\/w.b=k)(dk:cH ps k=some d):w.day<d:=h.elim (λe=>uo g.2.1 d (e▸dk)) λe=>uo g.2.2.1 d (e▸dk)
theorem Vw(h1:u.a=k\/u.b=k)(h2:w.a=k\/w.b=k):iO w u=true:=by
 have q:∀{a b:Nat},a=k->b=k->((a:Int)==(b:Int))=true:=λe1 e2=>by rw[e1,e2,beq_self_eq_true]
 have o:∀{x y:Bool},x=true\/y=true->(x||y)=true:=or_eq_true_iff.mpr
 unfold iO
 rcases h1 with e1|e1<;>rcases h2 with e2|e2
 ·exact o (.inl (o (.inl (q e1 e2))))
 ·exact o (.inr (o (.inl (q e1 e2))))
 ·exact o (.inl (o (.inr (o (.inl (q e1 e2))))))
 ·exact o (.inr (o (.inr (o (.inl (q e1 e2))))))
theorem Vx(rr:gU r)(dk:cH r.ps k=some d){ms:List cc}(h:ms.Perm r.ms):iC r.ps d k ms=iC r.ps d k r.ms:=by
 rw[CD,CD]
 refine(Vv h.symm (rr.2.1.2.imp_of_mem λ{u w} hu hw hc=>?_)).symm
 by_cases h1:uq r.ps d k u=none
 ·exact .inl h1
 ·by_cases h2:uq r.ps d k w=none
  ·exact .inr h2
  ·have i1:=Jj dk h1
   have i2:=Jj dk h2
   have d1:=Jk (rr.2.1.1 u hu) i1.1 dk
   have d2:=Jk (rr.2.1.1 w hw) i2.1 dk
   refine absurd hc (Jh ?_ (CC (Int.lt_of_le_of_lt (rr.2.1.1 u hu).2.2.2.2 (by decide)) (λe he=>Int.lt_of_lt_of_le d1 (i2.2.1 e he)) λe he=>Int.lt_of_lt_of_le d1 (i2.2.2 e he)) (CC (Int.lt_of_le_of_lt (rr.2.1.1 w hw).2.2.2.2 (by decide)) (λe he=>Int.lt_of_lt_of_le d2 (i1.2.1 e he)) λe he=>Int.lt_of_lt_of_le d2 (i1.2.2 e he)))
   exact Vw i1.1 i2.1
theorem Vy{x y:c6}(h:jc x y)(l:List c6)(m:Int)(g:List (Nat×Rat)):dS k d (x::y::l) m g=dS k d (y::x::l) m g:=by
 refine(?_:(if eH x.cT k&&(decide (m<=x.day)&&decide (x.day<=d)) then(if eH y.cT k&&(decide (x.day<=y.day)&&decide (y.day<=d)) then dS k d l y.day y.cC else dS k d l x.day x.cC) else(if eH y.cT k&&(decide (m<=y.day)&&decide (y.day<=d)) then dS k d l y.day y.cC else dS k d l m g))=(if eH y.cT k&&(decide (m<=y.day)&&decide (y.day<=d)) then(if eH x.cT k&&(decide (y.day<=x.day)&&decide (x.day<=d)) then dS k d l x.day x.cC else dS k d l y.day y.cC) else(if eH x.cT k&&(decide (m<=x.day)&&decide (x.day<=d)) then dS k d l x.day x.cC else dS k d l m g)))
 cases hx:eH x.cT k with
 |false=>rw[Bool.false_and,if_neg Bool.false_ne_true,Bool.false_and,if_neg Bool.false_ne_true,if_neg Bool.false_ne_true]
 |true=>
  cases hy:eH y.cT k with
  |false=>rw[Bool.false_and,if_neg Bool.false_ne_true,Bool.false_and,if_neg Bool.false_ne_true,if_neg Bool.false_ne_true]
  |true=>
   have ne:x.day≠y.day:=λe=>h ⟨(ofNat.inj (eq_of_beq hx)).trans (ofNat.inj (eq_of_beq hy)).symm,e⟩
   rw[Bool.true_and,Bool.true_and,Bool.true_and,Bool.true_and,<-decide_and,<-decide_and,<-decide_and,<-decide_and]
   by_cases h1:m<=x.day/\x.day<=d
   ·rw[if_pos (decide_eq_true h1),if_pos (decide_eq_true h1)]
    by_cases h2:m<=y.day/\y.day<=d
    ·rw[if_pos (decide_eq_true h2)]
     by_cases h3:x.day<=y.day
     ·rw[if_pos (decide_eq_true ⟨h3,h2.2⟩),if_neg λq=>absurd (of_decide_eq_true q).1 (by lia)]
     ·rw[if_neg λq=>h3 (of_decide_eq_true q).1,if_pos (decide_eq_true ⟨by lia,h1.2⟩)]
    ·rw[if_neg λq=>h2 (of_decide_eq_true q),if_neg λq=>h2 ⟨Int.le_trans h1.1 (of_decide_eq_true q).1,(of_decide_eq_true q).2⟩]
   ·rw[if_neg λq=>h1 (of_decide_eq_true q),if_neg λq=>h1 (of_decide_eq_true q)]
    by_cases h2:m<=y.day/\y.day<=d
    ·rw[if_pos (decide_eq_true h2),if_pos (decide_eq_true h2),if_neg λq=>h1 ⟨Int.le_trans h2.1 (of_decide_eq_true q).1,(of_decide_eq_true q).2⟩]
    ·rw[if_neg λq=>h2 (of_decide_eq_true q),if_neg λq=>h2 (of_decide_eq_true q)]
theorem Vz{ws us:List c6}(h:ws.Perm us):ws.Pairwise jc->∀m g,dS k d ws m g=dS k d us m g:=by
 induction h with
 |nil=>exact λZ Z Z=>rfl
 |@cons x l l' _ ih=>
  intro hp m g
  have i:=ih (pairwise_cons.mp hp).2
  refine(?_:(if eH x.cT k&&(decide (m<=x.day)&&decide (x.day<=d)) then dS k d l x.day x.cC else dS k d l m g)=(if eH x.cT k&&(decide (m<=x.day)&&decide (x.day<=d)) then dS k d l' x.day x.cC else dS k d l' m g))
  rw[i,i]
 |swap x y l=>exact λhp m g=>Vy ((pairwise_cons.mp hp).1 x mem_cons_self) l m g
 |trans h1 _ i1 i2=>exact λhp m g=>(i1 hp m g).trans (i2 ((h1.pairwise_iff λ{a b} h e=>h ⟨e.1.symm,e.2.symm⟩).mp hp) m g)
theorem VA(rr:gU r)(hw:r.ws.Pairwise jc){q:bC}(hp:q.ps=r.ps)(hm:q.ms.Perm r.ms)(hs:q.ws.Perm r.ws){p:aE}(dk:cH r.ps k=some d):lL q d k p=lL r d k p:=by
 have e1:mz q d k=mz r d k:=(Vz hs.symm hw _ _).symm
 have e2:iC q.ps d k q.ms=iC r.ps d k r.ms:=by rw[hp];exact Vx rr dk hm
 have key:∀{ps dU:List aE} {g g':List (Nat×Rat)} {s s':Option Nat},ps=dU->g=g'->s=s'->r7 ps d k p g s=r7 dU d k p g' s':=λa b c=>by rw[a,b,c]
 exact key hp e1 e2
theorem VB(rr:gU r)(hw:r.ws.Pairwise jc){q:bC}(hp:q.ps=r.ps)(hm:q.ms.Perm r.ms)(hs:q.ws.Perm r.ws)(j:Nat):oQ q j=oQ r j:=by
 have key:∀{o o':Option aE} {f g:aE->Option (List dO)},o=o'->(∀p,o'=some p->f p=g p)->(o.bind f).getD []=(o'.bind g).getD []:=λ{o o' f g} e h=>by
  subst e
  cases o with
  |none=>rfl
  |some p=>exact congrArg (Option.getD · []) (h p rfl)
 exact key (congrArg (λl:List aE=>l[j]?) hp) λp e=>Option.map_congr λd hd=>VA rr hw hp hm hs (by unfold cH;rw[e];exact hd)
end
section
variable{m:Nat}{H:Hp}{Q:PQ}{α:Type}{f:α->V}{key:α->List Int}{l l':List α}
theorem Jl:∀{a b:List Int},a.map V.int=b.map V.int->a=b
 |[],[],_=>rfl
 |[],_::_,h=>by cases h
 |_::_,[],h=>by cases h
 |a::r,b::t,h=>by
  have h:=List.cons.inj (show V.int a::r.map V.int=V.int b::t.map V.int from h)
  injection h.1 with e
  rw[e,Jl h.2]
theorem KV.one{u:V}{k k':List Int}(h:KV m u k)(h':KV m u k'):k=k':=by
 obtain⟨x,e,hl⟩:=h
 obtain⟨x',e',fS⟩:=h'
 rw[e] at e'
 injection e' with e'
 exact Jl (List.append_inj_left e' (by rw[length_map,length_map,hl,fS]))
noncomputable def CE(m:Nat)(u v:V):Prop:=∀k k',KV m u k->KV m v k'->hZ k' k=false
theorem Jm(hk:∀a,KV m (f a) (key a))(hl:l.length<64)(nd:(l.map key).Nodup)(q:∀js,js.Perm (l.map f)->js.Pairwise (CE m)->kY js H Q):u4 m (l.map f) H Q:=by
 refine⟨l.map key,⟨by rw[length_map,length_map],λi u k hu oF=>?_⟩,by rw[length_map];exact hl,nd,λjs ks yT hp hs=>q js hp ?_⟩
 ·rw[getElem?_map] at hu oF
  obtain⟨a,ha,rfl⟩:=map_eq_some_iff.mp hu
  rw[ha] at oF
  cases oF
  exact hk a
 ·refine List.pairwise_iff_getElem.mpr λi j hi hj rE k k' h h'=>?_
  have gi:i<ks.length:=yT.1▸hi
  have gj:j<ks.length:=yT.1▸hj
  have e1:=KV.one h (yT.2 i _ _ (getElem?_eq_getElem hi) (getElem?_eq_getElem gi))
  have e2:=KV.one h' (yT.2 j _ _ (getElem?_eq_getElem hj) (getElem?_eq_getElem gj))
  rw[e1,e2]
  exact List.pairwise_iff_getElem.mp hs i j gi gj rE
theorem VC(hk:∀a,KV m (f a) (key a))(nd:l.Pairwise λa b=>key a≠key b)(hp:l'.Perm l){js ww:List V}(h1:js.Perm (l'.map f))(s1:js.Pairwise (CE m))(h2:ww.Perm (l.map f))(s2:ww.Pairwise (CE m)):js=ww:=by
 have h:=h1.trans ((hp.map f).trans h2.symm)
 refine Perm.eq_of_pairwise (λa b ha hb l1 l2=>?_) s1 s2 h
 obtain⟨x,hx,rfl⟩:=mem_map.mp (h2.mem_iff.mp (h.mem_iff.mp ha))
 obtain⟨y,hy,rfl⟩:=mem_map.mp (h2.mem_iff.mp hb)
 have e:key x=key y:=byContradiction λn=>Bool.false_ne_true ((l1 _ _ (hk x) (hk y)).symm.trans (K.Az _ _ n (l2 _ _ (hk y) (hk x))))
 have same:∀{l:List α},(l.Pairwise λa b=>key a≠key b)->∀x∈l,∀y∈l,key x=key y->x=y:=λ{l}=>by
  induction l with
  |nil=>exact λZ x hx=>nomatch hx
  |cons z l ih=>
   intro hp x hx y hy e
   have hp:=pairwise_cons.mp hp
   rcases mem_cons.mp hx with rfl|nj<;>rcases mem_cons.mp hy with rfl|yH
   ·rfl
   ·exact absurd e (hp.1 y yH)
   ·exact absurd e.symm (hp.1 x nj)
   ·exact ih hp.2 x nj y yH e
 rw[same nd x hx y hy e]
theorem Jn{f:α->V}{l:List α}:∀{js:List V},(∀v∈js,v∈l.map f)->∃l':List α,js=l'.map f
 |[],_=>⟨[],rfl⟩
 |v::js,h=>by
  obtain⟨x,hx,e⟩:=mem_map.mp (h v mem_cons_self)
  obtain⟨l',e'⟩:=Jn (js:=js) λv hv=>h v (.tail _ hv)
  exact⟨x::l',by rw[map_cons,e,<-e']⟩
theorem CF{a b:Nat}{d:α->PyData}(hr:∀x,rd H 9 (f x)=some (d x))(he:∀x,PyData.eqv (d x) (d x)=true)(ha:H[a]?=some (.list (l.map f)))(hb:H[b]?=some (.list (l.map f))):eQ .ne (.ref a) (.ref b) H=some false:=by
 refine(?_:(match il H (.ref a) with|some t=>(il H (.ref b)).bind λu=>if t||u then some (t&&u) else none|none=>(rd H 10 (.ref a)).bind λd=>(rd H 10 (.ref b)).map λe=>PyData.eqv d e).map (!·)=_)
 rw[none_list ha,mx ha (oO hr l),mx hb (oO hr l)]
 exact congrArg (λb=>some (!b)) (si he l)
theorem VD(w:cc):KV 2 (gq w) [(w.a:Int),(w.b:Int),w.day]:=⟨[],rfl,rfl⟩
theorem VE(w:c6):KV 1 (d6 w) [(w.cT:Int),w.day]:=⟨[ij w.cC],rfl,rfl⟩
theorem VF{u w:cc}(h:u≠w):[(u.a:Int),(u.b:Int),u.day]≠[(w.a:Int),(w.b:Int),w.day]:=λe=>h (by
 injection e with e1 e;injection e with e2 e;injection e with e3 e
 obtain⟨a,b,d⟩:=u
 obtain⟨a',b',d'⟩:=w
 have e1:a=a':=ofNat.inj e1
 have e2:b=b':=ofNat.inj e2
 have e3:d=d':=e3
 rw[e1,e2,e3])
theorem VG{u w:c6}(h:jc u w):[(u.cT:Int),u.day]≠[(w.cT:Int),w.day]:=λe=>h (by
 injection e with e1 e;injection e with e2 e
 exact⟨ofNat.inj e1,e2⟩)
end
end Mine.L
namespace Mine.L
variable{Y:PQ}
open Mine.P PySem
section
variable{n l lm lw la:Nat}{H:Hp}{Q:PQ}{K:Out->Prop}{rest:List S}{C:Ct}{r:bC}{ρ:aO}{us ws:List c6}
noncomputable def qu(w:c6):V:=.aC [nv w.cT,.int w.day]
noncomputable def Jo(w:c6):PyData:=.tuple [.int w.cT,.int w.day]
noncomputable def CG(w u:c6):Bool:=((u.cT:Int)==(w.cT:Int))&&((u.day==w.day)&&true)
theorem yU{a e:E}(h:WE C a ρ H λx H=>WE C e ρ H λy H=>qQ x .none y H Q):WE C (.fG a none (some e)) ρ H Q:=h
theorem Jp(w:c6)(q:Q (qu w) H):qQ (d6 w) .none (.int 2) H Q:=ay (a:=none) rfl (ay (a:=some 2) rfl q)
theorem VH{a:Nat}{w:c6}(h:H[a]?=some (.list (us.map qu))):eQ .gL (qu w) (.ref a) H=some (!us.any (CG w)):=by
 refine congrArg (Option.map (!·)) (?_:pF H (qu w) (.ref a)=some (us.any (CG w)))
 refine(?_:(match H[a]?.bind gQ with|some es=>_|none=>_)=_)
 rw[h]
 refine(?_:(match H[a]?.bind jl with|some es=>_|none=>(cS H (.ref a)).bind _)=_)
 rw[h,cA h]
 refine(?_:((eY (rd H 10) (us.map qu)).bind λds=>some (ds.any λe=>PyData.eqv e (Jo w)))=_)
 rw[oO (d:=Jo) (λu=>rfl)]
 refine congrArg some ?_
 rw[any_map];rfl
noncomputable abbrev rY:S:=.for (.J 2) (.of (.aM (.J 0) (.k (.int 2))))
  [.bz (.cmp .gL (.fG (.J 2) none (some (.k (.int 2)))) (.comp 1 (.fG (.J 0) none (some (.k (.int 2)))) (.J 0) (.of (.J 1)) []))
   [.expr (.c8 .append (.J 1) [.J 2])]
   []]
noncomputable abbrev wx(l lm lw la:Nat)(o2:Option V):aO:=[some (.aC [.ref l,.ref lm,.ref lw]),some (.ref la),o2]
theorem VI{o2:Option V}(aw:H[lw]?=some (.list (ws.map d6)))(al:H[la]?=some (.list []))(fU:lw≠la)(hl:ws.length<=60)(h:∀(us:List c6) o2 H',bj la H H'->H'[la]?=some (.list (us.map d6))->(∀u∈us,u∈ws)->us.Pairwise jc->us.length<=60->aN C rest (wx l lm lw la o2) H' K):aN C (rY::rest) (wx l lm lw la o2) H K:=by
 refine r8 (nJ (fD (bS (v:=.aC [.ref l,.ref lm,.ref lw]) rfl (ct (ay (a:=.ref lw) rfl ?_)))))
 refine ay (dg aw) ?_
 refine e8 (g:=d6) (λas ρ H'=>(∃o2,ρ=wx l lm lw la o2)/\bj la H H'/\∃us:List c6,H'[la]?=some (.list (us.map d6))/\(∀u∈us,u∈ws)/\us.Pairwise jc/\us.length+as.length<=60/\∀w∈as,w∈ws) (λw as ρ H' hI=>?_) (λρ H' hI=>?_) _ _ _ ⟨⟨o2,rfl⟩,bj.refl _ _,[],al,λZ h=>(nomatch h),.nil,by rw[length_nil,zero_add];exact hl,λZ h=>h⟩
 ·obtain⟨⟨o2,rfl⟩,x,us,al,hu,hp,hl,hs⟩:=hI
  refine ay (a:=wx l lm lw la (some (d6 w))) rfl λN hN=>?_
  rw[length_cons] at hl
  refine lM (ue (yU (bS (v:=d6 w) rfl (ct (Jp w (nI (nJ (bS (v:=.ref la) rfl (ay (dg al) (dj (du (by rw[length_map];lia)) ?_))))))))))
  refine jT (P:=λZ=>true) (F:=qu) us _ _ (λa Z T hT=>hT) (λa Z Z N hN=>yU (bS (v:=d6 a) rfl (ct (Jp a hN)))) ?_
  rw[t7,nil_append]
  refine jZ (ay (VH (bu _ _)) ?_)
  have x1:bj la H (H'++[aT.list (us.map qu)]):=x.trans (bj.aU _ _ _)
  refine cM (λhn=>?_) λZ=>hN _ _ (cV aw (x1 _ _ fU aw)) ⟨⟨_,rfl⟩,x1,us,be _ al,hu,hp,by lia,λw hw=>hs w (.tail _ hw)⟩
  rw[not_eq_true'] at hn
  have x2:bj la H ((H'++[aT.list (us.map qu)]).set la (.list (us.map d6++[d6 w]))):=x1.trans (bj.set _ _ _)
  refine TU (l:=la) (v:=d6 w) rfl rfl (be _ al) (by rw[length_map];lia) ?_
  refine hN _ _ (cV aw (x2 _ _ fU aw)) ⟨⟨_,rfl⟩,x2,us++[w],by rw[map_append];exact dZ (be _ al) _,λu CH=>(mem_append.mp CH).elim (hu u) λh=>mem_singleton.mp h▸hs w mem_cons_self,List.pairwise_append.mpr ⟨hp,List.pairwise_singleton _ _,λu CH v hv e=>?_⟩,by rw[length_append,List.length_singleton];lia,λw hw=>hs w (.tail _ hw)⟩
  rw[mem_singleton.mp hv] at e
  refine absurd (any_eq_false.mp hn u CH) (λh=>h ?_)
  unfold CG
  rw[e.1,e.2,beq_self_eq_true,beq_self_eq_true];rfl
 ·obtain⟨⟨o2,rfl⟩,x,us,al,hu,hp,hl,_⟩:=hI
  exact h us o2 H' x al hu hp hl
theorem VJ(at':g5 H r l lm lw)(hl:r.ws.length<=60)(q:∀(us:List c6) la H',aA H H'->g5 H' ⟨r.ps,r.ms,us⟩ l lm la->(∀u∈us,u∈r.ws)->us.Pairwise jc->us.length<=60->Q (.aC [.ref l,.ref lm,.ref la]) H'):az (n+1) uG [.aC [.ref l,.ref lm,.ref lw]] H Q Y:=Rk (at' _ λap am aw=>by
 refine(?_:aN ⟨az n,xq Y⟩ (.aS (.J 1) (.bX [])::rY::[.ret (.aC [(.aM (.J 0) (.k (.int 0))),(.aM (.J 0) (.k (.int 1))),.J 1])]) [some (.aC [.ref l,.ref lm,.ref lw]),none,none] H (bH Q))
 refine fW (BF (ay (a:=wx l lm lw H.length none) rfl ?_))
 refine VI (C:=⟨az n,xq Y⟩) (be _ aw) (bu _ _) (ne_of_lt (cb aw)) hl λus o2 H' x al hu hp hl=>?_
 have xe:aA H H':=x.ext (aA.aU _ _) (le_refl _)
 exact q us H.length H' xe (.mk (xe _ _ ap) (xe _ _ am) al) hu hp hl)
end
end Mine.L
namespace Mine.L
variable{Y:PQ}
open Mine.P PySem
section
variable{z:Nat->Prop}{n B l lm lw lg:Nat}{H:Hp}{K:Out->Prop}{C:Ct}{r:bC}{u v w:V}{vs:List V}{rest:List S}{Q:PQ}{ρ:aO}
theorem VK{e1 e2 e3 e4:E}(h:WE C e1 ρ H λa H=>WE C e2 ρ H λb H=>WE C e3 ρ H λc H=>WE C e4 ρ H λd H=>Q (.aC [a,b,c,d]) H):WE C (.aC [e1,e2,e3,e4]) ρ H Q:=h
noncomputable def CI(_:Nat):Prop:=True
theorem Jq{P:Nat->Prop}{rs:List dO}{vs:List V}(h:bP (nK P H) rs vs)(ok:∀x∈rs,kJ x):eY (rd H 9) vs=some (rs.map we):=h.rec (motive:=λrs vs Z=>(∀x∈rs,kJ x)->eY (rd H 9) vs=some (rs.map we)) (λZ=>rfl) (λh Z ih ok=>fB (HX h (ok _ mem_cons_self)) (ih λx hx=>ok x (.tail _ hx))) ok
theorem VL{P:Nat->Prop}{lr:Nat}{rs:List dO}{vs:List V}(a:H[lr]?=some (.list vs))(h:bP (nK P H) rs vs)(ok:∀x∈rs,kJ x)(hl:rs.length<=14000000)(q:∀lc us H',aA H H'->H'[lc]?=some (.list us)->bP (nK CI H') rs us->Q (.ref lc) H'):az (n+1) wK [.ref lr] H Q Y:=Q1 (by
 unfold zC
 refine B2 (nI (nJ (bS (v:=.ref lr) rfl (ay (dg a) (dj (du (show vs.length<16000000 by rw[h.len];exact lt_of_le_of_lt hl (by decide))) ?_)))))
 refine G6 (R:=nK P H) (λas aL ρ H'=>(∃o1 o2 o3 o4,ρ=[o1,o2,o3,o4,some (.ref lr)])/\aA H H'/\∃an,an++as=rs/\bP (nK CI H') an aL) (λx v as aL ρ H' hv hI=>?_) (λaL ρ H' hI=>?_) h [] _ H ⟨⟨none,none,none,none,rfl⟩,aA.refl _,[],rfl,.nil⟩
 ·obtain⟨⟨o1,o2,o3,o4,rfl⟩,xx,an,t,ha⟩:=hI
  obtain⟨ll,hp,rfl,al⟩:=hv
  refine ay (a:=[some (optN x.gI),some (rv x.part),some (.str x.how),some (.ref ll),some (.ref lr)]) rfl λN hN=>?_
  refine yP (fV rfl (VK (bS rfl (bS rfl (bS rfl (Co (bS rfl (ay (rG (xx _ _ al)) (dj (du ?_) (jZ ?_))))))))))
  ·rw[length_map]
   exact lt_of_le_of_lt (ok x (t▸mem_append.mpr (.inr mem_cons_self))).2 (by decide)
  ·exact hN _ _ (cV a ((xx.trans (aA.aU _ _)) _ _ a)) ⟨⟨_,_,_,_,rfl⟩,xx.trans (aA.aU _ _),an++[x],gd t,(ha.imp λZ Z h=>h.imp λl h=>⟨h.1,h.2.1,be _ h.2.2⟩).snoc ⟨_,trivial,rfl,bu _ _⟩⟩
 ·obtain⟨_,xx,an,t,ha⟩:=hI
  rw[append_nil] at t
  subst t
  exact jZ (q _ aL _ (xx.trans (aA.aU _ _)) (bu _ _) (ha.imp λZ Z h=>h.imp λl h=>⟨h.1,h.2.1,be _ h.2.2⟩)))
noncomputable def sE(H:Hp)(lc:Nat)(rs:List dO):Prop:=(∃us,H[lc]?=some (.list us)/\bP (nK CI H) rs us)/\∀x∈rs,kJ x
theorem sE.ext{H':Hp}{lc:Nat}{rs:List dO}(h:sE H lc rs)(x:aA H H'):sE H' lc rs:=⟨h.1.imp λus h=>⟨x _ _ h.1,h.2.imp λZ Z h=>h.imp λl h=>⟨h.1,h.2.1,x _ _ h.2.2⟩⟩,h.2⟩
theorem VM{es:List (Int×V)}{k:Int}(h:ee es k=true):∃e,e∈es/\fI es k=some e.2/\e.1=k:=by
 unfold ee at h
 unfold fI
 cases hf:es.find? (λp=>decide (p.1=k)) with
 |none=>
  obtain⟨e,he,h2⟩:=any_eq_true.mp h
  exact absurd h2 (List.find?_eq_none.mp hf e he)
 |some e=>exact⟨e,List.mem_of_find?_eq_some hf,rfl,of_decide_eq_true (List.find?_some (p:=λp:Int×V=>decide (p.1=k)) hf)⟩
theorem VN{k:Nat}(b:cD z B H r)(hk:k∈cY r.ps)(q:∀lc H',aA H H'->sE H' lc (oQ r k)->Q (.ref lc) H'):az (n+3) qF [.ref (B+1),nv k] H Q Y:=RB (b _ λld ep vf es a0 a1 ap am aw ad hd de dk=>by
 have h:eW r.ps k=true:=(mem_filter.mp hk).2
 have cU:k<r.ps.length:=mem_range.mp (mem_filter.mp hk).1
 refine(?_:aH (cy H (.ref (B+1))) _)
 refine mc a1 a0 ?_
 refine(?_:az (n+2) gA [.ref (B+1),nv k] H _ _)
 refine sk (n:=n) a1 a0 rfl ap rfl (λh1=>?_) λh1=>by rw[sj cU] at h1;cases h1
 refine(?_:aH (cy H (.ref (B+1))) _)
 refine eI (i:=3) a1 a0 rfl ?_
 have e2:eQ .gL (nv k) (.ref ld) H=some (!ee es (k:Int)):=congrArg (Option.map (!·)) (Ia ad)
 apply ay e2
 rw[dk]
 refine cM (λh'=>by rw[h] at h';cases h') λZ=>?_
 obtain⟨e,he,hg,VO⟩:=VM ((dk k).trans h)
 refine(?_:aH (cy H (.ref (B+1))) _)
 refine eI (i:=3) a1 a0 rfl ?_
 apply ay (Ib ad hg)
 obtain⟨j,lr,vs,ej,ev,_,ar,hr,ok,eU⟩:=de e he
 have ejk:j=k:=ofNat.inj (ej.symm.trans VO)
 subst ejk
 rw[ev]
 refine(?_:az (n+2) wK [.ref lr] H _ _)
 exact VL (n:=n+1) ar hr ok eU λlc us H' x a' h'=>q lc H' x ⟨⟨us,a',h'⟩,ok⟩)
theorem VP(x:dO):PyData.eqv (we x) (we x)=true:=by
 refine(?_:(PyData.eqv (ui x.gI) (ui x.gI)&&(PyData.eqv (nE x.part) (nE x.part)&&(PyData.eqv (.str x.how) (.str x.how)&&(PyData.eqvAll (x.line.map λi:Nat=>.int i) (x.line.map λi:Nat=>.int i)&&true))))=true)
 rw[Hh,BG,show PyData.eqv (.str x.how) (.str x.how)=true from beq_self_eq_true x.how,show PyData.eqv (ui x.gI) (ui x.gI)=true by cases x.gI;rfl;exact mD _];rfl
theorem VQ{a b:Nat}{rs:List dO}(ha:sE H a rs)(hb:sE H b rs):eQ .ne (.ref a) (.ref b) H=some false:=by
 obtain⟨⟨us,ea,da⟩,ok⟩:=ha
 obtain⟨⟨vs,eb,db⟩,_⟩:=hb
 refine(?_:(match il H (.ref a) with|some t=>(il H (.ref b)).bind λu=>if t||u then some (t&&u) else none|none=>(rd H 10 (.ref a)).bind λd=>(rd H 10 (.ref b)).map λe=>PyData.eqv d e).map (!·)=_)
 rw[none_list ea,mx ea (Jq da ok),mx eb (Jq db ok)]
 exact congrArg (λb=>some (!b)) (si VP rs)
theorem Jr{m:Nat}{e:E}(h:WE C e ρ H λx H=>aH (cy H x) λt=>aH (mY H t) λZ=>C.call m [x] H Q C.exc):WE C (.cx m e []) ρ H Q:=h
theorem VR{m:Nat}{e1 e2:E}(h:WE C e1 ρ H λx H=>aH (cy H x) λt=>aH (mY H t) λZ=>WE C e2 ρ H λy H=>C.call m [x,y] H Q C.exc):WE C (.cx m e1 [e2]) ρ H Q:=h
end
end Mine.L
namespace Mine.L
open Mine.P PySem
section
variable{r:bC}
theorem Part.refl(k:Nat)(p:aE):Part [] k p p:=⟨⟨rfl,rfl⟩,⟨.inr rfl,.inr rfl⟩,λZ=>rfl,λZ=>rfl,λZ h=>(nomatch h),λZ h=>(nomatch h)⟩
theorem VS(ok:dA r)(rr:gU r)(hl:r.ps.length<=60/\r.ms.length<=1000/\r.ws.length<=1000):Tn ⟨[],[],[]⟩ [] (kL r) r []:=ok _ λwf len cJ cC=>by
 have VT:dA ⟨r.ps,[],[]⟩:=.mk wf len (λZ h=>(nomatch h)) λZ h=>(nomatch h)
 have Js:gU ⟨r.ps,[],[]⟩:=⟨rr.1,⟨λZ h=>(nomatch h),.nil⟩,λZ h=>(nomatch h)⟩
 have VU:dA ⟨r.ps,r.ms,[]⟩:=.mk wf len cJ λZ h=>(nomatch h)
 have VV:gU ⟨r.ps,r.ms,[]⟩:=⟨rr.1,rr.2.1,λZ h=>(nomatch h)⟩
 obtain⟨rf,Lf,t,f⟩:=cv.tn VT Js ⟨hl.1,zero_le _,zero_le _⟩ (gV ⟨r.ps,[],[]⟩) _ [] (cv.begin Js .nil (Perm.refl _))
 have e0:=f.fin
 have e1:rf.ms++Lf++[]=[]:=Perm.eq_nil f.ms
 have e2:rf.ws++[]=[]:=Perm.eq_nil f.ws
 rw[append_nil] at e1 e2
 obtain⟨e1,e3⟩:=List.append_eq_nil_iff.mp e1
 obtain⟨a,b,c⟩:=rf
 have e0:a=r.ps:=e0
 have e1:b=[]:=e1
 have e2:c=[]:=e2
 subst e0 e1 e2 e3
 have t1:=Tn.aU (Tn.of (L:=[]) (Cz wf rr.1 hl.1 r.ps [] rfl)) t
 have t2:Runs ⟨r.ps,[],[]⟩ (r.ms.map .cJ) ⟨r.ps,r.ms,[]⟩:=cv.runs VU VV ⟨hl.1,hl.2.1,zero_le _⟩ r.ms ⟨r.ps,[],[]⟩ ⟨rfl,λk p hp=>⟨p,hp,Part.refl k p⟩,by refine(?_:([]++r.ms++[]).Perm r.ms);rw[append_nil];exact Perm.refl _,Perm.refl _,.nil,λZ h=>(nomatch h)⟩
 have t3:=t1.aU (Tn.of (L:=[]) (t2.aU (Jd ok rr hl.1 hl.2.2 r.ws [] rfl)))
 have e:kL r=r.ps.map .aX++gV ⟨r.ps,[],[]⟩++(r.ms.map .cJ++r.ws.map .fO):=by
  have e:gV ⟨r.ps,[],[]⟩=mH r.ps++j1 r.ps (List.range r.ps.length):=congrArg (mH r.ps++·) (append_nil _)
  unfold kL
  rw[e,append_assoc,append_assoc,append_assoc,append_assoc,append_assoc]
 rw[e]
 exact t3
theorem VW(ok:dA r)(rr:gU r)(hw:r.ws.Pairwise jc)(hl:r.ps.length<=60/\r.ms.length<=1000/\r.ws.length<=1000){as:List ci}(h:as.Perm (gV r)):∃rf Lf q,Tn ⟨[],[],[]⟩ [] (r.ps.map .aX++as) rf Lf/\Runs rf (Lf.map .cJ) q/\q.ps=r.ps/\q.ms.Perm r.ms/\q.ws.Perm r.ws:=ok _ λwf len cJ cC=>by
 obtain⟨rf,Lf,t,f⟩:=cv.tn ok rr hl as _ [] (cv.begin rr hw h)
 have e1:(rf.ms++Lf++[]).Perm r.ms:=f.ms
 have e2:(rf.ws++[]).Perm r.ws:=f.ws
 rw[append_nil] at e1 e2
 exact⟨rf,Lf,⟨rf.ps,rf.ms++Lf,rf.ws⟩,Tn.aU (Tn.of (L:=[]) (Cz wf rr.1 hl.1 r.ps [] rfl)) t,cv.runs ok rr hl Lf rf f,f.fin,e1,e2⟩
end
section
variable{n l lm lw ldd m:Nat}{H:Hp}{Q:PQ}{K:Out->Prop}{rest:List S}{C:Ct}{r:bC}{ρ:aO}{vs:List V}
theorem Jt(k d m:Nat):tj k d (some (m:Int))=min m k:=by
 refine(?_:(max (0:Int) (min (if(m:Int)<0 then(m:Int)+k else(m:Int)) k)).toNat=_)
 rw[if_neg (Int.not_lt.mpr (natCast_nonneg m))]
 lia
theorem Ju(xs:List V):iH xs (some (m:Int)) none=xs.drop m:=by
 unfold iH
 rw[Jt]
 refine(?_:(xs.take xs.length).drop (min m xs.length)=_)
 rw[take_length]
 rcases le_total m xs.length with h|h
 ·rw[min_eq_left h]
 ·rw[min_eq_right h,List.drop_length,List.drop_eq_nil_of_le h]
theorem Jv(xs:List V):iH xs none (some (m:Int))=xs.take m:=by
 unfold iH
 rw[Jt]
 refine(?_:(xs.take (min m xs.length)).drop 0=_)
 rw[drop_zero]
 rcases le_total m xs.length with h|h
 ·rw[min_eq_left h]
 ·rw[min_eq_right h,take_length,List.take_of_length_le h]
theorem Jw(h:m<1000000):xj (nv m)=some (some (m:Int)):=if_pos (lt_trans (show(m:Int).natAbs<1000000 from h) (by decide))
theorem Jx(h:H[l]?=some (.list vs))(hm:m<1000000)(hs:vs.length<16000000)(q:Q (.ref H.length) (H++[.list (vs.drop m)])):qQ (.ref l) (nv m) .none H Q:=ay (Jw hm) (ay (a:=none) rfl (ay (cA h) (dj (du (by rw[Ju,length_drop];lia)) (jZ (by rw[Ju];exact q)))))
theorem Jy(h:H[l]?=some (.list vs))(hm:m<1000000)(hs:vs.length<16000000)(q:Q (.ref H.length) (H++[.list (vs.take m)])):qQ (.ref l) .none (nv m) H Q:=ay (a:=none) rfl (ay (Jw hm) (ay (cA h) (dj (du (by rw[Jv,length_take];lia)) (jZ (by rw[Jv];exact q)))))
theorem Jz{a e:E}(h:WE C a ρ H λx H=>WE C e ρ H λy H=>qQ x y .none H Q):WE C (.fG a (some e) none) ρ H Q:=h
end
section
variable{α β:Type}{R:α->β->Prop}
theorem bP.drop{as:List α}{bs:List β}(h:bP R as bs):∀m,bP R (as.drop m) (bs.drop m):=h.rec (motive:=λas bs Z=>∀m,bP R (as.drop m) (bs.drop m)) (λm=>by rw[drop_nil,drop_nil];exact .nil) λr t ih m=>by
 cases m with
 |zero=>exact .cons r t
 |succ m=>exact ih m
theorem bP.take{as:List α}{bs:List β}(h:bP R as bs):∀m,bP R (as.take m) (bs.take m):=h.rec (motive:=λas bs Z=>∀m,bP R (as.take m) (bs.take m)) (λm=>by rw[take_nil,take_nil];exact .nil) λr t ih m=>by
 cases m with
 |zero=>exact .nil
 |succ m=>exact .cons r (ih m)
theorem bP.rev{as:List α}{bs:List β}(h:bP R as bs):bP R as.reverse bs.reverse:=h.rec (motive:=λas bs Z=>bP R as.reverse bs.reverse) .nil λr t ih=>by
 rw[reverse_cons,reverse_cons]
 exact ih.snoc r
end
end Mine.L
namespace Mine.L
variable{Y:PQ}
open Mine.P PySem
section
variable{z z':Nat->Prop}{n l lm lw ldd lt m B B' j i:Nat}{H:Hp}{Q:PQ}{K:Out->Prop}{rest:List S}{C:Ct}{r q:bC}{ρ:aO}{vs ts:List V}{P:Nat->Prop}{as:List ci}{v1 v2 v3 v4 v5 v6 v7 v8 v9:Option V}
noncomputable abbrev vR(v1 v2 v3 v4 v5 v6 v7 v8 v9:Option V):aO:=[some .fR,v1,v2,v3,v4,v5,v6,v7,v8,v9]
noncomputable abbrev iQ(l lm lw:Nat):V:=.aC [.ref l,.ref lm,.ref lw]
noncomputable def oW(H:Hp)(b:Nat)(r:bC)(lt:Nat):Prop:=∃ts as,H[lt]?=some (.list ts)/\lt<b/\bP (dv (·<b) H) as ts/\as.Perm (gV r)
theorem sG{H H':Hp}{P P':Nat->Prop}{ds:List ci}{vs:List V}(h:bP (dv P H) ds vs)(x:∀l c,P l->H[l]?=some c->P' l/\H'[l]?=some c):bP (dv P' H') ds vs:=h.imp λZ Z h=>h.k x
noncomputable abbrev CJ:S:=.aS (.J 4) (.fG (.J 2) (some (.J 3)) none)
noncomputable abbrev CL:S:=.aS (.J 5) (.bin .mod (.bin .fdiv (.call jj [.J 0,(.k (.int 5))]) (.k (.int 2))) (.bin .add (.bi .len [.J 4]) (.k (.int 1))))
noncomputable abbrev CM:S:=.aS (.J 6) (.bin .add (.fG (.J 4) (some (.J 5)) none) (.fG (.J 4) none (some (.J 5))))
noncomputable abbrev CN:S:=.bz (.cmp .eq (.bin .mod (.call jj [.J 0,(.k (.int 5))]) (.k (.int 2))) (.k (.int 1)))
  [.aS (.J 6) (.rev (.J 6) (.neg (.k (.int 1))))]
  []
theorem VX:(kL r).take r.ps.length=r.ps.map .aX:=by
 rw[wq]
 exact List.take_left' (length_map _)
theorem VY:(kL r).drop r.ps.length=gV r:=by
 rw[wq]
 exact List.drop_left' (length_map _)
theorem l4(ad:H[ldd]?=some (.list vs))(hd:bP (dv P H) (kL r) vs)(hl:vs.length<=10000)(h0:r.ps.length<=60)(h:∀lt H',aA H H'->oW H' H'.length r lt->aN C rest (vR v1 (some (.ref ldd)) (some (nv r.ps.length)) (some (.ref lt)) v5 v6 v7 v8 v9) H' K):aN C (CJ::rest) (vR v1 (some (.ref ldd)) (some (nv r.ps.length)) v4 v5 v6 v7 v8 v9) H K:=by
 refine fW (Jz (bS (v:=.ref ldd) rfl (bS (v:=nv r.ps.length) rfl (Jx ad (by lia) (by lia) (ay rfl (h _ _ (aA.aU _ _) ⟨_,_,bu _ _,by rw[length_append];exact lt_succ_self _,sG (hd.drop r.ps.length) λl c Z a=>⟨cb (be _ a),be _ a⟩,?_⟩))))))
 rw[VY]
theorem l5(hC:C.call=az (n+1))(at':H[lt]?=some (.list ts))(h:∀m,m<=ts.length->aN C rest (vR v1 v2 v3 (some (.ref lt)) (some (nv m)) v6 v7 v8 v9) H K):aN C (CL::rest) (vR v1 v2 v3 (some (.ref lt)) v5 v6 v7 v8 v9) H K:=by
 refine fW (fM (fM (se (bS rfl (ct ?_)))))
 refine(?_:C.call jj [.fR,.int 5] H _ C.exc)
 rw[hC]
 refine oG (n:=n) (k:=5) (ct (ff (r9 (b:=2) (by decide)) (fM (HL rfl at' (ct (ff (z:=(ts.length:Int)+1) rfl ?_))))))
 obtain⟨a,ha,cU⟩:=jv ((X.is.getD 5 0).fdiv 2) (k:=ts.length+1) (succ_pos _)
 exact ff ((iE (b:=(ts.length:Int)+1) (by lia)).trans (congrArg some ha)) (ay rfl (h a (Nat.lt_succ_iff.mp cU)))
theorem oW.turn(o:oW H H.length r lt)(hl:ts.length<=10000)(at':H[lt]?=some (.list ts))(hm:m<=ts.length)(h:∀lt' H',aA H H'->oW H' H'.length r lt'->aN C rest (vR v1 v2 v3 (some (.ref lt)) (some (nv m)) (some (.ref lt')) v7 v8 v9) H' K):aN C (CM::rest) (vR v1 v2 v3 (some (.ref lt)) (some (nv m)) v6 v7 v8 v9) H K:=by
 obtain⟨Ef,as,e,_,d,p⟩:=o
 rw[at'] at e
 cases e
 refine fW (fM (Jz (bS (v:=.ref lt) rfl (bS (v:=nv m) rfl (Jx at' (by lia) (by lia) (yU (bS (v:=.ref lt) rfl (bS (v:=nv m) rfl (Jy (be _ at') (by lia) (by lia) ?_)))))))))
 refine mu (be _ (bu _ _)) (bu _ _) (by rw[length_append,length_drop,length_take];lia) (ay rfl (h _ _ (((aA.aU _ _).trans (aA.aU _ _)).trans (aA.aU _ _)) ⟨_,as.drop m++as.take m,bu _ _,?_,?_,?_⟩))
 ·rw[length_append (as:=H++_++_)];exact lt_succ_self _
 ·exact sG ((d.drop m).aU (d.take m)) λl c Z a=>⟨cb (be _ (be _ (be _ a))),be _ (be _ (be _ a))⟩
 ·refine Perm.trans List.perm_append_comm ?_
  rw[take_append_drop];exact p
theorem VZ{a:E}(h:WE C a ρ H λx H=>aH (cS H x) λvs=>kj vs.reverse H Q):WE C (.rev a (.neg (.k (.int 1)))) ρ H Q:=by
 refine(?_:WE C a ρ H λx H=>(V.int (-1)=.int (-1)/\aH (cS H x) λvs=>kj vs.reverse H Q))
 have e:(λx H=>(V.int (-1)=.int (-1)/\aH (cS H x) λvs=>kj vs.reverse H Q))=λx H=>aH (cS H x) λvs=>kj vs.reverse H Q:=funext λx=>funext λH=>propext ⟨λh=>h.2,λh=>⟨rfl,h⟩⟩
 rw[e];exact h
theorem oW.back(hC:C.call=az (n+1))(o:oW H H.length r lt)(hl:(gV r).length<=10000)(h:∀lt' H',aA H H'->oW H' H'.length r lt'->aN C rest (vR v1 v2 v3 v4 v5 (some (.ref lt')) v7 v8 v9) H' K):aN C (CN::rest) (vR v1 v2 v3 v4 v5 (some (.ref lt)) v7 v8 v9) H K:=by
 refine lM (ue (fM (se (bS rfl (ct ?_)))))
 refine(?_:C.call jj [.fR,.int 5] H _ C.exc)
 rw[hC]
 refine oG (n:=n) (k:=5) (ct (ff (iE (b:=2) (by decide)) (ct ?_)))
 refine(?_:bB ((X.is.getD 5 0).fmod 2==1) _ _)
 refine cM (λZ=>?_) λZ=>h _ _ (aA.refl _) o
 obtain⟨ts,as,e,_,d,p⟩:=o
 have eU:ts.length<=10000:=by rw[d.len,p.length_eq];exact hl
 refine fW (VZ (bS (v:=.ref lt) rfl (ay (cA e) (dj (du (by rw[List.length_reverse];lia)) (jZ (ay rfl (h _ _ (aA.aU _ _) ⟨_,as.reverse,bu _ _,by rw[length_append];exact lt_succ_self _,sG d.rev λl c Z a=>⟨cb (be _ a),be _ a⟩,(List.reverse_perm as).trans p⟩)))))))
end
end Mine.L
namespace Mine.L
variable{Y:PQ}
open Mine.P PySem
section
variable{z z':Nat->Prop}{n l lm lw ldd lt m B B' j i:Nat}{H:Hp}{Q:PQ}{K:Out->Prop}{rest:List S}{C:Ct}{r q:bC}{ρ:aO}{vs ts:List V}{P:Nat->Prop}{as:List ci}{v1 v2 v3 v4 v5 v6 v7 v8 v9:Option V}
noncomputable abbrev CO:S:=.bz (.or [(.not (.call pu [.J 7,.J 2])),(.not (.call pu [.J 8,(.bin .add (.fG (.J 2) none (some (.J 3))) (.J 6))]))])
  [.ret (.k (.bool false))]
  []
theorem V0(hC:C.call=az (n+72))(hB:B+5<=B'/\B'+5<=H.length)(b:cD z B H ⟨[],[],[]⟩)(hz:∀l,B'<=l->l<B'+5->z l)(b':cD z' B' H ⟨[],[],[]⟩)(ad:H[ldd]?=some (.list vs))(hd:bP (dv (·<B) H) (kL r) vs)(ho:oW H B r lt)(hl:vs.length<=10000/\ldd<B/\r.ps.length<=60)(t1:Tn ⟨[],[],[]⟩ [] (kL r) r [])(t2:∀as,as.Perm (gV r)->∃rf Lf q,Tn ⟨[],[],[]⟩ [] (r.ps.map .aX++as) rf Lf/\Runs rf (Lf.map .cJ) q/\q.ps=r.ps/\q.ms.Perm r.ms/\q.ws.Perm r.ws)(h:∀z z' q H',(q.ps=r.ps/\q.ms.Perm r.ms/\q.ws.Perm r.ws)->(∀l c,l<B->H[l]?=some c->H'[l]?=some c)->cD z B H' r->cD z' B' H' q->aN C rest (vR v1 (some (.ref ldd)) (some (nv r.ps.length)) v4 v5 (some (.ref lt)) (some (.ref (B+1))) (some (.ref (B'+1))) v9) H' K):aN C (CO::rest) (vR v1 (some (.ref ldd)) (some (nv r.ps.length)) v4 v5 (some (.ref lt)) (some (.ref (B+1))) (some (.ref (B'+1))) v9) H K:=by
 obtain⟨ts,as,at',cU,dt,hp⟩:=ho
 obtain⟨rf,Lf,q,t2,t3,hq⟩:=t2 as hp
 have rP:ts.length<=10000:=by
  rw[dt.len,hp.length_eq]
  have:=hd.len
  rw[wq,length_append] at this
  lia
 have hr:r.ps.length+(gV r).length<=10000:=by
  have:=hd.len
  rw[wq,length_append,length_map] at this
  lia
 refine lM (uf (B4 (HJ (se (bS (v:=.ref (B+1)) rfl (bS (v:=.ref ldd) rfl ?_))))))
 refine(?_:C.call pu [.ref (B+1),.ref ldd] H _ C.exc)
 rw[hC]
 refine I7 (n:=n) (Y:=C.exc) (by lia) ad (.inl hl.2.1) hd (λl h=>.inl h) b t1 .nil (by rw[<-hd.len];exact hl.1) λH1 x1 b1=>?_
 have low:∀l c,l<B->H[l]?=some c->H1[l]?=some c:=λl c h a=>x1 l c (.inl h) a
 have len1:H.length<H1.length:=b1 _ λZ Z Z Z Z Z Z Z Z Z hd Z Z=>hd.2.2 _ (.inr rfl)
 have b2:cD z' B' H1 ⟨[],[],[]⟩:=b'.keep (.inr hB.1) x1 (le_of_lt len1)
 refine ay (a:=true) rfl (ay (a:=false) rfl (fV rfl ?_))
 refine HJ (se (bS (v:=.ref (B'+1)) rfl (fM (yU (bS (v:=.ref ldd) rfl (bS (v:=nv r.ps.length) rfl (Jy (low _ _ hl.2.1 ad) (by lia) (by lia) (bS (v:=.ref lt) rfl ?_))))))))
 refine mu (bu _ _) (be _ (low _ _ cU at')) (by rw[length_append,length_take];lia) ?_
 have x2:aA H1 (H1++[aT.list (vs.take r.ps.length)]++[aT.list (vs.take r.ps.length++ts)]):=(aA.aU _ _).trans (aA.aU _ _)
 have up:∀l c,l<B->H[l]?=some c->l<B/\(H1++[aT.list (vs.take r.ps.length)]++[aT.list (vs.take r.ps.length++ts)])[l]?=some c:=λl c h a=>⟨h,x2 _ _ (low l c h a)⟩
 have d2:bP (dv (·<B) (H1++[aT.list (vs.take r.ps.length)]++[aT.list (vs.take r.ps.length++ts)])) (r.ps.map .aX++as) (vs.take r.ps.length++ts):=by
  have z:=hd.take r.ps.length
  rw[VX] at z
  exact(sG z up).aU (sG dt up)
 have an:=bu (H1++[aT.list (vs.take r.ps.length)]) (.list (vs.take r.ps.length++ts))
 have b3:=b2.ext x2
 have b4:=b1.ext x2
 have len2:B'+5<=(H1++[aT.list (vs.take r.ps.length)]).length:=by rw[length_append];lia
 have low2:∀l c,l<B->H[l]?=some c->(H1++[aT.list (vs.take r.ps.length)]++[aT.list (vs.take r.ps.length++ts)])[l]?=some c:=λl c h a=>(up l c h a).2
 have len3:(H1++[aT.list (vs.take r.ps.length)]).length<(H1++[aT.list (vs.take r.ps.length)]++[aT.list (vs.take r.ps.length++ts)]).length:=cb an
 generalize (H1++[aT.list (vs.take r.ps.length)]).length=lc at *
 generalize H1++[aT.list (vs.take r.ps.length)]++[aT.list (vs.take r.ps.length++ts)]=H2 at *
 refine(?_:C.call pu [.ref (B'+1),.ref lc] H2 _ C.exc)
 rw[hC]
 refine I7 (n:=n) (Y:=C.exc) (by lia) an (.inr len2) d2 (λl h=>.inl (by lia)) b3 t2 t3 (by rw[length_append,length_map,hp.length_eq];exact hr) λH3 x3 b5=>?_
 have len4:H2.length<H3.length:=b5 _ λZ Z Z Z Z Z Z Z Z Z hd Z Z=>hd.2.2 _ (.inr rfl)
 refine ay (a:=true) rfl (ay (a:=false) rfl (fq rfl ?_))
 exact h _ _ q H3 hq (λl c hl a=>x3 l c (.inl (by lia)) (low2 l c hl a)) (b4.keep (.inl ⟨hB.1,λl h1 h2=>.inl (hz l h1 h2)⟩) x3 (le_of_lt len4)) b5
theorem yV(hC:C.call=az (n+1))(b:cD z B H r)(hl:r.ps.length<=60/\r.ms.length<=1000/\r.ws.length<=1000)(hj:ρ[j]?.join=some (.ref (B+1)))(q:∀a c d H',aA H H'->g5 H' r a c d->Q (iQ a c d) H'):WE C (.cx l7 (.J j) []) ρ H Q:=b _ λld ep vf es a0 a1 ap am aw ad hd de dk=>Jr (bS hj (mc a1 a0 (by rw[hC];exact Ut b.b hl q)))
theorem yW(hC:C.call=az (n+1))(b:cD z B H r)(hl:r.ps.length<=60)(hj:ρ[j]?.join=some (.ref (B+1)))(q:Q (.ref H.length) (H++[.list (aW (cY r.ps))])):WE C (.cx kR (.J j) []) ρ H Q:=b _ λld ep vf es a0 a1 ap am aw ad hd de dk=>Jr (bS hj (mc a1 a0 (by rw[hC];exact HW a1 a0 rfl ap hl q)))
theorem JA{k:Nat}(hC:C.call=az (n+3))(b:cD z B H r)(hk:k∈cY r.ps)(hj:ρ[j]?.join=some (.ref (B+1)))(hi:ρ[i]?.join=some (nv k))(q:∀lc H',aA H H'->sE H' lc (oQ r k)->Q (.ref lc) H'):WE C (.cx qF (.J j) [(.J i)]) ρ H Q:=b _ λld ep vf es a0 a1 ap am aw ad hd de dk=>VR (bS hj (mc a1 a0 (bS hi (by rw[hC];exact VN b hk q))))
end
end Mine.L
namespace Mine.L
variable{Y:PQ}
open Mine.P PySem
section
variable{z z':Nat->Prop}{n l lm lw ldd lt m B B' j i:Nat}{H:Hp}{Q:PQ}{K:Out->Prop}{rest:List S}{C:Ct}{r q:bC}{ρ:aO}{vs ts:List V}{P:Nat->Prop}{as:List ci}{v1 v2 v3 v4 v5 v6 v7 v8 v9:Option V}
theorem V1{a b c:E}(h:WE C a ρ H λx H=>aH (truthy H x) λt=>bB (t==false) (WE C (.or [b,c]) ρ H Q) (Q x H)):WE C (.or [a,b,c]) ρ H Q:=h
theorem JB{e:E}(h:WE C e ρ H λx H=>aH (cS H x) λus=>u4 m us H Q):WE C (.bi (.jF m) [e]) ρ H Q:=h
noncomputable abbrev CP:S:=.bz (.or [(.cmp .ne (.cx l7 (.J 7) []) (.J 1)),(.cmp .ne (.aM (.cx l7 (.J 8) []) (.k (.int 0))) (.aM (.J 1) (.k (.int 0)))),(.cmp .ne (.cx kR (.J 8) []) (.cx kR (.J 7) []))])
  [.ret (.k (.bool false))]
  []
structure lR(H:Hp)(r q:bC)(l lm lw B B':Nat):Prop where
 one:∃z,cD z B H r
 two:∃z,cD z B' H q
 at':g5 H r l lm lw
 ps:q.ps=r.ps
 ms:q.ms.Perm r.ms
 ws:q.ws.Perm r.ws
 hl:r.ps.length<=60/\r.ms.length<=60/\r.ws.length<=60
theorem lR.ext{H':Hp}(b:lR H r q l lm lw B B')(x:aA H H'):lR H' r q l lm lw B B':=⟨b.one.imp λz h=>h.ext x,b.two.imp λz h=>h.ext x,b.at' _ λh1 h2 h3=>.mk (x _ _ h1) (x _ _ h2) (x _ _ h3),b.ps,b.ms,b.ws,b.hl⟩
theorem lR.l1(b:lR H r q l lm lw B B'):r.ps.length<=60/\r.ms.length<=1000/\r.ws.length<=1000:=⟨b.hl.1,le_trans b.hl.2.1 (by decide),le_trans b.hl.2.2 (by decide)⟩
theorem lR.l2(b:lR H r q l lm lw B B'):q.ps.length<=60/\q.ms.length<=1000/\q.ws.length<=1000:=by
 rw[b.ps,b.ms.length_eq,b.ws.length_eq];exact b.l1
noncomputable abbrev bR(l lm lw B B':Nat)(v2 v3 v4 v5 v6 v9:Option V):aO:=vR (some (iQ l lm lw)) v2 v3 v4 v5 v6 (some (.ref (B+1))) (some (.ref (B'+1))) v9
theorem JC{a b:Nat}{ks:List Nat}(ha:H[a]?=some (.list (aW ks)))(hb:H[b]?=some (.list (aW ks))):eQ .ne (.ref a) (.ref b) H=some false:=CF (f:=nv) (d:=λi:Nat=>.int i) (λZ=>rfl) (λk=>mD k) ha hb
theorem V2(hC:C.call=az (n+1))(b:lR H r q l lm lw B B')(h:∀H',aA H H'->aN C rest (bR l lm lw B B' v2 v3 v4 v5 v6 v9) H' K):aN C (CP::rest) (bR l lm lw B B' v2 v3 v4 v5 v6 v9) H K:=by
 obtain⟨z,b1⟩:=b.one
 refine lM (uf (V1 (qt (yV (n:=n) (j:=7) hC b1 b.l1 rfl λa1 a2 a3 H1 x1 V3=>bS (v:=iQ l lm lw) rfl (ay (a:=false) (congrArg (Option.map (!·)) (T3 V3 (b.ext x1).at')) (ay (a:=false) rfl (fV rfl ?_)))))))
 have c1:=b.ext x1
 obtain⟨z',b2⟩:=c1.two
 refine B4 (qt (fD (yV (n:=n) (j:=8) hC b2 c1.l2 rfl λd1 d2 d3 H2 x2 at2=>ct (ay (a:=.ref d1) rfl (fD (bS (v:=iQ l lm lw) rfl (ct (ay (a:=.ref l) rfl ?_))))))))
 have c2:=c1.ext x2
 have e2:eQ .ne (.ref d1) (.ref l) H2=some false:=at2 _ λp1 Z Z=>c2.at' _ λq1 Z Z=>CF (f:=bL) (d:=sf) (l:=r.ps) (λp=>HR p) HN (b.ps▸p1) q1
 refine ay e2 (ay (a:=false) rfl (fV rfl ?_))
 obtain⟨z3,b3⟩:=c2.two
 refine qt (yW (n:=n) (j:=8) hC b3 c2.l2.1 rfl ?_)
 have c3:=c2.ext (aA.aU _ [aT.list (aW (cY q.ps))])
 obtain⟨z4,b4⟩:=c3.one
 refine yW (n:=n) (j:=7) hC b4 c3.l1.1 rfl ?_
 refine ay (a:=false) (JC (ks:=cY r.ps) (by rw[b.ps];exact be _ (bu _ _)) (bu _ _)) (ay (a:=false) rfl (fq rfl ?_))
 exact h _ (((x1.trans x2).trans (aA.aU _ _)).trans (aA.aU _ _))
theorem JD{α:Type}{f:α->V}{key:α->List Int}{d:α->PyData}{k k':List α}{e1 e2:E}(hk:∀a,KV m (f a) (key a))(hr:∀(H:Hp) x,rd H 9 (f x)=some (d x))(he:∀x,PyData.eqv (d x) (d x)=true)(nd:k.Pairwise λa b=>key a≠key b)(hp:k'.Perm k)(hl:k.length<64)
  (h1:∀Q':PQ,(∀a H',aA H H'->H'[a]?=some (.list (k'.map f))->Q' (.ref a) H')->WE C e1 ρ H Q') (h2:∀H0,aA H H0->∀Q':PQ,(∀a,H0[a]?=some (.list (k.map f))->Q' (.ref a) H0)->WE C e2 ρ H0 Q') (q:∀H',aA H H'->Q (.bool false) H'):WE C (.cmp .ne (.bi (.jF m) [e1]) (.bi (.jF m) [e2])) ρ H Q:=by
 have V4:=(hp.symm.pairwise_iff (R:=λa b=>key a≠key b) λ{a b} h=>Ne.symm h).mp nd
 refine qt (JB (h1 _ λa H1 x1 a1=>ay (cA a1) (Jm hk (hp.length_eq▸hl) (List.pairwise_map.mpr V4) λjs p s=>jZ (JB (h2 _ (x1.trans (aA.aU _ _)) _ λb b1=>ay (cA b1) (Jm hk hl (List.pairwise_map.mpr nd) λww p' s'=>jZ ?_))))))
 have e:=VC hk nd hp p s p' s'
 obtain⟨k2,e2⟩:=Jn (f:=f) (l:=k) (js:=ww) λv hv=>p'.mem_iff.mp hv
 subst e
 subst e2
 exact ay (CF (hr _) he (be _ (bu _ _)) (bu _ _)) (q _ ((x1.trans (aA.aU _ _)).trans (aA.aU _ _)))
noncomputable abbrev CQ:S:=.bz (.or [(.cmp .ne (.bi (.jF 2) [(.aM (.cx l7 (.J 8) []) (.k (.int 1)))]) (.bi (.jF 2) [(.aM (.J 1) (.k (.int 1)))])),(.cmp .ne (.bi (.jF 1) [(.aM (.cx l7 (.J 8) []) (.k (.int 2)))]) (.bi (.jF 1) [(.aM (.J 1) (.k (.int 2)))]))])
  [.ret (.k (.bool false))]
  []
theorem V5(hC:C.call=az (n+1))(b:lR H r q l lm lw B B')(rr:gU r)(hw:r.ws.Pairwise jc)(h:∀H',aA H H'->aN C rest (bR l lm lw B B' v2 v3 v4 v5 v6 v9) H' K):aN C (CQ::rest) (bR l lm lw B B' v2 v3 v4 v5 v6 v9) H K:=by
 refine lM (uf (B4 (JD VD (d:=mC) (λZ w=>HS w) HO ((Ji rr).imp λ{a b} h=>VF h) b.ms (lt_of_le_of_lt b.hl.2.1 (by decide)) (λQ' hq=>?_) (λH0 x0 Q' hq=>?_) λH1 x1=>ay (a:=false) rfl (fV rfl ?_))))
 ·obtain⟨z,b2⟩:=b.two
  exact fD (yV (n:=n) (j:=8) hC b2 b.l2 rfl λd1 d2 d3 H2 x2 at2=>ct (ay (a:=.ref d2) rfl (at2 _ λZ p2 Z=>hq d2 H2 x2 p2)))
 ·exact fD (bS (v:=iQ l lm lw) rfl (ct (ay (a:=.ref lm) rfl ((b.ext x0).at' _ λZ p2 Z=>hq lm p2))))
 have c:=b.ext x1
 refine JD VE (d:=sh) (λZ w=>HT w) HP (hw.imp λ{a b} h=>VG h) b.ws (lt_of_le_of_lt b.hl.2.2 (by decide)) (λQ' hq=>?_) (λH0 x0 Q' hq=>?_) λH2 x2=>ay (a:=false) rfl (fq rfl (h _ (x1.trans x2)))
 ·obtain⟨z,b2⟩:=c.two
  exact fD (yV (n:=n) (j:=8) hC b2 c.l2 rfl λd1 d2 d3 H2 x2 at2=>ct (ay (a:=.ref d3) rfl (at2 _ λZ Z p3=>hq d3 H2 x2 p3)))
 ·exact fD (bS (v:=iQ l lm lw) rfl (ct (ay (a:=.ref lw) rfl ((c.ext x0).at' _ λZ Z p3=>hq lw p3))))
noncomputable abbrev CR:S:=.for (.J 9) (.of (.cx kR (.J 7) []))
  [.bz (.cmp .ne (.cx qF (.J 7) [.J 9]) (.cx qF (.J 8) [.J 9]))
   [.ret (.k (.bool false))]
   []]
theorem V6(hC:C.call=az (n+3))(b:lR H r q l lm lw B B')(rr:gU r)(hw:r.ws.Pairwise jc)(h:∀v9 H',aA H H'->aN C rest (bR l lm lw B B' v2 v3 v4 v5 v6 v9) H' K):aN C (CR::rest) (bR l lm lw B B' v2 v3 v4 v5 v6 v9) H K:=by
 obtain⟨z,b1⟩:=b.one
 refine r8 (nJ (yW (n:=n+2) (j:=7) hC b1 b.l1.1 rfl ?_))
 have an:=bu H (.list (aW (cY r.ps)))
 refine ay (dg an) ?_
 have x0:=aA.aU H [aT.list (aW (cY r.ps))]
 refine e8 (g:=nv) (λas ρ H'=>(∃v9,ρ=bR l lm lw B B' v2 v3 v4 v5 v6 v9)/\aA (H++[aT.list (aW (cY r.ps))]) H'/\∀k∈as,k∈cY r.ps) (λk as ρ H' hI=>?_) (λρ H' hI=>?_) _ _ _ ⟨⟨v9,rfl⟩,aA.refl _,λZ h=>h⟩
 ·obtain⟨⟨v9,rfl⟩,x,hk⟩:=hI
  refine ay (a:=bR l lm lw B B' v2 v3 v4 v5 v6 (some (nv k))) rfl λN hN=>?_
  have BN:=hk k mem_cons_self
  have c1:=b.ext (x0.trans x)
  obtain⟨z1,d1⟩:=c1.one
  refine lM (ue (JA (n:=n) (j:=7) (i:=9) (C:=C.xq) hC d1 BN rfl rfl λla H1 x1 e1=>?_))
  have c2:=c1.ext x1
  obtain⟨z2,d2⟩:=c2.two
  refine JA (n:=n) (j:=8) (i:=9) (C:=C.xq) hC d2 (by rw[b.ps];exact BN) rfl rfl λlb H2 x2 e2=>?_
  rw[VB rr hw b.ps b.ms b.ws] at e2
  have x3:=(x.trans x1).trans x2
  exact ay (VQ (e1.ext x2) e2) (fq rfl (hN _ _ (cV an (x3 _ _ an)) ⟨⟨_,rfl⟩,x3,λk h=>hk k (.tail _ h)⟩))
 ·obtain⟨⟨v9,rfl⟩,x,hk⟩:=hI
  exact h v9 H' (x0.trans x)
theorem V7{ps:List aE}(hA:H[l]?=some (.list (ps.map bL)))(hl:ps.length<=60)(q:Q (.ref H.length) (H++[.list (aW (cY ps))])):az (n+1) uD [.ref l] H Q Y:=Rg (by
 unfold zG
 refine B2 (nI (yF (ct (HL rfl hA ?_))))
 rw[length_map]
 refine oH (lt_of_le_of_lt hl (by decide)) ?_
 refine dj (du (by rw[length_map,length_range];exact lt_of_le_of_lt hl (by decide))) ?_
 refine jT (P:=eW ps) (F:=nv) _ _ _ (λa ha T hT=>?_) (λa Z Z N hN=>hN) q
 refine(at_of (mem_range.mp ha)).elim λp hp=>?_
 refine(?_:aH (gB (.ref l) (nv a) H) _)
 refine ay (e7 hA hp) ?_
 unfold eW at hT
 rw[hp] at hT
 have hT:T p.bA.isSome H:=hT
 unfold bL
 cases hd:p.bA with
 |none=>rw[hd] at hT;exact hT
 |some d=>rw[hd] at hT;exact hT)
noncomputable abbrev CS:S:=.ret (.cmp .eq (.cx kR (.J 7) []) (.call uD [(.aM (.J 1) (.k (.int 0)))]))
theorem CT{f:Nat}{x:E}(h:WE C x ρ H λu H=>C.call f [u] H Q C.exc):WE C (.call f [x]) ρ H Q:=h
theorem V8(hC:C.call=az (n+1))(b:lR H r q l lm lw B B')(h:∀H',K (.ret (.bool true) H')):aN C (CS::rest) (bR l lm lw B B' v2 v3 v4 v5 v6 v9) H K:=by
 obtain⟨z,b1⟩:=b.one
 refine B2 (qt (yW (n:=n) (j:=7) hC b1 b.l1.1 rfl ?_))
 have c:=b.ext (aA.aU H [aT.list (aW (cY r.ps))])
 refine CT (fD (bS (v:=iQ l lm lw) rfl (ct (ay (a:=.ref l) rfl ?_))))
 refine(?_:C.call uD [.ref l] _ _ C.exc)
 rw[hC]
 refine c.at' _ λp1 Z Z=>V7 p1 b.l1.1 ?_
 have e:=JC (be _ (bu H (.list (aW (cY r.ps))))) (bu (H++[.list (aW (cY r.ps))]) (.list (aW (cY r.ps))))
 have e':eQ .eq (.ref H.length) (.ref (H++[aT.list (aW (cY r.ps))]).length) (H++[aT.list (aW (cY r.ps))]++[aT.list (aW (cY r.ps))])=some true:=by
  obtain⟨t,ht,hf⟩:=map_eq_some_iff.mp (show(eQ .eq _ _ _).map (!·)=some false from e)
  rw[ht]
  cases t with
  |true=>rfl
  |false=>cases hf
 exact ay e' (h _)
end
end Mine.L
namespace Mine.L
variable{Y:PQ}
open Mine.P PySem
section
variable{n l lm lw ldd lt m B B' j i:Nat}{H:Hp}{Q:PQ}{K:Out->Prop}{rest:List S}{C:Ct}{r q:bC}{ρ:aO}{vs ts:List V}{P:Nat->Prop}{as:List ci}{v1 v2 v3 v4 v5 v6 v7 v8 v9:Option V}
theorem V9{e:E}(h:WE C e ρ H λx H=>aH (kU H x) λl=>Q (.int l.length) H):WE C (.bi .len [e]) ρ H Q:=h
theorem JE(hl:r.ps.length<=60/\r.ms.length<=60/\r.ws.length<=60):(gV r).length<=240:=by
 have h1:(mH r.ps).length<=60:=by
  unfold mH cY
  rw[length_map]
  exact le_trans (length_filter_le _ _) (by rw[length_range];exact hl.1)
 have h2:(j1 r.ps (List.range r.ps.length)).length<=60:=by
  unfold j1
  exact le_trans (List.length_filterMap_le _ _) (by rw[length_range];exact hl.1)
 unfold gV
 rw[length_append,length_append,length_append,length_map,length_map]
 lia
theorem Wa(hl:r.ps.length<=60/\r.ms.length<=60/\r.ws.length<=60):(kL r).length<=300:=by
 have:=JE hl
 rw[wq,length_append,length_map]
 lia
noncomputable abbrev CU:S:=.aS (.J 2) (.call uF [.J 1])
noncomputable abbrev CV:S:=.aS (.J 3) (.bi .len [(.aM (.J 1) (.k (.int 0)))])
noncomputable abbrev CW:S:=.aS (.J 7) (.new qD)
noncomputable abbrev CX:S:=.aS (.J 8) (.new qD)
theorem l2(hC:C.call=az (n+1))(at':g5 H r l lm lw)(ok:dA r)(hl:r.ps.length<=60/\r.ms.length<=60/\r.ws.length<=60)(h:∀vs ldd H',aA H H'->H'[ldd]?=some (.list vs)->bP (dv (Bn H.length ldd) H') (kL r) vs->aN C rest (vR (some (iQ l lm lw)) (some (.ref ldd)) v3 v4 v5 v6 v7 v8 v9) H' K):aN C (CU::rest) (vR (some (iQ l lm lw)) v2 v3 v4 v5 v6 v7 v8 v9) H K:=at' _ λap am aw=>ok _ λwf len cJ cC=>by
 refine fW (CT (bS (v:=iQ l lm lw) rfl ?_))
 refine(?_:C.call uF [iQ l lm lw] H _ C.exc)
 rw[hC]
 exact U8 ⟨cb ap,cb aw⟩ at' ⟨hl.1,le_trans hl.2.1 (by decide),le_trans hl.2.2 (by decide)⟩ wf (λw hw=>(cC w hw) _ λgk Z Z Z Z Z Z Z Z Z Z=>gk.2) λvs ld H' x Z a d=>ay rfl (h vs ld H' x a d)
theorem l3(at':g5 H r l lm lw)(h:aN C rest (vR (some (iQ l lm lw)) v2 (some (nv r.ps.length)) v4 v5 v6 v7 v8 v9) H K):aN C (CV::rest) (vR (some (iQ l lm lw)) v2 v3 v4 v5 v6 v7 v8 v9) H K:=at' _ λap am aw=>fW (V9 (fD (bS (v:=iQ l lm lw) rfl (ct (ay (a:=.ref l) rfl (ay (cA ap) (by rw[length_map];exact ay rfl h)))))))
theorem cD.len{z:Nat->Prop}(b:cD z B H r):B+5<H.length:=b _ λld ep vf es a0 a1 ap am aw ad hd de dk=>lt_of_le_of_lt hd.1 (cb ad)
theorem l8(hC:C.call=az (n+1))(h:∀H1 H2,aA H H1->aA H1 H2->cD (λZ=>False) H.length H1 ⟨[],[],[]⟩->cD (λZ=>False) H1.length H2 ⟨[],[],[]⟩->aN C rest (vR v1 v2 v3 v4 v5 v6 (some (.ref (H.length+1))) (some (.ref (H1.length+1))) v9) H2 K):aN C (CW::CX::rest) (vR v1 v2 v3 v4 v5 v6 v7 v8 v9) H K:=
 fW (Ir (n:=n) hC λH1 x1 b1=>ay rfl (fW (Ir (n:=n) hC λH2 x2 b2=>ay rfl (h H1 H2 x1 x2 b1 b2))))
theorem Wb(hC:C.call=az (n+72))(at':g5 H r l lm lw)(ok:dA r)(rr:gU r)(hw:r.ws.Pairwise jc)(hl:r.ps.length<=60/\r.ms.length<=60/\r.ws.length<=60)(q:∀H',K (.ret (.bool true) H')):aN C (CU::CV::CJ::CL::CM::CN::CW::CX::CO::CP::CQ::CR::CS::rest) (vR (some (iQ l lm lw)) v2 v3 v4 v5 v6 v7 v8 v9) H K:=by
 have fS:r.ps.length<=60/\r.ms.length<=1000/\r.ws.length<=1000:=⟨hl.1,le_trans hl.2.1 (by decide),le_trans hl.2.2 (by decide)⟩
 have atx:∀{H':Hp},aA H H'->g5 H' r l lm lw:=λx=>at' _ λa b c=>.mk (x _ _ a) (x _ _ b) (x _ _ c)
 have ol:=JE hl
 refine l2 (n:=n+71) hC at' ok hl λvs ldd H1 x1 ad hd=>?_
 have vl:vs.length<=10000:=by rw[hd.len];exact le_trans (Wa hl) (by decide)
 refine l3 (atx x1) (l4 ad hd vl hl.1 λlt H2 x2 o2=>?_)
 have Wc:=o2
 obtain⟨ts,as,et,_,dt,pt⟩:=Wc
 have tl:ts.length<=10000:=by rw[dt.len,pt.length_eq];exact le_trans ol (by decide)
 refine l5 (n:=n+71) hC et λm hm=>o2.turn tl et hm λW7 H3 x3 o3=>oW.back (n:=n+71) hC o3 (le_trans ol (by decide)) λW8 H4 x4 o4=>l8 (n:=n+71) hC λH5 H6 x5 x6 b1 b2=>?_
 have CY:=((x2.trans x3).trans x4).trans (x5.trans x6)
 have um:=(x2.trans x3).trans x4
 have n1:=b1.len
 have n2:=b2.len
 obtain⟨Wd,We,Wf,Wg,Wh,Wi⟩:=o4
 refine V0 (n:=n) (z:=λl=>H5.length<=l/\l<H5.length+5) hC ⟨le_of_lt n1,le_of_lt n2⟩ (b1.start x6 (λl h=>.inr h.1) λl h=>by lia) (λl h1 h2=>⟨h1,h2⟩) b2 (CY _ _ ad) (sG hd λl c Z a=>⟨cb (um _ _ a),CY _ _ a⟩) ⟨Wd,We,(x5.trans x6) _ _ Wf,Wg,sG Wh λl c h a=>⟨h,(x5.trans x6) _ _ a⟩,Wi⟩ ⟨vl,cb (um _ _ ad),hl.1⟩ (VS ok rr fS) (λas h=>VW ok rr hw fS h) λz z' q2 H7 hq low c1 c2=>?_
 have Wj:g5 H7 r l lm lw:=at' _ λa b c=>by
  have up:∀{l c},H[l]?=some c->H7[l]?=some c:=λ{l c} h=>low l c (cb ((x1.trans um) _ _ h)) ((x1.trans CY) _ _ h)
  exact .mk (up a) (up b) (up c)
 have bk:lR H7 r q2 l lm lw H4.length H5.length:=⟨⟨_,c1⟩,⟨_,c2⟩,Wj,hq.1,hq.2.1,hq.2.2,hl⟩
 refine V2 (n:=n+71) hC bk λH8 x8=>V5 (n:=n+71) hC (bk.ext x8) rr hw λH9 x9=>V6 (n:=n+69) hC (bk.ext (x8.trans x9)) rr hw λv9 H10 oK=>?_
 exact V8 (n:=n+71) hC (bk.ext ((x8.trans x9).trans oK)) q
theorem Wk(q:∀H',Q (.bool true) H'):az (n+73) qC [.fR] H Q Y:=Rm (by
 refine(?_:aN ⟨az (n+72),xq Y⟩ (.aS (.J 1) (.call uG [(.call uC [.J 0,(.k (.int 9))])])::CU::CV::CJ::CL::CM::CN::CW::CX::CO::CP::CQ::CR::CS::[]) (vR none none none none none none none none none) H (bH Q))
 refine fW (CT (se (bS (v:=.fR) rfl (ct ?_))))
 refine(?_:az (n+72) uC [.fR,nv 9] H _ _)
 refine T4 (n:=n+68) (b:=9) (by decide) (by decide) λr l lm lw H1 ok rr h0 h9 hm hw at' x1=>?_
 refine(?_:az (n+72) uG [iQ l lm lw] H1 _ _)
 refine VJ (n:=n+71) at' hw λus la H2 x2 at2 hu hp Wl=>?_
 refine ay (a:=vR (some (iQ l lm la)) none none none none none none none none) rfl ?_
 exact Wb (n:=n) (C:=⟨az (n+72),xq Y⟩) (r:=⟨r.ps,r.ms,us⟩) rfl at2 (ok _ λwf len cJ cC=>.mk wf len cJ λw hw=>cC w (hu w hw)) ⟨rr.1,rr.2.1,λw hw=>rr.2.2 w (hu w hw)⟩ hp ⟨le_trans h9 (by decide),hm,Wl⟩ q)
end
end Mine.L
set_option tactic.hygienic true
section
open PySem PySem.W PyProof.Rows
namespace Mine
theorem Wm{c:ClaimW}{cl:Str->Option Addr}{mean:ExcName->Option Value}{args:List WData}{bU:Shared}{h':Heap}{tk:Nat}(hk:∀b o,bU.heap.get? b=some o->h'.get? b=some o)(hg:bU.gens=#[])
  (hn:∀cls,c.raises args cls=false) (hp:c.post args (.bool true) args=true):GoodWG c cl mean args bU (.ok (.ret (.bool true))) {bU with heap:=h',toks:=tk}:=
 ⟨.inl ⟨_,_,_,rfl,hn,.bool true,hp,λZ=>⟨.nil,λZ ha=>nomatch ha⟩⟩,⟨λb o e=>.inl (hk b o e),λb o e=>⟨o,hk b o e⟩⟩,rfl,.of_eq hg⟩
noncomputable def sH:Hook:=⟨Heap,λs=>s.heap,λw=>H.H1 w.params,λw h=>∀b o,(H.H1 w.params).get? b=some o->h.get? b=some o,λw s e=>e▸λZ Z x=>x,λw h h' x k b o e=>k b o (x b o e)⟩
theorem left:LeftO H.pp H.qv H.lo H.Xt (Hook.obs sH) (Hook.val sH) 20000:=
 LeftO.of_pieces (H₀:=boot_heap) (H₁:=H.H1) (m₀:=11) (ann:=H.an) H.QA H.size H.run (by decide) λw=>funext λos=>H.pr (H.k1 w os) (H.pr (H.sn w os) rfl)
end Mine
set_option maxHeartbeats 40000000 in
theorem Mine.ws:PySem.Challenge.rw_uf020001_13.wellSaid=true:=by
 unfold OpenLaw.wellSaid OpenRow.wellSaid OpenRow.partSaid
 repeat' with_reducible refine look_both ?_ ?_
 all_goals decide +kernel
set_option maxHeartbeats 40000000 in
theorem PySem.Challenge.cw_uf020001_13_holds : PySem.Challenge.rw_uf020001_13.Holds := by
 w_on
 refine holds_law Mine.ws λsaid=>?_
 refine holds_open (q:=Mine.H.qv) (loose:=Mine.H.lo) (Xt:=Mine.H.Xt) (XP:=XL Mine.H.qv Mine.H.lv) (Yf:=Hook.obs Mine.sH) (Ya:=Hook.val Mine.sH) (YP:=Hook.says Mine.sH) (N:=20000) Mine.left Mine.sH.of Mine.sH.keeps (λs e=>xl_of s (and_eq_true_iff.mp e).1) XL.keeps (d:=Mine.H.rK) (kwd:=[]) Mine.H.d1 Mine.H.d2 Mine.H.d3 (λs e=>recFacts_of (and_eq_true_iff.mp e).2) (by rfl) said (by decide +kernel) ⟨rfl,rfl,rfl,rfl,rfl,by decide +kernel⟩ ?hw ?hc
 case hw=>w_witness2
 intro w Al bU mg mb G Y fa o pm cd doc dV kV ho hd tF hD Wn hg args vals as wl Wo Wp mv Wq
 refine Ground.open G ?_
 intro T B D TE TW
 wrow_args wl Wo Wp mv Wq
 rename_i ns _ _ _ _ _ _ _ jk vs _ hL _ _ _ hI _ hc _
 refine Mine.Qt (Pr:=w.params) T Y ?_ Mine.KX ?_ ?_ rfl hL hI ?_ rfl Wn (Mine.L.Wk (n:=0) λZ=>rfl) ?_
 ·kernel_rfl
 ·decide +kernel
 ·decide +kernel
 ·omega
 ·intro h' tk hk
  exact Mine.Wm hk hg (λZ=>rfl) (by with_unfolding_all rfl)
end
