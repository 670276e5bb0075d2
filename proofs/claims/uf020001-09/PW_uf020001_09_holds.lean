import PyProof.Rows.All
import Wide.All
import Open.Line
import Wide.FinOn
import PyProof.Claim2
import PyProof.P3Statements
import PyProof.Methods
import PyProof.NoPylong
import PyProof.CodeObjX
import PyProof.Ends
import PyProof.Rows.TupIn
import PyProof.Seq
import PyProof.Cells
import PyProof.TupleIter
import PyProof.PlainList
import PyProof.DictRoads
import PyProof.DictKinds
import PyProof.DictIter
import PyProof.DictRoadsH
import PyProof.EqKinds
import PyProof.DictTruth
import PyProof.EqAt
import PyProof.DictWalks
import PyProof.CompFree
import PyProof.SliceSyntax
import PyProof.SliceList
import PyProof.Rows.TupMore
import KE.LcSums
import PyProof.MinMaxWalk
import PyProof.WalkInts
import PyProof.TupleOfSeq
import PyProof.Conv_int_bool
import PyProof.Rows.SortWalk
import PyProof.Rows.CallKwBuiltin
import PyProof.DictDisplay
import PyProof.ListRange
import PyProof.ListNew
import PyProof.Rows.TupDisplay
import PyProof.DefMake
import PySem.SetOps
import PyProof.SetKind
import PyProof.IsRules
import PyProof.Rows.SetFrom
import PyProof.Rows.SortRuns
import PyProof.Rows.RuleB_bool
import PyProof.Rows.SortShell
import PyProof.CollectWalk
import PySem.Challenge.RW_uf020001_09
set_option Elab.async false
set_option compiler.extract_closed false
set_option genSizeOfSpec false
set_option genSizeOf false
set_option genInjectivity false
set_option autoImplicit false
set_option linter.unusedVariables false
set_option linter.unusedSimpArgs false
set_option maxRecDepth 100000
set_option tactic.hygienic false
open Nat(le_trans lt_of_le_of_lt le_refl lt_of_lt_of_le le_of_lt ne_of_lt zero_le ne_of_gt not_lt le_of_lt_succ le_add_right le_of_eq succ_pos succ_le_succ zero_add lt_trans lt_succ_self add_comm lt_succ_of_lt not_lt_zero lt_irrefl le_succ add_le_add lt_or_ge sub_self mul_le_mul_left add_right_comm sub_le le_antisymm add_le_add_left le_add_left lt_succ_of_le min_eq_left add_le_add_right le_of_succ_le add_assoc mul_comm le_total add_sub_cancel' add_sub_cancel_left mul_le_mul_right not_le lt_or_eq_of_le succ_ne_self min_self pos_of_ne_zero mod_lt lt_trichotomy lt_of_le_of_ne mul_pos mul_assoc sub_add_cancel pow_le_pow_right min_le_right le_zero one_mul pow_pos sub_succ succ_add sub_lt pow_succ zero_mul)
open List(length_map mem_map mem_cons_self mem_singleton length_append mem_cons mem_append mem_filter getElem?_map mem_range length_cons getElem?_eq_getElem size_toArray append_nil map_append mem_of_getElem? map_map length_range nodup_nil nodup_cons map_cons not_mem_nil isEmpty_map any_eq_true replicate nodup_append lookup_cons eq_nil_of_length_eq_zero all_eq_true append_assoc getElem?_toArray forIn_cons Perm ne_nil_of_mem mergeSort_perm getElem?_append_left getElem?_eq_none foldl_cons filter_cons getElem?_append_right drop_eq_nil_iff length_drop length_filter_le range' drop_eq_getElem_cons length_nil filter_nil map_nil getElem?_nil drop_zero length_take pairwise_map Pairwise getElem?_of_mem map_eq_nil_iff mem_append_right countP_cons flatMap_cons mem_flatMap any_cons getElem?_range length_singleton nodup_range mem_of_find?_eq_some getD_eq_getElem?_getD sum_cons nil_append find?_cons length_set getElem?_set_ne contains_iff_mem ext_getElem? flatMap_nil any_map foldl_nil length_pos_iff filter drop_nil getElem_mem forIn_nil of_mem_zip take_length tail countP)
open PySem.Heap(get?_push_of_some get?_push_size SameBut lt_size get?_update_self ExtBut size_push)
open Array(length_toList getElem?_toList size_map mem_toList_iff size_zip toList_push)
open Bool(and_eq_true_iff or_eq_true_iff not_eq_true' not_eq_true false_eq_true or_eq_true toNat_le)
open Int(ofNat_lt natCast_nonneg ofNat_le gcd ofNat toNat_natCast natAbs_mul toNat_lt mul_one sub_zero)
open Classical(byContradiction propDecidable skolem)
open Option(or_none)
namespace Mine
open PySem
noncomputable abbrev mk:Str:="_law_root"
inductive V where
 |none
 |bool (b:Bool)
 |int (i:Int)
 |str (s:Str)
 |aP (vs:List V)
 |ref (l:Nat)
 |g7
 deriving Inhabited
inductive bc where
 |list (vs:List V)
 |dict (ep:Nat) (es:List (Int×V))
 |cD (ep:Nat) (es:List ((Int×Bool)×V))
 |tab
 deriving Inhabited
noncomputable def sT:V->Bool
 |.none=>true
 |_=>false
noncomputable instance:DecidableEq V:=λa b=>propDecidable (a=b)
noncomputable instance:DecidableEq bc:=λa b=>propDecidable (a=b)
noncomputable abbrev Hp:=List bc
noncomputable abbrev aV:=List (Option V)
inductive Out where
 |next (ρ:aV) (h:Hp)
 |ret (v:V) (h:Hp)
inductive kI where|add|sub|mul|fdiv|mod|pow
 deriving DecidableEq
inductive kJ where|eq|ne|lt|le|gt|d3|fR
inductive Ty where|int|bool|tuple|list|str
inductive Bi where
 |len|iv (t:Ty)|sU|any|max2|mV|tupleOf|sortI|qN|sV
inductive Me where
 |append|lu|clear
set_option genSizeOf true in
set_option genSizeOfSpec true in
inductive cV where
 |U (i:Nat)
 |aP (ts:List cV)
mutual
inductive E where
 |k (v:V)
 |U (i:Nat)
 |gk (j:Nat)
 |bin (op:kI) (a b:E)
 |neg (a:E)
 |not (a:E)
 |and (es:List E)
 |or (es:List E)
 |cmp (op:kJ) (a b:E)
 |sW (op mW:kJ) (a b c:E)
 |isNone (y:Bool) (a:E)
 |aP (es:List E)
 |bE (es:List E)
 |aU (a i:E)
 |dT (a:E) (lo hi:Option E)
 |call (f:Nat) (es:List E)
 |bi (b:Bi) (es:List E)
 |dP (m:Me) (a:E) (es:List E)
 |comp (nl:Nat) (elt:E) (t:cV) (it:It) (cs:List E)
 |listOf (e:E)
 |sX (e:E)
 |mX
 |lx
 |sY (a b:E)
 |sZ (a b:E)
 |mY (a:E) (i:Nat)
 |l3 (t:Bool) (a:E)
inductive It where
 |of (e:E)
 |range (a b:E)
 |i4 (e:E)
end
inductive S where
 |expr (e:E)
 |aX (t:cV) (e:E)
 |g8 (a i e:E)
 |ret (e:E)
 |bD (c:E) (a b:List S)
 |for (t:cV) (it:It) (body:List S)
 |while (c:E) (body:List S)
 |bad
noncomputable abbrev PQ:=V->Hp->Prop
noncomputable abbrev Cl:=Nat->List V->Hp->PQ->Prop
structure Fn where
 name:Str
 np:Nat
 nl:Nat
 body:List S
structure CK where
 mZ:List Str
 u6:List Str
 oW:Str
 ln:Nat
 lm:Nat
structure Sn where
 sc:Scope
 ns:List Str
end Mine
section
namespace Mine.P
open PySem
noncomputable abbrev kK:Nat:=0
noncomputable abbrev s3:Nat:=1
noncomputable abbrev oX:Nat:=2
noncomputable abbrev oY:Nat:=3
noncomputable abbrev yb:Nat:=4
noncomputable abbrev yc:Nat:=5
noncomputable abbrev yd:Nat:=6
noncomputable abbrev l4:Nat:=7
noncomputable abbrev u7:Nat:=8
noncomputable abbrev u9:Nat:=9
noncomputable abbrev oZ:Nat:=10
noncomputable abbrev s4:Nat:=11
noncomputable abbrev vb:Nat:=12
noncomputable abbrev qO:Nat:=13
noncomputable abbrev vc:Nat:=14
noncomputable abbrev ye:Nat:=15
noncomputable abbrev yf:Nat:=16
noncomputable abbrev yg:Nat:=17
noncomputable abbrev yh:Nat:=18
noncomputable abbrev yi:Nat:=19
noncomputable abbrev yj:Nat:=20
noncomputable abbrev vd:Nat:=21
noncomputable abbrev jZ:Nat:=22
noncomputable abbrev qP:Nat:=23
noncomputable abbrev qQ:Nat:=24
noncomputable abbrev s5:Nat:=25
noncomputable abbrev yk:Nat:=26
noncomputable abbrev yl:Nat:=27
noncomputable abbrev iO:Nat:=28
noncomputable abbrev j0:Nat:=29
noncomputable abbrev m0:Nat:=30
noncomputable abbrev ym:Nat:=31
noncomputable abbrev ve:Nat:=32
noncomputable abbrev s6:Nat:=33
noncomputable abbrev yn:Nat:=34
noncomputable abbrev yo:Nat:=35
noncomputable abbrev yq:Nat:=36
noncomputable abbrev vf:Nat:=37
noncomputable abbrev o0:Nat:=38
noncomputable abbrev Vs:Nat:=39
noncomputable abbrev vg:Nat:=40
noncomputable abbrev vh:Nat:=41
noncomputable abbrev l5:Nat:=42
noncomputable abbrev yr:Nat:=43
noncomputable abbrev vi:Nat:=44
noncomputable abbrev yt:Nat:=45
noncomputable abbrev vj:Nat:=46
noncomputable abbrev vk:Nat:=47
noncomputable abbrev pd:Nat:=48
noncomputable def IQ:List Str:=["people","person","day","born","parents","adopted","died"]
noncomputable def B9:List S:=
 [.aX (.aP [.U 3,.U 4,.U 5,.U 6]) (.aU (.U 0) (.U 1)),
  .ret (.and [(.cmp .le (.U 3) (.U 2)),(.or [(.isNone true (.U 6)),(.cmp .lt (.U 2) (.U 6))])])]
noncomputable def IR:List Str:=["people","person","day","born","parents","adopted","died"]
noncomputable def Ca:List S:=
 [.aX (.aP [.U 3,.U 4,.U 5,.U 6]) (.aU (.U 0) (.U 1)),
  .bD (.and [(.isNone false (.U 5)),(.cmp .le (.aU (.U 5) (.k (.int 0))) (.U 2))])
  [.ret (.aU (.U 5) (.k (.int 1)))]
  [],
  .ret (.U 4)]
noncomputable def IS:List Str:=["people","person","day","found","child"]
noncomputable def Cb:List S:=
 [.aX (.U 3) (.bE []),
  .for (.U 4) (.range (.k (.int 0)) (.bi .len [.U 0]))
  [.bD (.and [(.cmp .le (.aU (.aU (.U 0) (.U 4)) (.k (.int 0))) (.U 2)),(.cmp .d3 (.U 1) (.call s3 [.U 0,.U 4,.U 2]))])
   [.expr (.dP .append (.U 3) [.U 4])]
   []],
  .ret (.U 3)]
noncomputable def IT:List Str:=["people","person","day","child"]
noncomputable def Cc:List S:=
 [.bD (.call kK [.U 0,.U 1,.U 2])
  [.ret (.k (.bool true))]
  [],
  .for (.U 3) (.of (.call oX [.U 0,.U 1,.U 2]))
  [.bD (.call oY [.U 0,.U 3,.U 2])
   [.ret (.k (.bool true))]
   []],
  .ret (.k (.bool false))]
noncomputable def IU:List Str:=["people","state","day","person","down","found"]
noncomputable def Cd:List S:=
 [.aX (.aP [.U 3,.U 4]) (.U 1),
  .aX (.U 5) (.comp 1 (.aP [.U 0,(.k (.bool true))]) (.U 0) (.of (.call oX [.U 0,.U 3,.U 2])) []),
  .bD (.not (.U 4))
  [.aX (.U 5) (.bin .add (.U 5) (.comp 1 (.aP [.U 0,(.k (.bool false))]) (.U 0) (.of (.call s3 [.U 0,.U 3,.U 2])) []))]
  [],
  .ret (.U 5)]
noncomputable def IV:List Str:=["people","known","ways","day","found","state","other","way"]
noncomputable def Ce:List S:=
 [.aX (.U 4) .lx,
  .for (.U 5) (.of (.U 2))
  [.for (.U 6) (.of (.call yb [.U 0,.U 5,.U 3]))
   [.aX (.U 7) (.bin .add (.aU (.U 2) (.U 5)) (.bE [(.aU (.U 6) (.k (.int 0)))])),
    .bD (.and [(.cmp .fR (.U 6) (.U 1)),(.or [(.cmp .fR (.U 6) (.U 4)),(.cmp .lt (.U 7) (.aU (.U 4) (.U 6)))])])
    [.g8 (.U 4) (.U 6) (.U 7)]
    []]],
  .ret (.U 4)]
noncomputable def IW:List Str:=["people","person","day","ways","known","heirs","state","heir"]
noncomputable def vl:List S:=
 [.aX (.U 3) (.sZ (.aP [.U 1,(.k (.bool false))]) (.bE [.U 1])),
  .aX (.U 4) .lx,
  .aX (.U 5) .mX,
  .while (.and [(.cmp .eq (.U 5) .mX),(.cmp .ne (.U 3) .mX)])
  [.for (.U 6) (.of (.U 3))
   [.g8 (.U 4) (.U 6) (.k (.bool true))],
   .aX (.U 3) (.call yc [.U 0,.U 4,.U 3,.U 2]),
   .for (.U 6) (.of (.U 3))
   [.aX (.U 7) (.aU (.U 6) (.k (.int 0))),
    .bD (.and [(.cmp .ne (.U 7) (.U 1)),(.call kK [.U 0,.U 7,.U 2]),(.or [(.cmp .fR (.U 7) (.U 5)),(.cmp .lt (.aU (.U 3) (.U 6)) (.aU (.U 5) (.U 7)))])])
    [.g8 (.U 5) (.U 7) (.aU (.U 3) (.U 6))]
    []]],
  .ret (.comp 1 (.aP [.U 0,(.aU (.U 6) (.U 0))]) (.U 0) (.of (.bi .sortI [(.listOf (.U 5))])) [])]
noncomputable def IX:List Str:=["over","under","one","other","rest"]
noncomputable def yu:List S:=
 [.aX (.U 2) (.U 0),
  .aX (.U 3) (.U 1),
  .while (.cmp .gt (.U 3) (.k (.int 0)))
  [.aX (.U 4) (.bin .mod (.U 2) (.U 3)),
   .aX (.U 2) (.U 3),
   .aX (.U 3) (.U 4)],
  .ret (.aP [(.bin .fdiv (.U 0) (.U 2)),(.bin .fdiv (.U 1) (.U 2))])]
noncomputable def IY:List Str:=["one","other"]
noncomputable def Cf:List S:=
 [.ret (.call l4 [(.bin .add (.bin .mul (.aU (.U 0) (.k (.int 0))) (.aU (.U 1) (.k (.int 1)))) (.bin .mul (.aU (.U 1) (.k (.int 0))) (.aU (.U 0) (.k (.int 1))))),(.bin .mul (.aU (.U 0) (.k (.int 1))) (.aU (.U 1) (.k (.int 1))))])]
noncomputable def IZ:List Str:=["one","other"]
noncomputable def Cg:List S:=
 [.ret (.call l4 [(.bin .sub (.bin .mul (.aU (.U 0) (.k (.int 0))) (.aU (.U 1) (.k (.int 1)))) (.bin .mul (.aU (.U 1) (.k (.int 0))) (.aU (.U 0) (.k (.int 1))))),(.bin .mul (.aU (.U 0) (.k (.int 1))) (.aU (.U 1) (.k (.int 1))))])]
noncomputable def I0:List Str:=["one","other"]
noncomputable def Ci:List S:=
 [.ret (.call l4 [(.bin .mul (.aU (.U 0) (.k (.int 0))) (.aU (.U 1) (.k (.int 0)))),(.bin .mul (.aU (.U 0) (.k (.int 1))) (.aU (.U 1) (.k (.int 1))))])]
noncomputable def I1:List Str:=["one","many"]
noncomputable def Cj:List S:=
 [.ret (.call l4 [(.aU (.U 0) (.k (.int 0))),(.bin .mul (.aU (.U 0) (.k (.int 1))) (.U 1))])]
noncomputable def I2:List Str:=["people","person","children","day","takers","rows","child","share","heir","piece","line"]
noncomputable def Ck:List S:=
 [.aX (.U 4) (.comp 1 (.U 0) (.U 0) (.of (.U 2)) [(.call oY [.U 1,.U 0,.U 4])]),
  .aX (.U 5) (.bE []),
  .for (.U 6) (.of (.U 4))
  [.aX (.U 7) (.call s4 [(.gk 0),(.bi .len [.U 4])]),
   .bD (.call kK [.U 0,.U 6,.U 3])
   [.expr (.dP .append (.U 5) [(.aP [.U 6,.U 7,(.bE [.U 1,.U 6])])])]
   [.for (.aP [.U 8,.U 9,.U 10]) (.of (.call qO [.U 0,.U 6,.U 3]))
    [.expr (.dP .append (.U 5) [(.aP [.U 8,(.call oZ [.U 7,.U 9]),(.bin .add (.bE [.U 1]) (.U 10))])])]]],
  .ret (.U 5)]
noncomputable def I3:List Str:=["people","person","day"]
noncomputable def Cm:List S:=
 [.ret (.call vb [.U 0,.U 1,(.call oX [.U 0,.U 1,.U 2]),.U 2])]
noncomputable def I4:List Str:=["people","parent","person","day"]
noncomputable def Co:List S:=
 [.ret (.comp 1 (.U 0) (.U 0) (.of (.call oX [.U 0,.U 1,.U 3])) [(.cmp .ne (.U 0) (.U 3))])]
noncomputable def I5:List Str:=["people","person","day","takers","parent","others","rows","share","heir","piece","line"]
noncomputable def Cp:List S:=
 [.aX (.U 3) (.bE []),
  .for (.U 4) (.of (.call s3 [.U 0,.U 1,.U 2]))
  [.aX (.U 5) (.call vc [.U 0,.U 4,.U 1,.U 2]),
   .bD (.or [(.call kK [.U 0,.U 4,.U 2]),(.bi .any [(.comp 1 (.call oY [.U 1,.U 0,.U 3]) (.U 0) (.of (.U 5)) [])])])
   [.expr (.dP .append (.U 3) [.U 4])]
   []],
  .aX (.U 6) (.bE []),
  .for (.U 4) (.of (.U 3))
  [.aX (.U 7) (.call s4 [(.gk 0),(.bi .len [.U 3])]),
   .bD (.call kK [.U 0,.U 4,.U 2])
   [.expr (.dP .append (.U 6) [(.aP [.U 4,.U 7,(.bE [.U 1,.U 4])])])]
   [.for (.aP [.U 8,.U 9,.U 10]) (.of (.call vb [.U 0,.U 4,(.call vc [.U 0,.U 4,.U 1,.U 2]),.U 2]))
    [.expr (.dP .append (.U 6) [(.aP [.U 8,(.call oZ [.U 7,.U 9]),(.bin .add (.bE [.U 1]) (.U 10))])])]]],
  .ret (.U 6)]
noncomputable def I6:List Str:=["roll","person","day","one","other","begun"]
noncomputable def Cq:List S:=
 [.for (.aP [.U 3,.U 4,.U 5]) (.of (.aU (.U 0) (.k (.int 1))))
  [.bD (.and [(.cmp .le (.U 5) (.U 2)),(.cmp .eq (.U 3) (.U 1)),(.call kK [(.aU (.U 0) (.k (.int 0))),.U 4,.U 2])])
   [.ret (.U 4)]
   [],
   .bD (.and [(.cmp .le (.U 5) (.U 2)),(.cmp .eq (.U 4) (.U 1)),(.call kK [(.aU (.U 0) (.k (.int 0))),.U 3,.U 2])])
   [.ret (.U 3)]
   []],
  .ret (.k .none)]
noncomputable def I7:List Str:=["roll","person","day","latest","found","one","told","gifts"]
noncomputable def Cr:List S:=
 [.aX (.U 3) (.neg (.k (.int 1))),
  .aX (.U 4) (.aP []),
  .for (.aP [.U 5,.U 6,.U 7]) (.of (.aU (.U 0) (.k (.int 2))))
  [.bD (.and [(.cmp .eq (.U 5) (.U 1)),(.sW .le .le (.U 3) (.U 6) (.U 2))])
   [.aX (.U 3) (.U 6),
    .aX (.U 4) (.U 7)]
   []],
  .ret (.U 4)]
noncomputable def I8:List Str:=["people","person","gifts","day","rows","total","named","piece","heir","share","line"]
noncomputable def Cs:List S:=
 [.aX (.U 4) (.bE []),
  .aX (.U 5) (.gk 1),
  .for (.aP [.U 6,.U 7]) (.of (.U 2))
  [.bD (.call kK [.U 0,.U 6,.U 3])
   [.expr (.dP .append (.U 4) [(.aP [.U 6,.U 7,(.k (.str "will")),(.bE [.U 1,.U 6])])]),
    .aX (.U 5) (.call u7 [.U 5,.U 7])]
   [.bD (.bi .any [(.comp 1 (.call oY [.U 1,.U 0,.U 4]) (.U 0) (.of (.call oX [.U 0,.U 6,.U 3])) [])])
    [.for (.aP [.U 8,.U 9,.U 10]) (.of (.call qO [.U 0,.U 6,.U 3]))
     [.expr (.dP .append (.U 4) [(.aP [.U 8,(.call oZ [.U 7,.U 9]),(.k (.str "will")),(.bin .add (.bE [.U 1]) (.U 10))])])],
     .aX (.U 5) (.call u7 [.U 5,.U 7])]
    []]],
  .ret (.aP [.U 4,.U 5])]
noncomputable def I9:List Str:=["people","person","day","rows","near"]
noncomputable def Ct:List S:=
 [.aX (.U 3) (.call qO [.U 0,.U 1,.U 2]),
  .bD (.cmp .ne (.U 3) (.bE []))
  [.ret (.aP [(.k (.str "line")),.U 3])]
  [],
  .aX (.U 3) (.call ye [.U 0,.U 1,.U 2]),
  .bD (.cmp .ne (.U 3) (.bE []))
  [.ret (.aP [(.k (.str "parents")),.U 3])]
  [],
  .aX (.U 4) (.call yd [.U 0,.U 1,.U 2]),
  .ret (.aP [(.k (.str "degree")),(.comp 2 (.aP [.U 0,(.call s4 [(.gk 0),(.bi .len [.U 6])]),.U 1]) (.aP [.U 0,.U 1]) (.of (.U 4)) [])])]
noncomputable def Ja:List Str:=["how","kin"]
noncomputable def Cu:List S:=
 [.bD (.cmp .eq (.U 1) (.bE []))
  [.ret (.gk 0)]
  [],
  .bD (.cmp .eq (.U 0) (.k (.str "line")))
  [.ret (.call l4 [(.k (.int 1)),(.k (.int 4))])]
  [],
  .bD (.cmp .eq (.U 0) (.k (.str "parents")))
  [.ret (.call l4 [(.k (.int 1)),(.k (.int 2))])]
  [],
  .ret (.call l4 [(.k (.int 3)),(.k (.int 4))])]
noncomputable def Jb:List Str:=["roll","person","people","day","rows","total","rest","how","kin","spouse","piece","heir","share","line"]
noncomputable def yv:List S:=
 [.aX (.U 2) (.aU (.U 0) (.k (.int 0))),
  .aX (.U 3) (.aU (.aU (.U 2) (.U 1)) (.k (.int 3))),
  .bD (.isNone true (.U 3))
  [.bad]
  [],
  .aX (.aP [.U 4,.U 5]) (.call yh [.U 2,.U 1,(.call yg [.U 0,.U 1,.U 3]),.U 3]),
  .aX (.U 6) (.call u9 [(.gk 0),.U 5]),
  .bD (.cmp .eq (.U 6) (.gk 1))
  [.ret (.U 4)]
  [],
  .aX (.aP [.U 7,.U 8]) (.call yi [.U 2,.U 1,.U 3]),
  .aX (.U 9) (.call yf [.U 0,.U 1,.U 3]),
  .bD (.and [(.isNone true (.U 9)),(.cmp .eq (.U 8) (.bE []))])
  [.ret (.bin .add (.U 4) (.bE [(.aP [(.k .none),.U 6,(.k (.str "town")),(.bE [.U 1])])]))]
  [],
  .bD (.isNone false (.U 9))
  [.aX (.U 10) (.call oZ [.U 6,(.call yj [.U 7,.U 8])]),
   .expr (.dP .append (.U 4) [(.aP [.U 9,.U 10,(.k (.str "spouse")),(.bE [.U 1,.U 9])])]),
   .aX (.U 6) (.call u9 [.U 6,.U 10])]
  [],
  .for (.aP [.U 11,.U 12,.U 13]) (.of (.U 8))
  [.expr (.dP .append (.U 4) [(.aP [.U 11,(.call oZ [.U 6,.U 12]),.U 7,.U 13])])],
  .ret (.U 4)]
noncomputable def Jc:List Str:=["_law_script","_law_k"]
noncomputable def Cv:List S:=
 [.bD (.cmp .lt (.U 1) (.bi .len [.U 0]))
  [.ret (.aU (.U 0) (.U 1))]
  [],
  .ret (.k (.int 0))]
noncomputable def Jd:List Str:=["_law_found"]
noncomputable def Cw:List S:=
 [.ret (.and [(.bi (.iv .int) [.U 0]),(.not (.bi (.iv .bool) [.U 0]))])]
noncomputable def Je:List Str:=["_law_cell","_law_many","_law_found","_law_number","_law_k"]
noncomputable def yw:List S:=
 [.aX (.U 2) (.bE []),
  .aX (.U 3) (.bin .mod (.U 0) (.k (.int 2147483647))),
  .for (.U 4) (.range (.k (.int 0)) (.U 1))
  [.aX (.U 3) (.bin .mod (.bin .add (.bin .add (.bin .mul (.U 3) (.k (.int 48271))) (.k (.int 11))) (.U 4)) (.k (.int 2147483647))),
   .expr (.dP .append (.U 2) [.U 3])],
  .ret (.U 2)]
noncomputable def Jf:List Str:=["_law_elders","_law_y","_law_fewest","_law_one","_law_other"]
noncomputable def yx:List S:=
 [.bD (.or [(.cmp .eq (.U 0) (.bE [])),(.and [(.cmp .eq (.U 2) (.k (.int 0))),(.cmp .eq (.bin .mod (.bin .fdiv (.U 1) (.k (.int 7))) (.k (.int 5))) (.k (.int 0)))])])
  [.ret (.aP [])]
  [],
  .aX (.U 3) (.aU (.U 0) (.bin .mod (.U 1) (.bi .len [.U 0]))),
  .aX (.U 4) (.aU (.U 0) (.bin .mod (.bin .fdiv (.U 1) (.k (.int 60))) (.bi .len [.U 0]))),
  .bD (.or [(.cmp .eq (.U 3) (.U 4)),(.cmp .eq (.bin .mod (.bin .fdiv (.U 1) (.k (.int 3))) (.k (.int 4))) (.k (.int 0)))])
  [.ret (.aP [.U 3])]
  [],
  .ret (.aP [.U 3,.U 4])]
noncomputable def Jg:List Str:=["_law_cell","_law_many","_law_people_here","_law_scale","_law_house","_law_k","_law_x","_law_born","_law_elders","_law_parents_here","_law_died"]
noncomputable def Cy:List S:=
 [.aX (.U 2) (.bE []),
  .aX (.U 3) (.aU (.bE [(.k (.int 1)),(.k (.int 1)),(.k (.int 1)),(.k (.int 600))]) (.bin .mod (.U 0) (.k (.int 4)))),
  .aX (.U 4) (.bE [(.aP []),(.aP []),(.aP [(.k (.int 1)),(.k (.int 0))]),(.aP [(.k (.int 1)),(.k (.int 0))]),(.aP [(.k (.int 2))]),(.aP [(.k (.int 3))]),(.aP []),(.aP [(.k (.int 5))]),(.aP [(.k (.int 3))]),(.aP [(.k (.int 1))]),(.aP []),(.aP [(.k (.int 2))])]),
  .for (.aP [.U 5,.U 6]) (.i4 (.call qQ [(.bin .fdiv (.U 0) (.k (.int 4))),.U 1]))
  [.aX (.U 7) (.bin .mul (.bin .add (.bin .mul (.k (.int 5)) (.bin .fdiv (.U 5) (.k (.int 3)))) (.bin .mod (.U 6) (.k (.int 11)))) (.U 3)),
   .aX (.U 8) (.comp 1 (.U 0) (.U 0) (.range (.k (.int 0)) (.U 5)) [(.cmp .lt (.aU (.aU (.U 3) (.U 0)) (.k (.int 0))) (.U 8))]),
   .aX (.U 9) (.call s5 [(.dT (.U 8) (some (.neg (.k (.int 7)))) none),(.bin .fdiv (.U 6) (.k (.int 11))),(.k (.int 0))]),
   .bD (.and [(.cmp .gt (.U 5) (.k (.int 0))),(.cmp .eq (.bin .mod (.bin .fdiv (.U 6) (.k (.int 13))) (.k (.int 3))) (.k (.int 0))),(.cmp .eq (.comp 1 (.U 0) (.U 0) (.of (.aU (.aU (.U 2) (.bin .sub (.U 5) (.k (.int 1)))) (.k (.int 1)))) [(.cmp .fR (.U 0) (.U 9))]) (.bE []))])
   [.aX (.U 9) (.aU (.aU (.U 2) (.bin .sub (.U 5) (.k (.int 1)))) (.k (.int 1)))]
   [],
   .bD (.and [(.cmp .eq (.bin .mod (.bin .fdiv (.U 0) (.k (.int 4))) (.k (.int 3))) (.k (.int 0))),(.cmp .lt (.U 5) (.k (.int 12)))])
   [.aX (.U 7) (.bin .mul (.bin .add (.bin .mul (.k (.int 12)) (.bin .fdiv (.U 5) (.k (.int 2)))) (.bin .mod (.U 6) (.k (.int 11)))) (.U 3)),
    .aX (.U 9) (.aU (.U 4) (.U 5))]
   [],
   .aX (.U 10) (.k .none),
   .bD (.cmp .gt (.bin .mod (.bin .fdiv (.U 6) (.k (.int 500))) (.aU (.bE [(.k (.int 4)),(.k (.int 9))]) (.bin .mod (.bin .fdiv (.U 0) (.k (.int 12))) (.k (.int 2))))) (.k (.int 0)))
   [.aX (.U 10) (.bin .add (.U 7) (.bin .mul (.bin .mod (.bin .fdiv (.U 6) (.k (.int 1500))) (.k (.int 40))) (.U 3)))]
   [],
   .expr (.dP .append (.U 2) [(.aP [.U 7,.U 9,(.k .none),.U 10])])],
  .ret (.U 2)]
noncomputable def Jh:List Str:=["_law_people_here","_law_cell","_law_found","_law_k","_law_x","_law_born","_law_parents_here","_law_adopted","_law_died","_law_elders","_law_day"]
noncomputable def Cz:List S:=
 [.aX (.U 2) (.listOf (.U 0)),
  .for (.aP [.U 3,.U 4]) (.i4 (.call qQ [.U 1,(.bi .len [.U 0])]))
  [.aX (.aP [.U 5,.U 6,.U 7,.U 8]) (.aU (.U 0) (.U 3)),
   .aX (.U 9) (.comp 1 (.U 0) (.U 0) (.range (.k (.int 0)) (.bi .len [.U 0])) [(.cmp .lt (.aU (.aU (.U 1) (.U 0)) (.k (.int 0))) (.U 6))]),
   .aX (.U 10) (.bin .add (.U 5) (.bin .mod (.U 4) (.k (.int 30)))),
   .bD (.and [(.cmp .eq (.bin .mod (.bin .fdiv (.U 4) (.k (.int 30))) (.k (.int 4))) (.k (.int 0))),(.cmp .ne (.U 9) (.bE [])),(.or [(.isNone true (.U 8)),(.cmp .lt (.U 10) (.U 8))])])
   [.g8 (.U 2) (.U 3) (.aP [.U 5,.U 6,(.aP [.U 10,(.call s5 [.U 9,(.bin .fdiv (.U 4) (.k (.int 120))),(.k (.int 1))])]),.U 8])]
   []],
  .ret (.U 2)]
noncomputable def Ji:List Str:=["_law_people_here","_law_person","_law_day"]
noncomputable def CA:List S:=
 [.bD (.cmp .lt (.U 2) (.aU (.aU (.U 0) (.U 1)) (.k (.int 0))))
  [.ret (.k (.bool false))]
  [],
  .ret (.or [(.isNone true (.aU (.aU (.U 0) (.U 1)) (.k (.int 3)))),(.cmp .gt (.aU (.aU (.U 0) (.U 1)) (.k (.int 3))) (.U 2))])]
noncomputable def Jj:List Str:=["_law_people_here","_law_person","_law_day"]
noncomputable def CB:List S:=
 [.bD (.and [(.isNone false (.aU (.aU (.U 0) (.U 1)) (.k (.int 2)))),(.cmp .le (.aU (.aU (.aU (.U 0) (.U 1)) (.k (.int 2))) (.k (.int 0))) (.U 2))])
  [.ret (.aU (.aU (.aU (.U 0) (.U 1)) (.k (.int 2))) (.k (.int 1)))]
  [],
  .ret (.aU (.aU (.U 0) (.U 1)) (.k (.int 1)))]
noncomputable def Jk:List Str:=["_law_people_here","_law_person","_law_day","_law_found","_law_one"]
noncomputable def CC:List S:=
 [.aX (.U 3) (.bE []),
  .for (.U 4) (.range (.k (.int 0)) (.bi .len [.U 0]))
  [.bD (.and [(.cmp .le (.aU (.aU (.U 0) (.U 4)) (.k (.int 0))) (.U 2)),(.cmp .d3 (.U 1) (.call j0 [.U 0,.U 4,.U 2]))])
   [.expr (.dP .append (.U 3) [.U 4])]
   []],
  .ret (.U 3)]
noncomputable def Jl:List Str:=["_law_people_here","_law_day","_law_lined_here","_law_one","_law_turn","_law_parent"]
noncomputable def yy:List S:=
 [.aX (.U 2) .mX,
  .for (.U 3) (.range (.k (.int 0)) (.bi .len [.U 0]))
  [.bD (.call iO [.U 0,.U 3,.U 1])
   [.g8 (.U 2) (.U 3) (.k (.bool true))]
   []],
  .for (.U 4) (.range (.k (.int 0)) (.bi .len [.U 0]))
  [.for (.U 3) (.of (.listOf (.U 2)))
   [.bD (.cmp .le (.aU (.aU (.U 0) (.U 3)) (.k (.int 0))) (.U 1))
    [.for (.U 5) (.of (.call j0 [.U 0,.U 3,.U 1]))
     [.g8 (.U 2) (.U 5) (.k (.bool true))]]
    []]],
  .ret (.U 2)]
noncomputable def Jm:List Str:=["_law_people_here","_law_marriage","_law_ends_here"]
noncomputable def yz:List S:=
 [.aX (.U 2) (.comp 1 (.aU (.aU (.U 1) (.U 0)) (.k (.int 3))) (.U 0) (.of (.dT (.U 1) none (some (.k (.int 2))))) [(.isNone false (.aU (.aU (.U 1) (.U 0)) (.k (.int 3))))]),
  .ret (.bi .mV [.U 2,(.bin .pow (.k (.int 10)) (.k (.int 9)))])]
noncomputable def Jn:List Str:=["_law_people_here","_law_one","_law_other"]
noncomputable def CD:List S:=
 [.ret (.and [(.cmp .gt (.call ve [.U 0,.U 1]) (.aU (.U 2) (.k (.int 2)))),(.cmp .gt (.call ve [.U 0,.U 2]) (.aU (.U 1) (.k (.int 2))))])]
noncomputable def Jo:List Str:=["_law_people_here","_law_cell","_law_many","_law_found","_law_x","_law_one","_law_other","_law_day","_law_new","_law_fits","_law_marriage"]
noncomputable def CE:List S:=
 [.aX (.U 3) (.bE []),
  .for (.U 4) (.of (.call qQ [.U 1,.U 2]))
  [.aX (.U 5) (.bin .mod (.U 4) (.bi .len [.U 0])),
   .aX (.U 6) (.bin .mod (.bin .fdiv (.U 4) (.k (.int 60))) (.bi .len [.U 0])),
   .aX (.U 7) (.bin .add (.bi .max2 [(.aU (.aU (.U 0) (.U 5)) (.k (.int 0))),(.aU (.aU (.U 0) (.U 6)) (.k (.int 0)))]) (.bin .mod (.bin .fdiv (.U 4) (.k (.int 3600))) (.k (.int 40)))),
   .aX (.U 8) (.aP [.U 5,.U 6,.U 7]),
   .aX (.U 9) (.and [(.cmp .ne (.U 5) (.U 6)),(.call iO [.U 0,.U 5,.U 7]),(.call iO [.U 0,.U 6,.U 7])]),
   .for (.U 10) (.of (.U 3))
   [.bD (.or [(.cmp .d3 (.U 5) (.dT (.U 10) none (some (.k (.int 2))))),(.cmp .d3 (.U 6) (.dT (.U 10) none (some (.k (.int 2)))))])
    [.aX (.U 9) (.and [.U 9,(.not (.call s6 [.U 0,.U 8,.U 10]))])]
    []],
   .bD (.U 9)
   [.expr (.dP .append (.U 3) [.U 8])]
   []],
  .ret (.U 3)]
noncomputable def Jp:List Str:=["_law_people_here","_law_person","_law_x","_law_named","_law_k","_law_one","_law_over","_law_more"]
noncomputable def CF:List S:=
 [.aX (.U 3) (.bE []),
  .for (.U 4) (.range (.k (.int 0)) (.bin .add (.k (.int 1)) (.bin .mod (.U 2) (.aU (.bE [(.k (.int 3)),(.k (.int 3)),(.k (.int 10))]) (.bin .mod (.bin .fdiv (.U 2) (.k (.int 30))) (.k (.int 3)))))))
  [.aX (.U 5) (.bin .mod (.bin .add (.bin .fdiv (.U 2) (.k (.int 90))) (.bin .mul (.U 4) (.bin .add (.k (.int 1)) (.bin .mod (.bin .fdiv (.U 2) (.k (.int 540))) (.k (.int 7)))))) (.bi .len [.U 0])),
   .bD (.and [(.cmp .ne (.U 5) (.U 1)),(.cmp .fR (.U 5) (.U 3))])
   [.expr (.dP .append (.U 3) [.U 5])]
   []],
  .aX (.U 6) (.bin .add (.k (.int 1)) (.bin .mod (.bin .fdiv (.U 2) (.k (.int 3780))) (.k (.int 3)))),
  .aX (.U 7) (.aU (.bE [(.bin .mod (.bin .fdiv (.U 2) (.k (.int 11340))) (.k (.int 4))),(.bin .mod (.bin .fdiv (.U 2) (.k (.int 11340))) (.k (.int 900)))]) (.bin .mod (.bin .fdiv (.U 2) (.k (.int 7))) (.k (.int 2)))),
  .ret (.comp 1 (.aP [.U 0,.U 7,(.bin .add (.bin .mul (.U 7) (.bi .len [.U 4])) (.U 8))]) (.U 0) (.of (.U 3)) [])]
noncomputable def Jq:List Str:=["_law_people_here","_law_cell","_law_many","_law_found","_law_x","_law_person","_law_day","_law_gifts_here"]
noncomputable def CG:List S:=
 [.aX (.U 3) (.bE []),
  .for (.U 4) (.of (.call qQ [.U 1,.U 2]))
  [.aX (.U 5) (.bin .mod (.U 4) (.bi .len [.U 0])),
   .aX (.U 6) (.bin .add (.aU (.aU (.U 0) (.U 5)) (.k (.int 0))) (.bin .mod (.bin .fdiv (.U 4) (.k (.int 60))) (.k (.int 30)))),
   .aX (.U 7) (.call yo [.U 0,.U 5,(.bin .fdiv (.U 4) (.k (.int 1800)))]),
   .bD (.and [(.cmp .ne (.U 7) (.bE [])),(.or [(.isNone true (.aU (.aU (.U 0) (.U 5)) (.k (.int 3)))),(.cmp .le (.U 6) (.aU (.aU (.U 0) (.U 5)) (.k (.int 3))))])])
   [.expr (.dP .append (.U 3) [(.aP [.U 5,.U 6,(.bi .tupleOf [(.comp 3 (.aP [.U 0,(.call o0 [.U 1,.U 2])]) (.aP [.U 0,.U 1,.U 2]) (.of (.U 7)) [])])])])]
   []],
  .ret (.U 3)]
noncomputable def Jr:List Str:=["_law_people_here","_law_root","_law_ways","_law_one","_law_above"]
noncomputable def CH:List S:=
 [.for (.U 1) (.range (.k (.int 0)) (.bi .len [.U 0]))
  [.aX (.U 2) (.sY (.U 1) (.k (.int 1))),
   .for (.U 3) (.of (.mY (.sX (.bi .len [.U 0])) 0))
   [.aX (.U 4) (.listOf (.aU (.aU (.U 0) (.U 3)) (.k (.int 1)))),
    .bD (.isNone false (.aU (.aU (.U 0) (.U 3)) (.k (.int 2))))
    [.aX (.U 4) (.bin .add (.U 4) (.comp 1 (.U 0) (.U 0) (.of (.aU (.aU (.aU (.U 0) (.U 3)) (.k (.int 2))) (.k (.int 1)))) [(.cmp .fR (.U 0) (.U 5))]))]
    [],
    .g8 (.U 2) (.U 3) (.bin .add (.dP .lu (.U 2) [.U 3,(.k (.int 0))]) (.bi .sU [(.comp 1 (.dP .lu (.U 3) [.U 0,(.k (.int 0))]) (.U 0) (.of (.U 4)) [])])),
    .bD (.cmp .gt (.aU (.U 2) (.U 3)) (.k (.int 40)))
    [.ret (.k (.bool true))]
    []]],
  .ret (.k (.bool false))]
noncomputable def Js:List Str:=["_law_over","_law_under","_law_a","_law_b","_law_c"]
noncomputable def CI:List S:=
 [.aX (.U 2) (.U 0),
  .aX (.U 3) (.U 1),
  .while (.cmp .gt (.U 3) (.k (.int 0)))
  [.aX (.U 4) (.bin .mod (.U 2) (.U 3)),
   .aX (.U 2) (.U 3),
   .aX (.U 3) (.U 4)],
  .ret (.aP [(.bin .fdiv (.U 0) (.U 2)),(.bin .fdiv (.U 1) (.U 2))])]
noncomputable def Jt:List Str:=["_law_script","_law_most","_law_many","_law_people_here","_law_weddings_here"]
noncomputable def CJ:List S:=
 [.aX (.U 2) (.bin .add (.k (.int 1)) (.bin .mod (.call jZ [.U 0,(.k (.int 0))]) (.U 1))),
  .aX (.U 3) (.call yl [(.call yk [(.call jZ [.U 0,(.k (.int 1))]),.U 2]),(.call jZ [.U 0,(.k (.int 2))])]),
  .aX (.U 4) (.call yn [.U 3,(.call jZ [.U 0,(.k (.int 3))]),(.bin .mod (.bin .fdiv (.call jZ [.U 0,(.k (.int 0))]) (.k (.int 12))) (.k (.int 13)))]),
  .ret (.aP [.U 3,.U 4,(.call yq [.U 3,(.call jZ [.U 0,(.k (.int 4))]),(.bin .mod (.bin .fdiv (.call jZ [.U 0,(.k (.int 0))]) (.k (.int 156))) (.k (.int 9)))])])]
noncomputable def Ju:List Str:=["_law_people_here"]
noncomputable def CL:List S:=
 [.ret (.comp 1 (.U 0) (.U 0) (.range (.k (.int 0)) (.bi .len [.U 0])) [(.isNone false (.aU (.aU (.U 1) (.U 0)) (.k (.int 3))))])]
noncomputable def Jv:List Str:=["_law_people_here","_law_line","_law_day","_law_k"]
noncomputable def yA:List S:=
 [.for (.U 3) (.range (.k (.int 1)) (.bi .len [.U 1]))
  [.bD (.cmp .fR (.aU (.U 1) (.U 3)) (.call m0 [.U 0,(.aU (.U 1) (.bin .sub (.U 3) (.k (.int 1)))),.U 2]))
   [.ret (.k (.bool false))]
   []],
  .ret (.k (.bool true))]
noncomputable def Jw:List Str:=["_law_roll_here","_law_person","_law_heir","_law_how","_law_line","_law_day","_law_people_here","_law_met","_law_wills_here","_law_counted","_law_named","_law_above","_law_tops","_law_k"]
noncomputable def yB:List S:=
 [.aX (.U 6) (.aU (.U 0) (.k (.int 0))),
  .bD (.cmp .eq (.U 3) (.k (.str "spouse")))
  [.aX (.U 7) (.comp 1 (.U 0) (.U 0) (.of (.aU (.U 0) (.k (.int 1)))) [(.and [(.cmp .eq (.bi .sortI [(.listOf (.dT (.U 0) none (some (.k (.int 2)))))]) (.bi .sortI [(.bE [.U 2,.U 3])])),(.cmp .le (.aU (.U 0) (.k (.int 2))) (.U 6))])]),
   .ret (.and [(.cmp .eq (.bi .len [.U 4]) (.k (.int 2))),(.cmp .ne (.U 7) (.bE []))])]
  [],
  .aX (.U 8) (.comp 4 (.U 0) (.aP [.U 0,(.aP [.U 1,.U 2,.U 3])]) (.i4 (.aU (.U 0) (.k (.int 2)))) [(.and [(.cmp .eq (.U 1) (.U 5)),(.cmp .le (.U 2) (.U 9))])]),
  .bD (.and [(.cmp .eq (.U 3) (.k (.str "will"))),(.cmp .eq (.U 8) (.bE []))])
  [.ret (.k (.bool false))]
  [],
  .bD (.cmp .eq (.U 3) (.k (.str "will")))
  [.aX (.U 9) (.bi .sV [(.comp 4 (.aP [.U 2,.U 0]) (.aP [.U 0,(.aP [.U 1,.U 2,.U 3])]) (.i4 (.aU (.U 0) (.k (.int 2)))) [(.and [(.cmp .eq (.U 1) (.U 5)),(.cmp .le (.U 2) (.U 9))])])]),
   .aX (.U 10) (.comp 1 (.aU (.U 0) (.k (.int 0))) (.U 0) (.of (.aU (.aU (.aU (.U 0) (.k (.int 2))) (.aU (.U 9) (.k (.int 1)))) (.k (.int 2)))) []),
   .ret (.and [(.cmp .d3 (.aU (.U 4) (.k (.int 1))) (.U 10)),(.call l5 [.U 6,(.dT (.U 4) (some (.k (.int 1))) none),.U 5])])]
  [],
  .bD (.cmp .eq (.U 3) (.k (.str "line")))
  [.ret (.call l5 [.U 6,.U 4,.U 5])]
  [],
  .bD (.cmp .eq (.U 3) (.k (.str "parents")))
  [.aX (.U 11) (.and [(.cmp .d3 (.aU (.U 4) (.k (.int 1))) (.call j0 [.U 6,.U 1,.U 5])),(.cmp .fR (.U 1) (.dT (.U 4) (some (.k (.int 1))) none))]),
   .ret (.and [.U 11,(.call l5 [.U 6,(.dT (.U 4) (some (.k (.int 1))) none),.U 5])])]
  [],
  .aX (.U 12) (.comp 1 (.U 0) (.U 0) (.range (.k (.int 0)) (.bi .len [.U 4])) [(.call l5 [.U 7,(.dT (.U 5) (some (.U 0)) none),.U 6])]),
  .for (.U 13) (.range (.k (.int 1)) (.bin .add (.bi .qN [.U 12]) (.k (.int 1))))
  [.bD (.cmp .fR (.aU (.U 4) (.U 13)) (.call j0 [.U 6,(.aU (.U 4) (.bin .sub (.U 13) (.k (.int 1)))),.U 5]))
   [.ret (.k (.bool false))]
   []],
  .ret (.cmp .eq (.U 3) (.k (.str "degree")))]
noncomputable def Jx:List Str:=["_law_roll_here","_law_person","_law_row","_law_day","_law_heir","_law_share","_law_how","_law_line"]
noncomputable def yC:List S:=
 [.aX (.aP [.U 4,.U 5,.U 6,.U 7]) (.U 2),
  .bD (.or [(.not (.bi (.iv .list) [.U 7])),(.cmp .lt (.bi .len [.U 7]) (.k (.int 2))),(.cmp .ne (.aU (.U 7) (.k (.int 0))) (.U 1)),(.cmp .ne (.aU (.U 7) (.neg (.k (.int 1)))) (.U 4))])
  [.ret (.k (.bool false))]
  [],
  .bD (.or [(.not (.call iO [(.aU (.U 0) (.k (.int 0))),.U 4,.U 3])),(.cmp .ne (.comp 1 (.U 0) (.U 0) (.of (.dT (.U 7) (some (.k (.int 1))) (some (.neg (.k (.int 1)))))) [(.call iO [(.aU (.U 1) (.k (.int 0))),.U 0,.U 4])]) (.bE []))])
  [.ret (.k (.bool false))]
  [],
  .ret (.call yr [.U 0,.U 1,.U 4,.U 6,.U 7,.U 3])]
noncomputable def Jy:List Str:=["_law_people_here","_law_person","_law_day","_law_states","_law_grown","_law_more","_law_one","_law_falls","_law_fresh"]
noncomputable def yD:List S:=
 [.aX (.U 3) (.bE [(.aP [.U 1,(.k (.bool false))])]),
  .aX (.U 4) (.k (.bool true)),
  .while (.U 4)
  [.aX (.U 5) (.bE []),
   .for (.aP [.U 6,.U 7]) (.of (.U 3))
   [.aX (.U 5) (.bin .add (.U 5) (.comp 1 (.aP [.U 0,(.k (.bool true))]) (.U 0) (.of (.call m0 [.U 0,.U 6,.U 2])) [])),
    .bD (.not (.U 7))
    [.aX (.U 5) (.bin .add (.U 5) (.comp 1 (.aP [.U 0,(.k (.bool false))]) (.U 0) (.of (.call j0 [.U 0,.U 6,.U 2])) []))]
    []],
   .aX (.U 8) (.l3 false (.comp 1 (.U 0) (.U 0) (.of (.U 5)) [(.cmp .fR (.U 0) (.U 4))])),
   .aX (.U 4) (.cmp .ne (.U 8) (.bE [])),
   .aX (.U 3) (.bin .add (.U 3) (.U 8))],
  .ret (.cmp .eq (.comp 2 (.U 0) (.aP [.U 0,.U 1]) (.of (.U 3)) [(.and [(.cmp .ne (.U 0) (.U 3)),(.call iO [.U 2,.U 0,.U 4])])]) (.bE []))]
noncomputable def Jz:List Str:=["_law_roll_here","_law_person","_law_rows","_law_day","_law_people_here","_law_lined_here","_law_hows","_law_below","_law_first","_law_above","_law_parent","_law_others","_law_second","_law_one","_law_other","_law_begun"]
noncomputable def yE:List S:=
 [.aX (.U 4) (.aU (.U 0) (.k (.int 0))),
  .aX (.U 5) (.call ym [.U 4,.U 3]),
  .aX (.U 6) (.comp 1 (.aU (.U 0) (.k (.int 2))) (.U 0) (.of (.U 2)) []),
  .aX (.U 7) (.comp 1 (.U 0) (.U 0) (.of (.call m0 [.U 4,.U 1,.U 3])) [(.cmp .d3 (.U 0) (.U 6))]),
  .aX (.U 8) (.l3 true (.comp 1 (.aU (.aU (.U 0) (.k (.int 3))) (.k (.int 1))) (.U 0) (.of (.U 2)) [(.cmp .eq (.aU (.U 0) (.k (.int 2))) (.k (.str "line")))])),
  .bD (.or [(.and [(.cmp .ne (.U 8) (.bE [])),(.cmp .ne (.U 8) (.U 7))]),(.and [(.cmp .eq (.U 8) (.bE [])),(.cmp .ne (.U 7) (.bE [])),(.or [(.cmp .d3 (.k (.str "parents")) (.U 6)),(.cmp .d3 (.k (.str "degree")) (.U 6))])])])
  [.ret (.k (.bool false))]
  [],
  .aX (.U 9) (.bE []),
  .for (.U 10) (.of (.call j0 [.U 4,.U 1,.U 3]))
  [.aX (.U 11) (.comp 1 (.U 0) (.U 0) (.of (.call m0 [.U 4,.U 10,.U 3])) [(.and [(.cmp .d3 (.U 0) (.U 6)),(.cmp .ne (.U 0) (.U 2))])]),
   .bD (.or [(.call iO [.U 4,.U 10,.U 3]),(.cmp .ne (.U 11) (.bE []))])
   [.expr (.dP .append (.U 9) [.U 10])]
   []],
  .aX (.U 12) (.l3 true (.comp 1 (.aU (.aU (.U 0) (.k (.int 3))) (.k (.int 1))) (.U 0) (.of (.U 2)) [(.cmp .eq (.aU (.U 0) (.k (.int 2))) (.k (.str "parents")))])),
  .bD (.or [(.and [(.cmp .ne (.U 12) (.bE [])),(.cmp .ne (.U 12) (.bi .sortI [.U 9]))]),(.and [(.cmp .d3 (.k (.str "degree")) (.U 6)),(.cmp .ne (.U 9) (.bE []))])])
  [.ret (.k (.bool false))]
  [],
  .for (.aP [.U 13,.U 14,.U 15]) (.of (.aU (.U 0) (.k (.int 1))))
  [.bD (.and [(.cmp .d3 (.k (.str "town")) (.U 6)),(.cmp .le (.U 15) (.U 3)),(.cmp .d3 (.U 1) (.aP [.U 13,.U 14])),(.call iO [.U 4,(.bin .sub (.bin .add (.U 13) (.U 14)) (.U 1)),.U 3])])
   [.ret (.k (.bool false))]
   []],
  .ret (.or [(.cmp .fR (.k (.str "town")) (.U 6)),(.call yt [.U 4,.U 1,.U 3])])]
noncomputable def JA:List Str:=["_law_roll_here","_law_handed","_law_person","_law_day","_law_rows","_law_total","_law_row","_law_over","_law_under"]
noncomputable def CM:List S:=
 [.aX (.U 3) (.aU (.aU (.aU (.U 0) (.k (.int 0))) (.U 2)) (.k (.int 3))),
  .aX (.U 4) (.call vd [.U 1,.U 2]),
  .bD (.not (.bi (.iv .list) [.U 4]))
  [.ret (.k (.bool false))]
  [],
  .aX (.U 5) (.aP [(.k (.int 0)),(.k (.int 1))]),
  .for (.U 6) (.of (.U 4))
  [.bD (.or [(.not (.bi (.iv .tuple) [.U 6])),(.cmp .ne (.bi .len [.U 6]) (.k (.int 4))),(.not (.bi (.iv .tuple) [(.aU (.U 6) (.k (.int 1)))])),(.cmp .ne (.bi .len [(.aU (.U 6) (.k (.int 1)))]) (.k (.int 2)))])
   [.ret (.k (.bool false))]
   [],
   .aX (.aP [.U 7,.U 8]) (.aU (.U 6) (.k (.int 1))),
   .bD (.or [(.not (.call qP [.U 7])),(.not (.call qP [.U 8])),(.cmp .lt (.U 7) (.k (.int 1))),(.cmp .lt (.U 8) (.k (.int 1)))])
   [.ret (.k (.bool false))]
   [],
   .aX (.U 5) (.call o0 [(.bin .add (.bin .mul (.aU (.U 5) (.k (.int 0))) (.U 8)) (.bin .mul (.U 7) (.aU (.U 5) (.k (.int 1))))),(.bin .mul (.aU (.U 5) (.k (.int 1))) (.U 8))]),
   .bD (.cmp .eq (.aU (.U 6) (.k (.int 2))) (.k (.str "town")))
   [.bD (.or [(.isNone false (.aU (.U 6) (.k (.int 0)))),(.cmp .ne (.aU (.U 6) (.k (.int 3))) (.bE [.U 2]))])
    [.ret (.k (.bool false))]
    []]
   [.bD (.not (.call vi [.U 0,.U 2,.U 6,.U 3]))
    [.ret (.k (.bool false))]
    []]],
  .ret (.and [(.cmp .eq (.U 5) (.aP [(.k (.int 1)),(.k (.int 1))])),(.call vj [.U 0,.U 2,.U 4,.U 3])])]
noncomputable def JB:List Str:=["_law_script","_law_roll_here","_law_handed","_law_dead_here","_law_at","_law_person"]
noncomputable def yF:List S:=
 [.aX (.U 1) (.call vg [.U 0,(.aU (.bE [(.k (.int 12)),(.k (.int 12)),(.k (.int 12)),(.k (.int 12)),(.k (.int 12)),(.k (.int 20))]) (.bin .mod (.call jZ [.U 0,(.k (.int 5))]) (.k (.int 6))))]),
  .bD (.call vf [(.aU (.U 1) (.k (.int 0)))])
  [.ret (.k (.bool true))]
  [],
  .aX (.U 2) (.aP [(.listOf (.aU (.U 1) (.k (.int 0)))),(.listOf (.aU (.U 1) (.k (.int 1)))),(.listOf (.aU (.U 1) (.k (.int 2))))]),
  .aX (.U 3) (.call vh [(.aU (.U 1) (.k (.int 0)))]),
  .aX (.U 4) (.bin .mod (.call jZ [.U 0,(.k (.int 6))]) (.bin .add (.bi .len [.U 3]) (.k (.int 1)))),
  .for (.U 5) (.of (.dT (.bin .add (.dT (.U 3) (some (.U 4)) none) (.dT (.U 3) none (some (.U 4)))) none (some (.k (.int 3)))))
  [.bD (.not (.call vk [.U 1,.U 2,.U 5]))
   [.ret (.k (.bool false))]
   []],
  .ret (.cmp .eq (.U 2) (.U 1))]
end Mine.P
namespace Mine
open P PySem
noncomputable def yG:List Fn:=[
 ⟨"lives",3,4,B9⟩,
 ⟨"parents_on",3,4,Ca⟩,
 ⟨"children_on",3,2,Cb⟩,
 ⟨"has_line",3,1,Cc⟩,
 ⟨"steps_from",3,3,Cd⟩,
 ⟨"further",4,4,Ce⟩,
 ⟨"nearest",3,5,vl⟩,
 ⟨"part",2,3,yu⟩,
 ⟨"added",2,0,Cf⟩,
 ⟨"less",2,0,Cg⟩,
 ⟨"times",2,0,Ci⟩,
 ⟨"shared",2,0,Cj⟩,
 ⟨"lines_to",4,7,Ck⟩,
 ⟨"by_lines",3,0,Cm⟩,
 ⟨"others_of",4,0,Co⟩,
 ⟨"by_parents",3,8,Cp⟩,
 ⟨"spouse_on",3,3,Cq⟩,
 ⟨"will_on",3,5,Cr⟩,
 ⟨"given",4,7,Cs⟩,
 ⟨"kin_of",3,2,Ct⟩,
 ⟨"spouse_part",2,0,Cu⟩,
 ⟨"dealt",2,12,yv⟩,
 ⟨"_law_cell_at",2,0,Cv⟩,
 ⟨"_law_whole",1,0,Cw⟩,
 ⟨"_law_stream",2,3,yw⟩,
 ⟨"_law_some",3,2,yx⟩,
 ⟨"_law_people",2,9,Cy⟩,
 ⟨"_law_adopting",2,9,Cz⟩,
 ⟨"_law_lives",3,0,CA⟩,
 ⟨"_law_parents",3,0,CB⟩,
 ⟨"_law_children",3,2,CC⟩,
 ⟨"_law_lined",2,4,yy⟩,
 ⟨"_law_ends",2,1,yz⟩,
 ⟨"_law_meets",3,0,CD⟩,
 ⟨"_law_weddings",3,8,CE⟩,
 ⟨"_law_gifts",3,5,CF⟩,
 ⟨"_law_wills",3,5,CG⟩,
 ⟨"_law_tangled",1,4,CH⟩,
 ⟨"_law_lowest",2,3,CI⟩,
 ⟨"_law_is_part",999,0,[]⟩,
 ⟨"_law_roll",2,3,CJ⟩,
 ⟨"_law_dead",1,0,CL⟩,
 ⟨"_law_step_down",3,1,yA⟩,
 ⟨"_law_gone",6,8,yB⟩,
 ⟨"_law_shown",4,4,yC⟩,
 ⟨"_law_alone",3,6,yD⟩,
 ⟨"_law_none_nearer",4,12,yE⟩,
 ⟨"_law_whole_dealt",3,6,CM⟩,
 ⟨"law",1,5,yF⟩]
noncomputable def CN:List (List Str):=[IQ,IR,IS,IT,IU,IV,IW,IX,IY,IZ,I0,I1,I2,I3,I4,I5,I6,I7,I8,I9,Ja,Jb,Jc,Jd,Je,Jf,Jg,Jh,Ji,Jj,Jk,Jl,Jm,Jn,Jo,Jp,Jq,Jr,Js,[],Jt,Ju,Jv,Jw,Jx,Jy,Jz,JA,JB]
noncomputable def JC:List Str:=[Str.ofString "lives",Str.ofString "parents_on",Str.ofString "children_on",Str.ofString "has_line",Str.ofString "steps_from",Str.ofString "further",Str.ofString "nearest",Str.ofString "part",Str.ofString "added",Str.ofString "less",Str.ofString "times",Str.ofString "shared",Str.ofString "lines_to",Str.ofString "by_lines",Str.ofString "others_of",Str.ofString "by_parents",Str.ofString "spouse_on",Str.ofString "will_on",Str.ofString "given",Str.ofString "kin_of",Str.ofString "spouse_part",Str.ofString "dealt",Str.ofString "_law_cell_at",Str.ofString "_law_whole",Str.ofString "_law_stream",Str.ofString "_law_some",Str.ofString "_law_people",Str.ofString "_law_adopting",Str.ofString "_law_lives",Str.ofString "_law_parents",Str.ofString "_law_children",Str.ofString "_law_lined",Str.ofString "_law_ends",Str.ofString "_law_meets",Str.ofString "_law_weddings",Str.ofString "_law_gifts",Str.ofString "_law_wills",Str.ofString "_law_tangled",Str.ofString "_law_lowest",Str.ofString "_law_is_part",Str.ofString "_law_roll",Str.ofString "_law_dead",Str.ofString "_law_step_down",Str.ofString "_law_gone",Str.ofString "_law_shown",Str.ofString "_law_alone",Str.ofString "_law_none_nearer",Str.ofString "_law_whole_dealt",Str.ofString "law"]
noncomputable def gK:CK:=⟨JC,["WHOLE","NOTHING"],"_law_tangled",285,71⟩
noncomputable def yH:List V:=[(.aP [(.int 1),(.int 1)]),(.aP [(.int 0),(.int 1)])]
end Mine
end
namespace Mine
open PySem
noncomputable def intOf:V->Option Int
 |.int i=>some i
 |_=>none
noncomputable def JD:Option NameKind->Bool
 |some .local=>true
 |some .cell=>true
 |some .free=>true
 |_=>false
noncomputable def qR:Option NameKind->Bool
 |some .local=>true
 |some .cell=>true
 |_=>false
noncomputable def pe(ns:List Str)(i:Nat)(x:Str):Bool:=decide (ns.idxOf x=i)&&decide (i<ns.length)
noncomputable def nW(σ:Sn)(x:Str):Bool:=decide (σ.sc.names.lookup x=some .globalImplicit)&&!(x==("__debug__":Str))
noncomputable def vm:V->Option Const
 |.none=>some .none
 |.bool b=>some (.bool b)
 |.int i=>some (.int i)
 |.str s=>some (.str s)
 |_=>none
noncomputable def pf:kI->Operator
 |.add=>.Add
 |.sub=>.Sub
 |.mul=>.Mult
 |.fdiv=>.FloorDiv
 |.mod=>.Mod
 |.pow=>.Pow
noncomputable def pg:kJ->CmpOp
 |.eq=>.Eq
 |.ne=>.NotEq
 |.lt=>.Lt
 |.le=>.LtE
 |.gt=>.Gt
 |.d3=>.In
 |.fR=>.NotIn
noncomputable def l6:Ty->String
 |.int=>"int"
 |.bool=>"bool"
 |.tuple=>"tuple"
 |.list=>"list"
 |.str=>"str"
noncomputable def s7:Bi->Option (Str×Nat)
 |.len=>some ("len",1)
 |.sU=>some ("sum",1)
 |.any=>some ("any",1)
 |.max2=>some ("max",2)
 |.tupleOf=>some ("tuple",1)
 |.sortI=>some ("sorted",1)
 |.qN=>some ("min",1)
 |.sV=>some ("max",1)
 |_=>none
noncomputable def ph:Me->Str×Nat
 |.append=>("append",1)
 |.lu=>("get",2)
 |.clear=>("clear",0)
noncomputable def vn(x:Expr):Bool:=decide (x.ctorIdx=23)
noncomputable def s8(x:Expr):Bool:=decide (x.ctorIdx=25)
theorem got{c:Prop}[i:Decidable c]{t:c->Bool}(h:(if hc:c then t hc else false)=true):c:=
 match i,h with
 |.isTrue hc,_=>hc
theorem bg{a b:Bool}{G:Prop}(h:(a&&b)=true)(k:a=true->b=true->G):G:=k (and_eq_true_iff.mp h).1 (and_eq_true_iff.mp h).2
noncomputable def m3(x:Expr)(f:Const->Bool):Bool:=if h:x.ctorIdx=19 then Expr.Constant.elim (motive_1:=λζ=>Bool) x h (λc ζ ζ=>f c) else false
theorem m3.k{G:Expr->Prop}{x:Expr}{f:Const->Bool}(h:m3 x f=true)(k:∀a0 a1 a2,f a0=true->G (.Constant a0 a1 a2)):G x:=
 Expr.Constant.elim (motive_1:=λx=>m3 x f=true->G x) x (got h) k h
noncomputable def ft(x:Expr)(f:Str->Bool):Bool:=if h:x.ctorIdx=23 then Expr.Name.elim (motive_1:=λζ=>Bool) x h (λy ζ=>f y) else false
theorem ft.k{G:Expr->Prop}{x:Expr}{f:Str->Bool}(h:ft x f=true)(k:∀a0 a1,f a0=true->G (.Name a0 a1)):G x:=
 Expr.Name.elim (motive_1:=λx=>ft x f=true->G x) x (got h) k h
noncomputable def s9(x:Expr)(f:Expr->Operator->Expr->Bool):Bool:=if h:x.ctorIdx=2 then Expr.BinOp.elim (motive_1:=λζ=>Bool) x h (λl o r ζ=>f l o r) else false
theorem s9.k{G:Expr->Prop}{x:Expr}{f:Expr->Operator->Expr->Bool}(h:s9 x f=true)(k:∀a0 a1 a2 a3,f a0 a1 a2=true->G (.BinOp a0 a1 a2 a3)):G x:=
 Expr.BinOp.elim (motive_1:=λx=>s9 x f=true->G x) x (got h) k h
noncomputable def pk(x:Expr)(f:UnaryOp->Expr->Bool):Bool:=if h:x.ctorIdx=3 then Expr.UnaryOp.elim (motive_1:=λζ=>Bool) x h (λo y ζ=>f o y) else false
theorem pk.k{G:Expr->Prop}{x:Expr}{f:UnaryOp->Expr->Bool}(h:pk x f=true)(k:∀a0 a1 a2,f a0 a1=true->G (.UnaryOp a0 a1 a2)):G x:=
 Expr.UnaryOp.elim (motive_1:=λx=>pk x f=true->G x) x (got h) k h
noncomputable def pl(x:Expr)(f:BoolOp->List Expr->Bool):Bool:=if h:x.ctorIdx=0 then Expr.BoolOp.elim (motive_1:=λζ=>Bool) x h (λo ys ζ=>f o ys) else false
theorem pl.k{G:Expr->Prop}{x:Expr}{f:BoolOp->List Expr->Bool}(h:pl x f=true)(k:∀a0 a1 a2,f a0 a1=true->G (.BoolOp a0 a1 a2)):G x:=
 Expr.BoolOp.elim (motive_1:=λx=>pl x f=true->G x) x (got h) k h
noncomputable def tc(x:Expr)(f:Arguments->Expr->Scope->Pos->Bool):Bool:=if h:x.ctorIdx=4 then Expr.Lambda.elim (motive_1:=λζ=>Bool) x h (λa b c p=>f a b c p) else false
theorem tc.k{G:Expr->Prop}{x:Expr}{f:Arguments->Expr->Scope->Pos->Bool}(h:tc x f=true)(k:∀a0 a1 a2 a3,f a0 a1 a2 a3=true->G (.Lambda a0 a1 a2 a3)):G x:=
 Expr.Lambda.elim (motive_1:=λx=>tc x f=true->G x) x (got h) k h
noncomputable def m4(x:Expr)(f:Expr->List CmpOp->List Expr->Bool):Bool:=if h:x.ctorIdx=15 then Expr.Compare.elim (motive_1:=λζ=>Bool) x h (λl os rs ζ=>f l os rs) else false
theorem m4.k{G:Expr->Prop}{x:Expr}{f:Expr->List CmpOp->List Expr->Bool}(h:m4 x f=true)(k:∀a0 a1 a2 a3,f a0 a1 a2=true->G (.Compare a0 a1 a2 a3)):G x:=
 Expr.Compare.elim (motive_1:=λx=>m4 x f=true->G x) x (got h) k h
noncomputable def l7(x:Expr)(f:List Expr->Bool):Bool:=if h:x.ctorIdx=25 then Expr.Tuple.elim (motive_1:=λζ=>Bool) x h (λys ζ ζ=>f ys) else false
theorem l7.k{G:Expr->Prop}{x:Expr}{f:List Expr->Bool}(h:l7 x f=true)(k:∀a0 a1 a2,f a0=true->G (.Tuple a0 a1 a2)):G x:=
 Expr.Tuple.elim (motive_1:=λx=>l7 x f=true->G x) x (got h) k h
noncomputable def td(x:Expr)(f:List Expr->Bool):Bool:=if h:x.ctorIdx=24 then Expr.List.elim (motive_1:=λζ=>Bool) x h (λys ζ=>f ys) else false
theorem td.k{G:Expr->Prop}{x:Expr}{f:List Expr->Bool}(h:td x f=true)(k:∀a0 a1,f a0=true->G (.List a0 a1)):G x:=
 Expr.List.elim (motive_1:=λx=>td x f=true->G x) x (got h) k h
noncomputable def j1(x:Expr)(f:Expr->Expr->Bool):Bool:=if h:x.ctorIdx=21 then Expr.Subscript.elim (motive_1:=λζ=>Bool) x h (λy z ζ=>f y z) else false
theorem j1.k{G:Expr->Prop}{x:Expr}{f:Expr->Expr->Bool}(h:j1 x f=true)(k:∀a0 a1 a2,f a0 a1=true->G (.Subscript a0 a1 a2)):G x:=
 Expr.Subscript.elim (motive_1:=λx=>j1 x f=true->G x) x (got h) k h
noncomputable def te(x:Expr)(f:Option Expr->Option Expr->Option Expr->Bool):Bool:=if h:x.ctorIdx=26 then Expr.Slice.elim (motive_1:=λζ=>Bool) x h (λl u t ζ=>f l u t) else false
theorem te.k{G:Expr->Prop}{x:Expr}{f:Option Expr->Option Expr->Option Expr->Bool}(h:te x f=true)(k:∀a0 a1 a2 a3,f a0 a1 a2=true->G (.Slice a0 a1 a2 a3)):G x:=
 Expr.Slice.elim (motive_1:=λx=>te x f=true->G x) x (got h) k h
noncomputable def fu(x:Expr)(f:Expr->List Expr->List Keyword->Pos->Bool):Bool:=if h:x.ctorIdx=16 then Expr.Call.elim (motive_1:=λζ=>Bool) x h (λg ys ks p=>f g ys ks p) else false
theorem fu.k{G:Expr->Prop}{x:Expr}{f:Expr->List Expr->List Keyword->Pos->Bool}(h:fu x f=true)(k:∀a0 a1 a2 a3,f a0 a1 a2 a3=true->G (.Call a0 a1 a2 a3)):G x:=
 Expr.Call.elim (motive_1:=λx=>fu x f=true->G x) x (got h) k h
noncomputable def yI(x:Expr):Bool:=decide (x.ctorIdx=23)||(decide (x.ctorIdx=21)||fu x λg xs ζ ζ=>vn g&&!xs.isEmpty)
noncomputable def th(x:Expr)(f:Expr->Str->Pos->Bool):Bool:=if h:x.ctorIdx=20 then Expr.Attribute.elim (motive_1:=λζ=>Bool) x h (λo y p=>f o y p) else false
theorem th.k{G:Expr->Prop}{x:Expr}{f:Expr->Str->Pos->Bool}(h:th x f=true)(k:∀a0 a1 a2,f a0 a1 a2=true->G (.Attribute a0 a1 a2)):G x:=
 Expr.Attribute.elim (motive_1:=λx=>th x f=true->G x) x (got h) k h
noncomputable def qS(x:Expr)(f:Expr->List Comprehension->Scope->Bool):Bool:=if h:x.ctorIdx=8 then Expr.ListComp.elim (motive_1:=λζ=>Bool) x h (λe gs c ζ=>f e gs c) else false
theorem qS.k{G:Expr->Prop}{x:Expr}{f:Expr->List Comprehension->Scope->Bool}(h:qS x f=true)(k:∀a0 a1 a2 a3,f a0 a1 a2=true->G (.ListComp a0 a1 a2 a3)):G x:=
 Expr.ListComp.elim (motive_1:=λx=>qS x f=true->G x) x (got h) k h
noncomputable def ti(x:Stmt)(f:Expr->Bool):Bool:=if h:x.ctorIdx=24 then Stmt.Expr.elim (motive_2:=λζ=>Bool) x h (λe ζ=>f e) else false
theorem ti.k{G:Stmt->Prop}{x:Stmt}{f:Expr->Bool}(h:ti x f=true)(k:∀a0 a1,f a0=true->G (.Expr a0 a1)):G x:=
 Stmt.Expr.elim (motive_2:=λx=>ti x f=true->G x) x (got h) k h
noncomputable def pn(x:Stmt)(f:List Expr->Expr->Bool):Bool:=if h:x.ctorIdx=5 then Stmt.Assign.elim (motive_2:=λζ=>Bool) x h (λts e ζ=>f ts e) else false
theorem pn.k{G:Stmt->Prop}{x:Stmt}{f:List Expr->Expr->Bool}(h:pn x f=true)(k:∀a0 a1 a2,f a0 a1=true->G (.Assign a0 a1 a2)):G x:=
 Stmt.Assign.elim (motive_2:=λx=>pn x f=true->G x) x (got h) k h
noncomputable def tj(x:Stmt)(f:Option Expr->Bool):Bool:=if h:x.ctorIdx=3 then Stmt.Return.elim (motive_2:=λζ=>Bool) x h (λe ζ=>f e) else false
theorem tj.k{G:Stmt->Prop}{x:Stmt}{f:Option Expr->Bool}(h:tj x f=true)(k:∀a0 a1,f a0=true->G (.Return a0 a1)):G x:=
 Stmt.Return.elim (motive_2:=λx=>tj x f=true->G x) x (got h) k h
noncomputable def tm(x:Stmt)(f:Expr->List Stmt->List Stmt->Bool):Bool:=if h:x.ctorIdx=12 then Stmt.If.elim (motive_2:=λζ=>Bool) x h (λt a b ζ=>f t a b) else false
theorem tm.k{G:Stmt->Prop}{x:Stmt}{f:Expr->List Stmt->List Stmt->Bool}(h:tm x f=true)(k:∀a0 a1 a2 a3,f a0 a1 a2=true->G (.If a0 a1 a2 a3)):G x:=
 Stmt.If.elim (motive_2:=λx=>tm x f=true->G x) x (got h) k h
noncomputable def tn(x:Stmt)(f:Expr->Expr->List Stmt->List Stmt->Bool):Bool:=if h:x.ctorIdx=9 then Stmt.For.elim (motive_2:=λζ=>Bool) x h (λt i a b ζ=>f t i a b) else false
theorem tn.k{G:Stmt->Prop}{x:Stmt}{f:Expr->Expr->List Stmt->List Stmt->Bool}(h:tn x f=true)(k:∀a0 a1 a2 a3 a4,f a0 a1 a2 a3=true->G (.For a0 a1 a2 a3 a4)):G x:=
 Stmt.For.elim (motive_2:=λx=>tn x f=true->G x) x (got h) k h
noncomputable def tp(x:Stmt)(f:Expr->List Stmt->List Stmt->Bool):Bool:=if h:x.ctorIdx=11 then Stmt.While.elim (motive_2:=λζ=>Bool) x h (λt a b ζ=>f t a b) else false
theorem tp.k{G:Stmt->Prop}{x:Stmt}{f:Expr->List Stmt->List Stmt->Bool}(h:tp x f=true)(k:∀a0 a1 a2 a3,f a0 a1 a2=true->G (.While a0 a1 a2 a3)):G x:=
 Stmt.While.elim (motive_2:=λx=>tp x f=true->G x) x (got h) k h
noncomputable def ly(x:Expr)(f:List (Option Expr)->List Expr->Bool):Bool:=if h:x.ctorIdx=6 then Expr.Dict.elim (motive_1:=λζ=>Bool) x h (λa b ζ=>f a b) else false
theorem ly.k{G:Expr->Prop}{x:Expr}{f:List (Option Expr)->List Expr->Bool}(h:ly x f=true)(k:∀a0 a1 a2,f a0 a1=true->G (.Dict a0 a1 a2)):G x:=
 Expr.Dict.elim (motive_1:=λx=>ly x f=true->G x) x (got h) k h
noncomputable def if1{α:Type}(l:List α)(f:α->Bool):Bool:=match l with
 |[a]=>f a
 |_=>false
noncomputable def if2{α:Type}(l:List α)(f:α->α->Bool):Bool:=match l with
 |[a,b]=>f a b
 |_=>false
noncomputable def lz{α:Type}(l:List α)(f:α->List α->Bool):Bool:=match l with
 |a::r=>f a r
 |_=>false
noncomputable def iw{α:Type}(l:Option α)(f:α->Bool):Bool:=match l with
 |some a=>f a
 |_=>false
theorem if1.k{α:Type}{G:List α->Prop}{l:List α}{f:α->Bool}(h:if1 l f=true)(k:∀a,f a=true->G [a]):G l:=by
 rcases l with _|⟨a,_|⟨b,l⟩⟩
 ·exact Bool.noConfusion h
 ·exact k a h
 ·exact Bool.noConfusion h
theorem if2.k{α:Type}{G:List α->Prop}{l:List α}{f:α->α->Bool}(h:if2 l f=true)(k:∀a b,f a b=true->G [a,b]):G l:=by
 rcases l with _|⟨a,_|⟨b,_|⟨c,l⟩⟩⟩
 ·exact Bool.noConfusion h
 ·exact Bool.noConfusion h
 ·exact k a b h
 ·exact Bool.noConfusion h
theorem lz.k{α:Type}{G:List α->Prop}{l:List α}{f:α->List α->Bool}(h:lz l f=true)(k:∀a r,f a r=true->G (a::r)):G l:=by
 cases l
 ·exact Bool.noConfusion h
 ·exact k _ _ h
theorem iw.k{α:Type}{G:Option α->Prop}{l:Option α}{f:α->Bool}(h:iw l f=true)(k:∀a,f a=true->G (some a)):G l:=by
 cases l
 ·exact Bool.noConfusion h
 ·exact k _ h
theorem fE{α:Type}{G:List α->Prop}{l:List α}(h:l.isEmpty=true)(k:G []):G l:=by cases l;exact k;cases h
theorem vo{α:Type}{G:Option α->Prop}{l:Option α}(h:l.isNone=true)(k:G none):G l:=by cases l;exact k;cases h
noncomputable def tq(a:E):Bool:=if h:a.ctorIdx=0 then E.k.elim (motive_1:=λζ=>Bool) a h (λv=>decide (intOf v=some 0)) else false
theorem bU{P:Prop}{α:Type}{x:Option α}{y:α}(h:x=none)(h':x=some y):P:=by rw[h] at h';cases h'
theorem intOf.k{v:V}{i:Int}(h:intOf v=some i)(P:V->Prop)(k:P (.int i)):P v:=
 V.casesOn (motive_1:=λv=>intOf v=some i->P v) v (λh=>bU rfl h) (λζ h=>bU rfl h) (λζ h=>Option.some.inj h▸k) (λζ h=>bU rfl h) (λζ h=>bU rfl h) (λζ h=>bU rfl h) (λh=>bU rfl h) h
theorem tq.k{a:E}{G:E->Prop}(h:tq a=true)(k:G (.k (.int 0))):G a:=
 E.k.elim (motive_1:=λa=>tq a=true->G a) a (got h) (λv h=>intOf.k (of_decide_eq_true h) (λv=>G (.k v)) k) h
noncomputable def tr(g:Comprehension)(f:Expr->Expr->List Expr->Bool):Bool:=decide (g.is_async=0)&&f g.target g.iter g.ifs
theorem tr.k{G:Comprehension->Prop}{g:Comprehension}{f:Expr->Expr->List Expr->Bool}(h:tr g f=true)(k:∀tg it ifs,f tg it ifs=true->G ⟨tg,it,ifs,0⟩):G g:=by
 obtain⟨tg,it,ifs,a⟩:=g
 refine bg h λh1 h2=>?_
 obtain rfl:a=0:=of_decide_eq_true h1
 exact k tg it ifs h2
noncomputable def pu(g:Keyword)(f:Str->Expr->Bool):Bool:=iw g.arg λy=>f y g.value
theorem pu.k{G:Keyword->Prop}{g:Keyword}{f:Str->Expr->Bool}(h:pu g f=true)(k:∀y v p,f y v=true->G ⟨some y,v,p⟩):G g:=by
 obtain⟨n,v,p⟩:=g
 exact iw.k (G:=λn=>G ⟨n,v,p⟩) h λy h=>k y v p h
mutual
noncomputable def i5(σ:Sn):cV->Expr->Bool
 |.U i,e=>ft e λx=>pe σ.ns i x&&qR (σ.sc.names.lookup x)
 |.aP ts,e=>l7 e λes=>tu σ ts es
noncomputable def tu(σ:Sn):List cV->List Expr->Bool
 |[],es=>es.isEmpty
 |t::ts,es=>lz es λe es=>i5 σ t e&&tu σ ts es
end
noncomputable def JE(x:Expr):List Str:=if h:x.ctorIdx=23 then Expr.Name.elim (motive_1:=λζ=>List Str) x h (λy ζ=>[y]) else[]
noncomputable def JF(x:Expr):List Expr:=if h:x.ctorIdx=25 then Expr.Tuple.elim (motive_1:=λζ=>List Expr) x h (λy ζ ζ=>y) else[]
mutual
noncomputable def gM:cV->Expr->List Str
 |.U _,e=>JE e
 |.aP ts,e=>qT ts (JF e)
noncomputable def qT:List cV->List Expr->List Str
 |t::ts,e::es=>gM t e++qT ts es
 |_,_=>[]
end
noncomputable def pv(a:Arguments)(ps:List Str):Bool:=
 a.posonlyargs.isEmpty&&(a.vararg.isNone&&(a.kwonlyargs.isEmpty&&(a.kw_defaults.isEmpty&&(a.kwarg.isNone&&(a.defaults.isEmpty&&decide (a.args.map (·.arg)=ps))))))
noncomputable def yJ:Option NameKind->Bool
 |some .cell=>true
 |some .free=>true
 |_=>false
noncomputable def pw(σ:Sn)(loc:List Str)(sc:Scope):Bool:=
 decide (sc.kind=.function)&&(!sc.isGenerator&&(!sc.isCoroutine&&(decide ((sc.names.map (·.1)).Nodup) &&
 (sc.names.all (λp=>match p.2 with
  |.local=>p.1==(".0":Str)||loc.contains p.1
  |.cell=>false
  |.free=>σ.ns.contains p.1&&(!loc.contains p.1&&yJ (σ.sc.names.lookup p.1))
  |.globalImplicit=>true
  |.globalExplicit=>false) &&
 (loc.all (λx=>decide (sc.names.lookup x=some .local))&&(!σ.ns.contains (".0":Str)&&(sc.names.lookup mk).isNone))))))
noncomputable def qU(it:It)(tg:Expr):Bool:=match it with
 |.i4 _=>s8 tg
 |_=>s8 tg||vn tg
noncomputable def vp(σ:Sn)(i:Nat)(x:Str):Bool:=pe σ.ns i x&&(JD (σ.sc.names.lookup x)&&(!(x==("__debug__":Str))&&!(x==("__classdict__":Str))))
noncomputable def CO(σ:Sn)(i:Nat)(b:Expr):Bool:=j1 b λy z=>m3 z (λc=>decide (vm (.int 0)=some c))&&j1 y λu v=>ft u (vp σ (i+1))&&ft v (vp σ 0)
noncomputable def CP(σ:Sn)(i:Nat)(v:Expr):Bool:=tc v λps b cs p=>decide (p.line=gK.ln)&&(decide (p.col=gK.lm)&&if1 ps.args λq=>pv ps [q.arg]&&(pw σ [q.arg] cs&&CO ⟨cs,q.arg::σ.ns⟩ i b))
noncomputable def dU(σ:Sn)(nm:Str)(g:Expr):Bool:=ft g λx=>(x==nm)&&nW σ nm
mutual
noncomputable def cm(σ:Sn):E->Expr->Bool
 |.k v,x=>m3 x λc=>decide (vm v=some c)
 |.U i,x=>ft x (vp σ i)
 |.gk j,x=>ft x λx=>decide (gK.u6[j]?=some x)&&nW σ x
 |.bin op a b,x=>s9 x λl o r=>decide (o=pf op)&&(cm σ a l&&cm σ b r)
 |.neg a,x=>pk x λo y=>decide (o=.USub)&&cm σ a y
 |.not a,x=>pk x λo y=>decide (o=.Not)&&cm σ a y
 |.and es,x=>pl x λo xs=>decide (o=.And)&&gN σ es xs
 |.or es,x=>pl x λo xs=>decide (o=.Or)&&gN σ es xs
 |.cmp op a b,x=>m4 x λl os rs=>if1 os λo=>if1 rs λr=>decide (o=pg op)&&(cm σ a l&&cm σ b r)
 |.sW op mW a b c,x=>m4 x λl os rs=>if2 os λo o'=>if2 rs λr r'=>decide (o=pg op)&&(decide (o'=pg mW)&&(cm σ a l&&(cm σ b r&&cm σ c r')))
 |.isNone w a,x=>m4 x λl os rs=>if1 os λo=>decide (o=if w then .Is else .IsNot)&&if1 rs λr=>m3 r λc=>decide (c=.none)&&cm σ a l
 |.aP es,x=>l7 x λxs=>decide (es.length<1000)&&gN σ es xs
 |.bE es,x=>td x λxs=>decide (es.length<1000)&&gN σ es xs
 |.aU a i,x=>j1 x λv s=>cm σ a v&&cm σ i s
 |.dT a lo hi,x=>j1 x λv s=>te s λl u t=>t.isNone&&(cm σ a v&&(yK σ lo l&&yK σ hi u))
 |.call f es,x=>fu x λg xs kws ζ=>kws.isEmpty&&ft g λx=>decide (gK.mZ[f]?=some x)&&(nW σ x&&gN σ es xs)
 |.bi b es,x=>fu x λg xs kws ζ=>match b with
   |.iv t=>kws.isEmpty&&(dU σ "isinstance" g&&if2 xs λe nm=>dU σ (Str.ofString (l6 t)) nm&&gN σ es [e])
   |.mV=>dU σ "min" g&&if1 kws λkw=>pu kw λy v=>(y==("default":Str))&&if1 xs λe=>gN σ es [e,v]
   |b=>kws.isEmpty&&iw (s7 b) λq=>dU σ q.1 g&&(decide (xs.length=q.2)&&gN σ es xs)
 |.dP m a es,x=>fu x λg xs kws pos=>kws.isEmpty&&th g λo y apos=>(y==(ph m).1)&&(yI o&&((apos.endLine==pos.line)&&(decide (xs.length=(ph m).2)&&(cm σ a o&&gN σ es xs))))
 |.comp nl elt t it cs,x=>qS x λe gs cZ=>if1 gs λg=>tr g λtg iter ifs=>
  decide ((gM t tg).length=nl)&&(pw σ (gM t tg) cZ&&(vq σ it iter&&(qU it tg&&(i5 ⟨cZ,gM t tg++σ.ns⟩ t tg&&(cm ⟨cZ,gM t tg++σ.ns⟩ elt e&&gN ⟨cZ,gM t tg++σ.ns⟩ cs ifs)))))
 |.listOf a,x=>fu x λg xs kws ζ=>kws.isEmpty&&(dU σ "list" g&&if1 xs λe=>cm σ a e)
 |.sX a,x=>fu x λg xs kws ζ=>kws.isEmpty&&(dU σ "list" g&&if1 xs λe=>fu e λg xs kws ζ=>kws.isEmpty&&(dU σ "range" g&&if1 xs λe=>cm σ a e))
 |.mX,x=>ly x λks vs=>ks.isEmpty&&vs.isEmpty
 |.lx,x=>ly x λks vs=>ks.isEmpty&&vs.isEmpty
 |.sZ a b,x=>ly x λks vs=>if1 ks λk=>iw k λk=>if1 vs λv=>cm σ a k&&cm σ b v
 |.sY a b,x=>ly x λks vs=>if1 ks λk=>iw k λk=>if1 vs λv=>cm σ a k&&cm σ b v
 |.mY a i,x=>fu x λg xs kws ζ=>dU σ "sorted" g&&((σ.sc.names.lookup mk).isSome&&if1 xs λe=>if1 kws λkw=>pu kw λy v=>(y==("key":Str))&&(cm σ a e&&CP σ i v))
 |.l3 _ a,x=>fu x λg xs kws ζ=>kws.isEmpty&&(dU σ "sorted" g&&if1 xs λe=>fu e λg xs kws ζ=>kws.isEmpty&&(dU σ "set" g&&if1 xs λe=>cm σ a e))
noncomputable def gN(σ:Sn):List E->List Expr->Bool
 |[],xs=>xs.isEmpty
 |e::es,xs=>lz xs λx xs=>cm σ e x&&gN σ es xs
noncomputable def yK(σ:Sn):Option E->Option Expr->Bool
 |none,x=>x.isNone
 |some e,x=>iw x λx=>cm σ e x
noncomputable def vq(σ:Sn):It->Expr->Bool
 |.range a b,x=>fu x λg xs kws ζ=>kws.isEmpty&&(dU σ "range" g&&(if1 xs (λe=>tq a&&cm σ b e)||if2 xs λe1 e2=>cm σ a e1&&cm σ b e2))
 |.i4 a,x=>fu x λg xs kws ζ=>kws.isEmpty&&(dU σ "enumerate" g&&if1 xs λe=>cm σ a e)
 |.of e,x=>cm σ e x
end
noncomputable def vr(a b:Expr):Bool:=!(s8 a&&s8 b)
noncomputable def pz(x:Expr):Bool:=decide (x.ctorIdx≠8/\x.ctorIdx≠9/\x.ctorIdx≠10)
noncomputable def JG(e:E):Bool:=decide (e.ctorIdx=18)
mutual
noncomputable def CQ(σ:Sn):S->Stmt->Bool
 |.expr e,st=>ti st λx=>pz x&&cm σ e x
 |.aX t e,st=>pn st λts x=>if1 ts λtg=>i5 σ t tg&&(cm σ e x&&((vn tg&&JG e||pz x)&&vr tg x))
 |.g8 a i e,st=>pn st λts x=>if1 ts λtg=>j1 tg λo j=>pz x&&(cm σ a o&&(cm σ i j&&cm σ e x))
 |.ret e,st=>tj st λx=>iw x λx=>cm σ e x
 |.bD c a b,st=>tm st λt x y=>cm σ c t&&(nX σ a x&&nX σ b y)
 |.for t it body,st=>tn st λtg iter b o=>o.isEmpty&&(i5 σ t tg&&(qU it tg&&(vq σ it iter&&nX σ body b)))
 |.bad,_=>true
 |.while c body,st=>tp st λt b o=>o.isEmpty&&(cm σ c t&&nX σ body b)
noncomputable def nX(σ:Sn):List S->List Stmt->Bool
 |[],ss=>ss.isEmpty
 |s::r,ss=>lz ss λx t=>CQ σ s x&&nX σ r t
end
structure jo where
 name:Str
 params:Arguments
 body:List Stmt
 scope:Scope
noncomputable def CR(d:jo)(ns:List Str)(f:Fn):Bool:=
 decide (f.name=d.name)&&(pv d.params (ns.take f.np)&&(decide (ns.length=f.np+f.nl)&&(decide ns.Nodup &&
 (decide (d.scope.kind=.function)&&(!d.scope.isGenerator&&(!d.scope.isCoroutine&&(decide ((d.scope.names.map (·.1)).Nodup) &&
 (d.scope.names.all (λp=>decide (p.2=.globalImplicit)||(qR (some p.2)&&ns.contains p.1)) &&
 (ns.all (λx=>qR (d.scope.names.lookup x)) &&
 (nX ⟨d.scope,ns⟩ f.body d.body&&(!(d.scope.names.lookup mk).isSome||d.name==gK.oW)))))))))))
noncomputable def JH(x:Stmt):Option jo:=if h:x.ctorIdx=0 then Stmt.FunctionDef.elim (motive_2:=λζ=>Option jo) x h (λn a b ζ ζ ζ sc ζ ζ ζ=>some ⟨n,a,b,sc⟩) else none
noncomputable def defsOf(l:List Stmt):List jo:=l.filterMap JH
noncomputable def yL(ds:List jo)(nss:List (List Str))(fs:List Fn):Bool:=
 (List.range fs.length).all λi=>iw fs[i]? λf=>iw ds[i]? λd=>iw nss[i]? λn=>decide (f.np=999)||CR d n f
end Mine
namespace Mine
open PySem PySem.Calls PyProof.Rows
noncomputable abbrev gO(xs:List Value)(n:Nat):Obj:={cls:=.type "tuple",data:=.seq xs.toArray n}
noncomputable abbrev gA(xs:List Value)(n:Nat):Obj:={cls:=.type "list",data:=.seq xs.toArray n}
noncomputable abbrev gB(ps:Array Value):Obj:={cls:=.none,data:=.fields ps}
noncomputable def lq:Str:=(gK.oW++".<locals>.")++"<lambda>"
structure m5 where
 prog:Program
 w:World
 dM:Heap
 i6:Addr
 lc:Addr
 lP:Addr
 is:List Int
 mg:Str->Option Value
 mb:Str->Option Value
 defs:List jo
 s:Shared
noncomputable abbrev m5.M(Y:m5):Model:=model Y.prog Y.w
noncomputable def l8:List (Str×Value):=[("len",.builtin "len"),("isinstance",.builtin "isinstance"),("int",.type "int"),("bool",.type "bool"),("tuple",.type "tuple"),("list",.type "list"),
 ("range",.type "range"),("enumerate",.type "enumerate"),("sum",.builtin "sum"),("sorted",.builtin "sorted"),("zip",.type "zip"),("any",.builtin "any"),("min",.builtin "min"),("max",.builtin "max"),("str",.type "str"),("set",.type "set")]
inductive tv(Y:m5)(f:Nat)(x:Str):Prop
 |mk (a:Addr) (o:Obj) (d:jo) (pm cd doc:Value) (e1:Y.defs[f]?=some d) (e2:d.name=x) (e3:Y.mg x=some (.ref a)) (e4:Y.dM.get? a=some o) (e5:o.data=.func (docDef d.name d.params d.body d.scope pm cd doc)) (e6:Y.dM.CodeRec cd d.name) (e7:x=gK.oW->cd=.ref Y.lc):tv Y f x
structure Good(Y:m5):Prop where
 g:Y.dM.Ns mainGlobals Y.mg
 b:Y.dM.Ns builtinsNs Y.mb
 bi:∀p,p∈l8->Y.mg p.1=none/\Y.mb p.1=some p.2
 fn:∀(f:Nat) (x:Str),gK.mZ[f]?=some x->tv Y f x
 gk:∀(j:Nat) (x:Str),gK.u6[j]?=some x->∃(a:Addr) (is:List Int) (vs:List Value) (n:Nat),yH[j]?=some (.aP (is.map .int))/\Y.mg x=some (.ref a)/\Y.dM.get? a=some (gO vs n)/\IntsAre vs is/\is.length<=1000
 nolimit:Y.dM.NoLimit
 seer:Y.dM.NoSeer
 tree:Y.prog.given.tree=none
 g7:∃xs:List Value,Y.dM.IsList Y.i6 xs.toArray/\IntsAre xs Y.is
 short:Y.is.length<=63
 low:∃o,Y.dM.get? cStatics=some o
 tab:∀(h:Heap) (ps:Array Value),(∀a o,Y.dM.get? a=some o->h.get? a=some o)->h.get? Y.lP=some (gB ps)->TriplesOk ps.toList->h.IsCode Y.lc Y.lP ps/\h.TableAt Y.lc Y.lP ps
 bm:∃b o,Y.mg "__builtins__"=some (.ref b)/\b≠builtinsNs/\b≠Y.lP/\Y.dM.get? b=some o/\o.cls=.type "module"/\o.dict=some builtinsNs/\o.data=.plain
 gP:mainGlobals≠Y.lP
 CS:yL Y.defs CN yG=true
 up:∀a o,Y.dM.get? a=some o->Y.s.heap.get? a=some o
 nY:Y.dM.get? Y.lP=none
 back:∀b o,b≠Y.lP->Y.s.heap.get? b=some o->Y.dM.get? b=some o
 tabS:Y.s.heap.get? Y.lP=some (gB #[])
noncomputable abbrev NE:Value->Shared->Prop:=λζ ζ=>False
noncomputable def Run(Y:m5):Prop:=∀(fa:Addr) (Q:Value->Shared->Prop),Y.mg "law"=some (.ref fa)->(∀ps h' tk,(∀b o,b≠Y.lP->Y.s.heap.get? b=some o->h'.get? b=some o)->h'.get? Y.lP=some (gB ps)->Q (.bool true) {Y.s with heap:=h',toks:=tk})->wpAny Y.M callerA (call (.ref fa) [.ref Y.i6]) Q NE Y.s
noncomputable def X:m5:=@Classical.epsilon m5 ⟨⟨default,⟨λζ ζ=>0,{strHash:=λζ=>0,shareClass:=λζ=>0,mergeTok:=id,idOf:=λζ=>0,idOfShared:=λζ ζ=>0,followText:=λζ=>false,idOfImm:=λζ=>0}⟩,{},0,0,0,[],λζ=>none,λζ=>none,[],{}⟩⟩ λY=>Good Y/\¬Run Y
theorem JI(h:Good X->Run X)(Y:m5)(g:Good Y):Run Y:=byContradiction λn=>
 have e:Good X/\¬Run X:=Classical.epsilon_spec (p:=λY=>Good Y/\¬Run Y) ⟨Y,g,n⟩
 e.2 (h e.1)
end Mine
namespace Mine
open PySem
noncomputable def be{α:Type}(o:Option α)(f:α->Prop):Prop:=match o with|some a=>f a|none=>False
noncomputable def bW(t:Bool)(A B:Prop):Prop:=match t with|true=>A|false=>B
noncomputable def ez(t:Bool)(A:Prop):Prop:=match t with|true=>A|false=>False
noncomputable def c3(x:V)(f:Int->Prop):Prop:=match x with | .int i=>f i|_=>False
noncomputable def w1(vs:List V)(f:V->Prop):Prop:=match vs with | [x]=>f x|_=>False
noncomputable def w2(vs:List V)(f:V->V->Prop):Prop:=match vs with | [x,y]=>f x y|_=>False
noncomputable def CT{α:Type}(l:List α)(A B:Prop):Prop:=match l with | []=>A|_::_=>B
noncomputable def lA{α:Type}(l:List α):Bool:=decide (l.length<16000000)
noncomputable def yM(a b:Int):Bool:=!(decide (Builtin.Int.intBits a>shortFactorBits)&&decide (Builtin.Int.intBits b>shortFactorBits)&&Builtin.Int.intTooBig (Builtin.Int.intBits a+Builtin.Int.intBits b))
noncomputable def eJ(f:V->Option PyData):List V->Option (List PyData)
 |[]=>some []
 |v::r=>match f v,eJ f r with
  |some d,some ds=>some (d::ds)
  |_,_=>none
noncomputable def pA:bc->Option (List V)
 |.list vs=>some vs
 |_=>none
noncomputable def fS:bc->Option (List (Int×V))
 |.dict _ es=>some es
 |_=>none
noncomputable def i7:bc->Option (List ((Int×Bool)×V))
 |.cD _ es=>some es
 |_=>none
noncomputable def cellAt{β:Type}(f:bc->Option β)(H:Hp):V->Option β
 |.ref l=>H[l]?.bind f
 |_=>none
noncomputable abbrev cP(H:Hp):V->Option (List V):=cellAt pA H
noncomputable abbrev jF(H:Hp):V->Option (List (Int×V)):=cellAt fS H
noncomputable abbrev nZ(H:Hp):V->Option (List ((Int×Bool)×V)):=cellAt i7 H
noncomputable def vt:V->Option PyData
 |.none=>some .none
 |.bool b=>some (.bool b)
 |.int i=>some (.int i)
 |.str s=>if PyData.strOk s=true then some (.str s) else none
 |_=>none
noncomputable def rd(H:Hp):Nat->V->Option PyData
 |0,v=>vt v
 |n+1,.aP vs=>(eJ (rd H n) vs).map .tuple
 |n+1,.ref l=>(cP H (.ref l)).bind λvs=>(eJ (rd H n) vs).map .list
 |_+1,v=>vt v
noncomputable def truthy(H:Hp):V->Option Bool
 |.none=>some false
 |.bool b=>some b
 |.int i=>some (i != 0)
 |.aP vs=>some (!vs.isEmpty)
 |.ref l=>(cP H (.ref l)).map λvs=>!vs.isEmpty
 |_=>none
noncomputable def lB(H:Hp):V->Option (List V)
 |.aP vs=>some vs
 |.ref l=>cP H (.ref l)
 |.g7=>some (X.is.map .int)
 |_=>none
section
variable{K:Type}[DecidableEq K]
noncomputable def eO(es:List (K×V))(k:K):Option V:=(es.find? (λp=>decide (p.1=k))).map (·.2)
noncomputable def dput(es:List (K×V))(k:K)(v:V):List (K×V):=if es.any (λp=>decide (p.1=k)) then es.map (λp=>if p.1=k then(p.1,v) else p) else es++[(k,v)]
noncomputable def lC(es:List (K×V))(k:K):Bool:=es.any λp=>decide (p.1=k)
end
noncomputable def boolOf:V->Option Bool
 |.bool b=>some b
 |_=>none
noncomputable def l9:V->Option (List V)
 |.aP vs=>some vs
 |_=>none
noncomputable def two{α β:Type}(l:List α)(f:α->α->Option β):Option β:=match l with
 |[a,b]=>f a b
 |_=>none
noncomputable def pairOf(x:V):Option (Int×Bool):=(l9 x).bind λvs=>two vs λa b=>(intOf a).bind λi=>(boolOf b).map λb=>(i,b)
noncomputable def allInts:List V->Option (List Int)
 |[]=>some []
 |v::r=>(intOf v).bind λi=>(allInts r).map (i::·)
noncomputable def n0:List V->Option (List Bool)
 |[]=>some []
 |v::r=>(boolOf v).bind λb=>(n0 r).map (b::·)
noncomputable def jp(H:Hp)(x:V):Option (List Int):=(cP H x).bind allInts
noncomputable def j2:List Int->List Int->Bool
 |_,[]=>false
 |[],_::_=>true
 |a::r,b::t=>if a=b then j2 r t else decide (a<b)
noncomputable def ltV(x y:V)(H:Hp):Option Bool:=match x,y with
 |.int a,.int b=>some (decide (a<b))
 |.ref l,.ref m=>(jp H (.ref l)).bind λa=>(jp H (.ref m)).map λb=>j2 a b
 |_,_=>none
noncomputable def qV(x y:V)(f:Int->Int->Bool):Option Bool:=(intOf x).bind λa=>(intOf y).map λb=>f a b
noncomputable def j3(H:Hp)(x:V):Option Bool:=match jF H x with
 |some es=>some es.isEmpty
 |none=>(nZ H x).map (·.isEmpty)
noncomputable def kL(H:Hp)(x y:V):Option Bool:=match j3 H x with
 |some a=>(j3 H y).bind λb=>if a||b then some (a&&b) else none
 |none=>(rd H 10 x).bind λd=>(rd H 10 y).map λe=>PyData.eqv d e
noncomputable def pB(H:Hp)(x y:V):Option Bool:=match jF H y with
 |some es=>(intOf x).map λk=>lC es k
 |none=>match nZ H y with
  |some es=>(pairOf x).map λq=>lC es q
  |none=>(lB H y).bind λvs=>(eJ (rd H 10) vs).bind λds=>(rd H 10 x).map λd=>ds.any λe=>PyData.eqv e d
noncomputable def fT(op:kJ)(x y:V)(H:Hp):Option Bool:=match op with
 |.eq=>kL H x y
 |.ne=>(kL H x y).map (!·)
 |.lt=>ltV x y H
 |.gt=>qV x y λa b=>decide (a>b)
 |.le=>qV x y λa b=>decide (a<=b)
 |.d3=>pB H x y
 |.fR=>(pB H x y).map (!·)
noncomputable def j4{α:Type}(l:List α)(k:Int):Option α:=
 if 0<=k then l[k.toNat]? else if -(l.length:Int)<=k then l[(k+l.length).toNat]? else none
noncomputable def eQ(x i:V)(H:Hp):Option V:=match i with
 |.int k=>match lB H x with
  |some vs=>j4 vs k
  |none=>(jF H x).bind λes=>eO es k
 |i=>(pairOf i).bind λq=>(nZ H x).bind λes=>eO es q
noncomputable def tx(n:Nat)(d:Nat):Option Int->Nat
 |none=>d
 |some k=>(max (0:Int) (min (if k<0 then k+n else k) n)).toNat
noncomputable def dW{α:Type}(l:List α)(lo hi:Option Int):List α:=
 (l.take (tx l.length l.length hi)).drop (tx l.length 0 lo)
noncomputable def ma:V->Option (Option Int)
 |.none=>some none
 |.int k=>if k.natAbs<2^60 then some (some k) else none
 |_=>none
mutual
noncomputable def aX:cV->V->aV->Option aV
 |.U i,v,ρ=>if i<ρ.length then some (ρ.set i (some v)) else none
 |.aP ts,.aP vs,ρ=>tA ts vs ρ
 |.aP _,_,_=>none
noncomputable def tA:List cV->List V->aV->Option aV
 |[],[],ρ=>some ρ
 |t::ts,v::vs,ρ=>(aX t v ρ).bind (tA ts vs)
 |_,_,_=>none
end
noncomputable def n3(x i v:V)(H:Hp)(k:Hp->Prop):Prop:=match x with
 |.ref l=>be H[l]? λc=>match c with
  |.list xs=>c3 i λj=>(0<=j/\j<xs.length)/\k (H.set l (.list (xs.set j.toNat v)))
  |.dict _ es=>c3 i λj=>ez (lA es) (∀ep,k (H.set l (.dict ep (dput es j v))))
  |.cD _ es=>be (pairOf i) λj=>ez (lA es) (∀ep,k (H.set l (.cD ep (dput es j v))))
  |_=>False
 |_=>False
noncomputable def fN(q:Int×Bool):V:=.aP [.int q.1,.bool q.2]
noncomputable def keysOf(H:Hp)(x:V):Option (List V):=match jF H x with
 |some es=>some (es.map λp=>.int p.1)
 |none=>match nZ H x with
  |some es=>some (es.map λp=>fN p.1)
  |none=>lB H x
noncomputable def copyOf(H:Hp)(x:V):Option (List V):=match jF H x with
 |some es=>some (es.map λp=>.int p.1)
 |none=>match l9 x with
  |some vs=>some vs
  |none=>cP H x
noncomputable def watch:V->List Nat
 |.ref l=>[l]
 |_=>[]
noncomputable def d6(ws:List Nat)(H₀ H:Hp):Bool:=ws.all λl=>decide (H[l]?=H₀[l]?)
noncomputable def g9(a b:Int):List V:=(List.range (b - a).toNat).map λ(i:Nat)=>.int (a+(i:Int))
noncomputable def m6:Nat->List V->List V
 |_,[]=>[]
 |k,v::r=>.aP [.int k,v]::m6 (k+1) r
noncomputable def weight:aV->Nat
 |[]=>1000
 |some (.int i)::r=>i.natAbs+weight r
 |_::r=>weight r
noncomputable def jq(vs:List V)(H:Hp)(Q:PQ):Prop:=Q (.ref H.length) (H++[.list vs])
noncomputable def n4(vs:List V)(H:Hp)(Q:PQ):Prop:=ez (lA vs) (jq vs H Q)
noncomputable def binI(op:kI)(a b:Int):Option Int:=match op with
 |.add=>some (a+b)
 |.sub=>some (a - b)
 |.mul=>if yM a b then some (a*b) else none
 |.fdiv=>if b=0 then none else some (a.fdiv b)
 |.mod=>if b=0 then none else some (a.fmod b)
 |.pow=>if a=10/\0<=b/\b<=64 then some (10^b.toNat) else none
noncomputable def tB(op:kI)(x y:V)(H:Hp)(Q:PQ):Prop:=match x with
 |.int a=>c3 y λb=>be (binI op a b) λi=>Q (.int i) H
 |x=>ez (decide (op=.add)) (be (cP H x) λxs=>be (cP H y) λys=>n4 (xs++ys) H Q)
noncomputable def yN(H:Hp)(t:Ty)(x:V):Option Bool:=match x,t with
 |.bool _,.bool=>some true
 |.bool _,.int=>some true
 |.int _,.int=>some true
 |.int _,.bool=>some false
 |.aP _,.tuple=>some true
 |.str _,.str=>some true
 |.ref l,.list=>(cP H (.ref l)).map λζ=>true
 |_,_=>none
noncomputable def minOf(is:List Int)(d:Int):Int:=match is with
 |[]=>d
 |a::r=>r.foldl min a
noncomputable def qW:List V->Option (List (Int×Bool))
 |[]=>some []
 |v::r=>(pairOf v).bind λq=>(qW r).map (q::·)
noncomputable def vu(x:V)(H:Hp)(Q:PQ):Prop:=be ((cP H x).bind qW) λqs=>(∀rs:List (Int×Bool),rs.Nodup->(∀q∈rs,q∈qs)->rs.length<=60)/\∀rs:List (Int×Bool),rs.Nodup->(∀q,q∈rs↔q∈qs)->jq (rs.map fN) H Q
noncomputable def vw(x:V)(H:Hp)(Q:PQ):Prop:=be (jp H x) λis=>(∀js:List Int,js.Nodup->(∀i∈js,i∈is)->js.length<=60)/\∀js:List Int,js.Pairwise (·<·)->(∀i,i∈js↔i∈is)->jq (js.map .int) H Q
noncomputable def yO(t:Bool)(x:V)(H:Hp)(Q:PQ):Prop:=match t with|true=>vw x H Q|false=>vu x H Q
noncomputable def vx(x:V):Option (Int×Int):=(l9 x).bind λvs=>two vs λa b=>(intOf a).bind λi=>(intOf b).map λj=>(i,j)
noncomputable def qX:List V->Option (List (Int×Int))
 |[]=>some []
 |v::r=>(vx v).bind λq=>(qX r).map (q::·)
noncomputable def yP(x:V)(H:Hp)(Q:PQ):Prop:=be ((cP H x).bind qX) λqs=>qs≠[]/\∀q∈qs,(∀q'∈qs,q'.1<q.1\/q'.1=q.1/\q'.2<=q.2)->Q (.aP [.int q.1,.int q.2]) H
noncomputable def yQ(x:V)(H:Hp)(Q:PQ):Prop:=be (jp H x) λis=>be is.head? λi=>Q (.int (is.tail.foldl min i)) H
noncomputable def pC(b:Bi)(vs:List V)(H:Hp)(Q:PQ):Prop:=match b with
 |.len=>w1 vs λx=>be (lB H x) λl=>Q (.int l.length) H
 |.iv t=>w1 vs λx=>be (yN H t x) λb=>Q (.bool b) H
 |.sU=>w1 vs λx=>be (jp H x) λis=>Q (.int is.sum) H
 |.any=>w1 vs λx=>be ((cP H x).bind n0) λbs=>Q (.bool (bs.any id)) H
 |.max2=>w2 vs λx y=>c3 x λa=>c3 y λb=>Q (.int (max a b)) H
 |.mV=>w2 vs λx d=>c3 d λd=>be (jp H x) λis=>Q (.int (minOf is d)) H
 |.tupleOf=>w1 vs λx=>be (cP H x) λxs=>Q (.aP xs) H
 |.sortI=>w1 vs λx=>be (jp H x) λis=>is.length<64/\∀js:List Int,js.Perm is->js.Pairwise (·<=·)->jq (js.map .int) H Q
 |.qN=>w1 vs λx=>yQ x H Q
 |.sV=>w1 vs λx=>yP x H Q
noncomputable def tC(m:Me)(H:Hp)(x:V):Bool:=match m with
 |.append=>(cP H x).isSome
 |.lu=>(jF H x).isSome
 |.clear=>(cP H x).isSome
noncomputable def qY(x:V)(vs:List V)(H:Hp)(Q:PQ):Prop:=match x with
 |.ref l=>Q .none (H.set l (.list vs))
 |_=>False
noncomputable def tD(m:Me)(x:V)(vs:List V)(H:Hp)(Q:PQ):Prop:=match m with
 |.append=>be (cP H x) λxs=>w1 vs λv=>ez (lA xs) (qY x (xs++[v]) H Q)
 |.lu=>be (jF H x) λes=>w2 vs λk d=>c3 k λk=>Q ((eO es k).getD d) H
 |.clear=>be (cP H x) λζ=>CT vs (qY x [] H Q) False
noncomputable def qZ(x lo hi:V)(H:Hp)(Q:PQ):Prop:=be (ma lo) λl=>be (ma hi) λh=>match x with
 |.aP vs=>be h λk=>ez (l.isNone&&decide (0<=k)) (Q (.aP (vs.take k.toNat)) H)
 |x=>be (lB H x) λvs=>n4 (dW vs l h) H Q
noncomputable def q0(x y:V)(f:List V->Prop):Prop:=c3 x λi=>c3 y λj=>(i.natAbs<2^60/\j.natAbs<2^60)/\f (g9 i j)
noncomputable def lD(o:Out)(f:aV->Hp->Prop)(A:Prop):Prop:=match o with | .next ρ H=>f ρ H | .ret _ _=>A
noncomputable def cn(Q:PQ)(o:Out):Prop:=match o with | .ret v H=>Q v H | .next _ H=>Q .none H
noncomputable def n5(K:Out->Prop)(N:aV->Hp->Prop)(o:Out):Prop:=match o with
 |.next ρ H=>N ρ H
 |.ret v H=>K (.ret v H)
noncomputable def gC(ws:List Nat)(H₀:Hp)(t:cV)(test:aV->Hp->(Bool->Hp->Prop)->Prop)(elt:aV->Hp->PQ->Prop):List V->aV->Hp->List V->(List V->Hp->Prop)->Prop
 |[],_,H,acc,Q=>Q acc H
 |v::vs,ρ,H,acc,Q=>be (aX t v ρ) λcb=>test cb H λb H₁=>
   bW b (elt cb H₁ λy H₂=>d6 ws H₀ H₂=true/\gC ws H₀ t test elt vs cb H₂ (acc++[y]) Q) (d6 ws H₀ H₁=true/\gC ws H₀ t test elt vs cb H₁ acc Q)
noncomputable def n6(ws:List Nat)(H₀:Hp)(t:cV)(body:aV->Hp->(Out->Prop)->Prop):List V->aV->Hp->(Out->Prop)->Prop
 |[],ρ,H,K=>K (.next ρ H)
 |v::vs,ρ,H,K=>be (aX t v ρ) λcb=>body cb H (n5 K λgi H₁=>d6 ws H₀ H₁=true/\n6 ws H₀ t body vs gi H₁ K)
noncomputable def vy(test:aV->Hp->(Bool->Hp->Prop)->Prop)(body:aV->Hp->(Out->Prop)->Prop):Nat->aV->Hp->(Out->Prop)->Prop
 |0,_,_,_=>False
 |n+1,ρ,H,K=>test ρ H λb H=>bW b (body ρ H (n5 K λgi H₁=>vy test body n gi H₁ K)) (K (.next ρ H))
mutual
noncomputable def WE:Cl->E->aV->Hp->PQ->Prop
 |_,.k v,_,H,Q=>Q v H
 |_,.U i,ρ,H,Q=>be (ρ[i]?.join) λv=>Q v H
 |_,.gk j,_,H,Q=>be yH[j]? λv=>Q v H
 |C,.bin op a b,ρ,H,Q=>WE C a ρ H λx H=>WE C b ρ H λy H=>tB op x y H Q
 |C,.neg a,ρ,H,Q=>WE C a ρ H λx H=>c3 x λi=>Q (.int (-i)) H
 |C,.not a,ρ,H,Q=>WE C a ρ H λx H=>be (truthy H x) λb=>Q (.bool (!b)) H
 |C,.and es,ρ,H,Q=>j5 C true es ρ H Q
 |C,.or es,ρ,H,Q=>j5 C false es ρ H Q
 |C,.cmp op a b,ρ,H,Q=>WE C a ρ H λx H=>WE C b ρ H λy H=>be (fT op x y H) λt=>Q (.bool t) H
 |C,.sW op mW a b c,ρ,H,Q=>WE C a ρ H λx H=>WE C b ρ H λy H=>be (fT op x y H) λt=>bW t (WE C c ρ H λz H=>be (fT mW y z H) λt=>Q (.bool t) H) (Q (.bool false) H)
 |C,.isNone w a,ρ,H,Q=>WE C a ρ H λx H=>Q (.bool (sT x==w)) H
 |C,.aP es,ρ,H,Q=>m7 C es ρ H λvs H=>Q (.aP vs) H
 |C,.bE es,ρ,H,Q=>m7 C es ρ H λvs H=>jq vs H Q
 |C,.aU a i,ρ,H,Q=>WE C a ρ H λx H=>WE C i ρ H λy H=>be (eQ x y H) λv=>Q v H
 |C,.dT a lo hi,ρ,H,Q=>WE C a ρ H λx H=>WO C lo ρ H λl H=>WO C hi ρ H λh H=>qZ x l h H Q
 |C,.call f es,ρ,H,Q=>m7 C es ρ H λvs H=>C f vs H Q
 |C,.bi b es,ρ,H,Q=>m7 C es ρ H λvs H=>pC b vs H Q
 |C,.dP m a es,ρ,H,Q=>WE C a ρ H λx H=>ez (tC m H x) (m7 C es ρ H λvs H=>tD m x vs H Q)
 |C,.comp nl elt t it cs,ρ,H,Q=>me C it ρ H λp H=>ez (lA p.1) (gC p.2 H t (λρ H Q=>WT C cs ρ H Q) (λρ H Q=>WE C elt ρ H Q) p.1 (replicate nl none++ρ) H [] λvs H=>jq vs H Q)
 |C,.listOf e,ρ,H,Q=>WE C e ρ H λx H=>be (copyOf H x) λvs=>n4 vs H Q
 |C,.sX e,ρ,H,Q=>WE C e ρ H λx H=>c3 x λj=>(0<=j/\j<16000000)/\jq (g9 0 j) H Q
 |_,.mX,_,H,Q=>Q (.ref H.length) (H++[.dict 0 []])
 |_,.lx,_,H,Q=>Q (.ref H.length) (H++[.cD 0 []])
 |C,.sZ a b,ρ,H,Q=>WE C a ρ (H++[.cD 0 []]) λx H1=>WE C b ρ H1 λy H2=>be (pairOf x) λk=>H2[H.length]?=some (.cD 0 [])/\∀ep,Q (.ref H.length) (H2.set H.length (.cD ep [(k,y)]))
 |C,.sY a b,ρ,H,Q=>WE C a ρ (H++[.dict 0 []]) λx H1=>WE C b ρ H1 λy H2=>c3 x λk=>H2[H.length]?=some (.dict 0 [])/\∀ep,Q (.ref H.length) (H2.set H.length (.dict ep [(k,y)]))
 |C,.mY a i,ρ,H,Q=>WE C a ρ H λx H=>be (cP H x) λvs=>(vs.length<64/\H[0]?=some .tab)/\(∀v∈vs,be (ρ[i]?.join) λx=>be (eQ x v H) λy=>be (eQ y (.int 0) H) λk=>c3 k λζ=>True)/\∀ws:List V,ws.Perm vs->jq ws H Q
 |C,.l3 t a,ρ,H,Q=>WE C a ρ H λx H=>yO t x H Q
noncomputable def m7:Cl->List E->aV->Hp->(List V->Hp->Prop)->Prop
 |_,[],_,H,Q=>Q [] H
 |C,e::r,ρ,H,Q=>WE C e ρ H λv H=>m7 C r ρ H λvs H=>Q (v::vs) H
noncomputable def WO:Cl->Option E->aV->Hp->PQ->Prop
 |_,none,_,H,Q=>Q .none H
 |C,some e,ρ,H,Q=>WE C e ρ H Q
noncomputable def j5:Cl->Bool->List E->aV->Hp->PQ->Prop
 |_,_,[],_,_,_=>False
 |C,w,e::r,ρ,H,Q=>WE C e ρ H λx H=>CT r (Q x H) (be (truthy H x) λt=>bW (t==w) (j5 C w r ρ H Q) (Q x H))
noncomputable def WT:Cl->List E->aV->Hp->(Bool->Hp->Prop)->Prop
 |_,[],_,H,Q=>Q true H
 |C,e::r,ρ,H,Q=>WE C e ρ H λx H=>be (truthy H x) λt=>bW t (WT C r ρ H Q) (Q false H)
noncomputable def me:Cl->It->aV->Hp->(List V×List Nat->Hp->Prop)->Prop
 |C,.of e,ρ,H,Q=>WE C e ρ H λx H=>be (keysOf H x) λvs=>Q (vs,watch x) H
 |C,.range a b,ρ,H,Q=>WE C a ρ H λx H=>WE C b ρ H λy H=>q0 x y λl=>Q (l,[]) H
 |C,.i4 e,ρ,H,Q=>WE C e ρ H λx H=>be (cP H x) λvs=>Q (m6 0 vs,watch x) H
end
noncomputable def n7(C:Cl)(e:E)(ρ:aV)(H:Hp)(Q:Bool->Hp->Prop):Prop:=WE C e ρ H λx H=>be (truthy H x) λt=>Q t H
mutual
noncomputable def WS:Cl->S->aV->Hp->(Out->Prop)->Prop
 |C,.expr e,ρ,H,K=>WE C e ρ H λζ H=>K (.next ρ H)
 |C,.aX t e,ρ,H,K=>WE C e ρ H λv H=>be (aX t v ρ) λcb=>K (.next cb H)
 |C,.g8 a i e,ρ,H,K=>WE C e ρ H λv H=>WE C a ρ H λx H=>WE C i ρ H λk H=>n3 x k v H λH'=>K (.next ρ H')
 |C,.ret e,ρ,H,K=>WE C e ρ H λv H=>K (.ret v H)
 |C,.bD c a b,ρ,H,K=>n7 C c ρ H λt H=>bW t (aY C a ρ H K) (aY C b ρ H K)
 |C,.for t it body,ρ,H,K=>me C it ρ H λp H=>n6 p.2 H t (λρ H K=>aY C body ρ H K) p.1 ρ H K
 |_,.bad,_,_,_=>False
 |C,.while c body,ρ,H,K=>vy (λρ H Q=>n7 C c ρ H Q) (λρ H K=>aY C body ρ H K) (weight ρ) ρ H K
noncomputable def aY:Cl->List S->aV->Hp->(Out->Prop)->Prop
 |_,[],ρ,H,K=>K (.next ρ H)
 |C,s::r,ρ,H,K=>WS C s ρ H λo=>lD o (λρ H=>aY C r ρ H K) (K o)
end
noncomputable def aM:Nat->Cl
 |0,_,_,_,_=>False
 |n+1,f,vs,H,Q=>be yG[f]? λd=>(vs.length=d.np/\d.np≠999)/\aY (aM n) d.body (vs.map some++replicate d.nl none) H (cn Q)
theorem CU(i n:Nat):min (i:Int) (n:Int)=((min i n:Nat):Int):=by
 rcases le_total i n with h|h
 ·rw[Int.min_eq_left (ofNat_le.mpr h),min_eq_left h]
 ·rw[Int.min_eq_right (ofNat_le.mpr h),Nat.min_eq_right h]
structure Ws where
 φ:List Addr
 h:Heap
mutual
inductive bf(p:Ws):V->Value->Prop
 |none:bf p .none .none
 |bool (b:Bool):bf p (.bool b) (.bool b)
 |int (i:Int) (t:Tok):bf p (.int i) (.int i t)
 |str (s:Str) (t:Tok):bf p (.str s) (.str s t)
 |aP {a:Addr} {n:Nat} {vs:List V} {xs:List Value}:p.h.get? a=some (gO xs n)->bu p vs xs->vs.length<=16000000->a∉p.φ->bf p (.aP vs) (.ref a)
 |ref {l:Nat} {a:Addr}:p.φ[l]?=some a->bf p (.ref l) (.ref a)
 |g7:bf p .g7 (.ref X.i6)
inductive bu(p:Ws):List V->List Value->Prop
 |nil:bu p [] []
 |cons {v:V} {x:Value} {vs:List V} {xs:List Value}:bf p v x->bu p vs xs->bu p (v::vs) (x::xs)
end
noncomputable def bf.Inv(p:Ws)(P:Value->Prop):V->Prop
 |.none=>P .none
 |.bool b=>P (.bool b)
 |.int i=>∀t,P (.int i t)
 |.str s=>∀t,P (.str s t)
 |.aP vs=>∀a n xs,p.h.get? a=some (gO xs n)->bu p vs xs->vs.length<=16000000->a∉p.φ->P (.ref a)
 |.ref l=>∀a,p.φ[l]?=some a->P (.ref a)
 |.g7=>P (.ref X.i6)
theorem bf.inv{p:Ws}{v:V}{x:Value}(r:bf p v x)(P:Value->Prop):bf.Inv p P v->P x:=
 bf.casesOn (motive_1:=λv x ζ=>bf.Inv p P v->P x) r (λk=>k) (λζ k=>k) (λζ t k=>k t) (λζ t k=>k t) (λe q z n k=>k _ _ _ e q z n) (λe k=>k _ e) (λk=>k)
noncomputable def bu.Inv(p:Ws)(P:List Value->Prop):List V->Prop
 |[]=>P []
 |v::vs=>∀x xs,bf p v x->bu p vs xs->P (x::xs)
theorem bu.inv{p:Ws}{vs:List V}{xs:List Value}(r:bu p vs xs)(P:List Value->Prop):bu.Inv p P vs->P xs:=
 bu.casesOn (motive_2:=λvs xs ζ=>bu.Inv p P vs->P xs) r (λk=>k) (λa b k=>k _ _ a b)
theorem bu.ind{p:Ws}{M:List V->List Value->Prop}(n:M [] [])(c:∀{v x vs xs},bf p v x->bu p vs xs->M vs xs->M (v::vs) (x::xs)){vs:List V}{xs:List Value}(r:bu p vs xs):M vs xs:=
 bu.rec (motive_1:=λζ ζ ζ=>True) (motive_2:=λvs xs ζ=>M vs xs) trivial (λζ=>trivial) (λζ ζ=>trivial) (λζ ζ=>trivial) (λζ ζ ζ ζ ζ=>trivial) (λζ=>trivial) trivial n (λa b ζ m=>c a b m) r
theorem pD{α:Type}{l r:List α}{i:Nat}{a:α}(e:l[i]?=some a):(l++r)[i]?=some a:=by rw[getElem?_append_left (List.getElem?_eq_some_iff.mp e).1];exact e
noncomputable def fz(o:Obj):Bool:=match o.data with
 |.seq _ _=>o.cls==.type "tuple"
 |.fields _=>o.cls==.type "code"
 |_=>false
theorem yR{o:Obj}{es:Array DictEntry}{ep:Nat}(h:o.data=.dict es ep):fz o=false:=by unfold fz;rw[h]
theorem JJ{o:Obj}{v:Option Value}(h:o.data=.cell v):fz o=false:=by unfold fz;rw[h]
theorem m8{o:Obj}{nm:String}(hc:o.cls=.type nm)(hn:(Value.type nm==.type "tuple")=false)(vz:(Value.type nm==.type "code")=false):fz o=false:=by
 unfold fz;rw[hc,hn,vz]
 cases o.data<;>rfl
theorem no{P:Prop}{b:Bool}(h:b=true)(h':b=false):P:=by rw[h] at h';cases h'
structure Kp(p q:Ws):Prop where
 pre:∀(l:Nat) (a:Addr),p.φ[l]?=some a->q.φ[l]?=some a
 q8:∀a o,fz o=true->p.h.get? a=some o->a∉p.φ->q.h.get? a=some o/\a∉q.φ
structure bJ(own:Addr->Prop)(p q:Ws):Prop where
 pre:∀(l:Nat) (a:Addr),p.φ[l]?=some a->q.φ[l]?=some a
 keep:∀a o,p.h.get? a=some o->a∉p.φ->(own a->fz o=true)->q.h.get? a=some o
 fresh:∀a,a∈q.φ->a∉p.φ->p.h.get? a=none
 alive:∀a o,p.h.get? a=some o->∃o',q.h.get? a=some o'
noncomputable abbrev eU:Addr->Prop:=λζ=>False
noncomputable def Ch(io:Addr->Prop)(h h':Heap):Prop:=∀a o,h.get? a=some o->(io a->fz o=true)->h'.get? a=some o
noncomputable def aI(h h':Heap):Prop:=∀a o,h.get? a=some o->h'.get? a=some o
section
variable{own own' io:Addr->Prop}{p q r:Ws}{h h':Heap}{a:Addr}{o:Obj}
theorem aI.push(o:Obj):aI h (h.push o):=λζ ζ e=>get?_push_of_some o e
theorem aI.ch(e:aI h h'):Ch io h h':=λa o x ζ=>e a o x
theorem Ch.but{b:Addr}(e:ExtBut b h h')(hb:∀o,h.get? b=some o->fz o=false):Ch (·=b) h h':=λa o x hf=>(Classical.em (a=b)).elim (λe'=>no (hf e') (hb o (e'▸x))) λhn=>e a o hn x
theorem bJ.refl:bJ own p p:=⟨λζ ζ e=>e,λζ ζ e ζ ζ=>e,λζ h1 h2=>absurd h1 h2,λζ o e=>⟨o,e⟩⟩
theorem bJ.n8(S:bJ own p q)(ho:p.h.get? a=some o)(ha:a∉p.φ):a∉q.φ:=λhm=>bU (S.fresh a hm ha) ho
theorem bJ.dead(S:bJ own p q)(hn:q.h.get? a=none):p.h.get? a=none:=by
 cases e:p.h.get? a with
 |none=>rfl
 |some o=>exact(S.alive a o e).elim λζ e'=>bU hn e'
theorem bJ.trans(S:bJ own p q)(T:bJ own q r):bJ own p r:=
 ⟨λl a e=>T.pre l a (S.pre l a e),λa o e h1 h2=>T.keep a o (S.keep a o e h1 h2) (S.n8 e h1) h2,λa h1 h2=>(Classical.em (a∈q.φ)).elim (λh=>S.fresh a h h2) λh=>S.dead (T.fresh a h1 h),
  λa o e=>(S.alive a o e).elim λo1 x=>T.alive a o1 x⟩
theorem bJ.ow(S:bJ own p q)(hs:∀a,own a->own' a\/p.h.get? a=none):bJ own' p q:=
 ⟨S.pre,λa o e h1 h2=>S.keep a o e h1 λhm=>(hs a hm).elim h2 λhn=>bU hn e,S.fresh,S.alive⟩
theorem bJ.nil(S:bJ eU p q):bJ own p q:=S.ow λζ h=>h.elim
theorem bJ.ch(S:bJ own p q)(c:Ch io q.h h')(c4:∀a,io a->p.h.get? a=none\/own a/\∃o',h'.get? a=some o'):bJ own p ⟨q.φ,h'⟩:=
 ⟨S.pre,λa o e h1 h2=>c a o (S.keep a o e h1 h2) λhi=>(c4 a hi).elim (λhn=>bU hn e) λy=>h2 y.1,S.fresh,
  λa o e=>(S.alive a o e).elim λo1 x=>(Classical.em (io a)).elim (λhi=>(c4 a hi).elim (λhn=>bU hn e) λy=>y.2) λhn=>⟨o1,c a o1 x λhi=>absurd hi hn⟩⟩
theorem bJ.ext(S:bJ own p q)(e:aI q.h h'):bJ own p ⟨q.φ,h'⟩:=S.ch (io:=eU) e.ch λζ h=>h.elim
theorem bJ.cell(S:bJ own p q)(ha:a∈q.φ)(e:ExtBut a q.h h')(ho:h'.get? a=some o):bJ own p ⟨q.φ,h'⟩:=
 ⟨S.pre,λb o' x h1 h2=>e b o' (λe'=>bU (S.fresh b (e'▸ha) h1) x) (S.keep b o' x h1 h2),S.fresh,
  λb o' x=>(Classical.em (b=a)).elim (λe'=>⟨o,e'▸ho⟩) λhn=>(S.alive b o' x).imp λo1 y=>e b o1 hn y⟩
theorem bJ.adopt{D:Addr}(S:bJ own p q)(hD:p.h.get? D=none):bJ own p ⟨q.φ++[D],q.h⟩:=
 ⟨λl a e=>pD (S.pre l a e),S.keep,λa h1 h2=>(mem_append.mp h1).elim (λh=>S.fresh a h h2) λh=>mem_singleton.mp h▸hD,S.alive⟩
theorem bJ.kp(S:bJ own p q):Kp p q:=⟨S.pre,λa o z e hn=>⟨S.keep a o e hn (λζ=>z),S.n8 e hn⟩⟩
theorem Ch.kp{φ:List Addr}(c:Ch io h h'):Kp ⟨φ,h⟩ ⟨φ,h'⟩:=⟨λζ ζ e=>e,λa o z e hn=>⟨c a o e λζ=>z,hn⟩⟩
theorem Kp.refl:Kp p p:=⟨λζ ζ e=>e,λζ ζ ζ e hn=>⟨e,hn⟩⟩
theorem Kp.trans(S:Kp p q)(T:Kp q r):Kp p r:=⟨λl a e=>T.pre l a (S.pre l a e),λa o z e hn=>have h:=S.q8 a o z e hn;T.q8 a o z h.1 h.2⟩
theorem Kp.adopt{D:Addr}{φ:List Addr}(hD:∀o,h.get? D=some o->fz o=false):Kp ⟨φ,h⟩ ⟨φ++[D],h⟩:=
 ⟨λl a e=>pD e,λa o z e hn=>⟨e,λhm=>(mem_append.mp hm).elim hn λh=>no z (hD o (mem_singleton.mp h▸e))⟩⟩
theorem bf.kp(K:Kp p q){v:V}{x:Value}(r:bf p v x):bf q v x:=
 bf.rec (motive_1:=λv x ζ=>bf q v x) (motive_2:=λvs xs ζ=>bu q vs xs) .none .bool .int .str (λe ζ z hn m=>have h:=K.q8 _ _ rfl e hn;.aP h.1 m z h.2) (λe=>.ref (K.pre _ _ e)) .g7 .nil (λζ ζ a b=>.cons a b) r
theorem bu.kp(K:Kp p q){vs:List V}{xs:List Value}(r:bu p vs xs):bu q vs xs:=
 bu.ind (M:=λvs xs=>bu q vs xs) .nil (λa ζ m=>.cons (a.kp K) m) r
theorem bf.mono(S:bJ own p q){v:V}{x:Value}(r:bf p v x):bf q v x:=r.kp S.kp
theorem bu.mono(S:bJ own p q){v:List V}{x:List Value}(r:bu p v x):bu q v x:=r.kp S.kp
end
section
variable{p:Ws}{vs ws:List V}{xs ys:List Value}{v:V}{x:Value}
theorem bu.k1(r:bu p [v] xs)(T:List Value->Prop)(k:∀x,bf p v x->T [x]):T xs:=r.inv T λx ζ r1 r2=>r2.inv (λxs=>T (x::xs)) (k x r1)
theorem bu.k2{u:V}(r:bu p [u,v] xs)(T:List Value->Prop)(k:∀x y,bf p u x->bf p v y->T [x,y]):T xs:=r.inv T λx ζ r1 r2=>r2.k1 (λxs=>T (x::xs)) λy r2=>k x y r1 r2
theorem bu.length(r:bu p vs xs):vs.length=xs.length:=bu.ind (M:=λvs xs=>vs.length=xs.length) rfl (λζ ζ m=>congrArg (·+1) m) r
theorem bu.append(r:bu p vs xs)(q:bu p ws ys):bu p (vs++ws) (xs++ys):=bu.ind (M:=λvs xs=>bu p (vs++ws) (xs++ys)) q (λa ζ m=>.cons a m) r
theorem bu.one(r:bf p v x):bu p [v] [x]:=.cons r .nil
theorem bu.get'(r:bu p vs xs):∀{i:Nat} {v:V},vs[i]?=some v->∃x,xs[i]?=some x/\bf p v x:=
 bu.ind (M:=λvs xs=>∀{i:Nat} {v:V},vs[i]?=some v->∃x,xs[i]?=some x/\bf p v x) (λe=>bU getElem?_nil e) (λ{_ x _ _} a _ m i=>match i with|0=>λe=>⟨x,rfl,Option.some.inj e▸a⟩|i+1=>λe=>m (i:=i) e) r
theorem bu.get{P:Prop}{i:Nat}(r:bu p vs xs)(e:vs[i]?=some v)(k:∀x,xs[i]?=some x->bf p v x->P):P:=(r.get' e).elim λx h=>k x h.1 h.2
theorem bu.take(r:bu p vs xs):∀k,bu p (vs.take k) (xs.take k):=
 bu.ind (M:=λvs xs=>∀k,bu p (vs.take k) (xs.take k)) (λk=>by rw[List.take_nil,List.take_nil];exact .nil) (λa ζ m k=>match k with|0=>.nil|k+1=>.cons a (m k)) r
theorem bu.drop(r:bu p vs xs):∀k,bu p (vs.drop k) (xs.drop k):=
 bu.ind (M:=λvs xs=>∀k,bu p (vs.drop k) (xs.drop k)) (λk=>by rw[drop_nil,drop_nil];exact .nil) (λa b m k=>match k with|0=>.cons a b|k+1=>m k) r
theorem bu.set(r:bu p vs xs)(q:bf p v x):∀k,bu p (vs.set k v) (xs.set k x):=
 bu.ind (M:=λvs xs=>∀k,bu p (vs.set k v) (xs.set k x)) (λζ=>.nil) (λa b m k=>match k with|0=>.cons q b|k+1=>.cons a (m k)) r
end
inductive L2{α β:Type}(M:α->β->Prop):List α->List β->Prop
 |nil:L2 M [] []
 |cons {a:α} {b:β} {as:List α} {bs:List β}:M a b->L2 M as bs->L2 M (a::as) (b::bs)
section
variable{α β:Type}{M N:α->β->Prop}{as Vt:List α}{bs vB:List β}
theorem L2.imp(h:L2 M as bs)(k:∀a b,M a b->N a b):L2 N as bs:=h.rec .nil λa ζ m=>.cons (k _ _ a) m
theorem L2.length(h:L2 M as bs):as.length=bs.length:=h.rec rfl λζ ζ m=>congrArg (·+1) m
theorem L2.snoc{a:α}{b:β}(h:L2 M as bs)(q:M a b):L2 M (as++[a]) (bs++[b]):=h.rec (.cons q .nil) λa ζ m=>.cons a m
theorem L2.map{f:α->α}{g:β->β}(h:L2 M as bs)(k:∀a b,M a b->M (f a) (g b)):L2 M (as.map f) (bs.map g):=h.rec .nil λa ζ m=>.cons (k _ _ a) m
theorem L2.any{f:α->Bool}{g:β->Bool}(h:L2 M as bs)(k:∀a b,M a b->f a=g b):as.any f=bs.any g:=h.rec rfl λa ζ m=>by rw[any_cons,any_cons,k _ _ a,m]
theorem L2.get(h:L2 M as bs):∀{i:Nat} {a:α} {b:β},as[i]?=some a->bs[i]?=some b->M a b:=by
 induction h with
 |nil=>exact λe ζ=>bU getElem?_nil e
 |cons q _ m=>
  intro i
  cases i with
  |zero=>exact λe e'=>Option.some.inj e▸Option.some.inj e'▸q
  |succ i=>exact λe e'=>m (i:=i) e e'
theorem L2.find{f:α->Bool}{g:β->Bool}(h:L2 M as bs)(k:∀a b,M a b->f a=g b):(as.find? f=none/\bs.find? g=none)\/∃a b,as.find? f=some a/\bs.find? g=some b/\M a b:=
 h.rec (.inl ⟨rfl,rfl⟩) λ{a b _ _} q _ m=>by
  rw[find?_cons,find?_cons,k _ _ q]
  cases g b with
  |true=>exact .inr ⟨a,b,rfl,rfl,q⟩
  |false=>exact m
end
noncomputable def kM(p:Ws)(e:Int×V)(kv:Int×Value):Prop:=e.1=kv.1/\bf p e.2 kv.2
noncomputable def lE(p:Ws)(e:(Int×Bool)×V)(kv:List Int×Addr×Value):Prop:=kv.1=[e.1.1,if e.1.2 then 1 else 0]/\bf p (fN e.1) (.ref kv.2.1)/\bf p e.2 kv.2.2
theorem kM.kp{p q:Ws}(K:Kp p q)(e:Int×V)(kv:Int×Value)(h:kM p e kv):kM q e kv:=⟨h.1,h.2.kp K⟩
theorem lE.kp{p q:Ws}(K:Kp p q)(e:(Int×Bool)×V)(kv:List Int×Addr×Value)(h:lE p e kv):lE q e kv:=⟨h.1,h.2.1.kp K,h.2.2.kp K⟩
noncomputable def CV(k:Int):Value->Bool
 |.int i _=>i==k
 |.bool b=>(if b then(1:Int) else 0)==k
 |_=>false
end Mine
namespace Mine
open PySem
section
variable{A:Around}{E:Value->Shared->Prop}{s:Shared}
noncomputable def bI(b:Bool):Int:=if b then 1 else 0
theorem JK{b:Bool}{Q:Int->Shared->Prop}(h:Q (hashInt (bI b)) {s with toks:=s.toks+1}):wpAny (model X.prog X.w) A (pyHash (.bool b)) Q E s:=by
 unfold pyHash
 refine wpAny_bind ?_
 rw[cRoomFor,if_neg (by exact Bool.false_ne_true)]
 refine wpAny_pure ?_
 refine wpAny_bind (wpAny_specialOf (show s.TypeIs (.bool b) "bool" from rfl) F.slot_bool_hash.lookup ?_)
 refine(?_:wpAny _ _ (if(some (Value.builtin "int.__hash__")==some Value.none)=true then _ else _) Q E s)
 rw[if_neg (by rw[beq_builtin_none];exact Bool.false_ne_true)]
 refine wpAny_bind (wpAny_specialOf (show s.TypeIs (.bool b) "bool" from rfl) F.slot_bool_hash.lookup ?_)
 refine(?_:wpAny _ _ (callSpecialIfBoundUnlessNone? (.bool b) "__hash__" _ >>= _) Q E s)
 refine wpAny_bind (wpAny_callSpecialIfBoundUnlessNone?_slot (show s.TypeIs (.bool b) "bool" from rfl) F.slot_bool_hash
  (wpAny_call_entry F.slot_bool_hash (show s.TypeIs (.bool b) "bool" from rfl) entry_int_hash
   (show wpAny _ _ (do ret (<-mkInt (rawHash (bI b)))) _ _ s from wpAny_ret_mkInt ?_) (args_int_hash _)))
 cases b<;>exact wpAny_pure h
theorem rf{k:Int}{v:Value}(h:CV k v=true){P:Value->Prop}(ki:∀t,P (.int k t))(kb:∀b,bI b=k->P (.bool b)):P v:=by
 cases v with
 |int i t=>obtain rfl:=eq_of_beq h;exact ki t
 |bool b=>exact kb b (eq_of_beq h)
 |_=>exact Bool.noConfusion h
noncomputable def j6:KeyKind X.prog X.w Int where
 is:=CV
 hash:=hashInt
 inj:=λv a b h1 h2=>by cases v with
  |int i t=>exact(eq_of_beq h1).symm.trans (eq_of_beq h2)
  |bool b=>exact(eq_of_beq h1).symm.trans (eq_of_beq h2)
  |_=>exact Bool.noConfusion h1
 byValue:=λk v h=>rf (P:=λv=>carriedByValue v=true) h (λζ=>rfl) λζ ζ=>rfl
 pyHash:=λ{A E s k v Q} hv h=>rf (P:=λv=>wpAny (model X.prog X.w) A (PySem.pyHash v) Q E s) hv (λζ=>wpAny_pyHash_int h) λb e=>JK (e▸h)
 eqBool:=λ{A E s a b u v Q} hu hv h=>by
  refine rf (P:=λu=>wpAny (model X.prog X.w) A (PySem.eqBool u v) Q E s) hu (λt=>?_) λc e=>?_
  ·refine rf (P:=λv=>wpAny (model X.prog X.w) A (PySem.eqBool _ v) Q E s) hv (λt'=>SeqAt.EqAt.int_int _ _ _ _ _ _ _ _ h) λd e'=>?_
   subst e'
   exact SeqAt.EqAt.int_bool _ _ _ _ _ _ _ h
  ·subst e
   refine rf (P:=λv=>wpAny (model X.prog X.w) A (PySem.eqBool _ v) Q E s) hv (λt'=>SeqAt.EqAt.bool_int _ _ _ _ _ _ _ h) λd e'=>?_
   subst e'
   refine SeqAt.EqAt.bool_bool _ _ _ _ _ _ ?_
   cases c<;>cases d<;>exact h
 «strs»:=λk x t v h=>Bool.noConfusion h
noncomputable abbrev d7:KeyKind X.prog X.w Int:=intKind X.prog X.w
noncomputable abbrev gj:HeapKind X.prog X.w (List Int):=tupleKind j6
noncomputable def pK(q:Int×Bool):List Int:=[q.1,bI q.2]
theorem CW{q q':Int×Bool}(h:pK q=pK q'):q=q':=by
 obtain⟨i,b⟩:=q
 obtain⟨j,c⟩:=q'
 have h1:i=j:=(List.cons.inj h).1
 have h2:bI b=bI c:=(List.cons.inj (List.cons.inj h).2).1
 clear h
 subst h1
 cases b<;>cases c<;>first|rfl|exact absurd h2 (by decide)
theorem rj{p:Ws}{q:Int×Bool}{a:Addr}(r:bf p (fN q) (.ref a)):gj.is p.h (pK q) a:=by
 have key:∀x,bf p (fN q) x->x=.ref a->gj.is p.h (pK q) a:=λx r=>r.inv (λx=>x=.ref a->gj.is p.h (pK q) a) λb n xs e rl ζ ζ h=>by
  cases h
  refine⟨_,_,n,e,rfl,rfl,?_⟩
  refine(?_:ItemsAre j6 (pK q) xs)
  exact rl.inv (λxs=>ItemsAre j6 (pK q) xs) λx xs r1 rl=>r1.inv (λx=>ItemsAre j6 (pK q) (x::xs)) λt=>rl.inv (λxs=>ItemsAre j6 (pK q) (_::xs)) λy ys r2 rl=>
   r2.inv (λy=>ItemsAre j6 (pK q) (_::y::ys)) (rl.inv (λys=>ItemsAre j6 (pK q) (_::_::ys)) (.cons (beq_self_eq_true _) (.cons (beq_self_eq_true _) .nil)))
 exact key _ r rfl
end
inductive mf(h:Heap)(c:Addr)(q:Str):Prop
 |mk (o:Obj) (vs:Array Value) (t:Tok):h.get? c=some o->o.cls=.type "code"->o.data=.fields vs->vs[1]?=some (.str q t)->mf h c q
inductive fi(p:Ws)(a:Addr):bc->Prop
 |list {vs:List V} {xs:List Value} {n:Nat}:p.h.get? a=some (gA xs n)->bu p vs xs->vs.length<=16000000->fi p a (.list vs)
 |dict {es:List (Int×V)} {o:Obj} {en:Array DictEntry} {ep:Nat} {kvs:List (Int×Value)}:p.h.get? a=some o->o.ExactDict->o.data=.dict en ep->KeysOf d7 en->Pairs d7 en.toList kvs->(kvs.map (·.1)).Nodup->L2 (kM p) es kvs->(a==sysModules)=false->es.length<=16000000->fi p a (.dict ep es)
 |cD {es:List ((Int×Bool)×V)} {o:Obj} {en:Array DictEntry} {ep:Nat} {xs:List (List Int×Addr×Value)}:p.h.get? a=some o->o.ExactDict->o.data=.dict en ep->en.toList=xs.map (entryOfKey gj)->(xs.map (·.1)).Nodup->L2 (lE p) es xs->(a==sysModules)=false->es.length<=16000000->fi p a (.cD ep es)
 |CX:a=X.lP->p.h.get? a=some (gB #[])->fi p a .tab
 |tab {c:Addr}:a=X.lP->p.h.get? a=some (gB #[rawInt gK.ln,rawInt gK.lm,.ref c])->mf p.h c lq->c∉p.φ->fi p a .tab
noncomputable def fi.Inv(p:Ws)(a:Addr)(G:Prop):bc->Prop
 |.list vs=>∀xs n,p.h.get? a=some (gA xs n)->bu p vs xs->vs.length<=16000000->G
 |.dict ep es=>∀o en kvs,p.h.get? a=some o->o.ExactDict->o.data=.dict en ep->KeysOf d7 en->Pairs d7 en.toList kvs->(kvs.map (·.1)).Nodup->L2 (kM p) es kvs->(a==sysModules)=false->es.length<=16000000->G
 |.cD ep es=>∀o en xs,p.h.get? a=some o->o.ExactDict->o.data=.dict en ep->en.toList=xs.map (entryOfKey gj)->(xs.map (·.1)).Nodup->L2 (lE p) es xs->(a==sysModules)=false->es.length<=16000000->G
 |.tab=>(a=X.lP->p.h.get? a=some (gB #[])->G)/\∀c,a=X.lP->p.h.get? a=some (gB #[rawInt gK.ln,rawInt gK.lm,.ref c])->mf p.h c lq->c∉p.φ->G
theorem fi.inv{p:Ws}{a:Addr}{c:bc}(h:fi p a c)(G:Prop):fi.Inv p a G c->G:=
 h.casesOn (motive:=λc ζ=>fi.Inv p a G c->G) (λe r z k=>k _ _ e r z) (λe x1 x2 x3 x4 x5 r z n k=>k _ _ _ e x1 x2 x3 x4 x5 r z n) (λe x1 x2 x3 x4 r z n k=>k _ _ _ e x1 x2 x3 x4 r z n) (λe0 e k=>k.1 e0 e) (λe0 e z n k=>k.2 _ e0 e z n)
structure SR(p:Ws)(H:Hp):Prop where
 keep:aI X.dM p.h
 fresh:∀a,a∈p.φ->X.dM.get? a=none
 nodup:p.φ.Nodup
 len:p.φ.length=H.length
 cell:∀(l:Nat) (c:bc),H[l]?=some c->∃a,p.φ[l]?=some a/\fi p a c
noncomputable def Ap(p:Ws)(a:Addr):Prop:=a∉p.φ/\X.dM.get? a=none
section
variable{own io:Addr->Prop}{p q:Ws}{h h':Heap}{H:Hp}{a:Addr}{c:bc}{o:Obj}{l:Nat}
theorem mf.kp{c:Addr}{n:Str}(K:Kp p q)(hn:c∉p.φ)(x:mf p.h c n):mf q.h c n/\c∉q.φ:=
 x.casesOn λo vs t e hc hd hv=>have z:=K.q8 c o (by unfold fz;rw[hd,hc];rfl) e hn;⟨⟨o,vs,t,z.1,hc,hd,hv⟩,z.2⟩
theorem fi.kp(K:Kp p q)(ha:∀o,p.h.get? a=some o->q.h.get? a=some o)(r:fi p a c):fi q a c:=
 fi.casesOn (motive:=λc ζ=>fi q a c) r (λe r z=>.list (ha _ e) (r.kp K) z) (λe x1 x2 x3 x4 x5 r z n=>.dict (ha _ e) x1 x2 x3 x4 x5 (r.imp (kM.kp K)) z n) (λe x1 x2 x3 x4 r z n=>.cD (ha _ e) x1 x2 x3 x4 (r.imp (lE.kp K)) z n)
  (λe0 e=>.CX e0 (ha _ e)) (λe0 e z n=>have z:=z.kp K n;.tab e0 (ha _ e) z.1 z.2)
theorem fi.obj(r:fi p a c):∃o,p.h.get? a=some o:=
 r.casesOn (λe ζ ζ=>⟨_,e⟩) (λe ζ ζ ζ ζ ζ ζ ζ ζ=>⟨_,e⟩) (λe ζ ζ ζ ζ ζ ζ ζ=>⟨_,e⟩) (λζ e=>⟨_,e⟩) (λζ e ζ ζ=>⟨_,e⟩)
theorem SR.at{G:Prop}(R:SR p H)(e:H[l]?=some c)(k:∀a,p.φ[l]?=some a->fi p a c->G):G:=(R.cell l c e).elim λa h=>k a h.1 h.2
theorem SR.obj(R:SR p H)(ha:a∈p.φ):∃o,p.h.get? a=some o:=
 (List.mem_iff_getElem?.mp ha).elim λl e=>R.at (l:=l) (getElem?_eq_getElem (R.len▸(List.getElem?_eq_some_iff.mp e).1)) λb hb r=>Option.some.inj (hb.symm.trans e)▸r.obj
theorem SR.ch(R:SR ⟨p.φ,h⟩ H)(c4:∀a,io a->Ap p a)(c:Ch io h h'):SR ⟨p.φ,h'⟩ H:=
 ⟨λa o e=>c a o (R.keep a o e) λhi=>bU (c4 a hi).2 e,R.fresh,R.nodup,R.len,λl x e=>R.at e λa ha r=>⟨a,ha,r.kp c.kp λo e=>c a o e λhi=>absurd (mem_of_getElem? ha) (c4 a hi).1⟩⟩
theorem SR.ext(R:SR ⟨p.φ,h⟩ H)(e:aI h h'):SR ⟨p.φ,h'⟩ H:=R.ch (io:=eU) (λζ h=>h.elim) e.ch
theorem fF(h:Heap){b:Addr}(hb:h.objs.size<=b):h.get? b=none:=by
 cases e:h.get? b with
 |none=>rfl
 |some o=>exact absurd (lt_size e) (not_lt.mpr hb)
theorem SR.new(R:SR p H)(hn:p.h.get? a=none):Ap p a:=
 ⟨λhm=>(R.obj hm).elim λζ e=>bU hn e,by
  cases e:X.dM.get? a with
  |none=>rfl
  |some o=>exact bU hn (R.keep a o e)⟩
theorem JL{α:Type}{l:List α}(hn:l.Nodup){i j:Nat}{x:α}(hi:l[i]?=some x)(hj:l[j]?=some x):i=j:=(List.getElem?_inj (List.getElem?_eq_some_iff.mp hi).1 hn).mp (hi.trans hj.symm)
theorem SR.adopt(R:SR p H)(hD:Ap p a)(hf:∀o,p.h.get? a=some o->fz o=false)(hc:fi p a c):SR ⟨p.φ++[a],p.h⟩ (H++[c]):=by
 have K:Kp p ⟨p.φ++[a],p.h⟩:=Kp.adopt (φ:=p.φ) (h:=p.h) hf
 refine⟨R.keep,λb hb=>(mem_append.mp hb).elim (R.fresh b) λh=>mem_singleton.mp h▸hD.2,?_,by rw[length_append,length_append,R.len];rfl,λl x e=>?_⟩
 ·exact nodup_append.mpr ⟨R.nodup,List.pairwise_singleton _ _,λx hx y hy e=>hD.1 (mem_singleton.mp hy▸e▸hx)⟩
 ·rcases lt_or_ge l H.length with hl|hl
  ·rw[getElem?_append_left hl] at e
   exact R.at e λb hb r=>⟨b,K.pre l b hb,r.kp K λζ e=>e⟩
  ·have iP:l=H.length:=le_antisymm (Nat.lt_succ_iff.mp (by simpa using (List.getElem?_eq_some_iff.mp e).1)) hl
   subst iP
   rw[getElem?_append_right (le_refl _),sub_self] at e
   exact⟨a,by rw[getElem?_append_right (le_of_eq R.len),R.len,sub_self];rfl,Option.some.inj e▸hc.kp K λζ e=>e⟩
theorem SR.setC(R:SR p H)(ha:p.φ[l]?=some a)(e:∀b o,b≠a->p.h.get? b=some o->(io b->fz o=true)->h'.get? b=some o)(c4:∀b,io b->Ap p b)(hc:fi ⟨p.φ,h'⟩ a c):SR ⟨p.φ,h'⟩ (H.set l c):=by
 have hm:=mem_of_getElem? ha
 have K:Kp p ⟨p.φ,h'⟩:=⟨λζ ζ e=>e,λb o z x hn=>⟨e b o (λe'=>hn (e'▸hm)) x λζ=>z,hn⟩⟩
 refine⟨λb o x=>e b o (λe'=>bU (R.fresh b (e'▸hm)) x) (R.keep b o x) λhi=>bU (c4 b hi).2 x,R.fresh,R.nodup,by rw[length_set];exact R.len,λk x hx=>?_⟩
 by_cases hk:k=l
 ·subst hk
  rw[List.getElem?_set_self (R.len▸(List.getElem?_eq_some_iff.mp ha).1)] at hx
  exact⟨a,ha,Option.some.inj hx▸hc⟩
 ·rw[getElem?_set_ne (Ne.symm hk)] at hx
  exact R.at hx λb hb r=>⟨b,hb,r.kp K λo y=>e b o (λe'=>hk (JL R.nodup hb (e'▸ha))) y λhi=>absurd (mem_of_getElem? hb) (c4 b hi).1⟩
theorem SR.set(R:SR p H)(ha:p.φ[l]?=some a)(e:ExtBut a p.h h')(hc:fi ⟨p.φ,h'⟩ a c):SR ⟨p.φ,h'⟩ (H.set l c):=R.setC (io:=eU) ha (λb o hn x ζ=>e b o hn x) (λζ h=>h.elim) hc
end
end Mine
namespace Mine
open PySem PySem.Calls
noncomputable def lk(ns:List Str)(ρ:aV)(x:Str):Option V:=(ρ[ns.idxOf x]?).join
inductive iy(p:Ws):Option V->Option Value->Prop
 |none:iy p none none
 |some {v:V} {x:Value}:bf p v x->iy p (some v) (some x)
theorem iy.kp{p q:Ws}(K:Kp p q){v:Option V}{x:Option Value}(r:iy p v x):iy q v x:=r.casesOn (motive:=λv x ζ=>iy q v x) .none λr=>.some (r.kp K)
theorem iy.inv{p:Ws}{v:V}{u:Option V}{x:Option Value}(r:iy p u x)(e:u=Option.some v)(P:Option Value->Prop)(k:∀y,bf p v y->P (Option.some y)):P x:=
 r.casesOn (motive:=λu x ζ=>u=Option.some v->P x) (λe=>bU rfl e) (λr e=>k _ (Option.some.inj e▸r)) e
noncomputable def m9(k:Option NameKind):Prop:=yJ k=true
noncomputable def j7(env:Env)(a:Addr):Prop:=a=env.locals\/∃x,env.cells.lookup x=some a
structure Fc(env:Env):Prop where
 fn:env.scope.kind=.function
 glob:env.globals=mainGlobals
 blt:env.builtins=builtinsNs
 gen:env.scope.isGenerator=false/\env.scope.isCoroutine=false/\interactive env=false
 code:(env.kindOf mk).isSome=true->env.code=.ref X.lc/\env.qual++"<lambda>"=lq
 apart:∀x y c,env.cells.lookup x=some c->env.cells.lookup y=some c->x=y
 ne:∀q,q∈env.cells->q.2≠env.locals
structure FR(env:Env)(ns:List Str)(ρ:aV)(p:Ws):Prop where
 fc:Fc env
 len:ρ.length=ns.length
 loc:∃m,p.h.Ns env.locals m/\∀x,x∈ns->env.kindOf x=some .local->iy p (lk ns ρ x) (m x)
 n9:∀x,x∈ns->m9 (env.kindOf x)->∃c v,env.cells.lookup x=some c/\p.h.IsCell c v/\iy p (lk ns ρ x) v
 ap:∀a,j7 env a->Ap p a
 live:∀a,j7 env a->∃o,p.h.get? a=some o
section
variable{env:Env}{ns:List Str}{ρ:aV}{own io:Addr->Prop}{p q:Ws}{h h':Heap}
theorem mem_lookup{α:Type}{x:Str}{c:α}:∀{l:List (Str×α)},l.lookup x=some c->(x,c)∈l
 |(y,d)::r,h=>by
  rw[lookup_cons] at h
  cases e:x==y with
  |true=>rw[e] at h;rw[eq_of_beq e,Option.some.inj h];exact .head _
  |false=>rw[e] at h;exact .tail _ (mem_lookup h)
theorem oe{x:Str}{c:Addr}(h:env.cells.lookup x=some c):j7 env c:=.inr ⟨x,h⟩
theorem yS{a:Addr}{m:Str->Option Value}(hn:h.Ns a m)(e:∀o,h.get? a=some o->h'.get? a=some o):h'.Ns a m:=
 hn.imp λo h=>h.imp λes h=>h.imp λep h=>⟨e o h.1,h.2⟩
theorem vC{a:Addr}{v:Option Value}(hn:h.IsCell a v)(e:∀o,h.get? a=some o->h'.get? a=some o):h'.IsCell a v:=hn.imp λo h=>⟨e o h.1,h.2⟩
theorem FR.kp(F:FR env ns ρ p)(K:Kp p q)(hk:∀a,j7 env a->(∀o,p.h.get? a=some o->q.h.get? a=some o)/\a∉q.φ):FR env ns ρ q:=
 ⟨F.fc,F.len,F.loc.imp λm h=>⟨yS h.1 (hk _ (.inl rfl)).1,λx hx hl=>(h.2 x hx hl).kp K⟩,λx hx hc=>(F.n9 x hx hc).imp λc h=>h.imp λv h=>⟨h.1,vC h.2.1 (hk c (oe h.1)).1,h.2.2.kp K⟩,
  λa ha=>⟨(hk a ha).2,(F.ap a ha).2⟩,λa ha=>(F.live a ha).imp λo e=>(hk a ha).1 o e⟩
theorem FR.mono(F:FR env ns ρ p)(S:bJ own p q)(hn:∀a,j7 env a->¬own a):FR env ns ρ q:=
 F.kp S.kp λa ha=>⟨λo e=>S.keep a o e (F.ap a ha).1 λho=>absurd ho (hn a ha),(F.live a ha).elim λo e=>S.n8 e (F.ap a ha).1⟩
theorem FR.ch(F:FR env ns ρ ⟨p.φ,h⟩)(c:Ch io h h')(hn:∀a,j7 env a->¬io a):FR env ns ρ ⟨p.φ,h'⟩:=
 F.kp c.kp λa ha=>⟨λo e=>c a o e λho=>absurd ho (hn a ha),(F.ap a ha).1⟩
end
theorem fV(i:Nat)(h:i<l8.length):l8[i]'h∈l8:=getElem_mem h
structure lF(A:Around)(n:Nat):Prop where
 depth:A.depth+n+110<=recursionLimit
 units:A.units+5*n+200<=cLine
 handled:A.handled=none
 frames:∃fe outer,A.frames=some (fe::outer)/\fe.scope.isGenerator=false/\fe.scope.isCoroutine=false/\fe.builtins=builtinsNs/\fe.globals=mainGlobals
theorem lF.less{A:Around}{n m:Nat}(rm:lF A n)(h:m<=n):lF A m:=⟨by have:=rm.depth;exact le_trans (add_le_add_right (add_le_add_left h _) _) this,by have:=rm.units;exact le_trans (add_le_add_right (add_le_add_left (mul_le_mul_left 5 h) _) _) this,rm.handled,rm.frames⟩
noncomputable abbrev upd(s:Shared)(h:Heap)(tk:Nat):Shared:={s with heap:=h,toks:=tk}
structure Pt where
 A:Around
 φ:List Addr
 H:Hp
 s:Shared
 rm:lF A 0
 R:SR ⟨φ,s.heap⟩ H
noncomputable abbrev Pt.w(P:Pt):Ws:=⟨P.φ,P.s.heap⟩
theorem Pt.u1(P:Pt):P.A.units+1<cLine:=by have:=P.rm.units;lia
structure Nx(P:Pt)(H:Hp)where
 φ:List Addr
 h:Heap
 tk:Nat
 R:SR ⟨φ,h⟩ H
 S:bJ eU P.w ⟨φ,h⟩
section
variable{P:Pt}{H H':Hp}
noncomputable abbrev Nx.w(N:Nx P H):Ws:=⟨N.φ,N.h⟩
noncomputable abbrev Nx.s(N:Nx P H):Shared:=(upd P.s N.h N.tk)
noncomputable abbrev Nx.pt(N:Nx P H):Pt:=⟨P.A,N.φ,H,N.s,P.rm,N.R⟩
noncomputable abbrev Nx.then(N:Nx P H)(N':Nx N.pt H'):Nx P H':=⟨N'.φ,N'.h,N'.tk,N'.R,N.S.trans N'.S⟩
noncomputable abbrev Pt.gm(P:Pt)(tk:Nat):Nx P P.H:=⟨P.φ,P.s.heap,tk,P.R,.refl⟩
noncomputable abbrev Pt.ext(P:Pt){h':Heap}(e:aI P.s.heap h')(tk:Nat):Nx P P.H:=⟨P.φ,h',tk,P.R.ext (p:=P.w) e,bJ.ext (q:=P.w) .refl e⟩
noncomputable abbrev Pt.set(P:Pt){l:Nat}{a:Addr}{c:bc}{h':Heap}(ha:P.φ[l]?=some a)(e:ExtBut a P.s.heap h')(hc:fi ⟨P.φ,h'⟩ a c)(tk:Nat):Nx P (P.H.set l c):=
 ⟨P.φ,h',tk,SR.set (p:=P.w) P.R ha e hc,hc.obj.elim λζ ho=>bJ.cell (q:=P.w) .refl (mem_of_getElem? ha) e ho⟩
theorem Pt.ro(P:Pt){l:Nat}{a:Addr}{h':Heap}(ha:P.φ[l]?=some a)(e:ExtBut a P.s.heap h'):Kp P.w ⟨P.φ,h'⟩:=⟨λζ ζ e=>e,λb o z x hn=>⟨e b o (λe'=>hn (e'▸mem_of_getElem? ha)) x,hn⟩⟩
end
theorem yT{α:Type}{A:Around}{m:Sem α}{Q:α->Shared->Prop}{E:Value->Shared->Prop}{s:Shared}(h:wpAny X.M A m Q NE s):wpAny X.M A m Q E s:=wpAny_mono h (λζ ζ q=>q) λζ ζ h=>h.elim
noncomputable def Kn(P:Pt)(post:PQ)(Q:Value->Shared->Prop):Prop:=∀v H,post v H->∀(N:Nx P H) x,bf N.w v x->Q x N.s
noncomputable def yU(P:Pt)(m:Nat)(post:List V->Hp->Prop)(Q:List Value->Shared->Prop):Prop:=∀v H,post v H->v.length=m->∀(N:Nx P H) x,bu N.w v x->Q x N.s
noncomputable def tE(P:Pt)(post:PQ)(Q:Bool->Shared->Prop):Prop:=∀v H,post v H->be (truthy H v) λb=>∀(N:Nx P H),Q b N.s
theorem be.i{α:Type}{o:Option α}{f:α->Prop}{a:α}(e:o=some a)(h:f a):be o f:=by rw[e];exact h
theorem be.m{α:Type}{o:Option α}{f g:α->Prop}(h:be o f)(k:∀a,f a->g a):be o g:=by
 cases o
 ·exact h
 ·exact k _ h
theorem be.at{α:Type}{o:Option α}{f:α->Prop}{a:α}(e:o=some a)(h:be o f):f a:=by rw[e] at h;exact h
noncomputable def vD(P:Pt)(post:Bool->Hp->Prop)(Q:Bool->Shared->Prop):Prop:=∀v H,post v H->∀(N:Nx P H),Q v N.s
section
variable{P:Pt}{H:Hp}{Q:Value->Shared->Prop}
theorem Kn.nx{post:PQ}(k:Kn P post Q)(N:Nx P H):Kn N.pt post Q:=λv H' p N' x r=>k v H' p (N.then N') x r
theorem tE.nx{post:PQ}{Q:Bool->Shared->Prop}(k:tE P post Q)(N:Nx P H):tE N.pt post Q:=λv H' p=>(k v H' p).m λb h N'=>h (N.then N')
theorem vD.nx{post:Bool->Hp->Prop}{Q:Bool->Shared->Prop}(k:vD P post Q)(N:Nx P H):vD N.pt post Q:=λv H' p N'=>k v H' p (N.then N')
theorem Kn.now{post:PQ}{v:V}{x:Value}(k:Kn P post Q)(p:post v P.H)(r:bf P.w v x)(tk:Nat):Q x (upd P.s P.s.heap tk):=k v P.H p (P.gm tk) x r
theorem Kn.list{post:PQ}{vs:List V}{xs:List Value}{h':Heap}{c:Nat}(k:Kn P post Q)(e:aI P.s.heap h')(D:Addr)(hD:P.s.heap.get? D=none)(hg:h'.get? D=some (gA xs c))(r:bu P.w vs xs)(hz:vs.length<=16000000)(p:jq vs P.H post)(tk:Nat):Q (.ref D) (upd P.s h' tk):=
 have K:=(bJ.ext (own:=eU) (p:=P.w) (q:=P.w) .refl e)
 have fr:=P.R.new (a:=D) hD
 have JM:Ap ⟨P.φ,h'⟩ D:=fr
 k _ _ p ⟨P.φ++[D],h',tk,SR.adopt (p:=⟨P.φ,h'⟩) (c:=.list vs) (P.R.ext (p:=P.w) e) JM (λo x=>by rw[hg] at x;cases x;exact m8 (nm:="list") rfl rfl rfl) (.list hg (r.mono K) hz),K.adopt hD⟩ _
  (.ref (by rw[<-P.R.len,getElem?_append_right (le_refl _),sub_self];rfl))
end
noncomputable def CY(a b:Option NameKind):Prop:=a=b\/(m9 a/\m9 b)
noncomputable def Kinds(sc:Scope)(env:Env):Prop:=∀x,CY (sc.names.lookup x) (env.kindOf x)
structure Lv where
 n:Nat
 m:Nat
 f:Sn
structure Fp(σ:Lv)extends Pt where
 env:Env
 ρ:aV
 kd:Kinds σ.f.sc env
 F:FR env σ.f.ns ρ ⟨φ,s.heap⟩
 rn:lF A σ.n
noncomputable abbrev Fp.to{σ:Lv}(P:Fp σ){H:Hp}(N:Nx P.toPt H):Fp σ:=⟨N.pt,P.env,P.ρ,P.kd,P.F.mono N.S λζ ζ h=>h,P.rn⟩
noncomputable def b0(σ:Lv)(c:E)(e:Expr):Prop:=
 ∀(P:Fp σ) (post:PQ) (Q:Value->Shared->Prop),WE (aM σ.m) c P.ρ P.H post->Kn P.toPt post Q->wpAny X.M P.A (eval e P.env) Q NE P.s
noncomputable def tF(σ:Lv)(c:E)(e:Expr):Prop:=
 ∀(P:Fp σ) (post:PQ) (Q:Bool->Shared->Prop),WE (aM σ.m) c P.ρ P.H post->tE P.toPt post Q->wpAny X.M P.A (isTrue e P.env (eval e P.env)) Q NE P.s
noncomputable def vE(m:Nat):Prop:=
 ∀(P:Pt) (f:Nat) (x:Str) (a:Addr) (vs:List V) (xs:List Value) (post:PQ) (Q:Value->Shared->Prop),lF P.A (2*m+1) ->
  gK.mZ[f]?=some x->X.mg x=some (.ref a)->bu P.w vs xs->aM m f vs P.H post->Kn P post Q->wpAny X.M P.A (call (.ref a) xs) Q NE P.s
end Mine
namespace Mine
open PySem PySem.Calls PyProof.Rows
section
variable{α:Type}{G:Prop}{H:Hp}{x:V}{vs:List V}
theorem be.k{o:Option α}{f:α->Prop}(h:be o f)(k:∀a,o=some a->f a->G):G:=by
 cases o
 ·exact h.elim
 ·exact k _ rfl h
theorem ez.k{t:Bool}{A:Prop}(h:ez t A)(k:t=true->A->G):G:=by
 cases t
 ·exact h.elim
 ·exact k rfl h
theorem c3.k{f:Int->Prop}(h:c3 x f)(P:V->Prop)(k:∀i,f i->P (.int i)):P x:=
 V.casesOn (motive_1:=λx=>c3 x f->P x) x (λh=>h.elim) (λζ h=>h.elim) (λi h=>k i h) (λζ h=>h.elim) (λζ h=>h.elim) (λζ h=>h.elim) (λh=>h.elim) h
theorem w1.k{f:V->Prop}(h:w1 vs f)(P:List V->Prop)(k:∀x,f x->P [x]):P vs:=by
 rcases vs with _|⟨a,_|⟨b,l⟩⟩<;>first|exact k _ h|exact h.elim
theorem w2.k{f:V->V->Prop}(h:w2 vs f)(P:List V->Prop)(k:∀x y,f x y->P [x,y]):P vs:=by
 rcases vs with _|⟨a,_|⟨b,_|⟨c,l⟩⟩⟩<;>first|exact k _ _ h|exact h.elim
theorem eV{β:Type}{o:Option α}{f:α->Option β}{b:β}(h:o.bind f=some b)(k:∀a,o=some a->f a=some b->G):G:=by
 cases o
 ·cases h
 ·exact k _ rfl h
theorem fj{β:Type}{o:Option α}{f:α->β}(P:β->Prop){b:β}(h:o.map f=some b)(k:∀a,o=some a->P (f a)):P b:=by
 cases o
 ·cases h
 ·exact Option.some.inj h▸k _ rfl
theorem pE{c:Prop}[Decidable c]{a b:α}(h:(if c then some a else none)=some b)(P:α->Prop)(k:c->P a):P b:=by
 by_cases hc:c
 ·rw[if_pos hc] at h;exact Option.some.inj h▸k hc
 ·rw[if_neg hc] at h;cases h
theorem CZ{c:Prop}[Decidable c]{a b:α}(h:(if c then none else some a)=some b)(P:α->Prop)(k:¬c->P a):P b:=by
 by_cases hc:c
 ·rw[if_pos hc] at h;cases h
 ·rw[if_neg hc] at h;exact Option.some.inj h▸k hc
theorem cellAt.k{β:Type}{f:bc->Option β}{b:β}(h:cellAt f H x=some b)(P:V->Prop)(k:∀l c,H[l]?=some c->f c=some b->P (.ref l)):P x:=
 V.casesOn (motive_1:=λx=>cellAt f H x=some b->P x) x (λh=>bU rfl h) (λζ h=>bU rfl h) (λζ h=>bU rfl h) (λζ h=>bU rfl h) (λζ h=>bU rfl h) (λl h=>eV h λc e h=>k l c e h) (λh=>bU rfl h) h
theorem pA.k{c:bc}(P:bc->Prop)(h:pA c=some vs)(k:P (.list vs)):P c:=
 c.casesOn (motive:=λc=>pA c=some vs->P c) (λζ h=>Option.some.inj h▸k) (λζ ζ h=>bU rfl h) (λζ ζ h=>bU rfl h) (λh=>bU rfl h) h
theorem fS.k{c:bc}{es:List (Int×V)}(P:bc->Prop)(h:fS c=some es)(k:∀ep,P (.dict ep es)):P c:=
 c.casesOn (motive:=λc=>fS c=some es->P c) (λζ h=>bU rfl h) (λep ζ h=>Option.some.inj h▸k ep) (λζ ζ h=>bU rfl h) (λh=>bU rfl h) h
theorem i7.k{c:bc}{es:List ((Int×Bool)×V)}(P:bc->Prop)(h:i7 c=some es)(k:∀ep,P (.cD ep es)):P c:=
 c.casesOn (motive:=λc=>i7 c=some es->P c) (λζ h=>bU rfl h) (λζ ζ h=>bU rfl h) (λep ζ h=>Option.some.inj h▸k ep) (λh=>bU rfl h) h
theorem boolOf.k{b:Bool}(h:boolOf x=some b)(P:V->Prop)(k:P (.bool b)):P x:=
 V.casesOn (motive_1:=λx=>boolOf x=some b->P x) x (λh=>bU rfl h) (λζ h=>Option.some.inj h▸k) (λζ h=>bU rfl h) (λζ h=>bU rfl h) (λζ h=>bU rfl h) (λζ h=>bU rfl h) (λh=>bU rfl h) h
theorem l9.k(h:l9 x=some vs)(P:V->Prop)(k:P (.aP vs)):P x:=
 V.casesOn (motive_1:=λx=>l9 x=some vs->P x) x (λh=>bU rfl h) (λζ h=>bU rfl h) (λζ h=>bU rfl h) (λζ h=>bU rfl h) (λζ h=>Option.some.inj h▸k) (λζ h=>bU rfl h) (λh=>bU rfl h) h
theorem two.k{α β:Type}{l:List α}{f:α->α->Option β}{b:β}(h:two l f=some b)(P:List α->Prop)(k:∀a c,f a c=some b->P [a,c]):P l:=
 match l,h with
 |[],h=>bU rfl h
 |[_],h=>bU rfl h
 |[a,c],h=>k a c h
 |_::_::_::_,h=>bU rfl h
theorem pairOf.k{q:Int×Bool}(h:pairOf x=some q)(P:V->Prop)(k:P (fN q)):P x:=
 eV h λvs e h=>l9.k e P (two.k h (λvs=>P (.aP vs)) λa b h=>eV h λi e h=>intOf.k e (λa=>P (.aP [a,b])) (fj (λq=>P (fN q)->P (.aP [.int i,b])) h (λc e k=>boolOf.k e (λb=>P (.aP [.int i,b])) k) k))
end
section
variable{P:Pt}{v u:V}{x y:Value}{vs:List V}{l:Nat}
theorem Pt.cell{c:bc}(r:bf P.w (.ref l) x)(e:P.H[l]?=some c)(T:Value->Prop)(k:∀a,P.φ[l]?=some a->fi P.w a c->T (.ref a)):T x:=
 r.inv T λa ha=>P.R.at e λb hb h=>by rw[ha] at hb;cases hb;exact k a ha h
theorem Pt.list(r:bf P.w (.ref l) x)(e:P.H[l]?=some (.list vs))(T:Value->Prop)(k:∀a xs n,P.φ[l]?=some a->P.s.heap.get? a=some (gA xs n)->bu P.w vs xs->vs.length<=16000000->T (.ref a)):T x:=
 P.cell r e T λa ha h=>h.inv _ λxs n h1 h2 h3=>k a xs n ha h1 h2 h3
theorem bE(r:bf P.w v x)(e:cP P.H v=some vs)(T:Value->Prop)(k:∀l a xs n,v=.ref l->P.H[l]?=some (.list vs)->P.φ[l]?=some a->P.s.heap.get? a=some (gA xs n)->bu P.w vs xs->vs.length<=16000000->T (.ref a)):T x:=
 cellAt.k e (λu=>v=u->T x) (λl c hl hc=>pA.k (λc=>P.H[l]?=some c->v=.ref l->T x) hc (λhl ev=> P.list (ev▸r) hl T λa xs n h1 h2 h3 h4=>k l a xs n ev hl h1 h2 h3 h4) hl) rfl
theorem tG{h:Heap}{a:Addr}{xs:List Value}{n:Nat}(e:h.get? a=some (gO xs n)):IsTup h a xs.toArray:=⟨_,e,rfl,n,rfl⟩
theorem iz{h:Heap}{a:Addr}{xs:List Value}{n:Nat}(e:h.get? a=some (gA xs n)):h.IsList a xs.toArray:=⟨_,e,rfl,n,rfl⟩
theorem small{xs:List Value}{p:Ws}(r:bu p vs xs)(hz:vs.length<=16000000):(xs.toArray.size:Int)<2^63:=by
 rw[size_toArray,<-r.length];exact Int.lt_of_le_of_lt (ofNat_le.mpr hz) (by decide)
theorem vF{p:Ws}{xs:List Value}{is:List Int}(h:IntsAre xs is):bu p (is.map .int) xs:=h.rec (motive:=λxs is ζ=>bu p (is.map .int) xs) .nil λζ ζ ζ ζ ζ ih=>.cons (.int _ _) ih
theorem Gl.i6(G:Good X)(P:Pt){T:Prop}(k:∀xs:List Value,P.s.heap.IsList X.i6 xs.toArray->bu P.w (X.is.map .int) xs->X.is.length<=1000->T):T:=
 G.g7.elim λxs h=>k xs (h.1.imp λo h=>⟨P.R.keep _ _ h.1,h.2⟩) (vF h.2) (le_trans G.short (by decide))
theorem items(G:Good X)(r:bf P.w v x)(e:lB P.H v=some vs)(T:Value->Prop)
  (kt:v=.aP vs->∀a xs n,P.s.heap.get? a=some (gO xs n)->bu P.w vs xs->vs.length<=16000000->a∉P.φ->T (.ref a)) (kl:∀a xs,P.s.heap.IsList a xs.toArray->bu P.w vs xs->vs.length<=16000000->T (.ref a)):T x:=by
 cases v with
 |aP us=>cases e;exact r.inv T λa n xs h1 h2 h3 h4=>kt rfl a xs n h1 h2 h3 h4
 |ref l=>exact bE r e T λζ a xs n ζ ζ ζ h1 h2 h3=>kl a xs (iz h1) h2 h3
 |g7=>cases e;exact r.inv T (Gl.i6 G P λxs h1 h2 h3=>kl _ xs h1 h2 (by rw[length_map];exact le_trans h3 (by decide)))
 |_=>cases e
theorem empty_eq{p:Ws}{xs:List Value}(r:bu p vs xs):xs.toArray.isEmpty=vs.isEmpty:=bu.ind (M:=λvs xs=>xs.toArray.isEmpty=vs.isEmpty) rfl (λζ ζ ζ=>rfl) r
theorem yV{b:Bool}{Q:Bool->Shared->Prop}(r:bf P.w v x)(e:truthy P.H v=some b)(k:∀tk,Q b (upd P.s P.s.heap tk)):wpAny X.M P.A (PySem.truthy x) Q NE P.s:=by
 cases v with
 |none=>cases e;exact r.inv (λx=>wpAny X.M P.A (PySem.truthy x) Q NE P.s) (truthy_none (k _))
 |bool b'=>cases e;exact r.inv (λx=>wpAny X.M P.A (PySem.truthy x) Q NE P.s) (wpAny_truthy_bool (k _))
 |int i=>cases e;exact r.inv (λx=>wpAny X.M P.A (PySem.truthy x) Q NE P.s) λt=>truthy_int (k _)
 |aP vs=>cases e;exact r.inv (λx=>wpAny X.M P.A (PySem.truthy x) Q NE P.s) λa n xs h1 h2 h3 ζ=>truthy_tuple (tG h1) (small h2 h3) (empty_eq h2▸k _)
 |ref l=>exact fj (λb=>(∀tk,Q b (upd P.s P.s.heap tk))->wpAny X.M P.A (PySem.truthy x) Q NE P.s) e (λvs e k=>bE r e (λx=>wpAny X.M P.A (PySem.truthy x) Q NE P.s) λζ a xs n ζ ζ ζ h1 h2 h3=>wpAny_truthy_list (iz h1) (small h2 h3) (empty_eq h2▸k _)) k
 |_=>cases e
theorem JN(G:Good X)(P:Pt):PylongRoom X.M P.A P.s:=
 P.rm.frames.elim λfe h=>h.elim λouter h=>PylongRoom.of (G.nolimit.keeps P.R.keep) (by have:=P.rm.depth;refine(?_:P.A.depth+100<_);lia) (SeerAt.of (G.seer.keeps P.R.keep) G.tree h.1 h.2.1 h.2.2.1 h.2.2.2.1 h.2.2.2.2)
theorem JO{op:kI}{a b i:Int}{t t':Tok}{Q:Value->Shared->Prop}(G:Good X)(P:Pt)(e:binI op a b=some i)(k:∀tk t,Q (.int i t) (upd P.s P.s.heap tk)):wpAny X.M P.A (binaryOp (pf op) (.int a t) (.int b t')) Q NE P.s:=by
 cases op with
 |add=>cases e;exact add_int (k _ _)
 |sub=>cases e;exact sub_int (k _ _)
 |mul=>exact pE e (λi=>(∀tk t,Q (.int i t) (upd P.s P.s.heap tk))->_) (λhm k=>mul_int (k _ _) λhc=>by unfold yM at hm;rw[hc] at hm;cases hm) k
 |fdiv=>exact CZ e (λi=>(∀tk t,Q (.int i t) (upd P.s P.s.heap tk))->_) (λhb k=>floordiv_int hb (k _ _) (.inr (JN G P))) k
 |mod=>exact CZ e (λi=>(∀tk t,Q (.int i t) (upd P.s P.s.heap tk))->_) (λhb k=>mod_int' hb (k _ _)) k
 |pow=>exact pE e (λi=>(∀tk t,Q (.int i t) (upd P.s P.s.heap tk))->_) (λh k=>by
   obtain⟨rfl,h1,h2⟩:=h
   exact pow_int h1 (by rw[show Builtin.Int.intBits 10=4 by decide];lia) (k _ _)) k
theorem JP{op:kI}{post:PQ}{Q:Value->Shared->Prop}(G:Good X)(P:Pt)(r1:bf P.w v x)(r2:bf P.w u y)(p:tB op v u P.H post)(k:Kn P post Q):wpAny X.M P.A (binaryOp (pf op) x y) Q NE P.s:=by
 have key:ez (decide (op=.add)) (be (cP P.H v) λxs=>be (cP P.H u) λys=>n4 (xs++ys) P.H post)->wpAny X.M P.A (binaryOp (pf op) x y) Q NE P.s:=λp=>ez.k p λh p=>by
  obtain rfl:=of_decide_eq_true h
  refine be.k p λxs e1 p=>be.k p λys e2 p=>ez.k p λhz p=>?_
  refine bE r1 e1 (λx=>wpAny X.M P.A (binaryOp .Add x y) Q NE P.s) λζ a xa ka ζ ζ ζ q1 q2 q3=>bE r2 e2 (λy=>wpAny X.M P.A (binaryOp .Add _ y) Q NE P.s) λζ b xb kb ζ ζ ζ t1 t2 t3=>?_
  have hl:(xs++ys).length<16000000:=of_decide_eq_true hz
  refine PySem.P.add_list (items:=xa.toArray) (items2:=xb.toArray) q1 t1 ?_ (by rw[size_toArray,size_toArray,<-q2.length,<-t2.length,<-length_append];unfold sizeLine;exact le_trans (le_of_lt hl) (by decide))
  rw[List.append_toArray]
  exact k.list (.push _) _ (fF _ (le_refl _)) (get?_push_size _ rfl) (q2.append t2) (le_of_lt hl) p _
 cases v with
 |int a=>exact c3.k p (λu=>bf P.w u y->_) (λb p r2=>be.k p λi e p=>r1.inv (λx=>wpAny X.M P.A (binaryOp (pf op) x y) Q NE P.s) λt=>r2.inv (λy=>wpAny X.M P.A (binaryOp (pf op) _ y) Q NE P.s) λt'=>JO G P e λtk t=>k.now p (.int _ _) tk) r2
 |_=>exact key p
end
inductive mh(h:Heap)(m:Nat)(d:PyData)(x:Value):Prop
 |mk (as:List Addr) (r:Reads h x d as) (c:d.canLay0=true) (l:d.depth<=m):mh h m d x
inductive yW(h:Heap)(m:Nat)(ds:List PyData)(xs:List Value):Prop
 |mk (as:List Addr) (r:ReadsAll h xs ds as) (c:PyData.canLayAll0 ds=true) (l:PyData.depthAll ds<=m):yW h m ds xs
theorem JQ(d:PyData)(ds:List PyData):PyData.canLayAll0 (d::ds)=(d.canLay0&&PyData.canLayAll0 ds):=rfl
theorem JR(d:PyData)(ds:List PyData):PyData.depthAll (d::ds)=max d.depth (PyData.depthAll ds):=rfl
section
variable{P:Pt}{v u:V}{x y:Value}{vs:List V}{l m:Nat}
theorem vG{h:Heap}{p:Ws}{f:V->Option PyData}(hf:∀v d x,f v=some d->bf p v x->mh h m d x){xs:List Value}(r:bu p vs xs):∀ds,eJ f vs=some ds->yW h m ds xs:=
 bu.ind (M:=λvs xs=>∀ds,eJ f vs=some ds->yW h m ds xs) (λds e=>Option.some.inj e▸⟨_,.nil,rfl,zero_le _⟩) (λ{v x vs xs} r1 _ ih ds e=>by
  unfold eJ at e
  cases e1:f v with
  |none=>rw[e1] at e;cases e
  |some d=>
   cases e2:eJ f vs with
   |none=>rw[e1,e2] at e;cases e
   |some JS=>
    rw[e1,e2] at e
    cases e
    exact(hf v d x e1 r1).casesOn λas q1 q2 q3=>(ih JS e2).casesOn λbs t1 t2 t3=>⟨_,.cons q1 t1,by rw[JQ,q2,t2];rfl,by rw[JR];exact Nat.max_le.mpr ⟨q3,t3⟩⟩) r
theorem C0{d:PyData}(e:vt v=some d)(r:bf P.w v x):mh P.s.heap m d x:=
 V.casesOn (motive_1:=λv=>vt v=some d->bf P.w v x->mh P.s.heap m d x) v (λe r=>r.inv _ (Option.some.inj e▸⟨_,.none,rfl,zero_le _⟩)) (λζ e r=>r.inv _ (Option.some.inj e▸⟨_,.bool _,rfl,zero_le _⟩)) (λζ e r=>r.inv _ λt=>Option.some.inj e▸⟨_,.int _ _,rfl,zero_le _⟩)
  (λζ e r=>r.inv _ λt=>pE e (λd=>mh P.s.heap m d (.str _ t)) λhs=>⟨_,.str _ _,hs,zero_le _⟩) (λζ e=>bU rfl e) (λζ e=>bU rfl e) (λe=>bU rfl e) e r
theorem tH(P:Pt)(m:Nat):∀(v:V) (d:PyData) (x:Value),rd P.H m v=some d->bf P.w v x->mh P.s.heap m d x:=by
 induction m with
 |zero=>exact λv d x e r=>C0 e r
 |succ m ih=>
  intro v d x e r
  cases v with
  |aP vs=>exact fj (λd=>mh P.s.heap (m+1) d x) e λds e1=>r.inv (λx=>mh P.s.heap (m+1) (.tuple ds) x) λa n xs h1 h2 ζ ζ=>(vG ih h2 ds e1).casesOn λas q1 q2 q3=>⟨_,reads_tuple_at h1 rfl rfl q1,q2,succ_le_succ q3⟩
  |ref l=>exact eV e λvs e0 e=>fj (λd=>mh P.s.heap (m+1) d x) e λds e1=>bE r e0 (λx=>mh P.s.heap (m+1) (.list ds) x) λζ a xs n ζ ζ ζ h1 h2 ζ=>(vG ih h2 ds e1).casesOn λas q1 q2 q3=>⟨_,reads_list_at h1 rfl rfl q1,q2,succ_le_succ q3⟩
  |g7=>cases e
  |_=>exact C0 e r
theorem vH{d:PyData}(h1:d.canLay0=true)(h2:d.depth<=10):SeqAt.shaped d=true:=by
 unfold SeqAt.shaped;rw[h1,Bool.true_and];exact decide_eq_true (by lia)
theorem yX(P:Pt):P.A.units+64<cLine:=by have:=P.rm.units;lia
theorem JT{x y:Value}{Q:Value->Shared->Prop}(h:wpAny X.M P.A (compareOp .In x y) (λr s'=>∃b,r=.bool b/\Q (.bool (!b)) s') NE P.s):wpAny X.M P.A (compareOp .NotIn x y) Q NE P.s:=by
 intro Γ p JU
 have:=h Γ p JU
 change Sem.wp _ _ (contains y x >>= λb=>pure (Value.bool b)) _ _ _ _ at this
 refine(?_:Sem.wp _ _ (contains y x >>= λb=>pure (Value.bool (!b))) _ _ _ _)
 rw[Sem.wp_bind'] at this ⊢
 refine Sem.wp_mono _ _ _ (λb p' s' h'=>?_) (λζ ζ ζ h'=>h') _ _ this
 rw[Sem.wp_pure'] at h' ⊢
 exact h'.elim λb' h'=>by cases h'.1;exact h'.2
theorem rp(r:bf P.w v x){es:List (Int×V)}(G:Good X)(e:jF P.H v=some es)(T:Value->Prop)(k:∀l ep a kvs,v=.ref l->P.H[l]?=some (.dict ep es)->P.φ[l]?=some a->P.s.heap.DictOf d7 a kvs->L2 (kM P.w) es kvs->(a==sysModules)=false->es.length<=16000000->T (.ref a)):T x:=
 cellAt.k e (λu=>v=u->T x) (λl c hl hc=>fS.k (λc=>P.H[l]?=some c->v=.ref l->T x) hc (λep hl ev=>P.cell (ev▸r) hl T λa ha h=>h.inv _ λo en kvs x0 x1 x2 x3 x4 x5 r z n=>k l ep a kvs ev hl ha ⟨o,en,ep,x0,x1,x2,x3,x4,x5⟩ r z n) hl) rfl
theorem lx(r:bf P.w v x){es:List ((Int×Bool)×V)}(G:Good X)(e:nZ P.H v=some es)(T:Value->Prop)(k:∀l ep a kvs,v=.ref l->P.H[l]?=some (.cD ep es)->P.φ[l]?=some a->P.s.heap.DictOfH gj a kvs->L2 (lE P.w) es kvs->(a==sysModules)=false->es.length<=16000000->T (.ref a)):T x:=
 cellAt.k e (λu=>v=u->T x) (λl c hl hc=>i7.k (λc=>P.H[l]?=some c->v=.ref l->T x) hc (λep hl ev=>P.cell (ev▸r) hl T λa ha h=>h.inv _ λo en kvs x0 x1 x2 x3 x4 r z n=>k l ep a kvs ev hl ha (by
  refine⟨o,en,ep,x0,x1,x2,x3,?_,x4⟩
  clear x3 x4 n
  exact r.rec (motive:=λζ kvs ζ=>∀q:List Int×Addr×Value,q∈kvs->gj.is P.s.heap q.1 q.2.1) (λq hq=>nomatch hq) λ{a b _ _} m _ ih q hq=>(mem_cons.mp hq).elim (λe=>by subst e;rw[m.1];exact rj m.2.1) (ih q)) r z n) hl) rfl
theorem yY{es:List (Int×V)}{kvs:List (Int×Value)}{p:Ws}(h:L2 (kM p) es kvs)(k:Int):(eO es k=none/\valueAt kvs k=none)\/∃v x,eO es k=some v/\valueAt kvs k=some x/\bf p v x:=
 (h.find (f:=λq=>decide (q.1=k)) (g:=λq=>decide (q.1=k)) λa b m=>by rw[m.1]).imp (λh=>⟨congrArg _ h.1,congrArg _ h.2⟩) λh=>h.elim λa h=>h.elim λb h=>⟨a.2,b.2,congrArg _ h.1,congrArg _ h.2.1,h.2.2.2⟩
theorem yZ{es:List ((Int×Bool)×V)}{kvs:List (List Int×Addr×Value)}{p:Ws}(h:L2 (lE p) es kvs)(k:Int×Bool):(eO es k=none/\atKey kvs (pK k)=none)\/∃v a x,eO es k=some v/\atKey kvs (pK k)=some (a,x)/\bf p v x:=
 (h.find (f:=λq=>decide (q.1=k)) (g:=λq=>decide (q.1=pK k)) λa b m=>by rw[m.1];exact decide_eq_decide.mpr ⟨λe=>e▸rfl,CW⟩).imp (λh=>⟨congrArg _ h.1,congrArg _ h.2⟩) λh=>h.elim λa h=>h.elim λb h=>⟨a.2,b.2.1,b.2.2,congrArg _ h.1,congrArg _ h.2.1,h.2.2.2.2⟩
theorem y0{K:Type}[DecidableEq K](es:List (K×V))(k:K):lC es k=(eO es k).isSome:=by
 unfold lC eO
 rw[Option.isSome_map,List.isSome_find?]
end
section
variable{A:Around}{E:Value->Shared->Prop}{s:Shared}{a b:Addr}{oa ob:Obj}{es fv:Array DictEntry}{ep nc:Nat}
theorem C1(b:Bool):(b==true)=b:=by cases b<;>rfl
theorem C2(b:Bool):(b==false)=!b:=by cases b<;>rfl
theorem C3{nm:String}{Q:Bool->Shared->Prop}(ha:(a==sysModules)=false)(hb:(b==sysModules)=false)(kN:s.heap.get? a=some oa)(tI:oa.data=.dict es ep)(pF:s.heap.get? b=some ob)(vI:ob.data=.dict fv nc)
  (h0:es.size=0\/fv.size=0) (h:Q (es.size==fv.size) s):wpAny X.M A (Builtin.Dict.samePairs nm a b) Q E s:=by
 unfold Builtin.Dict.samePairs Builtin.Dict.showsAll
 rw[if_neg (show ¬(a==sysModules)=true by rw[ha];exact Bool.false_ne_true),if_neg (show ¬(b==sysModules)=true by rw[hb];exact Bool.false_ne_true)]
 refine wpAny_bind (wpAny_pure (wpAny_bind (wpAny_pure ?_)))
 refine wpAny_bind (wpAny_dictEntries kN tI ?_)
 dsimp only
 refine wpAny_bind (wpAny_dictEntries pF vI ?_)
 by_cases cI:es.size=fv.size
 ·rw[if_neg (by rw[cI,bne_self_eq_false];exact Bool.false_ne_true)]
  have hz:es.size=0:=h0.elim id λh=>cI.trans h
  rw[<-cI,beq_self_eq_true] at h
  refine wpAny_bind (wpAny_dictEpoch kN tI ?_)
  rw[hz,Std.Legacy.Range.forIn_eq_forIn_range']
  exact wpAny_bind (wpAny_pure (wpAny_pure h))
 ·rw[if_pos (bne_iff_ne.mpr cI)]
  rw[beq_eq_false_iff_ne.mpr cI] at h
  exact wpAny_bind (wpAny_rule (wpAny_pure h))
theorem JV{Q:Value->Shared->Prop}(ta:s.TypeIs (.ref a) "dict")(tb:s.TypeIs (.ref b) "dict")(ha:(a==sysModules)=false)(hb:(b==sysModules)=false)(kN:s.heap.get? a=some oa)(tI:oa.data=.dict es ep)(pF:s.heap.get? b=some ob)(vI:ob.data=.dict fv nc)
  (h0:es.size=0\/fv.size=0) (hu:A.units<cLine) :
  (Q (.bool (es.size==fv.size)) s->wpAny X.M A (compareOp .Eq (.ref a) (.ref b)) Q E s)/\(Q (.bool (!(es.size==fv.size))) s->wpAny X.M A (compareOp .NotEq (.ref a) (.ref b)) Q E s):=by
 refine⟨λh=>wpAny_richCompare_same_room (op:=.Eq) ta tb PySem.F.slot_dict_eq (wpAny_call_entry PySem.F.slot_dict_eq ta PySem.F.entry_dict_eq ?_ (PySem.F.args_dict_eq_2 _ _)) hu,λh=>wpAny_richCompare_same_room (op:=.NotEq) ta tb PySem.F.slot_dict_ne (wpAny_call_entry PySem.F.slot_dict_ne ta PySem.F.entry_dict_ne ?_ (PySem.F.args_dict_ne_2 _ _)) hu⟩
 ·refine(?_:wpAny _ _ (Builtin.Dict.dictSlotArgs "__eq__" ⟨[.ref a,.ref b],[]⟩ >>= _) _ _ s)
  refine wpAny_bind (wpAny_bind (wpAny_notOrdered_dict ta (wpAny_pure (wpAny_bind (wpAny_isInstance (T:="dict") tb PySem.F.sub_dict_dict ?_)))))
  refine(?_:wpAny _ _ (Builtin.Dict.addrOf (.ref a) >>= _) _ _ s)
  exact wpAny_bind (wpAny_pure (wpAny_bind (wpAny_pure (wpAny_bind (C3 ha hb kN tI pF vI h0 (wpAny_pure ⟨_,rfl,nofun,by rw[C1];exact h⟩))))))
 ·refine(?_:wpAny _ _ (Builtin.Dict.dictSlotArgs "__ne__" ⟨[.ref a,.ref b],[]⟩ >>= _) _ _ s)
  refine wpAny_bind (wpAny_bind (wpAny_notOrdered_dict ta (wpAny_pure (wpAny_bind (wpAny_isInstance (T:="dict") tb PySem.F.sub_dict_dict ?_)))))
  refine(?_:wpAny _ _ (Builtin.Dict.addrOf (.ref a) >>= _) _ _ s)
  exact wpAny_bind (wpAny_pure (wpAny_bind (wpAny_pure (wpAny_bind (C3 ha hb kN tI pF vI h0 (wpAny_pure ⟨_,rfl,nofun,by rw[C2];exact h⟩))))))
open AutoSeq1 (wpAny_loadPart') in
open MeetsSeq MeetsSeq3 in
theorem JW(l b:Addr)(ns ms:List Int)(ts us:Nat->Tok)(n n2:Nat)(items items2:Array Value)(h1:∀j:Nat,items[j]?=ns[j]?.map λi=>.int i (ts j))(h2:∀j:Nat,items2[j]?=ms[j]?.map λi=>.int i (us j))(k:Nat):
  ∀i:Nat,ns.length - i=k->Meets (Builtin.«list.__eq__.loop» ⟨[.ref l,.ref b,rawInt i,rawInt 0],[]⟩)
   (λA R s=>s.heap.get? l=some {cls:=.type "list",dict:=none,data:=.seq items n,slots:=#[]}/\s.heap.get? b=some {cls:=.type "list",dict:=none,data:=.seq items2 n2,slots:=#[]}/\i<=ns.length/\i<=ms.length/\items.size=ns.length/\items2.size=ms.length /\
    R (.ok (.ret (.bool (j2 (ns.drop i) (ms.drop i))))) s):=by
 induction k with
 |zero=>
  intro i hk X.prog X.w A R s h
  obtain⟨hp,g,d,tk,os⟩:=s;obtain⟨hl,hb,hU,JX,oi,tJ,h⟩:=h
  wp_walk using wpAny_loadPart' hl,wpAny_loadPart' hb
  have vJ:items[((i:Nat):Int).toNat]?=none:=by rw[toNat_natCast,h1,getElem?_eq_none (Nat.sub_eq_zero_iff_le.mp hk)];rfl
  rw[vJ]
  wp_walk using wpAny_loadPart' hl,wpAny_loadPart' hb
  refine(?_:R (.ok (.ret (.bool (decide (items.size<items2.size))))) _)
  have hd:ns.drop i=[]:=drop_eq_nil_iff.mpr (Nat.sub_eq_zero_iff_le.mp hk)
  rw[hd] at h
  have e:j2 [] (ms.drop i)=decide (items.size<items2.size):=by
   cases hm:ms.drop i with
   |nil=>exact(decide_eq_false (by have:=drop_eq_nil_iff.mp hm;exact(by rw[oi,tJ];exact not_lt.mpr (le_trans this hU)))).symm
   |cons x r=>exact(decide_eq_true (by have:=congrArg List.length hm;rw[length_drop,length_cons] at this;exact(by rw[oi,tJ];exact lt_of_le_of_lt (Nat.sub_eq_zero_iff_le.mp hk) (Nat.sub_pos_iff_lt.mp (by rw[this];exact succ_pos _))))).symm
  rw[<-e];exact h
 |succ k ih=>
  intro i hk X.prog X.w A R s h
  obtain⟨hp,g,d,tk,os⟩:=s;obtain⟨hl,hb,hU,JX,oi,tJ,h⟩:=h
  wp_walk using wpAny_loadPart' hl,wpAny_loadPart' hb
  have bX:i<ns.length:=Nat.sub_pos_iff_lt.mp (by rw[hk];exact succ_pos _)
  have vJ:items[((i:Nat):Int).toNat]?=some (.int ns[i] (ts i)):=by rw[toNat_natCast,h1,getElem?_eq_getElem bX];rfl
  have rq:ns.drop i=ns[i]::ns.drop (i+1):=drop_eq_getElem_cons bX
  rw[vJ]
  rcases lt_or_ge i ms.length with y1|iA
  ·have mi:items2[((i:Nat):Int).toNat]?=some (.int ms[i] (us i)):=by rw[toNat_natCast,h2,getElem?_eq_getElem y1];rfl
   have JY:ms.drop i=ms[i]::ms.drop (i+1):=drop_eq_getElem_cons y1
   have hc:((i:Int)+1)=((i+1:Nat):Int):=by push_cast;rfl
   rw[rq,JY] at h
   rw[mi]
   refine wpAny_bind (SeqAt.EqAt.int_int _ _ _ _ X.prog X.w _ _ ?_)
   by_cases e:ns[i]=ms[i]
   ·rw[beq_iff_eq.mpr e]
    wp_walk
    rw[hc]
    have e':j2 (ns[i]::ns.drop (i+1)) (ms[i]::ms.drop (i+1))=j2 (ns.drop (i+1)) (ms.drop (i+1)):=if_pos e
    rw[e'] at h
    exact⟨plainId_quiet plain_eq_loop _,codeAny_builtin entry_eq_loop (by
     rw[Around.under_plainId plain_eq_loop _]
     exact ih (i+1) (by rw[sub_succ,hk];rfl) X.prog X.w A R _ ⟨hl,hb,bX,y1,oi,tJ,h⟩)⟩
   ·rw[beq_eq_false_iff_ne.mpr e]
    wp_walk using wpAny_loadPart' hl,wpAny_loadPart' hb
    rw[vJ,mi]
    have e':j2 (ns[i]::ns.drop (i+1)) (ms[i]::ms.drop (i+1))=decide (ns[i]<ms[i]):=if_neg e
    rw[e'] at h
    exact wpAny_bind (PyProof.Rows.lt_int (wpAny_pure h))
  ·have mi:items2[((i:Nat):Int).toNat]?=none:=by rw[toNat_natCast,h2,getElem?_eq_none iA];rfl
   rw[mi]
   wp_walk using wpAny_loadPart' hl,wpAny_loadPart' hb
   refine(?_:R (.ok (.ret (.bool (decide (items.size<items2.size))))) _)
   have hd:ms.drop i=[]:=drop_eq_nil_iff.mpr iA
   rw[hd] at h
   have e:j2 (ns.drop i) []=decide (items.size<items2.size):=by
    rw[decide_eq_false (by rw[oi,tJ];exact not_lt.mpr (le_trans iA (le_of_lt bX)))]
    cases ns.drop i<;>rfl
   rw[<-e];exact h
open AutoSeq1 (wpAny_loadPart') in
open MeetsSeq MeetsSeq3 in
theorem lt_meets(l b:Addr)(ns ms:List Int)(ts us:Nat->Tok)(n n2:Nat)(items items2:Array Value)(h1:∀j:Nat,items[j]?=ns[j]?.map λi=>.int i (ts j))(h2:∀j:Nat,items2[j]?=ms[j]?.map λi=>.int i (us j))(z1:items.size=ns.length)(z2:items2.size=ms.length):
  Meets (Builtin.«list.__lt__» ⟨[.ref l,.ref b],[]⟩) (λA R s=>s.heap.get? l=some {cls:=.type "list",dict:=none,data:=.seq items n,slots:=#[]}/\s.heap.get? b=some {cls:=.type "list",dict:=none,data:=.seq items2 n2,slots:=#[]}/\R (.ok (.ret (.bool (j2 ns ms)))) s):=by
 intro X.prog X.w A R s h
 obtain⟨hp,g,d,tk,os⟩:=s;obtain⟨hl,hb,h⟩:=h
 have f3:=AutoSeq1.sub_list_list
 wp_walk using wpAny_loadPart' hl,wpAny_loadPart' hb
 exact⟨plainId_quiet plain_eq_loop _,codeAny_builtin entry_eq_loop (by
  rw[Around.under_plainId plain_eq_loop _]
  exact JW l b ns ms ts us n n2 items items2 h1 h2 _ 0 rfl X.prog X.w A R _ ⟨hl,hb,zero_le _,zero_le _,z1,z2,h⟩)⟩
end
section
variable{P:Pt}{v u:V}{x y:Value}{vs:List V}{l m:Nat}{Q:Value->Shared->Prop}{b:Bool}
theorem pG{p:Ws}{xs:List Value}(r:bu p vs xs):∀is,allInts vs=some is->is.length=xs.length/\∃ts:Nat->Tok,∀j:Nat,xs.toArray[j]?=is[j]?.map λi=>.int i (ts j):=
 bu.ind (M:=λvs xs=>∀is,allInts vs=some is->is.length=xs.length/\∃ts:Nat->Tok,∀j:Nat,xs.toArray[j]?=is[j]?.map λi=>.int i (ts j)) (λis e=>Option.some.inj e▸⟨rfl,λζ=>0,λj=>rfl⟩) (λ{v x vs xs} r1 _ ih is e=>eV e λi ei e=>fj (λis=>is.length=(x::xs).length/\∃ts:Nat->Tok,∀j:Nat,(x::xs).toArray[j]?=is[j]?.map λi=>.int i (ts j)) e λjs ej=>
  intOf.k ei (λv=>bf p v x->_) (λr1=>r1.inv (λx=>(i::js).length=(x::xs).length/\∃ts:Nat->Tok,∀j:Nat,(x::xs).toArray[j]?=(i::js)[j]?.map λi=>.int i (ts j)) λt=>have h:=ih js ej;⟨congrArg (·+1) h.1,h.2.elim λts h=>⟨λj=>match j with|0=>t|j+1=>ts j,λj=>match j with
   |0=>rfl
   |j+1=>by rw[getElem?_toArray,List.getElem?_cons_succ,List.getElem?_cons_succ,<-h j,getElem?_toArray]⟩⟩) r1) r
theorem JZ{a c:Addr}{xs ys:List Value}{us:List V}{ka kc:Nat}{is js:List Int}(h1:P.s.heap.get? a=some (gA xs ka))(h2:P.s.heap.get? c=some (gA ys kc))(r1:bu P.w vs xs)(r2:bu P.w us ys)(e1:allInts vs=some is)(e2:allInts us=some js)(k:Q (.bool (j2 is js)) P.s):wpAny X.M P.A (compareOp .Lt (.ref a) (.ref c)) Q NE P.s:=
 have q1:=pG r1 is e1
 have q2:=pG r2 js e2
 q1.2.elim λts tK=>q2.2.elim λnf y2=>wpAny_richCompare_same_room (op:=.Lt) (iz h1).typeIs (iz h2).typeIs PySem.F.slot_list_lt
  (call_meets PySem.F.slot_list_lt (iz h1).typeIs PySem.F.entry_list_lt (PySem.F.args_list_lt_2 _ _) (lt_meets a c is js ts nf ka kc _ _ tK y2 q1.1.symm q2.1.symm) ⟨h1,h2,nofun,k⟩) (by have:=P.rm.units;exact Nat.lt_of_succ_lt P.u1)
theorem j3.k(r:bf P.w v x)(e:j3 P.H v=some b)(T:Value->Prop)(k:∀a o en ep,P.s.heap.get? a=some o->o.cls=.type "dict"->o.data=.dict en ep->b=decide (en.size=0)->(a==sysModules)=false->T (.ref a)):T x:=by
 have sz:∀{α β:Type} {as:List α} {bs:List β} {M:α->β->Prop} {en:Array DictEntry},L2 M as bs->en.toList.length=bs.length->as.isEmpty=decide (en.size=0):=λ{α β as bs M en} h e=>by
  rw[<-length_toList,e,<-h.length]
  cases as<;>rfl
 unfold j3 at e
 cases ed:jF P.H v with
 |some es=>
  rw[ed] at e
  exact cellAt.k ed (λu=>v=u->T x) (λl c hl hc=>fS.k (λc=>P.H[l]?=some c->v=.ref l->T x) hc (λep hl ev=>P.cell (ev▸r) hl T λa ha h=>h.inv _ λo en kvs x0 x1 x2 x3 x4 x5 r z n=>k a o en ep x0 x1.1 x2 (Option.some.inj e▸sz r x4.length) z) hl) rfl
 |none=>
  rw[ed] at e
  exact fj (λb=>(∀a o en ep,P.s.heap.get? a=some o->o.cls=.type "dict"->o.data=.dict en ep->b=decide (en.size=0)->(a==sysModules)=false->T (.ref a))->T x) e (λes ed k=>cellAt.k ed (λu=>v=u->T x) (λl c hl hc=>i7.k (λc=>P.H[l]?=some c->v=.ref l->T x) hc (λep hl ev=>P.cell (ev▸r) hl T λa ha h=>h.inv _ λo en kvs x0 x1 x2 x3 x4 r z n=>k a o en ep x0 x1.1 x2 (sz r (by rw[x3,length_map])) z) hl) rfl) k
theorem C4(r1:bf P.w v x)(r2:bf P.w u y)(e:kL P.H v u=some b):(Q (.bool b) P.s->wpAny X.M P.A (compareOp .Eq x y) Q NE P.s)/\(Q (.bool (!b)) P.s->wpAny X.M P.A (compareOp .NotEq x y) Q NE P.s):=by
 unfold kL at e
 cases eN:j3 P.H v with
 |some c=>
  rw[eN] at e
  refine eV e λd ed e=>pE e (λb=>(Q (.bool b) P.s->wpAny X.M P.A (compareOp .Eq x y) Q NE P.s)/\(Q (.bool (!b)) P.s->wpAny X.M P.A (compareOp .NotEq x y) Q NE P.s)) λru=>?_
  refine j3.k r1 eN (λx=>(Q (.bool (c&&d)) P.s->wpAny X.M P.A (compareOp .Eq x y) Q NE P.s)/\(Q (.bool (!(c&&d))) P.s->wpAny X.M P.A (compareOp .NotEq x y) Q NE P.s)) λa o en ep a1 a2 a3 a4 a5=>j3.k r2 ed (λy=>(Q (.bool (c&&d)) P.s->wpAny X.M P.A (compareOp .Eq _ y) Q NE P.s)/\(Q (.bool (!(c&&d))) P.s->wpAny X.M P.A (compareOp .NotEq _ y) Q NE P.s)) λa' o' vK nc b1 b2 b3 b4 b5=>?_
  subst a4 b4
  have h0:en.size=0\/vK.size=0:=(or_eq_true_iff.mp ru).imp of_decide_eq_true of_decide_eq_true
  have hb:(decide (en.size=0)&&decide (vK.size=0))=(en.size==vK.size):=by
   rcases h0 with h|h<;>rw[h]<;>cases en.size<;>cases vK.size<;>rfl
  rw[hb]
  exact JV ⟨o,a1,a2⟩ ⟨o',b1,b2⟩ a5 b5 a1 a3 b1 b3 h0 (by have:=P.rm.units;exact Nat.lt_of_succ_lt P.u1)
 |none=>
  rw[eN] at e
  exact eV e λd e1 e=>fj (λb=>(Q (.bool b) P.s->wpAny X.M P.A (compareOp .Eq x y) Q NE P.s)/\(Q (.bool (!b)) P.s->wpAny X.M P.A (compareOp .NotEq x y) Q NE P.s)) e λd' e2=>(tH P 10 v d x e1 r1).casesOn λas q1 q2 q3=>(tH P 10 u d' y e2 r2).casesOn λbs p1 p2 p3=>⟨eq_dataH q1 p1 (vH q2 q3) (vH p2 p3) (yX P),ne_dataH q1 p1 (vH q2 q3) (vH p2 p3) (yX P)⟩
theorem C5(G:Good X)(r1:bf P.w v x)(r2:bf P.w u y)(e:pB P.H v u=some b)(k:∀tk,Q (.bool b) (upd P.s P.s.heap tk)):wpAny X.M P.A (compareOp .In x y) Q NE P.s:=by
 unfold pB at e
 cases ed:jF P.H u with
 |some es=>
  rw[ed] at e
  exact fj (λb=>(∀tk,Q (.bool b) (upd P.s P.s.heap tk))->_) e (λi ei k=>intOf.k ei (λv=>bf P.w v x->_) (λr1=>r1.inv (λx=>wpAny X.M P.A (compareOp .In x y) Q NE P.s) λt=>rp r2 G ed (λy=>wpAny X.M P.A (compareOp .In _ y) Q NE P.s) λζ ζ a kvs ζ ζ ζ h2 h3 h1 h4=>
   wpAny_in_of (knd:=d7) (k:=i) (beq_self_eq_true i) h1 h2.mapOf (by
    have h:=y0 es i
    rcases yY h3 i with⟨w1,w2⟩|⟨_,_,w1,w2,_⟩<;>rw[w1] at h<;>rw[w2]<;>exact h▸k _)) r1) k
 |none=>
  rw[ed] at e
  cases ep:nZ P.H u with
  |some es=>
   rw[ep] at e
   exact fj (λb=>(∀tk,Q (.bool b) (upd P.s P.s.heap tk))->_) e (λi ei k=>pairOf.k ei (λv=>bf P.w v x->_) (λr1=>lx r2 G ep (λy=>wpAny X.M P.A (compareOp .In _ y) Q NE P.s) λζ ζ a kvs ζ ζ ζ h2 h3 h1 h4=>r1.inv (λx=>bf P.w (fN i) x->wpAny X.M P.A (compareOp .In x _) Q NE P.s) (λc n xs ζ ζ ζ ζ r1=>
    wpAny_in_heap (knd:=gj) (k:=pK i) (by refine(?_:P.A.units+1<cLine);have:=P.rm.units;exact P.u1) (rj r1) h1 h2 (by
     have h:=y0 es i
     rcases yZ h3 i with⟨w1,w2⟩|⟨_,_,_,w1,w2,_⟩<;>rw[w1] at h<;>rw[w2]<;>exact h▸k _)) r1) r1) k
  |none=>
   rw[ep] at e
   refine eV e λvs ev e=>eV e λds eds e=>fj (λb=>(∀tk,Q (.bool b) (upd P.s P.s.heap tk))->_) e (λd e2 k=>(tH P 10 v d x e2 r1).casesOn λbs p1 p2 p3=>?_) k
   have hu:∀{m:Nat},P.A.units+1+min m d.depth<cLine:=by have:=yX P;exact λ{_}=>lt_of_le_of_lt (add_le_add_left (le_trans (min_le_right _ _) p3) _) (lt_of_le_of_lt (add_le_add_left (show 11<=64 by decide) _) this)
   exact items G r2 ev (λy=>wpAny X.M P.A (compareOp .In x y) Q NE P.s) (λζ a xs n h1 h2 ζ ζ=>(vG (tH P 10) h2 ds eds).casesOn λas q1 q2 q3=>SeqAt.in_tuple_reads (reads_tuple_at h1 rfl rfl q1) p1 q2 p2 hu (k _)) λa xs h1 h2 ζ=>(vG (tH P 10) h2 ds eds).casesOn λas q1 q2 q3=>h1.elim λo h1=>h1.2.2.elim λn hd=>SeqAt.in_list_reads (reads_list_at h1.1 h1.2.1 hd q1) p1 q2 p2 hu (k _)
theorem qV.k{f:Int->Int->Bool}(e:qV v u f=some b)(r1:bf P.w v x)(r2:bf P.w u y)(T:Value->Value->Bool->Prop)(k:∀i j t t',T (.int i t) (.int j t') (f i j)):T x y b:=
 eV e λi ei e=>fj (λb=>T x y b) e λj ej=>intOf.k ei (λv=>bf P.w v x->_) (λr1=>intOf.k ej (λu=>bf P.w u y->_) (λr2=>r1.inv (λx=>T x y _) λt=>r2.inv (λy=>T _ y _) λt'=>k i j t t') r2) r1
theorem rA{op:kJ}(G:Good X)(r1:bf P.w v x)(r2:bf P.w u y)(e:fT op v u P.H=some b)(k:∀tk,Q (.bool b) (upd P.s P.s.heap tk)):wpAny X.M P.A (compareOp (pg op) x y) Q NE P.s:=by
 cases op with
 |eq=>exact(C4 r1 r2 e).1 (k _)
 |ne=>exact fj (λb=>(∀tk,Q (.bool b) (upd P.s P.s.heap tk))->_) e (λc e k=>(C4 r1 r2 e).2 (k _)) k
 |d3=>exact C5 G r1 r2 e k
 |fR=>exact fj (λb=>(∀tk,Q (.bool b) (upd P.s P.s.heap tk))->_) e (λc e k=>JT (C5 G r1 r2 e λtk=>⟨_,rfl,k tk⟩)) k
 |le=>exact qV.k e r1 r2 (λx y b=>(∀tk,Q (.bool b) (upd P.s P.s.heap tk))->wpAny X.M P.A (compareOp .LtE x y) Q NE P.s) (λζ ζ ζ ζ k=>le_int (k _)) k
 |gt=>exact qV.k e r1 r2 (λx y b=>(∀tk,Q (.bool b) (upd P.s P.s.heap tk))->wpAny X.M P.A (compareOp .Gt x y) Q NE P.s) (λζ ζ ζ ζ k=>gt_int (k _)) k
 |lt=>
  change ltV v u P.H=some b at e
  unfold ltV at e
  split at e
  ·cases e;exact r1.inv (λx=>wpAny X.M P.A (compareOp .Lt x y) Q NE P.s) λt=>r2.inv (λy=>wpAny X.M P.A (compareOp .Lt _ y) Q NE P.s) λt'=>lt_int (k _)
  ·exact eV e λis e1 e=>fj (λb=>(∀tk,Q (.bool b) (upd P.s P.s.heap tk))->_) e (λjs e2 k=>eV e1 λvs e3 e1=>eV e2 λus e4 e2=>bE r1 e3 (λx=>wpAny X.M P.A (compareOp .Lt x y) Q NE P.s) λζ a xs n ζ ζ ζ h1 h2 ζ=>bE r2 e4 (λy=>wpAny X.M P.A (compareOp .Lt _ y) Q NE P.s) λζ c ys n' ζ ζ ζ q1 q2 ζ=>JZ h1 q1 h2 q2 e1 e2 (k _)) k
  ·cases e
end
section
variable{σ:Lv}{P:Fp σ}{Q:Value->Shared->Prop}{x:Str}{pos:Pos}
theorem J0{k:Option NameKind}(h:m9 k){G:Prop}(kc:k=some .cell->G)(kf:k=some .free->G):G:=by
 cases k with
 |none=>cases h
 |some k=>cases k<;>first|cases h;done|exact kc rfl|exact kf rfl
theorem pe.k{ns:List Str}{i:Nat}{G:Prop}(h:pe ns i x=true)(k:ns.idxOf x=i->x∈ns->G):G:=bg h λh1 h2=>by
 have h1:=of_decide_eq_true h1
 exact k h1 (List.idxOf_lt_length_iff.mp (h1▸of_decide_eq_true h2))
theorem y3{i:Nat}(h:vp σ.f i x=true):b0 σ (.U i) (.Name x pos):=λP post Q p k=>
 bg h λh1 h=>bg h λh2 h=>bg h λh3 h4=>pe.k h1 λhi hx=>be.k p λv hv p=>by
  rw[<-hi] at hv
  refine wpAny_Name ?_ (not_eq_true' _▸h3)
  have key:P.env.kindOf x=some .local\/m9 (P.env.kindOf x):=by
   rcases P.kd x with e|⟨_,e⟩
   ·rw[<-e]
    revert h2
    cases σ.f.sc.names.lookup x with
    |none=>exact λh=>Bool.noConfusion h
    |some k=>cases k<;>first|exact λh=>Bool.noConfusion h|exact λζ=>.inl rfl|exact λζ=>.inr rfl
   ·exact .inr e
  rcases key with hk|hk
  ·exact P.F.loc.elim λm h=>(h.2 x hx hk).inv hv (λy=>m x=y->_) (λy r e=>wpAny_loadName_local P.F.fc.fn hk h.1 e (k.now p r _)) rfl
  ·exact(P.F.n9 x hx hk).elim λc h=>h.elim λy h=>h.2.2.inv hv (λy=>P.s.heap.IsCell c y->_) (λy r e=>J0 hk (λhk=>wpAny_loadName_cell P.F.fc.fn hk h.1 e (k.now p r _)) λhk=>wpAny_loadName_free P.F.fc.fn hk h.1 e (k.now p r _) (not_eq_true' _▸h4)) h.2.1
theorem Kinds.glob{env:Env}(kd:Kinds σ.f.sc env){G:Prop}(h:nW σ.f x=true)(k:env.kindOf x=some .globalImplicit->(x==("__debug__":Str))=false->G):G:=bg h λh1 h2=>by
 have h1:=of_decide_eq_true h1
 rcases kd x with e|⟨e,_⟩
 ·exact k (e▸h1) (not_eq_true' _▸h2)
 ·rw[h1] at e;cases e
theorem C6(G:Good X)(P:Fp σ){y:Value}(e:X.mg x=some y)(h:nW σ.f x=true)(hQ:Q y P.s):wpAny X.M P.A (eval (.Name x pos) P.env) Q NE P.s:=
 P.kd.glob h λk1 k2=>Name_function_global P.F.fc.fn k1 (loadGlobal_global (by rw[P.F.fc.glob];exact G.g.keeps P.R.keep) e hQ) k2
theorem oj(G:Good X)(P:Fp σ){y:Value}(e:(x,y)∈l8)(h:nW σ.f x=true)(hQ:Q y P.s):wpAny X.M P.A (eval (.Name x pos) P.env) Q NE P.s:=
 P.kd.glob h λk1 k2=>have e:=G.bi _ e;Name_function_global P.F.fc.fn k1 (loadGlobal_builtin (by rw[P.F.fc.glob];exact G.g.keeps P.R.keep) e.1 (by rw[P.F.fc.blt];exact G.b.keeps P.R.keep) e.2 hQ) k2
theorem J1{j:Nat}(G:Good X)(h1:gK.u6[j]?=some x)(h2:nW σ.f x=true):b0 σ (.gk j) (.Name x pos):=λP post Q p k=>
 be.k p λv hv p=>(G.gk j x h1).elim λa h=>h.elim λis h=>h.elim λvs h=>h.elim λn h=>C6 G P h.2.1 h2 (k.now p (Option.some.inj (h.1.symm.trans hv)▸bf.aP (P.R.keep _ _ h.2.2.1) (vF h.2.2.2.1) (by rw[length_map];exact le_trans h.2.2.2.2 (by decide)) λhm=>bU (P.R.fresh _ hm) h.2.2.1) _)
end
section
variable{P:Pt}{Q:Value->Shared->Prop}{v u:V}{x y:Value}{vs:List V}
theorem j4.k{xs:List Value}{p:Ws}{k:Int}{G:Prop}(r:bu p vs xs)(e:j4 vs k=some v)
  (kk:∀j z,seqIndex? k xs.length=some j->xs[j]?=some z->bf p v z->((0<=k/\j=k.toNat)\/(k<0/\-(xs.length:Int)<=k/\j=(k+xs.length).toNat))->G):G:=by
 have hl:=r.length
 unfold j4 at e
 by_cases h0:0<=k
 ·rw[if_pos h0] at e
  refine r.get e λz hz rz=>kk k.toNat z ?_ hz rz (.inl ⟨h0,rfl⟩)
  have bX:=(List.getElem?_eq_some_iff.mp hz).1
  unfold seqIndex?
  rw[if_neg (Int.not_lt.mpr h0),if_pos (by rw[decide_eq_true h0,decide_eq_true ((toNat_lt h0).mp bX)];rfl)]
 ·rw[if_neg h0] at e
  have h1:k<0:=Int.not_le.mp h0
  rw[hl] at e
  by_cases h2:-(xs.length:Int)<=k
  ·rw[if_pos h2] at e
   refine r.get e λz hz rz=>kk _ z ?_ hz rz (.inr ⟨h1,h2,rfl⟩)
   unfold seqIndex?
   rw[if_pos h1,if_pos (by rw[decide_eq_true (by lia),decide_eq_true (by lia)];rfl)]
  ·rw[if_neg h2] at e;cases e
noncomputable def y4(e:Expr):Bool:=decide (e.ctorIdx≠26)
theorem vL{e:Expr}(h:y4 e=true)(o i:Value):subscripted e false o i=operate [o,i] (getItem o i):=by
 cases e<;>first|rfl|cases h
theorem J2{i:V}{value slice:Expr}(G:Good X)(P:Pt)(hs:y4 slice=true)(r1:bf P.w v x)(r2:bf P.w i y)(e:eQ v i P.H=some u)(k:∀tk z,bf P.w u z->Q z (upd P.s P.s.heap tk)):wpAny X.M P.A (subscriptTail value slice x y) Q NE P.s:=by
 have two:(pairOf i).bind (λq=>(nZ P.H v).bind λes=>eO es q)=some u->wpAny X.M P.A (subscriptTail value slice x y) Q NE P.s:=λe=>
  eV e λq eq e=>eV e λes ees e=>pairOf.k eq (λi=>bf P.w i y->_) (λr2=>r2.inv (λy=>bf P.w (fN q) y->wpAny X.M P.A (subscriptTail value slice x y) Q NE P.s) (λa n xs ζ ζ ζ ζ r2=>lx r1 G ees (λx=>wpAny X.M P.A (subscriptTail value slice x _) Q NE P.s) λζ ζ d kvs ζ ζ ζ h2 h3 ζ ζ=>
   tail_any h2.typeIs PySem.slot_dict_getitem.lookup (by
    rcases yZ h3 q with⟨w1,_⟩|⟨_,_,_,w1,w2,w3⟩
    ·exact bU w1 e
    ·rw[w1] at e;cases e
     exact wpAny_getItem_heap (knd:=gj) (k:=pK q) (by refine(?_:P.A.units+1<cLine);have:=P.rm.units;exact P.u1) (rj r2) h2 w2 (k _ _ w3)) (vL hs _ _)) r2) r2
 cases i with
 |int j=>
  refine r2.inv (λy=>wpAny X.M P.A (subscriptTail value slice x y) Q NE P.s) λt=>?_
  change (match lB P.H v with|some vs=>j4 vs j|none=>(jF P.H v).bind λes=>eO es j)=some u at e
  cases hi:lB P.H v with
  |some vs=>
   rw[hi] at e
   have bd:∀{m:Nat} {l:List Value},vs.length=l.length->vs.length<=16000000->m<l.length->(0<=j/\m=j.toNat)\/(j<0/\-(l.length:Int)<=j/\m=(j+l.length).toNat)->-(2:Int)^63<=j/\j<2^63:=λe hz hm h=>h.elim (λa=>⟨Int.le_trans (by decide) a.1,Int.lt_trans ((toNat_lt a.1).mp (show j.toNat<16000000 from a.2▸lt_of_lt_of_le hm (e▸hz))) (by decide)⟩) λa=>⟨Int.le_trans (Int.le_trans (show -(2:Int)^63<=-16000000 by decide) (Int.neg_le_neg (ofNat_le.mpr (e▸hz)))) a.2.1,Int.lt_trans a.1 (by decide)⟩
   refine items G r1 hi (λx=>wpAny X.M P.A (subscriptTail value slice x _) Q NE P.s) (λζ a xs n h1 h2 h3 ζ=>j4.k h2 e λm z q1 q2 q3 q4=>?_) λa xs h1 h2 h3=>j4.k h2 e λm z q1 q2 q3 q4=>?_
   ·have b:=bd h2.length h3 (List.getElem?_eq_some_iff.mp q2).1 q4
    exact item_tupleT (tG h1) b.1 b.2 q1 q2 (k _ z q3) (vL hs _ _)
   ·have b:=bd h2.length h3 (List.getElem?_eq_some_iff.mp q2).1 q4
    refine tail_any h1.typeIs PySem.slot_list_getitem.lookup ?_ (vL hs _ _)
    rcases q4 with⟨q4,rfl⟩|⟨q4,q5,rfl⟩
    ·exact wpAny_getItem_list h1 q4 b.2 (by rw[getElem?_toArray];exact q2) (k _ z q3)
    ·exact wpAny_getItem_list_neg h1 q4 q5 b.1 (by rw[getElem?_toArray];exact q2) (k _ z q3)
  |none=>
   rw[hi] at e
   exact eV e λes ees e=>rp r1 G ees (λx=>wpAny X.M P.A (subscriptTail value slice x _) Q NE P.s) λζ ζ d kvs ζ ζ ζ h2 h3 ζ ζ=>tail_any h2.typeIs PySem.slot_dict_getitem.lookup (by
    rcases yY h3 j with⟨w1,_⟩|⟨_,_,w1,w2,w3⟩
    ·exact bU w1 e
    ·rw[w1] at e;cases e
     exact wpAny_getItem_of (knd:=d7) (k:=j) (beq_self_eq_true j) h2.mapOf w2 (k _ _ w3)) (vL hs _ _)
 |_=>exact two e
end
noncomputable def om(w:Bool):BoolOp:=if w then .And else .Or
section
variable{σ:Lv}{A:Around}{env:Env}{s:Shared}
theorem J3{w:Bool}{C7 C8:Expr}{rest:List Expr}{pos:Pos}{Q:Value->Shared->Prop}(h:wpAny X.M A (eval C7 env) (λv bF=>wpAny X.M A (PySem.truthy v) (λc eW=>bW (c==w) (wpAny X.M A (eval (.BoolOp (om w) (C8::rest) pos) env) Q NE eW) (Q v eW)) NE bF) NE s):
  wpAny X.M A (eval (.BoolOp (om w) (C7::C8::rest) pos) env) Q NE s:=by
 cases w
 ·exact BoolOp_or (wpAny_mono h (λv bF h=>wpAny_mono h (λc eW h=>by cases c<;>exact h) λζ ζ h=>h) λζ ζ h=>h)
 ·exact BoolOp_and (wpAny_mono h (λv bF h=>wpAny_mono h (λc eW h=>by cases c<;>exact h) λζ ζ h=>h) λζ ζ h=>h)
theorem J4{w:Bool}{e:Expr}{rest:List Expr}{Q:Bool->Shared->Prop}(h:wpAny X.M A (isTrue e env (eval e env)) (λc bF=>bW (c==w) (wpAny X.M A (allTrue (om w) rest env) Q NE bF) (Q c bF)) NE s):wpAny X.M A (allTrue (om w) (e::rest) env) Q NE s:=by
 cases w
 ·exact wpAny_allTrue_Or_cons (wpAny_mono h (λc eW h=>by cases c<;>exact h) λζ ζ h=>h)
 ·exact wpAny_allTrue_And_cons (wpAny_mono h (λc eW h=>by cases c<;>exact h) λζ ζ h=>h)
theorem J5{w:Bool}{Q:Bool->Shared->Prop}(h:Q w s):wpAny X.M A (allTrue (om w) [] env) Q NE s:=by
 cases w<;>exact wpAny_pure h
structure eX(σ:Lv)(cs:List E)(es:List Expr):Prop where
 len:cs.length=es.length
 ng:∀(P:Fp σ) (post:List V->Hp->Prop) (Q:List Value->Shared->Prop) (pos:Pos),m7 (aM σ.m) cs P.ρ P.H post->yU P.toPt cs.length post Q->wpAny X.M P.A (spliced (backTo pos (starEach es P.env))) Q NE P.s
 plain:∀(env:Env) (pos:Pos),(backTo pos (starEach es env)).any (·.1)=false
 get:∀(i:Nat) c e,cs[i]?=some c->es[i]?=some e->b0 σ c e/\tF σ c e
 bo:∀(w:Bool) (P:Fp σ) (post:PQ) (Q:Value->Shared->Prop) (pos:Pos),j5 (aM σ.m) w cs P.ρ P.H post->Kn P.toPt post Q->wpAny X.M P.A (eval (.BoolOp (om w) es pos) P.env) Q NE P.s
 vN:∀(w:Bool) (P:Fp σ) (post:PQ) (Q:Bool->Shared->Prop) ,j5 (aM σ.m) w cs P.ρ P.H post->tE P.toPt post Q->wpAny X.M P.A (allTrue (om w) es P.env) Q NE P.s
 vO:∀(P:Fp σ) (post:Bool->Hp->Prop) (Q:Bool->Shared->Prop) ,WT (aM σ.m) cs P.ρ P.H post->vD P.toPt post Q ->
  wpAny X.M P.A (forIn es true λc r=>if r=true then do let ok <-isTrue c P.env (eval c P.env);pure (ForInStep.yield ok) else pure (ForInStep.yield r)) Q NE P.s
theorem J6{es:List Expr}{Q:Bool->Shared->Prop}(h:Q false s):
  wpAny X.M A (forIn es false λc r=>if r=true then do let ok <-isTrue c env (eval c env);pure (ForInStep.yield ok) else pure (ForInStep.yield r)) Q NE s:=by
 induction es with
 |nil=>exact wpAny_pure h
 |cons e r ih=>rw[forIn_cons];exact wpAny_bind (wpAny_pure ih)
theorem oo{c:E}{e:Expr}(h:cm σ.f c e=true)(env:Env)(rest:List Expr):starEach (e::rest) env=(false,eval e env)::starEach rest env:=by
 cases e<;>first|rfl|skip
 exfalso
 cases c<;>exact Bool.noConfusion h
theorem eX.nil:eX σ [] [] where
 len:=rfl
 ng:=λP post Q pos p k=>wpAny_items_nil (k _ _ p rfl (P.gm _) _ .nil)
 plain:=λζ ζ=>rfl
 get:=λi c e h=>bU getElem?_nil h
 bo:=λw P post Q pos p=>p.elim
 vN:=λw P post Q p=>p.elim
 vO:=λP post Q p k=>wpAny_pure (k _ _ p (P.gm _))
theorem eX.cons{c:E}{cs:List E}{e:Expr}{es:List Expr}(h0:cm σ.f c e=true)(he:b0 σ c e/\tF σ c e)(hs:eX σ cs es):eX σ (c::cs) (e::es) where
 len:=congrArg (·+1) hs.len
 ng:=λP post Q pos p k=>wpAny_items_cons (he.1 P _ _ p (λv H1 p1 N x r=>hs.ng (P.to N) _ _ pos p1 (λvs H2 p2 hl N2 xs r2=>k _ _ p2 (congrArg (·+1) hl) (N.then N2) _ (.cons (r.mono N2.S) r2)))) (oo h0 P.env es)
 get:=λi c' e' h1 h2=>by
  cases i with
  |zero=>cases h1;cases h2;exact he
  |succ i=>exact hs.get i c' e' h1 h2
 plain:=λenv pos=>by
  rw[oo h0 env es]
  exact hs.plain env pos
 bo:=λw P post Q pos p k=>by
  cases cs with
  |nil=>
   cases es with
   |nil=>exact BoolOp_one (he.1 P _ _ p k)
   |cons _ _=>cases hs.len
  |cons c2 cs=>
   cases es with
   |nil=>cases hs.len
   |cons e2 es=>
    refine J3 (he.1 P _ _ p (λv H1 p1 N x r=>be.k p1 λb hb p1=>yV (P:=N.pt) r hb λtk=>?_))
    cases hw:b==w with
    |true=>rw[hw] at p1;exact hs.bo w (P.to (N.then (N.pt.gm tk))) _ _ pos p1 (k.nx _)
    |false=>rw[hw] at p1;exact k _ _ p1 (N.then (N.pt.gm tk)) _ r
 vN:=λw P post Q p k=>by
  refine J4 ?_
  cases cs with
  |nil=>
   cases es with
   |cons _ _=>cases hs.len
   |nil=>
    refine he.2 P _ _ p (λv H1 p1=>(k v H1 p1).m λb h N=>?_)
    cases hw:b==w with
    |true=>exact J5 (eq_of_beq hw▸h N)
    |false=>exact h N
  |cons c2 cs=>
   refine he.2 P _ _ p (λv H1 p1=>be.k p1 λb hb p1=>.i hb λN=>?_)
   cases hw:b==w with
   |true=>rw[hw] at p1;exact hs.vN w (P.to N) _ _ p1 (k.nx N)
   |false=>rw[hw] at p1;exact be.at hb (k v H1 p1) N
 vO:=λP post Q p k=>by
  rw[forIn_cons]
  refine wpAny_bind (wpAny_bind (he.2 P _ _ p (λv H1 p1=>p1.m λb p1 N=>wpAny_pure ?_)))
  cases b with
  |true=>exact hs.vO (P.to N) _ _ p1 (k.nx N)
  |false=>exact J6 (k _ _ p1 N)
end
section
variable{σ:Lv}{a b c:E}{l r r':Expr}{pos:Pos}
noncomputable def bQ(σ:Lv)(c:E)(e:Expr):Prop:=b0 σ c e/\tF σ c e
noncomputable def Vu(e:Expr):Bool:=decide (e.ctorIdx≠3/\e.ctorIdx≠0/\e.ctorIdx≠5/\e.ctorIdx≠15)
theorem b0.t{e:Expr}(ev:b0 σ c e)(he:∀env,isTrue e env (eval e env)=(do let v <-eval e env;standAt e.pos;holding [v] (PySem.truthy v))):bQ σ c e:=
 ⟨ev,λP post Q p k=>wpAny_isTrue_value (ev P _ _ p (λv H1 p1 N x r=>be.k (k v H1 p1) λb hb h=>yV (P:=N.pt) r hb λtk=>h (N.then (N.pt.gm tk)))) (he _)⟩
theorem rB(ha:b0 σ a l)(hb:b0 σ b r)(P:Fp σ){post:V->V->Hp->Prop}{Q:Value->Value->Shared->Prop}(p:WE (aM σ.m) a P.ρ P.H λx H=>WE (aM σ.m) b P.ρ H λy H=>post x y H)
  (k:∀v u H,post v u H->∀(N:Nx P.toPt H) x y,bf N.w v x->bf N.w u y->Q x y N.s):wpAny X.M P.A (eval l P.env) (λx bF=>wpAny X.M P.A (eval r P.env) (λy eW=>Q x y eW) NE bF) NE P.s:=
 ha P _ _ p (λv H1 p1 N x r1=>hb (P.to N) _ _ p1 (λu H2 p2 N2 y r2=>k v u H2 p2 (N.then N2) x y (r1.mono N2.S) r2))
theorem C9{v:V}{c:Const}{k:Nat}(h:vm v=some c):b0 σ (.k v) (.Constant c k pos):=λP post Q p k=>
 V.casesOn (motive_1:=λv=>vm v=some c->post v P.H->wpAny X.M P.A (eval (.Constant c _ pos) P.env) Q NE P.s) v (λh p=>Option.some.inj h▸wpAny_Constant_none (k.now p .none _)) (λζ h p=>Option.some.inj h▸wpAny_Constant_bool (k.now p (.bool _) _)) (λζ h p=>Option.some.inj h▸wpAny_Constant_int (k.now p (.int _ _) _))
  (λζ h p=>Option.some.inj h▸wpAny_Constant_str (k.now p (.str _ _) _)) (λζ h=>bU rfl h) (λζ h=>bU rfl h) (λh=>bU rfl h) h p
theorem J7{op:kI}(G:Good X)(ha:b0 σ a l)(hb:b0 σ b r):b0 σ (.bin op a b) (.BinOp l (pf op) r pos):=λP post Q p k=>
 wpAny_BinOp (rB ha hb P p (λv u H q N x y r1 r2=>JP G N.pt r1 r2 q (k.nx N)))
theorem J8(ha:b0 σ a l):b0 σ (.neg a) (.UnaryOp .USub l pos):=λP post Q p k=>
 wpAny_UnaryOp (ha P _ _ p (λv H1 p1 N x r=>c3.k p1 (λv=>bf N.w v x->_) (λi p1 r=>r.inv (λx=>wpAny X.M P.A (unaryOp .USub x) Q NE N.s) λt=>neg_int (k _ _ p1 (N.then (N.pt.gm _)) _ (.int _ _))) r))
theorem J9(ha:bQ σ a l):bQ σ (.not a) (.UnaryOp .Not l pos):=
 ⟨λP post Q p k=>wpAny_UnaryOp (ha.1 P _ _ p (λv H1 p1 N x r=>be.k p1 λb hb p1=>not_of (yV (P:=N.pt) r hb λtk=>k _ _ p1 (N.then (N.pt.gm tk)) _ (.bool _)))),
  λP post Q p k=>wpAny_isTrue_Not (ha.2 P _ _ p (λv H1 p1=>p1.m λb p1=>k _ _ p1))⟩
theorem Dc{w:Bool}{cs:List E}{es:List Expr}(h:eX σ cs es)(hw:∀ρ H post,WE (aM σ.m) c ρ H post->j5 (aM σ.m) w cs ρ H post):bQ σ c (.BoolOp (om w) es pos):=
 ⟨λP post Q p k=>h.bo w P post Q pos (hw _ _ _ p) k,λP post Q p k=>wpAny_isTrue_BoolOp (h.vN w P post Q (hw _ _ _ p) k)⟩
theorem vP{c:E}{e:Expr}(h:cm σ.f c e=true)(o:CmpOp):behindInMarks o e=false:=by
 cases e<;>first|rfl|skip
 exfalso
 cases c<;>exact Bool.noConfusion h
theorem Ka{op:kJ}(G:Good X)(h0:cm σ.f b r=true)(ha:b0 σ a l)(hb:b0 σ b r):bQ σ (.cmp op a b) (.Compare l [pg op] [r] pos):=
 ⟨λP post Q p k=>wpAny_Compare1 (rB ha hb P p (λv u H q N x y r1 r2=>be.k q λt ht q=>rA (P:=N.pt) G r1 r2 ht λtk=>k _ _ q (N.then (N.pt.gm tk)) _ (.bool _))) (vP h0 _),
  λP post Q p k=>wpAny_isTrue_Compare1 (rB ha hb P p (λv u H q N x y r1 r2=>be.k q λt ht q=>rA (P:=N.pt) G r1 r2 ht λtk=>wpAny_truthy_bool (k _ _ q (N.then (N.pt.gm tk))))) (vP h0 _)⟩
theorem Kb{op mW:kJ}(G:Good X)(h0:cm σ.f c r'=true)(ha:b0 σ a l)(hb:b0 σ b r)(hc:b0 σ c r'):bQ σ (.sW op mW a b c) (.Compare l [pg op,pg mW] [r,r'] pos):=by
 refine⟨λP post Q p k=>Compare_chain (ha P _ _ p (λv H1 p1 N x r1=>chain_link (hb (P.to N) _ _ p1 (λu H2 p2 N2 y r2=>be.k p2 λt ht p2=>rA (P:=N2.pt) G (r1.mono N2.S) r2 ht λtk=>wpAny_truthy_bool ?_)))) (vP h0 _),
  λP post Q p k=>isTrue_chain (ha P _ _ p (λv H1 p1 N x r1=>test_link (hb (P.to N) _ _ p1 (λu H2 p2 N2 y r2=>be.k p2 λt ht p2=>rA (P:=N2.pt) G (r1.mono N2.S) r2 ht λtk=>wpAny_truthy_bool ?_)))) (vP h0 _)⟩
 ·have N3:=(N.then N2).then (N2.pt.gm tk)
  cases t with
  |true=>exact chain_last (hc (P.to ((N.then N2).then (N2.pt.gm tk))) _ _ p2 (λw H4 p4 N4 z r4=>be.k p4 λt' tL p4=>rA (P:=N4.pt) G (r2.mono N4.S) r4 tL λpH=>k _ _ p4 ((N.then N2).then ((N2.pt.gm tk).then (N4.then (N4.pt.gm pH)))) _ (.bool _)))
  |false=>exact k _ _ p2 ((N.then N2).then (N2.pt.gm tk)) _ (.bool _)
 ·cases t with
  |true=>exact test_last (hc (P.to ((N.then N2).then (N2.pt.gm tk))) _ _ p2 (λw H4 p4 N4 z r4=>be.k p4 λt' tL p4=>rA (P:=N4.pt) G (r2.mono N4.S) r4 tL λpH=>wpAny_truthy_bool (k _ _ p4 ((N.then N2).then ((N2.pt.gm tk).then (N4.then (N4.pt.gm pH)))))))
  |false=>exact k _ _ p2 ((N.then N2).then (N2.pt.gm tk))
theorem y6{p:Ws}{v:V}{x:Value}(r:bf p v x):plainIs x .none=true/\(x==Value.none)=sT v:=
 r.casesOn (motive_1:=λv x ζ=>plainIs x .none=true/\(x==Value.none)=sT v) ⟨rfl,rfl⟩ (λζ=>⟨rfl,rfl⟩) (λζ ζ=>⟨rfl,rfl⟩) (λζ ζ=>⟨rfl,rfl⟩) (λζ ζ ζ ζ=>⟨rfl,rfl⟩) (λζ=>⟨rfl,rfl⟩) ⟨rfl,rfl⟩
theorem is_none{P:Pt}{w:Bool}{v:V}{x:Value}{Q:Value->Shared->Prop}(r:bf P.w v x)(h:Q (.bool (sT v==w)) P.s):wpAny X.M P.A (compareOp (if w then .Is else .IsNot) x .none) Q NE P.s:=by
 rw[<-(y6 r).2] at h
 cases w
 ·rw[C2] at h;exact wpAny_isNot_plain (y6 r).1 h
 ·rw[C1] at h;exact wpAny_is_plain (y6 r).1 h
theorem Kc{w:Bool}{k:Nat}{kp:Pos}(ha:b0 σ a l):bQ σ (.isNone w a) (.Compare l [if w then .Is else .IsNot] [.Constant .none k kp] pos):=
 ⟨λP post Q p k=>wpAny_Compare1 (ha P _ _ p (λv H1 p1 N x r1=>wpAny_Constant_none (is_none (P:=N.pt) r1 (k _ _ p1 N _ (.bool _))))) rfl,
  λP post Q p k=>wpAny_isTrue_Compare1 (ha P _ _ p (λv H1 p1 N x r1=>wpAny_Constant_none (is_none (P:=N.pt) r1 (wpAny_truthy_bool (k _ _ p1 N))))) rfl⟩
theorem Dd{cs:List E}{vs:List V}{xs:List Value}{p:Ws}(hc:cs.length<1000)(hl:vs.length=cs.length)(r:bu p vs xs):xs.length<=sizeLine/\vs.length<=16000000:=by
 rw[<-r.length,hl];unfold sizeLine;lia
theorem Kd{cs:List E}{es:List Expr}{k:Nat}(hc:cs.length<1000)(h:eX σ cs es):b0 σ (.aP cs) (.Tuple es k pos):=λP post Q p k=>
 wpAny_Tuple_spliced (h.ng P _ _ pos p (λvs H1 p1 hl N xs r=>have z:=Dd hc hl r;⟨z.1,k _ _ p1 (N.then (N.pt.ext (.push _) N.tk)) _ (.aP (n:=0) (get?_push_size _ rfl) (r.mono (bJ.ext (own:=eU) (p:=N.w) (q:=N.w) .refl (.push _))) z.2 (N.R.new (fF _ (le_refl _))).1)⟩))
theorem Ke{cs:List E}{es:List Expr}(hc:cs.length<1000)(h:eX σ cs es):b0 σ (.bE cs) (.List es pos):=λP post Q p k=>
 wpAny_List_spliced (h.ng P _ _ pos p (λvs H1 p1 hl N xs r=>have z:=Dd hc hl r;⟨z.1,Kn.list (P:=N.pt) (k.nx N) (.push _) _ (fF _ (le_refl _)) (get?_push_size _ rfl) r z.2 p1 _⟩))
theorem Kf{c:E}{e:Expr}(h:cm σ.f c e=true):y4 e=true:=by
 cases e<;>first|rfl|skip
 exfalso
 cases c<;>exact Bool.noConfusion h
theorem y7(G:Good X)(h0:cm σ.f b r=true)(ha:b0 σ a l)(hb:b0 σ b r):b0 σ (.aU a b) (.Subscript l r pos):=λP post Q p k=>
 Subscript_ (rB ha hb P p (λv u H q N x y r1 r2=>be.k q λw hw q=>J2 G N.pt (Kf h0) r1 r2 hw λtk z rz=>k _ _ q (N.then (N.pt.gm tk)) _ rz))
theorem pI{A:Around}{s:Shared}{f:Value}{args:List (Bool×Sem Value)}{Q:Args->Shared->Prop}(hp:args.any (·.1)=false)(h:wpAny X.M A (spliced args) (λvs s'=>Q ⟨vs,[]⟩ s') NE s):wpAny X.M A (evalArgs f true args []) Q NE s:=by
 cases args with
 |nil=>
  refine(?_:wpAny X.M A (spliced [] >>= _) Q NE s)
  exact wpAny_bind (wpAny_mono h (λvs s' h'=>wpAny_bind (wpAny_pure (wpAny_holding (wpAny_bind (wpAny_pure (wpAny_bind (wpAny_pure (wpAny_pure h')))))))) λζ ζ x=>x)
 |cons a r=>
  obtain⟨b,t⟩:=a
  cases b with
  |false=>exact Calls.evalArgs_plain h
  |true=>cases hp
theorem Kg{f:Nat}{x:Str}{cs:List E}{es:List Expr}{np:Pos}(G:Good X)(hc:vE σ.m)(hn:2*σ.m+1<=σ.n)(h1:gK.mZ[f]?=some x)(h2:nW σ.f x=true)(h:eX σ cs es):b0 σ (.call f cs) (.Call (.Name x np) es [] pos):=λP post Q p k=>
 (G.fn f x h1).casesOn λa o d pm cd doc e1 e2 e3 e4 e5 ζ ζ=>wpAny_Call_NameR (C6 G P e3 h2 (Calls.callWith_function (o:=o) (pI (h.plain P.env pos) (h.ng P _ _ pos p (λvs H1 p1 ζ N xs r=>⟨⟨N.R.keep _ _ e4,e5⟩,hc N.pt f x a vs xs post Q (P.rn.less hn) h1 e3 r p1 (k.nx N)⟩)))))
end
structure Sx{σ:Lv}(P:Fp σ)(own:Addr->Prop)(ρ:aV)(H:Hp)where
 φ:List Addr
 h:Heap
 tk:Nat
 R:SR ⟨φ,h⟩ H
 F:FR P.env σ.f.ns ρ ⟨φ,h⟩
 S:bJ own P.w ⟨φ,h⟩
section
variable{σ:Lv}{P:Fp σ}{own:Addr->Prop}{ρ cb:aV}{H H':Hp}
noncomputable abbrev Sx.w(N:Sx P own ρ H):Ws:=⟨N.φ,N.h⟩
noncomputable abbrev Sx.s(N:Sx P own ρ H):Shared:=(upd P.s N.h N.tk)
noncomputable abbrev Sx.fp(N:Sx P own ρ H):Fp σ:=⟨⟨P.A,N.φ,H,N.s,P.rm,N.R⟩,P.env,ρ,P.kd,N.F,P.rn⟩
noncomputable abbrev Sx.then(N:Sx P own ρ H)(N':Sx N.fp own cb H'):Sx P own cb H':=⟨N'.φ,N'.h,N'.tk,N'.R,N'.F,N.S.trans N'.S⟩
noncomputable abbrev Nx.sx(N:Nx P.toPt H):Sx P own P.ρ H:=⟨N.φ,N.h,N.tk,N.R,P.F.mono N.S λζ ζ h=>h,N.S.nil⟩
end
noncomputable def De(env:Env)(own:Addr->Prop)(x:Str):Prop:=(env.kindOf x=some .local/\own env.locals)\/(env.kindOf x=some .cell/\∀c,env.cells.lookup x=some c->own c)
section
variable{σ:Lv}{own:Addr->Prop}
theorem Kh{ns:List Str}{i:Nat}{x z:Str}{v:Option V}{ρ:aV}(hx:x∈ns)(hz:z∈ns)(hi:ns.idxOf x=i)(hl:i<ρ.length):lk ns (ρ.set i v) z=if z=x then v else lk ns ρ z:=by
 unfold lk
 by_cases e:z=x
 ·rw[if_pos e,e,hi,List.getElem?_set_self hl];rfl
 ·rw[if_neg e,getElem?_set_ne λe'=>e ?_]
  have h1:=List.idxOf_lt_length_of_mem hx
  have h2:=List.idxOf_lt_length_of_mem hz
  rw[<-hi] at e'
  have e1:ns[ns.idxOf x]?=some x:=by rw[getElem?_eq_getElem h1,List.getElem_idxOf]
  have e2:ns[ns.idxOf z]?=some z:=by rw[getElem?_eq_getElem h2,List.getElem_idxOf]
  rw[e'] at e1
  exact Option.some.inj (e2.symm.trans e1)
theorem Ki{P:Fp σ}{x:Str}{i:Nat}{v:V}{y:Value}{Q:Unit->Shared->Prop}(hi:σ.f.ns.idxOf x=i)(hx:x∈σ.f.ns)(ho:De P.env own x)(r:bf P.w v y)(k:∀N:Sx P own (P.ρ.set i (some v)) P.H,Q () N.s):wpAny X.M P.A (bindName P.env x y) Q NE P.s:=by
 have rC:i<P.ρ.length:=by rw[P.F.len,<-hi];exact List.idxOf_lt_length_of_mem hx
 have nh:∀z,z∈σ.f.ns->lk σ.f.ns (P.ρ.set i (some v)) z=if z=x then some v else lk σ.f.ns P.ρ z:=λz hz=>Kh hx hz hi rC
 have key:∀(a:Addr) (h':Heap) (tk:Nat),j7 P.env a->own a->ExtBut a P.s.heap h'->(∀o,P.s.heap.get? a=some o->fz o=false)->(∃o',h'.get? a=some o') ->
   (∀(S:bJ own P.w ⟨P.φ,h'⟩) (keep:∀b,b≠a->∀o,P.s.heap.get? b=some o->h'.get? b=some o),(∃m,h'.Ns P.env.locals m/\∀z,z∈σ.f.ns->P.env.kindOf z=some .local->iy ⟨P.φ,h'⟩ (lk σ.f.ns (P.ρ.set i (some v)) z) (m z)) /\
    ∀z,z∈σ.f.ns->m9 (P.env.kindOf z)->∃c v',P.env.cells.lookup z=some c/\h'.IsCell c v'/\iy ⟨P.φ,h'⟩ (lk σ.f.ns (P.ρ.set i (some v)) z) v')->Q () (upd P.s h' tk):=λa h' tk ha kN he hf hl hF=>
  have c:Ch (·=a) P.s.heap h':=.but he hf
  have S:bJ own P.w ⟨P.φ,h'⟩:=bJ.ch (io:=(·=a)) (q:=P.w) .refl c λb hb=>.inr (hb▸⟨kN,hl⟩)
  have q:=hF S λb hb o e=>he b o hb e
  k ⟨P.φ,h',tk,P.R.ch (p:=P.w) (io:=(·=a)) (λb hb=>hb▸P.F.ap a ha) c,⟨P.F.fc,by rw[length_set];exact P.F.len,q.1,q.2,P.F.ap,λb hb=>(P.F.live b hb).elim λo e=>S.alive b o e⟩,S⟩
 unfold bindName
 refine wpAny_bind (wpAny_holding (wpAny_point (wpAny_bind ?_)))
 rcases ho with⟨hk,hL⟩|⟨hk,hc⟩
 ·refine P.F.loc.elim λm hm=>wpAny_storeName_local hk hm.1 (λh' hn hs=>wpAny_point ?_) (by rw[P.F.fc.fn];rfl)
  refine key P.env.locals h' _ (.inl rfl) hL hs.extBut (λo e=>hm.1.elim λo' q=>q.elim λζ q=>q.elim λζ q=>by rw[q.1] at e;cases e;exact yR q.2.1) (hn.imp λo q=>q.elim λζ q=>q.elim λζ q=>q.1) λS keep=>⟨⟨_,hn,λz hz lG=>?_⟩,λz hz lG=>?_⟩
  ·rw[nh z hz]
   by_cases e:z=x
   ·rw[if_pos e,if_pos e];exact .some (r.mono S)
   ·rw[if_neg e,if_neg e];exact(hm.2 z hz lG).kp S.kp
  ·refine(P.F.n9 z hz lG).imp λc q=>q.imp λv' q=>⟨q.1,vC q.2.1 (keep c (P.F.fc.ne _ (mem_lookup q.1))),?_⟩
   rw[nh z hz,if_neg λe=>by rw[e,hk] at lG;cases lG]
   exact q.2.2.kp S.kp
 ·refine(P.F.n9 x hx (by rw[hk];rfl)).elim λc q=>q.elim λv' q=>wpAny_storeName_cell P.F.fc.fn hk q.1 q.2.1 λh' hn hs=>wpAny_point ?_
  refine key c h' _ (oe q.1) (hc c q.1) hs.extBut (λo e=>q.2.1.elim λo' q=>by rw[q.1] at e;cases e;exact JJ q.2) (hn.imp λo x=>x.1) λS keep=>⟨P.F.loc.imp λm hm=>⟨yS hm.1 (keep _ (P.F.fc.ne _ (mem_lookup q.1)).symm),λz hz lG=>?_⟩,λz hz lG=>?_⟩
  ·rw[nh z hz,if_neg λe=>by rw[e,hk] at lG;cases lG]
   exact(hm.2 z hz lG).kp S.kp
  ·rw[nh z hz]
   by_cases e:z=x
   ·rw[if_pos e,e];exact⟨c,some y,q.1,hn,.some (r.mono S)⟩
   ·rw[if_neg e]
    exact(P.F.n9 z hz lG).imp λc' q'=>q'.imp λv2 q'=>⟨q'.1,vC q'.2.1 (keep c' λe'=>e (P.F.fc.apart z x c (e'▸q'.1) q.1)),q'.2.2.kp S.kp⟩
noncomputable def pJ(env:Env)(own:Addr->Prop)(xs:List Str):Prop:=∀x,x∈xs->De env own x
theorem y8{h h':Heap}(he:ExtBut h.objs.size h h'):aI h h':=λa o e=>he a o (λe'=>bU (fF h (le_of_eq e'.symm)) e) e
theorem y9{t:cV}{e:Expr}{env:Env}(h:i5 σ.f t e=true)(es:List Expr):assignEach (e::es) env=(false,assign e env)::assignEach es env:=by
 cases t with
 |U i=>exact ft.k (G:=λe=>assignEach (e::es) env=(false,assign e env)::assignEach es env) h λζ ζ ζ=>rfl
 |aP ts=>exact l7.k (G:=λe=>assignEach (e::es) env=(false,assign e env)::assignEach es env) h λζ ζ ζ ζ=>rfl
theorem Df:∀{ts:List cV} {es:List Expr} {vs:List V} {ρ cb:aV},tu σ.f ts es=true->tA ts vs ρ=some cb->∀env,(assignEach es env).length=vs.length/\(assignEach es env).findIdx? (·.1)=none
 |[],es,[],_,_,h,_,env=>fE (G:=λes=>(assignEach es env).length=0/\(assignEach es env).findIdx? (·.1)=none) h ⟨rfl,rfl⟩
 |[],es,_::_,_,_,h,ea,env=>bU rfl ea
 |_::_,es,[],_,_,h,ea,env=>bU rfl ea
 |t::ts,es,v::vs,ρ,cb,h,ea,env=>lz.k (G:=λes=>(assignEach es env).length=vs.length+1/\(assignEach es env).findIdx? (·.1)=none) h λe es h=>bg h λh1 h2=>eV ea λDh e1 e2=>by
  have q:=Df h2 e2 env
  rw[y9 h1 es]
  exact⟨congrArg (·+1) q.1,by rw[List.findIdx?_cons,q.2];rfl⟩
mutual
theorem tM:∀(t:cV) (e:Expr) (P:Fp σ) (v:V) (y:Value) (cb:aV) (Q:Unit->Shared->Prop) ,i5 σ.f t e=true->pJ P.env own (gM t e)->bf P.w v y->aX t v P.ρ=some cb->(∀N:Sx P own cb P.H,Q () N.s)->wpAny X.M P.A (assign e P.env y) Q NE P.s
 |.U i,e,P,v,y,cb,Q,h,ho,r,ea,k=>ft.k (G:=λe=>pJ P.env own (gM (.U i) e)->wpAny X.M P.A (assign e P.env y) Q NE P.s) h (λx pos h ho=>bg h λh1 ζ=>pe.k h1 λhi hx=>pE ea (λcb=>(∀N:Sx P own cb P.H,Q () N.s)->_) (λζ k=>by
   rw[PySem.assign_Name]
   exact wpAny_bind (wpAny_standAt (Ki hi hx (ho x (mem_singleton.mpr rfl)) r k))) k) ho
 |.aP ts,e,P,v,y,cb,Q,h,ho,r,ea,k=>l7.k (G:=λe=>pJ P.env own (gM (.aP ts) e)->wpAny X.M P.A (assign e P.env y) Q NE P.s) h (λes j pos h ho=>by
   have hv:∃vs,v=.aP vs:=by cases v<;>first|cases ea;done|exact⟨_,rfl⟩
   obtain⟨vs,rfl⟩:=hv
   change tA ts vs P.ρ=some cb at ea
   have q:=Df h ea P.env
   exact r.inv (λy=>wpAny X.M P.A (assign (.Tuple es j pos) P.env y) Q NE P.s) λa m xs h1 h2 ζ ζ=>wpAny_assign_Tuple P.rm.handled ⟨_,h1,rfl,m,rfl⟩ (by rw[q.1,size_toArray,h2.length]) q.2 λh' he=>
    Di ts es (P.to (P.toPt.ext (y8 he) P.s.toks)) vs xs cb Q h ho (h2.mono (P.toPt.ext (y8 he) P.s.toks).S) ea λN=>k ((P.toPt.ext (y8 he) P.s.toks).sx.then N)) ho
theorem Di:∀(ts:List cV) (es:List Expr) (P:Fp σ) (vs:List V) (ys:List Value) (cb:aV) (Q:Unit->Shared->Prop) ,tu σ.f ts es=true->pJ P.env own (qT ts es)->bu P.w vs ys->tA ts vs P.ρ=some cb->(∀N:Sx P own cb P.H,Q () N.s)->wpAny X.M P.A (assignInOrder ((assignEach es P.env).map (·.2)) ys) Q NE P.s
 |[],es,P,vs,ys,cb,Q,h,ho,r,ea,k=>fE (G:=λes=>wpAny X.M P.A (assignInOrder ((assignEach es P.env).map (·.2)) ys) Q NE P.s) h (by
   cases vs with
   |nil=>cases ea;exact r.inv (λys=>wpAny X.M P.A (assignInOrder [] ys) Q NE P.s) (wpAny_pure (k (P.toPt.gm _).sx))
   |cons _ _=>cases ea)
 |t::ts,es,P,vs,ys,cb,Q,h,ho,r,ea,k=>lz.k (G:=λes=>pJ P.env own (qT (t::ts) es)->wpAny X.M P.A (assignInOrder ((assignEach es P.env).map (·.2)) ys) Q NE P.s) h (λe es h ho=>bg h λh1 h2=>by
   cases vs with
   |nil=>cases ea
   |cons v vs=>
    rw[y9 h1 es]
    exact eV ea λDh e1 e2=>r.inv (λys=>wpAny X.M P.A (assignInOrder (((false,assign e P.env)::assignEach es P.env).map (·.2)) ys) Q NE P.s) λy ys r1 r2=>wpAny_assignInOrder_more (tM t e P v y Dh _ h1 (λx hx=>ho x (mem_append.mpr (.inl hx))) r1 e1 λN=>
     Di ts es N.fp vs ys cb Q h2 (λx hx=>ho x (mem_append.mpr (.inr hx))) (r2.mono N.S) e2 λN'=>k (N.then N'))) ho
end
end
structure KO{σ:Lv}(P:Fp σ)(own:Addr->Prop)(K:Out->Prop)(Q:Flow->Shared->Prop):Prop where
 next:∀ρ H,K (.next ρ H)->∀N:Sx P own ρ H,Q .next N.s
 ret:∀v H,K (.ret v H)->∀(φ:List Addr) (h:Heap) (tk:Nat),SR ⟨φ,h⟩ H->bJ own P.w ⟨φ,h⟩->∀x,bf ⟨φ,h⟩ v x->Q (.ret x) (upd P.s h tk)
noncomputable def vQ(env:Env)(own:Addr->Prop)(ns:List Str):Prop:=pJ env own ns/\∀a,own a->j7 env a
section
variable{σ:Lv}{P:Fp σ}{own:Addr->Prop}{K:Out->Prop}{Q:Flow->Shared->Prop}{ρ:aV}{H:Hp}
theorem KO.nx(k:KO P own K Q)(N:Sx P own ρ H):KO N.fp own K Q:=⟨λcb H' p N'=>k.next cb H' p (N.then N'),λv H' p φ h tk R S x r=>k.ret v H' p φ h tk R (N.S.trans S) x r⟩
noncomputable def mj(σ:Lv)(cs:List S)(ss:List Stmt):Prop:=
 ∀(P:Fp σ) (own:Addr->Prop) (K:Out->Prop) (Q:Flow->Shared->Prop) ,vQ P.env own σ.f.ns->aY (aM σ.m) cs P.ρ P.H K->KO P own K Q->wpAny X.M P.A (execs ss P.env) Q NE P.s
noncomputable def SS(σ:Lv)(c:S)(st:Stmt):Prop:=
 ∀(P:Fp σ) (own:Addr->Prop) (K:Out->Prop) (Q:Flow->Shared->Prop) ,vQ P.env own σ.f.ns->WS (aM σ.m) c P.ρ P.H K->KO P own K Q->wpAny X.M P.A (exec st P.env) Q NE P.s
mutual
theorem vR:∀(t:cV) (e:Expr),i5 σ.f t e=true->∀x,x∈gM t e->x∈σ.f.ns
 |.U i,e,h=>ft.k (G:=λe=>∀x,x∈gM (.U i) e->x∈σ.f.ns) h λy p h x hx=>bg h λh1 ζ=>pe.k h1 λζ hy=>mem_singleton.mp hx▸hy
 |.aP ts,e,h=>l7.k (G:=λe=>∀x,x∈gM (.aP ts) e->x∈σ.f.ns) h λes ζ ζ h x hx=>Dj ts es h x hx
theorem Dj:∀(ts:List cV) (es:List Expr),tu σ.f ts es=true->∀x,x∈qT ts es->x∈σ.f.ns
 |[],es,h,x,hx=>nomatch hx
 |t::ts,es,h,x,hx=>lz.k (G:=λes=>x∈qT (t::ts) es->x∈σ.f.ns) h (λe es h hx=>bg h λh1 h2=>(mem_append.mp hx).elim (vR t e h1 x) (Dj ts es h2 x)) hx
end
theorem za{x:Expr}{o:Option Expr}{env:Env}(h:pz x=true)(line:Nat):swapsWith x o line env=pure false:=by
 cases x<;>first|rfl|cases h
theorem Kj{e:E}{x:Expr}{pos:Pos}(hn:pz x=true)(he:b0 σ e x):SS σ (.expr e) (.Expr x pos):=λP own K Q ho p k=>
 wpAny_Expr_any (he P _ _ p (λv H1 p1 N x r=>k.next _ _ p1 N.sx)) P.F.fc.gen.2.2 (za hn _)
theorem Dk{t:cV}{e:E}{tg x:Expr}{pos:Pos}(rD:swapsWithSole [tg] x pos.line P.env=pure false)(ht:i5 σ.f t tg=true)(hx:vr tg x=true)(he:b0 σ e x)(ho:vQ P.env own σ.f.ns)(p:WS (aM σ.m) (.aX t e) P.ρ P.H K)(k:KO P own K Q):wpAny X.M P.A (exec (.Assign [tg] x pos) P.env) Q NE P.s:=by
 refine wpAny_Assign_stores (he P _ _ p (λv H1 p1 N y r=>be.k p1 λcb ha p1=>?_)) rD ?_
 ·rw[y9 ht []]
  exact tM (own:=own) t tg (P.to N) v y cb _ ht (λz hz=>ho.1 z (vR t tg ht z hz)) r ha λN'=>k.next _ _ p1 (N.sx.then N')
 ·cases t with
  |U i=>exact ft.k (G:=λtg=>swappedStores [tg] x P.env=pure none) ht λζ ζ ζ=>rfl
  |aP ts=>exact l7.k (G:=λtg=>vr tg x=true->swappedStores [tg] x P.env=pure none) ht (λζ ζ ζ ζ hx=>by cases x<;>first|rfl|cases hx) hx
theorem Kk{t:cV}{e:E}{tg x:Expr}{pos:Pos}(hn:pz x=true)(ht:i5 σ.f t tg=true)(hx:vr tg x=true)(he:b0 σ e x):SS σ (.aX t e) (.Assign [tg] x pos):=λP own K Q ho p k=>Dk (za hn _) ht hx he ho p k
theorem Kl{e:E}{x:Expr}{pos:Pos}(he:b0 σ e x):SS σ (.ret e) (.Return (some x) pos):=λP own K Q ho p k=>
 wpAny_Return_some (he P _ _ p (λv H1 p1 N x r=>k.ret _ _ p1 _ _ _ N.R N.S.nil _ r))
theorem Km{c:E}{a b:List S}{t:Expr}{x y:List Stmt}{pos:Pos}(hc:tF σ c t)(ha:mj σ a x)(hb:mj σ b y):SS σ (.bD c a b) (.If t x y pos):=λP own K Q ho p k=>
 wpAny_If (hc P _ _ p (λv H1 p1=>p1.m λt p1 N=>by
  cases t
  ·exact hb N.sx.fp own K Q ho p1 (k.nx N.sx)
  ·exact ha N.sx.fp own K Q ho p1 (k.nx N.sx)))
inductive Dl(P:Fp σ)(own:Addr->Prop)(c:E)(b:List S)(K:Out->Prop)(k:Nat)(s:Shared):Prop
 |mk (ρ:aV) (H:Hp) (N:Sx P own ρ H) (e:s=N.s) (p:vy (λρ H Q=>n7 (aM σ.m) c ρ H Q) (λρ H K=>aY (aM σ.m) b ρ H K) k ρ H K):Dl P own c b K k s
theorem Ko{c:E}{b:List S}{t:Expr}{y:List Stmt}{pos:Pos}(hc:tF σ c t)(hb:mj σ b y):SS σ (.while c b) (.While t y [] pos):=λP own K Q ho p k=>by
 refine wpAny_While (codeAny_whileLoop (Dl P own c b K) (λj s' w=>w.casesOn λρ H N e p'=>?_) _ ⟨P.ρ,P.H,(P.toPt.gm P.s.toks).sx,rfl,p⟩)
 subst e
 cases j with
 |zero=>exact p'.elim
 |succ j=>
  refine yT (hc N.fp _ _ p' (λv H1 p1=>p1.m λb' p1 N1=>?_))
  cases b' with
  |false=>exact wpAny_execs_nil (k.next _ _ p1 (N.then N1.sx))
  |true=>exact yT (hb (N.then N1.sx).fp own _ _ ho p1 ⟨λcb H' p2 N2=>⟨j,lt_succ_self _,cb,H',(N.then N1.sx).then N2,rfl,p2⟩,λv H' p2 φ h tk R S x r=>k.ret v H' p2 φ h tk R ((N.then N1.sx).S.trans S) x r⟩)
theorem gQ:mj σ [] []:=λP own K Q ho p k=>wpAny_execs_nil (k.next _ _ p (P.toPt.gm P.s.toks).sx)
theorem Kq{c:S}{cs:List S}{st:Stmt}{ss:List Stmt}(h1:SS σ c st)(h2:mj σ cs ss):mj σ (c::cs) (st::ss):=λP own K Q ho p k=>
 wpAny_execs_cons (h1 P own _ _ ho p ⟨λcb H' p1 N=>h2 N.fp own K Q ho p1 (k.nx N),λv H' p1 φ h tk R S x r=>k.ret v H' p1 φ h tk R S x r⟩)
theorem Kr{A:Around}{E:Value->Shared->Prop}{s:Shared}{l:Addr}{xs:List Value}{n:Nat}{k:Int}{t:Tok}{v:Value}{Q:Unit->Shared->Prop}(ho:s.heap.get? l=some (gA xs n))(h0:0<=k)(Dm:k<2^63)(hn:k<xs.length)
  (hQ:Q () {s with heap:=s.heap.update l (Obj.mapSeq (·.setIfInBounds k.toNat v))}):wpAny (model X.prog X.w) A (setItem (.ref l) (.int k t) v) Q E s:=by
 have hl:s.heap.IsList l xs.toArray:=iz ho
 unfold setItem
 refine wpAny_holding (wpAny_bind (wpAny_sequenceKey hl.typeIs (by decide) (wpAny_bind (wpAny_callSpecial?_slot (name:=Str.ofString "__setitem__") hl.typeIs PySem.slot_list_setitem
  (wpAny_call_entry PySem.slot_list_setitem hl.typeIs PySem.entry_list_setitem ?_ (PySem.args_list_setitem _ _ _))))))
 refine(?_:wpAny _ _ (Builtin.List.listSubscript? (.int k t) >>= _) _ _ s)
 refine wpAny_bind (wpAny_listSubscript_int (fitsIndex_of h0 Dm) ?_)
 clear Dm
 obtain⟨j,rfl⟩:=Int.eq_ofNat_of_zero_le h0
 have hj:j<xs.toArray.size:=by rw[size_toArray];lia
 refine(?_:wpAny _ _ ((seqItemAt l j >>= λr=>pure (r.map (j,·))) >>= _) _ _ s)
 refine wpAny_bind (wpAny_bind (wpAny_seqItemAt ho rfl (wpAny_pure ?_)))
 rw[Array.getElem?_eq_getElem hj]
 refine(?_:wpAny _ _ (setSeqItemAt l j v >>= _) _ _ s)
 refine wpAny_bind (wpAny_setSeqItemAt ho rfl ?_)
 first
  |exact wpAny_bind (wpAny_pure (wpAny_pure ⟨.none,rfl,wpAny_pure hQ⟩))
  |exact wpAny_pure ⟨.none,rfl,wpAny_pure hQ⟩
theorem Do{K:Type}[DecidableEq K](es:List (K×V))(k:K)(v:V):(dput es k v).length<=es.length+1:=by
 unfold dput
 split
 ·rw[length_map];lia
 ·rw[length_append];exact le_refl _
theorem Kt{es:List (Int×V)}{kvs:List (Int×Value)}{p:Ws}{v:V}{x:Value}(h:L2 (kM p) es kvs)(r:bf p v x)(k:Int):L2 (kM p) (dput es k v) (stored kvs k x):=by
 unfold dput stored
 rw[h.any (f:=λq=>decide (q.1=k)) (g:=λq=>decide (q.1=k)) λa b m=>by rw[m.1]]
 split
 ·exact h.map λa b m=>by
   by_cases e:a.1=k
   ·rw[if_pos e,if_pos (m.1▸e)];exact⟨m.1,r⟩
   ·rw[if_neg e,if_neg (m.1▸e)];exact m
 ·exact h.snoc ⟨rfl,r⟩
theorem Ku{es:List ((Int×Bool)×V)}{kvs:List (List Int×Addr×Value)}{p:Ws}{v:V}{x:Value}{a:Addr}{k:Int×Bool}(h:L2 (lE p) es kvs)(r:bf p v x)(rk:bf p (fN k) (.ref a)):L2 (lE p) (dput es k v) (storedH kvs (pK k) a x):=by
 unfold dput storedH
 have e:es.any (λq=>decide (q.1=k))=(atKey kvs (pK k)).isSome:=by
  rw[show es.any (λq=>decide (q.1=k))=lC es k from rfl,y0]
  rcases yZ h k with⟨w1,w2⟩|⟨_,_,_,w1,w2,_⟩<;>rw[w1,w2]<;>rfl
 rw[e]
 split
 ·exact h.map λa b m=>by
   unfold putAt
   by_cases e:a.1=k
   ·rw[if_pos e,if_pos (by rw[m.1,<-e];rfl)];exact⟨m.1,m.2.1,r⟩
   ·rw[if_neg e,if_neg λe'=>e (CW (m.1.symm.trans e'))];exact m
 ·exact h.snoc ⟨rfl,rk,r⟩
theorem Kv{P:Pt}{l:Nat}{xs:List V}{i v:V}{z kz y:Value}{k:Hp->Prop}{Q:Unit->Shared->Prop}(r2:bf P.w (.ref l) z)(r3:bf P.w i kz)(rv:bf P.w v y)(hl:P.H[l]?=some (.list xs))(p:c3 i λj=>(0<=j/\j<xs.length)/\k (P.H.set l (.list (xs.set j.toNat v))))(fin:∀H,k H->∀N:Nx P H,Q () N.s):wpAny X.M P.A (setItem z kz y) Q NE P.s:=
 c3.k p (λi=>bf P.w i kz->_) (λj p r3=>r3.inv (λkz=>wpAny X.M P.A (setItem z kz y) Q NE P.s) λt=>P.list r2 hl (λz=>wpAny X.M P.A (setItem z _ y) Q NE P.s) λad ys m j8 q1 q2 q3=>
  Kr q1 p.1.1 (by lia) (by rw[<-q2.length];exact p.1.2) (
   have he:=(SameBut.update P.s.heap ad (Obj.mapSeq (·.setIfInBounds j.toNat y))).extBut
   fin _ p.2 (P.set j8 he (.list (n:=m) (by rw[get?_update_self _ q1 rfl];simp[Obj.mapSeq]) ((q2.set rv j.toNat).kp (P.ro j8 he)) (by rw[length_set];exact q3)) P.s.toks))) r3
theorem Kw{P:Pt}{l ep:Nat}{es:List (Int×V)}{i v:V}{z kz y:Value}{k:Hp->Prop}{Q:Unit->Shared->Prop}(G:Good X)(r2:bf P.w (.ref l) z)(r3:bf P.w i kz)(rv:bf P.w v y)(hl:P.H[l]?=some (.dict ep es))(p:c3 i λj=>ez (lA es) (∀ep,k (P.H.set l (.dict ep (dput es j v)))))(fin:∀H,k H->∀N:Nx P H,Q () N.s):wpAny X.M P.A (setItem z kz y) Q NE P.s:=
 c3.k p (λi=>bf P.w i kz->_) (λj p r3=>ez.k p λhz p=>r3.inv (λkz=>wpAny X.M P.A (setItem z kz y) Q NE P.s) λt=>P.cell r2 hl (λz=>wpAny X.M P.A (setItem z _ y) Q NE P.s) λad j8 hc=>hc.inv _ λo' en kvs x0 x1 x2 x3 x4 x5 q z m=>by
  have hz:es.length<16000000:=of_decide_eq_true hz
  refine wpAny_setItem_pairs (knd:=d7) (k:=j) (beq_self_eq_true j) ⟨o',en,ep,x0,x1,x2,x3,x4,x5⟩ (λh4 rE tN=>?_) (by rw[<-q.length];unfold sizeLine;lia)
  exact rE.elim λo4 w=>w.elim λKx w=>w.elim λzb w=>fin _ (p zb) (P.set j8 tN.extBut (.dict w.1 w.2.1 w.2.2.1 w.2.2.2.1 w.2.2.2.2.1 w.2.2.2.2.2 ((Kt q rv j).imp (kM.kp (P.ro j8 tN.extBut))) z (le_trans (Do es j v) hz)) _)) r3
theorem Ky{P:Pt}{l ep:Nat}{es:List ((Int×Bool)×V)}{i v:V}{z kz y:Value}{k:Hp->Prop}{Q:Unit->Shared->Prop}(G:Good X)(r2:bf P.w (.ref l) z)(r3:bf P.w i kz)(rv:bf P.w v y)(hl:P.H[l]?=some (.cD ep es))(p:be (pairOf i) λj=>ez (lA es) (∀ep,k (P.H.set l (.cD ep (dput es j v)))))(fin:∀H,k H->∀N:Nx P H,Q () N.s):wpAny X.M P.A (setItem z kz y) Q NE P.s:=
 be.k p λj ej p=>pairOf.k ej (λi=>bf P.w i kz->_) (λr3=>ez.k p λhz p=>r3.inv (λkz=>bf P.w (fN j) kz->wpAny X.M P.A (setItem z kz y) Q NE P.s) (λka ζ ζ ζ ζ ζ ζ r3=>lx r2 G (show(P.H[l]?).bind i7=some es by rw[hl];rfl) (λz=>wpAny X.M P.A (setItem z _ y) Q NE P.s) λl' nc ad kvs el ζ j8 hD q z kO=>by
  have hz:es.length<16000000:=of_decide_eq_true hz
  cases el
  refine wpAny_setItem_heap (knd:=gj) (k:=pK j) (by refine(?_:P.A.units+1<cLine);have:=P.rm.units;lia) (rj r3) hD (λh4 rE tN=>?_) (by rw[<-q.length];unfold sizeLine;lia)
  exact rE.elim λo4 w=>w.elim λKx w=>w.elim λzb w=>fin _ (p zb) (P.set j8 tN.extBut (.cD w.1 w.2.1 w.2.2.1 w.2.2.2.1 w.2.2.2.2.2 ((Ku q rv r3).imp (lE.kp (P.ro j8 tN.extBut))) z (le_trans (Do es j v) hz)) _)) r3) r3
theorem Kz{a i e:E}{o j x:Expr}{sp pos:Pos}(G:Good X)(hn:pz x=true)(ha:b0 σ a o)(hi:b0 σ i j)(he:b0 σ e x):SS σ (.g8 a i e) (.Assign [.Subscript o j sp] x pos):=λP own K Q ho p k=>by
 refine wpAny_Assign_Subscript (he P _ _ p (λv H1 p1 N y r=>rB ha hi (P.to N) p1 (λu w H2 p2 N2 z kz r2 r3=>?_))) (za hn _)
 have fin:∀H3,K (.next P.ρ H3)->∀N3:Nx N2.pt H3,Q .next N3.s:=λH3 p3 N3=>k.next _ _ p3 (N.then (N2.then N3)).sx
 cases u with
 |ref l=>
  refine be.k p2 λc hl p2=>?_
  cases c with
  |list xs=>exact Kv (P:=N2.pt) r2 r3 (r.mono N2.S) hl p2 fin
  |dict ep es=>exact Kw (P:=N2.pt) G r2 r3 (r.mono N2.S) hl p2 fin
  |cD ep es=>exact Ky (P:=N2.pt) G r2 r3 (r.mono N2.S) hl p2 fin
  |_=>exact p2.elim
 |_=>exact p2.elim
end
noncomputable def vS:List String:=["enumerate","zip","dict_itemiterator","dict_reverseitemiterator","odict_iterator","itertools.zip_longest","itertools.pairwise"]
structure j9(tg:Expr)(dm:Ws)(H₀:Hp)(ws:List Nat)(vs:List V)(I:Addr)(io:Addr->Prop)(St:Nat->Heap->Prop):Prop where
 keep:∀i h h',St i h->(∀a,io a->∀o,h.get? a=some o->h'.get? a=some o)->St i h'
 live:∀i h,St i h->∀a,io a->∃o,h.get? a=some o
 item:∀(P:Pt) (i:Nat) (v:V) (Q:Value->Shared->Prop),Kp dm P.w->d6 ws H₀ P.H=true->St i P.s.heap->(∀a,io a->Ap P.w a)->vs[i]?=some v ->
  (∀h' tk y,SR ⟨P.φ,h'⟩ P.H->bJ io P.w ⟨P.φ,h'⟩->St (i+1) h'->bf ⟨P.φ,h'⟩ v y->Q y (upd P.s h' tk)) ->
  wpAny X.M P.A (pyNext (.ref I)) (λr bF=>be r λy=>wpAny X.M P.A (letOwnedTupleGo tg (.ref I) y) (λζ eW=>Q y eW) NE bF) NE P.s
 done:∀(P:Pt) (i:Nat) (Q:Option Value->Shared->Prop) ,Kp dm P.w->d6 ws H₀ P.H=true->St i P.s.heap->(∀a,io a->Ap P.w a)->vs[i]?=none ->
  (∀h' tk,Ch io P.s.heap h'->Q none (upd P.s h' tk))->wpAny X.M P.A (pyNext (.ref I)) Q NE P.s
 self:∀(A:Around) (s:Shared) (Q:Value->Shared->Prop),St 0 s.heap->Q (.ref I) s->wpAny X.M A (pyIter (.ref I)) Q NE s
theorem j9.from{tg:Expr}{dm Dp:Ws}{H₀:Hp}{ws:List Nat}{vs:List V}{I:Addr}{io:Addr->Prop}{St:Nat->Heap->Prop}(h:j9 tg dm H₀ ws vs I io St)(K:Kp dm Dp):j9 tg Dp H₀ ws vs I io St:=
 ⟨h.keep,h.live,λP i v Q kp=>h.item P i v Q (K.trans kp),λP i Q kp=>h.done P i Q (K.trans kp),h.self⟩
section
variable{tg:Expr}{dm:Ws}{H₀:Hp}{ws:List Nat}{vs:List V}{I a:Addr}
theorem KA{A:Around}{s:Shared}{y:Value}{o:Obj}{nm:String}{Q:Unit->Shared->Prop}(ho:s.heap.get? I=some o)(hc:o.cls=.type nm)(hn:vS.contains nm=false)(hQ:Q () s):wpAny X.M A (letOwnedTupleGo tg (.ref I) y) Q NE s:=by
 have key:∀a,wpAny X.M A (do
  let o <-load I
  match o.cls,o.data with
  |.type n,.fields vs=>
   if vS.contains n&&vs[0]?==some (rawInt a) then
    rule "for.unpacks-the-owned-tuple"
    updateField I 0 .none
  |_,_=>pure ()) Q NE s:=by
  intro a
  refine wpAny_bind (wpAny_load ho ?_)
  rw[hc]
  cases o.data with
  |fields vs=>
   refine(?_:wpAny X.M A (if(vS.contains nm&&vs[0]?==some (rawInt a))=true then _ else _) Q NE s)
   rw[hn,Bool.false_and,if_neg Bool.false_ne_true]
   exact wpAny_pure hQ
  |_=>exact wpAny_pure hQ
 unfold letOwnedTupleGo
 cases tg<;>first|exact wpAny_pure hQ|(cases y<;>first|exact wpAny_pure hQ|exact key _)
theorem vT{nm:String}{St:Nat->Heap->Prop}(KB:(vS.contains nm||(Value.type nm==.type "tuple")||(Value.type nm==.type "code"))=false)(jG:∀i h,St i h->∃o,h.get? I=some o/\o.cls=.type nm)(keep:∀i h h',St i h->(∀o,h.get? I=some o->h'.get? I=some o)->St i h')
  (next:∀(P:Pt) (i:Nat) (v:V) (Q:Option Value->Shared->Prop) ,Kp dm P.w->d6 ws H₀ P.H=true->St i P.s.heap->vs[i]?=some v->(∀h' tk y,St (i+1) h'->ExtBut I P.s.heap h'->bf P.w v y->Q (some y) (upd P.s h' tk))->wpAny X.M P.A (pyNext (.ref I)) Q NE P.s)
  (stop:∀(P:Pt) (i:Nat) (Q:Option Value->Shared->Prop) ,Kp dm P.w->d6 ws H₀ P.H=true->St i P.s.heap->vs[i]?=none->(∀h',ExtBut I P.s.heap h'->Q none {P.s with heap:=h'})->wpAny X.M P.A (pyNext (.ref I)) Q NE P.s)
  (self:∀(A:Around) (s:Shared) (Q:Value->Shared->Prop),St 0 s.heap->Q (.ref I) s->wpAny X.M A (pyIter (.ref I)) Q NE s):j9 tg dm H₀ ws vs I (·=I) St:=
 have h1:=Bool.or_eq_false_iff.mp KB
 have h2:=Bool.or_eq_false_iff.mp h1.1
 have Dq:∀{i h},St i h->∀o,h.get? I=some o->fz o=false:=λst o e=>(jG _ _ st).elim λo' q=>by rw[e] at q;cases q.1;exact m8 q.2 h2.2 h1.2
 {keep:=λi h h' st hk=>keep i h h' st (hk I rfl)
  live:=λi h st a ha=>(jG i h st).imp λo q=>ha▸q.1
  item:=λP i v Q kp hw st c4 hv k=>next P i v _ kp hw st hv λh' tk y cx he r=>
   have c:Ch (·=I) P.s.heap h':=.but he (Dq st)
   (jG _ _ cx).elim λo q=>KA (s:=(upd P.s h' tk)) q.1 q.2 h2.1 (k h' tk y (P.R.ch (p:=P.w) c4 c) (bJ.ch (io:=(·=I)) (q:=P.w) .refl c λb hb=>.inr ⟨hb,o,hb▸q.1⟩) cx (r.kp c.kp))
  done:=λP i Q kp hw st c4 hv k=>stop P i Q kp hw st hv λh' he=>k h' P.s.toks (.but he (Dq st))
  self:=self}
noncomputable def vU(dm:Ws)(H₀:Hp)(ws:List Nat)(vs:List V)(a:Addr):Prop:=
 ∀(P:Pt),Kp dm P.w->d6 ws H₀ P.H=true->∃xs,P.s.heap.IsList a xs.toArray/\bu P.w vs xs
theorem zc{H:Hp}{l:Nat}(h:d6 ws H₀ H=true)(hl:l∈ws):H[l]?=H₀[l]?:=of_decide_eq_true (all_eq_true.mp h l hl)
theorem Dr(ws:List Nat)(H:Hp):d6 ws H H=true:=all_eq_true.mpr λζ ζ=>decide_eq_true rfl
theorem Ds{l:Nat}(hl:dm.φ[l]?=some a)(e:H₀[l]?=some (.list vs))(hw:l∈ws):vU dm H₀ ws vs a:=λP kp hs=>
 P.R.at ((zc hs hw).trans e) λb hb hc=>hc.inv _ λxs m h1 h2 ζ=>by
  rw[kp.pre l a hl] at hb;cases hb
  exact⟨xs,iz h1,h2⟩
theorem KC(G:Good X):vU dm H₀ ws (X.is.map .int) X.i6:=λP ζ ζ=>Gl.i6 G P λxs h1 h2 ζ=>⟨xs,h1,h2⟩
theorem vV(xs:List Value)(i:Nat):xs.toArray[i]?=xs[i]?:=getElem?_toArray ..
theorem none_of{p:Ws}{xs:List Value}{i:Nat}(r:bu p vs xs)(h:vs[i]?=none):xs.toArray[i]?=none:=by
 rw[vV];exact getElem?_eq_none (r.length▸List.getElem?_eq_none_iff.mp h)
theorem Dt(oq:vU dm H₀ ws vs a):j9 tg dm H₀ ws vs I (·=I) (λi h=>h.IsListIter I a i):=
 vT (nm:="list_iterator") rfl (λi h st=>st.imp λo q=>⟨q.1,q.2.1⟩) (λi h h' st hk=>st.imp λo q=>⟨hk o q.1,q.2⟩)
  (λP i v Q kp hw st hv k=>(oq P kp hw).elim λxs h=>h.2.get hv λy hy r=>wpAny_pyNext_list_item st h.1 (by rw[vV];exact hy) λh' dI hs=>k h' P.s.toks y dI hs.extBut r)
  (λP i Q kp hw st hv k=>(oq P kp hw).elim λxs h=>wpAny_pyNext_list_end P.rm.handled st h.1 (none_of h.2 hv) k) λA s Q st h=>wpAny_pyIter_listiter st h
theorem KD{xs:List Value}{m:Nat}(e0:dm.h.get? a=some (gO xs m))(Du:a∉dm.φ)(r0:bu dm vs xs):j9 tg dm H₀ ws vs I (·=I) (λi h=>h.IsTupleIter I a i):=
 vT (nm:="tuple_iterator") rfl (λi h st=>st.imp λo q=>⟨q.1,q.2.1⟩) (λi h h' st hk=>st.imp λo q=>⟨hk o q.1,q.2⟩)
  (λP i v Q kp hw st hv k=>(r0.kp kp).get hv λy hy r=>wpAny_pyNext_tuple_item st ⟨_,(kp.q8 _ _ rfl e0 Du).1,rfl,m,rfl⟩ (by rw[vV];exact hy) λh' dI hs=>k h' P.s.toks y dI hs.extBut r)
  (λP i Q kp hw st hv k=>wpAny_pyNext_tuple_end P.rm.handled st ⟨_,(kp.q8 _ _ rfl e0 Du).1,rfl,m,rfl⟩ (none_of (r0.kp kp) hv) k) λA s Q st h=>wpAny_pyIter_tupleiter st h
theorem Dv{i:Nat}{x y:Int}:(g9 x y)[i]?=if i<(y - x).toNat then some (.int (x+i)) else none:=by
 unfold g9
 rw[getElem?_map]
 by_cases h:i<(y - x).toNat
 ·rw[if_pos h,getElem?_range h];rfl
 ·rw[if_neg h,getElem?_eq_none (by rw[length_range];exact not_lt.mp h)];rfl
theorem KE{x y:Int}:j9 tg dm H₀ ws (g9 x y) I (·=I) (λi h=>IsRangeIter h I (x+i) (((y - x).toNat:Int) - i) 1):=
 vT (nm:="range_iterator") rfl (λi h st=>⟨_,st,rfl⟩) (λi h h' st hk=>hk _ st)
  (λP i v Q kp hw st hv k=>pE (Dv▸hv) (λv=>(∀h' tk y',IsRangeIter h' I (x+((i+1:Nat):Int)) (((y - x).toNat:Int) - ((i+1:Nat):Int)) 1->ExtBut I P.s.heap h'->bf P.w v y'->Q (some y') (upd P.s h' tk))->_) (λhi k=>wpAny_pyNext_range_item st (Int.sub_pos_of_lt (ofNat_lt.mpr hi)) λh' dI hs=>k h' _ _ (by
   have e1:x+((i+1:Nat):Int)=x+i+1:=(Int.add_assoc x (i:Int) 1).symm
   have e2:(((y - x).toNat:Int) - ((i+1:Nat):Int))=((y - x).toNat:Int) - i - 1:=(Int.sub_sub _ (i:Int) 1).symm
   rw[e1,e2];exact dI) hs.extBut (.int _ _)) k)
  (λP i Q kp hw st hv k=>wpAny_pyNext_range_end P.rm.handled st (by
   rw[Dv] at hv
   by_cases h:i<(y - x).toNat
   ·rw[if_pos h] at hv;cases hv
   ·exact Int.sub_nonpos_of_le (ofNat_le.mpr (not_lt.mp h))) k) λA s Q st h=>wpAny_pyIter_rangeiter st h
end
section
variable{A:Around}{E:Value->Shared->Prop}{s:Shared}{it d:Addr}{i ep:Nat}{od:Obj}{es:Array DictEntry}
theorem Dw{Q:Value->Shared->Prop}(hd:(d==sysModules)=false)(rF:s.heap.get? d=some od)(ru:od.cls=.type "dict")(tO:od.data=.dict es ep)
  (hQ:Q (.ref s.heap.objs.size) {s with heap:=s.heap.push {cls:=.type "dict_keyiterator",data:=.fields #[.ref d,.int 0 0,.int es.size 0,.int ep 0]}}):wpAny X.M A (pyIter (.ref d)) Q E s:=by
 have hT:s.TypeIs (.ref d) "dict":=⟨od,rF,ru⟩
 refine wpAny_pyIter_slot hT F.slot_dict_iter (wpAny_call_entry F.slot_dict_iter hT F.entry_dict_iter ?_ (F.args_dict_iter_1 _))
 unfold Builtin.«dict.__iter__»
 refine wpAny_bind (wpAny_bind (wpAny_notOrdered_dict hT (wpAny_pure ?_)))
 refine(?_:wpAny _ _ (Builtin.Dict.showsAll d >>= _) _ _ s)
 unfold Builtin.Dict.showsAll
 rw[if_neg (by rw[hd];exact Bool.false_ne_true)]
 exact wpAny_bind (wpAny_pure (wpAny_bind (wpAny_dictEntries rF tO (wpAny_bind (wpAny_dictEpoch rF tO (wpAny_bind (wpAny_newObj_type (wpAny_pure ⟨_,rfl,"dict_keyiterator",_,⟨_,get?_push_size _ rfl,rfl⟩,F.slot_dict_keyiterator_next.lookup,hQ⟩))))))))
theorem Dx{Q:Option Value->Shared->Prop}(hh:A.handled=none)(dI:s.heap.IsKeyIter it d i es.size ep)(rF:s.heap.get? d=some od)(tO:od.data=.dict es ep)
  (hQ:∀(bX:i<es.size) h',h'.IsKeyIter it d (i+1) es.size ep->SameBut it s.heap h'->Q (some es[i].key) {s with heap:=h'}) (hE:es.size<=i->∀h',ExtBut it s.heap h'->Q none {s with heap:=h'}):wpAny X.M A (pyNext (.ref it)) Q E s:=by
 obtain⟨o,ho,hc,hd⟩:=id dI
 unfold pyNext
 refine wpAny_bind (wpAny_attempt (wpAny_callSpecial?_slot (name:=Str.ofString "__next__") dI.typeIs F.slot_dict_keyiterator_next
  (wpAny_call_entry F.slot_dict_keyiterator_next dI.typeIs F.entry_dict_keyiterator_next ?_ (F.args_dict_keyiterator_next_1 _))))
 refine wpAny_bind (wpAny_pure ?_)
 refine wpAny_bind ?_
 refine wpAny_bind ?_
 first|refine wpAny_bind (wpAny_typeNameOfWhole_keyiter dI.typeIs (wpAny_pure ?_))|refine wpAny_bind (wpAny_typeNameOf_keyiter dI.typeIs (wpAny_pure ?_))
 refine wpAny_bind (wpAny_fieldsOf ho hd ?_)
 refine(?_:wpAny _ _ (if(Value.ref d==Value.none)=true then _ else _) _ _ s)
 rw[if_neg (show ¬((Value.ref d==Value.none)=true) from Bool.false_ne_true)]
 refine wpAny_bind (wpAny_pure ?_)
 refine wpAny_bind (wpAny_dictEntries rF tO ?_)
 rw[if_neg (by rw[bne_self_eq_false];exact Bool.false_ne_true)]
 refine wpAny_bind (wpAny_pure ?_)
 refine wpAny_bind (wpAny_dictEpoch rF tO ?_)
 rw[if_neg (by rw[bne_self_eq_false];exact Bool.false_ne_true)]
 refine wpAny_pure ?_
 dsimp only
 rcases lt_or_ge i es.size with bX|iA
 ·rw[if_neg (show ¬((i:Int)<0) from Int.not_lt.mpr (natCast_nonneg i)),toNat_natCast,Array.getElem?_eq_getElem bX]
  refine wpAny_bind ?_
  first|refine wpAny_bind (wpAny_typeNameOfWhole_keyiter dI.typeIs (wpAny_pure ?_))|refine wpAny_bind (wpAny_typeNameOf_keyiter dI.typeIs (wpAny_pure ?_))
  refine wpAny_bind (wpAny_isOneOf_keyiter dI.typeIs ?_)
  refine(?_:wpAny _ _ (setField (.ref it) 1 (rawInt ((i:Int)+1)) >>= _) _ _ s)
  refine wpAny_bind (wpAny_setField ho hd (Nat.lt_of_sub_pos (by exact Nat.zero_lt_succ _)) ?_)
  have jH:(s.heap.update it (Obj.mapFields (·.setIfInBounds 1 (rawInt ((i:Int)+1))))).IsKeyIter it d (i+1) es.size ep:=
   ⟨_,get?_update_self _ ho (Obj.isFreed_of_fields (Obj.data_mapFields hd _)),(Obj.cls_mapFields ..).trans hc,by rw[Obj.data_mapFields hd];rfl⟩
  refine wpAny_bind (wpAny_holding ?_)
  refine wpAny_bind (wpAny_isOneOf_keyiter (s:={s with heap:=s.heap.update it (Obj.mapFields (·.setIfInBounds 1 (rawInt ((i:Int)+1))))}) jH.typeIs ?_)
  refine(?_:wpAny _ _ (pure es[i].key) _ _ _)
  exact wpAny_pure (wpAny_pure ⟨_,rfl,wpAny_pure (hQ bX _ jH (SameBut.update ..))⟩)
 ·rw[if_neg (show ¬((i:Int)<0) from Int.not_lt.mpr (natCast_nonneg i)),toNat_natCast,Array.getElem?_eq_none iA]
  refine wpAny_bind ?_
  first|refine wpAny_bind (wpAny_typeNameOfWhole_keyiter dI.typeIs (wpAny_pure ?_))|refine wpAny_bind (wpAny_typeNameOf_keyiter dI.typeIs (wpAny_pure ?_))
  refine(?_:wpAny _ _ (setField (.ref it) 0 .none >>= _) _ _ s)
  refine wpAny_bind (wpAny_setField ho hd (Nat.lt_of_sub_pos (by exact Nat.zero_lt_succ _)) ?_)
  refine(?_:wpAny _ _ (newExc (.type "StopIteration") [] >>= _) _ _ _)
  refine wpAny_bind (wpAny_bind (wpAny_newObj_type ?_ (by size_fits)))
  refine wpAny_bind (m:=firstArgMember _ _) (wpAny_of_eq (a:=Value.none) (by first|rfl|(simp only[firstArgMember];rfl)) ?_)
  refine wpAny_newObj_type ?_ (by size_fits)
  refine wpAny_bind (wpAny_handled ?_)
  rw[show A.in1.handled=none from hh]
  refine wpAny_bind (wpAny_pure (wpAny_throw ?_))
  refine wpAny_bind (wpAny_isInstance (T:="StopIteration") (b:=true) ⟨_,get?_push_size _ rfl,rfl⟩ isSubtype_stop ?_)
  exact wpAny_pure (hE iA _ (((SameBut.update ..).extBut.push _).push _))
end
section
variable{tg:Expr}{dm:Ws}{H₀:Hp}{ws:List Nat}{vs:List V}{I a:Addr}
noncomputable def zd(dm:Ws)(H₀:Hp)(ws:List Nat)(vs:List V)(a:Addr)(m ep:Nat):Prop:=
 ∀(P:Pt),Kp dm P.w->d6 ws H₀ P.H=true->∃o en,P.s.heap.get? a=some o/\o.data=.dict en ep/\en.size=m/\vs.length=m/\∀i v,vs[i]?=some v->∃h:i<en.size,bf P.w v en[i].key
theorem Dy{m ep:Nat}(oq:zd dm H₀ ws vs a m ep):j9 tg dm H₀ ws vs I (·=I) (λi h=>h.IsKeyIter I a i m ep):=
 vT (nm:="dict_keyiterator") rfl (λi h st=>st.imp λo q=>⟨q.1,q.2.1⟩) (λi h h' st hk=>st.imp λo q=>⟨hk o q.1,q.2⟩)
  (λP i v Q kp hw st hv k=>(oq P kp hw).elim λo h=>h.elim λen h=>(h.2.2.2.2 i v hv).elim λhl r=>Dx P.rm.handled (h.2.2.1▸st) h.1 h.2.1 (λζ h' dI hs=>k h' P.s.toks _ (h.2.2.1▸dI) hs.extBut r) λhg=>absurd hl (not_lt.mpr hg))
  (λP i Q kp hw st hv k=>(oq P kp hw).elim λo h=>h.elim λen h=>Dx P.rm.handled (h.2.2.1▸st) h.1 h.2.1 (λhl=>absurd hl (not_lt.mpr (by rw[h.2.2.1,<-h.2.2.2.1];exact List.getElem?_eq_none_iff.mp hv))) λζ=>k) λA s Q st h=>wpAny_pyIter_keyiter st h
end
noncomputable def lH(P:Pt)(tg:Expr)(post:List V×List Nat->Hp->Prop)(Q:Value->Shared->Prop):Prop:=
 ∀p H,post p H->∀(N:Nx P H) I io St,j9 tg N.w H p.2 p.1 I io St->St 0 N.h->(∀a,io a->Ap N.w a/\P.s.heap.get? a=none)->Q (.ref I) N.s
noncomputable def jr(σ:Lv)(it:It)(e:Expr):Prop:=
 (∀env x,foldedSetIterable e env x=pure x)/\∀(P:Fp σ) (tg:Expr) (post:List V×List Nat->Hp->Prop) (Q:Value->Shared->Prop),qU it tg=true->me (aM σ.m) it P.ρ P.H post->lH P.toPt tg post Q->wpAny X.M P.A (eval e P.env) (λx bF=>wpAny X.M P.A (pyIter x) Q NE bF) NE P.s
section
variable{σ:Lv}{tg:Expr}{Q:Value->Shared->Prop}{post:List V×List Nat->Hp->Prop}{P:Pt}{H:Hp}
theorem lH.nx(k:lH P tg post Q)(N:Nx P H):lH N.pt tg post Q:=λp H' q N' I io St it st c4=>k p H' q (N.then N') I io St it st λa ha=>have h:=c4 a ha;⟨h.1,N.S.dead h.2⟩
theorem vW{x:Int}(h:x.natAbs<2^60):-2^62<=x/\x<2^62:=by lia
theorem rG(k:lH P tg post Q){vs:List V}{ws:List Nat}(o:Obj){St:Nat->Heap->Prop}(p:post (vs,ws) P.H)(it:j9 tg (P.ext (.push o) P.s.toks).w P.H ws vs P.s.heap.objs.size (·=P.s.heap.objs.size) St)(st:St 0 (P.s.heap.push o)):Q (.ref P.s.heap.objs.size) {P.s with heap:=P.s.heap.push o}:=
 k _ _ p (P.ext (.push o) P.s.toks) _ _ _ it st λa ha=>by
  subst ha
  have hn:=fF P.s.heap (le_refl _)
  exact⟨P.R.new (p:=P.w) hn,hn⟩
theorem KF{dm:Ws}{H₀:Hp}{ws:List Nat}{l ep:Nat}{es:List (Int×V)}{a:Addr}(hl:dm.φ[l]?=some a)(e:H₀[l]?=some (.dict ep es))(hw:l∈ws):zd dm H₀ ws (es.map λp=>.int p.1) a es.length ep:=λP kp hs=>
 P.R.at ((zc hs hw).trans e) λb hb hc=>hc.inv _ λo en kvs x0 x1 x2 x3 x4 x5 q z m=>by
  rw[kp.pre l a hl] at hb;cases hb
  have hz:en.size=es.length:=by rw[q.length,<-x4.length,length_toList]
  refine⟨o,en,x0,x2,hz,length_map _,λi v hv=>?_⟩
  rw[getElem?_map] at hv
  refine fj (λv=>∃h:i<en.size,bf P.w v en[i].key) hv λe' he=>?_
  have hi:=(List.getElem?_eq_some_iff.mp he).1
  have fx:i<en.size:=hz▸hi
  have hk:i<kvs.length:=q.length▸hi
  refine⟨fx,?_⟩
  have h1:=(x4.get? (e:=en[i]) (k:=(kvs[i]).1) (v:=(kvs[i]).2) (by rw[getElem?_toList,Array.getElem?_eq_getElem fx]) (getElem?_eq_getElem hk)).1
  have h2:e'.1=(kvs[i]).1:=(q.get he (getElem?_eq_getElem hk)).1
  obtain⟨t,ht⟩:=Value.isInt_shape h1
  rw[ht,<-h2];exact .int _ _
theorem KG{dm:Ws}{H₀:Hp}{ws:List Nat}{l ep:Nat}{es:List ((Int×Bool)×V)}{a:Addr}(hl:dm.φ[l]?=some a)(e:H₀[l]?=some (.cD ep es))(hw:l∈ws):zd dm H₀ ws (es.map λp=>fN p.1) a es.length ep:=λP kp hs=>
 P.R.at ((zc hs hw).trans e) λb hb hc=>hc.inv _ λo en kvs x0 x1 x2 x3 x4 q z m=>by
  rw[kp.pre l a hl] at hb;cases hb
  have hz:en.size=es.length:=by rw[q.length,<-length_toList,x3,length_map]
  refine⟨o,en,x0,x2,hz,length_map _,λi v hv=>?_⟩
  rw[getElem?_map] at hv
  refine fj (λv=>∃h:i<en.size,bf P.w v en[i].key) hv λe' he=>?_
  have hi:=(List.getElem?_eq_some_iff.mp he).1
  have fx:i<en.size:=hz▸hi
  have hk:i<kvs.length:=q.length▸hi
  refine⟨fx,?_⟩
  have h1:=entry_at (knd:=gj) x3 i
  rw[Array.getElem?_eq_getElem fx,getElem?_eq_getElem hk] at h1
  rw[Option.some.inj h1]
  exact(q.get he (getElem?_eq_getElem hk)).2.1
theorem KH{v:V}{x:Value}{us:List V}(G:Good X)(r:bf P.w v x)(e:keysOf P.H v=some us)(k:lH P tg post Q)(p:post (us,watch v) P.H):wpAny X.M P.A (pyIter x) Q NE P.s:=by
 unfold keysOf at e
 cases ed:jF P.H v with
 |some es=>
  rw[ed] at e;cases e
  exact rp r G ed (λx=>wpAny X.M P.A (pyIter x) Q NE P.s) λl ep a kvs ev hl ha ζ ζ hs ζ=>by
   subst ev
   refine P.R.at hl λb hb hc=>hc.inv _ λo en kvs x0 x1 x2 x3 x4 x5 q z m=>?_
   rw[ha] at hb;cases hb
   have hz:en.size=es.length:=by rw[q.length,<-x4.length,length_toList]
   exact Dw hs x0 x1.1 x2 (rG k _ p (Dy (KF (l:=l) (ep:=ep) ha hl (.head _))) ⟨_,get?_push_size _ rfl,rfl,by rw[hz];rfl⟩)
 |none=>
  rw[ed] at e
  cases eP:nZ P.H v with
  |some es=>
   rw[eP] at e;cases e
   exact lx r G eP (λx=>wpAny X.M P.A (pyIter x) Q NE P.s) λl ep a kvs ev hl ha ζ ζ hs ζ=>by
    subst ev
    refine P.R.at hl λb hb hc=>hc.inv _ λo en kvs x0 x1 x2 x3 x4 q z m=>?_
    rw[ha] at hb;cases hb
    have hz:en.size=es.length:=by rw[q.length,<-length_toList,x3,length_map]
    exact Dw hs x0 x1.1 x2 (rG k _ p (Dy (KG (l:=l) (ep:=ep) ha hl (.head _))) ⟨_,get?_push_size _ rfl,rfl,by rw[hz];rfl⟩)
  |none=>
   rw[eP] at e
   cases v with
   |aP Dz=>cases e;exact r.inv (λx=>wpAny X.M P.A (pyIter x) Q NE P.s) λa m xs h1 h2 ζ h4=>wpAny_pyIter_tuple ⟨_,h1,rfl,m,rfl⟩ (rG k _ p (KD (get?_push_of_some _ h1) h4 (h2.mono (P.ext (.push _) P.s.toks).S)) ⟨_,get?_push_size _ rfl,rfl,rfl⟩)
   |ref l=>
    exact bE r e (λx=>wpAny X.M P.A (pyIter x) Q NE P.s) λl' a xs m ev hl ha h1 h2 ζ=>by
     cases ev
     exact wpAny_pyIter_list (iz h1) (rG k _ p (Dt (Ds (l:=l) ha hl (.head _))) ⟨_,get?_push_size _ rfl,rfl,rfl⟩)
   |g7=>cases e;exact r.inv (λx=>wpAny X.M P.A (pyIter x) Q NE P.s) (Gl.i6 G P λxs h1 h2 ζ=>wpAny_pyIter_list h1 (rG k _ p (Dt (KC G)) ⟨_,get?_push_size _ rfl,rfl,rfl⟩))
   |_=>cases e
theorem KI{c:E}{e:Expr}(h:cm σ.f c e=true)(env:Env)(x:Value):foldedSetIterable e env x=pure x:=by
 cases e<;>first|rfl|skip
 exfalso
 cases c<;>exact Bool.noConfusion h
theorem KJ{c:E}{e:Expr}(G:Good X)(h0:cm σ.f c e=true)(he:b0 σ c e):jr σ (.of c) e:=
 ⟨KI h0,λP tg post Q ζ p k=>he P _ _ p (λv H1 p1 N x r=>be.k p1 λus hi p1=>KH (P:=N.pt) G r hi (k.nx N) p1)⟩
theorem DA{x y:Int}{r:Addr}{t u w:Tok}(k:lH P tg post Q)(hr:IsRange P.s.heap r x y 1 t u w)(hx:x.natAbs<2^60/\y.natAbs<2^60)(p:post (g9 x y,[]) P.H):wpAny X.M P.A (pyIter (.ref r)) Q NE P.s:=by
 refine wpAny_pyIter_range hr (small_one ((vW hx.1).1) ((vW hx.1).2) ((vW hx.2).1) ((vW hx.2).2)) (rG k _ p (KE (x:=x) (y:=y)) ?_)
 have e1:x+((0:Nat):Int)=x:=Int.add_zero x
 have e2:(((y - x).toNat:Int) - ((0:Nat):Int))=Builtin.Range.rangeSize x y 1:=by rw[rangeSize_one];split<;>lia
 refine(?_:IsRangeIter _ _ (x+((0:Nat):Int)) (((y - x).toNat:Int) - ((0:Nat):Int)) 1)
 rw[e1,e2]
 exact get?_push_size _ rfl
theorem pL{P:Fp σ}{g:Expr}{nm:Str}{y:Value}{cs:List E}{es:List Expr}{pos:Pos}{post:List V->Hp->Prop}(G:Good X)(hg:dU σ.f nm g=true)(hm:(nm,y)∈l8)(hy:∃T,y=.type T)(h:eX σ cs es)(p:m7 (aM σ.m) cs P.ρ P.H post)(k:yU P.toPt cs.length post λxs bF=>wpAny X.M P.A (call y xs) Q NE bF):wpAny X.M P.A (eval (.Call g es [] pos) P.env) Q NE P.s:=
 ft.k (G:=λg=>wpAny X.M P.A (eval (.Call g es [] pos) P.env) Q NE P.s) hg λx np hg=>bg hg λe ho=>by
  obtain rfl:=eq_of_beq e
  obtain⟨T,rfl⟩:=hy
  exact wpAny_Call_NameR (oj G P hm ho (PySem.callWith_type (h.plain P.env pos) (pI (h.plain P.env pos) (h.ng P _ _ pos p k))))
theorem KL{b:E}{g e:Expr}{pos:Pos}(G:Good X)(hg:dU σ.f "range" g=true)(h:eX σ [b] [e]):jr σ (.range (.k (.int 0)) b) (.Call g [e] [] pos):=
 ⟨λζ ζ=>rfl,λP tg post Q ζ p k=>pL (post:=λvs H=>w1 vs λy=>c3 y λj=>((0:Int).natAbs<2^60/\j.natAbs<2^60)/\post (g9 0 j,[]) H) G hg (fV 6 (by decide)) ⟨_,rfl⟩ h p (λvs H1 p1 ζ N xs r=>w1.k p1 (λvs=>bu N.w vs xs->_) (λv p1 r=>c3.k p1 (λv=>bu N.w [v] xs->_) (λj p1 r=>
  r.k1 (λxs=>wpAny X.M P.A (call (.type "range") xs) (λx bF=>wpAny X.M P.A (pyIter x) Q NE bF) NE N.s) λx r=>r.inv (λx=>wpAny X.M P.A (call (.type "range") [x]) (λx bF=>wpAny X.M P.A (pyIter x) Q NE bF) NE N.s) λt=>call_range_1 (DA (P:=(N.pt.ext (.push _) _).pt) ((k.nx N).nx (N.pt.ext (.push _) _)) (IsRange.new _ _ _ _ _ _ _) p1.1 p1.2)) r) r)⟩
theorem KM{a b:E}{g e e':Expr}{pos:Pos}(G:Good X)(hg:dU σ.f "range" g=true)(h:eX σ [a,b] [e,e']):jr σ (.range a b) (.Call g [e,e'] [] pos):=
 ⟨λζ ζ=>rfl,λP tg post Q ζ p k=>pL (post:=λvs H=>w2 vs λx y=>q0 x y λl=>post (l,[]) H) G hg (fV 6 (by decide)) ⟨_,rfl⟩ h p (λvs H1 p1 ζ N xs r=>w2.k p1 (λvs=>bu N.w vs xs->_) (λu v p1 r=>c3.k p1 (λu=>bu N.w [u,v] xs->_) (λi p1 r=>c3.k p1 (λv=>bu N.w [.int i,v] xs->_) (λj p1 r=>
  r.k2 (λxs=>wpAny X.M P.A (call (.type "range") xs) (λx bF=>wpAny X.M P.A (pyIter x) Q NE bF) NE N.s) λx y r1 r2=>r1.inv (λx=>wpAny X.M P.A (call (.type "range") [x,y]) (λx bF=>wpAny X.M P.A (pyIter x) Q NE bF) NE N.s) λt=>r2.inv (λy=>wpAny X.M P.A (call (.type "range") [_,y]) (λx bF=>wpAny X.M P.A (pyIter x) Q NE bF) NE N.s) λt'=>call_range_2 (DA (P:=(N.pt.ext (.push _) _).pt) ((k.nx N).nx (N.pt.ext (.push _) _)) (IsRange.new _ _ _ _ _ _ _) p1.1 p1.2)) r) r) r)⟩
end
theorem Ch.DB{h h':Heap}{a b:Addr}(k:∀c o,c≠a->c≠b->h.get? c=some o->h'.get? c=some o)(fa:∀o,h.get? a=some o->fz o=false)(fb:∀o,h.get? b=some o->fz o=false):Ch (λc=>c=a\/c=b) h h':=λc o e hf=>
 (Classical.em (c=a)).elim (λe'=>no (hf (.inl e')) (fa o (e'▸e))) λha=>(Classical.em (c=b)).elim (λe'=>no (hf (.inr e')) (fb o (e'▸e))) λhb=>k c o ha hb e
section
variable{σ:Lv}{tg:Expr}{dm:Ws}{H₀:Hp}{ws:List Nat}{vs:List V}{a e it:Addr}
theorem ze:∀{us:List V} {k i:Nat},(m6 k us)[i]?=us[i]?.map λu=>.aP [.int ((k+i:Nat):Int),u]
 |[],k,i=>rfl
 |u::us,k,0=>rfl
 |u::us,k,i+1=>by
  rw[m6,List.getElem?_cons_succ,List.getElem?_cons_succ,ze,add_right_comm];rfl
theorem KN(tP:s8 tg=true)(oq:vU dm H₀ ws vs a)(b8:e≠it):j9 tg dm H₀ ws (m6 0 vs) e (λc=>c=e\/c=it) (λi h=>(∃old,IsEnum h e it i old)/\h.IsListIter it a i) where
 keep:=λi h h' st hk=>⟨st.1.imp λold q=>hk e (.inl rfl) _ q,st.2.imp λo q=>⟨hk it (.inr rfl) o q.1,q.2⟩⟩
 live:=λi h st b hb=>hb.elim (λhb=>st.1.elim λold q=>⟨_,hb▸q⟩) λhb=>st.2.imp λo q=>hb▸q.1
 item:=λP i v Q kp hw st c4 hv k=>(oq P kp hw).elim λxs hx=>fj (λv=>(∀h' tk y,SR ⟨P.φ,h'⟩ P.H->bJ (λc=>c=e\/c=it) P.w ⟨P.φ,h'⟩->((∃old,IsEnum h' e it ((i+1:Nat):Int) old)/\h'.IsListIter it a (i+1))->bf ⟨P.φ,h'⟩ v y->Q y (upd P.s h' tk))->_) (ze▸hv) (λu hu k=>hx.2.get hu λy hy ry=>st.1.elim λold e1=>st.2.elim λo q=>by
  refine wpAny_pyNext_enum_item e1 st.2 hx.1 (by rw[vV];exact hy) b8 λh' q1 q2 q3 q4 q5=>?_
  refine Expr.Tuple.elim (motive_1:=λtg=>wpAny X.M P.A (letOwnedTupleGo tg (.ref e) (.ref P.s.heap.objs.size)) (λζ eW=>Q (.ref P.s.heap.objs.size) eW) NE (upd P.s h' (P.s.toks+1))) tg (of_decide_eq_true tP) λζ ζ ζ=>?_
  refine wpAny_letOwnedTupleGo_enum (s:=upd P.s h' (P.s.toks+1)) q1 λh2 w1 w2=>?_
  replace w2:SameBut e h' h2:=w2
  have hs:P.s.heap.objs.size≠e:=λe'=>bU (fF P.s.heap (le_of_eq e')) e1
  have keep:∀b o,b≠e->b≠it->P.s.heap.get? b=some o->h2.get? b=some o:=λb o n1 n2 x=>w2.extBut b o n1 (q5 b o n1 n2 x)
  have c:Ch (λc=>c=e\/c=it) P.s.heap h2:=.DB keep (λo x=>by rw[e1] at x;cases x;exact m8 (nm:="enumerate") rfl rfl rfl) (λo' x=>by rw[q.1] at x;cases x;exact m8 q.2.1 rfl rfl)
  refine q2.elim λo' q2=>?_
  have dI:h2.get? it=some o':=w2.extBut _ _ b8.symm q2.1
  have S:bJ (λc=>c=e\/c=it) P.w ⟨P.φ,h2⟩:=bJ.ch (io:=λc=>c=e\/c=it) (q:=P.w) .refl c λb hb=>.inr ⟨hb,hb.elim (λhb=>⟨_,hb▸w1⟩) λhb=>⟨_,hb▸dI⟩⟩
  have hc:((i+1:Nat):Int)=(i:Int)+1:=rfl
  have h0:((0+i:Nat):Int)=(i:Int):=by rw[zero_add]
  exact k h2 _ _ (P.R.ch (p:=P.w) c4 c) S ⟨⟨y,w1⟩,o',dI,q2.2⟩ (.aP (w2.extBut _ _ hs q3) (.cons (h0▸.int _ _) (.cons (ry.mono S) .nil)) (Nat.le_of_ble_eq_true rfl) (P.R.new (p:=P.w) (fF _ (le_refl _))).1)) k
 done:=λP i Q kp hw st c4 hv k=>(oq P kp hw).elim λxs hx=>st.1.elim λold e1=>st.2.elim λo q=>wpAny_pyNext_enum_end P.rm.handled e1 st.2 hx.1 (none_of hx.2 (Option.map_eq_none_iff.mp (ze▸hv))) λh' he=>
  k h' P.s.toks (.DB (λc o ζ hc x=>he c o hc x) (λo x=>by rw[e1] at x;cases x;exact m8 (nm:="enumerate") rfl rfl rfl) (λo' x=>by rw[q.1] at x;cases x;exact m8 q.2.1 rfl rfl))
 self:=λA s Q st h=>st.1.elim λold e1=>wpAny_pyIter_enum e1 h
theorem KP{c:E}{g x:Expr}{pos:Pos}(G:Good X)(hg:dU σ.f "enumerate" g=true)(h:eX σ [c] [x]):jr σ (.i4 c) (.Call g [x] [] pos):=
 ⟨λζ ζ=>rfl,λP tg post Q tP p k=>pL (post:=λvs H=>w1 vs λy=>be (cP H y) λus=>post (m6 0 us,watch y) H) G hg (fV 7 (by decide)) ⟨_,rfl⟩ h p (λvs H1 p1 ζ N xs r=>w1.k p1 (λvs=>bu N.w vs xs->_) (λv p1 r=>be.k p1 λus hl p1=>r.k1 (λxs=>wpAny X.M P.A (call (.type "enumerate") xs) (λx bF=>wpAny X.M P.A (pyIter x) Q NE bF) NE N.s) λy r=>
  bE (P:=N.pt) r hl (λy=>wpAny X.M P.A (call (.type "enumerate") [y]) (λx bF=>wpAny X.M P.A (pyIter x) Q NE bF) NE N.s) λl a xs m ev iP ha h1 h2 ζ=>by
   subst ev
   refine call_enumerate_list (s:=N.s) (iz h1) λh2 w1 w2 w3 w4=>wpAny_pyIter_enum (s:=upd P.s h2 N.tk) w1 ?_
   have fr:∀b,N.h.objs.size<=b->Ap (N.pt.ext (h':=h2) w4 N.tk).w b/\P.s.heap.get? b=none:=λb hb=>have hn:=fF N.h hb;⟨N.R.new (p:=N.w) hn,N.S.dead hn⟩
   exact k _ _ p1 (N.then (N.pt.ext w4 N.tk)) _ _ _ (KN tP (Ds ha iP (.head _)) (succ_ne_self _)) ⟨⟨.none,w1⟩,w2⟩ λb hb=>hb.elim (λhb=>fr b (hb▸le_succ _)) λhb=>fr b (le_of_eq hb.symm)) r)⟩
end
section
variable{A:Around}{R:Result->Shared->Prop}{s:Shared}
theorem KQ{target:Expr}{it:Value}{body:List Stmt}{env:Env}(I:Nat->Shared->Prop)
  (turn:∀n s,I n s->wpAny X.M A (pyNext it) (λr bF=>r=none/\R (.ok .next) bF) NE s\/wpAny X.M A (pyNext it) (λr bF=>be r λv=>
    wpAny X.M A (letOwnedTupleGo target it v) (λζ bF=>wpAny X.M A (assign target env v) (λζ eW=>wpAny X.M A (execs body env) (λf ot=>match f with
     |.next | .cont=>∃m,m<n/\I m ot
     |.brk=>R (.ok .next) ot
     |.ret v=>R (.ok (.ret v)) ot) NE eW) NE bF) NE bF) NE s)
  (n:Nat) (h:I n s):codeAny X.M A (.forLoop target it body [] env) R s:=by
 refine codeAny_loop' rfl I (λn s hI=>?_) n h
 refine(?_:wpAny _ _ ((forTurn target it body [] env).onRaise (λx=>do noteFrame x env;theTreesLotGoes x)) _ _ s)
 refine wpAny_noted ?_
 refine wpAny_bind (wpAny_standAt (wpAny_bind (wpAny_onRaise ((turn n s hI).elim (λht=>wpAny_mono ht (λr bF eY=>?_) λζ ζ h'=>h'.elim) λht=>wpAny_mono ht (λr bF eY=>?_) λζ ζ h'=>h'.elim))))
 ·rw[eY.1];exact wpAny_pure (.inr ⟨rfl,codeAny_block (wpAny_execs_nil eY.2)⟩)
 ·refine be.k eY λv e eY=>?_
  subst e
  refine wpAny_bind (wpAny_mono eY (λζ eW i8=>wpAny_bind (wpAny_mono i8 (λζ eW i8=>wpAny_bind (wpAny_mono i8 (λf ot pM=>?_) λζ ζ h'=>h'.elim)) λζ ζ h'=>h'.elim)) λζ ζ h'=>h'.elim)
  cases f with
  |next=>exact wpAny_pure (.inl ⟨rfl,pM⟩)
  |cont=>exact wpAny_pure (.inl ⟨rfl,pM⟩)
  |brk=>exact wpAny_pure pM
  |ret v=>exact wpAny_pure pM
end
section
variable{σ:Lv}{tg:Expr}{own io:Addr->Prop}{St:Nat->Heap->Prop}{ρ:aV}{H:Hp}
theorem Sx.ch{P:Fp σ}{h':Heap}(N:Sx P own ρ H)(c:Ch io N.h h')(c4:∀a,io a->Ap N.w a)(kP:∀a,io a->P.s.heap.get? a=none)(tk:Nat):∃N':Sx P own ρ H,N'.φ=N.φ/\N'.h=h'/\N'.tk=tk:=
 ⟨⟨N.φ,h',tk,N.R.ch (p:=N.w) c4 c,N.F.ch (p:=N.w) c λa ha hi=>(P.F.live a ha).elim λo e=>bU (kP a hi) e,bJ.ch (q:=N.w) N.S c λa hi=>.inl (kP a hi)⟩,rfl,rfl,rfl⟩
noncomputable abbrev Sx.vX{P:Fp σ}{h':Heap}(N:Sx P own ρ H)(R:SR ⟨N.φ,h'⟩ H)(S:bJ io N.w ⟨N.φ,h'⟩)(kP:∀a,io a->P.s.heap.get? a=none)(tk:Nat):Sx P own ρ H:=
 ⟨N.φ,h',tk,R,N.F.mono S λa ha hi=>(P.F.live a ha).elim λo e=>bU (kP a hi) e,bJ.ow (own:=λa=>own a\/io a) ((N.S.ow λζ h=>.inl (.inl h)).trans (S.ow λζ h=>.inl (.inr h))) λa h=>h.imp id λhi=>kP a hi⟩
inductive DC(P:Fp σ)(own:Addr->Prop)(dm:Ws)(H₀:Hp)(ws:List Nat)(vs:List V)(io:Addr->Prop)(St:Nat->Heap->Prop)(t:cV)(body:List S)(K:Out->Prop)(j:Nat)(s:Shared):Prop
 |mk (i:Nat) (ρ:aV) (H:Hp) (N:Sx P own ρ H) (e:s=N.s) (ej:j=(vs.drop i).length+1) (kp:Kp dm N.w) (hw:d6 ws H₀ H=true) (st:St i N.h) (c4:∀a,io a->Ap N.w a) (p:n6 ws H₀ t (λρ H K=>aY (aM σ.m) body ρ H K) (vs.drop i) ρ H K):DC P own dm H₀ ws vs io St t body K j s
theorem drop_cons{α:Type}{l:List α}{i:Nat}{a:α}(h:l[i]?=some a):l.drop i=a::l.drop (i+1):=by
 have h:=List.getElem?_eq_some_iff.mp h
 rw[drop_eq_getElem_cons h.1,h.2]
theorem KR{t:cV}{it:It}{iter:Expr}{body:List S}{bs:List Stmt}{pos:Pos}(ht:i5 σ.f t tg=true)(tP:qU it tg=true)(dI:jr σ it iter)(hb:mj σ body bs):SS σ (.for t it body) (.For tg iter bs [] pos):=λP own K Q ho p k=>by
 refine wpAny_For (dI.2 P tg _ _ tP p (λq H1 p1 N0 I io St lI rH c4=>?_)) (dI.1 P.env)
 have kP:∀a,io a->P.s.heap.get? a=none:=λa ha=>(c4 a ha).2
 have rI:∀{a:Addr} {G:Prop},io a->own a->G:=λha kN=>(P.F.live _ (ho.2 _ kN)).elim λo e=>bU (kP _ ha) e
 refine KQ (DC P own N0.w H1 q.2 q.1 io St t body K) (λj s' w=>w.casesOn λi ρ H N e ej kp hw st pN p'=>?_) (q.1.length+1) ⟨0,P.ρ,H1,N0.sx,rfl,by rw[drop_zero],.refl,Dr _ _,rH,λa ha=>(c4 a ha).1,by rw[drop_zero];exact p1⟩
 subst e ej
 cases hv:q.1[i]? with
 |none=>
  refine .inl (lI.done N.fp.toPt i _ kp hw st pN hv λh2 gp c=>⟨rfl,?_⟩)
  rw[drop_eq_nil_iff.mpr (List.getElem?_eq_none_iff.mp hv)] at p'
  exact(N.ch c pN kP gp).elim λN' e=>by have:=k.next _ _ p' N';rw[show N'.s=upd P.s N'.h N'.tk from rfl,e.2.1,e.2.2] at this;exact this
 |some v=>
  have hd:=drop_cons hv
  rw[hd] at p'
  refine be.k p' λtQ ha p'=>?_
  refine .inr (lI.item N.fp.toPt i v _ kp hw st pN hv λh2 gp y R2 S2 ke r2=>?_)
  exact tM (own:=own) t tg (N.vX R2 S2 kP gp).fp v y tQ _ ht (λx hx=>ho.1 x (vR t tg ht x hx)) r2 ha λN3=>hb ((N.vX R2 S2 kP gp).then N3).fp own _ _ ho p' ⟨λKS H4 p4 N4=>by
    have hk:∀a,io a->∀o,h2.get? a=some o->N4.h.get? a=some o:=λa ha o e=>N4.S.keep a o (N3.S.keep a o e (pN a ha).1 (λh=>rI ha h)) (N3.S.n8 e (pN a ha).1) (λh=>rI ha h)
    exact⟨(q.1.drop (i+1)).length+1,by rw[hd];exact lt_succ_self _,i+1,KS,H4,((N.vX R2 S2 kP gp).then N3).then N4,rfl,rfl,(kp.trans S2.kp).trans (N3.S.kp.trans N4.S.kp),p4.1,lI.keep _ _ _ ke hk,λa ha=>⟨(lI.live _ _ ke a ha).elim λo e=>(N3.S.trans N4.S).n8 e (pN a ha).1,(pN a ha).2⟩,p4.2⟩,
    λv4 H4 p4 φ h tk R S x r=>k.ret v4 H4 p4 φ h tk R (((N.vX R2 S2 kP gp).then N3).S.trans S) x r⟩
end
theorem vY{env:Env}{G:Prop}:∀(names:List (Str×NameKind)) (acc:List (Str×Addr)),(∀p,p∈acc->env.cells.lookup p.1=some p.2)->(∀p,p∈names->p.2=.free->∃c,env.cells.lookup p.1=some c) ->
  (∀cl:List (Str×Addr),(forIn names acc λ(x:Str×NameKind) (cs:List (Str×Addr))=>if(x.2==NameKind.free)=true then(do let c <-cellOf env x.1;pure (ForInStep.yield ((x.1,c)::cs))) else pure (ForInStep.yield cs):Sem (List (Str×Addr)))=pure cl ->
   (∀p,p∈cl->env.cells.lookup p.1=some p.2)->(∀p,p∈acc->p∈cl)->(∀x,(x,NameKind.free)∈names->∃c,(x,c)∈cl)->G)->G
 |[],acc,h,_,k=>k acc rfl h (λζ h=>h) λζ h=>nomatch h
 |(x,j)::r,acc,h,hn,k=>by
  by_cases hk:(j==NameKind.free)=true
  ·obtain rfl:=eq_of_beq hk
   exact(hn (x,.free) (.head _) rfl).elim λc hc=>vY r ((x,c)::acc) (λp hp=>(mem_cons.mp hp).elim (λe=>e▸hc) (h p)) (λp hp=>hn p (.tail _ hp)) λcl e h1 h2 h3=>k cl (by
    rw[forIn_cons,if_pos hk,show cellOf env (x,NameKind.free).1=pure c by unfold cellOf;rw[hc]]
    exact e) h1 (λp hp=>h2 p (.tail _ hp)) λy hy=>(mem_cons.mp hy).elim (λe=>⟨c,h2 _ (by rw[(Prod.mk.inj e).1];exact .head _)⟩) (h3 y)
  ·exact vY r acc h (λp hp=>hn p (.tail _ hp)) λcl e h1 h2 h3=>k cl (by rw[forIn_cons,if_neg hk];exact e) h1 h2 λy hy=>(mem_cons.mp hy).elim (λe=>absurd (beq_iff_eq.mpr (Prod.mk.inj e).2.symm) hk) (h3 y)
theorem DD{α:Type}{x:Str}{c:α}:∀{l:List (Str×α)},(x,c)∈l->∃d,l.lookup x=some d
 |(y,e)::r,h=>by
  rw[lookup_cons]
  cases hb:x==y with
  |true=>exact⟨_,rfl⟩
  |false=>exact(mem_cons.mp h).elim (λh=>by rw[(Prod.mk.inj h).1,beq_self_eq_true] at hb;cases hb) DD
theorem DE{x:Str}{k:NameKind}:∀{l:List (Str×NameKind)},(l.map (·.1)).Nodup->(x,k)∈l->l.lookup x=some k
 |(y,j)::r,hn,h=>by
  rw[lookup_cons]
  have hn:=nodup_cons.mp hn
  cases hb:x==y with
  |true=>exact(mem_cons.mp h).elim (λe=>by rw[(Prod.mk.inj e).2]) λh=>absurd (mem_map.mpr ⟨(x,k),h,eq_of_beq hb⟩) hn.1
  |false=>exact(mem_cons.mp h).elim (λe=>by rw[(Prod.mk.inj e).1,beq_self_eq_true] at hb;cases hb) (DE hn.2)
noncomputable def tR(f:Sn)(loc:List Str)(x:Str):NameKind->Prop
 |.local=>x=(".0":Str)\/x∈loc
 |.cell=>False
 |.free=>x∈f.ns/\x∉loc/\m9 (f.sc.names.lookup x)
 |.globalImplicit=>True
 |.globalExplicit=>False
structure kh(f:Sn)(loc:List Str)(cs:Scope):Prop where
 kind:cs.kind=.function
 gen:cs.isGenerator=false/\cs.isCoroutine=false
 nodup:(cs.names.map (·.1)).Nodup
 all:∀p,p∈cs.names->tR f loc p.1 p.2
 DF:∀x,x∈loc->cs.names.lookup x=some .local
 KT:(".0":Str)∉f.ns
 DG:cs.names.lookup mk=none
theorem vZ{b:Bool}(h:(!b)=true):b=false:=by cases b<;>first|rfl|cases h
theorem pO{x:Str}{l:List Str}(h:(!l.contains x)=true):x∉l:=λhm=>by rw[contains_iff_mem.mpr hm] at h;cases h
theorem tR.of{f:Sn}{loc:List Str}{p:Str×NameKind}(h:(match p.2 with
  |.local=>p.1==(".0":Str)||loc.contains p.1
  |.cell=>false
  |.free=>f.ns.contains p.1&&(!loc.contains p.1&&yJ (f.sc.names.lookup p.1))
  |.globalImplicit=>true
  |.globalExplicit=>false)=true):tR f loc p.1 p.2:=by
 cases p with
 |mk x k=>
  cases k with
  |«local»=>exact(or_eq_true_iff.mp h).imp eq_of_beq contains_iff_mem.mp
  |free=>exact bg h λa b=>bg b λb c=>⟨contains_iff_mem.mp a,pO b,c⟩
  |globalImplicit=>trivial
  |_=>cases h
theorem pw.sc{f:Sn}{cs:Scope}{loc:List Str}(h:pw f loc cs=true):kh f loc cs:=
 bg h λh1 h=>bg h λh2 h=>bg h λh3 h=>bg h λh4 h=>bg h λh5 h=>bg h λh6 h=>bg h λh7 h8=>
  ⟨of_decide_eq_true h1,⟨vZ h2,vZ h3⟩,of_decide_eq_true h4,λp hp=>tR.of (all_eq_true.mp h5 p hp),λx hx=>of_decide_eq_true (all_eq_true.mp h6 x hx),pO h7,Option.isNone_iff_eq_none.mp h8⟩
section
variable{σ:Lv}{cs:Scope}{ns loc:List Str}{env:Env}{h':Heap}{cl:List (Str×Addr)}{D:Addr}
theorem zf{x:Str}(G:Option NameKind->Option NameKind->Prop)(h1:∀k,G k k)(h2:G (some .free) (some .cell)):G (cs.names.lookup x) ((relabel cs env).names.lookup x):=by
 unfold relabel
 refine(?_:G (cs.names.lookup x) ((cs.names.map _).lookup x))
 induction cs.names with
 |nil=>exact h1 _
 |cons p r ih=>
  obtain⟨y,k⟩:=p
  rw[map_cons]
  refine(?_:G _ (((if(k==NameKind.free&&env.scope.kind==.function&&env.kindOf y==some .cell)=true then(y,NameKind.cell) else(y,k))::_).lookup x))
  by_cases hc:(k==NameKind.free&&env.scope.kind==.function&&env.kindOf y==some .cell)=true
  ·rw[if_pos hc,lookup_cons,lookup_cons]
   cases hx:x==y with
   |true=>exact bg hc λa ζ=>bg a λa ζ=>by rw[eq_of_beq a];exact h2
   |false=>exact ih
  ·rw[if_neg hc,lookup_cons,lookup_cons]
   cases hx:x==y with
   |true=>exact h1 _
   |false=>exact ih
theorem KU:Kinds cs (compEnvC cs cl D env):=λx=>zf (env:=env) (λa b=>CY a b) (λζ=>.inl rfl) (.inr ⟨rfl,rfl⟩)
theorem zg(P:Fp σ){x:Str}(h:m9 (σ.f.sc.names.lookup x)):m9 (P.env.kindOf x):=(P.kd x).elim (λe=>e▸h) λe=>e.2
theorem KV{x:Str}{k:NameKind}(h:(relabel cs env).names.lookup x=some k):cs.names.lookup x=some k\/(k=.cell/\cs.names.lookup x=some .free):=
 zf (cs:=cs) (env:=env) (x:=x) (λa b=>b=some k->a=some k\/(k=.cell/\a=some .free)) (λζ h=>.inl h) (λh=>.inr ⟨(Option.some.inj h).symm,rfl⟩) h
theorem kh.nm{f:Sn}(c:kh f loc cs){x:Str}{k:NameKind}(h:cs.names.lookup x=some k):tR f loc x k:=c.all _ (mem_lookup h)
theorem kh.fc{env':Env}(P:Fp σ)(hk:env'.scope.kind=.function)(hg:env'.scope.isGenerator=false/\env'.scope.isCoroutine=false)(h1:env'.globals=mainGlobals)(h2:env'.builtins=builtinsNs)(hm:env'.kindOf Mine.mk=none)(eA:∀p,p∈env'.cells->P.env.cells.lookup p.1=some p.2)(hC:P.s.heap.get? env'.locals=none):Fc env':=
 ⟨hk,h1,h2,⟨hg.1,hg.2,by unfold interactive;rw[hk];rfl⟩,λh=>(by rw[hm] at h;cases h),
  λx y c h1 h2=>P.F.fc.apart x y c (eA _ (mem_lookup h1)) (eA _ (mem_lookup h2)),λq hq e=>(P.F.live _ (oe (eA q hq))).elim λo e'=>bU (e▸hC) e'⟩
theorem DH{x:Str}{ρl ρ:aV}(hl:ρl.length=loc.length)(hx:x∈loc):lk (loc++ns) (ρl++ρ) x=lk loc ρl x:=by
 unfold lk
 rw[List.idxOf_append,if_pos hx,getElem?_append_left (by rw[hl];exact List.idxOf_lt_length_of_mem hx)]
theorem DI{x:Str}{ρl ρ:aV}(hl:ρl.length=loc.length)(hx:x∉loc):lk (loc++ns) (ρl++ρ) x=lk ns ρ x:=by
 unfold lk
 rw[List.idxOf_append,if_neg hx,getElem?_append_right (by rw[hl];exact le_add_left _ _),hl,Nat.add_sub_cancel]
theorem DJ{x:Str}:lk loc (replicate loc.length none) x=none:=by
 unfold lk
 rw[List.getElem?_replicate]
 split<;>rfl
theorem kh.fr{env':Env}{ρl:aV}{m:Str->Option Value}(c:kh σ.f loc cs)(P:Fp σ)(fc:Fc env')(hk:∀x k,env'.kindOf x=some k->cs.names.lookup x=some k\/(k=.cell/\cs.names.lookup x=some .free))(eA:∀p,p∈env'.cells->P.env.cells.lookup p.1=some p.2)(ni:∀x,(x,NameKind.free)∈cs.names->∃c,(x,c)∈env'.cells)(hC:P.s.heap.get? env'.locals=none)(e:aI P.s.heap h')(hn:h'.Ns env'.locals m)
  (hl:ρl.length=loc.length) (hm:∀x,x∈loc->iy ⟨P.φ,h'⟩ (lk loc ρl x) (m x)):FR env' (loc++σ.f.ns) (ρl++P.ρ) ⟨P.φ,h'⟩:=
 ⟨fc,by rw[length_append,length_append,hl,P.F.len],
  ⟨_,hn,λx hx h=>(hk x _ h).elim (λh=>(Classical.em (x∈loc)).elim (λhx=>by rw[DH hl hx];exact hm x hx) λpP=>((c.nm h).elim (λe=>absurd (e▸(mem_append.mp hx).resolve_left pP) c.KT) λhl=>absurd hl pP)) λh=>nomatch h.1⟩,
  λx hx h=>by
   have hf:cs.names.lookup x=some .free:=by
    cases ek:env'.kindOf x with
    |none=>rw[ek] at h;cases h
    |some k=>
     rw[ek] at h
     exact(hk x k ek).elim (λe=>by
      cases k with
      |free=>exact e
      |cell=>exact(c.nm e).elim
      |_=>cases h) λe=>e.2
   have q:=c.nm hf
   exact(ni x (mem_lookup hf)).elim λd hd=>(DD hd).elim λd hd=>(P.F.n9 x q.1 (zg P q.2.2)).elim λc1 w=>w.elim λv w=>by
    have:=eA _ (mem_lookup hd)
    rw[show P.env.cells.lookup x=some d from this] at w
    cases w.1
    exact⟨d,v,hd,vC w.2.1 (e _),by rw[DI hl q.2.1];exact w.2.2.kp (P.toPt.ext e 0).S.kp⟩,
  λa ha=>ha.elim (λea=>(by rw[ea];exact P.R.new (p:=P.w) hC)) λw=>w.elim λy hy=>P.F.ap _ (oe (eA _ (mem_lookup hy))),
  λa ha=>ha.elim (λea=>by rw[ea];exact hn.imp λo w=>w.elim λζ w=>w.elim λζ w=>w.1) λw=>w.elim λy hy=>(P.F.live _ (oe (eA _ (mem_lookup hy)))).imp λo x=>e _ _ x⟩
theorem kh.frame(c:kh σ.f loc cs)(P:Fp σ)(eA:∀p,p∈cl->P.env.cells.lookup p.1=some p.2)(ni:∀x,(x,NameKind.free)∈cs.names->∃c,(x,c)∈cl)(hC:P.s.heap.get? D=none)(e:aI P.s.heap h')(hn:h'.Ns D (λζ=>none)):FR (compEnvC cs cl D P.env) (loc++σ.f.ns) (replicate loc.length none++P.ρ) ⟨P.φ,h'⟩:=
 c.fr P (kh.fc P c.kind c.gen P.F.fc.glob P.F.fc.blt (zf (cs:=cs) (env:=P.env) (x:=Mine.mk) (λa b=>a=none->b=none) (λk e=>e) (λe=>nomatch e) c.DG) eA hC) (λx k h=>KV (cs:=cs) (env:=P.env) h) eA ni hC e hn List.length_replicate λx hx=>by rw[DJ];exact .none
end
section
variable{A:Around}{R:Result->Shared->Prop}{s:Shared}
theorem KW{elt target iter:Expr}{ifs:List Expr}{scope:Scope}{pos:Pos}{it acc:Value}{env:Env}(I:Nat->Shared->Prop)
  (turn:∀n s,I n s->wpAny X.M A (pyNext it) (λr bF=>r=none/\R (.ok .next) bF) NE s\/wpAny X.M A (pyNext it) (λr bF=>be r λv=>
    wpAny X.M A (letOwnedTupleGo target it v) (λζ zh=>wpAny X.M A (assign target env v) (λζ eW=>
     wpAny X.M A (forIn ifs true λc r=>if r=true then do let ok <-isTrue c env (eval c env);pure (ForInStep.yield ok) else pure (ForInStep.yield r)) (λok ot=>
      bW ok (wpAny X.M A (eval elt env) (λx DK=>wpAny X.M A (call (.builtin "list.append") [acc,x]) (λζ DL=>∃m,m<n/\I m DL) NE DK) NE ot) (∃m,m<n/\I m ot)) NE eW) NE zh) NE bF) NE s)
  (n:Nat) (h:I n s):codeAny X.M A (.compLoop (.ListComp elt [⟨target,iter,ifs,0⟩] scope pos) 0 it acc env) R s:=by
 refine codeAny_loop rfl I (λn s hI=>?_) n h
 refine(?_:wpAny _ A ((compTurn (.ListComp elt [⟨target,iter,ifs,0⟩] scope pos) 0 it acc env).onRaise (λx=>do noteFrame x env;theTreesLotGoes x)) _ _ s)
 refine wpAny_noted ?_
 rw[compTurn_list]
 refine wpAny_bind (wpAny_standAt (wpAny_bind ((turn n s hI).elim (λht=>wpAny_mono ht (λr bF eY=>?_) λζ ζ h'=>h'.elim) λht=>wpAny_mono ht (λr bF eY=>?_) λζ ζ h'=>h'.elim)))
 ·rw[eY.1];exact wpAny_pure eY.2
 ·refine be.k eY λv e eY=>?_
  subst e
  refine wpAny_bind (wpAny_mono eY (λζ zh dM=>wpAny_bind (wpAny_mono dM (λζ eW i8=>wpAny_bind (wpAny_mono i8 (λok ot pM=>?_) λζ ζ h'=>h'.elim)) λζ ζ h'=>h'.elim)) λζ ζ h'=>h'.elim)
  cases ok with
  |false=>exact wpAny_pure ⟨rfl,pM⟩
  |true=>exact wpAny_bind (wpAny_bind (wpAny_mono pM (λx DK KX=>wpAny_bind (wpAny_mono KX (λζ DL KY=>wpAny_pure (wpAny_pure ⟨rfl,KY⟩)) λζ ζ h'=>h'.elim)) λζ ζ h'=>h'.elim))
end
section
variable{σ:Lv}{io own:Addr->Prop}{St:Nat->Heap->Prop}{dm:Ws}{D:Addr}{i:Nat}{acc:List V}{ρ cb:aV}{H H':Hp}
structure Cx(P₀:Pt)(P:Fp σ)(D:Addr)(io:Addr->Prop)(St:Nat->Heap->Prop)(i:Nat)(acc:List V)(ρ:aV)(H:Hp)where
 φ:List Addr
 h:Heap
 tk:Nat
 ys:List Value
 k:Nat
 R:SR ⟨φ,h⟩ H
 F:FR P.env σ.f.ns ρ ⟨φ,h⟩
 S:bJ eU P₀.w ⟨φ,h⟩
 kp:Kp P.w ⟨φ,h⟩
 st:St i h
 c4:∀a,io a->Ap ⟨φ,h⟩ a
 aD:Ap ⟨φ,h⟩ D
 hD:h.get? D=some (gA ys k)
 ra:bu ⟨φ,h⟩ acc ys
structure Cn(P₀:Pt)(P:Fp σ)(D:Addr)(io:Addr->Prop):Prop where
 new:∀a,a=P.env.locals\/a=D\/io a->P₀.s.heap.get? a=none
 ne:∀a,j7 P.env a->a≠D/\¬io a
 D:¬io D
variable{P₀:Pt}{P:Fp σ}
noncomputable abbrev Cx.w(c:Cx P₀ P D io St i acc ρ H):Ws:=⟨c.φ,c.h⟩
noncomputable abbrev Cx.s(c:Cx P₀ P D io St i acc ρ H):Shared:=upd P.s c.h c.tk
noncomputable abbrev Cx.fp(c:Cx P₀ P D io St i acc ρ H):Fp σ:=⟨⟨P.A,c.φ,H,c.s,P.rm,c.R⟩,P.env,ρ,P.kd,c.F,P.rn⟩
theorem bJ.v0{p q r:Ws}(S:bJ eU p q)(T:bJ own q r)(h:∀a,own a->p.h.get? a=none):bJ eU p r:=bJ.ow (S.nil.trans T) λa ha=>.inr (h a ha)
noncomputable abbrev Cx.step(c:Cx P₀ P D io St i acc ρ H)(z:Cn P₀ P D io)(it:∀i h h',St i h->(∀a,io a->∀o,h.get? a=some o->h'.get? a=some o)->St i h')(lv:∀i h,St i h->∀a,io a->∃o,h.get? a=some o)(N:Sx c.fp (·=P.env.locals) cb H'):Cx P₀ P D io St i acc cb H':=
 have hl:∀{a},j7 P.env a->a=D\/io a->False:=λha h=>h.elim (z.ne _ ha).1 (z.ne _ ha).2
 {φ:=N.φ,h:=N.h,tk:=N.tk,ys:=c.ys,k:=c.k,R:=N.R,F:=N.F,S:=c.S.v0 N.S λa ha=>z.new a (.inl ha),kp:=c.kp.trans N.S.kp
  st:=it _ _ _ c.st λa ha o e=>N.S.keep a o e (c.c4 a ha).1 λho=>(hl (.inl ho) (.inr ha)).elim
  c4:=λa ha=>⟨(lv _ _ c.st a ha).elim λo e=>N.S.n8 e (c.c4 a ha).1,(c.c4 a ha).2⟩
  aD:=⟨N.S.n8 c.hD c.aD.1,c.aD.2⟩
  hD:=N.S.keep _ _ c.hD c.aD.1 λho=>(hl (.inl ho) (.inl rfl)).elim
  ra:=c.ra.mono N.S}
noncomputable abbrev Cx.item{h':Heap}(c:Cx P₀ P D io St i acc ρ H)(z:Cn P₀ P D io)(R:SR ⟨c.φ,h'⟩ H)(S:bJ io c.w ⟨c.φ,h'⟩)(st:St (i+1) h')(tk:Nat):Cx P₀ P D io St (i+1) acc ρ H:=
 {φ:=c.φ,h:=h',tk:=tk,ys:=c.ys,k:=c.k,R:=R,F:=c.F.mono S λa ha=>(z.ne a ha).2,S:=c.S.v0 S λa ha=>z.new a (.inr (.inr ha)),kp:=c.kp.trans S.kp,st:=st,c4:=c.c4,aD:=c.aD,hD:=S.keep _ _ c.hD c.aD.1 λho=>absurd ho z.D,ra:=c.ra.mono S}
noncomputable abbrev Cx.ba{h':Heap}{v:V}{x:Value}{k:Nat}(c:Cx P₀ P D io St i acc ρ H)(z:Cn P₀ P D io)(it:∀i h h',St i h->(∀a,io a->∀o,h.get? a=some o->h'.get? a=some o)->St i h')(r:bf c.w v x)(hD:h'.get? D=some (gA (c.ys++[x]) k))(e:ExtBut D c.h h')(tk:Nat):Cx P₀ P D io St i (acc++[v]) ρ H:=
 have hc:Ch (·=D) c.h h':=.but e λo e'=>by rw[c.hD] at e';cases e';exact m8 (nm:="list") rfl rfl rfl
 {φ:=c.φ,h:=h',tk:=tk,ys:=c.ys++[x],k:=k,R:=c.R.ch (p:=c.w) (io:=(·=D)) (λa ha=>ha▸c.aD) hc,F:=c.F.ch (p:=c.w) hc λa ha e=>(z.ne a ha).1 e,S:=bJ.ch (q:=c.w) c.S hc λa ha=>.inl (z.new a (.inr (.inl ha))),kp:=c.kp.trans hc.kp
  st:=it _ _ _ c.st λa ha o e'=>e a o (λe=>z.D (e▸ha)) e',c4:=c.c4,aD:=c.aD,hD:=hD,ra:=(c.ra.append (.one r)).kp hc.kp}
theorem KZ{v:V}{x:Value}{Q:Value->Shared->Prop}(c:Cx P₀ P D io St i acc ρ H)(z:Cn P₀ P D io)(it:∀i h h',St i h->(∀a,io a->∀o,h.get? a=some o->h'.get? a=some o)->St i h')(r:bf c.w v x)(hz:acc.length<=sizeLine)(k:∀c':Cx P₀ P D io St i (acc++[v]) ρ H,Q .none c'.s):wpAny X.M P.A (call (.builtin "list.append") [.ref D,x]) Q NE c.s:=
 wpAny_list_append_plain (items:=c.ys.toArray) ⟨c.k,c.hD⟩ (λh6 K0 K1=>K0.elim λk6 K2=>k (c.ba z it r (k:=k6) (by rw[K2,List.push_toArray]) K1.extBut c.tk)) (by rw[size_toArray,<-c.ra.length];exact hz)
inductive DM(P₀:Pt)(P:Fp σ)(H₀:Hp)(ws:List Nat)(us:List V)(QQ:List V->Hp->Prop)(D:Addr)(io:Addr->Prop)(St:Nat->Heap->Prop)(t:cV)(cs:List E)(elt:E)(j:Nat)(s':Shared):Prop
 |mk (i:Nat) (ρ:aV) (H:Hp) (acc:List V) (c:Cx P₀ P D io St i acc ρ H) (e:s'=c.s) (ej:j=(us.drop i).length+1) (hw:d6 ws H₀ H=true) (eZ:acc.length+(us.drop i).length<=us.length) (p:gC ws H₀ t (λρ H Q=>WT (aM σ.m) cs ρ H Q) (λρ H Q=>WE (aM σ.m) elt ρ H Q) (us.drop i) ρ H acc QQ):DM P₀ P H₀ ws us QQ D io St t cs elt j s'
theorem K3{elt:E}{t:cV}{cs:List E}{e tg iter:Expr}{ifs:List Expr}{sc':Scope}{pos:Pos}{H₀:Hp}{ws:List Nat}{us:List V}{QQ:List V->Hp->Prop}{I:Addr}{RR:Result->Shared->Prop}(z:Cn P₀ P D io)
  (rI:pJ P.env (·=P.env.locals) (gM t tg)) (ht:i5 σ.f t tg=true) (K4:b0 σ elt e) (K5:eX σ cs ifs) (it:j9 tg P.w H₀ ws us I io St) (c0:Cx P₀ P D io St 0 [] P.ρ P.H) (e0:c0.s=P.s) (hw:d6 ws H₀ P.H=true) (du:us.length<16000000)
  (p:gC ws H₀ t (λρ H Q=>WT (aM σ.m) cs ρ H Q) (λρ H Q=>WE (aM σ.m) elt ρ H Q) us P.ρ P.H [] QQ)
  (fin:∀vs H φ h tk ρ ys k,QQ vs H->vs.length<16000000->SR ⟨φ,h⟩ H->bJ eU P₀.w ⟨φ,h⟩->FR P.env σ.f.ns ρ ⟨φ,h⟩->h.get? D=some (gA ys k)->bu ⟨φ,h⟩ vs ys->D∉φ->RR (.ok .next) (upd P.s h tk)) :
  codeAny X.M P.A (.compLoop (.ListComp e [⟨tg,iter,ifs,0⟩] sc' pos) 0 (.ref I) (.ref D) P.env) RR P.s:=by
 refine KW (DM P₀ P H₀ ws us QQ D io St t cs elt) (λj s' w=>w.casesOn λi ρ H acc c e ej hw eZ p'=>?_) (us.length+1) ⟨0,P.ρ,P.H,[],c0,e0.symm,by rw[drop_zero],hw,by rw[drop_zero];exact le_of_eq (zero_add _),by rw[drop_zero];exact p⟩
 subst e ej
 cases hv:us[i]? with
 |none=>
  refine .inl (it.done c.fp.toPt i _ c.kp hw c.st c.c4 hv λh2 gp ch=>⟨rfl,?_⟩)
  rw[drop_eq_nil_iff.mpr (List.getElem?_eq_none_iff.mp hv)] at p' eZ
  exact fin acc H c.φ h2 gp ρ c.ys c.k p' (lt_of_le_of_lt eZ du) (c.R.ch (p:=c.w) c.c4 ch) (bJ.ch (q:=c.w) c.S ch λa ha=>.inl (z.new a (.inr (.inr ha)))) (c.F.ch (p:=c.w) ch λa ha=>(z.ne a ha).2) (ch _ _ c.hD λho=>absurd ho z.D) (c.ra.kp ch.kp) c.aD.1
 |some v=>
  have hd:=drop_cons hv
  rw[hd] at p' eZ
  refine be.k p' λtQ ha p'=>?_
  refine .inr (it.item c.fp.toPt i v _ c.kp hw c.st c.c4 hv λh2 gp y R2 S2 ke r2=>?_)
  refine tM t tg (c.item z R2 S2 ke gp).fp v y tQ _ ht rI r2 ha λN3=>?_
  have lt:(us.drop (i+1)).length+1<(us.drop i).length+1:=by rw[hd];exact lt_succ_self _
  exact K5.vO ((c.item z R2 S2 ke gp).step z it.keep it.live N3).fp _ _ p' (λb H4 p4 N4=>by
   cases b with
   |false=>exact⟨_,lt,i+1,tQ,H4,acc,((c.item z R2 S2 ke gp).step z it.keep it.live N3).step z it.keep it.live N4.sx,rfl,rfl,p4.1,le_of_succ_le eZ,p4.2⟩
   |true=>
    refine K4 (((c.item z R2 S2 ke gp).step z it.keep it.live N3).step z it.keep it.live N4.sx).fp _ _ p4 (λy5 H5 p5 N5 x5 r5=>?_)
    exact KZ ((((c.item z R2 S2 ke gp).step z it.keep it.live N3).step z it.keep it.live N4.sx).step z it.keep it.live N5.sx) z it.keep r5 (le_trans (le_of_lt (lt_of_le_of_lt (le_trans (le_add_right _ _) eZ) du)) (by decide)) λc'=>⟨_,lt,i+1,tQ,H5,acc++[y5],c',rfl,rfl,p5.1,by rw[length_append,add_assoc,add_comm [y5].length];exact eZ,p5.2⟩)
end
section
variable{σ:Lv}{cZ:Scope}{loc:List Str}{elt:E}{t:cV}{it:It}{cs:List E}{e tg iter:Expr}{ifs:List Expr}
structure tS(σ:Lv)(cZ:Scope)(loc:List Str)(elt:E)(t:cV)(it:It)(cs:List E)(e tg iter:Expr)(ifs:List Expr):Prop where
 c:kh σ.f loc cZ
 hl:gM t tg=loc
 ht:i5 ⟨cZ,loc++σ.f.ns⟩ t tg=true
 hg:qU it tg=true
 hi:jr σ it iter
 he:b0 ⟨σ.n,σ.m,⟨cZ,loc++σ.f.ns⟩⟩ elt e
 hs:eX ⟨σ.n,σ.m,⟨cZ,loc++σ.f.ns⟩⟩ cs ifs
theorem K6{pos:Pos}{QQ:List V->Hp->Prop}{H1:Hp}{q:List V×List Nat}{I D B:Addr}{io:Addr->Prop}{St:Nat->Heap->Prop}{i8:Heap}{cl:List (Str×Addr)}{RR:Result->Shared->Prop}(k:tS σ cZ loc elt t it cs e tg iter ifs)(P:Fp σ)(N:Nx P.toPt H1)
  (eA:∀p,p∈cl->P.env.cells.lookup p.1=some p.2) (ni:∀x,(x,NameKind.free)∈cZ.names->∃c,(x,c)∈cl) (lI:j9 tg N.w H1 q.2 q.1 I io St) (rH:St 0 N.h) (c4:∀a,io a->Ap N.w a/\P.s.heap.get? a=none)
  (hD:N.h.get? D=none) (hB:N.h.get? B=none) (ou:B≠D) (old:aI N.h i8) (gD:i8.get? D=some (gA [] 0)) (kQ:i8.Ns B λζ=>none) (hz:lA q.1=true)
  (p1:gC q.2 H1 t (λρ H Q=>WT (aM σ.m) cs ρ H Q) (λρ H Q=>WE (aM σ.m) elt ρ H Q) q.1 (replicate loc.length none++P.ρ) H1 [] QQ)
  (fin:∀vs H φ h tk ys j m,QQ vs H->vs.length<16000000->SR ⟨φ,h⟩ H->bJ eU P.w ⟨φ,h⟩->h.get? D=some (gA ys j)->bu ⟨φ,h⟩ vs ys->D∉φ->Ap ⟨φ,h⟩ B->h.Ns B m->RR (.ok .next) (upd P.s h tk)) :
  codeAny X.M P.A (.compStart (.ListComp e [⟨tg,iter,ifs,0⟩] cZ pos) 0 (.ref I) (.ref D) (compEnvC cZ cl B P.env)) RR (upd P.s i8 N.tk):=by
 have lv:∀{a},io a->N.h.get? a=none->False:=λha hn=>(lI.live _ _ rH _ ha).elim λo e=>bU hn e
 have ke:=lI.keep _ _ _ rH λa ζ o e=>old a o e
 have F:=k.c.frame (cl:=cl) (P.to N) eA ni hB old kQ
 have S:bJ eU P.w ⟨N.φ,i8⟩:=bJ.ext (q:=N.w) N.S old
 have R:=SR.ext (p:=N.w) N.R old
 have aD:Ap ⟨N.φ,i8⟩ D:=N.R.new (p:=N.w) hD
 have loop:=K3 (iter:=iter) (sc':=cZ) (pos:=pos) (P₀:=P.toPt) (σ:=⟨σ.n,σ.m,⟨cZ,loc++σ.f.ns⟩⟩) (P:=⟨⟨P.A,N.φ,H1,upd P.s i8 N.tk,P.rm,R⟩,compEnvC cZ cl B P.env,replicate loc.length none++P.ρ,KU,F,P.rn⟩) (D:=D) (RR:=RR)
  ⟨λa ha=>ha.elim (λe=>N.S.dead (e▸hB)) λha=>ha.elim (λe=>N.S.dead (e▸hD)) λha=>(c4 a ha).2,λa ha=>ha.elim (λe=>⟨λe'=>ou (e.symm.trans e'),λh=>lv h (e▸hB)⟩) λw=>w.elim λy hy=>(P.F.live _ (oe (eA _ (mem_lookup hy)))).elim λo x=>⟨λe=>bU (N.S.dead (e▸hD)) x,λh=>bU (c4 _ h).2 x⟩,λh=>lv h hD⟩
  (λx hx=>.inl ⟨lookup_relabel_local (k.c.DF x (k.hl▸hx)),rfl⟩) k.ht k.he k.hs (lI.from (bJ.ext (own:=eU) (p:=N.w) (q:=N.w) .refl old).kp) ⟨N.φ,i8,N.tk,[],0,R,F,S,.refl,ke,λa ha=>(c4 a ha).1,aD,gD,.nil⟩ rfl (Dr _ _) (of_decide_eq_true hz) p1
  λvs H φ h tk ρ ys j q hl R S F hD r hn=>F.loc.elim λm hm=>fin vs H φ h tk ys j m q hl R S hD r hn (F.ap _ (.inl rfl)) hm.1
 exact codeAny_compStart_list loop (yT (lI.self P.A _ _ ke loop))
theorem DN{pos p0:Pos}{use:Option (Value->Sem Unit)}{Q:Value->Shared->Prop}{QQ:List V->Hp->Prop}(k:tS σ cZ loc elt t it cs e tg iter ifs)(P:Fp σ)
  (p:me (aM σ.m) it P.ρ P.H λp H=>ez (lA p.1) (gC p.2 H t (λρ H Q=>WT (aM σ.m) cs ρ H Q) (λρ H Q=>WE (aM σ.m) elt ρ H Q) p.1 (replicate loc.length none++P.ρ) H [] QQ))
  (fin:∀vs H φ h tk D B ys j m,QQ vs H->vs.length<16000000->SR ⟨φ,h⟩ H->bJ eU P.w ⟨φ,h⟩->h.get? D=some (gA ys j)->bu ⟨φ,h⟩ vs ys->D∉φ->P.s.heap.get? D=none->Ap ⟨φ,h⟩ B->P.s.heap.get? B=none->B≠D->h.Ns B m->compPost X.M P.A NE use Q (.ref D) B (.ok .next) (upd P.s h tk)) :
  wpAny X.M P.A (comprehension (.ListComp e [⟨tg,iter,ifs,0⟩] cZ pos) cZ P.env p0 (newList []) false (eval iter P.env) use) Q NE P.s:=by
 refine vY (env:=P.env) cZ.names [] (λζ h=>nomatch h) (λq hq hk=>?_) λcl eA zi ζ zj=>?_
 ·have:=k.c.all q hq
  rw[hk] at this
  exact(P.F.n9 _ this.1 (zg P this.2.2)).imp λc w=>w.elim λζ w=>w.1
 refine wpAny_comprehension_free (cl:=cl) rfl (k.hi.1 P.env) (by unfold closureFor;rw[bind_pure];exact eA) k.c.kind (λx hx hl=>DE k.c.nodup (by rw[<-hl];exact hx)) (k.hi.2 P tg _ _ k.hg p (λq H1 p1 N I io St lI rH c4=>ez.k p1 λhz p1=>?_))
 refine wpAny_newObj_type (wpAny_newFunctionEnv (λx hx hk=>by have:=k.c.all x hx;rw[hk] at this;exact this) (λy hy=>nomatch hy) (λi8 kQ tT=>?_) k.c.kind)
 have sz:(N.h.push {cls:=.type "list",data:=.seq #[]}).objs.size=N.h.objs.size+1:=size_push _ _
 have old2:aI (N.h.push {cls:=.type "list",data:=.seq #[]}) i8:=λa o e=>tT.extBut a o (ne_of_lt (lt_size e)) (get?_push_of_some _ e)
 have hD:=fF N.h (le_refl N.h.objs.size)
 have hB:N.h.get? (N.h.push {cls:=.type "list",data:=.seq #[]}).objs.size=none:=fF N.h (by rw[sz];exact le_succ _)
 have ou:(N.h.push {cls:=.type "list",data:=.seq #[]}).objs.size≠N.h.objs.size:=by rw[sz];exact succ_ne_self _
 exact K6 (D:=N.h.objs.size) k P N zi zj lI rH c4 hD hB ou (λa o e=>old2 a o (get?_push_of_some _ e)) (old2 _ _ (get?_push_size _ rfl)) kQ hz p1 λvs H φ h tk ys j m q hl R S hg r hn aB hm=>fin vs H φ h tk _ _ ys j m q hl R S hg r hn (N.S.dead hD) aB (N.S.dead hB) ou hm
noncomputable abbrev Pt.v7{P:Pt}{H:Hp}{φ:List Addr}{h:Heap}{D:Addr}{ys:List Value}{j:Nat}{vs:List V}(R:SR ⟨φ,h⟩ H)(S:bJ eU P.w ⟨φ,h⟩)(hg:h.get? D=some (gA ys j))(r:bu ⟨φ,h⟩ vs ys)(hn:D∉φ)(hD:P.s.heap.get? D=none)(hl:vs.length<16000000)(tk:Nat):Nx P (H++[.list vs]):=
 ⟨φ++[D],h,tk,SR.adopt (p:=⟨φ,h⟩) R ⟨hn,(P.R.new (p:=P.w) hD).2⟩ (λo x=>by rw[hg] at x;cases x;exact m8 (nm:="list") rfl rfl rfl) (.list hg r (le_of_lt hl)),bJ.adopt (q:=⟨φ,h⟩) S hD⟩
theorem zk{H:Hp}{φ:List Addr}{h:Heap}{D:Addr}(R:SR ⟨φ,h⟩ H):bf ⟨φ++[D],h⟩ (.ref H.length) (.ref D):=.ref (by rw[<-R.len,getElem?_append_right (le_refl _),sub_self];rfl)
theorem DO{h h':Heap}{B:Addr}{m:Str->Option Value}(hm:h.Ns B m)(e:SameBut B h h'):Ch (·=B) h h':=.but e.extBut λo x=>hm.elim λo' w=>w.elim λζ w=>w.elim λζ w=>by rw[w.1] at x;cases x;exact yR w.2.1
theorem DP{pos:Pos}(k:tS σ cZ loc elt t it cs e tg iter ifs):b0 σ (.comp loc.length elt t it cs) (.ListComp e [⟨tg,iter,ifs,0⟩] cZ pos):=λP post Q p kq=>by
 rw[eval_ListComp]
 exact DN k P p λvs H φ h tk D B ys j m q hl R S hg r hn hD aB hB ou hm=>⟨m,hm,λh3 K7=>
  have c:Ch (·=B) h h3:=DO hm K7
  have R3:=SR.ch (p:=⟨φ,h⟩) (io:=(·=B)) R (λa ha=>ha▸aB) c
  kq _ _ q (Pt.v7 R3 (bJ.ch (q:=⟨φ,h⟩) S c λa ha=>.inl (ha▸hB)) (c _ _ hg λe=>absurd e.symm ou) (r.kp c.kp) hn hD hl tk) _ (zk R3)⟩
theorem K8{u:cV}{y:Str}{py cpos pos:Pos}(k:tS σ cZ loc elt t it cs e tg iter ifs)(hu:i5 σ.f u (.Name y py)=true):SS σ (.aX u (.comp loc.length elt t it cs)) (.Assign [.Name y py] (.ListComp e [⟨tg,iter,ifs,0⟩] cZ cpos) pos):=λP own K Q ho p kq=>by
 have rD:∃b,swapsWith (.ListComp e [⟨tg,iter,ifs,0⟩] cZ cpos) (some (.Name y py)) pos.line P.env=pure b:=⟨_,rfl⟩
 obtain⟨b,rD⟩:=rD
 cases b with
 |false=>exact Dk rD hu rfl (DP k) ho p kq
 |true=>
  rw[exec_Assign_Name_used _ _ _ _ rD]
  refine wpAny_bind (wpAny_standAt (wpAny_bind ?_))
  refine(?_:wpAny _ P.A (do let _ <-comprehension (.ListComp e [⟨tg,iter,ifs,0⟩] cZ cpos) cZ P.env _ (newList []) false (eval iter P.env) (some (assign (.Name y py) P.env))) _ _ P.s)
  refine wpAny_bind (wpAny_mono (Q:=λζ s'=>Q .next s') ?_ (λζ s' hq=>wpAny_pure (wpAny_pure hq)) λζ ζ e=>e)
  exact DN k P p λvs H φ h tk D B ys j m q hl R S hg r hn hD aB hB ou hm=>be.k q λcb ha q=>by
   refine tM (own:=own) u (.Name y py) (P.to (Pt.v7 R S hg r hn hD hl tk)) (.ref H.length) (.ref D) cb _ hu (λx hx=>ho.1 x (vR u _ hu x hx)) (zk R) ha λN=>?_
   have aB':B∉φ++[D]:=λhm=>(mem_append.mp hm).elim aB.1 λh=>ou (mem_singleton.mp h)
   have rE:N.h.Ns B m:=yS hm λo e=>N.S.keep _ _ e aB' λh=>(P.F.live _ (ho.2 _ h)).elim λo e=>bU hB e
   have aB4:Ap N.w B:=⟨hm.elim λo w=>w.elim λζ w=>w.elim λζ w=>N.S.n8 w.1 aB',aB.2⟩
   exact⟨m,rE,λh5 K9=>(Sx.ch ((Nx.sx (P:=P) (Pt.v7 R S hg r hn hD hl tk)).then N) (DO rE K9) (λa ha=>ha▸aB4) (λa ha=>ha▸hB) N.tk).elim λN' e=>by
    have:=kq.next _ _ q N'
    rw[show N'.s=upd P.s N'.h N'.tk from rfl,e.2.1,e.2.2] at this
    exact this⟩
end
theorem La(lo hi:Option Int)(n:Nat):sliceBounds lo hi none n=(((tx n 0 lo:Nat):Int),((tx n n hi:Nat):Int),1):=by
 have key:∀(k:Option Int) (d:Nat),(match k with|none=>(d:Int)|some i=>if(1:Int)>0 then max 0 (min (if i<0 then i+n else i) n) else max (-1) (min (if i<0 then i+n else i) ((n:Int) - 1)))=((tx n d k:Nat):Int):=λk d=>by
  cases k with
  |none=>rfl
  |some k=>exact(Int.toNat_of_nonneg (Int.le_max_left _ _)).symm
 exact Prod.ext (key lo 0) (Prod.ext (key hi n) rfl)
theorem Lb(xs:List Value)(lo hi:Option Int):slicePick xs.toArray lo hi none=(dW xs lo hi).toArray:=by
 unfold slicePick dW
 rw[size_toArray,La]
 refine(?_:((sliceRange _ _ 1).filterMap _).toArray=_)
 rw[sliceRange_one,pick_run,List.drop_take]
section
variable{σ:Lv}{A:Around}{s:Shared}
theorem bu.slice{p:Ws}{vs:List V}{xs:List Value}(r:bu p vs xs)(lo hi:Option Int):bu p (dW vs lo hi) (dW xs lo hi):=by
 unfold dW
 rw[r.length]
 exact(r.take _).drop _
theorem Lc{t sl:Addr}{xs:List Value}{b:Nat}{u:Tok}{Q:Value->Shared->Prop}(ht:IsTup s.heap t xs.toArray)(hs:s.heap.IsSliceOf sl .none (.int b u) .none)(hz:xs.length<=sizeLine)
  (h:b<xs.length->Q (.ref s.heap.objs.size) {s with heap:=s.heap.push (gO (xs.take b) 0)}) (h':xs.length<=b->Q (.ref t) s):wpAny X.M A (getItem (.ref t) (.ref sl)) Q NE s:=by
 have cI:sizeOk (.seq (xs.take b).toArray):=by
  refine(?_:(xs.take b).toArray.size<=sizeLine)
  rw[size_toArray,length_take];exact le_trans (min_le_right _ _) hz
 obtain⟨os,rJ,rK,nj⟩:=id hs
 have Ld:s.TypeIs (.ref sl) "slice":=⟨os,rJ,rK⟩
 unfold getItem
 try with_reducible refine wpAny_holding ?_
 first|refine wpAny_bind (wpAny_pure ?_)|skip
 refine wpAny_bind (wpAny_sequenceKey ht.typeIs (by decide) (wpAny_bind (wpAny_callSpecial?_slot (name:=Str.ofString "__getitem__") ht.typeIs slot_tuple_getitem
  (wpAny_call_entry slot_tuple_getitem ht.typeIs entry_tuple_getitem ?_ (args_tuple_getitem _ _)))))
 refine(?_:wpAny _ _ (Builtin.Tuple.tupleItemsOf (.ref t) >>= _) _ _ s)
 refine wpAny_bind (tupleItemsOf_ ht (wpAny_bind (wpAny_typeOf Ld ?_)))
 rw[if_pos (by decide)]
 refine wpAny_bind ?_
 unfold Builtin.Slice.sliceApplied Builtin.Slice.sliceFields
 refine wpAny_bind (wpAny_bind (wpAny_field rJ nj (x:=.none) rfl (wpAny_bind (wpAny_field rJ nj (x:=.int b u) rfl (wpAny_bind (wpAny_field rJ nj (x:=.none) rfl (wpAny_pure (wpAny_bind (slicePart_none ?_)))))))))
 refine(?_:wpAny _ _ (if((1:Int)==0)=true then _ else _) _ _ s)
 rw[if_neg (by decide)]
 refine wpAny_bind (slicePart_none (wpAny_bind (slicePart_int (wpAny_bind (wpAny_pure ?_)))))
 obtain⟨m,hm⟩:∃m,m=min b xs.length:=⟨_,rfl⟩
 have e1:Builtin.Slice.sliceAdjust none (some (b:Int)) 1 ((xs.toArray.size:Nat):Int)=(0,(m:Int)):=by
  refine(?_:((0:Int),(if(b:Int)<0 then max ((b:Int)+(xs.toArray.size:Nat)) 0 else min (b:Int) (xs.toArray.size:Nat)))=_)
  rw[size_toArray,if_neg (Int.not_lt.mpr (natCast_nonneg b))]
  exact Prod.ext rfl (show min (b:Int) xs.length=m from(CU _ _).trans (by rw[hm]))
 have e2:Builtin.Slice.slicePlaces 0 (m:Int) 1=m:=by
  refine(?_:((if(0:Int)<m then((m:Int) - 0 - 1)/1+1 else 0):Int).toNat=m)
  rw[Int.ediv_one];split<;>lia
 refine(?_:wpAny _ _ (match Builtin.Slice.sliceAdjust none (some (b:Int)) 1 ((xs.toArray.size:Nat):Int) with|(lo,hi)=>pure (lo,(1:Int),Builtin.Slice.slicePlaces lo hi 1)) _ _ s)
 rw[e1]
 refine(?_:wpAny _ _ (pure ((0:Int),(1:Int),Builtin.Slice.slicePlaces (0:Int) (m:Int) 1)) _ _ s)
 rw[e2]
 refine wpAny_pure ?_
 have Le:((List.range m).filterMap λ(k:Nat)=>xs.toArray[((0:Int)+(k:Int)*1).toNat]?).toArray=(xs.take m).toArray:=by
  have e:(λ(k:Nat)=>xs.toArray[((0:Int)+(k:Int)*1).toNat]?)=(λx=>xs.toArray[x]?) ∘ λk=>0+k:=funext λk=>by
   refine(?_:xs.toArray[((0:Int)+(k:Int)*1).toNat]?=xs.toArray[0+k]?)
   rw[show((0:Int)+(k:Int)*1).toNat=0+k by rw[mul_one,Int.zero_add,zero_add];rfl]
  rw[e,<-List.filterMap_map,pick_run]
  rfl
 refine(?_:wpAny _ _ (if((0:Int)==0&&(1:Int)==1&&m==xs.toArray.size)=true then _ else _) _ _ s)
 by_cases hb:b<xs.length
 ·have Lf:m=b:=hm.trans (min_eq_left (le_of_lt hb))
  subst Lf
  rw[if_neg λe=>absurd (eq_of_beq (and_eq_true_iff.mp e).2) (by rw[size_toArray];exact ne_of_lt hb),Le]
  have h:=h hb
  first
   |exact wpAny_bind (m:=Builtin.Tuple.tupleExact _) (wpAny_newObj_type (wpAny_pure ⟨_,rfl,wpAny_pure h⟩) cI)
   |exact wpAny_bind (m:=Builtin.Tuple.tupleExact _) (wpAny_newObj_type (wpAny_bind (wpAny_pure (wpAny_pure ⟨_,rfl,wpAny_pure h⟩))) cI)
   |exact wpAny_bind (wpAny_bind (m:=Builtin.Tuple.tupleExact _) (wpAny_newObj_type (wpAny_pure (wpAny_pure ⟨_,rfl,wpAny_pure h⟩)) cI))
   |exact wpAny_bind (wpAny_bind (m:=Builtin.Tuple.tupleExact _) (wpAny_newObj_type (wpAny_pure ⟨_,rfl,wpAny_pure h⟩) cI))
 ·have h:=h' (Nat.le_of_not_lt hb)
  have hc:((0:Int)==0&&(1:Int)==1&&m==xs.toArray.size)=true:=by
   rw[size_toArray,show m=xs.length from hm.trans (Nat.min_eq_right (not_lt.mp hb)),beq_self_eq_true,beq_self_eq_true,beq_self_eq_true];rfl
  rw[if_pos hc]
  unfold Builtin.Tuple.tupleIsExact
  refine wpAny_bind (wpAny_bind (wpAny_typeOf ht.typeIs (wpAny_pure ?_)))
  rw[if_pos (by decide)]
  exact wpAny_bind (wpAny_rule (wpAny_pure ⟨_,rfl,wpAny_pure h⟩))
noncomputable def pQ(σ:Lv)(c:Option E)(e:Option Expr):Prop:=
 ∀(P:Fp σ) (post:PQ) (Q:Value->Shared->Prop),WO (aM σ.m) c P.ρ P.H post->Kn P.toPt post Q->wpAny X.M P.A (evalPart e P.env) Q NE P.s
theorem Lg:pQ σ none none:=λP post Q p k=>by rw[evalPart_none];exact wpAny_pure (k.now p .none P.s.toks)
theorem Lh{c:E}{e:Expr}(h:b0 σ c e):pQ σ (some c) (some e):=λP post Q p k=>by rw[evalPart_some];exact h P post Q p k
theorem DQ{v:V}{x:Value}{k:Option Int}{p:Ws}(r:bf p v x)(e:ma v=some k):IsPart x k:=by
 cases v with
 |none=>cases e;exact r.inv (λx=>IsPart x _) .none
 |int i=>exact pE e (λk=>IsPart x k) λζ=>r.inv (λx=>IsPart x _) λt=>.int _ _
 |_=>cases e
theorem bu.Li{vs:List V}{k:Nat}(hz:vs.length<=16000000):(vs.take k).length<=16000000:=by rw[length_take];exact le_trans (min_le_right _ _) hz
theorem DR{P:Pt}{us:List V}{xs:List Value}{ad sa:Addr}{v sl:Expr}{z w:Value}{l h:Option Int}{post:PQ}{Q:Value->Shared->Prop}{ops:Value->Value->List Value}(hs:∀o i,subscripted sl false o i=operate (ops o i) (getItem o i))(q:P.s.heap.IsSliceOf sa z w .none)(q1:IsPart z l)(q2:IsPart w h)(hL:P.s.heap.IsList ad xs.toArray)(r:bu P.w us xs)(hz:us.length<=16000000)(p:n4 (dW us l h) P.H post)(k:Kn P post Q):
  wpAny X.M P.A (subscriptTail v sl (.ref ad) (.ref sa)) Q NE P.s:=ez.k p λLj p=>
 tail_any hL.typeIs PySem.slot_list_getitem.lookup (wpAny_getItem_list_slice hL q q1 q2 .none (λe=>nomatch e) (by
  rw[Lb]
  exact Kn.list k (.push _) _ (fF _ (le_refl _)) (get?_push_size _ rfl) (r.slice l h) (le_of_lt (of_decide_eq_true Lj)) p P.s.toks) (by rw[size_toArray,<-r.length];unfold sizeLine;lia)) (hs _ _)
theorem Lk{P:Pt}{us:List V}{sa:Addr}{v sl:Expr}{y z w:Value}{l h:Option Int}{post:PQ}{Q:Value->Shared->Prop}{ops:Value->Value->List Value}(hs:∀o i,subscripted sl false o i=operate (ops o i) (getItem o i))(q:P.s.heap.IsSliceOf sa z w .none)(q1:IsPart z l)(q2:IsPart w h)(r:bf P.w (.aP us) y)(p:be h λk=>ez (l.isNone&&decide (0<=k)) (post (.aP (us.take k.toNat)) P.H))(k:Kn P post Q):
  wpAny X.M P.A (subscriptTail v sl y (.ref sa)) Q NE P.s:=by
 refine be.k p λj ej p1=>ez.k p1 λhj p2=>bg hj λhl hj=>?_
 have Ll:=of_decide_eq_true hj
 clear p p1 hj
 subst ej
 obtain⟨m,rfl⟩:=Int.eq_ofNat_of_zero_le Ll
 cases q1 with
 |int i t=>cases hl
 |none=>
  cases q2 with
  |int i t=>
   exact r.inv (λy=>wpAny X.M P.A (subscriptTail v sl y (.ref sa)) Q NE P.s) λa n' xs h1 h2 h3 h4=>
    tail_any (tG h1).typeIs slot_tuple_getitem.lookup (Lc (tG h1) q (by rw[<-h2.length];unfold sizeLine;lia)
     (λζ=>k _ _ p2 (P.ext (.push _) P.s.toks) _ (.aP (n:=0) (get?_push_size _ rfl) ((h2.take m).mono (P.ext (.push _) P.s.toks).S) (bu.Li h3) (P.R.new (p:=P.w) (fF _ (le_refl _))).1)) λhb=>by
      rw[show us.take ((m:Nat):Int).toNat=us from List.take_of_length_le (by rw[h2.length];exact hb)] at p2
      exact k.now p2 (.aP (n:=n') h1 h2 h3 h4) P.s.toks) (hs _ _)
theorem Lm{P:Pt}{a lv hv:V}{sa:Addr}{v sl:Expr}{y z w:Value}{post:PQ}{Q:Value->Shared->Prop}(G:Good X){ops:Value->Value->List Value}(hs:∀o i,subscripted sl false o i=operate (ops o i) (getItem o i))(q:P.s.heap.IsSliceOf sa z w .none)(ra:bf P.w a y)(rl:bf P.w lv z)(rh:bf P.w hv w)(p:qZ a lv hv P.H post)(k:Kn P post Q):
  wpAny X.M P.A (subscriptTail v sl y (.ref sa)) Q NE P.s:=by
 refine be.k p λl el p=>be.k p λh eh p=>?_
 have q1:=DQ rl el
 have q2:=DQ rh eh
 cases a with
 |aP us=>exact Lk hs q q1 q2 ra p k
 |ref li=>exact be.k p λus hi p=>bE ra hi (λy=>wpAny X.M P.A (subscriptTail v sl y (.ref sa)) Q NE P.s) λζ a xs n' ζ ζ ζ h1 h2 h3=>DR hs q q1 q2 (iz h1) h2 h3 p k
 |g7=>exact be.k p λus hi p=>items G ra hi (λy=>wpAny X.M P.A (subscriptTail v sl y (.ref sa)) Q NE P.s) (λe=>nomatch e) λa xs h1 h2 h3=>DR hs q q1 q2 h1 h2 h3 p k
 |_=>exact p.elim
theorem Ln{a:E}{lo hi:Option E}{v:Expr}{l u:Option Expr}{p0 pos:Pos}(G:Good X)(ha:b0 σ a v)(hl:pQ σ lo l)(hu:pQ σ hi u):b0 σ (.dT a lo hi) (.Subscript v (.Slice l u none p0) pos):=λP post Q p k=>
 Subscript_ (ha P _ _ p (λx H1 p1 N y r=>wpAny_Slice (hl (P.to N) _ _ p1 (λlv H2 p2 N2 z r2=>hu ((P.to N).to N2) _ _ p2 (λhv H3 p3 N3 w r3=>by
  rw[evalPart_none]
  exact wpAny_pure (Lm (P:=(N3.pt.ext (.push _) N3.tk).pt) G (λζ ζ=>rfl) (Heap.IsSliceOf.new N3.h z w .none) ((r.mono (N2.then N3).S).mono (N3.pt.ext (.push _) N3.tk).S) ((r2.mono N3.S).mono (N3.pt.ext (.push _) N3.tk).S) (r3.mono (N3.pt.ext (.push _) N3.tk).S) p3 (((k.nx N).nx (N2.then N3)).nx _)))))))
end
section
variable{σ:Lv}{Q:Value->Shared->Prop}{P:Pt}{post:PQ}{v:V}{x:Value}
theorem Lo{o:Expr}(h:yI o=true)(x:Str)(env:Env):attributeBase o x env (eval o env)=eval o env:=by
 rcases or_eq_true_iff.mp h with h|h
 ·exact Expr.Name.elim (motive_1:=λo=>attributeBase o x env (eval o env)=eval o env) o (of_decide_eq_true h) λζ ζ=>rfl
 ·rcases or_eq_true_iff.mp h with h|h
  ·exact Expr.Subscript.elim (motive_1:=λo=>attributeBase o x env (eval o env)=eval o env) o (of_decide_eq_true h) λζ ζ ζ=>rfl
  ·exact fu.k (G:=λo=>attributeBase o x env (eval o env)=eval o env) h λg xs ks p h=>bg h λh1 h2=>by
    cases xs with
    |nil=>cases h2
    |cons a r=>exact Expr.Name.elim (motive_1:=λg=>attributeBase (.Call g (a::r) ks p) x env (eval (.Call g (a::r) ks p) env)=eval (.Call g (a::r) ks p) env) g (of_decide_eq_true h1) λζ ζ=>rfl
theorem Lp{es:List Expr}{cs:List E}{pos:Pos}(h:eX σ cs es)(hl:es.length<20)(env:Env):((backTo pos (starEach es env)).all (λx=>!x.1)&&(backToKw pos (keywordEach [] env)).all (λx=>x.1.isSome)
   && decide (es.length+([]:List Keyword).length+(if([]:List Keyword).isEmpty then 0 else 1)<30))=true:=by
 have h2:(backTo pos (starEach es env)).all (λx=>!x.1)=true:=all_eq_true.mpr λx hx=>by
  have:=List.any_eq_false.mp (h.plain env pos) x hx
  cases e:x.1
  ·rfl
  ·exact absurd e this
 rw[h2]
 exact decide_eq_true (show es.length+0+0<30 by lia)
structure tU(m:Me)(T id:String):Prop where
 pa:PlainAttrs T
 slot:Slot T (ph m).1 id
 ty:typeOf (.builtin id)=pure (.type "method_descriptor")
 v8:(ph m).2<20
 kind:∀(P:Pt) (v:V) (x:Value),bf P.w v x->tC m P.H v=true->P.s.TypeIs x T/\∀a,x=.ref a->∃ob,P.s.heap.get? a=some ob/\ob.dict=none
 run:∀(P:Pt) (v:V) (x:Value) (us:List V) (zs:List Value) (post:PQ) (Q:Value->Shared->Prop),bf P.w v x->bu P.w us zs->tD m v us P.H post->Kn P post Q->wpAny X.M P.A (call (.builtin id) (x::zs)) Q NE P.s
theorem Lq{m:Me}{T id:String}{a:E}{o:Expr}{cs:List E}{es:List Expr}{ap pos:Pos}(M:tU m T id)(ho:yI o=true)(Lr:(ap.endLine==pos.line)=true)(hl:es.length=(ph m).2)(ha:b0 σ a o)(h:eX σ cs es):b0 σ (.dP m a cs) (.Call (.Attribute o (ph m).1 ap) es [] pos):=λP post Q p k=>
 wpAny_Call_method (Lo ho _ P.env) (Lp h (hl▸M.v8) P.env) Lr M.pa M.slot M.ty (ha P _ _ p (λv H1 p1 N x r=>ez.k p1 λhk p1=>
  have q:=M.kind N.pt v x r hk
  ⟨q.1,q.2,Calls.callWith_builtin (h.plain P.env pos) (pI (h.plain P.env pos) (h.ng (P.to N) _ _ pos p1 (λus H2 p2 ζ N2 zs r2=>M.run N2.pt v x us zs post Q (r.mono N2.S) r2 p2 ((k.nx N).nx N2))))⟩))
theorem Kn.qY{l:Nat}{a:Addr}{vs:List V}{ys:List Value}{j:Nat}{h':Heap}(k:Kn P post Q)(ha:P.φ[l]?=some a)(he:ExtBut a P.s.heap h')(hg:h'.get? a=some (gA ys j))(r:bu P.w vs ys)(hz:vs.length<=16000000)(p:qY (.ref l) vs P.H post)(tk:Nat):Q .none (upd P.s h' tk):=
 k _ _ p (P.set ha he (.list hg (r.kp (P.ro ha he)) hz) tk) _ .none
theorem DS(P:Pt)(v:V)(x:Value)(r:bf P.w v x)(h:(cP P.H v).isSome=true):P.s.TypeIs x "list"/\∀a,x=.ref a->∃ob,P.s.heap.get? a=some ob/\ob.dict=none:=
 (Option.isSome_iff_exists.mp h).elim λvs e=>bE r e (λx=>P.s.TypeIs x "list"/\∀a,x=.ref a->∃ob,P.s.heap.get? a=some ob/\ob.dict=none) λζ a xs m ζ ζ ζ h1 ζ ζ=>⟨(iz h1).typeIs,λb e=>Value.ref.inj e▸⟨_,h1,rfl⟩⟩
theorem Ls:tU .append "list" "list.append" where
 pa:=PySem.F.plainAttrs_list
 slot:=PySem.F.slot_list_append
 ty:=PySem.F.type_list_append
 v8:=by decide
 kind:=DS
 run:=λP v x us zs post Q r rz p k=>be.k p λxs e p=>w1.k p (λus=>bu P.w us zs->_) (λu p rz=>ez.k p λhz p=>rz.k1 (λzs=>wpAny X.M P.A (call (.builtin "list.append") (x::zs)) Q NE P.s) λz rz=>bE r e (λx=>wpAny X.M P.A (call (.builtin "list.append") [x,z]) Q NE P.s) λl a ys m ev ζ ha h1 h2 h3=>
  wpAny_list_append_plain (items:=ys.toArray) ⟨m,h1⟩ (λh' hp hs=>hp.elim λj hj=>k.qY (l:=l) (vs:=xs++[u]) ha hs.extBut (by rw[hj,List.push_toArray]) (h2.append (.one rz)) (by rw[length_append];exact of_decide_eq_true hz) (ev▸p) P.s.toks) (by rw[size_toArray,<-h2.length];unfold sizeLine;lia)) rz
theorem Lu:tU .clear "list" "list.clear" where
 pa:=PySem.F.plainAttrs_list
 slot:=PySem.F.slot_list_clear
 ty:=PySem.F.type_list_clear
 v8:=by decide
 kind:=DS
 run:=λP v x us zs post Q r rz p k=>be.k p λxs e p=>by
  cases us with
  |cons _ _=>exact p.elim
  |nil=>
   exact rz.inv (λzs=>wpAny X.M P.A (call (.builtin "list.clear") (x::zs)) Q NE P.s) (bE r e (λx=>wpAny X.M P.A (call (.builtin "list.clear") [x]) Q NE P.s) λl a ys m ev ζ ha h1 h2 h3=>
    call_meets PySem.F.slot_list_clear ⟨_,h1,rfl⟩ PySem.F.entry_list_clear (PySem.F.args_list_clear_1 _) (PySem.AutoSeq1.list_clear_list_0 a ys.toArray m (by rw[size_toArray,<-h2.length];unfold sizeLine;lia)) ⟨h1,k.qY (l:=l) (vs:=[]) ha (SameBut.update ..).extBut (get?_update_seq h1 λζ=>#[]) .nil (zero_le _) (ev▸p) _⟩)
theorem Lw(G:Good X):tU .lu "dict" "dict.get" where
 pa:=PySem.F.plainAttrs_dict
 slot:=PySem.F.slot_dict_get
 ty:=PySem.F.type_dict_get
 v8:=by decide
 kind:=λP v x r h=>(Option.isSome_iff_exists.mp h).elim λes e=>rp r G e (λx=>P.s.TypeIs x "dict"/\∀a,x=.ref a->∃ob,P.s.heap.get? a=some ob/\ob.dict=none) λζ ζ a kvs ζ ζ ζ h1 ζ ζ ζ=>⟨h1.typeIs,λb e=>Value.ref.inj e▸h1.elim λo w=>w.elim λζ w=>w.elim λζ w=>⟨o,w.1,w.2.1.2.1⟩⟩
 run:=λP v x us zs post Q r rz p k=>be.k p λes e p=>w2.k p (λus=>bu P.w us zs->_) (λu d p rz=>rz.k2 (λzs=>wpAny X.M P.A (call (.builtin "dict.get") (x::zs)) Q NE P.s) λy z ry rz=>c3.k p (λu=>bf P.w u y->_) (λj p ry=>ry.inv (λy=>wpAny X.M P.A (call (.builtin "dict.get") [x,y,z]) Q NE P.s) λt=>rp r G e (λx=>wpAny X.M P.A (call (.builtin "dict.get") [x,_,z]) Q NE P.s) λζ ζ a kvs ζ ζ ζ h1 h2 hs ζ=>
  call_meetsIn PySem.F.slot_dict_get h1.typeIs PySem.F.entry_dict_get (PySem.F.args_dict_get_3 _ _ _) (meets_dict_get_default d7 a (k:=j) (key:=.int j t) (beq_self_eq_true j) hs _) ⟨_,h1.mapOf,by
   rcases yY h2 j with⟨w1,w2⟩|⟨vv,xx,w1,w2,w3⟩
   ·rw[w2];rw[w1] at p;exact k.now p rz _
   ·rw[w2];rw[w1] at p;exact k.now p w3 _⟩) ry) rz
end
section
variable{σ:Lv}{Q:Value->Shared->Prop}{P:Pt}{post:PQ}{v:V}{x:Value}
theorem DT:∀{vs:List V} {is:List Int},allInts vs=some is->vs=is.map .int
 |[],is,h=>Option.some.inj h▸rfl
 |v::r,is,h=>eV h λi h1 h=>by
  cases v with
  |int j=>exact fj (λis=>V.int j::r=is.map .int) h λjs e=>by rw[map_cons,<-DT e,Option.some.inj h1]
  |_=>cases h1
theorem DU:∀{vs:List V} {is:List Bool},n0 vs=some is->vs=is.map .bool
 |[],is,h=>Option.some.inj h▸rfl
 |v::r,is,h=>eV h λi h1 h=>boolOf.k h1 (λv=>v::r=is.map .bool) (fj (λis=>V.bool i::r=is.map .bool) h λjs e=>by rw[map_cons,<-DU e])
theorem intsAre_of{p:Ws}:∀{is:List Int} {xs:List Value},bu p (is.map .int) xs->IntsAre xs is
 |[],xs,r=>r.inv (λxs=>IntsAre xs []) .nil
 |i::is,xs,r=>r.inv (λxs=>IntsAre xs (i::is)) λx xs r1 r2=>r1.inv (λx=>IntsAre (x::xs) (i::is)) λt=>.cons _ _ (intsAre_of r2)
theorem tV{is:List Int}(r:bf P.w v x)(e:jp P.H v=some is)(T:Value->Prop)(k:∀a xs,P.s.heap.IsList a xs.toArray->IntsAre xs is->T (.ref a)):T x:=
 eV e λvs h1 h2=>bE r h1 T λζ a xs m ζ ζ ζ g1 g2 ζ=>k a xs (iz g1) (intsAre_of (by rw[<-DT h2];exact g2))
theorem Kn.later{x:Value}{h':Heap}(k:Kn P post Q)(p:post v P.H)(r:bf P.w v x)(e:aI P.s.heap h')(tk:Nat):Q x (upd P.s h' tk):=k _ _ p (P.ext e tk) _ (r.mono (P.ext e tk).S)
theorem Lx(G:Good X)(r:bf P.w v x)(p:be (lB P.H v) λl=>post (.int l.length) P.H)(k:Kn P post Q):wpAny X.M P.A (call (.builtin "len") [x]) Q NE P.s:=
 be.k p λl e p=>items G r e (λx=>wpAny X.M P.A (call (.builtin "len") [x]) Q NE P.s) (λζ a xs m h1 h2 h3 ζ=>PyProof.Rows.len_tuple (tG h1) (small h2 h3) (k.now (v:=.int l.length) p (by rw[size_toArray,<-h2.length];exact .int _ _) _)) λa xs h1 h2 h3=>call_len_list h1 (small h2 h3) (k.now (v:=.int l.length) p (by rw[size_toArray,<-h2.length];exact .int _ _) _)
theorem Ly{t:Ty}(r:bf P.w v x)(p:be (yN P.H t v) λb=>post (.bool b) P.H)(k:Kn P post Q):wpAny X.M P.A (call (.builtin "isinstance") [x,.type (l6 t)]) Q NE P.s:=by
 refine be.k p λb e p=>?_
 have fin:∀tk,Q (.bool b) (upd P.s P.s.heap tk):=λtk=>k.now p (.bool _) tk
 cases v with
 |bool c=>
  refine r.inv (λx=>wpAny X.M P.A (call (.builtin "isinstance") [x,.type (l6 t)]) Q NE P.s) ?_
  cases t with
  |bool=>cases e;exact IsiPair.bool_bool (fin _)
  |int=>cases e;exact IsiPair.bool_int (fin _)
  |_=>cases e
 |int i=>
  refine r.inv (λx=>wpAny X.M P.A (call (.builtin "isinstance") [x,.type (l6 t)]) Q NE P.s) λtk=>?_
  cases t with
  |bool=>cases e;exact IsiPair.int_bool (fin _)
  |int=>cases e;exact IsiPair.int_int (fin _)
  |_=>cases e
 |aP vs=>
  cases t with
  |tuple=>cases e;exact r.inv (λx=>wpAny X.M P.A (call (.builtin "isinstance") [x,.type "tuple"]) Q NE P.s) λa m xs h1 ζ ζ ζ=>IsiPair.tuple_tuple h1 rfl (fin _)
  |_=>cases e
 |str s=>
  cases t with
  |str=>cases e;exact r.inv (λx=>wpAny X.M P.A (call (.builtin "isinstance") [x,.type "str"]) Q NE P.s) λtk=>IsiPair.str_str (fin _)
  |_=>cases e
 |ref l=>
  cases t with
  |list=>exact fj (λb=>(∀tk,Q (.bool b) (upd P.s P.s.heap tk))->_) e (λvs e fin=>bE r e (λx=>wpAny X.M P.A (call (.builtin "isinstance") [x,.type "list"]) Q NE P.s) λζ a xs m ζ ζ ζ h1 ζ ζ=>IsiPair.list_list h1 rfl (fin _)) fin
  |_=>cases e
 |_=>cases e
theorem Lz(r:bf P.w v x)(p:be (jp P.H v) λis=>post (.int is.sum) P.H)(k:Kn P post Q):wpAny X.M P.A (call (.builtin "sum") [x]) Q NE P.s:=
 be.k p λis e p=>tV r e (λx=>wpAny X.M P.A (call (.builtin "sum") [x]) Q NE P.s) λa xs h1 hI=>hI.allInts.items.elim λzs hx=>sum_intListG P.rm.handled (hx▸h1) λh' tk t' hk=>by
  have e1:is=zs.toList.map (·.1):=by
   rw[<-nums_intItems,<-hx]
   exact(show numsOf xs.toArray.toList=is from hI.numsOf).symm
  rw[preSum_eq,List.take_of_length_le (by rw[length_map,length_toList];exact le_refl _),<-e1]
  exact k.later p (.int _ _) hk tk
theorem LA(r:bf P.w v x)(p:be ((cP P.H v).bind n0) λbs=>post (.bool (bs.any id)) P.H)(k:Kn P post Q):wpAny X.M P.A (call (.builtin "any") [x]) Q NE P.s:=
 be.k p λbs e p=>eV e λvs e1 e2=>bE r e1 (λx=>wpAny X.M P.A (call (.builtin "any") [x]) Q NE P.s) λζ a xs m ζ ζ ζ h1 h2 ζ=>by
  rw[DU e2] at h2
  refine call_any_walk (wpAny_pyIter_list (iz h1) ⟨P.s.heap.objs.size,[P.s.heap.objs.size,a],[P.s.heap.objs.size],xs.toArray.size,_,_,λi=>(bs[i]?).getD false,rfl,Walks.list (A:=P.A.in1) P.rm.handled _ a (ne_of_lt (lt_size h1)) xs.toArray,
   ⟨⟨_,get?_push_size _ rfl,rfl,rfl⟩,(iz h1).push _⟩,λi w s' Q' E' hP hQ=>?_,λh' tk hk=>?_⟩)
  ·have v9:xs[i]?=some w:=by rw[<-getElem?_toArray];exact hP
   have rC:i<bs.length:=by rw[<-length_map (f:=V.bool),h2.length];exact(List.getElem?_eq_some_iff.mp v9).1
   refine h2.get (i:=i) (v:=.bool bs[i]) (by rw[getElem?_map,getElem?_eq_getElem rC];rfl) λy hy ry=>?_
   rw[v9] at hy;cases hy
   have hQ:Q' ((bs[i]?).getD false) s':=hQ
   rw[show(bs[i]?).getD false=bs[i] by rw[getElem?_eq_getElem rC];rfl] at hQ
   exact ry.inv (λw=>wpAny X.M P.A.in1 (PySem.truthy w) Q' E' s') (wpAny_truthy_bool hQ)
  ·rw[show((List.range xs.toArray.size).any λi=>(bs[i]?).getD false)=bs.any id by rw[size_toArray,<-h2.length,length_map];exact LSm.range_any bs]
   exact k.later p (.bool _) (LSm.kept_iter hk) tk
theorem LB{a b:Int}{t u:Tok}(p:post (.int (max a b)) P.H)(k:Kn P post Q):wpAny X.M P.A (call (.builtin "max") [.int a t,.int b u]) Q NE P.s:=
 max_two_ints P.rm.handled λh' tk hk=>by
  by_cases pR:b>a
  ·rw[if_pos pR];exact k.later p (by rw[Int.max_eq_right (Int.le_of_lt pR)];exact .int _ _) hk tk
  ·rw[if_neg pR];exact k.later p (by rw[Int.max_eq_left (Int.not_lt.mp pR)];exact .int _ _) hk tk
theorem LC(r:bf P.w v x)(p:be (cP P.H v) λxs=>post (.aP xs) P.H)(k:Kn P post Q):wpAny X.M P.A (call (.type "tuple") [x]) Q NE P.s:=
 be.k p λvs e p=>bE r e (λx=>wpAny X.M P.A (call (.type "tuple") [x]) Q NE P.s) λζ a xs m ζ ζ ζ h1 h2 h3=>call_tuple_list (iz h1) (λh' hk=>
  have e:aI P.s.heap (h'.push (gO xs 0)):=λb o x=>get?_push_of_some _ (hk b o x)
  k _ _ p (P.ext e P.s.toks) _ (.aP (n:=0) (get?_push_size _ rfl) (h2.mono (P.ext e P.s.toks).S) h3 (SR.new (p:=⟨P.φ,h'⟩) (SR.ext (p:=P.w) P.R hk) (fF _ (le_refl _))).1)) (by rw[size_toArray,<-h2.length];unfold sizeLine;exact le_trans h3 (by decide))
theorem LD(r:bf P.w v x)(p:be (jp P.H v) λis=>is.length<64/\∀js:List Int,js.Perm is->js.Pairwise (·<=·)->jq (js.map .int) P.H post)(k:Kn P post Q):wpAny X.M P.A (call (.builtin "sorted") [x]) Q NE P.s:=
 be.k p λis e p=>tV r e (λx=>wpAny X.M P.A (call (.builtin "sorted") [x]) Q NE P.s) λa xs h1 hI=>sorted_ints h1 hI (by rw[hI.length];exact p.1) λout js q1 q2 q3=>(sortedAll_at P.s.heap xs out).elim λc he=>Kn.list k (λb o x=>sortedAll_old x) _ (fF _ (le_succ _)) he (vF q1) (by rw[length_map,q2.length_eq];exact le_trans (le_of_lt p.1) (by decide)) (p.2 js q2 q3) P.s.toks
end
section
variable{A:Around}{E:Value->Shared->Prop}{s:Shared}{R:Result->Shared->Prop}{kw:List (Str×Value)}
theorem rL:(toString "min"++toString ".loop":String)="min.loop":=by decide
theorem LF{i j:Int}{t u:Tok}{Q:Value->Shared->Prop}(h:Q (.bool (decide (i<j))) s):wpAny X.M A (richCompare .Lt (.int i t) (.int j u)) Q E s:=
 richCompare_gives (op:=.Lt) (typeIs_int s _ t) (typeIs_int s _ u) PySem.F.slot_int_lt PySem.F.entry_int_lt (PySem.F.args_int_lt_2 _ _) (gives_int_lt _ _ t u) (λx=>nomatch x) h
theorem iQ{h:Heap}{a b:Addr}{o:Obj}{f:Obj->Obj}(hn:b≠a)(e:h.get? b=some o):(h.update a f).get? b=some o:=(Heap.get?_update_other _ _ (Ne.symm hn)).trans e
theorem DV{I S a:Addr}{vs:Array Value}(hh:A.handled=none)(rM:a≠I)(gE:S≠I)(rN:S≠a){xs:List Value}{is:List Int}(hI:IntsAre xs is):∀(j:Nat) (s:Shared) (m:Int) (t:Tok) (c:Nat),vs.toList.drop j=xs->s.heap.IsListIter I a j->s.heap.IsList a vs ->
  s.heap.get? S=some {cls:=.type "list",dict:=none,data:=.seq #[.int m t,.int m t] c,slots:=#[]} ->
  (∀t' h' tk,(∀b o,b≠I->b≠S->s.heap.get? b=some o->h'.get? b=some o)->R (.ok (.ret (.int (is.foldl min m) t'))) {s with heap:=h',toks:=tk}) ->
  codeAny X.M A (.builtin "min.loop" ⟨[.ref I,.none,.ref S],kw⟩) R s:=by
 induction hI with
 |nil=>
  intro j s m t c hd dI hl hS hR
  refine codeAny_builtin PySem.F.entry_min_loop ?_
  rw[Around.under_plainId PySem.F.plain_min_loop _]
  refine(?_:wpAny _ A.in1 (seqItems? (.ref S) >>= _) _ _ s)
  refine wpAny_bind (wpAny_seqItems hS rfl ?_)
  refine(?_:wpAny _ A.in1 (tryCatch (pyNext (.ref I)) _ >>= _) _ _ s)
  refine wpAny_bind (wpAny_tryCatch (wpAny_pyNext_list_end hh dI hl (by rw[<-getElem?_toList];exact List.getElem?_eq_none_iff.mpr (drop_eq_nil_iff.mp hd)) λh' he=>?_))
  refine(?_:wpAny _ A.in1 (updateSeq S (λζ=>#[]) >>= _) _ _ _)
  exact wpAny_bind (wpAny_updateSeq (he S _ gE hS) rfl (wpAny_bind (wpAny_letGo (wpAny_pure (hR t _ s.toks λb o hI hS e=>iQ hS (he b o hI e))))))
 |cons i u h ih=>
  intro j s m t c hd dI hl hS hR
  have hx:vs[j]?=some (.int i u):=by rw[<-getElem?_toList,<-List.head?_drop,hd];rfl
  have fY:=(List.tail_drop (l:=vs.toList) (i:=j)).symm.trans (congrArg tail hd)
  refine codeAny_builtin PySem.F.entry_min_loop ?_
  rw[Around.under_plainId PySem.F.plain_min_loop _]
  refine(?_:wpAny _ A.in1 (seqItems? (.ref S) >>= _) _ _ s)
  refine wpAny_bind (wpAny_seqItems hS rfl ?_)
  refine(?_:wpAny _ A.in1 (tryCatch (pyNext (.ref I)) _ >>= _) _ _ s)
  refine wpAny_bind (wpAny_tryCatch (wpAny_pyNext_list_item dI hl hx λh' jH cQ=>?_))
  have fG:=cQ.extBut S _ gE hS
  have iP:=hl.extBut cQ.extBut rM
  refine(?_:wpAny _ A.in1 (tryCatch (holding [Value.int i u,Value.int i u] (richCompare .Lt (Value.int i u) (Value.int m t) >>= _)) _ >>= _) _ _ _)
  refine wpAny_bind (wpAny_tryCatch (wpAny_holding (wpAny_bind (LF (wpAny_bind (wpAny_holding (wpAny_truthy_bool (wpAny_bind (wpAny_letGo (wpAny_pure ?_))))))))))
  by_cases hb:i<m
  ·rw[decide_eq_true hb]
   refine wpAny_bind (wpAny_updateSeq fG rfl (wpAny_bind (wpAny_letGo ?_)))
   rw[rL]
   exact wpAny_pure ⟨plainId_quiet PySem.F.plain_min_loop _,ih (j+1) _ i u _ fY (jH.at λo e=>iQ gE.symm e) (iP.at λo e=>iQ rN.symm e) (get?_update_self _ fG rfl) λt' kj tk hk=>by
    have:=hR t' kj tk λb o hI hS e=>hk b o hI hS (iQ hS (cQ.extBut b o hI e))
    rw[foldl_cons,Int.min_eq_right (Int.le_of_lt hb)] at this
    exact this⟩
  ·rw[decide_eq_false hb]
   refine wpAny_bind (wpAny_letGo ?_)
   rw[rL]
   exact wpAny_pure ⟨plainId_quiet PySem.F.plain_min_loop _,ih (j+1) _ m t c fY jH iP fG λt' kj tk hk=>by
    have:=hR t' kj tk λb o hI hS e=>hk b o hI hS (cQ.extBut b o hI e)
    rw[foldl_cons,Int.min_eq_left (Int.not_lt.mp hb)] at this
    exact this⟩
theorem LG{I S a:Addr}{dn:Str}{d:Value}{c:Nat}{xs:List Value}{is:List Int}(hh:A.handled=none)(rM:a≠I)(gE:S≠I)(rN:S≠a)(hI:IntsAre xs is)(dI:s.heap.IsListIter I a 0)(hl:s.heap.IsList a xs.toArray)
  (hS:s.heap.get? S=some {cls:=.type "list",dict:=none,data:=.seq #[] c,slots:=#[]})
  (hR:∀v h' tk,(is=[]/\v=d\/∃i r t,is=i::r/\v=.int (r.foldl min i) t)->(∀b o,b≠I->b≠S->s.heap.get? b=some o->h'.get? b=some o)->R (.ok (.ret v)) {s with heap:=h',toks:=tk}) :
  codeAny X.M A (.builtin "min.loop" ⟨[.ref I,.none,.ref S],[(dn,d)]⟩) R s:=by
 refine codeAny_builtin PySem.F.entry_min_loop ?_
 rw[Around.under_plainId PySem.F.plain_min_loop _]
 refine(?_:wpAny _ A.in1 (seqItems? (.ref S) >>= _) _ _ s)
 refine wpAny_bind (wpAny_seqItems hS rfl ?_)
 refine(?_:wpAny _ A.in1 (tryCatch (pyNext (.ref I)) _ >>= _) _ _ s)
 cases hI with
 |nil=>exact wpAny_bind (wpAny_tryCatch (wpAny_pyNext_list_end hh dI hl rfl λh' he=>wpAny_bind (wpAny_rule (wpAny_pure (hR d h' s.toks (.inl ⟨rfl,rfl⟩) λb o hI ζ e=>he b o hI e)))))
 |cons i u h=>
  refine wpAny_bind (wpAny_tryCatch (wpAny_pyNext_list_item dI hl (x:=.int i u) rfl λh' jH cQ=>?_))
  have fG:=cQ.extBut S _ gE hS
  refine(?_:wpAny _ A.in1 (updateSeq S (λζ=>#[.int i u,.int i u]) >>= _) _ _ _)
  refine wpAny_bind (wpAny_updateSeq fG rfl ?_)
  rw[rL]
  exact wpAny_pure ⟨plainId_quiet PySem.F.plain_min_loop _,DV hh rM gE rN h 1 _ i u _ rfl (jH.at λo e=>iQ gE.symm e) ((hl.extBut cQ.extBut rM).at λo e=>iQ rN.symm e) (get?_update_self _ fG rfl) λt' kj tk hk=>hR _ kj tk (.inr ⟨i,_,t',rfl,rfl⟩) λb o hI hS e=>hk b o hI hS (iQ hS (cQ.extBut b o hI e))⟩
theorem zl{id:String}{b:Builtin}{args:List Value}{Q:Value->Shared->Prop}(hk:builtinKind id=none)(hp:plainId id=true)(hb:entryFor table id=some b)(ha:argsOk id ⟨args,kw⟩)
  (hc:wpAny X.M A.in1 (b ⟨args,kw⟩) (λfin s'=>match fin with
   |.done f=>(match(Except.ok f:Result) with | .ok (.ret v)=>Q v s' | .ok _=>False | .error e=>E e s')
   |.again c'=>c'.quiet=true/\codeAny X.M A c' (λr s'=>match r with | .ok (.ret v)=>Q v s' | .ok _=>False | .error e=>E e s') s') E s) :
  wpAny X.M A (call (.builtin id) args kw) Q E s:=by
 refine wpAny_call (codeAny_call_builtin hp hb ?_)
 rw[checkBuiltinCall,hk]
 cases LI:Manifest.signature? id with
 |none=>exact wpAny_pure hc
 |some sig=>
  have zo:Bind.checkArgs id sig ⟨args,kw⟩=pure ():=by simpa only[argsOk,LI] using ha
  simp only[zo]
  exact wpAny_pure hc
theorem LJ{Q:Value->Shared->Prop}{l:Addr}{xs:List Value}{is:List Int}{d:Value}(hh:A.handled=none)(hl:s.heap.IsList l xs.toArray)(hI:IntsAre xs is)
  (hQ:∀v h' tk,(is=[]/\v=d\/∃i r t,is=i::r/\v=.int (r.foldl min i) t)->(∀b o,s.heap.get? b=some o->h'.get? b=some o)->Q v {s with heap:=h',toks:=tk}) :
  wpAny X.M A (call (.builtin "min") [.ref l] [("default",d)]) Q E s:=by
 have bX:l<s.heap.objs.size:=hl.elim λζ e=>lt_size e.1
 refine zl PySem.F.kind_min PySem.F.plain_min PySem.F.entry_min (by unfold argsOk;rfl) ?_
 refine(?_:wpAny _ A.in1 (Builtin.Builtins.bindParams "min" ["key","default"] 0 ⟨[],[("default",d)]⟩ >>= _) _ _ s)
 refine wpAny_bind (wpAny_of_eq (show Builtin.Builtins.bindParams "min" ["key","default"] 0 ⟨[],[("default",d)]⟩=pure [none,some d] from rfl) (wpAny_bind (wpAny_pure (wpAny_bind (wpAny_pyIter_list hl (wpAny_bind (wpAny_newObj_type ?_)))))))
 rw[rL]
 have e1:(s.heap.push {cls:=.type "list_iterator",data:=.fields #[.ref l,.int 0 0]}).objs.size=s.heap.objs.size+1:=size_push ..
 exact wpAny_pure ⟨plainId_quiet PySem.F.plain_min_loop _,LG (I:=s.heap.objs.size) (S:=(s.heap.push {cls:=.type "list_iterator",data:=.fields #[.ref l,.int 0 0]}).objs.size) hh (ne_of_lt bX) (by rw[e1];exact succ_ne_self _) (by rw[e1];exact ne_of_gt (lt_succ_of_lt bX)) hI ⟨_,get?_push_of_some _ (get?_push_size _ rfl),rfl,rfl⟩ ((hl.push _).push _) (get?_push_size _ rfl)
  λv h' tk hv hk=>hQ v h' tk hv λb o e=>hk b o (ne_of_lt (lt_size e)) (by rw[e1];exact ne_of_lt (lt_succ_of_lt (lt_size e))) (get?_push_of_some _ (get?_push_of_some _ e))⟩
end
section
variable{A:Around}{E:Value->Shared->Prop}{s:Shared}{R:Result->Shared->Prop}
theorem LK{Q:Value->Shared->Prop}{l:Addr}{xs:List Value}{i:Int}{is:List Int}{u:Tok}(hh:A.handled=none)(hl:s.heap.IsList l (.int i u::xs).toArray)(hI:IntsAre xs is)
  (hQ:∀t h' tk,(∀b o,s.heap.get? b=some o->h'.get? b=some o)->Q (.int (is.foldl min i) t) {s with heap:=h',toks:=tk}) :
  wpAny X.M A (call (.builtin "min") [.ref l]) Q E s:=by
 have bX:l<s.heap.objs.size:=hl.elim λζ e=>lt_size e.1
 refine zl PySem.F.kind_min PySem.F.plain_min PySem.F.entry_min (by unfold argsOk;rfl) ?_
 refine(?_:wpAny _ A.in1 (Builtin.Builtins.bindParams "min" ["key","default"] 0 ⟨[],[]⟩ >>= _) _ _ s)
 refine wpAny_bind (wpAny_of_eq (show Builtin.Builtins.bindParams "min" ["key","default"] 0 ⟨[],[]⟩=pure [none,none] from rfl) (wpAny_bind (wpAny_pure (wpAny_bind (wpAny_pyIter_list hl (wpAny_bind (wpAny_newObj_type ?_)))))))
 rw[rL]
 have e1:(s.heap.push {cls:=.type "list_iterator",data:=.fields #[.ref l,.int 0 0]}).objs.size=s.heap.objs.size+1:=size_push ..
 refine wpAny_pure ⟨plainId_quiet PySem.F.plain_min_loop _,codeAny_builtin PySem.F.entry_min_loop ?_⟩
 rw[Around.under_plainId PySem.F.plain_min_loop _]
 generalize hS:(s.heap.push {cls:=.type "list_iterator",data:=.fields #[.ref l,.int 0 0]}).objs.size=S at *
 have pS:((s.heap.push {cls:=.type "list_iterator",data:=.fields #[.ref l,.int 0 0]}).push {cls:=.type "list",data:=.seq #[]}).get? S=some {cls:=.type "list",dict:=none,data:=.seq #[] 0,slots:=#[]}:=by rw[<-hS];exact get?_push_size _ rfl
 refine(?_:wpAny _ A.in1 (seqItems? (.ref S) >>= _) _ _ _)
 refine wpAny_bind (wpAny_seqItems pS rfl ?_)
 refine(?_:wpAny _ A.in1 (tryCatch (pyNext (.ref s.heap.objs.size)) _ >>= _) _ _ _)
 have gE:S≠s.heap.objs.size:=by rw[e1];exact succ_ne_self _
 have tW:S≠l:=by rw[e1];exact ne_of_gt (lt_succ_of_lt bX)
 refine wpAny_bind (wpAny_tryCatch (wpAny_pyNext_list_item ⟨_,get?_push_of_some _ (get?_push_size _ rfl),rfl,rfl⟩ ((hl.push _).push _) (x:=.int i u) rfl λh' jH cQ=>?_))
 have fG:=cQ.extBut S _ gE pS
 refine(?_:wpAny _ A.in1 (updateSeq S (λζ=>#[.int i u,.int i u]) >>= _) _ _ _)
 refine wpAny_bind (wpAny_updateSeq fG rfl ?_)
 rw[rL]
 exact wpAny_pure ⟨plainId_quiet PySem.F.plain_min_loop _,DV hh (ne_of_lt bX) gE tW hI 1 _ i u _ rfl (jH.at λo e=>iQ gE.symm e) ((((hl.push _).push _).extBut cQ.extBut (ne_of_lt bX)).at λo e=>iQ tW.symm e) (get?_update_self _ fG rfl) λt' kj tk hk=>hQ t' kj tk λb o e=>
  have hb:=lt_size e
  hk b o (ne_of_lt hb) (by rw[e1];exact ne_of_lt (lt_succ_of_lt hb)) (iQ (by rw[e1];exact ne_of_lt (lt_succ_of_lt hb)) (cQ.extBut b o (ne_of_lt hb) (get?_push_of_some _ (get?_push_of_some _ e))))⟩
end
section
variable{Q:Value->Shared->Prop}{P:Pt}{post:PQ}{v:V}{x:Value}
theorem LM(r:bf P.w v x)(p:yQ v P.H post)(k:Kn P post Q):wpAny X.M P.A (call (.builtin "min") [x]) Q NE P.s:=
 be.k p λis e p=>tV r e (λx=>wpAny X.M P.A (call (.builtin "min") [x]) Q NE P.s) λa xs h1 hI=>by
  cases hI with
  |nil=>exact p.elim
  |cons i u h=>exact LK P.rm.handled h1 h λt h' tk hk=>k.later p (.int _ _) hk tk
end
noncomputable def ml(q:Int×Int):V:=.aP [.int q.1,.int q.2]
theorem vx.k{x:V}{q:Int×Int}(h:vx x=some q)(P:V->Prop)(k:P (ml q)):P x:=
 eV h λvs e h=>l9.k e P (two.k h (λvs=>P (.aP vs)) λa b h=>eV h λi e h=>intOf.k e (λa=>P (.aP [a,b])) (fj (λq=>P (ml q)->P (.aP [.int i,b])) h (λc e k=>intOf.k e (λb=>P (.aP [.int i,b])) k) k))
theorem DW:∀{vs:List V} {qs:List (Int×Int)},qX vs=some qs->vs=qs.map ml
 |[],qs,h=>Option.some.inj h▸rfl
 |v::r,qs,h=>eV h λi h1 h=>vx.k h1 (λv=>v::r=qs.map ml) (fj (λqs=>ml i::r=qs.map ml) h λjs e=>by rw[map_cons,<-DW e])
inductive II(h:Heap)(q:Int×Int):Value->Prop
 |mk (a:Addr) (t u:Tok) (n:Nat) (e:h.get? a=some (gO [.int q.1 t,.int q.2 u] n)):II h q (.ref a)
theorem LN{p:Ws}{q:Int×Int}{x:Value}(r:bf p (ml q) x):II p.h q x:=
 r.inv (λx=>II p.h q x) λa n xs h1 rl ζ ζ=>rl.k2 (λxs=>p.h.get? a=some (gO xs n)->II p.h q (.ref a)) (λx y r1 r2=>r1.inv (λx=>p.h.get? a=some (gO [x,y] n)->II p.h q (.ref a)) λt=>r2.inv (λy=>p.h.get? a=some (gO [_,y] n)->II p.h q (.ref a)) λu h=>⟨a,t,u,n,h⟩) h1
noncomputable def tX(p q:Int×Int):Bool:=if p.1=q.1 then decide (p.2>q.2) else decide (p.1>q.1)
noncomputable def jI(q p:Int×Int):Int×Int:=if tX p q then p else q
noncomputable def ox(p q:Int×Int):Prop:=p.1<q.1\/p.1=q.1/\p.2<=q.2
theorem ox.trans{p q r:Int×Int}(h:ox p q)(k:ox q r):ox p r:=h.elim (λa=>.inl (k.elim (Int.lt_trans a) λb=>b.1▸a)) λa=>k.elim (λb=>.inl (a.1▸b)) λb=>.inr ⟨a.1.trans b.1,Int.le_trans a.2 b.2⟩
theorem DX(q p:Int×Int):ox q (jI q p)/\ox p (jI q p):=by
 unfold jI tX ox
 by_cases e:p.1=q.1
 ·rw[if_pos e]
  by_cases h:p.2>q.2
  ·rw[decide_eq_true h,if_pos rfl];exact⟨.inr ⟨e.symm,Int.le_of_lt h⟩,.inr ⟨rfl,Int.le_refl _⟩⟩
  ·rw[decide_eq_false h,if_neg Bool.false_ne_true];exact⟨.inr ⟨rfl,Int.le_refl _⟩,.inr ⟨e,Int.not_lt.mp h⟩⟩
 ·rw[if_neg e]
  by_cases h:p.1>q.1
  ·rw[decide_eq_true h,if_pos rfl];exact⟨.inl h,.inr ⟨rfl,Int.le_refl _⟩⟩
  ·rw[decide_eq_false h,if_neg Bool.false_ne_true];exact⟨.inr ⟨rfl,Int.le_refl _⟩,.inl (Int.lt_iff_le_and_ne.mpr ⟨Int.not_lt.mp h,e⟩)⟩
theorem LP(q p:Int×Int):jI q p=q\/jI q p=p:=by
 unfold jI
 split
 ·exact .inr rfl
 ·exact .inl rfl
theorem fold_max:∀(ps:List (Int×Int)) (q:Int×Int),ps.foldl jI q∈q::ps/\∀p∈q::ps,ox p (ps.foldl jI q)
 |[],q=>⟨.head _,λp hp=>by rw[mem_singleton.mp hp];exact .inr ⟨rfl,Int.le_refl _⟩⟩
 |p::ps,q=>by
  have h:=fold_max ps (jI q p)
  have hb:=h.2 _ (.head _)
  refine⟨(mem_cons.mp h.1).elim (λe=>?_) λh=>.tail _ (.tail _ h),λr hr=>(mem_cons.mp hr).elim (λe=>e▸(DX q p).1.trans hb) λhr=>(mem_cons.mp hr).elim (λe=>e▸(DX q p).2.trans hb) λhr=>h.2 r (.tail _ hr)⟩
  show ps.foldl jI (jI q p)∈_
  rw[e]
  exact(LP q p).elim (λe=>by rw[e];exact .head _) λe=>by rw[e];exact .tail _ (.head _)
section
variable{A:Around}{E:Value->Shared->Prop}{s:Shared}{R:Result->Shared->Prop}
theorem wa:(toString "max"++toString ".loop":String)="max.loop":=by decide
theorem DY{i j:Int}{t u:Tok}{Q:Value->Shared->Prop}(h:Q (.bool (decide (i>j))) s):wpAny X.M A (richCompare .Gt (.int i t) (.int j u)) Q E s:=
 richCompare_gives (op:=.Gt) (typeIs_int s _ t) (typeIs_int s _ u) PySem.F.slot_int_gt PySem.F.entry_int_gt (PySem.F.args_int_gt_2 _ _) (gives_int_gt _ _ t u) (λx=>nomatch x) h
theorem LQ{v v':Value}{p q:Int×Int}{Q:Value->Shared->Prop}(hv:II s.heap p v)(LR:II s.heap q v')(hu:A.units<cLine)(h:Q (.bool (tX p q)) s):wpAny X.M A (richCompare .Gt v v') Q E s:=by
 obtain⟨a,t,u,n,kN⟩:=hv
 obtain⟨b,t',u',n',pF⟩:=LR
 have DZ:s.TypeIs (.ref a) "tuple":=⟨_,kN,rfl⟩
 have D0:s.TypeIs (.ref b) "tuple":=⟨_,pF,rfl⟩
 refine wpAny_richCompare_same_room (op:=.Gt) DZ D0 PySem.F.slot_tuple_gt (wpAny_call_entry PySem.F.slot_tuple_gt DZ PySem.F.entry_tuple_gt ?_ (PySem.F.args_tuple_gt_2 _ _)) hu
 refine(?_:wpAny _ _ (isInstance (.ref b) (.type "tuple") >>= _) _ _ s)
 refine wpAny_bind (wpAny_isInstance D0 isSubtype_tuple_tuple ?_)
 rw[if_neg (by exact Bool.false_ne_true)]
 refine wpAny_bind (wpAny_tupleItemsOf kN rfl (wpAny_bind (wpAny_tupleItemsOf pF rfl ?_)))
 refine(?_:wpAny _ _ (forIn [(Value.int p.1 t,Value.int q.1 t'),(Value.int p.2 u,Value.int q.2 u')] _ _ >>= _) _ _ s)
 rw[forIn_cons]
 refine wpAny_bind (wpAny_bind (wpAny_bind (wpAny_eqBool_int ?_)))
 unfold tX at h
 by_cases h1:p.1=q.1
 ·rw[if_pos h1] at h
  rw[beq_iff_eq.mpr h1,if_neg (by exact Bool.false_ne_true)]
  refine wpAny_pure ?_
  dsimp only
  rw[forIn_cons]
  refine wpAny_bind (wpAny_bind (wpAny_eqBool_int ?_))
  by_cases h2:p.2=q.2
  ·rw[decide_eq_false (by rw[h2];exact Int.lt_irrefl _)] at h
   rw[beq_iff_eq.mpr h2,if_neg (by exact Bool.false_ne_true)]
   refine wpAny_pure ?_
   dsimp only
   rw[forIn_nil]
   exact wpAny_pure (wpAny_pure ⟨_,rfl,(λx=>nomatch x),h⟩)
  ·rw[beq_eq_false_iff_ne.mpr h2,if_pos (show(!false)=true from rfl)]
   exact wpAny_bind (wpAny_rule (wpAny_bind (DY (wpAny_bind (wpAny_pure (wpAny_pure (wpAny_pure (wpAny_pure ⟨_,rfl,(λx=>nomatch x),h⟩))))))))
 ·rw[if_neg h1] at h
  rw[beq_eq_false_iff_ne.mpr h1,if_pos (show(!false)=true from rfl)]
  exact wpAny_bind (wpAny_rule (wpAny_bind (DY (wpAny_bind (wpAny_pure (wpAny_pure (wpAny_pure (wpAny_pure ⟨_,rfl,(λx=>nomatch x),h⟩))))))))
theorem LS{I S a:Addr}{vs:Array Value}{dM:Heap}{M:Int×Int->Value->Prop}(hM:∀p v,M p v->II dM p v)(hh:A.handled=none)(hu:A.in1.units<cLine)(nI:dM.get? I=none)(nS:dM.get? S=none)(rM:a≠I)(gE:S≠I)(rN:S≠a){ps:List (Int×Int)}{xs:List Value}(hL:L2 M ps xs):∀(j:Nat) (s:Shared) (x:Value) (q:Int×Int) (c:Nat),vs.toList.drop j=xs->s.heap.IsListIter I a j->s.heap.IsList a vs->aI dM s.heap->M q x ->
  s.heap.get? S=some {cls:=.type "list",dict:=none,data:=.seq #[x,x] c,slots:=#[]} ->
  (∀x' h' tk,M (ps.foldl jI q) x'->aI dM h'->R (.ok (.ret x')) {s with heap:=h',toks:=tk}) ->
  codeAny X.M A (.builtin "max.loop" ⟨[.ref I,.none,.ref S],[]⟩) R s:=by
 have nb:∀{b:Addr} {o:Obj},dM.get? b=some o->b≠I/\b≠S:=λe=>⟨λe'=>bU (e'▸nI) e,λe'=>bU (e'▸nS) e⟩
 have ii:∀{p:Int×Int} {v:Value} {h:Heap},M p v->aI dM h->II h p v:=λm k=>(hM _ _ m).casesOn λa t u n e=>⟨a,t,u,n,k _ _ e⟩
 induction hL with
 |nil=>
  intro j s x q c hd dI hl hk hx hS hR
  refine codeAny_builtin PySem.F.entry_max_loop ?_
  rw[Around.under_plainId PySem.F.plain_max_loop _]
  refine(?_:wpAny _ A.in1 (seqItems? (.ref S) >>= _) _ _ s)
  refine wpAny_bind (wpAny_seqItems hS rfl ?_)
  refine(?_:wpAny _ A.in1 (tryCatch (pyNext (.ref I)) _ >>= _) _ _ s)
  refine wpAny_bind (wpAny_tryCatch (wpAny_pyNext_list_end hh dI hl (by rw[<-getElem?_toList];exact List.getElem?_eq_none_iff.mpr (drop_eq_nil_iff.mp hd)) λh' he=>?_))
  refine(?_:wpAny _ A.in1 (updateSeq S (λζ=>#[]) >>= _) _ _ _)
  exact wpAny_bind (wpAny_updateSeq (he S _ gE hS) rfl (wpAny_bind (wpAny_letGo (wpAny_pure (hR x _ s.toks hx λb o e=>iQ (nb e).2 (he b o (nb e).1 (hk b o e)))))))
 |@cons p v ps xs m _ ih=>
  intro j s x q c hd dI hl hk hx hS hR
  have hv:vs[j]?=some v:=by rw[<-getElem?_toList,<-List.head?_drop,hd];rfl
  have fY:=(List.tail_drop (l:=vs.toList) (i:=j)).symm.trans (congrArg tail hd)
  refine codeAny_builtin PySem.F.entry_max_loop ?_
  rw[Around.under_plainId PySem.F.plain_max_loop _]
  refine(?_:wpAny _ A.in1 (seqItems? (.ref S) >>= _) _ _ s)
  refine wpAny_bind (wpAny_seqItems hS rfl ?_)
  refine(?_:wpAny _ A.in1 (tryCatch (pyNext (.ref I)) _ >>= _) _ _ s)
  refine wpAny_bind (wpAny_tryCatch (wpAny_pyNext_list_item dI hl hv λh' jH cQ=>?_))
  have fG:=cQ.extBut S _ gE hS
  have iP:=hl.extBut cQ.extBut rM
  have gq:aI dM h':=λb o e=>cQ.extBut b o (nb e).1 (hk b o e)
  refine(?_:wpAny _ A.in1 (tryCatch (holding [v,v] (richCompare .Gt v x >>= _)) _ >>= _) _ _ _)
  refine wpAny_bind (wpAny_tryCatch (wpAny_holding (wpAny_bind (LQ (s:={s with heap:=h'}) (ii m gq) (ii hx gq) hu (wpAny_bind (wpAny_holding (wpAny_truthy_bool (wpAny_bind (wpAny_letGo (wpAny_pure ?_))))))))))
  rw[foldl_cons] at hR
  unfold jI at hR
  cases hb:tX p q with
  |true=>
   rw[hb,if_pos rfl] at hR
   refine wpAny_bind (wpAny_updateSeq fG rfl (wpAny_bind (wpAny_letGo ?_)))
   rw[wa]
   exact wpAny_pure ⟨plainId_quiet PySem.F.plain_max_loop _,ih (j+1) _ v p _ fY (jH.at λo e=>iQ gE.symm e) (iP.at λo e=>iQ rN.symm e) (λb o e=>iQ (nb e).2 (gq b o e)) m (get?_update_self _ fG rfl) λx' kj tk=>hR x' kj tk⟩
  |false=>
   rw[hb,if_neg Bool.false_ne_true] at hR
   refine wpAny_bind (wpAny_letGo ?_)
   rw[wa]
   exact wpAny_pure ⟨plainId_quiet PySem.F.plain_max_loop _,ih (j+1) _ x q c fY jH iP gq hx fG λx' kj tk=>hR x' kj tk⟩
theorem LU{Q:Value->Shared->Prop}{l:Addr}{x:Value}{xs:List Value}{q:Int×Int}{ps:List (Int×Int)}{M:Int×Int->Value->Prop}(hM:∀p v,M p v->II s.heap p v)(hh:A.handled=none)(hu:A.in1.units<cLine)(hl:s.heap.IsList l (x::xs).toArray)(hx:M q x)(hL:L2 M ps xs)
  (hQ:∀x' h' tk,M (ps.foldl jI q) x'->aI s.heap h'->Q x' {s with heap:=h',toks:=tk}):wpAny X.M A (call (.builtin "max") [.ref l]) Q E s:=by
 have bX:l<s.heap.objs.size:=hl.elim λζ e=>lt_size e.1
 refine zl PySem.F.kind_max PySem.F.plain_max PySem.F.entry_max (by unfold argsOk;rfl) ?_
 refine(?_:wpAny _ A.in1 (Builtin.Builtins.bindParams "max" ["key","default"] 0 ⟨[],[]⟩ >>= _) _ _ s)
 refine wpAny_bind (wpAny_of_eq (show Builtin.Builtins.bindParams "max" ["key","default"] 0 ⟨[],[]⟩=pure [none,none] from rfl) (wpAny_bind (wpAny_pure (wpAny_bind (wpAny_pyIter_list hl (wpAny_bind (wpAny_newObj_type ?_)))))))
 rw[wa]
 have e1:(s.heap.push {cls:=.type "list_iterator",data:=.fields #[.ref l,.int 0 0]}).objs.size=s.heap.objs.size+1:=size_push ..
 refine wpAny_pure ⟨plainId_quiet PySem.F.plain_max_loop _,codeAny_builtin PySem.F.entry_max_loop ?_⟩
 rw[Around.under_plainId PySem.F.plain_max_loop _]
 generalize hS:(s.heap.push {cls:=.type "list_iterator",data:=.fields #[.ref l,.int 0 0]}).objs.size=S at *
 have pS:((s.heap.push {cls:=.type "list_iterator",data:=.fields #[.ref l,.int 0 0]}).push {cls:=.type "list",data:=.seq #[]}).get? S=some {cls:=.type "list",dict:=none,data:=.seq #[] 0,slots:=#[]}:=by rw[<-hS];exact get?_push_size _ rfl
 refine(?_:wpAny _ A.in1 (seqItems? (.ref S) >>= _) _ _ _)
 refine wpAny_bind (wpAny_seqItems pS rfl ?_)
 refine(?_:wpAny _ A.in1 (tryCatch (pyNext (.ref s.heap.objs.size)) _ >>= _) _ _ _)
 have gE:S≠s.heap.objs.size:=by rw[e1];exact succ_ne_self _
 have tW:S≠l:=by rw[e1];exact ne_of_gt (lt_succ_of_lt bX)
 refine wpAny_bind (wpAny_tryCatch (wpAny_pyNext_list_item ⟨_,get?_push_of_some _ (get?_push_size _ rfl),rfl,rfl⟩ ((hl.push _).push _) (x:=x) rfl λh' jH cQ=>?_))
 have fG:=cQ.extBut S _ gE pS
 refine(?_:wpAny _ A.in1 (updateSeq S (λζ=>#[x,x]) >>= _) _ _ _)
 refine wpAny_bind (wpAny_updateSeq fG rfl ?_)
 rw[wa]
 exact wpAny_pure ⟨plainId_quiet PySem.F.plain_max_loop _,LS hM hh hu (fF _ (le_refl _)) (fF _ (by rw[e1];exact le_succ _)) (ne_of_lt bX) gE tW hL 1 _ x q _ rfl (jH.at λo e=>iQ gE.symm e) ((((hl.push _).push _).extBut cQ.extBut (ne_of_lt bX)).at λo e=>iQ tW.symm e)
  (λb o e=>have hb:=lt_size e;iQ (by rw[e1];exact ne_of_lt (lt_succ_of_lt hb)) (cQ.extBut b o (ne_of_lt hb) (get?_push_of_some _ (get?_push_of_some _ e)))) hx (get?_update_self _ fG rfl) λx' kj tk hm hk=>hQ x' kj tk hm hk⟩
end
section
variable{Q:Value->Shared->Prop}{P:Pt}{post:PQ}{v:V}{x:Value}
theorem LV{p:Ws}{qs:List (Int×Int)}:∀{xs:List Value},bu p (qs.map ml) xs->L2 (λq x=>bf p (ml q) x) qs xs:=by
 induction qs with
 |nil=>exact λr=>r.inv (λxs=>L2 _ [] xs) .nil
 |cons q qs ih=>exact λr=>r.inv (λxs=>L2 _ (q::qs) xs) λx xs r1 r2=>.cons r1 (ih r2)
theorem LX(r:bf P.w v x)(p:yP v P.H post)(k:Kn P post Q):wpAny X.M P.A (call (.builtin "max") [x]) Q NE P.s:=
 be.k p λqs e p=>eV e λvs e1 e2=>bE r e1 (λx=>wpAny X.M P.A (call (.builtin "max") [x]) Q NE P.s) λl a xs m ζ ζ ζ h1 h2 ζ=>by
  rw[DW e2] at h2
  cases qs with
  |nil=>exact absurd rfl p.1
  |cons q qs=>
   refine h2.inv (λxs=>P.s.heap.get? a=some (gA xs m)->_) (λy ys r1 r2 h1=>?_) h1
   have f:=fold_max qs q
   exact LU (M:=λq x=>bf P.w (ml q) x) (λζ ζ r=>LN r) P.rm.handled (by have:=P.rm.units;refine(?_:P.A.units+1<cLine);exact P.u1) (iz h1) r1 (LV r2) λx' h' tk hm hk=>k.later (p.2 _ f.1 f.2) hm hk tk
end
section
variable{σ:Lv}{cs:List E}{es:List Expr}{g:Expr}{pos:Pos}
theorem LY{T:Value->List Value->Prop}{post:List V->Hp->Prop}{P:Fp σ}{Q:Value->Shared->Prop}{nm:Str}{y:Value}(G:Good X)(hg:dU σ.f nm g=true)(hm:(nm,y)∈l8)(hy:(∃T,y=.type T)\/∃T,y=.builtin T)(h:eX σ cs es)(p:m7 (aM σ.m) cs P.ρ P.H post)(k:yU P.toPt cs.length post λxs bF=>wpAny X.M P.A (call y xs) Q NE bF):wpAny X.M P.A (eval (.Call g es [] pos) P.env) Q NE P.s:=
 hy.elim (λhy=>pL G hg hm hy h p k) λhy=>ft.k (G:=λg=>wpAny X.M P.A (eval (.Call g es [] pos) P.env) Q NE P.s) hg λx np hg=>bg hg λe ho=>by
  obtain rfl:=eq_of_beq e
  obtain⟨T,rfl⟩:=hy
  exact wpAny_Call_NameR (oj G P hm ho (Calls.callWith_builtin (h.plain P.env pos) (pI (h.plain P.env pos) (h.ng P _ _ pos p k))))
theorem LZ{b:Bi}{q:Str×Nat}(hb:s7 b=some q)(G:Good X){T:Prop}(k:∀y,(q.1,y)∈l8->((∃T,y=.type T)\/∃T,y=.builtin T) ->
  (∀(P:Pt) (vs:List V) (xs:List Value) (post:PQ) (Q:Value->Shared->Prop),bu P.w vs xs->pC b vs P.H post->Kn P post Q->wpAny X.M P.A (call y xs) Q NE P.s)->T):T:=by
 have one:∀{y:Value} {f:Hp->V->PQ->Prop},(∀(P:Pt) (v:V) (x:Value) (post:PQ) (Q:Value->Shared->Prop),bf P.w v x->f P.H v post->Kn P post Q->wpAny X.M P.A (call y [x]) Q NE P.s) ->
   ∀(P:Pt) (vs:List V) (xs:List Value) (post:PQ) (Q:Value->Shared->Prop),bu P.w vs xs->w1 vs (λv=>f P.H v post)->Kn P post Q->wpAny X.M P.A (call y xs) Q NE P.s:=λh P vs xs post Q r p k=>
  w1.k p (λvs=>bu P.w vs xs->_) (λv p r=>r.k1 (λxs=>wpAny X.M P.A (call _ xs) Q NE P.s) λx r=>h P v x post Q r p k) r
 cases b with
 |len=>cases hb;exact k _ (fV 0 (by decide)) (.inr ⟨_,rfl⟩) (one (f:=λH v post=>be (lB H v) λl=>post (.int l.length) H) λP v x post Q r p k=>Lx G r p k)
 |sU=>cases hb;exact k _ (fV 8 (by decide)) (.inr ⟨_,rfl⟩) (one (f:=λH v post=>be (jp H v) λis=>post (.int is.sum) H) λP v x post Q r p k=>Lz r p k)
 |any=>cases hb;exact k _ (fV 11 (by decide)) (.inr ⟨_,rfl⟩) (one (f:=λH v post=>be ((cP H v).bind n0) λbs=>post (.bool (bs.any id)) H) λP v x post Q r p k=>LA r p k)
 |max2=>cases hb;exact k _ (fV 13 (by decide)) (.inr ⟨_,rfl⟩) λP vs xs post Q r p k=>w2.k p (λvs=>bu P.w vs xs->_) (λu v p r=>r.k2 (λxs=>wpAny X.M P.A (call _ xs) Q NE P.s) λx y rx ry=>c3.k p (λu=>bf P.w u x->_) (λa p rx=>c3.k p (λv=>bf P.w v y->_) (λb p ry=>rx.inv (λx=>wpAny X.M P.A (call _ [x,y]) Q NE P.s) λt=>ry.inv (λy=>wpAny X.M P.A (call _ [_,y]) Q NE P.s) λt'=>LB p k) ry) rx) r
 |tupleOf=>cases hb;exact k _ (fV 4 (by decide)) (.inl ⟨_,rfl⟩) (one (f:=λH v post=>be (cP H v) λxs=>post (.aP xs) H) λP v x post Q r p k=>LC r p k)
 |sortI=>cases hb;exact k _ (fV 9 (by decide)) (.inr ⟨_,rfl⟩) (one (f:=λH v post=>be (jp H v) λis=>is.length<64/\∀js:List Int,js.Perm is->js.Pairwise (·<=·)->jq (js.map .int) H post) λP v x post Q r p k=>LD r p k)
 |qN=>cases hb;exact k _ (fV 12 (by decide)) (.inr ⟨_,rfl⟩) (one (f:=λH v post=>yQ v H post) λP v x post Q r p k=>LM r p k)
 |sV=>cases hb;exact k _ (fV 13 (by decide)) (.inr ⟨_,rfl⟩) (one (f:=λH v post=>yP v H post) λP v x post Q r p k=>LX r p k)
 |_=>cases hb
theorem L0{b:Bi}{q:Str×Nat}(G:Good X)(hb:s7 b=some q)(hg:dU σ.f q.1 g=true)(h:eX σ cs es):b0 σ (.bi b cs) (.Call g es [] pos):=λP post Q p k=>
 LZ hb G λy hm hy run=>LY (T:=λζ ζ=>True) G hg hm hy h p (λvs H1 p1 ζ N xs r=>run N.pt vs xs post Q r p1 (k.nx N))
theorem L1(t:Ty):(Str.ofString (l6 t),Value.type (l6 t))∈l8:=by
 cases t
 ·exact fV 2 (by decide)
 ·exact fV 3 (by decide)
 ·exact fV 4 (by decide)
 ·exact fV 5 (by decide)
 ·exact fV 14 (by decide)
theorem L3{t:Ty}{e nm:Expr}{c:E}(G:Good X)(hg:dU σ.f "isinstance" g=true)(hn:dU σ.f (Str.ofString (l6 t)) nm=true)(h0:cm σ.f c e=true)(he:b0 σ c e):b0 σ (.bi (.iv t) [c]) (.Call g [e,nm] [] pos):=λP post Q p k=>
 ft.k (G:=λg=>wpAny X.M P.A (eval (.Call g [e,nm] [] pos) P.env) Q NE P.s) hg λx np hg=>bg hg λe1 ho=>ft.k (G:=λnm=>wpAny X.M P.A (eval (.Call _ [e,nm] [] pos) P.env) Q NE P.s) hn λy yp hn=>bg hn λe2 wb=>by
  obtain rfl:=eq_of_beq e1
  obtain rfl:=eq_of_beq e2
  have nr:(backTo pos (starEach [e,.Name (Str.ofString (l6 t)) yp] P.env)).any (·.1)=false:=by rw[oo h0 P.env];rfl
  refine wpAny_Call_NameR (oj G P (fV 1 (by decide)) ho (Calls.callWith_builtin nr (pI nr (wpAny_items_cons (he P _ _ p (λv H1 p1 N x r=>?_)) (oo h0 P.env _)))))
  exact wpAny_items_cons (oj G (P.to N) (y:=.type (l6 t)) (L1 t) wb (wpAny_items_nil (Ly (P:=N.pt) r p1 (k.nx N)))) rfl
theorem L4{c d:E}{e v:Expr}{kp:Pos}(G:Good X)(hg:dU σ.f "min" g=true)(h0:cm σ.f c e=true)(he:b0 σ c e)(hv:b0 σ d v):b0 σ (.bi .mV [c,d]) (.Call g [e] [⟨some "default",v,kp⟩] pos):=λP post Q p k=>
 ft.k (G:=λg=>wpAny X.M P.A (eval (.Call g [e] [⟨some "default",v,kp⟩] pos) P.env) Q NE P.s) hg λx np hg=>bg hg λe1 ho=>by
  obtain rfl:=eq_of_beq e1
  obtain⟨y,hy⟩:∃y,backTo pos (starEach [e] P.env)=[(false,y)]:=⟨_,by rw[oo h0 P.env];rfl⟩
  refine(?_:wpAny X.M P.A (do callWith pos (<-eval (.Name "min" np) P.env) [] (backTo pos (starEach [e] P.env)) (backToKw pos (keywordEach [⟨some "default",v,kp⟩] P.env))) Q NE P.s)
  refine wpAny_bind (oj G P (y:=.builtin "min") (fV 12 (by decide)) ho (callWith_builtin_kwB (by rw[hy];rfl) rfl ?_))
  rw[hy]
  refine evalArgs_kwB rfl ?_
  rw[<-hy]
  exact wpAny_items_cons (he P _ _ p (λu H1 p1 N x r=>wpAny_items_nil (kws_cons (hv (P.to N) _ _ p1 (λw H2 p2 N2 z r2=>kws_nil (c3.k p2 (λw=>bf N2.w w z->_) (λd p2 r2=>be.k p2 λis ei p2=>tV (P:=N2.pt) (r.mono N2.S) ei (λx=>wpAny X.M P.A (call (.builtin "min") [x] [("default",z)]) Q NE N2.s) λa xs h1 hI=>LJ P.rm.handled h1 hI λy h' tk hy hk=>
   ((k.nx N).nx N2).later p2 (by
    rcases hy with⟨rfl,rfl⟩|⟨i,r,t,rfl,rfl⟩
    ·exact r2
    ·exact .int _ _) hk tk) r2)))))) (oo h0 P.env _)
end
section
variable{A:Around}{E:Value->Shared->Prop}{s:Shared}{d:Addr}{kvs:List (Int×Value)}{ep:Nat}
theorem L5{Q:Bool->Shared->Prop}(hT:s.TypeIs (.ref d) "dict")(h:Q false s):wpAny X.M A (Builtin.List.listLengthHint (.ref d)) Q E s:=by
 unfold Builtin.List.listLengthHint
 refine wpAny_bind (wpAny_specialOf hT PySem.F.slot_dict_len.lookup ?_)
 generalize nY:("dict.__len__":String)=wc
 wp_delta
 rw[show splitId wc=some ("dict","__len__") from by subst nY;decide +kernel]
 subst nY
 refine wpAny_bind (wpAny_isInstance (T:="dict") (b:=true) hT (by rw[isSubtype_type];kernel_rfl) ?_)
 refine wpAny_ite_split (λfO=>absurd fO (by decide)) (λζ=>?_)
 refine wpAny_ite_split (λζ=>?_) (λfO=>absurd (by decide +kernel) fO)
 exact wpAny_bind (wpAny_typeOf hT (wpAny_pure h))
noncomputable abbrev zp(kvs:List (Int×Value))(i:Nat)(v:Value):Prop:=∃k x,kvs[i]?=some (k,x)/\d7.is k v=true
theorem L6{R:Result->Shared->Prop}{S:Addr}{we:Nat}(hh:A.handled=none)(lo:(d==sysModules)=false)(hD:s.heap.DictAt d7 d kvs ep)(rO:S≠d)(hn:kvs.length<=sizeLine)
  (hS:s.heap.get? S=some {cls:=.type "list",data:=.seq #[] we})
  (hR:∀h' tk acc c',(∀b o,b≠S->s.heap.get? b=some o->h'.get? b=some o)->h'.get? S=some {cls:=.type "list",dict:=none,data:=.seq acc c',slots:=#[]}->ItemsOf (zp kvs) acc kvs.length->R (.ok (.ret .none)) {s with heap:=h',toks:=tk}) :
  wpAny X.M A.in1 (Builtin.List.listExtendWith (.ref S) (.ref d) .none)
   (λfin s'=>match fin with | .done f=>R (.ok f) s' | .again c'=>c'.quiet=true/\codeAny X.M A c' R s') (λe s'=>R (.error e) s') s:=by
 have hT:s.TypeIs (.ref d) "dict":=hD.dictOf.typeIs
 have gE:S≠s.heap.objs.size:=ne_of_lt (lt_size hS)
 have tY:S∉[s.heap.objs.size,d]:=by
  intro hm
  rcases mem_cons.mp hm with e|hm
  ·exact gE e
  ·exact rO (mem_singleton.mp hm)
 have W:=Walks.dictKeys (A:=A.in1) (knd:=d7) hh s.heap.objs.size d (ne_of_lt hD.lt_size) kvs ep
 have go:∀(h:Heap) (zq tk:Nat),h.IsKeyIter s.heap.objs.size d 0 kvs.length ep->h.DictAt d7 d kvs ep->(∀b o,b≠S->s.heap.get? b=some o->h.get? b=some o)->h.get? S=some {cls:=.type "list",data:=.seq #[] zq} ->
   codeAny X.M A (.builtin "list.extend.loop" ⟨[.ref S,.ref s.heap.objs.size,.none],[]⟩) R {s with heap:=h,toks:=tk}:=by
  intro h zq tk i1 i2 hk tZ
  refine codeAny_extend_loopS W.toS hn S tY .none kvs.length 0 _ #[] zq rfl (zero_le _) ⟨i1,i2⟩ tZ (ItemsOf.nil _) λs' acc c' hm fG t7=>?_
  rw[Moved.eq_with hm]
  refine hR s'.heap s'.toks acc c' (λb o hb e=>hm.heap b o (λkR=>?_) (hk b o hb e)) fG t7
  rcases mem_cons.mp kR with e'|kR
  ·exact hb e'
  ·rw[mem_singleton.mp kR] at e
   exact absurd (lt_size e) (lt_irrefl _)
 unfold Builtin.List.listExtendWith
 refine wpAny_bind (wpAny_typeOf (T:="dict") hT ?_)
 have h1:Builtin.List.listSameRef (.ref S) (.ref d)=false:=by simp[Builtin.List.listSameRef,rO]
 simp only[h1,show(Value.type "dict"==Value.type "list")=false from by decide,show(Value.type "dict"==Value.type "tuple")=false from by decide,Bool.or_false,false_eq_true,if_false]
 refine wpAny_bind (wpAny_pyIter_dict lo hD ?_)
 have tZ:=get?_push_of_some {cls:=.type "dict_keyiterator",data:=.fields #[.ref d,.int 0 0,.int kvs.length 0,.int ep 0]} hS
 have i1:(s.heap.push {cls:=.type "dict_keyiterator",data:=.fields #[.ref d,.int 0 0,.int kvs.length 0,.int ep 0]}).IsKeyIter s.heap.objs.size d 0 kvs.length ep:=⟨_,get?_push_size _ rfl,rfl,rfl⟩
 have i2:=hD.push {cls:=.type "dict_keyiterator",data:=.fields #[.ref d,.int 0 0,.int kvs.length 0,.int ep 0]}
 refine wpAny_bind (wpAny_holding (L5 i2.dictOf.typeIs ?_))
 refine wpAny_ite_split (λζ=>?_) (λζ=>wpAny_pure ⟨plainId_quiet PySem.F.plain_extend_loop _,go _ we _ i1 i2 (λb o ζ e=>get?_push_of_some _ e) tZ⟩)
 refine wpAny_bind (wpAny_rule (wpAny_bind ?_))
 refine(?_:wpAny _ _ (updateSeq S (·.push .none) >>= λζ=>updateSeq S (·.pop)) _ _ _)
 refine wpAny_bind (wpAny_updateSeq tZ rfl ?_)
 have wg:=get?_update_self (Obj.mapSeq (·.push Value.none)) tZ rfl
 refine wpAny_updateSeq (hz:=by seq_fits) wg rfl ?_
 have L7:=get?_update_self (Obj.mapSeq (·.pop)) wg rfl
 have oth:∀b o,b≠S->(s.heap.push {cls:=.type "dict_keyiterator",data:=.fields #[.ref d,.int 0 0,.int kvs.length 0,.int ep 0]}).get? b=some o->(((s.heap.push {cls:=.type "dict_keyiterator",data:=.fields #[.ref d,.int 0 0,.int kvs.length 0,.int ep 0]}).update S (Obj.mapSeq (·.push Value.none))).update S (Obj.mapSeq (·.pop))).get? b=some o:=
  λb o hb e=>(Heap.get?_update_other _ _ (Ne.symm hb)).trans ((Heap.get?_update_other _ _ (Ne.symm hb)).trans e)
 exact wpAny_pure ⟨plainId_quiet PySem.F.plain_extend_loop _,go _ _ _ (i1.at λo e=>oth _ o gE.symm e) (i2.at' λo e=>oth _ o rO.symm e) (λb o hb e=>oth b o hb (get?_push_of_some _ e)) L7⟩
theorem L8{Q:Value->Shared->Prop}(hh:A.handled=none)(lo:(d==sysModules)=false)(hD:s.heap.DictAt d7 d kvs ep)(hn:kvs.length<=sizeLine)
  (hQ:∀h' tk acc c',(∀b o,s.heap.get? b=some o->h'.get? b=some o)->h'.get? s.heap.objs.size=some {cls:=.type "list",dict:=none,data:=.seq acc c',slots:=#[]}->ItemsOf (zp kvs) acc kvs.length->Q (.ref s.heap.objs.size) {s with heap:=h',toks:=tk}) :
  wpAny X.M A (call (.type "list") [.ref d]) Q E s:=by
 refine callType_codes (Q₁:=λobj bF=>obj=.ref s.heap.objs.size/\bF={s with heap:=s.heap.push {cls:=.type "list",data:=.seq #[]}}) PySem.F.called_list (PySem.F.typeCall_list_1 _) PySem.F.entry_list_init
  (code_list_new _ ⟨rfl,rfl⟩) λobj bF eY=>?_
 obtain⟨rfl,rfl⟩:=eY
 have hS:(s.heap.push {cls:=.type "list",data:=.seq #[]}).get? s.heap.objs.size=some {cls:=.type "list",data:=.seq #[]}:=get?_push_size _ rfl
 have rO:s.heap.objs.size≠d:=ne_of_gt hD.lt_size
 refine⟨⟨_,hS,rfl⟩,PySem.F.args_list_init_2 _ _,?_⟩
 refine(?_:wpAny _ _ (do let old <-Builtin.List.listItems (.ref s.heap.objs.size);Builtin.List.listUpdate (.ref s.heap.objs.size) (λζ=>#[]);letGo old.toList.reverse;Builtin.List.listExtendWith (.ref s.heap.objs.size) (.ref d) .none) _ _ _)
 refine wpAny_bind ?_
 unfold Builtin.List.listItems
 refine wpAny_bind (wpAny_seqItems hS rfl (wpAny_pure ?_))
 refine(?_:wpAny _ _ (updateSeq s.heap.objs.size (λζ=>#[]) >>= λζ=>letGo (#[]:Array Value).toList.reverse >>= λζ=>Builtin.List.listExtendWith (.ref s.heap.objs.size) (.ref d) .none) _ _ _)
 refine wpAny_bind (wpAny_updateSeq hS rfl ?_)
 have wg:=get?_update_self (Obj.mapSeq (λζ=>(#[]:Array Value))) hS rfl
 have oth:∀b o,b≠s.heap.objs.size->(s.heap.push {cls:=.type "list",data:=.seq #[]}).get? b=some o->((s.heap.push {cls:=.type "list",data:=.seq #[]}).update s.heap.objs.size (Obj.mapSeq (λζ=>(#[]:Array Value)))).get? b=some o:=
  λb o hb e=>(Heap.get?_update_other _ _ (Ne.symm hb)).trans e
 refine wpAny_bind (wpAny_letGo ?_)
 refine L6 (A:=A.in1) hh lo ((hD.push _).at' λo e=>oth _ o rO.symm e) rO hn wg λh' tk acc c' hk fG t7=>?_
 exact⟨rfl,hQ h' tk acc c' (λb o e=>hk b o (ne_of_lt (lt_size e)) (oth b o (ne_of_lt (lt_size e)) (get?_push_of_some _ e))) fG t7⟩
end
section
variable{σ:Lv}{Q:Value->Shared->Prop}{P:Pt}{post:PQ}{H:Hp}
theorem D1(G:Good X)(P:Pt):(P.s.heap.objs.size==sysModules)=false:=
 G.low.elim λo ho=>beq_eq_false_iff_ne.mpr λe=>absurd (lt_size (P.R.keep _ _ ho)) (by rw[e];decide)
theorem wh(P:Pt):P.s.heap.get? P.s.heap.objs.size=none:=fF _ (le_refl _)
theorem L9{h:Heap}{D:Addr}{o o':Obj}{en:Array DictEntry}{ep:Nat}(e:h.get? D=some o)(hd:o.data=.dict en ep)(e':h.get? D=some o'):fz o'=false:=by rw[e] at e';cases e';exact yR hd
noncomputable abbrev pT:Obj:={cls:=.type "dict",data:=.dict #[]}
noncomputable abbrev Pt.newD(P:Pt){c:bc}(hc:fi ⟨P.φ,P.s.heap.push pT⟩ P.s.heap.objs.size c):Nx P (P.H++[c]):=
 ⟨P.φ++[P.s.heap.objs.size],P.s.heap.push pT,P.s.toks,SR.adopt (p:=⟨P.φ,P.s.heap.push pT⟩) (SR.ext (p:=P.w) P.R (.push _)) (P.R.new (p:=P.w) (wh P)) (λo e=>L9 (get?_push_size _ rfl) rfl e) hc,bJ.adopt (q:=⟨P.φ,P.s.heap.push pT⟩) (bJ.ext (q:=P.w) .refl (.push _)) (wh P)⟩
theorem Pt.zr(P:Pt):(P.φ++[P.s.heap.objs.size])[P.H.length]?=some P.s.heap.objs.size:=by rw[<-P.R.len,getElem?_append_right (le_refl _),sub_self];rfl
theorem D3(G:Good X)(P:Pt):fi ⟨P.φ,P.s.heap.push pT⟩ P.s.heap.objs.size (.dict 0 []):=.dict (kvs:=[]) (en:=#[]) (get?_push_size _ rfl) ⟨rfl,rfl,rfl⟩ rfl (λe he=>absurd he (Array.not_mem_empty e)) .nil .nil .nil (D1 G P) (zero_le _)
theorem D4(G:Good X)(P:Pt):fi ⟨P.φ,P.s.heap.push pT⟩ P.s.heap.objs.size (.cD 0 []):=.cD (xs:=[]) (en:=#[]) (get?_push_size _ rfl) ⟨rfl,rfl,rfl⟩ rfl rfl .nil .nil (D1 G P) (zero_le _)
theorem Ma{pos:Pos}(G:Good X):b0 σ .mX (.Dict [] [] pos):=λP post Q p k=>wpAny_Dict_empty (k _ _ p (P.toPt.newD (D3 G P.toPt)) _ (.ref P.toPt.zr))
theorem Mb{pos:Pos}(G:Good X):b0 σ .lx (.Dict [] [] pos):=λP post Q p k=>wpAny_Dict_empty (k _ _ p (P.toPt.newD (D4 G P.toPt)) _ (.ref P.toPt.zr))
theorem D5{c d:E}{k v:Expr}{pos:Pos}{post:V->V->Hp->Prop}(P:Fp σ){ce:bc}(hc:fi ⟨P.φ,P.s.heap.push pT⟩ P.s.heap.objs.size ce)(hk:b0 σ c k)(hv:b0 σ d v)(p:WE (aM σ.m) c P.ρ (P.H++[ce]) λx H=>WE (aM σ.m) d P.ρ H λy H=>post x y H)
  (kn:∀u w H,post u w H->∀(N:Nx P.toPt H) x y,N.φ[P.H.length]?=some P.s.heap.objs.size->bf N.w u x->bf N.w w y->wpAny X.M P.A (dictSet P.s.heap.objs.size x y) (λζ eW=>Q (.ref P.s.heap.objs.size) eW) NE N.s):wpAny X.M P.A (eval (.Dict [some k] [v] pos) P.env) Q NE P.s:=
 wpAny_Dict_any rfl rfl (λe=>nomatch e) (show(1:Nat)<=15 by decide) (pairTrees_cons_walk (rB hk hv (P.to (P.toPt.newD hc)) p (λu w H q N x y r1 r2=>pairTrees_nil_walk (wpAny_bind (wpAny_bind (wpAny_mono (kn u w H q ((P.toPt.newD hc).then N) x y (N.S.pre _ _ P.toPt.zr) r1 r2) (λζ eW h=>wpAny_pure (wpAny_pure h)) λζ ζ h=>h))))))
theorem Mc{c d:E}{k v:Expr}{pos:Pos}(G:Good X)(hk:b0 σ c k)(hv:b0 σ d v):b0 σ (.sY c d) (.Dict [some k] [v] pos):=λP post Q p kn=>
 D5 P (D3 G P.toPt) hk hv p (λu w H q N x y t8 r1 r2=>c3.k q (λu=>bf N.w u x->_) (λj q r1=>r1.inv (λx=>wpAny X.M P.A (dictSet P.s.heap.objs.size x y) (λζ eW=>Q (.ref P.s.heap.objs.size) eW) NE N.s) λt=>N.R.at q.1 λa ha hc=>hc.inv _ λo en kvs x0 x1 x2 x3 x4 x5 q' z m=>by
  rw[show N.φ[P.H.length]?=some a from ha] at t8
  cases t8
  cases q'
  refine wpAny_dictSet_pairs (knd:=d7) (k:=j) (kvs:=[]) (beq_self_eq_true j) ⟨o,en,0,x0,x1,x2,x3,x4,x5⟩ (λh3 hm hs=>hm.elim λo3 w3=>w3.elim λen w3=>w3.elim λep w3=>?_) (zero_le _)
  exact kn _ _ (q.2 ep) (N.then (N.pt.set ha hs.extBut (.dict w3.1 w3.2.1 w3.2.2.1 w3.2.2.2.1 w3.2.2.2.2.1 w3.2.2.2.2.2 (.cons ⟨rfl,r2.kp (N.pt.ro ha hs.extBut)⟩ .nil) z (show(1:Nat)<=16000000 by decide)) _)) _ (.ref ha)) r1)
theorem Md{c d:E}{k v:Expr}{pos:Pos}(G:Good X)(hk:b0 σ c k)(hv:b0 σ d v):b0 σ (.sZ c d) (.Dict [some k] [v] pos):=λP post Q p kn=>
 D5 P (D4 G P.toPt) hk hv p (λu w H q N x y t8 r1 r2=>be.k q λj ej q=>pairOf.k ej (λu=>bf N.w u x->_) (λr1=>r1.inv (λx=>bf N.w (fN j) x->wpAny X.M P.A (dictSet P.s.heap.objs.size x y) (λζ eW=>Q (.ref P.s.heap.objs.size) eW) NE N.s) (λka ζ ζ ζ ζ ζ ζ r1=>N.R.at q.1 λa ha hc=>hc.inv _ λo en kvs x0 x1 x2 x3 x4 q' z m=>by
  rw[show N.φ[P.H.length]?=some a from ha] at t8
  cases t8
  cases q'
  refine wpAny_dictSet_heap (knd:=gj) (k:=pK j) (xs:=[]) (by refine(?_:P.A.units<cLine);have:=P.rm.units;exact Nat.lt_of_succ_lt (Pt.u1 _)) (rj r1) ⟨o,en,0,x0,x1,x2,x3,(λq hq=>nomatch hq),x4⟩ (λh3 hm hs=>hm.elim λo3 w3=>w3.elim λen w3=>w3.elim λep w3=>?_) (zero_le _)
  have K:=N.pt.ro ha hs.extBut
  exact kn _ _ (q.2 ep) (N.then (N.pt.set ha hs.extBut (.cD w3.1 w3.2.1 w3.2.2.1 w3.2.2.2.1 w3.2.2.2.2.2 (.cons ⟨rfl,r1.kp K,r2.kp K⟩ .nil) z (show(1:Nat)<=16000000 by decide)) _)) _ (.ref ha)) r1) r1)
end
section
variable{σ:Lv}{Q:Value->Shared->Prop}{P:Pt}{post:PQ}{H:Hp}
theorem wi{p:Ws}:∀{vs:List V} {xs:List Value},vs.length=xs.length->(∀(j:Nat) v x,vs[j]?=some v->xs[j]?=some x->bf p v x)->bu p vs xs
 |[],[],_,_=>.nil
 |[],_::_,h,_=>nomatch h
 |_::_,[],h,_=>nomatch h
 |v::vs,x::xs,h,k=>.cons (k 0 v x rfl rfl) (wi (Nat.succ.inj h) λj v x h1 h2=>k (j+1) v x h1 h2)
theorem Mf{p:Ws}{es:List (Int×V)}{kvs:List (Int×Value)}{acc:Array Value}(q:L2 (kM p) es kvs)(h:ItemsOf (zp kvs) acc kvs.length):bu p (es.map λp=>.int p.1) acc.toList:=
 wi (by rw[length_map,q.length,length_toList];exact h.1.symm) λj v x h1 h2=>by
  rw[getElem?_map] at h1
  refine fj (λv=>bf p v x) h1 λe he=>?_
  exact(h.2 j x (by rw[<-getElem?_toList];exact h2)).elim λk w=>w.elim λy w=>by
   obtain⟨t,rfl⟩:=Value.isInt_shape w.2
   rw[(q.get he w.1).1]
   exact .int _ _
theorem rP{v:V}{x:Value}{us:List V}(G:Good X)(r:bf P.w v x)(e:copyOf P.H v=some us)(k:Kn P post Q)(p:n4 us P.H post):wpAny X.M P.A (call (.type "list") [x]) Q NE P.s:=by
 refine ez.k p λhz p=>?_
 have hz:=le_of_lt (of_decide_eq_true hz)
 have seq:∀{a xs T o c},T="list"\/T="tuple"->P.s.heap.get? a=some o->o.cls=.type T->o.data=.seq (List.toArray xs) c->bu P.w us xs->wpAny X.M P.A (call (.type "list") [.ref a]) Q NE P.s:=λt1 t2 t3 t4 r=>
  call_list_seq _ t1 t2 t3 t4 (λh2 c' w1 w2=>k.list w1 _ (wh P) w2 r hz p P.s.toks) (by rw[size_toArray,<-r.length];unfold sizeLine;exact le_trans hz (by decide))
 unfold copyOf at e
 cases ed:jF P.H v with
 |some es=>
  rw[ed] at e;cases e
  exact rp r G ed (λx=>wpAny X.M P.A (call (.type "list") [x]) Q NE P.s) λl ep a kvs ev hl ha hD q hs hn=>hD.dictAt.elim λepc Mg=>
   L8 P.rm.handled hs Mg (by rw[<-q.length];unfold sizeLine;exact le_trans hn (by decide)) λh2 gp acc c' w1 w2 w3=>k.list (xs:=acc.toList) w1 _ (wh P) (by rw[w2]) (Mf q w3) hz p gp
 |none=>
  rw[ed] at e
  cases et:l9 v with
  |some vs=>rw[et] at e;cases e;exact l9.k et (λv=>bf P.w v x->_) (λr=>r.inv (λx=>wpAny X.M P.A (call (.type "list") [x]) Q NE P.s) λa m xs h1 h2 ζ ζ=>seq (.inr rfl) h1 rfl rfl h2) r
  |none=>rw[et] at e;exact bE r e (λx=>wpAny X.M P.A (call (.type "list") [x]) Q NE P.s) λζ a xs m ζ ζ ζ h1 h2 ζ=>seq (.inl rfl) h1 rfl rfl h2
theorem Mh{a:E}{g e:Expr}{pos:Pos}(G:Good X)(hg:dU σ.f "list" g=true)(h:eX σ [a] [e]):b0 σ (.listOf a) (.Call g [e] [] pos):=λP post Q p k=>
 pL (post:=λvs H=>w1 vs λx=>be (copyOf H x) λvs=>n4 vs H post) G hg (fV 5 (by decide)) ⟨_,rfl⟩ h p (λvs H1 p1 ζ N xs r=>w1.k p1 (λvs=>bu N.w vs xs->_) (λv p1 r=>r.k1 (λxs=>wpAny X.M P.A (call (.type "list") xs) Q NE N.s) λx r=>be.k p1 λus e p1=>rP (P:=N.pt) G r e (k.nx N) p1) r)
theorem Mi{p:Ws}{m:Nat}{acc:Array Value}{y:Int}(hm:(y - 0).toNat=m)(h:ItemsOf (λi v=>∃t,v=Value.int (0+i*1) t) acc m):bu p (g9 0 y) acc.toList:=
 wi (by unfold g9;rw[length_map,length_range,length_toList,hm];exact h.1.symm) λj v x h1 h2=>by
  unfold g9 at h1
  rw[getElem?_map] at h1
  refine fj (λv=>bf p v x) h1 λi hi=>?_
  have hi:=List.getElem?_eq_some_iff.mp hi
  have hj:j=i:=by rw[<-hi.2,List.getElem_range]
  exact(h.2 j x (by rw[<-getElem?_toList];exact h2)).elim λt e=>by rw[e,hj,mul_one];exact .int _ _
theorem Mj{b:E}{g g' e:Expr}{rpos pos:Pos}(G:Good X)(hg:dU σ.f "list" g=true)(pU:dU σ.f "range" g'=true)(h:eX σ [b] [e]):b0 σ (.sX b) (.Call g [.Call g' [e] [] rpos] [] pos):=λP post Q p k=>
 ft.k (G:=λg=>wpAny X.M P.A (eval (.Call g [.Call g' [e] [] rpos] [] pos) P.env) Q NE P.s) hg λx np hg=>bg hg λe1 ho=>by
  obtain rfl:=eq_of_beq e1
  refine wpAny_Call_NameR (oj G P (fV 5 (by decide)) ho (PySem.callWith_type rfl (pI rfl (wpAny_items_cons ?_ rfl))))
  exact pL (post:=λvs H=>w1 vs λy=>c3 y λj=>(0<=j/\j<16000000)/\jq (g9 0 j) H post) G pU (fV 6 (by decide)) ⟨_,rfl⟩ h p (λvs H1 p1 ζ N xs r=>w1.k p1 (λvs=>bu N.w vs xs->_) (λv p1 r=>c3.k p1 (λv=>bu N.w [v] xs->_) (λj p1 r=>r.k1 (λxs=>wpAny X.M P.A (call (.type "range") xs) _ NE N.s) λx r=>r.inv (λx=>wpAny X.M P.A (call (.type "range") [x]) _ NE N.s) λt=>call_range_1 (wpAny_items_nil (
   call_list_range (n:=(j - 0).toNat) P.rm.handled (IsRange.new _ _ _ _ _ _ _) (small_one (by decide) (by decide) (Int.le_trans (by decide) p1.1.1) (Int.lt_trans p1.1.2 (by decide))) (by rw[rangeSize_one];split<;>lia) (by lia) λh2 gp acc c' w1 w2 w3=>
    Kn.list (P:=(N.pt.ext (.push _) _).pt) (xs:=acc.toList) ((k.nx N).nx (N.pt.ext (.push _) _)) w1 _ (fF _ (le_refl _)) (by rw[w2]) (Mi rfl w3) (by unfold g9;rw[length_map,length_range];lia) p1.2 gp))) r) r)
end
noncomputable def zt(a:Addr)(before:Nat)(st:Value)(z:SortSt):Sem PySem.Fin:=do
 let sorted:=(arrOf z).map (·.2)
 Builtin.List.listUpdate st λζ=>#[]
 letGo ((arrOf z).map (·.1)).toList (failedOf z).toList
 let touched:=(<-seqEpoch a) != before
 Builtin.List.listUpdate (.ref a) λζ=>sorted
 if let some e:=failedOf z then rule "list.sort.comparison-raised";throw e
 if touched then rule "list.sort.modified";raiseError "ValueError" "list modified during sort"
 ret .none
noncomputable def zu(a:Addr)(items:Array Value)(before:Nat)(st:Value)(keys:Array Value):Sem PySem.Fin:=do
 let kind <-if items.size<2 then pure general' else keyKind' keys
 let ((),z) <-(if items.size<2 then pure () else sortRuns').run (SortSt.mk' kind (keys.zip items) #[] 7 none)
 zt a before st z
noncomputable def wj(a:Addr)(f:Value)(items:Array Value)(before:Nat)(st:Value):Sem PySem.Fin:=do
 rule "list.sort.key"
 for x in items do
  match <-(call f [x]).attempt with
  |.ok k=>Builtin.List.listUpdate st (·.push k)
  |.error e=>
   rule "list.sort.key-raised"
   let made <-Builtin.List.listItems st
   Builtin.List.listUpdate st λζ=>#[]
   letGo made.toList.reverse [e]
   Builtin.List.listUpdate (.ref a) λζ=>items;throw e
 let keys <-Builtin.List.listItems st
 zu a items before st keys
theorem Mk(a q:Addr):Builtin.«list.sort» ⟨[.ref a],[(Str.ofString "key",.ref q)]⟩=(do
  let items <-Builtin.List.listItems (.ref a)
  Builtin.List.listUpdate (.ref a) λζ=>#[]
  let before <-seqEpoch a
  let held <-newTuple items.toList
  let keyStore <-newList []
  holding [held,keyStore] (wj a (.ref q) items before keyStore)):=rfl
section
variable{M:Model}{A:Around}{E:Value->Shared->Prop}
theorem foldI{body:Value->PUnit->Sem (ForInStep PUnit)}{Q:PUnit->Shared->Prop}(I:List Value->Shared->Prop)(step:∀x r s',I (x::r) s'->wpAny M A (body x ⟨⟩) (λy wk=>y=.yield ⟨⟩/\I r wk) E s')
  (fin:∀s',I [] s'->Q ⟨⟩ s'):∀(vs:List Value) (s:Shared),I vs s->wpAny M A (forIn vs PUnit.unit body) Q E s
 |[],s,h=>by rw[forIn_nil];exact wpAny_pure (fin s h)
 |x::r,s,h=>by
  rw[forIn_cons]
  refine wpAny_bind (wpAny_mono (step x r s h) (λy s' hy=>?_) λζ ζ e=>e)
  obtain⟨rfl,hI⟩:=hy
  exact foldI I step fin r s' hI
end
theorem IntsAre.snoc{n:Int}{t:Tok}{vs:List Value}{ns:List Int}(h:IntsAre vs ns):IntsAre (vs++[.int n t]) (ns++[n]):=h.rec (motive:=λvs ns ζ=>IntsAre (vs++[.int n t]) (ns++[n])) (.cons n t .nil) λζ ζ ζ ζ ζ ih=>.cons _ _ ih
theorem IntsAre.isInt{vs:List Value}{ns:List Int}(h:IntsAre vs ns):∀v∈vs,∃n t,v=.int n t:=h.rec (motive:=λvs ζ ζ=>∀v∈vs,∃n t,v=.int n t) (λv h=>nomatch h) λn t ζ ζ ζ ih v h=>(mem_cons.mp h).elim (λe=>⟨n,t,e⟩) (ih v)
theorem Ml{keys:Array Value}{kz:List Int}(hk:IntsAre keys.toList kz)(h2:2<=keys.size):keyKind' keys=pure oneType':=by
 have hl:2<=keys.toList.length:=by rw[length_toList];exact h2
 obtain⟨l⟩:=keys
 match l,hl,hk with
 |a::b::r,_,hk=>exact keyKind_ints hk
section
variable{A:Around}{E:Value->Shared->Prop}{s:Shared}
theorem zv{h:Heap}{a:Addr}{xs:Array Value}{n:Nat}{o:Obj}(e:h.get? a=some (seqObj "list" xs n))(e':h.get? a=some o):fz o=false:=by
 rw[e] at e';cases e';exact m8 (nm:="list") rfl rfl rfl
noncomputable abbrev D2(D kS:Addr)(a:Addr):Prop:=a=D\/a=kS
theorem D6(keys:Array Value)(vs:List Value):(keys.zip vs.toArray).toList=keys.toList.zip vs:=by obtain⟨l⟩:=keys;simp
theorem D7{D kS:Addr}{vs:List Value}{keys:Array Value}{e e1:Nat}{P:PySem.Fin->Shared->Prop}{z:SortSt}(b8:kS≠D)(nk:s.heap.get? kS=some (seqObj "list" keys e))(na:s.heap.get? D=some (seqObj "list" #[] e1))
  (cI:keys.size=vs.length) (dN:vs.length<64) (hp:(arrOf z).Perm (keys.zip vs.toArray)) (hf:failedOf z=none)
  (h:∀h' (out:List Value) c,Ch (D2 D kS) s.heap h'->h'.get? D=some (gA out c)->out.Perm vs->P (.done (.ret .none)) {s with heap:=h'}) :
  wpAny X.M A (zt D e1 (.ref kS) z) P E s:=by
 have rQ:(keys.zip vs.toArray).size=vs.length:=by rw[size_zip,cI,size_toArray,min_self]
 have zw:(arrOf z).size=vs.length:=by rw[hp.size_eq,rQ]
 generalize t9:(arrOf z).map (·.2)=out
 have rJ:out.size=vs.length:=by rw[<-t9,size_map,zw]
 have Mm:out.toList.Perm vs:=by
  have oy:=(Array.perm_iff_toList_perm.mp hp).map (·.2)
  rw[D6,List.map_snd_zip (le_of_eq (cI.symm.trans (length_toList ..).symm))] at oy
  rw[<-t9,Array.toList_map];exact oy
 have s1:=SameBut.update s.heap kS (Obj.mapSeq λζ=>(#[]:Array Value))
 have zy:(s.heap.update kS (Obj.mapSeq λζ=>(#[]:Array Value))).get? D=some (seqObj "list" #[] e1):=(s1.2 D b8.symm).trans na
 have s2:=SameBut.update (s.heap.update kS (Obj.mapSeq λζ=>(#[]:Array Value))) D (Obj.mapSeq λζ=>out)
 have zC:=get?_update_seq zy λζ=>out
 unfold zt
 rw[hf]
 refine wpAny_bind (listUpdate_at nk rfl ?_ (by rw[cI,sizeLine_eq];exact le_trans (le_of_lt dN) (by decide)) (zero_le _))
 refine wpAny_bind (wpAny_letGo ?_)
 refine wpAny_bind (seqEpoch_at zy rfl ?_)
 rw[t9]
 refine wpAny_bind (listUpdate_at zy rfl ?_ (zero_le _) (le_trans (le_of_eq rJ) (by rw[sizeLine_eq];exact le_trans (le_of_lt dN) (by decide))))
 simp only[bne_self_eq_false,false_eq_true,if_false]
 refine wpAny_pure (h _ out.toList _ (λb o eb hb=>?_) (by rw[zC]) Mm)
 by_cases e1:b=D
 ·exact no (hb (.inl e1)) (zv (e1▸na) eb)
 ·by_cases e2:b=kS
  ·exact no (hb (.inr e2)) (zv (e2▸nk) eb)
  ·exact(s2.2 b e1).trans ((s1.2 b e2).trans eb)
theorem Mn{D kS:Addr}{vs:List Value}{keys:Array Value}{kz:List Int}{e e1:Nat}{P:PySem.Fin->Shared->Prop}(b8:kS≠D)(nk:s.heap.get? kS=some (seqObj "list" keys e))(na:s.heap.get? D=some (seqObj "list" #[] e1))
  (hk:IntsAre keys.toList kz) (du:kz.length=vs.length) (dN:vs.length<64)
  (h:∀h' (out:List Value) c,Ch (D2 D kS) s.heap h'->h'.get? D=some (gA out c)->out.Perm vs->P (.done (.ret .none)) {s with heap:=h'}) :
  wpAny X.M A (zu D vs.toArray e1 (.ref kS) keys) P E s:=by
 have cI:keys.size=vs.length:=by
  have h1:=hk.length
  rw[length_toList] at h1
  exact h1.trans du
 have rQ:(keys.zip vs.toArray).size=vs.length:=by rw[size_zip,cI,size_toArray,min_self]
 unfold zu
 by_cases h2:vs.toArray.size<2
 ·rw[if_pos h2,if_pos h2]
  refine wpAny_bind (wpAny_pure ?_)
  dsimp only
  rw[StateT.run_pure]
  refine wpAny_bind (wpAny_pure ?_)
  exact D7 (z:=SortSt.mk' general' (keys.zip vs.toArray) #[] 7 none) b8 nk na cI dN (Array.Perm.refl _) rfl h
 ·rw[if_neg h2,if_neg h2]
  rw[size_toArray] at h2
  rw[Ml hk (by rw[cI];exact not_lt.mp h2)]
  refine wpAny_bind (wpAny_pure ?_)
  refine wpAny_bind (wpAny_mono (wpS_sortRuns (a₀:=keys.zip vs.toArray) (st:=SortSt.mk' oneType' (keys.zip vs.toArray) #[] 7 none)
   (Q:=λζ z=>(arrOf z).Perm (keys.zip vs.toArray)/\failedOf z=none) (λp hp=>?_) ⟨Array.Perm.refl _,rfl,rfl,rfl⟩ (by rw[rQ];exact not_lt.mp h2) (by rw[rQ];exact dN) λz a1 a2 a3=>⟨a1,a2⟩) ?_ λζ ζ e=>e)
  ·rw[D6] at hp
   obtain⟨x,y⟩:=p
   exact IntsAre.isInt hk _ (of_mem_zip hp).1
  ·rintro⟨⟨⟩,z⟩ s' ⟨rfl,hp,hf⟩
   exact D7 b8 nk na cI dN hp hf h
end
section
variable{A:Around}{E:Value->Shared->Prop}{s:Shared}
noncomputable def rR(J:Heap->Prop)(io:Addr->Prop)(s:Shared)(h:Heap)(r:Value)(s':Shared):Prop:=
 ∃h' tk k t,s'={s with heap:=h',toks:=tk}/\r=.int k t/\J h'/\∀a,io a->∀o,h.get? a=some o->h'.get? a=some o
theorem Mo(J:Heap->Prop){D kS:Addr}{f:Value}{vs:List Value}{e1:Nat}{P:PySem.Fin->Shared->Prop}(b8:kS≠D)(nk:s.heap.get? kS=some (seqObj "list" #[] 0))(na:s.heap.get? D=some (seqObj "list" #[] e1))(dN:vs.length<64)(hJ:J s.heap)
  (stab:∀h h',J h->Ch (D2 D kS) h h'->J h')
  (turn:∀h tk v,v∈vs->J h->wpAny X.M A (call f [v]) (rR J (D2 D kS) s h) (λζ ζ=>False) {s with heap:=h,toks:=tk})
  (h:∀h' tk (out:List Value) c,J h'->h'.get? D=some (gA out c)->out.Perm vs->P (.done (.ret .none)) {s with heap:=h',toks:=tk}) :
  wpAny X.M A (wj D f vs.toArray e1 (.ref kS)) P E s:=by
 unfold wj
 refine wpAny_bind (wpAny_rule ?_)
 rw[List.forIn_toArray]
 refine wpAny_bind (foldI (λr s'=>∃h tk kA e kz,s'={s with heap:=h,toks:=tk}/\J h/\h.get? kS=some (seqObj "list" kA e)/\h.get? D=some (seqObj "list" #[] e1)/\IntsAre kA.toList kz/\kz.length+r.length=vs.length/\∀v∈r,v∈vs)
  ?step ?done vs s ⟨s.heap,s.toks,#[],0,[],rfl,hJ,nk,na,.nil,by simp,λv hv=>hv⟩)
 case step=>
  rintro x r s' ⟨h,tk,kA,e,kz,rfl,hJ,nk,na,hk,hl,hr⟩
  have hz:kA.size<=vs.length:=by
   have h1:=hk.length
   rw[length_toList] at h1
   exact(by rw[h1,<-hl];exact le_add_right _ _)
  refine wpAny_bind (wpAny_attempt (wpAny_mono (turn h tk x (hr x (.head _)) hJ) (λv wk he=>?_) λζ ζ hF=>hF.elim))
  obtain⟨g,gp,k,t,rfl,rfl,Mp,wl⟩:=he
  have zD:=wl kS (.inr rfl) _ nk
  have Mq:=wl D (.inl rfl) _ na
  have s1:=SameBut.update g kS (Obj.mapSeq (·.push (.int k t)))
  have zC:=get?_update_seq zD (·.push (.int k t))
  have ea:(kA.push (Value.int k t)).toList=kA.toList++[Value.int k t]:=by rw[toList_push]
  refine wpAny_bind (listUpdate_at zD rfl ?_ (by rw[sizeLine_eq];exact le_trans hz (le_trans (le_of_lt dN) (by decide))) (le_trans (le_of_eq (Array.size_push ..)) (by rw[sizeLine_eq];exact succ_le_succ (le_trans hz (le_trans (le_of_lt dN) (by decide))))))
  refine wpAny_pure ⟨rfl,_,_,kA.push (.int k t),_,kz++[k],rfl,stab _ _ Mp (λb o eb hb=>(Classical.em (b=kS)).elim (λe'=>no (hb (.inr e')) (zv (e'▸zD) eb)) λe'=>(s1.2 b e').trans eb),zC,(s1.2 D b8.symm).trans Mq,by rw[ea];exact IntsAre.snoc hk,?_,λv hv=>hr v (.tail _ hv)⟩
  ·rw[length_append,length_singleton]
   rw[length_cons] at hl
   exact(add_right_comm _ _ _).trans hl
 case done=>
  rintro s' ⟨h0,tk,kA,e,kz,rfl,hJ,nk,na,hk,hl,_⟩
  refine wpAny_bind (listItems_at nk rfl ?_)
  refine Mn b8 nk na hk (by simpa using hl) dN λh' out c hF hD hp=>?_
  exact h h' tk out c (stab _ _ hJ hF) hD hp
theorem Mr(a v:Value):argsOk "sorted" ⟨[a],[(Str.ofString "key",v)]⟩:=by unfold argsOk;kernel_rfl
theorem Ms(a v:Value):argsOk "list.sort" ⟨[a],[(Str.ofString "key",v)]⟩:=by unfold argsOk;kernel_rfl
theorem Mt(J:Heap->Prop){l q:Addr}{vs:List Value}{Q:Value->Shared->Prop}(hl:s.heap.IsList l vs.toArray)(dN:vs.length<64)(hJ:J s.heap)
  (stab:∀h h',J h->Ch (D2 (s.heap.objs.size+1) (s.heap.objs.size+3)) h h'->J h')
  (turn:∀h tk v,v∈vs->J h->wpAny X.M A.in1.in1 (call (.ref q) [v]) (rR J (D2 (s.heap.objs.size+1) (s.heap.objs.size+3)) s h) (λζ ζ=>False) {s with heap:=h,toks:=tk})
  (h:∀h' tk (out:List Value) c,J h'->h'.get? (s.heap.objs.size+1)=some (gA out c)->out.Perm vs->Q (.ref (s.heap.objs.size+1)) {s with heap:=h',toks:=tk}) :
  wpAny X.M A (call (.builtin "sorted") [.ref l] [(Str.ofString "key",.ref q)]) Q E s:=by
 refine call_function_entry_kw kind_sorted plain_sorted entry_sorted (Mr _ _) ?_
 unfold Builtin.«sorted»
 refine wpAny_bind (m:=checkCount "sorted" 1 1 _) (wpAny_pure ?_)
 refine wpAny_bind (collect_list hl ?_ (by rw[sizeLine_eq];exact le_trans (le_of_lt dN) (by decide)))
 refine wpAny_bind (wpAny_newList ?_ (by rw[sizeLine_eq];exact le_trans (le_of_lt dN) (by decide)))
 have cI:((s.heap.push (seqObj "list" #[] 0)).update s.heap.objs.size (Obj.mapSeq (·++vs.toArray))).objs.size=s.heap.objs.size+1:=by
  rw[Heap.size_update,size_push']
 generalize hg:(s.heap.push (seqObj "list" #[] 0)).update s.heap.objs.size (Obj.mapSeq (·++vs.toArray))=g at cI
 have keep1:∀b o,s.heap.get? b=some o->g.get? b=some o:=λb o e=>by
  have bX:=lt_size e
  rw[<-hg,Heap.get?_update_ne _ _ _ _ (ne_of_lt bX),Heap.get?_push_ne _ _ _ (ne_of_lt bX)]
  exact e
 clear hg
 have nt:(g.push (seqObj "list" vs.toArray 0)).get? (s.heap.objs.size+1)=some (seqObj "list" vs.toArray 0):=by
  rw[<-cI];exact get?_push_size _ rfl
 refine(?_:wpAny _ _ _ _ _ {s with heap:=g.push (seqObj "list" vs.toArray 0)})
 rw[cI]
 refine wpAny_bind (wpAny_holding (wpAny_call_entry_kw slot_list_sort ⟨_,nt,rfl⟩ entry_list_sort ?body (Ms _ _)))
 case body=>
  refine(?_:wpAny X.M A.in1.in1 (Builtin.«list.sort» ⟨[.ref (s.heap.objs.size+1)],[(Str.ofString "key",.ref q)]⟩) _ _ _)
  rw[Mk]
  have D8:(g.push (seqObj "list" vs.toArray 0)).objs.size=s.heap.objs.size+2:=by rw[size_push',cI]
  generalize wm:g.push (seqObj "list" vs.toArray 0)=g2 at nt D8
  have keep2:∀b o,s.heap.get? b=some o->g2.get? b=some o:=λb o e=>by rw[<-wm];exact get?_push_of_some _ (keep1 b o e)
  clear wm
  have s1:=SameBut.update g2 (s.heap.objs.size+1) (Obj.mapSeq λζ=>(#[]:Array Value))
  have mn:=get?_update_seq nt λζ=>(#[]:Array Value)
  have wo:(g2.update (s.heap.objs.size+1) (Obj.mapSeq λζ=>(#[]:Array Value))).objs.size=s.heap.objs.size+2:=by rw[Heap.size_update,D8]
  generalize Mu:g2.update (s.heap.objs.size+1) (Obj.mapSeq λζ=>(#[]:Array Value))=g3 at s1 mn wo
  have wq:(g3.push (seqObj "tuple" vs.toArray 0)).objs.size=s.heap.objs.size+3:=by rw[size_push',wo]
  refine wpAny_bind (listItems_at nt rfl ?_)
  refine wpAny_bind (listUpdate_at nt rfl ?_ (by rw[size_toArray,sizeLine_eq];exact le_trans (le_of_lt dN) (by decide)) (zero_le _))
  refine(?_:wpAny _ _ _ _ _ {s with heap:=g2.update (s.heap.objs.size+1) (Obj.mapSeq λζ=>(#[]:Array Value))})
  rw[Mu]
  refine wpAny_bind (seqEpoch_at mn rfl ?_)
  refine wpAny_bind (wpAny_newTuple ?_ (by refine(?_:vs.length<=_);rw[sizeLine_eq];exact le_trans (le_of_lt dN) (by decide)))
  refine wpAny_bind (wpAny_newList ?_ (zero_le _))
  refine wpAny_holding ?_
  refine(?_:wpAny _ _ (wj _ _ _ _ (.ref (g3.push (seqObj "tuple" vs.toArray 0)).objs.size)) _ _ {s with heap:=(g3.push (seqObj "tuple" vs.toArray 0)).push (seqObj "list" #[] 0)})
  have nk:=get?_push_size (g3.push (seqObj "tuple" vs.toArray 0)) (o:=seqObj "list" #[] 0) rfl
  rw[wq] at nk ⊢
  refine Mo (s:={s with heap:=(g3.push (seqObj "tuple" vs.toArray 0)).push (seqObj "list" #[] 0)}) (kS:=s.heap.objs.size+3) (D:=s.heap.objs.size+1) J (λe=>absurd (Nat.add_left_cancel e) (by decide)) nk (get?_push_of_some _ (get?_push_of_some _ mn)) dN (stab _ _ hJ λb o eb hb=>?_) stab turn λh' tk out c Mv hD hp=>⟨_,rfl,?_⟩
  ·exact get?_push_of_some _ (get?_push_of_some _ ((s1.2 b λe=>absurd (lt_size eb) (by rw[e];exact not_lt.mpr (le_succ _))).trans (keep2 b o eb)))
  ·exact wpAny_pure ⟨_,rfl,h h' tk out c Mv hD hp⟩
end
theorem zE{α:Type}:∀{ps:List Str} {xs:List α} {i:Nat} {x:Str} {v:α},ps.Nodup->ps[i]?=some x->xs[i]?=some v->(ps.zip xs).lookup x=some v
 |[],_,i,x,v,_,h,_=>bU getElem?_nil h
 |p::ps,[],i,x,v,_,_,h=>bU getElem?_nil h
 |p::ps,y::xs,0,x,v,_,h1,h2=>by rw[List.zip_cons_cons,<-Option.some.inj h1,List.lookup_cons_self];exact h2
 |p::ps,y::xs,i+1,x,v,hn,h1,h2=>by
  have hn:=nodup_cons.mp hn
  rw[List.zip_cons_cons,lookup_cons,show(x==p)=false from beq_eq_false_iff_ne.mpr λe=>hn.1 (e▸mem_of_getElem? h1)]
  exact zE (i:=i) hn.2 h1 h2
theorem D9{α:Type}:∀{ps:List Str} {xs:List α} {f:Str->Option α},ps.length=xs.length->(∀(i:Nat) (x:Str) (v:α),ps[i]?=some x->xs[i]?=some v->f x=some v)->ps.filterMap (λn=>(f n).map (n,·))=ps.zip xs
 |[],[],_,_,_=>rfl
 |[],_::_,_,h,_=>nomatch h
 |_::_,[],_,h,_=>nomatch h
 |p::ps,x::xs,f,h,hf=>by
  rw[List.filterMap_cons,hf 0 p x rfl rfl]
  exact congrArg ((p,x)::·) (D9 (Nat.succ.inj h) λi y v h1 h2=>hf (i+1) y v h1 h2)
theorem Mw{α:Type}{ps:List Str}{xs:List α}(hn:ps.Nodup)(hl:ps.length=xs.length):((ps.filter λn=>((ps.zip xs).lookup n).isNone).isEmpty)=true:=by
 rw[List.isEmpty_iff,List.filter_eq_nil_iff]
 intro x hx h
 obtain⟨i,hi,rfl⟩:=List.getElem_of_mem hx
 rw[zE hn (getElem?_eq_getElem hi) (getElem?_eq_getElem (hl▸hi))] at h
 cases h
noncomputable abbrev pV(ar:List Arg):Arguments:=⟨[],ar,none,[],[],none,[]⟩
theorem zF{a:Arguments}{ps:List Str}(h:pv a ps=true)(G:Arguments->Prop)(k:∀ar:List Arg,ar.map (·.arg)=ps->G (pV ar)):G a:=
 have key:∀po ar va ko kd kw df,(po.isEmpty&&(va.isNone&&(ko.isEmpty&&(kd.isEmpty&&(kw.isNone&&(df.isEmpty&&decide (ar.map Arg.arg=ps)))))))=true->G ⟨po,ar,va,ko,kd,kw,df⟩:=λpo ar va ko kd kw df h=>
  bg h λh1 h=>bg h λh2 h=>bg h λh3 h=>bg h λh4 h=>bg h λh5 h=>bg h λh6 h=>fE (G:=λpo=>G ⟨po,ar,va,ko,kd,kw,df⟩) h1 (vo (G:=λva=>G ⟨[],ar,va,ko,kd,kw,df⟩) h2 (fE (G:=λko=>G ⟨[],ar,none,ko,kd,kw,df⟩) h3 (fE (G:=λkd=>G ⟨[],ar,none,[],kd,kw,df⟩) h4 (vo (G:=λkw=>G ⟨[],ar,none,[],[],kw,df⟩) h5 (fE (G:=λdf=>G ⟨[],ar,none,[],[],none,df⟩) h6 (k ar (of_decide_eq_true h)))))))
 by cases a;exact key _ _ _ _ _ _ _ h
theorem Ea{fd:FuncData}{ar:List Arg}{xs:List Value}(hd:fd.defaults=.none)(hp:fd.params=pV ar)(hn:(ar.map (·.arg)).Nodup)(hl:(ar.map (·.arg)).length=xs.length):bindArgs fd ⟨xs,[]⟩=pure ((ar.map (·.arg)).zip xs):=by
 obtain⟨a1,a2,a3,a4,a5,a6,a7,a8,a9,gr,Vv,Vw,Vx,Vy,Vz⟩:=fd
 cases hd;cases hp
 have hD:(([]:List Value).drop (0 - (ar.map Arg.arg).length))=[]:=drop_nil
 generalize Mx:(([]:List Value).drop (0 - (ar.map Arg.arg).length))=D at hD
 change (if(decide (xs.length>(ar.map Arg.arg).length)&&true)=true then _ else(if(!((((ar.map Arg.arg).take ((ar.map Arg.arg).length - (([]:List Value).drop (0 - (ar.map Arg.arg).length)).length)).filter λn=>(((ar.map Arg.arg).zip xs).lookup n).isNone).isEmpty))=true then _ else(forIn (((ar.map Arg.arg).drop ((ar.map Arg.arg).length - (([]:List Value).drop (0 - (ar.map Arg.arg).length)).length)).zip (([]:List Value).drop (0 - (ar.map Arg.arg).length))) ((ar.map Arg.arg).zip xs) _ >>= _:Sem _)))=_
 rw[if_neg (λe=>absurd (of_decide_eq_true (and_eq_true_iff.mp e).1) (by rw[hl];exact lt_irrefl _)),Mx,hD,List.zip_nil_right,forIn_nil]
 rw[show(ar.map Arg.arg).length - ([]:List Value).length=(ar.map Arg.arg).length from rfl,take_length,if_neg (by rw[Mw hn hl];exact Bool.false_ne_true)]
 exact congrArg (pure (f:=Sem)) ((congrArg (List.filterMap _) (append_nil _)).trans (D9 hl λi x v h1 h2=>zE hn h1 h2))
noncomputable abbrev zG(qual:Str)(params:Arguments)(body:Expr)(scope:Scope)(cl:List (Str×Addr))(pm ct:Value)(c:Addr):FuncData:=
 {name:="<lambda>",qualname:=qual,params,body:=.expr body,scope,globals:=mainGlobals,closure:=cl,defaults:=.none,kwdefaults:=.none,doc:=.none,pyModule:=pm,annotations:=none,code:=.ref c,closureTuple:=ct,builtins:=builtinsNs}
noncomputable abbrev wu(qual:Str)(params:Arguments)(body:Expr)(scope:Scope)(cl:List (Str×Addr))(pm ct:Value)(c:Addr):Obj:=
 {cls:=.type "function",data:=.func (zG qual params body scope cl pm ct c)}
section
variable{Q:Value->Shared->Prop}{P:Pt}{cs:Scope}{env:Env}
theorem Eb{pos:Pos}{fl:Nat}{name:Str}{ps:Arguments}{fb:FuncBody}(G:Good X)(hc:env.code=.ref X.lc)(h0:P.H[0]?=some .tab)(hl:pos.line=gK.ln)(hm:pos.col=gK.lm)
  (hQ:∀c h' tk,SR ⟨P.φ,h'⟩ P.H->bJ eU P.w ⟨P.φ,h'⟩->mf h' c lq->c∉P.φ->Q (.ref c) (upd P.s h' tk)):wpAny X.M P.A (functionCode env pos fl name lq ps cs fb) Q NE P.s:=
 P.R.at h0 λa ha zH=>zH.inv _ ⟨λea e=>by
  subst ea
  have k:=G.tab P.s.heap #[] P.R.keep e trivial
  refine wpAny_functionCodeX hc k.1 k.2 rfl λc h' tk hx iA bX ζ ua My v9=>?_
  have etab:h'.get? X.lP=some (gB #[rawInt gK.ln,rawInt gK.lm,.ref c]):=by rw[<-hl,<-hm];exact My.2
  have nm:mf h' c lq:=by
   obtain⟨P',_,_,⟨oc,vs,g1,g2,g3,_⟩,_⟩:=v9
   obtain⟨c2,o2,Mz,t2,e2,g4,g5,g6⟩:=ua
   cases e2
   rw[g1] at g4;cases g4
   rw[g3] at g5;cases g5
   exact⟨oc,vs,t2,g1,g2,g3,g6⟩
  have hn:c∉P.φ:=(P.R.new (p:=P.w) (fF _ iA)).1
  have R:=SR.set (p:=P.w) (c:=.tab) P.R ha hx (.tab rfl etab nm hn)
  rw[show P.H.set 0 .tab=P.H from by cases e:P.H with|nil=>rw[e] at h0;cases h0|cons c r=>rw[e] at h0;cases h0;rfl] at R
  exact hQ c h' tk R (bJ.cell (q:=P.w) .refl (mem_of_getElem? ha) hx etab) nm hn,
 λc ea e nm hn=>by
  subst ea
  have k:=G.tab P.s.heap #[rawInt gK.ln,rawInt gK.lm,.ref c] P.R.keep e trivial
  refine wpAny_functionCode_hit (c':=.ref c) hc k.1 ?_ (hQ c P.s.heap P.s.toks P.R .refl nm hn)
  refine(?_:codeAmong pos [rawInt gK.ln,rawInt gK.lm,.ref c]=_)
  rw[<-hl,<-hm]
  simp[codeAmong,rawInt]⟩
end
section
variable{σ:Lv}{Q:Value->Shared->Prop}{cs:Scope}
inductive jJ(P:Fp σ)(ps:Arguments)(b:Expr)(cs:Scope)(cl:List (Str×Addr))(f:Addr)(h:Heap):Prop
 |mk (c:Addr) (pm ct:Value) (R:SR ⟨P.φ,h⟩ P.H) (S:bJ eU P.w ⟨P.φ,h⟩) (ho:h.get? f=some (wu lq ps b cs cl pm ct c)) (hf:f∉P.φ) (nm:mf h c lq) (hc:c∉P.φ):jJ P ps b cs cl f h
theorem Ec{P:Fp σ}{ps:Arguments}{b:Expr}{cl:List (Str×Addr)}{pm ct:Value}{h1 h2:Heap}{c:Addr}{tk:Nat}(hQ:∀f h' tk,P.s.heap.get? f=none->jJ P ps b cs cl f h'->Q (.ref f) (upd P.s h' tk))(e:aI P.s.heap h1)(R:SR ⟨P.φ,h2⟩ P.H)(S:bJ eU ⟨P.φ,h1⟩ ⟨P.φ,h2⟩)(nm:mf h2 c lq)(hc:c∉P.φ):Q (.ref h2.objs.size) (upd P.s (h2.push (wu lq ps b cs cl pm ct c)) tk):=
 have S2:bJ eU P.w ⟨P.φ,h2⟩:=(bJ.ext (q:=P.w) .refl e).trans S
 have e2:aI h2 (h2.push (wu lq ps b cs cl pm ct c)):=.push _
 have S3:bJ eU ⟨P.φ,h2⟩ ⟨P.φ,h2.push (wu lq ps b cs cl pm ct c)⟩:=bJ.ext (q:=⟨P.φ,h2⟩) .refl e2
 hQ _ _ tk (S2.dead (fF _ (le_refl _))) ⟨c,pm,ct,SR.ext (p:=⟨P.φ,h2⟩) R e2,S2.trans S3,get?_push_size _ rfl,(SR.new (p:=⟨P.φ,h2⟩) R (fF _ (le_refl _))).1,(nm.kp (p:=⟨P.φ,h2⟩) S3.kp hc).1,hc⟩
theorem MA{pos:Pos}{ps:Arguments}{b:Expr}{cl:List (Str×Addr)}(G:Good X)(P:Fp σ)(MB:(P.env.kindOf mk).isSome=true)(h0:P.H[0]?=some .tab)(hl:pos.line=gK.ln)(hm:pos.col=gK.lm)
  (eA:closureFor cs P.env=pure cl) (MC:defaultsOf ps P.env=([],[])) (hQ:∀f h' tk,P.s.heap.get? f=none->jJ P ps b cs cl f h'->Q (.ref f) (upd P.s h' tk)):wpAny X.M P.A (eval (.Lambda ps b cs pos) P.env) Q NE P.s:=by
 have q:=P.F.fc.code MB
 rw[arm_eval_Lambda,MC]
 refine(?_:wpAny X.M P.A (do let dv <-evalAll [];let kdv <-holding dv (evalAllOpt []);makeFunction "<lambda>" (P.env.qual++"<lambda>") ps (.expr b) cs P.env dv kdv [] pos pos.line) Q NE P.s)
 refine wpAny_bind (wpAny_pure (wpAny_bind (wpAny_holding (wpAny_pure ?_))))
 rw[makeFunction_eq,q.2]
 simp only[List.zip_nil_right,List.filterMap_nil,List.isEmpty_nil,if_true,pure_bind]
 unfold makeTail
 rw[eA,P.F.fc.glob]
 refine wpAny_bind (wpAny_pure ?_)
 obtain⟨bm,ob,b1,b2,b3,b4,b5,b6,b7⟩:=G.bm
 cases cl with
 |nil=>
  refine wpAny_bind (wpAny_pure (wpAny_bind (Eb (P:=P.toPt) G q.1 h0 hl hm λc h2 tk R2 S2 nm hn=>?_)))
  refine wpAny_bind (wpAny_builtinsFor (G.g.keeps R2.keep) b1 b2 (R2.keep _ _ b4) b5 b6 b7 (wpAny_bind (wpAny_nsGet (G.g.keeps R2.keep) ?_)))
  exact wpAny_bind (wpAny_pure (wpAny_newObj_type (Ec hQ (λζ ζ e=>e) R2 S2 nm hn) (by size_fits)))
 |cons q' r=>
  refine wpAny_bind (wpAny_newTextTuple (wpAny_bind (Eb (P:=(P.toPt.ext (.push _) P.s.toks).pt) G q.1 h0 hl hm λc h2 tk R2 S2 nm hn=>?_)))
  refine wpAny_bind (wpAny_builtinsFor (G.g.keeps R2.keep) b1 b2 (R2.keep _ _ b4) b5 b6 b7 (wpAny_bind (wpAny_nsGet (G.g.keeps R2.keep) ?_)))
  exact wpAny_bind (wpAny_pure (wpAny_newObj_type (Ec hQ (.push _) R2 S2 nm hn) (by size_fits)))
end
theorem bu.perm{p:Ws}{xs out:List Value}(hp:out.Perm xs):∀{vs:List V} {G:Prop},bu p vs xs->(∀ws:List V,ws.Perm vs->bu p ws out->G)->G:=by
 induction hp with
 |nil=>exact λr k=>k _ (.refl _) r
 |cons x _ ih=>
  intro vs G r k
  cases r with
  |cons r1 r2=>exact ih r2 λws h1 h2=>k _ (h1.cons _) (.cons r1 h2)
 |swap x y l=>
  intro vs G r k
  cases r with
  |cons r1 r2=>
   cases r2 with
   |cons r2 r3=>exact k _ (.swap _ _ _) (.cons r2 (.cons r1 r3))
 |trans _ _ zI zJ=>exact λr k=>zJ r λws h1 h2=>zI h2 λus h3 h4=>k us (h3.trans h1) h4
theorem bu.mem{p:Ws}{y:Value}{vs:List V}{xs:List Value}(r:bu p vs xs)(hm:y∈xs):∃v,v∈vs/\bf p v y:=
 bu.ind (M:=λvs xs=>y∈xs->∃v,v∈vs/\bf p v y) (λh=>nomatch h) (λr1 ζ m h=>(mem_cons.mp h).elim (λe=>⟨_,.head _,e▸r1⟩) λh=>(m h).imp λv q=>⟨.tail _ q.1,q.2⟩) r hm
noncomputable def pW(i:Nat):E:=.aU (.aU (.U (i+1)) (.U 0)) (.k (.int 0))
section
variable{σ:Lv}{cs:Scope}{Q:Value->Shared->Prop}
theorem MD{i:Nat}{b:Expr}(G:Good X)(h:CO σ.f i b=true):b0 σ (pW i) b:=
 j1.k (G:=λb=>b0 σ (pW i) b) h λy z p h=>bg h λh1 h2=>j1.k (G:=λy=>b0 σ (pW i) (.Subscript y z p)) h2 λu w p2 h2=>bg h2 λg1 g2=>
  y7 G (b:=.k (.int 0)) h1 (y7 G (b:=.U 0) g2 (ft.k (G:=λu=>b0 σ (.U (i+1)) u) g1 λx p h=>y3 h) (ft.k (G:=λw=>b0 σ (.U 0) w) g2 λx p h=>y3 h))
   (m3.k (G:=λz=>b0 σ (.k (.int 0)) z) h1 λc k p h=>C9 (of_decide_eq_true h))
theorem ME{C:Cl}{i:Nat}{ρ:aV}{H:Hp}{v:V}(h:be (ρ[i]?.join) λx=>be (eQ x v H) λy=>be (eQ y (.int 0) H) λk=>c3 k λζ=>True):WE C (pW i) (some v::ρ) H λk H'=>c3 k λζ=>H'=H:=
 show be (ρ[i]?.join) λx=>be (eQ x v H) λy=>be (eQ y (.int 0) H) λk=>c3 k λζ=>H=H from h.m λx h=>h.m λy h=>h.m λk h=>c3.k h (λk=>c3 k λζ=>H=H) λζ ζ=>rfl
theorem Nx.same{P:Pt}(N:Nx P P.H):N.φ=P.φ:=ext_getElem? λi=>by
 cases e:P.φ[i]? with
 |some a=>exact N.S.pre i a e
 |none=>exact List.getElem?_eq_none_iff.mpr (by rw[show N.φ.length=P.φ.length from N.R.len.trans P.R.len.symm];exact List.getElem?_eq_none_iff.mp e)
theorem Ed{n:Nat}{A:Around}{env':Env}(rm:lF A n)(hn:0<n)(h1:env'.scope.isGenerator=false)(h2:env'.scope.isCoroutine=false)(h3:env'.builtins=builtinsNs)(h4:env'.globals=mainGlobals):lF (A.in1.in1.deeper env') 0:=by
 obtain⟨fe,outer,e,_⟩:=rm.frames
 refine⟨?_,?_,rm.handled,env',fe::outer,?_,h1,h2,h3,h4⟩
 ·have:=rm.depth;refine(?_:A.depth+1+0+110<=_);lia
 ·have:=rm.units;refine(?_:A.units+1+1+3+5*0+200<=_);lia
 ·refine(?_:A.frames.map (env'::·)=_);rw[e];rfl
theorem jJ.kp{P:Fp σ}{ps:Arguments}{b:Expr}{cl:List (Str×Addr)}{f:Addr}{h h':Heap}(J:jJ P ps b cs cl f h)(R:SR ⟨P.φ,h'⟩ P.H)(S:bJ eU P.w ⟨P.φ,h'⟩)(K:Kp ⟨P.φ,h⟩ ⟨P.φ,h'⟩)(hf:∀o,h.get? f=some o->h'.get? f=some o):jJ P ps b cs cl f h':=
 J.casesOn λc pm ct ζ ζ ho ww nm hc=>⟨c,pm,ct,R,S,hf _ ho,ww,(nm.kp (p:=⟨P.φ,h⟩) K hc).1,hc⟩
theorem MF{P:Fp σ}{f:Addr}{p:Str}{ps:Arguments}{b:Expr}{cl:List (Str×Addr)}{v:V}{y:Value}{i tk:Nat}{h:Heap}{io:Addr->Prop}(G:Good X)(hn:0<σ.n)(dG:kh σ.f [p] cs)(nu:pv ps [p]=true)(eA:∀q,q∈cl->P.env.cells.lookup q.1=some q.2)(ni:∀x,(x,NameKind.free)∈cs.names->∃c,(x,c)∈cl)
  (J:jJ P ps b cs cl f h) (rv:bf ⟨P.φ,h⟩ v y) (hb:b0 ⟨0,0,⟨cs,p::σ.f.ns⟩⟩ (pW i) b) (MG:WE (aM 0) (pW i) (some v::P.ρ) P.H λk H'=>c3 k λζ=>H'=P.H) (c4:∀a,io a->a∉P.φ) :
  wpAny X.M P.A.in1.in1 (call (.ref f) [y]) (rR (jJ P ps b cs cl f) io P.s h) (λζ ζ=>False) (upd P.s h tk):=by
 refine zF nu (λps=>jJ P ps b cs cl f h->wpAny X.M P.A.in1.in1 (call (.ref f) [y]) (rR (jJ P ps b cs cl f) io P.s h) (λζ ζ=>False) (upd P.s h tk)) (λar pX J=>?_) J
 refine J.casesOn λc pm ct R S ho hf nm hc=>nm.casesOn λoc vs t e1 e2 e3 e4=>?_
 refine wpAny_call (codeAny_of_tree ?_)
 refine(?_:wpAny _ _ (callAny (.ref f) ⟨[y],[]⟩) _ _ (upd P.s h tk))
 refine wpAny_bind (wpAny_load ho ?_)
 refine wpAny_bind (m:=field (.ref c) 1) (wpAny_field e1 e3 e4 (wpAny_bind (wpAny_pure ?_)))
 rw[Ea (fd:=zG lq (pV ar) b cs cl pm ct c) (ar:=ar) (xs:=[y]) rfl rfl (by rw[pX];exact List.pairwise_singleton _ _) (by rw[pX];rfl),pX]
 refine wpAny_bind (wpAny_pure (wpAny_bind (wpAny_newFunctionEnv (λx hx hk=>by have:=dG.all x hx;rw[hk] at this;exact this) (λx hx=>mem_singleton.mp hx▸dG.DF p (.head _)) (λh1 kQ tT=>?_) dG.kind)))
 have keep:aI h h1:=λa o e=>tT.extBut a o (ne_of_lt (lt_size e)) (get?_push_of_some _ e)
 have hD:=fF h (le_refl _)
 have R1:SR ⟨P.φ,h1⟩ P.H:=SR.ext (p:=⟨P.φ,h⟩) R keep
 refine wpAny_bind (wpAny_enterFrame ((G.nolimit).keeps R1.keep) (by have:=P.rm.depth;refine(?_:P.A.depth<_);lia) ?_)
 dsimp only[zG]
 rw[dG.gen.1,dG.gen.2]
 refine wpAny_pure ⟨rfl,?_⟩
 have F1:=dG.fr (env':=newEnv cs h.objs.size mainGlobals cl (lq++".<locals>.") (some f) (.ref c) none builtinsNs) (ρl:=[some v]) (P.to (H:=P.H) ⟨P.φ,h,tk,R,S⟩)
  (kh.fc (P.to (H:=P.H) ⟨P.φ,h,tk,R,S⟩) dG.kind dG.gen rfl rfl dG.DG eA hD) (λx k h=>.inl h) eA ni hD keep kQ rfl λx hx=>by
   rw[mem_singleton.mp hx,show lk [p] [some v] p=some v by unfold lk;rw[List.idxOf_cons_self];rfl]
   refine(?_:iy ⟨P.φ,h1⟩ (some v) (List.lookup p [(p,y)]))
   rw[List.lookup_cons_self]
   exact .some (rv.kp (bJ.ext (own:=eU) (p:=⟨P.φ,h⟩) (q:=⟨P.φ,h⟩) .refl keep).kp)
 have S1':bJ eU P.w ⟨P.φ,h1⟩:=S.trans (bJ.ext (q:=⟨P.φ,h⟩) .refl keep)
 refine codeAny_of_tree ?_
 refine(?_:wpAny _ (P.A.in1.in1.deeper _) (do point;ret (<-(eval b _).onRaise (leaving _))) _ _ _)
 refine wpAny_bind (wpAny_point (wpAny_bind (wpAny_onRaise ?_)))
 refine wpAny_mono (hb ⟨⟨P.A.in1.in1.deeper _,P.φ,P.H,upd P.s h1 (tk+1),Ed P.rn hn dG.gen.1 dG.gen.2 rfl rfl,R1⟩,newEnv cs h.objs.size mainGlobals cl (lq++".<locals>.") (some f) (.ref c) none builtinsNs,some v::P.ρ,λx=>.inl rfl,F1,Ed P.rn hn dG.gen.1 dG.gen.2 rfl rfl⟩ _ (rR (jJ P (pV ar) b cs cl f) io P.s h) MG (λk H' hk N x r=>?_)) (λr s' hr=>wpAny_pure hr) (λζ ζ hF=>hF.elim)
 refine c3.k hk (λk=>bf N.w k x->_) (λj e r=>r.inv (λx=>rR (jJ P (pV ar) b cs cl f) io P.s h x N.s) λt=>?_) r
 subst e
 have S1:bJ eU ⟨P.φ,h⟩ ⟨N.φ,N.h⟩:=(bJ.ext (own:=eU) (p:=⟨P.φ,h⟩) (q:=⟨P.φ,h⟩) .refl keep).trans N.S
 have R2:SR ⟨N.φ,N.h⟩ P.H:=N.R
 rw[Nx.same (P:=⟨_,P.φ,P.H,_,_,R1⟩) N] at S1 R2
 exact⟨N.h,N.tk,j,t,rfl,rfl,J.kp R2 (S.trans S1) S1.kp λo e=>S1.keep _ _ e hf (λh=>h.elim),λa ha o e=>S1.keep _ _ e (c4 a ha) (λh=>h.elim)⟩
theorem def_plain{ps:Arguments}{p:Str}(env:Env)(h:pv ps [p]=true):defaultsOf ps env=([],[]):=zF h (λps=>defaultsOf ps env=([],[])) λζ ζ=>rfl
theorem MH{P:Fp σ}{p:Str}{ps:Arguments}{b:Expr}{cl:List (Str×Addr)}{i:Nat}{l:V}{x:Value}{us:List V}{f:Addr}{post:PQ}(G:Good X)(hn:0<σ.n)(dG:kh σ.f [p] cs)(nu:pv ps [p]=true)(hb:b0 ⟨0,0,⟨cs,p::σ.f.ns⟩⟩ (pW i) b)(eA:∀q,q∈cl->P.env.cells.lookup q.1=some q.2)(ni:∀x,(x,NameKind.free)∈cs.names->∃c,(x,c)∈cl)
  (rl:bf P.w l x) (wo:cP P.H l=some us) (dN:us.length<64) (hk:∀v∈us,be (P.ρ[i]?.join) λx=>be (eQ x v P.H) λy=>be (eQ y (.int 0) P.H) λk=>c3 k λζ=>True) (pp:∀ws:List V,ws.Perm us->jq ws P.H post) (k:Kn P.toPt post Q) (J:jJ P ps b cs cl f P.s.heap):wpAny X.M P.A (call (.builtin "sorted") [x] [(Str.ofString "key",.ref f)]) Q NE P.s:=by
 have far:∀a,D2 (P.s.heap.objs.size+1) (P.s.heap.objs.size+3) a->P.s.heap.get? a=none:=λa ha=>ha.elim (λe=>e▸fF _ (le_add_right _ _)) λe=>e▸fF _ (le_add_right _ _)
 have ap:∀a,D2 (P.s.heap.objs.size+1) (P.s.heap.objs.size+3) a->Ap P.w a:=λa ha=>P.R.new (p:=P.w) (far a ha)
 refine bE (P:=P.toPt) rl wo (λx=>wpAny X.M P.A (call (.builtin "sorted") [x] [(Str.ofString "key",.ref f)]) Q NE P.s) λζ ad xs m ζ ζ ζ h1 h2 ζ=>?_
 refine Mt (vs:=xs) (jJ P ps b cs cl f) (iz h1) (by rw[<-h2.length];exact dN) J (λg g' j ch=>j.casesOn λc pm ct R' S' dx ww Ee dC=>j.kp (SR.ch (p:=⟨P.φ,g⟩) R' ap ch) (bJ.ch (q:=⟨P.φ,g⟩) S' ch λa ha=>.inl (far a ha)) ch.kp λo e=>ch f o e λha=>J.casesOn λζ ζ ζ ζ ζ ho ζ ζ ζ=>bU (far f ha) ho) (λg Ef y hy j=>?_) λg Ef out c' j hD hp=>?_
 ·exact(h2.mem hy).elim λv q=>j.casesOn λc pm ct R' S' dx ww Ee dC=>MF G hn dG nu eA ni j (q.2.mono S') hb (ME (hk v q.1)) λa ha=>(ap a ha).1
 ·refine h2.perm hp λws hw MI=>?_
  exact j.casesOn λc pm ct R' S' dx ww Ee dC=>k _ _ (pp ws hw) (Pt.v7 R' S' hD (MI.mono S') (ap _ (.inl rfl)).1 (far _ (.inl rfl)) (by rw[hw.length_eq];exact lt_trans dN (by decide)) Ef) _ (zk R')
theorem MJ{a:E}{i:Nat}{g e v:Expr}{kp pos:Pos}(G:Good X)(hg:dU σ.f "sorted" g=true)(hn:0<σ.n)(hm:(σ.f.sc.names.lookup mk).isSome=true)(h0:cm σ.f a e=true)(ha:b0 σ a e)(hv:CP σ.f i v=true):b0 σ (.mY a i) (.Call g [e] [⟨some "key",v,kp⟩] pos):=λP post Q p k=>
 ft.k (G:=λg=>wpAny X.M P.A (eval (.Call g [e] [⟨some "key",v,kp⟩] pos) P.env) Q NE P.s) hg λx np hg=>bg hg λe1 ho=>tc.k (G:=λv=>wpAny X.M P.A (eval (.Call (.Name x np) [e] [⟨some "key",v,kp⟩] pos) P.env) Q NE P.s) hv λps b cs lp hv=>bg hv λhl hv=>bg hv λhc hv=>if1.k (G:=λζ=>_) hv λq hv=>bg hv λnu hv=>bg hv λdG MK=>by
  obtain rfl:=eq_of_beq e1
  have dG:=pw.sc dG
  obtain⟨y,hy⟩:∃y,backTo pos (starEach [e] P.env)=[(false,y)]:=⟨_,by rw[oo h0 P.env];rfl⟩
  refine(?_:wpAny X.M P.A (do callWith pos (<-eval (.Name "sorted" np) P.env) [] (backTo pos (starEach [e] P.env)) (backToKw pos (keywordEach [⟨some "key",.Lambda ps b cs lp,kp⟩] P.env))) Q NE P.s)
  refine wpAny_bind (oj G P (y:=.builtin "sorted") (fV 9 (by decide)) ho (callWith_builtin_kwB (by rw[hy];rfl) rfl ?_))
  rw[hy]
  refine evalArgs_kwB rfl ?_
  rw[<-hy]
  refine vY (env:=P.env) cs.names [] (λζ h=>nomatch h) (λq hq hk=>by have:=dG.all q hq;rw[hk] at this;exact(P.F.n9 _ this.1 (zg P this.2.2)).imp λc w=>w.elim λζ w=>w.1) λcl eA zi ζ zj=>?_
  refine wpAny_items_cons (ha P _ _ p (λu H1 p1 N x r=>wpAny_items_nil (be.k p1 λus eu p1=>?_))) (oo h0 P.env _)
  refine kws_cons (MA G (P.to N) ((P.kd mk).elim (λe=>e▸hm) λe=>by cases ek:P.env.kindOf mk with|none=>rw[ek] at e;cases e.2|some _=>rfl) p1.1.2 (of_decide_eq_true hl) (of_decide_eq_true hc) (by unfold closureFor;rw[bind_pure];exact eA) (def_plain _ nu) λf h' tk hf J=>kws_nil (J.casesOn λc pm ct R S ho ML nm hc=>?_))
  exact MH (P:=(P.to N).to ⟨N.φ,h',tk,R,S⟩) G hn dG nu (MD (σ:=⟨0,0,_⟩) G MK) zi zj (r.mono S) eu p1.1.1 p1.2.1 p1.2.2 ((k.nx N).nx ⟨N.φ,h',tk,R,S⟩) ⟨c,pm,ct,R,.refl,ho,ML,nm,hc⟩
end
end Mine
namespace Mine.T
open PySem PySem.SetTable
noncomputable def fH(m:Nat)(p:Probe):Probe:=if p.more>0 then{p with j:=p.j+1,more:=p.more - 1} else{p with j:=(leap m p.i p.perturb).1,more:=runEnd m (leap m p.i p.perturb).1 - (leap m p.i p.perturb).1,i:=(leap m p.i p.perturb).1,perturb:=(leap m p.i p.perturb).2}
theorem MN(t:SetTable)(p:Probe):t.advance p=fH t.mask p:=rfl
noncomputable def bR(m:Nat):Nat->Probe->Probe
 |0,p=>p
 |n+1,p=>bR m n (fH m p)
theorem Eg(m:Nat):∀(n:Nat) (p:Probe),bR m (n+1) p=fH m (bR m n p)
 |0,p=>rfl
 |n+1,p=>Eg m n (fH m p)
theorem mq(m:Nat):∀(a b:Nat) (p:Probe),bR m (a+b) p=bR m b (bR m a p)
 |0,b,p=>by rw[zero_add];rfl
 |a+1,b,p=>by rw[succ_add];exact mq m a b (fH m p)
noncomputable def kT(m:Nat):Prop:=m=7\/m=31\/m=127
noncomputable def ub(m i:Nat):Nat:=(i*5+1)%(m+1)
noncomputable def mr(m:Nat):Nat->Nat->Nat
 |0,i=>i
 |c+1,i=>mr m c (ub m i)
theorem wx(m:Nat):∀(a b i:Nat),mr m (a+b) i=mr m b (mr m a i)
 |0,b,i=>by rw[zero_add];rfl
 |a+1,b,i=>by rw[succ_add];exact wx m a b (ub m i)
noncomputable def VA(m:Nat):List Nat:=(List.range (m+1)).map λc=>mr m c 0
theorem Eh{m:Nat}(h:kT m):((List.range (m+1)).all λj=>(List.range (m+1)).any λc=>mr m c 0==j)=true/\mr m (m+1) 0=0:=by
 rcases h with h|h|h<;>subst h
 ·decide +kernel
 ·decide +kernel
 ·decide +kernel
theorem Ei{m:Nat}(h:kT m){j:Nat}(hj:j<=m):∃c,c<=m/\mr m c 0=j:=by
 have h1:=all_eq_true.mp (Eh h).1 j (mem_range.mpr (lt_succ_of_le hj))
 obtain⟨c,hc,e⟩:=any_eq_true.mp h1
 exact⟨c,le_of_lt_succ (mem_range.mp hc),eq_of_beq e⟩
theorem Ej{m:Nat}(h:kT m){i j:Nat}(hi:i<=m)(hj:j<=m):∃c,c<=m/\mr m c i=j:=by
 obtain⟨a,ha,ea⟩:=Ei h hi
 obtain⟨b,hb,eb⟩:=Ei h hj
 rcases le_total a b with fO|fO
 ·refine⟨b - a,le_trans (sub_le _ _) hb,?_⟩
  rw[<-ea,<-wx,add_sub_cancel' fO,eb]
 ·by_cases pR:a=b
  ·exact⟨0,zero_le _,by rw[<-ea,pR,eb];rfl⟩
  ·obtain⟨d,rfl⟩:=Nat.exists_eq_add_of_le fO
   refine⟨m+1 - d,le_of_lt_succ (sub_lt (succ_pos m) (pos_of_ne_zero λe=>pR (by rw[e];rfl))),?_⟩
   rw[<-ea,<-wx,add_assoc,add_sub_cancel' (Nat.le_succ_of_le (le_trans (le_add_left d b) ha)),add_comm,wx,(Eh h).2,eb]
theorem Ek(m:Nat):∀(k:Nat) (p:Probe),p.more=k->∃n,n<=k+1/\(bR m n p).j=(leap m p.i p.perturb).1/\(bR m n p).i=(leap m p.i p.perturb).1/\(bR m n p).perturb=(leap m p.i p.perturb).2/\(bR m n p).more=runEnd m (leap m p.i p.perturb).1 - (leap m p.i p.perturb).1
 |0,p,h=>by
  refine⟨1,le_refl _,?_⟩
  refine(?_:(fH m p).j=_/\(fH m p).i=_/\(fH m p).perturb=_/\(fH m p).more=_)
  unfold fH
  rw[if_neg (by rw[h];exact lt_irrefl 0)]
  exact⟨rfl,rfl,rfl,rfl⟩
 |k+1,p,h=>by
  have e:fH m p={p with j:=p.j+1,more:=p.more - 1}:=if_pos (by rw[h];exact succ_pos k)
  obtain⟨n,hn,h1,h2,h3,h4⟩:=Ek m k (fH m p) (by rw[e];refine(?_:p.more - 1=k);rw[h];rfl)
  rw[e] at h1 h2 h3 h4
  refine⟨n+1,succ_le_succ hn,?_⟩
  refine(?_:(bR m n (fH m p)).j=_/\(bR m n (fH m p)).i=_/\(bR m n (fH m p)).perturb=_/\(bR m n (fH m p)).more=_)
  rw[e]
  exact⟨h1,h2,h3,h4⟩
theorem zK(m i:Nat):runEnd m i - i<=9:=by
 unfold runEnd
 split
 ·rw[add_sub_cancel_left];exact le_refl _
 ·rw[sub_self];exact zero_le _
noncomputable def lp(m:Nat):Nat->Nat×Nat->Nat×Nat
 |0,x=>x
 |k+1,x=>lp m k (leap m x.1 x.2)
theorem El(m:Nat):∀(k:Nat) (p:Probe),p.more<=9->∃n,n<=10*k/\((bR m n p).i,(bR m n p).perturb)=lp m k (p.i,p.perturb)/\(bR m n p).more<=9/\(0<k->(bR m n p).j=(bR m n p).i)
 |0,p,h=>⟨0,zero_le _,rfl,h,λh=>absurd h (lt_irrefl 0)⟩
 |k+1,p,h=>by
  obtain⟨n,hn,h1,h2,h3,h4⟩:=Ek m p.more p rfl
  obtain⟨n',vz,g1,g2,g3⟩:=El m k (bR m n p) (by rw[h4];exact zK _ _)
  refine⟨n+n',by rw[Nat.mul_succ,add_comm];exact add_le_add vz (le_trans hn (succ_le_succ h)),?_,?_,λζ=>?_⟩
  ·rw[mq,g1,h2,h3];rfl
  ·rw[mq];exact g2
  ·rw[mq]
   cases k with
   |zero=>
    have:n'=0:=le_zero.mp vz
    rw[this]
    refine(?_:(bR m n p).j=(bR m n p).i)
    rw[h1,h2]
   |succ k=>exact g3 (succ_pos k)
theorem zL(m:Nat):∀(k:Nat) (x:Nat×Nat),x.2<32^k->(lp m k x).2=0
 |0,x,h=>by refine(?_:x.2=0);rw[Nat.pow_zero] at h;exact Nat.lt_one_iff.mp h
 |k+1,x,h=>zL m k _ (by refine(?_:x.2/32<32^k);rw[pow_succ,mul_comm] at h;exact Nat.div_lt_of_lt_mul h)
theorem zM(m:Nat):∀(a b:Nat) (x:Nat×Nat),lp m (a+b) x=lp m b (lp m a x)
 |0,b,x=>by rw[zero_add];rfl
 |a+1,b,x=>by rw[succ_add];exact zM m a b _
theorem zN(m:Nat):∀(k i:Nat),lp m k (i,0)=(mr m k i,0)
 |0,i=>rfl
 |k+1,i=>by
  have e:leap m i 0=(ub m i,0):=by unfold leap ub;rw[Nat.zero_div,Nat.add_zero]
  refine(?_:lp m k (leap m i 0)=_)
  rw[e];exact zN m k (ub m i)
theorem zO(m:Nat):∀(k:Nat) (x:Nat×Nat),x.1<=m->(lp m k x).1<=m
 |0,x,h=>h
 |k+1,x,h=>zO m k _ (le_of_lt_succ (mod_lt _ (succ_pos m)))
theorem Em{m:Nat}(h:kT m){p:Probe}(hi:p.i<=m)(hm:p.more<=9)(hp:p.perturb<2^64){j:Nat}(hj:j<=m):∃n,n<10*turns m/\(bR m n p).j=j:=by
 have uc:(lp m 13 (p.i,p.perturb)).2=0:=zL m 13 _ (lt_of_lt_of_le hp (by decide))
 obtain⟨c,hc,ec⟩:=Ej h (zO m 13 (p.i,p.perturb) hi) hj
 obtain⟨n,hn,h1,_,h3⟩:=El m (13+c) p hm
 refine⟨n,lt_of_le_of_lt hn (by unfold turns;exact(Nat.mul_lt_mul_left (by decide)).mpr (lt_of_le_of_lt (add_le_add_left hc 13) (by rw[add_comm];exact Nat.add_lt_add_left (by decide) m))),?_⟩
 rw[h3 (lt_of_lt_of_le (by decide) (le_add_right 13 c))]
 have e:lp m (13+c) (p.i,p.perturb)=(j,0):=by
  rw[zM,show lp m 13 (p.i,p.perturb)=((lp m 13 (p.i,p.perturb)).1,0) from Prod.ext rfl uc,zN,ec]
 rw[e] at h1
 exact congrArg Prod.fst h1
noncomputable abbrev kU(xs:Array Nat):Prop:=∀(i k u v:Nat),i<k->xs[i]?=some u->xs[k]?=some v->u<v
theorem rS{α:Type}{xs:Array α}{i:Nat}{v:α}(h:xs[i]?=some v):i<xs.size:=(Array.getElem?_eq_some_iff.mp h).1
theorem MO{a b c:Nat}(h:a - b<=c+1):a - (b+1)<=c:=by rw[sub_succ];exact Nat.pred_le_pred h
theorem mid{lo hi:Nat}(h:lo<hi):lo<=(lo+hi)/2/\(lo+hi)/2<hi:=by lia
structure zP(xs:Array Nat)(j b:Nat):Prop where
 le:b<=xs.size
 lo:∀i v,xs[i]?=some v->i<b->v<j
 hi:∀i v,xs[i]?=some v->b<=i->j<=v
theorem zQ{xs:Array Nat}(hr:kU xs)(j:Nat):∀(cJ lo hi:Nat),hi - lo<=cJ->lo<=hi->hi<=xs.size->(∀i v,xs[i]?=some v->i<lo->v<j)->(∀i v,xs[i]?=some v->hi<=i->j<=v)->zP xs j (below.go xs j cJ lo hi)
 |0,lo,hi,hf,hl,hs,h1,h2=>⟨le_trans hl hs,h1,λi v hv h=>h2 i v hv (le_trans (Nat.sub_eq_zero_iff_le.mp (le_zero.mp hf)) h)⟩
 |cJ+1,lo,hi,hf,hl,hs,h1,h2=>by
  refine(?_:zP xs j (if lo<hi then if xs.getD ((lo+hi)/2) j<j then below.go xs j cJ ((lo+hi)/2+1) hi else below.go xs j cJ lo ((lo+hi)/2) else lo))
  by_cases bX:lo<hi
  ·rw[if_pos bX]
   have md:=mid bX
   have hm:(lo+hi)/2<xs.size:=lt_of_lt_of_le md.2 hs
   have em:xs[(lo+hi)/2]?=some xs[(lo+hi)/2]:=Array.getElem?_eq_getElem hm
   rw[show xs.getD ((lo+hi)/2) j=xs[(lo+hi)/2] by rw[Array.getD_eq_getD_getElem?,em];rfl]
   generalize (lo+hi)/2=m at *
   by_cases hj:xs[m]<j
   ·rw[if_pos hj]
    refine zQ hr j cJ _ hi (MO (le_trans (Nat.sub_le_sub_left md.1 hi) hf)) md.2 hs (λi v hv fx=>?_) h2
    rcases lt_or_ge i m with h|h
    ·exact lt_trans (hr i _ v _ h hv em) hj
    ·rw[le_antisymm (le_of_lt_succ fx) h,em] at hv
     cases hv;exact hj
   ·rw[if_neg hj]
    refine zQ hr j cJ lo _ (le_of_lt_succ (lt_of_lt_of_le (Nat.sub_lt_sub_right md.1 md.2) hf)) md.1 (le_of_lt hm) h1 (λi v hv fx=>?_)
    rcases lt_or_ge m i with h|h
    ·exact le_of_lt (lt_of_le_of_lt (not_lt.mp hj) (hr _ i _ v h em hv))
    ·rw[le_antisymm h fx,em] at hv
     cases hv;exact not_lt.mp hj
  ·rw[if_neg bX]
   exact⟨le_trans hl hs,h1,λi v hv h=>h2 i v hv (le_trans (not_lt.mp bX) h)⟩
theorem rT{xs:Array Nat}(hr:kU xs)(j:Nat):zP xs j (below xs j):=
 zQ hr j xs.size 0 xs.size (sub_le _ _) (zero_le _) (le_refl _) (λi v ζ h=>absurd h (not_lt_zero i)) (λi v hv h=>absurd (rS hv) (not_lt.mpr h))
theorem MP{xs:Array Nat}(hr:kU xs){i j:Nat}(h:xs[i]?=some j):below xs j=i:=by
 have B:=rT hr j
 have iA:below xs j<=i:=not_lt.mp λhl=>lt_irrefl j (B.lo i j h hl)
 rcases lt_or_ge (below xs j) i with hl|hl
 ·have hb:below xs j<xs.size:=lt_trans hl (rS h)
  have eb:xs[below xs j]?=some xs[below xs j]:=Array.getElem?_eq_getElem hb
  exact absurd (hr _ i _ j hl eb h) (not_lt.mpr (B.hi _ _ eb (le_refl _)))
 ·exact le_antisymm iA hl
theorem En{t:SetTable}(hr:kU t.place)(hd:t.dummies=#[])(j:Nat):(∃i:Nat,t.place[i]?=some j/\t.slot j=.live i)\/((∀i:Nat,t.place[i]?≠some j)/\t.slot j=.empty):=by
 have e:t.slot j=if(t.place[below t.place j]?==some j)=true then .live (below t.place j) else if has t.dummies j=true then .dummy else .empty:=rfl
 rw[e]
 by_cases h:t.place[below t.place j]?=some j
 ·exact .inl ⟨_,h,if_pos (by rw[h];exact beq_self_eq_true _)⟩
 ·refine .inr ⟨λi hi=>h (by rw[MP hr hi];exact hi),?_⟩
  rw[if_neg λq=>h (eq_of_beq q),hd]
  exact if_neg (by rw[show has #[] j=false from rfl];decide)
theorem Eo{α:Type}{xs:Array α}{p:Nat}(hp:p<=xs.size):(xs.extract 0 p).size=p:=by rw[Array.size_extract,min_eq_left hp];rfl
theorem ud{α:Type}{xs:Array α}{p:Nat}(hp:p<=xs.size)(x:α):(insertAt xs p x).size=xs.size+1:=by
 unfold insertAt
 rw[Array.size_append,Array.size_push,Eo hp,Array.size_extract,min_self,add_right_comm,add_sub_cancel' hp]
theorem ue{α:Type}{xs:Array α}{p:Nat}(hp:p<=xs.size)(x:α)(i:Nat):(insertAt xs p x)[i]?=if i<p then xs[i]? else if i=p then some x else xs[i - 1]?:=by
 unfold insertAt
 have es:=Eo hp
 have hs:((xs.extract 0 p).push x).size=p+1:=by rw[Array.size_push,es]
 rcases lt_trichotomy i p with h|h|h
 ·rw[if_pos h,Array.getElem?_append_left (by rw[hs];exact lt_succ_of_lt h),Array.getElem?_push,if_neg (by rw[es];exact ne_of_lt h),Array.getElem?_extract,if_pos (by rw[min_eq_left hp];exact h),zero_add]
 ·rw[h,if_neg (lt_irrefl _),if_pos rfl,Array.getElem?_append_left (by rw[hs];exact lt_succ_self _),Array.getElem?_push,if_pos es.symm]
 ·rw[if_neg (Nat.lt_asymm h),if_neg (ne_of_gt h),Array.getElem?_append_right (by rw[hs];exact h),hs,Array.getElem?_extract,min_self]
  obtain⟨d,rfl⟩:=Nat.exists_eq_add_of_le h
  rw[add_sub_cancel_left,show p+1+d - 1=p+d by rw[add_right_comm];rfl]
  split
  ·rfl
  ·next hd=>exact(Array.getElem?_eq_none (not_lt.mp λh=>hd (Nat.lt_sub_iff_add_lt'.mpr h))).symm
theorem MQ{xs:Array Nat}(hr:kU xs){j:Nat}(hj:∀i:Nat,xs[i]?≠some j):kU (insertAt xs (below xs j) j):=by
 have B:=rT hr j
 have h3:∀i v,xs[i]?=some v->below xs j<=i->j<v:=λi v hv hi=>lt_of_le_of_ne (B.hi i v hv hi) λe=>hj i (e▸hv)
 intro i k u v lJ hu hv
 rw[ue B.le] at hu hv
 have h1:=B.lo
 generalize below xs j=b at *
 cases k with
 |zero=>exact absurd lJ (not_lt_zero _)
 |succ k=>
  by_cases hi:i<b
  ·rw[if_pos hi] at hu
   by_cases hk:k+1<b
   ·rw[if_pos hk] at hv;exact hr i _ u v lJ hu hv
   ·rw[if_neg hk] at hv
    by_cases he:k+1=b
    ·rw[if_pos he] at hv;cases hv;exact h1 i u hu hi
    ·rw[if_neg he] at hv
     exact lt_trans (h1 i u hu hi) (h3 k v hv (le_of_lt_succ (lt_of_le_of_ne (not_lt.mp hk) (Ne.symm he))))
  ·rw[if_neg hi] at hu
   rw[if_neg (λh=>hi (lt_trans lJ h)),if_neg (λe:k+1=b=>hi (e▸lJ))] at hv
   by_cases he:i=b
   ·rw[if_pos he] at hu;cases hu;exact h3 k v hv (he▸le_of_lt_succ lJ)
   ·rw[if_neg he] at hu
    have h0:0<i:=lt_of_le_of_lt (zero_le b) (lt_of_le_of_ne (not_lt.mp hi) (Ne.symm he))
    exact hr (i - 1) k u v (lt_of_lt_of_le (sub_lt h0 Nat.one_pos) (le_of_lt_succ lJ)) hu hv
noncomputable abbrev start(m:Nat)(h:Int):Probe:={j:=bits h%(m+1),more:=runEnd m (bits h%(m+1)) - bits h%(m+1),i:=bits h%(m+1),perturb:=bits h,dummy:=none}
theorem VB(t:SetTable)(h:Int):t.probeStart h=start t.mask h:=rfl
theorem MR(h:Int):bits h<2^64:=by
 unfold bits
 have h1:=Int.emod_lt_of_pos h (show(0:Int)<2^64 by decide)
 have h2:=Int.emod_nonneg h (show(2^64:Int)≠0 by decide)
 exact(toNat_lt h2).mpr h1
structure Std(m:Nat)(p:Probe):Prop where
 i:p.i<=m
 more:p.more<=9
 uf:p.perturb<2^64
 dummy:p.dummy=none
 j:p.j+p.more<=m
theorem Ep{m i:Nat}(h:i<=m):i+(runEnd m i - i)<=m:=by
 unfold runEnd
 split
 ·rw[add_sub_cancel_left];assumption
 ·rw[sub_self];exact h
theorem ug(m:Nat)(h:Int):Std m (start m h):=⟨le_of_lt_succ (mod_lt _ (succ_pos m)),zK _ _,MR h,rfl,Ep (le_of_lt_succ (mod_lt _ (succ_pos m)))⟩
theorem Std.fH{m:Nat}{p:Probe}(h:Std m p):Std m (fH m p):=by
 unfold T.fH
 split
 ·rename_i hm
  exact⟨h.i,le_trans (sub_le _ _) h.more,h.uf,h.dummy,by have:=h.j;refine(?_:p.j+1+(p.more - 1)<=m);exact le_trans (le_of_eq (by rw[add_assoc,add_sub_cancel' hm])) this⟩
 ·exact⟨le_of_lt_succ (mod_lt _ (succ_pos m)),zK _ _,lt_of_le_of_lt (Nat.div_le_self _ _) h.uf,h.dummy,Ep (le_of_lt_succ (mod_lt _ (succ_pos m)))⟩
theorem Std.bR{m:Nat}:∀(n:Nat) {p:Probe},Std m p->Std m (bR m n p)
 |0,_,h=>h
 |n+1,_,h=>Std.bR n h.fH
noncomputable def i9(t:SetTable)(j:Nat):Prop:=∃i:Nat,t.place[i]?=some j
inductive Meets(t:SetTable)(hashAt:Nat->Int)(h:Int)(p:Probe)(r:Option Met):Prop
 |empty (n:Nat) (e:r=some (.empty (bR t.mask n p).j none)) (no:¬i9 t (bR t.mask n p).j) (before:∀k,k<n->∃i,t.place[i]?=some (bR t.mask k p).j/\hashAt i≠h)
 |uh (n i:Nat) (e:r=some (.candidate (bR t.mask n p).j i (bR t.mask (n+1) p))) (at':t.place[i]?=some (bR t.mask n p).j) (hh:hashAt i=h) (before:∀k,k<n->∃i,t.place[i]?=some (bR t.mask k p).j/\hashAt i≠h)
theorem Meets.later{t:SetTable}{hashAt:Nat->Int}{h:Int}{p:Probe}{r:Option Met}(m:Meets t hashAt h (fH t.mask p) r){i:Nat}(hi:t.place[i]?=some p.j)(hh:hashAt i≠h):Meets t hashAt h p r:=by
 have before:∀n,(∀k,k<n->∃i,t.place[i]?=some (bR t.mask k (fH t.mask p)).j/\hashAt i≠h)->∀k,k<n+1->∃i,t.place[i]?=some (bR t.mask k p).j/\hashAt i≠h:=λn hb k hk=>by
  cases k with
  |zero=>exact⟨i,hi,hh⟩
  |succ k=>exact hb k (Nat.lt_of_succ_lt_succ hk)
 cases m with
 |empty n e no b=>exact .empty (n+1) e no (before n b)
 |uh n i e a hh b=>exact .uh (n+1) i e a hh (before n b)
theorem Er{t:SetTable}(hr:kU t.place)(hd:t.dummies=#[])(hashAt:Nat->Int)(h:Int):∀(cJ:Nat) (p:Probe),p.dummy=none->(∃n,n<cJ/\¬i9 t (bR t.mask n p).j)->Meets t hashAt h p (probe.go t hashAt h cJ p)
 |0,p,_,hn=>by obtain⟨n,hn,_⟩:=hn;exact absurd hn (not_lt_zero n)
 |cJ+1,p,hp,hn=>by
  have e:probe.go t hashAt h (cJ+1) p=match t.slot p.j with
   |.empty=>some (.empty p.j p.dummy)
   |.dummy=>probe.go t hashAt h cJ (t.advance {p with dummy:=some p.j})
   |.live i=>if hashAt i==h then some (.candidate p.j i (t.advance p)) else probe.go t hashAt h cJ (t.advance p):=rfl
  rw[e]
  rcases En hr hd p.j with⟨i,hi,hs⟩|⟨gR,hs⟩
  ·rw[hs]
   refine(?_:Meets t hashAt h p (if(hashAt i==h)=true then some (.candidate p.j i (t.advance p)) else probe.go t hashAt h cJ (t.advance p)))
   by_cases hh:hashAt i=h
   ·rw[if_pos (by rw[hh];exact beq_self_eq_true h)]
    exact .uh 0 i rfl hi hh λk hk=>absurd hk (not_lt_zero k)
   ·rw[if_neg λq=>hh (eq_of_beq q),MN]
    refine(Er hr hd hashAt h cJ (fH t.mask p) ?_ ?_).later hi hh
    ·unfold fH;split<;>exact hp
    ·obtain⟨n,hn,ho⟩:=hn
     cases n with
     |zero=>exact absurd ⟨i,hi⟩ ho
     |succ n=>exact⟨n,Nat.lt_of_succ_lt_succ hn,ho⟩
  ·rw[hs]
   exact .empty 0 (by rw[<-hp];rfl) (λ⟨i,hi⟩=>gR i hi) λk hk=>absurd hk (not_lt_zero k)
theorem sub_len{α:Type}[DecidableEq α]:∀{l m:List α},l.Nodup->(∀x∈l,x∈m)->l.length<=m.length
 |[],_,_,_=>zero_le _
 |a::r,m,hn,hs=>by
  have hn:=nodup_cons.mp hn
  have ih:=sub_len (m:=m.erase a) hn.2 λx hx=>(List.mem_erase_of_ne λe:x=a=>hn.1 (e▸hx)).mpr (hs x (.tail _ hx))
  rw[List.length_erase_of_mem (hs a mem_cons_self)] at ih
  have:0<m.length:=List.length_pos_of_mem (hs a mem_cons_self)
  rw[length_cons]
  exact le_trans (succ_le_succ ih) (le_of_eq (sub_add_cancel this))
theorem Es{t:SetTable}(h:t.place.size<=t.mask):∃j,j<=t.mask/\¬i9 t j:=by
 refine byContradiction λgR=>?_
 have all:∀j,j∈List.range (t.mask+1)->j∈t.place.toList:=λj hj=>by
  have:i9 t j:=byContradiction λq=>gR ⟨j,le_of_lt_succ (mem_range.mp hj),q⟩
  obtain⟨i,hi⟩:=this
  exact mem_toList_iff.mpr (Array.mem_of_getElem? hi)
 have:=sub_len nodup_range all
 rw[length_range,length_toList] at this
 lia
theorem Et{t:SetTable}(hm:kT t.mask)(hr:kU t.place)(hd:t.dummies=#[])(hs:t.place.size<=t.mask)(hashAt:Nat->Int)(h:Int){p:Probe}(hp:Std t.mask p):Meets t hashAt h p (t.probe hashAt h p):=by
 obtain⟨j,hj,ho⟩:=Es hs
 obtain⟨n,hn,e⟩:=Em hm hp.i hp.more hp.uf hj
 exact Er hr hd hashAt h _ p hp.dummy ⟨n,hn,by rw[e];exact ho⟩
noncomputable def Reach(t:SetTable)(h:Int)(j:Nat):Prop:=∃n,(bR t.mask n (start t.mask h)).j=j/\∀k,k<n->i9 t (bR t.mask k (start t.mask h)).j
structure ja(t:SetTable)(es:Array (Int×Value)):Prop where
 mask:kT t.mask
 pY:t.dummies=#[]
 mu:kU t.place
 size:t.place.size=es.size
 room:t.place.size<=t.mask
 Eu:∀(i j:Nat) (h:Int) (x:Value),t.place[i]?=some j->es[i]?=some (h,x)->Reach t h j
theorem Ew{t:SetTable}{es:Array (Int×Value)}(T:ja t es){h:Int}{x:Value}{j n:Nat}(hj:(bR t.mask n (start t.mask h)).j=j)(no:¬i9 t j)(before:∀k,k<n->i9 t (bR t.mask k (start t.mask h)).j)(room:t.place.size+1<=t.mask):
  ja (t.put j).1 (insertAt es (t.put j).2 (h,x)):=by
 have hb:=(rT T.mu j).1
 have e1:(t.put j).1.place=insertAt t.place (below t.place j) j:=rfl
 have e2:(t.put j).2=below t.place j:=rfl
 have e3:(t.put j).1.mask=t.mask:=rfl
 have e4:(t.put j).1.dummies=#[]:=by
  refine(?_:(if has t.dummies j then eraseAt t.dummies (below t.dummies j) else t.dummies)=#[])
  rw[T.pY];rfl
 have up:∀{k},i9 t k->i9 (t.put j).1 k:=λ{k} ⟨i,hi⟩=>by
  rcases lt_or_ge i (below t.place j) with hl|hl
  ·exact⟨i,by rw[e1,ue hb,if_pos hl];exact hi⟩
  ·exact⟨i+1,by rw[e1,ue hb,if_neg (not_lt.mpr (Nat.le_succ_of_le hl)),if_neg (ne_of_gt (lt_succ_of_le hl))];exact hi⟩
 refine⟨T.mask,e4,MQ T.mu λi hi=>no ⟨i,hi⟩,?_,?_,λi j' h' x' hp he=>?_⟩
 ·rw[e1,e2,ud hb,ud (by rw[<-T.size];exact hb),T.size]
 ·rw[e1,ud hb];exact room
 ·rw[e1,ue hb] at hp
  rw[e2,ue (by rw[<-T.size];exact hb)] at he
  have old:∀i,t.place[i]?=some j'->es[i]?=some (h',x')->Reach (t.put j).1 h' j':=λi h1 h2=>by
   obtain⟨n,hn,hb⟩:=T.Eu i j' h' x' h1 h2
   exact⟨n,hn,λk hk=>up (hb k hk)⟩
  by_cases hl:i<below t.place j
  ·rw[if_pos hl] at hp he;exact old i hp he
  ·rw[if_neg hl] at hp he
   by_cases hi:i=below t.place j
   ·rw[if_pos hi] at hp he
    cases hp;cases he
    exact⟨n,hj,λk hk=>up (before k hk)⟩
   ·rw[if_neg hi] at hp he;exact old _ hp he
noncomputable def lK(owner:Array (Option Nat))(j:Nat):Prop:=(owner.getD j (some 0)).isNone=true
theorem zR(m:Nat):∀(k:Nat) (p:Probe),k<=p.more->bR m k p={p with j:=p.j+k,more:=p.more - k}
 |0,p,_=>rfl
 |k+1,p,h=>by
  have e:fH m p={p with j:=p.j+1,more:=p.more - 1}:=if_pos (lt_of_lt_of_le (succ_pos k) h)
  refine(?_:bR m k (fH m p)=_)
  rw[e,zR m k _ (by refine(?_:k<=p.more - 1);exact Nat.le_sub_of_add_le h)]
  refine(?_:({p with j:=p.j+1+k,more:=p.more - 1 - k}:Probe)=_)
  rw[show p.j+1+k=p.j+(k+1) from add_right_comm _ _ _,show p.more - 1 - k=p.more - (k+1) by rw[Nat.sub_sub,add_comm]]
noncomputable abbrev head(m i perturb:Nat):Probe:={j:=i,more:=runEnd m i - i,i,perturb,dummy:=none}
theorem Ey(m i perturb:Nat):bR m (runEnd m i - i+1) (head m i perturb)=head m (leap m i perturb).1 (leap m i perturb).2:=by
 rw[Eg,zR m (runEnd m i - i) (head m i perturb) (le_refl _)]
 exact if_neg (by refine(?_:¬(runEnd m i - i - (runEnd m i - i)>0));exact(by rw[sub_self];exact lt_irrefl 0))
theorem free_eq(m:Nat)(owner:Array (Option Nat))(cJ i perturb:Nat):layClean.free m owner (cJ+1) i perturb=match(List.range (runEnd m i+1 - i)).find? λk=>(owner.getD (i+k) (some 0)).isNone with
   |some k=>some (i+k)
   |none=>layClean.free m owner cJ (leap m i perturb).1 (leap m i perturb).2:=rfl
theorem Ez(m i:Nat):runEnd m i+1 - i=runEnd m i - i+1:=by
 unfold runEnd
 split
 ·rw[add_assoc,add_sub_cancel_left,add_sub_cancel_left]
 ·rw[add_sub_cancel_left,sub_self]
theorem EA{m:Nat}{owner:Array (Option Nat)}{j:Nat}:∀(cJ i perturb:Nat),layClean.free m owner cJ i perturb=some j->∃n,(bR m n (head m i perturb)).j=j/\lK owner j/\∀k,k<n->¬lK owner (bR m k (head m i perturb)).j
 |0,i,perturb,h=>nomatch h
 |cJ+1,i,perturb,h=>by
  rw[free_eq,Ez] at h
  have runj:∀k,k<=runEnd m i - i->(bR m k (head m i perturb)).j=i+k:=λk hk=>by rw[zR m k _ hk]
  cases hf:(List.range (runEnd m i - i+1)).find? λk=>(owner.getD (i+k) (some 0)).isNone with
  |some k=>
   rw[hf] at h
   cases h
   have hk:k<=runEnd m i - i:=le_of_lt_succ (mem_range.mp (mem_of_find?_eq_some hf))
   refine⟨k,runj k hk,List.find?_some (p:=λk=>(owner.getD (i+k) (some 0)).isNone) hf,λk' gq=>?_⟩
   rw[runj k' (le_trans (le_of_lt gq) hk)]
   obtain⟨as,bs,e,hb⟩:=List.find?_eq_some_iff_append.mp hf |>.2
   intro hF
   have du:as.length=k:=by
    have h1:=congrArg (λl=>l[as.length]?) e
    simp only[getElem?_append_right (le_refl _),sub_self,List.getElem?_cons_zero] at h1
    rw[getElem?_range (by
     have:=congrArg List.length e
     rw[length_range,length_append,length_cons] at this
     exact(by rw[this];exact Nat.lt_add_of_pos_right (succ_pos _)))] at h1
    exact Option.some.inj h1
   have hm:k'∈as:=by
    have h1:=congrArg (λl=>l[k']?) e
    simp only[getElem?_append_left (show k'<as.length from du.symm▸gq)] at h1
    rw[getElem?_range (lt_succ_of_le (le_trans (le_of_lt gq) hk))] at h1
    exact mem_of_getElem? h1.symm
   have:=hb k' hm
   unfold lK at hF
   rw[hF] at this
   exact absurd this (by decide)
  |none=>
   rw[hf] at h
   obtain⟨n,hn,hF,hb⟩:=EA cJ _ _ h
   have gR:=List.find?_eq_none.mp hf
   refine⟨runEnd m i - i+1+n,by rw[mq,Ey];exact hn,hF,λk hk=>?_⟩
   by_cases hl:k<runEnd m i - i+1
   ·rw[runj k (le_of_lt_succ hl)]
    exact λhF=>gR k (mem_range.mpr hl) hF
   ·have:=hb (k - (runEnd m i - i+1)) (Nat.sub_lt_left_of_lt_add (not_lt.mp hl) hk)
    rw[<-Ey,<-mq,show runEnd m i - i+1+(k - (runEnd m i - i+1))=k from add_sub_cancel' (not_lt.mp hl)] at this
    exact this
theorem EB{m:Nat}{owner:Array (Option Nat)}:∀(cJ i perturb:Nat),layClean.free m owner cJ i perturb=none->∀k,k<cJ->¬lK owner (lp m k (i,perturb)).1
 |0,i,perturb,_=>λk hk=>absurd hk (not_lt_zero k)
 |cJ+1,i,perturb,h=>by
  rw[free_eq,Ez] at h
  cases hf:(List.range (runEnd m i - i+1)).find? λk=>(owner.getD (i+k) (some 0)).isNone with
  |some k=>rw[hf] at h;cases h
  |none=>
   rw[hf] at h
   intro k hk
   cases k with
   |zero=>exact λhF=>List.find?_eq_none.mp hf 0 (mem_range.mpr (succ_pos _)) (by rw[Nat.add_zero];exact hF)
   |succ k=>exact EB cJ _ _ h k (Nat.lt_of_succ_lt_succ hk)
structure pZ(m:Nat)(hs:List Int)(owner:Array (Option Nat)):Prop where
 size:owner.size=m+1
 inj:∀(j j' k:Nat),owner[j]?=some (some k)->owner[j']?=some (some k)->j=j'
 lt:∀(j k:Nat),owner[j]?=some (some k)->k<hs.length
 all:∀(k:Nat) (h:Int),hs[k]?=some h->∃j n,owner[j]?=some (some k)/\(bR m n (start m h)).j=j/\∀n',n'<n->¬lK owner (bR m n' (start m h)).j
theorem ui{owner:Array (Option Nat)}{j:Nat}:lK owner j↔owner[j]?=some none:=by
 unfold lK
 rw[Array.getD_eq_getD_getElem?]
 cases h:owner[j]? with
 |none=>exact⟨λq=>(nomatch q),λq=>(nomatch q)⟩
 |some o=>
  cases o with
  |none=>exact⟨λζ=>rfl,λζ=>rfl⟩
  |some k=>exact⟨λq=>(nomatch q),λq=>(nomatch q)⟩
theorem MS{m:Nat}{hs:List Int}{owner:Array (Option Nat)}(O:pZ m hs owner)(h:hs.length<=m):∃j,j<=m/\lK owner j:=by
 refine byContradiction λgR=>?_
 have occ:∀j,j<m+1->∃k,owner[j]?=some (some k):=λj hj=>by
  have km:j<owner.size:=by rw[O.size];exact hj
  cases ho:owner[j] with
  |none=>exact absurd ⟨j,le_of_lt_succ hj,ui.mpr (by rw[Array.getElem?_eq_getElem km,ho])⟩ gR
  |some k=>exact⟨k,by rw[Array.getElem?_eq_getElem km,ho]⟩
 have hl:((List.range (m+1)).map λj=>((owner[j]?).getD none).getD 0).Nodup:=by
  refine pairwise_map.mpr (nodup_range.imp_of_mem λ{a b} ha hb fO e=>fO ?_)
  obtain⟨k,hk⟩:=occ a (mem_range.mp ha)
  obtain⟨k',gq⟩:=occ b (mem_range.mp hb)
  rw[hk,gq] at e
  have e:k=k':=e
  exact O.inj a b k hk (e▸gq)
 have:=sub_len (m:=List.range hs.length) hl λx hx=>by
  obtain⟨j,hj,rfl⟩:=mem_map.mp hx
  obtain⟨k,hk⟩:=occ j (mem_range.mp hj)
  rw[hk]
  exact mem_range.mpr (O.lt j k hk)
 rw[length_map,length_range,length_range] at this
 exact absurd (le_trans this h) (Nat.not_succ_le_self m)
noncomputable def wy(m:Nat)(acc:Option (Array (Option Nat)×Nat))(h:Int):Option (Array (Option Nat)×Nat):=do
 let (owner,k) <-acc
 let j <-layClean.free m owner (turns m) (bits h%(m+1)) (bits h)
 pure (owner.setIfInBounds j (some k),k+1)
theorem MT{m:Nat}(hm:kT m){hs:List Int}{owner:Array (Option Nat)}(O:pZ m hs owner)(hl:hs.length<=m)(h:Int):∃owner',wy m (some (owner,hs.length)) h=some (owner',hs.length+1)/\pZ m (hs++[h]) owner':=by
 cases hf:layClean.free m owner (turns m) (bits h%(m+1)) (bits h) with
 |none=>
  obtain⟨j,hj,hF⟩:=MS O hl
  have S:=ug m h
  have uc:(lp m 13 (bits h%(m+1),bits h)).2=0:=zL m 13 _ (lt_of_lt_of_le S.uf (by decide))
  obtain⟨c,hc,ec⟩:=Ej hm (zO m 13 (bits h%(m+1),bits h) S.i) hj
  have:=EB _ _ _ hf (13+c) (by unfold turns;lia)
  rw[zM,show lp m 13 (bits h%(m+1),bits h)=((lp m 13 (bits h%(m+1),bits h)).1,0) from Prod.ext rfl uc,zN,ec] at this
  exact absurd hF this
 |some j=>
  obtain⟨n,hn,hF,hb⟩:=EA _ _ _ hf
  have hj:=ui.mp hF
  have MU:j<owner.size:=rS hj
  refine⟨owner.setIfInBounds j (some hs.length),by unfold wy;rw[show(some (owner,hs.length) >>= λx=>layClean.free m x.1 (turns m) (bits h%(m+1)) (bits h) >>= λj=>pure (x.1.setIfInBounds j (some x.2),x.2+1))=(layClean.free m owner (turns m) (bits h%(m+1)) (bits h) >>= λj=>pure (owner.setIfInBounds j (some hs.length),hs.length+1)) from rfl,hf];rfl,?_⟩
  have get:∀i,(owner.setIfInBounds j (some hs.length))[i]?=if j=i then some (some hs.length) else owner[i]?:=λi=>by
   rw[Array.getElem?_setIfInBounds]
   by_cases e:j=i
   ·rw[if_pos e,if_pos e,if_pos MU]
   ·rw[if_neg e,if_neg e]
  have notF:∀i,¬lK owner i->¬lK (owner.setIfInBounds j (some hs.length)) i:=λi hi q=>hi (ui.mpr (by
   have q:=ui.mp q
   rw[get] at q
   split at q
   ·cases q
   ·exact q))
  refine⟨by rw[Array.size_setIfInBounds];exact O.size,λa b k ha fZ=>?_,λa k ha=>?_,λk h' hk=>?_⟩
  ·rw[get] at ha fZ
   split at ha
   ·rename_i e1
    split at fZ
    ·rename_i e2;rw[<-e1,<-e2]
    ·cases ha;exact absurd (O.lt b _ fZ) (lt_irrefl _)
   ·split at fZ
    ·cases fZ;exact absurd (O.lt a _ ha) (lt_irrefl _)
    ·exact O.inj a b k ha fZ
  ·rw[get] at ha
   rw[length_append,length_singleton]
   split at ha
   ·cases ha;exact lt_succ_self _
   ·exact lt_succ_of_lt (O.lt a k ha)
  ·rcases lt_or_ge k hs.length with uj|uj
   ·rw[getElem?_append_left uj] at hk
    obtain⟨j',n',h1,h2,h3⟩:=O.all k h' hk
    refine⟨j',n',?_,h2,λi hi=>notF _ (h3 i hi)⟩
    rw[get,if_neg λe=>?_]
    ·exact h1
    ·rw[<-e,hj] at h1;cases h1
   ·have:k=hs.length:=by
     have:=(List.getElem?_eq_some_iff.mp hk).1
     rw[length_append,length_singleton] at this
     exact le_antisymm (le_of_lt_succ this) uj
    subst this
    rw[getElem?_append_right (le_refl _),sub_self] at hk
    cases hk
    refine⟨j,n,by rw[get,if_pos rfl],hn,λi hi=>notF _ (hb i hi)⟩
theorem EC{m:Nat}(hm:kT m):∀(rest hs:List Int) (owner:Array (Option Nat)),pZ m hs owner->hs.length+rest.length<=m->∃owner',rest.foldl (wy m) (some (owner,hs.length))=some (owner',hs.length+rest.length)/\pZ m (hs++rest) owner'
 |[],hs,owner,O,_=>⟨owner,rfl,by rw[append_nil];exact O⟩
 |h::rest,hs,owner,O,hl=>by
  rw[length_cons] at hl
  obtain⟨o1,e1,O1⟩:=MT hm O (le_trans (le_add_right _ _) hl) h
  obtain⟨o2,e2,O2⟩:=EC hm rest (hs++[h]) o1 O1 (by rw[length_append,length_singleton];exact(by rw[add_right_comm];exact hl))
  refine⟨o2,?_,by rw[append_assoc] at O2;exact O2⟩
  rw[foldl_cons,e1]
  rw[length_append,length_singleton] at e2
  rw[e2,length_cons]
  exact congrArg (λn=>some (o2,n)) (add_right_comm _ _ _)
theorem MV(m:Nat):pZ m [] (Array.replicate (m+1) none):=by
 have no:∀(j k:Nat),(Array.replicate (m+1) (none:Option Nat))[j]?≠some (some k):=λj k h=>by
  rw[Array.getElem?_replicate] at h
  split at h<;>cases h
 exact⟨Array.size_replicate,λj j' k h=>absurd h (no j k),λj k h=>absurd h (no j k),λk h hk=>nomatch hk⟩
theorem MW{m:Nat}(hm:kT m)(hs:Array Int)(hl:hs.size<=m):∃owner,layClean m hs=some owner/\pZ m hs.toList owner:=by
 obtain⟨o,e,O⟩:=EC hm hs.toList [] _ (MV m) (by rw[length_nil,zero_add,length_toList];exact hl)
 refine⟨o,?_,O⟩
 have e':layClean m hs=(hs.foldl (wy m) (some (Array.replicate (m+1) none,0))).map (·.1):=rfl
 rw[e',<-Array.foldl_toList]
 rw[length_nil] at e
 rw[e];rfl
theorem ED{α β:Type}{f:α->Option β}:∀{l:List α},(∀a∈l,∃b,f a=some b)->∀i:Nat,(l.filterMap f)[i]?=(l[i]?).bind f
 |[],_,i=>rfl
 |a::r,h,i=>by
  obtain⟨b,hb⟩:=h a mem_cons_self
  rw[List.filterMap_cons_some hb]
  cases i with
  |zero=>exact hb.symm
  |succ i=>exact ED (λa ha=>h a (.tail _ ha)) i
theorem EE{α β:Type}{f:α->Option β}:∀{l:List α},(∀a∈l,∃b,f a=some b)->(l.filterMap f).length=l.length
 |[],_=>rfl
 |a::r,h=>by
  obtain⟨b,hb⟩:=h a mem_cons_self
  rw[List.filterMap_cons_some hb,length_cons,length_cons,EE λa ha=>h a (.tail _ ha)]
noncomputable abbrev hV(m:Nat)(owner:Array (Option Nat)):List (Nat×Nat):=(List.range (m+1)).filterMap λj=>(owner.getD j none).map (j,·)
theorem rU{m:Nat}{owner:Array (Option Nat)}(hs:owner.size=m+1){p:Nat×Nat}:p∈hV m owner↔owner[p.1]?=some (some p.2):=by
 rw[List.mem_filterMap]
 constructor
 ·rintro⟨j,hj,e⟩
  rw[Array.getD_eq_getD_getElem?] at e
  cases ho:owner[j]? with
  |none=>rw[ho] at e;cases e
  |some o=>
   rw[ho] at e
   cases o with
   |none=>cases e
   |some k=>cases e;exact ho
 ·intro h
  refine⟨p.1,mem_range.mpr (by rw[<-hs];exact rS h),?_⟩
  rw[Array.getD_eq_getD_getElem?,h];rfl
theorem EF(m:Nat)(owner:Array (Option Nat)):(hV m owner).Pairwise λa b=>a.1<b.1:=by
 refine Pairwise.filterMap _ (λa b fO x hx y hy=>?_) List.pairwise_lt_range
 cases ha:owner.getD a none with
 |none=>rw[ha] at hx;cases hx
 |some u=>
  rw[ha] at hx;cases hx
  cases hb:owner.getD b none with
  |none=>rw[hb] at hy;cases hy
  |some v=>rw[hb] at hy;cases hy;exact fO
theorem MX{l:List Nat}(h:l.Pairwise (·<·)):kU l.toArray:=λi k u v lJ hu hv=>by
 rw[getElem?_toArray] at hu hv
 obtain⟨h1,e1⟩:=List.getElem?_eq_some_iff.mp hu
 obtain⟨h2,e2⟩:=List.getElem?_eq_some_iff.mp hv
 rw[<-e1,<-e2]
 exact List.pairwise_iff_getElem.mp h i k h1 h2 lJ
theorem MY{α:Type}{es:Array α}{order:List Nat}(hn:order.Nodup)(h:∀k,k∈order↔k<es.size):(order.filterMap (es[·]?)).Perm es.toList:=by
 have p:order.Perm (List.range es.size):=(List.perm_ext_iff_of_nodup hn nodup_range).mpr λk=>(h k).trans mem_range.symm
 refine(p.filterMap _).trans (Perm.of_eq ?_)
 have e:(List.range es.size).map (λi=>es[i]?)=es.toList.map some:=by
  apply ext_getElem?
  intro i
  rw[getElem?_map,getElem?_map]
  by_cases hi:i<es.size
  ·rw[getElem?_range hi,getElem?_toList,Array.getElem?_eq_getElem hi];exact congrArg some (Array.getElem?_eq_getElem hi)
  ·rw[getElem?_eq_none (by rw[length_range];exact not_lt.mp hi),getElem?_eq_none (by rw[length_toList];exact not_lt.mp hi)];rfl
 have e2:=congrArg (List.filterMap id) e
 rw[List.filterMap_map,List.filterMap_map] at e2
 exact e2.trans List.filterMap_some
theorem EG{m f mv:Nat}{led plain:Bool}(hm:kT m){es:Array (Int×Value)}(hl:es.size<=m):∃t order,laid m f mv led plain (es.map (·.1))=some (t,order)/\t.mask=m/\t.led=led/\t.plain=plain/\ja t (order.filterMap (es[·]?))/\(order.filterMap (es[·]?)).toList.Perm es.toList/\order.toList.Perm (List.range es.size):=by
 obtain⟨owner,eo,O⟩:=MW hm (es.map (·.1)) (by rw[size_map];exact hl)
 have du:(es.map (·.1)).toList.length=es.size:=by rw[length_toList,size_map]
 refine⟨{mask:=m,place:=((hV m owner).map (·.1)).toArray,dummies:=#[],finger:=f,led,moves:=mv,plain},((hV m owner).map (·.2)).toArray,by unfold laid;rw[eo];rfl,rfl,rfl,rfl,?_⟩
 have lt:∀p∈hV m owner,p.2<es.size:=λp hp=>by rw[<-du];exact O.lt p.1 p.2 ((rU O.size).mp hp)
 have some_:∀k∈(hV m owner).map (·.2),∃b,(λx=>es[x]?) k=some b:=λk hk=>by
  obtain⟨p,hp,rfl⟩:=mem_map.mp hk
  exact⟨es[p.2]'(lt p hp),Array.getElem?_eq_getElem (lt p hp)⟩
 have e':(((hV m owner).map (·.2)).toArray.filterMap (es[·]?)).toList=((hV m owner).map (·.2)).filterMap (es[·]?):=by rw[Array.toList_filterMap]
 have nd:((hV m owner).map (·.2)).Nodup:=pairwise_map.mpr ((EF m owner).imp_of_mem λ{a b} ha hb fO e=>by
  have h1:=(rU O.size).mp ha
  have h2:=(rU O.size).mp hb
  rw[e] at h1
  exact absurd (O.inj _ _ _ h1 h2) (ne_of_lt fO))
 have all:∀k,k<es.size->k∈(hV m owner).map (·.2):=λk hk=>by
  obtain⟨j,n,h1,_⟩:=O.all k _ (getElem?_eq_getElem (by rw[du];exact hk))
  exact mem_map.mpr ⟨(j,k),(rU O.size).mpr h1,rfl⟩
 have mem:∀k,k∈(hV m owner).map (·.2)↔k<es.size:=λk=>⟨λhk=>(mem_map.mp hk).elim λp hp=>hp.2▸lt p hp.1,all k⟩
 have jK:(hV m owner).length=es.size:=by
  have h1:=sub_len (m:=List.range es.size) nd λk hk=>by
   obtain⟨p,hp,rfl⟩:=mem_map.mp hk
   exact mem_range.mpr (lt p hp)
  have h2:=sub_len (m:=(hV m owner).map (·.2)) (nodup_range (n:=es.size)) λk hk=>all k (mem_range.mp hk)
  rw[length_map,length_range] at h1 h2
  lia
 have cI:(((hV m owner).map (·.2)).toArray.filterMap (es[·]?)).size=es.size:=by
  rw[<-length_toList,e',EE some_,length_map,jK]
 have occ:∀j,¬lK owner j->j<=m->i9 {mask:=m,place:=((hV m owner).map (·.1)).toArray,dummies:=#[],finger:=f,led,moves:=mv,plain} j:=λj hF hj=>by
  have km:j<owner.size:=by rw[O.size];exact lt_succ_of_le hj
  cases ho:owner[j] with
  |none=>exact absurd (ui.mpr (by rw[Array.getElem?_eq_getElem km,ho])) hF
  |some k=>
   have hm:(j,k)∈hV m owner:=(rU O.size).mpr (by rw[Array.getElem?_eq_getElem km,ho])
   obtain⟨i,hi⟩:=getElem?_of_mem hm
   exact⟨i,by rw[getElem?_toArray,getElem?_map,hi];rfl⟩
 refine⟨⟨hm,rfl,MX (pairwise_map.mpr (EF m owner)),?_,?_,λi j h x hp he=>?_⟩,by rw[e'];exact MY nd mem,(List.perm_ext_iff_of_nodup nd nodup_range).mpr λk=>(mem k).trans mem_range.symm⟩
 ·refine(?_:((hV m owner).map (·.1)).toArray.size=_)
  rw[cI,size_toArray,length_map,jK]
 ·refine(?_:((hV m owner).map (·.1)).toArray.size<=m)
  rw[size_toArray,length_map,jK];exact hl
 ·have hp:((hV m owner).map (·.1)).toArray[i]?=some j:=hp
  rw[getElem?_toArray,getElem?_map] at hp
  rw[<-getElem?_toList,e',ED some_,getElem?_map] at he
  obtain⟨p,EH,rfl⟩:=Option.map_eq_some_iff.mp hp
  rw[EH] at he
  have he:es[p.2]?=some (h,x):=he
  have ho:=(rU O.size).mp (mem_of_getElem? EH)
  obtain⟨j',n,h1,h2,h3⟩:=O.all p.2 h (by rw[getElem?_toList,Array.getElem?_map,he];rfl)
  have:j'=p.1:=O.inj _ _ _ h1 ho
  refine⟨n,h2.trans this,λk hk=>occ _ (h3 k hk) ?_⟩
  exact le_trans (le_add_right _ _) ((ug m h).bR k).j
theorem zS{f:Value->Option Bool×Unit->Sem (ForInStep (Option Bool×Unit))}:∀l:List Value,(∀x∈l,f x (none,())=pure (.yield (none,())))->forIn l (none,()) f=pure (none,())
 |[],_=>rfl
 |x::r,h=>by
  rw[forIn_cons,h x mem_cons_self]
  exact zS r λy hy=>h y (.tail _ hy)
section
variable{A:Around}{E:Value->Shared->Prop}{s:Shared}
theorem EI{P:Value->Prop}(hi:∀i t,P (.int i t))(hb:∀b,P (.bool b)){ks:List Int}{vs:List Value}(h:ItemsAre j6 ks vs):∀v∈vs,P v:=by
 induction h with
 |nil=>exact λv hv=>nomatch hv
 |@cons k v ks vs h1 _ ih=>
  intro u hu
  rcases mem_cons.mp hu with e|hu
  ·subst e;exact rf (P:=P) h1 (λt=>hi k t) λb ζ=>hb b
  ·exact ih u hu
theorem EJ{ks:List Int}{a:Addr}{Q:Bool->Shared->Prop}(hk:IsTupleKey j6 s.heap ks a)(h:Q true s):wpAny (model X.prog X.w) A (hashByValue 8 (.ref a)) Q E s:=by
 obtain⟨o,items,n,ho,hc,hd,hi⟩:=hk
 unfold hashByValue
 refine wpAny_bind (wpAny_specialOf ⟨o,ho,hc⟩ F.slot_tuple_hash.lookup ?_)
 refine wpAny_bind (wpAny_seqItems ho hd ?_)
 refine(?_:wpAny _ _ (forIn items (none,()) _ >>= _) Q E s)
 rw[<-Array.forIn_toList,zS _ (EI (P:=λx=>(do let l <-hashByValue 7 x;if(!l)=true then pure (ForInStep.done (some false,())) else pure (ForInStep.yield (none,())):Sem (ForInStep (Option Bool×Unit)))=pure (.yield (none,()))) (λζ ζ=>rfl) (λζ=>rfl) hi)]
 exact wpAny_bind (wpAny_pure (wpAny_pure h))
theorem EK{ks:List Int}{a:Addr}{Q:Bool->Shared->Prop}(hk:IsTupleKey j6 s.heap ks a)(h:Q false s):wpAny (model X.prog X.w) A (ofAClassStatement 8 (.ref a)) Q E s:=by
 obtain⟨o,items,n,ho,hc,hd,hi⟩:=hk
 unfold ofAClassStatement
 refine wpAny_bind (wpAny_typeOf ⟨o,ho,hc⟩ ?_)
 dsimp only
 rw[if_pos (beq_self_eq_true _)]
 refine wpAny_bind (wpAny_pure ?_)
 refine wpAny_bind (wpAny_seqItems ho hd ?_)
 refine(?_:wpAny _ _ (forIn items (none,()) _ >>= _) Q E s)
 rw[<-Array.forIn_toList,zS _ (EI (P:=λx=>(do let l <-ofAClassStatement 7 x;if l=true then pure (ForInStep.done (some true,())) else pure (ForInStep.yield (none,())):Sem (ForInStep (Option Bool×Unit)))=pure (.yield (none,()))) (λζ ζ=>rfl) (λζ=>rfl) hi)]
 exact wpAny_bind (wpAny_pure (wpAny_pure h))
end
section
variable{A:Around}{E:Value->Shared->Prop}{s:Shared}
theorem EL{f:Value->Option Bool×Unit->Sem (ForInStep (Option Bool×Unit))}{Q:Option Bool×Unit->Shared->Prop}:∀l:List Value,(∀x∈l,∀R:ForInStep (Option Bool×Unit)->Shared->Prop,R (.yield (none,())) s->wpAny (model X.prog X.w) A (f x (none,())) R E s)->Q (none,()) s->wpAny (model X.prog X.w) A (forIn l (none,()) f) Q E s
 |[],_,q=>wpAny_pure q
 |x::r,h,q=>by
  rw[forIn_cons]
  exact wpAny_bind (h x mem_cons_self _ (EL r (λy hy=>h y (.tail _ hy)) q))
noncomputable abbrev hX(h:Heap)(k:List Int)(a:Addr):Prop:=IsTupleKey j6 h k a
theorem seen{k:List Int}{a:Addr}{l:List Value}{Q:Bool->Shared->Prop}(hk:hX s.heap k a)(hl:∀y∈l,∃k b,y=.ref b/\hX s.heap k b)(h:Q false s):wpAny (model X.prog X.w) A (searchCouldBeSeen (.ref a) l) Q E s:=by
 unfold searchCouldBeSeen
 refine wpAny_bind (EL l (λy hy R hR=>?_) (wpAny_pure h))
 obtain⟨k',b,rfl,hb⟩:=hl y hy
 dsimp only
 split
 ·exact wpAny_pure hR
 ·refine wpAny_bind (gj.quiet (k:=k) hk ?_)
  rw[if_neg (by decide)]
  refine wpAny_bind (gj.quiet (k:=k') hb ?_)
  rw[if_neg (by decide)]
  refine wpAny_bind (EK hk ?_)
  rw[if_neg (by decide)]
  refine wpAny_bind (EK hb ?_)
  rw[if_neg (by decide)]
  exact wpAny_pure hR
end
theorem EM{xs:Array Nat}(hr:kU xs){i k v:Nat}(h1:xs[i]?=some v)(h2:xs[k]?=some v):i=k:=by
 rcases lt_trichotomy i k with h|h|h
 ·exact absurd (hr i k v v h h1 h2) (lt_irrefl v)
 ·exact h
 ·exact absurd (hr k i v v h h2 h1) (lt_irrefl v)
section
variable{A:Around}{E:Value->Shared->Prop}{s:Shared}{S:Addr}{o:Obj}{es:Array (Int×Value)}{ep:Nat}{t:SetTable}
noncomputable def hP(k:List Int):Int:=gj.hash k
noncomputable def Ent(h:Heap)(k:List Int)(e:Int×Value):Prop:=∃a,e=(hP k,.ref a)/\hX h k a
theorem Ent.inj{h:Heap}{k k':List Int}{e:Int×Value}(x:Ent h k e)(y:Ent h k' e):k=k':=by
 obtain⟨a,rfl,ha⟩:=x
 obtain⟨b,e,hb⟩:=y
 have e2:a=b:=Value.ref.inj (congrArg Prod.snd e)
 subst e2
 exact IsTupleKey.inj ha hb
noncomputable def Pass(h:Heap)(t:SetTable)(es:Array (Int×Value))(k:List Int)(n:Nat):Prop:=∀m,m<n->∃i:Nat,t.place[i]?=some (bR t.mask m (start t.mask (hP k))).j/\∀e,es[i]?=some e->¬Ent h k e
theorem fits_of(T:ja t es):t.fits es.size=true:=by
 unfold SetTable.fits SetTable.fill
 rw[T.pY,T.size]
 have:=T.room
 rw[T.size] at this
 rw[Bool.and_eq_true]
 exact⟨beq_self_eq_true _,decide_eq_true (by refine(?_:es.size+0<=t.mask);exact this)⟩
theorem EN(ho:s.heap.get? S=some o)(hd:o.data=.set es ep t)(T:ja t es)(zT:∀(i:Nat) e,es[i]?=some e->∃k,Ent s.heap k e)(nw:gj.room A){k:List Int}{a:Addr}(hk:hX s.heap k a){Q:SetFound->Shared->Prop}
  (q1:∀(i:Nat) e,es[i]?=some e->Ent s.heap k e->∀r,Q (.there r) s)
  (q2:∀n,¬i9 t (bR t.mask n (start t.mask (hP k))).j->(∀m,m<n->i9 t (bR t.mask m (start t.mask (hP k))).j)->(∀(i:Nat) e,es[i]?=some e->¬Ent s.heap k e)->Q (.free (bR t.mask n (start t.mask (hP k))).j false) s) {N:Nat} (hN:¬i9 t (bR t.mask N (start t.mask (hP k))).j) :
  ∀(cJ n:Nat) (st:Option Probe),st.getD (t.probeStart (hP k))=bR t.mask n (start t.mask (hP k))->Pass s.heap t es k n->N<n+cJ->wpAny (model X.prog X.w) A (setSearchFrom S (.ref a) (hP k) true cJ st) Q E s
 |0,n,st,jG,hp,hf=>by
  obtain⟨i,hi,_⟩:=hp N hf
  exact absurd ⟨i,hi⟩ hN
 |cJ+1,n,st,jG,hp,hf=>by
  unfold setSearchFrom
  refine wpAny_bind (wpAny_setState_of ho hd (fits_of T) ?_)
  dsimp only
  rw[if_neg (by
   unfold SetTable.gaveWay
   rcases T.mask with e|e|e<;>rw[e]<;>decide)]
  have M:=Et T.mask T.mu T.pY T.room (λi=>(es[i]?.map (·.1)).getD 0) (hP k) (p:=st.getD (t.probeStart (hP k))) (by rw[jG];exact(ug _ _).bR n)
  have jb:∀{i j:Nat},t.place[i]?=some j->∃e,es[i]?=some e:=λ{i j} hi=>⟨es[i]'(by rw[<-T.size];exact rS hi),Array.getElem?_eq_getElem _⟩
  have later:∀n',(∀m,m<n'->∃i,t.place[i]?=some (bR t.mask m (bR t.mask n (start t.mask (hP k)))).j/\(es[i]?.map λx:Int×Value=>x.1).getD 0≠hP k)->Pass s.heap t es k (n+n'):=λn' hb m hm=>by
   rcases lt_or_ge m n with hl|hl
   ·exact hp m hl
   ·obtain⟨i,hi,hh⟩:=hb (m - n) (Nat.sub_lt_left_of_lt_add hl hm)
    rw[<-mq,show n+(m - n)=m from add_sub_cancel' hl] at hi
    refine⟨i,hi,λe he ⟨a',e1,_⟩=>hh ?_⟩
    rw[he,e1];rfl
  generalize hr:t.probe _ (hP k) (st.getD (t.probeStart (hP k)))=r
  have M:Meets t (λi=>(es[i]?.map (·.1)).getD 0) (hP k) (bR t.mask n (start t.mask (hP k))) r:=by
   rw[<-hr]
   rw[jG] at M ⊢
   exact M
  cases M with
  |empty n' e no before=>
   have P':=later n' before
   subst e
   rw[<-mq] at no ⊢
   refine wpAny_pure (q2 (n+n') no (λm hm=>(P' m hm).elim λi hi=>⟨i,hi.1⟩) λi e he hE=>?_)
   obtain⟨j,hj⟩:∃j,t.place[i]?=some j:=⟨t.place[i]'(by rw[T.size];exact rS he),Array.getElem?_eq_getElem _⟩
   obtain⟨b,eb,hb⟩:=hE
   obtain⟨m,hm,MZ⟩:=T.Eu i j _ _ hj (eb▸he)
   rcases lt_trichotomy m (n+n') with hl|hl|hl
   ·obtain⟨i',fx,gR⟩:=P' m hl
    rw[hm] at fx
    have:=EM T.mu fx hj
    subst this
    exact gR e he ⟨b,eb,hb⟩
   ·rw[<-hl,hm] at no
    exact no ⟨i,hj⟩
   ·exact no (MZ _ hl)
  |uh n' i e at' hh before=>
   have P':=later n' before
   subst e
   obtain⟨e,he⟩:=jb at'
   obtain⟨k',hE⟩:=zT i e he
   obtain⟨b,rfl,hb⟩:=hE
   have cont:wpAny (model X.prog X.w) A (do
     let equal <-holding [Value.ref b] (eqBool (.ref b) (.ref a))
     let __x <-setState S
     if(true&&equal)=true then pure (SetFound.there none)
      else match __x.2.snd.sameMemory t.moves t.mask with
       |some same=>match if same=true then __x.2.snd.slot (bR t.mask n' (bR t.mask n (start t.mask (hP k)))).j else Slot.empty with
        |Slot.live i'=>match __x.fst[i']? with
         |some (fst,y')=>do
          let __do_lift <-isSame y' (.ref b)
          let still <-pure (if __do_lift=true then some i' else none)
          match still with
           |none=>do
            rule "set.search.anew"
            setSearchFrom S (Value.ref a) (hP k) true cJ none
           |some i'=>if equal=true then pure (SetFound.there (some i')) else setSearchFrom S (Value.ref a) (hP k) true cJ (some (bR t.mask (n'+1) (bR t.mask n (start t.mask (hP k)))))
         |none=>do
          let still <-pure none
          match still with
           |none=>do
            rule "set.search.anew"
            setSearchFrom S (Value.ref a) (hP k) true cJ none
           |some i'=>if equal=true then pure (SetFound.there (some i')) else setSearchFrom S (Value.ref a) (hP k) true cJ (some (bR t.mask (n'+1) (bR t.mask n (start t.mask (hP k)))))
        |x=>do
         let still <-pure none
         match still with
          |none=>do
           rule "set.search.anew"
           setSearchFrom S (Value.ref a) (hP k) true cJ none
          |some i'=>if equal=true then pure (SetFound.there (some i')) else setSearchFrom S (Value.ref a) (hP k) true cJ (some (bR t.mask (n'+1) (bR t.mask n (start t.mask (hP k)))))
       |x=>unsupported "set.changed-during-lookup:is-the-new-block-at-the-old-address") Q E s:=by
    refine wpAny_bind (wpAny_holding (gj.eqBool nw hb hk ?_))
    refine wpAny_bind (wpAny_setState_of ho hd (fits_of T) ?_)
    by_cases zU:k'=k
    ·subst zU
     rw[decide_eq_true rfl]
     exact wpAny_pure (q1 i _ he ⟨b,rfl,hb⟩ _)
    ·rw[decide_eq_false zU]
     dsimp only
     rw[if_neg (by decide),show t.sameMemory t.moves t.mask=some true from if_pos (beq_self_eq_true _)]
     dsimp only
     rw[if_pos rfl]
     rcases En T.mu T.pY (bR t.mask n' (bR t.mask n (start t.mask (hP k)))).j with⟨i0,h0,hs⟩|⟨h0,_⟩
     ·have:=EM T.mu h0 at'
      subst this
      rw[hs]
      dsimp only
      rw[he]
      dsimp only
      refine wpAny_bind (wpAny_isSame_ref_self ?_)
      refine wpAny_bind (wpAny_pure ?_)
      refine(?_:wpAny _ _ (setSearchFrom S (.ref a) (hP k) true cJ (some (bR t.mask (n'+1) (bR t.mask n (start t.mask (hP k)))))) Q E s)
      refine EN ho hd T zT nw hk q1 q2 hN cJ (n+(n'+1)) _ (mq t.mask n (n'+1) (start t.mask (hP k))).symm (λm hm=>?_) (lt_of_lt_of_le hf (by rw[add_assoc];exact add_le_add_left (le_trans (le_of_eq (add_comm cJ 1)) (add_le_add_right (succ_le_succ (zero_le n')) cJ)) n))
      rcases lt_or_ge m (n+n') with hl|hl
      ·exact P' m hl
      ·have:m=n+n':=le_antisymm (le_of_lt_succ hm) hl
       subst this
       refine⟨i0,by rw[mq];exact at',λe' rV ny=>zU ?_⟩
       rw[he] at rV
       cases rV
       exact Ent.inj ⟨b,rfl,hb⟩ ny
     ·exact absurd at' (h0 i)
   dsimp only
   rw[he]
   split
   ·refine wpAny_bind (seen hk (λy hy=>?_) ?_)
    ·obtain⟨e',rV,rfl⟩:=mem_map.mp hy
     have hm:=(Array.mem_filter.mp (mem_toList_iff.mp rV)).1
     obtain⟨i',fx⟩:=Array.getElem?_of_mem hm
     obtain⟨M0,b',eb,fZ⟩:=zT i' e' fx
     exact⟨M0,b',by rw[eb],fZ⟩
    ·exact cont
   ·exact cont
end
theorem EO{α:Type}{xs:Array α}{p:Nat}(hp:p<=xs.size)(x:α):(insertAt xs p x).toList.Perm (xs.toList++[x]):=by
 unfold insertAt
 rw[Array.toList_append,toList_push,Array.toList_extract,Array.toList_extract]
 have e1:xs.toList.extract 0 p=xs.toList.take p:=rfl
 have e2:xs.toList.extract p xs.size=xs.toList.drop p:=by
  refine(?_:(xs.toList.drop p).take (xs.size - p)=_)
  exact List.take_of_length_le (by rw[length_drop,length_toList];exact le_refl _)
 rw[e1,e2,append_assoc]
 refine(List.perm_append_comm.append_left _).trans ?_
 rw[<-append_assoc,List.take_append_drop]
theorem EP{n m:Nat}(hm:kT m)(h1:(n+1)*5≥m*3)(hs:n*5<m*3)(rW:n<=60):∃m',sizeAbove (grown (n+1))=m'+1/\kT m'/\(n+1)*5<m'*3/\n+1<=m':=by
 rcases hm with e|e|e<;>rw[e] at h1 hs
 ·have:n=4:=by lia
  rw[this];exact⟨31,by decide +kernel,.inr (.inl rfl),by decide,by decide⟩
 ·have:n=18:=by lia
  rw[this];exact⟨127,by decide +kernel,.inr (.inr rfl),by decide,by decide⟩
 ·exact absurd (le_trans h1 (mul_le_mul_right 5 (succ_le_succ rW))) (by decide)
section
variable{A:Around}{E:Value->Shared->Prop}{s:Shared}{S:Addr}
noncomputable abbrev ent(p:List Int×Addr):Int×Value:=(hP p.1,.ref p.2)
structure uk(h:Heap)(es:Array (Int×Value))(t:SetTable)(kl:List (List Int×Addr)):Prop where
 ok:ja t es
 plain:t.plain=true
 led:t.led=!X.w.params.followText "set-order"
 small:es.size*5<t.mask*3
 perm:es.toList.Perm (kl.map (ent))
 keys:∀p∈kl,hX h p.1 p.2
 nd:(kl.map (·.1)).Nodup
noncomputable def SP(h:Heap)(S:Addr)(kl:List (List Int×Addr)):Prop:=∃o es ep t,h.get? S=some o/\o.ExactSet/\o.data=.set es ep t/\uk h es t kl
theorem hX.same{h h':Heap}{k:List Int}{a:Addr}{o:Obj}{es:Array (Int×Value)}{ep:Nat}{t:SetTable}(x:hX h k a)(ho:h.get? S=some o)(hd:o.data=.set es ep t)(sb:SameBut S h h'):hX h' k a:=by
 obtain⟨o',items,n,dx,hc,fY,hi⟩:=x
 have b8:a≠S:=by
  rintro rfl
  rw[ho] at dx;cases dx
  rw[hd] at fY;cases fY
 exact⟨o',items,n,(sb.2 a b8).trans dx,hc,fY,hi⟩
theorem Ent.of{h:Heap}{kl:List (List Int×Addr)}{es:Array (Int×Value)}{t:SetTable}(Z:uk h es t kl){i:Nat}{e:Int×Value}(he:es[i]?=some e):∃p∈kl,e=ent p/\Ent h p.1 e:=by
 have:e∈es.toList:=mem_toList_iff.mpr (Array.mem_of_getElem? he)
 obtain⟨p,hp,rfl⟩:=mem_map.mp (Z.perm.mem_iff.mp this)
 exact⟨p,hp,rfl,p.2,rfl,Z.keys p hp⟩
theorem uk.len{h:Heap}{kl:List (List Int×Addr)}{es:Array (Int×Value)}{t:SetTable}(Z:uk h es t kl):es.size=kl.length:=by
 rw[<-length_toList,Z.perm.length_eq,length_map]
theorem M1{h:Heap}{o:Obj}{es fv:Array (Int×Value)}{ep:Nat}{t t':SetTable}{EQ:List (List Int×Addr)}(ho:h.get? S=some o)(hx:o.ExactSet)(hd:o.data=.set es ep t)(Z:uk h fv t' EQ):SP (h.update S (Obj.putSet fv t')) S EQ:=by
 have hg:(h.update S (Obj.putSet fv t')).get? S=some {o with data:=.set fv (ep+1) t'}:=by
  have:=get?_update_self (Obj.putSet fv t') ho (by rw[putSet_of fv t' hd];rfl)
  rw[putSet_of fv t' hd] at this;exact this
 exact⟨_,fv,ep+1,t',hg,hx,rfl,Z.ok,Z.plain,Z.led,Z.small,Z.perm,λp hp=>(Z.keys p hp).same ho hd (SameBut.update ..),Z.nd⟩
theorem M2{kl:List (List Int×Addr)}(sp:SP s.heap S kl)(nw:gj.room A){k:List Int}{a:Addr}(hk:hX s.heap k a)(du:kl.length<=60){Q:Bool->Shared->Prop}
  (q:∀b h' tk,s.toks<=tk->SameBut S s.heap h'->SP h' S (if k∈kl.map (·.1) then kl else kl++[(k,a)])->Q b {s with heap:=h',toks:=tk}):wpAny (model X.prog X.w) A (setAdd S (.ref a)) Q E s:=by
 obtain⟨o,es,ep,t,ho,hx,hd,Z⟩:=sp
 unfold setAdd
 refine wpAny_holding (wpAny_bind (gj.pyHash nw hk ?_))
 generalize cQ:({s with toks:=s.toks+gj.draws k}:Shared)=s'
 have dx:s'.heap.get? S=some o:=by rw[<-cQ];exact ho
 refine(?_:wpAny _ _ (setAddHashed S (.ref a) (hP k)) Q E s')
 unfold setAddHashed setAddHashedIn
 refine wpAny_holding (wpAny_bind (wpAny_setState_of dx hd (fits_of Z.ok) ?_))
 dsimp only
 rw[if_neg (show ¬byScan (.ref a) es=true from Bool.false_ne_true)]
 obtain⟨j,hj,gR⟩:=Es Z.ok.room
 have st:=ug t.mask (hP k)
 obtain⟨N,hN,eN⟩:=Em Z.ok.mask st.i st.more st.uf hj
 have hZ:¬i9 t (bR t.mask N (start t.mask (hP k))).j:=by rw[eN];exact gR
 have mw:s'.heap=s.heap:=by rw[<-cQ]
 have gq:hX s'.heap k a:=by rw[mw];exact hk
 have M3:N<0+100000:=lt_of_lt_of_le hN (by
  unfold turns
  rcases Z.ok.mask with e|e|e<;>rw[e]<;>decide)
 refine wpAny_bind (EN (Q:=_) dx hd Z.ok (λi e he=>(Ent.of Z he).elim λp hp=>⟨p.1,by rw[mw];exact hp.2.2⟩) nw gq (λi e he hE r=>?_) (λn gR hb M4=>?_) hZ 100000 0 none rfl (λm hm=>absurd hm (not_lt_zero m)) M3)
 ·obtain⟨p,hp,_,ny⟩:=Ent.of Z he
  rw[mw] at hE
  have e1:=hE.inj ny
  have q:=q false s.heap (s.toks+gj.draws k) (le_add_right _ _) (SameBut.refl _ _)
  rw[if_pos (mem_map.mpr ⟨p,hp,e1.symm⟩)] at q
  rw[<-cQ]
  exact wpAny_pure (q ⟨o,es,ep,t,ho,hx,hd,Z⟩)
 ·have ER:k∉kl.map (·.1):=λhm=>by
   obtain⟨p,hp,rfl⟩:=mem_map.mp hm
   have:ent p∈es.toList:=Z.perm.mem_iff.mpr (mem_map.mpr ⟨p,hp,rfl⟩)
   obtain⟨i,hi⟩:=Array.getElem?_of_mem (mem_toList_iff.mp this)
   exact M4 i _ hi ⟨p.2,rfl,by rw[mw];exact Z.keys p hp⟩
  rw[if_neg ER] at q
  generalize km:(bR t.mask n (start t.mask (hP k))).j=j' at gR
  have room:t.place.size+1<=t.mask:=by
   have:=Z.small
   rw[Z.ok.size]
   rcases Z.ok.mask with e|e|e<;>rw[e] at this ⊢<;>lia
  have T':ja (t.put j').1 (insertAt es (t.put j').2 (hP k,.ref a)):=Ew Z.ok km gR hb room
  have p6:(t.put j').2<=es.size:=by rw[<-Z.ok.size];exact(rT Z.ok.mu j').1
  have cI:=ud p6 ((hP k,.ref a):Int×Value)
  have mx:(insertAt es (t.put j').2 (hP k,.ref a)).toList.Perm ((kl++[(k,a)]).map (ent)):=by
   rw[map_append]
   exact(EO p6 _).trans (Z.perm.append_right _)
  have ES:∀p∈kl++[(k,a)],hX s'.heap p.1 p.2:=λp hp=>(mem_append.mp hp).elim (λh=>by rw[mw];exact Z.keys p h) λh=>by rw[mem_singleton.mp h];exact gq
  have ul:((kl++[(k,a)]).map (·.1)).Nodup:=by
   rw[map_append]
   exact nodup_append.mpr ⟨Z.nd,nodup_cons.mpr ⟨not_mem_nil,nodup_nil⟩,λx hx y hy e=>ER (by
    have e:x=k:=e.trans (mem_singleton.mp hy)
    exact e▸hx)⟩
  refine wpAny_bind (wpAny_setState_of dx hd (fits_of Z.ok) ?_)
  dsimp only
  have nr:(t.put j').1.plain=true:=Z.plain
  rw[if_pos nr]
  refine wpAny_bind (EJ gq ?_)
  rw[if_pos rfl]
  have jb:=Z.len
  refine wpAny_bind (wpAny_storeSet_of dx hd ?_ (by rw[cI,jb,sizeLine_eq];exact le_trans (succ_le_succ du) (by decide)))
  have hg:(s'.heap.update S (Obj.putSet (insertAt es (t.put j').2 (hP k,.ref a)) (t.put j').1)).get? S=some {o with data:=.set (insertAt es (t.put j').2 (hP k,.ref a)) (ep+1) (t.put j').1}:=by
   have:=get?_update_self (Obj.putSet (insertAt es (t.put j').2 (hP k,.ref a)) (t.put j').1) dx (by rw[putSet_of _ _ hd];rfl)
   rw[putSet_of _ _ hd] at this;exact this
  have p9:=SameBut.update s'.heap S (Obj.putSet (insertAt es (t.put j').2 (hP k,.ref a)) (t.put j').1)
  have zV:(t.put j').1.mask=t.mask:=rfl
  have um:(t.put j').1.fill=es.size+1:=by
   unfold SetTable.fill
   rw[T'.pY,T'.size,cI];rfl
  cases uo:(!false&&(t.put j').1.tooFull) with
  |false=>
   rw[if_neg (by decide)]
   have lL:(insertAt es (t.put j').2 (hP k,.ref a)).size*5<(t.put j').1.mask*3:=by
    have h1:decide ((t.put j').1.fill*5≥(t.put j').1.mask*3)=false:=uo
    rw[um] at h1
    rw[cI]
    exact not_le.mp (of_decide_eq_false h1)
   have z:=q true _ s'.toks (by rw[<-cQ];exact le_add_right _ _) (mw▸p9) ⟨_,_,ep+1,_,hg,hx,rfl,T',nr,Z.led,lL,mx,λp hp=>(ES p hp).same dx hd p9,ul⟩
   rw[<-cQ] at z ⊢
   exact wpAny_pure z
  |true=>
   rw[if_pos rfl]
   have h1:decide ((t.put j').1.fill*5≥(t.put j').1.mask*3)=true:=uo
   rw[um,zV] at h1
   have h1:=of_decide_eq_true h1
   have lL:=Z.small
   obtain⟨m',em,rX,zW,kO⟩:=EP Z.ok.mask h1 lL (by rw[jb];exact du)
   obtain⟨t2,order,el,e1,e2,e3,T2,my,_⟩:=EG (f:=(t.put j').1.finger) (mv:=(t.put j').1.movedTo m') (led:=(t.put j').1.led) (plain:=(t.put j').1.plain) rX (es:=insertAt es (t.put j').2 (hP k,.ref a)) (by rw[cI];exact kO)
   unfold setRelay
   refine wpAny_bind (wpAny_bind (wpAny_setState_of hg rfl (fits_of T') ?_))
   dsimp only
   rw[if_neg (by rw[em,sizeLine_eq];rcases rX with e|e|e<;>rw[e]<;>decide)]
   have er:(t.put j').1.relaid ((insertAt es (t.put j').2 (hP k,.ref a)).map (·.1)) (grown (es.size+1))=some (t2,order):=by
    unfold SetTable.relaid
    rw[em]
    exact el
   rw[er]
   generalize VC:insertAt es (t.put j').2 (hP k,.ref a)=ib at *
   refine wpAny_bind ?_
   refine(?_:wpAny _ _ (if((order.filterMap (ib[·]?)).size != ib.size)=true then _ else pure (order.filterMap (ib[·]?),t2)) _ _ _)
   generalize VD:order.filterMap (ib[·]?)=lM at *
   have hsz2:lM.size=ib.size:=by rw[<-length_toList,my.length_eq,length_toList]
   rw[if_neg (by rw[hsz2,bne_self_eq_false];exact Bool.false_ne_true)]
   refine wpAny_pure ?_
   refine wpAny_storeSet_of hg rfl ?_ (by rw[hsz2,cI,jb,sizeLine_eq];exact le_trans (succ_le_succ du) (by decide))
   have zX:=SameBut.update (s'.heap.update S (Obj.putSet ib (t.put j').1)) S (Obj.putSet lM t2)
   have z:=q true _ s'.toks (by rw[<-cQ];exact le_add_right _ _) (mw▸p9.trans zX) (M1 hg hx rfl ⟨T2,e3.trans nr,e2.trans Z.led,by rw[hsz2,cI,e1];exact zW,my.trans mx,λp hp=>(ES p hp).same dx hd p9,ul⟩)
   rw[<-cQ] at z ⊢
   exact wpAny_pure z
end
end Mine.T
namespace Mine.T
open PySem PySem.SetTable PySem.Spec PyProof.Rows
noncomputable def met(kv:Nat->List Int×Addr):Nat->List (List Int×Addr)
 |0=>[]
 |i+1=>if(kv i).1∈(met kv i).map (·.1) then met kv i else met kv i++[kv i]
theorem hX.at{h h':Heap}{k:List Int}{a:Addr}(x:hX h k a)(e:∀o,h.get? a=some o->h'.get? a=some o):hX h' k a:=by
 obtain⟨o,items,n,ho,r⟩:=x
 exact⟨o,items,n,e o ho,r⟩
section
variable{A:Around}{E:Value->Shared->Prop}{s:Shared}
theorem M5{h:Heap}{S:Addr}{led:Bool}(hl:led=!X.w.params.followText "set-order")(e:h.get? S=some {cls:=.type "set",dict:=none,data:=.set #[] 0 (.fresh 0 0 led)}):SP h S []:=
 ⟨_,#[],0,.fresh 0 0 led,e,⟨rfl,rfl,rfl⟩,rfl,⟨.inl rfl,rfl,λi k u v ζ h=>by simp[SetTable.fresh] at h,rfl,zero_le _,λi j h x hp=>by simp[SetTable.fresh] at hp⟩,rfl,hl,by refine(?_:0*5<7*3);decide,Perm.refl _,λp hp=>(nomatch hp),nodup_nil⟩
theorem M6(a:Value){Q₁:Value->Shared->Prop}
  (h:Q₁ (.ref s.heap.objs.size) {s with heap:=s.heap.push {cls:=.type "set",dict:=none,data:=.set #[] 0 (.fresh 0 0 (!X.w.params.followText "set-order"))}}) :
  codeAny (model X.prog X.w) A (.call (.builtin "set.__new__") ⟨[.type "set",a],[]⟩) (wants Q₁ E) s:=by
 refine codeAny_of_tree (wpAny_bind (wpAny_of_eq (F.newCall_set_1 a) (wpAny_pure ⟨plainId_quiet F.plain_set_new _,codeAny_builtin F.entry_set_new ?_⟩)))
 rw[Around.under_plainId F.plain_set_new _]
 unfold Builtin.«set.__new__» Builtin.Frozenset.newClass
 have wz:=sub_set_self
 obtain⟨hp,g,d,tk,os⟩:=s
 dsimp only
 wp_walk
 refine wpAny_askSetting (wpAny_pure (wpAny_bind ?_))
 exact wpAny_alloc (wpAny_pure (wpAny_pure h))
end
end Mine.T
namespace Mine.T
open PySem PyProof.Rows
section
variable{A:Around}{E:Value->Shared->Prop}{s:Shared}{a₀:Array Keyed}{kd:SortKind}
structure PB(kd:SortKind)(a₀:Array Keyed)(st:SortSt):Prop where
 perm:(arrOf st).Perm a₀
 kind:kindOf st=kd
 failed:failedOf st=none
 pend:pendingOf st=#[]
theorem PB.setArr{st:SortSt}(h:PB kd a₀ st){xs:Array Keyed}(hp:xs.Perm (arrOf st)):PB kd a₀ (setArr st xs):=⟨hp.trans h.perm,h.kind,h.failed,h.pend⟩
noncomputable def oz(A:Around)(E:Value->Shared->Prop)(s:Shared)(kd:SortKind)(a₀:Array Keyed):Prop:=∀st,PB kd a₀ st->∀i j,i<a₀.size->j<a₀.size->∀Q:Option Bool->SortSt->Prop,(∀b,Q (some b) st)->wpS (model X.prog X.w) A E s (ltAt' i j) Q st
theorem ET(C:oz A E s kd a₀){st:SortSt}{a nrem:Nat}{Q:AscSt->SortSt->Prop}(hn:nrem<=a₀.size)(ha:1<=a)(EU:a<=nrem)(hB:PB kd a₀ st)(h:∀n,a<=n->n<=nrem->Q (none,n) st):wpS (model X.prog X.w) A E s (ascLoop a nrem) Q st:=by
 unfold ascLoop
 refine wpS_forRange (I:=λx c cx=>cx=st/\c=(none,x)) ?step ?fin ⟨rfl,rfl⟩
 case fin=>
  rintro c cx ⟨rfl,rfl⟩
  rw[Nat.max_eq_right EU]
  exact h nrem EU (le_refl _)
 case step=>
  rintro x c cx zY nz ⟨rfl,rfl⟩
  refine wpS_bind (C _ hB _ _ (by refine(?_:x<_);exact lt_of_lt_of_le nz hn) (by refine(?_:x - 1<_);exact lt_of_le_of_lt (sub_le _ _) (lt_of_lt_of_le nz hn)) _ λb=>?_)
  cases b with
  |true=>exact wpS_pure (h x zY (le_of_lt nz))
  |false=>exact wpS_pure ⟨rfl,rfl⟩
theorem EV(C:oz A E s kd a₀){st:SortSt}{n nrem:Nat}{Q:Option Nat->SortSt->Prop}(hn:nrem<=a₀.size)(h1:1<=n)(h2:n<=nrem)(hB:PB kd a₀ st)(h:∀m cx,PB kd a₀ cx->m<=nrem->Q (some m) cx):wpS (model X.prog X.w) A E s (tail3 n nrem) Q st:=by
 unfold tail3
 have gS:=hB.setArr (mirror_perm (arrOf st) 0 n ((n - 0)/2))
 exact wpS_bind (wpS_reverse (wpS_bind (ET C hn h1 h2 gS λm qa ku=>wpS_pure (h m _ gS ku))))
theorem M7(C:oz A E s kd a₀){st:SortSt}{n nrem:Nat}{Q:DescSt->SortSt->Prop}(hn:nrem<=a₀.size)(h1:1<=n)(h2:n<=nrem)(hB:PB kd a₀ st)(h:∀m q cx,PB kd a₀ cx->1<=m->m<=nrem->Q (none,m,q) cx):wpS (model X.prog X.w) A E s (descLoop n nrem) Q st:=by
 unfold descLoop
 refine wpS_forRange (I:=λx c cx=>PB kd a₀ cx/\∃q,c=(none,x,q)) ?step ?fin ⟨hB,0,rfl⟩
 case fin=>
  rintro c cx ⟨gS,q,rfl⟩
  rw[Nat.max_eq_right h2]
  exact h nrem q cx gS (le_trans h1 h2) (le_refl _)
 case step=>
  rintro x c cx zY nz ⟨gS,q,rfl⟩
  refine wpS_bind (C _ gS _ _ (by refine(?_:x<_);exact lt_of_lt_of_le nz hn) (by refine(?_:x - 1<_);exact lt_of_le_of_lt (sub_le _ _) (lt_of_lt_of_le nz hn)) _ λb=>?_)
  cases b with
  |true=>
   refine(?_:wpS _ _ _ _ (if q>0 then _ else _) _ _)
   split
   ·exact wpS_bind (wpS_reverse (wpS_pure ⟨gS.setArr (mirror_perm _ _ _ _),0,rfl⟩))
   ·exact wpS_pure ⟨gS,0,rfl⟩
  |false=>
   refine wpS_bind (C _ gS _ _ (by refine(?_:x - 1<_);exact lt_of_le_of_lt (sub_le _ _) (lt_of_lt_of_le nz hn)) (by refine(?_:x<_);exact lt_of_lt_of_le nz hn) _ λb=>?_)
   cases b with
   |true=>exact wpS_pure (h x q cx gS (le_trans h1 zY) (le_of_lt nz))
   |false=>exact wpS_pure ⟨gS,q+1,rfl⟩
theorem EW(C:oz A E s kd a₀){st:SortSt}{n nrem:Nat}{Q:Option Nat->SortSt->Prop}(hn:nrem<=a₀.size)(h1:1<=n)(h2:n<nrem)(hB:PB kd a₀ st)(h:∀m cx,PB kd a₀ cx->m<=nrem->Q (some m) cx):wpS (model X.prog X.w) A E s (descPart n nrem) Q st:=by
 unfold descPart
 refine wpS_bind (wpS_lift (wpAny_rule ⟨rfl,?_⟩))
 refine wpS_bind (M7 C hn (succ_pos _) h2 hB λm q cx gS qa ku=>?_)
 refine(?_:wpS _ _ _ _ (if q>0 then _ else _) _ _)
 split
 ·exact wpS_bind (wpS_reverse (EV C hn qa ku (gS.setArr (mirror_perm _ _ _ _)) h))
 ·exact EV C hn qa ku gS h
theorem M8(C:oz A E s kd a₀){st:SortSt}{nrem:Nat}{Q:Option Nat->SortSt->Prop}(hn:nrem<=a₀.size)(h1:1<=nrem)(hB:PB kd a₀ st)(h:∀m cx,PB kd a₀ cx->m<=nrem->Q (some m) cx):wpS (model X.prog X.w) A E s (countRun' 0 nrem) Q st:=by
 rw[countRun0_eq]
 refine wpS_bind (ET C hn (le_refl _) h1 hB λn uq zZ=>?_)
 refine(?_:wpS _ _ _ _ (if(n==nrem)=true then _ else _) _ _)
 split
 ·exact wpS_pure (h n st hB zZ)
 ·rename_i b8
  have bX:n<nrem:=lt_of_le_of_ne zZ λe=>b8 (beq_iff_eq.mpr e)
  split
  ·refine wpS_bind (C _ hB _ _ (lt_of_lt_of_le h1 hn) (by refine(?_:n - 1<_);exact lt_of_le_of_lt (sub_le _ _) (lt_of_lt_of_le bX hn)) _ λb=>?_)
   cases b with
   |true=>exact wpS_pure (h n st hB zZ)
   |false=>exact wpS_bind (wpS_reverse (EW C hn uq bX (hB.setArr (mirror_perm _ _ _ _)) h))
  ·exact EW C hn uq bX hB h
theorem EX{l r k:Nat}(h:l<r)(hr:r<=k):(l+r)/2<=k:=Nat.div_le_of_le_mul (by rw[Nat.two_mul];exact add_le_add (le_trans (le_of_lt h) hr) hr)
theorem M9(C:oz A E s kd a₀){st:SortSt}{n ok:Nat}{Q:Bool->SortSt->Prop}(hn:n<=a₀.size)(hB:PB kd a₀ st)(h:∀cx,PB kd a₀ cx->Q true cx):wpS (model X.prog X.w) A E s (binarySort' 0 n ok) Q st:=by
 rw[binarySort'_eq]
 simp only[zero_add]
 refine wpS_bind (wpS_mono (wpS_forRange (I:=λk c cx=>c=(none,())/\PB kd a₀ cx) (Q:=λc cx=>c=(none,())/\PB kd a₀ cx) ?step (λζ ζ h=>h) ⟨rfl,hB⟩) ?post)
 case post=>
  rintro c cx ⟨rfl,gS⟩
  exact wpS_pure (h cx gS)
 case step=>
  rintro k c cx VE wA ⟨rfl,gS⟩
  refine wpS_bind (wpS_mono (wpS_forRange (I:=λx c kW=>kW=cx/\∃l r,c=(none,l,r)/\r<=k) (Q:=λc kW=>kW=cx/\∃l r,c=(none,l,r)) ?istep ?ifin ⟨rfl,0,k,rfl,le_refl _⟩) ?ipost)
  case ifin=>
   rintro c kW ⟨rfl,l,r,rfl,_⟩
   exact⟨rfl,l,r,rfl⟩
  case istep=>
   rintro x c kW _ VF ⟨rfl,l,r,rfl,hr⟩
   dsimp only
   by_cases iA:l≥r
   ·rw[if_pos iA]
    exact wpS_pure ⟨rfl,l,r,rfl⟩
   ·rw[if_neg iA]
    refine wpS_bind (C _ gS _ _ (lt_of_lt_of_le wA hn) (lt_of_lt_of_le (lt_of_le_of_lt (EX (not_le.mp iA) hr) wA) hn) _ λb=>?_)
    cases b with
    |true=>exact wpS_pure ⟨rfl,l,(l+r)/2,rfl,EX (not_le.mp iA) hr⟩
    |false=>exact wpS_pure ⟨rfl,(l+r)/2+1,r,rfl,hr⟩
  case ipost=>
   rintro c kW ⟨rfl,l,r,rfl⟩
   refine(?_:wpS _ _ _ _ (do moveDown' k l;pure (ForInStep.yield (none,()))) _ _)
   rw[moveDown'_eq]
   exact wpS_bind (wpS_modify (wpS_pure ⟨rfl,gS.setArr (bubble_perm _ _ _)⟩))
end
section
variable{A:Around}{E:Value->Shared->Prop}{s:Shared}{a₀:Array Keyed}{kd:SortKind}
noncomputable def PD(a₀:Array Keyed)(st:SortSt):Prop:=(arrOf st).Perm a₀/\failedOf st=none/\pendingOf st=#[(0,a₀.size,0)]
theorem PB.done{st:SortSt}(h:PB kd a₀ st):PD a₀ (setPending st ((pendingOf st).push (0,a₀.size,0))):=⟨h.perm,h.failed,by refine(?_:(pendingOf st).push _=_);rw[h.pend];rfl⟩
theorem Na(C:oz A E s kd a₀){st:SortSt}{Q:Unit->SortSt->Prop}(hB:PB kd a₀ st)(h2:2<=a₀.size)(dN:a₀.size<64)(h:∀cx,(arrOf cx).Perm a₀->failedOf cx=none->Q () cx):wpS (model X.prog X.w) A E s sortRuns' Q st:=by
 rw[sortRuns'_eq]
 refine wpS_bind (wpS_get ?_)
 dsimp only
 have Nb:minRun' a₀.size a₀.size 0=a₀.size:=by
  obtain⟨f,hf⟩:∃f,a₀.size=f+1:=⟨a₀.size - 1,(sub_add_cancel (le_of_succ_le h2)).symm⟩
  have:minRun' (f+1) a₀.size 0=a₀.size:=by rw[minRun'_succ,if_pos dN];rfl
  rwa [<-hf] at this
 rw[hB.perm.size_eq,Nb]
 refine wpS_bind (wpS_mono (wpS_forRange (I:=λx c cx=>(x=0/\c=(none,0)/\PB kd a₀ cx)\/(1<=x/\c=(none,a₀.size)/\PD a₀ cx)) (Q:=λc cx=>c=(none,a₀.size)/\PD a₀ cx) ?step ?fin (.inl ⟨rfl,rfl,hB⟩)) ?post)
 case fin=>
  rintro c cx (⟨hx,_,_⟩|⟨_,hc,hD⟩)
  ·lia
  ·exact⟨hc,hD⟩
 case step=>
  rintro x c cx _ hx (⟨rfl,rfl,gS⟩|⟨VG,rfl,hD⟩)
  ·dsimp only
   rw[if_neg (not_le.mpr hx)]
   simp only[Nat.sub_zero,min_self,zero_add]
   refine wpS_bind (M8 C (le_refl _) (le_of_succ_le h2) gS λm ke z0 ku=>?_)
   dsimp only
   by_cases bX:m<a₀.size
   ·rw[if_pos bX]
    refine wpS_bind (wpS_lift (wpAny_rule ⟨rfl,?_⟩))
    refine wpS_bind (M9 C (le_refl _) z0 λNc EY=>?_)
    refine wpS_bind (wpS_get ?_)
    rw[show(pendingOf Nc).back?=none by rw[EY.pend];rfl]
    exact wpS_bind (wpS_modify (wpS_pure (.inr ⟨by lia,rfl,EY.done⟩)))
   ·rw[if_neg bX]
    have hm:m=a₀.size:=le_antisymm ku (not_lt.mp bX)
    subst hm
    refine wpS_bind (wpS_get ?_)
    rw[show(pendingOf ke).back?=none by rw[z0.pend];rfl]
    exact wpS_bind (wpS_modify (wpS_pure (.inr ⟨by lia,rfl,z0.done⟩)))
  ·dsimp only
   rw[if_pos (le_refl _)]
   exact wpS_pure ⟨rfl,hD⟩
 case post=>
  rintro c cx ⟨rfl,hD⟩
  dsimp only
  refine wpS_bind (wpS_mono (wpS_forRange (I:=λζ c kW=>kW=cx/\c=(none,())) (Q:=λc kW=>kW=cx/\c=(none,())) ?_ (λζ ζ hh=>hh) ⟨rfl,rfl⟩) ?_)
  ·rintro x c kW _ _ ⟨rfl,rfl⟩
   refine wpS_bind (wpS_get ?_)
   rw[if_pos (by rw[hD.2.2];exact le_refl 1)]
   exact wpS_pure ⟨rfl,rfl⟩
  ·rintro c kW ⟨rfl,rfl⟩
   exact wpS_pure (h _ hD.1 hD.2.1)
end
noncomputable def PP(h:Heap)(v:Value):Prop:=∃(a:Addr) (i:Int) (t:Tok) (b:Bool) (n:Nat),v=.ref a/\h.get? a=some (gO [.int i t,.bool b] n)
section
variable{A:Around}{E:Value->Shared->Prop}{s:Shared}
theorem EZ{α β:Type}{f:α->Sem β}{P:α->β->Prop}{Q:List β->Shared->Prop}:∀l:List α,(∀x∈l,∀R:β->Shared->Prop,(∀y,P x y->R y s)->wpAny (model X.prog X.w) A (f x) R E s)->(∀ys:List β,ys.length=l.length->(∀(i:Nat) x y,l[i]?=some x->ys[i]?=some y->P x y)->Q ys s)->wpAny (model X.prog X.w) A (l.mapM f) Q E s
 |[],_,q=>by rw[List.mapM_nil];exact wpAny_pure (q [] rfl λi x y h=>nomatch h)
 |x::r,h,q=>by
  rw[List.mapM_cons]
  refine wpAny_bind (h x mem_cons_self _ λy hy=>wpAny_bind (EZ r (λz hz=>h z (.tail _ hz)) λys hl ur=>wpAny_pure (q (y::ys) (congrArg Nat.succ hl) λi u v hu hv=>?_)))
  cases i with
  |zero=>cases hu;cases hv;exact hy
  |succ i=>exact ur i u v hu hv
theorem Nd{v:Value}(hv:PP s.heap v){R:Option Value->Shared->Prop}(h:∀i t,R (some (.int i t)) s):wpAny (model X.prog X.w) A (firstOfTuple' v) R E s:=by
 obtain⟨a,i,t,b,n,rfl,ho⟩:=hv
 show wpAny _ _ (do
  if(<-typeOf (.ref a)) != .type "tuple" then return none
  return (<-Builtin.List.listItems (.ref a))[0]?) R E s
 refine wpAny_bind (wpAny_typeOf ⟨_,ho,rfl⟩ ?_)
 rw[if_neg (by decide)]
 exact wpAny_bind (listItems_at ho rfl (wpAny_pure (h i t)))
theorem E0:∀{vs:List Value},(∀v∈vs,∃i t,v=.int i t)->∃ns,IntsAre vs ns
 |[],_=>⟨[],.nil⟩
 |v::r,h=>by
  obtain⟨i,t,rfl⟩:=h v mem_cons_self
  obtain⟨ns,hn⟩:=E0 λv hv=>h v (.tail _ hv)
  exact⟨i::ns,.cons i t hn⟩
theorem Nf{keys:List Value}(hk:∀v∈keys,PP s.heap v){R:SortKind->Shared->Prop}(h:∀b,R (tuples' b) s):wpAny (model X.prog X.w) A (keyKind' keys.toArray) R E s:=by
 rw[keyKind'_eq,List.mapM_toArray]
 refine wpAny_bind (wpAny_map (EZ (P:=λζ y=>∃i t,y=some (.int i t)) keys (λv hv R hR=>Nd (hk v hv) λi t=>hR _ ⟨i,t,rfl⟩) λys hl ur=>?_))
 have E3:∀y∈ys,∃i t,y=some (Value.int i t):=λy hy=>by
  obtain⟨i,hi⟩:=getElem?_of_mem hy
  have rC:i<keys.length:=by rw[<-hl];exact(List.getElem?_eq_some_iff.mp hi).1
  exact ur i _ y (getElem?_eq_getElem rC) hi
 rw[if_pos (by
  rw[List.all_toArray,all_eq_true]
  intro y hy
  obtain⟨i,t,rfl⟩:=E3 y hy
  rfl)]
 refine wpAny_bind (wpAny_rule ?_)
 have hI:∃ns,IntsAre (ys.filterMap id) ns:=E0 λv hv=>by
  obtain⟨y,hy,e⟩:=List.mem_filterMap.mp hv
  obtain⟨i,t,rfl⟩:=E3 y hy
  cases e;exact⟨i,t,rfl⟩
 obtain⟨ns,hI⟩:=hI
 rw[List.filterMap_toArray,oneTypeOnly'_eq,List.mapM_toArray,mapM_typeOf_ints hI]
 rw[map_pure,pure_bind]
 split
 ·exact wpAny_pure (h _)
 ·exact wpAny_pure (h _)
theorem Ng{f:Bool}{i j:Int}{t u:Tok}{R:Bool->Shared->Prop}(h:∀b,R b s):wpAny (model X.prog X.w) A (oneLt' f (.int i t) (.int j u)) R E s:=by
 cases f with
 |true=>exact oneLt_int (h _)
 |false=>
  rw[oneLt'_eq]
  refine(?_:wpAny _ _ (richCompare .Lt (.int i t) (.int j u) >>= truthOfDropped) R E s)
  exact wpAny_bind (wpAny_lt_int (wpAny_truthy_bool (h _)))
theorem Nh{b d:Bool}{R:Bool->Shared->Prop}(h:∀b,R b s):wpAny (model X.prog X.w) A (oneLt' false (.bool b) (.bool d)) R E s:=by
 rw[oneLt'_eq]
 refine(?_:wpAny _ _ (richCompare .Lt (.bool b) (.bool d) >>= truthOfDropped) R E s)
 exact wpAny_bind (lt_bool (wpAny_truthy_bool (h _)))
theorem Ni(f:Bool)(x y:Value):keyLt' (tuples' f) x y=(do
  let xs <-Builtin.List.listItems x;let ys <-Builtin.List.listItems y
  for ((p,q),i) in (xs.toList.zip ys.toList).zipIdx do
   if !(<-eqBool p q) then return <-oneLt' (f&&i==0) p q
  return xs.size<ys.size):=rfl
theorem Nj{f:Bool}{x y:Value}(hx:PP s.heap x)(hy:PP s.heap y){R:Bool->Shared->Prop}(h:∀b,R b s):wpAny (model X.prog X.w) A (keyLt' (tuples' f) x y) R E s:=by
 obtain⟨a,i,t,b,n,rfl,ho⟩:=hx
 obtain⟨c,j,u,d,m,rfl,dx⟩:=hy
 rw[Ni]
 refine wpAny_bind (listItems_at ho rfl (wpAny_bind (listItems_at dx rfl ?_)))
 have e:((#[Value.int i t,Value.bool b].toList.zip #[Value.int j u,Value.bool d].toList).zipIdx)=[((Value.int i t,Value.int j u),0),((Value.bool b,Value.bool d),1)]:=rfl
 refine(?_:wpAny _ _ (forIn [((Value.int i t,Value.int j u),0),((Value.bool b,Value.bool d),1)] _ _ >>= _) R E s)
 rw[forIn_cons]
 refine wpAny_bind (wpAny_bind (wpAny_bind (j6.eqBool (a:=i) (b:=j) (beq_self_eq_true i) (beq_self_eq_true j) ?_)))
 cases decide (i=j) with
 |false=>exact wpAny_bind (Ng λb=>wpAny_pure (wpAny_pure (wpAny_pure (h b))))
 |true=>
  refine wpAny_pure ?_
  refine(?_:wpAny _ _ (forIn [((Value.bool b,Value.bool d),1)] _ _) _ E s)
  rw[forIn_cons]
  refine wpAny_bind (wpAny_bind (j6.eqBool (a:=bI b) (b:=bI d) (beq_self_eq_true _) (beq_self_eq_true _) ?_))
  cases decide (bI b=bI d) with
  |false=>
   refine(?_:wpAny _ _ (oneLt' (f&&false) (.bool b) (.bool d) >>= _) _ E s)
   rw[Bool.and_false]
   exact wpAny_bind (Nh λb=>wpAny_pure (wpAny_pure (wpAny_pure (h b))))
  |true=>exact wpAny_pure (wpAny_pure (wpAny_pure (h _)))
theorem Nk{f:Bool}{a₀:Array Keyed}(hk:∀p∈a₀.toList,PP s.heap p.1):oz A E s (tuples' f) a₀:=λst hB i j hi hj Q hQ=>by
 have at':∀i,i<a₀.size->∃p,(arrOf st)[i]?=some p/\PP s.heap p.1:=λi hi=>by
  have fx:i<(arrOf st).size:=by rw[hB.perm.size_eq];exact hi
  refine⟨(arrOf st)[i],Array.getElem?_eq_getElem fx,hk _ ?_⟩
  exact(Array.perm_iff_toList_perm.mp hB.perm).mem_iff.mp (mem_toList_iff.mpr (Array.getElem_mem fx))
 obtain⟨p,e1,h1⟩:=at' i hi
 obtain⟨q,e2,h2⟩:=at' j hj
 rw[ltAt'_eq]
 refine wpS_bind (wpS_get ?_)
 refine(?_:wpS _ _ _ _ (do let x <-elem' (arrOf st) i;let y <-elem' (arrOf st) j;lt' x y) Q st)
 rw[elem'_eq,elem'_eq,e1,e2]
 refine wpS_bind (wpS_pure (wpS_bind (wpS_pure ?_)))
 rw[lt'_eq]
 refine wpS_bind (wpS_get ?_)
 rw[hB.kind]
 exact wpS_bind (wpS_lift (wpAny_attempt (Nj h1 h2 λb=>⟨rfl,wpS_pure (hQ b)⟩)))
end
section
variable{A:Around}{E:Value->Shared->Prop}{s:Shared}
theorem PP.keep{h h':Heap}{v:Value}(x:PP h v)(k:∀a o,h.get? a=some o->o.cls=.type "tuple"->h'.get? a=some o):PP h' v:=by
 obtain⟨a,i,t,b,n,e,ho⟩:=x
 exact⟨a,i,t,b,n,e,k a _ ho rfl⟩
theorem E4{vs:List Value}{xs:Array Keyed}(hp:xs.Perm (vs.toArray.zip vs.toArray)):(xs.map (·.2)).toList.Perm vs:=by
 rw[Array.toList_map]
 refine((Array.perm_iff_toList_perm.mp hp).map _).trans (Perm.of_eq ?_)
 rw[Array.toList_zip]
 exact List.map_snd_zip (le_refl _)
theorem Nl{a:Addr}{vs:List Value}{n:Nat}{P:Fin->Shared->Prop}(ho:s.heap.get? a=some (seqObj "list" vs.toArray n))(hv:∀v∈vs,PP s.heap v)(dN:vs.length<64)
  (h:∀out:Array Value,out.toList.Perm vs->P (.done (.ret .none)) {s with heap:=sortedHeap s.heap a vs out}):wpAny (model X.prog X.w) A (Builtin.«list.sort» ⟨[.ref a],[]⟩) P E s:=by
 rw[list_sort_plain]
 have ha:a<s.heap.objs.size:=lt_size ho
 refine wpAny_bind (listItems_at ho rfl ?_)
 refine wpAny_bind (listUpdate_at ho rfl ?_)
 obtain⟨e1,mn⟩:∃e1,(s.heap.update a (Obj.mapSeq λζ=>#[])).get? a=some (seqObj "list" #[] e1):=⟨_,get?_update_seq ho (λζ=>#[])⟩
 refine wpAny_bind (seqEpoch_at mn rfl ?_)
 refine wpAny_bind (wpAny_newTuple ?_)
 refine wpAny_bind (wpAny_newList ?_)
 refine wpAny_holding ?_
 have keep:∀b o,s.heap.get? b=some o->b≠a->(((s.heap.update a (Obj.mapSeq λζ=>#[])).push (seqObj "tuple" vs.toArray 0)).push (seqObj "list" #[] 0)).get? b=some o:=λb o e hb=>
  get?_push_of_some _ (get?_push_of_some _ (((SameBut.update s.heap a (Obj.mapSeq λζ=>#[])).2 b hb).trans e))
 have wB:(((s.heap.update a (Obj.mapSeq λζ=>#[])).push (seqObj "tuple" vs.toArray 0)).push (seqObj "list" #[] 0)).get? a=some (seqObj "list" #[] e1):=get?_push_of_some _ (get?_push_of_some _ mn)
 refine(?_:wpAny (model X.prog X.w) A _ P E {s with heap:=((s.heap.update a (Obj.mapSeq λζ=>#[])).push (seqObj "tuple" vs.toArray 0)).push (seqObj "list" #[] 0)})
 have E5:∀v∈vs,PP (((s.heap.update a (Obj.mapSeq λζ=>#[])).push (seqObj "tuple" vs.toArray 0)).push (seqObj "list" #[] 0)) v:=λv hm=>(hv v hm).keep λb o e hc=>keep b o e λq=>by
  subst q
  rw[ho] at e;cases e
  exact absurd (show Value.type "list"=Value.type "tuple" from hc) (by decide)
 dsimp only
 have cI:vs.toArray.size=vs.length:=size_toArray
 have hz:(vs.toArray.zip vs.toArray).size=vs.length:=by rw[size_zip,min_self,cI]
 by_cases h2:vs.toArray.size<2
 ·rw[if_pos h2,if_pos h2]
  refine wpAny_bind (wpAny_pure ?_)
  rw[StateT.run_pure]
  refine wpAny_bind (wpAny_pure ?_)
  dsimp only
  refine wpAny_bind (seqEpoch_at wB rfl ?_)
  refine wpAny_bind (listUpdate_at wB rfl ?_ (hsz2:=by rw[size_map];refine(?_:(vs.toArray.zip vs.toArray).size<=_);rw[hz,sizeLine_eq];exact le_trans (le_of_lt dN) (by decide)))
  simp only[bne_self_eq_false,false_eq_true,if_false]
  exact wpAny_pure (h _ (E4 (Array.Perm.refl _)))
 ·rw[if_neg h2,if_neg h2]
  refine wpAny_bind (Nf E5 λf=>?_)
  refine wpAny_bind (wpAny_mono (Na (kd:=tuples' f) (a₀:=vs.toArray.zip vs.toArray) (st:=SortSt.mk' (tuples' f) (vs.toArray.zip vs.toArray) #[] 7 none) (Q:=λζ cx=>(arrOf cx).Perm (vs.toArray.zip vs.toArray)/\failedOf cx=none)
   (Nk λp hp=>E5 _ ?_) ⟨Array.Perm.refl _,rfl,rfl,rfl⟩ (by rw[hz];exact cI▸not_lt.mp h2) (by rw[hz];exact dN) λcx a1 a2=>⟨a1,a2⟩) ?_ λζ ζ e=>e)
  ·rw[Array.toList_zip] at hp
   exact(of_mem_zip hp).1
  ·rintro⟨⟨⟩,cx⟩ s' ⟨rfl,hp,hf⟩
   dsimp only
   refine wpAny_bind (seqEpoch_at wB rfl ?_)
   refine wpAny_bind (listUpdate_at wB rfl ?_ (hsz2:=by refine le_trans (le_of_eq ((size_map ..).trans (hp.size_eq.trans hz))) ?_;rw[sizeLine_eq];exact le_trans (le_of_lt dN) (by decide)))
   rw[hf]
   simp only[bne_self_eq_false,false_eq_true,if_false]
   exact wpAny_pure (h _ (E4 hp))
end
end Mine.T
namespace Mine.T
open PySem PySem.SetTable PyProof.Rows
theorem E6{α:Type}:∀{l:List α} {i:Nat} (h:i<l.length),(l[i]::l.eraseIdx i).Perm l
 |x::l,0,h=>.refl _
 |x::l,i+1,h=>(Perm.swap _ _ _).trans ((E6 (l:=l) (i:=i) (Nat.lt_of_succ_lt_succ h)).cons x)
theorem E7{α:Type}(next:Nat->Nat):∀(cJ k:Nat) (left:List α) (out:Array α),left.length<=cJ->(pickOrder.go next cJ k left out).toList.Perm (out.toList++left)
 |0,k,left,out,h=>by
  cases left with
  |nil=>rw[append_nil];exact .refl _
  |cons x l=>exact absurd h (Nat.not_succ_le_zero _)
 |cJ+1,k,left,out,h=>by
  have e:pickOrder.go next (cJ+1) k left out=match left[next k%left.length]? with
   |some x=>pickOrder.go next cJ (k+1) (left.eraseIdx (next k%left.length)) (out.push x)
   |none=>out:=rfl
  rw[e]
  cases left with
  |nil=>rw[append_nil];exact .refl _
  |cons x l=>
   have bX:next k%(x::l).length<(x::l).length:=mod_lt _ (succ_pos _)
   rw[getElem?_eq_getElem bX]
   refine(E7 next cJ (k+1) _ _ (by rw[List.length_eraseIdx,if_pos bX];exact Nat.pred_le_pred h)).trans ?_
   rw[toList_push,append_assoc]
   exact(E6 bX).append_left _
theorem Nm{α:Type}(next:Nat->Nat)(xs:Array α):(pickOrder next xs).toList.Perm xs.toList:=E7 next _ 0 _ #[] (le_refl _)
noncomputable def ord(S:Addr)(ep:Nat)(es:Array (Int×Value)):Array (Int×Value):=if X.w.params.followText "set-order"=true then pickOrder (X.w.params.setOrder S ep) es else es
theorem E8(S:Addr)(ep:Nat)(es:Array (Int×Value)):(ord S ep es).toList.Perm es.toList:=by
 unfold ord
 split
 ·exact Nm _ _
 ·exact .refl _
theorem z3(S:Addr)(ep:Nat)(es:Array (Int×Value)):(ord S ep es).size=es.size:=by
 rw[<-length_toList,(E8 S ep es).length_eq,length_toList]
noncomputable def sl(t:SetTable):Nat->Nat
 |0=>0
 |i+1=>(t.place[i]?.map (·+1)).getD 0
theorem Nn{t:SetTable}(hr:kU t.place){i:Nat}(hi:i<=t.place.size):below t.place (sl t i)=i:=by
 obtain⟨h0,h1,h2⟩:=rT hr (sl t i)
 cases i with
 |zero=>
  rcases Nat.eq_zero_or_pos (below t.place (sl t 0)) with h|h
  ·exact h
  ·exact absurd (h1 0 _ (Array.getElem?_eq_getElem (lt_of_lt_of_le h h0)) h) (not_lt_zero _)
 |succ i=>
  have ei:t.place[i]?=some t.place[i]:=Array.getElem?_eq_getElem hi
  have es:sl t (i+1)=t.place[i]+1:=by refine(?_:(t.place[i]?.map (·+1)).getD 0=_);rw[ei];rfl
  rw[es] at h0 h1 h2 ⊢
  rcases lt_trichotomy (below t.place (t.place[i]+1)) (i+1) with h|h|h
  ·exact absurd (h2 i _ ei (le_of_lt_succ h)) (not_le.mpr (lt_succ_self _))
  ·exact h
  ·have e2:t.place[i+1]?=some t.place[i+1]:=Array.getElem?_eq_getElem (lt_of_lt_of_le h h0)
   exact absurd (hr i (i+1) _ _ (lt_succ_self i) ei e2) (not_lt.mpr (le_of_lt_succ (h1 _ _ e2 h)))
section
variable{A:Around}{E:Value->Shared->Prop}{s:Shared}{S:Addr}
theorem qb{α:Type}{M:Model}{c:Prop}[Decidable c]{x y:Sem α}{Q:α->Shared->Prop}(hc:¬c)(h:wpAny M A y Q E s):wpAny M A (if c then x else y) Q E s:=by rw[if_neg hc];exact h
theorem wC{α:Type}{M:Model}{c:Prop}[Decidable c]{x y:Sem α}{Q:α->Shared->Prop}(hc:c)(h:wpAny M A x Q E s):wpAny M A (if c then x else y) Q E s:=by rw[if_pos hc];exact h
theorem Np{o:Obj}{es:Array (Int×Value)}{ep:Nat}{t:SetTable}{Q:Array (Int×Value)->Shared->Prop}(ho:s.heap.get? S=some o)(hd:o.data=.set es ep t)(Z:ja t es)(ht:X.w.params.followText "set-order"=true)(q:Q (pickOrder (X.w.params.setOrder S ep) es) s):wpAny (model X.prog X.w) A (setWalk S) Q E s:=by
 unfold setWalk
 refine wpAny_bind (wpAny_setState_of ho hd (fits_of Z) ?_)
 refine wpAny_bind (wpAny_bind (wpAny_askSetting (wpAny_pure ?_)))
 exact wC ht (wpAny_bind (wpAny_askSetting (wpAny_pure q)))
theorem E9{o:Obj}{es:Array (Int×Value)}{ep:Nat}{t:SetTable}{i slot:Nat}{Q:Option (Value×Nat)->Shared->Prop}(ho:s.heap.get? S=some o)(hd:o.data=.set es ep t)(Z:ja t es)(hp:t.plain=true)(hl:t.led=!X.w.params.followText "set-order")(hi:i<=es.size)(hs:X.w.params.followText "set-order"=false->slot=sl t i)
  (q:∀slot',(X.w.params.followText "set-order"=false->i<es.size->slot'=sl t (i+1))->Q ((ord S ep es)[i]?.map λe=>(e.2,slot')) s):wpAny (model X.prog X.w) A (setNext S slot i ep) Q E s:=by
 unfold setNext
 refine wpAny_bind (wpAny_setState_of ho hd (fits_of Z) ?_)
 refine wpAny_bind (wpAny_bind (wpAny_askSetting (wpAny_pure ?_)))
 cases ht:X.w.params.followText "set-order" with
 |true=>
  refine wC ht (qb (by rw[bne_self_eq_false];exact Bool.false_ne_true) (wpAny_bind (Np ho hd Z ht (wpAny_pure ?_))))
  have z:=q slot λh=>absurd (ht.symm.trans h) (by decide)
  unfold ord at z
  rw[if_pos ht] at z
  exact z
 |false=>
  refine qb (by refine(?_:¬X.w.params.followText "set-order"=true);rw[ht];exact Bool.false_ne_true) (qb ?_ (wpAny_bind (wpAny_of_eq (a:=()) ?_ ?_)))
  ·refine(?_:¬(!t.plain&&decide (es.size>1))=true)
   rw[hp];exact Bool.false_ne_true
  ·refine(?_:(if(!t.led&&!es.isEmpty)=true then _ else _)=_)
   rw[hl,ht];rfl
  ·rw[hs ht]
   refine wpAny_pure ?_
   show Q (match es[below t.place (sl t i)]?,t.place[below t.place (sl t i)]? with
    |some (_,x),some j=>some (x,j+1)
    |_,_=>none) s
   rw[Nn Z.mu (by rw[Z.size];exact hi)]
   have e1:ord S ep es=es:=by unfold ord;rw[ht];rfl
   rw[e1] at q
   rcases lt_or_ge i es.size with bX|iA
   ·have ep:t.place[i]?=some (t.place[i]'(by rw[Z.size];exact bX)):=Array.getElem?_eq_getElem _
    have z:=q (sl t (i+1)) λζ ζ=>rfl
    rw[Array.getElem?_eq_getElem bX] at z ⊢
    rw[show sl t (i+1)=(t.place[i]'(by rw[Z.size];exact bX))+1 by refine(?_:(t.place[i]?.map (·+1)).getD 0=_);rw[ep];rfl] at z
    rw[ep]
    exact z
   ·have z:=q 0 λζ h=>absurd h (not_lt.mpr iA)
    rw[Array.getElem?_eq_none iA] at z ⊢
    exact z
end
theorem slot_set_iter:Slot "set" "__iter__" "set.__iter__":=
 .of (owner:="set") (n:="__iter__") (by rw[typeLookup_type,builtinLookup_eq_fast];kernel_rfl) (by decide +kernel) (by decide +kernel) (by decide +kernel)
  (by first|exact .inl (by decide +kernel)|exact .inr (by decide +kernel)) (by rw[isSubtype_type];kernel_rfl)
theorem Nq:entryFor table "set.__iter__"=some Builtin.«frozenset.__iter__»:=entryFor_alias (id':="frozenset.__iter__") (by kernel_rfl) rfl (by decide +kernel) (by kernel_rfl)
theorem Nr(a:Value):argsOk "set.__iter__" ⟨[a],[]⟩:=by unfold argsOk;kernel_rfl
theorem rY:Slot "set_iterator" "__next__" "set_iterator.__next__":=
 .of (owner:="set_iterator") (n:="__next__") (by rw[typeLookup_type,builtinLookup_eq_fast];kernel_rfl) (by decide +kernel) (by decide +kernel) (by decide +kernel)
  (by first|exact .inl (by decide +kernel)|exact .inr (by decide +kernel)) (by rw[isSubtype_type];kernel_rfl)
theorem Fa:entryFor table "set_iterator.__next__"=some Builtin.«set_iterator.__next__»:=entryFor_of_fast (by kernel_rfl)
theorem Fb(a:Value):argsOk "set_iterator.__next__" ⟨[a],[]⟩:=by unfold argsOk;kernel_rfl
theorem Fd:Slot "set_iterator" "__iter__" "set_iterator.__iter__":=
 .of (owner:="set_iterator") (n:="__iter__") (by rw[typeLookup_type,builtinLookup_eq_fast];kernel_rfl) (by decide +kernel) (by decide +kernel) (by decide +kernel)
  (by first|exact .inl (by decide +kernel)|exact .inr (by decide +kernel)) (by rw[isSubtype_type];kernel_rfl)
theorem Nt:entryFor table "set_iterator.__iter__"=some Builtin.«dict_keyiterator.__iter__»:=entryFor_alias (id':="dict_keyiterator.__iter__") (by kernel_rfl) rfl (by decide +kernel) (by kernel_rfl)
theorem Nu(a:Value):argsOk "set_iterator.__iter__" ⟨[a],[]⟩:=by unfold argsOk;kernel_rfl
noncomputable def Nv(h:Heap)(I S:Addr)(slot i n ep:Nat):Prop:=∃o,h.get? I=some o/\o.cls=.type "set_iterator"/\o.data=.fields #[rawInt slot,rawInt i,.ref S,rawInt n,rawInt ep]
section
variable{A:Around}{E:Value->Shared->Prop}{s:Shared}{S I:Addr}{o:Obj}{es:Array (Int×Value)}{ep:Nat}{t:SetTable}
structure Nw(S:Addr)(o:Obj)(es:Array (Int×Value))(ep:Nat)(t:SetTable)(I:Addr)(i:Nat)(s:Shared):Prop where
 set:s.heap.get? S=some o
 it:∃slot,(X.w.params.followText "set-order"=false->slot=sl t i)/\Nv s.heap I S slot i es.size ep
theorem Ny{Q:Value->Shared->Prop}(hc:o.cls=.type "set")(ho:s.heap.get? S=some o)(hd:o.data=.set es ep t)(Z:ja t es)(hp:t.plain=true)
  (q:Q (.ref s.heap.objs.size) {s with heap:=s.heap.push {cls:=.type "set_iterator",data:=.fields #[rawInt 0,rawInt 0,.ref S,rawInt es.size,rawInt ep]}}):wpAny (model X.prog X.w) A (pyIter (.ref S)) Q E s:=by
 refine wpAny_pyIter_slot (T:="set") ⟨o,ho,hc⟩ slot_set_iter (wpAny_call_entry slot_set_iter ⟨o,ho,hc⟩ Nq ?_ (Nr _))
 unfold Builtin.«frozenset.__iter__»
 refine wpAny_bind (m:=Builtin.Frozenset.slot0 "__iter__" _) (wpAny_pure (a:=S) ?_)
 refine wpAny_bind (m:=Builtin.Frozenset.sizeOf S) (wpAny_bind (wpAny_setEntries_of ho hd (fits_of Z) (wpAny_pure ?_)))
 unfold setDrawn
 refine wpAny_bind (wpAny_bind (wpAny_setState_of ho hd (fits_of Z) (wpAny_bind (wpAny_bind (wpAny_askSetting (wpAny_pure (wpAny_pure ?_)))))))
 dsimp only
 refine qb ?_ (wpAny_bind (wpAny_pure ?_))
 ·refine(?_:¬(!X.w.params.followText "set-order"&&(!t.plain&&decide (es.size>1)))=true)
  rw[hp];cases X.w.params.followText "set-order"<;>exact Bool.false_ne_true
 refine wpAny_bind (m:=setEpoch S) (wpAny_bind (wpAny_setState_of ho hd (fits_of Z) (wpAny_pure ?_)))
 exact wpAny_bind (wpAny_newObj_type (wpAny_pure ⟨_,rfl,"set_iterator",_,⟨_,get?_push_size _ rfl,rfl⟩,rY.lookup,q⟩))
theorem Nz(hh:A.handled=none)(b8:S≠I)(hd:o.data=.set es ep t)(Z:ja t es)(hp:t.plain=true)(hl:t.led=!X.w.params.followText "set-order"):
  WalksS X.prog X.w A I [I,S] [I] (λa b=>b=a) es.size (λi v=>∃e,(ord S ep es)[i]?=some e/\v=e.2) (Nw S o es ep t I) where
 sub:=λb hb=>by rw[mem_singleton.mp hb];exact mem_cons_self
 grefl:=λζ=>rfl
 gtrans:=λζ ζ ζ a b=>b.trans a
 frame:=λi s h' tk st ζ hk=>by
  obtain⟨hS,slot,hs,o',dx,r⟩:=st
  exact⟨hk S (List.mem_cons_of_mem _ mem_cons_self) _ hS,slot,hs,o',hk I mem_cons_self _ dx,r⟩
 item:=λi s Q E hi st hQ=>by
  obtain⟨hS,slot,hs,o',dx,dC,fY⟩:=st
  unfold pyNext
  refine wpAny_bind (wpAny_attempt (wpAny_callSpecial?_slot (name:=Str.ofString "__next__") ⟨o',dx,dC⟩ rY (wpAny_call_entry rY ⟨o',dx,dC⟩ Fa ?_ (Fb _))))
  unfold Builtin.«set_iterator.__next__»
  refine wpAny_bind (m:=slotArgs "__next__" 0 _) (wpAny_pure ?_)
  refine wpAny_bind (wpAny_fieldsOf dx fY ?_)
  refine wpAny_bind (wpAny_setEntries_of hS hd (fits_of Z) ?_)
  refine qb (by rw[bne_self_eq_false];exact Bool.false_ne_true) ?_
  refine(?_:wpAny _ _ (setNext S slot i ep >>= _) _ _ s)
  refine wpAny_bind (E9 hS hd Z hp hl (le_of_lt hi) hs λslot' cQ=>?_)
  have fx:i<(ord S ep es).size:=by rw[z3];exact hi
  rw[Array.getElem?_eq_getElem fx]
  refine wpAny_bind (wpAny_setField dx fY (by simp) ?_)
  have g1:=get?_update_self (Obj.mapFields (·.setIfInBounds 0 (rawInt slot'))) dx (Obj.isFreed_of_fields (Obj.data_mapFields fY _))
  refine wpAny_bind (wpAny_setField g1 (Obj.data_mapFields fY _) (by simp) ?_)
  have g2:=get?_update_self (Obj.mapFields (·.setIfInBounds 1 (rawInt (i+1)))) g1 (Obj.isFreed_of_fields (Obj.data_mapFields (Obj.data_mapFields fY _) _))
  have sb:=(SameBut.update s.heap I (Obj.mapFields (·.setIfInBounds 0 (rawInt slot')))).trans (SameBut.update _ I (Obj.mapFields (·.setIfInBounds 1 (rawInt (i+1)))))
  refine wpAny_pure ⟨_,rfl,wpAny_pure (hQ _ _ ⟨_,Array.getElem?_eq_getElem fx,rfl⟩ ⟨(sb.2 S b8).trans hS,slot',λh=>cQ h hi,_,g2,((Obj.cls_mapFields ..).trans (Obj.cls_mapFields ..)).trans dC,?_⟩ ⟨λb o hb e=>(sb.2 b λh=>hb (mem_singleton.mpr h)).trans e,rfl,rfl,rfl,le_refl _⟩)⟩
  rw[Obj.data_mapFields (Obj.data_mapFields fY _)]
  rfl
 done:=λs Q E st hQ=>by
  obtain⟨hS,slot,hs,o',dx,dC,fY⟩:=st
  unfold pyNext
  refine wpAny_bind (wpAny_attempt (wpAny_callSpecial?_slot (name:=Str.ofString "__next__") ⟨o',dx,dC⟩ rY (wpAny_call_entry rY ⟨o',dx,dC⟩ Fa ?_ (Fb _))))
  unfold Builtin.«set_iterator.__next__»
  refine wpAny_bind (m:=slotArgs "__next__" 0 _) (wpAny_pure ?_)
  refine wpAny_bind (wpAny_fieldsOf dx fY ?_)
  refine wpAny_bind (wpAny_setEntries_of hS hd (fits_of Z) ?_)
  refine qb (by rw[bne_self_eq_false];exact Bool.false_ne_true) ?_
  refine(?_:wpAny _ _ (setNext S slot es.size ep >>= _) _ _ s)
  refine wpAny_bind (E9 hS hd Z hp hl (le_refl _) hs λslot' cQ=>?_)
  rw[Array.getElem?_eq_none (by rw[z3];exact le_refl _)]
  refine wpAny_bind (wpAny_setField dx fY (by simp) ?_)
  refine wpAny_bind ?_
  refine wpAny_bind (wpAny_newObj_type ?_ (by size_fits))
  refine wpAny_bind (m:=firstArgMember _ _) (wpAny_of_eq (a:=Value.none) (by first|rfl|(simp only[firstArgMember];rfl)) ?_)
  refine wpAny_newObj_type ?_ (by size_fits)
  refine wpAny_bind (wpAny_handled ?_)
  rw[show A.in1.handled=none from hh]
  refine wpAny_bind (wpAny_pure (wpAny_throw ?_))
  refine wpAny_bind (wpAny_isInstance (T:="StopIteration") (b:=true) ⟨_,get?_push_size _ rfl,rfl⟩ isSubtype_stop ?_)
  exact wpAny_pure (hQ _ ⟨λb o hb e=>get?_push_of_some _ (get?_push_of_some _ (((SameBut.update ..).2 b λh=>hb (mem_singleton.mpr h)).trans e)),rfl,rfl,rfl,le_refl _⟩)
 self:=λi s Q E st hQ=>by
  obtain⟨hS,slot,hs,o',dx,dC,fY⟩:=st
  refine wpAny_pyIter_slot (T:="set_iterator") ⟨o',dx,dC⟩ Fd (wpAny_call_entry Fd ⟨o',dx,dC⟩ Nt ?_ (Nu _))
  refine(?_:wpAny _ _ (ret (.ref I)) _ _ s)
  exact wpAny_pure ⟨_,rfl,"set_iterator",_,⟨o',dx,dC⟩,rY.lookup,hQ⟩
end
theorem NA:typeLookup (.type "set") "__len__"=pure (some (.builtin "set.__len__")):=by rw[typeLookup_type,builtinLookup_eq_fast];kernel_rfl
theorem NB{S:Addr}{ep:Nat}{es:Array (Int×Value)}{acc:Array Value}(h:ItemsOf (λi v=>∃e,(ord S ep es)[i]?=some e/\v=e.2) acc es.size):acc.toList=(ord S ep es).toList.map (·.2):=by
 refine ext_getElem? λi=>?_
 rw[getElem?_map,getElem?_toList,getElem?_toList]
 rcases lt_or_ge i acc.size with hi|hi
 ·rw[Array.getElem?_eq_getElem hi]
  obtain⟨e,he,hv⟩:=h.2 i _ (Array.getElem?_eq_getElem hi)
  rw[he,hv];rfl
 ·rw[Array.getElem?_eq_none hi,Array.getElem?_eq_none (by rw[z3,<-h.1];exact hi)];rfl
section
variable{A:Around}{E:Value->Shared->Prop}{s:Shared}{S I:Addr}{o:Obj}{es:Array (Int×Value)}{ep:Nat}{t:SetTable}
theorem NC{M:Model}{Q:Bool->Shared->Prop}(hT:s.TypeIs (.ref S) "set")(q:Q false s):wpAny M A (Builtin.List.listLengthHint (.ref S)) Q E s:=by
 unfold Builtin.List.listLengthHint
 refine wpAny_bind (wpAny_specialOf hT NA ?_)
 (generalize nY:("set.__len__":String)=wc;(fail_if_success (clear nY wc));wp_delta;rw[show splitId wc=some ("set","__len__") from by subst nY;decide +kernel];subst nY)
 refine wpAny_bind (wpAny_isInstance (b:=true) hT (by rw[isSubtype_type];kernel_rfl) ?_)
 refine wpAny_bind (wpAny_typeOf hT ?_)
 exact wpAny_pure q
theorem ND{Q:List Value->Shared->Prop}(hh:A.handled=none)(hc:o.cls=.type "set")(ho:s.heap.get? S=some o)(hd:o.data=.set es ep t)(Z:ja t es)(hp:t.plain=true)(hl:t.led=!X.w.params.followText "set-order")(hn:es.size<=sizeLine)
  (q:∀(h':Heap) (tk:Nat),s.toks<=tk->(∀b o,s.heap.get? b=some o->h'.get? b=some o)->Q ((ord S ep es).toList.map (·.2)) {s with heap:=h',toks:=tk}):wpAny (model X.prog X.w) A (collect (.ref S)) Q E s:=by
 have hS:S<s.heap.objs.size:=lt_size ho
 unfold collect
 refine wpAny_bind (wpAny_runValue (codeAny_builtin F.entry_proto_collect ?_))
 rw[Around.under_plainId F.plain_proto_collect _]
 refine(?_:wpAny _ A.in1 (newList [] >>= λl=>again (.builtin "list.__iadd__" ⟨[l,.ref S],[]⟩)) _ _ s)
 refine wpAny_bind (wpAny_newList ?_)
 refine wpAny_pure ⟨plainId_quiet F.plain_list_iadd _,codeAny_builtin F.entry_list_iadd ?_⟩
 rw[Around.under_plainId F.plain_list_iadd _]
 refine(?_:wpAny _ A.in1 (Builtin.List.listExtendWith (.ref s.heap.objs.size) (.ref S) (.ref s.heap.objs.size)) _ _ {s with heap:=s.heap.push (seqObj "list" #[] 0)})
 unfold Builtin.List.listExtendWith
 have mn:(s.heap.push (seqObj "list" #[] 0)).get? S=some o:=get?_push_of_some _ ho
 have wD:(s.heap.push (seqObj "list" #[] 0)).get? s.heap.objs.size=some (seqObj "list" #[] 0):=get?_push_size _ rfl
 refine wpAny_bind (wpAny_typeOf (T:="set") ⟨o,mn,hc⟩ ?_)
 have h1:Builtin.List.listSameRef (.ref s.heap.objs.size) (.ref S)=false:=beq_false_of_ne (ne_of_gt hS)
 refine qb (by rw[h1];decide) ?_
 refine wpAny_bind (Ny hc mn hd Z hp ?_)
 generalize hI:(s.heap.push (seqObj "list" #[] 0)).objs.size=I
 have z4:I=s.heap.objs.size+1:=by rw[<-hI,size_push]
 have wb:((s.heap.push (seqObj "list" #[] 0)).push {cls:=.type "set_iterator",data:=.fields #[rawInt 0,rawInt 0,.ref S,rawInt es.size,rawInt ep]}).get? S=some o:=get?_push_of_some _ mn
 have oy:((s.heap.push (seqObj "list" #[] 0)).push {cls:=.type "set_iterator",data:=.fields #[rawInt 0,rawInt 0,.ref S,rawInt es.size,rawInt ep]}).get? s.heap.objs.size=some (seqObj "list" #[] 0):=get?_push_of_some _ wD
 have mi:((s.heap.push (seqObj "list" #[] 0)).push {cls:=.type "set_iterator",data:=.fields #[rawInt 0,rawInt 0,.ref S,rawInt es.size,rawInt ep]}).get? I=some {cls:=.type "set_iterator",data:=.fields #[rawInt 0,rawInt 0,.ref S,rawInt es.size,rawInt ep]}:=by rw[<-hI];exact get?_push_size _ rfl
 have k2:∀b o,s.heap.get? b=some o->((s.heap.push (seqObj "list" #[] 0)).push {cls:=.type "set_iterator",data:=.fields #[rawInt 0,rawInt 0,.ref S,rawInt es.size,rawInt ep]}).get? b=some o:=λb o e=>get?_push_of_some _ (get?_push_of_some _ e)
 generalize ((s.heap.push (seqObj "list" #[] 0)).push {cls:=.type "set_iterator",data:=.fields #[rawInt 0,rawInt 0,.ref S,rawInt es.size,rawInt ep]})=h2 at *
 refine wpAny_bind (wpAny_holding (NC ⟨o,wb,hc⟩ ?_))
 refine wC (by kernel_rfl) (wpAny_bind (wpAny_rule ?_))
 unfold Builtin.List.listTouch
 refine wpAny_bind (wpAny_bind (listUpdate_at oy rfl ?_ (zero_le _) (by refine(?_:(1:Nat)<=_);exact succ_le_succ (zero_le _))))
 have wF:=get?_update_seq oy (·.push .none)
 refine listUpdate_at wF rfl ?_ (by refine(?_:(1:Nat)<=_);rw[sizeLine_eq];decide) (zero_le _)
 have NF:=get?_update_seq wF (·.pop)
 have sb:=(SameBut.update h2 s.heap.objs.size (Obj.mapSeq (·.push .none))).trans (SameBut.update _ s.heap.objs.size (Obj.mapSeq (·.pop)))
 have Fe:I≠s.heap.objs.size:=by rw[z4];exact succ_ne_self _
 refine wpAny_pure ⟨plainId_quiet F.plain_extend_loop _,codeAny_extend_loopS (Nz (A:=A.in1) (I:=I) hh (by rw[z4];exact ne_of_lt (lt_succ_of_lt hS)) hd Z hp hl) hn s.heap.objs.size ?_ _ _ 0 _ _ _ rfl (zero_le _) ⟨(sb.2 S (ne_of_lt hS)).trans wb,0,λζ=>rfl,_,(sb.2 I Fe).trans mi,rfl,rfl⟩ NF (ItemsOf.nil _) λs' acc' c' hm fG t7=>?_⟩
 ·simp only[mem_cons,not_mem_nil,or_false,not_or]
  exact⟨λh=>Fe h.symm,ne_of_gt hS⟩
 ·refine(?_:wpAny _ A (load s.heap.objs.size >>= _) _ _ s')
  refine wpAny_bind (wpAny_load fG ?_)
  obtain⟨h',g',d',pH,z5⟩:=s'
  have eg:g'=s.gens:=hm.gens
  have ed:d'=s.drawn:=hm.drawn
  have eo:z5=s.os:=hm.os
  subst eg;subst ed;subst eo
  refine wpAny_pure ?_
  refine(?_:Q acc'.toList _)
  rw[NB t7]
  refine q h' pH hm.toks λb o e=>?_
  have hb:b<s.heap.objs.size:=lt_size e
  refine hm.heap b o ?_ ((sb.2 b (ne_of_lt hb)).trans (k2 b o e))
  simp only[mem_cons,not_mem_nil,or_false,not_or]
  exact⟨ne_of_lt hb,by rw[z4];exact ne_of_lt (lt_succ_of_lt hb)⟩
end
end Mine.T
namespace Mine.T
open PySem PySem.SetTable PySem.Spec PyProof.Rows
section
variable{A:Around}{E:Value->Shared->Prop}{s:Shared}{S:Addr}
structure z6(es:Array (Int×Value))(t:SetTable)(is:List Int):Prop where
 ok:ja t es
 plain:t.plain=true
 led:t.led=!X.w.params.followText "set-order"
 small:es.size*5<t.mask*3
 el:ElemsOf d7 es.toList
 z7:∃us:List (Int×Tok),us.map (·.1)=is/\(es.toList.map (·.2)).Perm (us.map λu=>.int u.1 u.2)
noncomputable def SI(h:Heap)(S:Addr)(is:List Int):Prop:=∃o es ep t,h.get? S=some o/\o.ExactSet/\o.data=.set es ep t/\z6 es t is
theorem NG{t:SetTable}{es:Array (Int×Value)}(T:ja t es)(h:Int)(x:Value)(small:es.size*5<t.mask*3):∃j n,(bR t.mask n (start t.mask h)).j=j/\¬i9 t j/\(∀k,k<n->i9 t (bR t.mask k (start t.mask h)).j)/\layNew t es h x=(insertAt es (t.put j).2 (h,x),(t.put j).1,false,false)/\ja (t.put j).1 (insertAt es (t.put j).2 (h,x)):=by
 have M:=Et T.mask T.mu T.pY T.room (λζ=>h+1) h (p:=t.probeStart h) (ug _ _)
 have room:t.place.size+1<=t.mask:=by
  rw[T.size]
  rcases T.mask with e|e|e<;>rw[e] at small ⊢<;>lia
 generalize hr:t.probe (λζ=>h+1) h (t.probeStart h)=r at M
 cases M with
 |empty n e no before=>
  subst e
  have T':=Ew (x:=x) T (rfl:(bR t.mask n (start t.mask h)).j=_) no (λk hk=>(before k hk).elim λi hi=>⟨i,hi.1⟩) room
  refine⟨_,n,rfl,no,λk hk=>(before k hk).elim λi hi=>⟨i,hi.1⟩,?_,T'⟩
  have e:layNew t es h x=(insertAt es (t.put (bR t.mask n (start t.mask h)).j).2 (h,x),((t.put (bR t.mask n (start t.mask h)).j).1).orStandIn (insertAt es (t.put (bR t.mask n (start t.mask h)).j).2 (h,x)).size,false,!((t.put (bR t.mask n (start t.mask h)).j).1).fits (insertAt es (t.put (bR t.mask n (start t.mask h)).j).2 (h,x)).size):=by
   unfold layNew SetTable.freeSlot
   rw[hr];rfl
  rw[e]
  unfold SetTable.orStandIn
  rw[if_pos (fits_of T'),fits_of T'];rfl
 |uh n i e at' hh before=>exact absurd hh (by refine(?_:h+1≠h);lia)
end
section
variable{A:Around}{E:Value->Shared->Prop}{s:Shared}{S:Addr}
theorem z6.len{es:Array (Int×Value)}{t:SetTable}{is:List Int}(Z:z6 es t is):es.size=is.length:=by
 obtain⟨us,e,p⟩:=Z.z7
 have:=p.length_eq
 rw[length_map,length_map,length_toList] at this
 rw[this,<-e,length_map]
theorem NH{i k:Int}{v:Value}(h:d7.is i v=true)(hv:∃u,v=.int k u):k=i:=by
 obtain⟨u,rfl⟩:=hv
 exact d7.inj _ _ _ (intKind_is X.prog X.w k u) h
theorem add_int{is:List Int}(sp:SI s.heap S is){i:Int}{u:Tok}(du:is.length<=60){Q:Bool->Shared->Prop}
  (q:∀b h' tk,s.toks<=tk->SameBut S s.heap h'->SI h' S (if i∈is then is else is++[i])->Q b {s with heap:=h',toks:=tk}):wpAny (model X.prog X.w) A (setAdd S (.int i u)) Q E s:=by
 obtain⟨o,es,ep,t,ho,hx,hd,Z⟩:=sp
 have jb:=Z.len
 obtain⟨us,eus,pus⟩:=Z.z7
 unfold setAdd
 refine wpAny_holding (wpAny_bind (d7.pyHash (k:=i) (intKind_is _ _ _ _) ?_))
 generalize cQ:({s with toks:=s.toks+1}:Shared)=s'
 have dx:s'.heap.get? S=some o:=by rw[<-cQ];exact ho
 have mw:s'.heap=s.heap:=by rw[<-cQ]
 unfold setAddHashed setAddHashedIn
 refine wpAny_holding (wpAny_bind (wpAny_setState_of dx hd (fits_of Z.ok) ?_))
 dsimp only
 rw[byScan_of (x:=.int i u) rfl (by rw[jb];exact lt_of_le_of_lt du (by decide)) Z.el]
 refine wC rfl (wpAny_bind ?_)
 unfold setAddByScan
 refine wpAny_bind (wpAny_rule (wpAny_bind (wpAny_setScan_of (k:=i) (intKind_is _ _ _ _) dx hd (fits_of Z.ok) Z.el ?_)))
 have inI:∀{e:Int×Value},e∈es.toList->∃u,u∈us/\e.2=.int u.1 u.2:=λ{e} he=>(mem_map.mp (pus.mem_iff.mp (mem_map.mpr ⟨e,he,rfl⟩))).imp λu hu=>⟨hu.1,hu.2.symm⟩
 cases hr:es.toList.findIdx? (λe=>d7.is i e.2) with
 |some j=>
  obtain⟨hj,wG,_⟩:=List.findIdx?_eq_some_iff_getElem.mp hr
  obtain⟨u',z8,eu⟩:=inI (getElem_mem hj)
  have hi:i∈is:=by
   rw[<-eus,<-NH wG ⟨_,eu⟩]
   exact mem_map.mpr ⟨u',z8,rfl⟩
  have z:=q false s.heap (s.toks+1) (le_succ _) (SameBut.refl _ _)
  rw[if_pos hi] at z
  rw[<-cQ]
  exact wpAny_pure (wpAny_pure (z ⟨o,es,ep,t,ho,hx,hd,Z⟩))
 |none=>
  have hi:i∉is:=λhi=>by
   rw[<-eus] at hi
   obtain⟨u',z8,e⟩:=mem_map.mp hi
   have:Value.int u'.1 u'.2∈es.toList.map (·.2):=pus.mem_iff.mpr (mem_map.mpr ⟨u',z8,rfl⟩)
   obtain⟨e',rV,e2⟩:=mem_map.mp this
   have h1:=List.findIdx?_eq_none_iff.mp hr e' rV
   rw[e2,e,intKind_is] at h1
   cases h1
  rw[if_neg hi] at q
  obtain⟨j',n,km,gR,hb,eL,T'⟩:=NG Z.ok (d7.hash i) (.int i u) Z.small
  have p6:(t.put j').2<=es.size:=by rw[<-Z.ok.size];exact(rT Z.ok.mu j').1
  have cI:=ud p6 ((d7.hash i,.int i u):Int×Value)
  have mx:=EO p6 ((d7.hash i,.int i u):Int×Value)
  have Ff:ElemsOf d7 (insertAt es (t.put j').2 (d7.hash i,.int i u)).toList:=(Z.el.push (intKind_is _ _ _ _) rfl).perm mx
  have Fg:∃us:List (Int×Tok),us.map (·.1)=is++[i]/\((insertAt es (t.put j').2 (d7.hash i,.int i u)).toList.map (·.2)).Perm (us.map λu=>.int u.1 u.2):=⟨us++[(i,u)],by rw[map_append,eus];rfl,by
   rw[map_append]
   exact(mx.map _).trans (by rw[map_append];exact pus.append_right _)⟩
  dsimp only
  rw[eL]
  dsimp only
  refine wpAny_bind (wpAny_pure ?_)
  rw[if_pos (show(t.put j').1.plain=true from Z.plain)]
  refine wpAny_bind (wpAny_of_eq (hashByValue_scannable 8 rfl) ?_)
  rw[if_pos (show plainKind (.int i u)=true from rfl)]
  have hg:(s'.heap.update S (Obj.putSet (insertAt es (t.put j').2 (d7.hash i,.int i u)) (t.put j').1)).get? S=some {o with data:=.set (insertAt es (t.put j').2 (d7.hash i,.int i u)) (ep+1) (t.put j').1}:=by
   have:=get?_update_self (Obj.putSet (insertAt es (t.put j').2 (d7.hash i,.int i u)) (t.put j').1) dx (by rw[putSet_of _ _ hd];rfl)
   rw[putSet_of _ _ hd] at this;exact this
  have p9:=SameBut.update s'.heap S (Obj.putSet (insertAt es (t.put j').2 (d7.hash i,.int i u)) (t.put j').1)
  have um:(t.put j').1.fill=es.size+1:=by
   unfold SetTable.fill
   rw[T'.pY,T'.size,cI];rfl
  have zV:(t.put j').1.mask=t.mask:=rfl
  have nr:(t.put j').1.plain=true:=Z.plain
  have wH:(t.put j').1.led=!X.w.params.followText "set-order":=Z.led
  generalize insertAt es (t.put j').2 (d7.hash i,.int i u)=ib at *
  generalize (t.put j').1=t1 at *
  have Fh:ib.size<=sizeLine:=by rw[cI,jb,sizeLine_eq];exact le_trans (succ_le_succ du) (by decide)
  refine wpAny_bind (wpAny_storeSet_of dx hd ?_ Fh)
  cases uo:(!false&&t1.tooFull) with
  |false=>
   rw[if_neg (by decide)]
   have lL:ib.size*5<t1.mask*3:=by
    have h1:decide (t1.fill*5≥t1.mask*3)=false:=uo
    rw[um] at h1
    rw[cI]
    exact not_le.mp (of_decide_eq_false h1)
   have z:=q true _ s'.toks (by rw[<-cQ];exact le_add_right _ _) (mw▸p9) ⟨_,_,ep+1,_,hg,hx,rfl,T',nr,wH,lL,Ff,Fg⟩
   rw[<-cQ] at z ⊢
   exact wpAny_pure (wpAny_pure z)
  |true=>
   rw[if_pos rfl]
   have h1:decide (t1.fill*5≥t1.mask*3)=true:=uo
   rw[um,zV] at h1
   have h1:=of_decide_eq_true h1
   have lL:=Z.small
   obtain⟨m',em,rX,zW,kO⟩:=EP Z.ok.mask h1 lL (by rw[jb];exact du)
   obtain⟨t2,order,el,e1,e2,e3,T2,my,NI⟩:=EG (f:=t1.finger) (mv:=t1.movedTo m') (led:=t1.led) (plain:=t1.plain) rX (es:=ib) (by rw[cI];exact kO)
   have er:t1.relaid (ib.map (·.1)) (grown ib.size)=some (t2,order):=by
    unfold SetTable.relaid
    rw[cI,em]
    exact el
   have eR:relayAll t1 ib (grown ib.size)=(order.filterMap (ib[·]?),t2,false):=by
    unfold relayAll
    rw[er]
    dsimp only
    rw[if_pos]
    rw[Bool.and_eq_true]
    exact⟨List.isPerm_iff.mpr NI,fits_of T2⟩
   rw[eR]
   dsimp only
   generalize order.filterMap (ib[·]?)=lM at *
   have hsz2:lM.size=ib.size:=by rw[<-length_toList,my.length_eq,length_toList]
   refine wpAny_bind (wpAny_pure (wpAny_bind (wpAny_storeSet_of hg rfl ?_ (by rw[hsz2];exact Fh))))
   have wm:((s'.heap.update S (Obj.putSet ib t1)).update S (Obj.putSet lM t2)).get? S=some {o with data:=.set lM (ep+1+1) t2}:=by
    have:=get?_update_self (Obj.putSet lM t2) hg (by rw[putSet_of lM t2 (ep:=ep+1) rfl];rfl)
    rw[putSet_of lM t2 (ep:=ep+1) rfl] at this;exact this
   have zX:=SameBut.update (s'.heap.update S (Obj.putSet ib t1)) S (Obj.putSet lM t2)
   have z:=q true _ s'.toks (by rw[<-cQ];exact le_add_right _ _) (mw▸p9.trans zX) ⟨_,lM,_,t2,wm,hx,rfl,T2,e3.trans nr,e2.trans wH,by rw[hsz2,cI,e1];exact zW,Ff.perm my,Fg.imp λus h=>⟨h.1,(my.map _).trans h.2⟩⟩
   rw[<-cQ] at z ⊢
   exact wpAny_pure (wpAny_pure z)
end
section
variable{A:Around}{R:Result->Shared->Prop}{I:Addr}{fp wr:List Addr}{G:Array GenState->Array GenState->Prop}{n:Nat}{P:Nat->Value->Prop}{St:Nat->Shared->Prop}
noncomputable def Fi(A:Around)(S:Addr)(n:Nat)(P:Nat->Value->Prop)(B:Nat->Heap->Prop):Prop:=∀(i:Nat) (v:Value) (s:Shared) (Q:Bool->Shared->Prop) (E:Value->Shared->Prop),i<n->P i v->B i s.heap->(∀b h' tk,s.toks<=tk->SameBut S s.heap h'->B (i+1) h'->Q b {s with heap:=h',toks:=tk})->wpAny (model X.prog X.w) A (setAdd S v) Q E s
theorem NJ(W:WalksS X.prog X.w A.in1 I fp wr G n P St)(S:Addr)(tY:S∉fp){B:Nat->Heap->Prop}(z9:Fi A.in1 S n P B)(keep:∀{i:Nat} {s s':Shared},Moved wr G s s'->B i s.heap->B i s'.heap):
  ∀(k i:Nat) (s:Shared),n - i=k->i<=n->St i s->B i s.heap->(∀s',Moved (S::wr) G s s'->B n s'.heap->R (.ok (.ret .none)) s')->codeAny (model X.prog X.w) A (.builtin "set.update.loop" ⟨[.ref S,.ref I],[]⟩) R s:=by
 have wz:∀b∈wr,b∈S::wr:=λb hb=>List.mem_cons_of_mem _ hb
 intro k
 induction k with
 |zero=>
  intro i s hk hi jG hS hR
  have hU:i=n:=le_antisymm hi (Nat.sub_eq_zero_iff_le.mp hk)
  subst hU
  refine codeAny_builtin PyProof.Rows.F.entry_set_update_loop ?_
  rw[Around.under_plainId PyProof.Rows.F.plain_set_update_loop _]
  refine(?_:wpAny _ A.in1 (pyNext (.ref I) >>= _) _ _ s)
  refine wpAny_bind (W.done s _ _ jG λs' hm=>?_)
  refine(?_:wpAny _ A.in1 (ret Value.none) _ _ s')
  exact wpAny_pure (hR s' (hm.mono wz) (keep hm hS))
 |succ k ih=>
  intro i s hk hi jG hS hR
  have bX:i<n:=Nat.sub_pos_iff_lt.mp (by rw[hk];exact succ_pos _)
  refine codeAny_builtin PyProof.Rows.F.entry_set_update_loop ?_
  rw[Around.under_plainId PyProof.Rows.F.plain_set_update_loop _]
  refine(?_:wpAny _ A.in1 (pyNext (.ref I) >>= _) _ _ s)
  refine wpAny_bind (W.item i s _ _ bX jG λv s' hP NK hm=>?_)
  refine(?_:wpAny _ A.in1 (holding [v] (setAdd S v) >>= _) _ _ s')
  refine wpAny_bind (wpAny_holding (z9 i v s' _ _ bX hP (keep hm hS) λb h' tk jc sb NL=>?_))
  refine wpAny_pure ⟨plainId_quiet PyProof.Rows.F.plain_set_update_loop _,ih (i+1) _ (by rw[sub_succ,hk];rfl) bX (W.frame _ s' _ _ NK jc λb hb o e=>?_) NL λwk NM NN=>?_⟩
  ·rw[sb.2 b (λh:b=S=>tY (by rw[<-h];exact hb))];exact e
  ·refine hR wk (Moved.trans W.gtrans ((hm.mono wz).then_heap jc λb o hb e=>?_) NM) NN
   rw[sb.2 b (λh:b=S=>hb (by rw[h];exact mem_cons_self))];exact e
end
section
variable{A:Around}{E:Value->Shared->Prop}{s:Shared}
set_option maxHeartbeats 3200000 in
theorem Fj{l:Addr}{items:Array Value}{B:Nat->Heap->Prop}{Q:Value->Shared->Prop}(hh:A.handled=none)(hl:s.heap.IsList l items)(h0:∀(h':Heap) (led:Bool),led=(!X.w.params.followText "set-order")->h'.get? s.heap.objs.size=some {cls:=.type "set",dict:=none,data:=.set #[] 0 (.fresh 0 0 led)}->(∀b o,s.heap.get? b=some o->h'.get? b=some o)->B 0 h')(z9:∀A':Around,A'.units<=A.units+20->Fi A' s.heap.objs.size items.size (λi v=>items[i]?=some v) B)(wl:∀i (h h':Heap),(∀b o,b<=s.heap.objs.size->h.get? b=some o->h'.get? b=some o)->B i h->B i h')
  (h:∀(h':Heap) (tk:Nat),s.toks<=tk->B items.size h'->(∀b o,b<s.heap.objs.size->s.heap.get? b=some o->h'.get? b=some o)->Q (.ref s.heap.objs.size) {s with heap:=h',toks:=tk}):wpAny (model X.prog X.w) A (call (.type "set") [.ref l]) Q E s:=by
 obtain⟨c,tl,VH⟩:=F.called_set.mro
 have VI:=F.called_set.made
 have wz:=F.called_set.sub
 refine wpAny_call (codeAny_of_tree ?_)
 refine(?_:wpAny _ _ (callAny (.type "set") _) _ _ _)
 refine wpAny_pure ⟨Code.quiet_builtin _ (by decide +kernel),codeAny_builtin F.entry_type_call ?_⟩
 rw[Around.under_plain (weight_type_call_type "set" [.ref l] []) rfl]
 have h1:=F.called_set.notType
 have h2:=F.called_set.canCreate
 have VJ:=F.typeCall_set_1 (.ref l)
 repeat (any_goals (first|assumption|wp_step))
 refine codeAny_mono (M6 (.ref l) (E:=E) (Q₁:=λobj bF=>∃led:Bool,led=(!X.w.params.followText "set-order")/\obj=.ref s.heap.objs.size/\bF={s with heap:=s.heap.push {cls:=.type "set",dict:=none,data:=.set #[] 0 (.fresh 0 0 led)}}) ⟨_,rfl,rfl,rfl⟩) λr bF hr=>?_
 cases r with
 |error e=>exact hr
 |ok fl=>
  cases fl with
  |ret obj=>
   obtain⟨led,wH,rfl,rfl⟩:=hr
   have hS:(s.heap.push {cls:=.type "set",dict:=none,data:=.set #[] 0 (.fresh 0 0 led)}).get? s.heap.objs.size=some {cls:=.type "set",dict:=none,data:=.set #[] 0 (.fresh 0 0 led)}:=get?_push_size _ rfl
   have hT:Shared.TypeIs {s with heap:=s.heap.push {cls:=.type "set",dict:=none,data:=.set #[] 0 (.fresh 0 0 led)}} (.ref s.heap.objs.size) "set":=⟨_,hS,rfl⟩
   have VK:=F.called_set.init.lookup
   have Fk:=F.called_set.init.bind (.ref s.heap.objs.size)
   repeat (any_goals (first|assumption|wp_step))
   refine codeAny_mono (codeAny_call_builtin (R:=wants (λr eW=>r=.none/\∃h' tk,eW={s with heap:=h',toks:=tk}/\s.toks<=tk/\B items.size h'/\(∀b o,b<s.heap.objs.size->s.heap.get? b=some o->h'.get? b=some o)) E) F.called_set.init.plain F.entry_set_init (check_set_init_1 hT ?_)) λNO eW Aa=>?_
   ·obtain⟨ol,Fl,eA,nl,Fm⟩:=hl
    obtain⟨ocls,odict,odata,oslots⟩:=ol
    simp only at eA Fm
    subst eA;subst Fm
    have NP:(s.heap.push {cls:=.type "set",dict:=none,data:=.set #[] 0 (.fresh 0 0 led)}).get? l=some {cls:=.type "list",dict:=odict,data:=.seq items nl,slots:=oslots}:=get?_push_of_some _ Fl
    have VL:=F.sub_list_set
    have VM:=F.sub_list_frozenset
    have b8:(Value.type "list"==Value.type "dict")=false:=by decide
    have wD:(s.heap.push {cls:=.type "set",dict:=none,data:=.set #[] 0 (.fresh 0 0 led)}).IsList l items:=⟨_,NP,rfl,nl,rfl⟩
    unfold Builtin.«set.__init__» noKeywords Builtin.Frozenset.updateFrom
    generalize NQ:pyIter=PI
    wp_walk
    subst NQ
    refine wpAny_pyIter_list wD ?_
    refine wpAny_bind (wpAny_runValue ?_)
    have Fo:l<s.heap.objs.size:=lt_size Fl
    have NR:A.in1.in1.in1.handled=none:=by simp[hh]
    have NS:l≠(s.heap.push {cls:=.type "set",dict:=none,data:=.set #[] 0 (.fresh 0 0 led)}).objs.size:=by
     rw[size_push];exact ne_of_lt (lt_succ_of_lt Fo)
    have tY:s.heap.objs.size∉[(s.heap.push {cls:=.type "set",dict:=none,data:=.set #[] 0 (.fresh 0 0 led)}).objs.size,l]:=by
     rw[size_push];simp only[mem_cons,not_mem_nil,or_false,not_or]
     exact⟨ne_of_lt (lt_succ_self _),ne_of_gt Fo⟩
    refine NJ ((Walks.list NR _ l NS items).toS) s.heap.objs.size tY (B:=B) (z9 _ ?hu) (λ{i s s'} hm hB=>wl i _ _ (λb o hb e=>hm.heap b o (λq=>?hq) e) hB) (items.size - 0) 0 _ (by lia) (zero_le _) ⟨⟨_,get?_push_size _ rfl,rfl,rfl⟩,(wD.push _)⟩ ?pS ?hR
    case hu=>refine(?_:A.units+1+1+1<=A.units+20);lia
    case hq=>
     rw[mem_singleton.mp q,size_push] at hb
     exact absurd hb (Nat.not_succ_le_self _)
    case pS=>
     exact h0 _ led wH (get?_push_of_some _ hS) λb o e=>get?_push_of_some _ (get?_push_of_some _ e)
    case hR=>
     intro s' hm fG
     obtain⟨h',g',d',pH,z5⟩:=s'
     have eg:g'=s.gens:=hm.gens
     have ed:d'=s.drawn:=hm.drawn
     have eo:z5=s.os:=hm.os
     subst eg;subst ed;subst eo
     refine(?_:wpAny _ _ _ _ _ _)
     refine wpAny_pure ?_
     refine(?_:wpAny _ _ (ret Value.none) _ _ _)
     refine wpAny_pure ⟨rfl,h',pH,rfl,hm.toks,fG,λb o hb e=>?_⟩
     have NT:b≠s.heap.objs.size:=ne_of_lt hb
     have NU:b≠(s.heap.push {cls:=.type "set",dict:=none,data:=.set #[] 0 (.fresh 0 0 led)}).objs.size:=by
      rw[size_push];exact ne_of_lt (lt_succ_of_lt hb)
     exact hm.heap b o (by simp only[mem_cons,not_mem_nil,or_false,not_or];exact⟨NT,NU⟩) (get?_push_of_some _ (get?_push_of_some _ e))
   ·cases NO with
    |error e=>exact Aa
    |ok NV=>
     cases NV with
     |ret r=>
      obtain⟨rfl,h',tk,rfl,jc,fG,gq⟩:=Aa
      repeat (any_goals (first|assumption|wp_step))
      exact h _ _ jc fG gq
     |_=>exact Aa.elim
  |_=>exact hr.elim
end
end Mine.T
namespace Mine.T
open PySem PySem.SetTable PyProof.Rows
theorem NW{h:Heap}{a:Addr}{vs:List Value}{n:Nat}(out:Array Value)(ho:h.get? a=some (seqObj "list" vs.toArray n)):∃m,(sortedHeap h a vs out).get? a=some (seqObj "list" out m):=
 ⟨_,get?_update_seq (get?_push_of_some _ (get?_push_of_some _ (get?_update_seq ho (λζ=>#[])))) (λζ=>out)⟩
theorem NX{h:Heap}{a b:Addr}{vs:List Value}{out:Array Value}{o:Obj}(hb:b≠a)(e:h.get? b=some o):(sortedHeap h a vs out).get? b=some o:=
 ((SameBut.update _ a (Obj.mapSeq λζ=>out)).2 b hb).trans (get?_push_of_some _ (get?_push_of_some _ (((SameBut.update h a (Obj.mapSeq λζ=>#[])).2 b hb).trans e)))
section
variable{A:Around}{E:Value->Shared->Prop}{s:Shared}{S:Addr}
noncomputable def NY(dM:Heap)(us:List Value)(Pr:List Value->Prop):Prop:=∀(A:Around) (s:Shared) (a:Addr) (vs:List Value) (P:Fin->Shared->Prop) (E:Value->Shared->Prop),(∀b o,dM.get? b=some o->s.heap.get? b=some o)->vs.Perm us->s.heap.get? a=some (seqObj "list" vs.toArray 0)->(∀out:Array Value,Pr out.toList->P (.done (.ret .none)) {s with heap:=sortedHeap s.heap a vs out})->wpAny X.M A (Builtin.«list.sort» ⟨[.ref a],[]⟩) P E s
theorem Fq{o:Obj}{es:Array (Int×Value)}{ep:Nat}{t:SetTable}{Pr:List Value->Prop}{Q:Value->Shared->Prop}(hh:A.handled=none)(ho:s.heap.get? S=some o)(hx:o.ExactSet)(hd:o.data=.set es ep t)(ok:ja t es)(plain:t.plain=true)(led:t.led=!X.w.params.followText "set-order")(dN:es.size<64)(hs:NY s.heap (es.toList.map (·.2)) Pr)
  (q:∀(h':Heap) (tk:Nat) (L:Addr) (out:List Value) (n:Nat),s.toks<=tk->(∀b o,s.heap.get? b=some o->h'.get? b=some o)->Pr out->s.heap.get? L=none->h'.get? L=some (seqObj "list" out.toArray n)->Q (.ref L) {s with heap:=h',toks:=tk}):wpAny X.M A (call (.builtin "sorted") [.ref S]) Q E s:=by
 refine Calls.call_function_entry kind_sorted plain_sorted entry_sorted (args_sorted1 _) ?_
 unfold Builtin.«sorted»
 refine wpAny_bind (m:=checkCount "sorted" 1 1 _) (wpAny_pure ?_)
 refine wpAny_bind (ND hh hx.1 ho hd ok plain led (by rw[sizeLine_eq];exact le_trans (le_of_lt dN) (by decide)) λh1 tk jc k1=>?_)
 have mx:=(E8 S ep es).map (·.2)
 generalize (ord S ep es).toList.map (·.2)=vs at *
 refine wpAny_bind (wpAny_newList ?_ (by rw[mx.length_eq,length_map,length_toList,sizeLine_eq];exact le_trans (le_of_lt dN) (by decide)))
 have nt:(h1.push (seqObj "list" vs.toArray 0)).get? h1.objs.size=some (seqObj "list" vs.toArray 0):=get?_push_size _ rfl
 refine(?_:wpAny _ _ _ _ _ {s with heap:=h1.push (seqObj "list" vs.toArray 0),toks:=tk})
 refine wpAny_bind (wpAny_holding (wpAny_call_entry slot_list_sort ⟨_,nt,rfl⟩ entry_list_sort (hs _ _ _ vs _ _ (λb o e=>get?_push_of_some _ (k1 b o e)) mx nt λout a1=>⟨_,rfl,?_⟩) (args_list_sort _)))
 obtain⟨m,hm⟩:=NW out nt
 refine wpAny_pure ⟨_,rfl,q _ tk _ out.toList m jc (λb o e=>NX (ne_of_lt (lt_size (k1 b o e))) (get?_push_of_some _ (k1 b o e))) a1 ?_ hm⟩
 cases e:s.heap.get? h1.objs.size with
 |none=>rfl
 |some o=>exact absurd (lt_size (k1 _ o e)) (lt_irrefl _)
theorem NZ{kl:List (List Int×Addr)}{Q:Value->Shared->Prop}(hh:A.handled=none)(sp:SP s.heap S kl)(hk:∀p∈kl,PP s.heap (.ref p.2))(dN:kl.length<64)
  (q:∀(h':Heap) (tk:Nat) (L:Addr) (out:List Value) (n:Nat),s.toks<=tk->(∀b o,s.heap.get? b=some o->h'.get? b=some o)->out.Perm (kl.map λp=>Value.ref p.2)->s.heap.get? L=none->h'.get? L=some (seqObj "list" out.toArray n)->Q (.ref L) {s with heap:=h',toks:=tk}):wpAny X.M A (call (.builtin "sorted") [.ref S]) Q E s:=by
 obtain⟨o,es,ep,t,ho,hx,hd,Z⟩:=sp
 have hp:(es.toList.map (·.2)).Perm (kl.map λp=>Value.ref p.2):=by
  have h1:=Z.perm.map (·.2)
  rw[map_map] at h1
  exact h1
 refine Fq hh ho hx hd Z.ok Z.plain Z.led (by rw[Z.len];exact dN) (λA s' a vs P E keep hv ha hq=>Nl ha (λv hm=>?_) (by rw[(hv.trans hp).length_eq,length_map];exact dN) λout a1=>hq out (a1.trans (hv.trans hp))) q
 obtain⟨p,d8,rfl⟩:=mem_map.mp ((hv.trans hp).mem_iff.mp hm)
 exact(hk p d8).keep λb o e ζ=>keep b o e
end
end Mine.T
namespace Mine.T
open PySem PySem.SetTable PySem.Spec PyProof.Rows
theorem wI(kv:Nat->List Int×Addr):∀{n:Nat} {p:List Int×Addr},p∈met kv n->∃i,i<n/\p=kv i
 |0,p,h=>nomatch h
 |n+1,p,h=>by
  unfold met at h
  split at h
  ·exact(wI kv h).imp λi x=>⟨lt_succ_of_lt x.1,x.2⟩
  ·rcases mem_append.mp h with h|h
   ·exact(wI kv h).imp λi x=>⟨lt_succ_of_lt x.1,x.2⟩
   ·exact⟨n,lt_succ_self n,mem_singleton.mp h⟩
section
variable{A:Around}{E:Value->Shared->Prop}{s:Shared}
theorem N6{l:Addr}{items:Array Value}{kv:Nat->List Int×Addr}{Q:Value->Shared->Prop}(hh:A.handled=none)(nw:∀B:Around,B.units<=A.units+20->gj.room B)(hl:s.heap.IsList l items)(hi:∀(i:Nat) (v:Value),items[i]?=some v->v=Value.ref (kv i).2)(hk:∀i,i<items.size->hX s.heap (kv i).1 (kv i).2)(du:∀i,i<=items.size->(met kv i).length<=60)
  (h:∀(h':Heap) (tk:Nat),s.toks<=tk->SP h' s.heap.objs.size (met kv items.size)->(∀b o,b<s.heap.objs.size->s.heap.get? b=some o->h'.get? b=some o)->Q (.ref s.heap.objs.size) {s with heap:=h',toks:=tk}):wpAny X.M A (call (.type "set") [.ref l]) Q E s:=by
 have bX:∀i,i<items.size->(kv i).2<s.heap.objs.size:=λi fx=>by
  obtain⟨o,_,_,ho,_⟩:=hk i fx
  exact lt_size ho
 refine Fj (B:=λi h=>i<=items.size/\SP h s.heap.objs.size (met kv i)/\∀j,j<items.size->hX h (kv j).1 (kv j).2) hh hl (λh' led e1 e2 k=>⟨zero_le _,M5 e1 e2,λj hj=>(hk j hj).at (k _)⟩) (λA' hu i v s' Q E Fs hv hB q=>?_) (λi h h' k hB=>⟨hB.1,?_,λj hj=>(hB.2.2 j hj).at λo e=>k _ _ (le_of_lt (bX j hj)) e⟩) λh' tk jc hB keep=>h h' tk jc hB.2.1 keep
 ·obtain rfl:=hi i v hv
  exact M2 hB.2.1 (nw A' hu) (hB.2.2 i Fs) (du i hB.1) λb h' tk jc sb sp=>q b h' tk jc sb ⟨Fs,sp,λj hj=>(hB.2.2 j hj).at λo e=>(sb.2 _ (ne_of_lt (bX j hj))).trans e⟩
 ·obtain⟨o,es,ep,t,ho,hx,hd,Z⟩:=hB.2.1
  exact⟨o,es,ep,t,k _ _ (le_refl _) ho,hx,hd,Z.ok,Z.plain,Z.led,Z.small,Z.perm,λp hp=>(wI kv hp).elim λj hj=>hj.2▸(hB.2.2 j (lt_of_lt_of_le hj.1 hB.1)).at λo e=>k _ _ (le_of_lt (bX j (lt_of_lt_of_le hj.1 hB.1))) e,Z.nd⟩
end
end Mine.T
namespace Mine.T
open PySem PySem.SetTable PyProof.Rows
theorem Ft{α β:Type}{f:α->β}{out m:List β}(h:out.Perm m):∀{l:List α},m=l.map f->∃l':List α,l'.Perm l/\out=l'.map f:=by
 induction h with
 |nil=>exact λ{l} e=>⟨[],by rw[map_eq_nil_iff.mp e.symm],rfl⟩
 |@cons x l1 l2 _ ih=>
  intro l e
  cases l with
  |nil=>cases e
  |cons a l=>
   obtain⟨e1,e2⟩:=List.cons.inj e
   obtain⟨l',hp,he⟩:=ih e2
   exact⟨a::l',hp.cons a,by rw[map_cons,<-he,e1]⟩
 |swap x y l1=>
  intro l e
  match l,e with
  |a::b::l,e=>
   obtain⟨e1,e2⟩:=List.cons.inj e
   obtain⟨e2,e3⟩:=List.cons.inj e2
   exact⟨b::a::l,.swap _ _ _,by rw[map_cons,map_cons,<-e1,<-e2,<-e3]⟩
 |trans _ _ zI zJ=>
  intro l e
  obtain⟨l2,p2,e2⟩:=zJ e
  obtain⟨l1,p1,e1⟩:=zI e2
  exact⟨l1,p1.trans p2,e1⟩
theorem Ab(kv:Nat->List Int×Addr):∀{n i:Nat},i<n->(kv i).1∈(met kv n).map (·.1)
 |n+1,i,h=>by
  unfold met
  rcases lt_or_eq_of_le (le_of_lt_succ h) with h|rfl
  ·split
   ·exact Ab kv h
   ·rw[map_append];exact List.mem_append_left _ (Ab kv h)
  ·split
   ·assumption
   ·rw[map_append];exact mem_append_right _ mem_cons_self
theorem Ac(kv:Nat->List Int×Addr):∀n,((met kv n).map (·.1)).Nodup
 |0=>nodup_nil
 |n+1=>by
  unfold met
  split
  ·exact Ac kv n
  ·next hn=>
   rw[map_append]
   exact nodup_append.mpr ⟨Ac kv n,nodup_cons.mpr ⟨not_mem_nil,nodup_nil⟩,λx hx y hy e=>hn (by
    have e:x=(kv n).1:=e.trans (mem_singleton.mp hy)
    exact e▸hx)⟩
noncomputable def un(k:List Int):Int×Bool:=(k.headD 0,decide (k.getLastD 0=1))
theorem Ad(q:Int×Bool):un (pK q)=q:=by
 obtain⟨i,b⟩:=q
 cases b<;>exact Prod.ext rfl rfl
section
variable{A:Around}{E:Value->Shared->Prop}{s:Shared}
theorem N7{l:Addr}{xs:List Value}{qs:List (Int×Bool)}{Q:Value->Shared->Prop}(hh:A.handled=none)(nw:∀B:Around,B.units<=A.units+20->gj.room B)(hl:s.heap.IsList l xs.toArray)(hn:xs.length=qs.length)
  (hr:∀(i:Nat) (q:Int×Bool),qs[i]?=some q->∃a:Addr,xs[i]?=some (.ref a)/\hX s.heap (pK q) a/\PP s.heap (.ref a)) (rW:∀rs:List (Int×Bool),rs.Nodup->(∀q∈rs,q∈qs)->rs.length<=60)
  (q:∀(h':Heap) (tk:Nat) (L:Addr) (rs:List (Int×Bool)) (out:List Value) (n:Nat),s.toks<=tk->(∀b o,s.heap.get? b=some o->h'.get? b=some o)->rs.Nodup->(∀q,q∈rs↔q∈qs)->out.length=rs.length->(∀(i:Nat) (q:Int×Bool),rs[i]?=some q->∃j:Nat,qs[j]?=some q/\out[i]?=xs[j]?)->s.heap.get? L=none->h'.get? L=some (seqObj "list" out.toArray n)->Q (.ref L) {s with heap:=h',toks:=tk}) :
  wpAny (model X.prog X.w) A (call (.type "set") [.ref l]) (λv bF=>wpAny (model X.prog X.w) A (call (.builtin "sorted") [v]) Q E bF) E s:=by
 have ht:∀i:Nat,i<qs.length->∃a:Addr,xs[i]?=some (.ref a)/\hX s.heap (pK (qs.getD i (0,false))) a/\PP s.heap (.ref a):=λi hi=>by
  have e:qs[i]?=some (qs.getD i (0,false)):=by rw[getD_eq_getElem?_getD,getElem?_eq_getElem hi];rfl
  exact hr i _ e
 obtain⟨ad,j8⟩:=skolem.mp λi:Nat=>show ∃a:Addr,i<qs.length->xs[i]?=some (.ref a)/\hX s.heap (pK (qs.getD i (0,false))) a/\PP s.heap (.ref a) from
  (lt_or_ge i qs.length).elim (λh=>(ht i h).imp λa x ζ=>x) λh=>⟨0,λh'=>absurd h' (not_lt.mpr h)⟩
 generalize N8:(λi=>(pK (qs.getD i (0,false)),ad i):Nat->List Int×Addr)=kv
 have ekv:∀i,kv i=(pK (qs.getD i (0,false)),ad i):=λi=>by rw[<-N8]
 have cI:xs.toArray.size=qs.length:=by rw[size_toArray,hn]
 have kR:∀{n:Nat} {p},n<=qs.length->p∈met kv n->∃i:Nat,i<qs.length/\p=kv i/\qs[i]?=some (un p.1):=λ{n p} hn hp=>by
  obtain⟨i,hi,rfl⟩:=wI kv hp
  have fx:=lt_of_lt_of_le hi hn
  refine⟨i,fx,rfl,?_⟩
  rw[ekv,Ad,getD_eq_getElem?_getD,getElem?_eq_getElem fx];rfl
 have ul:∀{n:Nat} {kl:List (List Int×Addr)},n<=qs.length->kl.Perm (met kv n)->(kl.map λp=>un p.1).Nodup:=λ{n kl} hn hp=>by
  have h1:=(hp.map (·.1)).nodup_iff.mpr (Ac kv n)
  rw[show(kl.map λp=>un p.1)=(kl.map (·.1)).map un by rw[map_map];rfl]
  refine Pairwise.map _ (λa b h=>h) (Pairwise.imp_of_mem (λ{a b} ha hb b8 e=>?_) h1)
  obtain⟨p,d8,rfl⟩:=mem_map.mp ha
  obtain⟨p2,my,rfl⟩:=mem_map.mp hb
  obtain⟨i,hi,e1,_⟩:=kR hn (hp.mem_iff.mp d8)
  obtain⟨j,hj,e2,_⟩:=kR hn (hp.mem_iff.mp my)
  rw[e1,e2,ekv,ekv] at e b8
  simp only[Ad] at e
  exact b8 (by show pK _=pK _;rw[e])
 have du:∀i,i<=xs.toArray.size->(met kv i).length<=60:=λi hi=>by
  have:=rW ((met kv i).map λp=>un p.1) (ul (cI▸hi) (.refl _)) λq hq=>by
   obtain⟨p,hp,rfl⟩:=mem_map.mp hq
   obtain⟨j,_,_,e⟩:=kR (cI▸hi) hp
   exact mem_of_getElem? e
  rw[length_map] at this
  exact this
 refine N6 (kv:=kv) hh nw hl (λi v e=>?_) (λi hi=>?_) du λh' tk jc sp keep=>?_
 ·have hi:i<qs.length:=by rw[<-cI];exact(Array.getElem?_eq_some_iff.mp e).1
  rw[getElem?_toArray,(j8 i hi).1] at e
  rw[ekv]
  exact(Option.some.inj e).symm
 ·rw[ekv];exact(j8 i (cI▸hi)).2.1
 ·rw[cI] at sp
  have k0:∀b o,s.heap.get? b=some o->h'.get? b=some o:=λb o e=>keep b o (lt_size e) e
  refine NZ hh sp (λp hp=>?_) (lt_of_le_of_lt (cI▸du _ (le_refl _)) (by decide)) λh2 gp L out n Fu k2 mx hL hg=>?_
  ·obtain⟨i,hi,rfl,_⟩:=kR (le_refl _) hp
   rw[ekv]
   exact(j8 i hi).2.2.keep λb o e ζ=>k0 b o e
  ·obtain⟨kl,hp,rfl⟩:=Ft mx rfl
   have hk:∀p∈kl,∃i:Nat,i<qs.length/\p=kv i/\qs[i]?=some (un p.1):=λp d8=>kR (le_refl _) (hp.mem_iff.mp d8)
   refine q h2 gp L (kl.map λp=>un p.1) _ n (le_trans jc Fu) (λb o e=>k2 b o (k0 b o e)) (ul (le_refl _) hp) (λq=>⟨λhq=>?_,λhq=>?_⟩) (by rw[length_map,length_map]) (λi q e=>?_) ?_ hg
   ·obtain⟨p,d8,rfl⟩:=mem_map.mp hq
    obtain⟨i,_,_,e⟩:=hk p d8
    exact mem_of_getElem? e
   ·obtain⟨i,hi,e⟩:=List.getElem_of_mem hq
    have h1:=Ab kv hi
    rw[ekv] at h1
    obtain⟨p,d8,e'⟩:=mem_map.mp h1
    refine mem_map.mpr ⟨p,hp.mem_iff.mpr d8,?_⟩
    show un p.1=q
    rw[e',Ad,getD_eq_getElem?_getD,getElem?_eq_getElem hi]
    exact e
   ·rw[getElem?_map] at e
    obtain⟨p,ep,rfl⟩:=Option.map_eq_some_iff.mp e
    obtain⟨j,hj,ej,eq⟩:=hk p (mem_of_getElem? ep)
    refine⟨j,eq,?_⟩
    rw[getElem?_map,ep,(j8 j hj).1,ej,ekv];rfl
   ·cases e:s.heap.get? L with
    |none=>rfl
    |some o=>rw[show h'.get? L=some o from k0 L o e] at hL;cases hL
end
end Mine.T
namespace Mine.T
open PySem PySem.SetTable PySem.Spec PyProof.Rows
noncomputable def qc(l:List Int):List Int:=l.foldl (λacc i=>if i∈acc then acc else acc++[i]) []
theorem Ae:∀(l acc:List Int),acc.Nodup->(l.foldl (λacc i=>if i∈acc then acc else acc++[i]) acc).Nodup/\∀i,i∈l.foldl (λacc i=>if i∈acc then acc else acc++[i]) acc↔i∈acc\/i∈l
 |[],acc,h=>⟨h,λi=>⟨.inl,λh=>h.elim id λh=>nomatch h⟩⟩
 |a::l,acc,h=>by
  rw[foldl_cons]
  by_cases ha:a∈acc
  ·rw[if_pos ha]
   have z:=Ae l acc h
   exact⟨z.1,λi=>(z.2 i).trans ⟨λh=>h.imp id (.tail _),λh=>h.elim .inl λh=>(mem_cons.mp h).elim (λe=>.inl (e▸ha)) .inr⟩⟩
  ·rw[if_neg ha]
   have z:=Ae l (acc++[a]) (nodup_append.mpr ⟨h,nodup_cons.mpr ⟨not_mem_nil,nodup_nil⟩,λx hx y hy e=>ha (mem_singleton.mp hy▸e▸hx)⟩)
   exact⟨z.1,λi=>(z.2 i).trans ⟨λh=>h.elim (λh=>(mem_append.mp h).imp id λh=>mem_cons.mpr (.inl (mem_singleton.mp h))) λh=>.inr (.tail _ h),λh=>h.elim (λh=>.inl (mem_append.mpr (.inl h))) λh=>(mem_cons.mp h).elim (λe=>.inl (mem_append.mpr (.inr (mem_singleton.mpr e)))) .inr⟩⟩
theorem Fv(l:List Int):(qc l).Nodup/\∀i,i∈qc l↔i∈l:=have z:=Ae l [] nodup_nil;⟨z.1,λi=>(z.2 i).trans ⟨λh=>h.elim (λh=>nomatch h) id,.inr⟩⟩
theorem ints_get{xs:List Value}{is:List Int}(h:IntsAre xs is):∀{i:Nat} {v:Value},xs[i]?=some v->∃k t,is[i]?=some k/\v=.int k t:=by
 induction h with
 |nil=>intro i v e;rw[getElem?_nil] at e;cases e
 |cons n t _ ih=>
  intro i v e
  cases i with
  |zero=>exact⟨n,t,rfl,(Option.some.inj e).symm⟩
  |succ i=>exact ih (i:=i) e
theorem Fw:∀us:List (Int×Tok),IntsAre (us.map λu=>Value.int u.1 u.2) (us.map (·.1))
 |[]=>.nil
 |u::us=>.cons _ _ (Fw us)
section
variable{A:Around}{E:Value->Shared->Prop}{s:Shared}
theorem N9{l:Addr}{xs:List Value}{is:List Int}{Q:Value->Shared->Prop}(hh:A.handled=none)(hl:s.heap.IsList l xs.toArray)(hI:IntsAre xs is)(rW:∀js:List Int,js.Nodup->(∀i∈js,i∈is)->js.length<=60)
  (q:∀(h':Heap) (tk:Nat) (L:Addr) (js:List Int) (out:List Value) (n:Nat),(∀b o,s.heap.get? b=some o->h'.get? b=some o)->js.Pairwise (·<·)->(∀i,i∈js↔i∈is)->IntsAre out js->s.heap.get? L=none->h'.get? L=some (seqObj "list" out.toArray n)->Q (.ref L) {s with heap:=h',toks:=tk}) :
  wpAny X.M A (call (.type "set") [.ref l]) (λv bF=>wpAny X.M A (call (.builtin "sorted") [v]) Q E bF) E s:=by
 have len:∀i,(qc (is.take i)).length<=60:=λi=>have z:=Fv (is.take i);rW _ z.1 λk hk=>List.mem_of_mem_take ((z.2 k).mp hk)
 refine Fj (B:=λi h=>SI h s.heap.objs.size (qc (is.take i))) hh hl (λh' led e1 e2 k=>⟨_,#[],0,.fresh 0 0 led,e2,⟨rfl,rfl,rfl⟩,rfl,⟨.inl rfl,rfl,λi k u v ζ h=>by simp[SetTable.fresh] at h,rfl,zero_le _,λi j h x hp=>by simp[SetTable.fresh] at hp⟩,rfl,e1,by refine(?_:0*5<7*3);decide,(λe he=>nomatch he),[],rfl,Perm.refl _⟩) (λA' hu i v s' Q E hi hv hB q=>?_) (λi h h' k hB=>?_) λh' tk jc hB keep=>?_
 ·have hv:xs.toArray[i]?=some v:=hv
  rw[getElem?_toArray] at hv
  obtain⟨k,t,ek,rfl⟩:=ints_get hI hv
  refine add_int hB (len i) λb h' tk jc sb si=>q b h' tk jc sb ?_
  refine(?_:SI h' _ (qc (is.take (i+1))))
  rw[show is.take (i+1)=is.take i++[k] by rw[List.take_succ,ek];rfl]
  unfold qc
  rw[List.foldl_append]
  exact si
 ·obtain⟨o,es,ep,t,ho,r⟩:=hB
  exact⟨o,es,ep,t,k _ _ (le_refl _) ho,r⟩
 ·obtain⟨o,es,ep,t,ho,hx,hd,Z⟩:=hB
  have k0:∀b o,s.heap.get? b=some o->h'.get? b=some o:=λb o e=>keep b o (lt_size e) e
  have hz:=Z.len
  have hn:=Fv is
  rw[show is.take xs.toArray.size=is by rw[size_toArray,hI.length];exact take_length] at Z hz
  obtain⟨us,e1,e2⟩:=Z.z7
  have dN:es.size<64:=by rw[hz];exact lt_of_le_of_lt (rW _ hn.1 λi hi=>(hn.2 i).mp hi) (by decide)
  refine Fq (Pr:=λout=>∃js:List Int,IntsAre out js/\js.Perm (qc is)/\js.Pairwise (·<=·)) hh ho hx hd Z.ok Z.plain Z.led dN (λA s' a vs P E ζ hv ha hq=>?_) λh2 gp L out n Fu k2 hP hL hg=>?_
  ·obtain⟨Dz,hp,rfl⟩:=Ft (hv.trans e2) rfl
   exact list_sort_tree ha (Fw Dz) (by rw[(hv.trans e2).length_eq,<-e2.length_eq,length_map,length_toList];exact dN) λout ns a1 a2 a3=>hq out ⟨ns,a1,a2.trans (by rw[<-e1];exact hp.map _),a3⟩
  ·obtain⟨js,a1,a2,a3⟩:=hP
   refine q h2 gp L js out n (λb o e=>k2 b o (k0 b o e)) ?_ (λi=>a2.mem_iff.trans (hn.2 i)) a1 ?_ hg
   ·exact(a3.and (a2.nodup_iff.mpr hn.1)).imp λh=>Int.lt_iff_le_and_ne.mpr h
   ·cases e:s.heap.get? L with
    |none=>rfl
    |some o=>rw[show h'.get? L=some o from k0 L o e] at hL;cases hL
end
end Mine.T
namespace Mine
open PySem PySem.Calls PyProof.Rows
theorem Fx:∀{vs:List V} {qs:List (Int×Bool)},qW vs=some qs->vs=qs.map fN
 |[],qs,h=>Option.some.inj h▸rfl
 |v::r,qs,h=>eV h λi h1 h=>pairOf.k h1 (λv=>v::r=qs.map fN) (fj (λqs=>fN i::r=qs.map fN) h λjs e=>by rw[map_cons,<-Fx e])
section
variable{σ:Lv}{Q:Value->Shared->Prop}{P:Pt}{post:PQ}{v:V}{x:Value}
theorem Oa{p:Ws}{q:Int×Bool}{x:Value}(r:bf p (fN q) x):∃a,x=.ref a/\bf p (fN q) (.ref a)/\T.PP p.h (.ref a):=
 r.inv (λx=>bf p (fN q) x->∃a,x=.ref a/\bf p (fN q) (.ref a)/\T.PP p.h (.ref a)) (λa n xs h1 rl ζ ζ r=>⟨a,rfl,r,
  rl.inv (λxs=>p.h.get? a=some (gO xs n)->T.PP p.h (.ref a)) (λy ys r1 rl=>r1.inv (λy=>p.h.get? a=some (gO (y::ys) n)->T.PP p.h (.ref a)) λt=>rl.inv (λys=>p.h.get? a=some (gO (_::ys) n)->T.PP p.h (.ref a)) λz zs r2 rl=>r2.inv (λz=>p.h.get? a=some (gO (_::z::zs) n)->T.PP p.h (.ref a)) (rl.inv (λzs=>p.h.get? a=some (gO (_::_::zs) n)->T.PP p.h (.ref a)) λh=>⟨a,_,t,_,n,rfl,h⟩)) h1⟩) r
theorem Ob(r:bf P.w v x)(p:vu v P.H post)(k:Kn P post Q):wpAny X.M P.A (call (.type "set") [x]) (λy bF=>wpAny X.M P.A (call (.builtin "sorted") [y]) Q NE bF) NE P.s:=
 be.k p λqs e p=>eV e λvs e1 e2=>bE r e1 (λx=>wpAny X.M P.A (call (.type "set") [x]) (λy bF=>wpAny X.M P.A (call (.builtin "sorted") [y]) Q NE bF) NE P.s) λl a xs m ζ ζ ζ h1 h2 ζ=>by
  rw[Fx e2] at h2
  have at_:∀{i:Nat} {q:Int×Bool},qs[i]?=some q->∃b,xs[i]?=some (.ref b)/\bf P.w (fN q) (.ref b)/\T.PP P.s.heap (.ref b):=λ{i q} e=>h2.get (i:=i) (v:=fN q) (by rw[getElem?_map,e];rfl) λy hy ry=>by
   obtain⟨b,rfl,r1,r2⟩:=Oa ry
   exact⟨b,hy,r1,r2⟩
  refine T.N7 P.rm.handled (λB hB=>?_) (iz h1) (by rw[<-h2.length,length_map]) (λi q e=>(at_ e).imp λb x=>⟨x.1,rj (p:=P.w) x.2.1,x.2.2⟩) p.1 λh' tk L rs out c jc keep nd mem du t9 hL hg=>?_
  ·refine(?_:B.units<cLine)
   have:=P.rm.units
   lia
  ·refine Kn.list k keep L hL hg (vs:=rs.map fN) (wi (by rw[length_map,du]) λj v y e1 e2=>?_) ?_ (p.2 rs nd mem) tk
   ·rw[getElem?_map] at e1
    refine fj (λv=>bf P.w v y) e1 λq eq=>?_
    obtain⟨i,ei,eo⟩:=t9 j q eq
    obtain⟨b,hb,r1,_⟩:=at_ ei
    rw[e2,hb] at eo
    exact Option.some.inj eo▸r1
   ·rw[length_map]
    exact le_trans (p.1 rs nd λq hq=>(mem q).mp hq) (by decide)
theorem Oc(r:bf P.w v x)(p:vw v P.H post)(k:Kn P post Q):wpAny X.M P.A (call (.type "set") [x]) (λy bF=>wpAny X.M P.A (call (.builtin "sorted") [y]) Q NE bF) NE P.s:=
 be.k p λis e p=>tV r e (λx=>wpAny X.M P.A (call (.type "set") [x]) (λy bF=>wpAny X.M P.A (call (.builtin "sorted") [y]) Q NE bF) NE P.s) λa xs h1 hI=>T.N9 P.rm.handled h1 hI p.1 λh' tk L js out c keep hp mem ho hL hg=>
  Kn.list k keep L hL hg (vF ho) (by rw[length_map];exact le_trans (p.1 js (hp.imp λh=>Int.ne_of_lt h) λi hi=>(mem i).mp hi) (by decide)) (p.2 js hp mem) tk
theorem Od{t:Bool}(r:bf P.w v x)(p:yO t v P.H post)(k:Kn P post Q):wpAny X.M P.A (call (.type "set") [x]) (λy bF=>wpAny X.M P.A (call (.builtin "sorted") [y]) Q NE bF) NE P.s:=by
 cases t
 ·exact Ob r p k
 ·exact Oc r p k
theorem Oe{t:Bool}{a:E}{g g' e:Expr}{rpos pos:Pos}(G:Good X)(hg:dU σ.f "sorted" g=true)(pU:dU σ.f "set" g'=true)(h:eX σ [a] [e]):b0 σ (.l3 t a) (.Call g [.Call g' [e] [] rpos] [] pos):=λP post Q p k=>
 ft.k (G:=λg=>wpAny X.M P.A (eval (.Call g [.Call g' [e] [] rpos] [] pos) P.env) Q NE P.s) hg λx np hg=>bg hg λe1 ho=>by
  obtain rfl:=eq_of_beq e1
  refine wpAny_Call_NameR (oj G P (y:=.builtin "sorted") (fV 9 (by decide)) ho (Calls.callWith_builtin rfl (pI rfl (wpAny_items_cons ?_ rfl))))
  exact pL (post:=λvs H=>w1 vs λy=>yO t y H post) G pU (fV 15 (by decide)) ⟨_,rfl⟩ h p (λvs H1 p1 ζ N xs r=>w1.k p1 (λvs=>bu N.w vs xs->_) (λv p1 r=>r.k1 (λxs=>wpAny X.M P.A (call (.type "set") xs) _ NE N.s) λx r=>wpAny_mono (Od (P:=N.pt) r p1 (k.nx N)) (λζ ζ h=>wpAny_items_nil h) λζ ζ h=>h) r)
end
noncomputable def Ok(σ:Lv):Prop:=Good X/\vE σ.m/\2*σ.m+1<=σ.n
noncomputable def RE(c:E):Prop:=∀(σ:Lv) (e:Expr),Ok σ->cm σ.f c e=true->bQ σ c e
noncomputable def oA(c:It):Prop:=∀(σ:Lv) (e:Expr),Ok σ->vq σ.f c e=true->jr σ c e
noncomputable def jL(c:List E):Prop:=∀(σ:Lv) (e:List Expr),Ok σ->gN σ.f c e=true->eX σ c e
noncomputable def RO(c:Option E):Prop:=∀(σ:Lv) (e:Option Expr),Ok σ->yK σ.f c e=true->pQ σ c e
section
variable{a b c:E}{es:List E}
theorem Of{v:V}:RE (.k v):=λσ e og h=>m3.k (G:=λe=>bQ σ _ e) h λc k p h=>(C9 (of_decide_eq_true h)).t λζ=>rfl
theorem Og{i:Nat}:RE (.U i):=λσ e og h=>ft.k (G:=λe=>bQ σ _ e) h λx p h=>(y3 h).t λζ=>rfl
theorem Oh{j:Nat}:RE (.gk j):=λσ e og h=>ft.k (G:=λe=>bQ σ _ e) h λx p h=>bg h λh1 h2=>(J1 og.1 (of_decide_eq_true h1) h2).t λζ=>rfl
theorem Oi{op:kI}(ra:RE a)(rb:RE b):RE (.bin op a b):=λσ e og h=>s9.k (G:=λe=>bQ σ _ e) h λl o r p h=>bg h λh1 h=>bg h λh2 h3=>of_decide_eq_true h1▸(J7 og.1 (ra σ l og h2).1 (rb σ r og h3).1).t λζ=>rfl
theorem Oj(ra:RE a):RE (.neg a):=λσ e og h=>pk.k (G:=λe=>bQ σ _ e) h λo y p h=>bg h λh1 h=>of_decide_eq_true h1▸(J8 (ra σ y og h).1).t λζ=>rfl
theorem Ol(ra:RE a):RE (.not a):=λσ e og h=>pk.k (G:=λe=>bQ σ _ e) h λo y p h=>bg h λh1 h=>of_decide_eq_true h1▸J9 (ra σ y og h)
theorem Om(r:jL es):RE (.and es):=λσ e og h=>pl.k (G:=λe=>bQ σ _ e) h λo xs p h=>bg h λh1 h=>of_decide_eq_true h1▸Dc (w:=true) (r σ xs og h) λζ ζ ζ p=>p
theorem Oo(r:jL es):RE (.or es):=λσ e og h=>pl.k (G:=λe=>bQ σ _ e) h λo xs p h=>bg h λh1 h=>of_decide_eq_true h1▸Dc (w:=false) (r σ xs og h) λζ ζ ζ p=>p
theorem Oq{op:kJ}(ra:RE a)(rb:RE b):RE (.cmp op a b):=λσ e og h=>m4.k (G:=λe=>bQ σ _ e) h λl os rs p h=>if1.k (G:=λos=>bQ σ _ (.Compare l os rs p)) h λo h=>if1.k (G:=λrs=>bQ σ _ (.Compare l [o] rs p)) h λr h=>bg h λh1 h=>bg h λh2 h3=>of_decide_eq_true h1▸Ka og.1 h3 (ra σ l og h2).1 (rb σ r og h3).1
theorem Ot{op mW:kJ}(ra:RE a)(rb:RE b)(rc:RE c):RE (.sW op mW a b c):=λσ e og h=>m4.k (G:=λe=>bQ σ _ e) h λl os rs p h=>if2.k (G:=λos=>bQ σ _ (.Compare l os rs p)) h λo o' h=>if2.k (G:=λrs=>bQ σ _ (.Compare l [o,o'] rs p)) h λr r' h=>bg h λh1 h=>bg h λtK h=>bg h λh2 h=>bg h λh3 h4=>of_decide_eq_true h1▸of_decide_eq_true tK▸Kb og.1 h4 (ra σ l og h2).1 (rb σ r og h3).1 (rc σ r' og h4).1
theorem Ou{w:Bool}(ra:RE a):RE (.isNone w a):=λσ e og h=>m4.k (G:=λe=>bQ σ _ e) h λl os rs p h=>if1.k (G:=λos=>bQ σ _ (.Compare l os rs p)) h λo h=>bg h λh1 h=>if1.k (G:=λrs=>bQ σ _ (.Compare l [o] rs p)) h λr h=>m3.k (G:=λr=>bQ σ _ (.Compare l [o] [r] p)) h λc k kp h=>bg h λh2 h=>of_decide_eq_true h1▸of_decide_eq_true h2▸Kc (ra σ l og h).1
theorem Ov(r:jL es):RE (.aP es):=λσ e og h=>l7.k (G:=λe=>bQ σ _ e) h λxs k p h=>bg h λh1 h=>(Kd (of_decide_eq_true h1) (r σ xs og h)).t λζ=>rfl
theorem Ow(r:jL es):RE (.bE es):=λσ e og h=>td.k (G:=λe=>bQ σ _ e) h λxs p h=>bg h λh1 h=>(Ke (of_decide_eq_true h1) (r σ xs og h)).t λζ=>rfl
theorem Ox(ra:RE a)(rb:RE b):RE (.aU a b):=λσ e og h=>j1.k (G:=λe=>bQ σ _ e) h λv s p h=>bg h λh1 h2=>(y7 og.1 h2 (ra σ v og h1).1 (rb σ s og h2).1).t λζ=>rfl
theorem Oy{lo hi:Option E}(ra:RE a)(rl:RO lo)(rh:RO hi):RE (.dT a lo hi):=λσ e og h=>j1.k (G:=λe=>bQ σ _ e) h λv s p h=>te.k (G:=λs=>bQ σ _ (.Subscript v s p)) h λl u t sp h=>bg h λh0 h=>bg h λh1 h=>bg h λh2 h3=>vo (G:=λt=>bQ σ _ (.Subscript v (.Slice l u t sp) p)) h0 ((Ln og.1 (ra σ v og h1).1 (rl σ l og h2) (rh σ u og h3)).t λζ=>rfl)
theorem Oz{f:Nat}(r:jL es):RE (.call f es):=λσ e og h=>fu.k (G:=λe=>bQ σ _ e) h λg xs kws p h=>bg h λh0 h=>fE (G:=λkws=>bQ σ _ (.Call g xs kws p)) h0 (ft.k (G:=λg=>bQ σ _ (.Call g xs [] p)) h λx np h=>bg h λh1 h=>bg h λh2 h3=>(Kg og.1 og.2.1 og.2.2 (of_decide_eq_true h1) h2 (r σ xs og h3)).t λζ=>rfl)
theorem OA:RE .mX:=λσ e og h=>ly.k (G:=λe=>bQ σ _ e) h λks vs p h=>bg h λh1 h2=>fE (G:=λks=>bQ σ _ (.Dict ks vs p)) h1 (fE (G:=λvs=>bQ σ _ (.Dict [] vs p)) h2 ((Ma og.1).t λζ=>rfl))
theorem OB:RE .lx:=λσ e og h=>ly.k (G:=λe=>bQ σ _ e) h λks vs p h=>bg h λh1 h2=>fE (G:=λks=>bQ σ _ (.Dict ks vs p)) h1 (fE (G:=λvs=>bQ σ _ (.Dict [] vs p)) h2 ((Mb og.1).t λζ=>rfl))
theorem OC(ra:RE a)(rb:RE b):RE (.sY a b):=λσ e og h=>ly.k (G:=λe=>bQ σ _ e) h λks vs p h=>if1.k (G:=λks=>bQ σ _ (.Dict ks vs p)) h λk h=>iw.k (G:=λk=>bQ σ _ (.Dict [k] vs p)) h λk h=>if1.k (G:=λvs=>bQ σ _ (.Dict [some k] vs p)) h λv h=>bg h λh1 h2=>(Mc og.1 (ra σ k og h1).1 (rb σ v og h2).1).t λζ=>rfl
theorem OD(ra:RE a)(rb:RE b):RE (.sZ a b):=λσ e og h=>ly.k (G:=λe=>bQ σ _ e) h λks vs p h=>if1.k (G:=λks=>bQ σ _ (.Dict ks vs p)) h λk h=>iw.k (G:=λk=>bQ σ _ (.Dict [k] vs p)) h λk h=>if1.k (G:=λvs=>bQ σ _ (.Dict [some k] vs p)) h λv h=>bg h λh1 h2=>(Md og.1 (ra σ k og h1).1 (rb σ v og h2).1).t λζ=>rfl
theorem rZ{σ:Lv}{e:Expr}(ra:RE a)(og:Ok σ)(h:cm σ.f a e=true):eX σ [a] [e]:=.cons h (ra σ e og h) .nil
theorem OE(ra:RE a):RE (.listOf a):=λσ e og h=>fu.k (G:=λe=>bQ σ _ e) h λg xs kws p h=>bg h λh0 h=>fE (G:=λkws=>bQ σ _ (.Call g xs kws p)) h0 (bg h λh1 h=>if1.k (G:=λxs=>bQ σ _ (.Call g xs [] p)) h λe h=>(Mh og.1 h1 (rZ ra og h)).t λζ=>rfl)
theorem OF(ra:RE a):RE (.sX a):=λσ e og h=>fu.k (G:=λe=>bQ σ _ e) h λg xs kws p h=>bg h λh0 h=>fE (G:=λkws=>bQ σ _ (.Call g xs kws p)) h0 (bg h λh1 h=>if1.k (G:=λxs=>bQ σ _ (.Call g xs [] p)) h λe h=>fu.k (G:=λe=>bQ σ _ (.Call g [e] [] p)) h λg' iR kws' p' h=>bg h λh2 h=>fE (G:=λkws=>bQ σ _ (.Call g [.Call g' iR kws p'] [] p)) h2 (bg h λh3 h=>if1.k (G:=λxs=>bQ σ _ (.Call g [.Call g' xs [] p'] [] p)) h λe h=>(Mj og.1 h1 h3 (rZ ra og h)).t λζ=>rfl))
theorem OG{t:Bool}(ra:RE a):RE (.l3 t a):=λσ e og h=>fu.k (G:=λe=>bQ σ _ e) h λg xs kws p h=>bg h λh0 h=>fE (G:=λkws=>bQ σ _ (.Call g xs kws p)) h0 (bg h λh1 h=>if1.k (G:=λxs=>bQ σ _ (.Call g xs [] p)) h λe h=>fu.k (G:=λe=>bQ σ _ (.Call g [e] [] p)) h λg' iR kws' p' h=>bg h λh2 h=>fE (G:=λkws=>bQ σ _ (.Call g [.Call g' iR kws p'] [] p)) h2 (bg h λh3 h=>if1.k (G:=λxs=>bQ σ _ (.Call g [.Call g' xs [] p'] [] p)) h λe h=>(Oe og.1 h1 h3 (rZ ra og h)).t λζ=>rfl))
theorem OH{m:Me}(ra:RE a)(r:jL es):RE (.dP m a es):=λσ e og h=>fu.k (G:=λe=>bQ σ _ e) h λg xs kws p h=>bg h λh0 h=>fE (G:=λkws=>bQ σ _ (.Call g xs kws p)) h0 (th.k (G:=λg=>bQ σ _ (.Call g xs [] p)) h λo y ap h=>bg h λh1 h=>bg h λh2 h=>bg h λh3 h=>bg h λh4 h=>bg h λh5 h6=>by
 obtain rfl:=eq_of_beq h1
 have key:∀{T id:String},tU m T id->bQ σ (.dP m a es) (.Call (.Attribute o (ph m).1 ap) xs [] p):=λM=>(Lq M h2 h3 (of_decide_eq_true h4) (ra σ o og h5).1 (r σ xs og h6)).t λζ=>rfl
 cases m with
 |append=>exact key Ls
 |lu=>exact key (Lw og.1)
 |clear=>exact key Lu)
end
section
variable{a b c:E}{es:List E}
theorem OI{σ:Lv}:∀{es:List E} {xs:List Expr},gN σ.f es xs=true->es.length=xs.length
 |[],xs,h=>fE (G:=λxs=>0=xs.length) h rfl
 |_::es,xs,h=>lz.k (G:=λxs=>es.length+1=xs.length) h λx xs h=>bg h λζ h=>congrArg (·+1) (OI h)
theorem Fy{σ:Lv}{x:Expr}(h:gN σ.f es [x]=true)(G:List E->Prop)(k:∀a,cm σ.f a x=true->G [a]):G es:=by
 cases es with
 |nil=>cases h
 |cons a r=>
  refine bg (show(cm σ.f a x&&gN σ.f r [])=true from h) λh1 h2=>?_
  cases r with
  |nil=>exact k a h1
  |cons _ _=>cases h2
theorem OJ{bi:Bi}(r:jL es):RE (.bi bi es):=λσ e og h=>fu.k (G:=λe=>bQ σ (.bi bi es) e) h λg xs kws p h=>by
 have plain:(kws.isEmpty&&iw (s7 bi) λq=>dU σ.f q.1 g&&(decide (xs.length=q.2)&&gN σ.f es xs))=true->bQ σ (.bi bi es) (.Call g xs kws p):=λh=>bg h λh0 h=>fE (G:=λkws=>bQ σ (.bi bi es) (.Call g xs kws p)) h0 (by
  cases hb:s7 bi with
  |none=>rw[hb] at h;cases h
  |some q=>
   rw[hb] at h
   exact bg (show(dU σ.f q.1 g&&(decide (xs.length=q.2)&&gN σ.f es xs))=true from h) λh1 h=>bg h λh2 h3=>(L0 og.1 hb h1 (r σ xs og h3)).t λζ=>rfl)
 cases bi with
 |iv t=>
  refine bg (show(kws.isEmpty&&(dU σ.f "isinstance" g&&if2 xs λe nm=>dU σ.f (Str.ofString (l6 t)) nm&&gN σ.f es [e]))=true from h) λh0 h=>fE (G:=λkws=>bQ σ (.bi (.iv t) es) (.Call g xs kws p)) h0 (bg h λh1 h=>if2.k (G:=λxs=>bQ σ (.bi (.iv t) es) (.Call g xs [] p)) h λe nm h=>bg h λh2 h3=>?_)
  have rs:=r σ [e] og h3
  exact Fy h3 (λes=>eX σ es [e]->bQ σ (.bi (.iv t) es) (.Call g [e,nm] [] p)) (λa h4 rs=>(L3 og.1 h1 h2 h4 (rs.get 0 a e rfl rfl).1).t λζ=>rfl) rs
 |mV=>
  refine bg (show(dU σ.f "min" g&&if1 kws λkw=>pu kw λy v=>(y==("default":Str))&&if1 xs λe=>gN σ.f es [e,v])=true from h) λh1 h=>if1.k (G:=λkws=>bQ σ (.bi .mV es) (.Call g xs kws p)) h λkw h=>pu.k (G:=λkw=>bQ σ (.bi .mV es) (.Call g xs [kw] p)) h λy v kp h=>bg h λh2 h=>if1.k (G:=λxs=>bQ σ (.bi .mV es) (.Call g xs [⟨some y,v,kp⟩] p)) h λe h9=>?_
  obtain rfl:=eq_of_beq h2
  have rs:=r σ [e,v] og h9
  cases es with
  |nil=>cases h9
  |cons a fv=>
   exact bg (show(cm σ.f a e&&gN σ.f fv [v])=true from h9) λh3 h4=>Fy h4 (λfv=>eX σ (a::fv) [e,v]->bQ σ (.bi .mV (a::fv)) (.Call g [e] [⟨some "default",v,kp⟩] p)) (λd h5 rs=>(L4 og.1 h1 h3 (rs.get 0 a e rfl rfl).1 (rs.get 1 d v rfl rfl).1).t λζ=>rfl) rs
 |_=>exact plain h
theorem Fz{σ:Lv}{elt:E}{t:cV}{it:It}{cZ:Scope}{e tg iter:Expr}{ifs:List Expr}(re:RE elt)(ri:oA it)(r:jL es)(og:Ok σ)
  (h:(pw σ.f (gM t tg) cZ&&(vq σ.f it iter&&(qU it tg&&(i5 ⟨cZ,gM t tg++σ.f.ns⟩ t tg&&(cm ⟨cZ,gM t tg++σ.f.ns⟩ elt e&&gN ⟨cZ,gM t tg++σ.f.ns⟩ es ifs)))))=true):tS σ cZ (gM t tg) elt t it es e tg iter ifs:=
 bg h λh1 h=>bg h λh2 h=>bg h λh3 h=>bg h λh4 h=>bg h λh5 h6=>⟨pw.sc h1,rfl,h4,h3,ri σ iter og h2,(re ⟨σ.n,σ.m,⟨cZ,gM t tg++σ.f.ns⟩⟩ e og h5).1,r ⟨σ.n,σ.m,⟨cZ,gM t tg++σ.f.ns⟩⟩ ifs og h6⟩
theorem OK{nl:Nat}{elt:E}{t:cV}{it:It}(re:RE elt)(ri:oA it)(r:jL es):RE (.comp nl elt t it es):=λσ e og h=>qS.k (G:=λe=>bQ σ (.comp nl elt t it es) e) h λe gs cZ p h=>if1.k (G:=λgs=>bQ σ (.comp nl elt t it es) (.ListComp e gs cZ p)) h λg h=>tr.k (G:=λg=>bQ σ (.comp nl elt t it es) (.ListComp e [g] cZ p)) h λtg iter ifs h=>bg h λh1 h=>of_decide_eq_true h1▸(DP (Fz re ri r og h)).t λζ=>rfl
theorem OL{i:Nat}(ra:RE a):RE (.mY a i):=λσ e og h=>fu.k (G:=λe=>bQ σ (.mY a i) e) h λg xs kws p h=>bg h λh1 h=>bg h λh2 h=>if1.k (G:=λxs=>bQ σ (.mY a i) (.Call g xs kws p)) h λe h=>if1.k (G:=λkws=>bQ σ (.mY a i) (.Call g [e] kws p)) h λkw h=>pu.k (G:=λkw=>bQ σ (.mY a i) (.Call g [e] [kw] p)) h λy v kp h=>bg h λh3 h=>bg h λh4 h5=>by
 obtain rfl:=eq_of_beq h3
 exact(MJ og.1 h1 (lt_of_lt_of_le (succ_pos _) og.2.2) h2 h4 (ra σ e og h4).1 h5).t λζ=>rfl
theorem FA(ra:RE a):oA (.of a):=λσ e og h=>KJ og.1 h (ra σ e og h).1
theorem OM{σ:Lv}{e f:Expr}(ra:RE a)(rb:RE b)(og:Ok σ)(h:cm σ.f a e=true)(h':cm σ.f b f=true):eX σ [a,b] [e,f]:=.cons h (ra σ e og h) (rZ rb og h')
theorem FC(ra:RE a)(rb:RE b):oA (.range a b):=λσ e og h=>fu.k (G:=λe=>jr σ (.range a b) e) h λg xs kws p h=>bg h λh0 h=>fE (G:=λkws=>jr σ (.range a b) (.Call g xs kws p)) h0 (bg h λh1 h=>(or_eq_true_iff.mp h).elim
 (λh=>if1.k (G:=λxs=>jr σ (.range a b) (.Call g xs [] p)) h λe h=>bg h λh2 h3=>tq.k (G:=λa=>jr σ (.range a b) (.Call g [e] [] p)) h2 (KL og.1 h1 (rZ rb og h3)))
 λh=>if2.k (G:=λxs=>jr σ (.range a b) (.Call g xs [] p)) h λe f h=>bg h λh2 h3=>KM og.1 h1 (OM ra rb og h2 h3))
theorem FD(ra:RE a):oA (.i4 a):=λσ e og h=>fu.k (G:=λe=>jr σ (.i4 a) e) h λg xs kws p h=>bg h λh0 h=>fE (G:=λkws=>jr σ (.i4 a) (.Call g xs kws p)) h0 (bg h λh1 h=>if1.k (G:=λxs=>jr σ (.i4 a) (.Call g xs [] p)) h λe h=>KP og.1 h1 (rZ ra og h))
theorem FE:jL []:=λσ e og h=>fE (G:=λe=>eX σ [] e) h .nil
theorem FF(ra:RE a)(r:jL es):jL (a::es):=λσ e og h=>lz.k (G:=λe=>eX σ (a::es) e) h λx xs h=>bg h λh1 h2=>.cons h1 (ra σ x og h1) (r σ xs og h2)
theorem ON:RO none:=λσ e og h=>vo (G:=λe=>pQ σ none e) h Lg
theorem OO(ra:RE a):RO (some a):=λσ e og h=>iw.k (G:=λe=>pQ σ (some a) e) h λx h=>Lh (ra σ x og h).1
theorem jM(c:E):RE c:=
 E.rec (motive_1:=RE) (motive_2:=oA) (motive_3:=jL) (motive_4:=RO) (λζ=>Of) (λζ=>Og) (λζ=>Oh) (λζ ζ ζ ra rb=>Oi ra rb) (λζ ra=>Oj ra) (λζ ra=>Ol ra) (λζ r=>Om r) (λζ r=>Oo r) (λζ ζ ζ ra rb=>Oq ra rb) (λζ ζ ζ ζ ζ ra rb rc=>Ot ra rb rc) (λζ ζ ra=>Ou ra) (λζ r=>Ov r) (λζ r=>Ow r) (λζ ζ ra rb=>Ox ra rb)
  (λζ ζ ζ ra rl rh=>Oy ra rl rh) (λζ ζ r=>Oz r) (λζ ζ r=>OJ r) (λζ ζ ζ ra r=>OH ra r) (λζ ζ ζ ζ ζ re ri r=>OK re ri r) (λζ ra=>OE ra) (λζ ra=>OF ra) OA OB (λζ ζ ra rb=>OC ra rb) (λζ ζ ra rb=>OD ra rb) (λζ ζ ra=>OL ra) (λζ ζ ra=>OG ra) (λζ ra=>FA ra) (λζ ζ ra rb=>FC ra rb) (λζ ra=>FD ra) FE (λζ ζ ra r=>FF ra r) ON (λζ ra=>OO ra) c
end
noncomputable def RS(c:S):Prop:=∀(σ:Lv) (e:Stmt),Ok σ->CQ σ.f c e=true->SS σ c e
noncomputable def nB(c:List S):Prop:=∀(σ:Lv) (e:List Stmt),Ok σ->nX σ.f c e=true->mj σ c e
section
variable{e a i:E}{es:List E}{b b':List S}
theorem FG(c:It):oA c:=
 It.casesOn (motive_2:=oA) c (λa=>FA (jM a)) (λa b=>FC (jM a) (jM b)) (λa=>FD (jM a))
theorem FH:∀es:List E,jL es
 |[]=>FE
 |a::es=>FF (jM a) (FH es)
theorem OP:RS (.expr e):=λσ st og h=>ti.k (G:=λst=>SS σ (.expr e) st) h λx p h=>bg h λh1 h2=>Kj h1 (jM e σ x og h2).1
theorem OQ:RS (.g8 a i e):=λσ st og h=>pn.k (G:=λst=>SS σ (.g8 a i e) st) h λts x p h=>if1.k (G:=λts=>SS σ (.g8 a i e) (.Assign ts x p)) h λtg h=>j1.k (G:=λtg=>SS σ (.g8 a i e) (.Assign [tg] x p)) h λo j sp h=>bg h λh1 h=>bg h λh2 h=>bg h λh3 h4=>Kz og.1 h1 (jM a σ o og h2).1 (jM i σ j og h3).1 (jM e σ x og h4).1
theorem OR:RS (.ret e):=λσ st og h=>tj.k (G:=λst=>SS σ (.ret e) st) h λx p h=>iw.k (G:=λx=>SS σ (.ret e) (.Return x p)) h λx h=>Kl (jM e σ x og h).1
theorem OS(ra:nB b)(rb:nB b'):RS (.bD e b b'):=λσ st og h=>tm.k (G:=λst=>SS σ (.bD e b b') st) h λt x y p h=>bg h λh1 h=>bg h λh2 h3=>Km (jM e σ t og h1).2 (ra σ x og h2) (rb σ y og h3)
theorem OT{t:cV}{it:It}(rb:nB b):RS (.for t it b):=λσ st og h=>tn.k (G:=λst=>SS σ (.for t it b) st) h λtg iter bs o p h=>bg h λh0 h=>fE (G:=λo=>SS σ (.for t it b) (.For tg iter bs o p)) h0 (bg h λh1 h=>bg h λh2 h=>bg h λh3 h4=>KR h1 h2 (FG it σ iter og h3) (rb σ bs og h4))
theorem OU(rb:nB b):RS (.while e b):=λσ st og h=>tp.k (G:=λst=>SS σ (.while e b) st) h λt bs o p h=>bg h λh0 h=>fE (G:=λo=>SS σ (.while e b) (.While t bs o p)) h0 (bg h λh1 h2=>Ko (jM e σ t og h1).2 (rb σ bs og h2))
theorem OV{u:cV}{nl:Nat}{elt:E}{t:cV}{it:It}{σ:Lv}{tg x:Expr}{p:Pos}(og:Ok σ)(h1:i5 σ.f u tg=true)(h2:cm σ.f (.comp nl elt t it es) x=true)(h3:vn tg=true):SS σ (.aX u (.comp nl elt t it es)) (.Assign [tg] x p):=
 Expr.Name.elim (motive_1:=λtg=>i5 σ.f u tg=true->SS σ (.aX u (.comp nl elt t it es)) (.Assign [tg] x p)) tg (of_decide_eq_true h3) (λy py h1=>qS.k (G:=λx=>SS σ (.aX u (.comp nl elt t it es)) (.Assign [.Name y py] x p)) h2 λe gs cZ cp h=>if1.k (G:=λgs=>SS σ (.aX u (.comp nl elt t it es)) (.Assign [.Name y py] (.ListComp e gs cZ cp) p)) h λg h=>tr.k (G:=λg=>SS σ (.aX u (.comp nl elt t it es)) (.Assign [.Name y py] (.ListComp e [g] cZ cp) p)) h λtg iter ifs h=>bg h λh4 h=>of_decide_eq_true h4▸K8 (Fz (jM elt) (FG it) (FH es) og h) h1) h1
theorem OW{t:cV}:RS (.aX t e):=λσ st og h=>pn.k (G:=λst=>SS σ (.aX t e) st) h λts x p h=>if1.k (G:=λts=>SS σ (.aX t e) (.Assign ts x p)) h λtg h=>bg h λh1 h=>bg h λh2 h=>bg h λh3 h4=>(or_eq_true_iff.mp h3).elim (λh3=>bg h3 λh5 h6=>E.comp.elim (motive_1:=λe=>cm σ.f e x=true->SS σ (.aX t e) (.Assign [tg] x p)) e (of_decide_eq_true h6) (λnl elt t' it cs h2=>OV og h1 h2 h5) h2) λh3=>Kk h3 h1 h4 (jM e σ x og h2).1
theorem OX:nB []:=λσ e og h=>fE (G:=λe=>mj σ [] e) h gQ
theorem OY{c:S}(r:RS c)(rs:nB b):nB (c::b):=λσ e og h=>lz.k (G:=λe=>mj σ (c::b) e) h λx xs h=>bg h λh1 h2=>Kq (r σ x og h1) (rs σ xs og h2)
theorem OZ(b:List S):nB b:=
 S.rec_1 (motive_1:=RS) (motive_2:=nB) (λζ=>OP) (λζ ζ=>OW) (λζ ζ ζ=>OQ) (λζ=>OR) (λζ ζ ζ ra rb=>OS ra rb) (λζ ζ ζ rb=>OT rb) (λζ ζ rb=>OU rb) (λσ st og h P own K Q ho p k=>p.elim) OX (λζ ζ r rs=>OY r rs) b
end
theorem wK{x:Str}:∀{names:List (Str×NameKind)} {k:Nat} {acc:List (Str×Addr)},names.lookup x=some .cell\/(∃c,acc.lookup x=some c)->∃c,(cellsFrom k names acc).lookup x=some c
 |[],_,_,h=>h.elim (λe=>nomatch e) id
 |(y,kd)::r,k,acc,h=>by
  rw[lookup_cons] at h
  by_cases hk:(kd==NameKind.cell)=true
  ·rw[show cellsFrom k ((y,kd)::r) acc=cellsFrom (k+1) r ((y,k)::acc) from if_pos hk]
   refine wK ?_
   rw[lookup_cons]
   cases hy:x==y with
   |true=>exact .inr ⟨_,rfl⟩
   |false=>rw[hy] at h;exact h
  ·rw[show cellsFrom k ((y,kd)::r) acc=cellsFrom k r acc from if_neg hk]
   refine wK (h.elim (λh=>?_) .inr)
   cases hy:x==y with
   |true=>rw[hy] at h;exact absurd (by rw[Option.some.inj h];rfl) hk
   |false=>rw[hy] at h;exact .inl h
theorem lookup_none{α:Type}{x:Str}{l:List (Str×α)}(h:x∉l.map (·.1)):l.lookup x=none:=by
 cases e:l.lookup x with
 |none=>rfl
 |some v=>exact absurd (mem_map.mpr ⟨_,mem_lookup e,rfl⟩) h
theorem FI{kf:Str->Option NameKind}{x:Str}(hk:kf x=some .local):∀{bs:List (Str×Value)} {m:Str->Option Value},(bs.map (·.1)).Nodup->PySem.bindL kf bs m x=(bs.lookup x).or (m x)
 |[],m,_=>rfl
 |(y,v)::r,m,hn=>by
  have hn:=nodup_cons.mp hn
  refine(?_:PySem.bindL kf r (if kf y=some .local then λz=>if z=y then some v else m z else m) x=_)
  rw[FI hk hn.2,lookup_cons]
  by_cases e:x=y
  ·rw[e] at hk ⊢
   rw[lookup_none hn.1,if_pos hk,if_pos rfl,beq_self_eq_true];rfl
  ·rw[beq_eq_false_iff_ne.mpr e]
   split
   ·exact congrArg _ (if_neg e)
   ·rfl
theorem FJ{kf:Str->Option NameKind}{x:Str}(hk:kf x=some .cell):∀{bs:List (Str×Value)} {m:Str->Option Value},(bs.map (·.1)).Nodup->PySem.bindC kf bs m x=(bs.lookup x).or (m x)
 |[],m,_=>rfl
 |(y,v)::r,m,hn=>by
  have hn:=nodup_cons.mp hn
  refine(?_:PySem.bindC kf r (if kf y=some .local then m else λz=>if z=y then some v else m z) x=_)
  rw[FJ hk hn.2,lookup_cons]
  by_cases e:x=y
  ·rw[e] at hk ⊢
   rw[lookup_none hn.1,if_neg (by rw[hk];exact λh=>nomatch h),if_pos rfl,beq_self_eq_true];rfl
  ·rw[beq_eq_false_iff_ne.mpr e]
   split
   ·rfl
   ·exact congrArg _ (if_neg e)
theorem FK{p:Ws}{x:Str}:∀{ps:List Str} {vs:List V} {xs:List Value},ps.length=vs.length->bu p vs xs->iy p (lk ps (vs.map some) x) ((ps.zip xs).lookup x)
 |[],vs,xs,hl,r=>by
  cases vs with
  |nil=>exact .none
  |cons _ _=>cases hl
 |q::ps,vs,xs,hl,r=>by
  cases vs with
  |nil=>cases hl
  |cons v vs=>
   refine r.inv (λxs=>iy p (lk (q::ps) ((v::vs).map some) x) (((q::ps).zip xs).lookup x)) λy ys r1 r2=>?_
   refine(?_:iy p (lk (q::ps) ((v::vs).map some) x) (List.lookup x ((q,y)::ps.zip ys)))
   rw[lookup_cons]
   unfold lk
   by_cases e:x=q
   ·rw[e,List.idxOf_cons_self,beq_self_eq_true];exact .some r1
   ·rw[beq_eq_false_iff_ne.mpr e,List.idxOf_cons,beq_eq_false_iff_ne.mpr (Ne.symm e)]
    exact FK (Nat.succ.inj hl) r2
theorem O0{p:Ws}{ns:List Str}{np nl:Nat}{vs:List V}{xs:List Value}(du:ns.length=np+nl)(hv:vs.length=np)(r:bu p vs xs)(x:Str):iy p (lk ns (vs.map some++replicate nl none) x) (((ns.take np).zip xs).lookup x):=by
 have hl:(ns.take np).length=vs.length:=by rw[length_take,hv,du];exact min_eq_left (le_add_right _ _)
 have e:=List.take_append_drop np ns
 have h0:∀y,lk ns (vs.map some++replicate nl none) y=lk (ns.take np++ns.drop np) (vs.map some++replicate nl none) y:=λy=>by rw[e]
 rw[h0]
 by_cases hx:x∈ns.take np
 ·rw[DH (by rw[length_map,hl]) hx];exact FK hl r
 ·rw[DI (by rw[length_map,hl]) hx,show nl=(ns.drop np).length by rw[length_drop,du,add_sub_cancel_left],DJ,lookup_none λhm=>hx ?_]
  ·exact .none
  ·rw[List.map_fst_zip (by rw[hl,r.length];exact le_refl _)] at hm;exact hm
structure ut(A:Around)(n:Nat):Prop where
 depth:A.depth+n+110<=recursionLimit
 units:A.units+5*n+200<=cLine
 handled:A.handled=none
 frames:∃l,A.frames=some l
theorem lF.O3{A:Around}{n:Nat}(rm:lF A n):ut A n:=⟨rm.depth,rm.units,rm.handled,rm.frames.elim λfe h=>h.elim λl h=>⟨_,h.1⟩⟩
theorem ut.deeper{A:Around}{n:Nat}{env:Env}(rm:ut A (n+1))(h1:env.scope.isGenerator=false)(h2:env.scope.isCoroutine=false)(h3:env.builtins=builtinsNs)(h4:env.globals=mainGlobals):lF (A.deeper env) n:=by
 obtain⟨l,e⟩:=rm.frames
 refine⟨?_,?_,rm.handled,env,l,?_,h1,h2,h3,h4⟩
 ·have:=rm.depth;refine(?_:A.depth+1+n+110<=_);exact(by rw[add_right_comm A.depth];exact this)
 ·have:=rm.units;refine(?_:A.units+3+5*n+200<=_);lia
 ·refine(?_:A.frames.map (env::·)=_);rw[e];rfl
section
variable{φ:List Addr}{H:Hp}{s:Shared}
noncomputable def O4(φ:List Addr)(s:Shared)(post:PQ)(Q:Value->Shared->Prop):Prop:=∀v H',post v H'->∀r6 h' tk x,SR ⟨r6,h'⟩ H'->bJ eU ⟨φ,s.heap⟩ ⟨r6,h'⟩->bf ⟨r6,h'⟩ v x->Q x (upd s h' tk)
structure uu(d:jo)(ns:List Str)(f:Fn):Prop where
 bL:pv d.params (ns.take f.np)=true
 len:ns.length=f.np+f.nl
 nd:ns.Nodup
 kind:d.scope.kind=.function
 gen:d.scope.isGenerator=false/\d.scope.isCoroutine=false
 own:∀x,x∈ns->d.scope.names.lookup x=some .local\/d.scope.names.lookup x=some .cell
 body:nX ⟨d.scope,ns⟩ f.body d.body=true
 FL:(d.scope.names.lookup mk).isSome=true->d.name=gK.oW
theorem qR.k{k:Option NameKind}(h:qR k=true):k=some .local\/k=some .cell:=by
 cases k with
 |none=>cases h
 |some k=>cases k<;>first|exact .inl rfl|exact .inr rfl|cases h
theorem O5{d:jo}{ns:List Str}{f:Fn}(h:CR d ns f=true):uu d ns f:=
 bg h λζ h=>bg h λh2 h=>bg h λh3 h=>bg h λh4 h=>bg h λh5 h=>bg h λh6 h=>bg h λh7 h=>bg h λζ h=>bg h λζ h=>bg h λr7 h=>bg h λO6 nC=>
  ⟨h2,of_decide_eq_true h3,of_decide_eq_true h4,of_decide_eq_true h5,⟨vZ h6,vZ h7⟩,λx hx=>qR.k (all_eq_true.mp r7 x hx),O6,λhm=>(or_eq_true_iff.mp nC).elim (λh=>by rw[hm] at h;cases h) eq_of_beq⟩
theorem O7{d:jo}{ns:List Str}{f:Fn}{env:Env}{vs:List V}{xs:List Value}{bF:Shared}(o:uu d ns f)(R:SR ⟨φ,s.heap⟩ H)(r:bu ⟨φ,s.heap⟩ vs xs)(hv:vs.length=f.np)(eL:env.locals=s.heap.objs.size)(eS:env.scope=d.scope)(eG:env.globals=mainGlobals)(eB:env.builtins=builtinsNs)(eC:∀x,d.scope.names.lookup x=some .cell->∃c,env.cells.lookup x=some c)(ec:(env.kindOf mk).isSome=true->env.code=.ref X.lc/\env.qual++"<lambda>"=lq)
  (hU:InCallC s env.locals (PySem.bindL env.kindOf ((ns.take f.np).zip xs) λζ=>none) env.cells (PySem.bindC env.kindOf ((ns.take f.np).zip xs) λζ=>none) bF):FR env ns (vs.map some++replicate f.nl none) ⟨φ,bF.heap⟩:=by
 have keep:aI s.heap bF.heap:=hU.toInCall.keep
 have S0:bJ eU ⟨φ,s.heap⟩ ⟨φ,bF.heap⟩:=bJ.ext (q:=⟨φ,s.heap⟩) .refl keep
 have eK:∀x,env.kindOf x=d.scope.names.lookup x:=λx=>by unfold Env.kindOf;rw[eS]
 have FN:(((ns.take f.np).zip xs).map (·.1)).Nodup:=by
  rw[List.map_fst_zip (by rw[length_take,<-r.length,hv];exact Nat.min_le_left _ _)]
  exact o.nd.sublist (List.take_sublist _ _)
 have rep:=O0 o.len hv (r.mono S0)
 have ap:∀c,s.heap.objs.size<=c->Ap ⟨φ,bF.heap⟩ c:=λc hc=>SR.new (p:=⟨φ,s.heap⟩) R (fF _ hc)
 have abv:∀{x c},env.cells.lookup x=some c->s.heap.objs.size<=c:=λh=>le_of_lt (eL▸hU.above _ _ (mem_lookup h))
 refine⟨⟨by rw[eS];exact o.kind,eG,eB,⟨by rw[eS];exact o.gen.1,by rw[eS];exact o.gen.2,by unfold interactive;rw[eS,o.kind];rfl⟩,ec,λx y c h1 h2=>name_of_addr hU.apart (mem_lookup h1) (mem_lookup h2),λq hq e=>absurd (hU.above q.1 q.2 hq) (by rw[e];exact lt_irrefl _)⟩,by rw[length_append,length_map,List.length_replicate,hv,o.len],⟨_,hU.toInCall.ns,λx hx hk=>?_⟩,λx hx hk=>?_,λa ha=>ha.elim (λe=>ap a (by rw[e,eL];exact le_refl _)) λw=>w.elim λx hx=>ap a (abv hx),λa ha=>ha.elim (λe=>e▸hU.toInCall.ns.imp λo w=>w.elim λζ w=>w.elim λζ w=>w.1) λw=>w.elim λx hx=>(hU.cell x a hx).imp λo w=>w.1⟩
 ·rw[FI hk FN,or_none];exact rep x
 ·have gq:env.kindOf x=some .cell:=(o.own x hx).elim (λh=>by rw[eK,h] at hk;cases hk) λh=>(eK x).trans h
  exact(eC x ((eK x).symm.trans gq)).elim λc hc=>⟨c,_,hc,hU.cell x c hc,by rw[FJ gq FN,or_none];exact rep x⟩
theorem FO{m:Nat}{f:Fn}{d:jo}{ns:List Str}{A:Around}{a:Addr}{o:Obj}{pm cd doc:Value}{vs:List V}{xs:List Value}{post:PQ}{Q:Value->Shared->Prop}(G:Good X)(hc:vE m)(rm:ut A (2*m+2))(R:SR ⟨φ,s.heap⟩ H)
  (ok:uu d ns f) (ho:X.dM.get? a=some o) (hd:o.data=.func (docDef d.name d.params d.body d.scope pm cd doc)) (ru:X.dM.CodeRec cd d.name) (O8:d.name=gK.oW->cd=.ref X.lc) (r:bu ⟨φ,s.heap⟩ vs xs) (hv:vs.length=f.np)
  (p:aY (aM m) f.body (vs.map some++replicate f.nl none) H (cn post)) (kq:O4 φ s post Q):wpAny X.M A (call (.ref a) xs) Q NE s:=by
 obtain⟨ar,hp,pX⟩:∃ar,d.params=pV ar/\ar.map (·.arg)=ns.take f.np:=zF ok.bL (λq=>∃ar,q=pV ar/\ar.map (·.arg)=ns.take f.np) λar e=>⟨ar,rfl,e⟩
 have hb:=Ea (fd:=docDef d.name d.params d.body d.scope pm cd doc) (ar:=ar) (xs:=xs) rfl hp (by rw[pX];exact ok.nd.sublist (List.take_sublist _ _)) (by rw[pX,length_take,<-r.length,hv,ok.len];exact min_eq_left (le_add_right _ _))
 rw[pX] at hb
 refine wpAny_call (codeAny_call_cells (by have:=rm.depth;lia) (R.keep _ _ ho) hd (G.nolimit.keeps R.keep) (ru.keeps R.keep) rfl hb rfl (λx hx=>(ok.own _ (List.mem_of_mem_take (of_mem_zip hx).1)).imp id λh=>⟨h,(wK (.inl h)).elim λc e=>by rw[e];rfl⟩) (λbF hU=>?_) ok.gen.2 ok.gen.1 ok.kind)
 have O9:Kinds d.scope (callEnvC (docDef d.name d.params d.body d.scope pm cd doc) s.heap.objs.size a):=λx=>.inl rfl
 have hF:=O7 (env:=callEnvC (docDef d.name d.params d.body d.scope pm cd doc) s.heap.objs.size a) ok R r hv rfl rfl rfl rfl (λx h=>wK (.inl h)) (λhm=>⟨O8 (ok.FL hm),by unfold lq;rw[<-ok.FL hm];rfl⟩) hU
 have abv:∀b,j7 (callEnvC (docDef d.name d.params d.body d.scope pm cd doc) s.heap.objs.size a) b->s.heap.get? b=none:=λb hb=>fF _ (hb.elim (λe=>le_of_eq e.symm) λw=>w.elim λx h=>le_of_lt (hU.above _ _ (mem_lookup h)))
 have rI:vQ (callEnvC (docDef d.name d.params d.body d.scope pm cd doc) s.heap.objs.size a) (j7 (callEnvC (docDef d.name d.params d.body d.scope pm cd doc) s.heap.objs.size a)) ns:=⟨λx hx=>(ok.own x hx).imp (λh=>⟨h,.inl rfl⟩) λh=>⟨h,λc hc=>.inr ⟨x,hc⟩⟩,λζ h=>h⟩
 have FP:=rm.deeper (env:=callEnvC (docDef d.name d.params d.body d.scope pm cd doc) s.heap.objs.size a) ok.gen.1 ok.gen.2 rfl rfl
 have keep:aI s.heap bF.heap:=hU.toInCall.keep
 obtain⟨eY,Pa,Pb⟩:=hU.toInCall.same
 clear hb hU
 generalize callEnvC (docDef d.name d.params d.body d.scope pm cd doc) s.heap.objs.size a=env at *
 subst Pb
 have S0:bJ eU ⟨φ,s.heap⟩ ⟨φ,eY⟩:=bJ.ext (q:=⟨φ,s.heap⟩) .refl keep
 refine wpAny_mono (OZ f.body ⟨2*m+1,m,⟨d.scope,ns⟩⟩ d.body ⟨G,hc,le_refl _⟩ ok.body ⟨⟨A.deeper env,φ,H,upd s eY Pa,FP.less (zero_le _),SR.ext (p:=⟨φ,s.heap⟩) R keep⟩,env,_,O9,hF,FP⟩ (j7 env) (cn post) (λfl s'=>Q (match fl with | .ret v=>v|_=>.none) s') rI p
  ⟨λρ H p N=>kq _ _ p N.φ N.h N.tk _ N.R (S0.v0 N.S abv) .none,λv H p r6 h' tk R' S' x r'=>kq _ _ p r6 h' tk x R' (S0.v0 S' abv) r'⟩) (λfl s' q=>by cases fl<;>exact q) (λe s' q=>q.elim)
end
theorem FQ{ds:List jo}{nss:List (List Str)}{fs:List Fn}{i:Nat}{f:Fn}{d:jo}(h:yL ds nss fs=true)(hf:fs[i]?=some f)(hd:ds[i]?=some d)(hn:f.np≠999):∃ns,uu d ns f:=by
 have hi:=(List.getElem?_eq_some_iff.mp hf).1
 have h:=all_eq_true.mp h i (mem_range.mpr hi)
 rw[hf,hd] at h
 refine iw.k (G:=λζ=>∃ns,uu d ns f) (l:=nss[i]?) h λns h=>⟨ns,O5 ((or_eq_true_iff.mp h).resolve_left λh=>hn (of_decide_eq_true h))⟩
theorem FS(G:Good X):∀n,vE n
 |0=>λP f x a vs xs post Q rm h1 h2 r p=>p.elim
 |n+1=>λP f x a vs xs post Q rm h1 h2 r p k=>(G.fn f x h1).casesOn λa' o d pm cd doc e1 e2 e3 e4 e5 e6 e7=>by
  rw[h2] at e3;cases e3
  refine be.k p λfn hf p=>(FQ G.CS hf e1 p.1.2).elim λns ok=>?_
  exact FO G (FS G n) (rm.less (le_succ _)).O3 P.R ok e4 e5 e6 (λh=>e7 (e2.symm.trans h)) r p.1.1 p.2 λv H p φ h tk x R S r=>k v H p ⟨φ,h,tk,R,S⟩ x r
end Mine
namespace Mine
open PySem PySem.Calls PyProof.Rows PySem.W
noncomputable def FT(d:DefRec):jo:=⟨d.name,d.params,d.body,d.scope⟩
noncomputable def oB(q:Program):List jo:=(recsOf q).map FT
noncomputable def Pc(q:Program)(loose:List Str):Bool:=l8.all λp=>!startupNames.contains p.1&&(!loose.contains p.1&&(!((recsOf q).map (·.name)).contains p.1&&(!((litsOf q).map (·.1)).contains p.1&&(!((clssOf q loose).map (·.name)).contains p.1 &&
 (!(p.1==("__name__":Str))&&decide (bootBuiltins p.1=some p.2))))))
theorem oC{h:Heap}{P b:Addr}{o:Obj}(hP:h.get? P=some (gB #[]))(e:h.get? b=some o)(hn:o≠gB #[]):(h.hide P).get? b=some o:=by
 rw[Heap.hide_ne h λq=>hn ?_]
 ·exact e
 ·rw[q,hP] at e;exact(Option.some.inj e).symm
theorem Pd{o:Obj}{d:Data}(h:o.data=d)(hd:d≠.fields #[]):o≠gB #[]:=λq=>hd (h.symm.trans (congrArg Obj.data q))
theorem FU{o:Obj}{es:Array DictEntry}{ep:Nat}(h:o.data=.dict es ep):o≠gB #[]:=λq=>nomatch h.symm.trans (congrArg Obj.data q)
theorem Pe{o:Obj}{f:FuncData}(h:o.data=.func f):o≠gB #[]:=λq=>nomatch h.symm.trans (congrArg Obj.data q)
theorem r8{o:Obj}{n:String}(h:o.cls=.type n):o≠gB #[]:=λq=>nomatch h.symm.trans (congrArg Obj.cls q)
theorem oD{h:Heap}{P a:Addr}{m:Str->Option Value}(hP:h.get? P=some (gB #[]))(x:h.Ns a m):(h.hide P).Ns a m:=x.imp λo x=>x.imp λes x=>x.imp λep x=>⟨oC hP x.1 (FU x.2.1),x.2⟩
theorem Pf{h:Heap}{P:Addr}{cd:Value}{q:Str}(hP:h.get? P=some (gB #[]))(x:h.CodeRec cd q):(h.hide P).CodeRec cd q:=
 x.imp λc x=>x.imp λo x=>x.imp λvs x=>x.imp λt x=>⟨x.1,oC hP x.2.1 (Pd x.2.2.1 λe=>by have:=x.2.2.2;rw[Data.fields.inj e] at this;cases this),x.2.2⟩
theorem Pg{N:Nat}(hN:N<=280)(Af:gK.mZ[P.pd]?=some (Str.ofString "law"))(wL:Good X->aM N P.pd [.g7] [.tab] (λv H=>v=.bool true/\H[0]?=some .tab))(G:Good X):Run X:=λfa Q r9 hQ=>by
 have R0:SR ⟨[X.lP],X.s.heap⟩ [.tab]:=by
  refine⟨G.up,λa ha=>?_,by decide,rfl,λl c e=>?_⟩
  ·rw[mem_singleton.mp ha];exact G.nY
  ·cases l with
   |zero=>cases e;exact⟨X.lP,rfl,.CX rfl G.tabS⟩
   |succ l=>cases e
 cases N with
 |zero=>cases wL G
 |succ n=>
  refine(G.fn P.pd "law" Af).casesOn λa' o d pm cd doc e1 e2 e3 e4 e5 e6 e7=>?_
  rw[show X.mg "law"=some (.ref fa) from r9] at e3;cases e3
  refine be.k (wL G) λfn hf hr=>(FQ G.CS hf e1 hr.1.2).elim λnn ok=>?_
  have rm:ut callerA (2*n+2):=⟨by refine(?_:1+300+(2*n+2)+110<=1000);lia,by refine(?_:4+5*(2*n+2)+200<=9900);lia,rfl,_,rfl⟩
  refine FO G (FS G n) rm R0 ok e4 e5 e6 (λh=>e7 (e2.symm.trans h)) (.cons .g7 .nil) hr.1.1 hr.2 λv H p r6 h' tk x R1 S1 r1=>?_
  obtain⟨rfl,h0⟩:=p
  have keep:∀b o,b≠X.lP->X.s.heap.get? b=some o->h'.get? b=some o:=λb o hb e=>R1.keep b o (G.back b o hb e)
  exact r1.inv (λx=>Q x (upd X.s h' tk)) (R1.at h0 λa ha zH=>zH.inv _ ⟨λea e=>hQ _ h' tk keep (by rw[ea] at e;exact e),λc ea e ζ ζ=>hQ _ h' tk keep (by rw[ea] at e;exact e)⟩)
theorem Ph{eY:Heap}{lc lP:Addr}(hP:eY.get? lP=some (gB #[]))(t5:eY.IsCode lc lP #[])(t6:eY.TableAt lc lP #[])(h:Heap)(ps:Array Value)(hk:∀a o,(eY.hide lP).get? a=some o->h.get? a=some o)(nu:h.get? lP=some (gB ps))(Pj:TriplesOk ps.toList):h.IsCode lc lP ps/\h.TableAt lc lP ps:=by
 obtain⟨o',sd,file,tf,flags,tg,oe,text,tt,op,f1,f2,f3,f4,f5,f6,f7,_,_,_,Pk⟩:=t5
 obtain⟨⟨o,Mz,g1,g2,g3,g4⟩,_⟩:=t6
 have dC:h.get? lc=some o:=hk _ _ (oC hP g1 (r8 g2))
 rw[g1] at f1;cases f1
 rw[g3] at f2;cases f2
 exact⟨⟨_,_,file,tf,flags,tg,oe,text,tt,_,dC,g3,f3,f4,f5,f6,f7,nu,rfl,Pj,Pk⟩,⟨_,_,dC,g2,g3,g4⟩,nu⟩
theorem Pl{Y:m5}{q:Program}{loose:List Str}{mean:ExcName->Option Value}{eY:Heap}{la:Addr}{lo:Obj}{lfd:FuncData}(T:Top q loose mean Y.mg Y.mb eY)(hK:gK.mZ=(oB q).map (·.name))(hP:eY.get? Y.lP=some (gB #[]))(t1:Y.mg gK.oW=some (.ref la))(t2:eY.get? la=some lo)(t3:lo.data=.func lfd)(t4:lfd.code=.ref Y.lc)(hh:Y.dM=eY.hide Y.lP)(hd:Y.defs=oB q)(f:Nat)(x:Str)(hx:gK.mZ[f]?=some x):tv Y f x:=by
 rw[hK,getElem?_map] at hx
 refine fj (λx=>tv Y f x) hx λd rq=>?_
 have fY:=rq
 unfold oB at fY
 rw[getElem?_map] at fY
 refine fj (λd=>(oB q)[f]?=some d->tv Y f d.name) fY (λr hr rq=>?_) rq
 refine(T.fn r (mem_of_getElem? hr)).elim λa y=>y.elim λo y=>y.elim λpm y=>y.elim λcd y=>y.elim λdoc y=>⟨a,o,FT r,pm,cd,doc,hd▸rq,rfl,y.1,hh▸oC hP y.2.1 (Pe y.2.2.1),y.2.2.1,hh▸Pf hP y.2.2.2,λhe=>?_⟩
 have e1:a=la:=Value.ref.inj (Option.some.inj (y.1.symm.trans ((congrArg Y.mg he).trans t1)))
 have e2:o=lo:=Option.some.inj (y.2.1.symm.trans ((congrArg eY.get? e1).trans t2))
 have e3:=Data.func.inj (y.2.2.1.symm.trans ((congrArg Obj.data e2).trans t3))
 exact(congrArg FuncData.code e3).trans t4
theorem Pm{q prog:Program}{loose:List Str}{mean:ExcName->Option Value}{mg mb:Str->Option Value}{w:World}{bF:Shared}{i6:Addr}{vs:List Value}{ns:List Int}{fa:Addr}{N:Nat}{Q Ex:Value->Shared->Prop}
  (T:Top q loose mean mg mb bF.heap) (hK:gK.mZ=(oB q).map (·.name)) (Pn:yL (oB q) CN yG=true) (Fk:Pc q loose=true) (Po:importsNone q=true) (Pp:prog.given.tree=none)
  (Pq:((recsOf q).map (·.name)).contains gK.oW=true)
  (Ps:∀(j:Nat) (x:Str),gK.u6[j]?=some x->∃(a:Addr) (is:List Int) (vs:List Value) (n:Nat),yH[j]?=some (.aP (is.map .int))/\mg x=some (.ref a)/\bF.heap.get? a=some (gO vs n)/\IntsAre vs is/\is.length<=1000)
  (hL:bF.heap.IsList i6 vs.toArray) (hI:IntsAre vs ns) (du:ns.length<=63) (hN:N<=280) (Af:gK.mZ[P.pd]?=some (Str.ofString "law")) (r9:mg "law"=some (.ref fa))
  (wL:Good X->aM N P.pd [.g7] [.tab] (λv H=>v=.bool true/\H[0]?=some .tab))
  (hQ:∀c P ps h' tk,bF.heap.TableAt c P #[]->(∀b o,b≠P->bF.heap.get? b=some o->h'.get? b=some o)->h'.get? P=some (gB ps)->Q (.bool true) {bF with heap:=h',toks:=tk}):wpAny (model prog w) callerA (call (.ref fa) [.ref i6]) Q Ex bF:=by
 obtain⟨lr,ky,Pu⟩:=mem_map.mp (contains_iff_mem.mp Pq)
 obtain⟨la,lo,lfd,lc,lP,t1,t2,t3,t4,t5,t6⟩:=T.tab lr ky
 have hP:bF.heap.get? lP=some (gB #[]):=t6.2
 refine wpAny_mono (JI (Pg hN Af wL) ⟨prog,w,bF.heap.hide lP,i6,lc,lP,ns,mg,mb,oB q,bF⟩ ?_ fa Q r9 λps h' tk h1 h2=>hQ lc lP ps h' tk t6 h1 h2) (λζ ζ q=>q) λζ ζ h=>h.elim
 refine⟨oD hP T.g,oD hP T.b,λp hp=>?_,λf x hx=>?_,λj x hx=>?_,?_,?_,Pp,⟨vs,?_,hI⟩,du,?_,?_,?_,?_,Pn,λζ ζ e=>Heap.of_hide e,Heap.hide_self _ _,λb o hb e=>(Heap.hide_ne _ hb).trans e,hP⟩
 ·exact bg (all_eq_true.mp Fk p hp) λh1 h=>bg h λh2 h=>bg h λh3 h=>bg h λh4 h=>bg h λh5 h=>bg h λh6 h7=>⟨T.free p.1 (pO h1) (pO h2) (pO h3) (pO h4) (pO h5),(T.builtins p.1 (λe=>by rw[e] at h6;exact absurd h6 (by decide))).trans (of_decide_eq_true h7)⟩
 ·exact Pl (Y:=⟨prog,w,bF.heap.hide lP,i6,lc,lP,ns,mg,mb,oB q,bF⟩) T hK hP (Pu▸t1) t2 t3 t4 rfl rfl f x hx
 ·exact(Ps j x hx).imp λa y=>y.imp λis y=>y.imp λus y=>y.imp λn y=>⟨y.1,y.2.1,oC hP y.2.2.1 (r8 rfl),y.2.2.2⟩
 ·exact T.nolimit.imp λmc h=>⟨oD hP h.1,h.2⟩
 ·have Z:=T.seer Po
  exact⟨Z.statics.imp λmc h=>⟨oD hP h.1,h.2⟩,Z.mods.imp λmc h=>⟨oD hP h.1,h.2⟩,Z.imp.imp λmc h=>⟨oD hP h.1,h.2⟩,Z.main.imp λFV h=>h.imp λbm h=>h.imp λob h=>⟨oD hP h.1,h.2.1,oC hP h.2.2.1 (r8 h.2.2.2.1),h.2.2.2⟩⟩
 ·exact hL.imp λo h=>⟨oC hP h.1 (r8 h.2.1),h.2⟩
 ·exact T.nodigits.elim λmc h=>(oD hP h.1).imp λo h=>h.elim λζ h=>h.elim λζ h=>h.1
 ·exact Ph hP t5 t6
 ·exact T.bmain.imp λbm b=>b.imp λob b=>⟨b.1,b.2.1,λe=>r8 b.2.2.2.1 (Option.some.inj (b.2.2.1.symm.trans ((congrArg bF.heap.get? e).trans hP))),oC hP b.2.2.1 (r8 b.2.2.2.1),b.2.2.2⟩
 ·exact λe=>T.g.elim λo h=>h.elim λes h=>h.elim λep h=>FU h.2.1 (Option.some.inj (h.1.symm.trans ((congrArg bF.heap.get? e).trans hP)))
end Mine
namespace Mine.P
open PySem
theorem Pw{n:Nat}{x0 x1 x2:V}{H:Hp}{Q:PQ}(h:aY (aM n) B9 [some x0,some x1,some x2,none,none,none,none] H (cn Q)):aM (n+1) kK [x0,x1,x2] H Q:=⟨⟨rfl,by decide⟩,h⟩
theorem Px{n:Nat}{x0 x1 x2:V}{H:Hp}{Q:PQ}(h:aY (aM n) Ca [some x0,some x1,some x2,none,none,none,none] H (cn Q)):aM (n+1) s3 [x0,x1,x2] H Q:=⟨⟨rfl,by decide⟩,h⟩
theorem Py{n:Nat}{x0 x1 x2:V}{H:Hp}{Q:PQ}(h:aY (aM n) Cb [some x0,some x1,some x2,none,none] H (cn Q)):aM (n+1) oX [x0,x1,x2] H Q:=⟨⟨rfl,by decide⟩,h⟩
theorem Pz{n:Nat}{x0 x1 x2:V}{H:Hp}{Q:PQ}(h:aY (aM n) Cc [some x0,some x1,some x2,none] H (cn Q)):aM (n+1) oY [x0,x1,x2] H Q:=⟨⟨rfl,by decide⟩,h⟩
theorem PA{n:Nat}{x0 x1 x2:V}{H:Hp}{Q:PQ}(h:aY (aM n) Cd [some x0,some x1,some x2,none,none,none] H (cn Q)):aM (n+1) yb [x0,x1,x2] H Q:=⟨⟨rfl,by decide⟩,h⟩
theorem PC{n:Nat}{x0 x1 x2 x3:V}{H:Hp}{Q:PQ}(h:aY (aM n) Ce [some x0,some x1,some x2,some x3,none,none,none,none] H (cn Q)):aM (n+1) yc [x0,x1,x2,x3] H Q:=⟨⟨rfl,by decide⟩,h⟩
theorem PE{n:Nat}{x0 x1 x2:V}{H:Hp}{Q:PQ}(h:aY (aM n) vl [some x0,some x1,some x2,none,none,none,none,none] H (cn Q)):aM (n+1) yd [x0,x1,x2] H Q:=⟨⟨rfl,by decide⟩,h⟩
theorem PF{n:Nat}{x0 x1:V}{H:Hp}{Q:PQ}(h:aY (aM n) yu [some x0,some x1,none,none,none] H (cn Q)):aM (n+1) l4 [x0,x1] H Q:=⟨⟨rfl,by decide⟩,h⟩
theorem PG{n:Nat}{x0 x1:V}{H:Hp}{Q:PQ}(h:aY (aM n) Cf [some x0,some x1] H (cn Q)):aM (n+1) u7 [x0,x1] H Q:=⟨⟨rfl,by decide⟩,h⟩
theorem PH{n:Nat}{x0 x1:V}{H:Hp}{Q:PQ}(h:aY (aM n) Cg [some x0,some x1] H (cn Q)):aM (n+1) u9 [x0,x1] H Q:=⟨⟨rfl,by decide⟩,h⟩
theorem PJ{n:Nat}{x0 x1:V}{H:Hp}{Q:PQ}(h:aY (aM n) Ci [some x0,some x1] H (cn Q)):aM (n+1) oZ [x0,x1] H Q:=⟨⟨rfl,by decide⟩,h⟩
theorem PK{n:Nat}{x0 x1:V}{H:Hp}{Q:PQ}(h:aY (aM n) Cj [some x0,some x1] H (cn Q)):aM (n+1) s4 [x0,x1] H Q:=⟨⟨rfl,by decide⟩,h⟩
theorem PL{n:Nat}{x0 x1 x2 x3:V}{H:Hp}{Q:PQ}(h:aY (aM n) Ck [some x0,some x1,some x2,some x3,none,none,none,none,none,none,none] H (cn Q)):aM (n+1) vb [x0,x1,x2,x3] H Q:=⟨⟨rfl,by decide⟩,h⟩
theorem PM{n:Nat}{x0 x1 x2:V}{H:Hp}{Q:PQ}(h:aY (aM n) Cm [some x0,some x1,some x2] H (cn Q)):aM (n+1) qO [x0,x1,x2] H Q:=⟨⟨rfl,by decide⟩,h⟩
theorem PN{n:Nat}{x0 x1 x2 x3:V}{H:Hp}{Q:PQ}(h:aY (aM n) Co [some x0,some x1,some x2,some x3] H (cn Q)):aM (n+1) vc [x0,x1,x2,x3] H Q:=⟨⟨rfl,by decide⟩,h⟩
theorem PO{n:Nat}{x0 x1 x2:V}{H:Hp}{Q:PQ}(h:aY (aM n) Cp [some x0,some x1,some x2,none,none,none,none,none,none,none,none] H (cn Q)):aM (n+1) ye [x0,x1,x2] H Q:=⟨⟨rfl,by decide⟩,h⟩
theorem PR{n:Nat}{x0 x1 x2:V}{H:Hp}{Q:PQ}(h:aY (aM n) Cq [some x0,some x1,some x2,none,none,none] H (cn Q)):aM (n+1) yf [x0,x1,x2] H Q:=⟨⟨rfl,by decide⟩,h⟩
theorem PS{n:Nat}{x0 x1 x2:V}{H:Hp}{Q:PQ}(h:aY (aM n) Cr [some x0,some x1,some x2,none,none,none,none,none] H (cn Q)):aM (n+1) yg [x0,x1,x2] H Q:=⟨⟨rfl,by decide⟩,h⟩
theorem PT{n:Nat}{x0 x1 x2 x3:V}{H:Hp}{Q:PQ}(h:aY (aM n) Cs [some x0,some x1,some x2,some x3,none,none,none,none,none,none,none] H (cn Q)):aM (n+1) yh [x0,x1,x2,x3] H Q:=⟨⟨rfl,by decide⟩,h⟩
theorem PU{n:Nat}{x0 x1 x2:V}{H:Hp}{Q:PQ}(h:aY (aM n) Ct [some x0,some x1,some x2,none,none] H (cn Q)):aM (n+1) yi [x0,x1,x2] H Q:=⟨⟨rfl,by decide⟩,h⟩
theorem PV{n:Nat}{x0 x1:V}{H:Hp}{Q:PQ}(h:aY (aM n) Cu [some x0,some x1] H (cn Q)):aM (n+1) yj [x0,x1] H Q:=⟨⟨rfl,by decide⟩,h⟩
theorem PW{n:Nat}{x0 x1:V}{H:Hp}{Q:PQ}(h:aY (aM n) yv [some x0,some x1,none,none,none,none,none,none,none,none,none,none,none,none] H (cn Q)):aM (n+1) vd [x0,x1] H Q:=⟨⟨rfl,by decide⟩,h⟩
theorem PX{n:Nat}{x0 x1:V}{H:Hp}{Q:PQ}(h:aY (aM n) Cv [some x0,some x1] H (cn Q)):aM (n+1) jZ [x0,x1] H Q:=⟨⟨rfl,by decide⟩,h⟩
theorem PY{n:Nat}{x0:V}{H:Hp}{Q:PQ}(h:aY (aM n) Cw [some x0] H (cn Q)):aM (n+1) qP [x0] H Q:=⟨⟨rfl,by decide⟩,h⟩
theorem PZ{n:Nat}{x0 x1:V}{H:Hp}{Q:PQ}(h:aY (aM n) yw [some x0,some x1,none,none,none] H (cn Q)):aM (n+1) qQ [x0,x1] H Q:=⟨⟨rfl,by decide⟩,h⟩
theorem P0{n:Nat}{x0 x1 x2:V}{H:Hp}{Q:PQ}(h:aY (aM n) yx [some x0,some x1,some x2,none,none] H (cn Q)):aM (n+1) s5 [x0,x1,x2] H Q:=⟨⟨rfl,by decide⟩,h⟩
theorem P1{n:Nat}{x0 x1:V}{H:Hp}{Q:PQ}(h:aY (aM n) Cy [some x0,some x1,none,none,none,none,none,none,none,none,none] H (cn Q)):aM (n+1) yk [x0,x1] H Q:=⟨⟨rfl,by decide⟩,h⟩
theorem P2{n:Nat}{x0 x1:V}{H:Hp}{Q:PQ}(h:aY (aM n) Cz [some x0,some x1,none,none,none,none,none,none,none,none,none] H (cn Q)):aM (n+1) yl [x0,x1] H Q:=⟨⟨rfl,by decide⟩,h⟩
theorem P4{n:Nat}{x0 x1 x2:V}{H:Hp}{Q:PQ}(h:aY (aM n) CA [some x0,some x1,some x2] H (cn Q)):aM (n+1) iO [x0,x1,x2] H Q:=⟨⟨rfl,by decide⟩,h⟩
theorem P5{n:Nat}{x0 x1 x2:V}{H:Hp}{Q:PQ}(h:aY (aM n) CB [some x0,some x1,some x2] H (cn Q)):aM (n+1) j0 [x0,x1,x2] H Q:=⟨⟨rfl,by decide⟩,h⟩
theorem P6{n:Nat}{x0 x1 x2:V}{H:Hp}{Q:PQ}(h:aY (aM n) CC [some x0,some x1,some x2,none,none] H (cn Q)):aM (n+1) m0 [x0,x1,x2] H Q:=⟨⟨rfl,by decide⟩,h⟩
theorem P7{n:Nat}{x0 x1:V}{H:Hp}{Q:PQ}(h:aY (aM n) yy [some x0,some x1,none,none,none,none] H (cn Q)):aM (n+1) ym [x0,x1] H Q:=⟨⟨rfl,by decide⟩,h⟩
theorem P8{n:Nat}{x0 x1:V}{H:Hp}{Q:PQ}(h:aY (aM n) yz [some x0,some x1,none] H (cn Q)):aM (n+1) ve [x0,x1] H Q:=⟨⟨rfl,by decide⟩,h⟩
theorem P9{n:Nat}{x0 x1 x2:V}{H:Hp}{Q:PQ}(h:aY (aM n) CD [some x0,some x1,some x2] H (cn Q)):aM (n+1) s6 [x0,x1,x2] H Q:=⟨⟨rfl,by decide⟩,h⟩
theorem Qa{n:Nat}{x0 x1 x2:V}{H:Hp}{Q:PQ}(h:aY (aM n) CE [some x0,some x1,some x2,none,none,none,none,none,none,none,none] H (cn Q)):aM (n+1) yn [x0,x1,x2] H Q:=⟨⟨rfl,by decide⟩,h⟩
theorem Qb{n:Nat}{x0 x1 x2:V}{H:Hp}{Q:PQ}(h:aY (aM n) CF [some x0,some x1,some x2,none,none,none,none,none] H (cn Q)):aM (n+1) yo [x0,x1,x2] H Q:=⟨⟨rfl,by decide⟩,h⟩
theorem Qc{n:Nat}{x0 x1 x2:V}{H:Hp}{Q:PQ}(h:aY (aM n) CG [some x0,some x1,some x2,none,none,none,none,none] H (cn Q)):aM (n+1) yq [x0,x1,x2] H Q:=⟨⟨rfl,by decide⟩,h⟩
theorem Qd{n:Nat}{x0:V}{H:Hp}{Q:PQ}(h:aY (aM n) CH [some x0,none,none,none,none] H (cn Q)):aM (n+1) vf [x0] H Q:=⟨⟨rfl,by decide⟩,h⟩
theorem Qe{n:Nat}{x0 x1:V}{H:Hp}{Q:PQ}(h:aY (aM n) CI [some x0,some x1,none,none,none] H (cn Q)):aM (n+1) o0 [x0,x1] H Q:=⟨⟨rfl,by decide⟩,h⟩
theorem Qf{n:Nat}{x0 x1:V}{H:Hp}{Q:PQ}(h:aY (aM n) CJ [some x0,some x1,none,none,none] H (cn Q)):aM (n+1) vg [x0,x1] H Q:=⟨⟨rfl,by decide⟩,h⟩
theorem Qg{n:Nat}{x0:V}{H:Hp}{Q:PQ}(h:aY (aM n) CL [some x0] H (cn Q)):aM (n+1) vh [x0] H Q:=⟨⟨rfl,by decide⟩,h⟩
theorem Qh{n:Nat}{x0 x1 x2:V}{H:Hp}{Q:PQ}(h:aY (aM n) yA [some x0,some x1,some x2,none] H (cn Q)):aM (n+1) l5 [x0,x1,x2] H Q:=⟨⟨rfl,by decide⟩,h⟩
theorem Qi{n:Nat}{x0 x1 x2 x3 x4 x5:V}{H:Hp}{Q:PQ}(h:aY (aM n) yB [some x0,some x1,some x2,some x3,some x4,some x5,none,none,none,none,none,none,none,none] H (cn Q)):aM (n+1) yr [x0,x1,x2,x3,x4,x5] H Q:=⟨⟨rfl,by decide⟩,h⟩
theorem Qj{n:Nat}{x0 x1 x2 x3:V}{H:Hp}{Q:PQ}(h:aY (aM n) yC [some x0,some x1,some x2,some x3,none,none,none,none] H (cn Q)):aM (n+1) vi [x0,x1,x2,x3] H Q:=⟨⟨rfl,by decide⟩,h⟩
theorem Qk{n:Nat}{x0 x1 x2:V}{H:Hp}{Q:PQ}(h:aY (aM n) yD [some x0,some x1,some x2,none,none,none,none,none,none] H (cn Q)):aM (n+1) yt [x0,x1,x2] H Q:=⟨⟨rfl,by decide⟩,h⟩
theorem Ql{n:Nat}{x0 x1 x2 x3:V}{H:Hp}{Q:PQ}(h:aY (aM n) yE [some x0,some x1,some x2,some x3,none,none,none,none,none,none,none,none,none,none,none,none] H (cn Q)):aM (n+1) vj [x0,x1,x2,x3] H Q:=⟨⟨rfl,by decide⟩,h⟩
theorem Qm{n:Nat}{x0 x1 x2:V}{H:Hp}{Q:PQ}(h:aY (aM n) CM [some x0,some x1,some x2,none,none,none,none,none,none] H (cn Q)):aM (n+1) vk [x0,x1,x2] H Q:=⟨⟨rfl,by decide⟩,h⟩
theorem Qn{n:Nat}{x0:V}{H:Hp}{Q:PQ}(h:aY (aM n) yF [some x0,none,none,none,none,none] H (cn Q)):aM (n+1) pd [x0] H Q:=⟨⟨rfl,by decide⟩,h⟩
end Mine.P
namespace Mine.L
theorem aG{α:Type}{o:Option α}{f:α->Prop}{a:α}(e:o=some a)(h:f a):be o f:=by rw[e];exact h
theorem uv{α:Type}{o:Option α}{f g:α->Prop}(h:be o f)(k:∀a,f a->g a):be o g:=by
 cases o
 ·exact h
 ·exact k _ h
section
variable{ws:List Nat}{H₀:Hp}{t:cV}{K:Out->Prop}
theorem FW{body:aV->Hp->(Out->Prop)->Prop}(I:List V->aV->Hp->Prop)(step:∀v vs ρ H,I (v::vs) ρ H->be (aX t v ρ) λcb=>∀N:aV->Hp->Prop,(∀gi H₁,d6 ws H₀ H₁=true->I vs gi H₁->N gi H₁)->body cb H (n5 K N))(fin:∀ρ H,I [] ρ H->K (.next ρ H)):∀vs ρ H,I vs ρ H->n6 ws H₀ t body vs ρ H K
 |[],ρ,H,h=>fin ρ H h
 |v::vs,ρ,H,h=>uv (step v vs ρ H h) λcb hb=>hb _ λgi H₁ hs hi=>⟨hs,FW I step fin vs gi H₁ hi⟩
theorem wM{test:aV->Hp->(Bool->Hp->Prop)->Prop}{body:aV->Hp->(Out->Prop)->Prop}(I:Nat->aV->Hp->Prop)(step:∀n ρ H,I n ρ H->∀T:Bool->Hp->Prop,(∀H',(∀N:aV->Hp->Prop,(∀m gi H₁,m<n->I m gi H₁->N gi H₁)->body ρ H' (n5 K N))->T true H')->(∀H',K (.next ρ H')->T false H')->test ρ H T):∀k n ρ H,n<k->I n ρ H->vy test body k ρ H K
 |0,n,ρ,H,hk,h=>absurd hk (not_lt_zero _)
 |k+1,n,ρ,H,hk,h=>step n ρ H h _ (λH' hb=>hb _ λm gi H₁ hm hi=>wM I step k m gi H₁ (lt_of_lt_of_le hm (le_of_lt_succ hk)) hi) (λH' hk=>hk)
end
end Mine.L
namespace Mine.L
open Mine.P
noncomputable def Ag(a b:Int)(H:Hp)(n:Nat)(ρ:aV)(H':Hp):Prop:=∀PartIζ:Prop,(∀(x y:Int) (z:Option V) (e:ρ=[some (.int a),some (.int b),some (.int x),some (.int y),z]) (eh:H'=H) (hy:0<=y) (hn:n=y.toNat) (hg:gcd x y=gcd a b) (hx:y=0->0<=x),PartIζ)->PartIζ
theorem Ag.mk{a b:Int}{H:Hp}{n:Nat}{ρ:aV}{H':Hp}(x y:Int)(z:Option V)(e:ρ=[some (.int a),some (.int b),some (.int x),some (.int y),z])(eh:H'=H)(hy:0<=y)(hn:n=y.toNat)(hg:gcd x y=gcd a b)(hx:y=0->0<=x):Ag a b H n ρ H':=λζ bw=>bw x y z e eh hy hn hg hx
theorem FX{C:Cl}{a b:Int}{H:Hp}{Q:PQ}(hb:0<b)(k:Q (.aP [.int (a.fdiv (gcd a b)),.int (b.fdiv (gcd a b))]) H):aY C yu [some (.int a),some (.int b),none,none,none] H (cn Q):=by
 refine wM (K:=_) (Ag a b H) (λm ρ H' h T ht hf=>?_) _ b.toNat _ _ ?_ (.mk a b none rfl rfl (Int.le_of_lt hb) rfl rfl (λe=>absurd e (Int.ne_of_gt hb)))
 ·refine h _ λx y z e eh hy hn hg hx=>?_
  subst e eh
  refine(?_:T (decide (y>0)) _)
  by_cases qe:y>0
  ·rw[decide_eq_true qe]
   refine ht _ λN hN=>?_
   refine(?_:be (binI .mod x y) _)
   refine aG (a:=x.fmod y) (if_neg (Int.ne_of_gt qe)) ?_
   have hm:x.fmod y=x - (x/y)*y:=by rw[Int.fmod_eq_emod_of_nonneg x hy,Int.emod_def,Int.mul_comm]
   exact hN (x.fmod y).toNat _ _ (by rw[hn,Int.fmod_eq_emod_of_nonneg x hy];exact(Int.toNat_lt_toNat qe).mpr (Int.emod_lt_of_pos x qe)) (.mk y (x.fmod y) _ rfl rfl (by rw[Int.fmod_eq_emod_of_nonneg x hy];exact Int.emod_nonneg x (Int.ne_of_gt qe)) rfl (by rw[hm,Int.gcd_sub_mul_right_right,Int.gcd_comm];exact hg) (λζ=>hy))
  ·rw[decide_eq_false qe]
   refine hf _ ?_
   obtain rfl:y=0:=Int.le_antisymm (Int.not_lt.mp qe) hy
   have pP:x=((gcd a b:Nat):Int):=by rw[<-hg,Int.gcd_zero_right];exact(Int.natAbs_of_nonneg (hx rfl)).symm
   have FY:((gcd a b:Nat):Int)≠0:=λh=>absurd (Int.gcd_eq_zero_iff.mp (ofNat.inj h)).2 (Int.ne_of_gt hb)
   subst pP
   refine(?_:be (binI .fdiv a _) _)
   refine aG (if_neg FY) ?_
   refine(?_:be (binI .fdiv b _) _)
   exact aG (if_neg FY) k
 ·refine(?_:b.toNat<weight [some (.int a),some (.int b),some (.int a),some (.int b),none])
  refine(?_:b.toNat<a.natAbs+(b.natAbs+(a.natAbs+(b.natAbs+1000))))
  lia
section
variable{n:Nat}{a b:Int}{H:Hp}{Q:PQ}(hb:0<b)(k:Q (.aP [.int (a.fdiv (gcd a b)),.int (b.fdiv (gcd a b))]) H)
include hb k
theorem Qo:aM (n+1) l4 [.int a,.int b] H Q:=PF (FX hb k)
theorem Qp:aM (n+1) o0 [.int a,.int b] H Q:=Qe (FX hb k)
end
theorem da{t:Bool}{A B:Prop}(h1:t=true->A)(h2:t=false->B):bW t A B:=by
 cases t
 ·exact h2 rfl
 ·exact h1 rfl
section
variable{n:Nat}{H:Hp}{Q:PQ}
theorem nD{k:Nat}(q:Q (.int (X.is.getD k 0)) H):aM (n+1) jZ [.g7,.int k] H Q:=PX (by
 refine(?_:bW (decide ((k:Int)<((X.is.map V.int).length:Int))) _ _)
 refine da (λh=>?_) λh=>?_
 ·have hk:k<X.is.length:=by have:=of_decide_eq_true h;rw[length_map] at this;exact ofNat_lt.mp this
  refine(?_:be (j4 (X.is.map V.int) (k:Int)) _)
  refine aG (a:=.int (X.is.getD k 0)) ?_ q
  rw[show j4 (X.is.map V.int) (k:Int)=(X.is.map V.int)[k]? from if_pos (natCast_nonneg k),getElem?_map,getElem?_eq_getElem hk,getD_eq_getElem?_getD,getElem?_eq_getElem hk];rfl
 ·have hk:¬k<X.is.length:=λhk=>absurd (of_decide_eq_false h) (not_not_intro (by rw[length_map];exact ofNat_lt.mpr hk))
  rw[getD_eq_getElem?_getD,List.getElem?_eq_none_iff.mpr (Nat.le_of_not_lt hk)] at q
  exact q)
end
noncomputable abbrev nv(k:Nat):V:=.int (k:Int)
noncomputable abbrev bb(l:List Nat):List V:=l.map nv
structure aO where
 bH:Int
 bL:List Nat
 ad:Option (Int×List Nat)
 dp:Option Int
noncomputable def mz:Option Int->V
 |none=>.none
 |some d=>.int d
noncomputable def Ai:Option (Int×List Nat)->V
 |none=>.none
 |some a=>.aP [.int a.1,.aP (bb a.2)]
noncomputable def bO(p:aO):V:=.aP [.int p.bH,.aP (bb p.bL),Ai p.ad,mz p.dp]
noncomputable def before(d:Int):Option Int->Bool
 |none=>true
 |some e=>decide (d<e)
noncomputable def dD(p:aO)(d:Int):Bool:=decide (p.bH<=d)&&before d p.dp
noncomputable def dq(p:aO)(d:Int):List Nat:=match p.ad with
 |none=>p.bL
 |some a=>if a.1<=d then a.2 else p.bL
noncomputable def aI(H H':Hp):Prop:=∀(l:Nat) (c:bc),H[l]?=some c->H'[l]?=some c
theorem aI.refl(H:Hp):aI H H:=λζ ζ h=>h
theorem aI.trans{H H₁ H₂:Hp}(a:aI H H₁)(b:aI H₁ H₂):aI H H₂:=λl c h=>b l c (a l c h)
theorem cT{H:Hp}{l:Nat}{c:bc}(h:H[l]?=some c):l<H.length:=(List.getElem?_eq_some_iff.mp h).1
theorem bz{H:Hp}{l:Nat}{c:bc}(t:List bc)(h:H[l]?=some c):(H++t)[l]?=some c:=(getElem?_append_left (cT h)).trans h
theorem aI.ba(H t:Hp):aI H (H++t):=λl c h=>bz t h
theorem bq(H:Hp)(c:bc):(H++[c])[H.length]?=some c:=List.getElem?_concat_length
theorem f9{H:Hp}{l:Nat}{c:bc}(h:H[l]?=some c)(c':bc):(H.set l c')[l]?=some c':=List.getElem?_set_self (cT h)
theorem kX{H:Hp}{l m:Nat}{c:bc}(h:H[l]?=some c)(c':bc)(hn:m≠l):(H.set m c')[l]?=some c:=(getElem?_set_ne hn).trans h
theorem aI.set{H H':Hp}(h:aI H H'){r:Nat}(hr:H.length<=r)(c:bc):aI H (H'.set r c):=λl c' e=>kX (h l c' e) c λq=>absurd (cT e) (not_lt.mpr (q▸hr))
theorem aI.len{H H':Hp}(h:aI H H'):H.length<=H'.length:=by
 cases e:H.length with
 |zero=>exact zero_le _
 |succ k=>exact cT (h k _ (getElem?_eq_getElem (by rw[e];exact lt_succ_self k)))
section
variable{n:Nat}{H:Hp}{Q:PQ}{l k:Nat}{vs:List V}
theorem bB{f:Nat}{as:List V}(h:aM n f as H Q):aM n f as H Q:=h
theorem cN(h:H[l]?=some (.list vs)):cP H (.ref l)=some vs:=congrArg (Option.bind · pA) h
theorem dz(h:H[l]?=some (.list vs)):keysOf H (.ref l)=some vs:=by
 refine(?_:(match H[l]?.bind fS with|some es=>_|none=>_)=_)
 rw[h]
 refine(?_:(match H[l]?.bind i7 with|some es=>_|none=>lB H (.ref l))=_)
 rw[h]
 exact cN h
theorem Qq{α:Type}{l:List α}{a:α}(h:l[k]?=some a):j4 l (k:Int)=some a:=(if_pos (natCast_nonneg k)).trans h
theorem gu{v:V}(h:H[l]?=some (.list vs))(hv:vs[k]?=some v):eQ (.ref l) (nv k) H=some v:=by
 refine(?_:(match cP H (.ref l) with|some vs=>j4 vs (k:Int)|none=>_)=_)
 rw[cN h];exact Qq hv
theorem fI{ps:List aO}{p:aO}(h:H[l]?=some (.list (ps.map bO)))(hv:ps[k]?=some p):eQ (.ref l) (nv k) H=some (bO p):=gu h (by rw[getElem?_map,hv];rfl)
theorem wN{c:Prop}[Decidable c]{A B:Prop}(h1:c->A)(h2:¬c->B):bW (decide c) A B:=da (λh=>h1 (of_decide_eq_true h)) λh=>h2 (of_decide_eq_false h)
theorem e8{t:Bool}{A B:Prop}(h1:t=true->A)(h2:t=false->B):bW (t==true) A B:=by
 cases t
 ·exact h2 rfl
 ·exact h1 rfl
theorem qf{t:Bool}{A B:Prop}(h1:t=false->A)(h2:t=true->B):bW (t==false) A B:=by
 cases t
 ·exact h1 rfl
 ·exact h2 rfl
theorem oE{d:Int}{ps:List aO}{p:aO}(hA:H[l]?=some (.list (ps.map bO)))(hp:ps[k]?=some p)(q:Q (.bool (dD p d)) H):aM (n+1) kK [.ref l,nv k,.int d] H Q:=Pw (by
 apply aG (fI hA hp)
 refine(?_:bW (decide (p.bH<=d)==true) _ _)
 refine e8 (λh=>?_) λh=>?_
 ·have q:Q (.bool (decide (p.bH<=d)&&before d p.dp)) H:=q
  rw[h] at q
  cases hd:p.dp with
  |none=>rw[hd] at q;exact q
  |some e=>rw[hd] at q;exact q
 ·have q:Q (.bool (decide (p.bH<=d)&&before d p.dp)) H:=q
  rw[h] at q
  refine(?_:Q (.bool (decide (p.bH<=d))) H)
  rw[h];exact q)
end
end Mine.L
namespace Mine.L
open Mine.P PySem
section
variable{ws:List Nat}{H₀:Hp}{t:cV}{K:Out->Prop}{α:Type}{g:α->V}
theorem d9{body:aV->Hp->(Out->Prop)->Prop}(I:List α->aV->Hp->Prop)(step:∀a as ρ H,I (a::as) ρ H->be (aX t (g a) ρ) λcb=>∀N:aV->Hp->Prop,(∀gi H₁,d6 ws H₀ H₁=true->I as gi H₁->N gi H₁)->body cb H (n5 K N))(fin:∀ρ H,I [] ρ H->K (.next ρ H)):∀as ρ H,I as ρ H->n6 ws H₀ t body (as.map g) ρ H K
 |[],ρ,H,h=>fin ρ H h
 |a::as,ρ,H,h=>uv (step a as ρ H h) λcb hb=>hb _ λgi H₁ hs hi=>⟨hs,d9 I step fin as gi H₁ hi⟩
theorem uw{test:aV->Hp->(Bool->Hp->Prop)->Prop}{elt:aV->Hp->PQ->Prop}{Q:List V->Hp->Prop}(I:List α->List V->aV->Hp->Prop)(step:∀a as acc ρ H,I (a::as) acc ρ H->be (aX t (g a) ρ) λcb=>∀N:List V->Hp->Prop,(∀acc' H',d6 ws H₀ H'=true->I as acc' cb H'->N acc' H')->test cb H λb H₁=>bW b (elt cb H₁ λy H₂=>N (acc++[y]) H₂) (N acc H₁))(fin:∀acc ρ H,I [] acc ρ H->Q acc H):∀as acc ρ H,I as acc ρ H->gC ws H₀ t test elt (as.map g) ρ H acc Q
 |[],acc,ρ,H,h=>fin acc ρ H h
 |a::as,acc,ρ,H,h=>uv (step a as acc ρ H h) λcb hb=>hb (λacc' H'=>d6 ws H₀ H'=true/\gC ws H₀ t test elt (as.map g) cb H' acc' Q) λacc' H' hs hi=>⟨hs,uw I step fin as acc' cb H' hi⟩
end
section
variable{n:Nat}{H:Hp}{Q:PQ}{l k:Nat}{vs:List V}
theorem cK{t:Bool}{A:Prop}(e:t=true)(h:A):ez t A:=by rw[e];exact h
theorem cO{α:Type}{l:List α}(h:l.length<16000000):lA l=true:=decide_eq_true h
theorem jd{A:Prop}(h:H[l]?=some (.list vs))(a:A):ez (tC .append H (.ref l)) A:=cK (congrArg Option.isSome (cN h)) a
theorem je{v:V}(h:H[l]?=some (.list vs))(hs:vs.length<16000000)(q:Q .none (H.set l (.list (vs++[v])))):tD .append (.ref l) [v] H Q:=aG (cN h) (cK (cO hs) q)
theorem mA{m:Nat}{f:List V->Prop}(h:m<1000000)(k:f ((List.range m).map nv)):q0 (.int 0) (.int m) f:=by
 refine⟨⟨by decide,lt_trans (show(m:Int).natAbs<1000000 from h) (by decide)⟩,?_⟩
 have e:g9 0 m=(List.range m).map nv:=by
  unfold g9
  rw[sub_zero]
  exact List.map_congr_left λi ζ=>congrArg V.int (Int.zero_add _)
 rw[e];exact k
theorem dr{H':Hp}{c:bc}(h:H[l]?=some c)(h':H'[l]?=some c):d6 [l] H H'=true:=by
 refine(?_:(decide (H'[l]?=H[l]?)&&true)=true)
 rw[h,h',decide_eq_true rfl];rfl
theorem oF(i:Int):∀m,rd H m (.int i)=some (.int i)
 |0=>rfl
 |_+1=>rfl
theorem iS(m:Nat):∀ls:List Nat,eJ (rd H m) (bb ls)=some (ls.map λi=>.int i)
 |[]=>rfl
 |a::r=>by
  refine(?_:(match rd H m (nv a),eJ (rd H m) (bb r) with|some d,some ds=>some (d::ds)|_,_=>none)=_)
  rw[oF,iS m r];rfl
theorem FZ(k:Nat):∀ls:List Nat,((ls.map λi:Nat=>PyData.int i).any λe=>PyData.eqv e (.int k))=decide (k∈ls)
 |[]=>rfl
 |a::r=>by
  rw[map_cons,any_cons,FZ k r]
  refine(?_:(((a:Int)==(k:Int))||decide (k∈r))=_)
  by_cases h:k=a
  ·rw[h,beq_self_eq_true];exact(decide_eq_true (mem_cons_self)).symm
  ·rw[show((a:Int)==(k:Int))=false from beq_eq_false_iff_ne.mpr λe=>h (ofNat.inj e).symm,Bool.false_or]
   exact decide_eq_decide.mpr ⟨λm=>.tail _ m,λm=>(mem_cons.mp m).resolve_left h⟩
theorem ux{ls:List Nat}:pB H (nv k) (.aP (bb ls))=some (decide (k∈ls)):=by
 refine(?_:((eJ (rd H 10) (bb ls)).bind λds=>some (ds.any λe=>PyData.eqv e (.int k)))=_)
 rw[iS]
 exact congrArg some (FZ k ls)
theorem F0{ls:List Nat}(h:H[l]?=some (.list (bb ls))):pB H (nv k) (.ref l)=some (decide (k∈ls)):=by
 refine(?_:(match H[l]?.bind fS with|some es=>_|none=>_)=_)
 rw[h]
 refine(?_:(match H[l]?.bind i7 with|some es=>_|none=>(cP H (.ref l)).bind _)=_)
 rw[h,cN h]
 exact ux (ls:=ls)
theorem mB{α:Type}{acc:List α}{a:α}{r tot:List α}{B:Nat}(e:acc++(a::r)=tot)(h:tot.length<=B):acc.length<B:=by
 rw[<-e,length_append,length_cons] at h;lia
theorem jt{α:Type}{acc:List α}{a:α}{r tot:List α}(e:acc++(a::r)=tot):(acc++[a])++r=tot:=by rw[append_assoc];exact e
theorem Aj{d:Int}{ps:List aO}{p:aO}(hA:H[l]?=some (.list (ps.map bO)))(hp:ps[k]?=some p)(q:Q (.aP (bb (dq p d))) H):aM (n+1) s3 [.ref l,nv k,.int d] H Q:=Px (by
 apply aG (fI hA hp)
 have q:Q (.aP (bb (match p.ad with|none=>p.bL|some a=>if a.1<=d then a.2 else p.bL))) H:=q
 unfold bO
 cases ha:p.ad with
 |none=>rw[ha] at q;exact q
 |some a=>
  rw[ha] at q
  refine(?_:bW (decide (a.1<=d)) _ _)
  exact wN (λh=>by rw[show(match(some a:Option (Int×List Nat)) with|none=>p.bL|some a=>if a.1<=d then a.2 else p.bL)=a.2 from if_pos h] at q;exact q) λh=>by rw[show(match(some a:Option (Int×List Nat)) with|none=>p.bL|some a=>if a.1<=d then a.2 else p.bL)=p.bL from if_neg h] at q;exact q)
noncomputable def ie(ps:List aO)(d:Int)(k c:Nat):Bool:=match ps[c]? with
 |some q=>decide (q.bH<=d)&&decide (k∈dq q d)
 |none=>false
noncomputable def kids(ps:List aO)(d:Int)(k:Nat):List Nat:=(List.range ps.length).filter (ie ps d k)
noncomputable def Ak(ps:List aO)(d:Int)(k l:Nat)(H:Hp)(as:List Nat)(ρ:aV)(H':Hp):Prop:=∀ChIζ:Prop,(∀(acc:List Nat) (o:Option V) (e:ρ=[some (.ref l),some (nv k),some (.int d),some (.ref H.length),o]) (x:aI H H') (a:H'[H.length]?=some (.list (bb acc))) (t:acc++as.filter (ie ps d k)=kids ps d k) (b:∀c∈as,c<ps.length),ChIζ)->ChIζ
theorem Ak.mk{ps:List aO}{d:Int}{k l:Nat}{H:Hp}{as:List Nat}{ρ:aV}{H':Hp}(acc:List Nat)(o:Option V)(e:ρ=[some (.ref l),some (nv k),some (.int d),some (.ref H.length),o])(x:aI H H')(a:H'[H.length]?=some (.list (bb acc)))(t:acc++as.filter (ie ps d k)=kids ps d k)(b:∀c∈as,c<ps.length):Ak ps d k l H as ρ H':=λζ bw=>bw acc o e x a t b
theorem qg(l:List Nat)(c:Nat):bb l++[nv c]=bb (l++[c]):=(map_append (l₁:=l) (l₂:=[c])).symm
theorem at_of{α:Type}{l:List α}{k:Nat}(h:k<l.length):∃a,l[k]?=some a:=⟨_,getElem?_eq_getElem h⟩
theorem kB(ps:List aO)(d:Int)(k:Nat):(kids ps d k).length<=ps.length:=le_trans (length_filter_le _ _) (le_of_eq length_range)
noncomputable abbrev Qr(f:Nat):List S:=
 [.aX (.U 3) (.bE []),
  .for (.U 4) (.range (.k (.int 0)) (.bi .len [.U 0]))
  [.bD (.and [(.cmp .le (.aU (.aU (.U 0) (.U 4)) (.k (.int 0))) (.U 2)),(.cmp .d3 (.U 1) (.call f [.U 0,.U 4,.U 2]))])
   [.expr (.dP .append (.U 3) [.U 4])]
   []],
  .ret (.U 3)]
theorem F2{f:Nat}{d:Int}{ps:List aO}(hf:∀{H:Hp} {Q:PQ} {c:Nat} {p:aO},H[l]?=some (.list (ps.map bO))->ps[c]?=some p->Q (.aP (bb (dq p d))) H->aM (n+1) f [.ref l,nv c,.int d] H Q)(hA:H[l]?=some (.list (ps.map bO)))(hl:ps.length<=20)(q:∀lc H',H.length<=lc->aI H H'->H'[lc]?=some (.list (bb (kids ps d k)))->Q (.ref lc) H'):aY (aM (n+1)) (Qr f) [some (.ref l),some (nv k),some (.int d),none,none] H (cn Q):=by
 apply aG (cN (bz [.list []] hA))
 rw[length_map]
 refine mA (lt_of_le_of_lt hl (by decide)) (d9 (Ak ps d k l H) (λc as ρ H' h=>?_) (λρ H' h=>?_) _ _ _ (.mk [] none rfl (aI.ba _ _) (bq _ _) rfl (λc hc=>mem_range.mp hc)))
 ·refine h _ λacc o e x a t b=>?_
  subst e
  refine λN hN=>?_
  refine(at_of (b c mem_cons_self)).elim λp hc=>?_
  apply aG (fI (x l _ hA) hc)
  have ht:acc++(if ie ps d k c then c::as.filter (ie ps d k) else as.filter (ie ps d k))=kids ps d k:=by rw[<-filter_cons];exact t
  rw[show ie ps d k c=(decide (p.bH<=d)&&decide (k∈dq p d)) by unfold ie;rw[hc]] at ht
  have no:∀o,(decide (p.bH<=d)&&decide (k∈dq p d))=false->N [some (.ref l),some (nv k),some (.int d),some (.ref H.length),o] H':=λo e=>hN _ _ rfl (.mk acc o rfl x a (by rw[e] at ht;exact ht) (λc hc=>b c (.tail _ hc)))
  refine(?_:bW (decide (p.bH<=d)==true) _ _)
  refine e8 (λh1=>?_) λh1=>?_
  ·refine bB (hf (x l _ hA) hc ?_)
   apply aG (ux)
   refine da (λh2=>?_) λh2=>no _ (by rw[h2,Bool.and_false])
   rw[h1,h2] at ht
   exact jd a (je a (by rw[length_map];exact mB ht (le_trans (kB ps d k) (le_trans hl (by decide)))) (hN _ _ rfl (.mk (acc++[c]) _ rfl (x.set (le_refl _) _) (by rw[<-qg];exact f9 a _) (jt ht) (λc hc=>b c (.tail _ hc)))))
  ·refine(?_:bW (decide (p.bH<=d)) _ _)
   exact da (λh2=>absurd (h1.symm.trans h2) Bool.false_ne_true) λζ=>no _ (by rw[h1,Bool.false_and])
 ·refine h _ λacc o e x a t b=>?_
  subst e
  rw[filter_nil,append_nil] at t
  exact q _ _ (le_refl _) x (t▸a)
theorem uy{d:Int}{ps:List aO}(hA:H[l]?=some (.list (ps.map bO)))(hl:ps.length<=20)(q:∀lc H',H.length<=lc->aI H H'->H'[lc]?=some (.list (bb (kids ps d k)))->Q (.ref lc) H'):aM (n+2) oX [.ref l,nv k,.int d] H Q:=Py (F2 (λa b q=>Aj a b q) hA hl q)
end
noncomputable def ee(ps:List aO)(b:Int):Nat:=ps.countP λq=>decide (b<q.bH)
theorem Qs{b b':Int}(h:b<=b')(ps:List aO):ee ps b'<=ee ps b:=List.countP_mono_left λq ζ hq=>decide_eq_true (Int.lt_of_le_of_lt h (of_decide_eq_true hq))
theorem Al{b:Int}{q:aO}(hb:b<q.bH):∀{ps:List aO},q∈ps->ee ps q.bH<ee ps b
 |p::r,h=>by
  refine(?_:countP _ (p::r)<countP _ (p::r))
  rw[countP_cons,countP_cons]
  rcases mem_cons.mp h with e|h
  ·rw[<-e,decide_eq_false (Int.lt_irrefl _),decide_eq_true hb]
   exact lt_succ_of_le (Qs (Int.le_of_lt hb) r)
  ·refine Nat.add_lt_add_of_lt_of_le (Al hb h) ?_
   by_cases h1:q.bH<p.bH
   ·rw[decide_eq_true h1,decide_eq_true (Int.lt_trans hb h1)];exact le_refl _
   ·rw[decide_eq_false h1];exact zero_le _
theorem nE{ps:List aO}{q:aO}(h:q∈ps):ee ps q.bH<ps.length:=lt_of_lt_of_le (Al (b:=q.bH - 1) (Int.sub_lt_self _ (by decide)) h) List.countP_le_length
noncomputable def jf(ps:List aO)(b:Int)(j:Nat):Prop:=∃q,ps[j]?=some q/\q.bH<b
noncomputable def ju(l:List Nat):Prop:=l.length<=2/\l.Nodup
noncomputable def oG(ps:List aO)(p:aO):Prop:=∀WfOneζ:Prop,(∀(a:∀j∈p.bL,jf ps p.bH j) (b:∀x,p.ad=some x->∀j∈x.2,jf ps p.bH j) (c:ju p.bL) (d:∀x,p.ad=some x->ju x.2) (z:0<=p.bH),WfOneζ)->WfOneζ
theorem oG.mk{ps:List aO}{p:aO}(a:∀j∈p.bL,jf ps p.bH j)(b:∀x,p.ad=some x->∀j∈x.2,jf ps p.bH j)(c:ju p.bL)(d:∀x,p.ad=some x->ju x.2)(z:0<=p.bH):oG ps p:=λζ bw=>bw a b c d z
noncomputable def cw(ps:List aO):Prop:=∀(k:Nat) p,ps[k]?=some p->oG ps p
theorem F3{ps:List aO}{p:aO}{P:List Nat->Prop}(h1:P p.bL)(h2:∀x,p.ad=some x->P x.2)(d:Int):P (dq p d):=by
 unfold dq
 cases h:p.ad with
 |none=>exact h1
 |some a=>
  refine(?_:P (if a.1<=d then a.2 else p.bL))
  split
  ·exact h2 a h
  ·exact h1
theorem mC{ps:List aO}(hW:cw ps){k:Nat}{p:aO}(hp:ps[k]?=some p)(d:Int):∀j∈dq p d,jf ps p.bH j:=(hW k p hp) _ λa b ζ ζ ζ=>F3 (ps:=ps) (P:=λl=>∀j∈l,jf ps p.bH j) a b d
theorem F4{ps:List aO}(hW:cw ps){k:Nat}{p:aO}(hp:ps[k]?=some p)(d:Int):ju (dq p d):=(hW k p hp) _ λζ ζ a b ζ=>F3 (ps:=ps) (P:=ju) a b d
theorem uz{ps:List aO}(hW:cw ps){k:Nat}{p:aO}(hp:ps[k]?=some p)(d:Int):(dq p d).length<=2:=(F4 hW hp d).1
theorem Am{ps:List aO}{d:Int}{k c:Nat}{M:Prop}(h:ie ps d k c=true)(f:∀q,ps[c]?=some q->k∈dq q d->M):M:=by
 unfold ie at h
 cases hq:ps[c]? with
 |none=>rw[hq] at h;exact absurd h Bool.false_ne_true
 |some q=>rw[hq] at h;exact f q hq (of_decide_eq_true (and_eq_true_iff.mp h).2)
theorem nF{ps:List aO}(hW:cw ps){d:Int}{k c:Nat}{p:aO}(hp:ps[k]?=some p){M:Prop}(h:c∈kids ps d k)(f:∀q,ps[c]?=some q->p.bH<q.bH->ee ps q.bH<ee ps p.bH->M):M:=
 Am (mem_filter.mp h).2 λq hq hm=>(mC hW hq d k hm).elim λq2 h2=>by
  rw[hp] at h2
  obtain⟨e,bX⟩:=h2
  cases e
  exact f q hq bX (Al bX (mem_of_getElem? hq))
noncomputable def lv(ps:List aO)(d:Int)(k:Nat):Bool:=match ps[k]? with
 |some p=>dD p d
 |none=>false
theorem iB{ps:List aO}{d:Int}{k:Nat}{p:aO}(h:ps[k]?=some p):lv ps d k=dD p d:=by unfold lv;rw[h]
noncomputable def bV(ps:List aO)(d:Int):Nat->Nat->Bool
 |0,_=>false
 |f+1,k=>lv ps d k||(kids ps d k).any (bV ps d f)
noncomputable def An(ps:List aO)(d:Int)(f k l lc:Nat)(H:Hp)(as:List Nat)(ρ:aV)(H':Hp):Prop:=∀LnIζ:Prop,(∀(o:Option V) (e:ρ=[some (.ref l),some (nv k),some (.int d),o]) (x:aI H H') (a:H'[lc]?=some (.list (bb (kids ps d k)))) (t:as.any (bV ps d f)=bV ps d (f+1) k) (b:∀c∈as,c∈kids ps d k),LnIζ)->LnIζ
theorem An.mk{ps:List aO}{d:Int}{f k l lc:Nat}{H:Hp}{as:List Nat}{ρ:aV}{H':Hp}(o:Option V)(e:ρ=[some (.ref l),some (nv k),some (.int d),o])(x:aI H H')(a:H'[lc]?=some (.list (bb (kids ps d k))))(t:as.any (bV ps d f)=bV ps d (f+1) k)(b:∀c∈as,c∈kids ps d k):An ps d f k l lc H as ρ H':=λζ bw=>bw o e x a t b
section
variable{Q:PQ}{l:Nat}
theorem Ao{d:Int}{ps:List aO}(hW:cw ps)(hl:ps.length<=20){n:Nat}:∀{f k:Nat} {p:aO} {H:Hp} {Q:PQ},H[l]?=some (.list (ps.map bO))->ps[k]?=some p->ee ps p.bH<f->(∀H',aI H H'->Q (.bool (bV ps d f k)) H')->aM (n+f+2) oY [.ref l,nv k,.int d] H Q
 |0,k,p,H,Q,_,_,hf,_=>absurd hf (not_lt_zero _)
 |f+1,k,p,H,Q,hA,hp,hf,q=>Pz (by
  have e0:bV ps d (f+1) k=(dD p d||(kids ps d k).any (bV ps d f)):=by rw[<-iB hp];rfl
  refine bB (oE hA hp ?_)
  refine(?_:bW (dD p d) _ _)
  refine da (λh=>?_) λh=>?_
  ·rw[h] at e0
   have:=q H (aI.refl H)
   rw[e0] at this
   exact this
  ·rw[h] at e0
   refine bB (uy (n:=n+f) hA hl λlc H₁ ζ x hc=>?_)
   apply aG (dz hc)
   refine d9 (An ps d f k l lc H) (λc as ρ H' h=>?_) (λρ H' h=>?_) _ _ _ (.mk _ rfl x hc e0.symm (λc h=>h))
   ·refine h _ λo e x' a t b=>?_
    subst e
    refine λN hN=>?_
    refine nF hW hp (b c mem_cons_self) λp' d8 ζ hy=>?_
    rw[any_cons] at t
    refine bB (Ao hW hl (x' l _ hA) d8 (lt_of_lt_of_le hy (le_of_lt_succ hf)) λH₂ cf=>?_)
    refine(?_:bW (bV ps d f c) _ _)
    refine da (λh2=>?_) λh2=>?_
    ·rw[h2] at t
     have:=q H₂ (x'.trans cf)
     rw[<-t] at this
     exact this
    ·rw[h2] at t
     exact hN _ _ (dr hc (cf _ _ a)) (.mk _ rfl (x'.trans cf) (cf _ _ a) t (λc hc=>b c (.tail _ hc)))
   ·refine h _ λo e x' a t b=>?_
    subst e
    have:=q H' x'
    rw[<-t] at this
    exact this)
end
noncomputable def rv(x:Rat):V:=.aP [.int x.num,.int (x.den:Int)]
noncomputable def Sm(b:Nat)(x:Rat):Prop:=x.num.natAbs<2^b/\x.den<2^b
theorem F5{a:Int}{d:Nat}(hd:d≠0):rv (Rat.normalize a d hd)=.aP [.int (a.fdiv (gcd a d)),.int ((d:Int).fdiv (gcd a d))]:=by
 rw[Rat.normalize_eq,Int.fdiv_eq_ediv_of_nonneg _ (natCast_nonneg _),Int.fdiv_eq_ediv_of_nonneg _ (natCast_nonneg _)]
 rfl
theorem Sm.qh{b:Nat}{a:Int}{d:Nat}(hd:d≠0)(ha:a.natAbs<2^b)(h:d<2^b):Sm b (Rat.normalize a d hd):=by
 rw[Rat.normalize_eq]
 exact⟨lt_of_le_of_lt (Int.natAbs_ediv_le_natAbs _ _) ha,lt_of_le_of_lt (Nat.div_le_self _ _) h⟩
theorem oH{a b i j:Nat}(ha:a<2^i)(hb:b<2^j):a*b<2^(i+j):=by
 rw[Nat.pow_add]
 exact Nat.mul_lt_mul_of_lt_of_le ha (le_of_lt hb) (Nat.two_pow_pos j)
theorem Sm.le{b c:Nat}{x:Rat}(h:Sm b x)(e:b<=c):Sm c x:=⟨lt_of_lt_of_le h.1 (pow_le_pow_right (by decide) e),lt_of_lt_of_le h.2 (pow_le_pow_right (by decide) e)⟩
theorem Sm.mul{i j:Nat}{x y:Rat}(hx:Sm i x)(hy:Sm j y):Sm (i+j) (x*y):=by
 rw[Rat.mul_def]
 exact Sm.qh _ (by rw[natAbs_mul];exact oH hx.1 hy.1) (oH hx.2 hy.2)
theorem F6{a b i:Nat}(ha:a<2^i)(hb:b<2^i):a+b<2^(i+1):=by rw[pow_succ,Nat.mul_two];exact Nat.add_lt_add ha hb
theorem Sm.sub{i j:Nat}{x y:Rat}(hx:Sm i x)(hy:Sm j y):Sm (i+j+1) (x - y):=by
 rw[Rat.sub_def]
 refine Sm.qh _ (lt_of_le_of_lt (Int.natAbs_sub_le _ _) ?_) (lt_of_lt_of_le (oH hx.2 hy.2) (pow_le_pow_right (by decide) (le_succ _)))
 rw[natAbs_mul,natAbs_mul]
 exact F6 (oH hx.1 hy.2) (by rw[add_comm];exact oH hy.1 hx.2)
theorem F7{a:Int}{i:Nat}(h:a.natAbs<2^i):Builtin.Int.intBits a<=i:=by
 unfold Builtin.Int.intBits
 split
 ·exact zero_le _
 ·rename_i h0
  exact(Nat.log2_lt λe=>h0 (by rw[Int.natAbs_eq_zero.mp e];rfl)).mpr h
theorem ig{a b:Int}{i j:Nat}(ha:a.natAbs<2^i)(hb:b.natAbs<2^j)(h:i+j<=1000000):binI .mul a b=some (a*b):=by
 refine if_pos ?_
 have e:Builtin.Int.intTooBig (Builtin.Int.intBits a+Builtin.Int.intBits b)=false:=decide_eq_false λq=>absurd (le_trans (add_le_add (F7 ha) (F7 hb)) h) (not_le.mpr (lt_of_le_of_lt (by decide:1000000<=bitsLine) (ofNat_lt.mp q)))
 unfold yM
 rw[e,Bool.and_false];rfl
section
variable{n:Nat}{H:Hp}{Q:PQ}{a:Int}{d:Nat}
theorem qi(hd:d≠0)(k:Q (rv (Rat.normalize a d hd)) H):aM (n+1) l4 [.int a,nv d] H Q:=Qo (ofNat_lt.mpr (pos_of_ne_zero hd)) (F5 hd▸k)
theorem F8(hd:d≠0)(k:Q (rv (Rat.normalize a d hd)) H):aM (n+1) o0 [.int a,nv d] H Q:=Qp (ofNat_lt.mpr (pos_of_ne_zero hd)) (F5 hd▸k)
section
variable{x y:Rat}{i j:Nat}(hx:Sm i x)(hy:Sm j y)(h:i+j<=1000000)
include hx hy h
theorem uA(k:Q (rv (x*y)) H):aM (n+2) oZ [rv x,rv y] H Q:=PJ (by
 apply aG (ig hx.1 hy.1 h)
 apply aG (ig (a:=(x.den:Int)) (b:=(y.den:Int)) hx.2 hy.2 h)
 rw[Rat.mul_def] at k
 exact bB (qi _ k))
theorem F9(k:Q (rv (x+y)) H):aM (n+2) u7 [rv x,rv y] H Q:=PG (by
 apply aG (ig (b:=(y.den:Int)) hx.1 hy.2 h)
 apply aG (ig (b:=(x.den:Int)) hy.1 hx.2 (by rw[add_comm];exact h))
 apply aG (ig (a:=(x.den:Int)) (b:=(y.den:Int)) hx.2 hy.2 h)
 rw[Rat.add_def] at k
 exact bB (qi _ k))
theorem Ga(k:Q (rv (x - y)) H):aM (n+2) u9 [rv x,rv y] H Q:=PH (by
 apply aG (ig (b:=(y.den:Int)) hx.1 hy.2 h)
 apply aG (ig (b:=(x.den:Int)) hy.1 hx.2 (by rw[add_comm];exact h))
 apply aG (ig (a:=(x.den:Int)) (b:=(y.den:Int)) hx.2 hy.2 h)
 rw[Rat.sub_def] at k
 exact bB (qi _ k))
end
theorem Aq{m:Nat}(hm:m≠0)(hb:m<2^5)(k:Q (rv (mkRat 1 m)) H):aM (n+2) s4 [.aP [.int 1,.int 1],nv m] H Q:=PK (by
 have e:∀m',m'=m->∀h,Q (rv (Rat.normalize 1 m' h)) H:=by intro m' e h;rw[Rat.normalize_eq_mkRat,e];exact k
 exact bB (qi (d:=1*m) (by rw[one_mul];exact hm) (e _ (one_mul m) _)))
theorem Sm.inv{m:Nat}(hm:m≠0)(hb:m<2^5):Sm 5 (mkRat 1 m):=by rw[<-Rat.normalize_eq_mkRat hm];exact Sm.qh hm (by decide) hb
end
noncomputable def br(r:Nat)(H H':Hp):Prop:=∀(l:Nat) (c:bc),l≠r->H[l]?=some c->H'[l]?=some c
theorem br.refl(r:Nat)(H:Hp):br r H H:=λζ ζ ζ h=>h
theorem br.trans{r:Nat}{H H₁ H₂:Hp}(a:br r H H₁)(b:br r H₁ H₂):br r H H₂:=λl c n h=>b l c n (a l c n h)
theorem aI.b{H H':Hp}(h:aI H H')(r:Nat):br r H H':=λl c ζ e=>h l c e
theorem br.ba(r:Nat)(H t:Hp):br r H (H++t):=(aI.ba H t).b r
theorem br.set(r:Nat)(H:Hp)(c:bc):br r H (H.set r c):=λl c' n h=>kX h c λe=>n e.symm
theorem br.ext{r:Nat}{H H₁ H':Hp}(h:br r H₁ H')(x:aI H H₁)(hr:H.length<=r):aI H H':=λl c e=>h l c (λq=>absurd (cT e) (not_lt.mpr (q▸hr))) (x l c e)
inductive dA{α β:Type}(R:α->β->Prop):List α->List β->Prop
 |nil:dA R [] []
 |cons {a:α} {v:β} {as:List α} {vs:List β}:R a v->dA R as vs->dA R (a::as) (v::vs)
theorem dA.imp{α β:Type}{R R':α->β->Prop}{as:List α}{vs:List β}(h:dA R as vs)(f:∀a v,R a v->R' a v):dA R' as vs:=h.rec (motive:=λas vs ζ=>dA R' as vs) .nil λr ζ ih=>.cons (f _ _ r) ih
theorem dA.imp'{α β:Type}{R R':α->β->Prop}{as:List α}{vs:List β}(h:dA R as vs):(∀a v,a∈as->R a v->R' a v)->dA R' as vs:=h.rec (motive:=λas vs ζ=>(∀a v,a∈as->R a v->R' a v)->dA R' as vs) (λζ=>.nil) λr ζ ih f=>.cons (f _ _ mem_cons_self r) (ih λa v m=>f a v (.tail _ m))
theorem dA.snoc{α β:Type}{R:α->β->Prop}{as:List α}{vs:List β}(h:dA R as vs){a:α}{v:β}(r:R a v):dA R (as++[a]) (vs++[v]):=h.rec (motive:=λas vs ζ=>dA R (as++[a]) (vs++[v])) (.cons r .nil) λr ζ ih=>.cons r ih
theorem dA.len{α β:Type}{R:α->β->Prop}{as:List α}{vs:List β}(h:dA R as vs):vs.length=as.length:=by
 induction h with
 |nil=>rfl
 |cons _ _ ih=>exact congrArg Nat.succ ih
section
variable{ws:List Nat}{H₀:Hp}{t:cV}{K:Out->Prop}{α:Type}{R:α->V->Prop}
theorem uB{body:aV->Hp->(Out->Prop)->Prop}(I:List α->aV->Hp->Prop)(step:∀a v as ρ H,R a v->I (a::as) ρ H->be (aX t v ρ) λcb=>∀N:aV->Hp->Prop,(∀gi H₁,d6 ws H₀ H₁=true->I as gi H₁->N gi H₁)->body cb H (n5 K N))(fin:∀ρ H,I [] ρ H->K (.next ρ H)){as:List α}{vs:List V}(h:dA R as vs):∀ρ H,I as ρ H->n6 ws H₀ t body vs ρ H K:=
 h.rec (motive:=λas vs ζ=>∀ρ H,I as ρ H->n6 ws H₀ t body vs ρ H K) fin λr ζ ih ρ H h=>uv (step _ _ _ ρ H r h) λcb hb=>hb _ λgi H₁ hs hi=>⟨hs,ih gi H₁ hi⟩
end
structure Row where
 dQ:Nat
 gT:Rat
 line:List Nat
noncomputable def kC(b:Nat)(H:Hp)(r:Row)(v:V):Prop:=∀RowAtζ:Prop,(∀(l:Nat) (hb:b<=l) (e:v=.aP [nv r.dQ,rv r.gT,.ref l]) (a:H[l]?=some (.list (bb r.line))),RowAtζ)->RowAtζ
theorem kC.mk{b:Nat}{H:Hp}{r:Row}{v:V}(l:Nat)(hb:b<=l)(e:v=.aP [nv r.dQ,rv r.gT,.ref l])(a:H[l]?=some (.list (bb r.line))):kC b H r v:=λζ bw=>bw l hb e a
theorem kC.mono{b b':Nat}{H H':Hp}{r:Row}{v:V}(h:kC b H r v)(f:∀(l:Nat) c,b<=l->H[l]?=some c->b'<=l/\H'[l]?=some c):kC b' H' r v:=h _ λl hb e a=>(.mk l ((f l _ hb a).1) e ((f l _ hb a).2))
noncomputable abbrev iC(b:Nat)(H:Hp):List Row->List V->Prop:=dA (kC b H)
theorem iC.b{r:Nat}{H H':Hp}{rs:List Row}{vs:List V}(h:iC (r+1) H rs vs)(x:br r H H'):iC (r+1) H' rs vs:=h.imp λζ ζ h=>h.mono λl c hb e=>⟨hb,x l c (ne_of_gt hb) e⟩
noncomputable def dO(ps:List aO)(d:Int)(cs:List Nat):List Nat:=cs.filter (bV ps d 20)
noncomputable def up(k:Nat)(s:Rat)(r:Row):Row:=⟨r.dQ,s*r.gT,k::r.line⟩
noncomputable def rowsOf(ps:List aO)(d:Int)(rec:Nat->List Row)(k:Nat)(s:Rat)(c:Nat):List Row:=if lv ps d c then[⟨c,s,[k,c]⟩] else(rec c).map (up k s)
noncomputable def gU(ps:List aO)(d:Int)(rec:Nat->List Row)(k:Nat)(ts:List Nat):List Row:=ts.flatMap (rowsOf ps d rec k (mkRat 1 ts.length))
noncomputable def gb(ps:List aO)(d:Int):Nat->Nat->List Row
 |0,_=>[]
 |f+1,k=>gU ps d (gb ps d f) k (dO ps d (kids ps d k))
noncomputable def wO(H:Hp)(rs:List Row)(Q:PQ):Prop:=∀lr vs H',H.length<=lr->aI H H'->H'[lr]?=some (.list vs)->iC (lr+1) H' rs vs->Q (.ref lr) H'
noncomputable def Ar(ps:List aO)(d:Int)(de:aV)(H:Hp)(cs as:List Nat)(acc:List V)(ρ:aV)(H':Hp):Prop:=∀TkIζ:Prop,(∀(o:Option V) (an:List Nat) (e:ρ=o::de) (x:aI H H') (ea:acc=bb an) (t:an++dO ps d as=dO ps d cs) (b:∀c∈as,c∈cs),TkIζ)->TkIζ
theorem Ar.mk{ps:List aO}{d:Int}{de:aV}{H:Hp}{cs as:List Nat}{acc:List V}{ρ:aV}{H':Hp}(o:Option V)(an:List Nat)(e:ρ=o::de)(x:aI H H')(ea:acc=bb an)(t:an++dO ps d as=dO ps d cs)(b:∀c∈as,c∈cs):Ar ps d de H cs as acc ρ H':=λζ bw=>bw o an e x ea t b
noncomputable def As(ps:List aO)(d:Int)(rec:Nat->List Row)(l k lc lt lr:Nat)(H₁:Hp)(s:Rat)(tot:List Row)(ts as:List Nat)(ρ:aV)(H':Hp):Prop:=∀LtIζ:Prop,(∀(a6 a7 a8 a9 gr:Option V) (rs:List Row) (vs:List V) (e:ρ=[some (.ref l),some (nv k),some (.ref lc),some (.int d),some (.ref lt),some (.ref lr),a6,a7,a8,a9,gr]) (x:br lr H₁ H') (a:H'[lr]?=some (.list vs)) (r:iC (lr+1) H' rs vs) (t:rs++as.flatMap (rowsOf ps d rec k s)=tot) (b:∀c∈as,c∈ts),LtIζ)->LtIζ
theorem As.mk{ps:List aO}{d:Int}{rec:Nat->List Row}{l k lc lt lr:Nat}{H₁:Hp}{s:Rat}{tot:List Row}{ts as:List Nat}{ρ:aV}{H':Hp}(a6 a7 a8 a9 gr:Option V)(rs:List Row)(vs:List V)(e:ρ=[some (.ref l),some (nv k),some (.ref lc),some (.int d),some (.ref lt),some (.ref lr),a6,a7,a8,a9,gr])(x:br lr H₁ H')(a:H'[lr]?=some (.list vs))(r:iC (lr+1) H' rs vs)(t:rs++as.flatMap (rowsOf ps d rec k s)=tot)(b:∀c∈as,c∈ts):As ps d rec l k lc lt lr H₁ s tot ts as ρ H':=λζ bw=>bw a6 a7 a8 a9 gr rs vs e x a r t b
noncomputable def wQ(l k lr:Nat)(x2 x3 x4 x5 x6:Option V)(H₁:Hp)(s:Rat)(tot rest:List Row)(as:List Row)(ρ:aV)(H':Hp):Prop:=∀LuIζ:Prop,(∀(a8 a9 gr:Option V) (rs:List Row) (vs:List V) (e:ρ=[some (.ref l),some (nv k),x2,x3,x4,x5,x6,some (rv s),a8,a9,gr]) (x:br lr H₁ H') (a:H'[lr]?=some (.list vs)) (r:iC (lr+1) H' rs vs) (t:rs++(as.map (up k s)++rest)=tot),LuIζ)->LuIζ
theorem wQ.mk{l k lr:Nat}{x2 x3 x4 x5 x6:Option V}{H₁:Hp}{s:Rat}{tot rest:List Row}{as:List Row}{ρ:aV}{H':Hp}(a8 a9 gr:Option V)(rs:List Row)(vs:List V)(e:ρ=[some (.ref l),some (nv k),x2,x3,x4,x5,x6,some (rv s),a8,a9,gr])(x:br lr H₁ H')(a:H'[lr]?=some (.list vs))(r:iC (lr+1) H' rs vs)(t:rs++(as.map (up k s)++rest)=tot):wQ l k lr x2 x3 x4 x5 x6 H₁ s tot rest as ρ H':=λζ bw=>bw a8 a9 gr rs vs e x a r t
section
variable{n:Nat}{l lc k:Nat}{H:Hp}{Q:PQ}
theorem lN{a b:Nat}{xs ys:List V}(ha:H[a]?=some (.list xs))(hb:H[b]?=some (.list ys))(hs:(xs++ys).length<16000000)(q:Q (.ref H.length) (H++[.list (xs++ys)])):tB .add (.ref a) (.ref b) H Q:=by
 refine cK (t:=decide (kI.add=kI.add)) (decide_eq_true rfl) (aG (cN ha) ?_)
 exact aG (cN hb) (cK (cO hs) q)
noncomputable def kD(f:Nat)(r:Row):Prop:=Sm (5*f) r.gT/\r.line.length<=f+1
theorem Gb{d:Int}{ps:List aO}(hW:cw ps)(hl:ps.length<=20){rec:Nat->List Row}{cs:List Nat}(eA:cs.length<=20)(rK:∀c∈cs,∃p,ps[c]?=some p)(hr:∀c∈cs,∀r∈rec c,kD 21 r)(ht:(gU ps d rec k (dO ps d cs)).length<=16000000)
  (IH:∀c∈cs,∀(H:Hp) (Q:PQ),H[l]?=some (.list (ps.map bO))->wO H (rec c) Q->aM (n+23) qO [.ref l,nv c,.int d] H Q)
  (hA:H[l]?=some (.list (ps.map bO))) (hC:H[lc]?=some (.list (bb cs))) (q:wO H (gU ps d rec k (dO ps d cs)) Q):aM (n+24) vb [.ref l,nv k,.ref lc,.int d] H Q:=PL (by
 apply aG (dz hC)
 refine cK (cO (by rw[length_map];exact lt_of_le_of_lt eA (by decide))) ?_
 refine uw (Ar ps d [some (.ref l),some (nv k),some (.ref lc),some (.int d),none,none,none,none,none,none,none] H cs) (λc as acc ρ H' h=>?_) (λacc ρ H' h=>?_) _ _ _ _ (.mk none [] rfl (aI.refl H) rfl rfl (λc h=>h))
 ·refine h _ λo an e x ea t b=>?_
  subst e
  refine λN hN=>?_
  refine(rK c (b c mem_cons_self)).elim λp hp=>?_
  have t':an++(if bV ps d 20 c then c::dO ps d as else dO ps d as)=dO ps d cs:=by rw[<-t];unfold dO;rw[filter_cons]
  refine bB (Ao (n:=n+1) (f:=20) hW hl (x l _ hA) hp (lt_of_lt_of_le (nE (mem_of_getElem? hp)) hl) λH₂ cf=>?_)
  have st:d6 [lc] H H₂=true:=dr hC ((x.trans cf) _ _ hC)
  refine(?_:bW (bV ps d 20 c) _ _)
  refine da (λh2=>?_) λh2=>?_
  ·rw[h2] at t'
   exact hN _ _ st (.mk _ (an++[c]) rfl (x.trans cf) (by rw[ea];exact qg an c) (jt t') (λc hc=>b c (.tail _ hc)))
  ·rw[h2] at t'
   exact hN _ _ st (.mk _ an rfl (x.trans cf) ea t' (λc hc=>b c (.tail _ hc)))
 ·refine h _ λo an e x ea t b=>?_
  subst ea
  rw[show dO ps d []=[] from rfl,append_nil] at t
  subst t
  generalize lO:dO ps d cs=ts at *
  have hm:∀c∈ts,c∈cs:=λc h=>(mem_filter.mp (show c∈cs.filter _ from lO▸h)).1
  have bX:ts.length<=20:=le_trans (le_trans (le_of_eq (congrArg List.length lO.symm)) (length_filter_le _ _)) eA
  generalize hs:mkRat 1 ts.length=s
  have lL:ts≠[]->Sm 5 s:=λh=>hs▸Sm.inv (λe=>h (eq_nil_of_length_eq_zero e)) (lt_of_le_of_lt bX (by decide))
  have a1:(H'++[bc.list (bb ts)]++[bc.list []])[H'.length]?=some (.list (bb ts)):=bz _ (bq _ _)
  apply aG (dz a1)
  have ky:H'.length<(H'++[bc.list (bb ts)]).length:=by rw[length_append];exact lt_succ_self _
  refine d9 (As ps d rec l k lc H'.length (H'++[bc.list (bb ts)]).length (H'++[bc.list (bb ts)]++[bc.list []]) s (gU ps d rec k ts) ts) (λc as ρ H₂ h=>?_) (λρ H₂ h=>?_) _ _ _ (.mk none none none none none [] [] rfl (br.refl _ _) (bq _ _) .nil (by rw[<-hs];rfl) (λc h=>h))
  ·refine h _ λa6 a7 a8 a9 gr rs vs e cf a r t b=>?_
   subst e
   refine λN hN=>?_
   have jN:=cf _ _ (ne_of_lt ky) a1
   have co:aI H H₂:=cf.ext (x.trans ((aI.ba _ _).trans (aI.ba _ _))) (le_trans x.len (le_of_lt ky))
   have hc:=b c mem_cons_self
   have b8:ts≠[]:=ne_nil_of_mem hc
   refine(rK c (hm c hc)).elim λp hp=>?_
   rw[flatMap_cons,show rowsOf ps d rec k s c=if dD p d then[⟨c,s,[k,c]⟩] else(rec c).map (up k s) by rw[<-iB hp];rfl] at t
   apply aG (cN jN)
   rw[length_map]
   refine bB (Aq (λe=>b8 (eq_nil_of_length_eq_zero e)) (lt_of_le_of_lt bX (by decide)) ?_)
   rw[hs]
   refine bB (oE (co l _ hA) hp ?_)
   refine(?_:bW (dD p d) _ _)
   refine da (λh2=>?_) λh2=>?_
   ·rw[h2] at t
    have t:rs++(⟨c,s,[k,c]⟩::as.flatMap (rowsOf ps d rec k s))=gU ps d rec k ts:=t
    refine jd a (je (bz _ a) (by rw[r.len];exact mB t ht) (hN _ _ (dr a1 (kX (bz _ jN) _ (ne_of_gt ky))) (.mk _ _ _ _ _ (rs++[⟨c,s,[k,c]⟩]) _ rfl (cf.trans ((br.ba _ _ _).trans (br.set _ _ _))) (f9 (bz _ a) _) ((r.b ((br.ba _ _ _).trans (br.set _ _ _))).snoc (.mk H₂.length (cT a) rfl (kX (bq _ _) _ (ne_of_lt (cT a))))) (jt t) (λc hc=>b c (.tail _ hc)))))
   ·rw[h2] at t
    have t:rs++((rec c).map (up k s)++as.flatMap (rowsOf ps d rec k s))=gU ps d rec k ts:=t
    refine bB (IH c (hm c hc) _ _ (co l _ hA) λlb us H₃ hb dX ab rb=>?_)
    have a':=dX _ _ a
    have oI:=lt_of_lt_of_le (cT a) hb
    apply aG (dz ab)
    refine uB (R:=λr v=>r∈rec c/\kC (lb+1) H₃ r v) (wQ l k (H'++[bc.list (bb ts)]).length (some (.ref lc)) (some (.int d)) (some (.ref H'.length)) (some (.ref (H'++[bc.list (bb ts)]).length)) (some (nv c)) H₃ s (gU ps d rec k ts) (as.flatMap (rowsOf ps d rec k s))) (λrw v bs ρ H₄ hv h=>?_) (λρ H₄ h=>?_) (rb.imp' λr v hr hv=>⟨hr,hv⟩) _ _ (.mk _ _ _ rs vs rfl (br.refl _ _) a' (r.b (dX.b _)) t)
    ·refine hv.2 _ λll jK e al=>?_
     subst e
     refine h _ λa8 a9 gr rs vs e gv a r t=>?_
     subst e
     refine λN' hZ=>?_
     have sr:=hr c (hm c hc) _ hv.1
     have nl:ll≠(H'++[bc.list (bb ts)]).length:=ne_of_gt (lt_trans oI jK)
     refine jd a (bB (uA (lL b8) sr.1 (by decide) ?_))
     refine lN (bq _ _) (bz _ (gv _ _ nl al)) (by rw[length_append,length_map];exact lt_of_le_of_lt (add_le_add_left sr.2 _) (show 1+(21+1)<16000000 by decide)) ?_
     have fy:br (H'++[bc.list (bb ts)]).length H₄ _:=(br.ba _ H₄ [bc.list [nv k]]).trans ((br.ba _ _ [bc.list (bb (k::rw.line))]).trans (br.set _ _ (.list (vs++[.aP [nv rw.dQ,rv (s*rw.gT),.ref (H₄++[bc.list [nv k]]).length]]))))
     refine je (bz _ (bz _ a)) (by rw[r.len];exact mB t ht) (hZ _ _ (dr ab ((gv.trans fy) _ _ (ne_of_gt oI) ab)) (.mk _ _ _ (rs++[up k s rw]) _ rfl (gv.trans fy) (f9 (bz _ (bz _ a)) _) ((r.b fy).snoc (.mk ((H₄++[bc.list [nv k]]).length) (cT (bz _ a)) rfl (kX (bq _ _) _ (ne_of_lt (cT (bz _ a)))))) (jt t)))
    ·refine h _ λa8 a9 gr rs vs e gv a r t=>?_
     subst e
     have fy:=(dX.b (H'++[bc.list (bb ts)]).length).trans gv
     exact hN _ _ (dr a1 (fy _ _ (ne_of_lt ky) jN)) (.mk _ _ _ _ _ rs vs rfl (cf.trans fy) a r t (λc hc=>b c (.tail _ hc)))
  ·refine h _ λa6 a7 a8 a9 gr rs vs e cf a r t b=>?_
   subst e
   rw[flatMap_nil,append_nil] at t
   exact q _ vs _ (le_trans x.len (le_of_lt ky)) (cf.ext (x.trans ((aI.ba _ _).trans (aI.ba _ _))) (le_trans x.len (le_of_lt ky))) a (t▸r))
end
noncomputable def wt(w:Int->Nat)(b:Int)(q:aO):Nat:=if b<q.bH then w q.bH else 0
theorem Gc(w:Int->Nat)(b:Int):∀l:List aO,(l.map (wt w (b - 1))).sum=(l.map (wt w b)).sum+l.countP (λq=>decide (q.bH=b))*w b
 |[]=>by rw[List.countP_nil,zero_mul];rfl
 |q::r=>by
  rw[map_cons,map_cons,sum_cons,sum_cons,Gc w b r,countP_cons,Nat.add_mul]
  unfold wt
  by_cases h:q.bH=b
  ·rw[if_pos (by rw[h];exact Int.sub_lt_self b (by decide)),if_neg (by rw[h];exact Int.lt_irrefl b),decide_eq_true h,h]
   simp only[if_true,one_mul];lia
  ·rw[decide_eq_false h]
   by_cases h2:b<q.bH
   ·rw[if_pos h2,if_pos (Int.lt_of_le_of_lt (Int.sub_le_self b (by decide)) h2)]
    simp only[false_eq_true,if_false,zero_mul];lia
   ·rw[if_neg h2,if_neg (Int.not_lt.mpr (Int.le_sub_one_of_lt (Int.lt_iff_le_and_ne.mpr ⟨Int.not_lt.mp h2,h⟩)))]
    simp only[false_eq_true,if_false,zero_mul];lia
theorem Gd(b:Int):∀l:List aO,ee l (b - 1)=ee l b+l.countP (λq=>decide (q.bH=b))
 |[]=>rfl
 |q::r=>by
  have ih:=Gd b r
  unfold ee at *
  rw[countP_cons,countP_cons,countP_cons,ih]
  by_cases h:q.bH=b
  ·rw[decide_eq_true h,decide_eq_true (show b - 1<q.bH by rw[h];exact Int.sub_lt_self b (by decide)),decide_eq_false (show ¬b<q.bH by rw[h];exact Int.lt_irrefl _)];rfl
  ·rw[decide_eq_false h]
   by_cases h2:b<q.bH
   ·rw[decide_eq_true h2,decide_eq_true (show b - 1<q.bH from Int.lt_of_le_of_lt (Int.sub_le_self b (by decide)) h2)];exact add_right_comm _ _ 1
   ·rw[decide_eq_false h2,decide_eq_false (show ¬b - 1<q.bH from Int.not_lt.mpr (Int.le_sub_one_of_lt (Int.lt_iff_le_and_ne.mpr ⟨Int.not_lt.mp h2,h⟩)))];rfl
theorem Ge(ps:List aO)(B:Int)(hB:∀q∈ps,q.bH<=B):∀j:Nat,(ps.map (wt (λb=>2^ee ps b) (B - j))).sum<2^ee ps (B - j)
 |0=>by
  have e:∀l:List aO,(∀q∈l,q.bH<=B)->(l.map (wt (λb=>2^ee ps b) (B - (0:Nat)))).sum=0:=λl=>l.rec (motive:=λl=>(∀q∈l,q.bH<=B)->(l.map (wt (λb=>2^ee ps b) (B - (0:Nat)))).sum=0) (λζ=>rfl) λq r ih hl=>by
   rw[map_cons,sum_cons,ih λq hq=>hl q (.tail _ hq)]
   exact if_neg (by have:=hl q mem_cons_self;exact Int.not_lt.mpr (by rw[show B - ((0:Nat):Int)=B from sub_zero B];exact this))
  rw[e ps hB];exact Nat.two_pow_pos _
 |j+1=>by
  have ih:=Ge ps B hB j
  rw[show B - ((j+1:Nat):Int)=B - (j:Int) - 1 from(Int.sub_sub B (j:Int) 1).symm,Gc,Gd,Nat.pow_add]
  generalize ps.countP (λq=>decide (q.bH=B - (j:Int)))=e
  have h1:e+1<=2^e:=Nat.lt_two_pow_self
  have h2:=mul_le_mul_right (2^ee ps (B - (j:Int))) h1
  rw[Nat.add_mul,one_mul] at h2
  rw[mul_comm (2^ee ps (B - (j:Int))) (2^e)]
  exact lt_of_lt_of_le (by rw[add_comm];exact Nat.add_lt_add_left ih _) h2
theorem Gf:∀ps:List aO,∃B,∀q∈ps,q.bH<=B
 |[]=>⟨0,λζ h=>nomatch h⟩
 |p::r=>(Gf r).elim λB h=>⟨max B p.bH,λq hq=>(mem_cons.mp hq).elim (λe=>e▸Int.le_max_right _ _) λhr=>Int.le_trans (h q hr) (Int.le_max_left _ _)⟩
theorem Qt(ps:List aO)(b:Int):(ps.map (wt (λb=>2^ee ps b) b)).sum<2^ee ps b:=(Gf ps).elim λB hB=>by
 have h:=Ge ps (max B b) (λq hq=>Int.le_trans (hB q hq) (Int.le_max_left _ _)) (max B b - b).toNat
 rw[show max B b - ((max B b - b).toNat:Int)=b by lia] at h
 exact h
theorem Gg{α:Type}{P:α->Bool}{h g:α->Nat}:∀l:List α,(∀c∈l,P c=true->h c<=g c)->((l.filter P).map h).sum<=(l.map g).sum
 |[],_=>le_refl _
 |a::r,f=>by
  have ih:=Gg r λc hc=>f c (.tail _ hc)
  rw[filter_cons,map_cons,sum_cons]
  split
  ·rename_i hp
   rw[map_cons,sum_cons];exact add_le_add (f a mem_cons_self hp) ih
  ·exact le_trans ih (le_add_left _ _)
theorem Qu{α:Type}(ps:List α):(List.range ps.length).map (λi=>ps[i]?)=ps.map some:=by
 apply ext_getElem?
 intro i
 rw[getElem?_map,getElem?_map]
 by_cases h:i<ps.length
 ·rw[getElem?_range h,getElem?_eq_getElem h];exact congrArg some (getElem?_eq_getElem h)
 ·rw[getElem?_eq_none (by rw[length_range];exact not_lt.mp h),getElem?_eq_none (not_lt.mp h)];rfl
theorem Qv{ps:List aO}{b:Int}{P:Nat->Bool}{h:Nat->Nat}(hh:∀c,P c=true->∃q,ps[c]?=some q/\b<q.bH/\h c<=2^ee ps q.bH):(((List.range ps.length).filter P).map h).sum<2^ee ps b:=by
 refine lt_of_le_of_lt (Gg (g:=λc=>(ps[c]?).elim 0 (wt (λb=>2^ee ps b) b)) _ λc ζ hc=>?_) (lt_of_le_of_lt (le_of_eq ?_) (Qt ps b))
 ·obtain⟨q,h1,h2,h3⟩:=hh c hc
  rw[h1]
  exact le_trans h3 (le_of_eq (if_pos h2).symm)
 ·have e:=congrArg (λl=>(l.map λo:Option aO=>o.elim 0 (wt (λb=>2^ee ps b) b)).sum) (Qu ps)
  rw[map_map,map_map] at e
  exact e
theorem kD.up{f k:Nat}{s:Rat}{r:Row}(hs:Sm 5 s)(h:kD f r):kD (f+1) (up k s r):=⟨(hs.mul h.1).le (le_of_eq (add_comm 5 (5*f))),succ_le_succ h.2⟩
theorem kD.le{f g:Nat}{r:Row}(h:kD f r)(e:f<=g):kD g r:=⟨h.1.le (mul_le_mul_left 5 e),le_trans h.2 (succ_le_succ e)⟩
theorem Au{ps:List aO}{d:Int}{rec:Nat->List Row}{k f:Nat}{ts:List Nat}(hl:ts.length<=20)(h:∀c∈ts,∀r∈rec c,kD f r):∀r∈gU ps d rec k ts,kD (f+1) r:=by
 intro r hr
 obtain⟨c,hc,hr⟩:=mem_flatMap.mp hr
 have hs:Sm 5 (mkRat 1 ts.length):=Sm.inv (λe=>absurd (eq_nil_of_length_eq_zero e) (ne_nil_of_mem hc)) (lt_of_le_of_lt hl (by decide))
 unfold rowsOf at hr
 split at hr
 ·rw[mem_singleton.mp hr]
  exact⟨hs.le (le_add_left 5 (5*f)),le_add_left 2 f⟩
 ·obtain⟨r',Av,rfl⟩:=mem_map.mp hr
  exact(h c hc r' Av).up hs
theorem wR(ps:List aO)(d:Int)(cs:List Nat):(dO ps d cs).length<=cs.length:=length_filter_le _ _
theorem qj{ps:List aO}{d:Int}(hl:ps.length<=20):∀(f k:Nat),∀r∈gb ps d f k,kD f r
 |0,k=>λr hr=>nomatch hr
 |f+1,k=>Au (le_trans (wR _ _ _) (le_trans (kB ps d k) hl)) λc ζ=>qj hl f c
theorem Gh{ps:List aO}(hW:cw ps){d:Int}{rec:Nat->List Row}{k k':Nat}{p:aO}(hp:ps[k]?=some p){P:Nat->Bool}(hP:∀c,P c=true->ie ps d k c=true)(h:∀c q,ps[c]?=some q->(rec c).length<=2^ee ps q.bH):(gU ps d rec k' ((List.range ps.length).filter P)).length<2^ee ps p.bH:=by
 unfold gU
 rw[List.length_flatMap]
 refine Qv λc hc=>Am (hP c hc) λq hq hm=>(mC hW hq d k hm).elim λq2 h2=>?_
 rw[hp] at h2
 refine⟨q,hq,by cases h2.1;exact h2.2,?_⟩
 unfold rowsOf
 split
 ·exact Nat.two_pow_pos _
 ·rw[length_map];exact h c q hq
theorem uC{ps:List aO}(hW:cw ps){d:Int}:∀(f k:Nat) (p:aO),ps[k]?=some p->(gb ps d f k).length<=2^ee ps p.bH
 |0,k,p,_=>zero_le _
 |f+1,k,p,hp=>by
  refine(?_:(gU ps d (gb ps d f) k (((List.range ps.length).filter (ie ps d k)).filter (bV ps d 20))).length<=_)
  rw[List.filter_filter]
  exact le_of_lt (Gh hW hp (λc h=>(and_eq_true_iff.mp h).2) (uC hW f))
theorem wU{ps:List aO}(hl:ps.length<=20)(b:Int):2^ee ps b<=1048576:=pow_le_pow_right (n:=2) (j:=20) (by decide) (le_trans List.countP_le_length hl)
section
variable{n:Nat}{l:Nat}
theorem wV{d:Int}{ps:List aO}(hW:cw ps)(hl:ps.length<=20):∀{f k:Nat} {p:aO} {H:Hp} {Q:PQ},f<=20->H[l]?=some (.list (ps.map bO))->ps[k]?=some p->ee ps p.bH<f->wO H (gb ps d f k) Q->aM (n+2*f+23) qO [.ref l,nv k,.int d] H Q
 |0,k,p,H,Q,_,_,_,hf,_=>absurd hf (not_lt_zero _)
 |f+1,k,p,H,Q,nC,hA,hp,hf,q=>PM (by
  refine bB (uy (n:=n+2*f+22) hA hl λlc H₁ ζ x hc=>?_)
  refine bB (Gb (n:=n+2*f) (rec:=gb ps d f) hW hl (le_trans (kB ps d k) hl) (λc hc=>nF hW hp hc λq hq ζ ζ=>⟨q,hq⟩) (λc ζ r hr=>(qj hl f c r hr).le (le_trans (le_of_succ_le nC) (by decide))) (le_trans (uC hW (f+1) k p hp) (le_trans (wU hl _) (by decide))) (λc hc H₂ Q₂ Qw Qx=>nF hW hp hc λq hq ζ hy=>wV hW hl (le_of_succ_le nC) Qw hq (lt_of_lt_of_le hy (le_of_lt_succ hf)) Qx) (x _ _ hA) hc ?_)
  exact λlr vs H' hr x' a r=>q lr vs H' (le_trans x.len hr) (x.trans x') a r)
end
noncomputable def fA(k c:Nat):Bool:=!((c:Int)==(k:Int))
noncomputable def others(ps:List aO)(d:Int)(k bL:Nat):List Nat:=(kids ps d bL).filter (fA k)
noncomputable def Aw(de:aV)(H:Hp)(F:Nat->Bool)(tot:List Nat)(as:List Nat)(acc:List V)(ρ:aV)(H':Hp):Prop:=∀OtIζ:Prop,(∀(o:Option V) (an:List Nat) (e:ρ=o::de) (eh:H'=H) (ea:acc=bb an) (t:an++as.filter F=tot),OtIζ)->OtIζ
theorem Aw.mk{de:aV}{H:Hp}{F:Nat->Bool}{tot:List Nat}{as:List Nat}{acc:List V}{ρ:aV}{H':Hp}(o:Option V)(an:List Nat)(e:ρ=o::de)(eh:H'=H)(ea:acc=bb an)(t:an++as.filter F=tot):Aw de H F tot as acc ρ H':=λζ bw=>bw o an e eh ea t
section
variable{n:Nat}{l k:Nat}{H:Hp}{Q:PQ}
theorem uD{α:Type}{F:α->Bool}{acc as tot:List α}{a:α}(t:acc++(a::as).filter F=tot){M:Prop}(h1:F a=true->(acc++[a])++as.filter F=tot->M)(h2:F a=false->acc++as.filter F=tot->M):M:=by
 rw[filter_cons] at t
 cases h:F a with
 |true=>rw[h] at t;exact h1 h (jt t)
 |false=>rw[h] at t;exact h2 h t
theorem Gi{d:Int}{ps:List aO}{bL:Nat}(hA:H[l]?=some (.list (ps.map bO)))(hl:ps.length<=20)(q:∀lc H',H.length<=lc->aI H H'->H'[lc]?=some (.list (bb (others ps d k bL)))->Q (.ref lc) H'):aM (n+3) vc [.ref l,nv bL,nv k,.int d] H Q:=PN (by
 refine bB (uy (n:=n) hA hl λlc H₁ hb x hc=>?_)
 apply aG (dz hc)
 refine cK (cO (by rw[length_map];exact lt_of_le_of_lt (le_trans (kB ps d bL) hl) (by decide))) ?_
 refine uw (Aw [some (.ref l),some (nv bL),some (nv k),some (.int d)] H₁ (fA k) (others ps d k bL)) (λc as acc ρ H' h=>?_) (λacc ρ H' h=>?_) _ _ _ _ (.mk none [] rfl rfl rfl rfl)
 ·refine h _ λo an e eh ea t=>?_
  subst e eh
  refine λN hN=>?_
  refine(?_:bW (fA k c) _ _)
  exact uD t (λh t=>by rw[h];exact hN _ _ (dr hc hc) (.mk _ (an++[c]) rfl rfl (by rw[ea];exact qg an c) t)) λh t=>by rw[h];exact hN _ _ (dr hc hc) (.mk _ an rfl rfl ea t)
 ·refine h _ λo an e eh ea t=>?_
  subst eh ea
  rw[filter_nil,append_nil] at t
  subst t
  exact q _ _ (le_trans hb (le_of_lt (cT hc))) (x.trans (aI.ba _ _)) (bq _ _))
inductive Qy{α:Type}(de:aV)(H:Hp)(F:α->V)(cs as:List α)(acc:List V)(ρ:aV)(H':Hp):Prop
 |mk (o:Option V) (an:List α) (e:ρ=o::de) (x:aI H H') (ea:acc=an.map F) (t:an++as=cs)
theorem Gj{d:Int}{ps:List aO}(hW:cw ps)(hl:ps.length<=20){cs:List Nat}(rK:∀c∈cs,∃p,ps[c]?=some p){r:aV}{i lc:Nat}(hr:r[i]?.join=some (.int d))(hA:H[l]?=some (.list (ps.map bO))){we:bc}(hC:H[lc]?=some we){Q:List V->Hp->Prop}(q:∀H',aI H H'->Q (cs.map λc=>.bool (bV ps d 20 c)) H'):
  gC [lc] H (.U 0) (λρ H Q=>WT (aM (n+22)) [] ρ H Q) (λρ H Q=>WE (aM (n+22)) (.call oY [.U 1,.U 0,.U (i+2)]) ρ H Q) (bb cs) (none::some (.ref l)::r) H [] Q:=by
 refine uw (Qy (some (.ref l)::r) H (λc=>.bool (bV ps d 20 c)) cs) (λc as acc ρ H' h=>?_) (λacc ρ H' h=>?_) _ _ _ _ ⟨none,[],rfl,aI.refl H,rfl,rfl⟩
 ·refine h.casesOn λo an e x ea t=>?_
  subst e
  refine λN hN=>?_
  refine(rK c (t▸mem_append_right _ mem_cons_self)).elim λp hp=>?_
  apply aG (show((some (nv c)::some (V.ref l)::r)[i+2]?).join=some (.int d) from hr)
  exact bB (Ao (n:=n) (f:=20) hW hl (x l _ hA) hp (lt_of_lt_of_le (nE (mem_of_getElem? hp)) hl) λH₂ cf=>hN _ _ (dr hC ((x.trans cf) _ _ hC)) ⟨_,an++[c],rfl,x.trans cf,by rw[ea,map_append];rfl,jt t⟩)
 ·refine h.casesOn λo an e x ea t=>?_
  rw[append_nil] at t
  subst ea t
  exact q _ x
theorem all_bools{α:Type}(b:α->Bool):∀cs:List α,n0 (cs.map λc=>.bool (b c))=some (cs.map b)
 |[]=>rfl
 |c::r=>by
  refine(?_:((n0 (r.map λc=>.bool (b c))).map (b c::·))=_)
  rw[all_bools b r];rfl
theorem Gk{α:Type}{b:α->Bool}{cs:List α}{m:Nat}(h:H[m]?=some (.list (cs.map λc=>.bool (b c)))):(cP H (.ref m)).bind n0=some (cs.map b):=by rw[cN h];exact all_bools b cs
theorem Gm{α:Type}(b:α->Bool)(cs:List α):(cs.map b).any id=cs.any b:=any_map
end
theorem jO{t:Bool}{A B:Prop}(h:t=true)(a:A):bW t A B:=by rw[h];exact a
theorem dJ{t:Bool}{A B:Prop}(h:t=false)(b:B):bW t A B:=by rw[h];exact b
theorem Go{α:Type}{acc:List α}{a:α}{r tot:List α}{B:Nat}(e:(acc++[a])++r=tot)(h:tot.length<=B):acc.length<B:=mB ((append_assoc acc [a] r).symm.trans e) h
noncomputable def lQ(ps:List aO)(d:Int)(k bL:Nat):Bool:=lv ps d bL||(others ps d k bL).any (bV ps d 20)
noncomputable def gV(ps:List aO)(d:Int)(k:Nat)(p:aO):List Nat:=(dq p d).filter (lQ ps d k)
noncomputable def iD(ps:List aO)(d:Int)(k bL:Nat):List Row:=gU ps d (gb ps d 20) bL (dO ps d (others ps d k bL))
noncomputable def lR(ps:List aO)(d:Int)(k:Nat)(p:aO):List Row:=gU ps d (iD ps d k) k (gV ps d k p)
theorem wW(ps:List aO)(d:Int)(k bL:Nat):(others ps d k bL).length<=ps.length:=le_trans (length_filter_le _ _) (kB ps d bL)
theorem Gp{ps:List aO}(hW:cw ps)(hl:ps.length<=20){d:Int}{k bL:Nat}{q:aO}(hq:ps[bL]?=some q):(iD ps d k bL).length<=1048576:=by
 unfold iD dO others kids
 rw[List.filter_filter,List.filter_filter]
 exact le_trans (le_of_lt (Gh hW hq (λc h=>(and_eq_true_iff.mp h).2) (uC hW 20))) (wU hl _)
theorem Gq{ps:List aO}(hl:ps.length<=20){d:Int}{k bL:Nat}:∀r∈iD ps d k bL,kD 21 r:=Au (le_trans (wR _ _ _) (le_trans (wW ps d k bL) hl)) λc ζ=>qj hl 20 c
theorem wX{α β:Type}{f:α->List β}{B:Nat}:∀{l:List α},(∀a∈l,(f a).length<=B)->(l.flatMap f).length<=l.length*B
 |[],_=>zero_le _
 |a::r,h=>by
  rw[flatMap_cons,length_append,length_cons,Nat.succ_mul,add_comm]
  exact add_le_add (wX λa ha=>h a (.tail _ ha)) (h a mem_cons_self)
theorem uE{ps:List aO}{d:Int}{k:Nat}{p:aO}{c:Nat}(h:c∈gV ps d k p):c∈dq p d:=(mem_filter.mp h).1
theorem qk{ps:List aO}(hW:cw ps){d:Int}{k k':Nat}{p:aO}(hp:ps[k']?=some p):(gV ps d k p).length<=2:=le_trans (length_filter_le _ _) (uz hW hp d)
theorem Gr{ps:List aO}(hW:cw ps)(hl:ps.length<=20){d:Int}{k:Nat}{p:aO}(hp:ps[k]?=some p):(lR ps d k p).length<=2097152:=
 le_trans (wX (B:=1048576) λc hc=>by
  unfold rowsOf
  split
  ·exact(by decide:1<=1048576)
  ·rw[length_map]
   exact(mC hW hp d c (uE hc)).elim λq hq=>Gp hW hl hq.1) (mul_le_mul_right 1048576 (qk hW hp))
theorem Qz{ps:List aO}(hW:cw ps)(hl:ps.length<=20){d:Int}{k:Nat}{p:aO}(hp:ps[k]?=some p):∀r∈lR ps d k p,kD 22 r:=Au (le_trans (qk hW hp) (by decide)) λc ζ=>Gq hl
noncomputable def Ax(ps:List aO)(d:Int)(k l:Nat)(p:aO)(H:Hp)(as:List Nat)(ρ:aV)(H':Hp):Prop:=∀PtIζ:Prop,(∀(o4 o5:Option V) (acc:List Nat) (e:ρ=[some (.ref l),some (nv k),some (.int d),some (.ref H.length),o4,o5,none,none,none,none,none]) (x:aI H H') (a:H'[H.length]?=some (.list (bb acc))) (t:acc++as.filter (lQ ps d k)=gV ps d k p) (b:∀c∈as,c∈dq p d),PtIζ)->PtIζ
theorem Ax.mk{ps:List aO}{d:Int}{k l:Nat}{p:aO}{H:Hp}{as:List Nat}{ρ:aV}{H':Hp}(o4 o5:Option V)(acc:List Nat)(e:ρ=[some (.ref l),some (nv k),some (.int d),some (.ref H.length),o4,o5,none,none,none,none,none])(x:aI H H')(a:H'[H.length]?=some (.list (bb acc)))(t:acc++as.filter (lQ ps d k)=gV ps d k p)(b:∀c∈as,c∈dq p d):Ax ps d k l p H as ρ H':=λζ bw=>bw o4 o5 acc e x a t b
noncomputable def Ay(ps:List aO)(d:Int)(rec:Nat->List Row)(l k lt lr:Nat)(H₁:Hp)(s:Rat)(tot:List Row)(ts as:List Nat)(ρ:aV)(H':Hp):Prop:=∀PuIζ:Prop,(∀(a4 a5 a7 a8 a9 gr:Option V) (rs:List Row) (vs:List V) (e:ρ=[some (.ref l),some (nv k),some (.int d),some (.ref lt),a4,a5,some (.ref lr),a7,a8,a9,gr]) (x:br lr H₁ H') (a:H'[lr]?=some (.list vs)) (r:iC (lr+1) H' rs vs) (t:rs++as.flatMap (rowsOf ps d rec k s)=tot) (b:∀c∈as,c∈ts),PuIζ)->PuIζ
theorem Ay.mk{ps:List aO}{d:Int}{rec:Nat->List Row}{l k lt lr:Nat}{H₁:Hp}{s:Rat}{tot:List Row}{ts as:List Nat}{ρ:aV}{H':Hp}(a4 a5 a7 a8 a9 gr:Option V)(rs:List Row)(vs:List V)(e:ρ=[some (.ref l),some (nv k),some (.int d),some (.ref lt),a4,a5,some (.ref lr),a7,a8,a9,gr])(x:br lr H₁ H')(a:H'[lr]?=some (.list vs))(r:iC (lr+1) H' rs vs)(t:rs++as.flatMap (rowsOf ps d rec k s)=tot)(b:∀c∈as,c∈ts):Ay ps d rec l k lt lr H₁ s tot ts as ρ H':=λζ bw=>bw a4 a5 a7 a8 a9 gr rs vs e x a r t b
section
variable{n:Nat}{l k:Nat}{H:Hp}{Q:PQ}
theorem QA{d:Int}{ps:List aO}(hW:cw ps)(hl:ps.length<=20){p:aO}(hp:ps[k]?=some p)(hA:H[l]?=some (.list (ps.map bO)))(q:wO H (lR ps d k p) Q):aM (n+65) ye [.ref l,nv k,.int d] H Q:=PO (by
 refine bB (Aj (bz _ hA) hp ?_)
 have Gs:=mC hW hp d
 refine d9 (Ax ps d k l p H) (λc as ρ H' h=>?_) (λρ H' h=>?_) _ _ _ (.mk none none [] rfl (aI.ba _ _) (bq _ _) rfl (λc h=>h))
 ·refine h _ λo4 o5 acc e x a t b=>?_
  subst e
  refine λN hN=>(Gs c (b c mem_cons_self)).elim λpq mD=>?_
  refine bB (Gi (n:=n+61) (x _ _ hA) hl λlo H₂ Az cf ao=>?_)
  have ext:=x.trans cf
  have fZ:∀c∈as,c∈dq p d:=λc hc=>b c (.tail _ hc)
  have yes:∀H₃,aI H₂ H₃->lQ ps d k c=true->ez (tC .append H₃ (.ref H.length)) (tD .append (.ref H.length) [nv c] H₃ λζ H₄=>N [some (.ref l),some (nv k),some (.int d),some (.ref H.length),some (nv c),some (.ref lo),none,none,none,none,none] H₄):=λH₃ co hk=>by
   have uF:=co _ _ (cf _ _ a)
   exact uD t (λζ t=>jd uF (je uF (by rw[length_map];exact Go t (le_trans (qk hW hp) (by decide))) (hN _ _ rfl (.mk _ _ (acc++[c]) rfl ((ext.trans co).set (le_refl _) _) (by rw[<-qg];exact f9 uF _) t fZ)))) λh ζ=>absurd (hk.symm.trans h) (by decide)
  have no:∀H₃,aI H₂ H₃->lQ ps d k c=false->N [some (.ref l),some (nv k),some (.int d),some (.ref H.length),some (nv c),some (.ref lo),none,none,none,none,none] H₃:=λH₃ co hk=>uD t (λh ζ=>absurd (hk.symm.trans h) (by decide)) λζ t=>hN _ _ rfl (.mk _ _ acc rfl (ext.trans co) (co _ _ (cf _ _ a)) t fZ)
  have ek:lQ ps d k c=(dD pq d||(others ps d k c).any (bV ps d 20)):=by rw[<-iB mD.1];rfl
  refine bB (oE (ext _ _ hA) mD.1 ?_)
  refine(?_:bW (dD pq d==false) _ _)
  refine qf (λh2=>?_) λh2=>?_
  ·rw[h2,Bool.false_or] at ek
   apply aG (dz ao)
   refine cK (cO (by rw[length_map];exact lt_of_le_of_lt (le_trans (wW ps d k c) hl) (by decide))) ?_
   refine Gj (n:=n+42) (i:=1) hW hl (λc' dC=>nF hW mD.1 (mem_filter.mp dC).1 λq hq ζ ζ=>⟨q,hq⟩) rfl (ext _ _ hA) ao λH₃ co=>?_
   apply aG (Gk (bq _ _))
   rw[Gm]
   refine da (λh3=>?_) λh3=>?_
   ·exact yes _ (co.trans (aI.ba _ _)) (ek.trans h3)
   ·exact no _ (co.trans (aI.ba _ _)) (ek.trans h3)
  ·rw[h2,Bool.true_or] at ek
   exact jO h2 (yes _ (aI.refl _) ek)
 ·refine h _ λo4 o5 ts e x a1 t b=>?_
  subst e
  rw[filter_nil,append_nil] at t
  subst t
  generalize lO:gV ps d k p=ts at *
  have hm:∀c∈ts,c∈dq p d:=λc h=>uE (lO▸h)
  have bX:ts.length<=2:=lO▸qk hW hp
  have ht:=Gr hW hl (d:=d) hp
  rw[show lR ps d k p=gU ps d (iD ps d k) k ts by rw[<-lO];rfl] at ht q
  generalize hs:mkRat 1 ts.length=s
  have lL:ts≠[]->Sm 5 s:=λh=>hs▸Sm.inv (λe=>h (eq_nil_of_length_eq_zero e)) (lt_of_le_of_lt bX (by decide))
  have ky:=cT a1
  have AA:H.length<=H'.length:=le_of_lt ky
  have wY:=bz [.list []] a1
  apply aG (dz wY)
  refine d9 (Ay ps d (iD ps d k) l k H.length H'.length (H'++[.list []]) s (gU ps d (iD ps d k) k ts) ts) (λc as ρ H₂ h=>?_) (λρ H₂ h=>?_) _ _ _ (.mk _ _ none none none none [] [] rfl (br.refl _ _) (bq _ _) .nil (by rw[<-hs];rfl) (λc h=>h))
  ·refine h _ λa4 a5 a7 a8 a9 gr rs vs e cf a r t b=>?_
   subst e
   refine λN hN=>?_
   have jN:=cf _ _ (ne_of_lt ky) wY
   have co:aI H H₂:=cf.ext (x.trans (aI.ba _ _)) AA
   have hc:=b c mem_cons_self
   have b8:ts≠[]:=ne_nil_of_mem hc
   refine(Gs c (hm c hc)).elim λpq mD=>?_
   have mD:=mD.1
   rw[flatMap_cons,show rowsOf ps d (iD ps d k) k s c=if dD pq d then[⟨c,s,[k,c]⟩] else(iD ps d k c).map (up k s) by rw[<-iB mD];rfl] at t
   apply aG (cN jN)
   rw[length_map]
   refine bB (Aq (λe=>b8 (eq_nil_of_length_eq_zero e)) (lt_of_le_of_lt bX (by decide)) ?_)
   rw[hs]
   refine bB (oE (co l _ hA) mD ?_)
   refine(?_:bW (dD pq d) _ _)
   refine da (λh2=>?_) λh2=>?_
   ·rw[h2] at t
    have t:rs++(⟨c,s,[k,c]⟩::as.flatMap (rowsOf ps d (iD ps d k) k s))=gU ps d (iD ps d k) k ts:=t
    exact jd a (je (bz _ a) (by rw[r.len];exact mB t (le_trans ht (by decide))) (hN _ _ (dr wY (kX (bz _ jN) _ (ne_of_gt ky))) (.mk _ _ _ _ _ _ (rs++[⟨c,s,[k,c]⟩]) _ rfl (cf.trans ((br.ba _ _ _).trans (br.set _ _ _))) (f9 (bz _ a) _) ((r.b ((br.ba _ _ _).trans (br.set _ _ _))).snoc (.mk H₂.length (cT a) rfl (kX (bq _ _) _ (ne_of_lt (cT a))))) (jt t) (λc hc=>b c (.tail _ hc)))))
   ·rw[h2] at t
    have t:rs++((iD ps d k c).map (up k s)++as.flatMap (rowsOf ps d (iD ps d k) k s))=gU ps d (iD ps d k) k ts:=t
    refine bB (Gi (n:=n+61) (co _ _ hA) hl λlo Ho VN xo ao=>?_)
    have Gu:∀c'∈others ps d k c,∃p,ps[c']?=some p:=λc' dC=>nF hW mD (mem_filter.mp dC).1 λq hq ζ ζ=>⟨q,hq⟩
    refine bB (Gb (n:=n+40) (rec:=gb ps d 20) hW hl (le_trans (wW ps d k c) hl) Gu (λc ζ r hr=>(qj hl 20 c r hr).le (by decide)) (le_trans (Gp hW hl mD) (by decide)) (λc' dC H₅ Q₅ QB QC=>(Gu c' dC).elim λpc uG=>wV (n:=n) hW hl (f:=20) (le_refl _) QB uG (lt_of_lt_of_le (nE (mem_of_getElem? uG)) hl) QC) ((co.trans xo) _ _ hA) ao λlb us H₃ hb QD ab rb=>?_)
    have dX:=xo.trans QD
    have hb:=le_trans xo.len hb
    have a':=dX _ _ a
    have oI:=lt_of_lt_of_le (cT a) hb
    apply aG (dz ab)
    refine uB (R:=λr v=>r∈iD ps d k c/\kC (lb+1) H₃ r v) (wQ l k H'.length (some (.int d)) (some (.ref H.length)) (some (nv c)) a5 (some (.ref H'.length)) H₃ s (gU ps d (iD ps d k) k ts) (as.flatMap (rowsOf ps d (iD ps d k) k s))) (λrw v bs ρ H₄ hv h=>?_) (λρ H₄ h=>?_) (rb.imp' λr v hr hv=>⟨hr,hv⟩) _ _ (.mk _ _ _ rs vs rfl (br.refl _ _) a' (r.b (dX.b _)) t)
    ·refine hv.2 _ λll jK e al=>?_
     subst e
     refine h _ λa8 a9 gr rs vs e gv a r t=>?_
     subst e
     refine λN' hZ=>?_
     have sr:=Gq hl _ hv.1
     have nl:ll≠H'.length:=ne_of_gt (lt_trans oI jK)
     refine jd a (bB (uA (lL b8) sr.1 (by decide) ?_))
     refine lN (bq _ _) (bz _ (gv _ _ nl al)) (by rw[length_append,length_map];exact lt_of_le_of_lt (add_le_add_left sr.2 _) (show 1+(21+1)<16000000 by decide)) ?_
     have fy:br H'.length H₄ _:=(br.ba _ H₄ [bc.list [nv k]]).trans ((br.ba _ _ [bc.list (bb (k::rw.line))]).trans (br.set _ _ (.list (vs++[.aP [nv rw.dQ,rv (s*rw.gT),.ref (H₄++[bc.list [nv k]]).length]]))))
     exact je (bz _ (bz _ a)) (by rw[r.len];exact mB t (le_trans ht (by decide))) (hZ _ _ (dr ab ((gv.trans fy) _ _ (ne_of_gt oI) ab)) (.mk _ _ _ (rs++[up k s rw]) _ rfl (gv.trans fy) (f9 (bz _ (bz _ a)) _) ((r.b fy).snoc (.mk ((H₄++[bc.list [nv k]]).length) (cT (bz _ a)) rfl (kX (bq _ _) _ (ne_of_lt (cT (bz _ a)))))) (jt t)))
    ·refine h _ λa8 a9 gr rs vs e gv a r t=>?_
     subst e
     have fy:=(dX.b H'.length).trans gv
     exact hN _ _ (dr wY (fy _ _ (ne_of_lt ky) jN)) (.mk _ _ _ _ _ _ rs vs rfl (cf.trans fy) a r t (λc hc=>b c (.tail _ hc)))
  ·refine h _ λa4 a5 a7 a8 a9 gr rs vs e cf a r t b=>?_
   subst e
   rw[flatMap_nil,append_nil] at t
   exact q _ vs _ AA (cf.ext (x.trans (aI.ba _ _)) AA) a (t▸r))
end
theorem QE{l m:List Int}(h:l.Perm m)(a:l.Pairwise (·<=·))(b:m.Pairwise (·<=·)):l=m:=h.eq_of_pairwise (λx y ζ ζ h1 h2=>Int.le_antisymm h1 h2) a b
section
variable{A B K:Type}[DecidableEq A][DecidableEq K]
noncomputable def mE(ws:List (A×B))(a:A):Option B:=(ws.find? λp=>decide (p.1=a)).map (·.2)
noncomputable def fk(ws:List (A×B))(a:A)(b:B):List (A×B):=if ws.any (λp=>decide (p.1=a)) then ws.map (λp=>if p.1=a then(p.1,b) else p) else ws++[(a,b)]
noncomputable def dR(ws:List (A×B))(a:A):Bool:=ws.any λp=>decide (p.1=a)
noncomputable def cL(f:A->K)(S:B->V->Prop):List (A×B)->List (K×V)->Prop:=dA λw e=>e.1=f w.1/\S w.2 e.2
variable{f:A->K}(hf:∀a b,f a=f b->a=b){S:B->V->Prop}{ws:List (A×B)}{es:List (K×V)}
include hf
theorem Gv{a b:A}{k:K}(e:k=f b):decide (k=f a)=decide (b=a):=decide_eq_decide.mpr ⟨λh=>hf _ _ (e▸h),λh=>e.trans (congrArg f h)⟩
theorem cL.has(h:cL f S ws es)(a:A):lC es (f a)=dR ws a:=h.rec (motive:=λws es ζ=>lC es (f a)=dR ws a) rfl λr ζ ih=>by
 refine(?_:(decide (_=f a)||lC _ (f a))=(decide (_=a)||dR _ a))
 rw[ih,Gv hf r.1]
theorem cL.get(h:cL f S ws es)(a:A):dR ws a=true->∃b v,mE ws a=some b/\eO es (f a)=some v/\S b v:=h.rec (motive:=λws es ζ=>dR ws a=true->∃b v,mE ws a=some b/\eO es (f a)=some v/\S b v) (λh=>absurd h Bool.false_ne_true) λ{w e ws es} r _ ih h=>by
 unfold mE eO
 rw[find?_cons,find?_cons,Gv hf r.1]
 cases hd:decide (w.1=a) with
 |true=>exact⟨w.2,e.2,rfl,rfl,r.2⟩
 |false=>
  refine ih ?_
  have h:(decide (w.1=a)||dR ws a)=true:=h
  rw[hd] at h;exact h
theorem cL.put(h:cL f S ws es){a:A}{b:B}{v:V}(r:S b v):cL f S (fk ws a b) (dput es (f a) v):=by
 unfold fk dput
 rw[show(es.any λp=>decide (p.1=f a))=_ from cL.has hf h a]
 cases ha:dR ws a with
 |false=>
  rw[show(ws.any λp=>decide (p.1=a))=false from ha]
  exact dA.snoc h ⟨rfl,r⟩
 |true=>
  rw[show(ws.any λp=>decide (p.1=a))=true from ha]
  refine h.rec (motive:=λws es ζ=>cL f S (ws.map λp:A×B=>if p.1=a then(p.1,b) else p) (es.map λp:K×V=>if p.1=f a then(p.1,v) else p)) .nil λ{w e ws es} r' _ ih=>.cons ?_ ih
  refine(?_:(if e.1=f a then(e.1,v) else e).1=f (if w.1=a then(w.1,b) else w).1/\S (if w.1=a then(w.1,b) else w).2 (if e.1=f a then(e.1,v) else e).2)
  by_cases hd:w.1=a
  ·rw[if_pos hd,if_pos (by rw[r'.1,hd])];exact⟨r'.1,r⟩
  ·rw[if_neg hd,if_neg λq=>hd (hf _ _ (r'.1▸q))];exact r'
omit hf
theorem iE{a:A}:dR ws a=true↔a∈ws.map (·.1):=by
 unfold dR
 rw[any_eq_true,mem_map]
 exact⟨λ⟨p,h1,h2⟩=>⟨p,h1,of_decide_eq_true h2⟩,λ⟨p,h1,h2⟩=>⟨p,h1,decide_eq_true h2⟩⟩
theorem nG(a:A)(b:B):(fk ws a b).map (·.1)=if dR ws a then ws.map (·.1) else ws.map (·.1)++[a]:=by
 unfold fk
 refine(?_:(if dR ws a=true then _ else _:List (A×B)).map _=_)
 split
 ·rw[map_map]
  exact List.map_congr_left λp ζ=>by refine(?_:(if p.1=a then(p.1,b) else p).1=p.1);split<;>rfl
 ·rw[map_append];rfl
theorem AB{a:A}{b:B}{p:A×B}(h:p∈fk ws a b):p∈ws\/p=(a,b):=by
 unfold fk at h
 split at h
 ·obtain⟨q,hq,e⟩:=mem_map.mp h
  split at e
  ·rename_i h1;exact .inr (by rw[<-e,h1])
  ·exact .inl (e▸hq)
 ·rcases mem_append.mp h with h|h
  ·exact .inl h
  ·exact .inr (mem_singleton.mp h)
omit [DecidableEq A] [DecidableEq K] in
theorem cL.keys{g:K->V}(h:cL f S ws es):es.map (λp=>g p.1)=(ws.map (·.1)).map λa=>g (f a):=h.rec (motive:=λws es ζ=>es.map (λp=>g p.1)=(ws.map (·.1)).map λa=>g (f a)) rfl λr ζ ih=>by
 rw[map_cons,map_cons,map_cons,ih,r.1]
omit [DecidableEq A] [DecidableEq K] in
theorem cL.imp{S':B->V->Prop}(h:cL f S ws es)(k:∀b v,S b v->S' b v):cL f S' ws es:=dA.imp h λζ ζ r=>⟨r.1,k _ _ r.2⟩
end
theorem ql:∀(n:Nat) (l:List Nat),l.Nodup->(∀k∈l,k<n)->l.length<=n
 |0,l,_,h=>by
  cases l with
  |nil=>exact le_refl 0
  |cons a r=>exact absurd (h a mem_cons_self) (not_lt_zero a)
 |n+1,l,hn,h=>by
  have ih:=ql n (l.erase n) (hn.erase _) λk hk=>lt_of_le_of_ne (le_of_lt_succ (h k ((hn.mem_erase_iff).mp hk).2)) ((hn.mem_erase_iff).mp hk).1
  rw[List.length_erase] at ih
  split at ih<;>lia
noncomputable abbrev St:=Nat×Bool
noncomputable abbrev sv(s:St):V:=.aP [nv s.1,.bool s.2]
noncomputable abbrev kz(s:St):Int×Bool:=((s.1:Int),s.2)
theorem oJ(a b:St)(h:kz a=kz b):a=b:=Prod.ext (ofNat.inj (congrArg (λp:Int×Bool=>p.1) h)) (congrArg (λp:Int×Bool=>p.2) h)
noncomputable def uH(ps:List aO)(d:Int)(p:aO)(k:Nat)(down:Bool):List St:=(kids ps d k).map (λc=>(c,true))++(if down then[] else(dq p d).map λc=>(c,false))
section
variable{n:Nat}{l k:Nat}{H:Hp}{Q:PQ}
theorem ij{α:Type}{g:α->V}{ws:List Nat}{test:aV->Hp->(Bool->Hp->Prop)->Prop}{elt:aV->Hp->PQ->Prop}{Q:List V->Hp->Prop}{de:aV}{P:α->Bool}{F:α->V}:∀(as:List α) (o:Option V) (acc:List V),(∀a,a∈as->∀T:Bool->Hp->Prop,T (P a) H->test (some (g a)::de) H T)->(∀a,a∈as->P a=true->∀N:PQ,N (F a) H->elt (some (g a)::de) H N)->Q (acc++(as.filter P).map F) H->gC ws H (.U 0) test elt (as.map g) (o::de) H acc Q
 |[],o,acc,_,_,q=>by rw[filter_nil,map_nil,append_nil] at q;exact q
 |a::as,o,acc,ht,he,q=>by
  have st:d6 ws H H=true:=all_eq_true.mpr λl ζ=>decide_eq_true rfl
  refine aG (a:=some (g a)::de) rfl (ht a mem_cons_self _ ?_)
  rw[filter_cons] at q
  have go:∀acc',Q (acc'++(as.filter P).map F) H->gC ws H (.U 0) test elt (as.map g) (some (g a)::de) H acc' Q:=λacc'=>ij as _ acc' (λa ha=>ht a (.tail _ ha)) λa ha=>he a (.tail _ ha)
  cases hp:P a with
  |true=>
   rw[hp] at q
   exact he a mem_cons_self hp _ ⟨st,go _ (by rw[append_assoc];exact q)⟩
  |false=>
   rw[hp] at q
   exact⟨st,go _ q⟩
theorem nH{α:Type}(l:List α):l.filter (λζ=>true)=l:=List.filter_eq_self.mpr λζ ζ=>rfl
theorem QF{d:Int}{ps:List aO}(hW:cw ps)(hl:ps.length<=20){p:aO}(hp:ps[k]?=some p)(down:Bool)(hA:H[l]?=some (.list (ps.map bO)))(q:∀lc H',H.length<=lc->aI H H'->H'[lc]?=some (.list ((uH ps d p k down).map sv))->Q (.ref lc) H'):aM (n+3) yb [.ref l,sv (k,down),.int d] H Q:=PA (by
 have hk:=lt_of_le_of_lt (le_trans (kB ps d k) hl) (show 20<16000000 by decide)
 refine bB (uy (n:=n) hA hl λlc H₁ hb x hc=>?_)
 apply aG (dz hc)
 refine cK (cO (by rw[length_map];exact hk)) (ij (P:=λζ=>true) (F:=λc=>sv (c,true)) _ _ _ (λa ζ T h=>h) (λa ζ ζ N h=>h) ?_)
 rw[nH]
 have a1:=bq H₁ (.list ((kids ps d k).map λc=>sv (c,true)))
 have h1:=le_trans hb (le_of_lt (cT hc))
 cases down with
 |true=>exact q _ _ h1 (x.trans (aI.ba _ _)) (by unfold uH;rw[map_append,map_map];refine(?_:_=some (bc.list (_++[])));rw[append_nil];exact a1)
 |false=>
  refine bB (Aj (bz _ (x _ _ hA)) hp ?_)
  have h2:=uz hW hp d
  refine cK (cO (by rw[length_map];exact lt_of_le_of_lt h2 (by decide))) (ij (P:=λζ=>true) (F:=λc=>sv (c,false)) _ _ _ (λa ζ T h=>h) (λa ζ ζ N h=>h) ?_)
  rw[nH]
  refine lN (bz _ a1) (bq _ _) (by rw[length_append,nil_append,length_map,length_map];exact lt_of_le_of_lt (add_le_add (le_trans (kB ps d k) hl) h2) (by decide)) ?_
  exact q _ _ (le_trans h1 (by rw[length_append,length_append,add_assoc];exact le_add_right _ _)) ((x.trans (aI.ba _ _)).trans ((aI.ba _ _).trans (aI.ba _ _))) (by rw[bq];unfold uH;rw[map_append,map_map];refine(?_:_=some (bc.list (_++((dq p d).map λc=>(c,false)).map sv)));rw[map_map];rfl))
end
noncomputable abbrev cW:=List (St×List Nat)
noncomputable abbrev Kn:=List (St×Unit)
noncomputable def eD(b:Nat)(H:Hp)(w:List Nat)(v:V):Prop:=∀LnAtζ:Prop,(∀(l:Nat) (hb:b<=l) (e:v=.ref l) (a:H[l]?=some (.list (bb w))),LnAtζ)->LnAtζ
theorem eD.mk{b:Nat}{H:Hp}{w:List Nat}{v:V}(l:Nat)(hb:b<=l)(e:v=.ref l)(a:H[l]?=some (.list (bb w))):eD b H w v:=λζ bw=>bw l hb e a
theorem eD.ext{b:Nat}{H H':Hp}{w:List Nat}{v:V}(h:eD b H w v)(x:aI H H'):eD b H' w v:=h _ λl hb e a=>(.mk l hb e (x _ _ a))
theorem eD.set{b lf:Nat}{H H':Hp}{w:List Nat}{v:V}{c:bc}(h:eD b H w v)(hf:H[lf]?=some c)(hc:∀vs,c≠.list vs)(x:br lf H H'):eD b H' w v:=h _ λl hb e a=>(.mk l hb e (x l _ (λq=>hc _ (by rw[<-q] at hf;exact Option.some.inj (hf.symm.trans a))) a))
noncomputable def fm(a b:List Nat):Bool:=j2 (a.map λi:Nat=>(i:Int)) (b.map λi:Nat=>(i:Int))
noncomputable def fo(ws:cW)(s:St):List Nat:=(mE ws s).getD []
noncomputable def wZ(kn:Kn)(way:List Nat)(found:cW)(o:St):cW:=if !dR kn o&&(!dR found o||fm (way++[o.1]) (fo found o)) then fk found o (way++[o.1]) else found
noncomputable def cX(ps:List aO)(d:Int)(s:St):List St:=match ps[s.1]? with
 |some p=>uH ps d p s.1 s.2
 |none=>[]
noncomputable def oK(ps:List aO)(d:Int)(kn:Kn)(ws:cW)(found:cW)(s:St):cW:=(cX ps d s).foldl (wZ kn (fo ws s)) found
noncomputable def jP(n L:Nat)(ks:List St)(ws:cW):Prop:=∀WOkζ:Prop,(∀(nd:(ks++ws.map (·.1)).Nodup) (rg:∀e∈ws,e.1.1<n) (ln:∀e∈ws,e.2.length<=L),WOkζ)->WOkζ
theorem jP.mk{n L:Nat}{ks:List St}{ws:cW}(nd:(ks++ws.map (·.1)).Nodup)(rg:∀e∈ws,e.1.1<n)(ln:∀e∈ws,e.2.length<=L):jP n L ks ws:=λζ bw=>bw nd rg ln
theorem QG{a b:St}(e:2*a.1+a.2.toNat=2*b.1+b.2.toNat):a=b:=by
 have h1:=toNat_le a.2
 have h2:=toNat_le b.2
 refine Prod.ext (by lia) ?_
 have e2:a.2.toNat=b.2.toNat:=by lia
 revert e2
 cases a.2<;>cases b.2<;>first|(intro;rfl)|(intro h;cases h)
theorem oL{n:Nat}{l:List St}(h:l.Nodup)(hr:∀s∈l,s.1<n):l.length<=2*n:=by
 have h':(l.map λs:St=>2*s.1+s.2.toNat).Nodup:=Pairwise.map _ (λa b fO e=>fO (QG e)) h
 have:=ql (2*n) _ h' λk hk=>by
  obtain⟨s,hs,rfl⟩:=mem_map.mp hk
  have:=hr s hs
  have:=toNat_le s.2
  lia
 rw[length_map] at this;exact this
theorem jP.len{n L:Nat}{ks:List St}{ws:cW}(h:jP n L ks ws):ws.length<=2*n:=h _ λnd rg ζ=>by
 rw[<-length_map (f:=(·.1))]
 exact oL (nodup_append.mp nd).2.1 λs hs=>(mem_map.mp hs).elim λe he=>he.2▸rg e he.1
theorem jP.put{n L:Nat}{ks:List St}{ws:cW}(h:jP n L ks ws){s:St}{w:List Nat}(hk:s∉ks)(hn:s.1<n)(hw:w.length<=L):jP n L ks (fk ws s w):=h _ λnd rg ln=>by
 refine(.mk (?_) (λe he=>(AB he).elim (rg e) λq=>by rw[q];exact hn) (λe he=>(AB he).elim (ln e) λq=>by rw[q];exact hw))
 rw[nG]
 split
 ·exact nd
 ·rename_i hs
  have hs:s∉ws.map (·.1):=λm=>hs (iE.mpr m)
  rw[<-append_assoc]
  exact nodup_append.mpr ⟨nd,nodup_cons.mpr ⟨not_mem_nil,nodup_nil⟩,λa ha b hb e=>by
   rw[mem_singleton.mp hb] at e
   exact(mem_append.mp (e▸ha)).elim hk hs⟩
section
variable{n:Nat}{l k:Nat}{H:Hp}{Q:PQ}
theorem w5{lw ew:Nat}{es:List ((Int×Bool)×V)}{s:St}{v:V}(h:H[lw]?=some (.cD ew es))(e:eO es (kz s)=some v):eQ (.ref lw) (sv s) H=some v:=by
 refine(?_:((H[lw]?.bind i7).bind λes=>eO es (kz s))=_)
 rw[h];exact e
theorem Gw{lw ew:Nat}{es:List ((Int×Bool)×V)}{s:St}(h:H[lw]?=some (.cD ew es)):fT .fR (sv s) (.ref lw) H=some (!lC es (kz s)):=by
 refine(?_:Option.map _ (match H[lw]?.bind fS with|some es=>_|none=>_)=_)
 rw[h]
 refine(?_:Option.map _ (match H[lw]?.bind i7 with|some es=>_|none=>_)=_)
 rw[h];rfl
theorem w6:∀l:List Nat,allInts (bb l)=some (l.map λi:Nat=>(i:Int))
 |[]=>rfl
 |a::r=>by
  refine(?_:((allInts (bb r)).map ((a:Int)::·))=_)
  rw[w6 r];rfl
theorem Gx{a b:Nat}{x y:List Nat}(ha:H[a]?=some (.list (bb x)))(hb:H[b]?=some (.list (bb y))):fT .lt (.ref a) (.ref b) H=some (fm x y):=by
 refine(?_:(((cP H (.ref a)).bind allInts).bind λp=>((cP H (.ref b)).bind allInts).map λq=>j2 p q)=_)
 rw[cN ha,cN hb]
 refine(?_:((allInts (bb x)).bind λp=>(allInts (bb y)).map λq=>j2 p q)=_)
 rw[w6,w6];rfl
theorem Gy{lf ef:Nat}{fs:List ((Int×Bool)×V)}{s:St}{v:V}{k:Hp->Prop}(h:H[lf]?=some (.cD ef fs))(hs:fs.length<16000000)(q:∀ep,k (H.set lf (.cD ep (dput fs (kz s) v)))):n3 (.ref lf) (sv s) v H k:=aG h (cK (cO hs) q)
theorem AC{lw ew:Nat}{es:List ((Int×Bool)×V)}(h:H[lw]?=some (.cD ew es)):keysOf H (.ref lw)=some (es.map λp=>fN p.1):=by
 refine(?_:(match H[lw]?.bind fS with|some es=>_|none=>_)=_)
 rw[h]
 refine(?_:(match H[lw]?.bind i7 with|some es=>_|none=>_)=_)
 rw[h];rfl
end
noncomputable def AD(ps:List aO)(F:cW->St->cW)(tot:cW)(ks:List St)(L b lf:Nat)(x0 x1 x2 x3:V)(H₁:Hp)(ss as:List St)(ρ:aV)(H':Hp):Prop:=∀FuIζ:Prop,(∀(o5 o6 o7:Option V) (ef:Nat) (fs:List ((Int×Bool)×V)) (found:cW) (e:ρ=[some x0,some x1,some x2,some x3,some (.ref lf),o5,o6,o7]) (x:br lf H₁ H') (a:H'[lf]?=some (.cD ef fs)) (dc:cL kz (eD b H') found fs) (ok:jP ps.length L ks found) (t:as.foldl F found=tot) (oM:∀s∈as,s∈ss),FuIζ)->FuIζ
theorem AD.mk{ps:List aO}{F:cW->St->cW}{tot:cW}{ks:List St}{L b lf:Nat}{x0 x1 x2 x3:V}{H₁:Hp}{ss as:List St}{ρ:aV}{H':Hp}(o5 o6 o7:Option V)(ef:Nat)(fs:List ((Int×Bool)×V))(found:cW)(e:ρ=[some x0,some x1,some x2,some x3,some (.ref lf),o5,o6,o7])(x:br lf H₁ H')(a:H'[lf]?=some (.cD ef fs))(dc:cL kz (eD b H') found fs)(ok:jP ps.length L ks found)(t:as.foldl F found=tot)(oM:∀s∈as,s∈ss):AD ps F tot ks L b lf x0 x1 x2 x3 H₁ ss as ρ H':=λζ bw=>bw o5 o6 o7 ef fs found e x a dc ok t oM
noncomputable def AE(ps:List aO)(F:cW->St->cW)(tot:cW)(ks:List St)(L b lf:Nat)(x0 x1 x2 x3 x5:V)(H₁:Hp)(as:List St)(ρ:aV)(H':Hp):Prop:=∀FvIζ:Prop,(∀(o6 o7:Option V) (ef:Nat) (fs:List ((Int×Bool)×V)) (found:cW) (e:ρ=[some x0,some x1,some x2,some x3,some (.ref lf),some x5,o6,o7]) (x:br lf H₁ H') (a:H'[lf]?=some (.cD ef fs)) (dc:cL kz (eD b H') found fs) (ok:jP ps.length L ks found) (t:as.foldl F found=tot) (oM:∀o∈as,o.1<ps.length),FvIζ)->FvIζ
theorem AE.mk{ps:List aO}{F:cW->St->cW}{tot:cW}{ks:List St}{L b lf:Nat}{x0 x1 x2 x3 x5:V}{H₁:Hp}{as:List St}{ρ:aV}{H':Hp}(o6 o7:Option V)(ef:Nat)(fs:List ((Int×Bool)×V))(found:cW)(e:ρ=[some x0,some x1,some x2,some x3,some (.ref lf),some x5,o6,o7])(x:br lf H₁ H')(a:H'[lf]?=some (.cD ef fs))(dc:cL kz (eD b H') found fs)(ok:jP ps.length L ks found)(t:as.foldl F found=tot)(oM:∀o∈as,o.1<ps.length):AE ps F tot ks L b lf x0 x1 x2 x3 x5 H₁ as ρ H':=λζ bw=>bw o6 o7 ef fs found e x a dc ok t oM
section
variable{n:Nat}{l k:Nat}{H:Hp}{Q:PQ}
theorem Gz{ps:List aO}(hW:cw ps){d:Int}{p:aO}{k:Nat}(hp:ps[k]?=some p){down:Bool}:∀o∈uH ps d p k down,o.1<ps.length:=by
 intro o ho
 rcases mem_append.mp ho with h|h
 ·obtain⟨c,hc,rfl⟩:=mem_map.mp h
  exact mem_range.mp (mem_filter.mp hc).1
 ·cases down with
  |true=>cases h
  |false=>
   obtain⟨c,hc,rfl⟩:=mem_map.mp (show o∈(dq p d).map λc=>(c,false) from h)
   exact(mC hW hp d c hc).elim λq hq=>(List.getElem?_eq_some_iff.mp hq.1).1
theorem QH{d:Int}{ps:List aO}(hW:cw ps)(hl:ps.length<=20){kn:Kn}{ws:cW}{ks es:List ((Int×Bool)×V)}{ek ew lk lw b L:Nat}(hL:L<=1000)(hA:H[l]?=some (.list (ps.map bO)))(hK:H[lk]?=some (.cD ek ks))(dk:cL kz (λ(_:Unit) _=>True) kn ks)(hY:H[lw]?=some (.cD ew es))(dw:cL kz (eD b H) ws es)(hb:b<=H.length)(nd:(kn.map (·.1)).Nodup)(rg:∀e∈ws,e.1.1<ps.length)(ln:∀s,(fo ws s).length<=L)
  (q:∀lf ef fs H',aI H H'->H.length<=lf->H'[lf]?=some (.cD ef fs)->cL kz (eD b H') ((ws.map (·.1)).foldl (oK ps d kn ws) []) fs->jP ps.length (L+1) (kn.map (·.1)) ((ws.map (·.1)).foldl (oK ps d kn ws) [])->Q (.ref lf) H'):aM (n+4) yc [.ref l,.ref lk,.ref lw,.int d] H Q:=PC (by
 have bX:∀{m c},H[m]?=some c->m≠H.length:=λh=>ne_of_lt (cT h)
 have AF:=bz [.cD 0 []] hY
 apply aG (AC AF)
 rw[dw.keys]
 refine d9 (AD ps (oK ps d kn ws) ((ws.map (·.1)).foldl (oK ps d kn ws) []) (kn.map (·.1)) (L+1) b H.length (.ref l) (.ref lk) (.ref lw) (.int d) (H++[.cD 0 []]) (ws.map (·.1))) (λs as ρ H' h=>?_) (λρ H' h=>?_) _ _ _ (.mk none none none 0 [] [] rfl (br.refl _ _) (bq _ _) .nil (.mk (by rw[map_nil,append_nil];exact nd) (λζ h=>(nomatch h)) (λζ h=>(nomatch h))) rfl (λs h=>h))
 ·refine h _ λo5 o6 o7 ef fs found e x a dc ok t bs=>?_
  subst e
  refine λN hN=>?_
  have x':aI H H':=x.ext (aI.ba _ _) (le_refl _)
  refine(mem_map.mp (bs s mem_cons_self)).elim λe he=>(at_of (he.2▸rg e he.1:s.1<ps.length)).elim λp hp=>?_
  refine bB (QF (n:=n) hW hl hp s.2 (x' _ _ hA) λlc H₂ Az cf hc=>?_)
  refine(dw.get oJ s (iE.mpr (bs s mem_cons_self))).elim λw hw=>hw.elim λwv hw=>?_
  apply aG (dz hc)
  have GA:H.length<lc:=lt_of_lt_of_le (cT a) Az
  refine d9 (AE ps (wZ kn (fo ws s)) (oK ps d kn ws found s) (kn.map (·.1)) (L+1) b H.length (.ref l) (.ref lk) (.ref lw) (.int d) (sv s) H₂) (λo os ρ H₃ h=>?_) (λρ H₃ h=>?_) _ _ _ (.mk o6 o7 ef fs found rfl (br.refl _ _) (cf _ _ a) (dc.imp λζ ζ h=>h.ext cf) ok (by unfold oK cX;rw[hp]) (Gz hW hp))
  ·refine h _ λo6 o7 ef fs found e co a dc ok t bo=>?_
   subst e
   refine λN' hZ=>?_
   have dX:aI H H₃:=co.ext (x'.trans cf) (le_refl _)
   refine hw.2.2 _ λlv EJ ev av=>?_
   subst ev
   have gw:fo ws s=w:=by unfold fo;rw[hw.1];rfl
   have dK:=ln s
   rw[gw] at dK t
   have ho:=bo o mem_cons_self
   have GB:∀o∈os,o.1<ps.length:=λo h=>bo o (.tail _ h)
   apply aG (w5 (dX _ _ hY) hw.2.1)
   refine lN (bz _ (dX _ _ av)) (bq _ _) (by rw[length_append,length_map];exact lt_of_le_of_lt (add_le_add_right (le_trans dK hL) _) (show 1000+1<16000000 by decide)) ?_
   have am:=bq (H₃++[bc.list [nv o.1]]) (.list (bb w++[nv o.1]))
   rw[qg w o.1] at am ⊢
   generalize hm:(H₃++[bc.list [nv o.1]]).length=m at *
   have QI:b<=m:=by rw[<-hm];exact le_trans (le_trans hb dX.len) (by rw[length_append];exact le_add_right _ _)
   have gv:aI H₃ (H₃++[bc.list [nv o.1]]++[bc.list (bb (w++[o.1]))]):=(aI.ba _ _).trans (aI.ba _ _)
   generalize H₃++[bc.list [nv o.1]]++[bc.list (bb (w++[o.1]))]=H₄ at *
   have nJ:=gv _ _ a
   have uI:cL kz (eD b H₄) found fs:=dc.imp λζ ζ h=>h.ext gv
   rw[foldl_cons] at t
   have yes:(!dR kn o&&(!dR found o||fm (w++[o.1]) (fo found o)))=true->n3 (.ref H.length) (sv o) (.ref m) H₄ (λH'=>N' [some (.ref l),some (.ref lk),some (.ref lw),some (.int d),some (.ref H.length),some (sv s),some (sv o),some (.ref m)] H'):=λdC=>by
    refine Gy nJ (by rw[dA.len uI];exact lt_of_le_of_lt (le_trans ok.len (mul_le_mul_left 2 hl)) (by decide)) λep=>?_
    have fy:=br.set H.length H₄ (.cD ep (dput fs (kz o) (.ref m)))
    refine hZ _ _ (dr hc (((co.trans (gv.b _)).trans fy) _ _ (ne_of_gt GA) hc)) (.mk _ _ ep _ (fk found o (w++[o.1])) rfl ((co.trans (gv.b _)).trans fy) (f9 nJ _) (?_) (ok.put ?_ ho (by rw[length_append];exact succ_le_succ dK)) (?_) GB)
    ·exact cL.put oJ (uI.imp λζ ζ h=>h.set nJ (λvs h=>nomatch h) fy) ((eD.mk m QI rfl am:eD b H₄ (w++[o.1]) (.ref m)).set nJ (λvs h=>nomatch h) fy)
    ·exact λhm=>absurd (iE.mpr hm) (by rw[not_eq_true];exact(not_eq_true' _).mp (and_eq_true_iff.mp dC).1)
    ·rw[show wZ kn w found o=fk found o (w++[o.1]) from if_pos dC] at t;rw[gw];exact t
   have no:(!dR kn o&&(!dR found o||fm (w++[o.1]) (fo found o)))=false->N' [some (.ref l),some (.ref lk),some (.ref lw),some (.int d),some (.ref H.length),some (sv s),some (sv o),some (.ref m)] H₄:=λdC=>
    hZ _ _ (dr hc ((co.trans (gv.b _)) _ _ (ne_of_gt GA) hc)) (.mk _ _ ef fs found rfl (co.trans (gv.b _)) nJ uI ok (by rw[show wZ kn w found o=found from if_neg (by rw[dC];decide)] at t;rw[gw];exact t) GB)
   apply aG (Gw (s:=o) (gv _ _ (dX _ _ hK)))
   rw[dk.has oJ]
   refine e8 (λh1=>?_) λh1=>dJ h1 (no (by rw[h1];rfl))
   rw[h1,Bool.true_and] at yes no
   apply aG (Gw (s:=o) nJ)
   rw[uI.has oJ]
   refine qf (λh2=>?_) λh2=>jO h2 (yes (by rw[h2];rfl))
   rw[h2,Bool.false_or] at yes no
   refine(uI.get oJ o (Bool.not_eq_false' .. |>.mp h2)).elim λw' jg=>jg.elim λQJ jg=>?_
   have QK:fo found o=w':=by unfold fo;rw[jg.1];rfl
   rw[QK] at yes no
   apply aG (w5 nJ jg.2.1)
   refine jg.2.2 _ λVO ζ QL QM=>?_
   subst QL
   apply aG (Gx am QM)
   exact da yes no
  ·refine h _ λo6 o7 ef fs found' e co a dc ok t' bo=>?_
   subst e
   rw[foldl_nil] at t'
   subst t'
   have dX:=(cf.b H.length).trans co
   exact hN _ _ (dr AF ((x.trans dX) _ _ (bX hY) AF)) (.mk _ _ _ ef fs _ rfl (x.trans dX) a dc ok t (λs hs=>bs s (.tail _ hs)))
 ·refine h _ λo5 o6 o7 ef fs found e x a dc ok t bs=>?_
  subst e
  rw[foldl_nil] at t
  subst t
  exact q _ ef fs _ (x.ext (aI.ba _ _) (le_refl _)) (le_refl _) a dc ok)
end
noncomputable abbrev Hr:=List (Nat×List Nat)
noncomputable abbrev hz(k:Nat):Int:=(k:Int)
theorem nK(a b:Nat)(h:hz a=hz b):a=b:=ofNat.inj h
noncomputable def iF(hp:Hr)(h:Nat):List Nat:=(mE hp h).getD []
noncomputable def lS(ps:List aO)(d:Int)(k:Nat)(ws:cW)(hp:Hr)(s:St):Hr:=if fA k s.1&&(lv ps d s.1&&(!dR hp s.1||fm (fo ws s) (iF hp s.1))) then fk hp s.1 (fo ws s) else hp
noncomputable def eE(kn:Kn)(ws:cW):Kn:=kn++ws.map λe=>(e.1,())
noncomputable def lT(ps:List aO)(d:Int)(kn:Kn)(ws:cW):cW:=(ws.map (·.1)).foldl (oK ps d kn ws) []
noncomputable def kE(ps:List aO)(d:Int)(k:Nat):Nat->Kn->cW->Hr->Hr
 |0,_,_,h=>h
 |f+1,kn,ws,h=>if h.isEmpty&&!ws.isEmpty then kE ps d k f (eE kn ws) (lT ps d (eE kn ws) ws) (((lT ps d (eE kn ws) ws).map (·.1)).foldl (lS ps d k (lT ps d (eE kn ws) ws)) h) else h
noncomputable def iG(l:List Nat):List Nat:=l.mergeSort λa b=>decide (a<=b)
noncomputable def il(ps:List aO)(d:Int)(k:Nat):List (Nat×List Nat):=(iG ((kE ps d k 41 [] [((k,false),[k])] []).map (·.1))).map λh=>(h,iF (kE ps d k 41 [] [((k,false),[k])] []) h)
noncomputable def AG(b:Nat)(H:Hp)(p:Nat×List Nat)(v:V):Prop:=∀NrAtζ:Prop,(∀(l:Nat) (hb:b<=l) (e:v=.aP [nv p.1,.ref l]) (a:H[l]?=some (.list (bb p.2))),NrAtζ)->NrAtζ
theorem AG.mk{b:Nat}{H:Hp}{p:Nat×List Nat}{v:V}(l:Nat)(hb:b<=l)(e:v=.aP [nv p.1,.ref l])(a:H[l]?=some (.list (bb p.2))):AG b H p v:=λζ bw=>bw l hb e a
theorem GC{l:List Nat}{js:List Int}(h:js.Perm (l.map hz))(hs:js.Pairwise (·<=·)):js=(iG l).map hz:=QE (h.trans ((mergeSort_perm l _).map hz).symm) hs (by
 have:=List.pairwise_mergeSort (le:=λa b:Nat=>decide (a<=b)) (λa b c h1 h2=>decide_eq_true (le_trans (of_decide_eq_true h1) (of_decide_eq_true h2))) (λa b=>by rw[or_eq_true];exact(le_total a b).imp (λh=>decide_eq_true h) λh=>decide_eq_true h) l
 exact Pairwise.map _ (λa b h=>ofNat_le.mpr (of_decide_eq_true h)) this)
noncomputable def kY(n:Nat)(hp:Hr):Prop:=∀HOkζ:Prop,(∀(nd:(hp.map (·.1)).Nodup) (rg:∀h∈hp.map (·.1),h<n) (ln:∀e∈hp,e.2.length<=42),HOkζ)->HOkζ
theorem kY.mk{n:Nat}{hp:Hr}(nd:(hp.map (·.1)).Nodup)(rg:∀h∈hp.map (·.1),h<n)(ln:∀e∈hp,e.2.length<=42):kY n hp:=λζ bw=>bw nd rg ln
theorem kY.len{n:Nat}{hp:Hr}(h:kY n hp):hp.length<=n:=h _ λnd rg ζ=>by rw[<-length_map (f:=(·.1))];exact ql n _ nd rg
theorem kY.put{n:Nat}{hp:Hr}(h:kY n hp){k:Nat}{w:List Nat}(hk:k<n)(hw:w.length<=42):kY n (fk hp k w):=h _ λnd rg ln=>by
 refine(.mk (?_) (?_) (λe he=>(AB he).elim (ln e) λq=>by rw[q];exact hw))<;>rw[nG]<;>split
 ·exact nd
 ·rename_i hs
  exact nodup_append.mpr ⟨nd,nodup_cons.mpr ⟨not_mem_nil,nodup_nil⟩,λa ha b hb e=>by
   rw[mem_singleton.mp hb] at e
   exact hs (iE.mpr (e▸ha))⟩
 ·exact rg
 ·intro h hh
  exact(mem_append.mp hh).elim (rg h) λq=>by rw[mem_singleton.mp q];exact hk
section
variable{n:Nat}{l k:Nat}{H:Hp}{Q:PQ}
theorem AH{lw ew:Nat}{es:List (Int×V)}{s:Nat}{v:V}(h:H[lw]?=some (.dict ew es))(e:eO es (hz s)=some v):eQ (.ref lw) (nv s) H=some v:=by
 refine(?_:(match H[lw]?.bind pA with|some vs=>j4 vs (s:Int)|none=>(H[lw]?.bind fS).bind λes=>eO es (hz s))=_)
 rw[h];exact e
theorem QN{lw ew:Nat}{es:List (Int×V)}{s:Nat}(h:H[lw]?=some (.dict ew es)):fT .fR (nv s) (.ref lw) H=some (!lC es (hz s)):=by
 refine(?_:Option.map _ (match H[lw]?.bind fS with|some es=>_|none=>_)=_)
 rw[h];rfl
theorem AI{lf ef:Nat}{fs:List (Int×V)}{s:Nat}{v:V}{k:Hp->Prop}(h:H[lf]?=some (.dict ef fs))(hs:fs.length<16000000)(q:∀ep,k (H.set lf (.dict ep (dput fs (hz s) v)))):n3 (.ref lf) (nv s) v H k:=aG h (cK (cO hs) q)
theorem QO{a b ea:Nat}{es:List (Int×V)}(h:H[a]?=some (.dict ea es))(h':H[b]?=some (.dict 0 [])):fT .eq (.ref a) (.ref b) H=some es.isEmpty:=by
 refine(?_:kL H (.ref a) (.ref b)=_)
 have e1:j3 H (.ref a)=some es.isEmpty:=by
  refine(?_:(match H[a]?.bind fS with|some es=>some es.isEmpty|none=>_)=_)
  rw[h];rfl
 have e2:j3 H (.ref b)=some true:=by
  refine(?_:(match H[b]?.bind fS with|some es=>some es.isEmpty|none=>_)=_)
  rw[h'];rfl
 unfold kL
 rw[e1,e2]
 refine(?_:(if(es.isEmpty||true)=true then some (es.isEmpty&&true) else none)=_)
 rw[Bool.or_true,Bool.and_true];rfl
theorem QP{a b ea:Nat}{es:List ((Int×Bool)×V)}(h:H[a]?=some (.cD ea es))(h':H[b]?=some (.dict 0 [])):fT .ne (.ref a) (.ref b) H=some (!es.isEmpty):=by
 refine(?_:(kL H (.ref a) (.ref b)).map _=_)
 have e1:j3 H (.ref a)=some es.isEmpty:=by
  refine(?_:(match H[a]?.bind fS with|some es=>_|none=>(H[a]?.bind i7).map List.isEmpty)=_)
  rw[h];rfl
 have e2:j3 H (.ref b)=some true:=by
  refine(?_:(match H[b]?.bind fS with|some es=>some es.isEmpty|none=>_)=_)
  rw[h'];rfl
 unfold kL
 rw[e1,e2]
 refine(?_:(if(es.isEmpty||true)=true then some (es.isEmpty&&true) else none).map _=_)
 rw[Bool.or_true,Bool.and_true];rfl
theorem GD{a ea:Nat}{es:List (Int×V)}(h:H[a]?=some (.dict ea es)):copyOf H (.ref a)=some (es.map λp=>.int p.1):=by
 refine(?_:(match H[a]?.bind fS with|some es=>_|none=>_)=_)
 rw[h];rfl
theorem pG{a:Nat}{ls:List Nat}(h:H[a]?=some (.list (bb ls))):jp H (.ref a)=some (ls.map hz):=by
 refine(?_:(cP H (.ref a)).bind allInts=_)
 rw[cN h];exact w6 ls
theorem GF{α β:Type}{R:α->β->Prop}{as:List α}{bs:List β}(h:dA R as bs):bs.isEmpty=as.isEmpty:=h.casesOn rfl λζ ζ=>rfl
theorem QR{A B:Type}[DecidableEq A]{ws:List (A×B)}{a:A}{b:B}(h:dR ws a=false):fk ws a b=ws++[(a,b)]:=if_neg (by rw[show(ws.any λp=>decide (p.1=a))=false from h];decide)
end
noncomputable def AJ(ps:List aO)(d:Int)(k l:Nat)(tot:Hr)(H:Hp)(f:Nat)(ρ:aV)(H':Hp):Prop:=∀NeIζ:Prop,(∀(o6 o7:Option V) (lw lk lh ew ek eh:Nat) (es ks:List ((Int×Bool)×V)) (hs:List (Int×V)) (kn:Kn) (ws:cW) (hp:Hr) (L:Nat) (e:ρ=[some (.ref l),some (nv k),some (.int d),some (.ref lw),some (.ref lk),some (.ref lh),o6,o7]) (x:aI H H') (bk:H.length<=lk) (bh:H.length<=lh) (ne:lw≠lk) (aw:H'[lw]?=some (.cD ew es)) (ak:H'[lk]?=some (.cD ek ks)) (ah:H'[lh]?=some (.dict eh hs)) (dw:cL kz (eD H.length H') ws es) (dk:cL kz (λ(_:Unit) _=>True) kn ks) (dh:cL hz (eD H.length H') hp hs) (ok:jP ps.length L (kn.map (·.1)) ws) (kr:∀s∈kn.map (·.1),s.1<ps.length) (oh:kY ps.length hp) (hf:2*ps.length<f+kn.length) (hL:L+f=42) (t:kE ps d k f kn ws hp=tot),NeIζ)->NeIζ
theorem AJ.mk{ps:List aO}{d:Int}{k l:Nat}{tot:Hr}{H:Hp}{f:Nat}{ρ:aV}{H':Hp}(o6 o7:Option V)(lw lk lh ew ek eh:Nat)(es ks:List ((Int×Bool)×V))(hs:List (Int×V))(kn:Kn)(ws:cW)(hp:Hr)(L:Nat)(e:ρ=[some (.ref l),some (nv k),some (.int d),some (.ref lw),some (.ref lk),some (.ref lh),o6,o7])(x:aI H H')(bk:H.length<=lk)(bh:H.length<=lh)(ne:lw≠lk)(aw:H'[lw]?=some (.cD ew es))(ak:H'[lk]?=some (.cD ek ks))(ah:H'[lh]?=some (.dict eh hs))(dw:cL kz (eD H.length H') ws es)(dk:cL kz (λ(_:Unit) _=>True) kn ks)(dh:cL hz (eD H.length H') hp hs)(ok:jP ps.length L (kn.map (·.1)) ws)(kr:∀s∈kn.map (·.1),s.1<ps.length)(oh:kY ps.length hp)(hf:2*ps.length<f+kn.length)(hL:L+f=42)(t:kE ps d k f kn ws hp=tot):AJ ps d k l tot H f ρ H':=λζ bw=>bw o6 o7 lw lk lh ew ek eh es ks hs kn ws hp L e x bk bh ne aw ak ah dw dk dh ok kr oh hf hL t
noncomputable def lH(tot:Kn)(lk:Nat)(x0 x1 x2 x3 x5 x7:Option V)(H₁:Hp)(as:List St)(ρ:aV)(H':Hp):Prop:=∀KnIζ:Prop,(∀(o6:Option V) (ek:Nat) (ks:List ((Int×Bool)×V)) (kd:Kn) (e:ρ=[x0,x1,x2,x3,some (.ref lk),x5,o6,x7]) (x:br lk H₁ H') (a:H'[lk]?=some (.cD ek ks)) (dk:cL kz (λ(_:Unit) _=>True) kd ks) (t:kd++as.map (λs=>(s,()))=tot),KnIζ)->KnIζ
theorem lH.mk{tot:Kn}{lk:Nat}{x0 x1 x2 x3 x5 x7:Option V}{H₁:Hp}{as:List St}{ρ:aV}{H':Hp}(o6:Option V)(ek:Nat)(ks:List ((Int×Bool)×V))(kd:Kn)(e:ρ=[x0,x1,x2,x3,some (.ref lk),x5,o6,x7])(x:br lk H₁ H')(a:H'[lk]?=some (.cD ek ks))(dk:cL kz (λ(_:Unit) _=>True) kd ks)(t:kd++as.map (λs=>(s,()))=tot):lH tot lk x0 x1 x2 x3 x5 x7 H₁ as ρ H':=λζ bw=>bw o6 ek ks kd e x a dk t
noncomputable def AK(ps:List aO)(F:Hr->St->Hr)(tot:Hr)(b lh:Nat)(x0 x1 x2 x3 x4:Option V)(H₁:Hp)(ss as:List St)(ρ:aV)(H':Hp):Prop:=∀HeIζ:Prop,(∀(o6 o7:Option V) (eh:Nat) (hs:List (Int×V)) (hp:Hr) (e:ρ=[x0,x1,x2,x3,x4,some (.ref lh),o6,o7]) (x:br lh H₁ H') (a:H'[lh]?=some (.dict eh hs)) (dh:cL hz (eD b H') hp hs) (oh:kY ps.length hp) (t:as.foldl F hp=tot) (oM:∀s∈as,s∈ss),HeIζ)->HeIζ
theorem AK.mk{ps:List aO}{F:Hr->St->Hr}{tot:Hr}{b lh:Nat}{x0 x1 x2 x3 x4:Option V}{H₁:Hp}{ss as:List St}{ρ:aV}{H':Hp}(o6 o7:Option V)(eh:Nat)(hs:List (Int×V))(hp:Hr)(e:ρ=[x0,x1,x2,x3,x4,some (.ref lh),o6,o7])(x:br lh H₁ H')(a:H'[lh]?=some (.dict eh hs))(dh:cL hz (eD b H') hp hs)(oh:kY ps.length hp)(t:as.foldl F hp=tot)(oM:∀s∈as,s∈ss):AK ps F tot b lh x0 x1 x2 x3 x4 H₁ ss as ρ H':=λζ bw=>bw o6 o7 eh hs hp e x a dh oh t oM
theorem GG{ws:cW}{L:Nat}(h:∀e∈ws,e.2.length<=L)(s:St):(fo ws s).length<=L:=by
 unfold fo mE
 cases hf:ws.find? λp=>decide (p.1=s) with
 |none=>exact zero_le _
 |some e=>exact h e (mem_of_find?_eq_some hf)
theorem w7(kn:Kn)(ws:cW):(eE kn ws).map (·.1)=kn.map (·.1)++ws.map (·.1):=by
 unfold eE;rw[map_append,map_map];rfl
theorem GH{α β γ:Type}{R:β->γ->Prop}{f:α->β}{g:α->γ}:∀l:List α,(∀a∈l,R (f a) (g a))->dA R (l.map f) (l.map g)
 |[],_=>.nil
 |a::r,h=>.cons (h a mem_cons_self) (GH r λa ha=>h a (.tail _ ha))
noncomputable def GI(H:Hp)(ns:List (Nat×List Nat))(Q:PQ):Prop:=∀lr vs H',ns.length<=20->(∀e∈ns,e.2.length<=42)->H.length<=lr->aI H H'->H'[lr]?=some (.list vs)->dA (AG H.length H') ns vs->Q (.ref lr) H'
section
variable{n:Nat}{l k:Nat}{H:Hp}{Q:PQ}
noncomputable abbrev QS:S:=.aX (.U 7) (.aU (.U 6) (.k (.int 0)))
noncomputable abbrev QT:S:=.bD (.and [(.cmp .ne (.U 7) (.U 1)),(.call kK [.U 0,.U 7,.U 2]),(.or [(.cmp .fR (.U 7) (.U 5)),(.cmp .lt (.aU (.U 3) (.U 6)) (.aU (.U 5) (.U 7)))])])
    [.g8 (.U 5) (.U 7) (.aU (.U 3) (.U 6))]
    []
theorem QU{d:Int}{ps:List aO}{lf lk lh ef eh b:Nat}{fs:List ((Int×Bool)×V)}{hs:List (Int×V)}{hp:Hr}{s:St}{p':aO}{w:List Nat}{wv:V}{o7:Option V}{K:Out->Prop}{N:aV->Hp->Prop}(hA:H[l]?=some (.list (ps.map bO)))(d8:ps[s.1]?=some p')(af:H[lf]?=some (.cD ef fs))(fw:eO fs (kz s)=some wv)(ah:H[lh]?=some (.dict eh hs))(dh:cL hz (eD b H) hp hs)(lw:eD b H w wv)(sm:hs.length<16000000)
  (yes:(fA k s.1&&(dD p' d&&(!dR hp s.1||fm w (iF hp s.1))))=true->∀ep,N [some (.ref l),some (nv k),some (.int d),some (.ref lf),some (.ref lk),some (.ref lh),some (sv s),some (nv s.1)] (H.set lh (.dict ep (dput hs (hz s.1) wv))))
  (no:(fA k s.1&&(dD p' d&&(!dR hp s.1||fm w (iF hp s.1))))=false->N [some (.ref l),some (nv k),some (.int d),some (.ref lf),some (.ref lk),some (.ref lh),some (sv s),some (nv s.1)] H) :
  aY (aM (n+4)) [QS,QT] [some (.ref l),some (nv k),some (.int d),some (.ref lf),some (.ref lk),some (.ref lh),some (sv s),o7] H (n5 K N):=by
 have yes:(fA k s.1&&(dD p' d&&(!dR hp s.1||fm w (iF hp s.1))))=true->be (eQ (.ref lf) (sv s) H) λv=>n3 (.ref lh) (nv s.1) v H λH'=>N [some (.ref l),some (nv k),some (.int d),some (.ref lf),some (.ref lk),some (.ref lh),some (sv s),some (nv s.1)] H':=λhc=>aG (w5 af fw) (AI ah sm (yes hc))
 refine(?_:bW (fA k s.1==true) _ _)
 refine e8 (λh1=>?_) λh1=>dJ h1 (no (by rw[h1];rfl))
 rw[h1,Bool.true_and] at yes no
 refine bB (oE hA d8 ?_)
 refine(?_:bW (dD p' d==true) _ _)
 refine e8 (λh2=>?_) λh2=>dJ h2 (no (by rw[h2];rfl))
 rw[h2,Bool.true_and] at yes no
 apply aG (QN (s:=s.1) ah)
 rw[dh.has nK]
 refine qf (λh3=>?_) λh3=>jO h3 (yes (by rw[h3];rfl))
 rw[h3,Bool.false_or] at yes no
 refine(dh.get nK s.1 (Bool.not_eq_false' .. |>.mp h3)).elim λw' jg=>jg.elim λQJ jg=>?_
 rw[show iF hp s.1=w' by unfold iF;rw[jg.1];rfl] at yes no
 apply aG (w5 af fw)
 apply aG (AH ah jg.2.1)
 refine lw _ λla ζ ea aa=>?_
 refine jg.2.2 _ λlb ζ eb ab=>?_
 rw[ea,eb]
 apply aG (Gx aa ab)
 exact da yes no
theorem QV{d:Int}{ps:List aO}{H':Hp}{o3 o4 o6 o7:Option V}{lh eh:Nat}{hs:List (Int×V)}{hp:Hr}(hl:ps.length<=20)(x:aI H H')(ah:H'[lh]?=some (.dict eh hs))(dh:cL hz (eD H.length H') hp hs)(oh:kY ps.length hp)(q:GI H ((iG (hp.map (·.1))).map λh=>(h,iF hp h)) Q):aY (aM (n+4)) (vl.drop 4) [some (.ref l),some (nv k),some (.int d),o3,o4,some (.ref lh),o6,o7] H' (cn Q):=by
 have du:(hp.map (·.1)).length<=20:=by rw[length_map];exact le_trans oh.len hl
 apply aG (GD ah)
 rw[dh.keys (g:=V.int)]
 refine cK (cO (by rw[length_map];exact lt_of_le_of_lt du (by decide))) ?_
 apply aG (pG (ls:=hp.map (·.1)) (bq _ _))
 refine And.intro (by rw[length_map];exact lt_of_le_of_lt du (by decide)) λjs hj cQ=>?_
 rw[GC hj cQ]
 apply aG (dz (bq _ _))
 have qm:(iG (hp.map (·.1))).length<=20:=le_trans (le_of_eq (mergeSort_perm _ _).length_eq) du
 refine cK (cO (by rw[length_map,length_map];exact lt_of_le_of_lt qm (by decide))) ?_
 refine(?_:gC _ _ _ _ _ (((iG (hp.map (·.1))).map hz).map V.int) _ _ _ _)
 rw[map_map]
 have get:∀h∈iG (hp.map (·.1)),∃v,eO hs (hz h)=some v/\eD H.length H' (iF hp h) v:=λh hh=>(dh.get nK h (iE.mpr ((mergeSort_perm _ _).mem_iff.mp hh))).elim λw hw=>hw.elim λv hv=>⟨v,hv.2.1,by unfold iF;rw[hv.1];exact hv.2.2⟩
 refine ij (P:=λζ=>true) (F:=λh=>.aP [nv h,(eO hs (hz h)).getD .none]) _ _ _ (λa ζ T h=>h) (λh hh ζ N hN=>(get h hh).elim λv hv=>?_) ?_
 ·refine aG (AH (bz _ (bz _ ah)) hv.1) ?_
  rw[hv.1] at hN
  exact hN
 ·rw[nH]
  have xx:∀a b c:List bc,aI H' (H'++a++b++c):=λa b c=>(aI.ba H' a).trans ((aI.ba _ b).trans (aI.ba _ c))
  refine q _ _ _ (by rw[length_map];exact qm) (λe he=>(mem_map.mp he).elim λh hh=>hh.2▸?_) (x.trans ((aI.ba H' _).trans (aI.ba _ _))).len (x.trans (xx _ _ _)) (bq _ _) ?_
  ·refine(?_:(iF hp h).length<=42)
   unfold iF mE
   cases hf:hp.find? λp=>decide (p.1=h) with
   |none=>exact zero_le _
   |some e=>exact oh _ λζ ζ ln=>ln e (mem_of_find?_eq_some hf)
  ·exact GH _ λh hh=>(get h hh).elim λv hv=>hv.2 _ λlv hb ev av=>(.mk lv hb (by rw[hv.1,ev];rfl) (xx _ _ _ _ _ av))
theorem QW{d:Int}{ps:List aO}(hW:cw ps)(hl:ps.length<=20){p:aO}(hp:ps[k]?=some p)(hA:H[l]?=some (.list (ps.map bO)))(q:GI H (il ps d k) Q):aM (n+5) yd [.ref l,nv k,.int d] H Q:=PE (by
 have wA:=(List.getElem?_eq_some_iff.mp hp).1
 refine And.intro (bz _ (bq _ _)) λep=>?_
 generalize AL:(H++[bc.cD 0 []]++[bc.list [nv k]]).set H.length (.cD ep [(kz (k,false),.ref (H++[bc.cD 0 []]).length)])=H₂
 have cf:aI H H₂:=by rw[<-AL];exact((aI.ba _ _).trans (aI.ba _ _)).set (le_refl _) _
 have jN:H₂[H.length]?=some (.cD ep [(kz (k,false),.ref (H++[bc.cD 0 []]).length)]):=by rw[<-AL];exact f9 (bz _ (bq _ _)) _
 have uq:H.length<(H++[bc.cD 0 []]).length:=by rw[length_append];exact lt_succ_self _
 have QX:H₂[(H++[bc.cD 0 []]).length]?=some (.list (bb [k])):=by rw[<-AL];exact kX (bq _ _) _ (ne_of_lt uq)
 have len₂:=cT jN
 have co:aI H₂ (H₂++[bc.cD 0 []]++[bc.dict 0 []]):=(aI.ba _ _).trans (aI.ba _ _)
 refine wM (AJ ps d k l (kE ps d k 41 [] [((k,false),[k])] []) H) (λf ρ H' h T ht r9=>?_) _ 41 _ _ (show 41<(k:Int).natAbs+(d.natAbs+1000) by lia) (.mk none none H.length H₂.length ((H₂++[bc.cD 0 []]).length) ep 0 0 _ [] [] [] [((k,false),[k])] [] 1 rfl (cf.trans co) (le_of_lt len₂) (le_trans (le_of_lt len₂) (by rw[length_append];exact le_add_right _ _)) (ne_of_lt len₂) (co _ _ jN) (bz _ (bq _ _)) (bq _ _) (.cons ⟨rfl,(.mk _ (le_of_lt uq) rfl (co _ _ QX))⟩ .nil) .nil .nil (.mk (nodup_cons.mpr ⟨not_mem_nil,nodup_nil⟩) (λe he=>by rw[mem_singleton.mp he];exact wA) (λe he=>by rw[mem_singleton.mp he];exact le_refl 1)) (λs h=>(nomatch h)) (.mk nodup_nil (λs h=>(nomatch h)) (λs h=>(nomatch h))) (by refine(?_:2*ps.length<41+0);lia) rfl rfl)
 refine h _ λo6 o7 lw lk lh ew ek eh es ks hs kn ws hp L e x bk bh ne aw ak ah dw dk dh ok kr oh hf hL t=>?_
 subst e
 have done:hp=kE ps d k 41 [] [((k,false),[k])] []->∀H'',aI H' H''->aY (aM (n+4)) (vl.drop 4) [some (.ref l),some (nv k),some (.int d),some (.ref lw),some (.ref lk),some (.ref lh),o6,o7] H'' (cn Q):=λtL H'' qn=>QV hl (x.trans qn) (qn _ _ ah) (dh.imp λζ ζ h=>h.ext qn) oh (by unfold il at q;rw[<-tL] at q;exact q)
 cases f with
 |zero=>exact absurd (oL (ok _ λnd ζ ζ=>(nodup_append.mp nd).1) kr) (by rw[length_map];lia)
 |succ f=>
  have t':(if hp.isEmpty&&!ws.isEmpty then kE ps d k f (eE kn ws) (lT ps d (eE kn ws) ws) (((lT ps d (eE kn ws) ws).map (·.1)).foldl (lS ps d k (lT ps d (eE kn ws) ws)) hp) else hp)=_:=t
  apply aG (QO (bz [.dict 0 []] ah) (bq H' (.dict 0 [])))
  rw[GF dh]
  refine e8 (λh1=>?_) λh1=>?_
  ·apply aG (QP (bz _ (bz [.dict 0 []] aw)) (bq _ _))
   rw[GF dw]
   rw[h1,Bool.true_and] at t'
   refine(?_:T (!ws.isEmpty) _)
   cases hw:!ws.isEmpty with
   |false=>
    rw[hw] at t'
    exact r9 _ (done t' _ ((aI.ba _ _).trans (aI.ba _ _)))
   |true=>
    rw[hw] at t'
    refine ht _ λN hN=>?_
    have xb:aI H' (H'++[bc.dict 0 []]++[bc.dict 0 []]):=(aI.ba _ _).trans (aI.ba _ _)
    generalize H'++[bc.dict 0 []]++[bc.dict 0 []]=Hb at xb ⊢
    have w8:=xb _ _ aw
    have w9:((eE kn ws).map (·.1)).Nodup:=by rw[w7];exact ok _ λnd ζ ζ=>nd
    have GJ:∀s∈(eE kn ws).map (·.1),s.1<ps.length:=by
     rw[w7]
     exact λs hs=>(mem_append.mp hs).elim (kr s) λh=>(mem_map.mp h).elim λe he=>he.2▸ok _ λζ rg ζ=>rg e he.1
    have len2:(eE kn ws).length<=40:=by rw[<-length_map (f:=(·.1))];exact le_trans (oL w9 GJ) (mul_le_mul_left 2 hl)
    have nkh:lh≠lk:=λe=>by rw[e,ak] at ah;cases ah
    apply aG (AC w8)
    rw[dw.keys]
    refine d9 (lH (eE kn ws) lk (some (.ref l)) (some (nv k)) (some (.int d)) (some (.ref lw)) (some (.ref lh)) o7 Hb) (λs as ρ H₃ h=>?_) (λρ H₃ h=>?_) _ _ _ (.mk o6 ek ks kn rfl (br.refl _ _) (xb _ _ ak) dk (by unfold eE;rw[map_map];rfl))
    ·refine h _ λo6 ek ks kd e x3 a dk t=>?_
     subst e
     refine λN' hZ=>?_
     have hs:dR kd s=false:=by
      cases h:dR kd s with
      |false=>rfl
      |true=>
       rw[<-t,map_append] at w9
       exact absurd rfl ((nodup_append.mp w9).2.2 s (iE.mp h) s mem_cons_self)
     exact Gy a (by rw[dA.len dk];exact mB t (le_trans len2 (by decide))) λep=>hZ _ _ (dr w8 ((x3.trans (br.set _ _ _)) _ _ ne w8)) (.mk _ ep _ (kd++[(s,())]) rfl (x3.trans (br.set _ _ _)) (f9 a _) (by rw[<-QR hs];exact cL.put oJ dk trivial) (jt t))
    ·refine h _ λo6 ek ks kd e x3 a dk t=>?_
     subst e
     rw[map_nil,append_nil] at t
     subst t
     have xH3:aI H H₃:=x3.ext (x.trans xb) bk
     have up:∀{w v},eD H.length H' w v->eD H.length H₃ w v:=λh=>(h.ext xb).set (xb _ _ ak) (λvs h=>nomatch h) x3
     refine ok _ λnd rg ln=>?_
     refine bB (QH (n:=n) hW hl (L:=L) (le_trans (le_trans (le_add_right L _) (le_of_eq hL)) (by decide)) (xH3 _ _ hA) a dk (x3 _ _ ne w8) (dw.imp λζ ζ h=>up h) xH3.len w9 rg (GG ln) λlf ef fs H₄ dX blf af df okf=>?_)
     generalize QY:(List.map (·.1) ws).foldl (oK ps d (eE kn ws) ws) []=W at df okf
     rw[show lT ps d (eE kn ws) ws=W from QY] at t'
     have x4H:=xH3.trans dX
     apply aG (AC af)
     rw[df.keys]
     have klt:=lt_of_lt_of_le (cT a) blf
     refine d9 (AK ps (lS ps d k W) ((W.map (·.1)).foldl (lS ps d k W) hp) H.length lh (some (.ref l)) (some (nv k)) (some (.int d)) (some (.ref lf)) (some (.ref lk)) H₄ (W.map (·.1))) (λs as ρ H₅ h=>?_) (λρ H₅ h=>?_) _ _ _ (.mk o6 o7 eh hs hp rfl (br.refl _ _) (dX _ _ (x3 _ _ nkh (xb _ _ ah))) (dh.imp λζ ζ h=>(up h).ext dX) oh rfl (λs h=>h))
     ·refine h _ λo6 o7 eh hs hp e x5 qo se oh t bs=>?_
      subst e
      refine λN' hZ=>?_
      have oi:s.1<ps.length:=(mem_map.mp (bs s mem_cons_self)).elim λe he=>he.2▸okf _ λζ rg ζ=>rg e he.1
      refine(at_of oi).elim λp' d8=>?_
      have x5H:aI H H₅:=x5.ext x4H bh
      have nfh:lf≠lh:=λe=>by rw[e,dX _ _ (x3 _ _ nkh (xb _ _ ah))] at af;cases af
      have GK:=x5 _ _ nfh af
      have st:∀c,d6 [lf] H₄ (H₅.set lh c)=true:=λc=>dr af ((x5.trans (br.set _ _ c)) _ _ nfh af)
      refine(df.get oJ s (iE.mpr (bs s mem_cons_self))).elim λw hw=>hw.elim λwv hw=>?_
      have gw:fo W s=w:=by unfold fo;rw[hw.1];rfl
      have xc:eD H.length H₅ w wv:=hw.2.2.set (dX _ _ (x3 _ _ nkh (xb _ _ ah))) (λvs h=>nomatch h) x5
      rw[foldl_cons] at t
      have vB:∀s∈as,s∈W.map (·.1):=λs h=>bs s (.tail _ h)
      refine QU (n:=n) (x5H _ _ hA) d8 GK hw.2.1 qo se xc (by rw[dA.len se];exact lt_of_le_of_lt (le_trans oh.len hl) (by decide)) (λhc ep=>?_) λhc=>?_
      ·have x6:=br.set lh H₅ (.dict ep (dput hs (hz s.1) wv))
       refine hZ _ _ (st _) (.mk _ _ ep _ (fk hp s.1 w) rfl (x5.trans x6) (f9 qo _) (cL.put nK (se.imp λζ ζ h=>h.set qo (λvs h=>nomatch h) x6) (xc.set qo (λvs h=>nomatch h) x6)) (oh.put oi (by rw[<-gw];exact GG (okf _ λζ ζ ln=>λe he=>le_trans (ln e he) (by lia)) s)) (?_) vB)
       rw[show lS ps d k W hp s=fk hp s.1 w by unfold lS;rw[gw,iB d8,if_pos hc]] at t
       exact t
      ·refine hZ _ _ (dr af GK) (.mk _ _ eh hs hp rfl x5 qo se oh (?_) vB)
       rw[show lS ps d k W hp s=hp by unfold lS;rw[gw,iB d8,if_neg (by rw[hc];decide)]] at t
       exact t
     ·refine h _ λo6 o7 eh hs hp e x5 qo se oh t bs=>?_
      subst e
      rw[foldl_nil] at t
      rw[<-t] at t'
      have lkh:lk≠lh:=λe=>nkh e.symm
      have a5:=x5 _ _ lkh (dX _ _ a)
      have nfh:lf≠lh:=λe=>by rw[e,dX _ _ (x3 _ _ nkh (xb _ _ ah))] at af;cases af
      exact hN f _ _ (lt_succ_self f) (.mk o6 o7 lf lk lh ef _ eh fs _ hs (eE kn ws) W hp (L+1) rfl (x5.ext x4H bh) bk bh (ne_of_gt klt) (x5 _ _ nfh af) a5 qo (df.imp λζ ζ h=>h.set (dX _ _ (x3 _ _ nkh (xb _ _ ah))) (λvs h=>nomatch h) x5) dk se okf GJ oh (by
       have:1<=ws.length:=by
        cases ws with
        |nil=>cases hw
        |cons a r=>exact le_add_left _ _
       unfold eE
       rw[length_append,length_map]
       lia) (by lia) t')
  ·rw[h1,Bool.false_and] at t'
   refine(?_:T hp.isEmpty _)
   rw[h1]
   exact r9 _ (done t' _ (aI.ba _ _)))
end
theorem kF{a b:Nat}{r t:List Nat}:fm (a::r) (b::t)=true↔a<b\/(a=b/\fm r t=true):=by
 refine(?_:(if(a:Int)=b then fm r t else decide ((a:Int)<b))=true↔_)
 split
 ·rename_i h
  have h:=ofNat.inj h
  exact⟨λq=>.inr ⟨h,q⟩,λq=>q.elim (λq=>absurd h (ne_of_lt q)) λq=>q.2⟩
 ·rename_i h
  exact⟨λq=>.inl (ofNat_lt.mp (of_decide_eq_true q)),λq=>q.elim (λq=>decide_eq_true (ofNat_lt.mpr q)) λq=>absurd (congrArg ofNat q.1) h⟩
theorem xd:∀a:List Nat,¬fm a a=true
 |[]=>Bool.false_ne_true
 |a::r=>λh=>(kF.mp h).elim (lt_irrefl a) λh=>xd r h.2
theorem xe:∀{a b c:List Nat},fm a b=true->fm b c=true->fm a c=true
 |[],[],_,h,_=>absurd h Bool.false_ne_true
 |_::_,[],_,h,_=>absurd h Bool.false_ne_true
 |_,_::_,[],_,h=>absurd h Bool.false_ne_true
 |[],_::_,_::_,_,_=>rfl
 |_::_,_::_,_::_,h,h'=>kF.mpr ((kF.mp h).elim (λh=>(kF.mp h').elim (λh'=>.inl (lt_trans h h')) λh'=>.inl (h'.1▸h)) λh=>(kF.mp h').elim (λh'=>.inl (h.1▸h')) λh'=>.inr ⟨h.1.trans h'.1,xe h.2 h'.2⟩)
theorem AM:∀a b:List Nat,fm a b=true\/a=b\/fm b a=true
 |[],[]=>.inr (.inl rfl)
 |[],_::_=>.inl rfl
 |_::_,[]=>.inr (.inr rfl)
 |a::r,b::t=>(lt_trichotomy a b).elim (λh=>.inl (kF.mpr (.inl h))) λh=>h.elim (λh=>(AM r t).elim (λq=>.inl (kF.mpr (.inr ⟨h,q⟩))) λq=>.inr (q.elim (λq=>.inl (by rw[h,q])) λq=>.inr (kF.mpr (.inr ⟨h.symm,q⟩)))) λh=>.inr (.inr (kF.mpr (.inl h)))
theorem GL(x y:Nat):∀{a b:List Nat},a.length=b.length->fm a b=true->fm (a++[x]) (b++[y])=true
 |[],[],_,h=>absurd h Bool.false_ne_true
 |_::_,[],e,_=>nomatch e
 |[],_::_,e,_=>nomatch e
 |_::_,_::_,e,h=>kF.mpr ((kF.mp h).imp id λh=>⟨h.1,GL x y (Nat.succ.inj e) h.2⟩)
theorem QZ{x y:Nat}:∀{a:List Nat},fm (a++[x]) (a++[y])=true->x<y
 |[],h=>(kF.mp h).elim id λh=>absurd h.2 Bool.false_ne_true
 |_::_,h=>(kF.mp h).elim (λh=>absurd h (lt_irrefl _)) λh=>QZ h.2
section
variable(F:St->List St)(s0:St)
noncomputable def Wk:Nat->List Nat->St->Prop
 |0,w,t=>w=[s0.1]/\t=s0
 |n+1,w,t=>∃s w0,Wk n w0 s/\t∈F s/\w=w0++[t.1]
noncomputable def Rc(n:Nat)(t:St):Prop:=∃w,Wk F s0 n w t
noncomputable def Bf(n:Nat)(t:St):Prop:=∃m,m<n/\Rc F s0 m t
noncomputable def LW(n:Nat)(t:St)(w:List Nat):Prop:=Wk F s0 n w t/\∀w',Wk F s0 n w' t->¬fm w' w=true
noncomputable def LH(n:Nat)(h:Nat)(w:List Nat):Prop:=(∃b,Wk F s0 n w (h,b))/\∀b w',Wk F s0 n w' (h,b)->¬fm w' w=true
end
section
variable{F:St->List St}{s0:St}
theorem Wk.len:∀{n:Nat} {w:List Nat} {t:St},Wk F s0 n w t->w.length=n+1
 |0,_,_,h=>by rw[h.1];rfl
 |n+1,_,_,h=>h.elim λs h=>h.elim λw0 h=>by rw[h.2.2,length_append,h.1.len];rfl
theorem Rc.step{n:Nat}{s t:St}(h:Rc F s0 n s)(ht:t∈F s):Rc F s0 (n+1) t:=h.elim λw h=>⟨w++[t.1],s,w,h,ht,rfl⟩
theorem Bf.step{n:Nat}{s t:St}(h:Bf F s0 n s)(ht:t∈F s):Bf F s0 (n+1) t:=h.elim λm h=>⟨m+1,Nat.succ_lt_succ h.1,h.2.step ht⟩
theorem Bf.succ{n:Nat}{s:St}:Bf F s0 (n+1) s↔Bf F s0 n s\/Rc F s0 n s:=⟨λh=>h.elim λm h=>(lt_or_eq_of_le (le_of_lt_succ h.1)).elim (λq=>.inl ⟨m,q,h.2⟩) λq=>.inr (q▸h.2),λh=>h.elim (λh=>h.elim λm h=>⟨m,lt_succ_of_lt h.1,h.2⟩) λh=>⟨n,lt_succ_self n,h⟩⟩
theorem Rc.range{N:Nat}(h0:s0.1<N)(hF:∀s t,t∈F s->t.1<N):∀{n:Nat} {t:St},Rc F s0 n t->t.1<N
 |0,_,h=>h.elim λw h=>h.2▸h0
 |n+1,_,h=>h.elim λw h=>h.elim λs h=>h.elim λw0 h=>hF s _ h.2.1
theorem Q0{n:Nat}{a g m:List Nat}{x:Nat}(e:a.length=g.length)(h1:¬fm a g=true)(h2:¬fm (g++[x]) m=true):¬fm (a++[x]) m=true:=λq=>(AM a g).elim h1 λh=>h.elim (λh=>h2 (h▸q)) λh=>h2 (xe (GL x x e.symm h) q)
end
section
variable{A:Type}[DecidableEq A]
theorem GN{B:Type}{f:List (A×B)}{a:A}{b:B}{p:A×B}(h:p∈fk f a b):(p∈f/\p.1≠a)\/p=(a,b):=by
 unfold fk at h
 split at h
 ·obtain⟨q,hq,e⟩:=mem_map.mp h
  split at e
  ·rename_i h1;exact .inr (by rw[<-e,h1])
  ·rename_i h1;exact .inl (e▸⟨hq,h1⟩)
 ·rename_i hn
  exact(mem_append.mp h).imp (λh=>⟨h,λe=>hn (any_eq_true.mpr ⟨p,h,decide_eq_true e⟩)⟩) mem_singleton.mp
theorem AN{B:Type}{f:List (A×B)}{a:A}(h:a∈f.map (·.1)):∃b,mE f a=some b/\(a,b)∈f:=by
 unfold mE
 cases hf:f.find? λp=>decide (p.1=a) with
 |none=>exact(mem_map.mp h).elim λp hp=>absurd (decide_eq_true hp.2) (List.find?_eq_none.mp hf p hp.1)
 |some p=>
  have h2:=List.find?_some hf
  have e:(a,p.2)=p:=Prod.ext (of_decide_eq_true h2).symm rfl
  exact⟨p.2,rfl,by rw[e];exact mem_of_find?_eq_some hf⟩
omit [DecidableEq A] in
theorem GO{B:Type}:∀{f:List (A×B)} {e e':A×B},(f.map (·.1)).Nodup->e∈f->e'∈f->e.1=e'.1->e=e'
 |p::f,e,e',hn,h,h',he=>by
  have hn:=nodup_cons.mp hn
  rcases mem_cons.mp h with q|q<;>rcases mem_cons.mp h' with q'|q'
  ·rw[q,q']
  ·exact absurd (mem_map.mpr ⟨e',q',by rw[<-he,q]⟩) hn.1
  ·exact absurd (mem_map.mpr ⟨e,q,by rw[he,q']⟩) hn.1
  ·exact GO hn.2 q q' he
noncomputable def AO(P:Bool)(f:List (A×List Nat))(a:A)(b:List Nat):List (A×List Nat):=if P&&(!dR f a||fm b ((mE f a).getD [])) then fk f a b else f
inductive gF(C:A->List Nat->Prop)(f:List (A×List Nat)):Prop
 |mk (nd:(f.map (·.1)).Nodup) (has:∀a,a∈f.map (·.1)↔∃b,C a b) (get:∀e∈f,C e.1 e.2/\∀b,C e.1 b->¬fm b e.2=true)
omit [DecidableEq A] in
theorem gF.congr{C C':A->List Nat->Prop}{f:List (A×List Nat)}(h:gF C f)(e:∀a b,C a b↔C' a b):gF C' f:=by
 have:C=C':=funext λa=>funext λb=>propext (e a b)
 rw[<-this];exact h
theorem gF.one{C:A->List Nat->Prop}{f:List (A×List Nat)}(h:gF C f)(P:Bool)(a:A)(b:List Nat):gF (λa' b'=>C a' b'\/(P=true/\a'=a/\b'=b)) (AO P f a b):=by
 unfold AO
 cases P with
 |false=>exact h.congr λa b=>⟨.inl,λh=>h.elim id λh=>absurd h.1 Bool.false_ne_true⟩
 |true=>
  refine h.casesOn λnd has get=>?_
  rw[Bool.true_and]
  cases ha:dR f a with
  |false=>
   have hn:a∉f.map (·.1):=λm=>by rw[iE.mpr m] at ha;cases ha
   refine⟨?_,λa'=>?_,λe he=>(GN he).elim (λhe=>⟨.inl (get e he.1).1,λb' hb=>hb.elim ((get e he.1).2 b') λhb=>absurd hb.2.1 he.2⟩) λhe=>?_⟩
   ·refine(?_:((fk f a b).map (·.1)).Nodup)
    rw[nG,ha]
    exact nodup_append.mpr ⟨nd,nodup_cons.mpr ⟨not_mem_nil,nodup_nil⟩,λx hx y hy e=>hn (by rw[mem_singleton.mp hy] at e;exact e▸hx)⟩
   ·refine(?_:a'∈(fk f a b).map (·.1)↔_)
    rw[nG,ha]
    exact⟨λh=>(mem_append.mp h).elim (λh=>((has a').mp h).elim λb h=>⟨b,.inl h⟩) λh=>⟨b,.inr ⟨rfl,mem_singleton.mp h,rfl⟩⟩,λh=>mem_append.mpr (h.elim λb h=>h.elim (λh=>.inl ((has a').mpr ⟨b,h⟩)) λh=>.inr (mem_singleton.mpr h.2.1))⟩
   ·rw[he]
    exact⟨.inr ⟨rfl,rfl,rfl⟩,λb' hb=>hb.elim (λhb=>absurd ((has a).mpr ⟨b',hb⟩) hn) λhb=>by rw[hb.2.2];exact xd b⟩
  |true=>
   refine(AN (iE.mp ha)).elim λm hm=>?_
   rw[hm.1]
   refine(?_:gF _ (if fm b m=true then _ else _))
   split
   ·rename_i bX
    refine⟨?_,λa'=>?_,λe he=>(GN he).elim (λhe=>⟨.inl (get e he.1).1,λb' hb=>hb.elim ((get e he.1).2 b') λhb=>absurd hb.2.1 he.2⟩) λhe=>?_⟩
    ·rw[nG,ha];exact nd
    ·rw[nG,ha]
     exact⟨λh=>((has a').mp h).elim λb h=>⟨b,.inl h⟩,λh=>h.elim λb h=>h.elim (λh=>(has a').mpr ⟨b,h⟩) λh=>by rw[h.2.1];exact iE.mp ha⟩
    ·rw[he]
     exact⟨.inr ⟨rfl,rfl,rfl⟩,λb' hb=>hb.elim (λhb q=>(get _ hm.2).2 b' hb (xe q bX)) λhb=>by rw[hb.2.2];exact xd b⟩
   ·rename_i bX
    refine⟨nd,λa'=>⟨λh=>((has a').mp h).elim λb h=>⟨b,.inl h⟩,λh=>h.elim λb h=>h.elim (λh=>(has a').mpr ⟨b,h⟩) λh=>by rw[h.2.1];exact iE.mp ha⟩,λe he=>⟨.inl (get e he).1,λb' hb=>hb.elim ((get e he).2 b') λhb=>?_⟩⟩
    rw[hb.2.2,GO nd he hm.2 hb.2.1];exact bX
omit [DecidableEq A] in
theorem gF.fold{ι:Type}{D:ι->A->List Nat->Prop}{g:List (A×List Nat)->ι->List (A×List Nat)}(h:∀i C f,gF C f->gF (λa b=>C a b\/D i a b) (g f i)):∀(is:List ι) (C:A->List Nat->Prop) (f:List (A×List Nat)),gF C f->gF (λa b=>C a b\/∃i,i∈is/\D i a b) (is.foldl g f)
 |[],C,f,hf=>hf.congr λa b=>⟨.inl,λh=>h.elim id λh=>h.elim λi h=>nomatch h.1⟩
 |i::is,C,f,hf=>(gF.fold h is _ _ (h i C f hf)).congr λa b=>⟨λq=>q.elim (λq=>q.imp id λq=>⟨i,mem_cons_self,q⟩) λq=>.inr (q.elim λj q=>⟨j,.tail _ q.1,q.2⟩),λq=>q.elim (λq=>.inl (.inl q)) λq=>q.elim λj q=>(mem_cons.mp q.1).elim (λe=>.inl (.inr (e▸q.2))) λm=>.inr ⟨j,m,q.2⟩⟩
omit [DecidableEq A] in
theorem gF.nil:gF (λ(_:A) _=>False) []:=⟨nodup_nil,λa=>⟨λh=>(nomatch h),λh=>h.elim λζ h=>h.elim⟩,λe he=>nomatch he⟩
end
theorem AP{ws:cW}{s:St}(h:s∈ws.map (·.1)):(s,fo ws s)∈ws:=(AN h).elim λb hb=>by unfold fo;rw[hb.1];exact hb.2
theorem Q1{hp:Hr}{s:Nat}(h:s∈hp.map (·.1)):(s,iF hp s)∈hp:=(AN h).elim λb hb=>by unfold iF;rw[hb.1];exact hb.2
theorem uJ{ps:List aO}(hW:cw ps){d:Int}(s o:St)(h:o∈cX ps d s):o.1<ps.length:=by
 unfold cX at h
 cases hp:ps[s.1]? with
 |none=>rw[hp] at h;cases h
 |some p=>rw[hp] at h;exact Gz hW hp o h
section
variable{ps:List aO}{d:Int}{k:Nat}
noncomputable def Inv(F:St->List St)(s0:St)(n:Nat)(kn:Kn)(ws:cW):Prop:=∀Invζ:Prop,(∀(kd:(kn.map (·.1)).Nodup) (k1:∀s,s∈kn.map (·.1)↔Bf F s0 n s) (w1:∀s,s∈ws.map (·.1)↔Rc F s0 n s/\¬Bf F s0 n s) (wd:(ws.map (·.1)).Nodup) (w2:∀e∈ws,LW F s0 n e.1 e.2) (ln:n<=kn.length),Invζ)->Invζ
theorem Inv.mk{F:St->List St}{s0:St}{n:Nat}{kn:Kn}{ws:cW}(kd:(kn.map (·.1)).Nodup)(k1:∀s,s∈kn.map (·.1)↔Bf F s0 n s)(w1:∀s,s∈ws.map (·.1)↔Rc F s0 n s/\¬Bf F s0 n s)(wd:(ws.map (·.1)).Nodup)(w2:∀e∈ws,LW F s0 n e.1 e.2)(ln:n<=kn.length):Inv F s0 n kn ws:=λζ bw=>bw kd k1 w1 wd w2 ln
theorem Q2(kn:Kn)(ws:cW):gF (λo b=>False\/∃s,s∈ws.map (·.1)/\∃o',o'∈cX ps d s/\(!dR kn o')=true/\o=o'/\b=fo ws s++[o'.1]) (lT ps d kn ws):=
 gF.fold (D:=λs o b=>∃o',o'∈cX ps d s/\(!dR kn o')=true/\o=o'/\b=fo ws s++[o'.1]) (λs C f hf=>gF.fold (D:=λo' o b=>(!dR kn o')=true/\o=o'/\b=fo ws s++[o'.1]) (λo' C f hf=>hf.one (!dR kn o') o' (fo ws s++[o'.1])) (cX ps d s) C f hf) _ _ _ gF.nil
theorem Inv.step{n:Nat}{kn:Kn}{ws:cW}{s0:St}(h:Inv (cX ps d) s0 n kn ws)(he:ws≠[]):Inv (cX ps d) s0 (n+1) (eE kn ws) (lT ps d (eE kn ws) ws):=h _ λkd k1 w1 wd w2 ln=>by
 have GP:∀s,s∈(eE kn ws).map (·.1)↔Bf (cX ps d) s0 (n+1) s:=λs=>by
  rw[w7,mem_append,k1,w1,Bf.succ]
  exact⟨λh=>h.imp id λh=>h.1,λh=>(Classical.em (Bf (cX ps d) s0 n s)).elim .inl λq=>h.imp id λh=>⟨h,q⟩⟩
 have na:∀s,(!dR (eE kn ws) s)=true↔¬Bf (cX ps d) s0 (n+1) s:=λs=>by
  rw[not_eq_true',<-GP s,<-iE,not_eq_true]
 have gw:∀s,s∈ws.map (·.1)->LW (cX ps d) s0 n s (fo ws s):=λs hs=>w2 _ (AP hs)
 have pre:∀{s o:St} {w0:List Nat},Wk (cX ps d) s0 n w0 s->o∈cX ps d s->¬Bf (cX ps d) s0 (n+1) o->s∈ws.map (·.1):=λ{s o w0} h1 h2 h3=>(w1 s).mpr ⟨⟨w0,h1⟩,λq=>h3 (q.step h2)⟩
 refine(Q2 (ps:=ps) (d:=d) (eE kn ws) ws).casesOn λnd has get=>(.mk (?_) GP (λo=>?_) nd (λe he=>?_) (?_))
 ·rw[w7]
  exact nodup_append.mpr ⟨kd,wd,λa ha b hb e=>((w1 b).mp hb).2 (e▸(k1 a).mp ha)⟩
 ·rw[has o]
  constructor
  ·rintro⟨b,h|⟨s,hs,o',ho,hn,rfl,hb⟩⟩
   ·exact h.elim
   ·exact⟨Rc.step ⟨_,(gw s hs).1⟩ ho,(na o).mp hn⟩
  ·rintro⟨⟨w,s,w0,h1,h2,h3⟩,hn⟩
   exact⟨_,.inr ⟨s,pre h1 h2 hn,o,h2,(na o).mpr hn,rfl,rfl⟩⟩
 ·have hg:=get e he
  rcases hg.1 with h|⟨s,hs,o',ho,hn,e1,e2⟩
  ·exact h.elim
  ·refine⟨⟨s,_,(gw s hs).1,e1▸ho,by rw[e1];exact e2⟩,?_⟩
   rintro w' ⟨s',w0,h1,h2,rfl⟩
   rw[<-e1] at hn
   have cQ:=pre h1 h2 ((na _).mp hn)
   exact Q0 (n:=n) (by rw[h1.len,(gw s' cQ).1.len]) ((gw s' cQ).2 w0 h1) (hg.2 _ (.inr ⟨s',cQ,e.1,h2,hn,rfl,rfl⟩))
 ·unfold eE
  rw[length_append,length_map]
  exact add_le_add ln (length_pos_iff.mpr he)
noncomputable def hr(ps:List aO)(d:Int)(k h:Nat):Bool:=fA k h&&lv ps d h
noncomputable def kZ(ps:List aO)(d:Int)(k n:Nat):Prop:=∃h b,hr ps d k h=true/\Rc (cX ps d) (k,false) n (h,b)
noncomputable def xg(ps:List aO)(d:Int)(k n:Nat)(hp:Hr):Prop:=∀Hrsζ:Prop,(∀(nd:(hp.map (·.1)).Nodup) (has:∀h,h∈hp.map (·.1)↔hr ps d k h=true/\∃b,Rc (cX ps d) (k,false) n (h,b)) (get:∀h∈hp.map (·.1),LH (cX ps d) (k,false) n h (iF hp h)),Hrsζ)->Hrsζ
theorem xg.mk{ps:List aO}{d:Int}{k n:Nat}{hp:Hr}(nd:(hp.map (·.1)).Nodup)(has:∀h,h∈hp.map (·.1)↔hr ps d k h=true/\∃b,Rc (cX ps d) (k,false) n (h,b))(get:∀h∈hp.map (·.1),LH (cX ps d) (k,false) n h (iF hp h)):xg ps d k n hp:=λζ bw=>bw nd has get
theorem Q3{n:Nat}{kn:Kn}{ws:cW}(h:Inv (cX ps d) (k,false) n kn ws)(hN:∀m,m<n->¬kZ ps d k m):xg ps d k n ((ws.map (·.1)).foldl (lS ps d k ws) []):=h _ λkd k1 w1 wd w2 ln=>by
 have hb:gF (λa b=>False\/∃s,s∈ws.map (·.1)/\hr ps d k s.1=true/\a=s.1/\b=fo ws s) ((ws.map (·.1)).foldl (lS ps d k ws) []):=gF.fold (D:=λ(s:St) a b=>hr ps d k s.1=true/\a=s.1/\b=fo ws s) (λs C f hf=>by
  have:=hf.one (hr ps d k s.1) s.1 (fo ws s)
  unfold AO hr at this
  rw[Bool.and_assoc] at this
  exact this) _ _ _ gF.nil
 have pre:∀{h:Nat} {b:Bool},hr ps d k h=true->Rc (cX ps d) (k,false) n (h,b)->(h,b)∈ws.map (·.1):=λ{h b} h1 h2=>(w1 _).mpr ⟨h2,λq=>q.elim λm q=>hN m q.1 ⟨h,b,h1,q.2⟩⟩
 refine hb.casesOn λnd has get=>(.mk nd (λa=>?_) (λa ha=>?_))
 ·rw[has a]
  constructor
  ·rintro⟨b,h|⟨s,hs,hr,rfl,hb⟩⟩
   ·exact h.elim
   ·exact⟨hr,s.2,((w1 s).mp hs).1⟩
  ·rintro⟨h1,b,h2⟩
   exact⟨_,.inr ⟨(a,b),pre h1 h2,h1,rfl,rfl⟩⟩
 ·have hg:=get _ (Q1 ha)
  rcases hg.1 with h|⟨s,hs,hr,e1,e2⟩
  ·exact h.elim
  ·have e1:a=s.1:=e1
   have e2:iF _ a=fo ws s:=e2
   refine⟨⟨s.2,?_⟩,λb w' jg q=>?_⟩
   ·rw[e2,e1];exact(w2 _ (AP hs)).1
   ·have hm:=pre (e1▸hr) ⟨w',jg⟩
    have g1:=hg.2 _ (.inr ⟨(a,b),hm,e1▸hr,rfl,rfl⟩)
    have g2:=(w2 _ (AP hm)).2 w' jg
    exact(AM w' (fo ws (a,b))).elim g2 λh=>h.elim (λh=>g1 (h▸q)) λh=>g1 (xe h q)
noncomputable def Found(ps:List aO)(d:Int)(k:Nat)(hp:Hr):Prop:=(hp=[]/\∀n,¬kZ ps d k n)\/∃n,n<=2*ps.length/\(∀m,m<n->¬kZ ps d k m)/\hp≠[]/\xg ps d k n hp
theorem GQ(hW:cw ps)(hk:k<ps.length):∀(f n:Nat) (kn:Kn) (ws:cW),Inv (cX ps d) (k,false) n kn ws->(∀m,m<n+1->¬kZ ps d k m)->2*ps.length<f+kn.length->Found ps d k (kE ps d k f kn ws [])
 |0,n,kn,ws,h,hN,hf=>h _ λkd k1 w1 wd w2 ln=>by
  have:=oL kd λs hs=>((k1 s).mp hs).elim λm hm=>hm.2.range hk (uJ hW)
  rw[length_map] at this
  lia
 |f+1,n,kn,ws,h,hN,hf=>by
  cases hw:ws with
  |nil=>
   subst hw
   refine .inl ⟨rfl,λm ⟨a,b,h1,h2⟩=>?_⟩
   have all:∀m s,Rc (cX ps d) (k,false) m s->Bf (cX ps d) (k,false) n s:=h _ λkd k1 w1 wd w2 ln m=>by
    have no:∀s,Bf (cX ps d) (k,false) (n+1) s->Bf (cX ps d) (k,false) n s:=λs hs=>(Bf.succ.mp hs).elim id λq=>byContradiction λq'=>nomatch (w1 s).mpr ⟨q,q'⟩
    induction m with
    |zero=>exact λs hs=>no s ⟨0,succ_pos n,hs⟩
    |succ m ih=>exact λs ⟨w,u,w0,q1,q2,_⟩=>no s ((ih u ⟨w0,q1⟩).step q2)
   exact(all m _ h2).elim λm' hm=>hN m' (lt_succ_of_lt hm.1) ⟨a,b,h1,hm.2⟩
  |cons e r=>
   rw[<-hw]
   have b8:ws≠[]:=λq=>by rw[q] at hw;cases hw
   have hi:=h.step b8
   have hh:=Q3 hi hN
   refine(?_:Found ps d k (if([]:Hr).isEmpty&&!ws.isEmpty then _ else _))
   rw[if_pos (show(([]:Hr).isEmpty&&!ws.isEmpty)=true by rw[hw];rfl)]
   have du:n+1<=(eE kn ws).length:=hi _ λζ ζ ζ ζ ζ ln=>ln
   have VP:kn.length+1<=(eE kn ws).length:=by
    unfold eE
    rw[length_append,length_map,hw,length_cons];lia
   generalize (List.map (·.1) (lT ps d (eE kn ws) ws)).foldl (lS ps d k (lT ps d (eE kn ws) ws)) []=hp at hh
   cases hp with
   |nil=>
    refine GQ hW hk f (n+1) _ _ hi (λm hm=>(lt_or_eq_of_le (le_of_lt_succ hm)).elim (hN m) λq=>?_) (by lia)
    rw[q]
    rintro⟨a,b,h1,h2⟩
    exact hh _ λζ has ζ=>nomatch (has a).mpr ⟨h1,b,h2⟩
   |cons x y=>
    refine .inr ⟨n+1,?_,hN,?_,?_⟩
    ·refine hi _ λkd k1 ζ ζ ζ ζ=>?_
     have:=oL kd λs hs=>((k1 s).mp hs).elim λm hm=>hm.2.range hk (uJ hW)
     rw[length_map] at this
     lia
    ·cases f<;>exact λq=>nomatch q
    ·cases f<;>exact hh
theorem Q4(hW:cw ps)(hl:ps.length<=20)(hk:k<ps.length):Found ps d k (kE ps d k 41 [] [((k,false),[k])] []):=by
 refine GQ hW hk 41 0 [] _ (.mk nodup_nil (λs=>⟨λh=>(nomatch h),λh=>h.elim λm h=>absurd h.1 (not_lt_zero m)⟩) (λs=>⟨λh=>⟨⟨[k],rfl,mem_singleton.mp h⟩,λh=>h.elim λm h=>absurd h.1 (not_lt_zero m)⟩,λh=>h.1.elim λw h=>mem_singleton.mpr h.2⟩) (nodup_cons.mpr ⟨not_mem_nil,nodup_nil⟩) (λe he=>?_) (le_refl 0)) (λm hm=>?_) (by refine(?_:2*ps.length<41+0);lia)
 ·rw[mem_singleton.mp he]
  exact⟨⟨rfl,rfl⟩,λw' jg=>by rw[jg.1];exact xd _⟩
 ·rw[Nat.lt_one_iff.mp hm]
  rintro⟨a,b,h1,w,h2⟩
  have:a=k:=congrArg Prod.fst h2.2
  rw[this] at h1
  unfold hr fA at h1
  rw[beq_self_eq_true] at h1
  cases h1
end
structure gd where
 a:Nat
 b:Nat
 day:Int
structure fJ where
 jv:Nat
 day:Int
 e9:List (Nat×Rat)
noncomputable def iT(w:gd):V:=.aP [nv w.a,nv w.b,.int w.day]
noncomputable def mF(g:Nat×Rat):V:=.aP [nv g.1,rv g.2]
noncomputable def kG(gs:List (Nat×Rat)):V:=.aP (gs.map mF)
noncomputable def jQ(w:fJ):V:=.aP [nv w.jv,.int w.day,kG w.e9]
noncomputable def ip(a k:Nat):Bool:=((a:Int)==(k:Int))
noncomputable def uK:Option Nat->V
 |none=>.none
 |some k=>nv k
noncomputable def gW(ps:List aO)(d:Int)(k:Nat):List gd->Option Nat
 |[]=>none
 |w::r=>if decide (w.day<=d)&&(ip w.a k&&lv ps d w.b) then some w.b else if decide (w.day<=d)&&(ip w.b k&&lv ps d w.a) then some w.a else gW ps d k r
noncomputable def fB(k:Nat)(d:Int):List fJ->Int->List (Nat×Rat)->List (Nat×Rat)
 |[],_,g=>g
 |w::r,m,g=>if ip w.jv k&&(decide (m<=w.day)&&decide (w.day<=d)) then fB k d r w.day w.e9 else fB k d r m g
theorem xi{P:List (Nat×Rat)->Prop}{k:Nat}{d:Int}:∀(ws:List fJ) (m:Int) (g:List (Nat×Rat)),(∀w∈ws,P w.e9)->P g->P (fB k d ws m g)
 |[],_,g,_,h=>h
 |w::r,m,g,hw,h=>by
  unfold fB
  split
  ·exact xi r _ _ (λw h=>hw w (.tail _ h)) (hw w mem_cons_self)
  ·exact xi r _ _ (λw h=>hw w (.tail _ h)) h
noncomputable def kH(n:Nat)(ms:List gd):Prop:=∀w∈ms,w.a<n/\w.b<n
noncomputable def AQ(ps:List aO)(d:Int)(k:Nat)(x0:V)(tot:Option Nat)(n:Nat)(H:Hp)(as:List gd)(ρ:aV)(H':Hp):Prop:=∀SpIζ:Prop,(∀(o3 o4 o5:Option V) (e:ρ=[some x0,some (nv k),some (.int d),o3,o4,o5]) (eh:H'=H) (t:gW ps d k as=tot) (b:kH n as),SpIζ)->SpIζ
theorem AQ.mk{ps:List aO}{d:Int}{k:Nat}{x0:V}{tot:Option Nat}{n:Nat}{H:Hp}{as:List gd}{ρ:aV}{H':Hp}(o3 o4 o5:Option V)(e:ρ=[some x0,some (nv k),some (.int d),o3,o4,o5])(eh:H'=H)(t:gW ps d k as=tot)(b:kH n as):AQ ps d k x0 tot n H as ρ H':=λζ bw=>bw o3 o4 o5 e eh t b
noncomputable def AR(k:Nat)(d:Int)(x0:V)(tot:List (Nat×Rat))(H:Hp)(as:List fJ)(ρ:aV)(H':Hp):Prop:=∀WiIζ:Prop,(∀(m:Int) (g:List (Nat×Rat)) (o5 o6 o7:Option V) (e:ρ=[some x0,some (nv k),some (.int d),some (.int m),some (kG g),o5,o6,o7]) (eh:H'=H) (t:fB k d as m g=tot),WiIζ)->WiIζ
theorem AR.mk{k:Nat}{d:Int}{x0:V}{tot:List (Nat×Rat)}{H:Hp}{as:List fJ}{ρ:aV}{H':Hp}(m:Int)(g:List (Nat×Rat))(o5 o6 o7:Option V)(e:ρ=[some x0,some (nv k),some (.int d),some (.int m),some (kG g),o5,o6,o7])(eh:H'=H)(t:fB k d as m g=tot):AR k d x0 tot H as ρ H':=λζ bw=>bw m g o5 o6 o7 e eh t
section
variable{n:Nat}{l lm lw k:Nat}{H:Hp}{Q:PQ}
theorem Q5{d:Int}{ps:List aO}{ms:List gd}{z:V}(hA:H[l]?=some (.list (ps.map bO)))(hM:H[lm]?=some (.list (ms.map iT)))(hw:kH ps.length ms)(q:Q (uK (gW ps d k ms)) H):aM (n+2) yf [.aP [.ref l,.ref lm,z],nv k,.int d] H Q:=PR (by
 apply aG (dz hM)
 refine d9 (AQ ps d k (.aP [.ref l,.ref lm,z]) (gW ps d k ms) ps.length H) (λw as ρ H' h=>?_) (λρ H' h=>?_) _ _ _ (.mk none none none rfl rfl rfl hw)
 ·refine h _ λo3 o4 o5 e eh t b=>?_
  subst e eh
  refine λN hN=>?_
  have fO:=b w mem_cons_self
  refine(at_of fO.1).elim λpa ha=>(at_of fO.2).elim λpb hb=>?_
  have t:(if decide (w.day<=d)&&(ip w.a k&&lv ps d w.b) then some w.b else if decide (w.day<=d)&&(ip w.b k&&lv ps d w.a) then some w.a else gW ps d k as)=gW ps d k ms:=t
  rw[iB ha,iB hb] at t
  have no:(decide (w.day<=d)&&(ip w.a k&&dD pb d))=false->(decide (w.day<=d)&&(ip w.b k&&dD pa d))=false->N [some (.aP [.ref l,.ref lm,z]),some (nv k),some (.int d),some (nv w.a),some (nv w.b),some (.int w.day)] H':=λh1 h2=>hN _ _ (dr hM hM) (.mk _ _ _ rfl rfl (by rw[h1,h2] at t;exact t) (λw h=>b w (.tail _ h)))
  have second:(decide (w.day<=d)&&(ip w.a k&&dD pb d))=false->aY (aM (n+1)) [.bD (.and [(.cmp .le (.U 5) (.U 2)),(.cmp .eq (.U 4) (.U 1)),(.call kK [(.aU (.U 0) (.k (.int 0))),.U 3,.U 2])]) [.ret (.U 3)] []] [some (.aP [.ref l,.ref lm,z]),some (nv k),some (.int d),some (nv w.a),some (nv w.b),some (.int w.day)] H' (n5 (λo=>lD o (λρ H=>aY (aM (n+1)) [.ret (.k .none)] ρ H (cn Q)) (cn Q o)) N):=λh1=>by
   have no:=no h1
   rw[h1] at t
   refine(?_:bW (decide (w.day<=d)==true) _ _)
   refine e8 (λh2=>?_) λh2=>dJ h2 (no (by rw[h2];rfl))
   rw[h2] at t no
   refine(?_:bW (ip w.b k==true) _ _)
   refine e8 (λh3=>?_) λh3=>dJ h3 (no (by rw[h3];rfl))
   rw[h3] at t no
   refine bB (oE hA ha ?_)
   refine(?_:bW (dD pa d) _ _)
   refine da (λh4=>?_) λh4=>no (by rw[h4];rfl)
   rw[h4] at t
   rw[<-t] at q
   exact q
  refine(?_:bW (decide (w.day<=d)==true) _ _)
  refine e8 (λh2=>?_) λh2=>dJ h2 (second (by rw[h2];rfl))
  rw[h2] at t second
  refine(?_:bW (ip w.a k==true) _ _)
  refine e8 (λh3=>?_) λh3=>dJ h3 (second (by rw[h3];rfl))
  rw[h3] at t second
  refine bB (oE hA hb ?_)
  refine(?_:bW (dD pb d) _ _)
  refine da (λh4=>?_) λh4=>second (by rw[h4];rfl)
  rw[h4] at t
  rw[<-t] at q
  exact q
 ·refine h _ λo3 o4 o5 e eh t b=>?_
  subst e eh
  rw[<-t] at q
  exact q)
theorem Q6{d:Int}{ws:List fJ}{y z:V}(hM:H[lw]?=some (.list (ws.map jQ)))(q:Q (kG (fB k d ws (-1) [])) H):aM (n+1) yg [.aP [y,z,.ref lw],nv k,.int d] H Q:=PS (by
 apply aG (dz hM)
 refine d9 (AR k d (.aP [y,z,.ref lw]) (fB k d ws (-1) []) H) (λw as ρ H' h=>?_) (λρ H' h=>?_) _ _ _ (.mk (-1) [] none none none rfl rfl rfl)
 ·refine h _ λm g o5 o6 o7 e eh t=>?_
  subst e eh
  refine λN hN=>?_
  have t:(if ip w.jv k&&(decide (m<=w.day)&&decide (w.day<=d)) then fB k d as w.day w.e9 else fB k d as m g)=fB k d ws (-1) []:=t
  have no:(ip w.jv k&&(decide (m<=w.day)&&decide (w.day<=d)))=false->N [some (.aP [y,z,.ref lw]),some (nv k),some (.int d),some (.int m),some (kG g),some (nv w.jv),some (.int w.day),some (kG w.e9)] H':=λh=>hN _ _ (dr hM hM) (.mk m g _ _ _ rfl rfl (by rw[h] at t;exact t))
  refine(?_:bW (ip w.jv k==true) _ _)
  refine e8 (λh1=>?_) λh1=>dJ h1 (no (by rw[h1];rfl))
  rw[h1] at t no
  refine(?_:bW (decide (m<=w.day)) _ _)
  refine da (λh2=>?_) λh2=>no (by rw[h2];rfl)
  rw[h2] at t no
  refine(?_:bW (decide (w.day<=d)) _ _)
  refine da (λh3=>?_) λh3=>no (by rw[h3];rfl)
  rw[h3] at t
  exact hN _ _ (dr hM hM) (.mk w.day w.e9 _ _ _ rfl rfl t)
 ·refine h _ λm g o5 o6 o7 e eh t=>?_
  subst e eh
  have t:g=_:=t
  rw[<-t] at q
  exact q)
theorem oN{d:Int}{ps:List aO}{p:aO}(hA:H[l]?=some (.list (ps.map bO)))(hp:ps[k]?=some p)(q:Q (.bool (dD p d)) H):aM (n+1) iO [.ref l,nv k,.int d] H Q:=P4 (by
 have q:Q (.bool (decide (p.bH<=d)&&before d p.dp)) H:=q
 apply aG (fI hA hp)
 refine(?_:bW (decide (d<p.bH)) _ _)
 refine wN (λh=>?_) λh=>?_
 ·rw[decide_eq_false (Int.not_le.mpr h)] at q;exact q
 ·rw[decide_eq_true (Int.not_lt.mp h),Bool.true_and] at q
  apply aG (fI hA hp)
  unfold bO
  cases hd:p.dp with
  |none=>rw[hd] at q;exact q
  |some e=>
   rw[hd] at q
   apply aG (fI hA hp)
   unfold bO
   rw[hd]
   exact q)
end
structure cj where
 dQ:Option Nat
 part:Rat
 how:Str
 line:List Nat
noncomputable def xj(b lr:Nat)(H:Hp)(r:cj)(v:V):Prop:=∀DealAtζ:Prop,(∀(l:Nat) (hb:b<=l) (hn:l≠lr) (e:v=.aP [uK r.dQ,rv r.part,.str r.how,.ref l]) (a:H[l]?=some (.list (bb r.line))),DealAtζ)->DealAtζ
theorem xj.mk{b lr:Nat}{H:Hp}{r:cj}{v:V}(l:Nat)(hb:b<=l)(hn:l≠lr)(e:v=.aP [uK r.dQ,rv r.part,.str r.how,.ref l])(a:H[l]?=some (.list (bb r.line))):xj b lr H r v:=λζ bw=>bw l hb hn e a
noncomputable abbrev gG(b lr:Nat)(H:Hp):List cj->List V->Prop:=dA (xj b lr H)
theorem gG.b{b lr:Nat}{H H':Hp}{rs:List cj}{vs:List V}(h:gG b lr H rs vs)(x:br lr H H'):gG b lr H' rs vs:=h.imp λζ ζ h=>h _ λl hb hn e a=>(.mk l hb hn e (x l _ hn a))
noncomputable def qp(k:Nat)(s:Rat)(r:Row):cj:=⟨some r.dQ,s*r.gT,"will",k::r.line⟩
noncomputable def eF(ps:List aO)(d:Int)(k:Nat)(g:Nat×Rat):List cj:=if lv ps d g.1 then[⟨some g.1,g.2,"will",[k,g.1]⟩] else(gb ps d 20 g.1).map (qp k g.2)
noncomputable def counts(ps:List aO)(d:Int)(g:Nat×Rat):Bool:=lv ps d g.1||(kids ps d g.1).any (bV ps d 20)
noncomputable def gH(ps:List aO)(d:Int)(t:Rat)(g:Nat×Rat):Rat:=if counts ps d g then t+g.2 else t
noncomputable def mG(n:Nat)(gs:List (Nat×Rat)):Prop:=∀g∈gs,g.1<n/\Sm 10 g.2
noncomputable def AS(N:Nat)(w:fJ):Prop:=∀WlOkζ:Prop,(∀(gk:mG N w.e9/\w.e9.length<=10) (dy:0<=w.day) (ns:List Nat) (ov un:Nat) (h:un≠0) (e:w.e9=ns.map λj=>(j,Rat.normalize ov un h)) (o1:1<=ov) (u1:un<1000) (le:ov*ns.length<=un),WlOkζ)->WlOkζ
theorem AS.mk{N:Nat}{w:fJ}(gk:mG N w.e9/\w.e9.length<=10)(dy:0<=w.day)(ns:List Nat)(ov un:Nat)(h:un≠0)(e:w.e9=ns.map λj=>(j,Rat.normalize ov un h))(o1:1<=ov)(u1:un<1000)(le:ov*ns.length<=un):AS N w:=λζ bw=>bw gk dy ns ov un h e o1 u1 le
noncomputable def uL(N:Nat)(ws:List fJ):Prop:=∀w∈ws,AS N w
theorem Sm.add{i j:Nat}{x y:Rat}(hx:Sm i x)(hy:Sm j y):Sm (i+j+1) (x+y):=by
 rw[Rat.add_def]
 refine Sm.qh _ (lt_of_le_of_lt (Int.natAbs_add_le _ _) ?_) (lt_of_lt_of_le (oH hx.2 hy.2) (pow_le_pow_right (by decide) (le_succ _)))
 rw[natAbs_mul,natAbs_mul]
 exact F6 (oH hx.1 hy.2) (by rw[add_comm];exact oH hy.1 hx.2)
theorem Sm.gH{ps:List aO}{d:Int}{i:Nat}{t:Rat}{g:Nat×Rat}(ht:Sm i t)(hg:Sm 10 g.2):Sm (i+11) (gH ps d t g):=by
 unfold L.gH
 split
 ·exact ht.add hg
 ·exact ht.le (le_add_right _ _)
theorem GR{ps:List aO}{d:Int}{k:Nat}(h:(kids ps d k).any (bV ps d 20)=false):gb ps d 20 k=[]:=by
 have e:dO ps d (kids ps d k)=[]:=List.filter_eq_nil_iff.mpr λc hc=>by
  rw[List.any_eq_false] at h
  exact h c hc
 refine(?_:gU ps d (gb ps d 19) k (dO ps d (kids ps d k))=[])
 rw[e];rfl
theorem GS{ps:List aO}(hW:cw ps)(hl:ps.length<=20){d:Int}{k:Nat}{g:Nat×Rat}(hg:g.1<ps.length):(eF ps d k g).length<=1048576:=by
 unfold eF
 split
 ·exact(by decide:1<=1048576)
 ·rw[length_map]
  exact le_trans (uC hW 20 g.1 _ (getElem?_eq_getElem hg)) (wU hl _)
noncomputable def AU(ps:List aO)(d:Int)(k l lr b:Nat)(x2:V)(H₁:Hp)(tot:List cj)(sum:Rat)(as:List (Nat×Rat))(ρ:aV)(H':Hp):Prop:=∀GvIζ:Prop,(∀(o6 o7 o8 o9 o10:Option V) (s:Rat) (i:Nat) (rs:List cj) (vs:List V) (e:ρ=[some (.ref l),some (nv k),some x2,some (.int d),some (.ref lr),some (rv s),o6,o7,o8,o9,o10]) (x:br lr H₁ H') (a:H'[lr]?=some (.list vs)) (r:gG b lr H' rs vs) (t:rs++as.flatMap (eF ps d k)=tot) (ts:as.foldl (gH ps d) s=sum) (sm:Sm i s) (hi:i+11*as.length<=1000) (g:mG ps.length as),GvIζ)->GvIζ
theorem AU.mk{ps:List aO}{d:Int}{k l lr b:Nat}{x2:V}{H₁:Hp}{tot:List cj}{sum:Rat}{as:List (Nat×Rat)}{ρ:aV}{H':Hp}(o6 o7 o8 o9 o10:Option V)(s:Rat)(i:Nat)(rs:List cj)(vs:List V)(e:ρ=[some (.ref l),some (nv k),some x2,some (.int d),some (.ref lr),some (rv s),o6,o7,o8,o9,o10])(x:br lr H₁ H')(a:H'[lr]?=some (.list vs))(r:gG b lr H' rs vs)(t:rs++as.flatMap (eF ps d k)=tot)(ts:as.foldl (gH ps d) s=sum)(sm:Sm i s)(hi:i+11*as.length<=1000)(g:mG ps.length as):AU ps d k l lr b x2 H₁ tot sum as ρ H':=λζ bw=>bw o6 o7 o8 o9 o10 s i rs vs e x a r t ts sm hi g
noncomputable def AV(k lr b:Nat)(x0 x2 x3 x5 x6:Option V)(s:Rat)(H₁:Hp)(rest tot:List cj)(as:List Row)(ρ:aV)(H':Hp):Prop:=∀GwIζ:Prop,(∀(o8 o9 o10:Option V) (rs:List cj) (vs:List V) (e:ρ=[x0,some (nv k),x2,x3,some (.ref lr),x5,x6,some (rv s),o8,o9,o10]) (x:br lr H₁ H') (a:H'[lr]?=some (.list vs)) (r:gG b lr H' rs vs) (t:rs++(as.map (qp k s)++rest)=tot),GwIζ)->GwIζ
theorem AV.mk{k lr b:Nat}{x0 x2 x3 x5 x6:Option V}{s:Rat}{H₁:Hp}{rest tot:List cj}{as:List Row}{ρ:aV}{H':Hp}(o8 o9 o10:Option V)(rs:List cj)(vs:List V)(e:ρ=[x0,some (nv k),x2,x3,some (.ref lr),x5,x6,some (rv s),o8,o9,o10])(x:br lr H₁ H')(a:H'[lr]?=some (.list vs))(r:gG b lr H' rs vs)(t:rs++(as.map (qp k s)++rest)=tot):AV k lr b x0 x2 x3 x5 x6 s H₁ rest tot as ρ H':=λζ bw=>bw o8 o9 o10 rs vs e x a r t
section
variable{n:Nat}{l k:Nat}{H:Hp}{Q:PQ}
theorem Q7{d:Int}{ps:List aO}(hW:cw ps)(hl:ps.length<=20){gs:List (Nat×Rat)}(hg:mG ps.length gs)(oO:gs.length<=10)(hA:H[l]?=some (.list (ps.map bO)))
  (q:∀lr vs H',H.length<=lr->aI H H'->H'[lr]?=some (.list vs)->gG H.length lr H' (gs.flatMap (eF ps d k)) vs->Q (.aP [.ref lr,rv (gs.foldl (gH ps d) 0)]) H'):aM (n+64) yh [.ref l,nv k,kG gs,.int d] H Q:=PT (by
 have ht:(gs.flatMap (eF ps d k)).length<=16000000:=le_trans (wX λg h=>GS hW hl (hg g h).1) (le_trans (mul_le_mul_right _ oO) (by decide))
 refine d9 (g:=mF) (AU ps d k l H.length H.length (kG gs) (H++[.list []]) (gs.flatMap (eF ps d k)) (gs.foldl (gH ps d) 0)) (λg as ρ H' h=>?_) (λρ H' h=>?_) gs _ _ (.mk none none none none none 0 1 [] [] rfl (br.refl _ _) (bq _ _) .nil rfl rfl ⟨by decide,by decide⟩ (by lia) hg)
 ·refine h _ λo6 o7 o8 o9 o10 s i rs vs e x a r t ts sm hi hg=>?_
  subst e
  refine λN hN=>?_
  have sf:=hg g mem_cons_self
  have xH:aI H H':=x.ext (aI.ba _ _) (le_refl _)
  refine(at_of sf.1).elim λp hp=>?_
  rw[flatMap_cons,show eF ps d k g=if dD p d then[⟨some g.1,g.2,"will",[k,g.1]⟩] else(gb ps d 20 g.1).map (qp k g.2) by rw[<-iB hp];rfl] at t
  rw[foldl_cons,show gH ps d s g=if dD p d||(kids ps d g.1).any (bV ps d 20) then s+g.2 else s by rw[<-iB hp];rfl] at ts
  rw[length_cons] at hi
  have GU:i+10<=1000000:=by lia
  refine bB (oE (xH _ _ hA) hp ?_)
  refine(?_:bW (dD p d) _ _)
  refine da (λh1=>?_) λh1=>?_
  ·rw[h1] at t ts
   have t:rs++(⟨some g.1,g.2,"will",[k,g.1]⟩::as.flatMap (eF ps d k))=_:=t
   refine jd a (je (bz _ a) (by rw[r.len];exact mB t ht) ?_)
   refine bB (F9 sm sf.2 GU ?_)
   exact hN _ _ rfl (.mk _ _ _ _ _ (s+g.2) (i+11) (rs++[⟨some g.1,g.2,"will",[k,g.1]⟩]) _ rfl (x.trans ((br.ba _ _ _).trans (br.set _ _ _))) (f9 (bz _ a) _) ((r.b ((br.ba _ _ _).trans (br.set _ _ _))).snoc (.mk H'.length xH.len (ne_of_gt (cT a)) rfl (kX (bq _ _) _ (ne_of_lt (cT a))))) (jt t) ts (sm.add sf.2) (by lia) (λg h=>hg g (.tail _ h)))
  ·rw[h1] at t ts
   have t:rs++((gb ps d 20 g.1).map (qp k g.2)++as.flatMap (eF ps d k))=_:=t
   refine bB (uy (n:=n+61) (xH _ _ hA) hl λlc H₂ Az cf hc=>?_)
   apply aG (dz hc)
   refine cK (cO (by rw[length_map];exact lt_of_le_of_lt (le_trans (kB ps d g.1) hl) (by decide))) ?_
   refine Gj (n:=n+41) (i:=2) hW hl (λc' dC=>nF hW hp dC λq hq ζ ζ=>⟨q,hq⟩) rfl ((xH.trans cf) _ _ hA) hc λH₃ co=>?_
   apply aG (Gk (bq _ _))
   rw[Gm]
   have qq:=cf.trans (co.trans (aI.ba _ [.list ((kids ps d g.1).map λc=>.bool (bV ps d 20 c))]))
   generalize H₃++[bc.list ((kids ps d g.1).map λc=>.bool (bV ps d 20 c))]=H₄ at qq ⊢
   refine da (λh2=>?_) λh2=>?_
   ·rw[h2] at ts
    refine bB (wV (n:=n) hW hl (f:=20) (le_refl _) ((xH.trans qq) _ _ hA) hp (lt_of_lt_of_le (nE (mem_of_getElem? hp)) hl) λlb us H₅ hb gv ab rb=>?_)
    have AW:=qq.trans gv
    have a':=AW _ _ a
    have oI:=lt_of_lt_of_le (lt_of_lt_of_le (cT a) qq.len) hb
    apply aG (dz ab)
    refine uB (R:=λr v=>r∈gb ps d 20 g.1/\kC (lb+1) H₅ r v) (AV k H.length H.length (some (.ref l)) (some (kG gs)) (some (.int d)) (some (rv s)) (some (nv g.1)) g.2 H₅ (as.flatMap (eF ps d k)) (gs.flatMap (eF ps d k))) (λrw v bs ρ H₆ hv h=>?_) (λρ H₆ h=>?_) (rb.imp' λr v hr hv=>⟨hr,hv⟩) _ _ (.mk _ _ _ rs vs rfl (br.refl _ _) a' (r.b (AW.b _)) t)
    ·refine hv.2 _ λll jK e al=>?_
     subst e
     refine h _ λo8 o9 o10 rs vs e fy a r t=>?_
     subst e
     refine λN' hZ=>?_
     have sr:=qj hl 20 _ _ hv.1
     have nl:ll≠H.length:=ne_of_gt (lt_trans oI jK)
     refine jd a (bB (uA sf.2 sr.1 (by decide) ?_))
     refine lN (bq _ _) (bz _ (fy _ _ nl al)) (by rw[length_append,length_map];exact lt_of_le_of_lt (add_le_add_left sr.2 _) (show 1+(20+1)<16000000 by decide)) ?_
     have uM:br H.length H₆ _:=(br.ba _ H₆ [bc.list [nv k]]).trans ((br.ba _ _ [bc.list (bb (k::rw.line))]).trans (br.set _ _ (.list (vs++[.aP [nv rw.dQ,rv (g.2*rw.gT),.str "will",.ref (H₆++[bc.list [nv k]]).length]]))))
     have bX:=cT (bz [bc.list [nv k]] a)
     exact je (bz _ (bz _ a)) (by rw[r.len];exact mB t ht) (hZ _ _ (dr ab ((fy.trans uM) _ _ (ne_of_gt oI) ab)) (.mk _ _ _ (rs++[qp k g.2 rw]) _ rfl (fy.trans uM) (f9 (bz _ (bz _ a)) _) ((r.b uM).snoc (.mk ((H₆++[bc.list [nv k]]).length) (le_of_lt bX) (ne_of_gt bX) rfl (kX (bq _ _) _ (ne_of_lt bX)))) (jt t)))
    ·refine h _ λo8 o9 o10 rs vs e fy a r t=>?_
     subst e
     refine bB (F9 sm sf.2 GU ?_)
     exact hN _ _ rfl (.mk _ _ _ _ _ (s+g.2) (i+11) rs vs rfl (x.trans ((AW.b _).trans fy)) a r t ts (sm.add sf.2) (by lia) (λg h=>hg g (.tail _ h)))
   ·rw[h2] at ts
    rw[GR h2] at t
    exact hN _ _ rfl (.mk _ _ _ _ _ s i rs vs rfl (x.trans (qq.b _)) (qq _ _ a) (r.b (qq.b _)) t ts sm (by lia) (λg h=>hg g (.tail _ h)))
 ·refine h _ λo6 o7 o8 o9 o10 s i rs vs e x a r t ts sm hi hg=>?_
  subst e
  rw[flatMap_nil,append_nil] at t
  rw[foldl_nil] at ts
  subst t ts
  exact q _ vs _ (le_refl _) (x.ext (aI.ba _ _) (le_refl _)) a r)
end
noncomputable def qr(x:Rat):PyData:=.tuple [.int x.num,.int (x.den:Int)]
noncomputable def GV(l:List Nat):PyData:=.list (l.map λi:Nat=>.int i)
noncomputable def GW(r:Row):PyData:=.tuple [.int r.dQ,qr r.gT,GV r.line]
section
variable{n:Nat}{l k:Nat}{H:Hp}{Q:PQ}
theorem oP{m:Nat}{vs:List V}{ds:List PyData}(h:H[l]?=some (.list vs))(e:eJ (rd H m) vs=some ds):rd H (m+1) (.ref l)=some (.list ds):=by
 refine(?_:((cP H (.ref l)).bind λvs=>(eJ (rd H m) vs).map PyData.list)=_)
 rw[cN h]
 refine(?_:(eJ (rd H m) vs).map PyData.list=_)
 rw[e];rfl
theorem Q8{m:Nat}{w:List Nat}(h:H[l]?=some (.list (bb w))):rd H (m+1) (.ref l)=some (GV w):=oP h (iS m w)
theorem gI{f:V->Option PyData}{v:V}{r:List V}{d:PyData}{ds:List PyData}(h:f v=some d)(hr:eJ f r=some ds):eJ f (v::r)=some (d::ds):=by
 refine(?_:(match f v,eJ f r with|some d,some ds=>some (d::ds)|_,_=>none)=_)
 rw[h,hr]
theorem Q9{α:Type}{R:α->V->Prop}{f:V->Option PyData}{g:α->PyData}{as:List α}{vs:List V}(h:dA R as vs)(k:∀a v,R a v->f v=some (g a)):eJ f vs=some (as.map g):=h.rec (motive:=λas vs ζ=>eJ f vs=some (as.map g)) rfl λr ζ ih=>gI (k _ _ r) ih
theorem AX(x:Rat)(m:Nat):rd H (m+1) (rv x)=some (qr x):=congrArg (Option.map PyData.tuple) (gI (oF _ _) (gI (oF _ _) rfl))
theorem Ra{b:Nat}{r:Row}{v:V}(h:kC b H r v):rd H 9 v=some (GW r):=h _ λl ζ e a=>by
 rw[e]
 exact congrArg (Option.map PyData.tuple) (gI rfl (gI (AX _ _) (gI (Q8 a) rfl)))
theorem none_list{vs:List V}(h:H[l]?=some (.list vs)):j3 H (.ref l)=none:=by
 refine(?_:(match H[l]?.bind fS with|some es=>some es.isEmpty|none=>(H[l]?.bind i7).map List.isEmpty)=_)
 rw[h];rfl
theorem eq_nil{m:Nat}{vs:List V}{ds:List PyData}(h:H[l]?=some (.list vs))(e:eJ (rd H 9) vs=some ds)(h':H[m]?=some (.list [])):fT .eq (.ref l) (.ref m) H=some ds.isEmpty:=by
 refine(?_:kL H (.ref l) (.ref m)=_)
 unfold kL
 rw[none_list h,oP h e,oP h' (rfl:eJ (rd H 9) []=some [])]
 cases ds<;>rfl
theorem ne_nil{m:Nat}{vs:List V}{ds:List PyData}(h:H[l]?=some (.list vs))(e:eJ (rd H 9) vs=some ds)(h':H[m]?=some (.list [])):fT .ne (.ref l) (.ref m) H=some (!ds.isEmpty):=congrArg (Option.map (!·)) (eq_nil h e h')
end
section
variable{ws:List Nat}{H₀:Hp}{t:cV}{α:Type}{R:α->V->Prop}
theorem Rb{test:aV->Hp->(Bool->Hp->Prop)->Prop}{elt:aV->Hp->PQ->Prop}{Q:List V->Hp->Prop}(I:List α->List V->aV->Hp->Prop)(step:∀a v as acc ρ H,R a v->I (a::as) acc ρ H->be (aX t v ρ) λcb=>∀N:List V->Hp->Prop,(∀acc' H',d6 ws H₀ H'=true->I as acc' cb H'->N acc' H')->test cb H λb H₁=>bW b (elt cb H₁ λy H₂=>N (acc++[y]) H₂) (N acc H₁))(fin:∀acc ρ H,I [] acc ρ H->Q acc H){as:List α}{vs:List V}(h:dA R as vs):∀acc ρ H,I as acc ρ H->gC ws H₀ t test elt vs ρ H acc Q:=
 h.rec (motive:=λas vs ζ=>∀acc ρ H,I as acc ρ H->gC ws H₀ t test elt vs ρ H acc Q) fin λr ζ ih acc ρ H h=>uv (step _ _ _ acc ρ H r h) λcb hb=>hb (λacc' H'=>d6 ws H₀ H'=true/\gC ws H₀ t test elt _ cb H' acc' Q) λacc' H' hs hi=>⟨hs,ih acc' cb H' hi⟩
end
noncomputable def uN(m:Nat)(p:Nat×List Nat):Row:=⟨p.1,mkRat 1 m,p.2⟩
noncomputable def mH(ps:List aO)(d:Int)(k:Nat):List Row:=(il ps d k).map (uN (il ps d k).length)
noncomputable def AY(b m:Nat)(de:aV)(H:Hp)(tot:List (Nat×List Nat))(as:List (Nat×List Nat))(acc:List V)(ρ:aV)(H':Hp):Prop:=∀DgIζ:Prop,(∀(o o':Option V) (an:List (Nat×List Nat)) (e:ρ=o::o'::de) (eh:H'=H) (r:dA (kC b H) (an.map (uN m)) acc) (t:an++as=tot),DgIζ)->DgIζ
theorem AY.mk{b m:Nat}{de:aV}{H:Hp}{tot:List (Nat×List Nat)}{as:List (Nat×List Nat)}{acc:List V}{ρ:aV}{H':Hp}(o o':Option V)(an:List (Nat×List Nat))(e:ρ=o::o'::de)(eh:H'=H)(r:dA (kC b H) (an.map (uN m)) acc)(t:an++as=tot):AY b m de H tot as acc ρ H':=λζ bw=>bw o o' an e eh r t
noncomputable def Rd(H:Hp)(rs:List Row)(f:V->V)(Q:PQ):Prop:=∀lr vs H',H.length<=lr->aI H H'->H'[lr]?=some (.list vs)->iC H.length H' rs vs->Q (f (.ref lr)) H'
noncomputable def ey(ps:List aO)(d:Int)(k:Nat)(p:aO):Str×List Row×Rat:=
 if !(gb ps d 20 k).isEmpty then("line",gb ps d 20 k,mkRat 1 4) else if !(lR ps d k p).isEmpty then("parents",lR ps d k p,mkRat 1 2) else("degree",mH ps d k,if(il ps d k).isEmpty then 1 else mkRat 3 4)
noncomputable def jw(rs:List Row):Prop:=∀KinOkζ:Prop,(∀(len:rs.length<=2097152) (sm:∀r∈rs,Sm 120 r.gT) (ln:∀r∈rs,r.line.length<=50),KinOkζ)->KinOkζ
theorem jw.mk{rs:List Row}(len:rs.length<=2097152)(sm:∀r∈rs,Sm 120 r.gT)(ln:∀r∈rs,r.line.length<=50):jw rs:=λζ bw=>bw len sm ln
theorem iC.ext{b b':Nat}{H H':Hp}{rs:List Row}{vs:List V}(h:iC b H rs vs)(x:aI H H')(hb:b'<=b):iC b' H' rs vs:=h.imp λζ ζ h=>h.mono λl c hl e=>⟨le_trans hb hl,x l c e⟩
theorem jw.of{f:Nat}{rs:List Row}(hf:f<=22)(hl:rs.length<=2097152)(h:∀r∈rs,kD f r):jw rs:=(.mk hl (λr hr=>(h r hr).1.le (le_trans (mul_le_mul_left 5 hf) (by decide))) (λr hr=>le_trans (h r hr).2 (le_trans (succ_le_succ hf) (by decide))))
theorem jw.Rf{ps:List aO}{d:Int}{k:Nat}(h1:(il ps d k).length<=20)(h2:∀e∈il ps d k,e.2.length<=42):jw (mH ps d k):=(.mk (by unfold mH;rw[length_map];exact le_trans h1 (by decide)) (λr hr=>(mem_map.mp hr).elim λe he=>he.2▸(Sm.inv (λq=>absurd (eq_nil_of_length_eq_zero q) (ne_nil_of_mem he.1)) (lt_of_le_of_lt h1 (by decide))).le (by decide)) (λr hr=>(mem_map.mp hr).elim λe he=>he.2▸le_trans (h2 e he.1) (by decide)))
noncomputable def Rg(H:Hp)(rs:List Row)(f:V->V)(Q:PQ):Prop:=jw rs->Rd H rs f Q
section
variable{n:Nat}{l k:Nat}{H:Hp}{Q:PQ}
theorem xk{b:Nat}{rs:List Row}{vs:List V}(h:iC b H rs vs):eJ (rd H 9) vs=some (rs.map GW):=Q9 h λζ ζ h=>Ra h
theorem Rh{d:Int}{ps:List aO}(hW:cw ps)(hl:ps.length<=20){p:aO}(hp:ps[k]?=some p)(hA:H[l]?=some (.list (ps.map bO)))(q:Rg H (ey ps d k p).2.1 (λr=>.aP [.str (ey ps d k p).1,r]) Q):aM (n+66) yi [.ref l,nv k,.int d] H Q:=PU (by
 refine bB (wV (n:=n+2) hW hl (f:=20) (le_refl _) hA hp (lt_of_lt_of_le (nE (mem_of_getElem? hp)) hl) λlr vs H₁ hb x a r=>?_)
 have r':=r.ext (aI.ba H₁ [.list []]) (le_trans hb (le_succ _))
 apply aG (ne_nil (bz _ a) (xk r') (bq _ _))
 rw[isEmpty_map]
 refine da (λh1=>?_) λh1=>?_
 ·rw[show ey ps d k p=(("line":Str),gb ps d 20 k,mkRat 1 4) from if_pos h1] at q
  exact q (jw.of (by decide) (le_trans (uC hW 20 k p hp) (le_trans (wU hl _) (by decide))) (qj hl 20 k)) lr vs _ hb (x.trans (aI.ba _ _)) (bz _ a) r'
 ·rw[show ey ps d k p=_ from if_neg (by rw[h1];decide)] at q
  have x1:=x.trans (aI.ba H₁ [.list []])
  generalize H₁++[bc.list []]=H₁' at x1 ⊢
  clear r' r a x
  refine bB (QA (n:=n) hW hl hp (x1 _ _ hA) λlr vs H₂ hb x a r=>?_)
  have r':=r.ext (aI.ba H₂ [.list []]) (le_trans (le_trans x1.len hb) (le_succ _))
  apply aG (ne_nil (bz _ a) (xk r') (bq _ _))
  rw[isEmpty_map]
  refine da (λh2=>?_) λh2=>?_
  ·rw[if_pos h2] at q
   exact q (jw.of (le_refl _) (Gr hW hl hp) (Qz hW hl hp)) lr vs _ (le_trans x1.len hb) ((x1.trans x).trans (aI.ba _ _)) (bz _ a) r'
  ·rw[if_neg (by rw[h2];decide)] at q
   have x2:=(x1.trans x).trans (aI.ba H₂ [.list []])
   generalize H₂++[bc.list []]=H₂' at x2 ⊢
   clear r' r a x
   refine bB (QW (n:=n+60) hW hl hp (x2 _ _ hA) λlr vs H₃ nC Ri hb x a r=>?_)
   have ok:=jw.Rf nC Ri
   have x3:=x2.trans x
   apply aG (dz a)
   refine cK (cO (by rw[r.len];exact lt_of_le_of_lt nC (by decide))) ?_
   refine Rb (AY H.length (il ps d k).length [some (.ref l),some (nv k),some (.int d),_,some (.ref lr)] H₃ (il ps d k)) (λe v as acc ρ H' hv h=>?_) (λacc ρ H' h=>?_) r _ _ _ (.mk none none [] rfl rfl .nil rfl)
   ·refine h _ λo o' an GX eh ra t=>?_
    subst GX eh
    refine hv _ λll jK ev al=>?_
    subst ev
    refine λN hN=>?_
    apply aG (cN a)
    rw[r.len]
    have hm:(il ps d k).length≠0:=λq=>by
     have:=eq_nil_of_length_eq_zero q
     rw[this] at t
     cases an<;>cases t
    refine bB (Aq hm (lt_of_le_of_lt nC (by decide)) ?_)
    exact hN _ _ (dr a a) (.mk _ _ (an++[e]) rfl rfl (by rw[map_append];exact ra.snoc (.mk ll (le_trans x2.len jK) rfl al)) (jt t))
   ·refine h _ λo o' an GX eh ra t=>?_
    rw[append_nil] at t
    subst eh t
    exact q ok _ acc _ x3.len (x3.trans (aI.ba _ _)) (bq _ _) (iC.ext ra (aI.ba _ _) (le_refl _)))
end
theorem mI:PyData.strOk "line"=true:=by decide +kernel
theorem lU:PyData.strOk "parents"=true:=by decide +kernel
theorem mJ:PyData.strOk "degree"=true:=by decide +kernel
section
variable{n:Nat}{l k:Nat}{H:Hp}{Q:PQ}
noncomputable def qt(how:Str)(rs:List Row):Rat:=if rs.isEmpty then 1 else if how=="line" then mkRat 1 4 else if how=="parents" then mkRat 1 2 else mkRat 3 4
theorem oQ{a b:Str}(ha:PyData.strOk a=true)(hb:PyData.strOk b=true):fT .eq (.str a) (.str b) H=some (a==b):=by
 have e:∀{s:Str},PyData.strOk s=true->rd H 10 (.str s)=some (.str s):=λh=>if_pos h
 refine(?_:(rd H 10 (.str a)).bind (λd=>(rd H 10 (.str b)).map λe=>PyData.eqv d e)=_)
 rw[e ha,e hb];rfl
theorem Rj{lr b:Nat}{how:Str}{rs:List Row}{vs:List V}(ho:PyData.strOk how=true)(a:H[lr]?=some (.list vs))(r:iC b H rs vs)(q:∀H',aI H H'->Q (rv (qt how rs)) H'):aM (n+2) yj [.str how,.ref lr] H Q:=PV (by
 have q:=q _ (aI.ba H [.list []])
 unfold qt at q
 apply aG (eq_nil (bz _ a) (xk (r.ext (aI.ba _ _) (le_refl _))) (bq _ _))
 rw[isEmpty_map]
 refine da (λh1=>?_) λh1=>?_
 ·rw[if_pos h1] at q;exact q
 ·rw[if_neg (by rw[h1];decide)] at q
  apply aG (oQ ho mI)
  refine da (λh2=>?_) λh2=>?_
  ·rw[if_pos h2,<-Rat.normalize_eq_mkRat (by decide)] at q
   exact bB (qi (d:=4) _ q)
  ·rw[if_neg (by rw[h2];decide)] at q
   apply aG (oQ ho lU)
   refine da (λh3=>?_) λh3=>?_
   ·rw[if_pos h3,<-Rat.normalize_eq_mkRat (by decide)] at q
    exact bB (qi (d:=2) _ q)
   ·rw[if_neg (by rw[h3];decide),<-Rat.normalize_eq_mkRat (by decide)] at q
    exact bB (qi (d:=4) _ q))
theorem GY(ps:List aO)(d:Int)(k:Nat)(p:aO):qt (ey ps d k p).1 (ey ps d k p).2.1=(ey ps d k p).2.2:=by
 unfold ey
 split
 ·rename_i h
  exact if_neg (by rw[not_eq_true' .. |>.mp h];decide)
 ·split
  ·rename_i h
   exact if_neg (by rw[not_eq_true' .. |>.mp h];decide)
  ·refine(?_:(if(mH ps d k).isEmpty=true then _ else _)=_)
   rw[show(mH ps d k).isEmpty=(il ps d k).isEmpty from isEmpty_map]
   split<;>rfl
theorem GZ(ps:List aO)(d:Int)(k:Nat)(p:aO):PyData.strOk (ey ps d k p).1=true:=by
 unfold ey
 split
 ·exact mI
 ·split
  ·exact lU
  ·exact mJ
end
noncomputable def jR(R:Rat)(how:Str)(r:Row):cj:=⟨some r.dQ,R*r.gT,how,r.line⟩
noncomputable def gf(ps:List aO)(d:Int)(gs:List (Nat×Rat)):Rat:=1 - gs.foldl (gH ps d) 0
noncomputable def sg(ps:List aO)(d:Int)(k:Nat)(p:aO)(gs:List (Nat×Rat))(sp:Option Nat):List cj:=
 if(gf ps d gs).num==0 then gs.flatMap (eF ps d k) else match sp with
  |none=>if(ey ps d k p).2.1.isEmpty then gs.flatMap (eF ps d k)++[⟨none,gf ps d gs,"town",[k]⟩] else gs.flatMap (eF ps d k)++(ey ps d k p).2.1.map (jR (gf ps d gs) (ey ps d k p).1)
  |some s=>(gs.flatMap (eF ps d k)++[⟨some s,gf ps d gs*(ey ps d k p).2.2,"spouse",[k,s]⟩])++(ey ps d k p).2.1.map (jR (gf ps d gs - gf ps d gs*(ey ps d k p).2.2) (ey ps d k p).1)
noncomputable def xm(H:Hp)(rs:List cj)(Q:PQ):Prop:=∀lr vs H',H.length<=lr->aI H H'->H'[lr]?=some (.list vs)->gG H.length lr H' rs vs->Q (.ref lr) H'
theorem AZ{ps:List aO}{d:Int}{n:Nat}:∀{gs:List (Nat×Rat)} {i:Nat} {s:Rat},mG n gs->Sm i s->Sm (i+11*gs.length) (gs.foldl (gH ps d) s)
 |[],i,s,_,h=>h
 |g::r,i,s,hg,h=>(AZ (gs:=r) (λg h=>hg g (.tail _ h)) (h.gH (hg g mem_cons_self).2)).le (by rw[length_cons];lia)
theorem A0:Sm 1 (1:Rat):=⟨by decide,by decide⟩
theorem Rk{ps:List aO}{d:Int}{n:Nat}{gs:List (Nat×Rat)}(hg:mG n gs)(hl:gs.length<=10):Sm 200 (gf ps d gs):=(A0.sub (AZ (i:=1) hg ⟨by decide,by decide⟩)).le (by lia)
noncomputable def A1(k:Str)(R:Rat)(lr lk b:Nat)(x0 x1 x2 x3 x5 x9 mK:Option V)(H₁:Hp)(tot:List cj)(as:List Row)(ρ:aV)(H':Hp):Prop:=∀TlIζ:Prop,(∀(bS b9 bP:Option V) (rs:List cj) (vs:List V) (e:ρ=[x0,x1,x2,x3,some (.ref lr),x5,some (rv R),some (.str k),some (.ref lk),x9,mK,bS,b9,bP]) (x:br lr H₁ H') (a:H'[lr]?=some (.list vs)) (r:gG b lr H' rs vs) (t:rs++as.map (jR R k)=tot),TlIζ)->TlIζ
theorem A1.mk{k:Str}{R:Rat}{lr lk b:Nat}{x0 x1 x2 x3 x5 x9 mK:Option V}{H₁:Hp}{tot:List cj}{as:List Row}{ρ:aV}{H':Hp}(bS b9 bP:Option V)(rs:List cj)(vs:List V)(e:ρ=[x0,x1,x2,x3,some (.ref lr),x5,some (rv R),some (.str k),some (.ref lk),x9,mK,bS,b9,bP])(x:br lr H₁ H')(a:H'[lr]?=some (.list vs))(r:gG b lr H' rs vs)(t:rs++as.map (jR R k)=tot):A1 k R lr lk b x0 x1 x2 x3 x5 x9 mK H₁ tot as ρ H':=λζ bw=>bw bS b9 bP rs vs e x a r t
theorem Rl(ps:List aO)(d:Int)(k:Nat)(p:aO):Sm 5 (ey ps d k p).2.2:=by
 unfold ey
 split
 ·exact Sm.inv (m:=4) (by decide) (by decide)
 ·split
  ·exact Sm.inv (m:=2) (by decide) (by decide)
  ·refine(?_:Sm 5 (if(il ps d k).isEmpty=true then 1 else mkRat 3 4))
   split
   ·exact A0.le (by decide)
   ·rw[<-Rat.normalize_eq_mkRat (by decide)];exact Sm.qh _ (by decide) (by decide)
section
variable{n:Nat}{l lm lw k:Nat}{H:Hp}{Q:PQ}
theorem Rm{x:Rat}:((x.num==0)&&(((x.den:Int)==1)&&true))=(x.num==0):=by
 cases h:x.num==0 with
 |false=>rfl
 |true=>
  have e:x=0:=Rat.num_eq_zero.mp (eq_of_beq h)
  rw[e];rfl
theorem G0{how:Str}{R:Rat}{lr lk b i:Nat}{x0 x1 x2 x3 x5 x9 mK bS b9 bP:Option V}{rs:List cj}{vs us:List V}{kin:List Row}(hb:b<=lr)(a:H[lr]?=some (.list vs))(r:gG b lr H rs vs)(ak:H[lk]?=some (.list us))(nh:lk≠lr)(rk:iC (lr+1) H kin us)(ok:jw kin)(sm:Sm i R)(hi:i<=1000)(Rn:rs.length<=12000000)
  (q:∀sd H',br lr H H'->H'[lr]?=some (.list sd)->gG b lr H' (rs++kin.map (jR R how)) sd->Q (.ref lr) H'):aY (aM (n+2)) (yv.drop 10) [x0,x1,x2,x3,some (.ref lr),x5,some (rv R),some (.str how),some (.ref lk),x9,mK,bS,b9,bP] H (cn Q):=by
 refine ok _ λlen ksm kln=>?_
 have ht:(rs++kin.map (jR R how)).length<=16000000:=by rw[length_append,length_map];exact le_trans (add_le_add Rn len) (by decide)
 apply aG (dz ak)
 refine uB (R:=λr v=>r∈kin/\kC (lr+1) H r v) (A1 how R lr lk b x0 x1 x2 x3 x5 x9 mK H (rs++kin.map (jR R how))) (λrw v bs ρ H' hv h=>?_) (λρ H' h=>?_) (rk.imp' λr v hr hv=>⟨hr,hv⟩) _ _ (.mk _ _ _ rs vs rfl (br.refl _ _) a r rfl)
 ·refine hv.2 _ λll jK e al=>?_
  subst e
  refine h _ λbS b9 bP rs vs e x a r t=>?_
  subst e
  refine λN hN=>?_
  refine jd a (bB (uA sm (ksm _ hv.1) (by lia) ?_))
  have nl:=ne_of_gt jK
  exact je a (by rw[r.len];exact mB t ht) (hN _ _ (dr ak ((x.trans (br.set _ _ _)) _ _ nh ak)) (.mk _ _ _ (rs++[jR R how rw]) _ rfl (x.trans (br.set _ _ _)) (f9 a _) ((r.b (br.set _ _ _)).snoc (.mk ll (le_trans hb (le_of_lt jK)) nl rfl ((x.trans (br.set _ _ _)) _ _ nl al))) (jt t)))
 ·refine h _ λbS b9 bP VQ vs e x a r t=>?_
  subst e
  rw[map_nil,append_nil] at t
  subst t
  exact q _ _ x a r
end
structure c7 where
 ps:List aO
 ms:List gd
 ws:List fJ
noncomputable def gx(r:c7):Prop:=∀RollOkζ:Prop,(∀(wf:cw r.ps) (len:r.ps.length<=20) (wed:kH r.ps.length r.ms) (e9:uL r.ps.length r.ws),RollOkζ)->RollOkζ
theorem gx.mk{r:c7}(wf:cw r.ps)(len:r.ps.length<=20)(wed:kH r.ps.length r.ms)(e9:uL r.ps.length r.ws):gx r:=λζ bw=>bw wf len wed e9
noncomputable def fP(H:Hp)(r:c7)(l lm lw:Nat):Prop:=∀RollAtζ:Prop,(∀(ap:H[l]?=some (.list (r.ps.map bO))) (am:H[lm]?=some (.list (r.ms.map iT))) (aw:H[lw]?=some (.list (r.ws.map jQ))),RollAtζ)->RollAtζ
theorem fP.mk{H:Hp}{r:c7}{l lm lw:Nat}(ap:H[l]?=some (.list (r.ps.map bO)))(am:H[lm]?=some (.list (r.ms.map iT)))(aw:H[lw]?=some (.list (r.ws.map jQ))):fP H r l lm lw:=λζ bw=>bw ap am aw
noncomputable def ff(r:c7)(d:Int)(k:Nat):List (Nat×Rat):=fB k d r.ws (-1) []
noncomputable def nL(r:c7)(d:Int)(k:Nat)(p:aO):List cj:=sg r.ps d k p (ff r d k) (gW r.ps d k r.ms)
theorem xn{r:c7}(h:gx r)(d:Int)(k:Nat):mG r.ps.length (ff r d k)/\(ff r d k).length<=10:=h _ λζ ζ ζ g=>xi (P:=λgs=>mG r.ps.length gs/\gs.length<=10) _ _ _ (λw hw=>(g w hw) _ λgk ζ ζ ζ ζ ζ ζ ζ ζ ζ=>gk) ⟨λζ h=>(nomatch h),zero_le _⟩
theorem G1{r:c7}(h:gx r)(d:Int)(k:Nat):((ff r d k).flatMap (eF r.ps d k)).length<=10485760:=h _ λhW hl ζ ζ=>le_trans (wX λg hg=>GS hW hl ((xn h d k).1 g hg).1) (mul_le_mul_right 1048576 (xn h d k).2)
noncomputable def mL(r:cj):Prop:=PyData.strOk r.how=true/\r.line.length<=1000
theorem lV:PyData.strOk "will"=true:=by decide +kernel
theorem qu:PyData.strOk "spouse"=true:=by decide +kernel
theorem xq:PyData.strOk "town"=true:=by decide +kernel
theorem xr{r:c7}(hr:gx r){d:Int}{k:Nat}:∀x∈(ff r d k).flatMap (eF r.ps d k),mL x:=λx hx=>hr _ λζ hl ζ ζ=>(mem_flatMap.mp hx).elim λg hg=>by
 have h:=hg.2
 unfold eF at h
 split at h
 ·rw[mem_singleton.mp h];exact⟨lV,show 2<=1000 by decide⟩
 ·exact(mem_map.mp h).elim λy hy=>hy.2▸⟨lV,le_trans (succ_le_succ (qj hl 20 _ _ hy.1).2) (by decide)⟩
theorem G2{ps:List aO}{d:Int}{k:Nat}{p:aO}(h:jw (ey ps d k p).2.1){R:Rat}:∀x∈(ey ps d k p).2.1.map (jR R (ey ps d k p).1),mL x:=λx hx=>(mem_map.mp hx).elim λy hy=>hy.2▸⟨GZ ps d k p,h _ λζ ζ ln=>le_trans (ln y hy.1) (by decide)⟩
theorem Ro{r:c7}(hr:gx r){d:Int}{k:Nat}{p:aO}(h:((gf r.ps d (ff r d k)).num==0)=false->jw (ey r.ps d k p).2.1):∀x∈nL r d k p,mL x:=by
 unfold nL sg
 cases h0:(gf r.ps d (ff r d k)).num==0 with
 |true=>exact xr hr
 |false=>
  have ok:=h h0
  intro x hx
  rw[if_neg (by decide)] at hx
  cases hs:gW r.ps d k r.ms with
  |none=>
   rw[hs] at hx
   dsimp only at hx
   split at hx
   ·exact(mem_append.mp hx).elim (xr hr x) λh=>by rw[mem_singleton.mp h];exact⟨xq,show 1<=1000 by decide⟩
   ·exact(mem_append.mp hx).elim (xr hr x) (G2 ok x)
  |some s=>
   rw[hs] at hx
   exact(mem_append.mp hx).elim (λh=>(mem_append.mp h).elim (xr hr x) λh=>by rw[mem_singleton.mp h];exact⟨qu,show 2<=1000 by decide⟩) (G2 ok x)
theorem Rp{r:c7}(hr:gx r){d:Int}{k:Nat}{p:aO}(h:((gf r.ps d (ff r d k)).num==0)=false->jw (ey r.ps d k p).2.1):(nL r d k p).length<=14000000:=by
 have hg:=G1 hr d k
 unfold nL sg
 cases h0:(gf r.ps d (ff r d k)).num==0 with
 |true=>exact le_trans hg (by decide)
 |false=>
  have hk:(ey r.ps d k p).2.1.length<=2097152:=(h h0) _ λlen ζ ζ=>len
  rw[if_neg (by decide)]
  cases hs:gW r.ps d k r.ms with
  |none=>
   dsimp only
   split
   ·rw[length_append];exact le_trans (add_le_add_right hg 1) (by decide)
   ·rw[length_append,length_map];exact le_trans (add_le_add hg hk) (by decide)
  |some s=>
   dsimp only
   rw[length_append,length_append,length_map];exact le_trans (add_le_add (add_le_add_right hg 1) hk) (by decide)
section
variable{n:Nat}{l lm lw k:Nat}{H:Hp}{Q:PQ}
theorem Rq{r:c7}(hr:gx r)(at':fP H r l lm lw){p:aO}(hp:r.ps[k]?=some p){d:Int}(hd:p.dp=some d)(q:(∀x∈nL r d k p,mL x)->(nL r d k p).length<=14000000->xm H (nL r d k p) Q):aM (n+67) vd [.aP [.ref l,.ref lm,.ref lw],nv k] H Q:=PW (by
 refine hr _ λhW hl hM hG=>at' _ λhA Rr Rt=>?_
 have hg:mG r.ps.length (fB k d r.ws (-1) [])/\(fB k d r.ws (-1) []).length<=10:=xn hr d k
 have oO:((fB k d r.ws (-1) []).flatMap (eF r.ps d k)).length<=10485760:=G1 hr d k
 have qd:(((gf r.ps d (fB k d r.ws (-1) [])).num==0)=false->jw (ey r.ps d k p).2.1)->xm H (sg r.ps d k p (fB k d r.ws (-1) []) (gW r.ps d k r.ms)) Q:=λh=>q (Ro hr h) (Rp hr h)
 apply aG (fI hA hp)
 unfold bO
 rw[hd]
 refine bB (Q6 Rt ?_)
 generalize fB k d r.ws (-1) []=gs at hg oO qd ⊢
 refine bB (Q7 (n:=n+2) hW hl hg.1 hg.2 hA λlr vs H₁ hb x a rr=>?_)
 have hT:Sm 199 (gs.foldl (gH r.ps d) 0):=(AZ (i:=1) hg.1 ⟨by decide,by decide⟩).le (by have:=hg.2;lia)
 refine bB (Ga (x:=1) A0 hT (by decide) ?_)
 have hR:=Rk (ps:=r.ps) (d:=d) hg.1 hg.2
 unfold sg at qd
 rw[show(1:Rat) - gs.foldl (gH r.ps d) 0=gf r.ps d gs from rfl]
 generalize gf r.ps d gs=R at hR qd ⊢
 generalize gs.flatMap (eF r.ps d k)=rs at rr oO qd
 refine(?_:bW ((R.num==0)&&(((R.den:Int)==1)&&true)) _ _)
 rw[Rm]
 refine da (λh1=>?_) λh1=>?_
 ·have qd:=qd λh=>absurd (h1.symm.trans h) (by decide)
  rw[if_pos h1] at qd
  exact qd lr vs _ hb x a rr
 ·refine bB (Rh (n:=n) hW hl hp (x _ _ hA) λok lk us H₂ Ru cf ak rk=>?_)
  have qd:=qd λζ=>ok
  rw[if_neg (by rw[h1];decide)] at qd
  have x2:=x.trans cf
  have nh:=lt_of_lt_of_le (cT a) Ru
  refine bB (Q5 (x2 _ _ hA) (x2 _ _ Rr) hM ?_)
  have jG:=GZ r.ps d k p
  have qv:=Rl r.ps d k p
  have ebs:=GY r.ps d k p
  generalize ey r.ps d k p=kp at ok rk qd jG qv ebs ⊢
  have a2:=cf _ _ a
  have r2:=gG.b rr (cf.b _)
  have p6:=lt_of_le_of_lt hb (cT a2)
  generalize gW r.ps d k r.ms=sp at qd ⊢
  cases sp with
  |none=>
   have G3:=rk.ext (aI.ba H₂ [.list []]) (cT a)
   apply aG (eq_nil (bz _ ak) (xk G3) (bq _ _))
   rw[isEmpty_map]
   have qd:xm H (if kp.2.1.isEmpty then rs++[⟨none,R,"town",[k]⟩] else rs++kp.2.1.map (jR R kp.1)) Q:=qd
   refine da (λh2=>?_) λh2=>?_
   ·rw[if_pos h2] at qd
    have xx:∀a b c:List bc,aI H₂ (H₂++[bc.list []]++a++b++c):=λa b c=>(aI.ba H₂ _).trans ((aI.ba _ a).trans ((aI.ba _ b).trans (aI.ba _ c)))
    have oy:∀a b:List bc,H₂.length<=(H₂++[bc.list []]++a++b).length:=λa b=>((aI.ba H₂ [.list []]).trans ((aI.ba _ a).trans (aI.ba _ b))).len
    have an:=bq (H₂++[.list []]) (.list (bb [k]))
    have wF:H₂.length<(H₂++[bc.list []]).length:=by rw[length_append];exact lt_succ_self _
    refine lN (bz _ (bz _ (bz _ a2))) (bq _ _) (by rw[length_append,rr.len];exact lt_of_le_of_lt (add_le_add_right oO 1) (by decide)) ?_
    refine qd _ _ _ (le_trans x2.len (oy _ _)) (x2.trans (xx _ _ _)) (bq _ _) (dA.snoc (r2.imp λζ ζ h=>h _ λll hb hn e al=>(.mk ll hb (ne_of_lt (lt_of_lt_of_le (cT al) (oy _ _))) e (xx _ _ _ _ _ al))) (.mk _ (le_trans x2.len (le_of_lt wF)) (ne_of_lt (cT (bz _ an))) rfl (bz _ (bz _ an))))
   ·rw[if_neg (by rw[h2];decide)] at qd
    exact G0 (n:=n+64) hb (bz _ a2) (r2.b (br.ba _ _ _)) (bz _ ak) (ne_of_gt nh) G3 ok hR (by decide) (le_trans oO (by decide)) λsd H' x' a' r'=>qd _ _ _ hb (x'.ext (x2.trans (aI.ba _ _)) hb) a' r'
  |some s=>
   have qd:xm H ((rs++[⟨some s,R*kp.2.2,"spouse",[k,s]⟩])++kp.2.1.map (jR (R - R*kp.2.2) kp.1)) Q:=qd
   refine bB (Rj jG ak rk λH₃ co=>?_)
   rw[ebs]
   refine bB (uA hR qv (by decide) ?_)
   have a3:=co _ _ a2
   refine jd a3 (je (bz _ a3) (by rw[rr.len];exact lt_of_le_of_lt oO (by decide)) ?_)
   refine bB (Ga hR (hR.mul qv) (by decide) ?_)
   have x4:br lr H₃ _:=(br.ba lr H₃ [bc.list (bb [k,s])]).trans (br.set lr _ (.list (vs++[.aP [nv s,rv (R*kp.2.2),.str "spouse",.ref H₃.length]])))
   have nlk:=ne_of_gt nh
   exact G0 (n:=n+64) hb (f9 (bz _ a3) _) (((r2.b (co.b _)).b x4).snoc (.mk H₃.length (le_trans (le_of_lt p6) co.len) (ne_of_gt (cT a3)) rfl (kX (bq _ _) _ (ne_of_lt (cT a3))))) (x4 _ _ nlk (co _ _ ak)) nlk (rk.imp λζ ζ h=>h.mono λll c hl e=>⟨le_trans (cT a) hl,x4 _ _ (ne_of_gt (lt_of_lt_of_le (cT a) hl)) (co _ _ e)⟩) ok (hR.sub (hR.mul qv)) (by decide) (by rw[length_append];exact le_trans (add_le_add_right oO 1) (by decide)) λsd H' x' a' r'=>qd _ _ _ hb ((x4.trans x').ext (x2.trans co) hb) a' r')
end
section
variable{C:Cl}{ρ cb:aV}{H:Hp}{Q:PQ}{K:Out->Prop}{r:List S}{t:cV}{e a i:E}{v x y:V}
theorem cU(h:WE C e ρ H λv H=>be (aX t v ρ) λcb=>aY C r cb H K):aY C (.aX t e::r) ρ H K:=h
theorem aQ{j:Nat}(h:ρ[j]?.join=some v)(q:Q v H):WE C (.U j) ρ H Q:=aG h q
theorem jx(q:Q (.ref H.length) (H++[.list []])):WE C (.bE []) ρ H Q:=q
theorem dH{op:kI}(h:WE C a ρ H λx H=>WE C i ρ H λy H=>tB op x y H Q):WE C (.bin op a i) ρ H Q:=h
theorem dB{op:kI}{p q z:Int}(h:binI op p q=some z)(k:Q (.int z) H):tB op (.int p) (.int q) H Q:=aG h k
theorem k3{it:It}{b:List S}(h:me C it ρ H λp H=>n6 p.2 H t (λρ H K=>aY C b ρ H K) p.1 ρ H λo=>lD o (λρ H=>aY C r ρ H K) (K o)):aY C (.for t it b::r) ρ H K:=h
theorem qw{R:List V×List Nat->Hp->Prop}(h:WE C a ρ H λx H=>WE C i ρ H λy H=>q0 x y λl=>R (l,[]) H):me C (.range a i) ρ H R:=h
theorem bG(q:Q v H):WE C (.k v) ρ H Q:=q
end
section
variable{n:Nat}{l lm lw k:Nat}{H:Hp}{Q:PQ}
end
theorem G4:∀l:List Nat,PyData.eqvAll (l.map λi:Nat=>.int i) (l.map λi:Nat=>.int i)=true
 |[]=>rfl
 |a::r=>by
  refine(?_:(((a:Int)==(a:Int))&&PyData.eqvAll _ _)=true)
  rw[beq_self_eq_true,G4 r];rfl
theorem Rv(x:Rat):PyData.eqv (qr x) (qr x)=true:=by
 refine(?_:((x.num==x.num)&&(((x.den:Int)==(x.den:Int))&&true))=true)
 rw[beq_self_eq_true,beq_self_eq_true];rfl
section
variable{n:Nat}{l k:Nat}{H:Hp}{Q:PQ}
theorem G5{i:Int}(q:Q (.bool true) H):aM (n+1) qP [.int i] H Q:=PY q
end
theorem fP.ext{H H':Hp}{r:c7}{l lm lw:Nat}(h:fP H r l lm lw)(x:aI H H'):fP H' r l lm lw:=h _ λa b c=>(.mk (x _ _ a) (x _ _ b) (x _ _ c))
section
variable{n:Nat}{l lm lw l' cq cy k:Nat}{H:Hp}{Q:PQ}
theorem Rw{ps:List aO}(hA:H[l]?=some (.list (ps.map bO)))(hl:ps.length<=20)(q:∀lc H' ds,ds.length<=20->(∀k∈ds,∃p d,ps[k]?=some p/\p.dp=some d)->aI H H'->H'[lc]?=some (.list (bb ds))->Q (.ref lc) H'):aM (n+1) vh [.ref l] H Q:=Qg (by
 apply aG (cN hA)
 rw[length_map]
 refine mA (lt_of_le_of_lt hl (by decide)) ?_
 refine cK (cO (by rw[length_map,length_range];exact lt_of_le_of_lt hl (by decide))) ?_
 refine ij (P:=λj=>(ps[j]?).elim false λp=>p.dp.isSome) (F:=nv) _ _ _ (λa ha T hT=>?_) (λa ζ ζ N hN=>hN) ?_
 ·refine(at_of (mem_range.mp ha)).elim λp hp=>?_
  apply aG (fI hA hp)
  rw[hp] at hT
  have hT:T p.dp.isSome H:=hT
  unfold bO
  cases hd:p.dp with
  |none=>rw[hd] at hT;exact hT
  |some d=>rw[hd] at hT;exact hT
 ·refine q _ _ _ (le_trans (length_filter_le _ _) (by rw[length_range];exact hl)) (λk hk=>?_) (aI.ba _ _) (bq _ _)
  have hk:=(mem_filter.mp hk).2
  cases hp:ps[k]? with
  |none=>rw[hp] at hk;cases hk
  |some p=>
   rw[hp] at hk
   have hk:p.dp.isSome=true:=hk
   cases hd:p.dp with
   |none=>rw[hd] at hk;cases hk
   |some d=>exact⟨p,d,rfl,hd⟩)
end
noncomputable def A2(c:Int)(m:Nat)(H:Hp)(as:List Nat)(ρ:aV)(H':Hp):Prop:=∀StIζ:Prop,(∀(acc:List Int) (x:Int) (o:Option V) (e:ρ=[some (.int c),some (nv m),some (.ref H.length),some (.int x),o]) (ext:aI H H') (a:H'[H.length]?=some (.list (acc.map V.int))) (len:acc.length+as.length=m) (hx:0<=x/\x<2147483647) (ok:∀x∈acc,0<=x/\x<2147483647),StIζ)->StIζ
theorem A2.mk{c:Int}{m:Nat}{H:Hp}{as:List Nat}{ρ:aV}{H':Hp}(acc:List Int)(x:Int)(o:Option V)(e:ρ=[some (.int c),some (nv m),some (.ref H.length),some (.int x),o])(ext:aI H H')(a:H'[H.length]?=some (.list (acc.map V.int)))(len:acc.length+as.length=m)(hx:0<=x/\x<2147483647)(ok:∀x∈acc,0<=x/\x<2147483647):A2 c m H as ρ H':=λζ bw=>bw acc x o e ext a len hx ok
section
variable{n:Nat}{l k:Nat}{H:Hp}{Q:PQ}
theorem qx(a:Int){b:Int}(h:0<b):0<=a.fmod b/\a.fmod b<b:=by
 rw[Int.fmod_eq_emod_of_nonneg a (Int.le_of_lt h)]
 exact⟨Int.emod_nonneg a (Int.ne_of_gt h),Int.emod_lt_of_pos a h⟩
theorem jy(x:Int){k:Nat}(h:0<k):∃a:Nat,x.fmod (k:Int)=(a:Int)/\a<k:=
 have z:=qx x (ofNat_lt.mpr h)
 ⟨(x.fmod (k:Int)).toNat,(Int.toNat_of_nonneg z.1).symm,(toNat_lt z.1).mpr z.2⟩
theorem Rx{x:Int}{b:Nat}(h:0<=x/\x<b):x.natAbs<b:=by
 obtain⟨k,rfl⟩:=Int.eq_ofNat_of_zero_le h.1
 exact ofNat_lt.mp h.2
theorem mM{k b c:Nat}(h:k<b)(hb:b<=c):(k:Int).natAbs<c:=lt_of_lt_of_le h hb
theorem uO(x:Int){k c:Nat}(h:0<k)(hc:k<=c):∃r:Nat,1+x.fmod (k:Int)=(r:Int)/\0<r/\r<=c:=(jy x h).elim λa z=>⟨a+1,by rw[z.1];exact Int.add_comm _ _,succ_pos _,le_trans z.2 hc⟩
theorem mod2(x:Int){P:Int->Prop}(h0:P ((0:Nat):Int))(h1:P ((1:Nat):Int)):P (x.fmod 2):=(jy x (k:=2) (by decide)).elim λa z=>by
 rw[show x.fmod 2=(a:Int) from z.1]
 cases a with
 |zero=>exact h0
 |succ a=>cases a with
  |zero=>exact h1
  |succ a=>exact absurd z.2 (not_lt.mpr (le_add_left 2 a))
theorem Ry(x:Int){P:Int->Prop}(h0:P ((0:Nat):Int))(h1:P ((1:Nat):Int))(h2:P ((2:Nat):Int)):P (x.fmod 3):=(jy x (k:=3) (by decide)).elim λa z=>by
 rw[show x.fmod 3=(a:Int) from z.1]
 cases a with
 |zero=>exact h0
 |succ a=>cases a with
  |zero=>exact h1
  |succ a=>cases a with
   |zero=>exact h2
   |succ a=>exact absurd z.2 (not_lt.mpr (le_add_left 3 a))
theorem iH{a b:Int}(h:b≠0):binI .mod a b=some (a.fmod b):=if_neg h
noncomputable def Rz(H:Hp)(m:Nat)(Q:PQ):Prop:=∀(ls:Nat) (H':Hp) (xs:List Int),xs.length=m->(∀x∈xs,0<=x/\x<2147483647)->H.length<=ls->aI H H'->H'[ls]?=some (.list (xs.map V.int))->Q (.ref ls) H'
theorem xt{c:Int}{m:Nat}(hm:m<=1000)(q:Rz H m Q):aM (n+1) qQ [.int c,nv m] H Q:=PZ (by
 unfold yw
 refine cU (jx (aG rfl ?_))
 refine cU (dH (aQ rfl (bG (dB (iH (b:=2147483647) (by decide)) (aG rfl ?_)))))
 refine k3 (qw (bG (aQ rfl (mA (lt_of_le_of_lt hm (by decide)) ?_))))
 refine d9 (A2 c m H) (λk as ρ H' h=>?_) (λρ H' h=>?_) _ _ _ (.mk [] _ none rfl (aI.ba _ _) (bq _ _) (by rw[length_range];exact zero_add m) (qx c (by decide)) (λζ h=>nomatch h))
 ·refine h _ λacc x o e ext a len hx ok=>?_
  subst e
  refine λN hN=>?_
  apply aG (ig (i:=31) (j:=16) (a:=x) (b:=48271) (Rx ⟨hx.1,Int.lt_trans hx.2 (by decide)⟩) (by decide) (by decide))
  have hy:=qx (x*48271+11+(k:Int)) (b:=2147483647) (by decide)
  rw[length_cons] at len
  exact jd a (je a (by rw[length_map];lia) (hN _ _ rfl (.mk (acc++[(x*48271+11+(k:Int)).fmod 2147483647]) _ _ rfl (ext.set (le_refl _) _) (by rw[map_append];exact f9 a _) (by rw[length_append,<-len];exact(add_assoc _ 1 _).trans (by rw[add_comm 1])) hy (λy RA=>(mem_append.mp RA).elim (ok y) λh=>by rw[mem_singleton.mp h];exact hy))))
 ·refine h _ λacc x o e ext a len hx ok=>?_
  subst e
  exact q _ _ acc len ok (le_refl _) ext a)
theorem pick{es:List Nat}(he:es≠[])(h:H[l]?=some (.list (bb es)))(y:Int):∃j,j∈es/\eQ (.ref l) (.int (y.fmod es.length)) H=some (nv j):=by
 have hl:0<es.length:=length_pos_iff.mpr he
 have hm:=qx y (ofNat_lt.mpr hl)
 have hi:(y.fmod es.length).toNat<es.length:=by lia
 refine⟨es[(y.fmod es.length).toNat],getElem_mem hi,?_⟩
 have:=gu (k:=(y.fmod es.length).toNat) (v:=nv es[(y.fmod es.length).toNat]) h (by rw[getElem?_map,getElem?_eq_getElem hi];rfl)
 rw[nv,Int.toNat_of_nonneg hm.1] at this
 exact this
theorem G6{es:List Nat}(he:es≠[]):(es.length:Int)≠0:=λh=>he (eq_nil_of_length_eq_zero (ofNat.inj h))
theorem A3{y f:Int}{es:List Nat}(hE:H[l]?=some (.list (bb es)))(q:∀al H',(∀j∈al,j∈es)->ju al->aI H H'->Q (.aP (bb al)) H'):aM (n+1) s5 [.ref l,.int y,.int f] H Q:=P0 (by
 have x:=aI.ba H [.list []]
 have r0:Q (.aP []) (H++[.list []]):=q [] _ (λζ h=>nomatch h) ⟨by decide,nodup_nil⟩ x
 apply aG (eq_nil (bz _ hE) (iS _ _) (bq _ _))
 rw[isEmpty_map]
 refine qf (λh0=>?_) λh0=>jO h0 r0
 have he:es≠[]:=λe=>by rw[e] at h0;cases h0
 have key:aY (aM n) (yx.drop 1) [some (.ref l),some (.int y),some (.int f),none,none] (H++[.list []]) (cn Q):=by
  have ny:=x _ _ hE
  generalize H++[.list []]=H₁ at x ny r0
  apply aG (cN ny)
  rw[length_map]
  apply aG (iH (G6 he))
  refine(pick he ny y).elim λj hj=>?_
  apply aG hj.2
  apply aG (cN ny)
  rw[length_map]
  apply aG (iH (G6 he))
  refine(pick he ny (y.fdiv 60)).elim λj' km=>?_
  apply aG km.2
  have r1:Q (.aP (bb [j])) H₁:=q [j] _ (λi h=>by rw[mem_singleton.mp h];exact hj.1) ⟨show 1<=2 by decide,nodup_cons.mpr ⟨not_mem_nil,nodup_nil⟩⟩ x
  have r2:((j:Int)==(j':Int))=false->Q (.aP (bb [j,j'])) H₁:=λb8=>q [j,j'] _ (λi h=>(mem_cons.mp h).elim (λe=>e▸hj.1) λh=>by rw[mem_singleton.mp h];exact km.1) ⟨show 2<=2 by decide,nodup_cons.mpr ⟨λh=>(by rw[mem_singleton.mp h,beq_self_eq_true] at b8;cases b8),nodup_cons.mpr ⟨not_mem_nil,nodup_nil⟩⟩⟩ x
  refine(?_:bW (((j:Int)==(j':Int))==false) _ _)
  refine qf (λh1=>?_) λh1=>jO h1 r1
  refine(?_:bW ((y.fdiv 3).fmod 4==0) _ _)
  exact da (λζ=>r1) λζ=>r2 h1
 refine(?_:bW ((f==0)==true) _ _)
 refine e8 (λh=>?_) λh=>dJ h key
 refine(?_:bW ((y.fdiv 7).fmod 5==0) _ _)
 exact da (λζ=>r0) λζ=>key)
end
noncomputable abbrev RB:S:=.aX (.U 7) (.bin .mul (.bin .add (.bin .mul (.k (.int 5)) (.bin .fdiv (.U 5) (.k (.int 3)))) (.bin .mod (.U 6) (.k (.int 11)))) (.U 3))
noncomputable abbrev RC:S:=.aX (.U 8) (.comp 1 (.U 0) (.U 0) (.range (.k (.int 0)) (.U 5)) [(.cmp .lt (.aU (.aU (.U 3) (.U 0)) (.k (.int 0))) (.U 8))])
noncomputable abbrev RD:S:=.aX (.U 9) (.call s5 [(.dT (.U 8) (some (.neg (.k (.int 7)))) none),(.bin .fdiv (.U 6) (.k (.int 11))),(.k (.int 0))])
noncomputable abbrev RF:S:=.bD (.and [(.cmp .gt (.U 5) (.k (.int 0))),(.cmp .eq (.bin .mod (.bin .fdiv (.U 6) (.k (.int 13))) (.k (.int 3))) (.k (.int 0))),(.cmp .eq (.comp 1 (.U 0) (.U 0) (.of (.aU (.aU (.U 2) (.bin .sub (.U 5) (.k (.int 1)))) (.k (.int 1)))) [(.cmp .fR (.U 0) (.U 9))]) (.bE []))])
   [.aX (.U 9) (.aU (.aU (.U 2) (.bin .sub (.U 5) (.k (.int 1)))) (.k (.int 1)))]
   []
noncomputable abbrev RG:S:=.bD (.and [(.cmp .eq (.bin .mod (.bin .fdiv (.U 0) (.k (.int 4))) (.k (.int 3))) (.k (.int 0))),(.cmp .lt (.U 5) (.k (.int 12)))])
   [.aX (.U 7) (.bin .mul (.bin .add (.bin .mul (.k (.int 12)) (.bin .fdiv (.U 5) (.k (.int 2)))) (.bin .mod (.U 6) (.k (.int 11)))) (.U 3)),
    .aX (.U 9) (.aU (.U 4) (.U 5))]
   []
noncomputable abbrev RH:S:=.aX (.U 10) (.k .none)
noncomputable abbrev RI:S:=.bD (.cmp .gt (.bin .mod (.bin .fdiv (.U 6) (.k (.int 500))) (.aU (.bE [(.k (.int 4)),(.k (.int 9))]) (.bin .mod (.bin .fdiv (.U 0) (.k (.int 12))) (.k (.int 2))))) (.k (.int 0)))
   [.aX (.U 10) (.bin .add (.U 7) (.bin .mul (.bin .mod (.bin .fdiv (.U 6) (.k (.int 1500))) (.k (.int 40))) (.U 3)))]
   []
noncomputable abbrev RJ:S:=.expr (.dP .append (.U 2) [(.aP [.U 7,.U 9,(.k .none),.U 10])])
noncomputable def G7:List (List Nat):=[[],[],[1,0],[1,0],[2],[3],[],[5],[3],[1],[],[2]]
noncomputable def xu:List V:=G7.map λl=>.aP (bb l)
section
variable{n:Nat}{c x sc b:Int}{m k lp lh:Nat}{H:Hp}{K:Out->Prop}{rest:List S}{ps:List aO}{o7 o8 o9 o10:Option V}
noncomputable abbrev jS(c:Int)(m lp:Nat)(sc:Int)(lh k:Nat)(x:Int)(o7 o8 o9 o10:Option V):aV:=[some (.int c),some (nv m),some (.ref lp),some (.int sc),some (.ref lh),some (nv k),some (.int x),o7,o8,o9,o10]
theorem G8(k:Nat)(d:Nat):Int.fdiv (k:Int) (d:Int)=((k/d:Nat):Int):=by rw[Int.fdiv_eq_ediv_of_nonneg _ (natCast_nonneg d)];rfl
theorem sj{a b:Int}(h:b≠0):binI .fdiv a b=some (a.fdiv b):=if_neg h
theorem xv{sc:Int}(h:sc=1\/sc=600):0<sc/\sc.natAbs<2^10:=h.elim (λe=>e▸⟨by decide,by decide⟩) λe=>e▸⟨by decide,by decide⟩
theorem p1(hk:k<20)(dG:sc=1\/sc=600)(h:∀b,0<=b->aY (aM n) rest (jS c m lp sc lh k x (some (.int b)) o8 o9 o10) H K):aY (aM n) (RB::rest) (jS c m lp sc lh k x o7 o8 o9 o10) H K:=by
 refine(jy x (k:=11) (by decide)).elim λa ha=>?_
 have ea:x.fmod 11=(a:Int):=ha.1
 have hs:=xv dG
 have wq:k/3<7:=Nat.div_lt_of_lt_mul (lt_trans hk (by decide))
 have h3:Int.fdiv (k:Int) 3=_:=G8 k 3
 refine cU (dH (dH (dH (bG (dH (aQ rfl (bG ?_)))))))
 refine dB (sj (by decide)) (dB (ig (i:=3) (j:=10) (by decide) ?_ (by decide)) ?_)
 ·rw[h3];exact mM wq (by decide)
 refine dH (aQ rfl (bG ?_))
 refine dB (iH (by decide)) (dB rfl (aQ rfl (dB (ig (i:=10) (j:=10) ?_ hs.2 (by decide)) (aG rfl (h _ ?_)))))
 ·rw[h3,ea];exact mM (k:=5*(k/3)+a) (Nat.add_lt_add_of_le_of_lt (mul_le_mul_left 5 (le_of_lt wq)) ha.2) (by decide)
 ·rw[h3,ea];exact Int.mul_nonneg (natCast_nonneg (5*(k/3)+a)) (Int.le_of_lt hs.1)
end
theorem lW{t:Bool}{H:Hp}{T:Bool->Hp->Prop}(h:T t H):bW t (T true H) (T false H):=by
 cases t<;>exact h
section
variable{C:Cl}{ρ:aV}{H:Hp}{Q:PQ}{a i:E}
theorem jh{nl:Nat}{elt:E}{t:cV}{it:It}{cs:List E}(h:me C it ρ H λp H=>ez (lA p.1) (gC p.2 H t (λρ H Q=>WT C cs ρ H Q) (λρ H Q=>WE C elt ρ H Q) p.1 (replicate nl none++ρ) H [] λvs H=>jq vs H Q)):WE C (.comp nl elt t it cs) ρ H Q:=h
end
theorem uP(es:List Nat)(lo hi:Option Int):dW (bb es) lo hi=bb (dW es lo hi):=by
 unfold dW
 rw[length_map,bb,<-List.map_take,<-List.map_drop]
theorem xy{es:List Nat}{lo hi:Option Int}{j:Nat}(h:j∈dW es lo hi):j∈es:=List.mem_of_mem_take (List.mem_of_mem_drop h)
theorem xA(es:List Nat)(lo hi:Option Int):(dW es lo hi).length<=es.length:=by
 unfold dW
 rw[length_drop,length_take]
 exact le_trans (sub_le _ _) (min_le_right _ _)
section
variable{n:Nat}{c x sc b:Int}{m k lp lh le:Nat}{H:Hp}{K:Out->Prop}{rest:List S}{ps:List aO}{es:List Nat}{o7 o8 o9 o10:Option V}
theorem uQ{l:Nat}{ls:List Nat}(h:H[l]?=some (.list (bb ls))):fT .fR (nv k) (.ref l) H=some (!decide (k∈ls)):=congrArg (Option.map (!·)) (F0 h)
theorem G9{l:Nat}{p:aO}{i:Int}(hi:i=(k:Int))(h:H[l]?=some (.list (ps.map bO)))(hv:ps[k]?=some p):eQ (.ref l) (.int i) H=some (bO p):=hi▸fI h hv
noncomputable def nM(ps:List aO)(b:Int)(j:Nat):Bool:=(ps[j]?).elim false λp=>decide (p.bH<b)
theorem Ha{j:Nat}(h:nM ps b j=true):jf ps b j:=by
 unfold nM at h
 cases hp:ps[j]? with
 |none=>rw[hp] at h;cases h
 |some p=>rw[hp] at h;exact⟨p,hp,of_decide_eq_true h⟩
theorem p2(hk:k<20)(hl:ps.length=k)(hA:H[lp]?=some (.list (ps.map bO)))(h:∀es le H',(∀j∈es,jf ps b j)->es.length<=20->aI H H'->H'[le]?=some (.list (bb es))->aY (aM n) rest (jS c m lp sc lh k x (some (.int b)) (some (.ref le)) o9 o10) H' K):aY (aM n) (RC::rest) (jS c m lp sc lh k x (some (.int b)) o8 o9 o10) H K:=by
 refine cU (jh (qw (bG (aQ rfl (mA (lt_trans hk (by decide)) (cK (cO ?_) ?_))))))
 ·rw[length_map,length_range];exact lt_trans hk (by decide)
 refine ij (P:=nM ps b) (F:=nv) _ _ _ (λj hj T hT=>?_) (λj ζ ζ N hN=>hN) (aG rfl (h _ _ _ (λj hj=>Ha (mem_filter.mp hj).2) ?_ (aI.ba _ _) (bq _ _)))
 ·have hj:=mem_range.mp hj
  rw[<-hl] at hj
  refine(at_of hj).elim λp hp=>?_
  apply aG (fI hA hp)
  unfold nM at hT
  rw[hp] at hT
  exact lW (T:=T) hT
 ·exact le_trans (length_filter_le _ _) (le_trans (le_of_eq length_range) (le_of_lt hk))
theorem p3(hE:H[le]?=some (.list (bb es)))(jb:es.length<=20)(h:∀al H',(∀j∈al,j∈es)->ju al->aI H H'->aY (aM (n+1)) rest (jS c m lp sc lh k x o7 (some (.ref le)) (some (.aP (bb al))) o10) H' K):aY (aM (n+1)) (RD::rest) (jS c m lp sc lh k x o7 (some (.ref le)) o9 o10) H K:=by
 apply aG (cN hE)
 refine cK (cO ?_) ?_
 ·rw[uP,length_map];exact lt_of_le_of_lt (le_trans (xA _ _ _) jb) (by decide)
 rw[uP]
 exact bB (A3 (bq _ _) λal H' eZ h2 x=>h al H' (λj hj=>xy (eZ j hj)) h2 ((aI.ba _ _).trans x))
theorem p4{al:List Nat}(hl:ps.length=k)(hA:H[lp]?=some (.list (ps.map bO)))(hE:H[le]?=some (.list (bb es)))(my:∀p∈ps,ju p.bL)(eZ:∀j∈al,j∈es)(lX:ju al)(h:∀al H',(∀j∈al,j∈es)->ju al->aI H H'->aY (aM n) rest (jS c m lp sc lh k x o7 (some (.ref le)) (some (.aP (bb al))) o10) H' K):aY (aM n) (RF::rest) (jS c m lp sc lh k x o7 (some (.ref le)) (some (.aP (bb al))) o10) H K:=by
 have no:=h al H eZ lX (aI.refl H)
 refine(?_:bW (decide ((k:Int)>0)==true) _ _)
 refine e8 (λh1=>?_) λh1=>dJ h1 no
 refine(?_:bW (((x.fdiv 13).fmod 3==0)==true) _ _)
 refine e8 (λh2=>?_) λh2=>dJ h2 no
 have VR:0<k:=ofNat_lt.mp (of_decide_eq_true h1)
 have hi:(k:Int) - 1=((k - 1:Nat):Int):=by lia
 refine(at_of (show k - 1<ps.length by lia)).elim λp hp=>?_
 have h2:=my p (mem_of_getElem? hp)
 apply aG (G9 hi hA hp)
 refine cK (cO (by rw[length_map];exact lt_of_le_of_lt h2.1 (by decide))) ?_
 refine ij (P:=λj=>!decide (j∈es)) (F:=nv) _ _ _ (λj hj T hT=>?_) (λj ζ ζ N hN=>hN) ?_
 ·apply aG (uQ hE)
  exact lW (T:=T) hT
 ·apply aG (eq_nil (bz _ (bq _ _)) (iS _ _) (bq _ _))
  rw[isEmpty_map]
  have xx:∀a b:List bc,aI H (H++a++b):=λa b=>(aI.ba _ _).trans (aI.ba _ _)
  refine da (λh3=>?_) λh3=>h al _ eZ lX (xx _ _)
  apply aG (G9 hi (xx _ _ _ _ hA) hp)
  refine h p.bL _ (λj hj=>?_) h2 (xx _ _)
  have:=List.filter_eq_nil_iff.mp (List.isEmpty_iff.mp h3) j hj
  exact Decidable.not_not.mp λhn=>this (by rw[decide_eq_false hn];rfl)
end
noncomputable def oR(sc:Int)(i:Nat)(b:Int):Prop:=12*((i/2:Nat):Int)*sc<=b/\b<=(12*((i/2:Nat):Int)+10)*sc
theorem RK{sc:Int}(dG:sc=1\/sc=600){i j:Nat}(h:j/2<i/2){b b':Int}(hi:oR sc i b)(hj:oR sc j b'):b'<b:=
 Int.lt_of_le_of_lt hj.2 (Int.lt_of_lt_of_le (Int.mul_lt_mul_of_pos_right (ofNat_lt.mpr (show 12*(j/2)+10<12*(i/2) from lt_of_lt_of_le (Nat.add_lt_add_left (show 10<12 by decide) _) (mul_le_mul_left 12 h))) (xv dG).1) hi.1)
theorem RL:∀{k:Nat},k<12->∃ls,G7[k]?=some ls/\(ls.length<=2/\ls.Nodup)/\∀j∈ls,j<k/\j/2<k/2:=by decide +kernel
section
variable{n:Nat}{c x sc b:Int}{m k lp lh le:Nat}{H:Hp}{K:Out->Prop}{rest:List S}{ps:List aO}{es:List Nat}{o7 o8 o9 o10:Option V}
theorem p5{al:List Nat}(hk:k<20)(dG:sc=1\/sc=600)(hl:ps.length=k)(hH:H[lh]?=some (.list xu))(eZ:∀j∈al,jf ps b j)(lX:ju al)(sk:0<=b)(hI:((c.fdiv 4).fmod 3==0)=true->∀i p,i<12->ps[i]?=some p->oR sc i p.bH)
  (h:∀b al,(∀j∈al,jf ps b j)->ju al->0<=b->(((c.fdiv 4).fmod 3==0)=true->k<12->oR sc k b)->aY (aM n) rest (jS c m lp sc lh k x (some (.int b)) o8 (some (.aP (bb al))) o10) H K):aY (aM n) (RG::rest) (jS c m lp sc lh k x (some (.int b)) o8 (some (.aP (bb al))) o10) H K:=by
 refine(?_:bW (((c.fdiv 4).fmod 3==0)==true) _ _)
 refine e8 (λh1=>?_) λh1=>dJ h1 (h b al eZ lX sk λq=>absurd (h1.symm.trans q) (by decide))
 refine(?_:bW (decide ((k:Int)<12)) _ _)
 refine da (λhk=>?_) λhk=>h b al eZ lX sk λζ q=>absurd (show(k:Int)<12 from ofNat_lt.mpr q) (of_decide_eq_false hk)
 have hk:k<12:=ofNat_lt.mp (of_decide_eq_true hk)
 refine(jy x (k:=11) (by decide)).elim λa ha=>?_
 have ea:x.fmod 11=(a:Int):=ha.1
 have h3:Int.fdiv (k:Int) 2=_:=G8 k 2
 have Hc:k/2<6:=Nat.div_lt_of_lt_mul hk
 refine(RL hk).elim λls lY=>?_
 have hs:=xv dG
 refine cU (dH (dH (dH (bG (dH (aQ rfl (bG ?_)))))))
 refine dB (sj (by decide)) (dB (ig (i:=4) (j:=10) (by decide) ?_ (by decide)) ?_)
 ·rw[h3];exact mM Hc (by decide)
 refine dH (aQ rfl (bG ?_))
 refine dB (iH (by decide)) (dB rfl (aQ rfl (dB (ig (i:=10) (j:=10) ?_ hs.2 (by decide)) (aG rfl ?_))))
 ·rw[h3,ea];exact mM (k:=12*(k/2)+a) (Nat.add_lt_add_of_le_of_lt (mul_le_mul_left 12 (le_of_lt Hc)) ha.2) (by decide)
 apply aG (gu (v:=.aP (bb ls)) hH (by unfold xu;rw[getElem?_map,lY.1];rfl))
 have hb:oR sc k ((12*Int.fdiv (k:Int) 2+x.fmod 11)*sc):=by
  rw[h3,ea]
  exact⟨Int.mul_le_mul_of_nonneg_right (Int.le_add_of_nonneg_right (natCast_nonneg _)) (Int.le_of_lt hs.1),Int.mul_le_mul_of_nonneg_right (Int.add_le_add_left (ofNat_le.mpr (le_of_lt_succ ha.2)) _) (Int.le_of_lt hs.1)⟩
 refine h _ ls (λj hj=>?_) lY.2.1 (by rw[h3,ea];exact Int.mul_nonneg (natCast_nonneg (12*(k/2)+a)) (Int.le_of_lt hs.1)) λζ ζ=>hb
 have hj:=lY.2.2 j hj
 refine(at_of (show j<ps.length from hl▸hj.1)).elim λp hp=>⟨p,hp,RK dG hj.2 hb (hI h1 j p (lt_trans hj.1 hk) hp)⟩
theorem p7(dG:sc=1\/sc=600)(h:∀(di:Option Int) H',aI H H'->aY (aM n) rest (jS c m lp sc lh k x (some (.int b)) o8 o9 (some (mz di))) H' K):aY (aM n) (RH::RI::rest) (jS c m lp sc lh k x (some (.int b)) o8 o9 o10) H K:=by
 refine(jy (x.fdiv 1500) (k:=40) (by decide)).elim λa ha=>?_
 have RM:((x.fdiv 1500).fmod 40).natAbs<2^10:=by rw[show(x.fdiv 1500).fmod 40=(a:Int) from ha.1];exact mM ha.2 (by decide)
 have tT:=(xv dG).2
 have hs:∃z:Int,eQ (.ref H.length) (.int ((c.fdiv 12).fmod 2)) (H++[.list [.int 4,.int 9]])=some (.int z)/\z≠0:=
  mod2 (c.fdiv 12) (P:=λi=>∃z:Int,eQ (.ref H.length) (.int i) (H++[.list [.int 4,.int 9]])=some (.int z)/\z≠0) ⟨4,gu (bq _ _) rfl,by decide⟩ ⟨9,gu (bq _ _) rfl,by decide⟩
 refine hs.elim λz hz=>?_
 apply aG hz.1
 apply aG (iH hz.2)
 refine(?_:bW (decide ((x.fdiv 500).fmod z>0)) _ _)
 refine da (λζ=>?_) λζ=>h none _ (aI.ba _ _)
 refine cU (dH (aQ rfl (dH (dH (dH (aQ rfl (bG ?_)))))))
 refine dB (sj (by decide)) (bG (dB (iH (by decide)) (aQ rfl (dB (ig (i:=10) (j:=10) RM tT (by decide)) (dB rfl (aG rfl ?_))))))
 exact h (some _) _ (aI.ba _ _)
theorem p8{al:List Nat}{di:Option Int}(hl:ps.length<=20)(hA:H[lp]?=some (.list (ps.map bO)))(h:∀H',br lp H H'->H'[lp]?=some (.list ((ps++[(⟨b,al,none,di⟩:aO)]).map bO))->K (.next (jS c m lp sc lh k x (some (.int b)) o8 (some (.aP (bb al))) (some (mz di))) H')):aY (aM n) [RJ] (jS c m lp sc lh k x (some (.int b)) o8 (some (.aP (bb al))) (some (mz di))) H K:=
 jd hA (je hA (by rw[length_map];exact lt_of_le_of_lt hl (by decide)) (h _ (br.set _ _ _) (by rw[map_append];exact f9 hA _)))
end
noncomputable def en:Nat->List Int->List (Nat×Int)
 |_,[]=>[]
 |k,x::r=>(k,x)::en (k+1) r
noncomputable abbrev Hd(p:Nat×Int):V:=.aP [nv p.1,.int p.2]
theorem A4:∀(k:Nat) (xs:List Int),m6 k (xs.map V.int)=(en k xs).map Hd
 |_,[]=>rfl
 |k,x::r=>congrArg (Hd (k,x)::·) (A4 (k+1) r)
theorem jf.ba{ps:List aO}{b:Int}{j:Nat}(t:List aO)(h:jf ps b j):jf (ps++t) b j:=h.elim λq hq=>⟨q,by rw[getElem?_append_left (List.getElem?_eq_some_iff.mp hq.1).1];exact hq.1,hq.2⟩
theorem oG.ba{ps:List aO}{p:aO}(t:List aO)(h:oG ps p):oG (ps++t) p:=h _ λa b c d z=>(.mk (λj hj=>(a j hj).ba t) (λx hx j hj=>(b x hx j hj).ba t) c d z)
theorem He{α:Type}{ps:List α}{p:α}{P:Nat->α->Prop}(h:∀(i:Nat) q,ps[i]?=some q->P i q)(hp:P ps.length p):∀(i:Nat) q,(ps++[p])[i]?=some q->P i q:=by
 intro i q hq
 rcases lt_trichotomy i ps.length with hi|hi|hi
 ·rw[getElem?_append_left hi] at hq;exact h i q hq
 ·subst hi
  rw[List.getElem?_concat_length] at hq
  cases hq;exact hp
 ·rw[getElem?_eq_none (by rw[length_append];exact hi)] at hq;cases hq
noncomputable def A5(c:Int)(m lp:Nat)(sc:Int)(lh:Nat)(H₁:Hp)(as:List (Nat×Int))(ρ:aV)(H':Hp):Prop:=∀PeIζ:Prop,(∀(o5 o6 o7 o8 o9 o10:Option V) (xs:List Int) (ps:List aO) (e:ρ=[some (.int c),some (nv m),some (.ref lp),some (.int sc),some (.ref lh),o5,o6,o7,o8,o9,o10]) (x:br lp H₁ H') (a:H'[lp]?=some (.list (ps.map bO))) (ea:as=en ps.length xs) (len:ps.length+xs.length=m) (wf:cw ps) (hI:((c.fdiv 4).fmod 3==0)=true->∀(i:Nat) p,i<12->ps[i]?=some p->oR sc i p.bH),PeIζ)->PeIζ
theorem A5.mk{c:Int}{m lp:Nat}{sc:Int}{lh:Nat}{H₁:Hp}{as:List (Nat×Int)}{ρ:aV}{H':Hp}(o5 o6 o7 o8 o9 o10:Option V)(xs:List Int)(ps:List aO)(e:ρ=[some (.int c),some (nv m),some (.ref lp),some (.int sc),some (.ref lh),o5,o6,o7,o8,o9,o10])(x:br lp H₁ H')(a:H'[lp]?=some (.list (ps.map bO)))(ea:as=en ps.length xs)(len:ps.length+xs.length=m)(wf:cw ps)(hI:((c.fdiv 4).fmod 3==0)=true->∀(i:Nat) p,i<12->ps[i]?=some p->oR sc i p.bH):A5 c m lp sc lh H₁ as ρ H':=λζ bw=>bw o5 o6 o7 o8 o9 o10 xs ps e x a ea len wf hI
section
variable{n:Nat}{c:Int}{m:Nat}{H:Hp}{Q:PQ}
theorem RN(c:Int):∃sc:Int,eQ (.ref (H++[bc.list []]).length) (.int (c.fmod 4)) (H++[bc.list []]++[.list [.int 1,.int 1,.int 1,.int 600]])=some (.int sc)/\(sc=1\/sc=600):=by
 have h4:=qx c (b:=4) (by decide)
 have:c.fmod 4=((0:Nat):Int)\/c.fmod 4=((1:Nat):Int)\/c.fmod 4=((2:Nat):Int)\/c.fmod 4=((3:Nat):Int):=by lia
 rcases this with h|h|h|h<;>rw[h]
 ·exact⟨1,gu (bq _ _) rfl,.inl rfl⟩
 ·exact⟨1,gu (bq _ _) rfl,.inl rfl⟩
 ·exact⟨1,gu (bq _ _) rfl,.inl rfl⟩
 ·exact⟨600,gu (bq _ _) rfl,.inr rfl⟩
theorem RP(hm:m<=20)(q:∀lp H' ps,ps.length=m->cw ps->aI H H'->H.length<=lp->H'[lp]?=some (.list (ps.map bO))->Q (.ref lp) H'):aM (n+2) yk [.int c,nv m] H Q:=P1 (by
 refine(RN (H:=H) c).elim λsc dG=>?_
 apply aG dG.1
 have dG:=dG.2
 refine bB (xt (n:=n) (le_trans hm (by decide)) λls H₂ xs qy A6 lY cf ax=>?_)
 have a0:=bz [bc.list xu] (bz [.list [.int 1,.int 1,.int 1,.int 600]] (bq H (.list [])))
 have hh:=bq (H++[bc.list []]++[.list [.int 1,.int 1,.int 1,.int 600]]) (.list xu)
 have l1:H.length<(H++[bc.list []]++[bc.list [.int 1,.int 1,.int 1,.int 600]]).length:=cT (bz _ (bq _ _))
 have l2:H.length<ls:=lt_of_lt_of_le (cT a0) lY
 apply aG (cN ax)
 rw[A4]
 refine d9 (A5 c m H.length sc (H++[bc.list []]++[bc.list [.int 1,.int 1,.int 1,.int 600]]).length H₂) (λkx as ρ H' h=>?_) (λρ H' h=>?_) _ _ _ (.mk none none none none none none xs [] rfl (br.refl _ _) (cf _ _ a0) rfl (by rw[length_nil,zero_add];exact qy) (λk p h=>(nomatch h)) (λζ i p ζ h=>(nomatch h)))
 ·refine h _ λo5 o6 o7 o8 o9 o10 iR ps e x a ea len wf hI=>?_
  subst e
  cases iR with
  |nil=>cases ea
  |cons xx iR=>
   have ek:kx=(ps.length,xx):=(List.cons.inj ea).1
   have eas:as=en (ps.length+1) iR:=(List.cons.inj ea).2
   subst ek
   rw[length_cons] at len
   have hk:ps.length<20:=by lia
   refine λN hN=>?_
   have st:∀{H''},br H.length H₂ H''->d6 [ls] H₂ H''=true:=λx=>dr ax (x _ _ (ne_of_gt l2) ax)
   refine p1 hk dG λb sk=>p2 hk rfl a λes le H₃ jb RQ co kO=>p3 (n:=n) kO RQ λal H₄ eZ lX dX=>p4 rfl ((co.trans dX) _ _ a) (dX _ _ kO) (λp hp=>(getElem?_of_mem hp).elim λi hi=>(wf i p hi) _ λζ ζ c ζ ζ=>c) eZ lX λal H₅ eZ lX gv=>?_
   have xh:=(co.trans dX).trans gv
   refine p5 hk dG rfl (xh _ _ (x _ _ (ne_of_gt l1) (cf _ _ hh))) (λj hj=>jb j (eZ j hj)) lX sk hI λb al eZ lX sk hb=>p7 dG λdi H₆ fy=>p8 (le_of_lt hk) ((xh.trans fy) _ _ a) λH₇ uM RU=>?_
   have x8:=x.trans (((xh.trans fy).b _).trans uM)
   exact hN _ _ (st x8) (.mk _ _ _ _ _ _ iR (ps++[(⟨b,al,none,di⟩:aO)]) rfl x8 RU (by rw[length_append];exact eas) (by rw[length_append,<-len];exact(add_assoc _ 1 _).trans (by rw[add_comm 1])) (He (P:=λ_ (p:aO)=>oG (ps++[(⟨b,al,none,di⟩:aO)]) p) (λi q hq=>(wf i q hq).ba _) (.mk (λj hj=>(eZ j hj).ba _) (λx hx=>(by cases hx)) lX (λx hx=>(by cases hx)) sk)) (λh i p hi hp=>He (P:=λi (p:aO)=>i<12->oR sc i p.bH) (λi p hp hi=>hI h i p hi hp) (hb h) i p hp hi))
 ·refine h _ λo5 o6 o7 o8 o9 o10 iR ps e x a ea len wf hI=>?_
  subst e
  cases iR with
  |nil=>exact q _ _ ps len wf (x.ext (((aI.ba _ _).trans ((aI.ba _ _).trans (aI.ba _ _))).trans cf) (le_refl _)) (le_refl _) a
  |cons _ _=>cases ea)
end
noncomputable def xB(ps fg:List aO):Prop:=fg.length=ps.length/\∀(i:Nat) p',fg[i]?=some p'->oG ps p'/\∃p,ps[i]?=some p/\p'.bH=p.bH
theorem xB.wf{ps fg:List aO}(h:xB ps fg):cw fg:=by
 have up:∀{b j},jf ps b j->jf fg b j:=λ{b j} ho=>ho.elim λq hq=>(at_of (show j<fg.length by rw[h.1];exact(List.getElem?_eq_some_iff.mp hq.1).1)).elim λp' d8=>(h.2 j p' d8).2.elim λp hp=>by
  rw[hp.1] at hq
  exact⟨p',d8,by rw[hp.2];cases hq.1;exact hq.2⟩
 exact λk p' d8=>(h.2 k p' d8).1 _ λa b c d z=>(.mk (λj hj=>up (a j hj)) (λx hx j hj=>up (b x hx j hj)) c d z)
noncomputable def A7(ps:List aO)(c:Int)(l la:Nat)(H₁:Hp)(as:List (Nat×Int))(ρ:aV)(H':Hp):Prop:=∀AdIζ:Prop,(∀(o3 o4 o5 o6 o7 o8 o9 o10:Option V) (k:Nat) (xs:List Int) (fg:List aO) (e:ρ=[some (.ref l),some (.int c),some (.ref la),o3,o4,o5,o6,o7,o8,o9,o10]) (x:br la H₁ H') (a:H'[la]?=some (.list (fg.map bO))) (ea:as=en k xs) (len:k+xs.length=ps.length) (ad:xB ps fg),AdIζ)->AdIζ
theorem A7.mk{ps:List aO}{c:Int}{l la:Nat}{H₁:Hp}{as:List (Nat×Int)}{ρ:aV}{H':Hp}(o3 o4 o5 o6 o7 o8 o9 o10:Option V)(k:Nat)(xs:List Int)(fg:List aO)(e:ρ=[some (.ref l),some (.int c),some (.ref la),o3,o4,o5,o6,o7,o8,o9,o10])(x:br la H₁ H')(a:H'[la]?=some (.list (fg.map bO)))(ea:as=en k xs)(len:k+xs.length=ps.length)(ad:xB ps fg):A7 ps c l la H₁ as ρ H':=λζ bw=>bw o3 o4 o5 o6 o7 o8 o9 o10 k xs fg e x a ea len ad
section
variable{n:Nat}{c:Int}{l:Nat}{H:Hp}{Q:PQ}
theorem rP{vs:List V}(h:H[l]?=some (.list vs)):copyOf H (.ref l)=some vs:=by
 refine(?_:(match H[l]?.bind fS with|some es=>_|none=>cP H (.ref l))=_)
 rw[h];exact cN h
theorem RV{vs:List V}{k:Nat}{v:V}{K:Hp->Prop}(h:H[l]?=some (.list vs))(hk:k<vs.length)(q:K (H.set l (.list (vs.set k v)))):n3 (.ref l) (nv k) v H K:=aG h (And.intro ⟨natCast_nonneg k,ofNat_lt.mpr hk⟩ q)
theorem RW{ps:List aO}(hA:H[l]?=some (.list (ps.map bO)))(hW:cw ps)(hl:ps.length<=20)(q:∀la H' fg,fg.length=ps.length->cw fg->aI H H'->H.length<=la->H'[la]?=some (.list (fg.map bO))->Q (.ref la) H'):aM (n+2) yl [.ref l,.int c] H Q:=P2 (by
 apply aG (rP hA)
 refine cK (cO (by rw[length_map];exact lt_of_le_of_lt hl (by decide))) ?_
 apply aG (cN (bz _ hA))
 rw[length_map]
 refine bB (xt (n:=n) (le_trans hl (by decide)) λls H₂ xs qy A6 lY cf ax=>?_)
 have a0:=bq H (.list (ps.map bO))
 have l2:H.length<ls:=lt_of_lt_of_le (cT a0) lY
 apply aG (cN ax)
 rw[A4]
 refine d9 (A7 ps c l H.length H₂) (λkx as ρ H' h=>?_) (λρ H' h=>?_) _ _ _ (.mk none none none none none none none none 0 xs ps rfl (br.refl _ _) (cf _ _ a0) rfl (by rw[zero_add];exact qy) ⟨rfl,λi p hp=>⟨hW i p hp,p,hp,rfl⟩⟩)
 ·refine h _ λo3 o4 o5 o6 o7 o8 o9 o10 k iR fg e x a ea len ad=>?_
  subst e
  cases iR with
  |nil=>cases ea
  |cons xx iR=>
   have ek:kx=(k,xx):=(List.cons.inj ea).1
   have eas:as=en (k+1) iR:=(List.cons.inj ea).2
   subst ek
   rw[length_cons] at len
   have hk:k<ps.length:=by lia
   refine λN hN=>?_
   have xH:aI H H':=x.ext ((aI.ba _ _).trans cf) (le_refl _)
   have st:∀{H''},br H.length H₂ H''->d6 [ls] H₂ H''=true:=λx=>dr ax (x _ _ (ne_of_gt l2) ax)
   refine(at_of hk).elim λp hp=>?_
   have iI:=xH _ _ hA
   apply aG (fI iI hp)
   apply aG (cN iI)
   rw[length_map]
   refine mA (lt_of_le_of_lt hl (by decide)) (cK (cO (by rw[length_map,length_range];exact lt_of_le_of_lt hl (by decide))) ?_)
   refine ij (P:=nM ps p.bH) (F:=nv) _ _ _ (λj hj T hT=>?_) (λj ζ ζ N hN=>hN) ?_
   ·refine(at_of (mem_range.mp hj)).elim λpj wG=>?_
    apply aG (fI iI wG)
    unfold nM at hT
    rw[wG] at hT
    exact lW (T:=T) hT
   ·have jb:∀j∈(List.range ps.length).filter (nM ps p.bH),jf ps p.bH j:=λj hj=>Ha (mem_filter.mp hj).2
    have ae:=bq H' (.list (bb ((List.range ps.length).filter (nM ps p.bH))))
    generalize (List.range ps.length).filter (nM ps p.bH)=es at jb ae
    have no:∀{H''} {o3 o4 o5 o6 o7 o8 o9 o10},aI H' H''->N [some (.ref l),some (.int c),some (.ref H.length),o3,o4,o5,o6,o7,o8,o9,o10] H'':=λx'=>hN _ _ (st (x.trans (x'.b _))) (.mk _ _ _ _ _ _ _ _ (k+1) iR fg rfl (x.trans (x'.b _)) (x' _ _ a) eas (by lia) ad)
    have fin:∀{al H₃} {o3 o4 o5 o6 o7 o8 o9 o10},(∀j∈al,j∈es)->ju al->aI H' H₃->n3 (.ref H.length) (nv k) (.aP [.int p.bH,.aP (bb p.bL),.aP [.int (p.bH+xx.fmod 30),.aP (bb al)],mz p.dp]) H₃ (λH₄=>N [some (.ref l),some (.int c),some (.ref H.length),o3,o4,o5,o6,o7,o8,o9,o10] H₄):=λ{al H₃ _ _ _ _ _ _ _ _} eZ h2 co=>by
     have gq:k<fg.length:=by rw[ad.1];exact hk
     refine RV (co _ _ a) (by rw[length_map];exact gq) ?_
     have x4:=x.trans ((co.b _).trans (br.set H.length H₃ (.list ((fg.map bO).set k (.aP [.int p.bH,.aP (bb p.bL),.aP [.int (p.bH+xx.fmod 30),.aP (bb al)],mz p.dp])))))
     refine hN _ _ (st x4) (.mk _ _ _ _ _ _ _ _ (k+1) iR (fg.set k ⟨p.bH,p.bL,some (p.bH+xx.fmod 30,al),p.dp⟩) rfl x4 (?_) eas (by lia) ⟨by rw[length_set];exact ad.1,λi p' d8=>?_⟩)
     ·rw[List.map_set];exact f9 (co _ _ a) _
     ·by_cases lJ:k=i
      ·subst lJ
       rw[List.getElem?_set_self gq] at d8
       cases d8
       exact⟨(hW k p hp) _ λa' b' c' d' z'=>(.mk a' (λy hy j hj=>by cases hy;exact jb j (eZ j hj)) c' (λy hy=>by cases hy;exact h2) z'),p,hp,rfl⟩
      ·rw[getElem?_set_ne lJ] at d8
       exact ad.2 i p' d8
    refine(?_:bW (((xx.fdiv 30).fmod 4==0)==true) _ _)
    refine e8 (λh1=>?_) λh1=>dJ h1 (no (aI.ba _ _))
    apply aG (ne_nil (bz _ ae) (iS _ _) (bq _ _))
    rw[isEmpty_map]
    have A8:∀a b:List bc,aI H' (H'++a++b):=λa b=>(aI.ba _ _).trans (aI.ba _ _)
    refine e8 (λh2=>?_) λh2=>dJ h2 (no (A8 _ _))
    have sm:∀(al:List Nat) (H₃:Hp),(∀j∈al,j∈es)->ju al->aI (H'++[.list (bb es)]++[.list []]) H₃->_:=λal H₃ eZ h2 co=>fin (o3:=some (nv k)) (o4:=some (.int xx)) (o5:=some (.int p.bH)) (o6:=some (.aP (bb p.bL))) (o7:=some (Ai p.ad)) (o8:=some (mz p.dp)) (o9:=some (.ref H'.length)) (o10:=some (.int (p.bH+xx.fmod 30))) eZ h2 ((A8 _ _).trans co)
    have A9:=no (o3:=some (nv k)) (o4:=some (.int xx)) (o5:=some (.int p.bH)) (o6:=some (.aP (bb p.bL))) (o7:=some (Ai p.ad)) (o8:=some (mz p.dp)) (o9:=some (.ref H'.length)) (o10:=some (.int (p.bH+xx.fmod 30))) (A8 [.list (bb es)] [.list []])
    revert sm A9
    cases hd:p.dp with
    |none=>exact λsm ζ=>bB (A3 (bz _ ae) sm)
    |some e=>
     intro sm A9
     refine(?_:bW (decide (p.bH+xx.fmod 30<e)) _ _)
     exact da (λζ=>bB (A3 (bz _ ae) sm)) λζ=>A9
 ·refine h _ λo3 o4 o5 o6 o7 o8 o9 o10 k iR fg e x a ea len ad=>?_
  subst e
  exact q _ _ fg ad.1 ad.wf (x.ext ((aI.ba _ _).trans cf) (le_refl _)) (le_refl _) a)
end
section
variable{n:Nat}{c:Int}{l:Nat}{H:Hp}{Q:PQ}
theorem RX{C:Cl}{ρ:aV}{R:List V×List Nat->Hp->Prop}{a b z:V}{j:Nat}(h:ρ[j]?.join=some (.aP [a,b,z]))(q:R ([a,b],[]) H):me C (.of (.dT (.U j) none (some (.k (.int 2))))) ρ H R:=aG h q
theorem all_ints:∀{vs:List V},(∀v∈vs,∃i,v=.int i)->∃is,allInts vs=some is
 |[],_=>⟨[],rfl⟩
 |v::r,h=>(h v mem_cons_self).elim λi hi=>(all_ints λv hv=>h v (.tail _ hv)).elim λis uR=>⟨i::is,by
   rw[hi]
   refine(?_:(allInts r).map (i::·)=_)
   rw[uR];rfl⟩
noncomputable def uS(ps:List aO)(j:Nat):Bool:=(ps[j]?).elim false λp=>p.dp.isSome
noncomputable def uT(ps:List aO)(j:Nat):V:=(ps[j]?).elim .none λp=>mz p.dp
theorem Hf{ps:List aO}{a b:Nat}{z:V}(hA:H[l]?=some (.list (ps.map bO)))(ha:a<ps.length)(hb:b<ps.length)(q:∀z H',aI H H'->Q (.int z) H'):aM (n+1) ve [.ref l,.aP [nv a,nv b,z]] H Q:=P8 (by
 have fO:∀j∈[a,b],j<ps.length:=λj hj=>(mem_cons.mp hj).elim (λe=>e▸ha) λh=>by rw[mem_singleton.mp h];exact hb
 unfold yz
 refine cU (jh (RX (j:=1) rfl (cK (cO (show 2<16000000 by decide)) ?_)))
 refine ij (g:=nv) (P:=uS ps) (F:=uT ps) [a,b] _ _ (λj hj T hT=>?_) (λj hj ζ N hN=>?_) ?_
 ·refine(at_of (fO j hj)).elim λp hp=>?_
  apply aG (fI hA hp)
  unfold uS at hT
  rw[hp] at hT
  have hT:T p.dp.isSome H:=hT
  unfold bO
  cases hd:p.dp with
  |none=>rw[hd] at hT;exact hT
  |some d=>rw[hd] at hT;exact hT
 ·refine(at_of (fO j hj)).elim λp hp=>?_
  apply aG (fI hA hp)
  unfold uT at hN
  rw[hp] at hN
  exact hN
 ·have hi:∃is,allInts (([a,b].filter (uS ps)).map (uT ps))=some is:=all_ints λv hv=>(mem_map.mp hv).elim λj hj=>by
   have h1:=(mem_filter.mp hj.1).2
   refine(at_of (fO j (mem_filter.mp hj.1).1)).elim λp hp=>?_
   rw[<-hj.2]
   unfold uT uS at *
   rw[hp] at h1 ⊢
   have h1:p.dp.isSome=true:=h1
   refine(?_:∃i,mz p.dp=.int i)
   cases hd:p.dp with
   |none=>rw[hd] at h1;cases h1
   |some d=>exact⟨d,rfl⟩
  refine hi.elim λis uR=>?_
  have e:jp (H++[.list ([]++([a,b].filter (uS ps)).map (uT ps))]) (.ref H.length)=some is:=by
   refine(?_:(cP _ (.ref H.length)).bind allInts=_)
   rw[cN (bq _ _)];exact uR
  apply aG e
  exact q _ _ (aI.ba _ _))
theorem RY{ps:List aO}{a b a' b':Nat}{d d':Int}(hA:H[l]?=some (.list (ps.map bO)))(ha:a<ps.length)(hb:b<ps.length)(zo:a'<ps.length)(fZ:b'<ps.length)(q:∀t H',aI H H'->Q (.bool t) H'):aM (n+2) s6 [.ref l,.aP [nv a,nv b,.int d],.aP [nv a',nv b',.int d']] H Q:=P9 (by
 refine bB (Hf hA ha hb λz H₁ uU=>?_)
 refine(?_:bW (decide (z>d')==true) _ _)
 refine e8 (λh1=>?_) λh1=>q _ _ uU
 exact bB (Hf (uU _ _ hA) zo fZ λz H₂ cf=>q _ _ (uU.trans cf)))
end
noncomputable abbrev RZ:S:=.aX (.U 5) (.bin .mod (.U 4) (.bi .len [.U 0]))
noncomputable abbrev R4:S:=.aX (.U 6) (.bin .mod (.bin .fdiv (.U 4) (.k (.int 60))) (.bi .len [.U 0]))
noncomputable abbrev R5:S:=.aX (.U 7) (.bin .add (.bi .max2 [(.aU (.aU (.U 0) (.U 5)) (.k (.int 0))),(.aU (.aU (.U 0) (.U 6)) (.k (.int 0)))]) (.bin .mod (.bin .fdiv (.U 4) (.k (.int 3600))) (.k (.int 40))))
noncomputable abbrev R6:S:=.aX (.U 9) (.and [(.cmp .ne (.U 5) (.U 6)),(.call iO [.U 0,.U 5,.U 7]),(.call iO [.U 0,.U 6,.U 7])])
noncomputable abbrev R7:List S:=[.bD (.or [(.cmp .d3 (.U 5) (.dT (.U 10) none (some (.k (.int 2))))),(.cmp .d3 (.U 6) (.dT (.U 10) none (some (.k (.int 2)))))])
    [.aX (.U 9) (.and [.U 9,(.not (.call s6 [.U 0,.U 8,.U 10]))])]
    []]
noncomputable abbrev R8:S:=.for (.U 10) (.of (.U 3)) R7
noncomputable abbrev jT(l:Nat)(c:Int)(m lf:Nat)(x:Int)(o5 o6 o7 o8 o9 o10:Option V):aV:=[some (.ref l),some (.int c),some (nv m),some (.ref lf),some (.int x),o5,o6,o7,o8,o9,o10]
noncomputable def Ba(l:Nat)(c:Int)(m lf:Nat)(x:Int)(a b:Nat)(d:Int)(N:Nat)(H:Hp)(as:List gd)(ρ:aV)(H':Hp):Prop:=∀WmIζ:Prop,(∀(t:Bool) (o10:Option V) (e:ρ=jT l c m lf x (some (nv a)) (some (nv b)) (some (.int d)) (some (.aP [nv a,nv b,.int d])) (some (.bool t)) o10) (ext:aI H H') (ok:kH N as),WmIζ)->WmIζ
theorem Ba.mk{l:Nat}{c:Int}{m lf:Nat}{x:Int}{a b:Nat}{d:Int}{N:Nat}{H:Hp}{as:List gd}{ρ:aV}{H':Hp}(t:Bool)(o10:Option V)(e:ρ=jT l c m lf x (some (nv a)) (some (nv b)) (some (.int d)) (some (.aP [nv a,nv b,.int d])) (some (.bool t)) o10)(ext:aI H H')(ok:kH N as):Ba l c m lf x a b d N H as ρ H':=λζ bw=>bw t o10 e ext ok
section
variable{n:Nat}{c x d:Int}{l m lf a b:Nat}{H:Hp}{K:Out->Prop}{rest:List S}{ps:List aO}{o5 o6 o7 o8 o9 o10:Option V}
theorem xC{ps:List aO}(h:0<ps.length):((ps.length:Nat):Int)≠0:=Int.ofNat_ne_zero.mpr (ne_of_gt h)
theorem q5(hA:H[l]?=some (.list (ps.map bO)))(h0:0<ps.length)(h:∀a,a<ps.length->aY (aM n) rest (jT l c m lf x (some (nv a)) o6 o7 o8 o9 o10) H K):aY (aM n) (RZ::rest) (jT l c m lf x o5 o6 o7 o8 o9 o10) H K:=by
 apply aG (cN hA)
 rw[length_map]
 apply aG (iH (a:=x) (xC h0))
 refine(jy x h0).elim λa ha=>?_
 rw[ha.1]
 exact h a ha.2
theorem q6(hA:H[l]?=some (.list (ps.map bO)))(h0:0<ps.length)(h:∀a,a<ps.length->aY (aM n) rest (jT l c m lf x o5 (some (nv a)) o7 o8 o9 o10) H K):aY (aM n) (R4::rest) (jT l c m lf x o5 o6 o7 o8 o9 o10) H K:=by
 apply aG (cN hA)
 rw[length_map]
 apply aG (iH (a:=x.fdiv 60) (xC h0))
 refine(jy (x.fdiv 60) h0).elim λa ha=>?_
 rw[ha.1]
 exact h a ha.2
theorem q7(hA:H[l]?=some (.list (ps.map bO)))(ha:a<ps.length)(hb:b<ps.length)(h:∀d,aY (aM n) rest (jT l c m lf x (some (nv a)) (some (nv b)) (some (.int d)) o8 o9 o10) H K):aY (aM n) (R5::rest) (jT l c m lf x (some (nv a)) (some (nv b)) o7 o8 o9 o10) H K:=by
 refine(at_of ha).elim λp hp=>(at_of hb).elim λp' d8=>?_
 apply aG (fI hA hp)
 apply aG (fI hA d8)
 exact h _
theorem q9(hA:H[l]?=some (.list (ps.map bO)))(ha:a<ps.length)(hb:b<ps.length)(h:∀t,aY (aM (n+1)) rest (jT l c m lf x (some (nv a)) (some (nv b)) (some (.int d)) o8 (some (.bool t)) o10) H K):aY (aM (n+1)) (R6::rest) (jT l c m lf x (some (nv a)) (some (nv b)) (some (.int d)) o8 o9 o10) H K:=by
 refine(at_of ha).elim λp hp=>(at_of hb).elim λp' d8=>?_
 refine(?_:bW ((!((a:Int)==(b:Int)))==true) _ _)
 refine e8 (λh1=>?_) λh1=>h _
 refine bB (oN hA hp ?_)
 refine(?_:bW (dD p d==true) _ _)
 refine e8 (λh1=>?_) λh1=>h _
 exact bB (oN hA d8 (h _))
theorem R9{ms:List gd}{t:Bool}(hA:H[l]?=some (.list (ps.map bO)))(ha:a<ps.length)(hb:b<ps.length)(hM:H[lf]?=some (.list (ms.map iT)))(ok:kH ps.length ms)(h:∀t o10 H',aI H H'->aY (aM (n+2)) rest (jT l c m lf x (some (nv a)) (some (nv b)) (some (.int d)) (some (.aP [nv a,nv b,.int d])) (some (.bool t)) o10) H' K):aY (aM (n+2)) (R8::rest) (jT l c m lf x (some (nv a)) (some (nv b)) (some (.int d)) (some (.aP [nv a,nv b,.int d])) (some (.bool t)) o10) H K:=by
 apply aG (dz hM)
 refine d9 (Ba l c m lf x a b d ps.length H) (λw as ρ H' hI=>?_) (λρ H' hI=>?_) _ _ _ (.mk t o10 rfl (aI.refl _) ok)
 ·refine hI _ λt o10 e ext ok=>?_
  subst e
  refine λN hN=>?_
  have hw:=ok w mem_cons_self
  have no:∀t H'',aI H' H''->N (jT l c m lf x (some (nv a)) (some (nv b)) (some (.int d)) (some (.aP [nv a,nv b,.int d])) (some (.bool t)) (some (iT w))) H'':=λt H'' x'=>hN _ _ (dr hM ((ext.trans x') _ _ hM)) (.mk t _ rfl (ext.trans x') (λw h=>ok w (.tail _ h)))
  have yes:aY (aM (n+2)) [.aX (.U 9) (.and [.U 9,(.not (.call s6 [.U 0,.U 8,.U 10]))])] (jT l c m lf x (some (nv a)) (some (nv b)) (some (.int d)) (some (.aP [nv a,nv b,.int d])) (some (.bool t)) (some (iT w))) H' (λo=>lD o N False):=by
   refine(?_:bW (t==true) _ _)
   refine e8 (λh1=>?_) λh1=>no _ _ (aI.refl _)
   exact bB (RY (n:=n) (ext _ _ hA) ha hb hw.1 hw.2 λt' H'' x'=>no _ _ x')
  refine(?_:bW ((((w.a:Int)==(a:Int))||(((w.b:Int)==(a:Int))||false))==false) _ _)
  refine qf (λh1=>?_) λh1=>jO h1 yes
  refine(?_:bW (((w.a:Int)==(b:Int))||(((w.b:Int)==(b:Int))||false)) _ _)
  exact da (λζ=>yes) λζ=>no _ _ (aI.refl _)
 ·refine hI _ λt o10 e ext ok=>?_
  subst e
  exact h _ _ _ ext
end
noncomputable def Bb(c:Int)(m l lf N:Nat)(H₁:Hp)(as:List Int)(ρ:aV)(H':Hp):Prop:=∀WdIζ:Prop,(∀(o4 o5 o6 o7 o8 o9 o10:Option V) (ms:List gd) (e:ρ=[some (.ref l),some (.int c),some (nv m),some (.ref lf),o4,o5,o6,o7,o8,o9,o10]) (x:br lf H₁ H') (a:H'[lf]?=some (.list (ms.map iT))) (ok:kH N ms) (len:ms.length+as.length<=m),WdIζ)->WdIζ
theorem Bb.mk{c:Int}{m l lf N:Nat}{H₁:Hp}{as:List Int}{ρ:aV}{H':Hp}(o4 o5 o6 o7 o8 o9 o10:Option V)(ms:List gd)(e:ρ=[some (.ref l),some (.int c),some (nv m),some (.ref lf),o4,o5,o6,o7,o8,o9,o10])(x:br lf H₁ H')(a:H'[lf]?=some (.list (ms.map iT)))(ok:kH N ms)(len:ms.length+as.length<=m):Bb c m l lf N H₁ as ρ H':=λζ bw=>bw o4 o5 o6 o7 o8 o9 o10 ms e x a ok len
section
variable{n:Nat}{c:Int}{l m:Nat}{H:Hp}{Q:PQ}
theorem Sa{ps:List aO}(hA:H[l]?=some (.list (ps.map bO)))(h0:0<ps.length)(hm:m<=1000)(q:∀lm H' ms,kH ps.length ms->ms.length<=m->aI H H'->H.length<=lm->H'[lm]?=some (.list (ms.map iT))->Q (.ref lm) H'):aM (n+3) yn [.ref l,.int c,nv m] H Q:=Qa (by
 refine bB (xt (n:=n+1) hm λls H₂ xs qy A6 lY cf ax=>?_)
 have a0:=bq H (.list [])
 have l2:H.length<ls:=lt_of_lt_of_le (cT a0) lY
 apply aG (dz ax)
 refine d9 (Bb c m l H.length ps.length H₂) (λx as ρ H' h=>?_) (λρ H' h=>?_) _ _ _ (.mk none none none none none none none [] rfl (br.refl _ _) (cf _ _ a0) (λζ h=>(nomatch h)) (by rw[length_nil,zero_add];exact le_of_eq qy))
 ·refine h _ λo4 o5 o6 o7 o8 o9 o10 ms e x' a ok len=>?_
  subst e
  refine λN hN=>?_
  rw[length_cons] at len
  have xH:aI H H':=x'.ext ((aI.ba _ _).trans cf) (le_refl _)
  have iI:=xH _ _ hA
  have st:∀{H''},br H.length H₂ H''->d6 [ls] H₂ H''=true:=λx=>dr ax (x _ _ (ne_of_gt l2) ax)
  refine q5 iI h0 λb hb=>q6 iI h0 λb' fZ=>q7 iI hb fZ λd=>?_
  refine cU ?_
  refine q9 (n:=n+1) iI hb fZ λt=>R9 (n:=n) iI hb fZ a ok λt o10 H₃ co=>?_
  have a3:=co _ _ a
  refine(?_:bW t _ _)
  refine da (λζ=>?_) λζ=>hN _ _ (st (x'.trans (co.b _))) (.mk _ _ _ _ _ _ _ ms rfl (x'.trans (co.b _)) a3 ok (by lia))
  refine jd a3 (je a3 (by rw[length_map];lia) (hN _ _ (st ((x'.trans (co.b _)).trans (br.set _ _ _))) (.mk _ _ _ _ _ _ _ (ms++[⟨b,b',d⟩]) rfl ((x'.trans (co.b _)).trans (br.set _ _ _)) (?_) (λw hw=>(mem_append.mp hw).elim (ok w) λh=>by rw[mem_singleton.mp h];exact⟨hb,fZ⟩) (by rw[length_append];refine(?_:ms.length+1+as.length<=m);lia))))
  rw[map_append];exact f9 a3 _
 ·refine h _ λo4 o5 o6 o7 o8 o9 o10 ms e x' a ok len=>?_
  subst e
  exact q _ _ ms ok (le_trans (le_add_right _ _) len) (x'.ext ((aI.ba _ _).trans cf) (le_refl _)) (le_refl _) a)
end
noncomputable abbrev Bc(ov un j:Nat):V:=.aP [nv j,nv ov,nv un]
noncomputable def Bd(l kp:Nat)(x:Int)(r N:Nat)(H:Hp)(as:List Nat)(ρ:aV)(H':Hp):Prop:=∀GfIζ:Prop,(∀(o4 o5:Option V) (ns:List Nat) (e:ρ=[some (.ref l),some (nv kp),some (.int x),some (.ref H.length),o4,o5,none,none]) (ext:aI H H') (a:H'[H.length]?=some (.list (bb ns))) (ok:∀j∈ns,j<N) (len:ns.length+as.length<=r) (small:∀k∈as,k<r),GfIζ)->GfIζ
theorem Bd.mk{l kp:Nat}{x:Int}{r N:Nat}{H:Hp}{as:List Nat}{ρ:aV}{H':Hp}(o4 o5:Option V)(ns:List Nat)(e:ρ=[some (.ref l),some (nv kp),some (.int x),some (.ref H.length),o4,o5,none,none])(ext:aI H H')(a:H'[H.length]?=some (.list (bb ns)))(ok:∀j∈ns,j<N)(len:ns.length+as.length<=r)(small:∀k∈as,k<r):Bd l kp x r N H as ρ H':=λζ bw=>bw o4 o5 ns e ext a ok len small
section
variable{n:Nat}{x:Int}{l kp:Nat}{H:Hp}{Q:PQ}
noncomputable def Sb(H:Hp)(N:Nat)(Q:PQ):Prop:=∀(lg:Nat) (H':Hp) (ns:List Nat) (ov un:Nat),(∀j∈ns,j<N)->ns.length<=10->ov<=3->1<=ov->ov*ns.length<=un->un<1000->aI H H'->H'[lg]?=some (.list (ns.map (Bc ov un)))->Q (.ref lg) H'
theorem Sd(x:Int):∃(z:Int) (r:Nat),eQ (.ref (H++[bc.list []]).length) (.int ((x.fdiv 30).fmod 3)) (H++[bc.list []]++[.list [.int 3,.int 3,.int 10]])=some (.int z)/\z≠0/\1+x.fmod z=(r:Int)/\r<=10:=
 have h3:=uO x (k:=3) (c:=10) (by decide) (by decide)
 have r7:=uO x (k:=10) (c:=10) (by decide) (by decide)
 Ry (x.fdiv 30) (P:=λi=>∃(z:Int) (r:Nat),eQ (.ref (H++[bc.list []]).length) (.int i) (H++[bc.list []]++[.list [.int 3,.int 3,.int 10]])=some (.int z)/\z≠0/\1+x.fmod z=(r:Int)/\r<=10)
  (h3.elim λr h=>⟨3,r,gu (bq _ _) rfl,by decide,h.1,h.2.2⟩) (h3.elim λr h=>⟨3,r,gu (bq _ _) rfl,by decide,h.1,h.2.2⟩) (r7.elim λr h=>⟨10,r,gu (bq _ _) rfl,by decide,h.1,h.2.2⟩)
theorem Se(x:Int):∃mo:Nat,eQ (.ref H.length) (.int ((x.fdiv 7).fmod 2)) (H++[.list [.int ((x.fdiv 11340).fmod 4),.int ((x.fdiv 11340).fmod 900)]])=some (nv mo)/\mo<900:=
 (jy (x.fdiv 11340) (k:=4) (by decide)).elim λa ha=>(jy (x.fdiv 11340) (k:=900) (by decide)).elim λb hb=>mod2 (x.fdiv 7) (P:=λi=>∃mo:Nat,eQ (.ref H.length) (.int i) (H++[.list [.int ((x.fdiv 11340).fmod 4),.int ((x.fdiv 11340).fmod 900)]])=some (nv mo)/\mo<900)
  ⟨a,(gu (bq _ _) rfl).trans (by rw[show(x.fdiv 11340).fmod 4=(a:Int) from ha.1]),lt_trans ha.2 (by decide)⟩ ⟨b,(gu (bq _ _) rfl).trans (by rw[show(x.fdiv 11340).fmod 900=(b:Int) from hb.1]),hb.2⟩
theorem Sf{ps:List aO}(hA:H[l]?=some (.list (ps.map bO)))(h0:0<ps.length)(q:Sb H ps.length Q):aM (n+1) yo [.ref l,nv kp,.int x] H Q:=Qb (by
 refine(Sd (H:=H) x).elim λz hz=>hz.elim λr hz=>?_
 apply aG hz.1
 apply aG (iH hz.2.1)
 refine dB (op:=.add) (p:=1) (q:=x.fmod z) (z:=(r:Int)) (congrArg some hz.2.2.1) ?_
 have hr:=hz.2.2.2
 refine mA (lt_of_le_of_lt hr (by decide)) ?_
 refine d9 (Bd l kp x r ps.length H) (λk as ρ H' h=>?_) (λρ H' h=>?_) _ _ _ (.mk none none [] rfl ((aI.ba _ _).trans (aI.ba _ _)) (bz _ (bq _ _)) (λζ h=>(nomatch h)) (by rw[length_range,length_nil,zero_add];exact le_refl _) (λk hk=>mem_range.mp hk))
 ·refine h _ λo4 o5 ns e ext a ok len small=>?_
  subst e
  refine λN hN=>?_
  rw[length_cons] at len
  have hk:=small k mem_cons_self
  apply aG (ig (i:=10) (j:=10) (a:=(k:Int)) (b:=1+(x.fdiv 540).fmod 7) (mM hk (le_trans hr (by decide))) ((uO (x.fdiv 540) (k:=7) (c:=1000) (by decide) (by decide)).elim λr h=>by rw[show 1+(x.fdiv 540).fmod 7=(r:Int) from h.1];exact mM (lt_succ_of_le h.2.2) (by decide)) (by decide))
  apply aG (cN (ext _ _ hA))
  rw[length_map]
  apply aG (iH (a:=x.fdiv 90+(k:Int)*(1+(x.fdiv 540).fmod 7)) (xC h0))
  refine(jy (x.fdiv 90+(k:Int)*(1+(x.fdiv 540).fmod 7)) h0).elim λj hj=>?_
  rw[hj.1]
  have no:N [some (.ref l),some (nv kp),some (.int x),some (.ref H.length),some (nv k),some (nv j),none,none] H':=hN _ _ rfl (.mk _ _ ns rfl ext a ok (le_of_succ_le len) (λk hk=>small k (.tail _ hk)))
  refine(?_:bW ((!((j:Int)==(kp:Int)))==true) _ _)
  refine e8 (λh1=>?_) λh1=>dJ h1 no
  apply aG (uQ a)
  refine da (λh2=>?_) λh2=>no
  exact jd a (je a (by rw[length_map];exact lt_of_le_of_lt (le_trans (le_trans (le_add_right _ _) len) hr) (by decide)) (hN _ _ rfl (.mk _ _ (ns++[j]) rfl (ext.set (le_refl _) _) (by rw[<-qg];exact f9 a _) (λi hi=>(mem_append.mp hi).elim (ok i) λh=>by rw[mem_singleton.mp h];exact hj.2) (by rw[length_append];refine(?_:ns.length+1+as.length<=r);rw[add_right_comm];exact len) (λk hk=>small k (.tail _ hk)))))
 ·refine h _ λo4 o5 ns e ext a ok len small=>?_
  subst e
  have kQ:ns.length<=10:=le_trans (le_trans (le_add_right _ _) len) hr
  refine(uO (x.fdiv 3780) (k:=3) (c:=3) (by decide) (le_refl _)).elim λov qz=>?_
  refine cU (dH (bG (dH (dH (aQ rfl (bG ?_))))))
  refine dB (sj (by decide)) (bG (dB (iH (by decide)) (dB rfl ?_)))
  rw[show 1+(x.fdiv 3780).fmod 3=(ov:Int) from qz.1]
  refine aG rfl ?_
  refine(Se (H:=H') x).elim λmo Hg=>?_
  apply aG Hg.1
  apply aG (dz (bz _ a))
  refine cK (cO (by rw[length_map];exact lt_of_le_of_lt kQ (by decide))) ?_
  refine ij (P:=λζ=>true) (F:=Bc ov (ov*ns.length+mo)) _ _ _ (λj ζ T hT=>hT) (λj ζ ζ N hN=>?_) ?_
  ·apply aG (cN (bz _ a))
   rw[length_map]
   apply aG (ig (i:=10) (j:=10) (a:=(ov:Int)) (b:=(ns.length:Int)) (mM (lt_succ_of_le qz.2.2) (by decide)) (mM (lt_succ_of_le kQ) (by decide)) (by decide))
   exact hN
  ·rw[nH]
   have hmul:ov*ns.length<=30:=le_trans (Nat.mul_le_mul qz.2.2 kQ) (by decide)
   refine q _ _ ns ov (ov*ns.length+mo) ok kQ qz.2.2 qz.2.1 (le_add_right _ _) (lt_of_lt_of_le (Nat.add_lt_add_of_le_of_lt hmul Hg.2) (by decide)) (ext.trans ((aI.ba _ _).trans (aI.ba _ _))) (bq _ _))
end
noncomputable def Be(c:Int)(m l lf N:Nat)(H₁:Hp)(as:List Int)(ρ:aV)(H':Hp):Prop:=∀WlIζ:Prop,(∀(o4 o5 o6 o7:Option V) (ws:List fJ) (e:ρ=[some (.ref l),some (.int c),some (nv m),some (.ref lf),o4,o5,o6,o7]) (x:br lf H₁ H') (a:H'[lf]?=some (.list (ws.map jQ))) (ok:uL N ws) (len:ws.length+as.length<=m),WlIζ)->WlIζ
theorem Be.mk{c:Int}{m l lf N:Nat}{H₁:Hp}{as:List Int}{ρ:aV}{H':Hp}(o4 o5 o6 o7:Option V)(ws:List fJ)(e:ρ=[some (.ref l),some (.int c),some (nv m),some (.ref lf),o4,o5,o6,o7])(x:br lf H₁ H')(a:H'[lf]?=some (.list (ws.map jQ)))(ok:uL N ws)(len:ws.length+as.length<=m):Be c m l lf N H₁ as ρ H':=λζ bw=>bw o4 o5 o6 o7 ws e x a ok len
noncomputable def Bg(q:Rat)(de:aV)(H:Hp)(tot as:List Nat)(acc:List V)(ρ:aV)(H':Hp):Prop:=∀TuIζ:Prop,(∀(o o' sq:Option V) (an:List Nat) (e:ρ=o::o'::sq::de) (eh:H'=H) (ea:acc=an.map λj=>mF (j,q)) (t:an++as=tot),TuIζ)->TuIζ
theorem Bg.mk{q:Rat}{de:aV}{H:Hp}{tot as:List Nat}{acc:List V}{ρ:aV}{H':Hp}(o o' sq:Option V)(an:List Nat)(e:ρ=o::o'::sq::de)(eh:H'=H)(ea:acc=an.map λj=>mF (j,q))(t:an++as=tot):Bg q de H tot as acc ρ H':=λζ bw=>bw o o' sq an e eh ea t
theorem qA{α:Type}{f:V->Option PyData}{g:α->V}{d:α->PyData}(h:∀a,f (g a)=some (d a)):∀l:List α,eJ f (l.map g)=some (l.map d)
 |[]=>rfl
 |a::r=>gI (h a) (qA h r)
section
variable{n:Nat}{c:Int}{l m:Nat}{H:Hp}{Q:PQ}
theorem Sg{ps:List aO}(hW:cw ps)(hA:H[l]?=some (.list (ps.map bO)))(h0:0<ps.length)(hm:m<=1000)(q:∀lw H' ws,uL ps.length ws->ws.length<=m->aI H H'->H.length<=lw->H'[lw]?=some (.list (ws.map jQ))->Q (.ref lw) H'):aM (n+2) yq [.ref l,.int c,nv m] H Q:=Qc (by
 refine bB (xt (n:=n) hm λls H₂ xs qy A6 lY cf ax=>?_)
 have a0:=bq H (.list [])
 have l2:H.length<ls:=lt_of_lt_of_le (cT a0) lY
 apply aG (dz ax)
 refine d9 (Be c m l H.length ps.length H₂) (λx as ρ H' h=>?_) (λρ H' h=>?_) _ _ _ (.mk none none none none [] rfl (br.refl _ _) (cf _ _ a0) (λζ h=>(nomatch h)) (by rw[length_nil,zero_add];exact le_of_eq qy))
 ·refine h _ λo4 o5 o6 o7 ws e x' a ok len=>?_
  subst e
  refine λN hN=>?_
  rw[length_cons] at len
  have xH:aI H H':=x'.ext ((aI.ba _ _).trans cf) (le_refl _)
  have iI:=xH _ _ hA
  have st:∀{H''},br H.length H₂ H''->d6 [ls] H₂ H''=true:=λx=>dr ax (x _ _ (ne_of_gt l2) ax)
  apply aG (cN iI)
  rw[length_map]
  apply aG (iH (a:=x) (xC h0))
  refine(jy x h0).elim λk hk=>?_
  rw[hk.1]
  refine(at_of hk.2).elim λp hp=>?_
  apply aG (fI iI hp)
  refine bB (Sf (n:=n) iI h0 λlg H₃ ns ov un kQ r7 qz Hh kO Hi co ag=>?_)
  have no:∀{H''} {o4 o5 o6 o7},aI H' H''->N [some (.ref l),some (.int c),some (nv m),some (.ref H.length),o4,o5,o6,o7] H'':=λqn=>hN _ _ (st (x'.trans (qn.b _))) (.mk _ _ _ _ ws rfl (x'.trans (qn.b _)) (qn _ _ a) ok (le_of_succ_le len))
  have x4:=co.trans (aI.ba H₃ [.list []])
  have uV:=bz [.list []] ag
  apply aG (ne_nil uV (qA (d:=λj:Nat=>PyData.tuple [.int j,.int ov,.int un]) (λj=>rfl) ns) (bq _ _))
  rw[isEmpty_map]
  refine e8 (λh1=>?_) λh1=>dJ h1 (no x4)
  have b8:ns≠[]:=λe=>by rw[e] at h1;cases h1
  have hu:un≠0:=λe=>by have:1*1<=ov*ns.length:=Nat.mul_le_mul Hh (length_pos_iff.mpr b8);exact absurd (le_trans this kO) (by rw[e];decide)
  generalize H₃++[bc.list []]=H₄ at x4 uV
  have a4:=x4 _ _ a
  have fin:∀{d:Int} (hd:0<=d) {o4 o5 o6 o7} {H₅:Hp},aI H₄ H₅->tD .append (.ref H.length) [.aP [nv k,.int d,.aP (ns.map λj=>mF (j,Rat.normalize ov un hu))]] H₅ (λζ H₆=>N [some (.ref l),some (.int c),some (nv m),some (.ref H.length),o4,o5,o6,o7] H₆):=λ{d} hd {_ _ _ _ H₅} x5=>by
   have a5:=x5 _ _ a4
   refine je a5 (by rw[length_map];exact lt_of_le_of_lt (le_trans (le_add_right _ _) len) (lt_of_le_of_lt hm (by decide))) ?_
   have x6:=(x'.trans ((x4.trans x5).b _)).trans (br.set H.length H₅ (.list (ws.map jQ++[.aP [nv k,.int d,.aP (ns.map λj=>mF (j,Rat.normalize ov un hu))]])))
   refine hN _ _ (st x6) (.mk _ _ _ _ (ws++[⟨k,d,ns.map λj=>(j,Rat.normalize ov un hu)⟩]) rfl x6 (?_) (λw hw=>(mem_append.mp hw).elim (ok w) λh=>?_) (by rw[length_append];refine(?_:ws.length+1+as.length<=m);exact(by rw[add_right_comm];exact len)))
   ·rw[map_append,f9 a5]
    refine(?_:_=some (bc.list (_++[jQ ⟨k,d,_⟩])))
    unfold jQ kG
    rw[map_map];rfl
   ·rw[mem_singleton.mp h]
    refine(.mk ⟨λg hg=>(mem_map.mp hg).elim λj hj=>hj.2▸⟨kQ j hj.1,Sm.qh hu (show(ov:Int).natAbs<2^10 from mM (lt_succ_of_le qz) (by decide)) (show un<2^10 from lt_trans Hi (by decide))⟩,by rw[length_map];exact r7⟩ hd ns ov un hu rfl Hh Hi kO)
  have aP:∀{d:Int},0<=d->aY (aM (n+1)) [.expr (.dP .append (.U 3) [(.aP [.U 5,.U 6,(.bi .tupleOf [(.comp 3 (.aP [.U 0,(.call o0 [.U 1,.U 2])]) (.aP [.U 0,.U 1,.U 2]) (.of (.U 7)) [])])])])] [some (.ref l),some (.int c),some (nv m),some (.ref H.length),some (.int x),some (nv k),some (.int d),some (.ref lg)] H₄ (λo=>lD o N False):=λ{d} hd=>by
   refine jd a4 ?_
   apply aG (dz uV)
   refine cK (cO (by rw[length_map];exact lt_of_le_of_lt r7 (by decide))) ?_
   refine uw (g:=Bc ov un) (Bg (Rat.normalize ov un hu) [some (.ref l),some (.int c),some (nv m),some (.ref H.length),some (.int x),some (nv k),some (.int d),some (.ref lg)] H₄ ns) (λj as acc ρ H' h=>?_) (λacc ρ H' h=>?_) ns _ _ _ (.mk none none none [] rfl rfl rfl rfl)
   ·refine h _ λo o' sq an e eh ea t=>?_
    subst e eh
    refine λN' hZ=>bB (F8 hu ?_)
    exact hZ _ _ (dr uV uV) (.mk _ _ _ (an++[j]) rfl rfl (by rw[ea,map_append];rfl) (jt t))
   ·refine h _ λo o' sq an e eh ea t=>?_
    rw[append_nil] at t
    subst eh ea t
    apply aG (cN (bq _ _))
    exact fin hd (aI.ba _ _)
  have Hj:0<=p.bH+(x.fdiv 60).fmod 30:=Int.add_nonneg ((hW k p hp) _ λζ ζ ζ ζ z=>z) (qx _ (by decide)).1
  apply aG (fI (x4 _ _ iI) hp)
  unfold bO
  cases hd:p.dp with
  |none=>exact aP Hj
  |some dd=>
   apply aG (fI (x4 _ _ iI) hp)
   unfold bO
   rw[hd]
   refine(?_:bW (decide (p.bH+(x.fdiv 60).fmod 30<=dd)) _ _)
   exact da (λζ=>aP Hj) λζ=>no x4
 ·refine h _ λo4 o5 o6 o7 ws e x' a ok len=>?_
  subst e
  exact q _ _ ws ok (le_trans (le_add_right _ _) len) (x'.ext ((aI.ba _ _).trans cf) (le_refl _)) (le_refl _) a)
end
noncomputable abbrev Cn:=List (Nat×Int)
noncomputable abbrev su(i:Int)(v:V):Prop:=v=.int i
theorem Si{α β:Type}{R:α->β->Prop}{as:List α}{bs:List β}(h:dA R as bs):∀b∈bs,∃a,R a b:=h.rec (motive:=λas bs ζ=>∀b∈bs,∃a,R a b) (λζ h=>nomatch h) λr ζ ih b hb=>(mem_cons.mp hb).elim (λe=>⟨_,e▸r⟩) (ih b)
theorem Hk{ws:Cn}{es:List (Int×V)}(h:cL hz su ws es)(k:Int):∃i,(eO es k).getD (.int 0)=.int i:=by
 unfold eO
 cases hf:es.find? λp=>decide (p.1=k) with
 |none=>exact⟨0,rfl⟩
 |some e=>exact(Si h e (mem_of_find?_eq_some hf)).elim λa ha=>⟨a.2,ha.2⟩
theorem Sj{A B:Type}[DecidableEq A]{ws:List (A×B)}{a:A}{b:B}:(fk ws a b).length<=ws.length+1:=by
 unfold fk
 split
 ·rw[length_map];exact le_succ _
 ·rw[length_append];exact le_refl _
theorem Sk{A B:Type}[DecidableEq A]{ws:List (A×B)}{a:A}{b:B}:dR (fk ws a b) a=true:=by
 rw[iE,nG]
 split
 ·rename_i h;exact iE.mp h
 ·exact mem_append_right _ mem_cons_self
noncomputable abbrev Sl:S:=.aX (.U 4) (.listOf (.aU (.aU (.U 0) (.U 3)) (.k (.int 1))))
noncomputable abbrev So:S:=.bD (.isNone false (.aU (.aU (.U 0) (.U 3)) (.k (.int 2))))
    [.aX (.U 4) (.bin .add (.U 4) (.comp 1 (.U 0) (.U 0) (.of (.aU (.aU (.aU (.U 0) (.U 3)) (.k (.int 2))) (.k (.int 1)))) [(.cmp .fR (.U 0) (.U 5))]))]
    []
noncomputable abbrev Sp:S:=.g8 (.U 2) (.U 3) (.bin .add (.dP .lu (.U 2) [.U 3,(.k (.int 0))]) (.bi .sU [(.comp 1 (.dP .lu (.U 3) [.U 0,(.k (.int 0))]) (.U 0) (.of (.U 4)) [])]))
noncomputable abbrev Sq:S:=.bD (.cmp .gt (.aU (.U 2) (.U 3)) (.k (.int 40)))
    [.ret (.k (.bool true))]
    []
noncomputable abbrev xD(l:Nat)(o1:Option V)(lw:Nat)(j:Nat)(o4:Option V):aV:=[some (.ref l),o1,some (.ref lw),some (nv j),o4]
section
variable{n:Nat}{l lw la j:Nat}{H:Hp}{K:Out->Prop}{rest:List S}{ps:List aO}{o1 o4:Option V}{ws:Cn}{es:List (Int×V)}{ep:Nat}{as:List Nat}
theorem t1{p:aO}(hW:cw ps)(hA:H[l]?=some (.list (ps.map bO)))(hp:ps[j]?=some p)(h:∀as la H',as.length<=10->aI H H'->H'[la]?=some (.list (bb as))->aY (aM n) rest (xD l o1 lw j (some (.ref la))) H' K):aY (aM n) (Sl::So::rest) (xD l o1 lw j o4) H K:=by
 have h2:p.bL.length<=2:=(hW j p hp) _ λζ ζ c ζ ζ=>c.1
 have a1:=bq H (.list (bb p.bL))
 have iI:=bz [.list (bb p.bL)] hA
 refine cU ?_
 apply aG (fI hA hp)
 refine cK (cO (show(bb p.bL).length<16000000 by rw[length_map];exact lt_of_le_of_lt h2 (by decide))) ?_
 apply aG (fI iI hp)
 have h:=h
 have no:=h p.bL _ _ (le_trans h2 (by decide)) (aI.ba _ _) a1
 unfold bO
 cases ha:p.ad with
 |none=>exact no
 |some y=>
  have Sr:y.2.length<=2:=(hW j p hp) _ λζ ζ ζ d ζ=>(d y ha).1
  refine cU (dH (aQ rfl (jh ?_)))
  apply aG (fI iI hp)
  unfold bO
  rw[ha]
  refine cK (cO (show(bb y.2).length<16000000 by rw[length_map];exact lt_of_le_of_lt Sr (by decide))) ?_
  refine ij (g:=nv) (P:=λi=>!decide (i∈p.bL)) (F:=nv) y.2 _ _ (λi ζ T hT=>?_) (λi ζ ζ N hN=>hN) ?_
  ·apply aG (uQ a1)
   exact lW (T:=T) hT
  ·have h3:=length_filter_le (λi=>!decide (i∈p.bL)) y.2
   refine lN (bz _ a1) (bq _ _) (by rw[nil_append,length_append,length_map,length_map];lia) (aG rfl ?_)
   refine h (p.bL++y.2.filter λi=>!decide (i∈p.bL)) _ _ (by rw[length_append];lia) ((aI.ba _ _).trans ((aI.ba _ _).trans (aI.ba _ _))) ?_
   rw[bq,nil_append]
   exact congrArg (λl=>some (bc.list l)) (map_append (f:=nv) (l₁:=p.bL)).symm
theorem Ss{A:Prop}(h:H[lw]?=some (.dict ep es))(a:A):ez (tC .lu H (.ref lw)) A:=cK (by refine(?_:(H[lw]?.bind fS).isSome=true);rw[h];rfl) a
theorem Hl{C:Cl}{ρ:aV}{a b k:Nat}{Q:PQ}(ha:ρ[a]?.join=some (.ref lw))(hb:ρ[b]?.join=some (nv k))(h:H[lw]?=some (.dict ep es))(q:Q ((eO es (hz k)).getD (.int 0)) H):WE C (.dP .lu (.U a) [.U b,.k (.int 0)]) ρ H Q:=by
 have e:jF H (.ref lw)=some es:=by refine(?_:H[lw]?.bind fS=_);rw[h];rfl
 refine aG ha (Ss h ?_)
 refine aG hb ?_
 exact aG e q
theorem Hm{C:Cl}{ρ:aV}{a i e:E}{r:List S}(h:WE C e ρ H λv H=>WE C a ρ H λx H=>WE C i ρ H λk H=>n3 x k v H λH'=>aY C r ρ H' K):aY C (.g8 a i e::r) ρ H K:=h
theorem t3(hw:H[lw]?=some (.dict ep es))(dc:cL hz su ws es)(hl:ws.length<=1000)(ha:H[la]?=some (.list (bb as)))(eZ:as.length<=10)(h1:∀i ep H',br lw H H'->∀fv,H'[lw]?=some (.dict ep fv)->cL hz su (fk ws j i) fv->K (.next (xD l o1 lw j (some (.ref la))) H'))(h2:∀H',br lw H H'->K (.ret (.bool true) H')):aY (aM n) [Sp,Sq] (xD l o1 lw j (some (.ref la))) H K:=by
 refine(Hk dc (hz j)).elim λi hi=>?_
 refine Hm (dH (Hl (k:=j) rfl rfl hw ?_))
 rw[hi]
 apply aG (dz ha)
 refine cK (cO (by rw[length_map];exact lt_of_le_of_lt eZ (by decide))) ?_
 refine ij (P:=λζ=>true) (F:=λk=>(eO es (hz k)).getD (.int 0)) _ _ _ (λi ζ T hT=>hT) (λk ζ ζ N hN=>Hl (k:=k) rfl rfl hw hN) ?_
 rw[nH]
 refine(all_ints (vs:=as.map λk=>(eO es (hz k)).getD (.int 0)) λv hv=>(mem_map.mp hv).elim λk hk=>hk.2▸Hk dc (hz k)).elim λis uR=>?_
 have e:jp (H++[.list ([]++as.map λk=>(eO es (hz k)).getD (.int 0))]) (.ref H.length)=some is:=by
  refine(?_:(cP _ (.ref H.length)).bind allInts=_)
  rw[cN (bq _ _)];exact uR
 apply aG e
 refine dB rfl (aQ rfl (aQ rfl ?_))
 refine AI (bz _ hw) (by rw[dA.len dc];exact lt_of_le_of_lt hl (by decide)) λnc=>?_
 have Hn:cL hz su (fk ws j (i+is.sum)) (dput es (hz j) (.int (i+is.sum))):=cL.put nK dc rfl
 have a':=f9 (bz [.list ([]++as.map λk=>(eO es (hz k)).getD (.int 0))] hw) (.dict nc (dput es (hz j) (.int (i+is.sum))))
 refine(Hn.get nK j Sk).elim λz qB=>qB.elim λv hv=>?_
 apply aG (AH a' hv.2.1)
 rw[hv.2.2]
 have xx:=(br.ba lw H [.list ([]++as.map λk=>(eO es (hz k)).getD (.int 0))]).trans (br.set lw _ (.dict nc (dput es (hz j) (.int (i+is.sum)))))
 refine(?_:bW (decide (z>40)) _ _)
 exact da (λζ=>h2 _ xx) λζ=>h1 _ _ _ xx _ a' Hn
end
noncomputable def Bh(l:Nat)(N:Nat)(H:Hp)(as:List Nat)(ρ:aV)(H':Hp):Prop:=∀TaIζ:Prop,(∀(o1 o2 o3 o4:Option V) (e:ρ=[some (.ref l),o1,o2,o3,o4]) (x:aI H H'),TaIζ)->TaIζ
theorem Bh.mk{l:Nat}{N:Nat}{H:Hp}{as:List Nat}{ρ:aV}{H':Hp}(o1 o2 o3 o4:Option V)(e:ρ=[some (.ref l),o1,o2,o3,o4])(x:aI H H'):Bh l N H as ρ H':=λζ bw=>bw o1 o2 o3 o4 e x
noncomputable def Bj(l:Nat)(o1:Option V)(lw N:Nat)(H₁:Hp)(vs:List V)(ρ:aV)(H':Hp):Prop:=∀TbIζ:Prop,(∀(o3 o4:Option V) (ep:Nat) (es:List (Int×V)) (ws:Cn) (e:ρ=[some (.ref l),o1,some (.ref lw),o3,o4]) (x:br lw H₁ H') (a:H'[lw]?=some (.dict ep es)) (dc:cL hz su ws es) (len:ws.length+vs.length<=100) (ok:∀v∈vs,∃j,j<N/\v=nv j),TbIζ)->TbIζ
theorem Bj.mk{l:Nat}{o1:Option V}{lw N:Nat}{H₁:Hp}{vs:List V}{ρ:aV}{H':Hp}(o3 o4:Option V)(ep:Nat)(es:List (Int×V))(ws:Cn)(e:ρ=[some (.ref l),o1,some (.ref lw),o3,o4])(x:br lw H₁ H')(a:H'[lw]?=some (.dict ep es))(dc:cL hz su ws es)(len:ws.length+vs.length<=100)(ok:∀v∈vs,∃j,j<N/\v=nv j):Bj l o1 lw N H₁ vs ρ H':=λζ bw=>bw o3 o4 ep es ws e x a dc len ok
section
variable{n:Nat}{l:Nat}{H:Hp}{Q:PQ}
theorem Su(m:Nat):g9 0 (m:Int)=(List.range m).map nv:=by
 unfold g9
 rw[sub_zero]
 exact List.map_congr_left λi ζ=>congrArg V.int (Int.zero_add _)
theorem Sv{ps:List aO}(hW:cw ps)(hl:ps.length<=20)(h0:H[0]?=some .tab)(hA:H[l]?=some (.list (ps.map bO)))(q:∀b H',aI H H'->Q (.bool b) H'):aM (n+1) vf [.ref l] H Q:=Qd (by
 apply aG (cN hA)
 rw[length_map]
 refine mA (lt_of_le_of_lt hl (by decide)) (d9 (Bh l ps.length H) (λr as ρ H' h=>?_) (λρ H' h=>?_) _ _ _ (.mk none none none none rfl (aI.refl _)))
 ·refine h _ λo1 o2 o3 o4 e x=>?_
  subst e
  refine λN hN=>?_
  refine And.intro (bq H' (.dict 0 [])) λep=>?_
  have x1:aI H' ((H'++[bc.dict 0 []]).set H'.length (.dict ep [((r:Int),.int 1)])):=(aI.ba _ _).set (le_refl _) _
  have a1:=f9 (bq H' (.dict 0 [])) (.dict ep [((r:Int),.int 1)])
  generalize (H'++[bc.dict 0 []]).set H'.length (.dict ep [((r:Int),.int 1)])=H₁ at x1 a1 ⊢
  have Hq:=(x.trans x1) _ _ hA
  apply aG (cN Hq)
  rw[length_map]
  refine And.intro ⟨natCast_nonneg _,by lia⟩ ?_
  rw[Su]
  apply aG (cN (bq H₁ (.list ((List.range ps.length).map nv))))
  refine And.intro ⟨by rw[length_map,length_range];exact lt_of_le_of_lt hl (by decide),bz _ ((x.trans x1) _ _ h0)⟩ (And.intro (λv hv=>?_) λus hp=>?_)
  ·refine(mem_map.mp hv).elim λj hj=>?_
   rw[<-hj.2]
   refine(at_of (mem_range.mp hj.1)).elim λp hp=>?_
   apply aG (fI (bz _ Hq) hp)
   trivial
  ·have ok:∀v∈us,∃j,j<ps.length/\v=nv j:=λv hv=>(mem_map.mp (hp.mem_iff.mp hv)).elim λj hj=>⟨j,mem_range.mp hj.1,hj.2.symm⟩
   have VS:us.length<=20:=by rw[hp.length_eq,length_map,length_range];exact hl
   have au:=bq (H₁++[.list ((List.range ps.length).map nv)]) (.list us)
   have x2:aI H₁ (H₁++[.list ((List.range ps.length).map nv)]++[.list us]):=(aI.ba _ _).trans (aI.ba _ _)
   have l1:=cT (bz [bc.list ((List.range ps.length).map nv)] a1)
   generalize H₁++[bc.list ((List.range ps.length).map nv)]=H₂ at au x2 l1
   apply aG (dz au)
   refine FW (Bj l (some (nv r)) H'.length ps.length (H₂++[.list us])) (λv vs ρ H₃ h=>?_) (λρ H₃ h=>?_) us _ _ (.mk o3 o4 ep _ [(r,1)] rfl (br.refl _ _) (x2 _ _ a1) (.cons ⟨rfl,rfl⟩ .nil) (by refine(?_:1+us.length<=100);lia) ok)
   ·refine h _ λo3 o4 ep es ws e x3 a3 dc len ok=>?_
    subst e
    refine(ok v mem_cons_self).elim λj hj=>?_
    rw[hj.2]
    refine λN' hZ=>?_
    refine(at_of hj.1).elim λp hp=>?_
    rw[length_cons] at len
    have xb:aI H (H₂++[.list us]):=(x.trans x1).trans x2
    have iP:H.length<=H'.length:=x.len
    have x3H:aI H H₃:=x3.ext xb iP
    refine t1 hW (x3H _ _ hA) hp λas la H₄ has x4 al=>?_
    have a4:=x4 _ _ a3
    refine t3 a4 dc (by lia) al has (λi nc H₅ x5 fv a5 Sw=>?_) λH₅ x5=>?_
    ·have x6:=x3.trans ((x4.b _).trans x5)
     exact hZ _ _ (dr au (x6 _ _ (ne_of_gt l1) au)) (.mk _ _ nc fv _ rfl x6 a5 Sw (by have:=Sj (ws:=ws) (a:=j) (b:=i);lia) (λv hv=>ok v (.tail _ hv)))
    ·exact q _ _ ((x3.trans ((x4.b _).trans x5)).ext xb iP)
   ·refine h _ λo3 o4 ep es ws e x3 a3 dc len ok=>?_
    subst e
    exact hN _ _ rfl (.mk _ _ _ _ rfl (x3.ext ((x.trans x1).trans x2) x.len))
 ·refine h _ λo1 o2 o3 o4 e x=>?_
  subst e
  exact q _ _ x)
end
noncomputable def sy:Option Int->PyData
 |none=>.none
 |some d=>.int d
noncomputable def nN(l:List Nat):PyData:=.tuple (l.map λi:Nat=>.int i)
noncomputable def sA:Option (Int×List Nat)->PyData
 |none=>.none
 |some a=>.tuple [.int a.1,nN a.2]
noncomputable def sB(p:aO):PyData:=.tuple [.int p.bH,nN p.bL,sA p.ad,sy p.dp]
noncomputable def qC(w:gd):PyData:=.tuple [.int w.a,.int w.b,.int w.day]
noncomputable def qD(g:Nat×Rat):PyData:=.tuple [.int g.1,qr g.2]
noncomputable def sC(w:fJ):PyData:=.tuple [.int w.jv,.int w.day,.tuple (w.e9.map qD)]
theorem uW{α:Type}{d:α->PyData}(h:∀a,PyData.eqv (d a) (d a)=true):∀l:List α,PyData.eqvAll (l.map d) (l.map d)=true
 |[]=>rfl
 |a::r=>by
  refine(?_:(PyData.eqv (d a) (d a)&&PyData.eqvAll _ _)=true)
  rw[h a,uW h r];rfl
theorem nO(i:Int):PyData.eqv (.int i) (.int i)=true:=beq_self_eq_true i
theorem Hs(l:List Nat):PyData.eqv (nN l) (nN l)=true:=G4 l
theorem Sy(a:Option (Int×List Nat)):PyData.eqv (sA a) (sA a)=true:=by
 cases a with
 |none=>rfl
 |some a=>
  refine(?_:(PyData.eqv (.int a.1) (.int a.1)&&(PyData.eqv (nN a.2) (nN a.2)&&true))=true)
  rw[nO,Hs];rfl
theorem Sz(a:Option Int):PyData.eqv (sy a) (sy a)=true:=by
 cases a with
 |none=>rfl
 |some a=>exact nO a
theorem SA(p:aO):PyData.eqv (sB p) (sB p)=true:=by
 refine(?_:(PyData.eqv (.int p.bH) (.int p.bH)&&(PyData.eqv (nN p.bL) (nN p.bL)&&(PyData.eqv (sA p.ad) (sA p.ad)&&(PyData.eqv (sy p.dp) (sy p.dp)&&true))))=true)
 rw[nO,Hs,Sy,Sz];rfl
theorem SD(w:gd):PyData.eqv (qC w) (qC w)=true:=by
 refine(?_:(PyData.eqv (.int w.a) (.int w.a)&&(PyData.eqv (.int w.b) (.int w.b)&&(PyData.eqv (.int w.day) (.int w.day)&&true)))=true)
 rw[nO,nO,nO];rfl
theorem SE(g:Nat×Rat):PyData.eqv (qD g) (qD g)=true:=by
 refine(?_:(PyData.eqv (.int g.1) (.int g.1)&&(PyData.eqv (qr g.2) (qr g.2)&&true))=true)
 rw[nO,Rv];rfl
theorem SF(w:fJ):PyData.eqv (sC w) (sC w)=true:=by
 refine(?_:(PyData.eqv (.int w.jv) (.int w.jv)&&(PyData.eqv (.int w.day) (.int w.day)&&(PyData.eqvAll (w.e9.map qD) (w.e9.map qD)&&true)))=true)
 rw[nO,nO,uW SE];rfl
section
variable{n:Nat}{l lm lw l' cq cy:Nat}{H:Hp}{Q:PQ}
theorem Ht(ls:List Nat)(m:Nat):rd H (m+1) (.aP (bb ls))=some (nN ls):=congrArg (Option.map PyData.tuple) (iS m ls)
theorem SG(p:aO):rd H 8 (bO p)=some (sB p):=by
 refine congrArg (Option.map PyData.tuple) (gI (oF _ _) (gI (Ht _ _) (gI (d:=sA p.ad) ?_ (gI (d:=sy p.dp) ?_ rfl))))
 ·cases p.ad with
  |none=>rfl
  |some a=>exact congrArg (Option.map PyData.tuple) (gI (oF _ _) (gI (Ht _ _) rfl))
 ·cases p.dp<;>rfl
theorem SH(w:gd):rd H 8 (iT w)=some (qC w):=rfl
theorem SJ(g:Nat×Rat):rd H 6 (mF g)=some (qD g):=congrArg (Option.map PyData.tuple) (gI (oF _ _) (gI (AX _ _) rfl))
theorem SK(gs:List (Nat×Rat)):rd H 7 (kG gs)=some (.tuple (gs.map qD)):=congrArg (Option.map PyData.tuple) (qA SJ gs)
theorem SM(w:fJ):rd H 8 (jQ w)=some (sC w):=congrArg (Option.map PyData.tuple) (gI (oF _ _) (gI (oF _ _) (gI (SK w.e9) rfl)))
noncomputable def SN(r:c7):PyData:=.tuple [.list (r.ps.map sB),.list (r.ms.map qC),.list (r.ws.map sC)]
theorem Hu{r:c7}(h:fP H r l lm lw):rd H 10 (.aP [.ref l,.ref lm,.ref lw])=some (SN r):=h _ λa b c=>congrArg (Option.map PyData.tuple) (gI (oP a (qA SG _)) (gI (oP b (qA SH _)) (gI (oP c (qA SM _)) rfl)))
theorem SO{r:c7}(h:fP H r l lm lw)(h':fP H r l' cq cy):fT .eq (.aP [.ref l,.ref lm,.ref lw]) (.aP [.ref l',.ref cq,.ref cy]) H=some true:=by
 refine(?_:(rd H 10 _).bind (λd=>(rd H 10 _).map λe=>PyData.eqv d e)=_)
 rw[Hu h,Hu h']
 refine(?_:some (PyData.eqvAll (r.ps.map sB) (r.ps.map sB)&&(PyData.eqvAll (r.ms.map qC) (r.ms.map qC)&&(PyData.eqvAll (r.ws.map sC) (r.ws.map sC)&&true)))=_)
 rw[uW SA,uW SD,uW SF];rfl
theorem SQ{b:Nat}(hb:0<b)(fZ:b<=20)(q:∀r l lm lw H',gx r->0<r.ps.length->r.ms.length<=1000->r.ws.length<=1000->fP H' r l lm lw->aI H H'->Q (.aP [.ref l,.ref lm,.ref lw]) H'):aM (n+4) vg [.g7,nv b] H Q:=Qf (by
 refine bB (nD (k:=0) ?_)
 have nC:=qx (X.is.getD 0 0) (b:=(b:Int)) (ofNat_lt.mpr hb)
 have hm:∃m:Nat,1+(X.is.getD 0 0).fmod b=(m:Int)/\0<m/\m<=20:=uO _ hb fZ
 refine hm.elim λm hm=>?_
 refine aQ (v:=nv b) rfl (dB (iH (b:=(b:Int)) (Int.ne_of_gt (ofNat_lt.mpr hb))) (dB (congrArg some hm.1) ?_))
 refine bB (nD (k:=1) ?_)
 refine bB (RP (n:=n+1) hm.2.2 λlp H₁ ps hl hW uU ζ SU=>?_)
 refine bB (nD (k:=2) ?_)
 refine bB (RW (n:=n+1) SU hW (hl▸hm.2.2) λla H₂ fg iP Hv cf ζ jN=>?_)
 have h0:0<fg.length:=by rw[iP,hl];exact hm.2.1
 refine bB (nD (k:=3) ?_)
 refine bB (nD (k:=0) ?_)
 have uc:=jy ((X.is.getD 0 0).fdiv 12) (k:=13) (by decide)
 refine uc.elim λm1 qa=>?_
 refine bG (dB (sj (b:=12) (by decide)) (bG (dB ((iH (b:=13) (by decide)).trans (congrArg some qa.1)) ?_)))
 refine bB (Sa (n:=n) jN h0 (le_trans (le_of_lt qa.2) (by decide)) λlm H₃ ms SV gJ co ζ uF=>?_)
 refine bB (nD (k:=4) ?_)
 refine bB (nD (k:=0) ?_)
 have h9:=jy ((X.is.getD 0 0).fdiv 156) (k:=9) (by decide)
 refine h9.elim λm2 ku=>?_
 refine bG (dB (sj (b:=156) (by decide)) (bG (dB ((iH (b:=9) (by decide)).trans (congrArg some ku.1)) ?_)))
 refine bB (Sg (n:=n+1) Hv (co _ _ jN) h0 (le_trans (le_of_lt ku.2) (by decide)) λlw H₄ ws SW dK dX ζ nJ=>?_)
 exact q ⟨fg,ms,ws⟩ la lm lw H₄ (.mk Hv (by refine(?_:fg.length<=20);rw[iP,hl];exact hm.2.2) SV SW) h0 (le_trans gJ (le_trans (le_of_lt qa.2) (by decide))) (le_trans dK (le_trans (le_of_lt ku.2) (by decide))) (.mk ((co.trans dX) _ _ jN) (dX _ _ uF) nJ) (uU.trans (cf.trans (co.trans dX))))
end
section
variable{n:Nat}{l lm lw:Nat}{H:Hp}{Q:PQ}
noncomputable abbrev SX:S:=.aX (.U 2) (.aP [(.listOf (.aU (.U 1) (.k (.int 0)))),(.listOf (.aU (.U 1) (.k (.int 1)))),(.listOf (.aU (.U 1) (.k (.int 2))))])
noncomputable abbrev cM(l lm lw:Nat):V:=.aP [.ref l,.ref lm,.ref lw]
variable{K:Out->Prop}{rest:List S}{o2 o3 o4 o5 o6:Option V}{r:c7}
theorem l2(ok:gx r)(gJ:r.ms.length<=1000)(dK:r.ws.length<=1000)(at':fP H r l lm lw)(h:∀l' cq cy H',aI H H'->fP H' r l' cq cy->aY (aM n) rest [some .g7,some (cM l lm lw),some (cM l' cq cy),o3,o4,o5] H' K):aY (aM n) (SX::rest) [some .g7,some (cM l lm lw),o2,o3,o4,o5] H K:=at' _ λap am aw=>by
 have hl:r.ps.length<=20:=ok _ λζ h ζ ζ=>h
 apply aG (rP ap)
 refine cK (cO (by rw[length_map];exact lt_of_le_of_lt hl (by decide))) ?_
 apply aG (rP (bz _ am))
 refine cK (cO (by rw[length_map];exact lt_of_le_of_lt gJ (by decide))) ?_
 apply aG (rP (bz _ (bz _ aw)))
 refine cK (cO (by rw[length_map];exact lt_of_le_of_lt dK (by decide))) ?_
 exact h _ _ _ _ ((aI.ba _ _).trans ((aI.ba _ _).trans (aI.ba _ _))) (.mk (bz _ (bz _ (bq _ _))) (bz _ (bq _ _)) (bq _ _))
end
section
variable{C:Cl}{ρ cb:aV}{H:Hp}{Q:PQ}{K:Out->Prop}{r:List S}{t:cV}{e a i E1 E2:E}{v x y:V}{R:Bool->Hp->Prop}
theorem iU{vs:List V}(h:Q (.ref H.length) (H++[.list vs])):jq vs H Q:=h
theorem gy{b c:List S}(h:n7 C e ρ H λt H=>bW t (aY C b ρ H λo=>lD o (λρ H=>aY C r ρ H K) (K o)) (aY C c ρ H λo=>lD o (λρ H=>aY C r ρ H K) (K o))):aY C (.bD e b c::r) ρ H K:=h
theorem uX{op:kJ}(h:WE C a ρ H λx H=>WE C i ρ H λy H=>be (fT op x y H) λt=>R t H):n7 C (.cmp op a i) ρ H R:=h
theorem k4(h:WE C a ρ H λx H=>be (truthy H x) λb=>R b H):n7 C a ρ H R:=h
theorem xE(h:WE C E1 ρ H λx H=>be (truthy H x) λb=>R (!b) H):n7 C (.not E1) ρ H R:=h
theorem sD(h:WE C E1 ρ H λx H=>be (truthy H x) λb=>Q (.bool (!b)) H):WE C (.not E1) ρ H Q:=h
theorem iJ{R:List V×List Nat->Hp->Prop}(h:WE C e ρ H λx H=>be (keysOf H x) λvs=>R (vs,watch x) H):me C (.of e) ρ H R:=h
theorem c5(h:WE C a ρ H λx H=>WE C i ρ H λy H=>be (eQ x y H) λv=>Q v H):WE C (.aU a i) ρ H Q:=h
theorem Bk{op:kJ}(h:WE C a ρ H λx H=>WE C i ρ H λy H=>be (fT op x y H) λt=>bW t (R true H) (R false H)):WT C [.cmp op a i] ρ H R:=h
theorem VT(h:R true H):WT C [] ρ H R:=h
theorem sE(h:WE C a ρ H λx H=>be (truthy H x) λb=>bW b (R true H) (R false H)):WT C [a] ρ H R:=h
theorem gQ(h:K (.next ρ H)):aY C [] ρ H K:=h
theorem k5(h:WE C a ρ H λv H=>K (.ret v H)):aY C (.ret a::r) ρ H K:=h
theorem VU(h:WE C e ρ H λζ H=>aY C r ρ H K):aY C (.expr e::r) ρ H K:=h
theorem cR{op:kJ}(h:WE C E1 ρ H λx H=>WE C E2 ρ H λy H=>be (fT op x y H) λt=>Q (.bool t) H):WE C (.cmp op E1 E2) ρ H Q:=h
theorem mN(h:WE C E1 ρ H λx H=>be (truthy H x) λt=>bW (t==true) (WE C E2 ρ H Q) (Q x H)):WE C (.and [E1,E2]) ρ H Q:=h
theorem VV(h:WE C E1 ρ H λx H=>be (truthy H x) λt=>bW (t==false) (WE C E2 ρ H Q) (Q x H)):WE C (.or [E1,E2]) ρ H Q:=h
theorem sF{f:Nat}{x y:E}(h:WE C x ρ H λu H=>WE C y ρ H λv H=>C f [u,v] H Q):WE C (.call f [x,y]) ρ H Q:=h
theorem hO{f:Nat}{x y z:E}(h:WE C x ρ H λu H=>WE C y ρ H λv H=>WE C z ρ H λw H=>C f [u,v,w] H Q):WE C (.call f [x,y,z]) ρ H Q:=h
theorem qE{j l:Nat}{vs:List V}(hj:ρ[j]?.join=some (.ref l))(h:H[l]?=some (.list vs))(q:Q (.int vs.length) H):WE C (.bi .len [.U j]) ρ H Q:=aG hj (aG (cN h) q)
theorem SY{j c:Nat}{b:Bool}(hv:ρ[j]?.join=some (nv c))(h:Q (sv (c,b)) H):WE C (.aP [.U j,.k (.bool b)]) ρ H Q:=aG hv h
theorem SZ{l j m:Nat}{vs:List V}(hj:ρ[j]?.join=some (.ref l))(hm:ρ[m]?.join=some v)(h:H[l]?=some (.list vs))(hs:vs.length<16000000)(k:aY C r ρ (H.set l (.list (vs++[v]))) K):aY C (.expr (.dP .append (.U j) [.U m])::r) ρ H K:=aG hj (jd h (aG hm (je h hs k)))
end
theorem VW(m:Nat):(List.range m).map nv=(range' 0 m).map nv:=by rw[List.range_eq_range']
theorem S4{m:Nat}{f:List V->Prop}(h:m<1000000)(k:f ((range' 1 m).map nv)):q0 (.int 1) (.int ((m:Int)+1)) f:=by
 refine⟨⟨by decide,lt_trans (show((m:Int)+1).natAbs<1000001 by lia) (by decide)⟩,?_⟩
 have e:g9 1 ((m:Int)+1)=(range' 1 m).map nv:=by
  unfold g9
  rw[show((m:Int)+1 - 1).toNat=m by lia,List.range'_eq_map_range,map_map]
  rfl
 rw[e];exact k
section
variable{n:Nat}{l k:Nat}{H:Hp}{Q:PQ}
theorem sG{d:Int}{ps:List aO}{p:aO}(hA:H[l]?=some (.list (ps.map bO)))(hp:ps[k]?=some p)(q:Q (.aP (bb (dq p d))) H):aM (n+1) j0 [.ref l,nv k,.int d] H Q:=P5 (by
 have q:Q (.aP (bb (match p.ad with|none=>p.bL|some a=>if a.1<=d then a.2 else p.bL))) H:=q
 have ix:=fI hA hp
 unfold bO at ix
 apply aG ix
 cases ha:p.ad with
 |none=>
  rw[ha] at q ix
  apply aG ix
  exact q
 |some a=>
  rw[ha] at q ix
  apply aG ix
  refine(?_:bW (decide (a.1<=d)) _ _)
  refine wN (λh=>?_) λh=>?_
  ·rw[show(match(some a:Option (Int×List Nat)) with|none=>p.bL|some a=>if a.1<=d then a.2 else p.bL)=a.2 from if_pos h] at q
   apply aG ix
   exact q
  ·rw[show(match(some a:Option (Int×List Nat)) with|none=>p.bL|some a=>if a.1<=d then a.2 else p.bL)=p.bL from if_neg h] at q
   apply aG ix
   exact q)
theorem xF{d:Int}{ps:List aO}(hA:H[l]?=some (.list (ps.map bO)))(hl:ps.length<=20)(q:∀lc H',H.length<=lc->aI H H'->H'[lc]?=some (.list (bb (kids ps d k)))->Q (.ref lc) H'):aM (n+2) m0 [.ref l,nv k,.int d] H Q:=P6 (F2 (λa b q=>sG a b q) hA hl q)
end
noncomputable def fQ(ps:List aO)(d:Int):List Nat->Bool
 |a::b::r=>decide (b∈kids ps d a)&&fQ ps d (b::r)
 |_=>true
theorem S5{m:Nat}{f:List V->Prop}(h:m<1000000)(k:f ((range' 1 (m - 1)).map nv)):q0 (.int 1) (.int (m:Int)) f:=by
 refine⟨⟨by decide,lt_trans (show(m:Int).natAbs<1000000 from h) (by decide)⟩,?_⟩
 have e:g9 1 (m:Int)=(range' 1 (m - 1)).map nv:=by
  unfold g9
  rw[show((m:Int) - 1).toNat=m - 1 from Int.toNat_sub m 1,List.range'_eq_map_range,map_map]
  rfl
 rw[e];exact k
noncomputable def Bl(tot:Bool)(ps:List aO)(d:Int)(ln:List Nat)(l ll:Nat)(H:Hp)(as:List Nat)(ρ:aV)(H':Hp):Prop:=∀SdIζ:Prop,(∀(o3:Option V) (i m:Nat) (e:ρ=[some (.ref l),some (.ref ll),some (.int d),o3]) (ea:as=range' (i+1) m) (ik:i+1+m=ln.length) (x:aI H H') (t:fQ ps d (ln.drop i)=tot),SdIζ)->SdIζ
theorem Bl.mk{tot:Bool}{ps:List aO}{d:Int}{ln:List Nat}{l ll:Nat}{H:Hp}{as:List Nat}{ρ:aV}{H':Hp}(o3:Option V)(i m:Nat)(e:ρ=[some (.ref l),some (.ref ll),some (.int d),o3])(ea:as=range' (i+1) m)(ik:i+1+m=ln.length)(x:aI H H')(t:fQ ps d (ln.drop i)=tot):Bl tot ps d ln l ll H as ρ H':=λζ bw=>bw o3 i m e ea ik x t
section
variable{n:Nat}{H:Hp}{Q:PQ}{K:Out->Prop}{rest:List S}{d:Int}{ps:List aO}{l ll i a b:Nat}{ln:List Nat}
noncomputable abbrev S6:S:=.bD (.cmp .fR (.aU (.U 1) (.U 3)) (.call m0 [.U 0,(.aU (.U 1) (.bin .sub (.U 3) (.k (.int 1)))),.U 2]))
   [.ret (.k (.bool false))]
   []
theorem S7(hl:ps.length<=20)(hA:H[l]?=some (.list (ps.map bO)))(hL:H[ll]?=some (.list (bb ln)))(ha:ln[i]?=some a)(hb:ln[i+1]?=some b)(q1:b∈kids ps d a->∀H',aI H H'->aY (aM (n+2)) rest [some (.ref l),some (.ref ll),some (.int d),some (nv (i+1))] H' K)(q2:b∉kids ps d a->∀H',aI H H'->K (.ret (.bool false) H')):aY (aM (n+2)) (S6::rest) [some (.ref l),some (.ref ll),some (.int d),some (nv (i+1))] H K:=by
 have ia:eQ (.ref ll) (.int ((((i+1:Nat):Int)) - 1)) H=some (nv a):=by
  rw[show((((i+1:Nat):Int)) - 1)=((i:Nat):Int) from Int.add_sub_cancel (i:Int) 1]
  exact gu hL (by rw[getElem?_map,ha];rfl)
 refine gy (uX (c5 (aQ rfl (aQ rfl (aG (gu hL (by rw[getElem?_map,hb];rfl)) (hO (aQ rfl (c5 (aQ rfl (dH (aQ rfl (bG (dB rfl (aG ia (aQ rfl (bB (xF (n:=n) hA hl λlc H₁ ζ x ac=>aG (uQ ac) ?_)))))))))))))))))
 refine da (λh=>k5 (bG (q2 (of_decide_eq_false ((not_eq_true' _).mp h)) _ x))) λh=>gQ (q1 (of_decide_eq_true ((Bool.not_eq_false' ..).mp h)) _ x)
theorem Bm(hl:ps.length<=20)(hA:H[l]?=some (.list (ps.map bO)))(hL:H[ll]?=some (.list (bb ln)))(h1:0<ln.length)(h2:ln.length<=1000)(q:∀H',aI H H'->Q (.bool (fQ ps d ln)) H'):aM (n+3) l5 [.ref l,.ref ll,.int d] H Q:=Qh (by
 unfold yA
 refine k3 (qw (bG (qE rfl hL ?_)))
 rw[length_map]
 refine S5 (by omega) ?_
 refine d9 (Bl (fQ ps d ln) ps d ln l ll H) (λc as ρ H' hI=>?_) (λρ H' hI=>?_) _ _ _ (.mk none 0 (ln.length - 1) rfl rfl (by rw[zero_add];exact add_sub_cancel' h1) (aI.refl _) (by rw[drop_zero]))
 ·refine hI _ λo3 i m e ea ik x t=>?_
  subst e
  cases m with
  |zero=>cases ea
  |succ m=>
   have ec:c=i+1:=(List.cons.inj ea).1
   have eas:as=range' (i+1+1) m:=(List.cons.inj ea).2
   subst ec
   refine aG rfl λN hN=>?_
   have hi:i<ln.length:=ik▸lt_of_lt_of_le (lt_succ_self i) (le_add_right _ _)
   have mi:i+1<ln.length:=ik▸Nat.lt_add_of_pos_right (succ_pos m)
   rw[drop_eq_getElem_cons hi,drop_eq_getElem_cons mi] at t
   have t:(decide (ln[i+1]∈kids ps d ln[i])&&fQ ps d (ln[i+1]::ln.drop (i+1+1)))=fQ ps d ln:=t
   rw[<-drop_eq_getElem_cons mi] at t
   refine S7 hl (x _ _ hA) (x _ _ hL) (getElem?_eq_getElem hi) (getElem?_eq_getElem mi) (λh H₁ x1=>gQ (hN _ _ rfl (.mk _ (i+1) m rfl eas ((add_right_comm _ _ _).trans ik) (x.trans x1) (by rw[decide_eq_true h] at t;exact t)))) λh H₁ x1=>?_
   have:=q H₁ (x.trans x1)
   rw[<-t,decide_eq_false h] at this
   exact this
 ·refine hI _ λo3 i m e ea ik x t=>?_
  subst e
  cases m with
  |zero=>
   have hi:i<ln.length:=ik▸lt_succ_self i
   rw[drop_eq_getElem_cons hi,drop_eq_nil_iff.mpr (le_of_eq ik.symm)] at t
   have:=q H' x
   rw[<-t] at this
   exact this
  |succ m=>cases ea)
end
section
variable{ps:List aO}{d:Int}
theorem Bn:∀{f c:Nat},bV ps d f c=true->bV ps d (f+1) c=true
 |0,_,h=>absurd h Bool.false_ne_true
 |f+1,c,h=>by
  have h:(lv ps d c||(kids ps d c).any (bV ps d f))=true:=h
  refine(?_:(lv ps d c||(kids ps d c).any (bV ps d (f+1)))=true)
  refine or_eq_true_iff.mpr ((or_eq_true_iff.mp h).imp id λh=>?_)
  obtain⟨o,ho,hl⟩:=any_eq_true.mp h
  exact any_eq_true.mpr ⟨o,ho,Bn hl⟩
theorem Hw{f g c:Nat}(h:bV ps d f c=true)(e:f<=g):bV ps d g c=true:=by
 induction e with
 |refl=>exact h
 |step _ ih=>exact Bn ih
theorem Hx(hW:cw ps):∀{f c:Nat} {p:aO},ps[c]?=some p->bV ps d f c=true->bV ps d (ee ps p.bH+1) c=true
 |0,_,_,_,h=>absurd h Bool.false_ne_true
 |f+1,c,p,hp,h=>by
  have h:(lv ps d c||(kids ps d c).any (bV ps d f))=true:=h
  refine(?_:(lv ps d c||(kids ps d c).any (bV ps d (ee ps p.bH)))=true)
  refine or_eq_true_iff.mpr ((or_eq_true_iff.mp h).imp id λh=>?_)
  obtain⟨o,ho,hl⟩:=any_eq_true.mp h
  exact nF hW hp ho λq hq ζ hy=>any_eq_true.mpr ⟨o,ho,Hw (Hx hW hq hl) hy⟩
theorem xG(hW:cw ps):∀{f c:Nat},bV ps d f c=true->c<ps.length
 |0,_,h=>absurd h Bool.false_ne_true
 |f+1,c,h=>by
  have h:(lv ps d c||(kids ps d c).any (bV ps d f))=true:=h
  rcases or_eq_true_iff.mp h with h|h
  ·unfold lv at h
   cases hp:ps[c]? with
   |none=>rw[hp] at h;cases h
   |some p=>exact(List.getElem?_eq_some_iff.mp hp).1
  ·obtain⟨o,ho,_⟩:=any_eq_true.mp h
   exact Am (mem_filter.mp ho).2 λq hq hm=>(mC hW hq d c hm).elim λq2 h2=>(List.getElem?_eq_some_iff.mp h2.1).1
theorem xI(hW:cw ps){f c:Nat}(h:bV ps d f c=true){g:Nat}(hg:ps.length<=g):bV ps d g c=true:=
 (at_of (xG hW h)).elim λp hp=>Hw (Hx hW hp h) (le_trans (nE (mem_of_getElem? hp)) hg)
theorem Hy{f c o:Nat}(h:bV ps d f o=true)(hc:ie ps d c o=true)(ho:o<ps.length):bV ps d (f+1) c=true:=or_eq_true_iff.mpr (.inr (any_eq_true.mpr ⟨o,mem_filter.mpr ⟨mem_range.mpr ho,hc⟩,h⟩))
end
noncomputable abbrev Ks:=List (Nat×Unit)
noncomputable abbrev TU(_:Unit)(_:V):Prop:=True
noncomputable def fK(N:Nat)(H:Hp)(ld:Nat)(ks:Ks):Prop:=∀KsAtζ:Prop,(∀(ep:Nat) (es:List (Int×V)) (a:H[ld]?=some (.dict ep es)) (dc:cL hz TU ks es) (nd:(ks.map (·.1)).Nodup) (rg:∀c∈ks.map (·.1),c<N),KsAtζ)->KsAtζ
theorem fK.mk{N:Nat}{H:Hp}{ld:Nat}{ks:Ks}(ep:Nat)(es:List (Int×V))(a:H[ld]?=some (.dict ep es))(dc:cL hz TU ks es)(nd:(ks.map (·.1)).Nodup)(rg:∀c∈ks.map (·.1),c<N):fK N H ld ks:=λζ bw=>bw ep es a dc nd rg
theorem S8{A B:Type}[DecidableEq A]{ws:List (A×B)}{a:A}{b:B}(h:(ws.map (·.1)).Nodup):((fk ws a b).map (·.1)).Nodup:=by
 rw[nG]
 split
 ·exact h
 ·rename_i hs
  exact nodup_append.mpr ⟨h,nodup_cons.mpr ⟨not_mem_nil,nodup_nil⟩,λx hx y hy e=>hs (iE.mpr (by rw[mem_singleton.mp hy] at e;exact e▸hx))⟩
theorem qF{A B:Type}[DecidableEq A]{f:List (A×B)}{a c:A}{b:B}:c∈(fk f a b).map (·.1)↔c=a\/c∈f.map (·.1):=by
 rw[nG]
 split
 ·rename_i ha
  exact⟨.inr,λh=>h.elim (λe=>e▸iE.mp ha) id⟩
 ·rw[mem_append,mem_singleton];exact Or.comm
theorem fK.ext{N:Nat}{H H':Hp}{ld:Nat}{ks:Ks}(h:fK N H ld ks)(x:aI H H'):fK N H' ld ks:=h _ λep es a dc nd rg=>(.mk ep es (x _ _ a) dc nd rg)
section
variable{C:Cl}{ρ:aV}{H:Hp}{K:Out->Prop}{rest:List S}{N ld j m c:Nat}{ks:Ks}
theorem S9{Q:PQ}(q:Q (.ref H.length) (H++[.dict 0 []])):WE C .mX ρ H Q:=q
theorem Hz(hN:N<=1000)(h:fK N H ld ks)(hj:ρ[j]?.join=some (.ref ld))(hm:ρ[m]?.join=some (nv c))(hc:c<N)(q:∀H',br ld H H'->fK N H' ld (fk ks c ())->aY C rest ρ H' K):aY C (.g8 (.U j) (.U m) (.k (.bool true))::rest) ρ H K:=h _ λep es a dc nd rg=>by
 have hl:ks.length<=N:=by rw[<-length_map (f:=(·.1))];exact ql N _ nd rg
 exact Hm (bG (aQ hj (aQ hm (AI a (by rw[dA.len dc];lia) λep=>q _ (br.set _ _ _) (.mk ep _ (f9 a _) (cL.put nK dc trivial) (S8 nd) (λx hx=>(qF.mp hx).elim (λe=>e▸hc) (rg x)))))))
end
noncomputable def Bo(ps:List aO)(d:Int)(l ld:Nat)(H:Hp)(as:List Nat)(ρ:aV)(H':Hp):Prop:=∀LaIζ:Prop,(∀(o3 o4 o5:Option V) (ks:Ks) (e:ρ=[some (.ref l),some (.int d),some (.ref ld),o3,o4,o5]) (x:aI H H') (a:fK ps.length H' ld ks) (s1:∀c∈ks.map (·.1),lv ps d c=true) (s2:∀c,lv ps d c=true->c∈as\/c∈ks.map (·.1)) (rg:∀c∈as,c<ps.length),LaIζ)->LaIζ
theorem Bo.mk{ps:List aO}{d:Int}{l ld:Nat}{H:Hp}{as:List Nat}{ρ:aV}{H':Hp}(o3 o4 o5:Option V)(ks:Ks)(e:ρ=[some (.ref l),some (.int d),some (.ref ld),o3,o4,o5])(x:aI H H')(a:fK ps.length H' ld ks)(s1:∀c∈ks.map (·.1),lv ps d c=true)(s2:∀c,lv ps d c=true->c∈as\/c∈ks.map (·.1))(rg:∀c∈as,c<ps.length):Bo ps d l ld H as ρ H':=λζ bw=>bw o3 o4 o5 ks e x a s1 s2 rg
noncomputable def Bp(ps:List aO)(d:Int)(jz:Ks)(bL:List Nat)(l ld:Nat)(x3 x4:Option V)(H:Hp)(as:List Nat)(ρ:aV)(H':Hp):Prop:=∀LbIζ:Prop,(∀(o5:Option V) (ks:Ks) (e:ρ=[some (.ref l),some (.int d),some (.ref ld),x3,x4,o5]) (x:br ld H H') (a:fK ps.length H' ld ks) (s1:∀c,c∈ks.map (·.1)->c∈jz.map (·.1)\/c∈bL) (s2:∀c,c∈jz.map (·.1)\/c∈bL->c∈as\/c∈ks.map (·.1)) (rg:∀c∈as,c∈bL),LbIζ)->LbIζ
theorem Bp.mk{ps:List aO}{d:Int}{jz:Ks}{bL:List Nat}{l ld:Nat}{x3 x4:Option V}{H:Hp}{as:List Nat}{ρ:aV}{H':Hp}(o5:Option V)(ks:Ks)(e:ρ=[some (.ref l),some (.int d),some (.ref ld),x3,x4,o5])(x:br ld H H')(a:fK ps.length H' ld ks)(s1:∀c,c∈ks.map (·.1)->c∈jz.map (·.1)\/c∈bL)(s2:∀c,c∈jz.map (·.1)\/c∈bL->c∈as\/c∈ks.map (·.1))(rg:∀c∈as,c∈bL):Bp ps d jz bL l ld x3 x4 H as ρ H':=λζ bw=>bw o5 ks e x a s1 s2 rg
section
variable{n:Nat}{H:Hp}{Q:PQ}{K:Out->Prop}{rest:List S}{d:Int}{ps:List aO}{l ld o:Nat}{ks:Ks}{x4 o5:Option V}
noncomputable abbrev VX:S:=.bD (.call iO [.U 0,.U 3,.U 1]) [.g8 (.U 2) (.U 3) (.k (.bool true))] []
noncomputable abbrev Ta:S:=.for (.U 5) (.of (.call j0 [.U 0,.U 3,.U 1])) [.g8 (.U 2) (.U 5) (.k (.bool true))]
noncomputable abbrev HA:S:=.bD (.cmp .le (.aU (.aU (.U 0) (.U 3)) (.k (.int 0))) (.U 1)) [Ta] []
theorem Tb{p:aO}(hW:cw ps)(hl:ps.length<=20)(hA:H[l]?=some (.list (ps.map bO)))(hp:ps[o]?=some p)(b8:l≠ld)(hk:fK ps.length H ld ks)(q:∀jA o5 H',br ld H H'->fK ps.length H' ld jA->(∀c,c∈jA.map (·.1)↔c∈ks.map (·.1)\/ie ps d c o=true)->aY (aM (n+1)) rest [some (.ref l),some (.int d),some (.ref ld),some (nv o),x4,o5] H' K):aY (aM (n+1)) (HA::rest) [some (.ref l),some (.int d),some (.ref ld),some (nv o),x4,o5] H K:=by
 have hc:∀c,ie ps d c o=(decide (p.bH<=d)&&decide (c∈dq p d)):=λc=>by unfold ie;rw[hp]
 have ix:=fI hA hp
 refine gy (uX (c5 (c5 (aQ rfl (aQ rfl (aG ix (bG (aG (a:=.int p.bH) rfl (aQ rfl (aG (a:=decide (p.bH<=d)) rfl ?_))))))))))
 refine wN (λhb=>?_) λhb=>gQ (q ks _ H (br.refl _ _) hk λc=>⟨.inl,λh=>h.elim id λh=>by rw[hc,decide_eq_false hb] at h;cases h⟩)
 have h2:=uz hW hp d
 have Tc:∀c∈dq p d,c<ps.length:=λc hc=>(mC hW hp d c hc).elim λq hq=>(List.getElem?_eq_some_iff.mp hq.1).1
 refine k3 (iJ (hO (aQ rfl (aQ rfl (aQ rfl (bB (sG hA hp (aG (a:=bb (dq p d)) rfl ?_))))))))
 refine d9 (Bp ps d ks (dq p d) l ld (some (nv o)) x4 H) (λc as ρ H' hI=>?_) (λρ H' hI=>?_) _ _ _ (.mk _ ks rfl (br.refl _ _) hk (λc h=>.inl h) (λc h=>h.elim .inr .inl) (λc h=>h))
 ·refine hI _ λo5 jA e x a s1 s2 rg=>?_
  subst e
  refine aG rfl λN hN=>?_
  refine Hz (by lia) a rfl rfl (Tc c (rg c mem_cons_self)) λH₁ x1 a1=>gQ (hN _ _ rfl (.mk _ _ rfl (x.trans x1) a1 (λc' h=>(qF.mp h).elim (λe=>.inr (e▸rg c mem_cons_self)) (s1 c')) (λc' h=>(s2 c' h).elim (λh=>(mem_cons.mp h).elim (λe=>.inr (qF.mpr (.inl e))) .inl) λh=>.inr (qF.mpr (.inr h))) (λc h=>rg c (.tail _ h))))
 ·refine hI _ λo5 jA e x a s1 s2 rg=>?_
  subst e
  refine q jA _ H' x a λc=>⟨λh=>(s1 c h).imp id λh=>?_,λh=>(s2 c (h.imp id λh=>?_)).elim (λh=>nomatch h) id⟩
  ·rw[hc,decide_eq_true hb,decide_eq_true h];rfl
  ·rw[hc,decide_eq_true hb] at h;exact of_decide_eq_true h
noncomputable def Bq(ps:List aO)(d:Int)(jz:Ks)(l ld:Nat)(x4:Option V)(H:Hp)(as:List Nat)(ρ:aV)(H':Hp):Prop:=∀LcIζ:Prop,(∀(o3 o5:Option V) (ks:Ks) (e:ρ=[some (.ref l),some (.int d),some (.ref ld),o3,x4,o5]) (x:br ld H H') (a:fK ps.length H' ld ks) (s0:∀c∈jz.map (·.1),c∈ks.map (·.1)) (s1:∀c∈ks.map (·.1),bV ps d 20 c=true) (s2:∀o∈jz.map (·.1),o∈as\/∀c,ie ps d c o=true->c∈ks.map (·.1)) (rg:∀c∈as,c∈jz.map (·.1)),LcIζ)->LcIζ
theorem Bq.mk{ps:List aO}{d:Int}{jz:Ks}{l ld:Nat}{x4:Option V}{H:Hp}{as:List Nat}{ρ:aV}{H':Hp}(o3 o5:Option V)(ks:Ks)(e:ρ=[some (.ref l),some (.int d),some (.ref ld),o3,x4,o5])(x:br ld H H')(a:fK ps.length H' ld ks)(s0:∀c∈jz.map (·.1),c∈ks.map (·.1))(s1:∀c∈ks.map (·.1),bV ps d 20 c=true)(s2:∀o∈jz.map (·.1),o∈as\/∀c,ie ps d c o=true->c∈ks.map (·.1))(rg:∀c∈as,c∈jz.map (·.1)):Bq ps d jz l ld x4 H as ρ H':=λζ bw=>bw o3 o5 ks e x a s0 s1 s2 rg
noncomputable def Br(ps:List aO)(d:Int)(l ld:Nat)(H:Hp)(as:List Nat)(ρ:aV)(H':Hp):Prop:=∀LdIζ:Prop,(∀(o3 o4 o5:Option V) (t:Nat) (ks:Ks) (e:ρ=[some (.ref l),some (.int d),some (.ref ld),o3,o4,o5]) (x:br ld H H') (a:fK ps.length H' ld ks) (s1:∀c∈ks.map (·.1),bV ps d 20 c=true) (s2:∀c,bV ps d (t+1) c=true->c∈ks.map (·.1)) (len:t+as.length=ps.length),LdIζ)->LdIζ
theorem Br.mk{ps:List aO}{d:Int}{l ld:Nat}{H:Hp}{as:List Nat}{ρ:aV}{H':Hp}(o3 o4 o5:Option V)(t:Nat)(ks:Ks)(e:ρ=[some (.ref l),some (.int d),some (.ref ld),o3,o4,o5])(x:br ld H H')(a:fK ps.length H' ld ks)(s1:∀c∈ks.map (·.1),bV ps d 20 c=true)(s2:∀c,bV ps d (t+1) c=true->c∈ks.map (·.1))(len:t+as.length=ps.length):Br ps d l ld H as ρ H':=λζ bw=>bw o3 o4 o5 t ks e x a s1 s2 len
noncomputable abbrev Td:S:=.for (.U 3) (.of (.listOf (.U 2))) [HA]
theorem Te{o3:Option V}(hW:cw ps)(hl:ps.length<=20)(hA:H[l]?=some (.list (ps.map bO)))(b8:l≠ld)(hk:fK ps.length H ld ks)(s1:∀c∈ks.map (·.1),bV ps d 20 c=true)(q:∀jA o3 o5 H',br ld H H'->fK ps.length H' ld jA->(∀c∈jA.map (·.1),bV ps d 20 c=true)->(∀c∈ks.map (·.1),c∈jA.map (·.1))->(∀o∈ks.map (·.1),∀c,ie ps d c o=true->c∈jA.map (·.1))->aY (aM (n+1)) rest [some (.ref l),some (.int d),some (.ref ld),o3,x4,o5] H' K):aY (aM (n+1)) (Td::rest) [some (.ref l),some (.int d),some (.ref ld),o3,x4,o5] H K:=by
 refine hk _ λep es a dc nd rg=>?_
 have du:ks.length<=20:=by rw[<-length_map (f:=(·.1))];exact le_trans (ql _ _ nd rg) hl
 have x0:=br.ba ld H [bc.list (bb (ks.map (·.1)))]
 have a0:=bq H (.list (bb (ks.map (·.1))))
 have Tf:H.length≠ld:=ne_of_gt (cT a)
 refine k3 (iJ (aG (GD a) ?_))
 rw[dc.keys (g:=V.int)]
 refine cK (cO (by rw[length_map,length_map];lia)) (aG (dz a0) ?_)
 refine d9 (g:=nv) (Bq ps d ks l ld x4 (H++[bc.list (bb (ks.map (·.1)))])) (λo as ρ H' hI=>?_) (λρ H' hI=>?_) _ _ _ (.mk _ _ ks rfl (br.refl _ _) (hk.ext (aI.ba _ _)) (λc h=>h) s1 (λo h=>.inl h) (λc h=>h))
 ·refine hI _ λo3 o5 jA e x a' s0 s1 s2 Bs=>?_
  subst e
  refine aG rfl λN hN=>?_
  have ho:=Bs o mem_cons_self
  refine(at_of (rg o ho)).elim λp hp=>?_
  refine Tb hW hl (x _ _ b8 (bz _ hA)) hp b8 a' λTg o5 H₁ x1 a1 m1=>gQ (hN _ _ (dr a0 ((x.trans x1) _ _ Tf a0)) (.mk _ _ Tg rfl (x.trans x1) a1 (λc h=>(m1 c).mpr (.inl (s0 c h))) (λc h=>((m1 c).mp h).elim (s1 c) λhc=>xI hW (Hy (s1 o (s0 o ho)) hc (rg o ho)) hl) (λo' h=>(s2 o' h).elim (λh=>(mem_cons.mp h).elim (λe=>.inr λc hc=>(m1 c).mpr (.inr (e▸hc))) .inl) λh=>.inr λc hc=>(m1 c).mpr (.inl (h c hc))) (λc h=>Bs c (.tail _ h))))
 ·refine hI _ λo3 o5 jA e x a' s0 s1 s2 Bs=>?_
  subst e
  exact q jA _ _ H' (x0.trans x) a' s1 s0 λo ho=>(s2 o ho).elim (λh=>nomatch h) id
theorem Th(hW:cw ps)(hl:ps.length<=20)(hA:H[l]?=some (.list (ps.map bO)))(q:∀ld ks H',aI H H'->fK ps.length H' ld ks->(∀c,c∈ks.map (·.1)↔bV ps d 20 c=true)->Q (.ref ld) H'):aM (n+2) ym [.ref l,.int d] H Q:=P7 (by
 unfold yy
 have a0:=bq H (.dict 0 [])
 have b8:l≠H.length:=ne_of_lt (cT hA)
 refine cU (S9 (aG (a:=[some (.ref l),some (.int d),some (.ref H.length),none,none,none]) rfl ?_))
 refine k3 (qw (bG (qE rfl (bz _ hA) ?_)))
 rw[length_map]
 refine mA (lt_of_le_of_lt hl (by decide)) ?_
 refine d9 (Bo ps d l H.length H) (λc as ρ H' hI=>?_) (λρ H' hI=>?_) _ _ _ (.mk none none none [] rfl (aI.ba _ _) (.mk 0 [] a0 .nil nodup_nil (λc h=>nomatch h)) (λc h=>(nomatch h)) (λc h=>.inl (mem_range.mpr (xG (f:=1) hW (by refine(?_:(lv ps d c||_)=true);rw[h];rfl)))) (λc h=>mem_range.mp h))
 ·refine hI _ λo3 o4 o5 ks e x a s1 s2 rg=>?_
  subst e
  refine aG rfl λN hN=>?_
  have hc:=rg c mem_cons_self
  refine(at_of hc).elim λp hp=>?_
  refine gy (hO (aQ rfl (aQ rfl (aQ rfl (bB (oN (x _ _ hA) hp ?_))))))
  refine da (λh=>?_) λh=>gQ (hN _ _ rfl (.mk _ _ _ ks rfl x a s1 (λc' h'=>(s2 c' h').elim (λh2=>(mem_cons.mp h2).elim (λe=>?_) .inl) .inr) (λc h=>rg c (.tail _ h))))
  ·refine Hz (by lia) a rfl rfl hc λH₁ x1 a1=>gQ (hN _ _ rfl (.mk _ _ _ _ rfl (x1.ext x (le_refl _)) a1 (λc' h'=>(qF.mp h').elim (λe=>by rw[e,iB hp];exact h) (s1 c')) (λc' h'=>(s2 c' h').elim (λh2=>(mem_cons.mp h2).elim (λe=>.inr (qF.mpr (.inl e))) .inl) λh2=>.inr (qF.mpr (.inr h2))) (λc h=>rg c (.tail _ h))))
  ·rw[e,iB hp,h] at h';cases h'
 ·refine hI _ λo3 o4 o5 ks e x a s1 s2 rg=>?_
  subst e
  refine k3 (qw (bG (qE rfl (x _ _ hA) ?_)))
  rw[length_map]
  refine mA (lt_of_le_of_lt hl (by decide)) ?_
  refine d9 (Br ps d l H.length H') (λc as ρ H₁ hJ=>?_) (λρ H₁ hJ=>?_) _ _ _ (.mk _ _ _ 0 ks rfl (br.refl _ _) a (λc h=>xI hW (f:=1) (by refine(?_:(lv ps d c||_)=true);rw[s1 c h];rfl) hl) (λc h=>(s2 c ?_).elim (λh=>nomatch h) id) (by rw[length_range];exact zero_add _))
  ·refine hJ _ λo3 o4 o5 t ks e x1 a s1 s2 len=>?_
   subst e
   refine aG rfl λN hN=>?_
   rw[length_cons] at len
   refine Te (n:=n) hW hl (x1 _ _ b8 (x _ _ hA)) b8 a s1 λjA o3 o5 H₂ x2 a2 t1 t0 t2=>gQ (hN _ _ rfl (.mk _ _ _ (t+1) jA rfl (x1.trans x2) a2 t1 (λc h=>?_) (by lia)))
   have h:(lv ps d c||(kids ps d c).any (bV ps d (t+1)))=true:=h
   rcases or_eq_true_iff.mp h with h|h
   ·exact t0 c (s2 c (by refine(?_:(lv ps d c||_)=true);rw[h];rfl))
   ·obtain⟨o,ho,hl⟩:=any_eq_true.mp h
    exact t2 o (s2 o hl) c (mem_filter.mp ho).2
  ·refine hJ _ λo3 o4 o5 t ks e x1 a s1 s2 len=>?_
   subst e
   refine k5 (aQ rfl (q _ ks H₁ (x1.ext x (le_refl _)) a λc=>⟨s1 c,λh=>s2 c (xI hW h ?_)⟩))
   have:t=ps.length:=len
   lia
  ·have h:(lv ps d c||(kids ps d c).any (bV ps d 0))=true:=h
   rcases or_eq_true_iff.mp h with h|h
   ·exact h
   ·obtain⟨o,_,hl⟩:=any_eq_true.mp h
    cases hl)
end
noncomputable def uY(s:St):PyData:=.tuple [.int s.1,.bool s.2]
theorem Bt{H:Hp}{m:Nat}:∀ss:List St,eJ (rd H (m+2)) (ss.map sv)=some (ss.map uY)
 |[]=>rfl
 |s::r=>by
  refine(?_:(match rd H (m+2) (sv s),eJ (rd H (m+2)) (r.map sv) with|some d,some ds=>some (d::ds)|_,_=>none)=_)
  rw[Bt r];rfl
theorem Ti(a b:St):PyData.eqv (uY a) (uY b)=decide (b=a):=by
 refine(?_:(((a.1:Int)==(b.1:Int))&&((a.2==b.2)&&true))=_)
 rw[Bool.and_true]
 by_cases h:b=a
 ·rw[h,beq_self_eq_true,beq_self_eq_true];exact(decide_eq_true rfl).symm
 ·rw[decide_eq_false h,Bool.and_eq_false_iff]
  by_cases h1:a.1=b.1
  ·exact .inr (beq_eq_false_iff_ne.mpr λh2=>h (Prod.ext h1.symm h2.symm))
  ·exact .inl (beq_eq_false_iff_ne.mpr λe=>h1 (ofNat.inj e))
theorem HB(u:St):∀ss:List St,((ss.map uY).any λe=>PyData.eqv e (uY u))=decide (u∈ss)
 |[]=>rfl
 |s::r=>by
  rw[map_cons,any_cons,HB u r,Ti]
  by_cases h:u=s
  ·subst h
   rw[decide_eq_true rfl,decide_eq_true (mem_cons_self (a:=u) (l:=r))];rfl
  ·rw[decide_eq_false h,Bool.false_or]
   exact decide_eq_decide.mpr ⟨λm=>.tail _ m,λm=>(mem_cons.mp m).resolve_left h⟩
section
variable{n:Nat}{H:Hp}{Q:PQ}{K:Out->Prop}{rest:List S}{d:Int}{ps:List aO}{l k lm ls c:Nat}{b:Bool}{us ss:List St}{x3 x4 o8:Option V}
theorem Tj{u:St}(h:H[ls]?=some (.list (ss.map sv))):fT .fR (sv u) (.ref ls) H=some (!decide (u∈ss)):=by
 suffices h':pB H (sv u) (.ref ls)=some (decide (u∈ss)) from congrArg (Option.map (!·)) h'
 refine(?_:(match H[ls]?.bind fS with|some es=>_|none=>_)=_)
 rw[h]
 refine(?_:(match H[ls]?.bind i7 with|some es=>_|none=>(cP H (.ref ls)).bind _)=_)
 rw[h,cN h]
 refine(?_:((eJ (rd H 10) (ss.map sv)).bind λds=>(rd H 10 (sv u)).map λd=>ds.any λe=>PyData.eqv e d)=_)
 rw[Bt]
 exact congrArg some (HB u ss)
theorem HC:∀us:List St,qW (us.map sv)=some (us.map kz)
 |[]=>rfl
 |u::us=>by
  refine(?_:((qW (us.map sv)).map (kz u::·))=_)
  rw[HC us];rfl
theorem Tl{l:Nat}(h:H[l]?=some (.list (us.map sv)))(hr:∀s∈us,s.1<20)(q:∀ss:List St,ss.Nodup->(∀s,s∈ss↔s∈us)->Q (.ref H.length) (H++[.list (ss.map sv)])):vu (.ref l) H Q:=by
 have bk:∀{rs:List (Int×Bool)},(∀q∈rs,q∈us.map kz)->∃ss:List St,rs=ss.map kz:=λ{rs}=>by
  induction rs with
  |nil=>exact λζ=>⟨[],rfl⟩
  |cons r rs ih=>exact λhr=>(ih λq hq=>hr q (.tail _ hq)).elim λss hs=>(mem_map.mp (hr r mem_cons_self)).elim λu hu=>⟨u::ss,by rw[hs,<-hu.2];rfl⟩
 have nd:∀{ss:List St},(ss.map kz).Nodup->ss.Nodup:=λh=>(pairwise_map.mp h).imp λhn e=>hn (congrArg kz e)
 have mm:∀{ss:List St} {s:St},kz s∈ss.map kz->s∈ss:=λh=>(mem_map.mp h).elim λu hu=>oJ _ _ hu.2▸hu.1
 refine aG (show(cP H (.ref l)).bind qW=some (us.map kz) by rw[cN h];exact HC us) ⟨λrs hn hm=>(bk hm).elim λss hs=>?_,λrs hn hm=>(bk λq hq=>(hm q).mp hq).elim λss hs=>?_⟩
 ·rw[hs] at hn hm ⊢
  rw[length_map]
  exact le_trans (oL (n:=20) (nd hn) λs hs=>hr s (mm (hm _ (mem_map.mpr ⟨s,hs,rfl⟩)))) (by decide)
 ·rw[hs] at hn hm ⊢
  rw[map_map]
  exact iU (q ss (nd hn) λs=>⟨λm=>mm ((hm _).mp (mem_map.mpr ⟨s,m,rfl⟩)),λm=>mm ((hm _).mpr (mem_map.mpr ⟨s,m,rfl⟩))⟩)
theorem HD{C:Cl}{ρ:aV}{e:E}(h:WE C e ρ H λv H=>Q (.ref H.length) (H++[.list [v]])):WE C (.bE [e]) ρ H Q:=h
theorem Tn{C:Cl}{ρ:aV}{a:E}(h:WE C a ρ H λx H=>vu x H Q):WE C (.l3 false a) ρ H Q:=h
noncomputable abbrev To:S:=.aX (.U 5) (.bin .add (.U 5) (.comp 1 (.aP [.U 0,(.k (.bool true))]) (.U 0) (.of (.call m0 [.U 0,.U 6,.U 2])) []))
noncomputable abbrev Tp:S:=.bD (.not (.U 7))
    [.aX (.U 5) (.bin .add (.U 5) (.comp 1 (.aP [.U 0,(.k (.bool false))]) (.U 0) (.of (.call j0 [.U 0,.U 6,.U 2])) []))]
    []
noncomputable abbrev jU(l k:Nat)(d:Int)(x3 x4 o5 o6 o7 o8:Option V):aV:=[some (.ref l),some (nv k),some (.int d),x3,x4,o5,o6,o7,o8]
theorem Tq{p:aO}(hW:cw ps)(hl:ps.length<=20)(hA:H[l]?=some (.list (ps.map bO)))(hp:ps[c]?=some p)(hM:H[lm]?=some (.list (us.map sv)))(hz:us.length<=100000)(q:∀cq H',aI H H'->H'[cq]?=some (.list ((us++cX ps d (c,b)).map sv))->aY (aM (n+2)) rest (jU l k d x3 x4 (some (.ref cq)) (some (nv c)) (some (.bool b)) o8) H' K):aY (aM (n+2)) (To::Tp::rest) (jU l k d x3 x4 (some (.ref lm)) (some (nv c)) (some (.bool b)) o8) H K:=by
 have hk:=le_trans (kB ps d c) hl
 have h2:=uz hW hp d
 refine cU (dH (aQ rfl (jh (iJ (hO (aQ rfl (aQ rfl (aQ rfl (bB (xF (n:=n) hA hl λlc H₁ ζ x1 ac=>aG (dz ac) ?_))))))))))
 refine cK (cO (by rw[length_map];exact lt_of_le_of_lt hk (by decide))) (ij (P:=λζ=>true) (F:=λc=>sv (c,true)) _ _ _ (λa ζ T h=>h) (λa ζ ζ N h=>h) ?_)
 rw[nH]
 refine iU (lN (bz _ (x1 _ _ hM)) (bq _ _) (by rw[length_append,nil_append,length_map,length_map];exact lt_of_le_of_lt (add_le_add hz hk) (by decide)) (aG (a:=jU l k d x3 x4 (some (.ref _)) (some (nv c)) (some (.bool b)) o8) rfl ?_))
 have e1:us.map sv++([]++(kids ps d c).map λc=>sv (c,true))=(us++(kids ps d c).map λc=>(c,true)).map sv:=by rw[map_append,map_map];rfl
 rw[e1]
 have x2:aI H (H₁++[bc.list ([]++(kids ps d c).map λc=>sv (c,true))]++[bc.list ((us++(kids ps d c).map λc=>(c,true)).map sv)]):=x1.trans ((aI.ba _ _).trans (aI.ba _ _))
 have a2:=bq (H₁++[bc.list ([]++(kids ps d c).map λc=>sv (c,true))]) (bc.list ((us++(kids ps d c).map λc=>(c,true)).map sv))
 generalize H₁++[bc.list ([]++(kids ps d c).map λc=>sv (c,true))]++[bc.list ((us++(kids ps d c).map λc=>(c,true)).map sv)]=H₂ at x2 a2 ⊢
 generalize (H₁++[bc.list ([]++(kids ps d c).map λc=>sv (c,true))]).length=m at a2 ⊢
 have es:cX ps d (c,b)=(kids ps d c).map (λc=>(c,true))++(if b then[] else(dq p d).map λc=>(c,false)):=by unfold cX;rw[show ps[(c,b).1]?=some p from hp];rfl
 rw[es] at q
 refine gy (xE (aQ rfl (aG (a:=b) rfl ?_)))
 cases b with
 |true=>exact dJ rfl (gQ (q m H₂ x2 (by refine(?_:_=some (bc.list ((us++(_++[])).map sv)));rw[append_nil];exact a2)))
 |false=>
  refine jO rfl (cU (dH (aQ rfl (jh (iJ (hO (aQ rfl (aQ rfl (aQ rfl (bB (sG (x2 _ _ hA) hp (aG (a:=bb (dq p d)) rfl ?_))))))))))))
  refine cK (cO (by rw[length_map];exact lt_of_le_of_lt h2 (by decide))) (ij (P:=λζ=>true) (F:=λc=>sv (c,false)) _ _ _ (λa ζ T h=>h) (λa ζ ζ N h=>h) ?_)
  rw[nH]
  refine iU (lN (bz _ a2) (bq _ _) (by rw[length_append,nil_append,length_map,length_map,length_append,length_map];exact lt_of_le_of_lt (add_le_add (add_le_add hz hk) h2) (by decide)) (aG (a:=jU l k d x3 x4 (some (.ref _)) (some (nv c)) (some (.bool false)) o8) rfl (gQ (q _ _ (x2.trans ((aI.ba _ _).trans (aI.ba _ _))) ?_))))
  rw[bq]
  refine congrArg (λl=>some (bc.list l)) ?_
  refine(?_:(us++(kids ps d c).map λc=>(c,true)).map sv++(dq p d).map (λc=>sv (c,false))=(us++((kids ps d c).map (λc=>(c,true))++(dq p d).map λc=>(c,false))).map sv)
  rw[<-append_assoc,map_append (l₁:=us++(kids ps d c).map λc=>(c,true)),map_map (l:=dq p d)]
  rfl
noncomputable def Bu(ps:List aO)(d:Int)(l k:Nat)(x3 x4 o8:Option V)(ss:List St)(H:Hp)(as:List St)(ρ:aV)(H':Hp):Prop:=∀AmIζ:Prop,(∀(o6 o7:Option V) (lm:Nat) (us:List St) (e:ρ=jU l k d x3 x4 (some (.ref lm)) o6 o7 o8) (x:aI H H') (a:H'[lm]?=some (.list (us.map sv))) (ok:∀u∈us,∃s,s∈ss/\u∈cX ps d s) (len:us.length+22*as.length<=1000) (rg:∀s∈as,s∈ss),AmIζ)->AmIζ
theorem Bu.mk{ps:List aO}{d:Int}{l k:Nat}{x3 x4 o8:Option V}{ss:List St}{H:Hp}{as:List St}{ρ:aV}{H':Hp}(o6 o7:Option V)(lm:Nat)(us:List St)(e:ρ=jU l k d x3 x4 (some (.ref lm)) o6 o7 o8)(x:aI H H')(a:H'[lm]?=some (.list (us.map sv)))(ok:∀u∈us,∃s,s∈ss/\u∈cX ps d s)(len:us.length+22*as.length<=1000)(rg:∀s∈as,s∈ss):Bu ps d l k x3 x4 o8 ss H as ρ H':=λζ bw=>bw o6 o7 lm us e x a ok len rg
noncomputable def Bv(ps:List aO)(d:Int)(l k:Nat)(H:Hp)(n:Nat)(ρ:aV)(H':Hp):Prop:=∀AlIζ:Prop,(∀(o5 o6 o7 o8:Option V) (ls:Nat) (b:Bool) (ss:List St) (e:ρ=jU l k d (some (.ref ls)) (some (.bool b)) o5 o6 o7 o8) (x:aI H H') (a:H'[ls]?=some (.list (ss.map sv))) (nd:ss.Nodup) (ok:∀s∈ss,∃m,Rc (cX ps d) (k,false) m s) (hn:n=if b then 42 - ss.length else 0),AlIζ)->AlIζ
theorem Bv.mk{ps:List aO}{d:Int}{l k:Nat}{H:Hp}{n:Nat}{ρ:aV}{H':Hp}(o5 o6 o7 o8:Option V)(ls:Nat)(b:Bool)(ss:List St)(e:ρ=jU l k d (some (.ref ls)) (some (.bool b)) o5 o6 o7 o8)(x:aI H H')(a:H'[ls]?=some (.list (ss.map sv)))(nd:ss.Nodup)(ok:∀s∈ss,∃m,Rc (cX ps d) (k,false) m s)(hn:n=if b then 42 - ss.length else 0):Bv ps d l k H n ρ H':=λζ bw=>bw o5 o6 o7 o8 ls b ss e x a nd ok hn
theorem HE{α:Type}{g:α->V}{t:cV}{ws:List Nat}{test:aV->Hp->(Bool->Hp->Prop)->Prop}{elt:aV->Hp->PQ->Prop}{Q:List V->Hp->Prop}{E:α->aV}{sh:aV->Prop}(hE:∀a ρ,sh ρ->aX t (g a) ρ=some (E a))(hs:∀a,sh (E a)):∀(as:List α) (ρ:aV),sh ρ->(∀a,a∈as->∀T:Bool->Hp->Prop,T false H->test (E a) H T)->Q [] H->gC ws H t test elt (as.map g) ρ H [] Q
 |[],ρ,_,_,q=>q
 |a::as,ρ,h,ht,q=>aG (hE a ρ h) (ht a mem_cons_self _ ⟨all_eq_true.mpr λl ζ=>decide_eq_true rfl,HE hE hs as _ (hs a) (λa ha=>ht a (.tail _ ha)) q⟩)
theorem Tr(hW:cw ps)(hl:ps.length<=20)(hk:k<ps.length)(gR:∀m,¬kZ ps d k m)(hA:H[l]?=some (.list (ps.map bO)))(q:∀H',aI H H'->Q (.bool true) H'):aM (n+3) yt [.ref l,nv k,.int d] H Q:=Qk (by
 unfold yD
 refine cU (HD (SY (c:=k) rfl (aG (a:=jU l k d (some (.ref H.length)) none none none none none) rfl ?_)))
 refine cU (bG (aG (a:=jU l k d (some (.ref H.length)) (some (.bool true)) none none none none) rfl ?_))
 have rg:∀{ss:List St},(∀s∈ss,∃m,Rc (cX ps d) (k,false) m s)->∀s∈ss,s.1<ps.length:=λok s hs=>(ok s hs).elim λm hm=>hm.range hk (uJ hW)
 refine wM (Bv ps d l k H) (λf ρ H' hI T ht hf=>?_) _ 41 _ _ (show 41<(k:Int).natAbs+(d.natAbs+1000) from lt_of_lt_of_le (by decide) (le_trans (le_add_left 1000 _) (le_add_left _ _))) (.mk none none none none _ true [(k,false)] rfl (aI.ba _ _) (bq _ _) (nodup_cons.mpr ⟨not_mem_nil,nodup_nil⟩) (λs hs=>⟨0,[k],rfl,mem_singleton.mp hs⟩) rfl)
 refine hI _ λo5 o6 o7 o8 ls b ss e x a nd ok hn=>?_
 subst e
 have qm:ss.length<=40:=le_trans (oL nd (rg ok)) (mul_le_mul_left 2 hl)
 cases b with
 |false=>
  refine hf _ ?_
  refine k5 (cR (jh (iJ (aQ rfl (aG (dz a) (cK (cO (by rw[length_map];exact lt_of_le_of_lt qm (by decide))) ?_))))))
  refine HE (g:=sv) (E:=λs=>some (nv s.1)::some (.bool s.2)::jU l k d (some (.ref ls)) (some (.bool false)) o5 o6 o7 o8) (sh:=λρ=>∃a b,ρ=a::b::jU l k d (some (.ref ls)) (some (.bool false)) o5 o6 o7 o8) (λs ρ h=>h.elim λa h=>h.elim λb h=>by rw[h];rfl) (λs=>⟨_,_,rfl⟩) ss _ ⟨none,none,rfl⟩ (λs hs T hT=>?_) (iU (jx (aG (eq_nil (ds:=[]) (bz _ (bq _ _)) rfl (bq _ _)) (q _ (x.trans ((aI.ba _ _).trans (aI.ba _ _)))))))
  refine(at_of (rg ok s hs)).elim λp hp=>?_
  have hh:(fA k s.1&&dD p d)=false:=by
   cases hb:(fA k s.1&&dD p d) with
   |false=>rfl
   |true=>exact(ok s hs).elim λm hm=>absurd ⟨s.1,s.2,by unfold hr;rw[iB hp];exact hb,hm⟩ (gR m)
  refine sE (mN (cR (aQ rfl (aQ rfl (aG (a:=fA k s.1) rfl (aG (a:=fA k s.1) rfl ?_))))))
  refine e8 (λh1=>hO (aQ rfl (aQ rfl (aQ rfl (bB (oN (x _ _ hA) hp ?_)))))) λh1=>aG (a:=fA k s.1) rfl (dJ h1 hT)
  rw[h1,Bool.true_and] at hh
  exact aG (a:=dD p d) rfl (dJ hh hT)
 |true=>
  refine ht _ λN hN=>?_
  refine cU (jx (aG (a:=jU l k d (some (.ref ls)) (some (.bool true)) (some (.ref H'.length)) o6 o7 o8) rfl ?_))
  have x0:=aI.ba H' [bc.list []]
  refine k3 (iJ (aQ rfl (aG (dz (x0 _ _ a)) ?_)))
  refine d9 (Bu ps d l k (some (.ref ls)) (some (.bool true)) o8 ss (H'++[bc.list []])) (λs as ρ H₁ hJ=>?_) (λρ H₁ hJ=>?_) _ _ _ (.mk _ _ _ [] rfl (aI.refl _) (bq _ _) (λu hu=>(nomatch hu)) (by refine(?_:0+22*ss.length<=1000);exact le_trans (le_of_eq (zero_add _)) (le_trans (mul_le_mul_left 22 qm) (by decide))) (λs hs=>hs))
  ·refine hJ _ λo6 o7 lm us e x1 a1 Bw len Bx=>?_
   subst e
   refine aG (a:=jU l k d (some (.ref ls)) (some (.bool true)) (some (.ref lm)) (some (nv s.1)) (some (.bool s.2)) o8) rfl λM hM=>?_
   rw[length_cons] at len
   have hs:=Bx s mem_cons_self
   refine(at_of (rg ok s hs)).elim λp hp=>?_
   have Ts:(cX ps d s).length<=22:=by
    unfold cX
    rw[hp]
    have h1:=kB ps d s.1
    have h2:=uz hW hp d
    refine(?_:((kids ps d s.1).map (λc=>(c,true))++(if s.2 then[] else(dq p d).map λc=>(c,false))).length<=22)
    rw[length_append,length_map]
    split
    ·rw[length_nil];exact le_trans h1 (le_trans hl (by decide))
    ·rw[length_map];exact add_le_add (le_trans h1 hl) h2
   refine Tq (n:=n) (b:=s.2) hW hl (x1 _ _ (x0 _ _ (x _ _ hA))) hp a1 (le_trans (le_trans (le_add_right _ _) len) (by decide)) λcq H₂ x2 a2=>gQ (hM _ _ (dr (x0 _ _ a) ((x1.trans x2) _ _ (x0 _ _ a))) (.mk _ _ cq _ rfl (x1.trans x2) a2 (λu hu=>(mem_append.mp hu).elim (Bw u) λhu=>⟨s,hs,hu⟩) (by rw[length_append];exact le_trans (add_le_add_right (add_le_add_left Ts _) _) (by rw[add_assoc,add_comm 22];exact len)) (λs h=>Bx s (.tail _ h))))
  ·refine hJ _ λo6 o7 lm us e x1 a1 Bw len Bx=>?_
   subst e
   have qG:=x0.trans x1
   have okr:∀u∈us,∃m,Rc (cX ps d) (k,false) m u:=λu hu=>(Bw u hu).elim λs hs=>(ok s hs.1).elim λm hm=>⟨m+1,hm.step hs.2⟩
   refine cU (Tn (jh (iJ (aQ rfl (aG (dz a1) (cK (cO (by rw[length_map];exact lt_of_le_of_lt (le_trans (le_add_right _ _) len) (by decide))) ?_))))))
   refine ij (P:=λu=>!decide (u∈ss)) (F:=sv) _ _ _ (λu ζ T hT=>Bk (aQ rfl (aQ rfl (aG (Tj (qG _ _ a)) (lW (T:=T) hT))))) (λu ζ ζ M hM=>hM) (iU (Tl (bq _ _) (λu hu=>lt_of_lt_of_le (rg okr u (mem_filter.mp hu).1) hl) λfr ndf hm=>aG rfl ?_))
   have HF:∀u∈fr,u∈us/\u∉ss:=λu hu=>have h:=mem_filter.mp ((hm u).mp hu);⟨h.1,of_decide_eq_false ((not_eq_true' _).mp h.2)⟩
   have okf:∀s∈ss++fr,∃m,Rc (cX ps d) (k,false) m s:=λs hs=>(mem_append.mp hs).elim (ok s) λh=>okr s (HF s h).1
   have ndf':(ss++fr).Nodup:=nodup_append.mpr ⟨nd,ndf,λy hy z hz e=>(HF z hz).2 (e▸hy)⟩
   have By:(ss++fr).length<=40:=le_trans (oL ndf' (rg okf)) (mul_le_mul_left 2 hl)
   have af:=bq (H₁++[bc.list ([]++List.map sv (filter (λu=>!decide (u∈ss)) us))]) (.list (fr.map sv))
   have xf:aI H₁ (H₁++[bc.list ([]++List.map sv (filter (λu=>!decide (u∈ss)) us))]++[bc.list (fr.map sv)]):=(aI.ba _ _).trans (aI.ba _ _)
   generalize H₁++[bc.list ([]++List.map sv (filter (λu=>!decide (u∈ss)) us))]++[bc.list (fr.map sv)]=H₂ at af xf ⊢
   generalize (H₁++[bc.list ([]++List.map sv (filter (λu=>!decide (u∈ss)) us))]).length=lf at af ⊢
   refine cU (cR (aQ rfl (jx (aG (ne_nil (bz _ af) (Bt fr) (bq _ _)) (aG rfl ?_)))))
   rw[isEmpty_map]
   rw[length_append] at By
   refine cU (dH (aQ rfl (aQ rfl (lN (bz _ (xf _ _ (qG _ _ a))) (bz _ af) (by rw[length_append,length_map,length_map];exact lt_of_le_of_lt By (by decide)) (aG rfl (gQ (hN (if !fr.isEmpty then 42 - (ss++fr).length else 0) _ _ ?_ (.mk _ _ _ _ _ (!fr.isEmpty) (ss++fr) rfl (x.trans (qG.trans (xf.trans ((aI.ba _ _).trans (aI.ba _ _))))) (by rw[bq,map_append]) ndf' okf rfl))))))))
   rw[hn,length_append]
   cases fr with
   |nil=>refine(?_:0<42 - ss.length);exact Nat.sub_pos_of_lt (lt_of_le_of_lt qm (by decide))
   |cons y z=>
    rw[length_cons] at By ⊢
    refine(?_:42 - (ss.length+(z.length+1))<42 - ss.length)
    exact Nat.sub_lt_sub_left (lt_of_le_of_lt qm (by decide)) (Nat.lt_add_of_pos_right (succ_pos _)))
end
noncomputable def Zm(m:Nat)(x:Rat):Prop:=∃z:Nat,0<z/\x*(m:Rat)=(z:Rat)
theorem Zm.mul{m m':Nat}{x y:Rat}(h:Zm m x)(h':Zm m' y):Zm (m*m') (x*y):=h.elim λz hz=>h'.elim λz' qB=>⟨z*z',mul_pos hz.1 qB.1,by
 rw[Rat.natCast_mul,Rat.natCast_mul,<-hz.2,<-qB.2];grind⟩
theorem Zm.more{m:Nat}{x:Rat}(h:Zm m x)(k:Nat)(hk:0<k):Zm (k*m) x:=h.elim λz hz=>⟨k*z,mul_pos hk hz.1,by
 rw[Rat.natCast_mul,Rat.natCast_mul,<-hz.2];grind⟩
theorem Bz{n:Nat}(h:n≠0):mkRat 1 n*(n:Rat)=1:=by
 rw[<-Rat.intCast_natCast,<-Rat.mkRat_one,Rat.mkRat_mul_mkRat,Int.one_mul,Nat.mul_one]
 exact(Rat.mkRat_eq_iff (d₂:=1) (n₂:=1) h (by decide)).mpr (Int.mul_comm _ _)
theorem Zm.inv{n:Nat}(h:n≠0)(k:Nat)(hk:0<k):Zm (n*k) (mkRat 1 n):=⟨k,hk,by rw[Rat.natCast_mul,<-Rat.mul_assoc,Bz h,Rat.one_mul]⟩
theorem Zm.pos{m:Nat}{x:Rat}(h:Zm m x)(hm:0<m):0<x:=h.elim λz hz=>by
 have rX:(0:Rat)<(m:Rat):=Rat.natCast_pos.mpr hm
 have qB:(0:Rat)<(z:Rat):=Rat.natCast_pos.mpr hz.1
 rw[<-hz.2] at qB
 exact(Rat.mul_lt_mul_right rX).mp (by rw[Rat.zero_mul];exact qB)
noncomputable abbrev LL:Nat:=232792560
theorem xJ:∀n:Nat,n<=20->n≠0->n*(LL/n)=LL/\0<LL/n:=by decide
noncomputable def gX(rs:List Row):Rat:=(rs.map (·.gT)).sum
section
variable{ps:List aO}{d:Int}
inductive TL(ps:List aO)(d:Int)(h:Nat):List Nat->Prop
 |one:lv ps d h=true->bV ps d 20 h=true->TL ps d h [h]
 |cons {c c':Nat} {t:List Nat}:lv ps d c=false->c'∈kids ps d c->bV ps d 20 c=true->TL ps d h (c'::t)->TL ps d h (c::c'::t)
noncomputable def RT(ps:List aO)(d:Int)(k:Nat)(ts:List Nat)(r:Row):Prop:=∀RTζ:Prop,(∀(c:Nat) (t:List Nat) (e:r.line=k::c::t) (hc:c∈ts) (tl:TL ps d r.dQ (c::t)),RTζ)->RTζ
theorem RT.mk{ps:List aO}{d:Int}{k:Nat}{ts:List Nat}{r:Row}(c:Nat)(t:List Nat)(e:r.line=k::c::t)(hc:c∈ts)(tl:TL ps d r.dQ (c::t)):RT ps d k ts r:=λζ bw=>bw c t e hc tl
noncomputable def LO(ps:List aO)(d:Int)(k:Nat)(ts:List Nat)(m:Nat)(rs:List Row):Prop:=∀LOζ:Prop,(∀(rt:∀r∈rs,RT ps d k ts r/\Zm m r.gT) (sm:ts≠[]->gX rs=1) (fst:∀c∈ts,∃r,r∈rs/\∃t,r.line=k::c::t),LOζ)->LOζ
theorem LO.mk{ps:List aO}{d:Int}{k:Nat}{ts:List Nat}{m:Nat}{rs:List Row}(rt:∀r∈rs,RT ps d k ts r/\Zm m r.gT)(sm:ts≠[]->gX rs=1)(fst:∀c∈ts,∃r,r∈rs/\∃t,r.line=k::c::t):LO ps d k ts m rs:=λζ bw=>bw rt sm fst
theorem Tt(a b:List Row):gX (a++b)=gX a+gX b:=by unfold gX;rw[map_append,List.sum_append]
theorem HG(k:Nat)(s:Rat):∀rs:List Row,gX (rs.map (up k s))=s*gX rs
 |[]=>(Rat.mul_zero s).symm
 |r::rs=>by
  refine(?_:s*r.gT+gX (rs.map (up k s))=s*(r.gT+gX rs))
  rw[HG k s rs,Rat.mul_add]
theorem HH{g:Nat->List Row}{s:Rat}:∀{ts:List Nat},(∀c∈ts,gX (g c)=s)->gX (ts.flatMap g)=s*(ts.length:Rat)
 |[],_=>(Rat.mul_zero s).symm
 |c::ts,h=>by
  rw[flatMap_cons,Tt,h c mem_cons_self,HH λc hc=>h c (.tail _ hc),length_cons,Rat.natCast_add,Rat.mul_add,Rat.add_comm]
  exact congrArg (s*(ts.length:Rat)+·) (Rat.mul_one s).symm
theorem BA{rec:Nat->List Row}{k m:Nat}{ts:List Nat}(hm:0<m)(hl:ts.length<=20)(lO:∀c∈ts,bV ps d 20 c=true)(ua:∀c∈ts,lv ps d c=false->∃nf,(∀c'∈nf,c'∈kids ps d c)/\nf≠[]/\LO ps d c nf m (rec c)):LO ps d k ts (LL*m) (gU ps d rec k ts):=by
 have hn:∀{c},c∈ts->ts.length≠0:=λh e=>absurd (eq_nil_of_length_eq_zero e) (ne_nil_of_mem h)
 have hz:∀{c},c∈ts->Zm LL (mkRat 1 ts.length):=λh=>by
  have:=Zm.inv (hn h) (LL/ts.length) (xJ _ hl (hn h)).2
  rw[(xJ _ hl (hn h)).1] at this
  exact this
 refine(.mk (λr hr=>?_) (λb8=>?_) (λc hc=>?_))
 ·obtain⟨c,hc,hr⟩:=mem_flatMap.mp hr
  unfold rowsOf at hr
  split at hr
  ·rename_i h
   rw[mem_singleton.mp hr]
   refine⟨(.mk c [] rfl hc (.one h (lO c hc))),?_⟩
   have:=(hz hc).more m hm
   rw[mul_comm] at this
   exact this
  ·rename_i h
   obtain⟨r',Av,rfl⟩:=mem_map.mp hr
   obtain⟨nf,hk,_,lo⟩:=ua c hc (not_eq_true _▸h)
   refine lo _ λrt ζ ζ=>?_
   have:=rt r' Av
   refine⟨this.1 _ λc' t e dC tl=>(.mk c (c'::t) (by refine(?_:k::r'.line=_);rw[e]) hc (.cons (not_eq_true _▸h) (hk c' dC) (lO c hc) tl)),(hz hc).mul this.2⟩
 ·have:gX (gU ps d rec k ts)=mkRat 1 ts.length*(ts.length:Rat):=HH λc hc=>by
   unfold rowsOf
   split
   ·exact Rat.add_zero _
   ·rename_i h
    obtain⟨nf,_,BB,lo⟩:=ua c hc (not_eq_true _▸h)
    have e1:gX (rec c)=1:=lo _ λζ sm ζ=>sm BB
    rw[HG,e1,Rat.mul_one]
  rw[this]
  exact Bz λe=>b8 (eq_nil_of_length_eq_zero e)
 ·by_cases h:lv ps d c=true
  ·exact⟨⟨c,mkRat 1 ts.length,[k,c]⟩,mem_flatMap.mpr ⟨c,hc,by unfold rowsOf;rw[if_pos h];exact mem_singleton.mpr rfl⟩,[],rfl⟩
  ·obtain⟨nf,_,BB,lo⟩:=ua c hc (not_eq_true _▸h)
   cases nf with
   |nil=>exact absurd rfl BB
   |cons c' _=>
    refine lo _ λζ ζ fst=>(fst c' mem_cons_self).elim λr hr=>hr.2.elim λt ht=>⟨up k (mkRat 1 ts.length) r,mem_flatMap.mpr ⟨c,hc,by unfold rowsOf;rw[if_neg h];exact mem_map.mpr ⟨r,hr.1,rfl⟩⟩,c'::t,by refine(?_:k::r.line=_);rw[ht]⟩
theorem HI{c:Nat}{cs:List Nat}(h:cs.any (bV ps d 20)=true):dO ps d cs≠[]:=by
 obtain⟨o,ho,hl⟩:=any_eq_true.mp h
 exact ne_nil_of_mem (mem_filter.mpr ⟨ho,hl⟩)
theorem k7{cs:List Nat}{c:Nat}(h:c∈dO ps d cs):c∈cs/\bV ps d 20 c=true:=mem_filter.mp h
theorem BC{c:Nat}(h:bV ps d 20 c=true)(hv:lv ps d c=false):dO ps d (kids ps d c)≠[]:=by
 have h:(lv ps d c||(kids ps d c).any (bV ps d 19))=true:=h
 rw[hv] at h
 obtain⟨o,ho,hl⟩:=any_eq_true.mp h
 exact ne_nil_of_mem (mem_filter.mpr ⟨ho,Bn hl⟩)
theorem xK(hW:cw ps)(hl:ps.length<=20):∀{f k:Nat} {p:aO},ps[k]?=some p->ee ps p.bH<f->LO ps d k (dO ps d (kids ps d k)) (LL^f) (gb ps d f k)
 |0,_,_,_,h=>absurd h (not_lt_zero _)
 |f+1,k,p,hp,h=>by
  rw[pow_succ,mul_comm]
  refine BA (pow_pos (by decide)) (le_trans (wR _ _ _) (le_trans (kB ps d k) hl)) (λc hc=>(k7 hc).2) λc hc hv=>⟨_,λc' dC=>(k7 dC).1,BC (k7 hc).2 hv,nF hW hp (k7 hc).1 λq hq ζ hy=>xK hW hl hq (lt_of_lt_of_le hy (le_of_lt_succ h))⟩
end
section
variable{ps:List aO}{d:Int}{k h n:Nat}{p:aO}{l w:List Nat}
theorem Tu{c bL:Nat}(hW:cw ps)(hl:ps.length<=20)(h:c∈kids ps d bL)(hc:bV ps d 20 c=true):bV ps d 20 bL=true:=xI hW (Hy hc (mem_filter.mp h).2 (mem_range.mp (mem_filter.mp h).1)) hl
theorem BD{c bL:Nat}(h:c∈others ps d k bL):c∈kids ps d bL:=(mem_filter.mp h).1
theorem Tv(hW:cw ps)(hl:ps.length<=20){bL:Nat}{q:aO}(hq:ps[bL]?=some q):LO ps d bL (dO ps d (others ps d k bL)) (LL*LL^20) (iD ps d k bL):=
 BA (pow_pos (by decide)) (le_trans (wR _ _ _) (le_trans (wW ps d k bL) hl)) (λc hc=>(k7 hc).2) λc hc hv=>⟨_,λc' dC=>(k7 dC).1,BC (k7 hc).2 hv,nF hW hq (BD (k7 hc).1) λq hq ζ ζ=>xK hW hl hq (lt_of_lt_of_le (nE (mem_of_getElem? hq)) hl)⟩
theorem Tw(hW:cw ps)(hl:ps.length<=20)(hp:ps[k]?=some p):LO ps d k (gV ps d k p) (LL*(LL*LL^20)) (lR ps d k p):=
 BA (mul_pos (by decide) (pow_pos (by decide))) (le_trans (qk hW hp) (by decide)) (λc hc=>by
  have h:(lv ps d c||(others ps d k c).any (bV ps d 20))=true:=(mem_filter.mp hc).2
  rcases or_eq_true_iff.mp h with h|h
  ·refine(?_:(lv ps d c||_)=true)
   rw[h];rfl
  ·obtain⟨o,ho,iP⟩:=any_eq_true.mp h
   exact Tu hW hl (BD ho) iP) λc hc hv=>⟨_,λc' dC=>BD (k7 dC).1,by
  have h:(lv ps d c||(others ps d k c).any (bV ps d 20))=true:=(mem_filter.mp hc).2
  rw[hv] at h
  exact HI (c:=c) h,(mC hW hp d c (uE hc)).elim λq hq=>Tv hW hl hq.1⟩
noncomputable def Dn(ps:List aO)(d:Int)(h:Nat)(l:List Nat):Prop:=∀Dnζ:Prop,(∀(dn:fQ ps d l=true) (la:l.getLast?=some h) (lh:lv ps d h=true) (mid:∀x∈l.dropLast,lv ps d x=false) (li:∀x∈l,bV ps d 20 x=true),Dnζ)->Dnζ
theorem Dn.mk{ps:List aO}{d:Int}{h:Nat}{l:List Nat}(dn:fQ ps d l=true)(la:l.getLast?=some h)(lh:lv ps d h=true)(mid:∀x∈l.dropLast,lv ps d x=false)(li:∀x∈l,bV ps d 20 x=true):Dn ps d h l:=λζ bw=>bw dn la lh mid li
theorem TL.dn(t:TL ps d h l):Dn ps d h l:=t.rec (motive:=λl ζ=>Dn ps d h l) (λh1 h2=>(.mk rfl rfl h1 (λx hx=>(nomatch hx)) (λx hx=>mem_singleton.mp hx▸h2))) λh1 h2 h3 ζ ih=>ih _ λdn la lh mid li=>(.mk (by show(decide _&&_)=true;rw[decide_eq_true h2,dn];rfl) la lh (λx hx=>(mem_cons.mp hx).elim (λe=>e▸h1) (mid x)) (λx hx=>(mem_cons.mp hx).elim (λe=>e▸h3) (li x)))
noncomputable def Up(ps:List aO)(d:Int)(a b:Nat):Prop:=∃p,ps[a]?=some p/\b∈dq p d
inductive uZ(ps:List aO)(d:Int)(n j:Nat)(w:List Nat):Prop
 |mk (up:∀i,i<j->∃a b,w[i]?=some a/\w[i+1]?=some b/\Up ps d a b) (dn:∀i,j<=i->i<n->∃a b,w[i]?=some a/\w[i+1]?=some b/\b∈kids ps d a)
theorem pD{x:Nat}{i:Nat}{a:Nat}(h:w[i]?=some a):(w++[x])[i]?=some a:=by rw[getElem?_append_left (List.getElem?_eq_some_iff.mp h).1,h]
theorem BE{x i:Nat}{P:Nat->Nat->Prop}(h:∃a b,w[i]?=some a/\w[i+1]?=some b/\P a b):∃a b,(w++[x])[i]?=some a/\(w++[x])[i+1]?=some b/\P a b:=h.elim λa h=>h.elim λb h=>⟨a,b,pD h.1,pD h.2.1,h.2.2⟩
theorem Wk.last{F:St->List St}{s0:St}:∀{n:Nat} {w:List Nat} {t:St},Wk F s0 n w t->w[n]?=some t.1
 |0,_,_,h=>by rw[h.1,h.2];rfl
 |n+1,_,_,h=>h.elim λs h=>h.elim λw0 h=>by rw[h.2.2,<-h.1.len];exact List.getElem?_concat_length
theorem Wk.pre{F:St->List St}{s0:St}:∀{n:Nat} {w:List Nat} {t:St},Wk F s0 n w t->∀i,i<=n->∃s,w[i]?=some s.1/\Rc F s0 i s
 |0,w,t,h,i,hi=>⟨t,by rw[le_zero.mp hi];exact h.last,w,by rw[le_zero.mp hi];exact h⟩
 |n+1,w,t,h,i,hi=>(lt_or_eq_of_le hi).elim (λhi=>h.elim λs h=>h.elim λw0 h=>(h.1.pre i (le_of_lt_succ hi)).elim λs hs=>⟨s,h.2.2▸pD hs.1,hs.2⟩) λe=>⟨t,by rw[e];exact h.last,w,by rw[e];exact h⟩
theorem Wk.mO:∀{n:Nat} {w:List Nat} {t:St},Wk (cX ps d) (k,false) n w t->∃j,j<=n/\(t.2=false->j=n)/\uZ ps d n j w
 |0,_,_,h=>⟨0,le_refl _,λζ=>rfl,λi hi=>absurd hi (not_lt_zero i),λi ζ hi=>absurd hi (not_lt_zero i)⟩
 |n+1,w,t,h=>by
  obtain⟨s,w0,h1,h2,rfl⟩:=h
  obtain⟨j,hj,hf,⟨up,dn⟩⟩:=h1.mO
  have la:(w0++[t.1])[n]?=some s.1:=pD h1.last
  have lb:(w0++[t.1])[n+1]?=some t.1:=by rw[<-h1.len];exact List.getElem?_concat_length
  unfold cX at h2
  cases hp:ps[s.1]? with
  |none=>rw[hp] at h2;cases h2
  |some p=>
   rw[hp] at h2
   have h2:t∈(kids ps d s.1).map (λc=>(c,true))++(if s.2 then[] else(dq p d).map λc=>(c,false)):=h2
   rcases mem_append.mp h2 with h2|h2
   ·obtain⟨c,hc,rfl⟩:=mem_map.mp h2
    exact⟨j,Nat.le_succ_of_le hj,λh=>(nomatch h),λi hi=>BE (up i hi),λi h1 h2=>(lt_or_eq_of_le (le_of_lt_succ h2)).elim (λh=>BE (dn i h1 h)) λe=>by subst e;exact⟨s.1,c,la,lb,hc⟩⟩
   ·cases hs:s.2 with
    |true=>rw[hs] at h2;cases h2
    |false=>
     rw[hs] at h2
     obtain⟨c,hc,rfl⟩:=mem_map.mp h2
     have e:=hf hs
     exact⟨n+1,le_refl _,λζ=>rfl,λi hi=>(lt_or_eq_of_le (le_of_lt_succ hi)).elim (λh=>BE (up i (e▸h))) λe=>by subst e;exact⟨s.1,c,la,lb,p,hp,hc⟩,λi h1 h2=>absurd h2 (not_lt.mpr h1)⟩
theorem HJ:∀{l:List Nat},(∀i,i+1<l.length->∃a b,l[i]?=some a/\l[i+1]?=some b/\b∈kids ps d a)->fQ ps d l=true
 |[],_=>rfl
 |[a],_=>rfl
 |a::b::r,h=>by
  refine(?_:(decide (b∈kids ps d a)&&fQ ps d (b::r))=true)
  rw[HJ (l:=b::r) λi hi=>h (i+1) (Nat.succ_lt_succ hi)]
  obtain⟨a',b',e1,e2,hk⟩:=h 0 (Nat.succ_lt_succ (succ_pos _))
  cases e1
  cases e2
  rw[decide_eq_true hk];rfl
theorem uZ.down{j:Nat}(h:uZ ps d n j w)(hw:w.length=n+1):fQ ps d (w.drop j)=true:=h.casesOn λup dn=>HJ λi hi=>by
 rw[length_drop] at hi
 rw[List.getElem?_drop,List.getElem?_drop]
 exact dn (j+i) (le_add_right _ _) (by lia)
end
noncomputable def MM:Nat:=LL*(LL*LL^20)
noncomputable def Sh(ps:List aO)(d:Int)(k h:Nat)(ln:List Nat):Prop:=∀Shζ:Prop,(∀(t:List Nat) (e:ln=k::t) (ne:t≠[]) (la:t.getLast?=some h) (lh:lv ps d h=true) (mid:∀x∈t.dropLast,lv ps d x=false/\x<ps.length),Shζ)->Shζ
theorem Sh.mk{ps:List aO}{d:Int}{k h:Nat}{ln:List Nat}(t:List Nat)(e:ln=k::t)(ne:t≠[])(la:t.getLast?=some h)(lh:lv ps d h=true)(mid:∀x∈t.dropLast,lv ps d x=false/\x<ps.length):Sh ps d k h ln:=λζ bw=>bw t e ne la lh mid
inductive Gn(r:c7)(d:Int)(k h:Nat):Str->List Nat->Prop
 |xM (w:gd) (hw:w∈r.ms) (e:(w.a=k/\w.b=h)\/(w.b=k/\w.a=h)) (hd:w.day<=d):Gn r d k h "spouse" [k,h]
 |sH (g:Nat) (t:List Nat) (hg:g∈(ff r d k).map (·.1)) (dn:fQ r.ps d (g::t)=true):Gn r d k h "will" (k::g::t)
 |line (c:Nat) (t:List Nat) (dn:fQ r.ps d (k::c::t)=true):Gn r d k h "line" (k::c::t)
 |HK (c:Nat) (t:List Nat) (p:aO) (hp:r.ps[k]?=some p) (hc:c∈dq p d) (nk:k∉c::t) (dn:fQ r.ps d (c::t)=true):Gn r d k h "parents" (k::c::t)
 |HL (ln:List Nat) (n j:Nat) (len:ln.length=n+1) (hj:j<=n) (mO:uZ r.ps d n j ln):Gn r d k h "degree" ln
noncomputable def sI(r:c7)(d:Int)(k:Nat)(p:aO)(how:Str)(rs:List Row):Prop:=∀KinGζ:Prop,(∀(sm:rs≠[]->gX rs=1) (zm:∀x∈rs,Zm MM x.gT) (ok:∀x∈rs,Sh r.ps d k x.dQ x.line/\Gn r d k x.dQ how x.line) (f1:how="line"->∀c,(∃x,x∈rs/\x.line[1]?=some c)↔c∈dO r.ps d (kids r.ps d k)) (f2:how="parents"->∀c,(∃x,x∈rs/\x.line[1]?=some c)↔c∈gV r.ps d k p) (n1:how≠"line"->dO r.ps d (kids r.ps d k)=[]) (n2:how="degree"->gV r.ps d k p=[]) (al:rs=[]->∀m,¬kZ r.ps d k m) (hw:how="line"\/how="parents"\/how="degree"),KinGζ)->KinGζ
theorem sI.mk{r:c7}{d:Int}{k:Nat}{p:aO}{how:Str}{rs:List Row}(sm:rs≠[]->gX rs=1)(zm:∀x∈rs,Zm MM x.gT)(ok:∀x∈rs,Sh r.ps d k x.dQ x.line/\Gn r d k x.dQ how x.line)(f1:how="line"->∀c,(∃x,x∈rs/\x.line[1]?=some c)↔c∈dO r.ps d (kids r.ps d k))(f2:how="parents"->∀c,(∃x,x∈rs/\x.line[1]?=some c)↔c∈gV r.ps d k p)(n1:how≠"line"->dO r.ps d (kids r.ps d k)=[])(n2:how="degree"->gV r.ps d k p=[])(al:rs=[]->∀m,¬kZ r.ps d k m)(hw:how="line"\/how="parents"\/how="degree"):sI r d k p how rs:=λζ bw=>bw sm zm ok f1 f2 n1 n2 al hw
section
variable{r:c7}{ps:List aO}{d:Int}{k m:Nat}{p:aO}{ts:List Nat}{rs:List Row}
theorem RT.sh(hW:cw ps){x:Row}(h:RT ps d k ts x):Sh ps d k x.dQ x.line:=h _ λc t e hc tl=>tl.dn _ λdn la lh mid li=>(.mk (c::t) e (λq=>(nomatch q)) la lh (λx hx=>⟨mid x hx,xG hW (li x (List.dropLast_subset _ hx))⟩))
theorem LO.none(h:LO ps d k ts m rs)(e:rs=[]):ts=[]:=h _ λζ ζ fst=>by
 cases ts with
 |nil=>rfl
 |cons c _=>exact(fst c mem_cons_self).elim λx hx=>by rw[e] at hx;exact nomatch hx.1
theorem LO.first(h:LO ps d k ts m rs)(c:Nat):(∃x,x∈rs/\x.line[1]?=some c)↔c∈ts:=h _ λrt ζ fst=>⟨λq=>q.elim λx hx=>(rt x hx.1).1 _ λc' t e hc tl=>by
  have h:=hx.2
  rw[e] at h
  cases h
  exact hc,λhc=>(fst c hc).elim λx hx=>hx.2.elim λt e=>⟨x,hx.1,by rw[e];rfl⟩⟩
theorem Tx{e:Nat×List Nat}(h:e∈il ps d k):e.1∈(kE ps d k 41 [] [((k,false),[k])] []).map (·.1)/\e.2=iF (kE ps d k 41 [] [((k,false),[k])] []) e.1:=(mem_map.mp h).elim λa ha=>ha.2▸⟨(mergeSort_perm _ _).mem_iff.mp ha.1,rfl⟩
theorem Tz(hW:cw ps)(uj:k<ps.length)(hk:lv ps d k=false){n h:Nat}{b:Bool}{w:List Nat}(hr:hr ps d k h=true)(hn:∀m,m<n->¬kZ ps d k m)(hw:Wk (cX ps d) (k,false) n w (h,b)):Sh ps d k h w:=by
 have du:=hw.len
 have HM:=hw.last
 have h2:=and_eq_true_iff.mp hr
 have pre:=hw.pre
 cases w with
 |nil=>cases du
 |cons a t=>
  obtain⟨s,h0,w0,hs⟩:=pre 0 (zero_le _)
  have ea:a=k:=by
   have:a=s.1:=Option.some.inj h0
   rw[this,hs.2]
  cases n with
  |zero=>
   have:h=k:=by rw[<-ea];exact(Option.some.inj HM).symm
   rw[this,hk] at h2
   exact nomatch h2.2
  |succ n=>
   have ht:t.length=n+1:=Nat.succ.inj du
   refine(.mk t (by rw[ea]) (λq=>by rw[q] at ht;(nomatch ht)) (by rw[List.getLast?_eq_getElem?,ht];exact HM) h2.2 (λx hx=>?_))
   obtain⟨i,hi⟩:=List.mem_iff_getElem?.mp hx
   have fx:=(List.getElem?_eq_some_iff.mp hi).1
   rw[List.length_dropLast,ht] at fx
   obtain⟨s,h1,HN⟩:=pre (i+1) (by lia)
   have hx:t[i]?=some x:=by rw[<-hi,List.getElem?_dropLast,if_pos (by lia)]
   have e:s.1=x:=Option.some.inj (h1.symm.trans hx)
   refine⟨?_,e▸HN.range uj (uJ hW)⟩
   cases hv:lv ps d x with
   |false=>rfl
   |true=>
    refine absurd ⟨s.1,s.2,?_,HN⟩ (hn (i+1) (by lia))
    unfold L.hr fA
    rw[e,hv,Bool.and_true,show(((x:Nat):Int)==(k:Int))=false from beq_eq_false_iff_ne.mpr λq=>by rw[ofNat.inj q,hk] at hv;cases hv]
    rfl
theorem HO(m:Nat):∀l:List (Nat×List Nat),gX (l.map (uN m))=mkRat 1 m*(l.length:Rat)
 |[]=>(Rat.mul_zero _).symm
 |a::l=>by
  refine(?_:mkRat 1 m+gX (l.map (uN m))=_)
  rw[HO m l,length_cons,Rat.natCast_add,Rat.mul_add,Rat.add_comm]
  exact congrArg (mkRat 1 m*(l.length:Rat)+·) (Rat.mul_one _).symm
theorem TA(hW:cw r.ps)(hl:r.ps.length<=20)(hp:r.ps[k]?=some p)(hk:lv r.ps d k=false):sI r d k p (ey r.ps d k p).1 (ey r.ps d k p).2.1:=by
 have lo:=xK (d:=d) hW hl (f:=20) hp (lt_of_lt_of_le (nE (mem_of_getElem? hp)) hl)
 have lp:=Tw (d:=d) hW hl hp
 unfold ey
 split
 ·rename_i h1
  have b8:gb r.ps d 20 k≠[]:=λe=>by rw[e] at h1;cases h1
  refine(.mk (λζ=>lo _ λrt sm ζ=>sm λe=>?_) (λx hx=>lo _ λrt ζ ζ=>?_) (λx hx=>lo _ λrt ζ ζ=>⟨(rt x hx).1.sh hW,(rt x hx).1 _ λc t e hc tl=>?_⟩) (λζ=>lo.first) (λe=>(nomatch e)) (λe=>absurd rfl e) (λe=>(nomatch e)) (λe=>absurd e b8) (.inl rfl))
  ·cases hr:gb r.ps d 20 k with
   |nil=>exact b8 hr
   |cons x _=>exact(rt x (by rw[hr];exact mem_cons_self)).1 _ λc t ζ hc ζ=>by rw[e] at hc;cases hc
  ·have:=(rt x hx).2.more (LL*LL) (by decide)
   rw[mul_assoc] at this
   exact this
  ·rw[e]
   refine .line c t ?_
   refine(?_:(decide (c∈kids r.ps d k)&&fQ r.ps d (c::t))=true)
   rw[decide_eq_true (k7 hc).1,show fQ r.ps d (c::t)=true from tl.dn _ λdn ζ ζ ζ ζ=>dn];rfl
 ·rename_i h1
  have e1:gb r.ps d 20 k=[]:=by
   cases h:gb r.ps d 20 k with
   |nil=>rfl
   |cons x y=>rw[h] at h1;exact absurd rfl h1
  have t1:=lo.none e1
  split
  ·rename_i h2
   have b8:lR r.ps d k p≠[]:=λe=>by rw[e] at h2;cases h2
   refine(.mk (λζ=>lp _ λrt sm ζ=>sm λe=>?_) (λx hx=>lp _ λrt ζ ζ=>(rt x hx).2) (λx hx=>lp _ λrt ζ ζ=>⟨(rt x hx).1.sh hW,(rt x hx).1 _ λc t e hc tl=>?_⟩) (λe=>(nomatch e)) (λζ=>lp.first) (λζ=>t1) (λe=>(nomatch e)) (λe=>absurd e b8) (.inr (.inl rfl)))
   ·cases hr:lR r.ps d k p with
    |nil=>exact b8 hr
    |cons x _=>exact(rt x (by rw[hr];exact mem_cons_self)).1 _ λc t ζ hc ζ=>by rw[e] at hc;cases hc
   ·rw[e]
    refine tl.dn _ λdn ζ ζ ζ li=>.HK c t p hp (uE hc) (λq=>?_) dn
    exact BC (li k q) hk t1
  ·rename_i h2
   have e2:lR r.ps d k p=[]:=by
    cases h:lR r.ps d k p with
    |nil=>rfl
    |cons x y=>rw[h] at h2;exact absurd rfl h2
   have t2:=lp.none e2
   have fd:=Q4 (d:=d) hW hl (List.getElem?_eq_some_iff.mp hp).1
   have key:∀e∈il r.ps d k,Sh r.ps d k e.1 e.2/\Gn r d k e.1 "degree" e.2:=λe he=>by
    have hm:=Tx he
    rcases fd with fd|⟨n,hn,gR,b8,hh⟩
    ·rw[fd.1] at hm;exact nomatch hm.1
    ·refine hh _ λnd has get=>?_
     have g:=get e.1 hm.1
     rw[<-hm.2] at g
     obtain⟨⟨b,hw⟩,_⟩:=g
     refine⟨Tz hW (List.getElem?_eq_some_iff.mp hp).1 hk ((has e.1).mp hm.1).1 gR hw,?_⟩
     obtain⟨j,hj,_,mO⟩:=hw.mO
     exact .HL e.2 n j hw.len hj mO
   have len:(il r.ps d k).length<=20:=by
    unfold il iG
    rw[length_map,(mergeSort_perm _ _).length_eq]
    rcases fd with fd|⟨n,hn,gR,b8,hh⟩
    ·rw[fd.1];exact zero_le _
    ·exact hh _ λnd has get=>le_trans (ql _ _ nd λa ha=>((has a).mp ha).2.elim λb hb=>hb.range (List.getElem?_eq_some_iff.mp hp).1 (uJ hW)) hl
   refine(.mk (λb8=>?_) (λx hx=>?_) (λx hx=>?_) (λe=>(nomatch e)) (λe=>(nomatch e)) (λζ=>t1) (λζ=>t2) (λe=>?_) (.inr (.inr rfl)))
   ·refine(?_:gX (mH r.ps d k)=1)
    unfold mH
    rw[HO]
    exact Bz λe=>b8 (by refine(?_:mH r.ps d k=[]);unfold mH;rw[eq_nil_of_length_eq_zero e];rfl)
   ·obtain⟨e,he,rfl⟩:=mem_map.mp hx
    have h0:(il r.ps d k).length≠0:=λq=>by rw[eq_nil_of_length_eq_zero q] at he;cases he
    have hz:=Zm.inv h0 (LL/(il r.ps d k).length) (xJ _ len h0).2
    rw[(xJ _ len h0).1] at hz
    have:=hz.more (LL*LL^20) (mul_pos (by decide) (pow_pos (by decide)))
    rw[mul_comm] at this
    exact this
   ·obtain⟨e,he,rfl⟩:=mem_map.mp hx
    exact key e he
   ·have e:mH r.ps d k=[]:=e
    have e0:il r.ps d k=[]:=map_eq_nil_iff.mp e
    rcases fd with fd|⟨n,hn,gR,b8,hh⟩
    ·exact fd.2
    ·have:(kE r.ps d k 41 [] [((k,false),[k])] []).map (·.1)=[]:=by
      have:=map_eq_nil_iff.mp e0
      exact eq_nil_of_length_eq_zero (by rw[<-(mergeSort_perm _ (λa b=>decide (a<=b))).length_eq];exact congrArg List.length this)
     exact absurd (map_eq_nil_iff.mp this) b8
end
noncomputable def gY(ds:List cj):Rat:=(ds.map (·.part)).sum
theorem BF(a b:List cj):gY (a++b)=gY a+gY b:=by unfold gY;rw[map_append,List.sum_append]
theorem BG{n a:Nat}(h:n≠0):mkRat a n*(n:Rat)=a:=by
 rw[<-Rat.intCast_natCast,<-Rat.mkRat_one,Rat.mkRat_mul_mkRat,Nat.mul_one]
 exact((Rat.mkRat_eq_iff (d₂:=1) (n₂:=a) h (by decide)).mpr (mul_one _)).trans ((Rat.mkRat_one _).trans (Rat.intCast_natCast a))
theorem Zm.dvd{m M:Nat}{x:Rat}(h:Zm m x)(e:m ∣ M)(hM:0<M):Zm M x:=e.elim λc e=>by
 rw[e,mul_comm]
 exact h.more c (pos_of_ne_zero λq=>by rw[e,q] at hM;exact absurd hM (lt_irrefl _))
noncomputable def BH(gs:List (Nat×Rat)):Prop:=∀GfZζ:Prop,(∀(ns:List Nat) (ov un:Nat) (h:un≠0) (e:gs=ns.map λj=>(j,Rat.normalize ov un h)) (o1:1<=ov) (u1:un<1000) (le:ov*ns.length<=un),GfZζ)->GfZζ
theorem BH.mk{gs:List (Nat×Rat)}(ns:List Nat)(ov un:Nat)(h:un≠0)(e:gs=ns.map λj=>(j,Rat.normalize ov un h))(o1:1<=ov)(u1:un<1000)(le:ov*ns.length<=un):BH gs:=λζ bw=>bw ns ov un h e o1 u1 le
theorem TB{r:c7}(h:gx r)(d:Int)(k:Nat):BH (ff r d k):=h _ λζ ζ ζ g=>xi _ _ _ (λw hw=>(g w hw) _ λζ ζ ns ov un h e o1 u1 le=>(.mk ns ov un h e o1 u1 le)) (.mk [] 1 1 (by decide) rfl (by decide) (by decide) (by decide))
inductive Dg(r:c7)(d:Int)(k:Nat)(x:cj):Prop
 |xN (e:x.how="town") (h:x.dQ=none) (l:x.line=[k]):Dg r d k x
 |dQ (h:Nat) (e:x.dQ=some h) (ne:x.how≠"town") (sh:Sh r.ps d k h x.line) (gn:Gn r d k h x.how x.line):Dg r d k x
section
variable{r:c7}{d:Int}{k M:Nat}{p:aO}
noncomputable def Lt(r:c7)(d:Int)(k M:Nat)(ds:List cj)(s:Rat):Prop:=∀Ltζ:Prop,(∀(sm:gY ds=s) (zm:∀x∈ds,Zm M x.part) (ok:∀x∈ds,Dg r d k x),Ltζ)->Ltζ
theorem Lt.mk{r:c7}{d:Int}{k M:Nat}{ds:List cj}{s:Rat}(sm:gY ds=s)(zm:∀x∈ds,Zm M x.part)(ok:∀x∈ds,Dg r d k x):Lt r d k M ds s:=λζ bw=>bw sm zm ok
theorem Lt.ba{a b:List cj}{s t:Rat}(h:Lt r d k M a s)(h':Lt r d k M b t):Lt r d k M (a++b) (s+t):=h _ λs1 z1 o1=>h' _ λs2 z2 o2=>(.mk (by rw[BF,s1,s2]) (λx hx=>(mem_append.mp hx).elim (z1 x) (z2 x)) (λx hx=>(mem_append.mp hx).elim (o1 x) (o2 x)))
theorem Lt.one{x:cj}(z:Zm M x.part)(o:Dg r d k x):Lt r d k M [x] x.part:=(.mk (Rat.add_zero _) (λy hy=>mem_singleton.mp hy▸z) (λy hy=>mem_singleton.mp hy▸o))
theorem Lt.nil:Lt r d k M [] 0:=(.mk rfl (λx h=>(nomatch h)) (λx h=>nomatch h))
theorem BI{s:Rat}{f:Row->cj}(hf:∀x,(f x).part=s*x.gT):∀rs:List Row,gY (rs.map f)=s*gX rs
 |[]=>(Rat.mul_zero s).symm
 |x::rs=>by
  refine(?_:(f x).part+gY (rs.map f)=s*(x.gT+gX rs))
  rw[BI hf rs,hf,Rat.mul_add]
theorem TC(hW:cw r.ps)(hl:r.ps.length<=20){j:Nat}(hj:j<r.ps.length)(hv:lv r.ps d j=false):LO r.ps d j (dO r.ps d (kids r.ps d j)) (LL^20) (gb r.ps d 20 j):=(at_of hj).elim λq hq=>xK hW hl hq (lt_of_lt_of_le (nE (mem_of_getElem? hq)) hl)
theorem TF(hW:cw r.ps)(hl:r.ps.length<=20){g:Nat×Rat}{un:Nat}(hg:g∈ff r d k)(hj:g.1<r.ps.length)(hz:Zm un g.2)(h1:un ∣ M)(h2:un*LL^20 ∣ M)(hM:0<M):Lt r d k M (eF r.ps d k g) (if counts r.ps d g then g.2 else 0):=by
 have hm:g.1∈(ff r d k).map (·.1):=mem_map.mpr ⟨g,hg,rfl⟩
 unfold eF counts
 cases hv:lv r.ps d g.1 with
 |true=>exact Lt.one (x:=⟨some g.1,g.2,"will",[k,g.1]⟩) (hz.dvd h1 hM) (.dQ g.1 rfl (λe=>nomatch e) (.mk [g.1] rfl (λe=>(nomatch e)) rfl hv (λx hx=>nomatch hx)) (.sH g.1 [] hm rfl))
 |false=>
  refine(TC hW hl hj hv) _ λrt sm ζ=>?_
  rw[Bool.false_or]
  refine(.mk (?_) (λx hx=>?_) (λx hx=>?_))
  ·refine(?_:gY ((gb r.ps d 20 g.1).map (qp k g.2))=_)
   rw[BI (s:=g.2) λζ=>rfl]
   cases ha:(kids r.ps d g.1).any (bV r.ps d 20) with
   |true=>rw[sm (HI (c:=0) ha),Rat.mul_one];rfl
   |false=>rw[GR ha];exact Rat.mul_zero _
  ·obtain⟨y,hy,rfl⟩:=mem_map.mp hx
   exact(hz.mul (rt y hy).2).dvd h2 hM
  ·obtain⟨y,hy,rfl⟩:=mem_map.mp hx
   refine(rt y hy).1 _ λc t e hc tl=>tl.dn _ λdn la lh mid li=>?_
   refine .dQ y.dQ rfl (λe=>nomatch e) ?_ ?_
   ·refine(?_:Sh r.ps d k y.dQ (k::y.line))
    rw[e]
    exact(.mk (g.1::c::t) rfl (λe=>(nomatch e)) la lh (λx hx=>(mem_cons.mp hx).elim (λe=>e▸⟨hv,hj⟩) λhx=>⟨mid x hx,xG hW (li x (List.dropLast_subset _ hx))⟩))
   ·refine(?_:Gn r d k y.dQ "will" (k::y.line))
    rw[e]
    refine .sH g.1 (c::t) hm ?_
    refine(?_:(decide (c∈kids r.ps d g.1)&&fQ r.ps d (c::t))=true)
    rw[decide_eq_true (k7 hc).1,dn];rfl
theorem HP(hW:cw r.ps)(hl:r.ps.length<=20){un:Nat}(h1:un ∣ M)(h2:un*LL^20 ∣ M)(hM:0<M):∀{gs:List (Nat×Rat)} {s:Rat} {A:List cj},(∀g∈gs,g∈ff r d k/\g.1<r.ps.length/\Zm un g.2)->Lt r d k M A s->Lt r d k M (A++gs.flatMap (eF r.ps d k)) (gs.foldl (gH r.ps d) s)
 |[],s,A,_,h=>by rw[flatMap_nil,append_nil];exact h
 |g::gs,s,A,hg,h=>by
  rw[flatMap_cons,<-append_assoc]
  refine HP hW hl h1 h2 hM (s:=gH r.ps d s g) (λg h=>hg g (.tail _ h)) ?_
  have hh:=hg g mem_cons_self
  have:=h.ba (TF hW hl hh.1 hh.2.1 hh.2.2 h1 h2 hM)
  unfold gH
  split
  ·rename_i hc;rw[if_pos hc] at this;exact this
  ·rename_i hc;rw[if_neg hc,Rat.add_zero] at this;exact this
theorem HQ{q:Rat}:∀(ns:List Nat) (s:Rat),∃c,c<=ns.length/\(ns.map λj=>(j,q)).foldl (gH r.ps d) s=s+q*(c:Rat)
 |[],s=>⟨0,le_refl _,((congrArg (s+·) (Rat.mul_zero q)).trans (Rat.add_zero s)).symm⟩
 |j::ns,s=>(HQ ns (gH r.ps d s (j,q))).elim λc hc=>by
  rw[map_cons,foldl_cons,hc.2]
  unfold gH
  split
  ·refine⟨c+1,succ_le_succ hc.1,?_⟩
   rw[Rat.natCast_add,Rat.mul_add,Rat.add_assoc,Rat.add_comm (q*(c:Rat))]
   exact congrArg (λy=>s+(y+q*(c:Rat))) (Rat.mul_one q).symm
  ·exact⟨c,Nat.le_succ_of_le hc.1,rfl⟩
theorem TG{gs:List (Nat×Rat)}{ns:List Nat}{ov un:Nat}(h:un≠0)(e:gs=ns.map λj=>(j,Rat.normalize ov un h))(le:ov*ns.length<=un)(b8:((gf r.ps d gs).num==0)=false):Zm un (gf r.ps d gs):=by
 obtain⟨c,hc,hs⟩:=HQ (r:=r) (d:=d) (q:=Rat.normalize ov un h) ns 0
 have hq:Rat.normalize ov un h*(un:Rat)=ov:=by rw[Rat.normalize_eq_mkRat];exact BG h
 have hR:gf r.ps d gs*(un:Rat)+(((ov*c:Nat)):Rat)=(un:Rat):=by
  unfold gf
  rw[e,hs,Rat.natCast_mul,<-hq];grind
 have kO:ov*c<=un:=le_trans (mul_le_mul_left ov hc) le
 have hz:gf r.ps d gs*(un:Rat)=((un - ov*c:Nat):Rat):=by
  have e2:(un:Rat)=((un - ov*c:Nat):Rat)+((ov*c:Nat):Rat):=by rw[<-Rat.natCast_add,sub_add_cancel kO]
  rw[e2] at hR
  grind
 refine⟨un - ov*c,pos_of_ne_zero λq=>?_,hz⟩
 rw[q] at hz
 rcases Rat.mul_eq_zero.mp (hz.trans rfl) with h0|h0
 ·rw[h0] at b8;cases b8
 ·exact h (Rat.natCast_eq_zero_iff.mp h0)
end
noncomputable def jB(r:c7)(d:Int)(k:Nat)(p:aO)(ds:List cj):Prop:=∀DsGζ:Prop,(∀(M:Nat) (hM:0<M) (ji:M<2^1000) (lt:Lt r d k M ds 1) (f1:∀x∈ds,x.how="line"->∀c,(∃x,x∈ds/\x.how="line"/\x.line[1]?=some c)↔c∈dO r.ps d (kids r.ps d k)) (f2:∀x∈ds,x.how="parents"->∀c,(∃x,x∈ds/\x.how="parents"/\x.line[1]?=some c)↔c∈gV r.ps d k p) (n1:∀x∈ds,x.how="parents"\/x.how="degree"->dO r.ps d (kids r.ps d k)=[]) (n2:∀x∈ds,x.how="degree"->gV r.ps d k p=[]) (tw:∀x∈ds,x.how="town"->gW r.ps d k r.ms=none/\∀m,¬kZ r.ps d k m),DsGζ)->DsGζ
theorem jB.mk{r:c7}{d:Int}{k:Nat}{p:aO}{ds:List cj}(M:Nat)(hM:0<M)(ji:M<2^1000)(lt:Lt r d k M ds 1)(f1:∀x∈ds,x.how="line"->∀c,(∃x,x∈ds/\x.how="line"/\x.line[1]?=some c)↔c∈dO r.ps d (kids r.ps d k))(f2:∀x∈ds,x.how="parents"->∀c,(∃x,x∈ds/\x.how="parents"/\x.line[1]?=some c)↔c∈gV r.ps d k p)(n1:∀x∈ds,x.how="parents"\/x.how="degree"->dO r.ps d (kids r.ps d k)=[])(n2:∀x∈ds,x.how="degree"->gV r.ps d k p=[])(tw:∀x∈ds,x.how="town"->gW r.ps d k r.ms=none/\∀m,¬kZ r.ps d k m):jB r d k p ds:=λζ bw=>bw M hM ji lt f1 f2 n1 n2 tw
inductive Ah(r:c7)(d:Int)(k:Nat)(x:cj):Prop
 |sH (e:x.how="will")
 |xM (e:x.how="spouse")
 |xN (e:x.how="town") (h:gW r.ps d k r.ms=none) (al:∀m,¬kZ r.ps d k m)
section
variable{r:c7}{d:Int}{k M:Nat}{p:aO}
theorem jB.of{A ds:List cj}{rs:List Row}{R:Rat}{how:Str}(eds:ds=A++rs.map (jR R how))(hM:0<M)(ji:M<2^1000)(lt:Lt r d k M ds 1)(hA:∀x∈A,Ah r d k x)(hk:rs≠[]->sI r d k p how rs):jB r d k p ds:=by
 have kd:∀{x:cj},x∈ds->(x.how="line"\/x.how="parents"\/x.how="degree")->∃y,y∈rs/\x.line=y.line/\x.how=how:=λ{x} hx hs=>by
  rw[eds] at hx
  rcases mem_append.mp hx with hx|hx
  ·rcases hA x hx with e|e|e<;>rw[e] at hs<;>rcases hs with h|h|h<;>exact nomatch h
  ·obtain⟨y,hy,rfl⟩:=mem_map.mp hx
   exact⟨y,hy,rfl,rfl⟩
 have kg:∀{y:Row},y∈rs->sI r d k p how rs:=λhy=>hk (ne_nil_of_mem hy)
 have bk:∀{y:Row},y∈rs->jR R how y∈ds:=λhy=>eds▸mem_append_right _ (mem_map.mpr ⟨_,hy,rfl⟩)
 refine(.mk M hM ji lt (λx hx e c=>?_) (λx hx e c=>?_) (λx hx e=>?_) (λx hx e=>?_) (λx hx e=>?_))
 ·obtain⟨y,hy,_,eh⟩:=kd hx (.inl e)
  have eh:=eh.symm.trans e
  refine(kg hy) _ λζ ζ ζ f1 ζ ζ ζ ζ ζ=>(Iff.trans ⟨λq=>?_,λq=>?_⟩ (f1 eh c))
  ·obtain⟨x,hx,e,ec⟩:=q
   obtain⟨y,hy,el,_⟩:=kd hx (.inl e)
   exact⟨y,hy,el▸ec⟩
  ·obtain⟨y,hy,ec⟩:=q
   exact⟨_,bk hy,eh,ec⟩
 ·obtain⟨y,hy,_,eh⟩:=kd hx (.inr (.inl e))
  have eh:=eh.symm.trans e
  refine(kg hy) _ λζ ζ ζ ζ f2 ζ ζ ζ ζ=>(Iff.trans ⟨λq=>?_,λq=>?_⟩ (f2 eh c))
  ·obtain⟨x,hx,e,ec⟩:=q
   obtain⟨y,hy,el,_⟩:=kd hx (.inr (.inl e))
   exact⟨y,hy,el▸ec⟩
  ·obtain⟨y,hy,ec⟩:=q
   exact⟨_,bk hy,eh,ec⟩
 ·obtain⟨y,hy,_,eh⟩:=kd hx (.inr e)
  exact(kg hy) _ λζ ζ ζ ζ ζ n1 ζ ζ ζ=>n1 λq=>by rw[eh,q] at e;rcases e with e|e<;>exact nomatch e
 ·obtain⟨y,hy,_,eh⟩:=kd hx (.inr (.inr e))
  exact(kg hy) _ λζ ζ ζ ζ ζ ζ n2 ζ ζ=>n2 (eh.symm.trans e)
 ·rw[eds] at hx
  rcases mem_append.mp hx with hx|hx
  ·rcases hA x hx with e'|e'|⟨_,h,al⟩
   ·exact nomatch e'.symm.trans e
   ·exact nomatch e'.symm.trans e
   ·exact⟨h,al⟩
  ·obtain⟨y,hy,rfl⟩:=mem_map.mp hx
   have e:how="town":=e
   exact(kg hy) _ λζ ζ ζ ζ ζ ζ ζ ζ hw=>by rw[e] at hw;rcases hw with h|h|h<;>exact nomatch h
theorem HR{rs:List Row}{how:Str}{R:Rat}{m:Nat}(h:sI r d k p how rs)(hz:Zm m R)(e:m*MM ∣ M)(hM:0<M)(b8:rs≠[]):Lt r d k M (rs.map (jR R how)) R:=h _ λsm zm ok ζ ζ ζ ζ ζ hw=>(.mk (by rw[BI (s:=R) λζ=>rfl,sm b8,Rat.mul_one]) (λx hx=>(mem_map.mp hx).elim λy hy=>hy.2▸(hz.mul (zm y hy.1)).dvd e hM) (λx hx=>(mem_map.mp hx).elim λy hy=>hy.2▸.dQ y.dQ rfl (λq=>by have q:how="town":=q;rw[q] at hw;rcases hw with h|h|h<;>exact nomatch h) (ok y hy.1).1 (ok y hy.1).2))
theorem TH(how:Str)(rs:List Row):(rs=[]/\qt how rs=1)\/(rs≠[]/\Zm 4 (qt how rs)/\Zm 4 (1 - qt how rs)):=by
 unfold qt
 cases rs with
 |nil=>exact .inl ⟨rfl,rfl⟩
 |cons x y=>
  refine .inr ⟨λe=>(nomatch e),?_⟩
  rw[if_neg (show ¬(x::y).isEmpty=true from Bool.false_ne_true)]
  split
  ·exact⟨⟨1,by decide,by decide +kernel⟩,3,by decide,by decide +kernel⟩
  ·split
   ·exact⟨⟨2,by decide,by decide +kernel⟩,2,by decide,by decide +kernel⟩
   ·exact⟨⟨3,by decide,by decide +kernel⟩,1,by decide,by decide +kernel⟩
theorem HS{s:Nat}:∀{ms:List gd},gW r.ps d k ms=some s->∃w,w∈ms/\((w.a=k/\w.b=s)\/(w.b=k/\w.a=s))/\w.day<=d/\lv r.ps d s=true
 |[],h=>nomatch h
 |w::ms,h=>by
  have eqk:∀{a:Nat},ip a k=true->a=k:=λh=>ofNat.inj (eq_of_beq h)
  unfold gW at h
  split at h
  ·rename_i h1
   cases h
   have h1:=and_eq_true_iff.mp h1
   have h2:=and_eq_true_iff.mp h1.2
   exact⟨w,mem_cons_self,.inl ⟨eqk h2.1,rfl⟩,of_decide_eq_true h1.1,h2.2⟩
  ·split at h
   ·rename_i h1
    cases h
    have h1:=and_eq_true_iff.mp h1
    have h2:=and_eq_true_iff.mp h1.2
    exact⟨w,mem_cons_self,.inr ⟨eqk h2.1,rfl⟩,of_decide_eq_true h1.1,h2.2⟩
   ·exact(HS h).elim λw hw=>⟨w,.tail _ hw.1,hw.2⟩
theorem xO{x:cj}(h:x∈(ff r d k).flatMap (eF r.ps d k)):Ah r d k x:=(mem_flatMap.mp h).elim λg hg=>by
 have h:=hg.2
 unfold eF at h
 split at h
 ·rw[mem_singleton.mp h];exact .sH rfl
 ·exact(mem_map.mp h).elim λy hy=>hy.2▸.sH rfl
theorem TI(hr:gx r)(hp:r.ps[k]?=some p)(hk:lv r.ps d k=false):jB r d k p (nL r d k p):=hr _ λhW hl ζ ζ=>(TB hr d k) _ λns ov un h e o1 u1 le=>by
 have hM:0<un*4*MM:=mul_pos (mul_pos (pos_of_ne_zero h) (by decide)) (by unfold MM;decide)
 have ji:un*4*MM<2^1000:=lt_of_le_of_lt (mul_le_mul_right _ (mul_le_mul_right 4 (le_of_lt u1))) (by unfold MM;decide +kernel)
 have d0:un ∣ un*4*MM:=⟨4*MM,mul_assoc _ _ _⟩
 have d1:un*LL^20 ∣ un*4*MM:=by
  rw[mul_assoc]
  exact Nat.mul_dvd_mul_left un ⟨4*(LL*LL),by unfold MM;generalize LL^20=z;rw[<-mul_assoc LL LL z,<-mul_assoc 4,mul_comm]⟩
 have d2:un*MM ∣ un*4*MM:=by rw[mul_assoc];exact Nat.mul_dvd_mul_left un ⟨4,mul_comm _ _⟩
 have d4:un*4 ∣ un*4*MM:=⟨MM,rfl⟩
 have d5:∃N,N=un*4*MM:=⟨_,rfl⟩
 obtain⟨M,eM⟩:=d5
 rw[<-eM] at hM ji d0 d1 d2 d4
 have d5:un*4*MM ∣ M:=eM▸Nat.dvd_refl _
 clear eM
 have hg:=xn hr d k
 have hq:∀g∈ff r d k,Zm un g.2:=λg hg=>by
  rw[e] at hg
  obtain⟨j,_,rfl⟩:=mem_map.mp hg
  exact⟨ov,o1,by rw[Rat.normalize_eq_mkRat];exact BG h⟩
 have gl:Lt r d k M ((ff r d k).flatMap (eF r.ps d k)) ((ff r d k).foldl (gH r.ps d) 0):=HP hW hl d0 d1 hM (λg pU=>⟨pU,(hg.1 g pU).1,hq g pU⟩) Lt.nil
 have eT:(ff r d k).foldl (gH r.ps d) 0+gf r.ps d (ff r d k)=1:=by unfold gf;grind
 have kg:=TA (d:=d) hW hl hp hk
 have eb:=GY r.ps d k p
 unfold nL sg
 cases h0:(gf r.ps d (ff r d k)).num==0 with
 |true=>
  have:gf r.ps d (ff r d k)=0:=Rat.num_eq_zero.mp (eq_of_beq h0)
  rw[this,Rat.add_zero] at eT
  rw[eT] at gl
  exact jB.of (A:=(ff r d k).flatMap (eF r.ps d k)) (rs:=[]) (R:=0) (how:="line") (append_nil _).symm hM ji gl (λx=>xO) λq=>absurd rfl q
 |false=>
  have hz:=TG (r:=r) (d:=d) h e le h0
  rw[if_neg (by decide)]
  generalize gf r.ps d (ff r d k)=R at eT hz
  generalize ey r.ps d k p=kp at kg eb ⊢
  cases hs:gW r.ps d k r.ms with
  |none=>
   refine(?_:jB r d k p (if kp.2.1.isEmpty then _ else _))
   cases qH:kp.2.1 with
   |nil=>
    rw[qH] at kg
    have al:∀m,¬kZ r.ps d k m:=kg _ λζ ζ ζ ζ ζ ζ ζ al ζ=>al rfl
    refine jB.of (A:=(ff r d k).flatMap (eF r.ps d k)++[⟨none,R,"town",[k]⟩]) (rs:=[]) (R:=0) (how:="line") (append_nil _).symm hM ji (eT▸gl.ba (Lt.one (x:=⟨none,R,"town",[k]⟩) (hz.dvd d0 hM) (.xN rfl rfl rfl))) (λx hx=>(mem_append.mp hx).elim xO λhx=>?_) λq=>absurd rfl q
    rw[mem_singleton.mp hx];exact .xN rfl hs al
   |cons y z=>
    rw[<-qH]
    have b8:kp.2.1≠[]:=λq=>by rw[q] at qH;cases qH
    rw[if_neg (show ¬kp.2.1.isEmpty=true by rw[qH];exact Bool.false_ne_true)]
    exact jB.of rfl hM ji (eT▸gl.ba (HR kg hz d2 hM b8)) (λx=>xO) λζ=>kg
  |some s=>
   obtain⟨w,hw,ew,hd,hv⟩:=HS hs
   have sp:∀{y:Rat},Zm M y->Lt r d k M [⟨some s,y,"spouse",[k,s]⟩] y:=λhy=>Lt.one (x:=⟨some s,_,"spouse",[k,s]⟩) hy (.dQ s rfl (λe=>nomatch e) (.mk [s] rfl (λe=>(nomatch e)) rfl hv (λx hx=>nomatch hx)) (.xM w hw ew hd))
   have hA:∀{y:Rat},∀x∈(ff r d k).flatMap (eF r.ps d k)++[⟨some s,y,"spouse",[k,s]⟩],Ah r d k x:=λx hx=>(mem_append.mp hx).elim xO λhx=>by rw[mem_singleton.mp hx];exact .xM rfl
   refine(?_:jB r d k p ((_++[_])++kp.2.1.map _))
   rcases TH kp.1 kp.2.1 with⟨qH,hb⟩|⟨b8,hb⟩
   ·rw[eb] at hb
    refine jB.of rfl hM ji ?_ hA λζ=>kg
    rw[qH,hb,Rat.mul_one,map_nil,append_nil]
    exact eT▸gl.ba (sp (hz.dvd d0 hM))
   ·rw[eb] at hb
    have e1:R - R*kp.2.2=R*(1 - kp.2.2):=by grind
    refine jB.of rfl hM ji ?_ hA λζ=>kg
    have l1:=(gl.ba (sp ((hz.mul hb.1).dvd d4 hM))).ba (HR kg (m:=un*4) (hz.mul hb.2) d5 hM b8)
    rw[<-e1] at l1
    have e2:(ff r d k).foldl (gH r.ps d) 0+R*kp.2.2+(R - R*kp.2.2)=1:=by rw[<-eT];grind
    rw[e2] at l1
    exact l1
end
section
variable{ws:List Nat}{H₀ H:Hp}{t:cV}{test:aV->Hp->(Bool->Hp->Prop)->Prop}{elt:aV->Hp->PQ->Prop}{Q:List V->Hp->Prop}{α:Type}{g F:α->V}{P:α->Bool}{E:α->aV}{sh:aV->Prop}
theorem BJ(i n:Nat):(max (0:Int) (min (i:Int) (n:Int))).toNat=min i n:=by rw[CU,Int.max_eq_right (natCast_nonneg _)];rfl
theorem HT(n:Nat):-1+((n+1:Nat):Int)=n:=by rw[Int.natCast_add,Int.add_comm (n:Int)];exact Int.neg_add_cancel_left 1 n
theorem HU{a k:Nat}(h:k<a):a - k=a - (k+1)+1:=by rw[Nat.sub_add_eq,sub_add_cancel (Nat.sub_pos_of_lt h)]
theorem xP(hE:∀a ρ,sh ρ->aX t (g a) ρ=some (E a))(hs:∀a,sh (E a))(st:∀H',aI H H'->d6 ws H₀ H'=true):∀(as:List α) (ρ:aV) (acc:List V) (H₁:Hp),sh ρ->aI H H₁->(∀a,a∈as->∀H₁,aI H H₁->∀T:Bool->Hp->Prop,(∀H₂,aI H₁ H₂->T (P a) H₂)->test (E a) H₁ T)->(∀a,a∈as->P a=true->∀H₁,aI H H₁->∀N:PQ,N (F a) H₁->elt (E a) H₁ N)->(∀H₂,aI H H₂->Q (acc++(as.filter P).map F) H₂)->gC ws H₀ t test elt (as.map g) ρ H₁ acc Q
 |[],ρ,acc,H₁,h,x,_,_,q=>by have q:=q H₁ x;rw[filter_nil,map_nil,append_nil] at q;exact q
 |a::as,ρ,acc,H₁,h,x,ht,he,q=>by
  refine aG (hE a ρ h) (ht a mem_cons_self H₁ x _ λH₂ cf=>?_)
  have x2:=x.trans cf
  rw[filter_cons] at q
  have go:∀acc',(∀H₂,aI H H₂->Q (acc'++(as.filter P).map F) H₂)->gC ws H₀ t test elt (as.map g) (E a) H₂ acc' Q:=λacc'=>xP hE hs st as _ acc' H₂ (hs a) x2 (λa ha=>ht a (.tail _ ha)) λa ha=>he a (.tail _ ha)
  cases hp:P a with
  |true=>
   rw[hp] at q
   exact he a mem_cons_self hp H₂ x2 _ ⟨st _ x2,go _ λH₃ co=>by rw[append_assoc];exact q H₃ co⟩
  |false=>
   rw[hp] at q
   exact⟨st _ x2,go _ q⟩
end
theorem HV{α:Type}{g:α->V}{de:aV}(a:α)(ρ:aV)(h:∃o,ρ=o::de):aX (.U 0) (g a) ρ=some (some (g a)::de):=h.elim λo e=>by rw[e];rfl
noncomputable def k8{α:Type}:Nat->List α->List (Nat×α)
 |_,[]=>[]
 |k,x::r=>(k,x)::k8 (k+1) r
theorem HW{α:Type}{g:α->V}:∀(k:Nat) (xs:List α),m6 k (xs.map g)=(k8 k xs).map λp=>.aP [nv p.1,g p.2]
 |_,[]=>rfl
 |k,x::r=>congrArg (V.aP [nv k,g x]::·) (HW (g:=g) (k+1) r)
theorem u0{α:Type}{p:Nat×α}:∀{k:Nat} {xs:List α},p∈k8 k xs↔k<=p.1/\xs[p.1 - k]?=some p.2
 |k,[]=>⟨λh=>(nomatch h),λh=>nomatch h.2⟩
 |k,x::r=>by
  refine(?_:p∈(k,x)::k8 (k+1) r↔_)
  rw[mem_cons,u0]
  constructor
  ·rintro(rfl|⟨h1,h2⟩)
   ·exact⟨le_refl _,by refine(?_:(x::r)[k - k]?=_);rw[sub_self];rfl⟩
   ·refine⟨le_of_succ_le h1,?_⟩
    rw[show p.1 - k=p.1 - (k+1)+1 from HU h1];exact h2
  ·rintro⟨h1,h2⟩
   rcases lt_or_eq_of_le h1 with h|h
   ·refine .inr ⟨h,?_⟩
    rw[show p.1 - k=p.1 - (k+1)+1 from HU h] at h2;exact h2
   ·refine .inl ?_
    rw[h,sub_self] at h2
    exact Prod.ext h.symm (Option.some.inj h2).symm
theorem HX{α:Type}:∀(k:Nat) (xs:List α),(k8 k xs).length=xs.length
 |_,[]=>rfl
 |k,x::r=>congrArg Nat.succ (HX (k+1) r)
theorem HY:∀x y:List Nat,PyData.eqvAll (x.map λi:Nat=>.int i) (y.map λi:Nat=>.int i)=decide (x=y)
 |[],[]=>rfl
 |[],_::_=>rfl
 |_::_,[]=>rfl
 |a::x,b::y=>by
  refine(?_:(((a:Int)==(b:Int))&&PyData.eqvAll _ _)=_)
  rw[HY x y]
  by_cases h:a=b
  ·rw[h,beq_self_eq_true,Bool.true_and]
   exact decide_eq_decide.mpr ⟨λe=>by rw[e],λe=>(List.cons.inj e).2⟩
  ·rw[show((a:Int)==(b:Int))=false from beq_eq_false_iff_ne.mpr λe=>h (ofNat.inj e)]
   exact(decide_eq_false λe=>h (List.cons.inj e).1).symm
section
variable{n:Nat}{C:Cl}{ρ:aV}{H:Hp}{Q:PQ}{K:Out->Prop}{R:Bool->Hp->Prop}{rest:List S}{x y:List Nat}{a b i:Nat}
theorem HZ(ha:H[a]?=some (.list (bb x)))(hb:H[b]?=some (.list (bb y))):fT .eq (.ref a) (.ref b) H=some (decide (x=y)):=by
 refine(?_:kL H (.ref a) (.ref b)=_)
 unfold kL
 rw[none_list ha,oP ha (iS 9 x),oP hb (iS 9 y)]
 exact congrArg some (HY x y)
theorem BK(ha:H[a]?=some (.list (bb x)))(hb:H[b]?=some (.list (bb y))):fT .ne (.ref a) (.ref b) H=some (!decide (x=y)):=congrArg (Option.map (!·)) (HZ ha hb)
theorem BL(h:H[a]?=some (.list (bb x)))(hx:x.length<64)(q:Q (.ref H.length) (H++[.list (bb (iG x))])):pC .sortI [.ref a] H Q:=aG (pG h) ⟨by rw[length_map];exact hx,λjs hp hs=>by
 rw[GC hp hs,map_map];exact q⟩
theorem TJ{l:List Nat}(i:Nat):dW l (some (i:Int)) none=l.drop i:=by
 refine(?_:(l.take l.length).drop (max (0:Int) (min (if(i:Int)<0 then(i:Int)+l.length else i) l.length)).toNat=_)
 rw[take_length,if_neg (Int.not_lt.mpr (natCast_nonneg i)),show(max (0:Int) (min (i:Int) l.length)).toNat=min i l.length from BJ _ _]
 rcases le_total i l.length with h|h
 ·rw[min_eq_left h]
 ·rw[Nat.min_eq_right h,List.drop_length,List.drop_eq_nil_of_le h]
theorem BM(h:i<=1000):ma (nv i)=some (some (i:Int)):=if_pos (lt_of_le_of_lt (show(i:Int).natAbs<=1000 from h) (by decide))
theorem BN(hL:H[a]?=some (.list (bb x)))(hx:x.length<=1000)(hi:i<=1000)(q:Q (.ref H.length) (H++[.list (bb (x.drop i))])):qZ (.ref a) (nv i) .none H Q:=by
 refine aG (BM hi) (aG (a:=none) rfl (aG (cN hL) ?_))
 rw[uP,TJ]
 exact cK (cO (by rw[length_map,length_drop];exact lt_of_le_of_lt (sub_le _ _) (lt_of_le_of_lt hx (by decide)))) q
theorem oS{s:E}{lo hi:Option E}(h:WE C s ρ H λx H=>WO C lo ρ H λl H=>WO C hi ρ H λh H=>qZ x l h H Q):WE C (.dT s lo hi) ρ H Q:=h
theorem lZ{f:Bi}{s:E}(h:WE C s ρ H λx H=>pC f [x] H Q):WE C (.bi f [s]) ρ H Q:=h
theorem TK{s:E}(h:WE C s ρ H λx H=>be (copyOf H x) λvs=>n4 vs H Q):WE C (.listOf s) ρ H Q:=h
theorem TM{s t:E}(h:WE C s ρ H λx H=>WE C t ρ H λy H=>Q (.ref H.length) (H++[.list [x,y]])):WE C (.bE [s,t]) ρ H Q:=h
theorem TN{vs:List V}(q:Q (.aP (vs.take 2)) H):qZ (.aP vs) .none (.int 2) H Q:=aG (a:=none) rfl (aG (a:=some 2) rfl q)
theorem qI(h:Q .none H):WO C none ρ H Q:=h
theorem nP{s:E}(h:WE C s ρ H Q):WO C (some s) ρ H Q:=h
theorem TO{s:E}{R:List V×List Nat->Hp->Prop}(h:WE C s ρ H λx H=>be (cP H x) λvs=>R (m6 0 vs,watch x) H):me C (.i4 s) ρ H R:=h
theorem H0{how s:Str}{t:Bool}(hv:ρ[3]?.join=some (.str how))(ho:PyData.strOk how=true)(hs:PyData.strOk s=true)(et:(how==s)=t)(h:R t H):n7 C (.cmp .eq (.U 3) (.k (.str s))) ρ H R:=uX (aQ hv (bG (aG (oQ ho hs) (et▸h))))
end
noncomputable abbrev fL(l lm lw k h:Nat)(how:Str)(ll:Nat)(d:Int)(o7 o8 o9 o10 bS b9 bP:Option V):aV:=[some (cM l lm lw),some (nv k),some (nv h),some (.str how),some (.ref ll),some (.int d),some (.ref l),o7,o8,o9,o10,bS,b9,bP]
section
variable{n:Nat}{H:Hp}{Q:PQ}{K:Out->Prop}{rest:List S}{d:Int}{l lm lw k h ll:Nat}{how:Str}{o6 o7 o8 o9 o10 bS b9 bP:Option V}{r:c7}
noncomputable abbrev TP:List S:=[.aX (.U 7) (.comp 1 (.U 0) (.U 0) (.of (.aU (.U 0) (.k (.int 1)))) [(.and [(.cmp .eq (.bi .sortI [(.listOf (.dT (.U 0) none (some (.k (.int 2)))))]) (.bi .sortI [(.bE [.U 2,.U 3])])),(.cmp .le (.aU (.U 0) (.k (.int 2))) (.U 6))])]),
   .ret (.and [(.cmp .eq (.bi .len [.U 4]) (.k (.int 2))),(.cmp .ne (.U 7) (.bE []))])]
noncomputable def sJ(k h:Nat)(d:Int)(w:gd):Bool:=decide (iG [w.a,w.b]=iG [k,h])&&decide (w.day<=d)
theorem TQ(hm:H[lm]?=some (.list (r.ms.map iT)))(gJ:r.ms.length<=1000)(hL:H[ll]?=some (.list (bb [k,h]))){w:gd}(hw:w∈r.ms)(ew:(w.a=k/\w.b=h)\/(w.b=k/\w.a=h))(hd:w.day<=d)(q:∀H',aI H H'->K (.ret (.bool true) H')):aY (aM n) (TP++rest) (fL l lm lw k h how ll d o7 o8 o9 o10 bS b9 bP) H K:=by
 have hb:sJ k h d w=true:=by
  unfold sJ
  rw[decide_eq_true hd,Bool.and_true]
  refine decide_eq_true (Perm.eq_of_pairwise (le:=λa b:Nat=>a<=b) (λa b ζ ζ h1 h2=>le_antisymm h1 h2) ?_ ?_ ?_)
  ·exact(List.pairwise_mergeSort (le:=λa b:Nat=>decide (a<=b)) (λa b c h1 h2=>decide_eq_true (le_trans (of_decide_eq_true h1) (of_decide_eq_true h2))) (λa b=>by rw[or_eq_true];exact(le_total a b).imp (λh=>decide_eq_true h) λh=>decide_eq_true h) _).imp of_decide_eq_true
  ·exact(List.pairwise_mergeSort (le:=λa b:Nat=>decide (a<=b)) (λa b c h1 h2=>decide_eq_true (le_trans (of_decide_eq_true h1) (of_decide_eq_true h2))) (λa b=>by rw[or_eq_true];exact(le_total a b).imp (λh=>decide_eq_true h) λh=>decide_eq_true h) _).imp of_decide_eq_true
  ·refine(mergeSort_perm _ _).trans (Perm.trans ?_ (mergeSort_perm _ _).symm)
   rcases ew with⟨rfl,rfl⟩|⟨rfl,rfl⟩
   ·exact Perm.refl _
   ·exact Perm.swap _ _ _
 refine cU (jh (iJ (c5 (aQ rfl (bG (aG (a:=.ref lm) rfl (aG (dz hm) (cK (cO (by rw[length_map];exact lt_of_le_of_lt gJ (by decide))) ?_))))))))
 refine xP (H:=H) (g:=iT) (F:=iT) (P:=sJ k h d) (HV (de:=fL l lm lw k h how ll d o7 o8 o9 o10 bS b9 bP)) (λa=>⟨_,rfl⟩) (λH' x=>dr hm (x _ _ hm)) r.ms _ [] H ⟨none,rfl⟩ (aI.refl _) (λw hw H₁ x T hT=>?_) (λw ζ ζ H₁ ζ N hN=>hN) λH₂ x2=>iU (aG (a:=fL l lm lw k h how ll d (some (.ref H₂.length)) o8 o9 o10 bS b9 bP) rfl ?_)
 ·refine sE (mN (cR (lZ (TK (oS (aQ (v:=iT w) rfl (qI (nP (bG (TN (aG (a:=[nv w.a,nv w.b]) rfl (cK (cO (l:=[nv w.a,nv w.b]) (show 2<16000000 by decide)) (iU ?_)))))))))))))
  refine BL (x:=[w.a,w.b]) (bq _ _) (show 2<64 by decide) (lZ (TM (aQ (v:=nv k) rfl (aQ (v:=nv h) rfl ?_))))
  refine BL (x:=[k,h]) (bq _ _) (show 2<64 by decide) (aG (HZ (bz _ (bz _ (bq _ _))) (bq _ _)) (aG (a:=decide (iG [w.a,w.b]=iG [k,h])) rfl ?_))
  have x1:=(aI.ba H₁ [bc.list [nv w.a,nv w.b]]).trans ((aI.ba _ [bc.list (bb (iG [w.a,w.b]))]).trans ((aI.ba _ [bc.list (bb [k,h])]).trans (aI.ba _ [bc.list (bb (iG [k,h]))])))
  have hT:=hT _ x1
  unfold sJ at hT
  refine e8 (λh1=>?_) λh1=>?_
  ·rw[h1,Bool.true_and] at hT
   exact cR (c5 (aQ (v:=iT w) rfl (bG (aG (a:=.int w.day) rfl (aQ (v:=.int d) rfl (aG (a:=decide (w.day<=d)) rfl (aG (a:=decide (w.day<=d)) rfl (lW (T:=T) hT))))))))
  ·rw[h1,Bool.false_and] at hT
   exact aG (a:=decide (iG [w.a,w.b]=iG [k,h])) rfl (dJ h1 hT)
 ·refine k5 (mN (cR (qE rfl (bz _ (x2 _ _ hL)) (bG (aG (a:=true) rfl (aG (a:=true) rfl (jO rfl ?_)))))))
  refine cR (aQ rfl (jx (aG (ne_nil (ds:=(r.ms.filter (sJ k h d)).map qC) (bz _ (bq _ _)) (qA (λa=>rfl) _) (bq _ _)) ?_)))
  rw[isEmpty_map,show(r.ms.filter (sJ k h d)).isEmpty=false from List.isEmpty_eq_false_iff.mpr (ne_nil_of_mem (mem_filter.mpr ⟨hw,hb⟩))]
  exact q _ (x2.trans ((aI.ba _ _).trans (aI.ba _ _)))
end
noncomputable def jj(k:Nat)(d:Int)(p:Nat×fJ):Bool:=ip p.2.jv k&&decide (p.2.day<=d)
section
variable{k:Nat}{d:Int}
theorem H6{g:List (Nat×Rat)}{m:Int}:∀{ws:List fJ},(∀w∈ws,jj k d (0,w)=true->w.day<m)->fB k d ws m g=g
 |[],_=>rfl
 |w::r,h=>by
  unfold fB
  split
  ·rename_i hc
   have h1:=and_eq_true_iff.mp hc
   have h2:=and_eq_true_iff.mp h1.2
   have:=h w mem_cons_self (and_eq_true_iff.mpr ⟨h1.1,h2.2⟩)
   exact absurd (of_decide_eq_true h2.1) (Int.not_le.mpr this)
  ·exact H6 λw hw=>h w (.tail _ hw)
theorem BO{w:fJ}:∀{ws:List fJ} {i:Nat} {m:Int} {g:List (Nat×Rat)},ws[i]?=some w->jj k d (0,w)=true->m<=w.day->(∀j w',ws[j]?=some w'->jj k d (0,w')=true->w'.day<w.day\/(w'.day=w.day/\j<=i))->fB k d ws m g=w.e9
 |[],_,_,_,h,_,_,_=>nomatch h
 |v::r,0,m,g,h,hb,hm,hx=>by
  cases h
  have h1:=and_eq_true_iff.mp hb
  unfold fB
  rw[if_pos (by rw[h1.1,h1.2,decide_eq_true hm];rfl)]
  refine H6 λw' hw fZ=>(getElem?_of_mem hw).elim λj hj=>(hx (j+1) w' hj fZ).elim id λq=>absurd q.2 (Nat.not_succ_le_zero j)
 |v::r,i+1,m,g,h,hb,hm,hx=>by
  have pP:∀j w',r[j]?=some w'->jj k d (0,w')=true->w'.day<w.day\/(w'.day=w.day/\j<=i):=λj w' hj fZ=>(hx (j+1) w' hj fZ).imp id λq=>⟨q.1,Nat.le_of_succ_le_succ q.2⟩
  unfold fB
  split
  ·rename_i hc
   have h1:=and_eq_true_iff.mp hc
   have h2:=and_eq_true_iff.mp h1.2
   exact BO h hb ((hx 0 v rfl (and_eq_true_iff.mpr ⟨h1.1,h2.2⟩)).elim Int.le_of_lt λq=>Int.le_of_eq q.1) pP
  ·exact BO h hb hm pP
theorem H7{g:Nat}:∀{ws:List fJ} {m:Int},g∈(fB k d ws m []).map (·.1)->∃w,w∈ws/\jj k d (0,w)=true:=λ{ws m} h=>by
 have key:∀(ws:List fJ) (m:Int) (g:List (Nat×Rat)),fB k d ws m g=g\/∃w,w∈ws/\jj k d (0,w)=true:=λws=>ws.rec (motive:=λws=>∀(m:Int) (g:List (Nat×Rat)),fB k d ws m g=g\/∃w,w∈ws/\jj k d (0,w)=true) (λm g=>.inl rfl) λv r ih m g=>by
  unfold fB
  split
  ·rename_i hc
   have h1:=and_eq_true_iff.mp hc
   have h2:=and_eq_true_iff.mp h1.2
   exact .inr ⟨v,mem_cons_self,and_eq_true_iff.mpr ⟨h1.1,h2.2⟩⟩
  ·exact(ih m g).imp id λq=>q.elim λw hw=>⟨w,.tail _ hw.1,hw.2⟩
 rcases key ws m [] with e|e
 ·rw[e] at h;cases h
 ·exact e
end
section
variable{n:Nat}{H:Hp}{Q:PQ}{K:Out->Prop}{rest:List S}{d:Int}{l lm lw k h ll:Nat}{how:Str}{o6 o7 o8 o9 o10 bS b9 bP:Option V}{r:c7}
noncomputable abbrev BP:E:=.and [(.cmp .eq (.U 1) (.U 5)),(.cmp .le (.U 2) (.U 9))]
noncomputable abbrev xQ:cV:=.aP [.U 0,(.aP [.U 1,.U 2,.U 3])]
noncomputable abbrev H8(l lm lw k h:Nat)(how:Str)(ll:Nat)(d:Int)(o7 o8 o9 o10 bS b9 bP:Option V)(p:Nat×fJ):aV:=some (nv p.1)::some (nv p.2.jv)::some (.int p.2.day)::some (kG p.2.e9)::fL l lm lw k h how ll d o7 o8 o9 o10 bS b9 bP
theorem H9{elt:E}{F:Nat×fJ->V}(hw:H[lw]?=some (.list (r.ws.map jQ)))(dK:r.ws.length<=1000)(he:∀p:Nat×fJ,∀H₁,∀N:PQ,N (F p) H₁->WE (aM n) elt (H8 l lm lw k h how ll d o7 o8 o9 o10 bS b9 bP p) H₁ N)(q:∀H₂,aI H H₂->Q (.ref H₂.length) (H₂++[.list (((k8 0 r.ws).filter (jj k d)).map F)])):WE (aM n) (.comp 4 elt xQ (.i4 (.aU (.U 0) (.k (.int 2)))) [BP]) (fL l lm lw k h how ll d o7 o8 o9 o10 bS b9 bP) H Q:=by
 refine jh (TO (c5 (aQ rfl (bG (aG (a:=.ref lw) rfl (aG (cN hw) ?_))))))
 rw[HW]
 refine cK (cO (by rw[length_map,HX];lia)) ?_
 refine xP (H:=H) (t:=xQ) (g:=λp:Nat×fJ=>.aP [nv p.1,jQ p.2]) (F:=F) (P:=jj k d) (E:=H8 l lm lw k h how ll d o7 o8 o9 o10 bS b9 bP) (sh:=λρ=>∃a b c f,ρ=a::b::c::f::fL l lm lw k h how ll d o7 o8 o9 o10 bS b9 bP) (λp ρ h=>h.elim λa h=>h.elim λb h=>h.elim λc h=>h.elim λf h=>by rw[h];rfl) (λp=>⟨_,_,_,_,rfl⟩) (λH' x=>dr hw (x _ _ hw)) _ _ [] H ⟨none,none,none,none,rfl⟩ (aI.refl _) (λp ζ H₁ x T hT=>?_) (λp ζ ζ H₁ x N hN=>he p H₁ N hN) λH₂ x2=>iU (q H₂ x2)
 have hT:=hT H₁ (aI.refl _)
 unfold jj at hT
 refine sE (mN (cR (aQ (v:=nv p.2.jv) rfl (aQ (v:=nv k) rfl (aG (a:=ip p.2.jv k) rfl (aG (a:=ip p.2.jv k) rfl ?_))))))
 refine e8 (λh1=>?_) λh1=>?_
 ·rw[h1,Bool.true_and] at hT
  exact cR (aQ (v:=.int p.2.day) rfl (aQ (v:=.int d) rfl (aG (a:=decide (p.2.day<=d)) rfl (aG (a:=decide (p.2.day<=d)) rfl (lW (T:=T) hT)))))
 ·rw[h1,Bool.false_and] at hT
  exact aG (a:=ip p.2.jv k) rfl (dJ h1 hT)
noncomputable abbrev TR:S:=.aX (.U 8) (.comp 4 (.U 0) xQ (.i4 (.aU (.U 0) (.k (.int 2)))) [BP])
theorem xR(hw:H[lw]?=some (.list (r.ws.map jQ)))(dK:r.ws.length<=1000)(q:∀H₂ lj,aI H H₂->H₂[lj]?=some (.list (bb (((k8 0 r.ws).filter (jj k d)).map (·.1))))->aY (aM n) rest (fL l lm lw k h how ll d o7 (some (.ref lj)) o9 o10 bS b9 bP) H₂ K):aY (aM n) (TR::rest) (fL l lm lw k h how ll d o7 o8 o9 o10 bS b9 bP) H K:=
 cU (H9 (F:=λp=>nv p.1) hw dK (λp H₁ N hN=>aQ (v:=nv p.1) rfl hN) λH₂ x=>aG (a:=fL l lm lw k h how ll d o7 (some (.ref H₂.length)) o9 o10 bS b9 bP) rfl (q _ _ (x.trans (aI.ba _ _)) (by rw[bq,bb,map_map];rfl)))
theorem Ia{α:Type}{f:α->Int×Int}:∀l:List α,qX (l.map λa=>.aP [.int (f a).1,.int (f a).2])=some (l.map f)
 |[]=>rfl
 |a::l=>by
  refine(?_:((qX (l.map λa=>.aP [.int (f a).1,.int (f a).2])).map (f a::·))=_)
  rw[Ia l];rfl
noncomputable abbrev TS:List S:=[.aX (.U 9) (.bi .sV [(.comp 4 (.aP [.U 2,.U 0]) xQ (.i4 (.aU (.U 0) (.k (.int 2)))) [BP])]),
   .aX (.U 10) (.comp 1 (.aU (.U 0) (.k (.int 0))) (.U 0) (.of (.aU (.aU (.aU (.U 0) (.k (.int 2))) (.aU (.U 9) (.k (.int 1)))) (.k (.int 2)))) []),
   .ret (.and [(.cmp .d3 (.aU (.U 4) (.k (.int 1))) (.U 10)),(.call l5 [.U 6,(.dT (.U 4) (some (.k (.int 1))) none),.U 5])])]
theorem xS{C:Cl}{ρ:aV}{s t:E}(h:WE C s ρ H λx H=>WE C t ρ H λy H=>Q (.aP [x,y]) H):WE C (.aP [s,t]) ρ H Q:=h
theorem Ib{g:Nat}{t:List Nat}{ρ:aV}(hl:r.ps.length<=20)(hA:H[l]?=some (.list (r.ps.map bO)))(hL:H[ll]?=some (.list (bb (k::g::t))))(h2:(k::g::t).length<=1000)(dn:fQ r.ps d (g::t)=true)(v6:ρ[6]?.join=some (.ref l))(v4:ρ[4]?.join=some (.ref ll))(v5:ρ[5]?.join=some (.int d))(q:∀H',aI H H'->Q (.bool true) H'):WE (aM (n+3)) (.call l5 [.U 6,(.dT (.U 4) (some (.k (.int 1))) none),.U 5]) ρ H Q:=by
 refine hO (aQ v6 (oS (aQ v4 (nP (bG (qI (BN (i:=1) hL h2 (by decide) (aQ v5 (bB (Bm (n:=n) hl (bz _ hA) (bq _ _) (succ_pos _) ?_ λH' x=>?_))))))))))
 ·refine(?_:(g::t).length<=1000)
  rw[length_cons] at h2;lia
 ·rw[show fQ r.ps d ((k::g::t).drop 1)=true from dn]
  exact q _ ((aI.ba _ _).trans x)
theorem TT{g:Nat}{t:List Nat}(ok:gx r)(at':fP H r l lm lw)(dK:r.ws.length<=1000)(hL:H[ll]?=some (.list (bb (k::g::t))))(h2:(k::g::t).length<=1000)(hg:g∈(ff r d k).map (·.1))(dn:fQ r.ps d (g::t)=true)(q:∀H',aI H H'->K (.ret (.bool true) H')):aY (aM (n+3)) (TS++rest) (fL l lm lw k h how ll d o7 o8 o9 o10 bS b9 bP) H K:=at' _ λap am aw=>ok _ λhW hl hM hG=>by
 refine cU (lZ (H9 (F:=λp=>.aP [.int p.2.day,nv p.1]) aw dK (λp H₁ N hN=>xS (aQ (v:=.int p.2.day) rfl (aQ (v:=nv p.1) rfl hN))) λH₂ x=>?_))
 refine aG (show(cP _ (.ref H₂.length)).bind qX=some (((k8 0 r.ws).filter (jj k d)).map λp=>(p.2.day,(p.1:Int))) by rw[cN (bq _ _)];exact Ia (f:=λp:Nat×fJ=>(p.2.day,(p.1:Int))) _) ⟨λq=>?_,λz hz TV=>?_⟩
 ·obtain⟨w,hw,hb⟩:=H7 hg
  obtain⟨i,hi⟩:=getElem?_of_mem hw
  have:(i,w)∈(k8 0 r.ws).filter (jj k d):=mem_filter.mpr ⟨u0.mpr ⟨zero_le _,hi⟩,hb⟩
  rw[map_eq_nil_iff.mp q] at this
  cases this
 ·obtain⟨p,hp,rfl⟩:=mem_map.mp hz
  have hp:=mem_filter.mp hp
  have hi:r.ws[p.1]?=some p.2:=(u0.mp hp.1).2
  have eg:ff r d k=p.2.e9:=BO hi hp.2 (Int.le_trans (by decide) ((hG _ (mem_of_getElem? hi)) _ λζ dy ζ ζ ζ ζ ζ ζ ζ ζ=>dy)) λj w' hj hb=>(TV _ (mem_map.mpr ⟨(j,w'),mem_filter.mpr ⟨u0.mpr ⟨zero_le _,hj⟩,hb⟩,rfl⟩)).imp id λq=>⟨q.1,ofNat_le.mp q.2⟩
  rw[eg] at hg
  have x1:=x.trans (aI.ba H₂ [bc.list (((k8 0 r.ws).filter (jj k d)).map λp=>.aP [.int p.2.day,nv p.1])])
  generalize H₂++[bc.list (((k8 0 r.ws).filter (jj k d)).map λp=>.aP [.int p.2.day,nv p.1])]=H₃ at x1 ⊢
  have VY:p.2.e9.length<=10:=(hG _ (mem_of_getElem? hi)) _ λgk ζ ζ ζ ζ ζ ζ ζ ζ ζ=>gk.2
  refine aG (a:=fL l lm lw k h how ll d o7 o8 (some (.aP [.int p.2.day,nv p.1])) o10 bS b9 bP) rfl ?_
  refine cU (jh (iJ (c5 (c5 (c5 (aQ rfl (bG (aG (a:=.ref lw) rfl (c5 (aQ rfl (bG (aG (a:=nv p.1) rfl (aG (gu (v:=jQ p.2) (x1 _ _ aw) (by rw[getElem?_map,hi];rfl)) (bG (aG (a:=kG p.2.e9) rfl (aG (a:=p.2.e9.map mF) rfl (cK (cO (by rw[length_map];lia)) ?_)))))))))))))))))
  refine ij (g:=mF) (P:=λζ=>true) (F:=λg=>nv g.1) _ _ _ (λg ζ T hT=>hT) (λg ζ ζ N hN=>c5 (aQ (v:=mF g) rfl (bG (aG (a:=nv g.1) rfl hN)))) ?_
  rw[nH]
  refine iU (aG (a:=fL l lm lw k h how ll d o7 o8 (some (.aP [.int p.2.day,nv p.1])) (some (.ref H₃.length)) bS b9 bP) rfl ?_)
  have an:(H₃++[bc.list ([]++p.2.e9.map λg=>nv g.1)])[H₃.length]?=some (.list (bb (p.2.e9.map (·.1)))):=by rw[bq,bb,map_map];rfl
  have x2:=x1.trans (aI.ba H₃ [bc.list ([]++p.2.e9.map λg=>nv g.1)])
  refine k5 (mN (cR (c5 (aQ rfl (bG (aG (gu (k:=1) (v:=nv g) (x2 _ _ hL) rfl) (aQ rfl (aG (F0 an) (aG (a:=decide (g∈p.2.e9.map (·.1))) rfl (jO (by rw[decide_eq_true hg];rfl) ?_))))))))))
  exact Ib (n:=n) hl (x2 _ _ ap) (x2 _ _ hL) h2 dn rfl rfl rfl λH' x=>q _ (x2.trans x)
end
theorem fold_min:∀(l:List Int) (a:Int),l.foldl min a∈a::l/\∀b∈a::l,l.foldl min a<=b
 |[],a=>⟨mem_cons_self,λb hb=>Int.le_of_eq (mem_singleton.mp hb).symm⟩
 |c::l,a=>by
  have ih:=fold_min l (min a c)
  refine⟨(mem_cons.mp ih.1).elim (λe=>?_) λm=>.tail _ (.tail _ m),λb hb=>?_⟩
  ·show l.foldl min (min a c)∈_
   rw[e,Int.min_def]
   split
   ·exact mem_cons_self
   ·exact .tail _ mem_cons_self
  ·refine(?_:l.foldl min (min a c)<=b)
   have h0:=ih.2 _ mem_cons_self
   rcases mem_cons.mp hb with e|hb
   ·rw[e];exact Int.le_trans h0 (Int.min_le_left _ _)
   ·rcases mem_cons.mp hb with e|hb
    ·rw[e];exact Int.le_trans h0 (Int.min_le_right _ _)
    ·exact ih.2 b (.tail _ hb)
section
variable{n:Nat}{H:Hp}{Q:PQ}{K:Out->Prop}{rest:List S}{d:Int}{l lm lw k h ll:Nat}{how:Str}{o6 o7 o8 o9 o10 bS b9 bP:Option V}{r:c7}
theorem TX{l:Nat}{us:List Nat}(h:H[l]?=some (.list (bb us)))(hu:us≠[])(q:∀x,x∈us->(∀y∈us,x<=y)->Q (nv x) H):pC .qN [.ref l] H Q:=by
 cases us with
 |nil=>exact absurd rfl hu
 |cons u us=>
  refine aG (pG h) (aG (a:=(u:Int)) rfl ?_)
  have hf:=fold_min (us.map hz) u
  obtain⟨x,hx,e⟩:=mem_map.mp (show(us.map hz).foldl min (u:Int)∈(u::us).map hz from hf.1)
  refine(?_:Q (.int ((us.map hz).foldl min (u:Int))) H)
  rw[<-e]
  refine q x hx λy hy=>?_
  have:=hf.2 (hz y) (show hz y∈(u::us).map hz from mem_map.mpr ⟨y,hy,rfl⟩)
  rw[<-e] at this
  exact ofNat_le.mp this
section
variable{ρ:aV}{C:Cl}
theorem mP{s:Str}{b:List S}(hv:ρ[3]?.join=some (.str how))(ho:PyData.strOk how=true)(hs:PyData.strOk s=true)(et:(how==s)=false)(q:aY C rest ρ H K):aY C (.bD (.cmp .eq (.U 3) (.k (.str s))) b []::rest) ρ H K:=gy (H0 hv ho hs et q)
theorem xT{s:Str}{b:List S}(hv:ρ[3]?.join=some (.str how))(ho:PyData.strOk how=true)(hs:PyData.strOk s=true)(et:(how==s)=true)(q:aY C b ρ H λo=>lD o (λρ H=>aY C rest ρ H K) (K o)):aY C (.bD (.cmp .eq (.U 3) (.k (.str s))) b []::rest) ρ H K:=gy (H0 hv ho hs et q)
noncomputable abbrev Ic:S:=.bD (.and [(.cmp .eq (.U 3) (.k (.str "will"))),(.cmp .eq (.U 8) (.bE []))]) [.ret (.k (.bool false))] []
theorem BQ(hv:ρ[3]?.join=some (.str how))(ho:PyData.strOk how=true)(et:(how=="will")=false)(q:aY C rest ρ H K):aY C (Ic::rest) ρ H K:=by
 refine gy (k4 (mN (cR (aQ hv (bG (aG (oQ ho lV) ?_))))))
 rw[et]
 exact q
end
theorem TY{lj:Nat}{js:List Nat}(hj:H[lj]?=some (.list (bb js)))(b8:js≠[])(q:∀H',aI H H'->aY (aM n) rest (fL l lm lw k h "will" ll d o7 (some (.ref lj)) o9 o10 bS b9 bP) H' K):aY (aM n) (Ic::rest) (fL l lm lw k h "will" ll d o7 (some (.ref lj)) o9 o10 bS b9 bP) H K:=by
 refine gy (k4 (mN (cR (aQ rfl (bG (aG (oQ lV lV) ?_))))))
 refine aG (a:=true) rfl (jO rfl (cR (aQ rfl (jx (aG (eq_nil (bz _ hj) (iS 9 js) (bq _ _)) (aG (a:=(js.map λi:Nat=>PyData.int i).isEmpty) rfl (dJ (by rw[isEmpty_map];exact List.isEmpty_eq_false_iff.mpr b8) (gQ (q _ (aI.ba _ _))))))))))
noncomputable abbrev TZ:List S:=[.aX (.U 11) (.and [(.cmp .d3 (.aU (.U 4) (.k (.int 1))) (.call j0 [.U 6,.U 1,.U 5])),(.cmp .fR (.U 1) (.dT (.U 4) (some (.k (.int 1))) none))]),
   .ret (.and [.U 11,(.call l5 [.U 6,(.dT (.U 4) (some (.k (.int 1))) none),.U 5])])]
theorem T1{c:Nat}{t:List Nat}{p:aO}(hl:r.ps.length<=20)(hA:H[l]?=some (.list (r.ps.map bO)))(hL:H[ll]?=some (.list (bb (k::c::t))))(h2:(k::c::t).length<=1000)(hp:r.ps[k]?=some p)(hc:c∈dq p d)(nk:k∉c::t)(dn:fQ r.ps d (c::t)=true)(q:∀H',aI H H'->K (.ret (.bool true) H')):aY (aM (n+3)) (TZ++rest) (fL l lm lw k h how ll d o7 o8 o9 o10 bS b9 bP) H K:=by
 refine cU (mN (cR (c5 (aQ rfl (bG (aG (gu (k:=1) (v:=nv c) hL rfl) (hO (aQ rfl (aQ rfl (aQ rfl (bB (sG hA hp (aG (ux) ?_)))))))))))))
 rw[decide_eq_true hc]
 refine aG (a:=true) rfl (jO rfl (cR (aQ rfl (oS (aQ rfl (nP (bG (qI (BN (i:=1) hL h2 (by decide) (aG (uQ (bq _ _)) ?_))))))))))
 rw[show(!decide (k∈(k::c::t).drop 1))=true by rw[show decide (k∈(k::c::t).drop 1)=false from decide_eq_false nk];rfl]
 refine aG (a:=fL l lm lw k h how ll d o7 o8 o9 o10 (some (.bool true)) b9 bP) rfl ?_
 exact k5 (mN (aQ rfl (aG (a:=true) rfl (jO rfl (Ib (n:=n) hl (bz _ hA) (bz _ hL) h2 dn rfl rfl rfl λH' x=>q _ ((aI.ba _ _).trans x))))))
noncomputable abbrev T3:S:=.aX (.U 12) (.comp 1 (.U 0) (.U 0) (.range (.k (.int 0)) (.bi .len [.U 4])) [(.call l5 [.U 7,(.dT (.U 5) (some (.U 0)) none),.U 6])])
theorem T4{ln:List Nat}(hl:r.ps.length<=20)(hA:H[l]?=some (.list (r.ps.map bO)))(hL:H[ll]?=some (.list (bb ln)))(h2:ln.length<=1000)(q:∀H' lt,aI H H'->H'[lt]?=some (.list (bb ((List.range ln.length).filter λi=>fQ r.ps d (ln.drop i))))->aY (aM (n+3)) rest (fL l lm lw k h how ll d o7 o8 o9 o10 bS (some (.ref lt)) bP) H' K):aY (aM (n+3)) (T3::rest) (fL l lm lw k h how ll d o7 o8 o9 o10 bS b9 bP) H K:=by
 refine cU (jh (qw (bG (qE rfl hL ?_))))
 rw[length_map]
 refine mA (lt_of_le_of_lt h2 (by decide)) (cK (cO (by rw[length_map,length_range];exact lt_of_le_of_lt h2 (by decide))) ?_)
 refine xP (H:=H) (g:=nv) (F:=nv) (P:=λi=>fQ r.ps d (ln.drop i)) (HV (de:=fL l lm lw k h how ll d o7 o8 o9 o10 bS b9 bP)) (λa=>⟨_,rfl⟩) (λH' x=>rfl) _ _ [] H ⟨none,rfl⟩ (aI.refl _) (λi hi H₁ x T hT=>?_) (λw ζ ζ H₁ ζ N hN=>hN) λH₂ x2=>iU (aG (a:=fL l lm lw k h how ll d o7 o8 o9 o10 bS (some (.ref H₂.length)) bP) rfl (q _ _ (x2.trans (aI.ba _ _)) (bq _ _)))
 have hi:=mem_range.mp hi
 refine sE (hO (aQ rfl (oS (aQ rfl (nP (aQ (v:=nv i) rfl (qI (BN (x _ _ hL) h2 (le_trans (le_of_lt hi) h2) (aQ rfl (bB (Bm (n:=n) hl (bz _ (x _ _ hA)) (bq _ _) (by rw[length_drop];exact Nat.sub_pos_of_lt hi) (by rw[length_drop];exact le_trans (sub_le _ _) h2) λH' x'=>?_)))))))))))
 exact aG (a:=fQ r.ps d (ln.drop i)) rfl (lW (T:=T) (hT _ ((aI.ba _ _).trans x')))
noncomputable abbrev T5:S:=.for (.U 13) (.range (.k (.int 1)) (.bin .add (.bi .qN [.U 12]) (.k (.int 1))))
  [.bD (.cmp .fR (.aU (.U 4) (.U 13)) (.call j0 [.U 6,(.aU (.U 4) (.bin .sub (.U 13) (.k (.int 1)))),.U 5]))
   [.ret (.k (.bool false))]
   []]
noncomputable def BR(l lm lw k h:Nat)(how:Str)(ll:Nat)(d:Int)(o7 o8 o9 o10 bS b9:Option V)(m:Nat)(H:Hp)(as:List Nat)(ρ:aV)(H':Hp):Prop:=∀TpIζ:Prop,(∀(bP:Option V) (e:ρ=fL l lm lw k h how ll d o7 o8 o9 o10 bS b9 bP) (eh:H'=H) (rg:∀i∈as,1<=i/\i<=m),TpIζ)->TpIζ
theorem BR.mk{l lm lw k h:Nat}{how:Str}{ll:Nat}{d:Int}{o7 o8 o9 o10 bS b9:Option V}{m:Nat}{H:Hp}{as:List Nat}{ρ:aV}{H':Hp}(bP:Option V)(e:ρ=fL l lm lw k h how ll d o7 o8 o9 o10 bS b9 bP)(eh:H'=H)(rg:∀i∈as,1<=i/\i<=m):BR l lm lw k h how ll d o7 o8 o9 o10 bS b9 m H as ρ H':=λζ bw=>bw bP e eh rg
theorem T6{ln ts:List Nat}{lt N j:Nat}(hA:H[l]?=some (.list (r.ps.map bO)))(hL:H[ll]?=some (.list (bb ln)))(hT:H[lt]?=some (.list (bb ts)))(hj:j∈ts)(km:j<=1000)(mO:uZ r.ps d N j ln)(q:∀bP,aY (aM (n+1)) rest (fL l lm lw k h how ll d o7 o8 o9 o10 bS (some (.ref lt)) bP) H K):aY (aM (n+1)) (T5::rest) (fL l lm lw k h how ll d o7 o8 o9 o10 bS (some (.ref lt)) bP) H K:=by
 refine k3 (qw (bG (dH (lZ (aQ rfl (TX hT (ne_nil_of_mem hj) λm hm T7=>bG (dB rfl ?_)))))))
 have Ie:=T7 j hj
 refine S4 (lt_of_le_of_lt (le_trans Ie km) (by decide)) ?_
 refine d9 (BR l lm lw k h how ll d o7 o8 o9 o10 bS (some (.ref lt)) m H) (λi as ρ H' hI=>?_) (λρ H' hI=>?_) _ _ _ (.mk bP rfl rfl (λi hi=>by have:=List.mem_range'_1.mp hi;exact⟨this.1,le_of_lt_succ (lt_of_lt_of_le this.2 (le_of_eq (add_comm 1 m)))⟩))
 ·refine hI _ λbP e eh rg=>?_
  subst e eh
  refine aG (a:=fL l lm lw k h how ll d o7 o8 o9 o10 bS (some (.ref lt)) (some (nv i))) rfl λN' hN=>?_
  have hi:=rg i mem_cons_self
  refine mO.casesOn λup ζ=>(up (i - 1) (lt_of_lt_of_le (sub_lt hi.1 Nat.one_pos) (le_trans hi.2 Ie))).elim λa h1=>h1.elim λb h1=>?_
  rw[show i - 1+1=i from sub_add_cancel hi.1] at h1
  refine h1.2.2.elim λp hp=>?_
  have ia:eQ (.ref ll) (.int ((i:Int) - 1)) H'=some (nv a):=by
   rw[show(i:Int) - 1=((i - 1:Nat):Int) from(Int.ofNat_sub hi.1).symm]
   exact gu hL (by rw[getElem?_map,h1.1];rfl)
  refine gy (uX (c5 (aQ rfl (aQ rfl (aG (gu hL (by rw[getElem?_map,h1.2.1];rfl)) (hO (aQ rfl (c5 (aQ rfl (dH (aQ rfl (bG (dB rfl (aG ia (aQ rfl (bB (sG hA hp.1 (aG (congrArg (Option.map (!·)) (ux)) ?_))))))))))))))))))
  rw[decide_eq_true hp.2]
  exact hN _ _ rfl (.mk _ rfl rfl (λi hi=>rg i (.tail _ hi)))
 ·refine hI _ λbP e eh rg=>?_
  subst e eh
  exact q _
theorem T8{ln:List Nat}(ok:gx r)(gJ:r.ms.length<=1000)(dK:r.ws.length<=1000)(at':fP H r l lm lw)(hL:H[ll]?=some (.list (bb ln)))(h2:ln.length<=1000)(gn:Gn r d k h how ln)(q:∀H',aI H H'->Q (.bool true) H'):aM (n+4) yr [cM l lm lw,nv k,nv h,.str how,.ref ll,.int d] H Q:=Qi (at' _ λap am aw=>ok _ λhW hl hM hG=>by
 unfold yB
 refine cU (c5 (aQ rfl (bG (aG (a:=.ref l) rfl (aG (a:=fL l lm lw k h how ll d none none none none none none none) rfl ?_)))))
 cases gn with
 |xM w hw ew hd=>exact xT rfl qu qu rfl (TQ (rest:=[]) am gJ hL hw ew hd q)
 |sH g t hg dn=>
  refine mP rfl lV qu rfl (xR aw dK λH₂ lj x aj=>TY aj (λe=>?_) λH₃ x3=>xT rfl lV lV rfl (TT (n:=n) (rest:=[]) ok (at'.ext (x.trans x3)) dK ((x.trans x3) _ _ hL) h2 hg dn λH' x'=>q _ ((x.trans x3).trans x')))
  obtain⟨w,hw,hb⟩:=H7 hg
  obtain⟨i,hi⟩:=getElem?_of_mem hw
  have:(i,w)∈(k8 0 r.ws).filter (jj k d):=mem_filter.mpr ⟨u0.mpr ⟨zero_le _,hi⟩,hb⟩
  rw[map_eq_nil_iff.mp e] at this
  cases this
 |line c t dn=>exact mP rfl mI qu rfl (xR aw dK λH₂ lj x aj=>BQ rfl mI rfl (mP rfl mI lV rfl (xT rfl mI mI rfl (k5 (hO (aQ rfl (aQ rfl (aQ rfl (bB (Bm (n:=n) hl (x _ _ ap) (x _ _ hL) (succ_pos _) h2 λH' x'=>by rw[dn];exact q _ (x.trans x')))))))))))
 |HK c t p hp hc nk dn=>exact mP rfl lU qu rfl (xR aw dK λH₂ lj x aj=>BQ rfl lU rfl (mP rfl lU lV rfl (mP rfl lU mI rfl (xT rfl lU lU rfl (T1 (n:=n) (rest:=[]) hl (x _ _ ap) (x _ _ hL) h2 hp hc nk dn λH' x'=>q _ (x.trans x'))))))
 |HL ln N j len hj mO=>
  refine mP rfl mJ qu rfl (xR aw dK λH₂ lj x aj=>BQ rfl mJ rfl (mP rfl mJ lV rfl (mP rfl mJ mI rfl (mP rfl mJ lU rfl (T4 (n:=n) hl (x _ _ ap) (x _ _ hL) h2 λH₃ lt x3 T9=>T6 (n:=n+2) (j:=j) ((x.trans x3) _ _ ap) ((x.trans x3) _ _ hL) T9 (mem_filter.mpr ⟨mem_range.mpr (len.symm▸lt_succ_of_le hj),mO.down len⟩) (le_trans (le_trans hj (le_succ N)) (le_trans (le_of_eq len.symm) h2)) mO λbP=>k5 (cR (aQ rfl (bG (aG (oQ mJ mJ) (q _ (x.trans x3))))))))))))
end
section
variable{C:Cl}{ρ:aV}{H:Hp}{Q:PQ}{a b:E}{r:List E}{w:Bool}
theorem mQ{es:List E}(h:j5 C false es ρ H Q):WE C (.or es) ρ H Q:=h
theorem qJ{es:List E}(h:j5 C true es ρ H Q):WE C (.and es) ρ H Q:=h
theorem iV(h:WE C a ρ H Q):j5 C w [a] ρ H Q:=h
theorem fM(h:WE C a ρ H λx H=>be (truthy H x) λt=>bW (t==w) (j5 C w (b::r) ρ H Q) (Q x H)):j5 C w (a::b::r) ρ H Q:=h
theorem gZ{t:Bool}{A B:Prop}{H:Hp}(h:t=w)(a:A):be (truthy H (.bool t)) λt=>bW (t==w) A B:=by
 subst h
 refine(?_:bW (t==t) _ _)
 rw[beq_self_eq_true];exact a
theorem Ua{f:Nat}{a b c d g i:E}(h:WE C a ρ H λa H=>WE C b ρ H λb H=>WE C c ρ H λc H=>WE C d ρ H λd H=>WE C g ρ H λg H=>WE C i ρ H λi H=>C f [a,b,c,d,g,i] H Q):WE C (.call f [a,b,c,d,g,i]) ρ H Q:=h
theorem Ig(h:WE C a ρ H λx H=>c3 x λi=>Q (.int (-i)) H):WE C (.neg a) ρ H Q:=h
theorem Ih{l:Nat}{vs:List V}(h:H[l]?=some (.list vs)):yN H .list (.ref l)=some true:=congrArg (Option.map λζ=>true) (cN h)
end
theorem Ii(k:Nat):fA k k=false:=by unfold fA;rw[beq_self_eq_true];rfl
theorem Ub(k:Nat)(t:List Nat):dW (k::t) (some 1) (some (-1))=t.dropLast:=by
 refine(?_:((k::t).take (max (0:Int) (min (if(-1:Int)<0 then -1+(k::t).length else -1) (k::t).length)).toNat).drop (max (0:Int) (min (if(1:Int)<0 then 1+(k::t).length else 1) (k::t).length)).toNat=_)
 rw[if_pos (show(-1:Int)<0 by decide),if_neg (show ¬(1:Int)<0 by decide),length_cons,show(max (0:Int) (min (-1+((t.length+1:Nat):Int)) ((t.length+1:Nat):Int))).toNat=t.length by rw[HT,BJ,min_eq_left (le_succ _)],show(max (0:Int) (min 1 ((t.length+1:Nat):Int))).toNat=1 from(BJ 1 _).trans (min_eq_left (succ_le_succ (zero_le _))),List.dropLast_eq_take]
 cases t with
 |nil=>rfl
 |cons b u=>rfl
theorem Uc{H:Hp}{l k h:Nat}{t:List Nat}(hL:H[l]?=some (.list (bb (k::t))))(hl:t.getLast?=some h):eQ (.ref l) (.int (-1)) H=some (nv h):=by
 have e:(k::t)[t.length]?=some h:=by
  cases t with
  |nil=>cases hl
  |cons b u=>rw[List.getLast?_eq_getElem?] at hl;exact hl
 refine(?_:(match cP H (.ref l) with|some vs=>j4 vs (-1)|none=>_)=_)
 rw[cN hL]
 refine(?_:(if(0:Int)<=-1 then _ else if -((bb (k::t)).length:Int)<=-1 then(bb (k::t))[(-1+((bb (k::t)).length:Int)).toNat]? else none)=_)
 rw[if_neg (by decide),length_map,length_cons,if_pos (show -((t.length+1:Nat):Int)<=-1 from Int.neg_le_neg (ofNat_le.mpr (succ_le_succ (zero_le _)))),show(-1+((t.length+1:Nat):Int)).toNat=t.length by rw[HT];rfl,getElem?_map,e]
 rfl
section
variable{n:Nat}{H:Hp}{Q:PQ}{K:Out->Prop}{rest:List S}{d:Int}{l lm lw k h ll:Nat}{how:Str}{r:c7}{v5 v2:V}
noncomputable abbrev u2(l lm lw k:Nat)(v2:V)(d:Int)(h:Nat)(v5:V)(how:Str)(ll:Nat):aV:=[some (cM l lm lw),some (nv k),some v2,some (.int d),some (nv h),some v5,some (.str how),some (.ref ll)]
noncomputable abbrev Ud:S:=.bD (.or [(.not (.bi (.iv .list) [.U 7])),(.cmp .lt (.bi .len [.U 7]) (.k (.int 2))),(.cmp .ne (.aU (.U 7) (.k (.int 0))) (.U 1)),(.cmp .ne (.aU (.U 7) (.neg (.k (.int 1)))) (.U 4))])
  [.ret (.k (.bool false))]
  []
theorem Ue{t:List Nat}(hL:H[ll]?=some (.list (bb (k::t))))(ne:t≠[])(la:t.getLast?=some h)(q:aY (aM n) rest (u2 l lm lw k v2 d h v5 how ll) H K):aY (aM n) (Ud::rest) (u2 l lm lw k v2 d h v5 how ll) H K:=by
 have h1:=length_pos_iff.mpr ne
 refine gy (k4 (mQ (fM (sD (lZ (aQ rfl (aG (Ih hL) (aG (a:=true) rfl (gZ rfl ?_)))))))))
 refine fM (cR (qE rfl hL (bG (aG (a:=decide (((bb (k::t)).length:Int)<2)) rfl (gZ (decide_eq_false ?_) ?_)))))
 ·rw[length_map,length_cons];exact Int.not_lt.mpr (ofNat_le.mpr (succ_le_succ h1))
 refine fM (cR (c5 (aQ rfl (bG (aG (gu (k:=0) (v:=nv k) hL rfl) (aQ rfl (aG (a:=fA k k) rfl (gZ (Ii k) ?_))))))))
 refine iV (cR (c5 (aQ rfl (Ig (bG (aG (Uc hL la) (aQ rfl (aG (a:=fA h h) rfl (aG (a:=fA h h) rfl (dJ (Ii h) ?_))))))))))
 exact gQ q
noncomputable abbrev Ug:S:=.bD (.or [(.not (.call iO [(.aU (.U 0) (.k (.int 0))),.U 4,.U 3])),(.cmp .ne (.comp 1 (.U 0) (.U 0) (.of (.dT (.U 7) (some (.k (.int 1))) (some (.neg (.k (.int 1)))))) [(.call iO [(.aU (.U 1) (.k (.int 0))),.U 0,.U 4])]) (.bE []))])
  [.ret (.k (.bool false))]
  []
theorem Uh{ps:List aO}{h:Nat}(hv:lv ps d h=true):∃p,ps[h]?=some p/\dD p d=true:=by
 unfold lv at hv
 cases hp:ps[h]? with
 |none=>rw[hp] at hv;cases hv
 |some p=>rw[hp] at hv;exact⟨p,rfl,hv⟩
theorem Ui{t:List Nat}(hA:H[l]?=some (.list (r.ps.map bO)))(hL:H[ll]?=some (.list (bb (k::t))))(h2:(k::t).length<=1000)(lh:lv r.ps d h=true)(mid:∀x∈t.dropLast,lv r.ps d x=false/\x<r.ps.length)(q:∀H',aI H H'->aY (aM (n+1)) rest (u2 l lm lw k v2 d h v5 how ll) H' K):aY (aM (n+1)) (Ug::rest) (u2 l lm lw k v2 d h v5 how ll) H K:=(Uh lh).elim λp hp=>by
 refine gy (k4 (mQ (fM (sD (hO (c5 (aQ rfl (bG (aG (a:=.ref l) rfl (aQ rfl (aQ rfl (bB (oN hA hp.1 (aG (a:=dD p d) rfl (gZ (by rw[hp.2];rfl) ?_)))))))))))))))
 refine iV (cR (jh (iJ (oS (aQ rfl (nP (bG (nP (Ig (bG ?_))))))))))
 refine aG (cN hL) ?_
 rw[uP,Ub]
 have hs:t.dropLast.length<16000000:=by rw[List.length_dropLast];rw[length_cons] at h2;exact lt_of_le_of_lt (le_trans (sub_le _ _) (le_of_succ_le h2)) (by decide)
 refine cK (cO (by rw[length_map];exact hs)) (iU (aG (dz (bq _ _)) (cK (cO (by rw[length_map];exact hs)) ?_)))
 refine ij (P:=λζ=>false) (F:=nv) _ _ _ (λx hx T hT=>?_) (λx ζ h=>nomatch h) ?_
 ·refine(at_of (mid x hx).2).elim λpx Ij=>?_
  refine sE (hO (c5 (aQ rfl (bG (aG (a:=.ref l) rfl (aQ (v:=nv x) rfl (aQ rfl (bB (oN (bz _ hA) Ij (aG (a:=dD px d) rfl (dJ (by rw[<-iB Ij];exact(mid x hx).1) hT)))))))))))
 ·rw[show t.dropLast.filter (λζ=>false)=[] from List.filter_eq_nil_iff.mpr λζ ζ=>Bool.false_ne_true]
  refine iU (jx (aG (ne_nil (ds:=[]) (bz _ (bq _ _)) rfl (bq _ _)) (aG (a:=false) rfl (dJ rfl (gQ (q _ ((aI.ba _ _).trans ((aI.ba _ _).trans (aI.ba _ _)))))))))
theorem Uj{ln:List Nat}(ok:gx r)(gJ:r.ms.length<=1000)(dK:r.ws.length<=1000)(at':fP H r l lm lw)(hL:H[ll]?=some (.list (bb ln)))(h2:ln.length<=1000)(sh:Sh r.ps d k h ln)(gn:Gn r d k h how ln)(q:∀H',aI H H'->Q (.bool true) H'):aM (n+5) vi [cM l lm lw,nv k,.aP [nv h,v5,.str how,.ref ll],.int d] H Q:=Qj (at' _ λap am aw=>sh _ λt et ne la lh mid=>by
 unfold yC
 refine cU (aQ rfl (aG (a:=u2 l lm lw k (.aP [nv h,v5,.str how,.ref ll]) d h v5 how ll) rfl ?_))
 refine Ue (et▸hL) ne la (Ui (n:=n+3) ap (et▸hL) (et▸h2) lh mid λH₁ x=>k5 ?_)
 exact Ua (aQ rfl (aQ rfl (aQ rfl (aQ rfl (aQ rfl (aQ rfl (bB (T8 (n:=n) ok gJ dK (at'.ext x) (x _ _ hL) h2 gn λH' x'=>q _ (x.trans x'))))))))))
end
section
variable{ws:List Nat}{H₀ H:Hp}{test:aV->Hp->(Bool->Hp->Prop)->Prop}{elt:aV->Hp->PQ->Prop}{Q:List V->Hp->Prop}{α:Type}{F:α->V}{P:α->Bool}{R:α->V->Prop}{de:aV}
theorem Ik(st:d6 ws H₀ H=true){as:List α}{vs:List V}(h:dA R as vs):∀(o:Option V) (acc:List V),(∀a v,a∈as->R a v->∀T:Bool->Hp->Prop,T (P a) H->test (some v::de) H T)->(∀a v,a∈as->R a v->P a=true->∀N:PQ,N (F a) H->elt (some v::de) H N)->Q (acc++(as.filter P).map F) H->gC ws H₀ (.U 0) test elt vs (o::de) H acc Q:=
 h.rec (motive:=λas vs ζ=>∀(o:Option V) (acc:List V),(∀a v,a∈as->R a v->∀T:Bool->Hp->Prop,T (P a) H->test (some v::de) H T)->(∀a v,a∈as->R a v->P a=true->∀N:PQ,N (F a) H->elt (some v::de) H N)->Q (acc++(as.filter P).map F) H->gC ws H₀ (.U 0) test elt vs (o::de) H acc Q) (λo acc ζ ζ q=>by rw[filter_nil,map_nil,append_nil] at q;exact q) λ{a v as vs} r _ ih o acc ht he q=>by
  refine aG (a:=some v::de) rfl (ht a v mem_cons_self r _ ?_)
  rw[filter_cons] at q
  have go:=λacc'=>ih (some v) acc' (λa v ha=>ht a v (.tail _ ha)) λa v ha=>he a v (.tail _ ha)
  cases hp:P a with
  |true=>
   rw[hp] at q
   exact he a v mem_cons_self r hp _ ⟨st,go _ (by rw[append_assoc];exact q)⟩
  |false=>
   rw[hp] at q
   exact⟨st,go _ q⟩
end
theorem Il{x y:List Nat}(hx:x.Pairwise (·<·))(hy:y.Pairwise (·<·))(h:∀c,c∈x↔c∈y):x=y:=
 Perm.eq_of_pairwise (le:=λa b:Nat=>a<=b) (λa b ζ ζ h1 h2=>le_antisymm h1 h2) (hx.imp le_of_lt) (hy.imp le_of_lt) ((List.perm_ext_iff_of_nodup (hx.imp ne_of_lt) (hy.imp ne_of_lt)).mpr h)
section
variable{C:Cl}{ρ:aV}{H:Hp}{Q:PQ}{a:Nat}{x:List Nat}
theorem Uk(h:H[a]?=some (.list (bb x)))(hr:∀c∈x,c<20)(q:∀ys:List Nat,ys.Pairwise (·<·)->(∀c,c∈ys↔c∈x)->Q (.ref H.length) (H++[.list (bb ys)])):vw (.ref a) H Q:=by
 have bk:∀{js:List Int},(∀i∈js,i∈x.map hz)->∃ys:List Nat,js=ys.map hz:=λ{js}=>by
  induction js with
  |nil=>exact λζ=>⟨[],rfl⟩
  |cons r rs ih=>exact λhr=>(ih λq hq=>hr q (.tail _ hq)).elim λss hs=>(mem_map.mp (hr r mem_cons_self)).elim λu hu=>⟨u::ss,by rw[hs,<-hu.2];rfl⟩
 have mm:∀{ss:List Nat} {s:Nat},hz s∈ss.map hz->s∈ss:=λh=>(mem_map.mp h).elim λu hu=>nK _ _ hu.2▸hu.1
 refine aG (pG h) ⟨λjs hn hm=>(bk hm).elim λys hs=>?_,λjs hn hm=>(bk λq hq=>(hm q).mp hq).elim λys hs=>?_⟩
 ·rw[hs] at hn hm ⊢
  rw[length_map]
  exact le_trans (ql 20 ys ((pairwise_map.mp hn).imp λhn e=>hn (congrArg hz e)) λc hc=>hr c (mm (hm _ (mem_map.mpr ⟨c,hc,rfl⟩)))) (by decide)
 ·rw[hs] at hn hm ⊢
  rw[map_map]
  exact iU (q ys ((pairwise_map.mp hn).imp ofNat_lt.mp) λs=>⟨λm=>mm ((hm _).mp (mem_map.mpr ⟨s,m,rfl⟩)),λm=>mm ((hm _).mpr (mem_map.mpr ⟨s,m,rfl⟩))⟩)
theorem Ul{s:E}(h:WE C s ρ H λx H=>vw x H Q):WE C (.l3 true s) ρ H Q:=h
theorem Im{N ld c:Nat}{ks:Ks}{B:Nat->Bool}(h:fK N H ld ks)(hk:∀c,c∈ks.map (·.1)↔B c=true):fT .d3 (nv c) (.ref ld) H=some (B c):=h _ λep es a dc ζ ζ=>by
 have e:fT .d3 (nv c) (.ref ld) H=some (lC es (hz c)):=by
  refine(?_:(match H[ld]?.bind fS with|some es=>_|none=>_)=_)
  rw[a];rfl
 rw[e,cL.has nK dc]
 refine congrArg some ?_
 cases hb:B c with
 |true=>exact iE.mpr ((hk c).mpr hb)
 |false=>
  cases hh:dR ks c with
  |false=>rfl
  |true=>exact absurd ((hk c).mp (iE.mp hh)) (by rw[hb];exact Bool.false_ne_true)
theorem Io:∀hs:List Str,(∀s∈hs,PyData.strOk s=true)->eJ (rd H 10) (hs.map .str)=some (hs.map .str)
 |[],_=>rfl
 |s::hs,h=>gI (if_pos (h s mem_cons_self)) (Io hs λs m=>h s (.tail _ m))
theorem in_str{l:Nat}{hs:List Str}{s:Str}(h:H[l]?=some (.list (hs.map .str)))(ho:∀s∈hs,PyData.strOk s=true)(os:PyData.strOk s=true):fT .d3 (.str s) (.ref l) H=some (hs.any (·==s)):=by
 refine(?_:(match H[l]?.bind fS with|some es=>_|none=>_)=_)
 rw[h]
 refine(?_:(match H[l]?.bind i7 with|some es=>_|none=>(cP H (.ref l)).bind _)=_)
 rw[h,cN h]
 refine(?_:((eJ (rd H 10) (hs.map .str)).bind λds=>(rd H 10 (.str s)).map λd=>ds.any λe=>PyData.eqv e d)=_)
 rw[Io hs ho,show rd H 10 (.str s)=some (.str s) from if_pos os]
 exact congrArg some any_map
end
theorem Ip{ds:List cj}{s:Str}(h:∀x∈ds,x.how≠s):((ds.map (·.how)).any (·==s))=false:=by
 rw[any_map]
 exact List.any_eq_false.mpr λx hx q=>h x hx (eq_of_beq q)
theorem BS{ds:List cj}{s:Str}(h:((ds.map (·.how)).any (·==s))=true):∃x,x∈ds/\x.how=s:=by
 rw[any_map] at h
 obtain⟨x,hx,q⟩:=any_eq_true.mp h
 exact⟨x,hx,eq_of_beq q⟩
noncomputable abbrev fC(l lm lw k lr:Nat)(d:Int)(ld lh lb:Nat)(o8 o9 o10 bS b9 bP dE dF:Option V):aV:=[some (cM l lm lw),some (nv k),some (.ref lr),some (.int d),some (.ref l),some (.ref ld),some (.ref lh),some (.ref lb),o8,o9,o10,bS,b9,bP,dE,dF]
section
variable{n:Nat}{H:Hp}{Q:PQ}{K:Out->Prop}{rest:List S}{d:Int}{l lm lw k lr ld lh lb b:Nat}{o8 o9 o10 bS b9 bP dE dF:Option V}{r:c7}{ds:List cj}{vs:List V}{hs:List Str}
noncomputable def snd(x:cj):Nat:=(x.line[1]?).getD 0
noncomputable def seconds(ds:List cj)(s:Str):List Nat:=(ds.filter λx=>x.how==s).map snd
theorem Iq{s:Str}{ρ:aV}(os:PyData.strOk s=true)(hd:∀x∈ds,mL x)(h2:∀x∈ds,x.how=s->∃c,x.line[1]?=some c/\c<20)(hv:ρ[2]?.join=some (.ref lr))(hz:ds.length<=14000000)(hR:H[lr]?=some (.list vs))(hD:gG b lr H ds vs)(q:∀H' ys,aI H H'->ys.Pairwise (·<·)->(∀c,c∈ys↔c∈seconds ds s)->Q (.ref H'.length) (H'++[.list (bb ys)])):WE (aM n) (.l3 true (.comp 1 (.aU (.aU (.U 0) (.k (.int 3))) (.k (.int 1))) (.U 0) (.of (.U 2)) [(.cmp .eq (.aU (.U 0) (.k (.int 2))) (.k (.str s)))])) ρ H Q:=by
 refine Ul (jh (iJ (aQ hv (aG (dz hR) (cK (cO (by rw[hD.len];exact lt_of_le_of_lt hz (by decide))) ?_)))))
 refine Ik (P:=λx:cj=>x.how==s) (F:=λx=>nv (snd x)) (dr hR hR) hD _ _ (λx v hx hv T hT=>?_) (λx v hx hv hp N hN=>?_) (iU ?_)
 ·refine hv _ λll hb hn ev al=>?_
  subst ev
  exact Bk (c5 (aQ rfl (bG (aG (a:=.str x.how) rfl (bG (aG (oQ (hd x hx).1 os) (lW (T:=T) hT)))))))
 ·refine hv _ λll hb hn ev al=>?_
  subst ev
  obtain⟨c,hc,_⟩:=h2 x hx (eq_of_beq hp)
  have hN:N (nv c) H:=by unfold snd at hN;rw[hc] at hN;exact hN
  exact c5 (c5 (aQ rfl (bG (aG (a:=.ref ll) rfl (bG (aG (gu (k:=1) al (by rw[getElem?_map,hc];rfl)) hN))))))
 ·have ea:(H++[bc.list ([]++(ds.filter λx=>x.how==s).map λx=>nv (snd x))])[H.length]?=some (.list (bb (seconds ds s))):=by rw[bq,bb,seconds,map_map];rfl
  refine Uk ea (λc hc=>?_) λys hp hm=>q _ ys (aI.ba _ _) hp hm
  obtain⟨x,hx,rfl⟩:=mem_map.mp hc
  have hx:=mem_filter.mp hx
  obtain⟨c,hc,bX⟩:=h2 x hx.1 (eq_of_beq hx.2)
  unfold snd
  rw[hc];exact bX
theorem xU{s:Str}{c:Nat}(h2:∀x∈ds,x.how=s->∃c,x.line[1]?=some c/\c<20):c∈seconds ds s↔∃x,x∈ds/\x.how=s/\x.line[1]?=some c:=by
 unfold seconds
 rw[mem_map]
 constructor
 ·rintro⟨x,hx,rfl⟩
  have hx:=mem_filter.mp hx
  obtain⟨c,hc,_⟩:=h2 x hx.1 (eq_of_beq hx.2)
  exact⟨x,hx.1,eq_of_beq hx.2,by unfold snd;rw[hc];rfl⟩
 ·rintro⟨x,hx,hs,hc⟩
  exact⟨x,mem_filter.mpr ⟨hx,by rw[hs];exact beq_self_eq_true _⟩,by unfold snd;rw[hc];rfl⟩
noncomputable abbrev Um:S:=.bD (.or [(.and [(.cmp .ne (.U 8) (.bE [])),(.cmp .ne (.U 8) (.U 7))]),(.and [(.cmp .eq (.U 8) (.bE [])),(.cmp .ne (.U 7) (.bE [])),(.or [(.cmp .d3 (.k (.str "parents")) (.U 6)),(.cmp .d3 (.k (.str "degree")) (.U 6))])])])
  [.ret (.k (.bool false))]
  []
theorem Un{lf:Nat}{fs bs:List Nat}(aF:H[lf]?=some (.list (bb fs)))(aB:H[lb]?=some (.list (bb bs)))(aH:H[lh]?=some (.list (hs.map .str)))(ho:∀s∈hs,PyData.strOk s=true)(h1:fs≠[]->fs=bs)(h2:bs≠[]->fs=[]->hs.any (·=="parents")=false/\hs.any (·=="degree")=false)(q:∀H',aI H H'->aY (aM n) rest (fC l lm lw k lr d ld lh lb (some (.ref lf)) o9 o10 bS b9 bP dE dF) H' K):aY (aM n) (Um::rest) (fC l lm lw k lr d ld lh lb (some (.ref lf)) o9 o10 bS b9 bP dE dF) H K:=by
 have x1:=aI.ba H [bc.list []]
 refine gy (k4 (mQ (fM (qJ (fM (cR (aQ rfl (jx (aG (ne_nil (bz _ aF) (iS 9 fs) (bq _ _)) ?_)))))))))
 rw[isEmpty_map]
 cases fs with
 |cons f VZ=>
  refine gZ rfl (iV (cR (aQ rfl (aQ rfl (aG (BK (x1 _ _ aF) (x1 _ _ aB)) (gZ (by rw[decide_eq_true (h1 λe=>nomatch e)];rfl) ?_))))))
  refine iV (qJ (fM (cR (aQ rfl (jx (aG (eq_nil (bz _ (x1 _ _ aF)) (iS 9 _) (bq _ _)) ?_))))))
  exact q _ (x1.trans (aI.ba _ _))
 |nil=>
  have x2:=x1.trans (aI.ba (H++[bc.list []]) [bc.list []])
  refine(?_:j5 _ _ _ _ _ _)
  refine iV (qJ (fM (cR (aQ rfl (jx (aG (eq_nil (bz _ (x1 _ _ aF)) (iS 9 _) (bq _ _)) (gZ rfl ?_)))))))
  have x3:=x2.trans (aI.ba (H++[bc.list []]++[bc.list []]) [bc.list []])
  refine fM (cR (aQ rfl (jx (aG (ne_nil (bz _ (x2 _ _ aB)) (iS 9 bs) (bq _ _)) ?_))))
  rw[isEmpty_map]
  cases bs with
  |nil=>exact q _ x3
  |cons b vB=>
   have hh:=h2 (λe=>nomatch e) rfl
   refine gZ rfl (iV (mQ (fM (cR (bG (aQ rfl (aG (in_str (x3 _ _ aH) ho lU) (gZ hh.1 (iV (cR (bG (aQ rfl (aG (in_str (x3 _ _ aH) ho mJ) ?_)))))))))))))
   rw[hh.2]
   exact q _ x3
end
theorem BT(B N:Nat->Bool):∀l:List Nat,(!(l.filter λc=>B c&&N c).isEmpty)=(l.filter N).any B
 |[]=>rfl
 |c::l=>by
  rw[filter_cons,filter_cons]
  cases hN:N c with
  |false=>rw[Bool.and_false];exact BT B N l
  |true=>
   rw[Bool.and_true]
   cases hB:B c with
   |true=>refine(?_:true=(B c||_));rw[hB];rfl
   |false=>refine(?_:_=(B c||(l.filter N).any B));rw[hB,Bool.false_or];exact BT B N l
theorem fK.b{N:Nat}{H H':Hp}{ld la:Nat}{ks:Ks}(h:fK N H ld ks)(x:br la H H')(b8:ld≠la):fK N H' ld ks:=h _ λep es a dc nd rg=>(.mk ep es (x _ _ b8 a) dc nd rg)
noncomputable def BU(ps:List aO)(p:aO)(l lm lw k lr:Nat)(d:Int)(ld lh lb:Nat)(o8 b9 bP dE dF:Option V)(la:Nat)(H:Hp)(as:List Nat)(ρ:aV)(H':Hp):Prop:=∀NaIζ:Prop,(∀(o10 bS:Option V) (acc:List Nat) (e:ρ=fC l lm lw k lr d ld lh lb o8 (some (.ref la)) o10 bS b9 bP dE dF) (x:br la H H') (a:H'[la]?=some (.list (bb acc))) (t:acc++as.filter (lQ ps d k)=gV ps d k p) (b:∀c∈as,c∈dq p d),NaIζ)->NaIζ
theorem BU.mk{ps:List aO}{p:aO}{l lm lw k lr:Nat}{d:Int}{ld lh lb:Nat}{o8 b9 bP dE dF:Option V}{la:Nat}{H:Hp}{as:List Nat}{ρ:aV}{H':Hp}(o10 bS:Option V)(acc:List Nat)(e:ρ=fC l lm lw k lr d ld lh lb o8 (some (.ref la)) o10 bS b9 bP dE dF)(x:br la H H')(a:H'[la]?=some (.list (bb acc)))(t:acc++as.filter (lQ ps d k)=gV ps d k p)(b:∀c∈as,c∈dq p d):BU ps p l lm lw k lr d ld lh lb o8 b9 bP dE dF la H as ρ H':=λζ bw=>bw o10 bS acc e x a t b
noncomputable def BV(ms:List gd)(l lm lw k lr:Nat)(d:Int)(ld lh lb:Nat)(o8 o9 o10 bS b9:Option V)(H:Hp)(as:List gd)(ρ:aV)(H':Hp):Prop:=∀NwIζ:Prop,(∀(bP dE dF:Option V) (e:ρ=fC l lm lw k lr d ld lh lb o8 o9 o10 bS b9 bP dE dF) (eh:H'=H) (b:∀w∈as,w∈ms),NwIζ)->NwIζ
theorem BV.mk{ms:List gd}{l lm lw k lr:Nat}{d:Int}{ld lh lb:Nat}{o8 o9 o10 bS b9:Option V}{H:Hp}{as:List gd}{ρ:aV}{H':Hp}(bP dE dF:Option V)(e:ρ=fC l lm lw k lr d ld lh lb o8 o9 o10 bS b9 bP dE dF)(eh:H'=H)(b:∀w∈as,w∈ms):BV ms l lm lw k lr d ld lh lb o8 o9 o10 bS b9 H as ρ H':=λζ bw=>bw bP dE dF e eh b
section
variable{n:Nat}{H:Hp}{Q:PQ}{K:Out->Prop}{rest:List S}{d:Int}{l lm lw k lr ld lh lb la b:Nat}{o8 o9 o10 bS b9 bP dE dF:Option V}{r:c7}{ds:List cj}{vs:List V}{hs:List Str}{ks:Ks}{p:aO}
noncomputable abbrev Ir:S:=.aX (.U 11) (.comp 1 (.U 0) (.U 0) (.of (.call m0 [.U 4,.U 10,.U 3])) [(.and [(.cmp .d3 (.U 0) (.U 6)),(.cmp .ne (.U 0) (.U 2))])])
theorem Uo{c:Nat}(hl:r.ps.length<=20)(hA:H[l]?=some (.list (r.ps.map bO)))(hK:fK r.ps.length H ld ks)(hk:∀c,c∈ks.map (·.1)↔bV r.ps d 20 c=true)(q:∀H' lo,aI H H'->H'[lo]?=some (.list (bb ((kids r.ps d c).filter λx=>bV r.ps d 20 x&&fA k x)))->aY (aM (n+2)) rest (fC l lm lw k lr d ld lh lb o8 o9 (some (nv c)) (some (.ref lo)) b9 bP dE dF) H' K):aY (aM (n+2)) (Ir::rest) (fC l lm lw k lr d ld lh lb o8 o9 (some (nv c)) bS b9 bP dE dF) H K:=by
 refine cU (jh (iJ (hO (aQ rfl (aQ rfl (aQ rfl (bB (xF (n:=n) hA hl λlc H₁ ζ x ac=>aG (dz ac) (cK (cO (by rw[length_map];exact lt_of_le_of_lt (le_trans (kB _ _ _) hl) (by decide))) ?_)))))))))
 refine ij (P:=λx=>bV r.ps d 20 x&&fA k x) (F:=nv) _ _ _ (λx ζ T hT=>?_) (λx ζ ζ N hN=>hN) (iU (aG (a:=fC l lm lw k lr d ld lh lb o8 o9 (some (nv c)) (some (.ref H₁.length)) b9 bP dE dF) rfl (q _ _ (x.trans (aI.ba _ _)) (bq _ _))))
 refine sE (mN (cR (aQ (v:=nv x) rfl (aQ rfl (aG (Im (hK.ext (by assumption)) hk) (aG (a:=bV r.ps d 20 x) rfl ?_))))))
 refine e8 (λh1=>?_) λh1=>?_
 ·rw[h1,Bool.true_and] at hT
  exact cR (aQ (v:=nv x) rfl (aQ (v:=nv k) rfl (aG (a:=fA k x) rfl (aG (a:=fA k x) rfl (lW (T:=T) hT)))))
 ·rw[h1,Bool.false_and] at hT
  exact aG (a:=bV r.ps d 20 x) rfl (dJ h1 hT)
noncomputable abbrev Uq:S:=.bD (.or [(.call iO [.U 4,.U 10,.U 3]),(.cmp .ne (.U 11) (.bE []))])
   [.expr (.dP .append (.U 9) [.U 10])]
   []
noncomputable abbrev Ur:S:=.for (.U 10) (.of (.call j0 [.U 4,.U 1,.U 3])) [Ir,Uq]
theorem Us(hW:cw r.ps)(hl:r.ps.length<=20)(hp:r.ps[k]?=some p)(hA:H[l]?=some (.list (r.ps.map bO)))(hK:fK r.ps.length H ld ks)(hk:∀c,c∈ks.map (·.1)↔bV r.ps d 20 c=true)(a0:H[la]?=some (.list []))(n1:l≠la)(n2:ld≠la)(q:∀H' o10 bS,br la H H'->H'[la]?=some (.list (bb (gV r.ps d k p)))->aY (aM (n+2)) rest (fC l lm lw k lr d ld lh lb o8 (some (.ref la)) o10 bS b9 bP dE dF) H' K):aY (aM (n+2)) (Ur::rest) (fC l lm lw k lr d ld lh lb o8 (some (.ref la)) o10 bS b9 bP dE dF) H K:=by
 refine k3 (iJ (hO (aQ rfl (aQ rfl (aQ rfl (bB (sG hA hp (aG (a:=bb (dq p d)) rfl ?_))))))))
 refine d9 (BU r.ps p l lm lw k lr d ld lh lb o8 b9 bP dE dF la H) (λc as ρ H' hI=>?_) (λρ H' hI=>?_) _ _ _ (.mk o10 bS [] rfl (br.refl _ _) a0 rfl (λc h=>h))
 ·refine hI _ λo10 bS acc e x a t b=>?_
  subst e
  refine aG (a:=fC l lm lw k lr d ld lh lb o8 (some (.ref la)) (some (nv c)) bS b9 bP dE dF) rfl λN hN=>?_
  refine(mC hW hp d c (b c mem_cons_self)).elim λpc uG=>?_
  refine Uo (n:=n) hl (x _ _ n1 hA) (hK.b x n2) hk λH₁ lo x1 ao=>?_
  have qG:=x.trans (x1.b la)
  have ek:lQ r.ps d k c=(dD pc d||!((kids r.ps d c).filter λx=>bV r.ps d 20 x&&fA k x).isEmpty):=by rw[BT,<-iB uG.1];rfl
  have hb:∀c∈as,c∈dq p d:=λc hc=>b c (.tail _ hc)
  have yes:∀H₂,aI H₁ H₂->lQ r.ps d k c=true->aY (aM (n+2)) [.expr (.dP .append (.U 9) [.U 10])] (fC l lm lw k lr d ld lh lb o8 (some (.ref la)) (some (nv c)) (some (.ref lo)) b9 bP dE dF) H₂ λo=>lD o (λρ H=>N ρ H) False:=λH₂ x2 hk=>uD t (λζ t=>SZ rfl rfl ((x2 _ _ (x1 _ _ a))) (by rw[length_map];exact Go t (le_trans (qk hW hp) (by decide))) (hN _ _ rfl (.mk _ _ (acc++[c]) rfl (qG.trans ((x2.b la).trans (br.set _ _ _))) (by rw[<-qg];exact f9 (x2 _ _ (x1 _ _ a)) _) t hb))) λh ζ=>absurd (hk.symm.trans h) (by decide)
  have no:∀H₂,aI H₁ H₂->lQ r.ps d k c=false->N (fC l lm lw k lr d ld lh lb o8 (some (.ref la)) (some (nv c)) (some (.ref lo)) b9 bP dE dF) H₂:=λH₂ x2 hk=>uD t (λh ζ=>absurd (hk.symm.trans h) (by decide)) λζ t=>hN _ _ rfl (.mk _ _ acc rfl (qG.trans (x2.b la)) (x2 _ _ (x1 _ _ a)) t hb)
  refine gy (k4 (mQ (fM (hO (aQ rfl (aQ rfl (aQ rfl (bB (oN (qG _ _ n1 hA) uG.1 (aG (a:=dD pc d) rfl ?_))))))))))
  refine qf (λh1=>?_) λh1=>aG (a:=dD pc d) rfl (jO h1 (yes _ (aI.refl _) (by rw[ek,h1];rfl)))
  refine iV (cR (aQ rfl (jx (aG (ne_nil (bz _ ao) (iS 9 _) (bq _ _)) ?_))))
  rw[isEmpty_map]
  rw[h1,Bool.false_or] at ek
  refine aG (a:=!((kids r.ps d c).filter λx=>bV r.ps d 20 x&&fA k x).isEmpty) rfl ?_
  rw[<-ek]
  exact da (λh=>yes _ (aI.ba _ _) h) λh=>no _ (aI.ba _ _) h
 ·refine hI _ λo10 bS acc e x a t b=>?_
  subst e
  rw[filter_nil,append_nil] at t
  exact q _ _ _ x (t▸a)
noncomputable abbrev Ut:S:=.bD (.or [(.and [(.cmp .ne (.U 12) (.bE [])),(.cmp .ne (.U 12) (.bi .sortI [.U 9]))]),(.and [(.cmp .d3 (.k (.str "degree")) (.U 6)),(.cmp .ne (.U 9) (.bE []))])])
  [.ret (.k (.bool false))]
  []
theorem Uu{ls:Nat}{ss as:List Nat}(aS:H[ls]?=some (.list (bb ss)))(aA:H[la]?=some (.list (bb as)))(aH:H[lh]?=some (.list (hs.map .str)))(ho:∀s∈hs,PyData.strOk s=true)(eZ:as.length<64)(h1:ss≠[]->ss=iG as)(h2:hs.any (·=="degree")=true->as=[])(q:∀H',aI H H'->aY (aM n) rest (fC l lm lw k lr d ld lh lb o8 (some (.ref la)) o10 bS (some (.ref ls)) bP dE dF) H' K):aY (aM n) (Ut::rest) (fC l lm lw k lr d ld lh lb o8 (some (.ref la)) o10 bS (some (.ref ls)) bP dE dF) H K:=by
 have x1:=aI.ba H [bc.list []]
 have fin:∀{H₁:Hp},aI H H₁->j5 (aM n) false [(.and [(.cmp .d3 (.k (.str "degree")) (.U 6)),(.cmp .ne (.U 9) (.bE []))])] (fC l lm lw k lr d ld lh lb o8 (some (.ref la)) o10 bS (some (.ref ls)) bP dE dF) H₁ λx H=>be (truthy H x) λb=>bW b (aY (aM n) [.ret (.k (.bool false))] (fC l lm lw k lr d ld lh lb o8 (some (.ref la)) o10 bS (some (.ref ls)) bP dE dF) H λo=>lD o (λρ H=>aY (aM n) rest ρ H K) (K o)) (aY (aM n) [] (fC l lm lw k lr d ld lh lb o8 (some (.ref la)) o10 bS (some (.ref ls)) bP dE dF) H λo=>lD o (λρ H=>aY (aM n) rest ρ H K) (K o)):=λ{H₁} x=>by
  refine iV (qJ (fM (cR (bG (aQ rfl (aG (in_str (x _ _ aH) ho mJ) ?_))))))
  cases hd:hs.any (·=="degree") with
  |false=>exact q _ x
  |true=>
   refine gZ rfl (iV (cR (aQ rfl (jx (aG (ne_nil (bz _ (x _ _ aA)) (iS 9 as) (bq _ _)) ?_)))))
   rw[h2 hd]
   exact q _ (x.trans (aI.ba _ _))
 refine gy (k4 (mQ (fM (qJ (fM (cR (aQ rfl (jx (aG (ne_nil (bz _ aS) (iS 9 ss) (bq _ _)) ?_)))))))))
 rw[isEmpty_map]
 cases ss with
 |nil=>exact fin x1
 |cons f fs=>
  refine gZ rfl (iV (cR (aQ rfl (lZ (aQ rfl (BL (x1 _ _ aA) eZ (aG (BK (bz _ (x1 _ _ aS)) (bq _ _)) (gZ (by rw[decide_eq_true (h1 λe=>nomatch e)];rfl) ?_))))))))
  exact fin (x1.trans (aI.ba _ _))
end
section
variable{n:Nat}{H:Hp}{Q:PQ}{K:Out->Prop}{rest:List S}{d:Int}{l lm lw k lr ld lh lb la b:Nat}{o8 o9 o10 bS b9 bP dE dF:Option V}{r:c7}{ds:List cj}{vs:List V}{hs:List Str}{ks:Ks}{p:aO}
theorem Iu{ps:List aO}:∀{ms:List gd},kH ps.length ms->gW ps d k ms=none->∀w∈ms,w.day<=d->k∈[w.a,w.b]->∃(o:Nat) (p:aO),(w.a:Int)+(w.b:Int) - (k:Int)=(o:Int)/\ps[o]?=some p/\dD p d=false
 |[],_,_,w,h,_,_=>nomatch h
 |v::ms,ok,hn,w,h,hd,hk=>by
  unfold gW at hn
  split at hn
  ·cases hn
  ·rename_i h1
   split at hn
   ·cases hn
   ·rename_i h2
    rcases mem_cons.mp h with e|h
    ·subst e
     have fO:=ok w mem_cons_self
     have eqk:∀{a:Nat},k=a->ip a k=true:=λe=>by rw[e];exact beq_self_eq_true _
     rcases mem_cons.mp hk with ek|hk
     ·refine(at_of fO.2).elim λq hq=>⟨w.b,q,by lia,hq,?_⟩
      rw[decide_eq_true hd,eqk ek,iB hq,Bool.true_and,Bool.true_and] at h1
      exact not_eq_true _▸h1
     ·have ek:=mem_singleton.mp hk
      refine(at_of fO.1).elim λq hq=>⟨w.a,q,by lia,hq,?_⟩
      rw[decide_eq_true hd,eqk ek,iB hq,Bool.true_and,Bool.true_and] at h2
      exact not_eq_true _▸h2
    ·exact Iu (λw h=>ok w (.tail _ h)) hn w h hd hk
noncomputable abbrev Uv:S:=.for (.aP [.U 13,.U 14,.U 15]) (.of (.aU (.U 0) (.k (.int 1))))
  [.bD (.and [(.cmp .d3 (.k (.str "town")) (.U 6)),(.cmp .le (.U 15) (.U 3)),(.cmp .d3 (.U 1) (.aP [.U 13,.U 14])),(.call iO [.U 4,(.bin .sub (.bin .add (.U 13) (.U 14)) (.U 1)),.U 3])])
   [.ret (.k (.bool false))]
   []]
theorem Uw(hM:kH r.ps.length r.ms)(hA:H[l]?=some (.list (r.ps.map bO)))(am:H[lm]?=some (.list (r.ms.map iT)))(aH:H[lh]?=some (.list (hs.map .str)))(ho:∀s∈hs,PyData.strOk s=true)(Ux:hs.any (·=="town")=true->gW r.ps d k r.ms=none)(q:∀bP dE dF,aY (aM (n+1)) rest (fC l lm lw k lr d ld lh lb o8 o9 o10 bS b9 bP dE dF) H K):aY (aM (n+1)) (Uv::rest) (fC l lm lw k lr d ld lh lb o8 o9 o10 bS b9 bP dE dF) H K:=by
 refine k3 (iJ (c5 (aQ rfl (bG (aG (a:=.ref lm) rfl (aG (dz am) ?_))))))
 refine d9 (g:=iT) (BV r.ms l lm lw k lr d ld lh lb o8 o9 o10 bS b9 H) (λw as ρ H' hI=>?_) (λρ H' hI=>?_) _ _ _ (.mk bP dE dF rfl rfl (λw h=>h))
 ·refine hI _ λbP dE dF e eh b=>?_
  subst e eh
  refine aG (a:=fC l lm lw k lr d ld lh lb o8 o9 o10 bS b9 (some (nv w.a)) (some (nv w.b)) (some (.int w.day))) rfl λN hN=>?_
  have no:N (fC l lm lw k lr d ld lh lb o8 o9 o10 bS b9 (some (nv w.a)) (some (nv w.b)) (some (.int w.day))) H':=hN _ _ (dr am am) (.mk _ _ _ rfl rfl (λw h=>b w (.tail _ h)))
  refine gy (k4 (qJ (fM (cR (bG (aQ rfl (aG (in_str aH ho xq) ?_)))))))
  cases ht:hs.any (·=="town") with
  |false=>exact no
  |true=>
   refine gZ rfl (fM (cR (aQ rfl (aQ rfl (aG (a:=decide (w.day<=d)) rfl (aG (a:=decide (w.day<=d)) rfl (e8 (λh1=>?_) λh1=>aG (a:=decide (w.day<=d)) rfl (dJ h1 no))))))))
   refine fM (cR (aQ rfl (xS (aQ (v:=nv w.a) rfl (aQ (v:=nv w.b) rfl (aG (ux (H:=H') (ls:=[w.a,w.b])) (aG (a:=decide (k∈[w.a,w.b])) rfl (e8 (λh2=>?_) λh2=>aG (a:=decide (k∈[w.a,w.b])) rfl (dJ h2 no)))))))))
   refine(Iu hM (Ux ht) w (b w mem_cons_self) (of_decide_eq_true h1) (of_decide_eq_true h2)).elim λo ho=>ho.elim λpo ho=>?_
   refine iV (hO (aQ rfl (dH (dH (aQ rfl (aQ rfl (dB rfl (aQ rfl (dB (z:=(o:Int)) (congrArg some ho.1) (aQ rfl (bB (oN hA ho.2.1 (aG (a:=dD po d) rfl (dJ ho.2.2 no))))))))))))))
 ·refine hI _ λbP dE dF e eh b=>?_
  subst e eh
  exact q _ _ _
theorem Uy(ok:gx r)(at':fP H r l lm lw)(hp:r.ps[k]?=some p)(hR:H[lr]?=some (.list vs))(hD:gG b lr H ds vs)(hd:∀x∈ds,mL x)(hz:ds.length<=14000000)(g:jB r d k p ds)(q:∀H',aI H H'->Q (.bool true) H'):aM (n+4) vj [cM l lm lw,nv k,.ref lr,.int d] H Q:=Ql (at' _ λap am aw=>ok _ λhW hl hM ζ=>g _ λM V0 ji lt f1 f2 n1 n2 tw=>by
 unfold yE
 have ho:∀s∈ds.map (·.how),PyData.strOk s=true:=λs hs=>(mem_map.mp hs).elim λx hx=>hx.2▸(hd x hx.1).1
 have sec:∀{s:Str} {ts:List Nat},s≠"town"->(∀c∈ts,c<20)->(∀x∈ds,x.how=s->∀c,(∃x,x∈ds/\x.how=s/\x.line[1]?=some c)↔c∈ts)->∀x∈ds,x.how=s->∃c,x.line[1]?=some c/\c<20:=λ{s ts} hs lO hf x hx e=>lt _ λζ ζ okk=>(okk x hx).casesOn (λe' ζ ζ=>absurd (e.symm.trans e') hs) λh ζ ζ sh ζ=>sh _ λt el ne ζ ζ ζ=>by
  cases t with
  |nil=>exact absurd rfl ne
  |cons c t=>exact⟨c,by rw[el];rfl,lO c ((hf x hx e c).mp ⟨x,hx,e,by rw[el];rfl⟩)⟩
 have s1:=sec (s:="line") (ts:=dO r.ps d (kids r.ps d k)) (λe=>nomatch e) (λc hc=>lt_of_lt_of_le (mem_range.mp (mem_filter.mp (k7 hc).1).1) hl) f1
 have s2:=sec (s:="parents") (ts:=gV r.ps d k p) (λe=>nomatch e) (λc hc=>(mC hW hp d c (uE hc)).elim λq hq=>lt_of_lt_of_le (List.getElem?_eq_some_iff.mp hq.1).1 hl) f2
 refine cU (c5 (aQ rfl (bG (aG (a:=.ref l) rfl (aG (a:=[some (cM l lm lw),some (nv k),some (.ref lr),some (.int d),some (.ref l),none,none,none,none,none,none,none,none,none,none,none]) rfl ?_)))))
 refine cU (sF (aQ rfl (aQ rfl (bB (Th (n:=n+1) hW hl ap λld ks H₁ x1 hK hk=>aG (a:=[some (cM l lm lw),some (nv k),some (.ref lr),some (.int d),some (.ref l),some (.ref ld),none,none,none,none,none,none,none,none,none,none]) rfl ?_)))))
 have hb:b<=b:=le_refl _
 have Uz:gG b lr H₁ ds vs:=hD.imp λζ ζ h=>h _ λl hb hn e a=>(.mk l hb hn e (x1 l _ a))
 have zw:vs.length<16000000:=by rw[hD.len];exact lt_of_le_of_lt hz (by decide)
 refine cU (jh (iJ (aQ rfl (aG (dz (x1 _ _ hR)) (cK (cO zw) ?_)))))
 refine Ik (P:=λζ=>true) (F:=λx:cj=>.str x.how) (dr (x1 _ _ hR) (x1 _ _ hR)) Uz _ _ (λx v ζ ζ T hT=>hT) (λx v ζ hv ζ N hN=>hv _ λll ζ ζ ev al=>by subst ev;exact c5 (aQ rfl (bG (aG (a:=.str x.how) rfl hN)))) (iU (aG (a:=[some (cM l lm lw),some (nv k),some (.ref lr),some (.int d),some (.ref l),some (.ref ld),some (.ref H₁.length),none,none,none,none,none,none,none,none,none]) rfl ?_))
 have aH:(H₁++[bc.list ([]++(ds.filter λζ=>true).map λx=>.str x.how)])[H₁.length]?=some (.list ((ds.map (·.how)).map .str)):=by rw[bq,nH,map_map];rfl
 have x2:=x1.trans (aI.ba H₁ [bc.list ([]++(ds.filter λζ=>true).map λx=>.str x.how)])
 have BW:=hK.ext (aI.ba H₁ [bc.list ([]++(ds.filter λζ=>true).map λx=>.str x.how)])
 generalize H₁++[bc.list ([]++(ds.filter λζ=>true).map λx=>.str x.how)]=H₂ at aH x2 BW ⊢
 generalize H₁.length=lh at aH ⊢
 refine cU (jh (iJ (hO (aQ rfl (aQ rfl (aQ rfl (bB (xF (n:=n+1) (x2 _ _ ap) hl λlc H₃ ζ x3 ac=>aG (dz ac) (cK (cO (by rw[length_map];exact lt_of_le_of_lt (le_trans (kB _ _ _) hl) (by decide))) ?_)))))))))
 refine ij (P:=bV r.ps d 20) (F:=nv) _ _ _ (λx ζ T hT=>Bk (aQ (v:=nv x) rfl (aQ rfl (aG (Im (BW.ext x3) hk) (lW (T:=T) hT))))) (λx ζ ζ N hN=>hN) (iU (aG (a:=fC l lm lw k lr d ld lh H₃.length none none none none none none none none) rfl ?_))
 have aB:(H₃++[bc.list ([]++((kids r.ps d k).filter (bV r.ps d 20)).map nv)])[H₃.length]?=some (.list (bb (dO r.ps d (kids r.ps d k)))):=bq _ _
 have x4:=(x2.trans x3).trans (aI.ba H₃ [bc.list ([]++((kids r.ps d k).filter (bV r.ps d 20)).map nv)])
 have sK:=x3.trans (aI.ba H₃ [bc.list ([]++((kids r.ps d k).filter (bV r.ps d 20)).map nv)])
 generalize H₃++[bc.list ([]++((kids r.ps d k).filter (bV r.ps d 20)).map nv)]=H₄ at aB x4 sK ⊢
 generalize H₃.length=lb at aB ⊢
 have Iv:gG b lr H₄ ds vs:=hD.imp λζ ζ h=>h _ λl hb hn e a=>(.mk l hb hn e (x4 l _ a))
 refine cU (Iq mI hd s1 rfl hz (x4 _ _ hR) Iv λH₅ ys x5 ur hm=>aG (a:=fC l lm lw k lr d ld lh lb (some (.ref H₅.length)) none none none none none none none) rfl ?_)
 have x6:=x5.trans (aI.ba H₅ [bc.list (bb ys)])
 have kp:(kids r.ps d k).Pairwise (·<·):=Pairwise.filter _ List.pairwise_lt_range
 refine Un (bq _ _) (x6 _ _ aB) (x6 _ _ (sK _ _ aH)) ho (λb8=>?_) (λqv ζ=>⟨Ip λx hx e=>qv (n1 x hx (.inl e)),Ip λx hx e=>qv (n1 x hx (.inr e))⟩) λH₇ x7=>?_
 ·refine Il ur (kp.filter _) λc=>(hm c).trans ?_
  cases ys with
  |nil=>exact absurd rfl b8
  |cons y _=>
   obtain⟨x,hx,e,_⟩:=(xU s1).mp ((hm y).mp mem_cons_self)
   exact(xU s1).trans (f1 x hx e c)
 have x8:=x6.trans x7
 have a0:=bq H₇ (.list [])
 refine cU (jx (aG (a:=fC l lm lw k lr d ld lh lb (some (.ref H₅.length)) (some (.ref H₇.length)) none none none none none none) rfl ?_))
 have x9:=x8.trans (aI.ba H₇ [bc.list []])
 have al:∀{j:Nat} {c:bc},H₄[j]?=some c->j≠H₇.length:=λh=>ne_of_lt (cT (x8 _ _ h))
 have Iw:=BW.ext sK
 have UA:=Iw.ext x9
 have nld:ld≠H₇.length:=Iw _ λep es a ζ ζ ζ=>al a
 refine Us (n:=n+1) hW hl hp (x9 _ _ (x4 _ _ ap)) UA hk a0 (al (x4 _ _ ap)) nld λH₁₀ o10 bS mK aA=>?_
 generalize H₇.length=la at al mK aA nld ⊢
 have up:∀{j:Nat} {c:bc},H₄[j]?=some c->H₁₀[j]?=some c:=λh=>mK _ _ (al h) (x9 _ _ h)
 have UB:gG b lr H₁₀ ds vs:=Iv.imp λζ ζ h=>h _ λl hb hn e a=>(.mk l hb hn e (up a))
 refine cU (Iq lU hd s2 rfl hz (up (x4 _ _ hR)) UB λH₁₁ zs UC rQ ku=>aG (a:=fC l lm lw k lr d ld lh lb (some (.ref H₅.length)) (some (.ref la)) o10 bS (some (.ref H₁₁.length)) none none none) rfl ?_)
 have BX:=UC.trans (aI.ba H₁₁ [bc.list (bb zs)])
 refine Uu (bq _ _) (BX _ _ aA) (BX _ _ (up (sK _ _ aH))) ho (lt_of_le_of_lt (qk hW hp) (by decide)) (λb8=>?_) (λh=>(BS h).elim λx hx=>n2 x hx.1 hx.2) λH₁₃ UD=>?_
 ·have nd:(gV r.ps d k p).Nodup:=(F4 hW hp d).2.filter _
  have so:(iG (gV r.ps d k p)).Pairwise (·<=·):=(List.pairwise_mergeSort (le:=λa b:Nat=>decide (a<=b)) (λa b c h1 h2=>decide_eq_true (le_trans (of_decide_eq_true h1) (of_decide_eq_true h2))) (λa b=>by rw[or_eq_true];exact(le_total a b).imp (λh=>decide_eq_true h) λh=>decide_eq_true h) _).imp of_decide_eq_true
  refine Il rQ (so.imp₂ (λa b h1 h2=>lt_of_le_of_ne h1 h2) ((mergeSort_perm _ _).nodup_iff.mpr nd)) λc=>((ku c).trans ?_).trans (mergeSort_perm _ _).mem_iff.symm
  cases zs with
  |nil=>exact absurd rfl b8
  |cons y _=>
   obtain⟨x,hx,e,_⟩:=(xU s2).mp ((ku y).mp mem_cons_self)
   exact(xU s2).trans (f2 x hx e c)
 have fin:∀{j:Nat} {c:bc},H₄[j]?=some c->H₁₃[j]?=some c:=λh=>(BX.trans UD) _ _ (up h)
 refine Uw (n:=n+2) hM (fin (x4 _ _ ap)) (fin (x4 _ _ am)) (fin (sK _ _ aH)) ho (λh=>(BS h).elim λx hx=>(tw x hx.1 hx.2).1) λbP dE dF=>?_
 refine k5 (mQ (fM (cR (bG (aQ rfl (aG (congrArg (Option.map (!·)) (in_str (fin (sK _ _ aH)) ho xq)) ?_))))))
 cases ht:(ds.map λx:cj=>x.how).any (λs=>s==("town":Str)) with
 |false=>exact q _ λj c h=>fin (x4 _ _ h)
 |true=>
  refine(BS ht).elim λx hx=>?_
  exact iV (hO (aQ rfl (aQ rfl (aQ rfl (bB (Tr (n:=n) hW hl (List.getElem?_eq_some_iff.mp hp).1 (tw x hx.1 hx.2).2 (fin (x4 _ _ ap)) λH' x'=>q _ λj c h=>x' _ _ (fin (x4 _ _ h)))))))))
end
theorem BY{M:Nat}:∀{ds:List cj},(∀x∈ds,Zm M x.part)->∃z:Nat,gY ds*(M:Rat)=(z:Rat)
 |[],_=>⟨0,Rat.zero_mul _⟩
 |x::ds,h=>(BY λy hy=>h y (.tail _ hy)).elim λz hz=>(h x mem_cons_self).elim λzx hx=>⟨zx+z,by
  refine(?_:(x.part+gY ds)*(M:Rat)=_)
  rw[Rat.add_mul,hz,hx.2,Rat.natCast_add]⟩
theorem Sm.of{M z:Nat}{x:Rat}(hM:M≠0)(e:x*(M:Rat)=(z:Rat))(hz:z<=M)(hb:M<2^1000):Sm 1000 x:=by
 have e2:x=Rat.normalize z M hM:=by
  have h2:Rat.normalize z M hM*(M:Rat)=(z:Rat):=by rw[Rat.normalize_eq_mkRat];exact BG hM
  have h3:(x - Rat.normalize z M hM)*(M:Rat)=0:=by grind
  exact(Rat.mul_eq_zero.mp h3).elim (λh=>by grind) λh=>absurd (Rat.natCast_eq_zero_iff.mp h) hM
 rw[e2]
 exact Sm.qh hM (lt_of_le_of_lt hz hb) hb
theorem UE{M:Nat}{A B:List cj}{x:cj}(hM:0<M)(hb:M<2^1000)(hz:∀y∈A++x::B,Zm M y.part)(hs:gY (A++x::B)=1):Sm 1000 (gY A)/\Sm 1000 x.part:=by
 obtain⟨zA,hA⟩:=BY λy hy=>hz y (List.mem_append_left _ hy)
 obtain⟨zB,hB⟩:=BY λy hy=>hz y (mem_append_right _ (.tail _ hy))
 obtain⟨zx,_,hx⟩:=hz x (mem_append_right _ mem_cons_self)
 have hs:gY A+(x.part+gY B)=1:=by rw[<-hs,BF];rfl
 have he:((zA+(zx+zB):Nat):Rat)=(M:Rat):=by
  rw[Rat.natCast_add,Rat.natCast_add,<-hA,<-hB,<-hx,<-Rat.add_mul,<-Rat.add_mul,hs,Rat.one_mul]
 have he:=Rat.natCast_inj.mp he
 exact⟨Sm.of (ne_of_gt hM) hA (by lia) hb,Sm.of (ne_of_gt hM) hx (by lia) hb⟩
noncomputable abbrev jk(l lm lw l' cq cy k:Nat)(d:Int)(lr:Nat)(s:Rat)(o6 o7 o8:Option V):aV:=[some (cM l lm lw),some (cM l' cq cy),some (nv k),some (.int d),some (.ref lr),some (rv s),o6,o7,o8]
noncomputable def BZ(ds:List cj)(l lm lw l' cq cy k:Nat)(d:Int)(lr:Nat)(H:Hp)(as:List cj)(ρ:aV)(H':Hp):Prop:=∀WhIζ:Prop,(∀(o6 o7 o8:Option V) (A:List cj) (e:ρ=jk l lm lw l' cq cy k d lr (gY A) o6 o7 o8) (x:aI H H') (t:A++as=ds),WhIζ)->WhIζ
theorem BZ.mk{ds:List cj}{l lm lw l' cq cy k:Nat}{d:Int}{lr:Nat}{H:Hp}{as:List cj}{ρ:aV}{H':Hp}(o6 o7 o8:Option V)(A:List cj)(e:ρ=jk l lm lw l' cq cy k d lr (gY A) o6 o7 o8)(x:aI H H')(t:A++as=ds):BZ ds l lm lw l' cq cy k d lr H as ρ H':=λζ bw=>bw o6 o7 o8 A e x t
section
variable{n:Nat}{H:Hp}{Q:PQ}{K:Out->Prop}{rest:List S}{d:Int}{l lm lw l' cq cy k lr ll b:Nat}{o6 o7 o8:Option V}{r:c7}{ds:List cj}{vs:List V}{p:aO}{s:Rat}{x:cj}
noncomputable abbrev mR(x:cj)(ll:Nat):V:=.aP [uK x.dQ,rv x.part,.str x.how,.ref ll]
noncomputable abbrev Iy:S:=.bD (.or [(.not (.bi (.iv .tuple) [.U 6])),(.cmp .ne (.bi .len [.U 6]) (.k (.int 4))),(.not (.bi (.iv .tuple) [(.aU (.U 6) (.k (.int 1)))])),(.cmp .ne (.bi .len [(.aU (.U 6) (.k (.int 1)))]) (.k (.int 2)))])
   [.ret (.k (.bool false))]
   []
noncomputable abbrev Iz:S:=.aX (.aP [.U 7,.U 8]) (.aU (.U 6) (.k (.int 1)))
noncomputable abbrev IA:S:=.bD (.or [(.not (.call qP [.U 7])),(.not (.call qP [.U 8])),(.cmp .lt (.U 7) (.k (.int 1))),(.cmp .lt (.U 8) (.k (.int 1)))])
   [.ret (.k (.bool false))]
   []
theorem IB{vs:List V}(q:Q (.bool true) H):pC (.iv .tuple) [.aP vs] H Q:=q
theorem IC{vs:List V}(q:Q (.int vs.length) H):pC .len [.aP vs] H Q:=q
theorem xV{C:Cl}{ρ:aV}{f:Nat}{a:E}(h:WE C a ρ H λv H=>C f [v] H Q):WE C (.call f [a]) ρ H Q:=h
theorem UG(h0:0<x.part)(q:aY (aM (n+1)) rest (jk l lm lw l' cq cy k d lr s (some (mR x ll)) (some (.int x.part.num)) (some (.int (x.part.den:Int)))) H K):aY (aM (n+1)) (Iy::Iz::IA::rest) (jk l lm lw l' cq cy k d lr s (some (mR x ll)) o7 o8) H K:=by
 have hn:¬x.part.num<1:=λh=>by
  have h1:=Rat.num_nonneg.mpr (Rat.le_of_lt h0)
  have h2:x.part.num≠0:=λe=>by rw[Rat.num_eq_zero.mp e] at h0;exact absurd h0 Rat.lt_irrefl
  lia
 have hd:¬(x.part.den:Int)<1:=Int.not_lt.mpr (ofNat_le.mpr x.part.den_pos)
 refine gy (k4 (mQ (fM (sD (lZ (aQ rfl (IB (aG (a:=true) rfl (gZ rfl ?_)))))))))
 refine fM (cR (lZ (aQ rfl (IC (bG (aG (a:=false) rfl (gZ rfl ?_)))))))
 refine fM (sD (lZ (c5 (aQ rfl (bG (aG (a:=rv x.part) rfl (IB (aG (a:=true) rfl (gZ rfl ?_)))))))))
 refine iV (cR (lZ (c5 (aQ rfl (bG (aG (a:=rv x.part) rfl (IC (bG (aG (a:=false) rfl ?_)))))))))
 refine aG (a:=false) rfl (dJ rfl (gQ ?_))
 refine cU (c5 (aQ rfl (bG (aG (a:=rv x.part) rfl (aG (a:=jk l lm lw l' cq cy k d lr s (some (mR x ll)) (some (.int x.part.num)) (some (.int (x.part.den:Int)))) rfl ?_)))))
 refine gy (k4 (mQ (fM (sD (xV (aQ rfl (bB (G5 (aG (a:=true) rfl (gZ rfl ?_))))))))))
 refine fM (sD (xV (aQ rfl (bB (G5 (aG (a:=true) rfl (gZ rfl ?_)))))))
 refine fM (cR (aQ rfl (bG (aG (a:=decide (x.part.num<1)) rfl (gZ (decide_eq_false hn) ?_)))))
 refine iV (cR (aQ rfl (bG (aG (a:=decide ((x.part.den:Int)<1)) rfl (aG (a:=decide ((x.part.den:Int)<1)) rfl (dJ (decide_eq_false hd) (gQ q)))))))
noncomputable abbrev ID:S:=.aX (.U 5) (.call o0 [(.bin .add (.bin .mul (.aU (.U 5) (.k (.int 0))) (.U 8)) (.bin .mul (.U 7) (.aU (.U 5) (.k (.int 1))))),(.bin .mul (.aU (.U 5) (.k (.int 1))) (.U 8))])
theorem UH(hs:Sm 1000 s)(hx:Sm 1000 x.part)(q:aY (aM (n+1)) rest (jk l lm lw l' cq cy k d lr (s+x.part) (some (mR x ll)) (some (.int x.part.num)) (some (.int (x.part.den:Int)))) H K):aY (aM (n+1)) (ID::rest) (jk l lm lw l' cq cy k d lr s (some (mR x ll)) (some (.int x.part.num)) (some (.int (x.part.den:Int)))) H K:=by
 refine cU (sF (dH (dH (c5 (aQ rfl (bG (aG (a:=.int s.num) rfl (aQ rfl (dB (ig hs.1 (b:=(x.part.den:Int)) hx.2 (by decide)) ?_)))))))))
 refine dH (aQ rfl (c5 (aQ rfl (bG (aG (a:=.int (s.den:Int)) rfl (dB (ig hx.1 (b:=(s.den:Int)) hs.2 (by decide)) (dB rfl ?_)))))))
 refine dH (c5 (aQ rfl (bG (aG (a:=.int (s.den:Int)) rfl (aQ rfl (dB (ig (a:=(s.den:Int)) (b:=(x.part.den:Int)) hs.2 hx.2 (by decide)) ?_))))))
 rw[Rat.add_def] at q
 exact bB (F8 _ (aG (a:=jk l lm lw l' cq cy k d lr _ (some (mR x ll)) (some (.int x.part.num)) (some (.int (x.part.den:Int)))) rfl q))
noncomputable abbrev IE:S:=.bD (.cmp .eq (.aU (.U 6) (.k (.int 2))) (.k (.str "town")))
   [.bD (.or [(.isNone false (.aU (.U 6) (.k (.int 0)))),(.cmp .ne (.aU (.U 6) (.k (.int 3))) (.bE [.U 2]))])
    [.ret (.k (.bool false))]
    []]
   [.bD (.not (.call vi [.U 0,.U 2,.U 6,.U 3]))
    [.ret (.k (.bool false))]
    []]
theorem IF{C:Cl}{ρ:aV}{f:Nat}{a b c d:E}(h:WE C a ρ H λa H=>WE C b ρ H λb H=>WE C c ρ H λc H=>WE C d ρ H λd H=>C f [a,b,c,d] H Q):WE C (.call f [a,b,c,d]) ρ H Q:=h
theorem UI{C:Cl}{ρ:aV}{w:Bool}{a:E}(h:WE C a ρ H λx H=>Q (.bool (sT x==w)) H):WE C (.isNone w a) ρ H Q:=h
theorem UJ(ok:gx r)(gJ:r.ms.length<=1000)(dK:r.ws.length<=1000)(at':fP H r l lm lw)(hL:H[ll]?=some (.list (bb x.line)))(hx:mL x)(dg:Dg r d k x)(q:∀H',aI H H'->aY (aM (n+5)) rest (jk l lm lw l' cq cy k d lr s (some (mR x ll)) o7 o8) H' K):aY (aM (n+5)) (IE::rest) (jk l lm lw l' cq cy k d lr s (some (mR x ll)) o7 o8) H K:=by
 refine gy (uX (c5 (aQ rfl (bG (aG (a:=.str x.how) rfl (bG (aG (oQ hx.1 xq) ?_)))))))
 cases dg with
 |xN eh en el=>
  rw[eh]
  refine jO (by decide) (gy (k4 (mQ (fM (UI (c5 (aQ rfl (bG (aG (a:=uK x.dQ) rfl ?_)))))))))
  rw[en]
  refine gZ rfl (iV (cR (c5 (aQ rfl (bG (aG (a:=.ref ll) rfl (HD (aQ rfl (aG (BK (x:=x.line) (y:=[k]) (bz _ hL) (bq _ _)) ?_)))))))))
  rw[el,decide_eq_true rfl]
  exact q _ (aI.ba _ _)
 |dQ h eh ne sh gn=>
  cases x with
  |mk xh xp xw xl=>
   have eh:xh=some h:=eh
   subst eh
   refine dJ (beq_eq_false_iff_ne.mpr ne) (gy (xE (IF (aQ rfl (aQ rfl (aQ rfl (aQ rfl (bB (Uj (n:=n) ok gJ dK at' hL hx.2 sh gn λH' x'=>aG (a:=true) rfl (dJ rfl (q _ x')))))))))))
end
section
variable{n:Nat}{H:Hp}{Q:PQ}{K:Out->Prop}{rest:List S}{d:Int}{l lm lw l' cq cy k lr b:Nat}{r:c7}{p:aO}{ds:List cj}{vs:List V}{o3 o4 o5 o6 o7 o8:Option V}
theorem UK(hp:r.ps[k]?=some p)(hd:p.dp=some d):lv r.ps d k=false:=by
 rw[iB hp]
 unfold dD
 rw[hd]
 refine(?_:(decide (p.bH<=d)&&decide (d<d))=false)
 rw[decide_eq_false (Int.lt_irrefl d),Bool.and_false]
noncomputable abbrev UL:S:=.aX (.U 3) (.aU (.aU (.aU (.U 0) (.k (.int 0))) (.U 2)) (.k (.int 3)))
theorem UM(ap:H[l]?=some (.list (r.ps.map bO)))(hp:r.ps[k]?=some p)(hd:p.dp=some d)(q:aY (aM n) rest [some (cM l lm lw),some (cM l' cq cy),some (nv k),some (.int d),o4,o5,o6,o7,o8] H K):aY (aM n) (UL::rest) [some (cM l lm lw),some (cM l' cq cy),some (nv k),o3,o4,o5,o6,o7,o8] H K:=by
 have i3:eQ (bO p) (.int 3) H=some (.int d):=by unfold bO;rw[hd];rfl
 exact cU (c5 (c5 (c5 (aQ rfl (bG (aG (a:=.ref l) rfl (aQ rfl (aG (fI ap hp) (bG (aG i3 (aG (a:=[some (cM l lm lw),some (cM l' cq cy),some (nv k),some (.int d),o4,o5,o6,o7,o8]) rfl q)))))))))))
noncomputable abbrev UN:S:=.bD (.not (.bi (.iv .list) [.U 4])) [.ret (.k (.bool false))] []
noncomputable abbrev UO:S:=.aX (.U 5) (.aP [(.k (.int 0)),(.k (.int 1))])
theorem UP:V.aP [.int 0,.int 1]=rv 0:=rfl
theorem UQ(aR:H[lr]?=some (.list vs))(q:aY (aM n) rest (jk l lm lw l' cq cy k d lr 0 o6 o7 o8) H K):aY (aM n) (UN::UO::rest) [some (cM l lm lw),some (cM l' cq cy),some (nv k),some (.int d),some (.ref lr),o5,o6,o7,o8] H K:=by
 refine gy (xE (lZ (aQ rfl (aG (Ih aR) (aG (a:=true) rfl (dJ rfl (gQ ?_)))))))
 refine cU (xS (bG (bG ?_)))
 rw[UP]
 exact aG (a:=jk l lm lw l' cq cy k d lr 0 o6 o7 o8) rfl q
noncomputable abbrev UR:S:=.for (.U 6) (.of (.U 4)) [Iy,Iz,IA,ID,IE]
theorem US(ok:gx r)(gJ:r.ms.length<=1000)(dK:r.ws.length<=1000)(at':fP H r l lm lw)(aR:H[lr]?=some (.list vs))(hD:gG b lr H ds vs)(dk:∀x∈ds,mL x){M:Nat}(hM:0<M)(ji:M<2^1000)(lt:Lt r d k M ds 1)(q:∀H' o6 o7 o8,aI H H'->aY (aM (n+5)) rest (jk l lm lw l' cq cy k d lr 1 o6 o7 o8) H' K):aY (aM (n+5)) (UR::rest) (jk l lm lw l' cq cy k d lr 0 o6 o7 o8) H K:=lt _ λsm zm okk=>by
 refine k3 (iJ (aQ rfl (aG (dz aR) ?_)))
 refine uB (R:=λy v=>y∈ds/\xj b lr H y v) (BZ ds l lm lw l' cq cy k d lr H) (λy v as ρ H' hv hI=>?_) (λρ H' hI=>?_) (hD.imp' λy v hy hv=>⟨hy,hv⟩) _ _ (.mk o6 o7 o8 [] rfl (aI.refl _) rfl)
 ·refine hI _ λo6 o7 o8 A e x0 t=>hv.2 _ λll hb hn ev al=>?_
  subst e ev
  refine aG (a:=jk l lm lw l' cq cy k d lr (gY A) (some (mR y ll)) o7 o8) rfl λN hN=>?_
  have ed:gY (A++[y])=gY A+y.part:=by rw[BF,show gY [y]=y.part from Rat.add_zero _]
  have ps:=UE hM ji (A:=A) (x:=y) (B:=as) (t▸zm) (t▸sm)
  refine UG (n:=n+4) ((zm y hv.1).pos hM) (UH (n:=n+4) ps.1 ps.2 (UJ (n:=n) ok gJ dK (at'.ext x0) (x0 _ _ al) (dk y hv.1) (okk y hv.1) λH₂ x2=>gQ (hN _ _ (dr aR ((x0.trans x2) _ _ aR)) (.mk (some (mR y ll)) (some (.int y.part.num)) (some (.int (y.part.den:Int))) (A++[y]) (by rw[ed]) (x0.trans x2) (jt t)))))
 ·refine hI _ λo6 o7 o8 A e x0 t=>?_
  subst e
  rw[append_nil] at t
  rw[t,sm]
  exact q _ _ _ _ x0
theorem UT:fT .eq (rv 1) (.aP [.int 1,.int 1]) H=some true:=by
 refine(?_:(rd H 10 (rv 1)).bind (λd=>(rd H 10 (.aP [.int 1,.int 1])).map λe=>PyData.eqv d e)=some true)
 rw[AX]
 rfl
end
section
variable{n:Nat}{H:Hp}{Q:PQ}{K:Out->Prop}{rest:List S}{d:Int}{l lm lw l' cq cy k lr b:Nat}{r:c7}{p:aO}{ds:List cj}{vs:List V}{o3 o4 o5 o6 o7 o8:Option V}
noncomputable abbrev UU:S:=.aX (.U 4) (.call vd [.U 1,.U 2])
theorem UV(ok:gx r)(at2:fP H r l' cq cy)(hp:r.ps[k]?=some p)(hd:p.dp=some d)(q:∀ds lr vs H',jB r d k p ds->(∀x∈ds,mL x)->ds.length<=14000000->aI H H'->H'[lr]?=some (.list vs)->gG H.length lr H' ds vs->aY (aM (n+67)) rest [some (cM l lm lw),some (cM l' cq cy),some (nv k),some (.int d),some (.ref lr),o5,o6,o7,o8] H' K):aY (aM (n+67)) (UU::rest) [some (cM l lm lw),some (cM l' cq cy),some (nv k),some (.int d),o4,o5,o6,o7,o8] H K:=by
 refine cU (sF (aQ (v:=cM l' cq cy) rfl (aQ (v:=nv k) rfl (bB (Rq (n:=n) ok at2 hp hd λdk hz lr vs H₁ hb x aR hD=>?_)))))
 exact aG (a:=[some (cM l lm lw),some (cM l' cq cy),some (nv k),some (.int d),some (.ref lr),o5,o6,o7,o8]) rfl (q _ lr vs H₁ (TI ok hp (UK hp hd)) dk hz x aR hD)
noncomputable abbrev UW:S:=.ret (.and [(.cmp .eq (.U 5) (.aP [(.k (.int 1)),(.k (.int 1))])),(.call vj [.U 0,.U 2,.U 4,.U 3])])
theorem UX(ok:gx r)(at':fP H r l lm lw)(hp:r.ps[k]?=some p)(hR:H[lr]?=some (.list vs))(hD:gG b lr H ds vs)(hd:∀x∈ds,mL x)(hz:ds.length<=14000000)(g:jB r d k p ds)(q:∀H',aI H H'->K (.ret (.bool true) H')):aY (aM (n+4)) (UW::rest) (jk l lm lw l' cq cy k d lr 1 o6 o7 o8) H K:=by
 refine k5 (qJ (fM (cR (aQ (v:=rv 1) rfl (xS (bG (bG (aG UT (gZ rfl ?_)))))))))
 exact iV (IF (aQ rfl (aQ rfl (aQ rfl (aQ rfl (bB (Uy (n:=n) ok at' hp hR hD hd hz g q)))))))
theorem UY(ok:gx r)(gJ:r.ms.length<=1000)(dK:r.ws.length<=1000)(at':fP H r l lm lw)(at2:fP H r l' cq cy)(hp:r.ps[k]?=some p)(hd:p.dp=some d)(q:∀H',aI H H'->Q (.bool true) H'):aM (n+68) vk [cM l lm lw,cM l' cq cy,nv k] H Q:=Qm (UM (at' _ λap ζ ζ=>ap) hp hd (UV (n:=n) ok at2 hp hd λds lr vs H₁ g dk hz x aR hD=>UQ aR (g _ λM hM ji lt ζ ζ ζ ζ ζ=>US (n:=n+62) ok gJ dK (at'.ext x) aR hD dk hM ji lt λH₂ o6 o7 o8 x2=>UX (n:=n+63) ok (at'.ext (x.trans x2)) hp (x2 _ _ aR) (hD.imp λζ ζ h=>h _ λl hb hn e a=>(.mk l hb hn e (x2 l _ a))) dk hz g λH' x'=>q _ ((x.trans x2).trans x'))))
end
noncomputable abbrev jl(v1 v2 v3 v4 o5:Option V):aV:=[some .g7,v1,v2,v3,v4,o5]
noncomputable def B0(l lm lw l' cq cy:Nat)(v3 v4:Option V)(ds:List Nat)(H:Hp)(as:List Nat)(ρ:aV)(H':Hp):Prop:=∀LwIζ:Prop,(∀(o5:Option V) (e:ρ=jl (some (cM l lm lw)) (some (cM l' cq cy)) v3 v4 o5) (x:aI H H') (b:∀c∈as,c∈ds),LwIζ)->LwIζ
theorem B0.mk{l lm lw l' cq cy:Nat}{v3 v4:Option V}{ds:List Nat}{H:Hp}{as:List Nat}{ρ:aV}{H':Hp}(o5:Option V)(e:ρ=jl (some (cM l lm lw)) (some (cM l' cq cy)) v3 v4 o5)(x:aI H H')(b:∀c∈as,c∈ds):B0 l lm lw l' cq cy v3 v4 ds H as ρ H':=λζ bw=>bw o5 e x b
section
variable{n:Nat}{H:Hp}{Q:PQ}{K:Out->Prop}{rest:List S}{l lm lw l' cq cy a:Nat}{r:c7}{v1 v2 v3 v4 o5:Option V}{ds x:List Nat}
noncomputable abbrev IG:E:=.bE [(.k (.int 12)),(.k (.int 12)),(.k (.int 12)),(.k (.int 12)),(.k (.int 12)),(.k (.int 20))]
theorem UZ{C:Cl}{ρ:aV}(q:Q (.ref H.length) (H++[.list (bb [12,12,12,12,12,20])])):WE C IG ρ H Q:=q
noncomputable abbrev U0:S:=.aX (.U 1) (.call vg [.U 0,(.aU IG (.bin .mod (.call jZ [.U 0,(.k (.int 5))]) (.k (.int 6))))])
theorem U1(q:∀r l lm lw H',gx r->0<r.ps.length->r.ms.length<=1000->r.ws.length<=1000->fP H' r l lm lw->aI H H'->aY (aM (n+4)) rest (jl (some (cM l lm lw)) v2 v3 v4 o5) H' K):aY (aM (n+4)) (U0::rest) (jl v1 v2 v3 v4 o5) H K:=by
 refine cU (sF (aQ rfl (c5 (UZ (dH (sF (aQ rfl (bG (bB (nD (n:=n+3) (k:=5) (bG (dB (iH (b:=6) (by decide)) ?_))))))))))))
 refine(pick (es:=[12,12,12,12,12,20]) (by decide) (bq H _) (X.is.getD 5 0)).elim λj hj=>?_
 have IJ:=(by decide:∀j∈[12,12,12,12,12,20],0<j/\j<=20) j hj.1
 refine aG hj.2 (bB (SQ (n:=n) IJ.1 IJ.2 λr l lm lw H' ok h0 gJ dK at' x=>?_))
 exact aG (a:=jl (some (cM l lm lw)) v2 v3 v4 o5) rfl (q r l lm lw H' ok h0 gJ dK at' ((aI.ba _ _).trans x))
noncomputable abbrev U2:S:=.bD (.call vf [(.aU (.U 1) (.k (.int 0)))]) [.ret (.k (.bool true))] []
theorem U3(hW:cw r.ps)(hl:r.ps.length<=20)(h0:H[0]?=some .tab)(ap:H[l]?=some (.list (r.ps.map bO)))(q1:∀H',aI H H'->K (.ret (.bool true) H'))(q2:∀H',aI H H'->aY (aM (n+1)) rest (jl (some (cM l lm lw)) v2 v3 v4 o5) H' K):aY (aM (n+1)) (U2::rest) (jl (some (cM l lm lw)) v2 v3 v4 o5) H K:=
 gy (k4 (xV (c5 (aQ rfl (bG (aG (a:=.ref l) rfl (bB (Sv (n:=n) hW hl h0 ap λb H' x=>aG (a:=b) rfl (da (λζ=>q1 _ x) λζ=>q2 _ x)))))))))
noncomputable abbrev U4:S:=.aX (.U 3) (.call vh [(.aU (.U 1) (.k (.int 0)))])
theorem U5(hl:r.ps.length<=20)(ap:H[l]?=some (.list (r.ps.map bO)))(q:∀ds ld H',ds.length<=20->(∀k∈ds,∃p d,r.ps[k]?=some p/\p.dp=some d)->aI H H'->H'[ld]?=some (.list (bb ds))->aY (aM (n+1)) rest (jl (some (cM l lm lw)) v2 (some (.ref ld)) v4 o5) H' K):aY (aM (n+1)) (U4::rest) (jl (some (cM l lm lw)) v2 v3 v4 o5) H K:=
 cU (xV (c5 (aQ rfl (bG (aG (a:=.ref l) rfl (bB (Rw (n:=n) ap hl λlc H' ds xW nj x ad=>aG (a:=jl (some (cM l lm lw)) v2 (some (.ref lc)) v4 o5) rfl (q ds lc H' xW nj x ad))))))))
noncomputable abbrev xc:S:=.aX (.U 4) (.bin .mod (.call jZ [.U 0,(.k (.int 6))]) (.bin .add (.bi .len [.U 3]) (.k (.int 1))))
theorem U6(ad:H[a]?=some (.list (bb ds)))(q:∀m,m<=ds.length->aY (aM (n+1)) rest (jl v1 v2 (some (.ref a)) (some (nv m)) o5) H K):aY (aM (n+1)) (xc::rest) (jl v1 v2 (some (.ref a)) v4 o5) H K:=by
 refine cU (dH (sF (aQ rfl (bG (bB (nD (n:=n) (k:=6) (dH (qE rfl ad (bG (dB rfl ?_))))))))))
 rw[length_map]
 refine(jy (X.is.getD 6 0) (k:=ds.length+1) (succ_pos _)).elim λm hm=>?_
 exact dB ((iH (b:=(ds.length:Int)+1) (by lia)).trans (congrArg some hm.1)) (aG (a:=jl v1 v2 (some (.ref a)) (some (nv m)) o5) rfl (q m (le_of_lt_succ hm.2)))
theorem B1{vlo vhi:V}{lo hi:Option Int}(e1:ma vlo=some lo)(e2:ma vhi=some hi)(hL:H[a]?=some (.list (bb x)))(hx:x.length<=1000)(q:Q (.ref H.length) (H++[.list (bb (dW x lo hi))])):qZ (.ref a) vlo vhi H Q:=by
 refine aG e1 (aG e2 (aG (cN hL) ?_))
 rw[uP]
 exact cK (cO (by rw[length_map];exact lt_of_le_of_lt (le_trans (xA _ _ _) hx) (by decide))) q
noncomputable abbrev U7:S:=.for (.U 5) (.of (.dT (.bin .add (.dT (.U 3) (some (.U 4)) none) (.dT (.U 3) none (some (.U 4)))) none (some (.k (.int 3)))))
  [.bD (.not (.call vk [.U 1,.U 2,.U 5]))
   [.ret (.k (.bool false))]
   []]
theorem U8{m:Nat}(ok:gx r)(gJ:r.ms.length<=1000)(dK:r.ws.length<=1000)(nQ:fP H r l lm lw)(at2:fP H r l' cq cy)(ad:H[a]?=some (.list (bb ds)))(xW:ds.length<=20)(hm:m<=ds.length)(nj:∀k∈ds,∃p d,r.ps[k]?=some p/\p.dp=some d)(q:∀H' o5,aI H H'->aY (aM (n+68)) rest (jl (some (cM l lm lw)) (some (cM l' cq cy)) (some (.ref a)) (some (nv m)) o5) H' K):aY (aM (n+68)) (U7::rest) (jl (some (cM l lm lw)) (some (cM l' cq cy)) (some (.ref a)) (some (nv m)) o5) H K:=by
 have pm:ma (nv m)=some (some (m:Int)):=BM (by lia)
 refine k3 (iJ (oS (dH (oS (aQ rfl (nP (aQ rfl (qI (B1 pm (rfl:ma .none=some none) ad (by lia) ?_)))))))))
 refine oS (aQ rfl (qI (nP (aQ rfl (B1 (rfl:ma .none=some none) pm (bz _ ad) (by lia) ?_)))))
 have h1:=xA ds (some (m:Int)) none
 have h2:=xA ds none (some (m:Int))
 refine lN (bz _ (bq _ _)) (bq _ _) (by rw[length_append,length_map,length_map];lia) ?_
 rw[bb,bb,<-map_append]
 refine qI (nP (bG (B1 (x:=dW ds (some (m:Int)) none++dW ds none (some (m:Int))) (rfl:ma .none=some none) (BM (i:=3) (by decide)) (bq _ _) (by rw[length_append];lia) (aG (dz (bq _ _)) ?_))))
 have kR:∀c∈dW (dW ds (some (m:Int)) none++dW ds none (some (m:Int))) none (some ((3:Nat):Int)),c∈ds:=λc hc=>(mem_append.mp (xy hc)).elim xy xy
 generalize dW (dW ds (some (m:Int)) none++dW ds none (some (m:Int))) none (some ((3:Nat):Int))=ys at kR ⊢
 have x1:aI H (H++[bc.list (bb (dW ds (some (m:Int)) none))]++[bc.list (bb (dW ds none (some (m:Int))))]++[bc.list (List.map nv (dW ds (some (m:Int)) none++dW ds none (some (m:Int))))]):=(aI.ba _ _).trans ((aI.ba _ _).trans (aI.ba _ _))
 generalize H++[bc.list (bb (dW ds (some (m:Int)) none))]++[bc.list (bb (dW ds none (some (m:Int))))]++[bc.list (List.map nv (dW ds (some (m:Int)) none++dW ds none (some (m:Int))))]=H₁ at x1 ⊢
 have ay:=bq H₁ (.list (bb ys))
 have x2:=x1.trans (aI.ba H₁ [bc.list (bb ys)])
 refine d9 (g:=nv) (B0 l lm lw l' cq cy (some (.ref a)) (some (nv m)) ds (H₁++[bc.list (bb ys)])) (λc as ρ H' hI=>?_) (λρ H' hI=>?_) _ _ _ (.mk o5 rfl (aI.refl _) kR)
 ·refine hI _ λo5 e x b=>?_
  subst e
  refine aG (a:=jl (some (cM l lm lw)) (some (cM l' cq cy)) (some (.ref a)) (some (nv m)) (some (nv c))) rfl λN hN=>?_
  refine(nj c (b c mem_cons_self)).elim λp hp=>hp.elim λd hp=>?_
  refine gy (xE (hO (aQ rfl (aQ rfl (aQ rfl (bB (UY (n:=n) ok gJ dK (nQ.ext (x2.trans x)) (at2.ext (x2.trans x)) hp.1 hp.2 λH₂ x'=>aG (a:=true) rfl (dJ rfl (hN _ _ (dr ay ((x.trans x') _ _ ay)) (.mk _ rfl (x.trans x') (λc hc=>b c (.tail _ hc))))))))))))
 ·refine hI _ λo5 e x b=>?_
  subst e
  exact q _ _ (x2.trans x)
theorem U9:aM (n+69) pd [.g7] [.tab] (λv H=>v=.bool true/\H[0]?=some .tab):=Qn (by
 unfold yF
 have t0:([bc.tab]:Hp)[0]?=some .tab:=rfl
 refine U1 (n:=n+64) λr l lm lw H₁ ok h0 gJ dK nQ x1=>?_
 have hW:cw r.ps:=ok _ λh ζ ζ ζ=>h
 have hl:r.ps.length<=20:=ok _ λζ h ζ ζ=>h
 refine U3 (n:=n+67) hW hl (x1 _ _ t0) (nQ _ λa ζ ζ=>a) (λH' x=>⟨rfl,x _ _ (x1 _ _ t0)⟩) λH₂ x2=>?_
 refine l2 ok gJ dK (nQ.ext x2) λl' cq cy H₃ x3 at2=>?_
 have nQ:=nQ.ext (x2.trans x3)
 refine U5 (n:=n+67) hl (nQ _ λa ζ ζ=>a) λds ld H₄ xW nj x4 ad=>U6 (n:=n+67) ad λm hm=>U8 (n:=n) ok gJ dK (nQ.ext x4) (at2.ext x4) ad xW hm nj λH₅ o5 x5=>?_
 refine k5 (cR (aQ rfl (aQ rfl (aG (SO (at2.ext (x4.trans x5)) (nQ.ext (x4.trans x5))) ?_))))
 exact⟨rfl,(x1.trans ((x2.trans x3).trans (x4.trans x5))) _ _ t0⟩)
end
end Mine.L
set_option tactic.hygienic true
section
open PySem PySem.W PyProof.Rows
namespace Mine
theorem Va{c:ClaimW}{cl:Str->Option Addr}{mean:ExcName->Option Value}{args:List WData}{bF:Shared}{h':Heap}{tk:Nat}{cc P:Addr}{ps:Array Value}(hT:bF.heap.TableAt cc P #[])(hk:∀b o,b≠P->bF.heap.get? b=some o->h'.get? b=some o)(hP:h'.get? P=some (gB ps))(hg:bF.gens=#[])
  (hn:∀cls,c.raises args cls=false) (hp:c.post args (.bool true) args=true):GoodWG c cl mean args bF (.ok (.ret (.bool true))) {bF with heap:=h',toks:=tk}:=by
 refine⟨.inl ⟨_,_,_,rfl,hn,.bool true,hp,λζ=>⟨.nil,λζ ha=>nomatch ha⟩⟩,⟨λb o e=>?_,λb o e=>?_⟩,rfl,.of_eq hg⟩
 ·by_cases hb:b=P
  ·subst hb
   have e':=hT.2
   rw[e] at e';cases e'
   exact .inr (.inl ⟨hT.isCodeTable,rfl,#[],ps,rfl,by rw[Array.empty_append];exact hP⟩)
  ·exact .inl (hk b o hb e)
 ·by_cases hb:b=P
  ·subst hb;exact⟨_,hP⟩
  ·exact⟨o,hk b o hb e⟩
noncomputable def xX:Value->Option Addr
 |.ref a=>some a
 |_=>none
noncomputable def IK(ns:List Int):Data->Bool
 |.seq items _=>intsMatch items.toList ns
 |_=>false
noncomputable def B2(h:Heap)(name:Str)(ns:List Int):Bool:=h.isNs mainGlobals&&((h.nsMap mainGlobals name).bind xX).any λa=>(h.get? a).any λo=>(o.cls==.type "tuple")&&(o.dict.isNone&&(o.slots.isEmpty&&IK ns o.data))
noncomputable def sL(h:Heap)(name:Str)(ns:List Int):Prop:=∃mg a vs k,h.Ns mainGlobals mg/\mg name=some (.ref a)/\h.get? a=some (gO vs k)/\IntsAre vs ns
theorem IL{α:Type}{o:Option α}{f:α->Bool}{G:Prop}(h:o.any f=true)(k:∀a,o=some a->f a=true->G):G:=by
 cases o
 ·cases h
 ·exact k _ rfl h
theorem xX.k{v:Value}{a:Addr}(h:xX v=some a):v=.ref a:=by cases v<;>first|(cases h;done)|(cases h;rfl)
theorem Vb{o:Obj}{ns:List Int}(h1:o.cls=.type "tuple")(h2:o.dict.isNone=true)(h3:o.slots.isEmpty=true)(h4:IK ns o.data=true):∃vs k,o=gO vs k/\IntsAre vs ns:=by
 obtain⟨c,d,x,sl⟩:=o
 cases d with
 |some _=>cases h2
 |none=>
  have h3:sl=#[]:=Array.isEmpty_iff.mp h3
  subst h3
  have h1:c=_:=h1
  subst h1
  cases x<;>first|exact⟨_,_,rfl,intsMatch_spec h4⟩|cases h4
theorem IM{h:Heap}{name:Str}{ns:List Int}(x:B2 h name ns=true):sL h name ns:=
 bg x λx1 x=>IL x λa ea x=>IL x λo eo x=>bg x λh1 x=>bg x λh2 x=>bg x λh3 h4=>eV ea λv ev er=>(Vb (eq_of_beq h1) h2 h3 h4).elim λvs y=>y.elim λk y=>⟨_,a,vs,k,.of_isNs x1,xX.k er▸ev,y.1▸eo,y.2⟩
theorem sL.keeps{h h':Heap}{name:Str}{ns:List Int}(x:sL h name ns)(k:∀b o,h.get? b=some o->h'.get? b=some o):sL h' name ns:=
 x.imp λmg x=>x.imp λa x=>x.imp λvs x=>x.imp λn x=>⟨x.1.imp λo y=>y.imp λes y=>y.imp λep y=>⟨k _ _ y.1,y.2⟩,x.2.1,k _ _ x.2.2.1,x.2.2.2⟩
noncomputable def Vc:Hook:=⟨Bool,λs=>B2 s.heap "WHOLE" [1,1]&&B2 s.heap "NOTHING" [0,1],λζ=>true,λζ h=>sL h "WHOLE" [1,1]/\sL h "NOTHING" [0,1],λζ ζ x=>⟨IM (and_eq_true_iff.mp x).1,IM (and_eq_true_iff.mp x).2⟩,λζ ζ ζ x k=>⟨x.1.keeps k,x.2.keeps k⟩⟩
end Mine
set_option maxHeartbeats 40000000 in
theorem PySem.Challenge.cw_uf020001_09_holds : PySem.Challenge.rw_uf020001_09.Holds := by
 w_on
 refine holds_law (by decide +kernel) λsaid=>?_
 o_head Mine.Vc
 case hw=>w_witness2
 intro w zh bF mg mb G Y fa o pm cd doc dV kV ho hd ru hD Vd hg args vals as Ve Vf Vg dK Vh
 refine Ground.open G ?_
 intro T B D TE TW
 wrow_args Ve Vf Vg dK Vh
 rename_i ns _ _ _ _ _ _ _ i6 vs _ hL _ _ _ hI _ hc _
 refine Mine.Pm (N:=69) T ?_ ?_ ?_ ?_ ?_ ?_ ?_ hL hI ?_ ?_ ?_ Vd (λζ=>Mine.L.U9 (n:=0)) ?_
 ·decide +kernel
 ·decide +kernel
 ·decide +kernel
 ·decide +kernel
 ·rfl
 ·decide +kernel
 ·intro j x hx
  obtain⟨⟨FV,a,vs,k,h1,h2,h3,h4⟩,⟨Vi,a',sd,k',tK,y2,Vj,Vk⟩⟩:=Y
  have e:FV=mg:=h1.eq_nsMap.trans T.g.eq_nsMap.symm
  have e':Vi=mg:=tK.eq_nsMap.trans T.g.eq_nsMap.symm
  match j,hx with
  |0,hx=>
   cases hx
   exact⟨_,_,_,_,rfl,e▸h2,h3,h4,by decide⟩
  |1,hx=>
   cases hx
   exact⟨_,_,_,_,rfl,e'▸y2,Vj,Vk,by decide⟩
  |j+2,hx=>cases hx
 ·omega
 ·omega
 ·rfl
 ·intro c P ps h' tk hT hk hP
  exact Mine.Va hT hk hP hg (λζ=>rfl) (by with_unfolding_all rfl)
end
