import PyProof.Rows.All
import PySem.SetOps
import PyProof.Raises
import PyProof.Calls
import PyProof.PureCalls
import PyProof.EvalArms
import PyProof.Rules2
import PyProof.Claim2
import PyProof.Lay0
import PyProof.Rows.Frame
import PyProof.FactsAll.list_3
import PyProof.FactsAll.tuple_2
import PyProof.FactsAll.subtypes_4
import PyProof.Rules3
import PyProof.ListIndex
import PyProof.CallStr
import PyProof.Cells
import PyProof.Claim2Refuses
import PyProof.ConsumeWalk
import PyProof.CompFree
import PyProof.PureInt
import PyProof.Conv_int_bool
import PyProof.DefCall
import PyProof.Dict
import PyProof.MeetsSeq
import PyProof.DictKind
import PyProof.DictKinds
import PyProof.DictStraight
import PyProof.TupleKey
import PyProof.DictRoadsH
import PyProof.EnumFor
import PyProof.EnumStmt
import PyProof.EnumMake
import PyProof.IsRules
import PyProof.P3Statements
import PyProof.EqLayable
import PyProof.ForAppend
import PyProof.WalksMore
import PyProof.RangeFor
import PyProof.IsiHeapPairs
import PyProof.IsiNone
import PyProof.IsiPairs
import PyProof.ListCopy
import PyProof.ListIndexNeg
import PyProof.ListRange
import PyProof.WalkInts
import PyProof.P3In
import PyProof.ReprRoads
import PyProof.Rows.Globals
import PyProof.Rows.News
import PyProof.Rows.Tup
import PyProof.Rows.TupIter
import PyProof.Rows.TupAssign
import PyProof.Rows.TupSub
import PyProof.Rows.SeqJoint
import PyProof.Rows.IntRules
import PyProof.Rows.ZipGen
import PyProof.WalksPairs
import PyProof.TupleCall
import PyProof.Rows.ListMade
import PyProof.Rows.Exc
import PyProof.Rows.RuleB_mul
import PyProof.Rows.RuleB_sub
import PyProof.Rows.RuleB_pow
import PyProof.Rows.RuleB_floordiv
import PyProof.Rows.RuleB_mod
import PyProof.Rows.SeqIn
import PyProof.StrBlock2
import PyProof.Rows.StrMul
import PyProof.Rows.StrTemp
import PyProof.Rows.RuleC_int
import PyProof.TupleOps
import PyProof.SeqI3
import PyProof.Rows.TupMore
import PyProof.SliceMore
import PyProof.Rows.StrRules
import PyProof.RulesDelMore
import PyProof.SumWalkG
import PyProof.Rows.TupAdd
import PyProof.TupleOfSeq
import PyProof.Rows.SortWalk
import PyProof.SetRoads
import PyProof.Rows.SetFrom
import PyProof.Rows.RotEnd
import KE.KUnpack
import KE.KMulAny
import KE.KRevSl
import KE.KSortTup
import KE.KSortedM
import Wide.FinOn
import OpenK.AllK
import Wide.All
import Lean
import PySem.Challenge.RW_uf050003_11
set_option Elab.async false
set_option genInjectivity false
set_option genSizeOf false
set_option linter.all false
set_option maxRecDepth 100000
set_option maxHeartbeats 8000000
namespace Mine
theorem eW{a b X:Prop}(h:a∨b)(k:a→X)(l:b→X):X:=h.elim k l
theorem ex1{A:Type _}{P:A→Prop}{X:Prop}(h:∃ x, P x)(k:∀ x, P x→X):X:=h.elim fun x h => k x h
theorem ex2{A B:Type _}{P:A→B→Prop}{X:Prop}(h:∃ x y, P x y)(k:∀ x y, P x y→X):X:=h.elim fun x h => ex1 h (k x)
theorem ex3{A B C:Type _}{P:A→B→C→Prop}{X:Prop}(h:∃ x y z, P x y z)(k:∀ x y z, P x y z→X):X:=h.elim fun x h => ex2 h (k x)
theorem ex4{A B C D:Type _}{P:A→B→C→D→Prop}{X:Prop}(h:∃ x y z u, P x y z u)(k:∀ x y z u, P x y z u→X):X:=h.elim fun x h => ex3 h (k x)
theorem ff{P0 P1:Prop}{X:Prop}(h:P0∧P1)(k:P0→P1→X):X:=k h.1 h.2
theorem fg{P0 P1 P2:Prop}{X:Prop}(h:P0∧P1∧P2)(k:P0→P1→P2→X):X:=k h.1 h.2.1 h.2.2
theorem fz{P0 P1 P2 P3:Prop}{X:Prop}(h:P0∧P1∧P2∧P3)(k:P0→P1→P2→P3→X):X:=k h.1 h.2.1 h.2.2.1 h.2.2.2
theorem fI{P0 P1 P2 P3 P4:Prop}{X:Prop}(h:P0∧P1∧P2∧P3∧P4)(k:P0→P1→P2→P3→P4→X):X:=k h.1 h.2.1 h.2.2.1 h.2.2.2.1 h.2.2.2.2
theorem fe{A:Type _}{P0:A→Prop}{X:Prop}(h:∃ x, P0 x)(k:∀ x, P0 x→X):X:=ex1 h k
theorem eY{A:Type _}{P0 P1:A→Prop}{X:Prop}(h:∃ x, P0 x∧P1 x)(k:∀ x, P0 x→P1 x→X):X:=ex1 h fun x h => ff h (k x)
theorem ft{A:Type _}{P0 P1 P2:A→Prop}{X:Prop}(h:∃ x, P0 x∧P1 x∧P2 x)(k:∀ x, P0 x→P1 x→P2 x→X):X:=ex1 h fun x h => fg h (k x)
theorem fE{A B:Type _}{P0:A→B→Prop}{X:Prop}(h:∃ x y, P0 x y)(k:∀ x y, P0 x y→X):X:=ex2 h k
theorem fy{A B:Type _}{P0 P1:A→B→Prop}{X:Prop}(h:∃ x y, P0 x y∧P1 x y)(k:∀ x y, P0 x y→P1 x y→X):X:=ex2 h fun x y h => ff h (k x y)
theorem fk{A B:Type _}{P0 P1 P2:A→B→Prop}{X:Prop}(h:∃ x y, P0 x y∧P1 x y∧P2 x y)(k:∀ x y, P0 x y→P1 x y→P2 x y→X):X:=ex2 h fun x y h => fg h (k x y)
theorem fx{A B:Type _}{P0 P1 P2 P3:A→B→Prop}{X:Prop}(h:∃ x y, P0 x y∧P1 x y∧P2 x y∧P3 x y)(k:∀ x y, P0 x y→P1 x y→P2 x y→P3 x y→X):X:=ex2 h fun x y h => fz h (k x y)
theorem fH{A B:Type _}{P0 P1 P2 P3 P4:A→B→Prop}{X:Prop}(h:∃ x y, P0 x y∧P1 x y∧P2 x y∧P3 x y∧P4 x y)(k:∀ x y, P0 x y→P1 x y→P2 x y→P3 x y→P4 x y→X):X:=ex2 h fun x y h => fI h (k x y)
theorem fu{A B C:Type _}{P0 P1:A→B→C→Prop}{X:Prop}(h:∃ x y z, P0 x y z∧P1 x y z)(k:∀ x y z, P0 x y z→P1 x y z→X):X:=ex3 h fun x y z h => ff h (k x y z)
theorem fw{A B C:Type _}{P0 P1 P2:A→B→C→Prop}{X:Prop}(h:∃ x y z, P0 x y z∧P1 x y z∧P2 x y z)(k:∀ x y z, P0 x y z→P1 x y z→P2 x y z→X):X:=ex3 h fun x y z h => fg h (k x y z)
theorem fb{A B C:Type _}{P0 P1 P2 P3:A→B→C→Prop}{X:Prop}(h:∃ x y z, P0 x y z∧P1 x y z∧P2 x y z∧P3 x y z)(k:∀ x y z, P0 x y z→P1 x y z→P2 x y z→P3 x y z→X):X:=ex3 h fun x y z h => fz h (k x y z)
theorem fF{A B C:Type _}{P0 P1 P2 P3 P4:A→B→C→Prop}{X:Prop}(h:∃ x y z, P0 x y z∧P1 x y z∧P2 x y z∧P3 x y z∧P4 x y z)(k:∀ x y z, P0 x y z→P1 x y z→P2 x y z→P3 x y z→P4 x y z→X):X:=ex3 h fun x y z h => fI h (k x y z)
theorem fq{A B C D:Type _}{P0 P1:A→B→C→D→Prop}{X:Prop}(h:∃ x y z u, P0 x y z u∧P1 x y z u)(k:∀ x y z u, P0 x y z u→P1 x y z u→X):X:=ex4 h fun x y z u h => ff h (k x y z u)
theorem fh{A:Type _}{P0:A→Prop}(x:A)(h0:P0 x):∃ x, P0 x:=⟨x, h0⟩
theorem eZ{A:Type _}{P0 P1:A→Prop}(x:A)(h0:P0 x)(h1:P1 x):∃ x, P0 x∧P1 x:=⟨x, h0, h1⟩
theorem fi{A:Type _}{P0 P1 P2:A→Prop}(x:A)(h0:P0 x)(h1:P1 x)(h2:P2 x):∃ x, P0 x∧P1 x∧P2 x:=⟨x, h0, h1, h2⟩
theorem fG{A B:Type _}{P0:A→B→Prop}(x:A)(y:B)(h0:P0 x y):∃ x y, P0 x y:=⟨x, y, h0⟩
theorem fD{A B:Type _}{P0 P1:A→B→Prop}(x:A)(y:B)(h0:P0 x y)(h1:P1 x y):∃ x y, P0 x y∧P1 x y:=⟨x, y, h0, h1⟩
theorem fj{A B:Type _}{P0 P1 P2:A→B→Prop}(x:A)(y:B)(h0:P0 x y)(h1:P1 x y)(h2:P2 x y):∃ x y, P0 x y∧P1 x y∧P2 x y:=⟨x, y, h0, h1, h2⟩
theorem fC{A B:Type _}{P0 P1 P2 P3:A→B→Prop}(x:A)(y:B)(h0:P0 x y)(h1:P1 x y)(h2:P2 x y)(h3:P3 x y):∃ x y, P0 x y∧P1 x y∧P2 x y∧P3 x y:=⟨x, y, h0, h1, h2, h3⟩
theorem eX{A B C:Type _}{P0 P1:A→B→C→Prop}(x:A)(y:B)(z:C)(h0:P0 x y z)(h1:P1 x y z):∃ x y z, P0 x y z∧P1 x y z:=⟨x, y, z, h0, h1⟩
theorem fA{A B C:Type _}{P0 P1 P2:A→B→C→Prop}(x:A)(y:B)(z:C)(h0:P0 x y z)(h1:P1 x y z)(h2:P2 x y z):∃ x y z, P0 x y z∧P1 x y z∧P2 x y z:=⟨x, y, z, h0, h1, h2⟩
theorem fc{A B C:Type _}{P0 P1 P2 P3:A→B→C→Prop}(x:A)(y:B)(z:C)(h0:P0 x y z)(h1:P1 x y z)(h2:P2 x y z)(h3:P3 x y z):∃ x y z, P0 x y z∧P1 x y z∧P2 x y z∧P3 x y z:=⟨x, y, z, h0, h1, h2, h3⟩
noncomputable abbrev aa:=@PySem.wpAny_bind
noncomputable abbrev ab:=@PySem.wpAny_pure
noncomputable abbrev ac:=@List.mem_singleton
noncomputable abbrev ae:=@List.mem_cons
noncomputable abbrev af:=@if_pos
noncomputable abbrev ag:=@List.mem_cons_of_mem
noncomputable abbrev ah:=@PySem.Heap.get?_push_of_some
noncomputable abbrev ai:=@List.mem_append
noncomputable abbrev aj:=@if_neg
noncomputable abbrev ak:=@Nat.le_trans
noncomputable abbrev am:=@Bool.false_ne_true
noncomputable abbrev ao:=@List.mem_cons_self
noncomputable abbrev aq:=@List.getElem?_eq_getElem
noncomputable abbrev au:=@List.mem_append_right
noncomputable abbrev av:=@List.mem_map
noncomputable abbrev aw:=@List.length_map
noncomputable abbrev ay:=@List.mem_of_getElem?
noncomputable abbrev az:=@List.mem_append_left
noncomputable abbrev aA:=@List.getElem?_eq_some_iff
noncomputable abbrev aC:=@Array.length_toList
noncomputable abbrev aD:=@decide_eq_true
noncomputable abbrev aE:=@Option.map_eq_some_iff
noncomputable abbrev aF:=@PySem.Heap.get?_push_size
noncomputable abbrev aG:=@Bool.and_eq_true
noncomputable abbrev aH:=@List.getElem?_append_right
noncomputable abbrev aI:=@List.all_eq_true
noncomputable abbrev aJ:=@List.getElem?_append_left
noncomputable abbrev aK:=@decide_eq_true_eq
noncomputable abbrev aL:=@Nat.le_refl
noncomputable abbrev aM:=@PySem.wpAny_mono
noncomputable abbrev aN:=@decide_eq_false
noncomputable abbrev aO:=@Bool.false_eq_true
noncomputable abbrev aP:=@Option.some.inj
noncomputable abbrev aQ:=@beq_iff_eq
noncomputable abbrev aR:=@List.getElem?_map
noncomputable abbrev aS:=@List.map_cons
noncomputable abbrev aT:=@PySem.wpAny_holding
noncomputable abbrev aU:=@List.length_cons
noncomputable abbrev aV:=@Array.getElem?_toList
noncomputable abbrev aW:=@Option.bind_eq_some_iff
noncomputable abbrev aX:=@List.length_append
noncomputable abbrev aY:=@List.pairwise_cons
noncomputable abbrev aZ:=@List.mem_range
noncomputable abbrev a0:=@Bool.not_true
noncomputable abbrev a5:=@List.getD_eq_getElem?_getD
noncomputable abbrev a6:=@PySem.Heap.lt_size
noncomputable abbrev a7:=@Array.getElem?_eq_getElem
noncomputable abbrev a8:=@Nat.zero_le
noncomputable abbrev a9:=@PySem.wpAny_ite_false
noncomputable abbrev ba:=@Bool.eq_false_iff
noncomputable abbrev bc:=@List.getElem?_eq_none
noncomputable abbrev be:=@List.append_nil
noncomputable abbrev bf:=@List.map_map
noncomputable abbrev bg:=@List.length_set
noncomputable abbrev bh:=@of_decide_eq_true
noncomputable abbrev bj:=@PySem.Heap.get?_none_of_le
noncomputable abbrev bk:=@Nat.lt_or_ge
noncomputable abbrev bm:=@Nat.ne_of_lt
noncomputable abbrev bn:=@Option.isSome_iff_exists
noncomputable abbrev bo:=@if_false
noncomputable abbrev bp:=@List.take_length
noncomputable abbrev bq:=@PySem.wpAny_call_entry
noncomputable abbrev bt:=@List.getElem?_cons_zero
noncomputable abbrev bu:=@List.getElem?_cons_succ
noncomputable abbrev bv:=@PySem.Heap.size_push
noncomputable abbrev bw:=@List.mem_filter
noncomputable abbrev bz:=@List.prefix_refl
noncomputable abbrev bA:=@List.mem_flatMap
noncomputable abbrev bB:=@Nat.zero_add
noncomputable abbrev bC:=@Array.getD_eq_getD_getElem?
noncomputable abbrev bD:=@PySem.wpAny_forIn_list
noncomputable abbrev bE:=@List.sum_cons
noncomputable abbrev bF:=@PySem.wpAny_seqItems
noncomputable abbrev bG:=@Bool.or_eq_true
noncomputable abbrev bH:=@List.nodup_cons
noncomputable abbrev bI:=@Nat.not_lt_zero
noncomputable abbrev bJ:=@List.lookup_cons
noncomputable abbrev bK:=@PySem.wpAny_tupleItemsOf
noncomputable abbrev bL:=@PySem.wpAny_truthy_bool
noncomputable abbrev bM:=@List.nodup_append
noncomputable abbrev bN:=@Nat.le_of_lt_succ
noncomputable abbrev bO:=@List.map_congr_left
noncomputable abbrev bP:=@PySem.Heap.SameBut.update
noncomputable abbrev bQ:=@PySem.wpAny_field
noncomputable abbrev bR:=@PySem.wpAny_standAt
noncomputable abbrev bS:=@beq_self_eq_true
noncomputable abbrev bT:=@Option.join_some
noncomputable abbrev bU:=@Nat.lt_of_le_of_lt
noncomputable abbrev bV:=@Nat.lt_of_lt_of_le
noncomputable abbrev bW:=@Classical.byContradiction
noncomputable abbrev bX:=@List.getElem?_of_mem
noncomputable abbrev bY:=@List.getElem?_set_ne
noncomputable abbrev bZ:=@PySem.wpAny_specialOf
noncomputable abbrev ca:=@List.pairwise_append
noncomputable abbrev cb:=@List.append_assoc
noncomputable abbrev cf:=@PySem.wpAny_pyIter_list
noncomputable abbrev cg:=@PySem.wpAny_callSpecial?_slot
noncomputable abbrev ch:=@List.filter_sublist
noncomputable abbrev cj:=@Nat.succ_le_succ
noncomputable abbrev cm:=@Bool.and_false
noncomputable abbrev cn:=@Array.getElem?_eq_none
noncomputable abbrev co:=@List.getElem?_set_self
noncomputable abbrev cp:=@Nat.lt_of_succ_lt_succ
noncomputable abbrev cq:=@Nat.le_of_lt
noncomputable abbrev cr:=@Nat.sub_self
noncomputable abbrev ct:=@Array.forIn_toList
noncomputable abbrev cu:=@Option.map_some
noncomputable abbrev cw:=@PySem.isSubtype_tuple_tuple
noncomputable abbrev cy:=@List.length_singleton
noncomputable abbrev cz:=@PySem.Heap.get?_update_self
noncomputable abbrev cA:=@List.length_nil
noncomputable abbrev cB:=@Nat.lt_irrefl
noncomputable abbrev cC:=@Nat.lt_succ_of_lt
noncomputable abbrev cD:=@PySem.wpAny_setState_of
noncomputable abbrev cE:=@PySem.Heap.get?_push_ne
noncomputable abbrev cF:=@List.Sublist.refl
noncomputable abbrev cG:=@PySem.Around.frames_deeper
noncomputable abbrev cH:=@Nat.le_succ
noncomputable abbrev cI:=@PySem.sizeLine_eq
noncomputable abbrev cJ:=@if_true
noncomputable abbrev cK:=@congrArg
noncomputable abbrev cL:=@Nat.lt_succ_self
noncomputable abbrev cM:=@List.isEmpty_iff
noncomputable abbrev cN:=@PyProof.Rows.spliced_more
noncomputable abbrev cO:=@PySem.wpAny_isInstance
noncomputable abbrev cP:=@List.filterMap_cons_none
noncomputable abbrev cQ:=@List.filterMap_cons_some
noncomputable abbrev cR:=@List.length_pos_iff
noncomputable abbrev cS:=@Nat.add_assoc
noncomputable abbrev cT:=@PyProof.Rows.assignInOrder_cons
noncomputable abbrev cU:=@Bool.eq_iff_iff
noncomputable abbrev cV:=@PySem.wpAny_setField_rec
noncomputable abbrev cW:=@List.map_append
noncomputable abbrev cX:=@List.set_cons_zero
noncomputable abbrev cY:=@List.set_cons_succ
noncomputable abbrev cZ:=@List.eq_nil_of_length_eq_zero
noncomputable abbrev dA:=@Nat.le_succ_of_le
noncomputable abbrev dB:=@Int.toNat_natCast
noncomputable abbrev dC:=@List.forIn_nil
noncomputable abbrev dD:=@Nat.succ.inj
noncomputable abbrev dE:=@Nat.le_of_ble_eq_true
noncomputable abbrev dF:=@PySem.wpAny_richCompare_same_room
noncomputable abbrev dG:=@Nat.le_max_right
noncomputable abbrev dH:=@List.getElem_mem
noncomputable abbrev dI:=@List.any_eq_true
noncomputable abbrev dJ:=@List.not_mem_nil
noncomputable abbrev dK:=@List.length_take
noncomputable abbrev dL:=@PySem.wpAny_rule
noncomputable abbrev dM:=@Option.getD_some
noncomputable abbrev dO:=@PySem.Heap.size_update
noncomputable abbrev dP:=@Nat.le_add_right
noncomputable abbrev dQ:=@List.filter_cons
noncomputable abbrev dR:=@List.all_cons
noncomputable abbrev dS:=@List.filterMap_cons
noncomputable abbrev dT:=@PySem.Heap.get?_update_ne
noncomputable abbrev dU:=@PyProof.Rows.slot_tupleiter_next
noncomputable abbrev dW:=@List.foldl_cons
noncomputable abbrev dX:=@Nat.le_max_left
noncomputable abbrev dY:=@List.forIn_cons
end Mine
set_option bootstrap.genMatcherCode false
set_option tactic.hygienic false
section
section
namespace Mine.L11
open PySem PySem.W PySem.Calls PyProof.Rows
noncomputable def ztv:Params→Frag:=fun P=>[
 (3,PySem.Obj.mk (Value.type "dict") Option.none (PySem.Data.dict #[DictEntry.mk (PyData.keyHash P (Str.ofString "__name__")) (Value.str (Str.ofString "__name__") 165) (Value.str (Str.ofString "law_uf050003_11") 467),DictEntry.mk (PyData.keyHash P (Str.ofString "__doc__")) (Value.str (Str.ofString "__doc__") 166) Value.none,DictEntry.mk (PyData.keyHash P (Str.ofString "__package__")) (Value.str (Str.ofString "__package__") 167) Value.none,DictEntry.mk (PyData.keyHash P (Str.ofString "__loader__")) (Value.str (Str.ofString "__loader__") 168) (Value.builtin "__main__.__loader__#opaque"),DictEntry.mk (PyData.keyHash P (Str.ofString "__spec__")) (Value.str (Str.ofString "__spec__") 169) Value.none,DictEntry.mk (PyData.keyHash P (Str.ofString "__annotations__")) (Value.str (Str.ofString "__annotations__") 170) (Value.ref 6),DictEntry.mk (PyData.keyHash P (Str.ofString "__builtins__")) (Value.str (Str.ofString "__builtins__") 171) (Value.ref 4),DictEntry.mk (PyData.keyHash P (Str.ofString "__file__")) (Value.str (Str.ofString "__file__") 173) (Value.str (Str.ofString "/claim/cut.py") 172),DictEntry.mk (PyData.keyHash P (Str.ofString "__cached__")) (Value.str (Str.ofString "__cached__") 174) Value.none,DictEntry.mk (PyData.keyHash P (Str.ofString "PanError")) (Value.str (Str.ofString "PanError") 206) (Value.ref 24),DictEntry.mk (PyData.keyHash P (Str.ofString "BadCount")) (Value.str (Str.ofString "BadCount") 222) (Value.ref 37),DictEntry.mk (PyData.keyHash P (Str.ofString "BadCases")) (Value.str (Str.ofString "BadCases") 238) (Value.ref 49),DictEntry.mk (PyData.keyHash P (Str.ofString "BadDone")) (Value.str (Str.ofString "BadDone") 254) (Value.ref 61),DictEntry.mk (PyData.keyHash P (Str.ofString "LEAST_THINGS")) (Value.str (Str.ofString "LEAST_THINGS") 258) (Value.int 2 257),DictEntry.mk (PyData.keyHash P (Str.ofString "MOST_THINGS")) (Value.str (Str.ofString "MOST_THINGS") 260) (Value.int 5 259),DictEntry.mk (PyData.keyHash P (Str.ofString "MOST_CASES")) (Value.str (Str.ofString "MOST_CASES") 262) (Value.int 12 261),DictEntry.mk (PyData.keyHash P (Str.ofString "is_among")) (Value.str (Str.ofString "is_among") 271) (Value.ref 70),DictEntry.mk (PyData.keyHash P (Str.ofString "need_count")) (Value.str (Str.ofString "need_count") 278) (Value.ref 77),DictEntry.mk (PyData.keyHash P (Str.ofString "is_case")) (Value.str (Str.ofString "is_case") 284) (Value.ref 82),DictEntry.mk (PyData.keyHash P (Str.ofString "need_cases")) (Value.str (Str.ofString "need_cases") 290) (Value.ref 87),DictEntry.mk (PyData.keyHash P (Str.ofString "OUTCOMES")) (Value.str (Str.ofString "OUTCOMES") 297) (Value.ref 88),DictEntry.mk (PyData.keyHash P (Str.ofString "is_pan")) (Value.str (Str.ofString "is_pan") 303) (Value.ref 93),DictEntry.mk (PyData.keyHash P (Str.ofString "is_weighing")) (Value.str (Str.ofString "is_weighing") 309) (Value.ref 98),DictEntry.mk (PyData.keyHash P (Str.ofString "some_of")) (Value.str (Str.ofString "some_of") 315) (Value.ref 103),DictEntry.mk (PyData.keyHash P (Str.ofString "all_leading")) (Value.str (Str.ofString "all_leading") 326) (Value.ref 110),DictEntry.mk (PyData.keyHash P (Str.ofString "came")) (Value.str (Str.ofString "came") 332) (Value.ref 115),DictEntry.mk (PyData.keyHash P (Str.ofString "parted")) (Value.str (Str.ofString "parted") 338) (Value.ref 120),DictEntry.mk (PyData.keyHash P (Str.ofString "threes")) (Value.str (Str.ofString "threes") 349) (Value.ref 127),DictEntry.mk (PyData.keyHash P (Str.ofString "MOST_DONE")) (Value.str (Str.ofString "MOST_DONE") 353) (Value.int 20 352),DictEntry.mk (PyData.keyHash P (Str.ofString "is_done")) (Value.str (Str.ofString "is_done") 361) (Value.ref 134),DictEntry.mk (PyData.keyHash P (Str.ofString "still_open")) (Value.str (Str.ofString "still_open") 367) (Value.ref 139),DictEntry.mk (PyData.keyHash P (Str.ofString "are_alike")) (Value.str (Str.ofString "are_alike") 375) (Value.ref 144),DictEntry.mk (PyData.keyHash P (Str.ofString "alike_of")) (Value.str (Str.ofString "alike_of") 386) (Value.ref 151),DictEntry.mk (PyData.keyHash P (Str.ofString "tried")) (Value.str (Str.ofString "tried") 402) (Value.ref 158),DictEntry.mk (PyData.keyHash P (Str.ofString "by_each")) (Value.str (Str.ofString "by_each") 416) (Value.ref 165),DictEntry.mk (PyData.keyHash P (Str.ofString "looked")) (Value.str (Str.ofString "looked") 427) (Value.ref 172),DictEntry.mk (PyData.keyHash P (Str.ofString "found_for")) (Value.str (Str.ofString "found_for") 440) (Value.ref 179),DictEntry.mk (PyData.keyHash P (Str.ofString "told")) (Value.str (Str.ofString "told") 455) (Value.ref 186),DictEntry.mk (PyData.keyHash P (Str.ofString "least")) (Value.str (Str.ofString "least") 466) (Value.ref 193),DictEntry.mk (PyData.keyHash P (Str.ofString "_law_cell_at")) (Value.str (Str.ofString "_law_cell_at") 476) (Value.ref 200),DictEntry.mk (PyData.keyHash P (Str.ofString "_law_mixed")) (Value.str (Str.ofString "_law_mixed") 484) (Value.ref 207),DictEntry.mk (PyData.keyHash P (Str.ofString "_law_came")) (Value.str (Str.ofString "_law_came") 494) (Value.ref 214),DictEntry.mk (PyData.keyHash P (Str.ofString "_law_pans")) (Value.str (Str.ofString "_law_pans") 500) (Value.ref 219),DictEntry.mk (PyData.keyHash P (Str.ofString "_law_pool")) (Value.str (Str.ofString "_law_pool") 512) (Value.ref 226),DictEntry.mk (PyData.keyHash P (Str.ofString "_law_puzzle")) (Value.str (Str.ofString "_law_puzzle") 518) (Value.ref 231),DictEntry.mk (PyData.keyHash P (Str.ofString "_law_done")) (Value.str (Str.ofString "_law_done") 537) (Value.ref 238),DictEntry.mk (PyData.keyHash P (Str.ofString "_law_open")) (Value.str (Str.ofString "_law_open") 543) (Value.ref 243),DictEntry.mk (PyData.keyHash P (Str.ofString "_law_numbered")) (Value.str (Str.ofString "_law_numbered") 549) (Value.ref 248),DictEntry.mk (PyData.keyHash P (Str.ofString "_law_pan_numbered")) (Value.str (Str.ofString "_law_pan_numbered") 555) (Value.ref 253),DictEntry.mk (PyData.keyHash P (Str.ofString "_law_order")) (Value.str (Str.ofString "_law_order") 565) (Value.ref 260),DictEntry.mk (PyData.keyHash P (Str.ofString "_law_others")) (Value.str (Str.ofString "_law_others") 571) (Value.ref 265),DictEntry.mk (PyData.keyHash P (Str.ofString "law")) (Value.str (Str.ofString "law") 589) (Value.ref 272)] 52) #[]),
 (88,PySem.Obj.mk (Value.type "tuple") Option.none (PySem.Data.seq #[Value.int (-1) 294,Value.int 0 295,Value.int 1 296]) #[])]
noncomputable def ztw:List Addr:=[3,88]
noncomputable def znr:Stmt→Bool
 | .Assign [.Name x _] _ _=>!(x == ("__name__" : Str))
 | _=>true
noncomputable def view:Program:={ PySem.Challenge.pw_uf050003_11 with main:={ PySem.Challenge.pw_uf050003_11.main with body:=PySem.Challenge.pw_uf050003_11.main.body.filter znr } }
noncomputable abbrev hook:=kHook ztv ztw (fun uA=>by kernel_rfl)
theorem ws:OpenLaw.wellSaid PySem.Challenge.rw_uf050003_11=true:=by kernel_rfl
theorem znx:LeftO (OpenLaw.row PySem.Challenge.rw_uf050003_11).prog view [] (fun s=>xlAt view [] s && recOk (RowW.records (OpenRow.toRowW (OpenLaw.row PySem.Challenge.rw_uf050003_11))) s) (Hook.obs hook) (Hook.val hook) 4166:=by
 intro w;kernel_rfl
end Mine.L11
end
section
namespace Mine
open PySem
inductive It where
 | b (n:Nat)
 | x (d:PyData)
inductive V where
 | d (x:PyData)
 | box (n:Nat)
 | tm (its:List It)
noncomputable abbrev MKey:=List (List Int)×Int
noncomputable def p8(k:MKey):PyData:=.tuple [.tuple (k.1.map fun c=>.tuple (c.map .int)),.int k.2]
noncomputable def zpm(k:MKey):Int:=reduceHash (Builtin.Tuple.tupleHashOf [reduceHash (Builtin.Tuple.tupleHashOf (k.1.map fun c=>reduceHash (Builtin.Tuple.tupleHashOf (c.map hashInt)))),hashInt k.2])
inductive Box where
 | lst (xs:List PyData)
 | dct (kvs:List (MKey×PyData))
noncomputable abbrev za:=List Box
noncomputable abbrev Loc:=List (Option V)
inductive R(σ α:Type) where
 | ok (a:α) (s:σ)
 | stuck
noncomputable def R.bind{σ α β:Type}:R σ α→(α→σ→R σ β)→R σ β
 | .ok a s,f=>f a s
 | .stuck,_=>.stuck
noncomputable def R.lift{α:Type}(ρ:Loc):R za α→R (Loc×za) α
 | .ok a O=>.ok a (ρ,O)
 | .stuck=>.stuck
theorem R.lift_bind{α β:Type}(ρ:Loc)(r:R za α)(g:α→za→R za β) :
 (r.bind g).lift ρ=(r.lift ρ).bind fun a S=>(g a S.2).lift ρ:=by cases r <;> rfl
inductive Fl where
 | next
 | ret (v:V)
structure Gl where
 prog:Program
 w:World
 h₀:Heap
 mg:Str→Option Value
 mb:Str→Option Value
 cls:Nat→Value
 sys:∃ m,h₀.Ns sysModules m
theorem Gl.notSys(G:Gl){d:Addr}(h:G.h₀.get? d=none):(d == sysModules)=false:=beq_eq_false_iff_ne.mpr fun e=>by
 obtain⟨m,o,es,ep,h1,_⟩:=G.sys
 rw[e,h1] at h;exfalso;injection h
inductive ItsR(N β:List Addr)(h:Heap):List Value→List It→Prop
 | nil:ItsR N β h [] []
 | b {n:Nat} {a:Addr} {vs:List Value} {its:List It}:β[n]?=some a→ItsR N β h vs its→ItsR N β h (.ref a::vs) (.b n::its)
 | x {v:Value} {d:PyData} {as:List Addr} {vs:List Value} {its:List It}:Reads h v d as→(∀ a∈as,a∉β∧a∉N)→ItsR N β h vs its→ItsR N β h (v::vs) (.x d::its)
inductive VRd(N β:List Addr)(h:Heap)(v:Value)(x:PyData):Prop
 | mk (as:List Addr) (r:Reads h v x as) (q:∀ a∈as,a∉β∧a∉N)
inductive zuy(β:List Addr)(v:Value)(n:Nat):Prop
 | mk (a:Addr) (h1:β[n]?=some a) (h2:v=.ref a)
inductive VRtm(N β:List Addr)(h:Heap)(v:Value)(its:List It):Prop
 | mk (a:Addr) (o:Obj) (vs:Array Value) (k:Nat) (e:v=.ref a) (h1:h.get? a=some o) (h2:o.cls=.type "tuple") (h3:o.data=.seq vs k) (h4:ItsR N β h vs.toList its)
noncomputable def VR(G:Gl)(N β:List Addr)(h:Heap)(v:Value):V→Prop
 | .d x=>VRd N β h v x
 | .box n=>zuy β v n
 | .tm its=>VRtm N β h v its
inductive ListAt(h:Heap)(N β:List Addr)(a:Addr)(xs:List PyData):Prop
 | mk (o:Obj) (vs:Array Value) (n:Nat) (h1:h.get? a=some o) (h2:o.cls=.type "list") (h3:o.data=.seq vs n) (as:List Addr) (h4:ReadsAll h vs.toList xs as) (h5:∀ b∈as,b∉β∧b∉N)
inductive zhx(h:Heap)(N β:List Addr)(e:DictEntry)(kv:MKey×PyData):Prop
 | mk (hq:e.hash=zpm kv.1) (as bs:List Addr) (r1:Reads h e.key (p8 kv.1) as) (r2:Reads h e.val kv.2 bs) (q:∀ b∈as++bs,b∉β∧b∉N)
inductive DictAt(h:Heap)(N β:List Addr)(a:Addr)(kvs:List (MKey×PyData)):Prop
 | mk (o:Obj) (es:Array DictEntry) (n:Nat) (h1:h.get? a=some o) (h2:o.cls=.type "dict") (h3:o.data=.dict es n) (h4:es.size=kvs.length∧(kvs.map (·.1)).Nodup)
    (h5:∀ (i:Nat) e kv,es[i]?=some e→kvs[i]?=some kv→zhx h N β e kv)
noncomputable def BoxAt(h:Heap)(N β:List Addr)(a:Addr):Box→Prop
 | .lst xs=>ListAt h N β a xs
 | .dct kvs=>DictAt h N β a kvs
noncomputable def Plain(h:Heap)(a:Addr):Prop:=∃ o,h.get? a=some o∧o.dict=none∧o.slots = #[]
theorem Plain.at{h h':Heap}{a:Addr}(x:Plain h a)(hk:∀ o,h.get? a=some o→h'.get? a=some o):Plain h' a:=let ⟨o,e,r⟩:=x;⟨o,hk o e,r⟩
structure BR(G:Gl)(N β:List Addr)(O:za)(h:Heap):Prop where
 keep:∀ b o,G.h₀.get? b=some o→h.get? b=some o
 len:β.length=O.length
 nodup:β.Nodup
 new:∀ a∈β,G.h₀.get? a=none
 at_:∀ (i:Nat) a bx,β[i]?=some a→O[i]?=some bx→BoxAt h N β a bx
 plain:∀ a∈β,Plain h a
noncomputable def Get(h:Heap)(env:Env)(x:Str)(v:Value):Prop:=
 (env.kindOf x=some .local∧∃ m,h.Ns env.locals m∧m x=some v) ∨
 (env.kindOf x=some .cell∧∃ c,env.cells.lookup x=some c∧h.IsCell c (some v))
structure Fm where
 env:Env
 names:List (Option Str)
 own:Str→Bool
 W:List Addr
 B:List Addr
 fr:List Addr
 pin:Option (Str→Option Value):=none
structure FmOk(G:Gl)(F:Fm)(β:List Addr)(h:Heap):Prop where
 kind:F.env.scope.kind=.function
 globals:F.env.globals=mainGlobals
 builtins:F.env.builtins=builtinsNs
 once:∀ (i j:Nat) x,F.names[i]?=some (some x)→F.names[j]?=some (some x)→i=j
 ns:∃ m,h.Ns F.env.locals m
 nsW:F.env.locals∈F.W
 cell:∀ x,F.env.kindOf x=some .cell→∃ c v,F.env.cells.lookup x=some c∧h.IsCell c v∧c∈F.B∧(F.own x=true→c∈F.W)
 apart:∀ x y c,F.env.cells.lookup x=some c→F.env.cells.lookup y=some c→x=y
 sub:∀ a∈F.W,a∈F.B
 new:(∀ a∈F.B,a≠sysModules→G.h₀.get? a=none)∧sysModules∈F.B∧sysModules∉F.W∧sysModules∉F.fr
 notBox:∀ a∈F.B,a∉β
 stor:∀ a∈F.B,∃ o,h.get? a=some o∧∀ vs n,o.data=.seq vs n→o.cls≠.type "tuple"
 frB:∀ a∈F.fr,a∈F.B
 frs:∀ a∈F.fr,∃ m,h.Ns a m
 pin:∀ m,F.pin=some m→h.Ns F.env.locals m∧∀ x,F.own x=false
theorem FmOk.newB{G:Gl}{F:Fm}{β:List Addr}{h:Heap}(f:FmOk G F β h){a:Addr}(ha:a∈F.B)(hs:a≠sysModules):G.h₀.get? a=none:=f.new.1 a ha hs
theorem FmOk.newW{G:Gl}{F:Fm}{β:List Addr}{h:Heap}(f:FmOk G F β h){a:Addr}(ha:a∈F.W):G.h₀.get? a=none:=f.new.1 a (f.sub a ha) fun e=>f.new.2.2.1 (e ▸ ha)
structure SR(G:Gl)(F:Fm)(β:List Addr)(ρ:Loc)(O:za)(h:Heap):Prop where
 br:BR G F.B β O h
 fm:FmOk G F β h
 get:∀ (i:Nat) x v,F.names[i]?=some (some x)→ρ[i]?=some (some v)→∃ val,Get h F.env x val∧VR G F.B β h val v
theorem BR.sysAlive{G:Gl}{N β:List Addr}{O:za}{h:Heap}(b:BR G N β O h):∃ o es n,h.get? sysModules=some o∧o.data=.dict es n:=by
 obtain⟨m,o,es,ep,h1,h2,_⟩:=G.sys
 exact eX o es ep (b.keep _ _ h1) h2
theorem BR.notSys{G:Gl}{N β:List Addr}{O:za}{h:Heap}(b:BR G N β O h){a:Addr}(ha:h.get? a=none):a≠sysModules:=fun e=>by
 obtain⟨o,es,n,h1,_⟩:=b.sysAlive
 rw[e,h1] at ha;exfalso;injection ha
theorem BR.notSysD{G:Gl}{N β:List Addr}{O:za}{h:Heap}(b:BR G N β O h){a:Addr}{o:Obj}(ha:h.get? a=some o)(hd:∀ es n,o.data≠.dict es n):a≠sysModules:=fun e=>by
 obtain⟨o',es,n,h1,h2⟩:=b.sysAlive
 rw[e,h1] at ha;injection ha with eU;subst eU
 exact hd _ _ h2
theorem zdw{G:Gl}{F:Fm}{N β M fr:List Addr}{O:za}{h:Heap}(b:BR G N β O h)(hM:∀ a∈M,h.get? a=none)(f:(∀ a∈F.B,a≠sysModules→G.h₀.get? a=none)∧sysModules∈F.B) :
 (∀ a∈M++F.B,a≠sysModules→G.h₀.get? a=none)∧sysModules∈M++F.B∧sysModules∉M:=by
 refine⟨fun a ha hs=>?_,au _ f.2,fun hm=>b.notSys (hM _ hm) rfl⟩
 refine eW (ai.mp ha) ?_ ?_
 ·intro ha;cases e:G.h₀.get? a with
  | none=>rfl
  | some o=>have:=b.keep a o e;rw[hM a ha] at this;exfalso;injection this
 ·intro ha;exact f.1 a ha hs
noncomputable def Kin(o o':Obj):Prop:=∃ sl,o' = { o with slots:=sl }∧((∀ es n,o.data≠.dict es n)→sl=o.slots)
theorem Kin.refl(o:Obj):Kin o o:=⟨o.slots,rfl,fun uA=>rfl⟩
theorem Kin.trans{o o' o'':Obj}(x:Kin o o')(y:Kin o' o''):Kin o o'':=by
 refine eY x ?_;clear x;intro a eg h1;subst eg
 refine eY y ?_;clear y;intro b eg h2;subst eg
 exact eZ b rfl (fun h=>(h2 h).trans (h1 h))
theorem Kin.cls{o o':Obj}(x:Kin o o'):o'.cls=o.cls:=by refine eY x ?_;clear x;intro a eg _;subst eg;rfl
theorem Kin.data{o o':Obj}(x:Kin o o'):o'.data=o.data:=by refine eY x ?_;clear x;intro a eg _;subst eg;rfl
theorem Kin.same{o o':Obj}(x:Kin o o')(h:∀ es n,o.data≠.dict es n):o'=o:=by refine eY x ?_;clear x;intro a eg h1;subst eg;rw[h1 h]
theorem Kin.ns{h h':Heap}{a:Addr}{m:Str→Option Value}(x:h.Ns a m)(k:∀ o,h.get? a=some o→∃ o',h'.get? a=some o'∧Kin o o'):h'.Ns a m:=by
 refine fb x ?_;clear x;intro o es ep h1 h2 h3 h4
 refine eY (k o h1) ?_;intro o' e' kn
 exact fc o' es ep e' (kn.data.trans h2) h3 h4
theorem Kin.cell{h h':Heap}{a:Addr}{v:Option Value}(x:h.IsCell a v)(k:∀ o,h.get? a=some o→∃ o',h'.get? a=some o'∧Kin o o'):h'.IsCell a v:=by
 refine eY x ?_;clear x;intro o h1 h2
 refine eY (k o h1) ?_;intro o' e' kn
 exact eZ o' e' (kn.data.trans h2)
structure Step(W:List Addr)(β:List Addr)(s s':Shared)(β':List Addr):Prop where
 gens:s'.gens=s.gens
 os:s'.os=s.os
 pre:β <+: β'
 fresh:∀ a∈β',a∈β∨s.heap.get? a=none
 alive:∀ b o,s.heap.get? b=some o→∃ o',s'.heap.get? b=some o'
 kept:∀ b o,s.heap.get? b=some o→b∉β→b∉W→∃ o',s'.heap.get? b=some o'∧Kin o o'
theorem Step.refl(W β s):Step W β s s β:=⟨rfl,rfl,bz _,fun uA h=>.inl h,fun uA o h=>⟨o,h⟩,fun uA o h uA uA=>⟨o,h,Kin.refl o⟩⟩
theorem Step.keptE{W β s s' β'}(x:Step W β s s' β'){b:Addr}{o:Obj}(e:s.heap.get? b=some o)(hb:b∉β)(hW:b∉W)(hd:∀ es n,o.data≠.dict es n):s'.heap.get? b=some o:=by
 refine eY (x.kept b o e hb hW) ?_;intro o' e' k
 rw[e',k.same hd]
theorem Step.trans{W β β' β'' s s' s''}(x:Step W β s s' β')(y:Step W β' s' s'' β''):Step W β s s'' β'' where
 gens:=y.gens.trans x.gens
 os:=y.os.trans x.os
 pre:=x.pre.trans y.pre
 fresh:=fun a ha=>by
  refine eW (y.fresh a ha) ?_ ?_
  ·intro h;exact x.fresh a h
  ·intro h;right
   cases e:s.heap.get? a with
   | none=>rfl
   | some o=>refine fe (x.alive a o e) ?_;intro o' e';rw[e'] at h;exfalso;injection h
 alive:=fun b o e=>let ⟨o',e'⟩:=x.alive b o e;y.alive b o' e'
 kept:=fun b o e hb hW=>by
  refine eY (x.kept b o e hb hW) ?_;intro o' e' k
  obtain⟨o'',e'',k'⟩:=y.kept b o' e' (fun hb'=>by
   refine eW (x.fresh b hb') ?_ ?_
   ·intro h;exact hb h
   ·intro h;rw[e] at h;exfalso;injection h) hW
  exact eZ o'' e'' (k.trans k')
theorem xk{β β':List Addr}(h:β <+: β'){i:Nat}{a:Addr}(ha:β[i]?=some a):β'[i]?=some a:=by
 refine fe h ?_;clear h;intro t eg;subst eg
 have hi:i < β.length:=by
  refine eW (bk i β.length) ?_ ?_
  ·intro h;exact h
  ·intro h;rw[bc h] at ha;exfalso;injection ha
 rw[aJ hi];exact ha
theorem qt{h h':Heap}{P:Addr→Prop}(hk:∀ b o,h.get? b=some o→P b→∃ o',h'.get? b=some o'∧Kin o o')
 (hP:∀ b o vs n,h.get? b=some o→o.cls=.type "tuple"→o.data=.seq vs n→P b) {v:Value} {x:PyData} {as:List Addr} (r:Reads h v x as):(∀ a∈as,P a)→Reads h' v x as:=
 Reads.rec (motive_1:=fun v x as uA=>(∀ a∈as,P a)→Reads h' v x as) (motive_2:=fun vs xs as uA=>(∀ a∈as,P a)→ReadsAll h' vs xs as)
  (fun uA=>.none) (fun b uA=>.bool b) (fun i t uA=>.int i t) (fun x t uA=>.str x t)
  (fun h1 h2 h3 uA ih q=>let ⟨_,e,k⟩:=hk _ _ h1 (q _ (.head _));.list e (k.cls.trans h2) (k.data.trans h3) (ih fun a ha=>q a (.tail _ ha)))
  (fun h1 h2 h3 uA ih q=>let ⟨_,e,k⟩:=hk _ _ h1 (hP _ _ _ _ h1 h2 h3);.tuple e (k.cls.trans h2) (k.data.trans h3) (ih q))
  (fun h1 h2 h3 uA uA ih ih' q=>let ⟨_,e,k⟩:=hk _ _ h1 (q _ (.head _));.dict e (k.cls.trans h2) (k.data.trans h3) (ih fun a ha=>q a (az _ (ag _ ha))) (ih' fun a ha=>q a (au _ ha)))
  (fun uA=>.nil) (fun uA uA i1 i2 q=>.cons (i1 fun a ha=>q a (az _ ha)) (i2 fun a ha=>q a (au _ ha))) r
theorem wf{h h':Heap}{P:Addr→Prop}(hk:∀ b o,h.get? b=some o→P b→∃ o',h'.get? b=some o'∧Kin o o')
 (hP:∀ b o vs n,h.get? b=some o→o.cls=.type "tuple"→o.data=.seq vs n→P b) {vs:List Value} {xs:List PyData} {as:List Addr} (r:ReadsAll h vs xs as):(∀ a∈as,P a)→ReadsAll h' vs xs as:=
 ReadsAll.rec (motive_1:=fun uA uA uA uA=>True) (motive_2:=fun vs xs as uA=>(∀ a∈as,P a)→ReadsAll h' vs xs as)
  trivial (fun uA=>trivial) (fun uA uA=>trivial) (fun uA uA=>trivial) (fun uA uA uA uA uA=>trivial) (fun uA uA uA uA uA=>trivial) (fun uA uA uA uA uA uA uA=>trivial)
  (fun uA=>.nil) (fun r uA uA i2 q=>.cons (qt hk hP r fun a ha=>q a (az _ ha)) (i2 fun a ha=>q a (au _ ha))) r
theorem jc{h h':Heap}{P:Addr→Prop}(hk:∀ b o,h.get? b=some o→P b→h'.get? b=some o)
 (hP:∀ b o vs n,h.get? b=some o→o.cls=.type "tuple"→o.data=.seq vs n→P b) {v:Value} {x:PyData} {as:List Addr} (r:Reads h v x as) (q:∀ a∈as,P a):Reads h' v x as:=
 qt (fun b o e p=>⟨o,hk b o e p,Kin.refl o⟩) hP r q
theorem xp{h h':Heap}{P:Addr→Prop}(hk:∀ b o,h.get? b=some o→P b→h'.get? b=some o)
 (hP:∀ b o vs n,h.get? b=some o→o.cls=.type "tuple"→o.data=.seq vs n→P b) {vs:List Value} {xs:List PyData} {as:List Addr} (r:ReadsAll h vs xs as) (q:∀ a∈as,P a):ReadsAll h' vs xs as:=
 wf (fun b o e p=>⟨o,hk b o e p,Kin.refl o⟩) hP r q
theorem y6{h:Heap}{v:Value}{x:PyData}{as:List Addr}(r:Reads h v x as):∀ a∈as,∃ o,h.get? a=some o:=
 Reads.rec (motive_1:=fun uA uA as uA=>∀ a∈as,∃ o,h.get? a=some o) (motive_2:=fun uA uA as uA=>∀ a∈as,∃ o,h.get? a=some o)
  (fun uA h=>nomatch h) (fun uA uA h=>nomatch h) (fun uA uA uA h=>nomatch h) (fun uA uA uA h=>nomatch h)
  (fun h1 uA uA uA ih a ha=>(ae.mp ha).elim (fun e=>⟨_,e ▸ h1⟩) (ih a))
  (fun uA uA uA uA ih=>ih)
  (fun h1 uA uA uA uA ih ih' a ha=>(ai.mp ha).elim (fun ha=>(ae.mp ha).elim (fun e=>⟨_,e ▸ h1⟩) (ih a)) (ih' a))
  (fun uA h=>nomatch h) (fun uA uA i1 i2 a ha=>(ai.mp ha).elim (i1 a) (i2 a)) r
theorem k8{h:Heap}{vs:List Value}{xs:List PyData}{as:List Addr}(r:ReadsAll h vs xs as):∀ a∈as,∃ o,h.get? a=some o:=
 ReadsAll.rec (motive_1:=fun uA uA uA uA=>True) (motive_2:=fun uA uA as uA=>∀ a∈as,∃ o,h.get? a=some o)
  trivial (fun uA=>trivial) (fun uA uA=>trivial) (fun uA uA=>trivial) (fun uA uA uA uA uA=>trivial) (fun uA uA uA uA uA=>trivial) (fun uA uA uA uA uA uA uA=>trivial)
  (fun uA h=>nomatch h) (fun r uA uA i2 a ha=>(ai.mp ha).elim (y6 r a) (i2 a)) r
theorem BR.alive{G:Gl}{N β:List Addr}{O:za}{h:Heap}(b:BR G N β O h):∀ a∈β,∃ o,h.get? a=some o∧(o.cls=.type "list"∨o.cls=.type "dict"):=by
 intro a ha
 refine fe (bX ha) ?_;intro i hi
 have hl:i < O.length:=by
  rw[← b.len]
  refine eW (bk i β.length) ?_ ?_
  ·intro h;exact h
  ·intro h;rw[bc h] at hi;exfalso;injection hi
 have hx:=b.at_ i a _ hi (aq hl)
 cases hb:O[i] with
 | lst xs=>rw[hb] at hx;obtain⟨o,_,_,h1,h2,_⟩:=hx;exact eZ o h1 (.inl h2)
 | dct kvs=>rw[hb] at hx;obtain⟨o,_,_,h1,h2,_⟩:=hx;exact eZ o h1 (.inr h2)
theorem ky{G:Gl}{F:Fm}{β:List Addr}{O:za}{h:Heap}(b:BR G F.B β O h)(f:FmOk G F β h){a:Addr}{o:Obj}{vs:Array Value}{n:Nat}(e:h.get? a=some o)(hc:o.cls=.type "tuple")(hd:o.data=.seq vs n) :
 a∉β∧a∉F.B:=by
 refine⟨fun hb=>?_,fun hB=>?_⟩
 ·refine eY (b.alive a hb) ?_;intro o' e' h'
  rw[e] at e';injection e' with eU;subst eU
  rw[hc] at h'
  (refine eW h' ?_ ?_<;>clear h';rotate_left;intro h';rotate_right;intro h') <;> exact absurd h' (by decide)
 ·refine eY (f.stor a hB) ?_;intro o' e' h'
  rw[e] at e';injection e' with eU;subst eU
  exact h' _ _ hd hc
theorem uo{W β β':List Addr}{s s':Shared}(st:Step W β s s' β'){as:List Addr}{N:List Addr}(al:∀ a∈as,∃ o,s.heap.get? a=some o)(q:∀ a∈as,a∉β∧a∉N):∀ a∈as,a∉β'∧a∉N:=
 fun a ha=>by
  refine⟨fun hb=>?_,(q a ha).2⟩
  refine eW (st.fresh a hb) ?_ ?_
  ·intro h;exact (q a ha).1 h
  ·intro h;refine fe (al a ha) ?_;intro o e
   rw[e] at h;exfalso;injection h
section
variable{G:Gl}{F:Fm}{β β':List Addr}{O:za}{s s':Shared}(b:BR G F.B β O s.heap)(f:FmOk G F β s.heap)(st:Step F.W β s s' β')
include b f st
theorem z8{v:Value}{x:PyData}{as:List Addr}(r:Reads s.heap v x as)(q:∀ a∈as,a∉β∧a∉F.B):Reads s'.heap v x as∧∀ a∈as,a∉β'∧a∉F.B:=
 ⟨qt (P:=fun a=>a∉β∧a∉F.B) (fun a o e p=>st.kept a o e p.1 fun hw=>p.2 (f.sub a hw)) (fun uA uA uA uA e hc hd=>ky b f e hc hd) r q,uo st (y6 r) q⟩
theorem zu{vs:List Value}{xs:List PyData}{as:List Addr}(r:ReadsAll s.heap vs xs as)(q:∀ a∈as,a∉β∧a∉F.B):ReadsAll s'.heap vs xs as∧∀ a∈as,a∉β'∧a∉F.B:=
 ⟨wf (P:=fun a=>a∉β∧a∉F.B) (fun a o e p=>st.kept a o e p.1 fun hw=>p.2 (f.sub a hw)) (fun uA uA uA uA e hc hd=>ky b f e hc hd) r q,uo st (k8 r) q⟩
theorem ItsR.step{vs:List Value}{its:List It}(r:ItsR F.B β s.heap vs its):ItsR F.B β' s'.heap vs its:=by
 induction r with
 | nil=>exact .nil
 | b h1 _ ih=>exact .b (xk st.pre h1) ih
 | x h1 h2 _ ih=>refine ff (z8 b f st h1 h2) ?_;intro r' q';exact .x r' q' ih
theorem VR.step{v:Value}{x:V}(r:VR G F.B β s.heap v x):VR G F.B β' s'.heap v x:=by
 cases x with
 | d x=>obtain⟨as,r,q⟩:=r;refine ff (z8 b f st r q) ?_;intro r' q';exact⟨as,r',q'⟩
 | box n=>obtain⟨a,h1,h2⟩:=r;exact⟨a,xk st.pre h1,h2⟩
 | tm its=>
   obtain⟨a,o,vs,k,rfl,h1,h2,h3,h4⟩:=r
   refine ff (ky b f h1 h2 h3) ?_;intro p1 p2
   exact⟨a,o,vs,k,rfl,st.keptE h1 p1 (fun hw=>p2 (f.sub a hw)) (fun es n q=>by rw[h3] at q;exfalso;injection q),h2,h3,ItsR.step b f st h4⟩
end
noncomputable abbrev WT(α:Type):=(α→Shared→Prop)→(Value→Shared→Prop)→Shared→Prop
noncomputable abbrev tr(G:Gl)(A:Around){α:Type}(t:Sem α):WT α:=fun Q E s=>wpAny (model G.prog G.w) A t Q E s
noncomputable def DoesW{α δ:Type}(G:Gl)(F:Fm)(s:Shared)(β:List Addr)(T:WT α)(r:R (Loc×za) δ)(Rel:List Addr→Heap→α→δ→Prop):Prop:=
 match r with
 | .ok d S=>∀ (Q:α→Shared→Prop) (E:Value→Shared→Prop),
    (∀ s' β' a,Step F.W β s s' β'→SR G F β' S.1 S.2 s'.heap→Rel β' s'.heap a d→Q a s')→T Q E s
 | .stuck=>True
noncomputable abbrev Does{α δ:Type}(G:Gl)(F:Fm)(A:Around)(s:Shared)(β:List Addr)(t:Sem α)(r:R (Loc×za) δ)(Rel:List Addr→Heap→α→δ→Prop):Prop:=
 DoesW G F s β (tr G A t) r Rel
theorem DoesW.seq{α γ δ ε:Type}{G:Gl}{F:Fm}{s:Shared}{β:List Addr}{T:WT γ}{T₁:WT α}{T₂:α→WT γ}{r:R (Loc×za) δ}{g:δ→Loc×za→R (Loc×za) ε}
 {Rel₁:List Addr→Heap→α→δ→Prop} {Rel:List Addr→Heap→γ→ε→Prop}
 (hw:∀ (Q:γ→Shared→Prop) (E:Value→Shared→Prop),T₁ (fun a s'=>T₂ a Q E s') E s→T Q E s)
 (h1:DoesW G F s β T₁ r Rel₁)
 (h2:∀ s' β' a d S,r=.ok d S→Step F.W β s s' β'→SR G F β' S.1 S.2 s'.heap→Rel₁ β' s'.heap a d→DoesW G F s' β' (T₂ a) (g d S) Rel) :
 DoesW G F s β T (r.bind g) Rel:=by
 cases r with
 | stuck=>trivial
 | ok d S=>
   show DoesW G F s β T (g d S) Rel
   cases hg:g d S with
   | stuck=>trivial
   | ok e S'=>
     intro Q E k
     refine hw Q E (h1 _ _ fun s' β' a st sr rel=>?_)
     have:=h2 s' β' a d S rfl st sr rel
     rw[hg] at this
     exact this Q E fun s'' β'' c st' sr' rel'=>k s'' β'' c (st.trans st') sr' rel'
theorem DoesW.seqE{α γ δ ε:Type}{G:Gl}{F:Fm}{s:Shared}{β:List Addr}{ρ:Loc}{T:WT γ}{T₁:WT α}{T₂:α→WT γ}{r:R za δ}{g:δ→za→R za ε}
 {Rel₁:List Addr→Heap→α→δ→Prop} {Rel:List Addr→Heap→γ→ε→Prop}
 (hw:∀ (Q:γ→Shared→Prop) (E:Value→Shared→Prop),T₁ (fun a s'=>T₂ a Q E s') E s→T Q E s)
 (h1:DoesW G F s β T₁ (r.lift ρ) Rel₁)
 (h2:∀ s' β' a d O,r=.ok d O→Step F.W β s s' β'→SR G F β' ρ O s'.heap→Rel₁ β' s'.heap a d→DoesW G F s' β' (T₂ a) ((g d O).lift ρ) Rel) :
 DoesW G F s β T ((r.bind g).lift ρ) Rel:=by
 rw[R.lift_bind]
 refine DoesW.seq hw h1 fun s' β' a d S e st sr rel=>?_
 cases r with
 | ok d' O=>cases (e);exact h2 s' β' a d O rfl st sr rel
 | stuck=>exfalso;injection e
theorem DoesW.by{α γ δ ε:Type}{G:Gl}{F:Fm}{s:Shared}{β:List Addr}{T:WT γ}{T₁:WT α}{r:R (Loc×za) δ}{r':R (Loc×za) ε}
 {Rel₁:List Addr→Heap→α→δ→Prop} {Rel:List Addr→Heap→γ→ε→Prop} (f:α→γ) (q:δ→ε)
 (hw:∀ (Q:γ→Shared→Prop) (E:Value→Shared→Prop),T₁ (fun a s'=>Q (f a) s') E s→T Q E s)
 (h1:DoesW G F s β T₁ r Rel₁) (hr:∀ β h a d,Rel₁ β h a d→Rel β h (f a) (q d))
 (hq:r'=r.bind fun d S=>.ok (q d) S:=by rfl):DoesW G F s β T r' Rel:=by
 subst hq
 cases r with
 | stuck=>trivial
 | ok d S=>exact fun Q E k=>hw Q E (h1 _ _ fun s' β' a st sr rel=>k s' β' _ st sr (hr _ _ _ _ rel))
theorem DoesW.weaken{α δ:Type}{G:Gl}{F:Fm}{s:Shared}{β:List Addr}{T T₁:WT α}{r:R (Loc×za) δ}
 {Rel₁ Rel:List Addr→Heap→α→δ→Prop} (h1:DoesW G F s β T₁ r Rel₁) (hw:∀ (Q:α→Shared→Prop) (E:Value→Shared→Prop),T₁ Q E s→T Q E s)
 (hr:∀ β h a d,Rel₁ β h a d→Rel β h a d):DoesW G F s β T r Rel:=by
 cases r with
 | stuck=>trivial
 | ok d S=>exact fun Q E k=>hw Q E (h1 _ _ fun s' β' a st sr rel=>k s' β' _ st sr (hr _ _ _ _ rel))
inductive Ty where
 | int | bool | tuple | list | str
 deriving DecidableEq
inductive Bop where
 | add | sub | mul | fdiv | mod | pow
 deriving DecidableEq
inductive Cop where
 | eq | ne | lt | le | gt | ge | is | isnot | in_ | notin
 deriving DecidableEq
inductive Prim where
 | isinst (t:Ty) | isexc (c:Nat)
 | len | all | any | sum | sorted | list | tuple | min2 | min | max | int | str | lenset | sortedset
 deriving DecidableEq
inductive Meth where
 | append | pop | clear | index
 deriving DecidableEq
inductive CT where
 | name (i:Nat)
 | two (a b:CT)
structure Pg where
 call:Bool→Nat→List V→za→R za V
 hd:Bool
 gval:Nat→Option PyData
 turns:Nat
 sub:Nat→Nat→Option Bool
 srt:List PyData→Option (List PyData)
 sets:Bool
 txt:PyData→Option Str
noncomputable def kq(O:za)(n:Nat):Option PyData:=match O[n]? with
 | some (.lst xs)=>some (.list xs)
 | _=>none
noncomputable def look(O:za):V→Option PyData
 | .d x=>some x
 | .box n=>kq O n
 | _=>none
noncomputable def allD:List V→Option (List PyData)
 | []=>some []
 | .d x::r=>(allD r).map (x::·)
 | _::_=>none
noncomputable def allI:List V→Option (List It)
 | []=>some []
 | .d x::r=>(allI r).map (.x x::·)
 | .box n::r=>(allI r).map (.b n::·)
 | _::_=>none
noncomputable def tupV(vs:List V):Option V:=match allD vs with
 | some xs=>some (.d (.tuple xs))
 | none=>(allI vs).map .tm
noncomputable def repL{α:Type}(xs:List α)(n:Int):List α:=(List.replicate n.toNat xs).flatten
noncomputable def line:Nat:=1000000
noncomputable def addD:PyData→PyData→Option PyData
 | .int a,y=>(match y with
    | .int b=>some (.int (a+b))
    | _=>none)
 | .list a,y=>(match y with
    | .list b=>if a.length+b.length≤line then some (.list (a++b)) else none
    | _=>none)
 | .tuple a,y=>(match y with
    | .tuple b=>if a.length+b.length≤line then some (.tuple (a++b)) else none
    | _=>none)
 | .str a,y=>(match y with
    | .str b=>if a.length+b.length≤line then some (.str (a++b)) else none
    | _=>none)
 | _,_=>none
noncomputable def mulD:PyData→Int→Option PyData
 | .int a,b=>if a.natAbs < 2 ^ 64∨b.natAbs < 2 ^ 64 then some (.int (a * b)) else none
 | .list a,n=>if a.length * n.toNat≤256∧0≤n∧n≤256 then some (.list (repL a n)) else none
 | .tuple a,n=>if a≠[]∧a.length * n.toNat≤256∧2≤n∧n≤256 then some (.tuple (repL a n)) else none
 | .str a,n=>if a.length≤256∧0≤n∧n≤256 then some (.str (Txt.mul a n)) else none
 | _,_=>none
noncomputable def arith(op:Bop)(a b:Int):Option PyData:=match op with
 | .sub=>some (.int (a - b))
 | .fdiv=>if b≠0∧b.natAbs < 1073741824 then some (.int (Int.fdiv a b)) else none
 | .mod=>if b=0 then none else some (.int (Int.fmod a b))
 | .pow=>if a=10∧b=20 then some (.int 100000000000000000000) else none
 | _=>none
noncomputable def intD(f:Int→Option PyData):PyData→Option PyData
 | .int i=>f i
 | _=>none
noncomputable def zb6(op:Bop)(x y:PyData):Option PyData:=match op with
 | .add=>addD x y
 | .mul=>intD (mulD x) y
 | op=>intD (fun a=>intD (arith op a) y) x
noncomputable def eqOk(a b:PyData):Bool:=a.canLay0 && b.canLay0 && decide (min a.depth b.depth≤100)
noncomputable def inD(a:PyData)(xs:List PyData):Option Bool:=if a.canLay0 && PyData.canLayAll0 xs && decide (a.depth≤100) then some (xs.any fun y=>PyData.eqv y a) else none
noncomputable def seqD:PyData→Option (List PyData)
 | .list xs=>some xs
 | .tuple xs=>some xs
 | _=>none
noncomputable def ordD(f:Int→Int→Bool):PyData→PyData→Option Bool
 | .int a,y=>(match y with
    | .int b=>some (f a b)
    | _=>none)
 | _,_=>none
noncomputable def kr(op:Cop)(a b:PyData):Option Bool:=match op with
 | .eq=>if eqOk a b then some (PyData.eqv a b) else none
 | .ne=>if eqOk a b then some (!PyData.eqv a b) else none
 | .lt=>ordD (fun a b=>decide (a < b)) a b
 | .le=>ordD (fun a b=>decide (a≤b)) a b
 | .gt=>ordD (fun a b=>decide (a > b)) a b
 | .ge=>ordD (fun a b=>decide (a ≥ b)) a b
 | .in_=>(seqD b).bind (inD a)
 | .notin=>((seqD b).bind (inD a)).map (!·)
 | _=>none
noncomputable def isNone:PyData→Bool
 | .none=>true
 | _=>false
noncomputable def isBool(b:Bool):PyData→Bool
 | .bool a=>a == b
 | _=>false
noncomputable def isop(x:PyData):PyData→Option Bool
 | .none=>some (isNone x)
 | .bool b=>some (isBool b x)
 | _=>none
noncomputable def truth:V→Option Bool
 | .d (.bool b)=>some b
 | _=>none
noncomputable def items:PyData→Option (List PyData)
 | .list xs=>some xs
 | .tuple xs=>some xs
 | _=>none
noncomputable def idxD(x:PyData)(i:PyData):Option PyData:=match items x,i with
 | some xs,.int k=>if xs.length≤line then (if 0≤k then xs[k.toNat]? else if 0≤k+xs.length then xs[(k+xs.length).toNat]? else none) else none
 | _,_=>none
noncomputable def clip(n:Nat)(dflt:Nat):PyData→Option Nat
 | .none=>some dflt
 | .int k=>some (clipAt n k)
 | _=>none
noncomputable def j9{α:Type}(xs:List α)(lo hi:Nat):List α:=(xs.drop lo).take (hi - lo)
noncomputable def xo(xs:List PyData)(lo hi:PyData):Option PyData:=if xs.length≤line then (clip xs.length 0 lo).bind fun l=>(clip xs.length xs.length hi).map fun h=>.list (j9 xs l h) else none
noncomputable def zj3(xs:List PyData):Option PyData:=if xs.length≤line then some (.list xs.reverse) else none
noncomputable def ofList(f:List PyData→Option PyData):PyData→Option PyData
 | .list xs=>f xs
 | _=>none
noncomputable def zfi(x lo hi:PyData):Option PyData:=ofList (fun xs=>xo xs lo hi) x
noncomputable def revD(x:PyData):Option PyData:=ofList zj3 x
noncomputable def isTy:Ty→PyData→Bool
 | .int,.int _=>true
 | .int,.bool _=>true
 | .bool,.bool _=>true
 | .tuple,.tuple _=>true
 | .list,.list _=>true
 | .str,.str _=>true
 | _,_=>false
noncomputable def intsOf:List PyData→Option (List Int)
 | []=>some []
 | .int i::r=>(intsOf r).map (i::·)
 | _::_=>none
noncomputable def vf:List PyData→Option (List Bool)
 | []=>some []
 | .bool i::r=>(vf r).map (i::·)
 | _::_=>none
noncomputable def isInt:PyData→Bool
 | .int _=>true
 | _=>false
noncomputable def ki(a:Int):List Int→List Int
 | []=>[a]
 | b::r=>if a≤b then a::b::r else b::ki a r
noncomputable def sortI:List Int→List Int
 | []=>[]
 | a::r=>ki a (sortI r)
noncomputable def addI(a:Int):List Int→List Int
 | []=>[a]
 | b::r=>if a < b then a::b::r else if a=b then b::r else b::addI a r
noncomputable def ww(is:List Int):List Int:=is.foldl (fun acc i=>addI i acc) []
noncomputable def small(is:List Int):Bool:=decide (is.length≤4) && is.all fun i=>decide (0≤i) && decide (i < 5)
noncomputable def tupI:PyData→Option (List Int)
 | .tuple xs=>intsOf xs
 | _=>none
noncomputable def ja:List PyData→Option (List (List Int))
 | []=>some []
 | x::r=>(tupI x).bind fun a=>(ja r).map (a::·)
noncomputable def Prim.calm:Prim→Bool
 | .isinst _ | .isexc _ | .len | .int=>true
 | _=>false
noncomputable def lenD:PyData→Option PyData
 | .list xs=>if xs.length≤line then some (.int xs.length) else none
 | .tuple xs=>if xs.length≤line then some (.int xs.length) else none
 | _=>none
noncomputable def zd0(f:List PyData→Option PyData):PyData→Option PyData
 | .list xs=>f xs
 | _=>none
noncomputable def zm3:PyData→Option PyData
 | .list xs=>if xs.length≤line then some (.list xs) else none
 | .tuple xs=>if xs.length≤line then some (.list xs) else none
 | _=>none
noncomputable def zp7:PyData→Option PyData
 | .list xs=>if xs.length≤line then some (.tuple xs) else none
 | .tuple xs=>some (.tuple xs)
 | _=>none
noncomputable def zp8:PyData→Option PyData
 | .bool b=>some (.int (if b then 1 else 0))
 | _=>none
noncomputable def setT(f:List Int→PyData)(xs:List PyData):Option PyData:=(intsOf xs).bind fun is=>if small is then some (f is) else none
noncomputable def znw:PyData→Option PyData
 | .tuple xs=>setT (fun is=>.int (ww is).length) xs
 | _=>none
noncomputable def zff:PyData→Option PyData
 | .tuple xs=>setT (fun is=>.list ((ww is).map .int)) xs
 | _=>none
noncomputable def zbi(P:Pg):Prim→PyData→Option PyData
 | .isinst t,x=>some (.bool (isTy t x))
 | .isexc _,_=>none
 | .len,x=>lenD x
 | .all,x=>zd0 (fun xs=>(vf xs).map fun bs=>.bool (bs.all id)) x
 | .any,x=>zd0 (fun xs=>(vf xs).map fun bs=>.bool (bs.any id)) x
 | .sum,x=>zd0 (fun xs=>(intsOf xs).map fun is=>.int is.sum) x
 | .sorted,x=>zd0 (fun xs=>if xs.length < 64 then (P.srt xs).map .list else none) x
 | .list,x=>zm3 x
 | .tuple,x=>zp7 x
 | .min2,_=>none
 | .min,_=>none
 | .max,_=>none
 | .int,x=>zp8 x
 | .str,_=>none
 | .lenset,x=>(match P.sets with
    | true=>znw x
    | false=>none)
 | .sortedset,x=>(match P.sets with
    | true=>zff x
    | false=>none)
noncomputable def ztl:PyData→PyData→Option PyData
 | .int a,.int b=>some (.int (min a b))
 | _,_=>none
noncomputable def uh(P:Pg)(p:Prim)(xs:List PyData):Option PyData:=match xs with
 | [x]=>zbi P p x
 | [x,y]=>(match p with
     | .min2=>ztl x y
     | _=>none)
 | _=>none
noncomputable def opt{α:Type}(o:Option α)(O:za):R za α:=match o with
 | some a=>.ok a O
 | none=>.stuck
noncomputable def prim(P:Pg)(p:Prim)(vs:List V)(O:za):R za V:=
 match (vs.mapM (look O)).bind (uh P p) with
 | some y=>.ok (.d y) O
 | none=>.stuck
noncomputable def z5(kvs:List (MKey×PyData))(k:MKey):Option PyData:=(kvs.find? fun kv=>decide (kv.1=k)).map (·.2)
noncomputable def keyOf:PyData→Option MKey
 | .tuple [.tuple xs,.int n]=>(ja xs).map fun kss=>(kss,n)
 | _=>none
noncomputable def boxL(o:V)(O:za)(f:Nat→List PyData→R za V):R za V:=match o with
 | .box n=>(match O[n]? with
    | some (.lst xs)=>f n xs
    | _=>.stuck)
 | _=>.stuck
noncomputable def oneD(f:PyData→R za V)(vs:List V):R za V:=match vs with
 | [.d x]=>f x
 | _=>.stuck
noncomputable def meth(m:Meth)(o:V)(vs:List V)(O:za):R za V:=match m with
 | .append=>boxL o O fun n xs=>oneD (fun x=>if xs.length < line then .ok (.d .none) (O.set n (.lst (xs++[x]))) else .stuck) vs
 | _=>.stuck
noncomputable def qb(O:za)(n:Nat):Bool:=match O[n]? with
 | some (.lst _)=>true
 | _=>false
noncomputable def recv(m:Meth)(v:V)(O:za):Bool:=match m,v with
 | .append,.box n=>qb O n
 | _,_=>false
inductive Src where
 | plain (xs:List PyData)
 | box (n:Nat) (xs:List PyData)
noncomputable def Src.xs:Src→List PyData
 | .plain xs=>xs
 | .box _ xs=>xs
noncomputable def Src.still(s:Src)(O:za):Bool:=match s with
 | .plain _=>true
 | .box n xs=>@decide (O[n]?=some (.lst xs)) (Classical.propDecidable _)
noncomputable def It.v:It→V
 | .b n=>.box n
 | .x d=>.d d
noncomputable def zq:CT→V→Loc→Option Loc
 | .name i,v,ρ=>if i < ρ.length then some (ρ.set i (some v)) else none
 | .two a b,.d x,ρ=>(match items x with
    | some [y,z]=>(zq a (.d y) ρ).bind (zq b (.d z))
    | _=>none)
 | _,_,_=>none
noncomputable def zi(a b:Int):List PyData:=(List.range (b - a).toNat).map fun (i:Nat)=>.int (a+i)
noncomputable def yg(src:Src)(turn:PyData→za→R za (Option PyData)):List PyData→List PyData→za→R za V
 | [],acc,O=>.ok (.d (.list acc)) O
 | x::xs,acc,O=>(match turn x O with
    | .ok y O'=>if src.still O' then yg src turn xs (acc++y.toList) O' else .stuck
    | _=>.stuck)
noncomputable def isV(f:Bool→Bool)(x y:V)(O:za):R za V:=match x with
 | .d a=>(match y with
    | .d b=>opt ((isop a b).map fun c=>.d (.bool (f c))) O
    | _=>.stuck)
 | _=>.stuck
noncomputable def cmpG(op:Cop)(x y:V)(O:za):R za V:=opt (((look O x).bind fun x=>(look O y).bind fun y=>kr op x y).map fun b=>.d (.bool b)) O
noncomputable def cmpV(op:Cop)(x y:V)(O:za):R za V:=match op with
 | .is=>isV id x y O
 | .isnot=>isV not x y O
 | op=>cmpG op x y O
noncomputable def idxV(v u:V)(O:za):R za V:=match u with
 | .d k=>opt (((look O v).bind fun x=>idxD x k).map .d) O
 | _=>.stuck
noncomputable def CE:Type:=Pg→Loc→za→R za V
noncomputable def evE(P:Pg)(ρ:Loc)(c:CE)(O:za):R za V:=c P ρ O
noncomputable def CI:Type:=Pg→Loc→za→R za Src
noncomputable def evI(P:Pg)(ρ:Loc)(c:CI)(O:za):R za Src:=c P ρ O
inductive CEs where
 | nil
 | cons (e:CE) (es:CEs)
noncomputable def evEs(P:Pg)(ρ:Loc):CEs→za→R za (List V)
 | .nil,O=>.ok [] O
 | .cons e es,O=>(evE P ρ e O).bind fun v O=>(evEs P ρ es O).bind fun vs O=>.ok (v::vs) O
noncomputable def jf(P:Pg)(ρ:Loc):CEs→za→R za Bool
 | .nil,O=>.ok true O
 | .cons e es,O=>(evE P ρ e O).bind fun v O=>(opt (truth v) O).bind fun t O=>(match t with
    | true=>jf P ρ es O
    | false=>.ok false O)
noncomputable def boxK(v:V)(O:za):R za V:=match v with
 | .d (.list xs)=>.ok (.box O.length) (O++[.lst xs])
 | _=>.stuck
noncomputable def xu(tgt:CT)(evT:Loc→za→R za Bool)(evX:Loc→za→R za V)(ρ:Loc)(x:PyData)(O:za):R za (Option PyData):=match zq tgt (.d x) ρ with
 | none=>.stuck
 | some ρ'=>(evT ρ' O).bind fun t O=>(match t with
    | false=>.ok none O
    | true=>(evX ρ' O).bind fun v O=>(match v with
       | .d y=>.ok (some y) O
       | _=>.stuck))
noncomputable def negV(v:V)(O:za):R za V:=match v with
 | .d (.int i)=>.ok (.d (.int (-i))) O
 | _=>.stuck
noncomputable def CE.none:CE:=fun uA uA O=>.ok (.d .none) O
noncomputable def CE.bool(b:Bool):CE:=fun uA uA O=>.ok (.d (.bool b)) O
noncomputable def CE.int(i:Int):CE:=fun uA uA O=>.ok (.d (.int i)) O
noncomputable def CE.str(x:Str):CE:=fun uA uA O=>.ok (.d (.str x)) O
noncomputable def CE.loc(i:Nat):CE:=fun uA ρ O=>opt (ρ[i]?.join) O
noncomputable def CE.glob(k:Nat):CE:=fun P uA O=>opt ((P.gval k).map .d) O
noncomputable def CE.tup(es:CEs):CE:=fun P ρ O=>(evEs P ρ es O).bind fun vs O=>opt (tupV vs) O
noncomputable def CE.list(es:CEs):CE:=fun P ρ O=>(evEs P ρ es O).bind fun vs O=>opt ((allD vs).map fun xs=>.d (.list xs)) O
noncomputable def CE.dict:CE:=fun uA uA O=>.ok (.d (.dict [])) O
noncomputable def CE.boxed(e:CE):CE:=fun P ρ O=>(evE P ρ e O).bind boxK
noncomputable def CE.neg(e:CE):CE:=fun P ρ O=>(evE P ρ e O).bind negV
noncomputable def CE.nt(e:CE):CE:=fun P ρ O=>(evE P ρ e O).bind fun v O=>opt ((truth v).map fun b=>.d (.bool !b)) O
noncomputable def andK(r:za→R za V):Bool→za→R za V
 | true,O=>r O
 | false,O=>.ok (.d (.bool false)) O
noncomputable def orK(r:za→R za V):Bool→za→R za V
 | true,O=>.ok (.d (.bool true)) O
 | false,O=>r O
noncomputable def iteK(r q:za→R za V):Bool→za→R za V
 | true,O=>r O
 | false,O=>q O
noncomputable def binK(op:Bop)(v u:V)(O:za):R za V:=opt (((look O v).bind fun x=>(look O u).bind fun y=>zb6 op x y).map V.d) O
noncomputable def CE.and_(a b:CE):CE:=fun P ρ O=>(evE P ρ a O).bind fun v O=>(opt (truth v) O).bind (andK fun O=>evE P ρ b O)
noncomputable def CE.or_(a b:CE):CE:=fun P ρ O=>(evE P ρ a O).bind fun v O=>(opt (truth v) O).bind (orK fun O=>evE P ρ b O)
noncomputable def CE.bin(op:Bop)(a b:CE):CE:=fun P ρ O=>(evE P ρ a O).bind fun v O=>(evE P ρ b O).bind fun u O=>binK op v u O
noncomputable def CE.cmp(op:Cop)(a b:CE):CE:=fun P ρ O=>(evE P ρ a O).bind fun v O=>(evE P ρ b O).bind fun u O=>cmpV op v u O
noncomputable def CE.chain(p q:Cop)(a b c:CE):CE:=fun P ρ O=>(evE P ρ a O).bind fun v O=>(evE P ρ b O).bind fun u O=>(cmpV p v u O).bind fun t O=>(opt (truth t) O).bind (andK fun O=>(evE P ρ c O).bind fun y O=>cmpV q u y O)
noncomputable def CE.ite(t a b:CE):CE:=fun P ρ O=>(evE P ρ t O).bind fun v O=>(opt (truth v) O).bind (iteK (fun O=>evE P ρ a O) fun O=>evE P ρ b O)
noncomputable def CE.idx(a i:CE):CE:=fun P ρ O=>(evE P ρ a O).bind fun v O=>(evE P ρ i O).bind fun u O=>idxV v u O
noncomputable def zfh(v l h:V)(O:za):R za V:=match l with
 | .d l=>(match h with
    | .d h=>opt (((look O v).bind fun x=>zfi x l h).map .d) O
    | _=>.stuck)
 | _=>.stuck
noncomputable def CE.slice(a lo hi:CE):CE:=fun P ρ O=>(evE P ρ a O).bind fun v O=>(evE P ρ lo O).bind fun l O=>(evE P ρ hi O).bind fun h O=>zfh v l h O
noncomputable def CE.rev(a:CE):CE:=fun P ρ O=>(evE P ρ a O).bind fun v O=>opt (((look O v).bind revD).map .d) O
noncomputable def CE.comp(elt:CE)(tgt:CT)(it:CI)(ifs:CEs):CE:=fun P ρ O=>if P.hd=true then .stuck else (evI P ρ it O).bind fun src O=>if src.xs.length≤line then yg src (xu tgt (fun ρ O=>jf P ρ ifs O) (fun ρ O=>evE P ρ elt O) ρ) src.xs [] O else .stuck
noncomputable def CE.listI(it:CI):CE:=fun P ρ O=>if P.hd=true then .stuck else (evI P ρ it O).bind fun src O=>if src.xs.length≤line then .ok (.d (.list src.xs)) O else .stuck
noncomputable def CE.call(f:Nat)(args:CEs):CE:=fun P ρ O=>(evEs P ρ args O).bind fun vs O=>P.call P.hd f vs O
noncomputable def CE.prim(p:Prim)(args:CEs):CE:=fun P ρ O=>if (P.hd && !p.calm)=true then .stuck else (evEs P ρ args O).bind fun vs O=>Mine.prim P p vs O
noncomputable def CE.meth(m:Meth)(o:CE)(args:CEs):CE:=fun P ρ O=>(evE P ρ o O).bind fun v O=>if recv m v O then (evEs P ρ args O).bind fun vs O=>Mine.meth m v vs O else .stuck
noncomputable def srcV(v:V)(O:za):R za Src:=match v with
 | .d x=>opt ((items x).map .plain) O
 | .box n=>(match O[n]? with
    | some (.lst xs)=>.ok (.box n xs) O
    | _=>.stuck)
 | _=>.stuck
noncomputable def zt6:PyData→Option Int
 | .int i=>some i
 | _=>none
noncomputable def intV:V→Option Int
 | .d x=>zt6 x
 | _=>none
noncomputable def xc(v u:V)(O:za):R za (Int×Int):=match intV v with
 | some i=>(match intV u with
    | some j=>if -(10 ^ 9)≤i∧i≤10 ^ 9∧-(10 ^ 9)≤j∧j≤10 ^ 9 then .ok (i,j) O else .stuck
    | none=>.stuck)
 | none=>.stuck
noncomputable def rng(a b:CE)(P:Pg)(ρ:Loc)(O:za):R za (Int×Int):=(evE P ρ a O).bind fun v O=>(evE P ρ b O).bind fun u O=>xc v u O
noncomputable def CI.e(a:CE):CI:=fun P ρ O=>(evE P ρ a O).bind srcV
noncomputable def CI.range(a b:CE):CI:=fun P ρ O=>(rng a b P ρ O).bind fun p O=>.ok (.plain (zi p.1 p.2)) O
noncomputable def z7(src:Src)(turn:PyData→Loc→za→R (Loc×za) Fl):List PyData→Loc→za→R (Loc×za) Fl
 | [],ρ,O=>.ok .next (ρ,O)
 | x::xs,ρ,O=>(match turn x ρ O with
    | .ok (.ret v) S=>.ok (.ret v) S
    | .ok .next S=>if src.still S.2 then z7 src turn xs S.1 S.2 else .stuck
    | _=>.stuck)
noncomputable def yv(test:Loc→za→R (Loc×za) Bool)(turn:Loc→za→R (Loc×za) Fl):Nat→Loc→za→R (Loc×za) Fl
 | 0,_,_=>.stuck
 | n+1,ρ,O=>(match test ρ O with
    | .ok false S=>.ok .next S
    | .ok true S=>(match turn S.1 S.2 with
       | .ok (.ret v) S=>.ok (.ret v) S
       | .ok .next S=>yv test turn n S.1 S.2
       | _=>.stuck)
    | _=>.stuck)
noncomputable def CT.isName:CT→Bool
 | .name _=>true
 | _=>false
noncomputable def CS:Type:=Pg→Loc→za→R (Loc×za) Fl
noncomputable def CSs:Type:=Pg→Loc→za→R (Loc×za) Fl
noncomputable def evS(P:Pg)(c:CS)(ρ:Loc)(O:za):R (Loc×za) Fl:=c P ρ O
noncomputable def evSs(P:Pg)(c:CSs)(ρ:Loc)(O:za):R (Loc×za) Fl:=c P ρ O
structure Fn where
 arity:Nat
 slots:Nat
 keep:Bool
 body:CSs
noncomputable def asgR(t:CT)(v:V)(S:Loc×za):R (Loc×za) Fl:=match zq t v S.1 with
 | some ρ'=>.ok .next (ρ',S.2)
 | none=>.stuck
noncomputable def jy(t:CT)(evb:Loc→za→R (Loc×za) Fl)(x:PyData)(ρ:Loc)(O:za):R (Loc×za) Fl:=match zq t (.d x) ρ with
 | none=>.stuck
 | some ρ'=>evb ρ' O
noncomputable def seqK(p:Loc×za→R (Loc×za) Fl):Fl→Loc×za→R (Loc×za) Fl
 | .ret v,S=>.ok (.ret v) S
 | .next,S=>p S
noncomputable def ifeK(p q:Loc×za→R (Loc×za) Fl):Bool→Loc×za→R (Loc×za) Fl
 | true,S=>p S
 | false,S=>q S
noncomputable def CS.ret(e:CE):CS:=fun P ρ O=>((evE P ρ e O).lift ρ).bind fun v S=>.ok (.ret v) S
noncomputable def CS.asg(t:CT)(e:CE):CS:=fun P ρ O=>if (P.hd && !t.isName)=true then .stuck else ((evE P ρ e O).lift ρ).bind (asgR t)
noncomputable def CS.ife(t:CE)(a b:CSs):CS:=fun P ρ O=>(((evE P ρ t O).bind fun v O=>opt (truth v) O).lift ρ).bind (ifeK (fun S=>evSs P a S.1 S.2) fun S=>evSs P b S.1 S.2)
noncomputable def CS.for_(t:CT)(it:CI)(body:CSs):CS:=fun P ρ O=>if P.hd=true then .stuck else ((evI P ρ it O).lift ρ).bind fun src S=>z7 src (jy t fun ρ O=>evSs P body ρ O) src.xs S.1 S.2
noncomputable def CS.while_(t:CE)(body:CSs):CS:=fun P ρ O=>yv (fun ρ O=>((evE P ρ t O).bind fun v O=>opt (truth v) O).lift ρ) (fun ρ O=>evSs P body ρ O) P.turns ρ O
noncomputable def CS.expr(e:CE):CS:=fun P ρ O=>((evE P ρ e O).lift ρ).bind fun uA S=>.ok .next S
noncomputable def CSs.nil:CSs:=fun uA ρ O=>.ok .next (ρ,O)
noncomputable def CSs.cons(s:CS)(ss:CSs):CSs:=fun P ρ O=>(evS P s ρ O).bind (seqK fun S=>evSs P ss S.1 S.2)
noncomputable def zaa(base:Nat)(keep:Bool)(n:Nat)(O:za):R za V:=if n < base then .ok (.box n) (O.take base) else (match O[n]? with
 | some (.lst xs)=>(match keep with
    | true=>.ok (.box base) (O.take base++[.lst xs])
    | false=>.ok (.d (.list xs)) (O.take base))
 | _=>.stuck)
noncomputable def frz(O:za)(base:Nat):List It→Option (List PyData)
 | []=>some []
 | .x d::r=>(frz O base r).map (d::·)
 | .b n::r=>if base≤n then (kq O n).bind fun x=>(frz O base r).map (x::·) else none
noncomputable def fin(base:Nat)(keep:Bool)(v:V)(O:za):R za V:=match v with
 | .d x=>.ok (.d x) (O.take base)
 | .box n=>zaa base keep n O
 | .tm its=>(match frz O base its with
    | some ds=>.ok (.d (.tuple ds)) (O.take base)
    | none=>.stuck)
noncomputable def evFn(P:Pg)(fn:Fn)(args:List V)(O:za):R za V:=
 match evSs P fn.body (args.map some++List.replicate (fn.slots - fn.arity) none) O with
 | .ok (.ret v) S=>fin O.length fn.keep v S.2
 | .ok .next S=>.ok (.d .none) (S.2.take O.length)
 | .stuck=>.stuck
noncomputable def zg(P:Pg)(T:Nat→Option Fn):Nat→Bool→Nat→List V→za→R za V
 | 0,_,_,_,_=>.stuck
 | k+1,hd,f,args,O=>match T f with
   | some fn=>if args.length=fn.arity∧fn.arity≤fn.slots then evFn { P with call:=zg P T k,hd:=hd } fn args O else .stuck
   | none=>.stuck
structure KeepsAll(s s':Shared):Prop where
 gens:s'.gens=s.gens
 os:s'.os=s.os
 kept:∀ b o,s.heap.get? b=some o→s'.heap.get? b=some o
theorem KeepsAll.refl(s:Shared):KeepsAll s s:=⟨rfl,rfl,fun uA uA h=>h⟩
theorem KeepsAll.toks(s:Shared)(n:Nat):KeepsAll s { s with toks:=n }:=⟨rfl,rfl,fun uA uA h=>h⟩
theorem KeepsAll.trans{s s' s'':Shared}(x:KeepsAll s s')(y:KeepsAll s' s''):KeepsAll s s'':=⟨y.gens.trans x.gens,y.os.trans x.os,fun b o e=>y.kept b o (x.kept b o e)⟩
theorem KeepsAll.push(s:Shared)(o:Obj)(n:Nat):KeepsAll s { s with heap:=s.heap.push o,toks:=n }:=⟨rfl,rfl,fun uA uA e=>ah o e⟩
theorem KeepsAll.step{s s':Shared}(x:KeepsAll s s')(W β:List Addr):Step W β s s' β:=
 ⟨x.gens,x.os,bz _,fun uA h=>.inl h,fun b o e=>⟨o,x.kept b o e⟩,fun b o e uA uA=>⟨o,x.kept b o e,Kin.refl o⟩⟩
section
variable{G:Gl}{F:Fm}{N β:List Addr}{ρ:Loc}{O:za}{h h':Heap}
theorem z6(hk:∀ b o,h.get? b=some o→h'.get? b=some o){v:Value}{x:PyData}{as:List Addr}(r:Reads h v x as):Reads h' v x as:=
 jc (P:=fun uA=>True) (fun b o e uA=>hk b o e) (fun uA uA uA uA uA uA uA=>trivial) r fun uA uA=>trivial
theorem zy(hk:∀ b o,h.get? b=some o→h'.get? b=some o){v:List Value}{x:List PyData}{as:List Addr}(r:ReadsAll h v x as):ReadsAll h' v x as:=
 xp (P:=fun uA=>True) (fun b o e uA=>hk b o e) (fun uA uA uA uA uA uA uA=>trivial) r fun uA uA=>trivial
theorem wo(hk:∀ b o,h.get? b=some o→h'.get? b=some o){vs:List Value}{its:List It}(r:ItsR N β h vs its):ItsR N β h' vs its:=by
 induction r with
 | nil=>exact .nil
 | b h1 _ ih=>exact .b h1 ih
 | x h1 h2 _ ih=>exact .x (z6 hk h1) h2 ih
theorem VR.keepAll(hk:∀ b o,h.get? b=some o→h'.get? b=some o){v:Value}{x:V}(r:VR G N β h v x):VR G N β h' v x:=by
 cases x with
 | d x=>obtain⟨as,r,q⟩:=r;exact⟨as,z6 hk r,q⟩
 | box n=>exact r
 | tm its=>obtain⟨a,o,vs,k,e,h1,h2,h3,h4⟩:=r;exact⟨a,o,vs,k,e,hk _ _ h1,h2,h3,wo hk h4⟩
theorem BoxAt.keepAll(hk:∀ b o,h.get? b=some o→h'.get? b=some o){a:Addr}{bx:Box}(r:BoxAt h N β a bx):BoxAt h' N β a bx:=by
 cases bx with
 | lst xs=>obtain⟨o,vs,n,h1,h2,h3,as,h4,h5⟩:=r;exact⟨o,vs,n,hk _ _ h1,h2,h3,as,zy hk h4,h5⟩
 | dct kvs=>
   obtain⟨o,es,n,h1,h2,h3,h4,h5⟩:=r
   refine⟨o,es,n,hk _ _ h1,h2,h3,h4,fun i e kv he hkv=>?_⟩
   obtain⟨hq,as,bs,r1,r2,q⟩:=h5 i e kv he hkv
   exact⟨hq,as,bs,z6 hk r1,z6 hk r2,q⟩
theorem BR.keepAll(hk:∀ b o,h.get? b=some o→h'.get? b=some o)(b:BR G N β O h):BR G N β O h':=
 ⟨fun c o e=>hk _ _ (b.keep c o e),b.len,b.nodup,b.new,fun i a bx h1 h2=>(b.at_ i a bx h1 h2).keepAll hk,fun a ha=>(b.plain a ha).at fun o e=>hk a o e⟩
theorem Get.keepAll(hk:∀ b o,h.get? b=some o→h'.get? b=some o){env:Env}{x:Str}{v:Value}(g:Get h env x v):Get h' env x v:=by
 refine eW g ?_ ?_<;>clear g
 ·rintro ⟨h1,m,h2,h3⟩;exact .inl ⟨h1,m,h2.keeps hk,h3⟩
 ·rintro ⟨h1,c,h2,h3⟩;exact .inr ⟨h1,c,h2,h3.keeps hk⟩
theorem FmOk.keepAll(hk:∀ b o,h.get? b=some o→h'.get? b=some o)(f:FmOk G F β h):FmOk G F β h' where
 kind:=f.kind
 globals:=f.globals
 builtins:=f.builtins
 once:=f.once
 ns:=let ⟨m,e⟩:=f.ns;⟨m,e.keeps hk⟩
 nsW:=f.nsW
 cell:=fun x h1=>let ⟨c,v,h3,h4,h5⟩:=f.cell x h1;⟨c,v,h3,h4.keeps hk,h5⟩
 apart:=f.apart
 sub:=f.sub
 new:=f.new
 notBox:=f.notBox
 stor:=fun a ha=>let ⟨o,h1,h2⟩:=f.stor a ha;⟨o,hk _ _ h1,h2⟩
 frB:=f.frB
 frs:=fun a ha=>let ⟨m,e⟩:=f.frs a ha;⟨m,e.keeps hk⟩
 pin:=fun m e=>⟨(f.pin m e).1.keeps hk,(f.pin m e).2⟩
theorem SR.keepAll(hk:∀ b o,h.get? b=some o→h'.get? b=some o)(r:SR G F β ρ O h):SR G F β ρ O h':=
 ⟨r.br.keepAll hk,r.fm.keepAll hk,fun i x v h1 h2=>let ⟨val,h3,h4⟩:=r.get i x v h1 h2;⟨val,h3.keepAll hk,h4.keepAll hk⟩⟩
end
section
variable{G:Gl}{F:Fm}{s:Shared}{β:List Addr}{ρ:Loc}{O:za}
theorem Does.leaf{α δ:Type}{T:WT α}{d:δ}{Rel:List Addr→Heap→α→δ→Prop}(sr:SR G F β ρ O s.heap)
 (hw:∀ (Q:α→Shared→Prop) (E:Value→Shared→Prop),(∀ v s',KeepsAll s s'→Rel β s'.heap v d→Q v s')→T Q E s) :
 DoesW G F s β T (.ok d (ρ,O)) Rel:=
 fun Q E k=>hw Q E fun v s' ka r=>k s' β v (ka.step _ _) (sr.keepAll ka.kept) r
theorem VR.none{N:List Addr}{h:Heap}:VR G N β h .none (.d .none):=⟨[],.none,fun uA h=>nomatch h⟩
theorem VR.bool{N:List Addr}{h:Heap}{b:Bool}:VR G N β h (.bool b) (.d (.bool b)):=⟨[],.bool b,fun uA h=>nomatch h⟩
theorem VR.int{N:List Addr}{h:Heap}{i:Int}{t:Tok}:VR G N β h (.int i t) (.d (.int i)):=⟨[],.int i t,fun uA h=>nomatch h⟩
theorem VR.str{N:List Addr}{h:Heap}{x:Str}{t:Tok}:VR G N β h (.str x t) (.d (.str x)):=⟨[],.str x t,fun uA h=>nomatch h⟩
end
structure Cx where
 names:List (Option Str)
 sc:Scope
 fname:Nat→Option Str
 gname:Nat→Option Str
 cname:Nat→Option Str
noncomputable def Cx.kind(cx:Cx)(x:Str):Option NameKind:=cx.sc.names.lookup x
noncomputable def wk(x:Str):Bool:=!(x == ("__debug__" : Str))
noncomputable def Cx.isLoc(cx:Cx)(i:Nat)(x:Str):Bool:=(cx.names[i]? == some (some x)) && (cx.kind x == some .local || cx.kind x == some .cell) && wk x
noncomputable def Cx.isGlob(cx:Cx)(x:Str):Bool:=cx.kind x == some .globalImplicit && wk x
noncomputable def zeu:Bop→Operator→Bool
 | .add,.Add=>true
 | .sub,.Sub=>true
 | .mul,.Mult=>true
 | .fdiv,.FloorDiv=>true
 | .mod,.Mod=>true
 | .pow,.Pow=>true
 | _,_=>false
noncomputable def x4:Cop→CmpOp→Bool
 | .eq,.Eq=>true
 | .ne,.NotEq=>true
 | .lt,.Lt=>true
 | .le,.LtE=>true
 | .gt,.Gt=>true
 | .ge,.GtE=>true
 | .is,.Is=>true
 | .isnot,.IsNot=>true
 | .in_,.In=>true
 | .notin,.NotIn=>true
 | _,_=>false
noncomputable def vi:Ty→Str
 | .int=>"int"
 | .bool=>"bool"
 | .tuple=>"tuple"
 | .list=>"list"
 | .str=>"str"
noncomputable def wh:Prim→Str
 | .isinst _=>"isinstance"
 | .isexc _=>"isinstance"
 | .len=>"len"
 | .all=>"all"
 | .any=>"any"
 | .sum=>"sum"
 | .sorted=>"sorted"
 | .list=>"list"
 | .tuple=>"tuple"
 | .min2=>"min"
 | .min=>"min"
 | .max=>"max"
 | .int=>"int"
 | .str=>"str"
 | .lenset=>"len"
 | .sortedset=>"sorted"
noncomputable def Prim.plain:Prim→Bool
 | .len | .all | .any | .sum | .sorted | .list | .tuple | .min | .max | .int | .str=>true
 | _=>false
noncomputable def addT:CT→Expr→List (Option Str)→List (Option Str)
 | .name i,.Name x _,l=>if l[i]? == some none then l.set i (some x) else l
 | .two a b,.Tuple [x,y] _ _,l=>addT b y (addT a x l)
 | _,_,l=>l
noncomputable def xg(l:List (Option Str)):Bool:=decide (l.filterMap id).Nodup
noncomputable def chkT(cx:Cx)(own:Str→Bool):CT→Expr→Bool
 | .name i,.Name x _=>cx.isLoc i x && own x
 | .two a b,.Tuple [x,y] _ _=>chkT cx own a x && chkT cx own b y
 | _,_=>false
noncomputable def ownOf(sc:Scope)(x:Str):Bool:=sc.names.lookup x == some .local || sc.names.lookup x == some .cell
noncomputable def zbg(scope sc:Scope):Scope:=
 { scope with names:=scope.names.map fun (n,k)=>if (k == .free && sc.kind == .function && sc.names.lookup n == some .cell) then (n,.cell) else (n,k) }
noncomputable def xa(scope sc:Scope):Bool:=
 scope.kind == .function && decide ((scope.names.map (·.1)).Nodup) && scope.names.all fun (n,k)=>k == .local || k == .cell || k == .globalImplicit || (k == .free && sc.names.lookup n == some .cell)
noncomputable def Cx.inner(cx:Cx)(tgt:CT)(t:Expr)(scope:Scope):Cx:=
 { cx with names:=addT tgt t (cx.names.map fun o=>o.filter fun x=>scope.names.lookup x == some .free),sc:=zbg scope cx.sc }
noncomputable def x5(x:Expr)(ap q:Pos):Bool:=(ap.endLine == q.line) && (match x with
 | .Name _ _=>true
 | .Subscript _ _ _=>true
 | _=>false)
noncomputable def yo(fn:Fn)(names:List Str):List (Option Str):=names.map some++List.replicate (fn.slots - names.length) none
noncomputable def ui(a:Arguments)(names:List Str)(ar:Nat):Bool:=
 a.posonlyargs.isEmpty && a.vararg.isNone && a.kwonlyargs.isEmpty && a.kw_defaults.isEmpty && a.kwarg.isNone && a.defaults.isEmpty && (a.args.map (·.arg) == names.take ar) && a.args.length == ar
noncomputable def zbu(sc:Scope):Bool:=sc.kind == .function && !sc.isGenerator && !sc.isCoroutine && decide ((sc.names.map (·.1)).Nodup) && sc.names.all fun (_,k)=>k == .local || k == .cell || k == .globalImplicit
noncomputable def zhr(fn:Fn)(names:List Str)(a:Arguments)(sc:Scope):Bool:=
 ui a names fn.arity && zbu sc && decide (names.Nodup) && decide (names.length≤fn.slots) && decide (fn.arity≤names.length) && names.all (ownOf sc)
end Mine
end
section
namespace Mine
open PySem PyProof.Rows
structure Room(A:Around)(k:Nat):Prop where
 depth:A.depth+k < 690
 units:A.units+8 * k < 7000
 guards:A.guards=some []
theorem Room.deeper{A:Around}{k:Nat}(r:Room A (k+1))(env:Env):Room (A.deeper env) k:=
 ⟨by have:=r.depth;show A.depth+1+k < 690;lia,by have:=r.units;show A.units+3+8 * k < 7000;lia,r.guards⟩
theorem Room.room{A:Around}{k:Nat}(r:Room A k):A.depth < recursionLimit:=by have:=r.depth;show A.depth < 1000;lia
theorem Room.c{A:Around}{k n:Nat}(r:Room A k)(hn:n≤2000:=by decide):A.units+n < cLine:=by have:=r.units;show A.units+n < 9900;lia
structure Fits(F:Fm)(cx:Cx):Prop where
 names:F.names=cx.names
 kind:∀ x,F.env.kindOf x=cx.kind x
 sck:cx.sc.kind=.function
noncomputable def bis:List (Str×Value):=[("isinstance",.builtin "isinstance"),("len",.builtin "len"),("all",.builtin "all"),("any",.builtin "any"),("sum",.builtin "sum"),("sorted",.builtin "sorted"),("min",.builtin "min"),("max",.builtin "max"),
 ("list",.type "list"),("tuple",.type "tuple"),("int",.type "int"),("str",.type "str"),("set",.type "set"),("bool",.type "bool"),("range",.type "range"),("zip",.type "zip"),("enumerate",.type "enumerate"),("reversed",.type "reversed")]
structure GOk(G:Gl)(gval:Nat→Option PyData)(gname:Nat→Option Str):Prop where
 nolimit:G.h₀.NoLimit
 g:G.h₀.Ns mainGlobals G.mg
 b:G.h₀.Ns builtinsNs G.mb
 gl:∀ k d x,gval k=some d→gname k=some x→∃ v,G.mg x=some v∧Reads G.h₀ v d []
 clsRef:∀ c,∃ C,G.cls c=.ref C
 bi:∀ p∈bis,G.mg p.1=none∧G.mb p.1=some p.2
 digits:∃ mc,G.h₀.Ns cStatics mc∧mc "sys.int_max_str_digits" = none
section
variable{G:Gl}{F:Fm}{A:Around}{s:Shared}{β:List Addr}{ρ:Loc}{O:za}{cx:Cx}{gval:Nat→Option PyData}{gname:Nat→Option Str}
noncomputable abbrev VRel(G:Gl)(F:Fm):List Addr→Heap→Value→V→Prop:=fun β h v d=>VR G F.B β h v d
theorem um{i:Nat}{x:Str}(h:cx.isLoc i x=true):cx.names[i]?=some (some x)∧(cx.kind x=some .local∨cx.kind x=some .cell)∧(x == ("__debug__" : Str))=false:=by
 simp only[Cx.isLoc,wk,aG,bG,aQ,Bool.not_eq_true'] at h
 exact⟨h.1.1,h.1.2,h.2⟩
theorem wp{x:Str}(h:cx.isGlob x=true):cx.kind x=some .globalImplicit∧(x == ("__debug__" : Str))=false:=by
 simp only[Cx.isGlob,wk,aG,aQ,Bool.not_eq_true'] at h
 exact h
theorem zuo{i:Nat}{x:Str}{p:Pos}(sr:SR G F β ρ O s.heap)(fit:Fits F cx)(h:cx.isLoc i x=true) :
 Does G F A s β (eval (.Name x p) F.env) ((opt (ρ[i]?.join) O).lift ρ) (VRel G F):=by
 refine fg (um h) ?_;intro h1 h2 h3
 cases hv:ρ[i]?.join with
 | none=>trivial
 | some v=>
   have hv':ρ[i]?=some (some v):=by
    cases e:ρ[i]? with
    | none=>rw[e] at hv;exfalso;injection hv
    | some o=>rw[e] at hv;cases o with
      | none=>exfalso;injection hv
      | some u=>injection hv with eU;subst eU;rfl
   refine eY (sr.get i x v (by rw[fit.names];exact h1) hv') ?_;intro val g r
   refine Does.leaf sr fun Q E k=>?_
   have hq:Q val s:=k val s (KeepsAll.refl s) r
   refine eW g ?_ ?_<;>clear g
   ·rintro ⟨gk,m,gm,gx⟩;exact wpAny_Name (wpAny_loadName_local sr.fm.kind gk gm gx hq) h3
   ·rintro ⟨gk,c,gc,gx⟩;exact wpAny_Name (wpAny_loadName_cell sr.fm.kind gk gc gx hq) h3
theorem zbv{x:Str}{p:Pos}{v:Value}{Q:Value→Shared→Prop}{E:Value→Shared→Prop}(g:GOk G gval gname)(sr:SR G F β ρ O s.heap)(fit:Fits F cx)(h:cx.isGlob x=true)(hv:G.mg x=some v)(q:Q v s) :
 wpAny (model G.prog G.w) A (eval (.Name x p) F.env) Q E s:=by
 refine ff (wp h) ?_;intro h1 h2
 exact Calls.Name_function_global sr.fm.kind ((fit.kind x).trans h1) (Calls.loadGlobal_global (mg:=G.mg) (by rw[sr.fm.globals];exact g.g.keeps sr.br.keep) hv q) h2
theorem yl{x:Str}{p:Pos}{v:Value}{Q:Value→Shared→Prop}{E:Value→Shared→Prop}(g:GOk G gval gname)(sr:SR G F β ρ O s.heap)(fit:Fits F cx)(h:cx.isGlob x=true)(hm:G.mg x=none)(hv:G.mb x=some v)(q:Q v s) :
 wpAny (model G.prog G.w) A (eval (.Name x p) F.env) Q E s:=by
 refine ff (wp h) ?_;intro h1 h2
 exact Calls.Name_function_global sr.fm.kind ((fit.kind x).trans h1) (Calls.loadGlobal_builtin (mg:=G.mg) (mb:=G.mb) (by rw[sr.fm.globals];exact g.g.keeps sr.br.keep) hm (by rw[sr.fm.builtins];exact g.b.keeps sr.br.keep) hv q) h2
theorem zse{k:Nat}{x:Str}{p:Pos}(g:GOk G gval gname)(sr:SR G F β ρ O s.heap)(fit:Fits F cx)(hk:gname k=some x)(h:cx.isGlob x=true) :
 Does G F A s β (eval (.Name x p) F.env) ((opt ((gval k).map V.d) O).lift ρ) (VRel G F):=by
 cases hd:gval k with
 | none=>trivial
 | some d=>
   refine eY (g.gl k d x hd hk) ?_;intro v hv r
   refine Does.leaf sr fun Q E q=>zbv g sr fit h hv (q v s (KeepsAll.refl s) ⟨[],z6 sr.br.keep r,fun uA h=>nomatch h⟩)
end
end Mine
end
section
namespace Mine
open PySem
theorem and2{a b:Bool}(h:(a && b)=true):a=true∧b=true:=Bool.and_eq_true_iff.mp h
theorem and3{a b c:Bool}(h:(a && b && c)=true):a=true∧b=true∧c=true:=by
 refine ff (and2 h) ?_;intro h1 h2;refine ff (and2 h1) ?_;intro h3 h4;exact⟨h3,h4,h2⟩
end Mine
end
section
namespace Mine
open PySem PyProof.Rows
section
variable{G:Gl}{N β:List Addr}{h:Heap}{v:Value}
theorem VR.none_inv(r:VR G N β h v (.d .none)):v=.none:=by obtain⟨_,r,_⟩:=r;cases r;rfl
theorem VR.bool_inv{b:Bool}(r:VR G N β h v (.d (.bool b))):v=.bool b:=by obtain⟨_,r,_⟩:=r;cases r;rfl
theorem VR.int_inv{i:Int}(r:VR G N β h v (.d (.int i))):∃ t,v=.int i t:=by obtain⟨_,r,_⟩:=r;cases r;exact fh _ rfl
theorem VR.str_inv{x:Str}(r:VR G N β h v (.d (.str x))):∃ t,v=.str x t:=by obtain⟨_,r,_⟩:=r;cases r;exact fh _ rfl
inductive TupV(h:Heap)(N β:List Addr)(v:Value)(xs:List PyData):Prop
 | mk (a:Addr) (o:Obj) (vs:Array Value) (n:Nat) (hv:v=.ref a) (h1:h.get? a=some o) (h2:o.cls=.type "tuple") (h3:o.data=.seq vs n) (as:List Addr) (h4:ReadsAll h vs.toList xs as) (h5:∀ a∈as,a∉β∧a∉N)
theorem VR.tuple_inv{xs:List PyData}(r:VR G N β h v (.d (.tuple xs))):TupV h N β v xs:=by
 obtain⟨_,r,q⟩:=r
 cases r with
 | tuple h1 h2 h3 h4=>exact⟨_,_,_,_,rfl,h1,h2,h3,_,h4,q⟩
theorem VR.list_inv{xs:List PyData}(r:VR G N β h v (.d (.list xs))):∃ a,v=.ref a∧ListAt h N β a xs∧a∉β∧a∉N:=by
 obtain⟨_,r,q⟩:=r
 cases r with
 | list h1 h2 h3 h4=>exact fi _ rfl ⟨_,_,_,h1,h2,h3,_,h4,fun a ha=>q a (.tail _ ha)⟩ (q _ (.head _))
end
inductive VRs(G:Gl)(N β:List Addr)(h:Heap):List Value→List V→Prop
 | nil:VRs G N β h [] []
 | cons {v:Value} {d:V} {vs:List Value} {ds:List V}:VR G N β h v d→VRs G N β h vs ds→VRs G N β h (v::vs) (d::ds)
section
variable{G:Gl}{N β:List Addr}{h:Heap}
theorem VRs.length{vs:List Value}{ds:List V}(r:VRs G N β h vs ds):vs.length=ds.length:=by
 induction r with
 | nil=>rfl
 | cons _ _ ih=>simp[ih]
set_option tactic.hygienic true in
theorem VRs.data{vs:List Value}{ds:List V}(r:VRs G N β h vs ds):∀ {xs:List PyData},allD ds=some xs→∃ as,ReadsAll h vs xs as∧∀ a∈as,a∉β∧a∉N:=by
 induction r with
 | nil=>intro xs e;injection e with eU;subst eU;exact eZ [] .nil (fun uA h=>nomatch h)
 | cons r _ ih=>
   rename_i v d vs ds _
   intro xs e
   cases d with
   | d x=>
     simp only[allD,aE] at e
     refine eY e ?_;clear e;intro ys e1 eo;subst eo
     obtain⟨as,r1,q1⟩:=r
     refine eY (ih e1) ?_;intro bs r2 q2
     exact eZ (as++bs) (.cons r1 r2) (fun a ha=>(ai.mp ha).elim (q1 a) (q2 a))
   | box n=>exfalso;injection e
   | tm n=>exfalso;injection e
set_option tactic.hygienic true in
theorem VRs.its{vs:List Value}{ds:List V}(r:VRs G N β h vs ds):∀ {is:List It},allI ds=some is→ItsR N β h vs is:=by
 induction r with
 | nil=>intro xs e;injection e with eU;subst eU;exact .nil
 | cons r _ ih=>
   rename_i v d vs ds _
   intro xs e
   cases d with
   | d x=>
     simp only[allI,aE] at e
     refine eY e ?_;clear e;intro ys e1 eo;subst eo
     obtain⟨as,r1,q1⟩:=r
     exact .x r1 q1 (ih e1)
   | box n=>
     simp only[allI,aE] at e
     refine eY e ?_;clear e;intro ys e1 eo;subst eo
     obtain⟨a,h1,rfl⟩:=r
     exact .b h1 (ih e1)
   | tm n=>exfalso;injection e
end
section
variable{G:Gl}{F:Fm}{β β':List Addr}{O:za}{s s':Shared}
theorem VRs.step(b:BR G F.B β O s.heap)(f:FmOk G F β s.heap)(st:Step F.W β s s' β'){vs:List Value}{ds:List V}(r:VRs G F.B β s.heap vs ds):VRs G F.B β' s'.heap vs ds:=by
 induction r with
 | nil=>exact .nil
 | cons r _ ih=>exact .cons (r.step b f st) ih
end
theorem xl{e:Expr}(h:∀ l k p,e≠.Set l k p)(op:CmpOp):behindInMarks op e=false:=by
 cases e <;> first | rfl | exact absurd rfl (h _ _ _)
theorem qd{e:Expr}(h:∀ l k p,e≠.Set l k p)(env:Env)(x:Value):foldedSetIterable e env x=pure x:=by
 cases e <;> first | rfl | exact absurd rfl (h _ _ _)
section
variable{G:Gl}{F:Fm}{A:Around}{s:Shared}{β:List Addr}{ρ:Loc}{O:za}
noncomputable abbrev VRsl(G:Gl)(F:Fm):List Addr→Heap→List Value→List V→Prop:=fun β h v d=>VRs G F.B β h v d
theorem xx{pos:Pos}(sr:SR G F β ρ O s.heap):Does G F A s β (spliced (backTo pos (starEach [] F.env))) ((R.ok ([]:List V) O).lift ρ) (VRsl G F):=
 Does.leaf sr fun Q E k=>wpAny_items_nil (k _ _ (KeepsAll.refl s) .nil)
theorem yz{pos:Pos}{e:Expr}{rest:List Expr}{r:R za V}{g:za→R za (List V)}
 (he:starEach (e::rest) F.env=(false,eval e F.env)::starEach rest F.env)
 (h1:Does G F A s β (eval e F.env) (r.lift ρ) (VRel G F))
 (h2:∀ s' β' O',SR G F β' ρ O' s'.heap→Does G F A s' β' (spliced (backTo pos (starEach rest F.env))) ((g O').lift ρ) (VRsl G F)) :
 Does G F A s β (spliced (backTo pos (starEach (e::rest) F.env))) ((r.bind fun v O=>(g O).bind fun vs O=>.ok (v::vs) O).lift ρ) (VRsl G F):=by
 refine DoesW.seqE (T₂:=fun v Q E s'=>wpAny (model G.prog G.w) A (spliced (backTo pos (starEach rest F.env))) (fun vs s₂=>Q (v::vs) s₂) E s') (fun Q E h=>wpAny_items_cons h he) h1 fun s' β' v d O' uA st sr' rv=>?_
 refine DoesW.seqE (T₁:=tr G A (spliced (backTo pos (starEach rest F.env)))) (T₂:=fun vs Q E s'=>Q (v::vs) s') (fun Q E h=>h) (h2 s' β' O' sr') fun s₂ β₂ vs ds O₂ uA st₂ sr₂ rvs=>?_
 exact Does.leaf sr₂ fun Q E k=>k _ _ (KeepsAll.refl s₂) (.cons (rv.step sr'.br sr'.fm st₂) rvs)
theorem SR.push{h:Heap}(sr:SR G F β ρ O h)(o:Obj):SR G F β ρ O (h.push o):=sr.keepAll fun uA uA e=>ah o e
theorem wj{h:Heap}{l:List Addr}(al:∀ a∈l,∃ o,h.get? a=some o):h.objs.size∉l:=fun hm=>by
 refine fe (al _ hm) ?_;intro o e
 exact cB _ (a6 e)
theorem SR.size_new{h:Heap}(sr:SR G F β ρ O h):h.objs.size∉β∧h.objs.size∉F.B:=
 ⟨wj fun a ha=>let ⟨o,e,_⟩:=sr.br.alive a ha;⟨o,e⟩,wj fun a ha=>let ⟨o,e,_⟩:=sr.fm.stor a ha;⟨o,e⟩⟩
theorem zcc{vs:List Value}{ds:List V}{d:V}(r:VRs G F.B β s.heap vs ds)(e:tupV ds=some d) :
 VR G F.B β (s.heap.push { cls:=.type "tuple",data:=.seq vs.toArray }) (.ref s.heap.objs.size) d:=by
 have hk:∀ b o,s.heap.get? b=some o→(s.heap.push { cls:=.type "tuple",data:=.seq vs.toArray }).get? b=some o:=fun uA uA e=>ah _ e
 unfold tupV at e
 cases hd:allD ds with
 | some xs=>
   rw[hd] at e;injection e with eU;subst eU
   refine eY (r.data hd) ?_;intro as r1 q
   exact⟨as,.tuple (aF _ rfl) rfl rfl (zy hk r1),q⟩
 | none=>
   rw[hd] at e
   simp only[aE] at e
   refine eY e ?_;clear e;intro is e1 eo;subst eo
   exact⟨_,_,_,_,rfl,aF _ rfl,rfl,rfl,wo hk (r.its e1)⟩
theorem zda{vs:List Value}{ds:List V}{xs:List PyData}{ρ:Loc}{O:za}(sr:SR G F β ρ O s.heap)(r:VRs G F.B β s.heap vs ds)(e:allD ds=some xs) :
 VR G F.B β (s.heap.push { cls:=.type "list",data:=.seq vs.toArray }) (.ref s.heap.objs.size) (.d (.list xs)):=by
 refine eY (r.data e) ?_;intro as r1 q
 refine⟨_::as,.list (aF _ rfl) rfl rfl (zy (fun uA uA e=>ah _ e) r1),fun a ha=>?_⟩
 refine eW (ae.mp ha) ?_ ?_
 ·rintro rfl;exact sr.size_new
 ·intro ha;exact q a ha
theorem zuj{elts:List Expr}{k:Nat}{pos:Pos}{r:R za (List V)}(hl:∀ vs O,r=.ok vs O→vs.length≤line)
 (h1:Does G F A s β (spliced (backTo pos (starEach elts F.env))) (r.lift ρ) (VRsl G F)) :
 Does G F A s β (eval (.Tuple elts k pos) F.env) ((r.bind fun vs O=>opt (tupV vs) O).lift ρ) (VRel G F):=by
 refine DoesW.seqE (T₂:=fun vs Q E s₁=>vs.length≤sizeLine∧Q (.ref s₁.heap.objs.size) { s₁ with heap:=s₁.heap.push { cls:=.type "tuple",data:=.seq vs.toArray } }) (fun Q E h=>wpAny_Tuple h) h1 fun s' β' vs ds O' e st sr rv=>?_
 cases hd:tupV ds with
 | none=>trivial
 | some d=>
   have hz:vs.length≤sizeLine:=by rw[rv.length];exact ak (hl _ _ e) (by decide)
   exact Does.leaf sr fun Q E q=>⟨hz,q _ _ (KeepsAll.push s' _ _) (zcc rv hd)⟩
end
section
variable{G:Gl}{F:Fm}{A:Around}{s:Shared}{β:List Addr}{ρ:Loc}{O:za}
theorem uk{N:List Addr}{h:Heap}(b:BR G N β O h){n:Nat}{a:Addr}{x:PyData}(ha:β[n]?=some a)(e:kq O n=some x):∃ xs,x=.list xs∧ListAt h N β a xs:=by
 unfold kq at e
 cases ho:O[n]? with
 | none=>rw[ho] at e;exfalso;injection e
 | some bx=>
   rw[ho] at e
   cases bx with
   | lst xs=>injection e with eU;subst eU;exact eZ xs rfl (b.at_ n a _ ha ho)
   | dct kvs=>exfalso;injection e
theorem ListAt.reads{N:List Addr}{h:Heap}{a:Addr}{xs:List PyData}(l:ListAt h N β a xs):∃ as,Reads h (.ref a) (.list xs) (a::as)∧∀ b∈as,b∉β∧b∉N:=by
 obtain⟨o,vs,n,h1,h2,h3,as,h4,h5⟩:=l
 exact eZ as (.list h1 h2 h3 h4) h5
theorem vw(sr:SR G F β ρ O s.heap){v:Value}{d:V}(r:VR G F.B β s.heap v d){x:PyData}(e:look O d=some x):∃ as,Reads s.heap v x as:=by
 cases d with
 | d y=>injection e with eU;subst eU;obtain⟨as,r,_⟩:=r;exact fh as r
 | box n=>
   obtain⟨a,ha,rfl⟩:=r
   refine eY (uk sr.br ha e) ?_;intro xs eg l;subst eg
   obtain⟨as,r,_⟩:=l.reads
   exact fh _ r
 | tm n=>exfalso;injection e
theorem yb(sr:SR G F β ρ O s.heap){v:Value}{d:V}(r:VR G F.B β s.heap v d){xs:List PyData}(e:look O d=some (.list xs)):∃ a,v=.ref a∧ListAt s.heap F.B β a xs:=by
 cases d with
 | d y=>injection e with eU;subst eU;obtain⟨a,h1,h2,_⟩:=r.list_inv;exact eZ a h1 h2
 | box n=>
   obtain⟨a,ha,rfl⟩:=r
   refine eY (uk sr.br ha e) ?_;intro ys e' l
   injection e' with eU;subst eU
   exact eZ a rfl l
 | tm n=>exfalso;injection e
theorem yi{d:V}{x:PyData}(e:look O d=some x)(hx:∀ xs,x≠.list xs):d=.d x:=by
 cases d with
 | d y=>injection e with eU;subst eU;rfl
 | box n=>
   exfalso
   simp only[look,kq] at e
   cases ho:O[n]? with
   | none=>rw[ho] at e;exfalso;injection e
   | some bx=>
     rw[ho] at e
     cases bx with
     | lst xs=>injection e with eU;subst eU;exact hx _ rfl
     | dct kvs=>exfalso;injection e
 | tm n=>exfalso;injection e
set_option tactic.hygienic true in
theorem ziv{v:Value}{x:PyData}{b:Bool}{as:List Addr}(r:Reads s.heap v x as):isSame v (.bool b)=pure (isBool b x):=by
 cases r <;> first | rfl | (rename_i c;cases b <;> cases c <;> rfl)
theorem zgc{v:Value}{x:PyData}{as:List Addr}(r:Reads s.heap v x as):isSame v .none=pure (isNone x):=by cases r <;> rfl
theorem zn5(sr:SR G F β ρ O s.heap){v u:Value}{x y:PyData}{b:Bool}(rv:VR G F.B β s.heap v (.d x))(ru:VR G F.B β s.heap u (.d y))(e:isop x y=some b):isSame v u=pure b:=by
 obtain⟨as,r,_⟩:=rv
 cases y <;> first | (cases e;done) | skip
 ·have:=ru.none_inv;subst this
  rw[← aP e];exact zgc r
 ·have:=ru.bool_inv;subst this
  rw[← aP e];exact ziv r
theorem znn{f:Int→Int→Bool}{x y:PyData}{b:Bool}(e:ordD f x y=some b):∃ i j,x=.int i∧y=.int j∧f i j=b:=by
 cases x <;> first | (cases e;done) | skip
 cases y <;> first | (cases e;done) | skip
 exact fj _ _ rfl rfl (aP e)
theorem zln{x y:PyData}{c b:Bool}(e:(if eqOk x y then some c else none)=some b):(x.canLay0=true∧y.canLay0=true)∧min x.depth y.depth≤100∧c=b:=by
 by_cases h:eqOk x y=true
 ·rw[af h] at e
  have h':=h
  simp only[eqOk,aG,aK] at h'
  exact⟨h'.1,h'.2,aP e⟩
 ·rw[aj h] at e;exfalso;injection e
theorem zn6{x:PyData}{xs:List PyData}{b:Bool}(e:inD x xs=some b):(x.canLay0=true∧PyData.canLayAll0 xs=true)∧x.depth≤100∧(xs.any fun y=>PyData.eqv y x)=b:=by
 unfold inD at e
 by_cases h:(x.canLay0 && PyData.canLayAll0 xs && decide (x.depth≤100))=true
 ·rw[af h] at e
  have h':=h
  simp only[aG,aK] at h'
  exact⟨h'.1,h'.2,aP e⟩
 ·rw[aj h] at e;exfalso;injection e
theorem zj0{y:PyData}{xs:List PyData}(e:seqD y=some xs):y=.list xs∨y=.tuple xs:=by
 cases y <;> first | (cases e;done) | skip
 ·injection e with eU;subst eU;exact .inl rfl
 ·injection e with eU;subst eU;exact .inr rfl
theorem zk3{x y:PyData}{b:Bool}(e:(seqD y).bind (inD x)=some b):∃ xs,(y=.list xs∨y=.tuple xs)∧(x.canLay0=true∧PyData.canLayAll0 xs=true)∧x.depth≤100∧(xs.any fun y=>PyData.eqv y x)=b:=by
 cases h:seqD y with
 | none=>rw[h] at e;exfalso;injection e
 | some xs=>rw[h] at e;exact eZ xs (zj0 h) (zn6 e)
noncomputable def Cop.op:Cop→CmpOp
 | .eq=>.Eq
 | .ne=>.NotEq
 | .lt=>.Lt
 | .le=>.LtE
 | .gt=>.Gt
 | .ge=>.GtE
 | .is=>.Is
 | .isnot=>.IsNot
 | .in_=>.In
 | .notin=>.NotIn
theorem zsm{op:Cop}{o:CmpOp}(h:x4 op o=true):o=op.op:=by cases op <;> cases o <;> first | rfl | exact (am h).elim
theorem qu{f:Int→Int→Bool}{v u:Value}{x y:PyData}{as bs:List Addr}{b:Bool}(rv:Reads s.heap v x as)(ru:Reads s.heap u y bs)(e:ordD f x y=some b):∃ i j t t',v=.int i t∧u=.int j t'∧f i j=b:=by
 refine fk (znn e) ?_;intro i j eo ez eA;subst eo;subst ez;subst eA
 cases rv;cases ru
 exact⟨_,_,_,_,rfl,rfl,rfl⟩
theorem zmd{op:Cop}{o:CmpOp}{v u:Value}{x y:PyData}{as bs:List Addr}{b:Bool}{Q:Value→Shared→Prop}{E:Value→Shared→Prop}{k:Nat}(ro:Room A k)(ho:x4 op o=true)
 (rv:Reads s.heap v x as) (ru:Reads s.heap u y bs) (e:kr op x y=some b) (q:Q (.bool b) s):wpAny (model G.prog G.w) A (compareOp o v u) Q E s:=by
 have hu:=ro.c (n:=200)
 rw[zsm ho]
 clear ho ro
 have hle:∀ {a:Nat},a≤100→A.units+a < cLine:=fun h=>bU (Nat.add_le_add_left (ak h (by decide)) _) hu
 cases op with
 | eq=>
   refine fg (zln e) ?_;intro dZ h3 eo;refine ff dZ ?_;clear dZ;intro h1 h2;subst eo
   exact SeqAt.compareEq_reads rv ru h1 h2 (hle h3) q
 | ne=>
   refine fg (zln e) ?_;intro dZ h3 eo;refine ff dZ ?_;clear dZ;intro h1 h2;subst eo
   exact SeqAt.compareNe_reads rv ru h1 h2 (hle h3) q
 | lt=>
   refine fq (qu rv ru e) ?_;intro i j t t' eA eB;subst eA;refine ff eB ?_;clear eB;intro dZ eg;subst dZ;subst eg
   exact wpAny_lt_int q
 | le=>
   refine fq (qu rv ru e) ?_;intro i j t t' eA eB;subst eA;refine ff eB ?_;clear eB;intro dZ eg;subst dZ;subst eg
   exact le_int q
 | gt=>
   refine fq (qu rv ru e) ?_;intro i j t t' eA eB;subst eA;refine ff eB ?_;clear eB;intro dZ eg;subst dZ;subst eg
   exact PySem.P.gt_int q
 | ge=>
   refine fq (qu rv ru e) ?_;intro i j t t' eA eB;subst eA;refine ff eB ?_;clear eB;intro dZ eg;subst dZ;subst eg
   exact PySem.P.ge_int q
 | is=>exfalso;injection e
 | isnot=>exfalso;injection e
 | in_=>
   refine ft (zk3 e) ?_;intro xs hy eo ez;refine ff eo ?_;clear eo;intro h1 h2;refine ff ez ?_;clear ez;intro h3 eg;subst eg
   refine eW hy ?_ ?_<;>clear hy
   ·rintro rfl;exact SeqAt.in_list_reads ru rv h2 h1 (by lia) q
   ·rintro rfl;exact SeqAt.in_tuple_reads ru rv h2 h1 (by lia) q
 | notin=>
   refine eY (aE.mp e) ?_;intro c e1 eo;subst eo
   refine ft (zk3 e1) ?_;intro xs hy eo ez;refine ff eo ?_;clear eo;intro h1 h2;refine ff ez ?_;clear ez;intro h3 eg;subst eg
   refine eW hy ?_ ?_<;>clear hy
   ·rintro rfl;exact SeqAt.notIn_list_reads ru rv h2 h1 (by lia) q
   ·rintro rfl;exact SeqAt.notIn_tuple_reads ru rv h2 h1 (by lia) q
end
structure KeepsL(L:Addr)(s s':Shared):Prop where
 gens:s'.gens=s.gens
 os:s'.os=s.os
 kept:∀ b o,b≠L→s.heap.get? b=some o→s'.heap.get? b=some o
 ns:∀ m,s.heap.Ns L m→s'.heap.Ns L m
section
variable{G:Gl}{F:Fm}{β:List Addr}{ρ:Loc}{O:za}{s s':Shared}
theorem KeepsL.step(x:KeepsL F.env.locals s s')(f:FmOk G F β s.heap):Step F.W β s s' β where
 gens:=x.gens
 os:=x.os
 pre:=bz _
 fresh:=fun uA h=>.inl h
 alive:=fun b o e=>by
  by_cases hb:b=F.env.locals
  ·subst hb
   obtain⟨m,hm⟩:=f.ns
   refine fu (x.ns m hm) ?_;intro o' _ _ h _
   exact fh o' h
  ·exact fh o (x.kept b o hb e)
 kept:=fun b o e uA hW=>⟨o,x.kept b o (fun h=>hW (h ▸ f.nsW)) e,Kin.refl o⟩
theorem SR.keepL(x:KeepsL F.env.locals s s')(r:SR G F β ρ O s.heap):SR G F β ρ O s'.heap:=by
 have st:=x.step r.fm
 have nL:F.env.locals∈F.B:=r.fm.sub _ r.fm.nsW
 have ne:∀ {a:Addr},a∈β→a≠F.env.locals:=fun ha e=>r.fm.notBox _ nL (e ▸ ha)
 refine⟨⟨fun c o e=>x.kept c o (fun h=>?_) (r.br.keep c o e),r.br.len,r.br.nodup,r.br.new,fun i a bx h1 h2=>?_,fun a ha=>(r.br.plain a ha).at fun o e=>x.kept a o (ne ha) e⟩,⟨r.fm.kind,r.fm.globals,r.fm.builtins,r.fm.once,?_,r.fm.nsW,?_,r.fm.apart,r.fm.sub,r.fm.new,r.fm.notBox,?_,r.fm.frB,fun a ha=>?_,fun m e=>⟨x.ns m (r.fm.pin m e).1,(r.fm.pin m e).2⟩⟩,fun i y v h1 h2=>?_⟩
 ·have:=r.fm.newW r.fm.nsW
  rw[← h,e] at this;exfalso;injection this
 ·have hb:=r.br.at_ i a bx h1 h2
  have hne:=ne (ay h1)
  cases bx with
  | lst xs=>
    obtain⟨o,vs,n,e1,e2,e3,as,e4,e5⟩:=hb
    exact⟨o,vs,n,x.kept _ _ hne e1,e2,e3,as,(zu r.br r.fm st e4 e5).1,e5⟩
  | dct kvs=>
    obtain⟨o,es,n,e1,e2,e3,e4,e5⟩:=hb
    refine⟨o,es,n,x.kept _ _ hne e1,e2,e3,e4,fun i e kv he hkv=>?_⟩
    obtain⟨hq,as,bs,r1,r2,q⟩:=e5 i e kv he hkv
    exact⟨hq,as,bs,(z8 r.br r.fm st r1 fun a ha=>q a (az _ ha)).1,(z8 r.br r.fm st r2 fun a ha=>q a (au _ ha)).1,q⟩
 ·obtain⟨m,hm⟩:=r.fm.ns;exact fh m (x.ns m hm)
 ·intro y h1
  refine fk (r.fm.cell y h1) ?_;intro c v h3 ez h5;refine eY ez ?_;clear ez;intro o h4 h4'
  refine fj c v h3 ⟨o,x.kept _ _ (fun h=>?_) h4,h4'⟩ h5
  obtain⟨m,o',es,ep,q1,q2,_⟩:=r.fm.ns
  rw[h] at h4;rw[h4] at q1;injection q1 with eU;subst eU;rw[h4'] at q2;exfalso;injection q2
 ·intro a ha
  refine eY (r.fm.stor a ha) ?_;intro o h1 h2
  by_cases hb:a=F.env.locals
  ·subst hb
   obtain⟨m,hm⟩:=r.fm.ns
   refine fw (x.ns m hm) ?_;intro o' es ep h hd _
   exact eZ o' h (fun vs n hv=>by rw[hd] at hv;exfalso;injection hv)
  ·exact eZ o (x.kept _ _ hb h1) h2
 ·refine fe (r.fm.frs a ha) ?_;intro m hm
  by_cases hb:a=F.env.locals
  ·subst hb;exact fh m (x.ns m hm)
  ·refine fu hm ?_;clear hm;intro o es ep h1 h2
   exact⟨m,o,es,ep,x.kept _ _ hb h1,h2⟩
 ·refine eY (r.get i y v h1 h2) ?_;intro val g rv
  refine eZ val ?_ (rv.step r.br r.fm st)
  refine eW g ?_ ?_<;>clear g
  ·rintro ⟨g1,m,g2,g3⟩;exact .inl ⟨g1,m,x.ns m g2,g3⟩
  ·rintro ⟨g1,c,g2,o,g3,g4⟩;refine .inr ⟨g1,c,g2,o,x.kept _ _ (fun h=>?_) g3,g4⟩
   obtain⟨m,o',es,ep,q1,q2,_⟩:=r.fm.ns
   rw[h] at g3;rw[g3] at q1;injection q1 with eU;subst eU;rw[g4] at q2;exfalso;injection q2
theorem Does.leafL{α δ:Type}{T:WT α}{d:δ}{Rel:List Addr→Heap→α→δ→Prop}(sr:SR G F β ρ O s.heap)
 (hw:∀ (Q:α→Shared→Prop) (E:Value→Shared→Prop),(∀ v s',KeepsL F.env.locals s s'→Rel β s'.heap v d→Q v s')→T Q E s) :
 DoesW G F s β T (.ok d (ρ,O)) Rel:=
 fun Q E k=>hw Q E fun v s' ka r=>k s' β v (ka.step sr.fm) (sr.keepL ka) r
end
noncomputable def q9(h:Heap)(L:Addr):Heap:={ objs:=h.objs.extract 0 L,life:=h.life }
theorem u5{h:Heap}{L a:Addr}:(q9 h L).get? a=if a < L then h.get? a else none:=by
 have e:(h.objs.extract 0 L)[a]?=if a < L then h.objs[a]? else none:=by
  rw[Array.getElem?_extract]
  generalize h.objs=x
  have key:∀ (n L a:Nat),(a < min L n - 0)↔(a < L∧a < n):=fun n L a=>by rw[Nat.sub_zero];exact Nat.lt_min
  by_cases h1:a < L
  ·by_cases h2:a < x.size
   ·rw[af ((key _ _ _).mpr ⟨h1,h2⟩),af h1,bB]
   ·rw[aj (fun q=>h2 ((key _ _ _).mp q).2),af h1,cn (Nat.not_lt.mp h2)]
  ·rw[aj (fun q=>h1 ((key _ _ _).mp q).1),aj h1]
 unfold Heap.get? q9
 dsimp only
 rw[e]
 by_cases h1:a < L
 ·rw[af h1,af h1]
 ·rw[aj h1,aj h1]
noncomputable def newsOf(h:Heap)(L:Addr):List (Addr×Obj):=(List.range h.objs.size).filterMap fun a=>if L < a then (h.get? a).map fun o=>(a,o) else none
set_option tactic.hygienic true in
theorem mem_newsOf{h:Heap}{L:Addr}{p:Addr×Obj}:p∈newsOf h L↔L < p.1∧h.get? p.1=some p.2:=by
 unfold newsOf
 rw[List.mem_filterMap]
 constructor
 ·rintro⟨a,_,e⟩
  split at e
  ·rename_i hl
   rw[aE] at e
   refine eY e ?_;clear e;intro o e1 eo;subst eo
   exact⟨hl,e1⟩
  ·exfalso;injection e
 ·rintro⟨h1,h2⟩
  exact eZ p.1 (aZ.mpr (a6 h2)) (by rw[af h1,h2];rfl)
theorem zgo{h:Heap}{L:Addr}{m:Str→Option Value}(hn:h.Ns L m):Fr (q9 h L) L h m∧News (q9 h L) L h (newsOf h L):=by
 refine⟨⟨hn,fun b o e=>?_,?_⟩,fun p hp=>?_⟩
 ·rw[u5] at e;split at e
  ·exact e
  ·exfalso;injection e
 ·show (h.objs.extract 0 L).size≤L
  rw[Array.size_extract];lia
 ·refine ff (mem_newsOf.mp hp) ?_;intro h1 h2
  exact⟨h2,Nat.ne_of_gt h1,by rw[u5,aj (Nat.not_lt.mpr (cq h1))]⟩
theorem zbj{h:Heap}{L:Addr}{m m':Str→Option Value}(x:h.Ns L m)(y:h.Ns L m'):m=m':=by
 refine fb x ?_;clear x;intro o es ep h1 h2 _ h3
 refine fb y ?_;clear y;intro o' es' ep' h1' h2' _ h3'
 rw[h1] at h1';injection h1' with eU;subst eU
 rw[h2] at h2';injection h2' with eU eV;subst eU eV
 funext z
 rw[← h3,← h3']
theorem qm{s:Shared}{L:Addr}{m:Str→Option Value}{h':Heap}{news':List (Addr×Obj)}{tk:Nat}{dr:Drawn}(hn:s.heap.Ns L m)(f:Fr (q9 s.heap L) L h' m)(n:News (q9 s.heap L) L h' news')(hs:∀ p∈newsOf s.heap L,p∈news') :
 KeepsL L s { s with heap:=h',toks:=tk,drawn:=dr } where
 gens:=rfl
 os:=rfl
 kept:=fun b o hb e=>by
  refine eW (bk b L) ?_ ?_
  ·intro h;exact f.keep b o (by rw[u5,af h];exact e)
  ·intro h;exact (n (b,o) (hs _ (mem_newsOf.mpr ⟨Nat.lt_of_le_of_ne h (Ne.symm hb),e⟩))).1
 ns:=fun m' hm=>by rw[zbj hm hn];exact f.ns
theorem gr(items:Array Value)(k:Nat):(List.replicate k items).foldl (fun x1 x2=>x1++x2) #[]=(List.replicate k items.toList).flatten.toArray:=by
 have:∀ (acc:Array Value),(List.replicate k items).foldl (fun x1 x2=>x1++x2) acc=(acc.toList++(List.replicate k items.toList).flatten).toArray:=by
  induction k with
  | zero=>intro acc;simp
  | succ k ih=>intro acc;rw[List.replicate_succ,dW,ih];simp[List.replicate_succ]
 rw[this];simp
theorem uv(l:Addr)(items:Array Value)(n:Nat)(d:Option Addr)(sl:Array (Option Value))(x:Int)(u:Tok)(h0:items.isEmpty=false)(h2:2≤x)(hx:x≤256)(hz:items.size * x.toNat≤256) :
 Meets (Builtin.«tuple.__mul__» ⟨[.ref l,.int x u],[]⟩) (fun uA R s=>s.heap.get? l=some { cls:=.type "tuple",dict:=d,data:=.seq items n,slots:=sl }∧R (.ok (.ret (Value.ref s.heap.objs.size))) { s with heap:=s.heap.push { cls:=Value.type "tuple",data:=Data.seq (List.foldl (fun x1 x2=>x1++x2) #[] (List.replicate x.toNat items)) },toks:=s.toks }):=
 .of_wp fun prog w A R s h=>by
  obtain⟨hp,g,d,tk,os⟩:=s;refine ff h ?_;clear h;intro hl h
  have c1:¬ (decide (x < -(2 ^ 63)) || decide (x ≥ 2 ^ 63))=true:=by simp;lia
  have c2:¬ (items.isEmpty || x == 1)=true:=by simp[h0];lia
  have c3:¬ (decide (x≤0) || items.isEmpty)=true:=by simp[h0];lia
  have hz':(items.size:Int) * x≤256:=by
   have:(items.size:Int) * x=((items.size * x.toNat:Nat):Int):=by rw[Int.natCast_mul];congr 1;lia
   rw[this];lia
  generalize hy:(items.size:Int) * x=y at hz'
  have c4:¬ (y > (2 ^ 63 - 1) / 8):=by lia
  have c5:¬ Builtin.Tuple.tupleTooMany y=true:=by
   simp only[Builtin.Tuple.tupleTooMany,aK]
   show ¬ y > ((2 ^ 24:Nat):Int)
   lia
  subst hy
  have c6:¬ ((List.replicate x.toNat items).foldl (fun x1 x2=>x1++x2) #[]).size > sizeLine:=by
   rw[gr];simp[sizeLine];rw[Nat.mul_comm];lia
  wp_walk
  rw[aj c1]
  wp_walk
  rw[aj c2]
  wp_walk
  rw[aj c3]
  wp_walk
  rw[aj c4]
  wp_walk
  exact eZ _ rfl h
theorem pi:fillsNumberSlot (.type "tuple") "mul" = pure false:=
 PySem.fillsNumberSlot_seq (id:="tuple.__mul__") (r:=some (.builtin "tuple.__rmul__")) F.slot_tuple_mul.lookup (by decide +kernel) F.slot_tuple_rmul.lookup (by decide +kernel)
theorem zcj:seqRepeat? (.type "tuple")=pure (some (.builtin "tuple.__mul__")):=by
 unfold seqRepeat?
 rw [PySem.seqSlot_of (T:="tuple") (name:="__mul__") (id:="tuple.__mul__") F.slot_tuple_mul.lookup (by decide +kernel),PySem.seqSlot_of (T:="tuple") (name:="__rmul__") (id:="tuple.__rmul__") F.slot_tuple_rmul.lookup (by decide +kernel)]
 rfl
theorem w9(a:Int)(t:Tok)(l:Addr)(items:Array Value)(n:Nat)(d:Option Addr)(sl:Array (Option Value)) :
 Meets (Builtin.«int.__rmul__» ⟨[.int a t,.ref l],[]⟩) (fun uA R s=>s.heap.get? l=some { cls:=.type "tuple",dict:=d,data:=.seq items n,slots:=sl }∧R (.ok (.ret Value.notImplemented)) s):=
 .of_wp fun prog w A R s h=>by obtain⟨hp,g,d,tk,os⟩:=s;refine ff h ?_;clear h;intro hl h;wp_walk;exact eZ _ rfl h
theorem zij{prog:Program}{w:World}{A:Around}{E:Value→Shared→Prop}{s:Shared}{l:Addr}{o:Obj}{items:Array Value}{k:Nat}{x:Int}{u:Tok}{Q:Value→Shared→Prop}(ho:s.heap.get? l=some o)(hc:o.cls=.type "tuple")(hd:o.data=.seq items k)
 (h0:items.isEmpty=false) (h2:2≤x) (hx:x≤256) (hz:items.size * x.toNat≤256)
 (h:Q (.ref s.heap.objs.size) { s with heap:=s.heap.push { cls:=Value.type "tuple",data:=Data.seq (List.replicate x.toNat items.toList).flatten.toArray } }):wpAny (model prog w) A (binaryOp .Mult (.ref l) (.int x u)) Q E s:=by
 obtain⟨cls,d,data,sl⟩:=o
 simp only at hc hd
 subst hc hd
 refine wpAny_binaryOp_repeat_ref (T:="tuple") (U:="int") (by decide) ⟨_,ho,rfl⟩ (fun s'=>typeIs_int s' x u) pi F.fills_int_mul F.slot_int_rmul zcj F.slot_int_index.lookup
  (call_meets F.slot_int_rmul (typeIs_int s x u) F.entry_int_rmul (F.args_int_rmul_2 _ _) (w9 x u l items k d sl)
    ⟨ho,rfl,⟨_,ho,rfl⟩,call_meets F.slot_tuple_mul ⟨_,ho,rfl⟩ F.entry_tuple_mul (F.args_tuple_mul_2 _ _) (uv l items k d sl x u h0 h2 hx hz) ⟨ho,?_⟩⟩)
 rw[gr];exact h
theorem zz{h:Heap}{motive:List Value→List PyData→List Addr→Prop}(nil:motive [] [] [])(cons:∀ {v:Value} {d:PyData} {as:List Addr} {vs:List Value} {ds:List PyData} {bs:List Addr},Reads h v d as→ReadsAll h vs ds bs→motive vs ds bs→motive (v::vs) (d::ds) (as++bs))
 {vs:List Value} {xs:List PyData} {as:List Addr} (r:ReadsAll h vs xs as):motive vs xs as:=
 ReadsAll.rec (motive_1:=fun uA uA uA uA=>True) (motive_2:=fun vs xs as uA=>motive vs xs as)
  trivial (fun uA=>trivial) (fun uA uA=>trivial) (fun uA uA=>trivial) (fun uA uA uA uA uA=>trivial) (fun uA uA uA uA uA=>trivial) (fun uA uA uA uA uA uA uA=>trivial) nil (fun r rs uA ih=>cons r rs ih) r
theorem yh{h:Heap}{vs ws:List Value}{xs ys:List PyData}{as bs:List Addr}(r:ReadsAll h vs xs as)(r':ReadsAll h ws ys bs):ReadsAll h (vs++ws) (xs++ys) (as++bs):=
 zz (motive:=fun vs xs as=>ReadsAll h (vs++ws) (xs++ys) (as++bs)) r' (fun r uA ih=>by rw[cb];exact .cons r ih) r
theorem we{h:Heap}{vs:List Value}{xs:List PyData}{as:List Addr}{P:Addr→Prop}(r:ReadsAll h vs xs as)(q:∀ a∈as,P a)(k:Nat):∃ bs,ReadsAll h (List.replicate k vs).flatten (List.replicate k xs).flatten bs∧∀ a∈bs,P a:=by
 induction k with
 | zero=>exact eZ [] .nil (fun uA h=>nomatch h)
 | succ k ih=>
   refine eY ih ?_;clear ih;intro bs r' q'
   refine eZ (as++bs) ?_ (fun a ha=>(ai.mp ha).elim (q a) (q' a))
   simpa [List.replicate_succ] using yh r r'
theorem zd{h:Heap}{vs:List Value}{xs:List PyData}{as:List Addr}(r:ReadsAll h vs xs as):vs.length=xs.length:=
 zz (motive:=fun vs xs uA=>vs.length=xs.length) rfl (fun uA uA ih=>cK (· + 1) ih) r
section
variable{G:Gl}{F:Fm}{A:Around}{s:Shared}{β:List Addr}{ρ:Loc}{O:za}
theorem KeepsAll.toL{L:Addr}{s s':Shared}(x:KeepsAll s s'):KeepsL L s s':=⟨x.gens,x.os,fun b o uA e=>x.kept b o e,fun m h=>h.keeps x.kept⟩
theorem y5{h:Heap}{N:List Addr}{D:Addr}{o:Obj}{vs:Array Value}{n:Nat}{xs:List PyData}{as:List Addr}(e1:h.get? D=some o)(e2:o.cls=.type "list")(e3:o.data=.seq vs n)(r:ReadsAll h vs.toList xs as)(q:∀ a∈as,a∉β∧a∉N)(hD:D∉β∧D∉N):VR G N β h (.ref D) (.d (.list xs)):=
 ⟨D::as,.list e1 e2 e3 r,fun a ha=>(ae.mp ha).elim (fun e=>e ▸ hD) (q a)⟩
theorem kx{h:Heap}{N:List Addr}{D:Addr}{o:Obj}{vs:Array Value}{n:Nat}{xs:List PyData}{as:List Addr}(e1:h.get? D=some o)(e2:o.cls=.type "tuple")(e3:o.data=.seq vs n)(r:ReadsAll h vs.toList xs as)(q:∀ a∈as,a∉β∧a∉N):VR G N β h (.ref D) (.d (.tuple xs)):=
 ⟨as,.tuple e1 e2 e3 r,q⟩
noncomputable def NewL(s:Shared)(h:Heap)(v:Value):Prop:=∃ a,v=.ref a∧s.heap.get? a=none∧Plain h a
noncomputable abbrev FRel(G:Gl)(F:Fm)(s:Shared):List Addr→Heap→Value→V→Prop:=fun β h v d=>VR G F.B β h v d∧(∀ xs,d=.d (.list xs)→NewL s h v)
noncomputable def LeafD{α δ:Type}(G:Gl)(F:Fm)(s:Shared)(β:List Addr)(T:WT α)(d:δ)(Rel:List Addr→Heap→α→δ→Prop):Prop:=
 ∀ (Q:α→Shared→Prop) (E:Value→Shared→Prop),(∀ v s',KeepsL F.env.locals s s'→Rel β s'.heap v d→Q v s')→T Q E s
theorem LeafD.leaf{α δ:Type}{T:WT α}{d:δ}{Rel:List Addr→Heap→α→δ→Prop}(sr:SR G F β ρ O s.heap)
 (hw:∀ (Q:α→Shared→Prop) (E:Value→Shared→Prop),(∀ v s',KeepsAll s s'→Rel β s'.heap v d→Q v s')→T Q E s):LeafD G F s β T d Rel:=fun Q E k=>hw Q E fun v s' ka r=>k v s' ka.toL r
theorem LeafD.leafL{α δ:Type}{T:WT α}{d:δ}{Rel:List Addr→Heap→α→δ→Prop}(sr:SR G F β ρ O s.heap)
 (hw:∀ (Q:α→Shared→Prop) (E:Value→Shared→Prop),(∀ v s',KeepsL F.env.locals s s'→Rel β s'.heap v d→Q v s')→T Q E s):LeafD G F s β T d Rel:=hw
theorem LeafD.does{α δ:Type}{T:WT α}{d:δ}{Rel:List Addr→Heap→α→δ→Prop}(sr:SR G F β ρ O s.heap)(h:LeafD G F s β T d Rel):DoesW G F s β T (.ok d (ρ,O)) Rel:=Does.leafL sr h
theorem g9{a b:Int}(h:a.natAbs < 2 ^ 64∨b.natAbs < 2 ^ 64):IntMulOk a b:=by
 refine eW h ?_ ?_<;>clear h
 ·intro h;exact IntMulOk.of_left (intBits_le_64 (by lia) (by lia))
 ·intro h;exact IntMulOk.of_right (intBits_le_64 (by lia) (by lia))
theorem dp{f:Int→Option PyData}{y c:PyData}(h:intD f y=some c):∃ n,y=.int n∧f n=some c:=by
 cases y <;> first | (cases h;done) | skip
 exact eZ _ rfl h
theorem yy{p:Prop}[Decidable p]{a c:PyData}(h:(if p then some a else none)=some c):p∧a=c:=by
 by_cases hp:p
 ·rw[af hp] at h;exact⟨hp,aP h⟩
 ·rw[aj hp] at h;exfalso;injection h
theorem zo6{x y c:PyData}(h:addD x y=some c):(∃ a b,x=.int a∧y=.int b∧c=.int (a+b))∨(∃ a b,x=.list a∧y=.list b∧a.length+b.length≤line∧c=.list (a++b)) ∨
 (∃ a b,x=.tuple a∧y=.tuple b∧a.length+b.length≤line∧c=.tuple (a++b))∨(∃ a b,x=.str a∧y=.str b∧a.length+b.length≤line∧c=.str (a++b)):=by
 cases x with
 | int a=>cases y <;> first | (cases h;done) | skip
          injection h with eU;subst eU;exact .inl ⟨_,_,rfl,rfl,rfl⟩
 | list a=>cases y <;> first | (cases h;done) | skip
           refine ff (yy h) ?_;intro h1 eg;subst eg;exact .inr (.inl ⟨_,_,rfl,rfl,h1,rfl⟩)
 | tuple a=>cases y <;> first | (cases h;done) | skip
            refine ff (yy h) ?_;intro h1 eg;subst eg;exact .inr (.inr (.inl ⟨_,_,rfl,rfl,h1,rfl⟩))
 | str a=>cases y <;> first | (cases h;done) | skip
          refine ff (yy h) ?_;intro h1 eg;subst eg;exact .inr (.inr (.inr ⟨_,_,rfl,rfl,h1,rfl⟩))
 | _=>exfalso;injection h
theorem VR.ints{v:Value}{x:V}{i:Int}(rv:VR G F.B β s.heap v x)(h:look O x=some (.int i)):∃ t,v=.int i t:=by
 have:=yi h (fun uA h=>by exfalso;injection h);subst this
 exact rv.int_inv
theorem zbn{T:WT Value}{i:Int}(sr:SR G F β ρ O s.heap)(h:∀ (Q:Value→Shared→Prop) (E:Value→Shared→Prop),(∀ t,Q (.int i t) { s with toks:=s.toks+1 })→T Q E s):LeafD G F s β T (V.d (.int i)) (FRel G F s):=
 LeafD.leaf sr fun Q E q=>h Q E fun t=>q _ _ (KeepsAll.toks _ _) ⟨VR.int,fun uA h=>by injection h with eU;exfalso;injection eU⟩
theorem zit{v u:Value}{x y:V}{a b:Str}(sr:SR G F β ρ O s.heap)(rv:VR G F.B β s.heap v x)(ru:VR G F.B β s.heap u y)(h1:look O x=some (.str a))(h2:look O y=some (.str b))(hz:a.length+b.length≤line) :
 LeafD G F s β (tr G A (binaryOp .Add v u)) (V.d (.str (a++b))) (FRel G F s):=by
 have:=yi h1 (fun uA h=>by exfalso;injection h);subst this
 have:=yi h2 (fun uA h=>by exfalso;injection h);subst this
 obtain⟨t,rfl⟩:=rv.str_inv;obtain⟨t',rfl⟩:=ru.str_inv
 exact LeafD.leaf sr fun Q E q=>add_str (fun t' tk=>q _ _ (KeepsAll.toks _ _) ⟨VR.str,fun uA h=>by injection h with eU;exfalso;injection eU⟩) (ak hz (by decide))
theorem zf7{v u:Value}{x y:V}{a b:List PyData}(sr:SR G F β ρ O s.heap)(rv:VR G F.B β s.heap v x)(ru:VR G F.B β s.heap u y)(h1:look O x=some (.list a))(h2:look O y=some (.list b))(hz:a.length+b.length≤line) :
 LeafD G F s β (tr G A (binaryOp .Add v u)) (V.d (.list (a++b))) (FRel G F s):=by
 have new:s.heap.get? s.heap.objs.size=none:=bj (aL _)
 refine eY (yb sr rv h1) ?_;intro D1 eg eo;subst eg;obtain ⟨o1,vs1,n1,e1,e2,e3,as1,r1,q1⟩:=eo
 refine eY (yb sr ru h2) ?_;intro D2 eg eo;subst eg;obtain ⟨o2,vs2,n2,f1,f2,f3,as2,r2,q2⟩:=eo
 obtain⟨m,hm⟩:=sr.fm.ns
 refine ff (zgo hm) ?_;intro fr nw
 refine LeafD.leafL sr fun Q E q=>?_
 refine add_arrays fr nw ⟨o1,e1,e2,n1,e3⟩ ⟨o2,f1,f2,n2,f3⟩ (fun h' fr' nw'=>?_) (by have:=zd r1;have:=zd r2;simp at *;exact ak (by lia) (ak hz (by decide)))
 have kp:KeepsL F.env.locals s { s with heap:=h' }:=qm (tk:=s.toks) (dr:=s.drawn) hm fr' nw' fun p hp=>ag _ hp
 have st:=kp.step sr.fm
 refine ff (zu sr.br sr.fm st r1 q1) ?_;intro r1' q1'
 refine ff (zu sr.br sr.fm st r2 q2) ?_;intro r2' q2'
 refine q _ _ kp ⟨y5 (nw' _ (.head _)).1 rfl rfl (by simpa using yh r1' r2') (fun a ha=>(ai.mp ha).elim (q1 a) (q2 a)) sr.size_new,fun uA uA=>⟨_,rfl,new,_,(nw' _ (.head _)).1,rfl,rfl⟩⟩
theorem zis{v u:Value}{x y:V}{a b:List PyData}(sr:SR G F β ρ O s.heap)(rv:VR G F.B β s.heap v x)(ru:VR G F.B β s.heap u y)(h1:look O x=some (.tuple a))(h2:look O y=some (.tuple b))(hz:a.length+b.length≤line) :
 LeafD G F s β (tr G A (binaryOp .Add v u)) (V.d (.tuple (a++b))) (FRel G F s):=by
 have:=yi h1 (fun uA h=>by exfalso;injection h);subst this
 have:=yi h2 (fun uA h=>by exfalso;injection h);subst this
 obtain⟨D1,o1,vs1,n1,rfl,e1,e2,e3,as1,r1,q1⟩:=rv.tuple_inv
 obtain⟨D2,o2,vs2,n2,rfl,f1,f2,f3,as2,r2,q2⟩:=ru.tuple_inv
 obtain⟨m,hm⟩:=sr.fm.ns
 refine ff (zgo hm) ?_;intro fr nw
 refine LeafD.leafL sr fun Q E q=>?_
 refine add_tuples (vs:=vs1.toList) (ws:=vs2.toList) fr nw ⟨o1,e1,e2,n1,by simpa using e3⟩ ⟨o2,f1,f2,n2,by simpa using f3⟩ (fun hv=>?_) (fun uA hv=>?_) (fun uA uA h' fr' nw'=>?_) (by have:=zd r1;have:=zd r2;simp at *;exact ak (by lia) (ak hz (by decide)))
 ·have hv':vs1.toList=[]:=hv
  rw[hv'] at r1;cases r1
  exact q _ _ (KeepsAll.refl s).toL ⟨ru,fun uA h=>by injection h with eU;exfalso;injection eU⟩
 ·have hv':vs2.toList=[]:=hv
  rw[hv'] at r2;cases r2
  rw[be] at q
  exact q _ _ (KeepsAll.refl s).toL ⟨rv,fun uA h=>by injection h with eU;exfalso;injection eU⟩
 ·have kp:KeepsL F.env.locals s { s with heap:=h' }:=qm (tk:=s.toks) (dr:=s.drawn) hm fr' nw' fun p hp=>ag _ hp
  have st:=kp.step sr.fm
  refine ff (zu sr.br sr.fm st r1 q1) ?_;intro r1' q1'
  refine ff (zu sr.br sr.fm st r2 q2) ?_;intro r2' q2'
  exact q _ _ kp ⟨kx (nw' _ (.head _)).1 rfl rfl (by simpa using yh r1' r2') (fun a ha=>(ai.mp ha).elim (q1 a) (q2 a)),fun uA h=>by injection h with eU;exfalso;injection eU⟩
theorem zir{v:Value}{x:V}{a:Str}{n:Int}{t':Tok}(sr:SR G F β ρ O s.heap)(rv:VR G F.B β s.heap v x)(h1:look O x=some (.str a))(hz:a.length≤256∧0≤n∧n≤256) :
 LeafD G F s β (tr G A (binaryOp .Mult v (.int n t'))) (V.d (.str (Txt.mul a n))) (FRel G F s):=by
 have:=yi h1 (fun uA h=>by exfalso;injection h);subst this
 obtain⟨t,rfl⟩:=rv.str_inv
 exact LeafD.leaf sr fun Q E q=>SB.mul (mulOk_of 256 256 hz.1 (by lia) (by lia) (by decide) (by decide)) (fun t' k=>q _ _ (KeepsAll.toks _ _) ⟨VR.str,fun uA h=>by injection h with eU;exfalso;injection eU⟩)
theorem zf4{v:Value}{x:V}{a:List PyData}{n:Int}{t':Tok}(sr:SR G F β ρ O s.heap)(rv:VR G F.B β s.heap v x)(h1:look O x=some (.list a))(hz:a.length * n.toNat≤256∧0≤n∧n≤256) :
 LeafD G F s β (tr G A (binaryOp .Mult v (.int n t'))) (V.d (.list (repL a n))) (FRel G F s):=by
 refine eY (yb sr rv h1) ?_;intro D1 eg eo;subst eg;obtain ⟨o1,vs1,n1,e1,e2,e3,as1,r1,q1⟩:=eo
 obtain⟨m,hm⟩:=sr.fm.ns
 refine ff (zgo hm) ?_;intro fr nw
 refine LeafD.leafL sr fun Q E q=>?_
 have hl:=zd r1
 refine PySem.W.KMa.mul (vs:=vs1.toList) fr nw ⟨o1,e1,e2,n1,by simpa using e3⟩ (by lia) (by lia) (by rw[hl];exact hz.1) rfl fun D h' fr' nw' hlt=>?_
 have kp:KeepsL F.env.locals s { s with heap:=h' }:=qm (tk:=s.toks) (dr:=s.drawn) hm fr' nw' fun p hp=>ag _ hp
 have st:=kp.step sr.fm
 refine ff (zu sr.br sr.fm st r1 q1) ?_;intro r1' q1'
 refine eY (we r1' q1' n.toNat) ?_;intro bs r2 q2
 have hD:=nw' _ (.head _)
 have nD:s.heap.get? D=none:=by
  cases e:s.heap.get? D with
  | none=>rfl
  | some o=>
    exfalso
    refine eW (bk F.env.locals D) ?_ ?_
    ·intro h;exact cB _ (hlt (D,o) (mem_newsOf.mpr ⟨h,e⟩))
    ·intro h;have h':D < F.env.locals:=Nat.lt_of_le_of_ne h hD.2.1
     have:=hD.2.2
     rw[u5,af h'] at this
     rw[e] at this;exfalso;injection this
 refine q _ _ kp ⟨y5 hD.1 rfl rfl (by simpa [repL] using r2) q2 ⟨fun hb=>?_,fun hb=>?_⟩,fun uA uA=>⟨D,rfl,nD,_,hD.1,rfl,rfl⟩⟩
 ·refine eY (sr.br.alive D hb) ?_;intro o e _;rw[e] at nD;exfalso;injection nD
 ·refine eY (sr.fm.stor D hb) ?_;intro o e _;rw[e] at nD;exfalso;injection nD
theorem ziq{v:Value}{x:V}{a:List PyData}{n:Int}{t':Tok}(sr:SR G F β ρ O s.heap)(rv:VR G F.B β s.heap v x)(h1:look O x=some (.tuple a))(hz:a≠[]∧a.length * n.toNat≤256∧2≤n∧n≤256) :
 LeafD G F s β (tr G A (binaryOp .Mult v (.int n t'))) (V.d (.tuple (repL a n))) (FRel G F s):=by
 have:=yi h1 (fun uA h=>by exfalso;injection h);subst this
 obtain⟨D1,o1,vs1,n1,rfl,e1,e2,e3,as1,r1,q1⟩:=rv.tuple_inv
 have hl:=zd r1
 refine LeafD.leaf sr fun Q E q=>?_
 refine zij e1 e2 e3 (by cases hv:vs1.isEmpty with
  | false=>rfl
  | true=>rw[Array.isEmpty_iff] at hv;subst hv;simp at hl;exact absurd (cZ hl.symm) hz.1) hz.2.2.1 hz.2.2.2 (by rw[← aC,hl];exact hz.2.1) ?_
 have kp:=KeepsAll.push s { cls:=Value.type "tuple",data:=Data.seq (List.replicate n.toNat vs1.toList).flatten.toArray } s.toks
 refine eY (we (zy kp.kept r1) q1 n.toNat) ?_;intro bs r2 q2
 exact q _ _ kp ⟨kx (aF _ rfl) rfl rfl (by simpa [repL] using r2) q2,fun uA h=>by injection h with eU;exfalso;injection eU⟩
theorem zn0{op:Bop}{o:Operator}{i j:Int}{t t':Tok}{c:PyData}(ho:zeu op o=true)(sr:SR G F β ρ O s.heap)(h:arith op i j=some c) :
 LeafD G F s β (tr G A (binaryOp o (.int i t) (.int j t'))) (V.d c) (FRel G F s):=by
 cases op with
 | sub=>
   cases o <;> first | exact (am ho).elim | skip
   injection h with eU;subst eU
   exact zbn sr fun Q E q=>sub_int (q _)
 | fdiv=>
   cases o <;> first | exact (am ho).elim | skip
   refine ff (yy h) ?_;intro hz eg;subst eg
   exact zbn sr fun Q E q=>floordiv_int hz.1 (q _) (.inl (PyProof.noPylong_small hz.2))
 | mod=>
   cases o <;> first | exact (am ho).elim | skip
   by_cases hz:j=0
   ·unfold arith at h;dsimp only at h;rw[af hz] at h;exfalso;injection h
   ·unfold arith at h;dsimp only at h;rw[aj hz] at h;injection h with eU;subst eU
    exact zbn sr fun Q E q=>mod_int' hz (q _)
 | pow=>
   cases o <;> first | exact (am ho).elim | skip
   refine ff (yy h) ?_;intro dZ eg;refine ff dZ ?_;clear dZ;intro dZ eg;subst dZ;subst eg;subst eg
   refine zbn sr fun Q E q=>pow_int (by decide) (by decide +kernel) ?_
   have e:(10:Int) ^ (20:Int).toNat=100000000000000000000:=by decide
   rw[e]
   exact q _
 | _=>exfalso;injection h
theorem znz{op:Bop}{o:Operator}{v u:Value}{x y:V}{c:PyData}(ho:zeu op o=true)(sr:SR G F β ρ O s.heap)(rv:VR G F.B β s.heap v x)(ru:VR G F.B β s.heap u y)
 (hc:((look O x).bind fun x=>(look O y).bind fun y=>zb6 op x y)=some c):LeafD G F s β (tr G A (binaryOp o v u)) (V.d c) (FRel G F s):=by
 refine eY (aW.mp hc) ?_;intro a h1 hc
 refine eY (aW.mp hc) ?_;intro b h2 h3
 have rest:∀ op,zb6 op a b=intD (fun i=>intD (arith op i) b) a→zeu op o=true→zb6 op a b=some c→LeafD G F s β (tr G A (binaryOp o v u)) (V.d c) (FRel G F s):=fun op e ho h3=>by
  rw[e] at h3
  refine eY (dp h3) ?_;intro i eg h3;subst eg
  have h3:intD (arith op i) b=some c:=h3
  refine eY (dp h3) ?_;intro j eg h3;subst eg
  refine fe (rv.ints h1) ?_;intro t eg;subst eg
  refine fe (ru.ints h2) ?_;intro t' eg;subst eg
  exact zn0 ho sr h3
 cases op with
 | add=>
   cases o <;> first | exact (am ho).elim | skip
   rcases zo6 h3 with ⟨i,j,rfl,rfl,rfl⟩ | ⟨i,j,rfl,rfl,hz,rfl⟩ | ⟨i,j,rfl,rfl,hz,rfl⟩ | ⟨i,j,rfl,rfl,hz,rfl⟩
   ·refine fe (rv.ints h1) ?_;intro t eg;subst eg
    refine fe (ru.ints h2) ?_;intro t' eg;subst eg
    exact zbn sr fun Q E q=>wpAny_add_int (q _)
   ·exact zf7 sr rv ru h1 h2 hz
   ·exact zis sr rv ru h1 h2 hz
   ·exact zit sr rv ru h1 h2 hz
 | mul=>
   cases o <;> first | exact (am ho).elim | skip
   refine eY (dp h3) ?_;intro n eg h3;subst eg
   refine fe (ru.ints h2) ?_;intro t' eg;subst eg
   cases a with
   | int i=>
     refine ff (yy h3) ?_;intro hz eg;subst eg
     refine fe (rv.ints h1) ?_;intro t eg;subst eg
     exact zbn sr fun Q E q=>mul_int (q _) (g9 hz)
   | str a=>refine ff (yy h3) ?_;intro hz eg;subst eg;exact zir sr rv h1 hz
   | list a=>refine ff (yy h3) ?_;intro hz eg;subst eg;exact zf4 sr rv h1 hz
   | tuple a=>refine ff (yy h3) ?_;intro hz eg;subst eg;exact ziq sr rv h1 hz
   | _=>exfalso;injection h3
 | sub=>exact rest .sub rfl ho h3
 | fdiv=>exact rest .fdiv rfl ho h3
 | mod=>exact rest .mod rfl ho h3
 | pow=>exact rest .pow rfl ho h3
end
section
variable{G:Gl}{F:Fm}{A:Around}{s:Shared}{β:List Addr}{ρ:Loc}{O:za}
theorem zsj{op:Cop}{o:CmpOp}{v u:Value}{x y:V}{k:Nat}(ro:Room A k)(ho:x4 op o=true)(sr:SR G F β ρ O s.heap)(rv:VR G F.B β s.heap v x)(ru:VR G F.B β s.heap u y) :
 Does G F A s β (compareOp o v u) ((cmpG op x y O).lift ρ) (VRel G F):=by
 unfold cmpG
 cases h1:look O x with
 | none=>trivial
 | some a=>
   cases h2:look O y with
   | none=>trivial
   | some b=>
     show DoesW G F s β _ ((opt ((kr op a b).map fun b=>V.d (.bool b)) O).lift ρ) _
     cases h3:kr op a b with
     | none=>trivial
     | some c=>
       refine fe (vw sr rv h1) ?_;intro as r1
       refine fe (vw sr ru h2) ?_;intro bs r2
       exact Does.leaf sr fun Q E q=>zmd ro ho r1 r2 h3 (q _ _ (KeepsAll.refl s) VR.bool)
set_option tactic.hygienic true in
theorem zpp{o:CmpOp}{v u:Value}{x y:V}{f:Bool→Bool}(ho:compareOp o v u=(do return Value.bool (f (← isSame v u))))(sr:SR G F β ρ O s.heap)(rv:VR G F.B β s.heap v x)(ru:VR G F.B β s.heap u y) :
 Does G F A s β (compareOp o v u) ((isV f x y O).lift ρ) (VRel G F):=by
 cases x <;> first | trivial | skip
 cases y <;> first | trivial | skip
 rename_i a b
 show DoesW G F s β _ ((opt ((isop a b).map fun c=>V.d (.bool (f c))) O).lift ρ) _
 cases h:isop a b with
 | none=>trivial
 | some c=>
   refine Does.leaf sr fun Q E q=>?_
   rw[ho,zn5 sr rv ru h]
   exact aa (ab (ab (q _ _ (KeepsAll.refl s) VR.bool)))
theorem p9{op:Cop}{o:CmpOp}{v u:Value}{x y:V}{k:Nat}(ro:Room A k)(ho:x4 op o=true)(sr:SR G F β ρ O s.heap)(rv:VR G F.B β s.heap v x)(ru:VR G F.B β s.heap u y) :
 Does G F A s β (compareOp o v u) ((cmpV op x y O).lift ρ) (VRel G F):=by
 have dflt:=zsj ro ho sr rv ru
 cases op with
 | is=>cases o <;> first | exact (am ho).elim | exact zpp rfl sr rv ru
 | isnot=>cases o <;> first | exact (am ho).elim | exact zpp rfl sr rv ru
 | _=>exact dflt
theorem v9{v:Value}{d:V}{b:Bool}(r:VR G F.B β s.heap v d)(e:truth d=some b):v=.bool b:=by
 cases d with
 | d x=>cases x with
   | bool c=>injection e with eU;subst eU;exact r.bool_inv
   | _=>exfalso;injection e
 | _=>exfalso;injection e
noncomputable abbrev BRel:List Addr→Heap→Bool→Bool→Prop:=fun uA uA a b=>a=b
theorem jg{v:Value}{d:V}(sr:SR G F β ρ O s.heap)(r:VR G F.B β s.heap v d):Does G F A s β (truthy v) ((opt (truth d) O).lift ρ) BRel:=by
 cases h:truth d with
 | none=>trivial
 | some b=>
   have:=v9 r h;subst this
   exact Does.leaf sr fun Q E q=>bL (q _ _ (KeepsAll.refl s) rfl)
theorem d_ok{T:WT Value}{v:Value}{d:V}(sr:SR G F β ρ O s.heap)(r:VR G F.B β s.heap v d)(h:∀ Q E,Q v s→T Q E s):DoesW G F s β T ((R.ok d O).lift ρ) (VRel G F):=
 Does.leaf sr fun Q E q=>h Q E (q _ _ (KeepsAll.refl s) r)
theorem zun{x:Expr}{p:Pos}{r:R za V}(h1:Does G F A s β (eval x F.env) (r.lift ρ) (VRel G F)) :
 Does G F A s β (eval (.UnaryOp .USub x p) F.env) ((r.bind fun v O=>(match v with
  | .d (.int i)=>R.ok (V.d (.int (-i))) O
  | _=>.stuck)).lift ρ) (VRel G F):=by
 refine DoesW.seqE (T₂:=fun v=>tr G A (unaryOp .USub v)) (fun Q E h=>wpAny_UnaryOp h) h1 fun s' β' v d O' e st sr rv=>?_
 cases d with
 | d x=>cases x with
   | int i=>obtain⟨t,rfl⟩:=rv.int_inv;exact Does.leaf sr fun Q E q=>PySem.P.neg_int (q _ _ (KeepsAll.toks _ _) VR.int)
   | _=>trivial
 | _=>trivial
theorem d_nt{x:Expr}{p:Pos}{r:R za V}(h1:Does G F A s β (eval x F.env) (r.lift ρ) (VRel G F)) :
 Does G F A s β (eval (.UnaryOp .Not x p) F.env) ((r.bind fun v O=>opt ((truth v).map fun b=>V.d (.bool !b)) O).lift ρ) (VRel G F):=by
 refine DoesW.seqE (T₂:=fun v=>tr G A (unaryOp .Not v)) (fun Q E h=>wpAny_UnaryOp h) h1 fun s' β' v d O' e st sr rv=>?_
 cases h:truth d with
 | none=>trivial
 | some b=>
   have:=v9 rv h;subst this
   exact Does.leaf sr fun Q E q=>not_value (bL (q _ _ (KeepsAll.refl _) VR.bool))
end
theorem zo{h:Heap}{P:Addr→Prop}{vs:List Value}{xs:List PyData}{as:List Addr}(r:ReadsAll h vs xs as):(∀ a∈as,P a)→∀ {i:Nat} {x:PyData},xs[i]?=some x→∃ v bs,vs[i]?=some v∧Reads h v x bs∧∀ a∈bs,P a:=by
 refine zz (motive:=fun vs xs as=>(∀ a∈as,P a)→∀ {i:Nat} {x:PyData},xs[i]?=some x→∃ v bs,vs[i]?=some v∧Reads h v x bs∧∀ a∈bs,P a) ?_ ?_ r
 ·intro _ i x e;rw[List.getElem?_nil] at e;exfalso;injection e
 ·intro v d as vs ds bs r _ ih q i x e
  cases i with
  | zero=>have e:some d=some x:=e
          injection e with eU;subst eU;exact fj v as rfl r (fun a ha=>q a (az _ ha))
  | succ i=>exact ih (fun a ha=>q a (au _ ha)) (i:=i) e
theorem zaw{h:Heap}{P:Addr→Prop}{vs:List Value}{xs:List PyData}{as:List Addr}(r:ReadsAll h vs xs as):(∀ a∈as,P a)→∀ (k:Nat),∃ bs,ReadsAll h (vs.drop k) (xs.drop k) bs∧∀ a∈bs,P a:=by
 refine zz (motive:=fun vs xs as=>(∀ a∈as,P a)→∀ (k:Nat),∃ bs,ReadsAll h (vs.drop k) (xs.drop k) bs∧∀ a∈bs,P a) ?_ ?_ r
 ·intro _ k;exact eZ [] (by rw[List.drop_nil,List.drop_nil];exact .nil) (fun uA h=>nomatch h)
 ·intro v d as vs ds bs r rs ih q k
  cases k with
  | zero=>exact eZ _ (.cons r rs) q
  | succ k=>exact ih (fun a ha=>q a (au _ ha)) k
theorem zav{h:Heap}{P:Addr→Prop}{vs:List Value}{xs:List PyData}{as:List Addr}(r:ReadsAll h vs xs as):(∀ a∈as,P a)→∀ (k:Nat),∃ bs,ReadsAll h (vs.take k) (xs.take k) bs∧∀ a∈bs,P a:=by
 refine zz (motive:=fun vs xs as=>(∀ a∈as,P a)→∀ (k:Nat),∃ bs,ReadsAll h (vs.take k) (xs.take k) bs∧∀ a∈bs,P a) ?_ ?_ r
 ·intro _ k;exact eZ [] (by rw[List.take_nil,List.take_nil];exact .nil) (fun uA h=>nomatch h)
 ·intro v d as vs ds bs r rs ih q k
  cases k with
  | zero=>exact eZ [] .nil (fun uA h=>nomatch h)
  | succ k=>
    refine eY (ih (fun a ha=>q a (au _ ha)) k) ?_;intro b r' q'
    exact eZ (as++b) (.cons r r') (fun a ha=>(ai.mp ha).elim (fun h=>q a (az _ h)) (q' a))
theorem pe{h:Heap}{P:Addr→Prop}{vs:List Value}{xs:List PyData}{as:List Addr}(r:ReadsAll h vs xs as):(∀ a∈as,P a)→∃ bs,ReadsAll h vs.reverse xs.reverse bs∧∀ a∈bs,P a:=by
 refine zz (motive:=fun vs xs as=>(∀ a∈as,P a)→∃ bs,ReadsAll h vs.reverse xs.reverse bs∧∀ a∈bs,P a) (fun uA=>⟨[],.nil,fun uA h=>nomatch h⟩) ?_ r
 intro v d as vs ds bs r rs ih q
 refine eY (ih fun a ha=>q a (au _ ha)) ?_;intro b r' q'
 refine eZ (b++(as++[])) ?_ (fun a ha=>?_)
 ·rw[List.reverse_cons,List.reverse_cons];exact yh r' (.cons r .nil)
 ·rw[be] at ha
  exact (ai.mp ha).elim (q' a) fun h=>q a (az _ h)
section
variable{G:Gl}{F:Fm}{A:Around}{s:Shared}{β:List Addr}{ρ:Loc}{O:za}
set_option tactic.hygienic true in
theorem zhh{xs:List PyData}{k:Int}{z:PyData}{x:PyData}(hx:items x=some xs)(e:idxD x (.int k)=some z):xs.length≤line∧((0≤k∧xs[k.toNat]?=some z)∨(k < 0∧0≤k+xs.length∧xs[(k+xs.length).toNat]?=some z)):=by
 unfold idxD at e
 rw[hx] at e
 dsimp only at e
 split at e
 ·rename_i h1
  refine⟨h1,?_⟩
  split at e
  ·rename_i h2;exact .inl ⟨h2,e⟩
  ·rename_i h2
   split at e
   ·rename_i h3;exact .inr ⟨by lia,h3,e⟩
   ·exfalso;injection e
 ·exfalso;injection e
theorem qw{α:Type}{xs:List α}{i:Nat}{z:α}(e:xs[i]?=some z):i < xs.length:=by
 refine eW (bk i xs.length) ?_ ?_
 ·intro h;exact h
 ·intro h;rw[bc h] at e;exfalso;injection e
theorem zio{value slice:Expr}{a:Addr}{xs:List PyData}{k:Int}{t:Tok}{z:PyData}{Q:Value→Shared→Prop}{E:Value→Shared→Prop}(l:ListAt s.heap F.B β a xs)(e:idxD (.list xs) (.int k)=some z)
 (hs:subscripted slice false (.ref a) (.int k t)=operate [.ref a,.int k t] (getItem (.ref a) (.int k t)))
 (q:∀ v,VR G F.B β s.heap v (.d z)→Q v s):wpAny (model G.prog G.w) A (subscriptTail value slice (.ref a) (.int k t)) Q E s:=by
 obtain⟨o,vs,n,e1,e2,e3,as,r,q1⟩:=l
 have hl:=zd r
 have hsz:vs.size=xs.length:=by rw[← hl,aC]
 obtain⟨h0,h | h⟩:=zhh (xs:=xs) rfl e
 ·refine fk (zo r q1 h.2) ?_;intro v bs g1 g2 g3
  have:=qw h.2
  refine tail_any (T:="list") ⟨o,e1,e2⟩ slot_list_getitem.lookup (wpAny_getItem_list ⟨o,e1,e2,n,e3⟩ h.1 (by simp only [line] at h0;lia) (by simpa using g1) (q v ⟨bs,g2,g3⟩)) hs
 ·refine fk (zo r q1 h.2.2) ?_;intro v bs g1 g2 g3
  refine tail_any (T:="list") ⟨o,e1,e2⟩ slot_list_getitem.lookup (wpAny_getItem_list_neg ⟨o,e1,e2,n,e3⟩ h.1 (by rw [hsz];lia) (by simp only [line] at h0;lia) (by rw [hsz];simpa using g1) (q v ⟨bs,g2,g3⟩)) hs
theorem zfa{value slice:Expr}{v:Value}{xs:List PyData}{k:Int}{t:Tok}{z:PyData}{Q:Value→Shared→Prop}{E:Value→Shared→Prop}(rv:VR G F.B β s.heap v (.d (.tuple xs)))(e:idxD (.tuple xs) (.int k)=some z)
 (hs:subscripted slice false v (.int k t)=operate [v,.int k t] (getItem v (.int k t)))
 (q:∀ v,VR G F.B β s.heap v (.d z)→Q v s):wpAny (model G.prog G.w) A (subscriptTail value slice v (.int k t)) Q E s:=by
 obtain⟨a,o,vs,n,rfl,e1,e2,e3,as,r,q1⟩:=rv.tuple_inv
 have hl:=zd r
 have hsz:vs.size=xs.length:=by rw[← hl,aC]
 have ht:IsTup s.heap a vs:=⟨o,e1,e2,n,e3⟩
 obtain⟨h0,h | h⟩:=zhh (xs:=xs) rfl e
 ·refine fk (zo r q1 h.2) ?_;intro v bs g1 g2 g3
  have:=qw h.2
  exact tail_any (T:="tuple") ht.typeIs slot_tuple_getitem.lookup (getItem_tuple ht (by lia) (by simp only [line] at h0;lia) (j:=k.toNat) (by unfold seqIndex?;rw [hsz];simp;lia) (by simpa using g1) (q v ⟨bs,g2,g3⟩)) hs
 ·refine fk (zo r q1 h.2.2) ?_;intro v bs g1 g2 g3
  have:=qw h.2.2
  exact tail_any (T:="tuple") ht.typeIs slot_tuple_getitem.lookup (getItem_tuple ht (by simp only [line] at h0;lia) (by lia) (j:=(k+xs.length).toNat) (by unfold seqIndex?;rw [hsz];simp;lia) (by simpa using g1) (q v ⟨bs,g2,g3⟩)) hs
end
section
variable{prog:Program}{w:World}{A:Around}{E:Value→Shared→Prop}{s:Shared}
theorem j7{α β:Type}{f g:α→Option β}:∀ {l:List α},(∀ x∈l,f x=g x)→l.filterMap f=l.filterMap g
 | [],_=>rfl
 | x::r,h=>by
   rw[dS,dS,h x (.head _),j7 fun y hy=>h y (.tail _ hy)]
end
theorem xj{e:Expr}(h:∀ l u t p,e≠.Slice l u t p)(o i:Value):subscripted e false o i=operate [o,i] (getItem o i):=by
 cases e <;> first | rfl | exact absurd rfl (h _ _ _ _)
section
variable{G:Gl}{F:Fm}{A:Around}{s:Shared}{β:List Addr}{ρ:Loc}{O:za}
theorem zn8{a k z:PyData}(h:idxD a k=some z):(∃ i,k=.int i)∧((∃ xs,a=.list xs)∨∃ xs,a=.tuple xs):=by
 cases a <;> first | (cases h;done) | skip
 ·cases k <;> first | (cases h;done) | exact⟨⟨_,rfl⟩,.inl ⟨_,rfl⟩⟩
 ·cases k <;> first | (cases h;done) | exact⟨⟨_,rfl⟩,.inr ⟨_,rfl⟩⟩
set_option tactic.hygienic true in
theorem zsd{value slice:Expr}{v u:Value}{x y:V}{k:Nat}(ro:Room A k)(hs:∀ l u t p,slice≠.Slice l u t p)(sr:SR G F β ρ O s.heap)(rv:VR G F.B β s.heap v x)(ru:VR G F.B β s.heap u y) :
 Does G F A s β (subscriptTail value slice v u) ((idxV x y O).lift ρ) (VRel G F):=by
 cases y <;> first | trivial | skip
 rename_i k'
 unfold idxV
 cases h1:look O x with
 | none=>trivial
 | some a=>
   show DoesW G F s β _ ((opt ((idxD a k').map V.d) O).lift ρ) _
   cases h3:idxD a k' with
   | none=>trivial
   | some z=>
     refine ff (zn8 h3) ?_;intro dZ hx;refine fe dZ ?_;clear dZ;intro i eg;subst eg
     obtain⟨t,rfl⟩:=ru.int_inv
     refine eW hx ?_ ?_<;>clear hx
     ·rintro ⟨xs,rfl⟩;refine eY (yb sr rv h1) ?_;intro b eg l;subst eg
      exact Does.leaf sr fun Q E q=>zio l h3 (xj hs _ _) fun v rv=>q _ _ (KeepsAll.refl s) rv
     ·rintro ⟨xs,rfl⟩;rw[yi h1 fun uA e=>nomatch e] at rv
      exact Does.leaf sr fun Q E q=>zfa rv h3 (xj hs _ _) fun v rv=>q _ _ (KeepsAll.refl s) rv
theorem zur{x y:Expr}{p:Pos}{ra:R za V}{rb:za→R za V}{k:Nat}(ro:Room A k)(hs:∀ l u t p,y≠.Slice l u t p)
 (h1:Does G F A s β (eval x F.env) (ra.lift ρ) (VRel G F)) (h2:∀ s' β' O',SR G F β' ρ O' s'.heap→Does G F A s' β' (eval y F.env) ((rb O').lift ρ) (VRel G F)) :
 Does G F A s β (eval (.Subscript x y p) F.env) ((ra.bind fun v O=>(rb O).bind fun u O=>idxV v u O).lift ρ) (VRel G F):=by
 refine DoesW.seqE (T₂:=fun a Q E s₁=>wpAny (model G.prog G.w) A (eval y F.env) (fun b s₂=>wpAny (model G.prog G.w) A (subscriptTail x y a b) Q E s₂) E s₁) (fun Q E h=>Subscript_ h) h1 fun s' β' v d O' e st sr rv=>?_
 refine DoesW.seqE (T₁:=tr G A (eval y F.env)) (T₂:=fun b=>tr G A (subscriptTail x y v b)) (fun Q E h=>h) (h2 s' β' O' sr) fun s₂ β₂ u d₂ O₂ e₂ st₂ sr₂ ru=>?_
 exact zsd ro hs sr₂ (rv.step sr.br sr.fm st₂) ru
theorem part_of{N:List Addr}{h:Heap}{v:Value}{l:PyData}{n dflt c:Nat}(r:VR G N β h v (.d l))(e:clip n dflt l=some c):∃ k,IsPart v k∧c=k.elim dflt (clipAt n):=by
 cases l with
 | none=>have:=r.none_inv;subst this;injection e with eU;subst eU;exact eZ none .none rfl
 | int i=>obtain⟨t,rfl⟩:=r.int_inv;injection e with eU;subst eU;exact eZ (some i) (.int i t) rfl
 | _=>exfalso;injection e
theorem zbe{value:Expr}{lo hi st:Option Expr}{ps:Pos}{vl vu vk:Value}{D:Addr}{o:Obj}{vs:Array Value}{n:Nat}{klo khi kst:Option Int}{ys:List PyData}{bs:List Addr}{ops:List Value}(sr:SR G F β ρ O s.heap)
 (e1:s.heap.get? D=some o) (e2:o.cls=.type "list") (e3:o.data=.seq vs n) (hops:subscripted (.Slice lo hi st ps) false (.ref D) (.ref s.heap.objs.size)=operate ops (getItem (.ref D) (.ref s.heap.objs.size)))
 (hl:vs.size≤sizeLine) (pl:IsPart vl klo) (pu:IsPart vu khi) (pk:IsPart vk kst) (h0:kst≠some 0) (r2:ReadsAll s.heap (slicePick vs klo khi kst).toList ys bs) (q2:∀ a∈bs,a∉β∧a∉F.B) :
 DoesW G F s β (fun Q E s=>wpAny (model G.prog G.w) A (subscriptTail value (.Slice lo hi st ps) (.ref D) (.ref s.heap.objs.size)) Q E { s with heap:=s.heap.push { cls:=.type "slice",data:=.fields #[vl,vu,vk] } }) (.ok (V.d (.list ys)) (ρ,O)) (VRel G F):=by
 refine Does.leaf sr fun Q E q=>?_
 refine tail_any (T:="list") ⟨o,ah _ e1,e2⟩ slot_list_getitem.lookup ?_ hops
 refine wpAny_getItem_list_slice (lo:=klo) (hi:=khi) (st:=kst) ⟨o,ah _ e1,e2,n,e3⟩ (Heap.IsSliceOf.new ..) pl pu pk h0 ?_ hl
 generalize ho1:({ cls:=.type "slice",data:=.fields #[vl,vu,vk] }:Obj)=o1
 have kp2:KeepsAll s { s with heap:=(s.heap.push o1).push { cls:=.type "list",data:=.seq (slicePick vs klo khi kst) } }:=⟨rfl,rfl,fun b o e=>ah _ (ah _ e)⟩
 have nD:s.heap.get? (s.heap.push o1).objs.size=none:=by
  cases e:s.heap.get? (s.heap.push o1).objs.size with
  | none=>rfl
  | some o=>exact absurd (a6 e) (by rw[bv];exact Nat.not_lt.mpr (cH _))
 refine q _ _ kp2 (y5 (aF _ rfl) rfl rfl (zy kp2.kept r2) q2 ⟨fun hb=>?_,fun hb=>?_⟩)
 ·refine eY (sr.br.alive _ hb) ?_;intro o e _;rw[e] at nD;exfalso;injection nD
 ·refine eY (sr.fm.stor _ hb) ?_;intro o e _;rw[e] at nD;exfalso;injection nD
theorem vq{f:List PyData→Option PyData}{x y:PyData}(h:ofList f x=some y):∃ xs,x=.list xs∧f xs=some y:=by
 cases x <;> first | (cases h;done) | exact eZ _ rfl h
inductive zo7(xs:List PyData)(l h y:PyData):Prop
 | mk (a b:Nat) (hl:xs.length≤line) (h1:clip xs.length 0 l=some a) (h2:clip xs.length xs.length h=some b) (e:y=.list (j9 xs a b))
theorem zdl{xs:List PyData}{l h y:PyData}(e:xo xs l h=some y):zo7 xs l h y:=by
 unfold xo at e
 by_cases hl:xs.length≤line
 ·rw[af hl] at e
  refine eY (aW.mp e) ?_;intro a h1 e
  refine eY (aE.mp e) ?_;intro b h2 e
  exact⟨a,b,hl,h1,h2,e.symm⟩
 ·rw[aj hl] at e;exfalso;injection e
theorem zl2{value:Expr}{lo hi:Option Expr}{ps:Pos}{v vl vu:Value}{x:V}{l h:PyData}(sr:SR G F β ρ O s.heap)(rv:VR G F.B β s.heap v x)(rl:VR G F.B β s.heap vl (.d l))(rh:VR G F.B β s.heap vu (.d h)) :
 DoesW G F s β (fun Q E s=>wpAny (model G.prog G.w) A (subscriptTail value (.Slice lo hi none ps) v (.ref s.heap.objs.size)) Q E { s with heap:=s.heap.push { cls:=.type "slice",data:=.fields #[vl,vu,.none] } })
  ((opt (((look O x).bind fun x=>zfi x l h).map V.d) O).lift ρ) (VRel G F):=by
 cases h3:(look O x).bind fun x=>zfi x l h with
 | none=>trivial
 | some c=>
   refine eY (aW.mp h3) ?_;intro a h1 h3
   refine eY (vq (f:=fun xs=>xo xs l h) h3) ?_;intro xs eg h4;subst eg
   obtain⟨a,b,hl,hc1,hc2,rfl⟩:=zdl h4
   refine eY (yb sr rv h1) ?_;intro D eg eo;subst eg;obtain ⟨o,vs,n,e1,e2,e3,as,r1,q1⟩:=eo
   have hsz:vs.size=xs.length:=by rw[← zd r1,aC]
   refine eY (part_of rl hc1) ?_;intro klo pl eo;subst eo
   refine eY (part_of rh hc2) ?_;intro khi pu eo;subst eo
   refine eY (zaw r1 q1 (klo.elim 0 (clipAt xs.length))) ?_;intro b1 s1 t1
   refine eY (zav s1 t1 (khi.elim xs.length (clipAt xs.length) - klo.elim 0 (clipAt xs.length))) ?_;intro b2 s2 t2
   exact zbe sr e1 e2 e3 rfl (by rw[hsz];exact ak hl (by decide)) pl pu .none (by decide) (by rw[slicePick_plain,hsz];exact s2) t2
theorem zl3{value:Expr}{e:Expr}{ps:Pos}{v:Value}{x:V}{t:Tok}(sr:SR G F β ρ O s.heap)(rv:VR G F.B β s.heap v x) :
 DoesW G F s β (fun Q E s=>wpAny (model G.prog G.w) A (subscriptTail value (.Slice none none (some e) ps) v (.ref s.heap.objs.size)) Q E { s with heap:=s.heap.push { cls:=.type "slice",data:=.fields #[.none,.none,.int (-1) t] } })
  ((opt (((look O x).bind revD).map V.d) O).lift ρ) (VRel G F):=by
 cases h3:(look O x).bind revD with
 | none=>trivial
 | some c=>
   refine eY (aW.mp h3) ?_;intro a h1 h3
   refine eY (vq (f:=zj3) h3) ?_;intro xs eg h4;subst eg
   unfold zj3 at h4
   by_cases hl:xs.length≤line
   ·rw[af hl] at h4
    injection h4 with eU;subst eU
    refine eY (yb sr rv h1) ?_;intro D eg eo;subst eg;obtain ⟨o,vs,n,e1,e2,e3,as,r1,q1⟩:=eo
    have hsz:vs.size=xs.length:=by rw[← zd r1,aC]
    refine eY (pe r1 q1) ?_;intro b1 s1 t1
    exact zbe (klo:=none) (khi:=none) (kst:=some (-1)) sr e1 e2 e3 rfl (by rw[hsz];exact ak hl (by decide)) .none .none (.int _ _) (by decide) (by rw[PySem.W.krv_pick];exact s1) t1
   ·rw[aj hl] at h4;exfalso;injection h4
end
theorem zf1{names:List Str}:∀ {vals:List Value},vals.length=names.length→∀ n∈names,((names.zip vals).lookup n).isSome=true:=by
 induction names with
 | nil=>intro _ _ n hn;cases hn
 | cons x names ih=>
   intro vals hl n hn
   cases vals with
   | nil=>simp at hl
   | cons v vals=>
     rw[List.zip_cons_cons,bJ]
     cases h:n == x with
     | true=>rfl
     | false=>
       refine eW (ae.mp hn) ?_ ?_
       ·rintro rfl;rw[bS] at h;exfalso;injection h
       ·intro hn;exact ih (by simpa using hl) n hn
theorem zaz{names:List Str}:∀ {vals:List Value},vals.length=names.length→names.Nodup→names.filterMap (fun n=>((names.zip vals).lookup n).map fun v=>(n,v))=names.zip vals:=by
 induction names with
 | nil=>intro _ _ _;rfl
 | cons x names ih=>
   intro vals hl hn
   cases vals with
   | nil=>simp at hl
   | cons v vals=>
     refine ff (bH.mp hn) ?_;intro h1 h2
     rw[List.zip_cons_cons,dS]
     have e:((x,v)::names.zip vals).lookup x=some v:=by rw[bJ,bS]
     have tl:names.filterMap (fun n=>(((x,v)::names.zip vals).lookup n).map fun v=>(n,v))=names.zip vals:=by
      have e':=ih (vals:=vals) (by simpa using hl) h2
      refine Eq.trans (j7 fun n hn'=>?_) e'
      have:(n == x)=false:=by rw[beq_eq_false_iff_ne];rintro rfl;exact h1 hn'
      rw[bJ,this]
     rw[e,tl];rfl
theorem zmh{fd:FuncData}{as:List Arg}{kd:List (Option Expr)}{ds:List Expr}{vals:List Value}(hp:fd.params=⟨[],as,none,[],kd,none,ds⟩)(hd:fd.defaults=.none) :
 ∃ (T1 T2:Sem (List (Str×Value))) (f:Str×Value→List (Str×Value)→Sem (ForInStep (List (Str×Value)))) (K:List (Str×Value)→Sem (List (Str×Value))),
  bindArgs fd ⟨vals,[]⟩=(if (decide (vals.length > (as.map Arg.arg).length) && true)=true then T1 else
   if (!(((as.map Arg.arg).take ((as.map Arg.arg).length - (([]:List Value).drop (0 - (as.map Arg.arg).length)).length)).filter fun n=>(((as.map Arg.arg).zip vals).lookup n).isNone).isEmpty)=true then T2 else
    (forIn (((as.map Arg.arg).drop ((as.map Arg.arg).length - (([]:List Value).drop (0 - (as.map Arg.arg).length)).length)).zip (([]:List Value).drop (0 - (as.map Arg.arg).length))) ((as.map Arg.arg).zip vals) f >>= K)) ∧
  K ((as.map Arg.arg).zip vals)=pure (((as.map Arg.arg)++[]).filterMap fun n=>(((as.map Arg.arg).zip vals).lookup n).map fun v=>(n,v)):=by
 unfold bindArgs
 rw[hp,hd]
 exact⟨_,_,_,_,rfl,rfl⟩
theorem qo{fd:FuncData}{names:List Str}{vals:List Value}(h1:fd.params.posonlyargs=[])(h2:fd.params.vararg=none)(h3:fd.params.kwonlyargs=[])(h4:fd.params.kwarg=none)
 (ha:fd.params.args.map (·.arg)=names) (hl:vals.length=names.length) (hn:names.Nodup) (hd:fd.defaults=.none):bindArgs fd ⟨vals,[]⟩=pure (names.zip vals):=by
 have hm:∀ k,((names.take k).filter fun n=>((names.zip vals).lookup n).isNone)=[]:=fun k=>by
  rw[List.filter_eq_nil_iff]
  intro n hn h
  rw[Option.isNone_iff_eq_none] at h
  have:=zf1 hl n (List.mem_of_mem_take hn)
  rw[h] at this;exfalso;injection this
 cases hp:fd.params with
 | mk p1 p2 p3 p4 p5 p6 p7=>
   rw[hp] at h1 h2 h3 h4 ha
   subst h1;subst h2;subst h3;subst h4;subst ha
   refine fq (zmh (vals:=vals) hp hd) ?_;intro T1 T2 f K e k
   rw[e,aj (by rw[hl];simp),hm,aj (by decide),List.drop_nil,List.zip_nil_right,dC,pure_bind,k,be,zaz hl hn]
section
variable{G:Gl}{F:Fm}{A:Around}{s:Shared}{β:List Addr}{ρ:Loc}{O:za}{cx:Cx}{gval:Nat→Option PyData}{gname:Nat→Option Str}
theorem zek(sr:SR G F β ρ O s.heap):Does G F A s β (evalPart none F.env) ((R.ok (V.d .none) O).lift ρ) (VRel G F):=
 Does.leaf sr fun Q E q=>ab (q _ _ (KeepsAll.refl s) VR.none)
theorem zot{x:Expr}{lo hi:Option Expr}{ps p:Pos}{ra:R za V}{rl rh:za→R za V}
 (h1:Does G F A s β (eval x F.env) (ra.lift ρ) (VRel G F)) (h2:∀ s' β' O',SR G F β' ρ O' s'.heap→Does G F A s' β' (evalPart lo F.env) ((rl O').lift ρ) (VRel G F))
 (h3:∀ s' β' O',SR G F β' ρ O' s'.heap→Does G F A s' β' (evalPart hi F.env) ((rh O').lift ρ) (VRel G F)) :
 Does G F A s β (eval (.Subscript x (.Slice lo hi none ps) p) F.env) ((ra.bind fun v O=>(rl O).bind fun l O=>(rh O).bind fun h O=>zfh v l h O).lift ρ) (VRel G F):=by
 refine DoesW.seqE (T₂:=fun a Q E s₁=>wpAny (model G.prog G.w) A (evalPart lo F.env) (fun l s₂=>wpAny (model G.prog G.w) A (evalPart hi F.env) (fun u s₃=>
  wpAny (model G.prog G.w) A (subscriptTail x (.Slice lo hi none ps) a (.ref s₃.heap.objs.size)) Q E { s₃ with heap:=s₃.heap.push { cls:=.type "slice",data:=.fields #[l,u,.none] } }) E s₂) E s₁)
  (fun Q E h=>Subscript_ (aM h (fun a s₁ h=>wpAny_Slice (aM h (fun l s₂ h=>aM h (fun u s₃ h=>ab h) fun uA uA x=>x) fun uA uA x=>x)) fun uA uA x=>x)) h1 fun s' β' v d O' e st' sr rv=>?_
 refine DoesW.seqE (T₁:=tr G A (evalPart lo F.env)) (T₂:=fun l Q E s₂=>wpAny (model G.prog G.w) A (evalPart hi F.env) (fun u s₃=>
  wpAny (model G.prog G.w) A (subscriptTail x (.Slice lo hi none ps) v (.ref s₃.heap.objs.size)) Q E { s₃ with heap:=s₃.heap.push { cls:=.type "slice",data:=.fields #[l,u,.none] } }) E s₂) (fun Q E h=>h) (h2 s' β' O' sr) fun s₂ β₂ vl dl O₂ e₂ st₂ sr₂ rvl=>?_
 refine DoesW.seqE (T₁:=tr G A (evalPart hi F.env)) (T₂:=fun u Q E s₃=>
  wpAny (model G.prog G.w) A (subscriptTail x (.Slice lo hi none ps) v (.ref s₃.heap.objs.size)) Q E { s₃ with heap:=s₃.heap.push { cls:=.type "slice",data:=.fields #[vl,u,.none] } }) (fun Q E h=>h) (h3 s₂ β₂ O₂ sr₂) fun s₃ β₃ vh dh O₃ e₃ st₃ sr₃ rvh=>?_
 cases dl <;> first | trivial | skip
 cases dh <;> first | trivial | skip
 exact zl2 sr₃ (rv.step sr.br sr.fm (st₂.trans st₃)) (rvl.step sr₂.br sr₂.fm st₃) rvh
theorem zuk{x:Expr}{ps p p' q':Pos}{k:Nat}{ra:R za V}(h1:Does G F A s β (eval x F.env) (ra.lift ρ) (VRel G F)) :
 Does G F A s β (eval (.Subscript x (.Slice none none (some (.UnaryOp .USub (.Constant (.int 1) k p') q')) ps) p) F.env) ((ra.bind fun v O=>opt (((look O v).bind revD).map V.d) O).lift ρ) (VRel G F):=by
 refine DoesW.seqE (T₂:=fun a Q E s₁=>wpAny (model G.prog G.w) A (subscriptTail x (.Slice none none (some (.UnaryOp .USub (.Constant (.int 1) k p') q')) ps) a (.ref s₁.heap.objs.size)) Q E
  { s₁ with heap:=s₁.heap.push { cls:=.type "slice",data:=.fields #[.none,.none,.int (-1) (s₁.toks+1)] },toks:=s₁.toks+1+1 })
  (fun Q E h=>Subscript_ (aM h (fun a s₁ h=>wpAny_Slice (ab (ab (wpAny_UnaryOp (wpAny_Constant_int (PySem.P.neg_int h)))))) fun uA uA x=>x)) h1 fun s' β' v d O' e st' sr rv=>?_
 cases hr:((opt (((look O' d).bind revD).map V.d) O').lift ρ) with
 | stuck=>trivial
 | ok c S=>
   intro Q E kk
   have kp:=KeepsAll.toks s' (s'.toks+1+1)
   have dd:=zl3 (A:=A) (s:={ s' with toks:=s'.toks+1+1 }) (value:=x) (e:=.UnaryOp .USub (.Constant (.int 1) k p') q') (ps:=ps) (t:=s'.toks+1) (sr.keepAll kp.kept) (rv.keepAll kp.kept)
   rw[hr] at dd
   exact dd Q E fun s₅ β₅ a st₅ sr₅ r=>kk s₅ β₅ a ((kp.step _ _).trans st₅) sr₅ r
structure FnAt(G:Gl)(x:Str)(a:Addr)(o:Obj)(fd:FuncData):Prop where
 name:G.mg x=some (.ref a)
 get:G.h₀.get? a=some o
 data:o.data=.func fd
noncomputable def FrA(A:Around)(F:Fm):Prop:=∃ l,A.frames=some l∧∀ env∈l,env.scope.kind≠.module∧∃ L,env.frame=some L∧L∈F.fr
noncomputable def uc(G:Gl)(A:Around)(fname:Nat→Option Str)(call:Nat→List V→za→R za V):Prop:=
 ∀ (F:Fm) (s:Shared) (β:List Addr) (ρ:Loc) (O:za) (f:Nat) (x:Str) (vals:List Value) (vs:List V),SR G F β ρ O s.heap→FrA A F→fname f=some x→VRs G F.B β s.heap vals vs →
  ∃ a o fd,FnAt G x a o fd∧Does G F A s β (PySem.call (.ref a) vals) ((call f vs O).lift ρ) (VRel G F)
theorem zsk{f:Nat}{x:Str}{e:Expr}{rest:List Expr}{p q:Pos}{r:R za (List V)}{call:Nat→List V→za→R za V}{fname:Nat→Option Str}(g:GOk G gval gname)(ck:uc G A fname call)(fr:FrA A F)(sr:SR G F β ρ O s.heap)(fit:Fits F cx)
 (hf:fname f=some x) (hx:cx.isGlob x=true) (he:starEach (e::rest) F.env=(false,eval e F.env)::starEach rest F.env)
 (h1:Does G F A s β (spliced (backTo q (starEach (e::rest) F.env))) (r.lift ρ) (VRsl G F)) :
 Does G F A s β (eval (.Call (.Name x p) (e::rest) [] q) F.env) ((r.bind fun vs O=>call f vs O).lift ρ) (VRel G F):=by
 refine fu (ck F s β ρ O f x [] [] sr fr hf .nil) ?_;intro a o fd fa _
 refine DoesW.seqE (T₂:=fun vs Q E s₁=>s₁.heap.get? a=some o∧wpAny (model G.prog G.w) A (PySem.call (.ref a) vs) Q E s₁) (fun Q E h=>Call_Name rfl (zbv g sr fit hx fa.name (callWith_def fa.data h he))) h1 fun s' β' vals vs O' uA st sr' rvs=>?_
 refine fu (ck F s' β' ρ O' f x vals vs sr' fr hf rvs) ?_;intro a' o' fd' fa' dd
 have:a'=a:=by have h1:=fa.name;have h2:=fa'.name;rw[h1] at h2;injection h2 with eU;injection eU with eU;subst eU;rfl
 subst this
 exact dd.weaken (fun Q E h=>⟨sr'.br.keep _ _ fa.get,h⟩) fun uA uA uA uA h=>h
end
section
variable{G:Gl}{F:Fm}{A:Around}{s:Shared}{β:List Addr}{ρ:Loc}{O:za}
theorem gh{a:Addr}{s':Shared}{o':Obj}(sr:SR G F β ρ O s.heap)(ha:a∈F.W)(hg:s'.gens=s.gens)(ho:s'.os=s.os)(hs:Heap.SameBut a s.heap s'.heap)(hn:s'.heap.get? a=some o'):Step F.W β s s' β where
 gens:=hg
 os:=ho
 pre:=bz _
 fresh:=fun uA h=>.inl h
 alive:=fun b o e=>by
  by_cases hb:b=a
  ·subst hb;exact fh o' hn
  ·exact fh o ((hs.2 b hb).trans e)
 kept:=fun b o e uA hW=>⟨o,(hs.2 b (fun h=>hW (h ▸ ha))).trans e,Kin.refl o⟩
theorem BR.write{a:Addr}{s':Shared}(sr:SR G F β ρ O s.heap)(ha:a∈F.W)(hs:Heap.SameBut a s.heap s'.heap)(st:Step F.W β s s' β):BR G F.B β O s'.heap:=by
 have aB:a∈F.B:=sr.fm.sub _ ha
 refine⟨fun c o e=>?_,sr.br.len,sr.br.nodup,sr.br.new,fun i b bx h1 h2=>?_,fun b hb=>(sr.br.plain b hb).at fun o e=>(hs.2 b fun h=>sr.fm.notBox _ aB (h ▸ hb)).trans e⟩
 ·refine (hs.2 c fun h=>?_).trans (sr.br.keep c o e)
  have:=sr.fm.newW ha;rw[← h,e] at this;exfalso;injection this
 ·have hb:=sr.br.at_ i b bx h1 h2
  have hne:b≠a:=fun h=>sr.fm.notBox _ aB (h ▸ ay h1)
  cases bx with
  | lst xs=>
    obtain⟨o,vs,n,e1,e2,e3,as,e4,e5⟩:=hb
    exact⟨o,vs,n,(hs.2 b hne).trans e1,e2,e3,as,(zu sr.br sr.fm st e4 e5).1,e5⟩
  | dct kvs=>
    obtain⟨o,es,n,e1,e2,e3,e4,e5⟩:=hb
    refine⟨o,es,n,(hs.2 b hne).trans e1,e2,e3,e4,fun i e kv he hkv=>?_⟩
    obtain⟨hq,as,bs,r1,r2,q⟩:=e5 i e kv he hkv
    exact⟨hq,as,bs,(z8 sr.br sr.fm st r1 fun a ha=>q a (az _ ha)).1,(z8 sr.br sr.fm st r2 fun a ha=>q a (au _ ha)).1,q⟩
theorem zg2{ρ:Loc}{i j:Nat}{d u:V}(h:(ρ.set i (some d))[j]?=some (some u)):(j=i∧u=d)∨(j≠i∧ρ[j]?=some (some u)):=by
 rw[List.getElem?_set] at h
 by_cases hij:i=j
 ·subst hij
  rw[af rfl] at h
  split at h
  ·injection h with eU;injection eU with eU;subst eU;exact .inl ⟨rfl,rfl⟩
  ·exfalso;injection h
 ·rw[aj hij] at h;exact .inr ⟨fun e=>hij e.symm,h⟩
theorem zhq{i:Nat}{x:Str}{v:Value}{d:V}(sr:SR G F β ρ O s.heap)(hx:F.names[i]?=some (some x))(hk:F.env.kindOf x=some .local∨F.env.kindOf x=some .cell)(own:F.own x=true)(rv:VR G F.B β s.heap v d) :
 Does G F A s β (storeName F.env x v) (.ok () (ρ.set i (some d),O)) (fun uA uA uA uA=>True):=by
 intro Q E k
 obtain⟨m,hm⟩:=sr.fm.ns
 refine eW hk ?_ ?_<;>clear hk
 ·intro hk;refine wpAny_storeName_local hk hm (fun h' hn hs=>?_) (by show (F.env.scope.kind == .class || _)=false;rw[sr.fm.kind];rfl)
  refine fw (id hn) ?_;intro o' es' ep' ho' hd' _
  have st:Step F.W β s { s with heap:=h',toks:=s.toks+1 } β:=gh sr sr.fm.nsW rfl rfl hs ho'
  refine k _ β () st ⟨BR.write (s':={ s with heap:=h',toks:=s.toks+1 }) sr sr.fm.nsW hs st,⟨sr.fm.kind,sr.fm.globals,sr.fm.builtins,sr.fm.once,⟨_,hn⟩,sr.fm.nsW,fun y h1=>?_,sr.fm.apart,sr.fm.sub,sr.fm.new,sr.fm.notBox,fun a ha=>?_,sr.fm.frB,fun a ha=>?_,fun m e=>absurd own (by rw[(sr.fm.pin m e).2 x];exact am)⟩,fun j y u h1 h2=>?_⟩ trivial
  ·refine fk (sr.fm.cell y h1) ?_;intro c w h3 ez h5;refine eY ez ?_;clear ez;intro o h4 h4'
   refine fj c w h3 ⟨o,(hs.2 c fun h=>?_).trans h4,h4'⟩ h5
   refine fw hm ?_;clear hm;intro o2 es ep q1 q2 _
   rw[h] at h4;rw[h4] at q1;injection q1 with eU;subst eU;rw[h4'] at q2;exfalso;injection q2
  ·refine eY (sr.fm.stor a ha) ?_;intro o h1 h2
   by_cases hb:a=F.env.locals
   ·subst hb;exact eZ o' ho' (fun vs n hv=>by rw[hd'] at hv;exfalso;injection hv)
   ·exact eZ o ((hs.2 a hb).trans h1) h2
  ·refine fe (sr.fm.frs a ha) ?_;intro m' hm'
   by_cases hb:a=F.env.locals
   ·subst hb;exact fh _ hn
   ·exact fh m' (hm'.sameBut hs hb)
  ·refine eW (zg2 h2) ?_ ?_
   ·rintro ⟨rfl,rfl⟩;rw[hx] at h1;injection h1 with eU;injection eU with eU;subst eU
    exact eZ v (.inl ⟨hk,_,hn,by simp⟩) (rv.step sr.br sr.fm st)
   ·rintro ⟨hj,h2⟩;refine eY (sr.get j y u h1 h2) ?_;intro val g r
    have hyx:y≠x:=fun e=>hj (sr.fm.once j i x (e ▸ h1) hx)
    refine eZ val ?_ (r.step sr.br sr.fm st)
    refine eW g ?_ ?_<;>clear g
    ·rintro ⟨g1,m',g2,g3⟩;rw[zbj g2 hm] at g3
     exact .inl ⟨g1,_,hn,by simp[hyx,g3]⟩
    ·rintro ⟨g1,c,g2,o,g3,g4⟩;refine .inr ⟨g1,c,g2,o,(hs.2 c fun h=>?_).trans g3,g4⟩
     refine fw hm ?_;clear hm;intro o2 es ep q1 q2 _
     rw[h] at g3;rw[g3] at q1;injection q1 with eU;subst eU;rw[g4] at q2;exfalso;injection q2
 ·intro hk;refine fx (sr.fm.cell x hk) ?_;intro c w hc hcell hcB hcW
  have hcW:=hcW own
  refine wpAny_storeName_cell sr.fm.kind hk hc hcell fun h' hcell' hs=>?_
  refine eY (id hcell') ?_;intro o' ho' hd'
  have st:Step F.W β s { s with heap:=h' } β:=gh sr hcW rfl rfl hs ho'
  have hcL:F.env.locals≠c:=fun h=>by
   refine fw hm ?_;clear hm;intro o2 es ep q1 q2 _
   refine eY hcell ?_;clear hcell;intro o3 q3 q4
   rw[← h,q1] at q3;injection q3 with eU;subst eU;rw[q2] at q4;exfalso;injection q4
  have hn':h'.Ns F.env.locals m:=hm.sameBut hs hcL
  refine k _ β () st ⟨BR.write (s':={ s with heap:=h' }) sr hcW hs st,⟨sr.fm.kind,sr.fm.globals,sr.fm.builtins,sr.fm.once,⟨m,hn'⟩,sr.fm.nsW,fun y h1=>?_,sr.fm.apart,sr.fm.sub,sr.fm.new,sr.fm.notBox,fun a ha=>?_,sr.fm.frB,fun a ha=>?_,fun m e=>absurd own (by rw[(sr.fm.pin m e).2 x];exact am)⟩,fun j y u h1 h2=>?_⟩ trivial
  ·refine fk (sr.fm.cell y h1) ?_;intro c' w' h3 h4 h5
   by_cases hcc:c'=c
   ·subst hcc;exact fj c' _ h3 hcell' h5
   ·exact fj c' w' h3 (h4.sameBut hs hcc) h5
  ·refine eY (sr.fm.stor a ha) ?_;intro o h1 h2
   by_cases hb:a=c
   ·subst hb;exact eZ o' ho' (fun vs n hv=>by rw[hd'] at hv;exfalso;injection hv)
   ·exact eZ o ((hs.2 a hb).trans h1) h2
  ·refine fe (sr.fm.frs a ha) ?_;intro m' hm'
   refine fh m' (hm'.sameBut hs fun h=>?_)
   subst h
   refine fw hm' ?_;clear hm';intro o2 es ep q1 q2 _
   refine eY hcell ?_;clear hcell;intro o3 q3 q4
   rw[q1] at q3;injection q3 with eU;subst eU;rw[q2] at q4;exfalso;injection q4
  ·refine eW (zg2 h2) ?_ ?_
   ·rintro ⟨rfl,rfl⟩;rw[hx] at h1;injection h1 with eU;injection eU with eU;subst eU
    exact eZ v (.inr ⟨hk,c,hc,hcell'⟩) (rv.step sr.br sr.fm st)
   ·rintro ⟨hj,h2⟩;refine eY (sr.get j y u h1 h2) ?_;intro val g r
    have hyx:y≠x:=fun e=>hj (sr.fm.once j i x (e ▸ h1) hx)
    refine eZ val ?_ (r.step sr.br sr.fm st)
    refine eW g ?_ ?_<;>clear g
    ·rintro ⟨g1,m',g2,g3⟩;exact .inl ⟨g1,m',g2.sameBut hs hcL,g3⟩
    ·rintro ⟨g1,c',g2,g3⟩;refine .inr ⟨g1,c',g2,g3.sameBut hs fun h=>?_⟩
     subst h
     exact hyx (sr.fm.apart _ _ _ g2 hc)
end
theorem zbo{s:Shared}{h':Heap}(he:Heap.ExtBut s.heap.objs.size s.heap h'):KeepsAll s { s with heap:=h' }:=
 ⟨rfl,rfl,fun b o e=>he b o (bm (a6 e)) e⟩
noncomputable def bindR(c:CT)(d:V)(S:Loc×za):R (Loc×za) Unit:=match zq c d S.1 with
 | some ρ'=>.ok () (ρ',S.2)
 | none=>.stuck
section
variable{G:Gl}{F:Fm}{A:Around}{cx:Cx}{own:Str→Bool}
theorem ul(fit:Fits F cx){i:Nat}{x:Str}(h:cx.isLoc i x=true):F.names[i]?=some (some x)∧(F.env.kindOf x=some .local∨F.env.kindOf x=some .cell):=by
 refine fg (um h) ?_;intro h1 h2 _
 exact⟨by rw[fit.names];exact h1,by rw[fit.kind];exact h2⟩
theorem ua{i:Nat}{e:Expr}(h:chkT cx own (.name i) e=true):∃ x p,e=.Name x p∧cx.isLoc i x=true∧own x=true:=by
 cases e with
 | Name x p=>refine ff (and2 h) ?_;intro h1 h2;exact fj x p rfl h1 h2
 | _=>exact (am h).elim
theorem zeq{a b:CT}{e:Expr}(h:chkT cx own (.two a b) e=true):∃ x y k p,e=.Tuple [x,y] k p∧chkT cx own a x=true∧chkT cx own b y=true:=by
 cases e with
 | Tuple l k p=>
   match l,h with
   | [x,y],h=>refine ff (and2 h) ?_;intro h1 h2;exact⟨x,y,k,p,rfl,h1,h2⟩
   | [],h=>exact (am h).elim
   | [_],h=>exact (am h).elim
   | _::_::_::_,h=>exact (am h).elim
 | _=>exact (am h).elim
theorem x7{c:CT}{e:Expr}(h:chkT cx own c e=true)(env:Env)(rest:List Expr):assignEach (e::rest) env=(false,assign e env)::assignEach rest env:=by
 cases c with
 | name i=>refine fy (ua h) ?_;intro _ _ eo _;subst eo;rfl
 | two a b=>refine fq (zeq h) ?_;intro _ _ _ _ eA _;subst eA;rfl
theorem zf2{x:PyData}{xs:List PyData}{N β:List Addr}{h:Heap}{v:Value}(r:VR G N β h v (.d x))(e:items x=some xs) :
 ∃ a o vs n,v=.ref a∧h.get? a=some o∧(o.cls=.type "tuple"∨o.cls=.type "list")∧o.data=.seq vs n∧∃ as,ReadsAll h vs.toList xs as∧∀ a∈as,a∉β∧a∉N:=by
 cases x with
 | list ys=>injection e with eU;subst eU;obtain⟨a,rfl,⟨o,vs,n,h1,h2,h3,as,h4,h5⟩,_⟩:=r.list_inv;exact⟨a,o,vs,n,rfl,h1,.inr h2,h3,as,h4,h5⟩
 | tuple ys=>injection e with eU;subst eU;obtain⟨a,o,vs,n,rfl,h1,h2,h3,as,h4,h5⟩:=r.tuple_inv;exact⟨a,o,vs,n,rfl,h1,.inl h2,h3,as,h4,h5⟩
 | _=>exfalso;injection e
theorem v8{M:Model}{prog:Program}{w:World}{E:Value→Shared→Prop}{s:Shared}{env:Env}{elts:List Expr}{k:Nat}{pos:Pos}{a:Addr}{o:Obj}{vs:Array Value}{n:Nat}{Q:Unit→Shared→Prop}(hh:A.handled=none)
 (h1:s.heap.get? a=some o) (h2:o.cls=.type "tuple"∨o.cls=.type "list") (h3:o.data=.seq vs n) (hn:(assignEach elts env).length=vs.size) (hstar:(assignEach elts env).findIdx? (·.1)=none)
 (h:∀ s',KeepsAll s s'→wpAny (model prog w) A (assignInOrder ((assignEach elts env).map (·.2)) vs.toList) Q E s'):wpAny (model prog w) A (assign (.Tuple elts k pos) env (.ref a)) Q E s:=by
 rw[assign_Tuple]
 refine aa (bR ?_)
 unfold unpack
 rw[hn,hstar]
 refine eW h2 ?_ ?_<;>clear h2
 ·intro h2;exact aa (aT (unpackItems_tuple hh ⟨o,h1,h2,n,h3⟩ fun h' he=>h _ (zbo he)))
 ·intro h2;exact aa (aT (PySem.W.kun_itemsOf hh ⟨o,h1,h2,n,h3⟩ fun h' he=>h _ (zbo he)))
theorem wd{h:Heap}{P:Addr→Prop}{vs:List Value}{y z:PyData}{as:List Addr}(r:ReadsAll h vs [y,z] as)(q:∀ a∈as,P a):∃ v u bs cs,vs=[v,u]∧Reads h v y bs∧(∀ a∈bs,P a)∧Reads h u z cs∧∀ a∈cs,P a:=by
 refine fk (zo r q (i:=0) rfl) ?_;intro v1 b1 e1 r1 q1
 refine fk (zo r q (i:=1) rfl) ?_;intro v2 b2 e2 r2 q2
 refine⟨v1,v2,b1,b2,?_,r1,q1,r2,q2⟩
 have hl:vs.length=2:=zd r
 clear r r1 r2
 cases vs with
 | nil=>exfalso;injection e1
 | cons x l=>
   cases l with
   | nil=>exfalso;injection e2
   | cons y l=>rw[cZ (dD (dD hl)),aP e1,aP e2]
noncomputable abbrev URel:List Addr→Heap→Unit→Unit→Prop:=fun uA uA uA uA=>True
set_option tactic.hygienic true in
theorem xy(hh:A.handled=none)(fit:Fits F cx)(hown:∀ x,own x=true→F.own x=true):∀ (c:CT) {e:Expr} {s:Shared} {β:List Addr} {ρ:Loc} {O:za} {v:Value} {d:V},chkT cx own c e=true→SR G F β ρ O s.heap→VR G F.B β s.heap v d →
 Does G F A s β (assign e F.env v) (bindR c d (ρ,O)) URel:=by
 intro c
 induction c with
 | name i=>
   intro e s β ρ O v d h sr rv
   refine fk (ua h) ?_;intro x p eo h1 h2;subst eo
   refine ff (ul fit h1) ?_;intro g1 g2
   unfold bindR zq
   dsimp only
   split
   ·rename_i ρ' heq
    split at heq
    ·injection heq with eU;subst eU
     exact (zhq sr g1 g2 (hown x h2) rv).weaken (fun Q E h=>wpAny_assign_Name h) fun uA uA uA uA h=>h
    ·exfalso;injection heq
   ·trivial
 | two a b iha ihb=>
   intro e s β ρ O v d h sr rv
   refine fq (zeq h) ?_;intro x y k p eA eB;subst eA;refine ff eB ?_;clear eB;intro h1 h2
   have hn:∀ (vs:Array Value),vs.size=2→(assignEach [x,y] F.env).length=vs.size:=fun vs hv=>by rw[x7 h1,x7 h2,hv];rfl
   have hstar:(assignEach [x,y] F.env).findIdx? (·.1)=none:=by rw[x7 h1,x7 h2];rfl
   have hmap:(assignEach [x,y] F.env).map (·.2)=[assign x F.env,assign y F.env]:=by rw[x7 h1,x7 h2];rfl
   have both:∀ (s:Shared) (v1 v2:Value) (d1 d2:V),SR G F β ρ O s.heap→VR G F.B β s.heap v1 d1→VR G F.B β s.heap v2 d2 →
    DoesW G F s β (tr G A (assignInOrder [assign x F.env,assign y F.env] [v1,v2])) (match (zq a d1 ρ).bind (zq b d2) with | some ρ'=>.ok () (ρ',O) | none=>.stuck) URel:=by
    intro s v1 v2 d1 d2 sr r1 r2
    have da:=iha h1 sr r1
    have e1:(match (zq a d1 ρ).bind (zq b d2) with | some ρ'=>R.ok () (ρ',O) | none=>.stuck)=(bindR a d1 (ρ,O)).bind fun uA S=>bindR b d2 S:=by
     unfold bindR
     cases zq a d1 ρ <;> rfl
    rw[e1]
    refine DoesW.seq (T₂:=fun uA Q E s=>wpAny (model G.prog G.w) A (assign y F.env v2) (fun uA s=>Q () s) E s) (fun Q E h=>cT (aM h (fun uA s₁ h=>cT (aM h (fun uA s₂ h=>assignInOrder_nil h) fun uA uA x=>x)) fun uA uA x=>x)) da fun s' β' uA uA S e st sr' uA=>?_
    exact ihb h2 sr' (r2.step sr.br sr.fm st)
   cases d with
   | d z=>
     show DoesW G F s β _ (match (match items z with | some [y',z']=>(zq a (.d y') ρ).bind (zq b (.d z')) | _=>none) with | some ρ'=>R.ok () (ρ',O) | none=>.stuck) _
     cases hi:items z with
     | none=>trivial
     | some l=>
       match l,hi with
       | [y',z'],hi=>
         refine fq (zf2 rv hi) ?_;intro ad o vs n eA eB;subst eA;refine fz eB ?_;clear eB;intro g1 g2 g3 ez;refine eY ez ?_;clear ez;intro as r q
         refine fq (wd r q) ?_;intro v1 v2 bs cs hvs eB;refine fz eB ?_;clear eB;intro r1 q1 r2 q2
         have hsz:vs.size=2:=by rw [← aC,hvs];rfl
         have kall:∀ s',KeepsAll s s'→DoesW G F s' β (tr G A (assignInOrder [assign x F.env,assign y F.env] [v1,v2])) (match (zq a (.d y') ρ).bind (zq b (.d z')) with | some ρ'=>.ok () (ρ',O) | none=>.stuck) URel:=fun s' ka=>
          both s' v1 v2 (.d y') (.d z') (sr.keepAll ka.kept) ⟨bs,z6 ka.kept r1,q1⟩ ⟨cs,z6 ka.kept r2,q2⟩
         dsimp only
         cases hb:(zq a (.d y') ρ).bind (zq b (.d z')) with
         | none=>trivial
         | some ρ'=>
           intro Q E kk
           refine v8 (M:=model G.prog G.w) hh g1 g2 g3 (hn vs hsz) hstar fun s' ka=>?_
           rw [hmap,hvs]
           have dd:=kall s' ka
           rw [hb] at dd
           exact dd Q E fun s'' β' u st sr'' r=>kk s'' β' u ((ka.step _ _).trans st) sr'' r
       | [],_=>trivial
       | [_],_=>trivial
       | _::_::_::_,_=>trivial
   | tm its=>trivial
   | box n=>trivial
end
noncomputable def Itr(h:Heap)(z:Addr):Prop:=∃ o T fs,h.get? z=some o∧o.cls=.type T∧o.data=.fields fs
structure KeepsZ(Z:List Addr)(s s':Shared):Prop where
 gens:s'.gens=s.gens
 os:s'.os=s.os
 kept:∀ b o,b∉Z→s.heap.get? b=some o→s'.heap.get? b=some o
theorem KeepsZ.refl(Z:List Addr)(s:Shared):KeepsZ Z s s:=⟨rfl,rfl,fun uA uA uA e=>e⟩
theorem KeepsZ.trans{Z:List Addr}{s s' s'':Shared}(x:KeepsZ Z s s')(y:KeepsZ Z s' s''):KeepsZ Z s s'':=⟨y.gens.trans x.gens,y.os.trans x.os,fun b o hb e=>y.kept b o hb (x.kept b o hb e)⟩
theorem KeepsAll.z{s s':Shared}(x:KeepsAll s s')(Z:List Addr):KeepsZ Z s s':=⟨x.gens,x.os,fun b o uA e=>x.kept b o e⟩
theorem Step.thenZ{W β₀ β Z:List Addr}{s₀ s s':Shared}(st:Step W β₀ s₀ s β)(k:KeepsZ Z s s')(hz:∀ z∈Z,s₀.heap.get? z=none):Step W β₀ s₀ s' β where
 gens:=k.gens.trans st.gens
 os:=k.os.trans st.os
 pre:=st.pre
 fresh:=st.fresh
 alive:=fun b o e=>by
  refine fe (st.alive b o e) ?_;intro o' e'
  exact fh o' (k.kept b o' (fun h=>by rw[hz b h] at e;exfalso;injection e) e')
 kept:=fun b o e hb hW=>let ⟨o',e',kn⟩:=st.kept b o e hb hW;⟨o',k.kept b o' (fun h=>by rw[hz b h] at e;exfalso;injection e) e',kn⟩
inductive ze3(h:Heap)(a:Addr):Prop
 | mk (o:Obj) (e:h.get? a=some o) (hd:∀ fs,o.data≠.fields fs)
theorem zqi{d:Data}{vs:Array Value}{n:Nat}(h:d=.seq vs n):∀ fs,d≠.fields fs:=fun fs e=>by rw[h] at e;exfalso;injection e
theorem zoq{d:Data}{vs:Array DictEntry}{n:Nat}(h:d=.dict vs n):∀ fs,d≠.fields fs:=fun fs e=>by rw[h] at e;exfalso;injection e
theorem pd{h:Heap}{v:Value}{x:PyData}{as:List Addr}(r:Reads h v x as):∀ a∈as,ze3 h a:=
 Reads.rec (motive_1:=fun uA uA as uA=>∀ a∈as,ze3 h a) (motive_2:=fun uA uA as uA=>∀ a∈as,ze3 h a)
  (fun uA h=>nomatch h) (fun uA uA h=>nomatch h) (fun uA uA uA h=>nomatch h) (fun uA uA uA h=>nomatch h)
  (fun h1 uA h3 uA ih a ha=>(ae.mp ha).elim (fun e=>e ▸ ⟨_,h1,zqi h3⟩) (ih a))
  (fun uA uA uA uA ih=>ih)
  (fun h1 uA h3 uA uA ih ih' a ha=>(ai.mp ha).elim (fun ha=>(ae.mp ha).elim (fun e=>e ▸ ⟨_,h1,zoq h3⟩) (ih a)) (ih' a))
  (fun uA h=>nomatch h) (fun uA uA i1 i2 a ha=>(ai.mp ha).elim (i1 a) (i2 a)) r
theorem zcm{h:Heap}{vs:List Value}{xs:List PyData}{as:List Addr}(r:ReadsAll h vs xs as):∀ a∈as,ze3 h a:=
 ReadsAll.rec (motive_1:=fun uA uA uA uA=>True) (motive_2:=fun uA uA as uA=>∀ a∈as,ze3 h a)
  trivial (fun uA=>trivial) (fun uA uA=>trivial) (fun uA uA=>trivial) (fun uA uA uA uA uA=>trivial) (fun uA uA uA uA uA=>trivial) (fun uA uA uA uA uA uA uA=>trivial)
  (fun uA h=>nomatch h) (fun r uA uA i2 a ha=>(ai.mp ha).elim (pd r a) (i2 a)) r
section
variable{G:Gl}{F:Fm}{N β Z:List Addr}{ρ:Loc}{O:za}{h h':Heap}
theorem notZ(hz:∀ z∈Z,Itr h z){b:Addr}{o:Obj}(e:h.get? b=some o)(hd:∀ fs,o.data≠.fields fs):b∉Z:=fun hb=>by
 refine fw (hz b hb) ?_;intro o' T fs e' _ hf
 rw[e] at e';injection e' with eU;subst eU;exact hd fs hf
section
variable(hz:∀ z∈Z,Itr h z)(hk:∀ b o,b∉Z→h.get? b=some o→h'.get? b=some o)
include hz hk
theorem getZ{b:Addr}{o:Obj}(e:h.get? b=some o)(hd:∀ fs,o.data≠.fields fs):h'.get? b=some o:=hk b o (notZ hz e hd) e
theorem jl{v:Value}{x:PyData}{as:List Addr}(r:Reads h v x as):Reads h' v x as:=
 jc (P:=fun b=>b∉Z) (fun b o e hb=>hk b o hb e) (fun b o vs n e uA hd=>notZ hz e fun fs q=>by rw[hd] at q;exfalso;injection q) r fun a ha=>let ⟨o,e,hd⟩:=pd r a ha;notZ hz e hd
theorem gu{vs:List Value}{xs:List PyData}{as:List Addr}(r:ReadsAll h vs xs as):ReadsAll h' vs xs as:=
 xp (P:=fun b=>b∉Z) (fun b o e hb=>hk b o hb e) (fun b o vs n e uA hd=>notZ hz e fun fs q=>by rw[hd] at q;exfalso;injection q) r fun a ha=>let ⟨o,e,hd⟩:=zcm r a ha;notZ hz e hd
theorem zgb{vs:List Value}{its:List It}(r:ItsR N β h vs its):ItsR N β h' vs its:=by
 induction r with
 | nil=>exact .nil
 | b h1 _ ih=>exact .b h1 ih
 | x h1 h2 _ ih=>exact .x (jl hz hk h1) h2 ih
theorem VR.keepZ(hc:∀ c,∃ C,G.cls c=.ref C){v:Value}{x:V}(r:VR G N β h v x):VR G N β h' v x:=by
 cases x with
 | d x=>obtain⟨as,r,q⟩:=r;exact⟨as,jl hz hk r,q⟩
 | box n=>exact r
 | tm its=>obtain⟨a,o,vs,k,e,h1,h2,h3,h4⟩:=r;exact⟨a,o,vs,k,e,getZ hz hk h1 (fun fs q=>by rw[h3] at q;exfalso;injection q),h2,h3,zgb hz hk h4⟩
theorem BoxAt.keepZ{a:Addr}{bx:Box}(r:BoxAt h N β a bx):BoxAt h' N β a bx:=by
 cases bx with
 | lst xs=>obtain⟨o,vs,n,h1,h2,h3,as,h4,h5⟩:=r;exact⟨o,vs,n,getZ hz hk h1 (fun fs q=>by rw[h3] at q;exfalso;injection q),h2,h3,as,gu hz hk h4,h5⟩
 | dct kvs=>
   obtain⟨o,es,n,h1,h2,h3,h4,h5⟩:=r
   refine⟨o,es,n,getZ hz hk h1 (fun fs q=>by rw[h3] at q;exfalso;injection q),h2,h3,h4,fun i e kv he hkv=>?_⟩
   obtain⟨hq,as,bs,r1,r2,q⟩:=h5 i e kv he hkv
   exact⟨hq,as,bs,jl hz hk r1,jl hz hk r2,q⟩
theorem BR.notItr{O:za}(b:BR G N β O h){a:Addr}(ha:a∈β):a∉Z:=by
 refine fe (bX ha) ?_;intro i hi
 have hl:i < O.length:=by rw[← b.len];exact (aA.mp hi).1
 have hx:=b.at_ i a _ hi (aq hl)
 cases hb:O[i] with
 | lst xs=>rw[hb] at hx;obtain⟨o',vs,n,h1,h2,h3,_⟩:=hx;exact notZ hz h1 fun fs q=>by rw[h3] at q;exfalso;injection q
 | dct kvs=>rw[hb] at hx;obtain⟨o',vs,n,h1,h2,h3,_⟩:=hx;exact notZ hz h1 fun fs q=>by rw[h3] at q;exfalso;injection q
theorem BR.keepZ(hz0:∀ z∈Z,G.h₀.get? z=none)(b:BR G N β O h):BR G N β O h':=
 ⟨fun c o e=>hk _ _ (fun hb=>by rw[hz0 c hb] at e;exfalso;injection e) (b.keep c o e),b.len,b.nodup,b.new,fun i a bx h1 h2=>(b.at_ i a bx h1 h2).keepZ hz hk,fun a ha=>(b.plain a ha).at fun o e=>hk a o (BR.notItr hz hk b ha) e⟩
theorem nsZ{L:Addr}{m:Str→Option Value}(x:h.Ns L m):h'.Ns L m:=by
 refine fw x ?_;clear x;intro o es ep h1 h2 r
 exact fA o es ep (getZ hz hk h1 (fun fs q=>by rw[h2] at q;exfalso;injection q)) h2 r
theorem zps{c:Addr}{v:Option Value}(x:h.IsCell c v):h'.IsCell c v:=by
 refine eY x ?_;clear x;intro o h1 h2
 exact eZ o (getZ hz hk h1 (fun fs q=>by rw[h2] at q;exfalso;injection q)) h2
theorem Get.keepZ{env:Env}{x:Str}{v:Value}(g:Get h env x v):Get h' env x v:=by
 refine eW g ?_ ?_<;>clear g
 ·rintro ⟨h1,m,h2,h3⟩;exact .inl ⟨h1,m,nsZ hz hk h2,h3⟩
 ·rintro ⟨h1,c,h2,h3⟩;exact .inr ⟨h1,c,h2,zps hz hk h3⟩
theorem FmOk.keepZ(hzB:∀ z∈Z,z∉F.B)(f:FmOk G F β h):FmOk G F β h' where
 kind:=f.kind
 globals:=f.globals
 builtins:=f.builtins
 once:=f.once
 ns:=let ⟨m,e⟩:=f.ns;⟨m,nsZ hz hk e⟩
 nsW:=f.nsW
 cell:=fun x h1=>let ⟨c,v,h3,h4,h5⟩:=f.cell x h1;⟨c,v,h3,zps hz hk h4,h5⟩
 apart:=f.apart
 sub:=f.sub
 new:=f.new
 notBox:=f.notBox
 stor:=fun a ha=>let ⟨o,h1,h2⟩:=f.stor a ha;⟨o,hk _ _ (fun hb=>hzB a hb ha) h1,h2⟩
 frB:=f.frB
 frs:=fun a ha=>let ⟨m,e⟩:=f.frs a ha;⟨m,nsZ hz hk e⟩
 pin:=fun m e=>⟨nsZ hz hk (f.pin m e).1,(f.pin m e).2⟩
theorem SR.keepZ(hc:∀ c,∃ C,G.cls c=.ref C)(hz0:∀ z∈Z,G.h₀.get? z=none)(hzB:∀ z∈Z,z∉F.B)(r:SR G F β ρ O h):SR G F β ρ O h':=
 ⟨r.br.keepZ hz hk hz0,r.fm.keepZ hz hk hzB,fun i x v h1 h2=>let ⟨val,h3,h4⟩:=r.get i x v h1 h2;⟨val,h3.keepZ hz hk,h4.keepZ hz hk hc⟩⟩
end
end
noncomputable def Src.Has(s:Src)(O:za):Prop:=match s with
 | .plain _=>True
 | .box n xs=>O[n]?=some (.lst xs)
theorem Src.has_of{s:Src}{O:za}(h:s.still O=true):s.Has O:=by
 cases s with
 | plain xs=>trivial
 | box n xs=>exact @bh _ (Classical.propDecidable _) h
structure Turns(G:Gl)(A:Around)(target:Expr)(I:Addr)(Z:List Addr)(src:Src)(St:Nat→List Addr→List Addr→Heap→Prop):Prop where
 itr:∀ i N β h,St i N β h→∀ z∈Z,Itr h z
 keep:∀ i N N' β β' h h',St i N β h→(∀ z∈Z,∀ o,h.get? z=some o→h'.get? z=some o)→(∀ v x,VR G N β h v (.d x)→VR G N' β' h' v (.d x))→β <+: β'→St i N' β' h'
 item:∀ i N β O s x (Q:Option Value→Shared→Prop) (E:Value→Shared→Prop),src.xs[i]?=some x→BR G N β O s.heap→src.Has O→St i N β s.heap →
  (∀ v s',(∀ (Q':Unit→Shared→Prop) (E':Value→Shared→Prop),(∀ s'',KeepsZ Z s s''→VR G N β s''.heap v (.d x)→St (i+1) N β s''.heap→Q' () s'')→wpAny (model G.prog G.w) A (letOwnedTupleGo target (.ref I) v) Q' E' s')→Q (some v) s') →
  wpAny (model G.prog G.w) A (pyNext (.ref I)) Q E s
 done:∀ i N β O s (Q:Option Value→Shared→Prop) (E:Value→Shared→Prop),src.xs.length=i→BR G N β O s.heap→src.Has O→St i N β s.heap →
  (∀ s',KeepsZ Z s s'→Q none s')→wpAny (model G.prog G.w) A (pyNext (.ref I)) Q E s
 self:∀ i N β s (Q:Value→Shared→Prop) (E:Value→Shared→Prop),St i N β s.heap→Q (.ref I) s→wpAny (model G.prog G.w) A (pyIter (.ref I)) Q E s
set_option tactic.hygienic true in
theorem wt{prog:Program}{w:World}{A:Around}{E:Value→Shared→Prop}{s:Shared}{target:Expr}{I:Addr}{v:Value}{o:Obj}{T:String}{Q:Unit→Shared→Prop}(ho:s.heap.get? I=some o)(hc:o.cls=.type T)
 (hT:["enumerate","zip","dict_itemiterator","dict_reverseitemiterator","odict_iterator","itertools.zip_longest","itertools.pairwise"].contains T=false) (hQ:Q () s) :
 wpAny (model prog w) A (letOwnedTupleGo target (.ref I) v) Q E s:=by
 have main:∀ a:Addr,wpAny (model prog w) A (do
  let o ← load I
  match o.cls,o.data with
  | .type n,.fields vs=>
    if ["enumerate","zip","dict_itemiterator","dict_reverseitemiterator","odict_iterator","itertools.zip_longest","itertools.pairwise"].contains n && vs[0]? == some (rawInt a) then
     rule "for.unpacks-the-owned-tuple"
     updateField I 0 .none
  | _,_=>pure ():Sem Unit) Q E s:=by
  intro a
  refine aa (wpAny_load ho ?_)
  rw[hc]
  cases o.data <;> first | exact ab hQ | skip
  rename_i vs
  dsimp only
  rw[aj (by rw[hT,Bool.false_and];exact am)]
  exact ab hQ
 unfold letOwnedTupleGo
 cases target <;> first | exact ab hQ | skip
 all_goals
  cases v <;> first | exact ab hQ | exact main _
theorem jn{s:Shared}{I:Addr}{h':Heap}{tk:Nat}(hs:Heap.SameBut I s.heap h'):KeepsZ [I] s { s with heap:=h',toks:=tk }:=
 ⟨rfl,rfl,fun b o hb e=>(hs.2 b fun h=>hb (by simp[h])).trans e⟩
theorem kg{s:Shared}{I:Addr}{h':Heap}(hs:Heap.ExtBut I s.heap h'):KeepsZ [I] s { s with heap:=h' }:=
 ⟨rfl,rfl,fun b o hb e=>hs b o (fun h=>hb (by simp[h])) e⟩
section
variable{G:Gl}{A:Around}{target:Expr}(hc:∀ c,∃ C,G.cls c=.ref C)
theorem qa{h:Heap}{I l:Addr}{i:Nat}(x:h.IsListIter I l i):∀ z∈[I],Itr h z:=fun z hz=>by
 refine ft x ?_;clear x;intro o h1 h2 h3
 rw[ac.mp hz];exact fA o _ _ h1 h2 h3
theorem qy{h:Heap}{N β:List Addr}{a:Addr}{xs:List PyData}(r:VR G N β h (.ref a) (.d (.list xs))):ListAt h N β a xs∧a∉β∧a∉N:=by
 obtain⟨a',e,h1,h2⟩:=r.list_inv
 injection e with eU;subst eU;exact⟨h1,h2⟩
include hc in
theorem Turns.list(hh:A.handled=none)(I ax:Addr)(xs:List PyData):Turns G A target I [I] (.plain xs) (fun i N β h=>h.IsListIter I ax i∧VR G N β h (.ref ax) (.d (.list xs))) where
 itr:=fun i N β h st=>qa st.1
 keep:=fun i N N' β β' h h' st k1 k2 uA=>⟨st.1.at fun o e=>k1 I (by simp) o e,k2 _ _ st.2⟩
 item:=fun i N β O s x Q E hx br has st k=>by
  refine ff (qy st.2) ?_;intro dZ _;obtain ⟨o,vs,n,h1,h2,h3,as,h4,h5⟩:=dZ
  refine fk (zo h4 h5 (i:=i) hx) ?_;intro v cs e1 e2 e3
  refine wpAny_pyNext_list_item st.1 ⟨o,h1,h2,n,h3⟩ (x:=v) (by rw[← aV];exact e1) fun h' hit' hs'=>?_
  refine ft (id hit') ?_;intro o' q1 q2 q3
  have kz:KeepsZ [I] s { s with heap:=h' }:=jn hs'
  have rv:VR G N β h' v (.d x):=VR.keepZ (qa st.1) kz.kept hc ⟨cs,e2,e3⟩
  exact k v _ fun Q' E' k'=>wt q1 q2 (by decide) (k' _ kz rv ⟨hit',VR.keepZ (qa st.1) kz.kept hc st.2⟩)
 done:=fun i N β O s Q E hx br has st k=>by
  refine ff (qy st.2) ?_;intro dZ _;obtain ⟨o,vs,n,h1,h2,h3,as,h4,h5⟩:=dZ
  refine wpAny_pyNext_list_end hh st.1 ⟨o,h1,h2,n,h3⟩ ?_ fun h' he=>k _ (kg he)
  rw[cn]
  rw[← aC,zd h4];exact Nat.le_of_eq hx
 self:=fun i N β s Q E st q=>wpAny_pyIter_listiter st.1 q
include hc in
theorem Turns.box(hh:A.handled=none)(I ax:Addr)(n:Nat)(xs:List PyData):Turns G A target I [I] (.box n xs) (fun i N β h=>h.IsListIter I ax i∧β[n]?=some ax) where
 itr:=fun i N β h st=>qa st.1
 keep:=fun i N N' β β' h h' st k1 k2 p=>⟨st.1.at fun o e=>k1 I (by simp) o e,xk p st.2⟩
 item:=fun i N β O s x Q E hx br has st k=>by
  obtain⟨o,vs,n,h1,h2,h3,as,h4,h5⟩:=br.at_ n ax (.lst xs) st.2 has
  refine fk (zo h4 h5 (i:=i) hx) ?_;intro v cs e1 e2 e3
  refine wpAny_pyNext_list_item st.1 ⟨o,h1,h2,n,h3⟩ (x:=v) (by rw[← aV];exact e1) fun h' hit' hs'=>?_
  refine ft (id hit') ?_;intro o' q1 q2 q3
  have kz:KeepsZ [I] s { s with heap:=h' }:=jn hs'
  have rv:VR G N β h' v (.d x):=VR.keepZ (qa st.1) kz.kept hc ⟨cs,e2,e3⟩
  exact k v _ fun Q' E' k'=>wt q1 q2 (by decide) (k' _ kz rv ⟨hit',st.2⟩)
 done:=fun i N β O s Q E hx br has st k=>by
  obtain⟨o,vs,n,h1,h2,h3,as,h4,h5⟩:=br.at_ n ax (.lst xs) st.2 has
  refine wpAny_pyNext_list_end hh st.1 ⟨o,h1,h2,n,h3⟩ ?_ fun h' he=>k _ (kg he)
  rw[cn]
  rw[← aC,zd h4];exact Nat.le_of_eq hx
 self:=fun i N β s Q E st q=>wpAny_pyIter_listiter st.1 q
theorem zct{h:Heap}{I l:Addr}{i:Nat}(x:IsTupIter h I l i):∀ z∈[I],Itr h z:=fun z hz=>by
 refine ft x ?_;clear x;intro o h1 h2 h3
 rw[ac.mp hz];exact fA o _ _ h1 h2 h3
include hc in
theorem Turns.tuple(hh:A.handled=none)(I ax:Addr)(xs:List PyData):Turns G A target I [I] (.plain xs) (fun i N β h=>IsTupIter h I ax i∧VR G N β h (.ref ax) (.d (.tuple xs))) where
 itr:=fun i N β h st=>zct st.1
 keep:=fun i N N' β β' h h' st k1 k2 uA=>⟨by refine eY st.1 ?_;intro o e r;exact eZ o (k1 I (by simp) o e) r,k2 _ _ st.2⟩
 item:=fun i N β O s x Q E hx br has st k=>by
  obtain⟨a',o,vs,n,e,h1,h2,h3,as,h4,h5⟩:=st.2.tuple_inv
  injection e with eU;subst eU
  refine fk (zo h4 h5 (i:=i) hx) ?_;intro v cs e1 e2 e3
  refine next_tuple_item st.1 ⟨o,h1,h2,n,h3⟩ (x:=v) (by rw[← aV];exact e1) fun h' hit' hs'=>?_
  refine ft (id hit') ?_;intro o' q1 q2 q3
  have kz:KeepsZ [I] s { s with heap:=h' }:=jn hs'
  have rv:VR G N β h' v (.d x):=VR.keepZ (zct st.1) kz.kept hc ⟨cs,e2,e3⟩
  exact k v _ fun Q' E' k'=>wt q1 q2 (by decide) (k' _ kz rv ⟨hit',VR.keepZ (zct st.1) kz.kept hc st.2⟩)
 done:=fun i N β O s Q E hx br has st k=>by
  obtain⟨a',o,vs,n,e,h1,h2,h3,as,h4,h5⟩:=st.2.tuple_inv
  injection e with eU;subst eU
  refine next_tuple_end hh st.1 ⟨o,h1,h2,n,h3⟩ ?_ fun h' he=>k _ (kg he)
  rw[cn]
  rw[← aC,zd h4];exact Nat.le_of_eq hx
 self:=fun i N β s Q E st q=>wpAny_pyIter_tupleiter st.1 q
theorem zfq{a b:Int}{i:Nat}{x:PyData}(h:(zi a b)[i]?=some x):x=.int (a+i)∧i < (b - a).toNat:=by
 unfold zi at h
 rw[aR] at h
 cases e:(List.range (b - a).toNat)[i]? with
 | none=>rw[e] at h;exfalso;injection h
 | some j=>
   rw[e] at h
   have hi:i < (List.range (b - a).toNat).length:=by
    refine eW (bk i (List.range (b - a).toNat).length) ?_ ?_
    ·intro h;exact h
    ·intro h;rw[bc h] at e;exfalso;injection e
   rw[aq hi,List.getElem_range] at e
   injection e with eU;subst eU;injection h with eU;subst eU
   exact⟨rfl,by simpa using hi⟩
theorem zax{a b:Int}:(zi a b).length=(b - a).toNat:=by simp[zi]
theorem ziu{h:Heap}{I:Addr}{x l st:Int}(q:IsRangeIter h I x l st):∀ z∈[I],Itr h z:=fun z hz=>by
 rw[ac.mp hz];exact fA _ _ _ q rfl rfl
include hc in
theorem Turns.range(hh:A.handled=none)(I:Addr)(a b:Int):Turns G A target I [I] (.plain (zi a b)) (fun i N β h=>IsRangeIter h I (a+(i:Nat)) (((b - a).toNat:Int) - (i:Nat)) 1) where
 itr:=fun i N β h st=>ziu st
 keep:=fun i N N' β β' h h' st k1 k2 uA=>k1 I (by simp) _ st
 item:=fun i N β O s x Q E hx br has st k=>by
  refine ff (zfq hx) ?_;intro dZ hi;subst dZ
  refine wpAny_pyNext_range_item st (by lia) fun h' hit' hs'=>?_
  have kz:KeepsZ [I] s { s with heap:=h',toks:=s.toks+1 }:=jn hs'
  refine k _ _ fun Q' E' k'=>wt hit' rfl (by decide) (k' _ kz VR.int ?_)
  have e1:a+((i+1:Nat):Int)=a+(i:Int)+1:=by push_cast;lia
  have e2:((b - a).toNat:Int) - ((i+1:Nat):Int)=((b - a).toNat:Int) - (i:Int) - 1:=by push_cast;lia
  rw[e1,e2];exact hit'
 done:=fun i N β O s Q E hx br has st k=>wpAny_pyNext_range_end hh st (by have:(zi a b).length=i:=hx;rw[zax] at this;lia) fun h' he=>k _ (kg he)
 self:=fun i N β s Q E st q=>wpAny_pyIter_rangeiter st q
end
section
variable{G:Gl}{F:Fm}{A:Around}{s:Shared}{β:List Addr}{ρ:Loc}{O:za}{cx:Cx}{gval:Nat→Option PyData}{gname:Nat→Option Str}
theorem u4{α:Type}{x:Str}{fv:Value}{e:Expr}{rest:List Expr}{p q:Pos}{r:R za (List V)}{k:List V→za→R za α}{Rel:List Addr→Heap→Value→α→Prop}(g:GOk G gval gname)(sr:SR G F β ρ O s.heap)(fit:Fits F cx)
 (hx:cx.isGlob x=true) (hb:(x,fv)∈bis) (hfv:(∃ id,fv=.builtin id)∨∃ T,fv=.type T)
 (he:starEach (e::rest) F.env=(false,eval e F.env)::starEach rest F.env) (hplain:(backTo q (starEach rest F.env)).any (·.1)=false)
 (h1:Does G F A s β (spliced (backTo q (starEach (e::rest) F.env))) (r.lift ρ) (VRsl G F))
 (h2:∀ s' β' vals vs O',r=.ok vs O'→Step F.W β s s' β'→SR G F β' ρ O' s'.heap→VRs G F.B β' s'.heap vals vs→Does G F A s' β' (call fv vals) ((k vs O').lift ρ) Rel) :
 Does G F A s β (eval (.Call (.Name x p) (e::rest) [] q) F.env) ((r.bind k).lift ρ) Rel:=by
 refine ff (g.bi _ hb) ?_;intro b1 b2
 refine DoesW.seqE (T₂:=fun vs=>tr G A (call fv vs)) (fun Q E h=>Call_Name rfl (yl g sr fit hx b1 b2 ?_)) h1 fun s' β' vals vs O' e' st sr' rvs=>h2 s' β' vals vs O' e' st sr' rvs
 refine eW hfv ?_ ?_<;>clear hfv
 ·rintro ⟨id,rfl⟩;exact callWith_builtin1 h he hplain
 ·rintro ⟨T,rfl⟩;exact callWith_type1 h he hplain
noncomputable def IRel(G:Gl)(F:Fm)(A:Around)(target:Expr)(s:Shared):List Addr→Heap→Value→Src→Prop:=fun β h v src=>
 ∃ I Z St,v=.ref I∧Turns G A target I Z src St∧St 0 F.B β h∧∀ z∈Z,s.heap.get? z=none
theorem IRel.back{target:Expr}{s':Shared}{β':List Addr}{h:Heap}{v:Value}{src:Src}{β₁:List Addr}{W:List Addr}(st:Step W β s s' β')(r:IRel G F A target s' β₁ h v src):IRel G F A target s β₁ h v src:=by
 refine fb r ?_;clear r;intro I Z St e t h0 hz
 refine fc I Z St e t h0 (fun z hz'=>?_)
 cases e:s.heap.get? z with
 | none=>rfl
 | some o=>refine fe (st.alive z o e) ?_;intro o' e';rw[hz z hz'] at e';exfalso;injection e'
noncomputable abbrev zbp(G:Gl)(A:Around)(x:Expr)(env:Env):WT Value:=fun Q E s=>wpAny (model G.prog G.w) A (eval x env) (fun xv s₁=>wpAny (model G.prog G.w) A (pyIter xv) Q E s₁) E s
theorem ya(s:Shared):s.heap.get? s.heap.objs.size=none:=bj (aL _)
theorem zl6{target:Expr}{v:Value}{d:V}(g:GOk G gval gname)(hh:A.handled=none)(sr:SR G F β ρ O s.heap)(rv:VR G F.B β s.heap v d) :
 Does G F A s β (pyIter v) ((match d with
  | .d x=>opt ((items x).map Src.plain) O
  | .box n=>(match O[n]? with
     | some (.lst xs)=>R.ok (Src.box n xs) O
     | _=>.stuck)
  | _=>.stuck).lift ρ) (IRel G F A target s):=by
 cases d with
 | d x=>
   cases x with
   | list xs=>
     obtain⟨a,rfl,⟨o,vs,n,h1,h2,h3,as,h4,h5⟩,h6⟩:=rv.list_inv
     refine Does.leaf sr fun Q E k=>cf ⟨o,h1,h2,n,h3⟩ (k _ _ (KeepsAll.push s _ _) ?_)
     exact fc _ _ _ rfl (Turns.list g.clsRef hh _ a xs) ⟨⟨_,aF _ rfl,rfl,rfl⟩,rv.keepAll (fun uA uA e=>ah _ e)⟩ (fun z hz=>by rw[ac.mp hz];exact ya s)
   | tuple xs=>
     obtain⟨a,o,vs,n,rfl,h1,h2,h3,as,h4,h5⟩:=rv.tuple_inv
     refine Does.leaf sr fun Q E k=>iter_tuple ⟨o,h1,h2,n,h3⟩ (k _ _ (KeepsAll.push s _ _) ?_)
     exact fc _ _ _ rfl (Turns.tuple g.clsRef hh _ a xs) ⟨⟨_,aF _ rfl,rfl,rfl⟩,rv.keepAll (fun uA uA e=>ah _ e)⟩ (fun z hz=>by rw[ac.mp hz];exact ya s)
   | _=>trivial
 | box n=>
   obtain⟨a,ha,rfl⟩:=rv
   dsimp only
   cases hO:O[n]? with
   | none=>trivial
   | some bx=>cases bx with
     | dct kvs=>trivial
     | lst xs=>
       obtain⟨o,vs,k',h1,h2,h3,as,h4,h5⟩:=sr.br.at_ n a (.lst xs) ha hO
       refine Does.leaf sr fun Q E k=>cf ⟨o,h1,h2,k',h3⟩ (k _ _ (KeepsAll.push s _ _) ?_)
       exact fc _ _ _ rfl (Turns.box g.clsRef hh _ a n xs) ⟨⟨_,aF _ rfl,rfl,rfl⟩,ha⟩ (fun z hz=>by rw[ac.mp hz];exact ya s)
 | _=>trivial
theorem zl8{target x:Expr}{ra:R za V}(g:GOk G gval gname)(hh:A.handled=none)(h1:Does G F A s β (eval x F.env) (ra.lift ρ) (VRel G F)) :
 DoesW G F s β (zbp G A x F.env) ((ra.bind fun v O=>(match v with
  | .d x=>opt ((items x).map Src.plain) O
  | .box n=>(match O[n]? with
     | some (.lst xs)=>R.ok (Src.box n xs) O
     | _=>.stuck)
  | _=>.stuck)).lift ρ) (IRel G F A target s):=by
 refine DoesW.seqE (T₂:=fun v=>tr G A (pyIter v)) (fun Q E h=>h) h1 fun s' β' v d O' e st sr rv=>?_
 exact (zl6 (target:=target) g hh sr rv).weaken (fun Q E h=>h) fun uA uA uA uA r=>r.back st
theorem wg{a b:Int}:Builtin.Range.rangeSize a b 1=((b - a).toNat:Int):=by rw[rangeSize_one];split <;> lia
noncomputable def RRel(s:Shared):List Addr→Heap→Value→Int×Int→Prop:=fun β h v d=>∃ r t u w,v=.ref r∧IsRange h r d.1 d.2 1 t u w
noncomputable def zb9(p:Int×Int):Prop:=-(10 ^ 9)≤p.1∧p.1≤10 ^ 9∧-(10 ^ 9)≤p.2∧p.2≤10 ^ 9
inductive zo8(v u:V)(O:za)(p:Int×Int)(O':za):Prop
 | mk (i j:Int) (h1:intV v=some i) (h2:intV u=some j) (hs:zb9 (i,j)) (e:p=(i,j)) (e':O'=O)
theorem gz{v u:V}{O O':za}{p:Int×Int}(h:xc v u O=.ok p O'):zo8 v u O p O':=by
 unfold xc at h
 cases h1:intV v with
 | none=>rw[h1] at h;exfalso;injection h
 | some i=>
   cases h2:intV u with
   | none=>rw[h1,h2] at h;exfalso;injection h
   | some j=>
     rw[h1,h2] at h
     dsimp only at h
     by_cases hs : -(10 ^ 9)≤i∧i≤10 ^ 9∧-(10 ^ 9)≤j∧j≤10 ^ 9
     ·rw[af hs] at h;injection h with eU eV;subst eU eV;exact⟨i,j,h1,h2,hs,rfl,rfl⟩
     ·rw[aj hs] at h;exfalso;injection h
theorem zcn{v u:V}{O O':za}{p:Int×Int}(h:xc v u O=.ok p O'):zb9 p∧O'=O:=by
 obtain⟨i,j,_,_,hs,rfl,rfl⟩:=gz h
 exact⟨hs,rfl⟩
set_option tactic.hygienic true in
theorem VR.intV{N:List Addr}{h:Heap}{v:Value}{d:V}{i:Int}(r:VR G N β h v d)(e:intV d=some i):∃ t,v=.int i t:=by
 cases d <;> first | (cases e;done) | skip
 rename_i x
 cases x <;> first | (cases e;done) | skip
 injection e with eU;subst eU
 exact r.int_inv
theorem VRs.one{N:List Addr}{h:Heap}{vals:List Value}{d:V}(r:VRs G N β h vals [d]):∃ v,vals=[v]∧VR G N β h v d:=by
 cases r with
 | cons r rs=>cases rs;exact eZ _ rfl r
theorem VRs.two{N:List Addr}{h:Heap}{vals:List Value}{d e:V}(r:VRs G N β h vals [d,e]):∃ v u,vals=[v,u]∧VR G N β h v d∧VR G N β h u e:=by
 cases r with
 | cons r rs=>obtain⟨u,rfl,q⟩:=rs.one;exact fj _ u rfl r q
theorem zej{T:WT Value}{v u:V}(h:∀ i j,intV v=some i→intV u=some j→DoesW G F s β T (.ok (i,j) (ρ,O)) (RRel s)):DoesW G F s β T ((xc v u O).lift ρ) (RRel s):=by
 cases e:xc v u O with
 | stuck=>trivial
 | ok p O'=>
   obtain⟨i,j,h1,h2,hs,rfl,rfl⟩:=gz e
   exact h i j h1 h2
theorem zad{target:Expr}{v:Value}{p:Int×Int}(g:GOk G gval gname)(hh:A.handled=none)(sr:SR G F β ρ O s.heap)(rv:RRel s β s.heap v p)(hp:zb9 p) :
 Does G F A s β (pyIter v) ((R.ok (Src.plain (zi p.1 p.2)) O).lift ρ) (IRel G F A target s):=by
 refine fq rv ?_;clear rv;intro r t u w eA hr;subst eA
 refine fz hp ?_;clear hp;intro p1 p2 p3 p4
 refine Does.leaf sr fun Q E k=>wpAny_pyIter_range hr (small_one (by lia) (by lia) (by lia) (by lia)) (k _ _ (KeepsAll.push s _ _) ?_)
 refine fc _ _ _ rfl (Turns.range g.clsRef hh _ p.1 p.2) ?_ (fun z hz=>by rw[ac.mp hz];exact ya s)
 rw[wg]
 simpa using aF _ rfl
theorem zl5{y:Expr}{p q:Pos}{x:Str}{rb:R za V}(g:GOk G gval gname)(sr:SR G F β ρ O s.heap)(fit:Fits F cx)(hx:cx.isGlob x=true)(hb:x = "range")(he:starEach [y] F.env=(false,eval y F.env)::starEach [] F.env)
 (h1:Does G F A s β (eval y F.env) (rb.lift ρ) (VRel G F)) :
 Does G F A s β (eval (.Call (.Name x p) [y] [] q) F.env) ((rb.bind fun u O=>xc (.d (.int 0)) u O).lift ρ) (RRel s):=by
 subst hb
 have d1:Does G F A s β (spliced (backTo q (starEach [y] F.env))) ((rb.bind fun v O=>(R.ok ([]:List V) O).bind fun vs O=>.ok (v::vs) O).lift ρ) (VRsl G F):=
  yz he h1 fun s' β' O' sr'=>xx sr'
 have e1:(rb.bind fun u O=>xc (.d (.int 0)) u O)=(rb.bind fun v O=>(R.ok ([]:List V) O).bind fun vs O=>R.ok (v::vs) O).bind fun vs O=>(match vs with | [u]=>xc (.d (.int 0)) u O | _=>.stuck):=by cases rb <;> rfl
 rw[e1]
 refine u4 g sr fit hx (fv:=.type "range") (by decide) (.inr ⟨_,rfl⟩) he rfl d1 fun s' β' vals vs O' e' st sr' rvs=>?_
 cases vs with
 | nil=>trivial
 | cons u vs=>
   cases vs with
   | cons _ _=>trivial
   | nil=>
     obtain⟨v,rfl,ru⟩:=rvs.one
     refine zej fun i j h1 h2=>?_
     injection h1 with eU;subst eU
     refine fe (ru.intV h2) ?_;intro t eg;subst eg
     exact Does.leaf sr' fun Q E k=>call_range_1 (k _ _ (KeepsAll.push s' _ _) ⟨_,_,_,_,rfl,IsRange.new _ _ _ _ _ _ _⟩)
theorem zl4{y z:Expr}{p q:Pos}{x:Str}{ra:R za V}{rb:za→R za V}(g:GOk G gval gname)(sr:SR G F β ρ O s.heap)(fit:Fits F cx)(hx:cx.isGlob x=true)(hb:x = "range")
 (he:starEach [y,z] F.env=(false,eval y F.env)::starEach [z] F.env) (he':starEach [z] F.env=(false,eval z F.env)::starEach [] F.env)
 (h1:Does G F A s β (eval y F.env) (ra.lift ρ) (VRel G F)) (h2:∀ s' β' O',SR G F β' ρ O' s'.heap→Does G F A s' β' (eval z F.env) ((rb O').lift ρ) (VRel G F)) :
 Does G F A s β (eval (.Call (.Name x p) [y,z] [] q) F.env) ((ra.bind fun v O=>(rb O).bind fun u O=>xc v u O).lift ρ) (RRel s):=by
 subst hb
 have d1:Does G F A s β (spliced (backTo q (starEach [y,z] F.env))) ((ra.bind fun v O=>((rb O).bind fun v O=>(R.ok ([]:List V) O).bind fun vs O=>.ok (v::vs) O).bind fun vs O=>.ok (v::vs) O).lift ρ) (VRsl G F):=
  yz he h1 fun s' β' O' sr'=>yz he' (h2 s' β' O' sr') fun s' β' O' sr'=>xx sr'
 have e1:(ra.bind fun v O=>(rb O).bind fun u O=>xc v u O)=(ra.bind fun v O=>((rb O).bind fun v O=>(R.ok ([]:List V) O).bind fun vs O=>.ok (v::vs) O).bind fun vs O=>.ok (v::vs) O).bind fun vs O=>(match vs with | [v,u]=>xc v u O | _=>.stuck):=by
  cases ra with
  | ok v O=>
    show (rb O).bind (fun u O=>xc v u O)=(((rb O).bind fun v O=>(R.ok ([]:List V) O).bind fun vs O=>R.ok (v::vs) O).bind fun vs O=>R.ok (v::vs) O).bind _
    cases rb O <;> rfl
  | stuck=>rfl
 rw[e1]
 refine u4 g sr fit hx (fv:=.type "range") (by decide) (.inr ⟨_,rfl⟩) he (by rw [he'];rfl) d1 fun s' β' vals vs O' e' st sr' rvs=>?_
 cases vs with
 | nil=>trivial
 | cons u vs=>
   cases vs with
   | nil=>trivial
   | cons w vs=>
     cases vs with
     | cons _ _=>trivial
     | nil=>
       obtain⟨v,v',rfl,rv,ru⟩:=rvs.two
       refine zej fun i j h1 h2=>?_
       refine fe (rv.intV h1) ?_;intro t eg;subst eg
       refine fe (ru.intV h2) ?_;intro t' eg;subst eg
       exact Does.leaf sr' fun Q E k=>call_range_2 (k _ _ (KeepsAll.push s' _ _) ⟨_,_,_,_,rfl,IsRange.new _ _ _ _ _ _ _⟩)
theorem zc2{target x:Expr}{r:R za (Int×Int)}(g:GOk G gval gname)(hh:A.handled=none)(hs:∀ p O',r=.ok p O'→zb9 p)(h1:Does G F A s β (eval x F.env) (r.lift ρ) (RRel s)) :
 DoesW G F s β (zbp G A x F.env) ((r.bind fun p O=>R.ok (Src.plain (zi p.1 p.2)) O).lift ρ) (IRel G F A target s):=by
 refine DoesW.seqE (T₂:=fun v=>tr G A (pyIter v)) (fun Q E h=>h) h1 fun s' β' v d O' e st sr rv=>?_
 exact (zad (target:=target) g hh sr rv (hs _ _ e)).weaken (fun Q E h=>h) fun uA uA uA uA r=>r.back st
end
noncomputable def yu(G:Gl)(F:Fm):List Addr→Heap→Flow→Fl→Prop:=fun β h f d=>match d with
 | .next=>f=.next
 | .ret v=>∃ val,f=.ret val∧VR G F.B β h val v
section
variable{G:Gl}{F:Fm}{A:Around}{cx:Cx}{gval:Nat→Option PyData}{gname:Nat→Option Str}
theorem u6{N β Z:List Addr}{O:za}{h:Heap}(br:BR G N β O h)(hz:∀ z∈Z,Itr h z):∀ z∈Z,z∉β:=fun z hz' hb=>by
 refine fe (bX hb) ?_;intro i hi
 have hl:i < O.length:=by
  rw[← br.len]
  refine eW (bk i β.length) ?_ ?_
  ·intro h;exact h
  ·intro h;rw[bc h] at hi;exfalso;injection hi
 have hx:=br.at_ i z _ hi (aq hl)
 refine fw (hz z hz') ?_;intro o T fs e _ hf
 cases hb:O[i] with
 | lst xs=>rw[hb] at hx;obtain⟨o',vs,n,h1,h2,h3,_⟩:=hx;rw[e] at h1;injection h1 with eU;subst eU;rw[hf] at h3;exfalso;injection h3
 | dct kvs=>rw[hb] at hx;obtain⟨o',vs,n,h1,h2,h3,_⟩:=hx;rw[e] at h1;injection h1 with eU;subst eU;rw[hf] at h3;exfalso;injection h3
theorem Turns.over{target:Expr}{I:Addr}{Z:List Addr}{src:Src}{St:Nat→List Addr→List Addr→Heap→Prop}(W:Turns G A target I Z src St){i:Nat}{β β':List Addr}{ρ:Loc}{O:za}{s s':Shared}
 (sr:SR G F β ρ O s.heap) (hzB:∀ z∈Z,z∉F.B) (st:St i F.B β s.heap) (step:Step F.W β s s' β'):St i F.B β' s'.heap:=
 W.keep i F.B F.B β β' s.heap s'.heap st (fun z hz o e=>step.keptE e (u6 sr.br (W.itr _ _ _ _ st) z hz) (fun hw=>hzB z hz (sr.fm.sub z hw)) fun es n q=>by
  refine fw (W.itr _ _ _ _ st z hz) ?_;intro o' _ _ e' _ hf
  rw[e] at e';injection e' with eU;subst eU;rw[hf] at q;exfalso;injection q) (fun v x r=>r.step sr.br sr.fm step) step.pre
inductive FInv(G:Gl)(F:Fm)(src:Src)(β₀:List Addr)(s₀:Shared)(St:Nat→List Addr→List Addr→Heap→Prop)(go:List PyData→Loc→za→Prop)(k:Nat)(s:Shared):Prop
 | mk (i:Nat) (β:List Addr) (ρ:Loc) (O:za) (hk:k=src.xs.length+1 - i) (hi:i≤src.xs.length) (step:Step F.W β₀ s₀ s β) (sr:SR G F β ρ O s.heap) (has:src.Has O) (st:St i F.B β s.heap) (hgo:go (src.xs.drop i) ρ O)
inductive zc8(src:Src)(go:Loc→za→R (Loc×za) Fl)(fl:Fl)(S:Loc×za):Fl→Loc×za→Prop
 | ret (v:V) (h:fl=.ret v):zc8 src go fl S (.ret v) S
 | next (S':Loc×za) (hs:src.still S'.2=true) (hg:go S'.1 S'.2=.ok fl S):zc8 src go fl S .next S'
inductive zmv(src:Src)(c:CT)(evb:Loc→za→R (Loc×za) Fl)(x:PyData)(go:Loc→za→R (Loc×za) Fl)(ρ:Loc)(O:za)(fl:Fl)(S:Loc×za):Prop
 | mk (ρ':Loc) (f:Fl) (S':Loc×za) (hb:zq c (.d x) ρ=some ρ') (he:evb ρ' O=.ok f S') (hr:zc8 src go fl S f S')
theorem zd7{src:Src}{c:CT}{evb:Loc→za→R (Loc×za) Fl}{x:PyData}{go:Loc→za→R (Loc×za) Fl}{ρ:Loc}{O:za}{fl:Fl}{S:Loc×za} (h:(match jy c evb x ρ O with
 | .ok (.ret v) S=>.ok (.ret v) S
 | .ok .next S=>if src.still S.2 then go S.1 S.2 else .stuck
 | _=>.stuck)=R.ok fl S):zmv src c evb x go ρ O fl S:=by
 unfold jy at h
 cases hb:zq c (.d x) ρ with
 | none=>rw[hb] at h;exfalso;injection h
 | some ρ'=>
   rw[hb] at h
   dsimp only at h
   cases he:evb ρ' O with
   | ok f S'=>
     rw[he] at h
     cases f with
     | ret v=>injection h with eU eV;subst eU eV;exact⟨ρ',_,_,hb,he,.ret v rfl⟩
     | next=>
       dsimp only at h
       by_cases hs:src.still S'.2=true
       ·rw[af hs] at h;exact⟨ρ',_,_,hb,he,.next S' hs h⟩
       ·rw[aj hs] at h;exfalso;injection h
   | _=>rw[he] at h;exfalso;injection h
theorem zoc{src:Src}{c:CT}{evb:Loc→za→R (Loc×za) Fl}{x:PyData}{xs:List PyData}{ρ:Loc}{O:za}{fl:Fl}{S:Loc×za}(h:z7 src (jy c evb) (x::xs) ρ O=.ok fl S):zmv src c evb x (z7 src (jy c evb) xs) ρ O fl S:=zd7 h
theorem zi4{target:Expr}{c:CT}{own:Str→Bool}{body:List Stmt}{src:Src}{I:Addr}{Z:List Addr}{St:Nat→List Addr→List Addr→Heap→Prop}{evb:Loc→za→R (Loc×za) Fl}
 (g:GOk G gval gname) (hh:A.handled=none) (fit:Fits F cx) (hown:∀ x,own x=true→F.own x=true) (hc:chkT cx own c target=true)
 (hb:∀ s β ρ O,SR G F β ρ O s.heap→Does G F A s β (execs body F.env) (evb ρ O) (yu G F))
 (W:Turns G A target I Z src St) {s₀ s:Shared} {β₀ β:List Addr} {ρ₀ ρ:Loc} {O₀ O:za} (sr₀:SR G F β₀ ρ₀ O₀ s₀.heap) (hz:∀ z∈Z,s₀.heap.get? z=none)
 (step:Step F.W β₀ s₀ s β) (sr:SR G F β ρ O s.heap) (has:src.Has O) (st:St 0 F.B β s.heap) {fl:Fl} {S:Loc×za}
 (hgo:z7 src (jy c evb) src.xs ρ O=.ok fl S) {R:Result→Shared→Prop}
 (hR:∀ s' β' f,Step F.W β₀ s₀ s' β'→SR G F β' S.1 S.2 s'.heap→yu G F β' s'.heap f fl→R (.ok f) s') :
 codeAny (model G.prog G.w) A (.forLoop target (.ref I) body [] F.env) R s:=by
 have hz0:∀ z∈Z,G.h₀.get? z=none:=fun z hz'=>by
  cases e:G.h₀.get? z with
  | none=>rfl
  | some o=>have:=sr₀.br.keep z o e;rw[hz z hz'] at this;exfalso;injection this
 have hzB:∀ z∈Z,z∉F.B:=fun z hz' hB=>by
  refine eY (sr₀.fm.stor z hB) ?_;intro o e _
  rw[hz z hz'] at e;exfalso;injection e
 refine codeAny_forLoop_any (FInv G F src β₀ s₀ St fun xs ρ O=>z7 src (jy c evb) xs ρ O=.ok fl S) ?_ (src.xs.length+1) ⟨0,β,ρ,O,rfl,a8 _,step,sr,has,st,hgo⟩
 clear hgo st has sr step
 intro k s hI
 obtain⟨i,β,ρ,O,rfl,hi,step,sr,has,st,hgo⟩:=hI
 have hitr:=W.itr _ _ _ _ st
 by_cases hlt:i < src.xs.length
 ·rw[List.drop_eq_getElem_cons hlt] at hgo
  have hx:src.xs[i]?=some src.xs[i]:=aq hlt
  generalize src.xs[i]=x at hgo hx
  obtain⟨ρ',f,S',hbt,he,hrest⟩:=zoc hgo
  refine W.item i F.B β O s x _ _ hx sr.br has st fun v s₁ kk=>?_
  refine kk _ _ fun s' kz rv st'=>?_
  have sr':=sr.keepZ hitr kz.kept g.clsRef hz0 hzB
  have step':=step.thenZ kz hz
  have da:=xy (A:=A) hh fit hown c hc sr' rv
  unfold bindR at da
  dsimp only at da
  rw[hbt] at da
  dsimp only at da
  refine da _ _ fun s₂ β₂ uA st₂ sr₂ uA=>?_
  have db:=hb s₂ β₂ ρ' O sr₂
  have stZ:=W.over sr' hzB st' st₂
  rw[he] at db
  refine db _ _ fun s₃ β₃ f' st₃ sr₃ rf=>?_
  have step₃:=step'.trans (st₂.trans st₃)
  cases hrest with
  | ret u e=>
    subst e
    refine eY rf ?_;clear rf;intro val eg rv';subst eg
    exact hR s₃ β₃ (.ret val) step₃ sr₃ ⟨val,rfl,rv'⟩
  | next _ hst hgo=>
    have rf:f'=.next:=rf
    subst rf
    exact⟨src.xs.length+1 - (i+1),by lia,i+1,β₃,S'.1,S'.2,rfl,hlt,step₃,sr₃,Src.has_of hst,W.over sr₂ hzB stZ st₃,hgo⟩
 ·have hie:i=src.xs.length:=by lia
  rw[hie,List.drop_length] at hgo
  have hgo:Mine.R.ok Fl.next (ρ,O)=Mine.R.ok fl S:=hgo
  injection hgo with eU eV;subst eU eV
  refine W.done i F.B β O s _ _ hie.symm sr.br has st fun s' kz=>?_
  refine wpAny_execs_nil (hR s' β .next (step.thenZ kz hz) (sr.keepZ hitr kz.kept g.clsRef hz0 hzB) rfl)
theorem zpq{target x:Expr}{c:CT}{own:Str→Bool}{body:List Stmt}{pos:Pos}{r:R za Src}{evb:Loc→za→R (Loc×za) Fl}{s:Shared}{β:List Addr}{ρ:Loc}{O:za}
 (g:GOk G gval gname) (hh:A.handled=none) (fit:Fits F cx) (hown:∀ x,own x=true→F.own x=true) (hc:chkT cx own c target=true) (hset:∀ l k p,x≠.Set l k p)
 (hb:∀ s β ρ O,SR G F β ρ O s.heap→Does G F A s β (execs body F.env) (evb ρ O) (yu G F))
 (sr:SR G F β ρ O s.heap) (hI:DoesW G F s β (zbp G A x F.env) (r.lift ρ) (IRel G F A target s)) (has:∀ src O',r=.ok src O'→src.Has O') :
 Does G F A s β (exec (.For target x body [] pos) F.env) ((r.lift ρ).bind fun src S=>z7 src (jy c evb) src.xs S.1 S.2) (yu G F):=by
 cases r with
 | stuck=>trivial
 | ok src O'=>
   show DoesW G F s β _ (z7 src (jy c evb) src.xs ρ O') _
   cases hgo:z7 src (jy c evb) src.xs ρ O' with
   | stuck=>trivial
   | ok fl S=>
     intro Q E k
     refine wpAny_For (hI _ _ fun s' β' it st sr' ⟨I,Z,St,e,W,h0,hz⟩=>?_) fun v=>qd hset _ _
     subst e
     exact zi4 g hh fit hown hc hb W sr hz st sr' (has _ _ rfl) h0 hgo fun s' β' f st' sr'' rf=>k s' β' f st' sr'' rf
end
theorem dkv1:∀ l:List (PyData×PyData),PyData.depthAll (l.map (·.1))≤PyData.depthKv l
 | []=>aL _
 | (_,_)::r=>Nat.max_le.mpr ⟨ak (dX _ _) (dX _ _),ak (dkv1 r) (dG _ _)⟩
theorem dkv2:∀ l:List (PyData×PyData),PyData.depthAll (l.map (·.2))≤PyData.depthKv l
 | []=>aL _
 | (_,_)::r=>Nat.max_le.mpr ⟨ak (dG _ _) (dX _ _),ak (dkv2 r) (dG _ _)⟩
inductive Sub(h:Heap)(b:Addr)(n:Nat):Prop
 | mk (x:PyData) (as:List Addr) (r:Reads h (.ref b) x as) (hs:x.depth≤n)
theorem Sub.le{h:Heap}{b:Addr}{n m:Nat}(s:Sub h b n)(hm:n≤m):Sub h b m:=let ⟨x,as,r,hs⟩:=s;⟨x,as,r,ak hs hm⟩
theorem zic{h:Heap}{v:Value}{x:PyData}{as:List Addr}(r:Reads h v x as):∀ b∈as,Sub h b x.depth:=
 Reads.rec (motive_1:=fun uA x as uA=>∀ b∈as,Sub h b x.depth) (motive_2:=fun uA xs as uA=>∀ b∈as,Sub h b (PyData.depthAll xs))
  (fun uA h=>nomatch h) (fun uA uA h=>nomatch h) (fun uA uA uA h=>nomatch h) (fun uA uA uA h=>nomatch h)
  (fun h1 h2 h3 r ih b hb=>(ae.mp hb).elim (fun e=>e ▸ ⟨_,_,.list h1 h2 h3 r,aL _⟩) fun hb=>(ih b hb).le (cH _))
  (fun uA uA uA uA ih b hb=>(ih b hb).le (cH _))
  (fun h1 h2 h3 r1 r2 i1 i2 b hb=>(ai.mp hb).elim (fun hb=>(ae.mp hb).elim (fun e=>e ▸ ⟨_,_,.dict h1 h2 h3 r1 r2,aL _⟩) fun hb=>(i1 b hb).le (dA (dkv1 _))) fun hb=>(i2 b hb).le (dA (dkv2 _)))
  (fun uA h=>nomatch h) (fun uA uA i1 i2 b hb=>(ai.mp hb).elim (fun hb=>(i1 b hb).le (dX _ _)) fun hb=>(i2 b hb).le (dG _ _)) r
theorem zck{h:Heap}{vs:List Value}{xs:List PyData}{as:List Addr}(r:ReadsAll h vs xs as):∀ b∈as,Sub h b (PyData.depthAll xs):=
 ReadsAll.rec (motive_1:=fun uA uA uA uA=>True) (motive_2:=fun uA xs as uA=>∀ b∈as,Sub h b (PyData.depthAll xs))
  trivial (fun uA=>trivial) (fun uA uA=>trivial) (fun uA uA=>trivial) (fun uA uA uA uA uA=>trivial) (fun uA uA uA uA uA=>trivial) (fun uA uA uA uA uA uA uA=>trivial)
  (fun uA h=>nomatch h) (fun r uA uA i2 b hb=>(ai.mp hb).elim (fun hb=>(zic r b hb).le (dX _ _)) fun hb=>(i2 b hb).le (dG _ _)) r
theorem zfp{h:Heap}{a:Addr}{o:Obj}{vs:Array Value}{n:Nat}{xs:List PyData}{as:List Addr}(h1:h.get? a=some o)(h2:o.cls=.type "list")(h3:o.data=.seq vs n)(r:ReadsAll h vs.toList xs as):a∉as:=fun ha=>by
 obtain⟨x',as',r',hs⟩:=zck r a ha
 have:=(Reads.unique (Reads.list h1 h2 h3 r) _ _ r').1
 subst this
 exact Nat.not_succ_le_self _ hs
section
variable{G:Gl}{F:Fm}{A:Around}{β β':List Addr}{ρ:Loc}{O O':za}{s s':Shared}
theorem SR.outer(sr:SR G F β ρ O s.heap)(st:Step [] β s s' β')(br:BR G F.B β' O' s'.heap)(nb:∀ a∈F.B,a∉β'):SR G F β' ρ O' s'.heap:=by
 have st':Step F.W β s s' β':=⟨st.gens,st.os,st.pre,st.fresh,st.alive,fun b o e hb uA=>st.kept b o e hb (by simp)⟩
 have hB:∀ a∈F.B,∀ o,s.heap.get? a=some o→∃ o',s'.heap.get? a=some o'∧Kin o o':=fun a ha o e=>st.kept a o e (sr.fm.notBox a ha) (by simp)
 have hL:F.env.locals∈F.B:=sr.fm.sub _ sr.fm.nsW
 have hns:∀ m,s.heap.Ns F.env.locals m→s'.heap.Ns F.env.locals m:=fun m hm=>Kin.ns hm (hB _ hL)
 refine⟨br,⟨sr.fm.kind,sr.fm.globals,sr.fm.builtins,sr.fm.once,?_,sr.fm.nsW,?_,sr.fm.apart,sr.fm.sub,sr.fm.new,nb,?_,sr.fm.frB,fun a ha=>let ⟨m,hm⟩:=sr.fm.frs a ha;⟨m,Kin.ns hm (hB a (sr.fm.frB a ha))⟩,fun m e=>⟨hns m (sr.fm.pin m e).1,(sr.fm.pin m e).2⟩⟩,fun i x v h1 h2=>?_⟩
 ·obtain⟨m,hm⟩:=sr.fm.ns;exact fh m (hns m hm)
 ·intro x hx
  refine fx (sr.fm.cell x hx) ?_;intro c v h3 h4 h6 h7
  exact fC c v h3 (Kin.cell h4 (hB c h6)) h6 h7
 ·intro a ha
  refine eY (sr.fm.stor a ha) ?_;intro o h1 h2
  refine eY (hB a ha o h1) ?_;intro o' e' kn
  exact eZ o' e' (fun vs n hv=>by rw[kn.cls];exact h2 vs n (kn.data.symm.trans hv))
 ·refine eY (sr.get i x v h1 h2) ?_;intro val g r
  refine eZ val ?_ (r.step sr.br sr.fm st')
  refine eW g ?_ ?_<;>clear g
  ·rintro ⟨g1,m,g2,g3⟩;exact .inl ⟨g1,m,hns m g2,g3⟩
  ·rintro ⟨g1,c,g2,g3⟩;refine fx (sr.fm.cell x g1) ?_;intro c' v' h3 h4 h6 h7
   rw[g2] at h3;injection h3 with eU;subst eU
   exact .inr ⟨g1,c,g2,Kin.cell g3 (hB c h6)⟩
theorem SR.keepNB{a:Addr}{bx₀:Box}(x:KeepsL F.env.locals s s')(r:SR G F β ρ O s.heap)(hn:s.heap.get? a=none)(hl:BoxAt s'.heap F.B (β++[a]) a bx₀)(hpl:Plain s'.heap a):Step F.W β s s' (β++[a])∧SR G F (β++[a]) ρ (O++[bx₀]) s'.heap:=by
 have sr':=r.keepL x
 have st0:=x.step r.fm
 have st:Step F.W β s s' (β++[a]):=⟨st0.gens,st0.os,List.prefix_append _ _,fun b hb=>by
  refine eW (ai.mp hb) ?_ ?_
  ·intro h;exact .inl h
  ·intro h;rw[ac.mp h];exact .inr hn,st0.alive,st0.kept⟩
 have aB:a∉F.B:=fun h=>by refine eY (r.fm.stor a h) ?_;intro o e _;rw[hn] at e;exfalso;injection e
 have aβ:a∉β:=fun h=>by refine eY (r.br.alive a h) ?_;intro o e _;rw[hn] at e;exfalso;injection e
 have nL:F.env.locals∈F.B:=r.fm.sub _ r.fm.nsW
 have ne:∀ {b:Addr},b∈β→b≠F.env.locals:=fun hb e=>r.fm.notBox _ nL (e ▸ hb)
 refine⟨st,⟨⟨sr'.br.keep,by simp[r.br.len],?_,fun b hb=>?_,fun i b bx h1 h2=>?_,fun b hb=>(ai.mp hb).elim (sr'.br.plain b) fun h=>by rw[ac.mp h];exact hpl⟩,⟨sr'.fm.kind,sr'.fm.globals,sr'.fm.builtins,sr'.fm.once,sr'.fm.ns,sr'.fm.nsW,sr'.fm.cell,sr'.fm.apart,sr'.fm.sub,sr'.fm.new,fun b hb h=>?_,sr'.fm.stor,sr'.fm.frB,sr'.fm.frs,sr'.fm.pin⟩,fun i y v h1 h2=>?_⟩⟩
 ·rw[bM]
  exact⟨r.br.nodup,by simp,fun b hb c hc=>by rw[ac.mp hc];exact fun e=>aβ (e ▸ hb)⟩
 ·refine eW (ai.mp hb) ?_ ?_
  ·intro h;exact r.br.new b h
  ·intro h;rw[ac.mp h]
   cases e:G.h₀.get? a with
   | none=>rfl
   | some o=>have:=r.br.keep a o e;rw[hn] at this;exfalso;injection this
 ·refine eW (bk i β.length) ?_ ?_
  ·intro hi;rw[aJ hi] at h1
   rw[aJ (by rw[← r.br.len];exact hi)] at h2
   have hb:=r.br.at_ i b bx h1 h2
   have hne:=ne (ay h1)
   cases bx with
   | lst ys=>
     obtain⟨o,vs,n,e1,e2,e3,as,e4,e5⟩:=hb
     refine ff (zu r.br r.fm st e4 e5) ?_;intro q1 q2
     exact⟨o,vs,n,x.kept _ _ hne e1,e2,e3,as,q1,q2⟩
   | dct kvs=>
     obtain⟨o,es,n,e1,e2,e3,e4,e5⟩:=hb
     refine⟨o,es,n,x.kept _ _ hne e1,e2,e3,e4,fun i e kv he hkv=>?_⟩
     obtain⟨hq,as,bs,r1,r2,q⟩:=e5 i e kv he hkv
     refine ff (z8 r.br r.fm st r1 fun a ha=>q a (az _ ha)) ?_;intro p1 p2
     refine ff (z8 r.br r.fm st r2 fun a ha=>q a (au _ ha)) ?_;intro p3 p4
     exact⟨hq,as,bs,p1,p3,fun b hb=>(ai.mp hb).elim (p2 b) (p4 b)⟩
  ·intro hi;rw[aH hi] at h1
   rw[aH (by rw[← r.br.len];exact hi)] at h2
   have hi0:i - β.length=0:=by
    refine eW (Nat.eq_zero_or_pos (i - β.length)) ?_ ?_
    ·intro h;exact h
    ·intro h;rw[bc (show [a].length≤i - β.length from h)] at h1;exfalso;injection h1
   rw[hi0] at h1
   rw[← r.br.len,hi0] at h2
   injection h1 with eU;subst eU;injection h2 with eU;subst eU
   exact hl
 ·refine eW (ai.mp h) ?_ ?_
  ·intro h;exact r.fm.notBox b hb h
  ·intro h;rw[ac.mp h] at hb;exact aB hb
 ·refine eY (r.get i y v h1 h2) ?_;intro val g rv
  refine eZ val ?_ (rv.step r.br r.fm st)
  refine eW g ?_ ?_<;>clear g
  ·rintro ⟨g1,m,g2,g3⟩;exact .inl ⟨g1,m,x.ns m g2,g3⟩
  ·rintro ⟨g1,c,g2,o,g3,g4⟩;refine .inr ⟨g1,c,g2,o,x.kept _ _ (fun h=>?_) g3,g4⟩
   obtain⟨m,o',es,ep,q1,q2,_⟩:=r.fm.ns
   rw[h] at g3;rw[g3] at q1;injection q1 with eU;subst eU;rw[g4] at q2;exfalso;injection q2
theorem SR.keepLB{a:Addr}{xs:List PyData}(x:KeepsL F.env.locals s s')(r:SR G F β ρ O s.heap)(hn:s.heap.get? a=none)(hl:ListAt s'.heap F.B β a xs)(hpl:Plain s'.heap a):Step F.W β s s' (β++[a])∧SR G F (β++[a]) ρ (O++[.lst xs]) s'.heap:=by
 obtain⟨o,vs,n,e1,e2,e3,as,e4,e5⟩:=hl
 have hac:=zfp e1 e2 e3 e4
 refine SR.keepNB x r hn (bx₀:=.lst xs) ⟨o,vs,n,e1,e2,e3,as,e4,fun b hb=>⟨fun h=>?_,(e5 b hb).2⟩⟩ hpl
 refine eW (ai.mp h) ?_ ?_
 ·intro h;exact (e5 b hb).1 h
 ·intro h;rw[ac.mp h] at hb;exact hac hb
theorem R.bind_assoc{σ α β γ:Type}(r:R σ α)(f:α→σ→R σ β)(g:β→σ→R σ γ):(r.bind f).bind g=r.bind fun a s=>(f a s).bind g:=by cases r <;> rfl
theorem LeafD.box{T:WT Value}{c:PyData}(sr:SR G F β ρ O s.heap)(h:LeafD G F s β T (V.d c) (FRel G F s)):DoesW G F s β T ((boxK (.d c) O).lift ρ) (VRel G F):=by
 cases c with
 | list xs=>
   intro Q E k
   refine h Q E fun v s' ka r=>?_
   refine ft r.1.list_inv ?_;intro a eg hl _;subst eg
   refine ft (r.2 xs rfl) ?_;intro a' e hn hpl
   injection e with eU;subst eU
   refine ff (SR.keepLB ka sr hn hl hpl) ?_;intro st sr'
   exact k s' _ _ st sr' ⟨a,by rw[← sr.br.len];simp,rfl⟩
 | _=>trivial
end
noncomputable def jh(env:Env):List (Str×NameKind)→List (Str×Addr)→List (Str×Addr)
 | [],cs=>cs
 | (n,k)::r,cs=>if k == .free then jh env r ((n,(env.cells.lookup n).getD 0)::cs) else jh env r cs
theorem ko(env:Env)(f:Str×NameKind→List (Str×Addr)→Sem (ForInStep (List (Str×Addr))))
 (hf:∀ name kind cs,f (name,kind) cs=if kind == .free then (do let a ← cellOf env name;pure (.yield ((name,a)::cs))) else pure (.yield cs)) :
 ∀ (names:List (Str×NameKind)) (acc:List (Str×Addr)),(∀ p∈names,p.2=.free→(env.cells.lookup p.1).isSome=true)→forIn names acc f=pure (jh env names acc)
 | [],acc,_=>by rw[dC];rfl
 | (n,k)::r,acc,h=>by
   rw[dY,hf]
   have hr:∀ p∈r,p.2=.free→(env.cells.lookup p.1).isSome=true:=fun p hp=>h p (ag _ hp)
   unfold jh
   cases hk:k == NameKind.free with
   | true=>
     have hk':k=.free:=by cases k <;> first | rfl | (exact absurd hk (by decide))
     refine fe (bn.mp (h (n,k) ao hk')) ?_;intro c hc
     have e:cellOf env n=pure c:=by unfold cellOf;rw[hc]
     simp only[cJ,e,pure_bind]
     rw[ko env f hf r _ hr,hc]
     rfl
   | false=>
     simp only[aO,bo,pure_bind]
     exact ko env f hf r _ hr
theorem ve{scope:Scope}{env:Env}(h:∀ p∈scope.names,p.2=.free→(env.cells.lookup p.1).isSome=true):closureFor scope env=pure (jh env scope.names []):=by
 unfold closureFor
 dsimp only
 rw[ko env _ (fun name kind cs=>rfl) scope.names [] h]
 rfl
theorem jv{env:Env}{x:Str}:∀ (names:List (Str×NameKind)) (acc:List (Str×Addr)),(jh env names acc).lookup x=if (x,NameKind.free)∈names then some ((env.cells.lookup x).getD 0) else acc.lookup x
 | [],acc=>by simp[jh]
 | (n,k)::r,acc=>by
   unfold jh
   cases hk:k == NameKind.free with
   | true=>
     have hk':k=.free:=by cases k <;> first | rfl | (exact absurd hk (by decide))
     subst hk'
     rw[af rfl,jv r]
     by_cases h:(x,NameKind.free)∈r
     ·rw[af h,af (ag _ h)]
     ·rw[aj h,bJ]
      cases hx:x == n with
      | true=>
        have:x=n:=aQ.mp hx
        subst this
        rw[af ao]
      | false=>
        rw[aj]
        intro hm
        refine eW (ae.mp hm) ?_ ?_
        ·intro e;injection e with eU eV;subst eU;cases eV;rw[bS] at hx;exfalso;injection hx
        ·intro hm;exact h hm
   | false=>
     rw[aj (by decide),jv r]
     by_cases h:(x,NameKind.free)∈r
     ·rw[af h,af (ag _ h)]
     ·rw[aj h,aj]
      intro hm
      refine eW (ae.mp hm) ?_ ?_
      ·intro e;injection e with eU eV;subst eU eV;exact absurd hk (by decide)
      ·intro hm;exact h hm
theorem xr:∀ (names:List (Str×NameKind)) (n:Nat) (acc:List (Str×Addr)),cellsFrom n names acc=cellsFrom n names []++acc
 | [],n,acc=>rfl
 | (x,k)::r,n,acc=>by
   unfold cellsFrom
   split
   ·rw[xr r (n+1) ((x,n)::acc),xr r (n+1) [(x,n)]];simp
   ·exact xr r n acc
set_option tactic.hygienic true in
theorem xq:∀ (names:List (Str×NameKind)) (n:Nat) (acc:List (Str×Addr)) {x:Str} {c:Addr},(x,c)∈cellsFrom n names acc→(x,NameKind.cell)∈names∨(x,c)∈acc
 | [],n,acc,x,c,h=>.inr h
 | (y,k)::r,n,acc,x,c,h=>by
   unfold cellsFrom at h
   split at h
   ·rename_i hk
    have hk':k=.cell:=by cases k <;> first | rfl | (exact absurd hk (by decide))
    subst hk'
    refine eW (xq r _ _ h) ?_ ?_
    ·intro h;exact .inl (ag _ h)
    ·intro h;refine eW (ae.mp h) ?_ ?_
     ·intro e;injection e with eU eV;subst eU eV;exact .inl ao
     ·intro h;exact .inr h
   ·refine eW (xq r _ _ h) ?_ ?_
    ·intro h;exact .inl (ag _ h)
    ·intro h;exact .inr h
set_option tactic.hygienic true in
theorem ye:∀ (names:List (Str×NameKind)) (n:Nat) (acc:List (Str×Addr)) {x:Str},((x,NameKind.cell)∈names∨(acc.lookup x).isSome=true)→((cellsFrom n names acc).lookup x).isSome=true
 | [],n,acc,x,h=>by
   refine eW h ?_ ?_<;>clear h
   ·intro h;cases h
   ·intro h;exact h
 | (y,k)::r,n,acc,x,h=>by
   unfold cellsFrom
   split
   ·rename_i hk
    refine ye r _ _ ?_
    refine eW h ?_ ?_<;>clear h
    ·intro h;refine eW (ae.mp h) ?_ ?_
     ·intro e;injection e with eU eV;subst eU eV;right;rw[bJ,bS];rfl
     ·intro h;exact .inl h
    ·intro h;right
     rw[bJ]
     cases x == y with
     | true=>rfl
     | false=>exact h
   ·rename_i hk
    refine ye r _ _ ?_
    refine eW h ?_ ?_<;>clear h
    ·intro h;refine eW (ae.mp h) ?_ ?_
     ·intro e;injection e with eU eV;subst eU eV;exact absurd rfl hk
     ·intro h;exact .inl h
    ·intro h;exact .inr h
theorem lookup_mem{α:Type}:∀ {l:List (Str×α)} {x:Str} {k:α},(l.map (·.1)).Nodup→((x,k)∈l↔l.lookup x=some k)
 | [],x,k,_=>by simp
 | (y,j)::r,x,k,h=>by
   refine ff (bH.mp h) ?_;intro h1 h2
   rw[bJ]
   cases hx:x == y with
   | true=>
     have:x=y:=aQ.mp hx
     subst this
     constructor
     ·intro hm
      refine eW (ae.mp hm) ?_ ?_
      ·intro e;injection e with eU eV;cases eU;subst eV;rfl
      ·intro hm;exact absurd (av.mpr ⟨(x,k),hm,rfl⟩) h1
     ·intro e;injection e with eU;subst eU;exact ao
   | false=>
     rw[← lookup_mem (l:=r) h2]
     constructor
     ·intro hm
      refine eW (ae.mp hm) ?_ ?_
      ·intro e;injection e with eU eV;subst eU eV;rw[bS] at hx;exfalso;injection hx
      ·intro hm;exact hm
     ·exact ag _
noncomputable def zep(scope:Scope)(env:Env)(C:Addr)(cl:List (Str×Addr)):Env:=
 { scope:=scope,locals:=C,globals:=env.globals,cells:=cellsFrom (C+1) scope.names cl,qual:=env.qual,func:=none,code:=env.code,frame:=env.frame,builtins:=env.builtins }
theorem zeo{M:Model}{A:Around}{E:Value→Shared→Prop}{s:Shared}{scope:Scope}{env:Env}{cl:List (Str×Addr)}{Q:Env→Shared→Prop}
 (h:∀ s',KeepsAll s s'→s'.heap.Ns s.heap.objs.size (fun uA=>none)→CellsOk s'.heap (s.heap.objs.size+1) (cellsFrom (s.heap.objs.size+1) scope.names [])→Q (zep scope env s.heap.objs.size cl) s') :
 wpAny M A (newFunctionEnv scope env.globals cl [] env.qual none .none (some env)) Q E s:=by
 simp only[newFunctionEnv,Option.isSome_some,cJ]
 refine aa (wpAny_alloc ?_)
 refine aa (wpAny_layCells _ (fun name kind cells=>by cases hkc:kind == NameKind.cell <;> simp[hkc]) _ _ _ _ ?_)
 have ok:=cellsFrom_ok scope.names (s.heap.push { cls:=.type "dict",data:=.dict #[] }) (s.heap.objs.size+1) [] ⟨fun uA uA hm=>(nomatch hm),List.Pairwise.nil⟩ (by rw [bv];exact aL _)
 rw[bv] at ok
 rw [show ({ s with heap:=s.heap.push { cls:=.type "dict",data:=.dict #[] } }:Shared).heap.objs.size=s.heap.objs.size+1 from bv ..]
 simp only[dC]
 refine aa (ab (ab (h _ ⟨rfl,rfl,fun b o e=>pushCells_keeps _ _ b o (ah _ e)⟩ ?_ ok)))
 exact (Heap.Ns.new s.heap (.type "dict")).keeps (pushCells_keeps _ _)
noncomputable def yd:CT→List Nat
 | .name i=>[i]
 | .two a b=>yd a++yd b
noncomputable def clr:List Nat→Loc→Loc
 | [],ρ=>ρ
 | i::S,ρ=>(clr S ρ).set i none
theorem zai:∀ (S:List Nat) (ρ:Loc),(clr S ρ).length=ρ.length
 | [],_=>rfl
 | i::S,ρ=>by unfold clr;rw[bg,zai S ρ]
theorem va:∀ (S:List Nat) (ρ:Loc) (i:Nat),i∉S→(clr S ρ)[i]?=ρ[i]?
 | [],_,_,_=>rfl
 | j::S,ρ,i,h=>by
   unfold clr
   rw[bY (fun e=>h (by simp[e]))]
   exact va S ρ i fun hm=>h (ag _ hm)
theorem zah:∀ (S:List Nat) (ρ:Loc) (i:Nat) (v:V),i∈S→(clr S ρ)[i]?≠some (some v)
 | j::S,ρ,i,v,h,e=>by
   unfold clr at e
   rw[List.getElem?_set] at e
   by_cases hj:j=i
   ·rw[af hj] at e
    split at e <;> cases e
   ·rw[aj hj] at e
    refine eW (ae.mp h) ?_ ?_
    ·rintro rfl;exact hj rfl
    ·intro h;exact zah S ρ i v h e
noncomputable def Agree(S:List Nat)(ρ ρ':Loc):Prop:=ρ.length=ρ'.length∧∀ i,i∉S→ρ[i]?=ρ'[i]?
theorem Agree.nil{ρ ρ':Loc}(h:Agree [] ρ ρ'):ρ=ρ':=List.ext_getElem? fun i=>h.2 i (by simp)
theorem zi9(S:List Nat)(ρ:Loc):Agree S (clr S ρ) ρ:=⟨zai S ρ,fun i hi=>va S ρ i hi⟩
theorem zh8{S:List Nat}{ρ ρ':Loc}{i:Nat}{v:Option V}(h:Agree S ρ ρ'):Agree (S.filter fun j=>j != i) (ρ.set i v) (ρ'.set i v):=by
 refine⟨by rw[bg,bg];exact h.1,fun j hj=>?_⟩
 rw[List.getElem?_set,List.getElem?_set]
 by_cases e:i=j
 ·rw[af e,af e,h.1]
 ·rw[aj e,aj e]
  refine h.2 j fun hm=>hj (bw.mpr ⟨hm,?_⟩)
  simpa using fun e'=>e e'.symm
noncomputable def Both(S:List Nat):Option Loc→Option Loc→Prop
 | some r,some r'=>Agree S r r'
 | none,none=>True
 | _,_=>False
noncomputable def subL(S T:List Nat):List Nat:=S.filter fun j=>!T.contains j
theorem Agree.mono{S T:List Nat}{ρ ρ':Loc}(h:Agree S ρ ρ')(hs:∀ i∈S,i∈T):Agree T ρ ρ':=⟨h.1,fun i hi=>h.2 i fun hm=>hi (hs i hm)⟩
theorem zjc{S T U:List Nat}{f g:Loc→Option Loc}{a b:Option Loc}(h:Both S a b)(hf:∀ r r',Agree S r r'→Both T (f r) (g r')):Both T (a.bind f) (b.bind g):=by
 cases a <;> cases b <;> first | exact h | exact hf _ _ h | exact (show False from h).elim
theorem zex:∀ (c:CT) (d:V) (S:List Nat) (ρ ρ':Loc),Agree S ρ ρ'→Both (subL S (yd c)) (zq c d ρ) (zq c d ρ'):=by
 intro c
 induction c with
 | name i=>
   intro d S ρ ρ' h
   unfold zq
   rw[h.1]
   by_cases hi:i < ρ'.length
   ·rw[af hi,af hi]
    refine (zh8 h).mono fun j hj=>?_
    refine ff (bw.mp hj) ?_;intro h1 h2
    refine bw.mpr ⟨h1,?_⟩
    simp only[yd,List.contains_cons,List.contains_nil,Bool.or_false] at h2 ⊢
    simpa using h2
   ·rw[aj hi,aj hi];trivial
 | two a b iha ihb=>
   intro d S ρ ρ' h
   have key:∀ (d1 d2:V),Both (subL S (yd (.two a b))) ((zq a d1 ρ).bind (zq b d2)) ((zq a d1 ρ').bind (zq b d2)):=fun d1 d2=>by
    refine zjc (U:=[]) (iha d1 S ρ ρ' h) fun r r' h'=>?_
    have:=ihb d2 _ r r' h'
    revert this
    cases zq b d2 r <;> cases zq b d2 r' <;> intro this <;> first | exact this | skip
    refine Agree.mono this fun i hi=>?_
    simp only[subL,bw,yd,List.contains_eq_mem,ai,Bool.not_eq_true',decide_eq_false_iff_not] at hi ⊢
    exact⟨hi.1.1,fun hm=>hm.elim hi.1.2 hi.2⟩
   cases d with
   | d x=>
     unfold zq
     cases items x with
     | none=>trivial
     | some l=>
       match l with
       | [y,z]=>exact key _ _
       | []=>trivial
       | [_]=>trivial
       | _::_::_::_=>trivial
   | _=>trivial
theorem zjd(c:CT)(d:V)(ρ:Loc):zq c d (clr (yd c) ρ)=zq c d ρ:=by
 have:=zex c d _ _ _ (zi9 (yd c) ρ)
 have e:subL (yd c) (yd c)=[]:=by
  unfold subL
  rw[List.filter_eq_nil_iff]
  intro a ha
  simpa using ha
 rw[e] at this
 revert this
 cases zq c d (clr (yd c) ρ) <;> cases zq c d ρ <;> intro this <;> first | rfl | exact this.elim | exact cK some this.nil
theorem zew:∀ (c:CT) (d:V) (ρ ρ':Loc),zq c d ρ=some ρ'→∀ i,i∉yd c→ρ'[i]?=ρ[i]?:=by
 intro c
 induction c with
 | name j=>
   intro d ρ ρ' h i hi
   unfold zq at h
   split at h
   ·injection h with eU;subst eU;exact bY fun e=>hi (by simp[yd,e])
   ·exfalso;injection h
 | two a b iha ihb=>
   intro d ρ ρ' h i hi
   simp only[yd,ai,not_or] at hi
   have key:∀ (d1 d2:V),(zq a d1 ρ).bind (zq b d2)=some ρ'→ρ'[i]?=ρ[i]?:=fun d1 d2 h=>by
    cases h1:zq a d1 ρ with
    | none=>rw[h1] at h;exfalso;injection h
    | some r=>rw[h1] at h;exact (ihb d2 r ρ' h i hi.2).trans (iha d1 ρ r h1 i hi.1)
   cases d with
   | d x=>
     unfold zq at h
     cases hx:items x with
     | none=>rw[hx] at h;exfalso;injection h
     | some l=>
       rw[hx] at h
       match l,h with
       | [y,z],h=>exact key _ _ h
       | [],h=>exfalso;injection h
       | [_],h=>exfalso;injection h
       | _::_::_::_,h=>exfalso;injection h
   | _=>exfalso;injection h
theorem zgs:∀ (c:CT) (e:Expr) (l:List (Option Str)) (i:Nat) (x:Str),(addT c e l)[i]?=some (some x)→l[i]?=some (some x)∨i∈yd c:=by
 intro c
 induction c with
 | name j=>
   intro e l i x h
   cases e with
   | Name y p=>
     change (if l[j]? == some none then l.set j (some y) else l)[i]?=_ at h
     split at h
     ·by_cases hj:j=i
      ·exact .inr (by simp[yd,hj])
      ·rw[bY hj] at h;exact .inl h
     ·exact .inl h
   | _=>exact .inl h
 | two a b iha ihb=>
   intro e l i x h
   cases e with
   | Tuple es k p=>
     match es,h with
     | [y,z],h=>
       refine eW (ihb _ _ _ _ h) ?_ ?_
       ·intro h;refine eW (iha _ _ _ _ h) ?_ ?_
        ·intro h;exact .inl h
        ·intro h;exact .inr (az _ h)
       ·intro h;exact .inr (au _ h)
     | [],h=>exact .inl h
     | [_],h=>exact .inl h
     | _::_::_::_,h=>exact .inl h
   | _=>exact .inl h
theorem zno{l:List (Option Str)}(h:xg l=true):∀ (i j:Nat) x,l[i]?=some (some x)→l[j]?=some (some x)→i=j:=by
 have h:(l.filterMap id).Nodup:=bh h
 induction l with
 | nil=>intro i j x h1;simp at h1
 | cons o l ih=>
   have hl:(l.filterMap id).Nodup:=by
    cases o with
    | none=>simpa using h
    | some y=>simp at h;exact h.2
   intro i j x h1 h2
   have nin:∀ k,l[k]?=some (some x)→o≠some x:=fun k hk e=>by
    subst e
    simp at h
    have:some x∈l:=ay hk
    exact h.1 this
   match i,j,h1,h2 with
   | 0,0,_,_=>rfl
   | 0,j+1,h1,h2=>simp at h1 h2;exact absurd h1 (nin j h2)
   | i+1,0,h1,h2=>simp at h1 h2;exact absurd h2 (nin i h1)
   | i+1,j+1,h1,h2=>simp at h1 h2;exact cK (· + 1) (ih (aD hl) hl i j x h1 h2)
section
variable{G:Gl}{N M β:List Addr}{O:za}{h:Heap}
theorem u2{as:List Addr}(al:∀ a∈as,∃ o,h.get? a=some o)(hM:∀ a∈M,h.get? a=none)(q:∀ a∈as,a∉β∧a∉N):∀ a∈as,a∉β∧a∉M++N:=fun a ha=>by
 refine⟨(q a ha).1,fun hm=>?_⟩
 refine eW (ai.mp hm) ?_ ?_
 ·intro hm;refine fe (al a ha) ?_;intro o e
  rw[hM a hm] at e;exfalso;injection e
 ·intro hm;exact (q a ha).2 hm
theorem ItsR.grow(hM:∀ a∈M,h.get? a=none){vs:List Value}{its:List It}(r:ItsR N β h vs its):ItsR (M++N) β h vs its:=by
 induction r with
 | nil=>exact .nil
 | b h1 _ ih=>exact .b h1 ih
 | x h1 h2 _ ih=>exact .x h1 (u2 (y6 h1) hM h2) ih
theorem VR.grow(hM:∀ a∈M,h.get? a=Option.none){v:Value}{x:V}(r:VR G N β h v x):VR G (M++N) β h v x:=by
 cases x with
 | d x=>obtain⟨as,r,q⟩:=r;exact⟨as,r,u2 (y6 r) hM q⟩
 | box n=>exact r
 | tm its=>obtain⟨a,o,vs,k,e,h1,h2,h3,h4⟩:=r;exact⟨a,o,vs,k,e,h1,h2,h3,h4.grow hM⟩
theorem BoxAt.grow(hM:∀ a∈M,h.get? a=none){a:Addr}{bx:Box}(r:BoxAt h N β a bx):BoxAt h (M++N) β a bx:=by
 cases bx with
 | lst xs=>obtain⟨o,vs,n,h1,h2,h3,as,h4,h5⟩:=r;exact⟨o,vs,n,h1,h2,h3,as,h4,u2 (k8 h4) hM h5⟩
 | dct kvs=>
   obtain⟨o,es,n,h1,h2,h3,h4,h5⟩:=r
   refine⟨o,es,n,h1,h2,h3,h4,fun i e kv he hkv=>?_⟩
   obtain⟨hq,as,bs,r1,r2,q⟩:=h5 i e kv he hkv
   exact⟨hq,as,bs,r1,r2,u2 (fun a ha=>(ai.mp ha).elim (y6 r1 a) (y6 r2 a)) hM q⟩
theorem BR.grow(hM:∀ a∈M,h.get? a=none)(b:BR G N β O h):BR G (M++N) β O h:=
 ⟨b.keep,b.len,b.nodup,b.new,fun i a bx h1 h2=>(b.at_ i a bx h1 h2).grow hM,b.plain⟩
theorem BoxAt.less{N':List Addr}(hs:∀ a∈N,a∈N'){a:Addr}{bx:Box}(r:BoxAt h N' β a bx):BoxAt h N β a bx:=by
 cases bx with
 | lst xs=>obtain⟨o,vs,n,h1,h2,h3,as,h4,h5⟩:=r;exact⟨o,vs,n,h1,h2,h3,as,h4,fun b hb=>⟨(h5 b hb).1,fun hn=>(h5 b hb).2 (hs b hn)⟩⟩
 | dct kvs=>
   obtain⟨o,es,n,h1,h2,h3,h4,h5⟩:=r
   refine⟨o,es,n,h1,h2,h3,h4,fun i e kv he hkv=>?_⟩
   obtain⟨hq,as,bs,r1,r2,q⟩:=h5 i e kv he hkv
   exact⟨hq,as,bs,r1,r2,fun b hb=>⟨(q b hb).1,fun hn=>(q b hb).2 (hs b hn)⟩⟩
theorem BR.less{N':List Addr}(hs:∀ a∈N,a∈N')(b:BR G N' β O h):BR G N β O h:=
 ⟨b.keep,b.len,b.nodup,b.new,fun i a bx h1 h2=>(b.at_ i a bx h1 h2).less hs,b.plain⟩
theorem BR.but{D:Addr}{h':Heap}(hs:∀ b o,b≠D→h.get? b=some o→h'.get? b=some o)(hN:D∈N)(hb:D∉β)(h0:G.h₀.get? D=none)(ht:∀ o vs n,h.get? D=some o→o.data=.seq vs n→o.cls≠.type "tuple")(b:BR G N β O h):BR G N β O h':=by
 have rd:∀ {v:Value} {x:PyData} {as:List Addr},Reads h v x as→(∀ a∈as,a∉β∧a∉N)→Reads h' v x as:=fun r q=>
  jc (P:=fun a=>a≠D) (fun a o e p=>hs a o p e) (fun a o vs n e hc hd=>fun e'=>by subst e';exact ht o vs n e hd hc) r fun a ha e'=>(q a ha).2 (e' ▸ hN)
 have rda:∀ {v:List Value} {x:List PyData} {as:List Addr},ReadsAll h v x as→(∀ a∈as,a∉β∧a∉N)→ReadsAll h' v x as:=fun r q=>
  xp (P:=fun a=>a≠D) (fun a o e p=>hs a o p e) (fun a o vs n e hc hd=>fun e'=>by subst e';exact ht o vs n e hd hc) r fun a ha e'=>(q a ha).2 (e' ▸ hN)
 refine⟨fun c o e=>hs c o (fun e'=>by rw[e',h0] at e;exfalso;injection e) (b.keep c o e),b.len,b.nodup,b.new,fun i a bx h1 h2=>?_,fun a ha=>(b.plain a ha).at fun o e=>hs a o (fun e'=>hb (e' ▸ ha)) e⟩
 have hx:=b.at_ i a bx h1 h2
 have hne:a≠D:=fun e=>hb (e ▸ ay h1)
 cases bx with
 | lst xs=>obtain⟨o,vs,n,e1,e2,e3,as,e4,e5⟩:=hx;exact⟨o,vs,n,hs _ _ hne e1,e2,e3,as,rda e4 e5,e5⟩
 | dct kvs=>
   obtain⟨o,es,n,e1,e2,e3,e4,e5⟩:=hx
   refine⟨o,es,n,hs _ _ hne e1,e2,e3,e4,fun i e kv he hkv=>?_⟩
   obtain⟨hq,as,bs,r1,r2,q⟩:=e5 i e kv he hkv
   exact⟨hq,as,bs,rd r1 fun a ha=>q a (az _ ha),rd r2 fun a ha=>q a (au _ ha),q⟩
theorem ItsR.but{D:Addr}{h':Heap}(hs:∀ b o,b≠D→h.get? b=some o→h'.get? b=some o)(hN:D∈N)(ht:∀ o vs n,h.get? D=some o→o.data=.seq vs n→o.cls≠.type "tuple"){vs:List Value}{its:List It}(r:ItsR N β h vs its):ItsR N β h' vs its:=by
 induction r with
 | nil=>exact .nil
 | b h1 _ ih=>exact .b h1 ih
 | x h1 h2 _ ih=>
   refine .x (jc (P:=fun a=>a≠D) (fun a o e p=>hs a o p e) (fun a o vs n e hc hd=>fun e'=>?_) h1 fun a ha e'=>(h2 a ha).2 (e' ▸ hN)) h2 ih
   subst e';exact ht o vs n e hd hc
theorem VR.but{D:Addr}{h':Heap}(hs:∀ b o,b≠D→h.get? b=some o→h'.get? b=some o)(hN:D∈N)(ht:∀ o vs n,h.get? D=some o→o.data=.seq vs n→o.cls≠.type "tuple"){v:Value}{x:V}(r:VR G N β h v x):VR G N β h' v x:=by
 cases x with
 | d x=>
   obtain⟨as,r,q⟩:=r
   refine⟨as,jc (P:=fun a=>a≠D) (fun a o e p=>hs a o p e) (fun a o vs n e hc hd=>fun e'=>?_) r fun a ha e'=>(q a ha).2 (e' ▸ hN),q⟩
   subst e';exact ht o vs n e hd hc
 | box n=>exact r
 | tm its=>obtain⟨a,o,vs,k,e,h1,h2,h3,h4⟩:=r;exact⟨a,o,vs,k,e,hs _ _ (fun e'=>by subst e';exact ht o vs k h1 h3 h2) h1,h2,h3,h4.but hs hN ht⟩
end
theorem SR.but{G:Gl}{F:Fm}{β:List Addr}{ρ:Loc}{O:za}{h h':Heap}{D:Addr}{vs vs':Array Value}{n n':Nat}{o o':Obj}(hs:∀ b o,b≠D→h.get? b=some o→h'.get? b=some o)(hD:D∈F.B)(e:h.get? D=some o)(hc:o.cls=.type "list")(hd:o.data=.seq vs n)
 (e':h'.get? D=some o') (hc':o'.cls=.type "list") (sr:SR G F β ρ O h):SR G F β ρ O h':=by
 have ht:∀ o vs n,h.get? D=some o→o.data=.seq vs n→o.cls≠.type "tuple":=fun o₂ vs₂ n₂ e₂ uA=>by rw [e] at e₂;injection e₂ with eU;subst eU;rw [hc];decide
 have notD:∀ {b:Addr} {o₂:Obj},h.get? b=some o₂→(∀ vs n,o₂.data≠.seq vs n)→b≠D:=fun e₂ hn e₃=>by subst e₃;rw[e] at e₂;injection e₂ with eU;subst eU;exact hn _ _ hd
 have hns:∀ {L m},h.Ns L m→h'.Ns L m:=fun ⟨o,es,ep,h1,h2,r⟩=>⟨o,es,ep,hs _ _ (notD h1 fun vs n q=>by rw[h2] at q;exfalso;injection q) h1,h2,r⟩
 have hcell:∀ {c v},h.IsCell c v→h'.IsCell c v:=fun ⟨o,h1,h2⟩=>⟨o,hs _ _ (notD h1 fun vs n q=>by rw[h2] at q;exfalso;injection q) h1,h2⟩
 refine⟨sr.br.but hs hD (sr.fm.notBox D hD) (sr.fm.newB hD (sr.br.notSysD e fun es n q=>by rw[hd] at q;exfalso;injection q)) ht,⟨sr.fm.kind,sr.fm.globals,sr.fm.builtins,sr.fm.once,let ⟨m,hm⟩:=sr.fm.ns;⟨m,hns hm⟩,sr.fm.nsW,fun x hx=>?_,sr.fm.apart,sr.fm.sub,sr.fm.new,sr.fm.notBox,fun a ha=>?_,sr.fm.frB,fun a ha=>let ⟨m,hm⟩:=sr.fm.frs a ha;⟨m,hns hm⟩,fun m e=>⟨hns (sr.fm.pin m e).1,(sr.fm.pin m e).2⟩⟩,fun i x v h1 h2=>?_⟩
 ·refine fk (sr.fm.cell x hx) ?_;intro c v h3 h4 h5
  exact fj c v h3 (hcell h4) h5
 ·by_cases ha':a=D
  ·subst ha';exact eZ o' e' (fun uA uA uA=>by rw[hc'];decide)
  ·refine eY (sr.fm.stor a ha) ?_;intro o₂ h1 h2
   exact eZ o₂ (hs _ _ ha' h1) h2
 ·refine eY (sr.get i x v h1 h2) ?_;intro val g r
  refine eZ val ?_ (r.but hs hD ht)
  refine eW g ?_ ?_<;>clear g
  ·rintro ⟨g1,m,g2,g3⟩;exact .inl ⟨g1,m,hns g2,g3⟩
  ·rintro ⟨g1,c,g2,g3⟩;exact .inr ⟨g1,c,g2,hcell g3⟩
theorem SR.fewer{G:Gl}{F:Fm}{β:List Addr}{ρ ρ':Loc}{O:za}{h:Heap}(sr:SR G F β ρ O h)(hs:∀ (i:Nat) v,ρ'[i]?=some (some v)→ρ[i]?=some (some v)):SR G F β ρ' O h:=
 ⟨sr.br,sr.fm,fun i x v h1 h2=>sr.get i x v h1 (hs i v h2)⟩
theorem Step.thenW{W₀ W β₀ β β':List Addr}{s₀ s s':Shared}(st:Step W₀ β₀ s₀ s β)(st':Step W β s s' β')(hW:∀ a∈W,s₀.heap.get? a=none):Step W₀ β₀ s₀ s' β' where
 gens:=st'.gens.trans st.gens
 os:=st'.os.trans st.os
 pre:=st.pre.trans st'.pre
 fresh:=fun a ha=>by
  refine eW (st'.fresh a ha) ?_ ?_
  ·intro h;exact st.fresh a h
  ·intro h;right
   cases e:s₀.heap.get? a with
   | none=>rfl
   | some o=>refine fe (st.alive a o e) ?_;intro o' e';rw[e'] at h;exfalso;injection h
 alive:=fun b o e=>let ⟨o',e'⟩:=st.alive b o e;st'.alive b o' e'
 kept:=fun b o e hb hW'=>by
  refine eY (st.kept b o e hb hW') ?_;intro o' e' kn
  obtain⟨o'',e'',kn'⟩:=st'.kept b o' e' (fun hb'=>by
   refine eW (st.fresh b hb') ?_ ?_
   ·intro h;exact hb h
   ·intro h;rw[e] at h;exfalso;injection h) fun hw=>by rw[hW b hw] at e;exfalso;injection e
  exact eZ o'' e'' (kn.trans kn')
noncomputable def zh(cx:Cx)(F:Fm)(tgt:CT)(t:Expr)(scope:Scope)(C D:Addr):Fm:=
 { env:={ zep scope F.env C (jh F.env scope.names []) with scope:=relabel scope F.env }
   names:=(cx.inner tgt t scope).names
   own:=ownOf scope
   W:=C::(cellsFrom (C+1) scope.names []).map (·.2)
   B:=(D::C::(cellsFrom (C+1) scope.names []).map (·.2))++F.B
   fr:=F.fr }
theorem yn{scope sc:Scope}(h:xa scope sc=true):scope.kind=.function∧(scope.names.map (·.1)).Nodup∧∀ x k,(x,k)∈scope.names→k=.local∨k=.cell∨k=.globalImplicit∨(k=.free∧sc.names.lookup x=some .cell):=by
 refine fg (and3 h) ?_;intro h1 h2 h3
 refine⟨aQ.mp h1,bh h2,fun x k hm=>?_⟩
 have:=aI.mp h3 (x,k) hm
 simpa [bG,aG,aQ,or_assoc] using this
theorem wc(f:Str→NameKind→NameKind):∀ (l:List (Str×NameKind)) (x:Str),(l.map fun (n,k)=>(n,f n k)).lookup x=(l.lookup x).map (f x)
 | [],x=>rfl
 | (n,k)::r,x=>by
   rw[aS,bJ,bJ]
   cases hx:x == n with
   | true=>rw[aQ.mp hx];rfl
   | false=>exact wc f r x
section
variable{G:Gl}{F:Fm}{A:Around}{cx:Cx}{tgt:CT}{t:Expr}{scope:Scope}
theorem zfo(fit:Fits F cx)(hk:F.env.scope.kind=.function):relabel scope F.env=zbg scope cx.sc:=by
 unfold relabel zbg
 congr 1
 refine bO fun p uA=>?_
 obtain⟨n,k⟩:=p
 have h1:F.env.kindOf n=cx.sc.names.lookup n:=fit.kind n
 dsimp only
 rw[h1,hk,fit.sck]
theorem du(fit:Fits F cx)(hk:F.env.scope.kind=.function)(C D:Addr)(x:Str):(zh cx F tgt t scope C D).env.kindOf x=(cx.inner tgt t scope).kind x:=by
 show (relabel scope F.env).names.lookup x=(zbg scope cx.sc).names.lookup x
 rw[zfo fit hk]
theorem zd5(hsc:xa scope cx.sc=true)(fit:Fits F cx)(x:Str):(cx.inner tgt t scope).kind x=(match scope.names.lookup x with | some .free=>some .cell | o=>o):=by
 refine fg (yn hsc) ?_;intro h1 h2 h3
 show (zbg scope cx.sc).names.lookup x=_
 unfold zbg
 have e:(scope.names.map fun (n,k)=>if (k == NameKind.free && cx.sc.kind == ScopeKind.function && cx.sc.names.lookup n == some NameKind.cell) then (n,NameKind.cell) else (n,k)) =
  scope.names.map fun (n,k)=>(n,if (k == NameKind.free && cx.sc.kind == ScopeKind.function && cx.sc.names.lookup n == some NameKind.cell) then NameKind.cell else k):=by
  refine bO fun p uA=>?_
  obtain⟨n,k⟩:=p
  dsimp only
  split <;> rfl
 dsimp only
 rw[e,wc (fun n k=>if (k == NameKind.free && cx.sc.kind == ScopeKind.function && cx.sc.names.lookup n == some NameKind.cell) then NameKind.cell else k)]
 cases hl:scope.names.lookup x with
 | none=>rfl
 | some k=>
   have hm:=(lookup_mem h2).mpr hl
   dsimp only[Option.map]
   rcases h3 x k hm with rfl | rfl | rfl | ⟨rfl,hc⟩
   ·rfl
   ·rfl
   ·rfl
   ·rw[hc,fit.sck];rfl
theorem dw(fit:Fits F cx)(hk:F.env.scope.kind=.function)(hsc:xa scope cx.sc=true)(C D:Addr):Fits (zh cx F tgt t scope C D) (cx.inner tgt t scope) where
 names:=rfl
 kind:=du fit hk C D
 sck:=(yn hsc).1
end
section
variable{prog:Program}{w:World}{A:Around}{R:Result→Shared→Prop}{s:Shared}
noncomputable def y9(ifs:List Expr)(env:Env):Sem Bool:=forIn ifs true fun c r=>if r=true then do let ok ← isTrue c env (eval c env);pure (ForInStep.yield ok) else pure (ForInStep.yield r)
theorem qj{elt target iter:Expr}{ifs:List Expr}{scope:Scope}{pos:Pos}{it acc:Value}{env:Env}(I:Nat→Shared→Prop)
 (turn:∀ n s,I n s→wpAny (model prog w) A (pyNext it) (fun r s₁=>match r with
   | none=>R (.ok .next) s₁
   | some v=>wpAny (model prog w) A (letOwnedTupleGo target it v) (fun uA s₁'=>wpAny (model prog w) A (assign target env v) (fun uA s₂=>
      wpAny (model prog w) A (y9 ifs env) (fun ok s₃=>
       if ok=true then wpAny (model prog w) A (eval elt env) (fun x s₄=>
        wpAny (model prog w) A (call (.builtin "list.append") [acc,x]) (fun uA s₅=>∃ m,m < n∧I m s₅) (notedBy (model prog w) A env fun e s'=>R (.error e) s') s₄) (notedBy (model prog w) A env fun e s'=>R (.error e) s') s₃
       else ∃ m,m < n∧I m s₃) (notedBy (model prog w) A env fun e s'=>R (.error e) s') s₂) (notedBy (model prog w) A env fun e s'=>R (.error e) s') s₁') (notedBy (model prog w) A env fun e s'=>R (.error e) s') s₁)
   (notedBy (model prog w) A env fun e s'=>R (.error e) s') s)
 (n:Nat) (h:I n s):codeAny (model prog w) A (.compLoop (.ListComp elt [⟨target,iter,ifs,0⟩] scope pos) 0 it acc env) R s:=by
 refine codeAny_loop rfl I (fun n s hI=>?_) n h
 show wpAny _ A ((compTurn (.ListComp elt [⟨target,iter,ifs,0⟩] scope pos) 0 it acc env).onRaise (fun x=>do noteFrame x env;theTreesLotGoes x)) _ _ s
 refine wpAny_noted ?_
 rw[compTurn_list]
 refine aa (bR (aa (aM (turn n s hI) (fun r s₁ h₁=>?_) fun uA uA h'=>h')))
 cases r with
 | none=>exact ab h₁
 | some v=>
   refine aa (aM h₁ (fun uA s₁' h₁'=>?_) fun uA uA h'=>h')
   refine aa (aM h₁' (fun uA s₂ h₂=>aa (aM h₂ (fun ok s₃ h₃=>?_) fun uA uA h'=>h')) fun uA uA h'=>h')
   cases ok with
   | false=>exact ab ⟨rfl,h₃⟩
   | true=>
     exact aa (aa (aM h₃ (fun x s₄ h₄=>aa (aM h₄ (fun uA s₅ h₅=>ab (ab ⟨rfl,h₅⟩)) fun uA uA h'=>h')) fun uA uA h'=>h'))
end
section
variable{G:Gl}{F:Fm}{A:Around}{cx:Cx}{tgt:CT}{t:Expr}{scope:Scope}{gval:Nat→Option PyData}{gname:Nat→Option Str}
set_option tactic.hygienic true in
theorem zju{β:List Addr}{ρ:Loc}{O:za}{s s':Shared}{C D:Addr}{m:Str→Option Value}{oD:Obj}(fit:Fits F cx)(sr:SR G F β ρ O s.heap)(hsc:xa scope cx.sc=true)(honce:xg (cx.inner tgt t scope).names=true)
 (kept:∀ b o,s.heap.get? b=some o→s'.heap.get? b=some o) (hns:s'.heap.Ns C m) (ok:CellsOk s'.heap (C+1) (cellsFrom (C+1) scope.names [])) (hlo:∀ a,C≤a→s.heap.get? a=none)
 (hDn:s.heap.get? D=none) (hD:s'.heap.get? D=some oD) (hDc:oD.cls=.type "list"):SR G (zh cx F tgt t scope C D) β (clr (yd tgt) ρ) O s'.heap:=by
 refine fg (yn hsc) ?_;intro k1 k2 k3
 have hkind:=du (tgt:=tgt) (t:=t) (scope:=scope) fit sr.fm.kind C D
 have hkind':=zd5 (tgt:=tgt) (t:=t) hsc fit
 have hCn:s.heap.get? C=none:=hlo C (aL _)
 have hcn:∀ x c,(x,c)∈cellsFrom (C+1) scope.names []→s.heap.get? c=none:=fun x c hm=>hlo c (Nat.le_of_succ_le (ok.empty x c hm).2)
 have hM:∀ a∈D::C::(cellsFrom (C+1) scope.names []).map (·.2),s.heap.get? a=none:=fun a ha=>by
  refine eW (ae.mp ha) ?_ ?_
  ·rintro rfl;exact hDn
  ·intro ha;refine eW (ae.mp ha) ?_ ?_
   ·rintro rfl;exact hCn
   ·intro ha;refine eY (av.mp ha) ?_;intro p hp eo;subst eo
    exact hcn p.1 p.2 hp
 have h0:∀ a,s.heap.get? a=none→G.h₀.get? a=none:=fun a ha=>by
  cases e:G.h₀.get? a with
  | none=>rfl
  | some o=>have:=sr.br.keep a o e;rw[ha] at this;exfalso;injection this
 have lkup:∀ x,(zh cx F tgt t scope C D).env.cells.lookup x=((cellsFrom (C+1) scope.names []).lookup x).or (if (x,NameKind.free)∈scope.names then some ((F.env.cells.lookup x).getD 0) else none):=fun x=>by
  show (cellsFrom (C+1) scope.names (jh F.env scope.names [])).lookup x=_
  rw[xr,List.lookup_append,jv]
  rfl
 have newNone:∀ x,(x,NameKind.free)∈scope.names→(cellsFrom (C+1) scope.names []).lookup x=none:=fun x hx=>by
  cases e:(cellsFrom (C+1) scope.names []).lookup x with
  | none=>rfl
  | some c=>
    refine eW (xq _ _ _ (mem_of_lookup e)) ?_ ?_
    ·intro h;have e1:=(lookup_mem k2).mp hx
     have e2:=(lookup_mem k2).mp h
     rw[e1] at e2;injection e2 with eU;exfalso;injection eU
    ·intro h;cases h
 have outer:∀ x,(x,NameKind.free)∈scope.names→∃ c v,F.env.cells.lookup x=some c∧s.heap.IsCell c v∧c∈F.B∧(zh cx F tgt t scope C D).env.cells.lookup x=some c:=fun x hx=>by
  have hc:cx.sc.names.lookup x=some .cell:=by
   rcases k3 x _ hx with h | h | h | ⟨_,h⟩
   ·exfalso;injection h
   ·exfalso;injection h
   ·exfalso;injection h
   ·exact h
  refine fx (sr.fm.cell x ((fit.kind x).trans hc)) ?_;intro c v h1 h2 h3 _
  refine fC c v h1 h2 h3 ?_
  rw[lkup,newNone x hx,af hx,h1];rfl
 refine⟨(sr.br.grow hM).keepAll kept,⟨k1,sr.fm.globals,sr.fm.builtins,zno honce,⟨m,hns⟩,ao,fun x hx=>?_,fun x y c hx hy=>?_,fun a ha=>az _ (ag _ ha),?_,fun a ha hb=>?_,fun a ha=>?_,fun a ha=>au _ (sr.fm.frB a ha),fun a ha=>let ⟨m,hm⟩:=sr.fm.frs a ha;⟨m,hm.keeps kept⟩,fun m e=>nomatch e⟩,fun i x v h1 h2=>?_⟩
 ·rw[hkind,hkind'] at hx
  cases hl:scope.names.lookup x with
  | none=>rw[hl] at hx;exfalso;injection hx
  | some k=>
    have hm:=(lookup_mem k2).mpr hl
    rw[hl] at hx
    cases k with
    | cell=>
      refine fe (bn.mp (ye scope.names (C+1) [] (.inl hm))) ?_;intro c hc
      have hmem:=mem_of_lookup hc
      have hW:c∈C::(cellsFrom (C+1) scope.names []).map (·.2):=ag _ (av.mpr ⟨(x,c),hmem,rfl⟩)
      exact fC c none (by rw[lkup,hc];rfl) (ok.empty x c hmem).1 (az _ (ag _ hW)) (fun uA=>hW)
    | free=>
      refine fx (outer x hm) ?_;intro c v h1 h2 h3 h4
      refine fC c v h4 (h2.keeps kept) (au _ h3) (fun ho=>?_)
      have ho:ownOf scope x=true:=ho
      unfold ownOf at ho
      rw[hl] at ho
      exact absurd ho (by decide)
    | _=>injection hx with eU;exfalso;injection eU
 ·rw[lkup] at hx hy
  cases e1:(cellsFrom (C+1) scope.names []).lookup x with
  | some c1=>
    rw[e1] at hx
    have:c1=c:=aP hx
    subst this
    cases e2:(cellsFrom (C+1) scope.names []).lookup y with
    | some c2=>
      rw[e2] at hy
      have:c2=c1:=aP hy
      subst this
      exact name_of_addr ok.apart (mem_of_lookup e1) (mem_of_lookup e2)
    | none=>
      rw[e2] at hy
      by_cases hf:(y,NameKind.free)∈scope.names
      ·refine fx (outer y hf) ?_;intro c' v q1 ez _ _;refine eY ez ?_;clear ez;intro o q2 _
       rw[af hf,q1] at hy
       have:c'=c1:=aP hy
       subst this
       have:=hcn x c' (mem_of_lookup e1)
       rw[q2] at this;exfalso;injection this
      ·rw[aj hf] at hy;exfalso;injection hy
  | none=>
    rw[e1] at hx
    by_cases hf:(x,NameKind.free)∈scope.names
    ·refine fx (outer x hf) ?_;intro c' v q1 ez _ _;refine eY ez ?_;clear ez;intro o q2 _
     rw[af hf,q1] at hx
     have:c'=c:=aP hx
     subst this
     cases e2:(cellsFrom (C+1) scope.names []).lookup y with
     | some c2=>
       rw[e2] at hy
       have:c2=c':=aP hy
       subst this
       have:=hcn y c2 (mem_of_lookup e2)
       rw[q2] at this;exfalso;injection this
     | none=>
       rw[e2] at hy
       by_cases hf':(y,NameKind.free)∈scope.names
       ·refine fy (outer y hf') ?_;intro c'' v' q1' _
        rw[af hf',q1'] at hy
        have:c''=c':=aP hy
        subst this
        exact sr.fm.apart x y c'' q1 q1'
       ·rw[aj hf'] at hy;exfalso;injection hy
    ·rw[aj hf] at hx;exfalso;injection hx
 ·have:=zdw (F:=F) (fr:=[]) sr.br hM ⟨sr.fm.new.1,sr.fm.new.2.1⟩
  exact⟨this.1,this.2.1,fun hm=>this.2.2 (ag _ hm),sr.fm.new.2.2.2⟩
 ·refine eW (ai.mp ha) ?_ ?_
  ·intro ha;refine eY (sr.br.alive a hb) ?_;intro o e _
   rw[hM a ha] at e;exfalso;injection e
  ·intro ha;exact sr.fm.notBox a ha hb
 ·refine eW (ai.mp ha) ?_ ?_
  ·intro ha;refine eW (ae.mp ha) ?_ ?_
   ·rintro rfl;exact eZ oD hD (fun uA uA uA=>by rw[hDc];decide)
   ·intro ha;refine eW (ae.mp ha) ?_ ?_
    ·rintro rfl;refine fw hns ?_;clear hns;intro o es ep q1 q2 _
     exact eZ o q1 (fun vs n q=>by rw[q2] at q;exfalso;injection q)
    ·intro ha;refine eY (av.mp ha) ?_;intro p hp eo;subst eo
     refine eY (ok.empty p.1 p.2 hp).1 ?_;intro o q1 q2
     exact eZ o q1 (fun vs n q=>by rw[q2] at q;exfalso;injection q)
  ·intro ha;refine eY (sr.fm.stor a ha) ?_;intro o q1 q2
   exact eZ o (kept _ _ q1) q2
 ·have hi:i∉yd tgt:=fun hm=>zah _ _ _ _ hm h2
  rw[va _ _ _ hi] at h2
  refine eW (zgs tgt t _ i x h1) ?_ ?_
  ·intro h1;rw[aR] at h1
   cases hn:cx.names[i]? with
   | none=>rw[hn] at h1;exfalso;injection h1
   | some o=>
     rw[hn] at h1
     cases o with
     | none=>injection h1 with eU;exfalso;injection eU
     | some y=>
       simp only[cu,Option.filter,Option.some.injEq] at h1
       split at h1
       ·rename_i hfree
        cases (h1)
        have hfree:scope.names.lookup x=some .free:=aQ.mp hfree
        have hm:=(lookup_mem k2).mpr hfree
        refine eY (sr.get i x v (by rw[fit.names];exact hn) h2) ?_;intro val g r
        refine fx (outer x hm) ?_;intro c v' q1 q2 q3 q4
        refine eZ val ?_ ((r.grow hM).keepAll kept)
        have hcl:F.env.kindOf x=some .cell:=by
         rcases k3 x _ hm with h | h | h | ⟨_,h⟩
         ·exfalso;injection h
         ·exfalso;injection h
         ·exfalso;injection h
         ·exact (fit.kind x).trans h
        refine eW g ?_ ?_<;>clear g
        ·rintro ⟨g1,_⟩;rw[hcl] at g1;injection g1 with eU;exfalso;injection eU
        ·rintro ⟨g1,c',g2,g3⟩;rw [q1] at g2;injection g2 with eU;subst eU
         refine .inr ⟨?_,c,q4,g3.keeps kept⟩
         rw[hkind,hkind',hfree]
       ·exfalso;injection h1
  ·intro h1;exact absurd h1 hi
structure StepZ(Z β:List Addr)(s s':Shared)(β':List Addr):Prop where
 gens:s'.gens=s.gens
 os:s'.os=s.os
 pre:β <+: β'
 fresh:∀ a∈β',a∈β∨s.heap.get? a=none
 alive:∀ b o,b∉Z→s.heap.get? b=some o→∃ o',s'.heap.get? b=some o'
 kept:∀ b o,b∉Z→s.heap.get? b=some o→b∉β→∃ o',s'.heap.get? b=some o'∧Kin o o'
theorem StepZ.keptE{Z β:List Addr}{s s':Shared}{β':List Addr}(x:StepZ Z β s s' β'){b:Addr}{o:Obj}(hz:b∉Z)(e:s.heap.get? b=some o)(hb:b∉β)(hd:∀ es n,o.data≠.dict es n):s'.heap.get? b=some o:=by
 refine eY (x.kept b o hz e hb) ?_;intro o' e' k
 rw[e',k.same hd]
theorem Step.z{Z β β':List Addr}{s s' s'':Shared}(st:Step Z β s s' β')(kz:KeepsZ Z s' s''):StepZ Z β s s'' β':=
 ⟨kz.gens.trans st.gens,kz.os.trans st.os,st.pre,st.fresh,fun b o hz e=>let ⟨o',e'⟩:=st.alive b o e;⟨o',kz.kept b o' hz e'⟩,fun b o hz e hb=>let ⟨o',e',kn⟩:=st.kept b o e hb hz;⟨o',kz.kept b o' hz e',kn⟩⟩
theorem Step.thenStepZ{W Z β₀ β β':List Addr}{s₀ s s':Shared}(st:Step W β₀ s₀ s β)(sz:StepZ Z β s s' β')(hz:∀ z∈Z,s₀.heap.get? z=none):Step W β₀ s₀ s' β' where
 gens:=sz.gens.trans st.gens
 os:=sz.os.trans st.os
 pre:=st.pre.trans sz.pre
 fresh:=fun a ha=>by
  refine eW (sz.fresh a ha) ?_ ?_
  ·intro h;exact st.fresh a h
  ·intro h;right
   cases e:s₀.heap.get? a with
   | none=>rfl
   | some o=>refine fe (st.alive a o e) ?_;intro o' e';rw[e'] at h;exfalso;injection h
 alive:=fun b o e=>by
  refine fe (st.alive b o e) ?_;intro o' e'
  exact sz.alive b o' (fun h=>by rw[hz b h] at e;exfalso;injection e) e'
 kept:=fun b o e hb hW=>by
  refine eY (st.kept b o e hb hW) ?_;intro o' e' kn
  obtain⟨o'',e'',kn'⟩:=sz.kept b o' (fun h=>by rw[hz b h] at e;exfalso;injection e) e' fun hb'=>by
   refine eW (st.fresh b hb') ?_ ?_
   ·intro h;exact hb h
   ·intro h;rw[e] at h;exfalso;injection h
  exact eZ o'' e'' (kn.trans kn')
structure CompEnd(G:Gl)(F:Fm)(scope:Scope)(Z β₁:List Addr)(s₁:Shared)(C D:Addr)(acc:List PyData)(O':za)(s':Shared)(β':List Addr):Prop where
 step:StepZ Z β₁ s₁ s' β'
 br:BR G (D::(C::(cellsFrom (C+1) scope.names []).map (·.2))++F.B) β' O' s'.heap
 list:ListAt s'.heap (D::(C::(cellsFrom (C+1) scope.names []).map (·.2))++F.B) β' D acc
 ns:∃ m,s'.heap.Ns C m
 stor:∀ a∈C::(cellsFrom (C+1) scope.names []).map (·.2),∃ o,s'.heap.get? a=some o∧∀ vs n,o.data=.seq vs n→o.cls≠.type "tuple"
 notBox:∀ a∈D::(C::(cellsFrom (C+1) scope.names []).map (·.2))++F.B,a∉β'
 new:∀ a∈D::C::(cellsFrom (C+1) scope.names []).map (·.2),s₁.heap.get? a=none
 notCell:D∉(cellsFrom (C+1) scope.names []).map (·.2)
 plain:Plain s'.heap D
inductive CInv(G:Gl)(F':Fm)(src:Src)(Z β₁:List Addr)(s₁:Shared)(D:Addr)(ρc:Loc)(St:Nat→List Addr→List Addr→Heap→Prop)(go:List PyData→List PyData→za→Prop)(k:Nat)(s:Shared):Prop
 | mk (i:Nat) (β:List Addr) (O:za) (acc:List PyData) (hk:k=src.xs.length+1 - i) (hi:i≤src.xs.length) (step:Step Z β₁ s₁ s β) (sr:SR G F' β ρc O s.heap) (has:src.Has O) (st:St i F'.B β s.heap)
   (hl:ListAt s.heap F'.B β D acc) (hpl:Plain s.heap D) (hal:acc.length≤i) (hgo:go (src.xs.drop i) acc O)
inductive zms(evX:za→R za V)(O₂:za):Bool→Option PyData→za→Prop
 | skip:zms evX O₂ false none O₂
 | put (d:PyData) (O':za) (h:evX O₂=.ok (.d d) O'):zms evX O₂ true (some d) O'
inductive TurnOk(tgt:CT)(evT:Loc→za→R za Bool)(evX:Loc→za→R za V)(ρ:Loc)(x:PyData)(O:za)(y:Option PyData)(O':za):Prop
 | mk (ρ':Loc) (b:Bool) (O₂:za) (hb:zq tgt (.d x) ρ=some ρ') (ht:evT ρ' O=.ok b O₂) (hp:zms (evX ρ') O₂ b y O')
theorem znh{r:R za V}{y:Option PyData}{O':za}(h:(r.bind fun v O=>(match v with | .d y=>R.ok (some y) O | _=>.stuck))=.ok y O'):∃ d,r=.ok (.d d) O'∧y=some d:=by
 cases r with
 | ok v O=>cases v <;> first | (cases h;done) | skip
           exact eZ _ (by injection h with eU eV;subst eU eV;rfl) (by injection h with eU eV;subst eU eV;rfl)
 | _=>exfalso;injection h
theorem zjl{tgt:CT}{evT:Loc→za→R za Bool}{evX:Loc→za→R za V}{ρ:Loc}{x:PyData}{O:za}{y:Option PyData}{O':za}(h:xu tgt evT evX ρ x O=.ok y O'):TurnOk tgt evT evX ρ x O y O':=by
 unfold xu at h
 cases hb:zq tgt (.d x) ρ with
 | none=>rw[hb] at h;exfalso;injection h
 | some ρ'=>
   rw[hb] at h
   dsimp only at h
   cases ht:evT ρ' O with
   | ok b O₂=>
     rw[ht] at h
     cases b with
     | false=>injection h with eU eV;subst eU eV;exact⟨ρ',false,_,hb,ht,.skip⟩
     | true=>refine eY (znh h) ?_;intro d e eo;subst eo;exact⟨ρ',true,O₂,hb,ht,.put d O' e⟩
   | _=>rw[ht] at h;exfalso;injection h
inductive GoOk(src:Src)(turn:PyData→za→R za (Option PyData))(x:PyData)(xs acc:List PyData)(O:za)(v:V)(O':za):Prop
 | mk (y:Option PyData) (O₂:za) (ht:turn x O=.ok y O₂) (hs:src.still O₂=true) (hg:yg src turn xs (acc++y.toList) O₂=.ok v O')
theorem zro{src:Src}{turn:PyData→za→R za (Option PyData)}{x:PyData}{xs acc:List PyData}{O:za}{v:V}{O':za}(h:yg src turn (x::xs) acc O=.ok v O'):GoOk src turn x xs acc O v O':=by
 have h:(match turn x O with
  | .ok y O'=>if src.still O' then yg src turn xs (acc++y.toList) O' else .stuck
  | _=>.stuck)=R.ok v O':=h
 cases ht:turn x O with
 | ok y O₂=>
   rw[ht] at h
   dsimp only at h
   by_cases hs:src.still O₂=true
   ·rw[af hs] at h;exact⟨y,O₂,ht,hs,h⟩
   ·rw[aj hs] at h;exfalso;injection h
 | _=>rw[ht] at h;exfalso;injection h
theorem pj{F':Fm}{D:Addr}{acc:List PyData}{s s':Shared}{β β':List Addr}{ρ:Loc}{O:za}(hDB:D∈F'.B)(hDW:D∉F'.W)(sr:SR G F' β ρ O s.heap)(st:Step F'.W β s s' β')(h:ListAt s.heap F'.B β D acc):ListAt s'.heap F'.B β' D acc:=by
 obtain⟨o,vs,n,e1,e2,e3,as,e4,e5⟩:=h
 refine ff (zu sr.br sr.fm st e4 e5) ?_;intro q1 q2
 exact⟨o,vs,n,st.keptE e1 (sr.fm.notBox D hDB) hDW (fun es n q=>by rw[e3] at q;exfalso;injection q),e2,e3,as,q1,q2⟩
theorem vo{F':Fm}{D:Addr}{acc:List PyData}{s s':Shared}{β β':List Addr}{ρ:Loc}{O:za}(hDB:D∈F'.B)(hDW:D∉F'.W)(sr:SR G F' β ρ O s.heap)(st:Step F'.W β s s' β')(p:Plain s.heap D)(h:ListAt s.heap F'.B β D acc):Plain s'.heap D:=by
 obtain⟨o,vs,n,e1,e2,e3,as,e4,e5⟩:=h
 exact p.at fun o e=>st.keptE e (sr.fm.notBox D hDB) hDW (fun es n q=>by rw[e1] at e;injection e with eU;subst eU;rw[e3] at q;exfalso;injection q)
theorem zi6{F':Fm}{D:Addr}{acc:List PyData}{s:Shared}{β:List Addr}{ρ:Loc}{O:za}{v:Value}{y:PyData}{Q:Value→Shared→Prop}{E:Value→Shared→Prop}(hDB:D∈F'.B)(sr:SR G F' β ρ O s.heap)(rv:VR G F'.B β s.heap v (.d y))(hl:ListAt s.heap F'.B β D acc)(hpl:Plain s.heap D)(hn:acc.length≤line)
 (k:∀ h',(∀ b o,b≠D→s.heap.get? b=some o→h'.get? b=some o)→(∃ o,h'.get? D=some o)→SR G F' β ρ O h'→(∀ v x,VR G F'.B β s.heap v (.d x)→VR G F'.B β h' v (.d x))→ListAt h' F'.B β D (acc++[y])→Plain h' D→Q .none { s with heap:=h' }) :
 wpAny (model G.prog G.w) A (call (.builtin "list.append") [.ref D,v]) Q E s:=by
 obtain⟨o,vs,n,e1,e2,e3,as,e4,e5⟩:=hl
 have hvl:=zd e4
 have hvs:vs.size≤sizeLine:=by
  rw[← aC,hvl]
  exact ak hn (by decide)
 have hPL:s.heap.PlainList D vs:=by
  refine ft hpl ?_;clear hpl;intro o₉ g1 g2 g3
  rw[e1] at g1;injection g1 with eU;subst eU
  obtain⟨cl,di,da,sl⟩:=o
  simp only at e2 e3 g2 g3
  subst e2 e3 g2 g3
  exact fh n e1
 refine wpAny_list_append_plain hPL (fun h' hl₆ hs₆=>?_) hvs
 refine fe hl₆ ?_;clear hl₆;intro n' f1
 have hs':∀ b o,b≠D→s.heap.get? b=some o→h'.get? b=some o:=fun b o hb e=>(hs₆.2 b hb).trans e
 have tup:∀ o₂ vs₂ n₂,s.heap.get? D=some o₂→o₂.data=.seq vs₂ n₂→o₂.cls≠.type "tuple":=fun o₂ vs₂ n₂ e₂ uA=>by rw [e1] at e₂;injection e₂ with eU;subst eU;rw [e2];decide
 have vr:∀ v x,VR G F'.B β s.heap v (.d x)→VR G F'.B β h' v (.d x):=fun v x r=>r.but hs' hDB tup
 obtain⟨bs,r5,q5⟩:=vr _ _ rv
 have r4:ReadsAll h' vs.toList acc as:=xp (P:=fun a=>a≠D) (fun a o e p=>hs' a o p e) (fun a o vs n e hc hd=>fun e'=>by subst e';exact tup o vs n e hd hc) e4 fun a ha e'=>(e5 a ha).2 (e' ▸ hDB)
 refine k h' hs' ⟨_,f1⟩ (sr.but (n':=n') (vs':=vs) hs' hDB e1 e2 e3 f1 rfl) vr ⟨_,_,n',f1,rfl,rfl,as++(bs++[]),?_,fun a ha=>?_⟩ ⟨_,f1,rfl,rfl⟩
 ·rw[Array.toList_push]
  exact yh r4 (.cons r5 .nil)
 ·rw[be] at ha
  exact (ai.mp ha).elim (e5 a) (q5 a)
theorem zi7{elt iter:Expr}{ifs:List Expr}{pos:Pos}{src:Src}{I D:Addr}{Z:List Addr}{St:Nat→List Addr→List Addr→Heap→Prop}{evT:Loc→za→R za Bool}{evX:Loc→za→R za V}{F':Fm}{cx':Cx}{own:Str→Bool}
 (g:GOk G gval gname) (hh:A.handled=none) (fit':Fits F' cx') (hown:∀ x,own x=true→F'.own x=true) (hc:chkT cx' own tgt t=true)
 (ht:∀ s β ρ O,SR G F' β ρ O s.heap→Does G F' A s β (y9 ifs F'.env) ((evT ρ O).lift ρ) BRel)
 (he:∀ s β ρ O,SR G F' β ρ O s.heap→Does G F' A s β (eval elt F'.env) ((evX ρ O).lift ρ) (VRel G F'))
 (W:Turns G A t I Z src St) {s₁ s:Shared} {β₁:List Addr} {ρ:Loc} {O₁:za} (hz0:∀ z∈Z,G.h₀.get? z=none) (hzF:∀ z∈Z,z∉F'.B) (hDn:s₁.heap.get? D=none) (hWn:∀ a∈F'.W,s₁.heap.get? a=none) (hDW:D∉F'.W) (hDB:D∈F'.B)
 (hlen:src.xs.length≤line) (step:Step Z β₁ s₁ s β₁) (sr:SR G F' β₁ (clr (yd tgt) ρ) O₁ s.heap) (has:src.Has O₁) (st:St 0 F'.B β₁ s.heap) (hlist:s.heap.PlainList D #[])
 {v:V} {O':za} (hgo:yg src (xu tgt evT evX ρ) src.xs [] O₁=.ok v O') {R:Result→Shared→Prop}
 (hR:∀ s' β' res,v=.d (.list res)→StepZ Z β₁ s₁ s' β'→SR G F' β' (clr (yd tgt) ρ) O' s'.heap→ListAt s'.heap F'.B β' D res→Plain s'.heap D→R (.ok .next) s') :
 codeAny (model G.prog G.w) A (.compLoop (.ListComp elt [⟨t,iter,ifs,0⟩] scope pos) 0 (.ref I) (.ref D) F'.env) R s:=by
 refine fe hlist ?_;clear hlist;intro n e1
 refine qj (CInv G F' src Z β₁ s₁ D (clr (yd tgt) ρ) St fun xs acc O=>yg src (xu tgt evT evX ρ) xs acc O=.ok v O') ?_ (src.xs.length+1) ⟨0,β₁,O₁,[],rfl,a8 _,step,sr,has,st,⟨_,_,n,e1,rfl,rfl,[],.nil,fun uA h=>nomatch h⟩,⟨_,e1,rfl,rfl⟩,aL _,hgo⟩
 clear hgo st has sr step e1
 intro k s hI
 obtain⟨i,β,O,acc,rfl,hi,step,sr,has,st,hl,hpl,hal,hgo⟩:=hI
 have hitr:=W.itr _ _ _ _ st
 by_cases hlt:i < src.xs.length
 ·rw[List.drop_eq_getElem_cons hlt] at hgo
  have hx:src.xs[i]?=some src.xs[i]:=aq hlt
  generalize src.xs[i]=x at hgo hx
  obtain⟨y,O₃,ht',hst,hgo⟩:=zro hgo
  obtain⟨ρ',b,O₂,hbt,het,hput⟩:=zjl ht'
  refine W.item i _ β O s x _ _ hx sr.br has st fun v s₂ kk=>?_
  refine kk _ _ fun s' kz rv st'=>?_
  have sr':=sr.keepZ hitr kz.kept g.clsRef hz0 hzF
  have step':Step Z β₁ s₁ s' β:=⟨kz.gens.trans step.gens,kz.os.trans step.os,step.pre,step.fresh,fun b o e=>by
   by_cases hb:b∈Z
   ·refine fu (W.itr _ _ _ _ st' b hb) ?_;intro o' _ _ e' _;exact fh o' e'
   ·refine fe (step.alive b o e) ?_;intro o' e';exact fh o' (kz.kept b o' hb e'),fun b o e hb hz=>let ⟨o',e',kn⟩:=step.kept b o e hb hz;⟨o',kz.kept b o' hz e',kn⟩⟩
  have hl':ListAt s'.heap F'.B β D acc:=BoxAt.keepZ (bx:=.lst acc) hitr kz.kept hl
  have hpl':Plain s'.heap D:=hpl.at fun o e=>kz.kept D o (fun h=>hzF D h hDB) e
  have da:=xy (A:=A) hh fit' hown tgt hc sr' rv
  unfold bindR at da
  dsimp only at da
  rw[zjd,hbt] at da
  dsimp only at da
  refine da _ _ fun s₃ β₃ uA st₃ sr₃ uA=>?_
  have step₃:=step'.thenW st₃ hWn
  have stZ₃:=W.over sr' hzF st' st₃
  have hl₃:=pj hDB hDW sr' st₃ hl'
  have hpl₃:=vo hDB hDW sr' st₃ hpl' hl'
  have clear':∀ {s β O},SR G F' β ρ' O s→SR G F' β (clr (yd tgt) ρ) O s:=fun sr=>sr.fewer fun j v hv=>by
   have hj:j∉yd tgt:=fun hm=>zah _ _ _ _ hm hv
   rw[va _ _ _ hj] at hv
   rw[zew tgt _ ρ ρ' hbt j hj];exact hv
  have dt:=ht s₃ β₃ ρ' O sr₃
  rw[het] at dt
  refine dt _ _ fun s₄ β₄ b' st₄ sr₄ hb=>?_
  have hb:b'=b:=hb
  subst hb
  have step₄:=step₃.thenW st₄ hWn
  have stZ₄:=W.over sr₃ hzF stZ₃ st₄
  have hl₄:=pj hDB hDW sr₃ st₄ hl₃
  have hpl₄:=vo hDB hDW sr₃ st₄ hpl₃ hl₃
  have hk:src.xs.length+1 - (i+1) < src.xs.length+1 - i:=by lia
  cases hput with
  | skip=>
    rw[aj (by decide)]
    rw[Option.toList_none,be] at hgo
    exact⟨_,hk,i+1,β₄,_,acc,rfl,hlt,step₄,clear' sr₄,Src.has_of hst,stZ₄,hl₄,hpl₄,dA hal,hgo⟩
  | put y _ hex=>
    rw[af rfl]
    have dx:=he s₄ β₄ ρ' O₂ sr₄
    rw[hex] at dx
    refine dx _ _ fun s₅ β₅ v₅ st₅ sr₅ rv₅=>?_
    have step₅:=step₄.thenW st₅ hWn
    have stZ₅:=W.over sr₄ hzF stZ₄ st₅
    refine zi6 hDB sr₅ rv₅ (pj hDB hDW sr₄ st₅ hl₄) (vo hDB hDW sr₄ st₅ hpl₄ hl₄) (ak hal (ak (cq hlt) hlen)) fun h' hs' hD sr₆ vr₆ hl₆ hpl₆=>?_
    refine⟨_,hk,i+1,β₅,O₃,acc++[y],rfl,hlt,?_,clear' sr₆,Src.has_of hst,W.keep _ _ _ _ _ _ _ stZ₅ (fun z hz o e=>hs' z o (fun e'=>hzF z hz (e' ▸ hDB)) e) vr₆ (bz _),hl₆,hpl₆,by rw[aX];exact cj hal,hgo⟩
    exact⟨step₅.gens,step₅.os,step₅.pre,step₅.fresh,fun b o e=>by
     by_cases hb:b=D
     ·subst hb;exact hD
     ·refine fe (step₅.alive b o e) ?_;intro o₂ e₂;exact fh o₂ (hs' b o₂ hb e₂),fun b o e hb hz=>let ⟨o',e',kn⟩:=step₅.kept b o e hb hz;⟨o',hs' b o' (fun e₂=>by subst e₂;rw[hDn] at e;exfalso;injection e) e',kn⟩⟩
 ·have hie:i=src.xs.length:=by lia
  rw[hie,List.drop_length] at hgo
  have hgo:Mine.R.ok (V.d (.list acc)) O=Mine.R.ok v O':=hgo
  injection hgo with eU eV;subst eU eV
  refine W.done i _ β _ s _ _ hie.symm sr.br has st fun s' kz=>?_
  exact hR s' β acc rfl (step.z kz) (sr.keepZ hitr kz.kept g.clsRef hz0 hzF) (BoxAt.keepZ (bx:=.lst _) hitr kz.kept hl) (hpl.at fun o e=>kz.kept D o (fun h=>hzF D h hDB) e)
theorem zgn{elt iter:Expr}{ifs:List Expr}{pos:Pos}{src:Src}{I C D:Addr}{Z:List Addr}{St:Nat→List Addr→List Addr→Heap→Prop}{evT:Loc→za→R za Bool}{evX:Loc→za→R za V}
 (g:GOk G gval gname) (hh:A.handled=none) (fit':Fits (zh cx F tgt t scope C D) (cx.inner tgt t scope)) (hc:chkT (cx.inner tgt t scope) (ownOf scope) tgt t=true)
 (ht:∀ s β ρ O,SR G (zh cx F tgt t scope C D) β ρ O s.heap→Does G (zh cx F tgt t scope C D) A s β (y9 ifs (zh cx F tgt t scope C D).env) ((evT ρ O).lift ρ) BRel)
 (he:∀ s β ρ O,SR G (zh cx F tgt t scope C D) β ρ O s.heap→Does G (zh cx F tgt t scope C D) A s β (eval elt (zh cx F tgt t scope C D).env) ((evX ρ O).lift ρ) (VRel G (zh cx F tgt t scope C D)))
 (W:Turns G A t I Z src St) {s₁ s:Shared} {β₁:List Addr} {ρ:Loc} {O₁:za} (hz1:∀ z∈Z,Itr s₁.heap z) (hz0:∀ z∈Z,G.h₀.get? z=none) (hzB:∀ z∈Z,z∉F.B)
 (hM:∀ a∈D::C::(cellsFrom (C+1) scope.names []).map (·.2),s₁.heap.get? a=none) (hDC:D≠C) (hDcell:∀ x,(x,D)∉cellsFrom (C+1) scope.names [])
 (hlen:src.xs.length≤line)
 (step:Step Z β₁ s₁ s β₁) (sr:SR G (zh cx F tgt t scope C D) β₁ (clr (yd tgt) ρ) O₁ s.heap) (has:src.Has O₁) (st:St 0 (zh cx F tgt t scope C D).B β₁ s.heap) (hlist:s.heap.PlainList D #[])
 {res:List PyData} {O':za}
 (hgo:yg src (xu tgt evT evX ρ) src.xs [] O₁=.ok (.d (.list res)) O') {R:Result→Shared→Prop}
 (hR:∀ s' β',CompEnd G F scope Z β₁ s₁ C D res O' s' β'→R (.ok .next) s') :
 codeAny (model G.prog G.w) A (.compLoop (.ListComp elt [⟨t,iter,ifs,0⟩] scope pos) 0 (.ref I) (.ref D) (zh cx F tgt t scope C D).env) R s:=by
 have hzF:∀ z∈Z,z∉(zh cx F tgt t scope C D).B:=fun z hz hm=>by
  refine eW (ai.mp hm) ?_ ?_
  ·intro hm;refine fu (hz1 z hz) ?_;intro o _ _ e _
   rw[hM z hm] at e;exfalso;injection e
  ·intro hm;exact hzB z hz hm
 have hDW:D∉(zh cx F tgt t scope C D).W:=fun hm=>by
  refine eW (ae.mp hm) ?_ ?_
  ·intro e;exact hDC e
  ·intro hm;refine eY (av.mp hm) ?_;intro p hp e
   exact hDcell p.1 (by rw[← e];exact hp)
 refine zi7 g hh fit' (fun x h=>h) hc ht he W hz0 hzF (hM D ao) (fun a ha=>hM a (ag _ ha)) hDW ao hlen step sr has st hlist hgo fun s' β res' e sz sr' hl hpl=>?_
 injection e with eU;injection eU with eU;subst eU
 exact hR s' β ⟨sz,sr'.br,hl,sr'.fm.ns,fun a ha=>sr'.fm.stor a (az _ (ag _ ha)),sr'.fm.notBox,hM,fun hm=>hDW (ag _ hm),hpl⟩
end
noncomputable def Fm.plus(F:Fm)(M:List Addr):Fm:={ F with B:=M++F.B }
section
variable{G:Gl}{F:Fm}{A:Around}{Z β β' N M:List Addr}{O O':za}{ρ:Loc}{s s':Shared}(hz:∀ z∈Z,Itr s.heap z)(hc:∀ c,∃ C,G.cls c=.ref C)(sz:StepZ Z β s s' β')
include hz sz
theorem zcu{as:List Addr}(al:∀ a∈as,∃ o,s.heap.get? a=some o)(q:∀ a∈as,a∉β∧a∉N):∀ a∈as,a∉β'∧a∉N:=fun a ha=>by
 refine⟨fun hb=>?_,(q a ha).2⟩
 refine eW (sz.fresh a hb) ?_ ?_
 ·intro h;exact (q a ha).1 h
 ·intro h;refine fe (al a ha) ?_;intro o e;rw[e] at h;exfalso;injection h
theorem ug(br:BR G N β O s.heap){v:Value}{x:PyData}{as:List Addr}(r:Reads s.heap v x as)(q:∀ a∈as,a∉β∧a∉N):Reads s'.heap v x as∧∀ a∈as,a∉β'∧a∉N:=by
 refine⟨qt (P:=fun a=>a∉β∧a∉Z) (fun a o e p=>sz.kept a o p.2 e p.1) (fun a o vs n e hcl hd=>⟨fun hb=>?_,notZ hz e fun fs h=>by rw[hd] at h;exfalso;injection h⟩) r fun a ha=>⟨(q a ha).1,let ⟨o,e,hd⟩:=pd r a ha;notZ hz e hd⟩,zcu hz sz (y6 r) q⟩
 refine eY (br.alive a hb) ?_;intro o' e' h'
 rw[e] at e';injection e' with eU;subst eU
 rw[hcl] at h'
 (refine eW h' ?_ ?_<;>clear h';rotate_left;intro h';rotate_right;intro h') <;> exact absurd h' (by decide)
theorem ItsR.stepZ(br:BR G N β O s.heap){vs:List Value}{its:List It}(r:ItsR N β s.heap vs its):ItsR N β' s'.heap vs its:=by
 induction r with
 | nil=>exact .nil
 | b h1 _ ih=>exact .b (xk sz.pre h1) ih
 | x h1 h2 _ ih=>refine ff (ug hz sz br h1 h2) ?_;intro r' q';exact .x r' q' ih
include hc in
theorem VR.stepZ(br:BR G N β O s.heap){v:Value}{x:V}(r:VR G N β s.heap v x):VR G N β' s'.heap v x:=by
 have nb:∀ {a:Addr} {o:Obj},s.heap.get? a=some o→a∉β→a∉β':=fun e h hb=>by
  refine eW (sz.fresh _ hb) ?_ ?_
  ·intro h';exact h h'
  ·intro h';rw[e] at h';exfalso;injection h'
 cases x with
 | d x=>obtain⟨as,r,q⟩:=r;refine ff (ug hz sz br r q) ?_;intro r' q';exact⟨as,r',q'⟩
 | box n=>obtain⟨a,h1,h2⟩:=r;exact⟨a,xk sz.pre h1,h2⟩
 | tm its=>
   obtain⟨a,o,vs,k,rfl,h1,h2,h3,h4⟩:=r
   refine⟨a,o,vs,k,rfl,sz.keptE (notZ hz h1 fun fs h=>by rw[h3] at h;exfalso;injection h) h1 (fun hb=>?_) (fun es n q=>by rw[h3] at q;exfalso;injection q),h2,h3,ItsR.stepZ hz sz br h4⟩
   refine eY (br.alive a hb) ?_;intro o' e' h'
   rw[h1] at e';injection e' with eU;subst eU
   rw[h2] at h'
   (refine eW h' ?_ ?_<;>clear h';rotate_left;intro h';rotate_right;intro h') <;> exact absurd h' (by decide)
include hc in
theorem SR.outerZ(sr:SR G F β ρ O s.heap)(hzB:∀ z∈Z,z∉F.B)(hM:∀ a∈M,s.heap.get? a=none)(br:BR G (M++F.B) β' O' s'.heap)(nb:∀ a∈M++F.B,a∉β')
 (hst:∀ a∈M,∃ o,s'.heap.get? a=some o∧∀ vs n,o.data=.seq vs n→o.cls≠.type "tuple"):SR G (F.plus M) β' ρ O' s'.heap:=by
 have hB:∀ a∈F.B,∀ o,s.heap.get? a=some o→∃ o',s'.heap.get? a=some o'∧Kin o o':=fun a ha o e=>sz.kept a o (fun h=>hzB a h ha) e (sr.fm.notBox a ha)
 have hL:F.env.locals∈F.B:=sr.fm.sub _ sr.fm.nsW
 have hns:∀ m,s.heap.Ns F.env.locals m→s'.heap.Ns F.env.locals m:=fun m hm=>Kin.ns hm (hB _ hL)
 refine⟨br,⟨sr.fm.kind,sr.fm.globals,sr.fm.builtins,sr.fm.once,?_,sr.fm.nsW,?_,sr.fm.apart,fun a ha=>au _ (sr.fm.sub a ha),?_,nb,fun a ha=>?_,fun a ha=>au _ (sr.fm.frB a ha),fun a ha=>let ⟨m,hm⟩:=sr.fm.frs a ha;⟨m,Kin.ns hm (hB a (sr.fm.frB a ha))⟩,fun m e=>⟨hns m (sr.fm.pin m e).1,(sr.fm.pin m e).2⟩⟩,fun i x v h1 h2=>?_⟩
 ·obtain⟨m,hm⟩:=sr.fm.ns;exact fh m (hns m hm)
 ·intro x hx
  refine fx (sr.fm.cell x hx) ?_;intro c v h3 h4 h6 h7
  exact fC c v h3 (Kin.cell h4 (hB c h6)) (au _ h6) h7
 ·have:=zdw (F:=F) (fr:=[]) sr.br hM ⟨sr.fm.new.1,sr.fm.new.2.1⟩
  exact⟨this.1,this.2.1,sr.fm.new.2.2⟩
 ·refine eW (ai.mp ha) ?_ ?_
  ·intro ha;exact hst a ha
  ·intro ha;refine eY (sr.fm.stor a ha) ?_;intro o h1 h2
   refine eY (hB a ha o h1) ?_;intro o' e' kn
   exact eZ o' e' (fun vs n hv=>by rw[kn.cls];exact h2 vs n (kn.data.symm.trans hv))
 ·refine eY (sr.get i x v h1 h2) ?_;intro val g r
  refine eZ val ?_ ((r.grow hM).stepZ hz hc sz (sr.br.grow hM))
  refine eW g ?_ ?_<;>clear g
  ·rintro ⟨g1,m,g2,g3⟩;exact .inl ⟨g1,m,hns m g2,g3⟩
  ·rintro ⟨g1,c,g2,g3⟩;refine fx (sr.fm.cell x g1) ?_;intro c' v' h3 h4 h6 h7
   rw[g2] at h3;injection h3 with eU;subst eU
   exact .inr ⟨g1,c,g2,Kin.cell g3 (hB c h6)⟩
end
section
variable{G:Gl}{F:Fm}{A:Around}{β β₁ N M:List Addr}{O:za}{ρ:Loc}{h h' h₁:Heap}
theorem ItsR.less{N':List Addr}(hs:∀ a∈N,a∈N'){vs:List Value}{its:List It}(r:ItsR N' β h vs its):ItsR N β h vs its:=by
 induction r with
 | nil=>exact .nil
 | b h1 _ ih=>exact .b h1 ih
 | x h1 h2 _ ih=>exact .x h1 (fun a ha=>⟨(h2 a ha).1,fun hn=>(h2 a ha).2 (hs a hn)⟩) ih
theorem VR.less{N':List Addr}(hs:∀ a∈N,a∈N'){v:Value}{x:V}(r:VR G N' β h v x):VR G N β h v x:=by
 cases x with
 | d x=>obtain⟨as,r,q⟩:=r;exact⟨as,r,fun a ha=>⟨(q a ha).1,fun hn=>(q a ha).2 (hs a hn)⟩⟩
 | box n=>exact r
 | tm its=>obtain⟨a,o,vs,k,e,h1,h2,h3,h4⟩:=r;exact⟨a,o,vs,k,e,h1,h2,h3,h4.less hs⟩
theorem SR.drop{C:Addr}(fm:FmOk G F β₁ h₁)(sr:SR G (F.plus M) β ρ O h)(hC:C∈M)(hCB:C∉F.B)(hs:∀ b o,b≠C→h.get? b=some o→h'.get? b=some o):SR G F β ρ O h':=by
 have hCM:C∈(F.plus M).B:=az _ hC
 have ht:∀ o vs n,h.get? C=some o→o.data=.seq vs n→o.cls≠.type "tuple":=fun o vs n e hd=>by
  refine eY (sr.fm.stor C hCM) ?_;intro o' e' q
  rw[e] at e';injection e' with eU;subst eU
  exact q vs n hd
 have sub:∀ a∈F.B,a∈(F.plus M).B:=fun a ha=>au _ ha
 have hL:F.env.locals∈F.B:=fm.sub _ fm.nsW
 have hB:∀ a∈F.B,∀ o,h.get? a=some o→h'.get? a=some o:=fun a ha o e=>hs a o (fun e'=>hCB (e' ▸ ha)) e
 have hns:∀ m,h.Ns F.env.locals m→h'.Ns F.env.locals m:=fun m ⟨o,es,ep,h1,r⟩=>⟨o,es,ep,hB _ hL o h1,r⟩
 refine⟨(sr.br.but hs hCM (sr.fm.notBox C hCM) (sr.fm.newB hCM fun e=>hCB (e ▸ fm.new.2.1)) ht).less sub,⟨sr.fm.kind,sr.fm.globals,sr.fm.builtins,sr.fm.once,?_,sr.fm.nsW,?_,sr.fm.apart,fm.sub,fm.new,fun a ha=>sr.fm.notBox a (sub a ha),fun a ha=>?_,fm.frB,fun a ha=>?_,fun m e=>⟨hns m (sr.fm.pin m e).1,(sr.fm.pin m e).2⟩⟩,fun i x v h1 h2=>?_⟩
 ·obtain⟨m,hm⟩:=sr.fm.ns;exact fh m (hns m hm)
 ·intro x hx
  refine fx (sr.fm.cell x hx) ?_;intro c v h3 ez _ h7;refine eY ez ?_;clear ez;intro o h4 h5
  refine fx (fm.cell x hx) ?_;intro c' _ q1 _ q2 q3
  have:F.env.cells.lookup x=some c:=h3
  rw[this] at q1;injection q1 with eU;subst eU
  exact fC c v h3 ⟨o,hB c q2 o h4,h5⟩ q2 q3
 ·refine eY (sr.fm.stor a (sub a ha)) ?_;intro o h1 h2
  exact eZ o (hB a ha o h1) h2
 ·refine fq (sr.fm.frs a ha) ?_;intro m o es ep h1 h2
  exact⟨m,o,es,ep,hB a (fm.frB a ha) o h1,h2⟩
 ·refine eY (sr.get i x v h1 h2) ?_;intro val g r
  refine eZ val ?_ ((r.but hs hCM ht).less sub)
  refine eW g ?_ ?_<;>clear g
  ·rintro ⟨g1,m,g2,g3⟩;exact .inl ⟨g1,m,hns m g2,g3⟩
  ·rintro ⟨g1,c,g2,o,g3,g4⟩;refine fx (fm.cell x g1) ?_;intro c' _ q1 _ q2 q3
   have g2':F.env.cells.lookup x=some c:=g2
   rw[g2'] at q1;injection q1 with eU;subst eU
   exact .inr ⟨g1,c,g2,o,hB c q2 o g3,g4⟩
end
section
variable{G:Gl}{F:Fm}{A:Around}{cx:Cx}{tgt:CT}{t:Expr}{scope:Scope}{gval:Nat→Option PyData}{gname:Nat→Option Str}
theorem zby{elt iter:Expr}{ifs:List Expr}{pos:Pos}{src:Src}{I:Addr}{Z:List Addr}{St:Nat→List Addr→List Addr→Heap→Prop}{evT:Loc→za→R za Bool}{evX:Loc→za→R za V}{E:Value→Shared→Prop}
 (g:GOk G gval gname) (hh:A.handled=none) (fit:Fits F cx) (hsc:xa scope cx.sc=true) (honce:xg (cx.inner tgt t scope).names=true) (hc:chkT (cx.inner tgt t scope) (ownOf scope) tgt t=true)
 (ht:∀ C D s β ρ O,SR G (zh cx F tgt t scope C D) β ρ O s.heap→Does G (zh cx F tgt t scope C D) A s β (y9 ifs (zh cx F tgt t scope C D).env) ((evT ρ O).lift ρ) BRel)
 (he:∀ C D s β ρ O,SR G (zh cx F tgt t scope C D) β ρ O s.heap→Does G (zh cx F tgt t scope C D) A s β (eval elt (zh cx F tgt t scope C D).env) ((evX ρ O).lift ρ) (VRel G (zh cx F tgt t scope C D)))
 (W:Turns G A t I Z src St) {s₁:Shared} {β₁:List Addr} {ρ:Loc} {O₁:za} (sr₁:SR G F β₁ ρ O₁ s₁.heap) (hz0:∀ z∈Z,G.h₀.get? z=none) (hzB:∀ z∈Z,z∉F.B)
 (hlen:src.xs.length≤line) (has:src.Has O₁) (st:St 0 F.B β₁ s₁.heap) {res:List PyData} {O':za} (hgo:yg src (xu tgt evT evX ρ) src.xs [] O₁=.ok (.d (.list res)) O') {RR:Value→Addr→Result→Shared→Prop}
 (hR:∀ C D s' β',CompEnd G F scope Z β₁ s₁ C D res O' s' β'→RR (.ref D) C (.ok .next) s') :
 wpAny (model G.prog G.w) A (newList []) (fun acc s₃=>wpAny (model G.prog G.w) A (newFunctionEnv scope F.env.globals (jh F.env scope.names []) [] F.env.qual none .none (some F.env)) (fun cenv s₄=>
  codeAny (model G.prog G.w) A (.compStart (.ListComp elt [⟨t,iter,ifs,0⟩] scope pos) 0 (.ref I) acc { cenv with scope:=relabel scope F.env }) (RR acc cenv.locals) s₄) E s₃) E s₁:=by
 refine wpAny_newObj_type ?_
 refine zeo fun s₄ ka hns ok=>?_
 have kp:=KeepsAll.push s₁ { cls:=.type "list",data:=.seq ([]:List Value).toArray } s₁.toks
 have ka1:KeepsAll s₁ s₄:=kp.trans ka
 generalize hD:s₁.heap.objs.size=D at *
 have hCe:(s₁.heap.push { cls:=.type "list",data:=.seq ([]:List Value).toArray }).objs.size=D+1:=by rw [bv,hD]
 dsimp only at hns ok ⊢
 rw[hCe] at hns ok ⊢
 have hlo:∀ a,D≤a→s₁.heap.get? a=none:=fun a ha=>bj (by rw[hD];exact ha)
 have hDo:s₄.heap.get? D=some { cls:=.type "list",data:=.seq ([]:List Value).toArray }:=ka.kept _ _ (by rw [← hD];exact aF _ rfl)
 have hM:∀ a∈D::(D+1)::(cellsFrom (D+1+1) scope.names []).map (·.2),s₁.heap.get? a=none:=fun a ha=>by
  refine eW (ae.mp ha) ?_ ?_
  ·rintro rfl;exact hlo _ (aL _)
  ·intro ha;refine eW (ae.mp ha) ?_ ?_
   ·rintro rfl;exact hlo _ (cH _)
   ·intro ha;refine eY (av.mp ha) ?_;intro p hp eo;subst eo
    exact hlo _ (by have:=(ok.empty p.1 p.2 hp).2;lia)
 have sr₄:=zju (C:=D+1) (D:=D) (tgt:=tgt) (t:=t) fit sr₁ hsc honce ka1.kept hns ok (fun a ha=>hlo a (Nat.le_of_succ_le ha)) (hlo _ (aL _)) hDo rfl
 have fit':=dw (tgt:=tgt) (t:=t) (scope:=scope) fit sr₁.fm.kind hsc (D+1) D
 have hz1:=W.itr _ _ _ _ st
 have st₄:St 0 (zh cx F tgt t scope (D+1) D).B β₁ s₄.heap:=W.keep 0 F.B _ β₁ β₁ s₁.heap s₄.heap st (fun z hz o e=>ka1.kept z o e) (fun v x r=>(r.grow hM).keepAll ka1.kept) (bz _)
 have loop:codeAny (model G.prog G.w) A (.compLoop (.ListComp elt [⟨t,iter,ifs,0⟩] scope pos) 0 (.ref I) (.ref D) (zh cx F tgt t scope (D+1) D).env) (RR (.ref D) (D+1)) s₄:=
  zgn g hh fit' hc (ht _ _) (he _ _) W hz1 hz0 hzB hM (bm (cL D)) (fun x hm=>by have:=(ok.empty x D hm).2;lia) hlen (ka1.step _ _) sr₄ has st₄ ⟨_,hDo⟩ hgo (hR _ _)
 exact codeAny_compStart_list loop (W.self 0 _ _ _ _ _ st₄ loop)
end
theorem BR.addBox{G:Gl}{N β:List Addr}{O:za}{h:Heap}{D:Addr}{xs:List PyData}(b:BR G (D::N) β O h)(l:ListAt h (D::N) β D xs)(hb:D∉β)(h0:G.h₀.get? D=none)(hpl:Plain h D):BR G N (β++[D]) (O++[.lst xs]) h:=by
 have ap:∀ {as:List Addr},(∀ a∈as,a∉β∧a∉D::N)→∀ a∈as,a∉β++[D]∧a∉N:=fun q a ha=>by
  refine ff (q a ha) ?_;intro q1 q2
  refine⟨fun hm=>?_,fun hm=>q2 (ag _ hm)⟩
  refine eW (ai.mp hm) ?_ ?_
  ·intro hm;exact q1 hm
  ·intro hm;rw[ac.mp hm] at q2;exact q2 ao
 refine⟨b.keep,by simp[b.len],?_,fun a ha=>?_,fun i a bx h1 h2=>?_,fun a ha=>(ai.mp ha).elim (b.plain a) fun h=>by rw[ac.mp h];exact hpl⟩
 ·rw[bM]
  exact⟨b.nodup,by simp,fun a ha c hc=>by rw[ac.mp hc];exact fun e=>hb (e ▸ ha)⟩
 ·refine eW (ai.mp ha) ?_ ?_
  ·intro h;exact b.new a h
  ·intro h;rw[ac.mp h];exact h0
 ·refine eW (bk i β.length) ?_ ?_
  ·intro hi;rw[aJ hi] at h1
   rw[aJ (by rw[← b.len];exact hi)] at h2
   have hx:=b.at_ i a bx h1 h2
   cases bx with
   | lst ys=>obtain⟨o,vs,n,e1,e2,e3,as,e4,e5⟩:=hx;exact⟨o,vs,n,e1,e2,e3,as,e4,ap e5⟩
   | dct kvs=>
     obtain⟨o,es,n,e1,e2,e3,e4,e5⟩:=hx
     refine⟨o,es,n,e1,e2,e3,e4,fun i e kv he hkv=>?_⟩
     obtain⟨hq,as,bs,r1,r2,q⟩:=e5 i e kv he hkv
     exact⟨hq,as,bs,r1,r2,ap q⟩
  ·intro hi;rw[aH hi] at h1
   rw[aH (by rw[← b.len];exact hi)] at h2
   have hi0:i - β.length=0:=by
    refine eW (Nat.eq_zero_or_pos (i - β.length)) ?_ ?_
    ·intro h;exact h
    ·intro h;rw[bc (show [D].length≤i - β.length from h)] at h1;exfalso;injection h1
   rw[hi0] at h1
   rw[← b.len,hi0] at h2
   injection h1 with eU;subst eU;injection h2 with eU;subst eU
   obtain⟨o,vs,n,e1,e2,e3,as,e4,e5⟩:=l
   exact⟨o,vs,n,e1,e2,e3,as,e4,ap e5⟩
section
variable{G:Gl}{F:Fm}{A:Around}{cx:Cx}{tgt:CT}{t:Expr}{scope:Scope}{gval:Nat→Option PyData}{gname:Nat→Option Str}
variable{Z β₁ β':List Addr}{s₁ s':Shared}{C D:Addr}{res:List PyData}{O₁ O':za}{ρ:Loc}
noncomputable abbrev y0(scope:Scope)(C:Addr):List Addr:=C::(cellsFrom (C+1) scope.names []).map (·.2)
theorem CompEnd.sr(e:CompEnd G F scope Z β₁ s₁ C D res O' s' β')(sr₁:SR G F β₁ ρ O₁ s₁.heap)(hz:∀ z∈Z,Itr s₁.heap z)(hzB:∀ z∈Z,z∉F.B)(hc:∀ c,∃ C,G.cls c=.ref C)(hDM:D∉y0 scope C) :
 SR G (F.plus (y0 scope C)) β' ρ O' s'.heap∧VR G (F.plus (y0 scope C)).B β' s'.heap (.ref D) (.d (.list res)):=by
 refine⟨SR.outerZ hz hc e.step sr₁ hzB (fun a ha=>e.new a (ag _ ha)) (e.br.less fun a ha=>ag _ ha) (fun a ha=>e.notBox a (ag _ ha)) e.stor,?_⟩
 obtain⟨o,vs,n,e1,e2,e3,as,e4,e5⟩:=e.list
 refine y5 e1 e2 e3 e4 (fun a ha=>⟨(e5 a ha).1,fun hm=>(e5 a ha).2 (ag _ hm)⟩) ⟨e.notBox D ao,fun hm=>?_⟩
 refine eW (ai.mp hm) ?_ ?_
 ·intro hm;exact hDM hm
 ·intro hm;refine eY (sr₁.fm.stor D hm) ?_;intro o' q _
  rw[e.new D ao] at q;exfalso;injection q
theorem CompEnd.srB(e:CompEnd G F scope Z β₁ s₁ C D res O' s' β')(sr₁:SR G F β₁ ρ O₁ s₁.heap)(hz:∀ z∈Z,Itr s₁.heap z)(hzB:∀ z∈Z,z∉F.B)(hc:∀ c,∃ C,G.cls c=.ref C)(hDM:D∉y0 scope C) :
 StepZ Z β₁ s₁ s' (β'++[D])∧SR G (F.plus (y0 scope C)) (β'++[D]) ρ (O'++[.lst res]) s'.heap∧VR G (F.plus (y0 scope C)).B (β'++[D]) s'.heap (.ref D) (.box O'.length):=by
 have hDn:=e.new D ao
 have hDb:=e.notBox D ao
 have sz:StepZ Z β₁ s₁ s' (β'++[D]):=⟨e.step.gens,e.step.os,e.step.pre.trans (List.prefix_append _ _),fun a ha=>by
  refine eW (ai.mp ha) ?_ ?_
  ·intro h;exact e.step.fresh a h
  ·intro h;rw[ac.mp h];exact .inr hDn,e.step.alive,e.step.kept⟩
 have h0:G.h₀.get? D=none:=by
  cases q:G.h₀.get? D with
  | none=>rfl
  | some o=>have:=sr₁.br.keep D o q;rw[hDn] at this;exfalso;injection this
 have br:=e.br.addBox (N:=y0 scope C++F.B) e.list hDb h0 e.plain
 refine⟨sz,SR.outerZ hz hc sz sr₁ hzB (fun a ha=>e.new a (ag _ ha)) br (fun a ha hm=>?_) e.stor,⟨D,by rw[← e.br.len];simp,rfl⟩⟩
 refine eW (ai.mp hm) ?_ ?_
 ·intro hm;exact e.notBox a (ag _ ha) hm
 ·intro hm;rw[ac.mp hm] at ha
  refine eW (ai.mp ha) ?_ ?_
  ·intro ha;exact hDM ha
  ·intro ha;refine eY (sr₁.fm.stor D ha) ?_;intro o' q _
   rw[hDn] at q;exfalso;injection q
theorem uj{sc:Scope}(hsc:xa scope sc=true):∀ x∈scope.names,x.2=.local→scope.names.lookup x.1=some .local:=fun x hx h=>by
 refine fg (yn hsc) ?_;intro _ k2 _
 obtain⟨n,k⟩:=x
 cases h
 exact (lookup_mem k2).mp hx
theorem zb0{β:List Addr}{h:Heap}{sc:Scope}(fit:Fits F cx)(fm:FmOk G F β h)(hsc:xa scope cx.sc=true):∀ p∈scope.names,p.2=.free→(F.env.cells.lookup p.1).isSome=true:=fun p hp hf=>by
 obtain⟨n,k⟩:=p
 refine fg (yn hsc) ?_;intro _ _ k3
 cases hf
 rcases k3 n _ hp with h | h | h | ⟨_,h⟩
 ·exfalso;injection h
 ·exfalso;injection h
 ·exfalso;injection h
 ·refine fy (fm.cell n ((fit.kind n).trans h)) ?_;intro c v q _
  rw[q];rfl
inductive Fin2:(V→za→R za V)→Prop
 | plain:Fin2 fun v O=>.ok v O
 | box:Fin2 boxK
theorem km{src:Src}{turn:PyData→za→R za (Option PyData)}:∀ (xs acc:List PyData) (O:za),(∃ ys O',yg src turn xs acc O=.ok (.d (.list ys)) O')∨yg src turn xs acc O=.stuck
 | [],acc,O=>.inl ⟨acc,O,rfl⟩
 | x::xs,acc,O=>by
   unfold yg
   split
   ·split
    ·exact km xs _ _
    ·exact .inr rfl
   ·exact .inr rfl
set_option tactic.hygienic true in
theorem zsi{elt iter:Expr}{ifs:List Expr}{pos:Pos}{r:R za Src}{evT:Loc→za→R za Bool}{evX:Loc→za→R za V}{K:V→za→R za V}{s:Shared}{β:List Addr}{O:za}
 (g:GOk G gval gname) (hh:A.handled=none) (fit:Fits F cx) (hsc:xa scope cx.sc=true) (honce:xg (cx.inner tgt t scope).names=true) (hc:chkT (cx.inner tgt t scope) (ownOf scope) tgt t=true) (hset:∀ l k p,iter≠.Set l k p)
 (ht:∀ C D s β ρ O,SR G (zh cx F tgt t scope C D) β ρ O s.heap→Does G (zh cx F tgt t scope C D) A s β (y9 ifs (zh cx F tgt t scope C D).env) ((evT ρ O).lift ρ) BRel)
 (he:∀ C D s β ρ O,SR G (zh cx F tgt t scope C D) β ρ O s.heap→Does G (zh cx F tgt t scope C D) A s β (eval elt (zh cx F tgt t scope C D).env) ((evX ρ O).lift ρ) (VRel G (zh cx F tgt t scope C D)))
 (sr:SR G F β ρ O s.heap) (hI:DoesW G F s β (zbp G A iter F.env) (r.lift ρ) (IRel G F A t s)) (has:∀ src O',r=.ok src O'→src.Has O') (hK:Fin2 K) :
 Does G F A s β (eval (.ListComp elt [⟨t,iter,ifs,0⟩] scope pos) F.env) (((r.bind fun src O=>if src.xs.length≤line then yg src (xu tgt evT evX ρ) src.xs [] O else .stuck).bind K).lift ρ) (VRel G F):=by
 refine fg (yn hsc) ?_;intro k1 k2 k3
 have hclos:=ve (zb0 (sc:=cx.sc) fit sr.fm hsc)
 have hfold:∀ x,foldedSetIterable iter F.env x=pure x:=fun x=>qd hset _ _
 cases r with
 | stuck=>trivial
 | ok src O₁=>
   show DoesW G F s β _ (R.lift ρ (R.bind (if src.xs.length≤line then yg src (xu tgt evT evX ρ) src.xs [] O₁ else .stuck) K)) _
   split
   ·rename_i hlen
    refine eW (km (src:=src) (turn:=xu tgt evT evX ρ) src.xs [] O₁) ?_ ?_
    ·rintro ⟨res,O',hgo⟩;rw[hgo]
     show DoesW G F s β _ (R.lift ρ (K (.d (.list res)) O')) _
     have run:∀ (Q:Value→Shared→Prop) (E:Value→Shared→Prop),(∀ s₁ β₁ Z C D s' β' h',Step F.W β s s₁ β₁→SR G F β₁ ρ O₁ s₁.heap→(∀ z∈Z,Itr s₁.heap z)→(∀ z∈Z,z∉F.B)→(∀ z∈Z,s.heap.get? z=none) →
      CompEnd G F scope Z β₁ s₁ C D res O' s' β'→D∉y0 scope C→Heap.SameBut C s'.heap h'→Q (.ref D) { s' with heap:=h' })→wpAny (model G.prog G.w) A (eval (.ListComp elt [⟨t,iter,ifs,0⟩] scope pos) F.env) Q E s:=by
      intro Q E k
      rw[eval_ListComp]
      refine wpAny_comprehension_free (use:=none) rfl hfold hclos k1 (uj hsc) (hI _ _ fun s₁ β₁ it st sr₁ ⟨I,Z,St,e,W,h0,hz⟩=>?_)
      subst e
      have hz0:∀ z∈Z,G.h₀.get? z=none:=fun z hz'=>by
       cases e:G.h₀.get? z with
       | none=>rfl
       | some o=>have:=sr.br.keep z o e;rw[hz z hz'] at this;exfalso;injection this
      have hzB:∀ z∈Z,z∉F.B:=fun z hz' hB=>by
       refine eY (sr.fm.stor z hB) ?_;intro o e _
       rw[hz z hz'] at e;exfalso;injection e
      refine zby (RR:=fun acc C=>compPost (model G.prog G.w) A E none Q acc C) g hh fit hsc honce hc ht he W sr₁ hz0 hzB hlen (has _ _ rfl) h0 hgo fun C D s' β' ce=>?_
      obtain⟨m,hm⟩:=ce.ns
      have hDM:D∉y0 scope C:=fun hm'=>by
       obtain⟨o,vs,n,q1,q2,q3,_⟩:=ce.list
       refine eW (ae.mp hm') ?_ ?_
       ·intro e;subst e
        refine fw hm ?_;clear hm;intro o' es ep p1 p2 _
        rw[q1] at p1;injection p1 with eU;subst eU;rw[q3] at p2;exfalso;injection p2
       ·intro hm';exact ce.notCell hm'
      exact eZ m hm (fun h' hs=>k s₁ β₁ Z C D s' β' h' st sr₁ (W.itr _ _ _ _ h0) hzB hz ce hDM hs)
     cases hK with
     | plain=>
       intro Q E k
       refine run Q E fun s₁ β₁ Z C D s' β' h' st sr₁ hz1 hzB hz ce hDM hs=>?_
       refine ff (ce.sr sr₁ hz1 hzB g.clsRef hDM) ?_;intro srp vr
       have hCM:C∈y0 scope C:=ao
       have hCB:C∉F.B:=fun hB=>by
        refine eY (sr₁.fm.stor C hB) ?_;intro o e _
        rw[ce.new C (ag _ ao)] at e;exfalso;injection e
       have hs':∀ b o,b≠C→s'.heap.get? b=some o→h'.get? b=some o:=fun b o hb e=>(hs.2 b hb).trans e
       have srF:=SR.drop sr₁.fm srp hCM hCB hs'
       have stF:Step F.W β s { s' with heap:=h' } β':=by
        have s1:=st.thenStepZ ce.step hz
        exact s1.thenZ (Z:=[C]) ⟨rfl,rfl,fun b o hb e=>hs' b o (fun e'=>hb (by simp [e'])) e⟩ fun z hz'=>by
         rw [ac.mp hz']
         cases e:s.heap.get? C with
         | none=>rfl
         | some o=>refine fe (st.alive _ _ e) ?_;intro o' e';rw[ce.new C (ag _ ao)] at e';exfalso;injection e'
       refine k _ β' _ stF srF ?_
       have hCMp:C∈(F.plus (y0 scope C)).B:=az _ hCM
       exact (vr.but hs' hCMp (fun o vs n e hd=>by
        refine eY (srp.fm.stor C hCMp) ?_;intro o' e' q
        rw[e] at e';injection e' with eU;subst eU;exact q vs n hd)).less fun a ha=>au _ ha
     | box=>
       intro Q E k
       refine run Q E fun s₁ β₁ Z C D s' β' h' st sr₁ hz1 hzB hz ce hDM hs=>?_
       refine fg (ce.srB sr₁ hz1 hzB g.clsRef hDM) ?_;intro sz srp vr
       have hCM:C∈y0 scope C:=ao
       have hCB:C∉F.B:=fun hB=>by
        refine eY (sr₁.fm.stor C hB) ?_;intro o e _
        rw[ce.new C (ag _ ao)] at e;exfalso;injection e
       have hs':∀ b o,b≠C→s'.heap.get? b=some o→h'.get? b=some o:=fun b o hb e=>(hs.2 b hb).trans e
       have srF:=SR.drop sr₁.fm srp hCM hCB hs'
       have stF:Step F.W β s { s' with heap:=h' } (β'++[D]):=by
        have s1:=st.thenStepZ sz hz
        exact s1.thenZ (Z:=[C]) ⟨rfl,rfl,fun b o hb e=>hs' b o (fun e'=>hb (by simp [e'])) e⟩ fun z hz'=>by
         rw [ac.mp hz']
         cases e:s.heap.get? C with
         | none=>rfl
         | some o=>refine fe (st.alive _ _ e) ?_;intro o' e';rw[ce.new C (ag _ ao)] at e';exfalso;injection e'
       exact k _ _ _ stF srF vr
    ·intro hgo;rw[hgo];trivial
   ·trivial
end
theorem zev{M:Model}{A:Around}{E:Value→Shared→Prop}{s:Shared}{op:BoolOp}{x y:Expr}{r:List Expr}{pos:Pos}{env:Env}{Q:Value→Shared→Prop}
 (h:wpAny M A (eval x env) (fun v s₁=>wpAny M A (truthy v) (fun t s₂=>if t=(op == .Or) then Q v s₂ else wpAny M A (boolOp pos op (evalEach (y::r) env)) Q E s₂) E s₁) E s) :
 wpAny M A (eval (.BoolOp op (x::y::r) pos) env) Q E s:=by
 show wpAny M A (do
  let v ← eval x env
  standAt pos
  let t ← holding [v] (truthy v)
  match op,t with
  | .And,false | .Or,true=>pure v
  | _,_=>boolOp pos op (evalEach (y::r) env)) Q E s
 refine aa (aM h (fun v s₁ h₁=>aa (bR (aa (aT (aM h₁ (fun t s₂ h₂=>?_) fun uA uA x=>x))))) fun uA uA x=>x)
 cases op <;> cases t
 ·rw[af (by decide)] at h₂;exact ab h₂
 ·rw[aj (by decide)] at h₂;exact h₂
 ·rw[aj (by decide)] at h₂;exact h₂
 ·rw[af (by decide)] at h₂;exact ab h₂
section
variable{G:Gl}{F:Fm}{A:Around}{s:Shared}{β:List Addr}{ρ:Loc}{O:za}
theorem zpr{x y:Expr}{r:List Expr}{p:Pos}{ra:R za V}{rb:za→R za V}(h1:Does G F A s β (eval x F.env) (ra.lift ρ) (VRel G F))
 (h2:∀ s' β' O',SR G F β' ρ O' s'.heap→Does G F A s' β' (boolOp p .And (evalEach (y::r) F.env)) ((rb O').lift ρ) (VRel G F)) :
 Does G F A s β (eval (.BoolOp .And (x::y::r) p) F.env) ((ra.bind fun v O=>(opt (truth v) O).bind (andK rb)).lift ρ) (VRel G F):=by
 refine DoesW.seqE (T₂:=fun v Q E s'=>wpAny (model G.prog G.w) A (truthy v) (fun t s₂=>if t=(BoolOp.And == .Or) then Q v s₂ else wpAny (model G.prog G.w) A (boolOp p .And (evalEach (y::r) F.env)) Q E s₂) E s') (fun Q E h=>zev h) h1 fun s' β' v d O' e st sr rv=>?_
 refine DoesW.seqE (T₂:=fun t Q E s₂=>if t=(BoolOp.And == .Or) then Q v s₂ else wpAny (model G.prog G.w) A (boolOp p .And (evalEach (y::r) F.env)) Q E s₂) (fun Q E h=>h) (jg sr rv) fun s₂ β₂ b b' O₂ e₂ st₂ sr₂ hb=>?_
 have hb:b=b':=hb
 subst hb
 have hd:truth d=some b:=by cases h:truth d with
  | none=>rw[h] at e₂;exfalso;injection e₂
  | some c=>rw[h] at e₂;injection e₂ with eU eV;subst eU eV;rfl
 have:=v9 rv hd
 subst this
 cases b with
 | true=>exact (h2 s₂ β₂ O₂ sr₂).weaken (fun Q E h=>by show if _ then _ else _;rw[aj (by decide)];exact h) fun uA uA uA uA h=>h
 | false=>exact d_ok sr₂ VR.bool fun Q E h=>by show if _ then _ else _;rw[af (by decide)];exact h
theorem zus{op:Cop}{o:CmpOp}{x y:Expr}{p:Pos}{ra:R za V}{rb:za→R za V}{k:Nat}(ro:Room A k)(ho:x4 op o=true)(hs:∀ l k p,y≠.Set l k p)
 (h1:Does G F A s β (eval x F.env) (ra.lift ρ) (VRel G F)) (h2:∀ s' β' O',SR G F β' ρ O' s'.heap→Does G F A s' β' (eval y F.env) ((rb O').lift ρ) (VRel G F)) :
 Does G F A s β (eval (.Compare x [o] [y] p) F.env) ((ra.bind fun v O=>(rb O).bind fun u O=>cmpV op v u O).lift ρ) (VRel G F):=by
 refine DoesW.seqE (T₂:=fun a Q E s₁=>wpAny (model G.prog G.w) A (eval y F.env) (fun b s₂=>wpAny (model G.prog G.w) A (compareOp o a b) Q E s₂) E s₁) (fun Q E h=>wpAny_Compare1 h (xl hs o)) h1 fun s' β' v d O' e st sr rv=>?_
 refine DoesW.seqE (T₁:=tr G A (eval y F.env)) (T₂:=fun b=>tr G A (compareOp o v b)) (fun Q E h=>h) (h2 s' β' O' sr) fun s₂ β₂ u d₂ O₂ e₂ st₂ sr₂ ru=>?_
 exact p9 ro ho sr₂ (rv.step sr.br sr.fm st₂) ru
theorem vb{M:Model}{E:Value→Shared→Prop}{x y z:Expr}{o1 o2:CmpOp}{pos:Pos}{env:Env}{Q:Value→Shared→Prop}
 (h:wpAny M A (eval x env) (fun a s₁=>wpAny M A (eval y env) (fun b s₂=>wpAny M A (compareOp o1 a b) (fun c s₃=>wpAny M A (truthy c) (fun t s₄=>if t=true then wpAny M A (eval z env) (fun d s₅=>wpAny M A (compareOp o2 b d) Q E s₅) E s₄ else Q c s₄) E s₃) E s₂) E s₁) E s)
 (hy:∀ l k p,y≠.Set l k p) (hz:∀ l k p,z≠.Set l k p):wpAny M A (eval (.Compare x [o1,o2] [y,z] pos) env) Q E s:=by
 show wpAny M A (do compareChain pos (← eval x env) [o1,o2] (markedEach [o1,o2] [y,z] (evalEach [y,z] env))) Q E s
 have hm:markedEach [o1,o2] [y,z] (evalEach [y,z] env)=[eval y env,eval z env]:=by
  show [eval y env,markedBehindIn o2 z (eval z env)]=_
  rw[markedBehindIn_of_false (xl hz o2)]
 rw[hm]
 refine aa (aM h (fun a s₁ h₁=>?_) fun uA uA x=>x)
 show wpAny M A (do
  let rv ← holding [a] (eval y env)
  standAt pos
  let c ← holding [a,rv] (compareOp o1 a rv)
  release [a,rv] [c]
  if ← holding [c,rv] (truthy c) then compareChain pos rv [o2] [eval z env] else pure c) Q E s₁
 refine aa (aT (aM h₁ (fun b s₂ h₂=>aa (bR (aa (aT (aM h₂ (fun c s₃ h₃=>?_) fun uA uA x=>x))))) fun uA uA x=>x))
 refine aa (wpAny_release (aa (aT (aM h₃ (fun t s₄ h₄=>?_) fun uA uA x=>x))))
 cases t with
 | false=>rw[aj (by decide)] at h₄;exact ab h₄
 | true=>
   rw[af rfl] at h₄
   show wpAny M A (do
    let rv ← holding [b] (eval z env)
    standAt pos
    operate [b,rv] (compareOp o2 b rv)) Q E s₄
   exact aa (aT (aM h₄ (fun d s₅ h₅=>aa (bR (wpAny_operating h₅))) fun uA uA x=>x))
end
noncomputable def tv(r:R za V):R za Bool:=r.bind fun v O=>opt (truth v) O
section
variable{G:Gl}{F:Fm}{A:Around}{s:Shared}{β:List Addr}{ρ:Loc}{O:za}
theorem zo1{p q:Cop}{o1 o2:CmpOp}{x y z:Expr}{ps:Pos}{ra:R za V}{rb rc:za→R za V}{k:Nat}(ro:Room A k)(h1o:x4 p o1=true)(h2o:x4 q o2=true)
 (hy:∀ l k p,y≠.Set l k p) (hz:∀ l k p,z≠.Set l k p)
 (h1:Does G F A s β (eval x F.env) (ra.lift ρ) (VRel G F)) (h2:∀ s' β' O',SR G F β' ρ O' s'.heap→Does G F A s' β' (eval y F.env) ((rb O').lift ρ) (VRel G F))
 (h3:∀ s' β' O',SR G F β' ρ O' s'.heap→Does G F A s' β' (eval z F.env) ((rc O').lift ρ) (VRel G F)) :
 Does G F A s β (eval (.Compare x [o1,o2] [y,z] ps) F.env) ((ra.bind fun v O=>(rb O).bind fun u O=>(cmpV p v u O).bind fun t O=>(opt (truth t) O).bind (andK fun O=>(rc O).bind fun y O=>cmpV q u y O)).lift ρ) (VRel G F):=by
 refine DoesW.seqE (T₂:=fun a Q E s₁=>wpAny (model G.prog G.w) A (eval y F.env) (fun b s₂=>wpAny (model G.prog G.w) A (compareOp o1 a b) (fun c s₃=>wpAny (model G.prog G.w) A (truthy c) (fun t s₄=>if t=true then wpAny (model G.prog G.w) A (eval z F.env) (fun d s₅=>wpAny (model G.prog G.w) A (compareOp o2 b d) Q E s₅) E s₄ else Q c s₄) E s₃) E s₂) E s₁)
  (fun Q E h=>vb h hy hz) h1 fun s' β' v d O' e st sr rv=>?_
 refine DoesW.seqE (T₁:=tr G A (eval y F.env)) (T₂:=fun b Q E s₂=>wpAny (model G.prog G.w) A (compareOp o1 v b) (fun c s₃=>wpAny (model G.prog G.w) A (truthy c) (fun t s₄=>if t=true then wpAny (model G.prog G.w) A (eval z F.env) (fun d s₅=>wpAny (model G.prog G.w) A (compareOp o2 b d) Q E s₅) E s₄ else Q c s₄) E s₃) E s₂) (fun Q E h=>h) (h2 s' β' O' sr) fun s₂ β₂ u d₂ O₂ e₂ st₂ sr₂ ru=>?_
 refine DoesW.seqE (T₁:=tr G A (compareOp o1 v u)) (T₂:=fun c Q E s₃=>wpAny (model G.prog G.w) A (truthy c) (fun t s₄=>if t=true then wpAny (model G.prog G.w) A (eval z F.env) (fun d s₅=>wpAny (model G.prog G.w) A (compareOp o2 u d) Q E s₅) E s₄ else Q c s₄) E s₃) (fun Q E h=>h) (p9 ro h1o sr₂ (rv.step sr.br sr.fm st₂) ru) fun s₃ β₃ c d₃ O₃ e₃ st₃ sr₃ rc'=>?_
 refine DoesW.seqE (T₁:=tr G A (truthy c)) (T₂:=fun t Q E s₄=>if t=true then wpAny (model G.prog G.w) A (eval z F.env) (fun d s₅=>wpAny (model G.prog G.w) A (compareOp o2 u d) Q E s₅) E s₄ else Q c s₄) (fun Q E h=>h) (jg sr₃ rc') fun s₄ β₄ b b' O₄ e₄ st₄ sr₄ hb=>?_
 have hb:b=b':=hb
 subst hb
 have hd:truth d₃=some b:=by cases h:truth d₃ with
  | none=>rw[h] at e₄;exfalso;injection e₄
  | some c=>rw[h] at e₄;injection e₄ with eU eV;subst eU eV;rfl
 have:=v9 rc' hd
 subst this
 have ru':=(ru.step sr₂.br sr₂.fm (st₃.trans st₄))
 cases b with
 | false=>exact d_ok sr₄ VR.bool fun Q E h=>by show if _ then _ else _;rw[aj (by decide)];exact h
 | true=>
   refine DoesW.seqE (T₁:=tr G A (eval z F.env)) (T₂:=fun d=>tr G A (compareOp o2 u d)) (fun Q E h=>by show if _ then _ else _;rw[af rfl];exact h) (h3 s₄ β₄ O₄ sr₄) fun s₅ β₅ w d₅ O₅ e₅ st₅ sr₅ rw'=>?_
   exact p9 ro h2o sr₅ (ru'.step sr₄.br sr₄.fm st₅) rw'
theorem zup{x y z:Expr}{p:Pos}{rt:R za V}{ra rb:za→R za V}(h1:Does G F A s β (isTrue x F.env (eval x F.env)) ((tv rt).lift ρ) BRel)
 (h2:∀ s' β' O',SR G F β' ρ O' s'.heap→Does G F A s' β' (eval y F.env) ((ra O').lift ρ) (VRel G F))
 (h3:∀ s' β' O',SR G F β' ρ O' s'.heap→Does G F A s' β' (eval z F.env) ((rb O').lift ρ) (VRel G F)) :
 Does G F A s β (eval (.IfExp x y z p) F.env) ((rt.bind fun v O=>(opt (truth v) O).bind (iteK ra rb)).lift ρ) (VRel G F):=by
 have e:(rt.bind fun v O=>(opt (truth v) O).bind (iteK ra rb))=(tv rt).bind (iteK ra rb):=by cases rt <;> rfl
 rw[e]
 refine DoesW.seqE (T₂:=fun b Q E s₁=>if b=true then wpAny (model G.prog G.w) A (eval y F.env) Q E s₁ else wpAny (model G.prog G.w) A (eval z F.env) Q E s₁) (fun Q E h=>?_) h1 fun s' β' b b' O' e st sr rb'=>?_
 ·show wpAny (model G.prog G.w) A (do if ← isTrue x F.env (eval x F.env) then eval y F.env else eval z F.env) Q E s
  refine aa (aM h (fun b s₁ h₁=>?_) fun uA uA x=>x)
  cases b with
  | true=>rw[af rfl] at h₁;exact h₁
  | false=>rw[aj (by decide)] at h₁;exact h₁
 have hb:b=b':=rb'
 subst hb
 cases b with
 | true=>exact (h2 s' β' O' sr).weaken (fun Q E h=>by show if _ then _ else _;rw[af rfl];exact h) fun uA uA uA uA h=>h
 | false=>exact (h3 s' β' O' sr).weaken (fun Q E h=>by show if _ then _ else _;rw[aj (by decide)];exact h) fun uA uA uA uA h=>h
theorem zm5{e:Expr}{r:R za V}(he:isTrue e F.env (eval e F.env)=(do let v ← eval e F.env;standAt e.pos;holding [v] (truthy v)))
 (h1:Does G F A s β (eval e F.env) (r.lift ρ) (VRel G F)):Does G F A s β (isTrue e F.env (eval e F.env)) ((tv r).lift ρ) BRel:=
 DoesW.seqE (T₂:=fun v=>tr G A (truthy v)) (fun Q E h=>wpAny_isTrue_value h he) h1 fun s' β' v d O' e st sr rv=>jg sr rv
theorem zs3{x:Expr}{p:Pos}{r:R za V}(h1:Does G F A s β (isTrue x F.env (eval x F.env)) ((tv r).lift ρ) BRel) :
 Does G F A s β (isTrue (.UnaryOp .Not x p) F.env (eval (.UnaryOp .Not x p) F.env)) ((tv (r.bind fun v O=>opt ((truth v).map fun b=>V.d (.bool !b)) O)).lift ρ) BRel:=by
 have e:tv (r.bind fun v O=>opt ((truth v).map fun b=>V.d (.bool !b)) O)=(tv r).bind fun b O=>.ok (!b) O:=by
  cases r with
  | ok v O=>show R.bind (opt ((truth v).map fun b=>V.d (.bool !b)) O) _=R.bind (opt (truth v) O) _;cases truth v <;> rfl
  | stuck=>rfl
 rw[e]
 refine DoesW.seqE (T₂:=fun b Q E s₁=>Q (!b) s₁) (fun Q E h=>wpAny_isTrue_Not h) h1 fun s' β' b b' O' e st sr hb=>?_
 have hb:b=b':=hb
 subst hb
 exact Does.leaf sr fun Q E q=>q _ _ (KeepsAll.refl s') rfl
theorem zba{op:BoolOp}(sr:SR G F β ρ O s.heap):Does G F A s β (allTrue op [] F.env) ((R.ok (op == .And) O).lift ρ) BRel:=
 Does.leaf sr fun Q E q=>ab (q _ _ (KeepsAll.refl s) rfl)
theorem w6{x:Expr}{rest:List Expr}{ra:R za V}{rb:za→R za Bool}(h1:Does G F A s β (isTrue x F.env (eval x F.env)) ((tv ra).lift ρ) BRel)
 (h2:∀ s' β' O',SR G F β' ρ O' s'.heap→Does G F A s' β' (allTrue .And rest F.env) ((rb O').lift ρ) BRel) :
 Does G F A s β (allTrue .And (x::rest) F.env) (((tv ra).bind fun t O=>(match t with | true=>rb O | false=>.ok false O)).lift ρ) BRel:=by
 refine DoesW.seqE (T₂:=fun t Q E s₁=>if t=true then wpAny (model G.prog G.w) A (allTrue .And rest F.env) Q E s₁ else Q false s₁) (fun Q E h=>?_) h1 fun s' β' b b' O' e st sr hb=>?_
 ·show wpAny (model G.prog G.w) A (do
   match BoolOp.And,← isTrue x F.env (eval x F.env) with
   | .And,false=>pure false
   | .Or,true=>pure true
   | _,_=>allTrue .And rest F.env) Q E s
  refine aa (aM h (fun t s₁ h₁=>?_) fun uA uA x=>x)
  cases t with
  | true=>rw[af rfl] at h₁;exact h₁
  | false=>rw[aj (by decide)] at h₁;exact ab h₁
 have hb:b=b':=hb
 subst hb
 cases b with
 | true=>exact (h2 s' β' O' sr).weaken (fun Q E h=>by show if _ then _ else _;rw[af rfl];exact h) fun uA uA uA uA h=>h
 | false=>exact Does.leaf sr fun Q E q=>by show if _ then _ else _;rw[aj (by decide)];exact q _ _ (KeepsAll.refl s') rfl
theorem gg{x:Expr}{rest:List Expr}{ra:R za V}{rb:za→R za Bool}(h1:Does G F A s β (isTrue x F.env (eval x F.env)) ((tv ra).lift ρ) BRel)
 (h2:∀ s' β' O',SR G F β' ρ O' s'.heap→Does G F A s' β' (allTrue .Or rest F.env) ((rb O').lift ρ) BRel) :
 Does G F A s β (allTrue .Or (x::rest) F.env) (((tv ra).bind fun t O=>(match t with | true=>.ok true O | false=>rb O)).lift ρ) BRel:=by
 refine DoesW.seqE (T₂:=fun t Q E s₁=>if t=true then Q true s₁ else wpAny (model G.prog G.w) A (allTrue .Or rest F.env) Q E s₁) (fun Q E h=>?_) h1 fun s' β' b b' O' e st sr hb=>?_
 ·show wpAny (model G.prog G.w) A (do
   match BoolOp.Or,← isTrue x F.env (eval x F.env) with
   | .And,false=>pure false
   | .Or,true=>pure true
   | _,_=>allTrue .Or rest F.env) Q E s
  refine aa (aM h (fun t s₁ h₁=>?_) fun uA uA x=>x)
  cases t with
  | true=>rw[af rfl] at h₁;exact ab h₁
  | false=>rw[aj (by decide)] at h₁;exact h₁
 have hb:b=b':=hb
 subst hb
 cases b with
 | false=>exact (h2 s' β' O' sr).weaken (fun Q E h=>by show if _ then _ else _;rw[aj (by decide)];exact h) fun uA uA uA uA h=>h
 | true=>exact Does.leaf sr fun Q E q=>by show if _ then _ else _;rw[af rfl];exact q _ _ (KeepsAll.refl s') rfl
theorem zs4{op:Cop}{o:CmpOp}{x y:Expr}{p:Pos}{ra:R za V}{rb:za→R za V}{k:Nat}(ro:Room A k)(ho:x4 op o=true)(hs:∀ l k p,y≠.Set l k p)
 (h1:Does G F A s β (eval x F.env) (ra.lift ρ) (VRel G F)) (h2:∀ s' β' O',SR G F β' ρ O' s'.heap→Does G F A s' β' (eval y F.env) ((rb O').lift ρ) (VRel G F)) :
 Does G F A s β (isTrue (.Compare x [o] [y] p) F.env (eval (.Compare x [o] [y] p) F.env)) ((tv (ra.bind fun v O=>(rb O).bind fun u O=>cmpV op v u O)).lift ρ) BRel:=by
 have e:tv (ra.bind fun v O=>(rb O).bind fun u O=>cmpV op v u O)=ra.bind fun v O=>(rb O).bind fun u O=>(cmpV op v u O).bind fun c O=>opt (truth c) O:=by
  cases ra with
  | ok v O=>show R.bind (R.bind (rb O) _) _=R.bind (rb O) _;cases rb O <;> rfl
  | stuck=>rfl
 rw[e]
 refine DoesW.seqE (T₂:=fun a Q E s₁=>wpAny (model G.prog G.w) A (eval y F.env) (fun b s₂=>wpAny (model G.prog G.w) A (compareOp o a b) (fun c s₃=>wpAny (model G.prog G.w) A (truthy c) Q E s₃) E s₂) E s₁) (fun Q E h=>wpAny_isTrue_Compare1 h (xl hs o)) h1 fun s' β' v d O' e st sr rv=>?_
 refine DoesW.seqE (T₁:=tr G A (eval y F.env)) (T₂:=fun b Q E s₂=>wpAny (model G.prog G.w) A (compareOp o v b) (fun c s₃=>wpAny (model G.prog G.w) A (truthy c) Q E s₃) E s₂) (fun Q E h=>h) (h2 s' β' O' sr) fun s₂ β₂ u d₂ O₂ e₂ st₂ sr₂ ru=>?_
 refine DoesW.seqE (T₁:=tr G A (compareOp o v u)) (T₂:=fun c=>tr G A (truthy c)) (fun Q E h=>h) (p9 ro ho sr₂ (rv.step sr.br sr.fm st₂) ru) fun s₃ β₃ c d₃ O₃ e₃ st₃ sr₃ rc=>?_
 exact jg sr₃ rc
end
section
variable{G:Gl}{F:Fm}{A:Around}{s:Shared}{β:List Addr}{ρ:Loc}{O:za}
theorem w3{M:Model}{E:Value→Shared→Prop}{x y z:Expr}{o1 o2:CmpOp}{pos:Pos}{env:Env}{whole:Sem Value}{Q:Bool→Shared→Prop}
 (h:wpAny M A (eval x env) (fun a s₁=>wpAny M A (eval y env) (fun b s₂=>wpAny M A (compareOp o1 a b) (fun c s₃=>wpAny M A (truthy c) (fun t s₄=>if t=true then wpAny M A (eval z env) (fun d s₅=>wpAny M A (compareOp o2 b d) (fun e s₆=>wpAny M A (truthy e) Q E s₆) E s₅) E s₄ else Q false s₄) E s₃) E s₂) E s₁) E s)
 (hy:∀ l k p,y≠.Set l k p) (hz:∀ l k p,z≠.Set l k p):wpAny M A (isTrue (.Compare x [o1,o2] [y,z] pos) env whole) Q E s:=by
 show wpAny M A (do testChain pos (← eval x env) [o1,o2] (markedEach [o1,o2] [y,z] (evalEach [y,z] env))) Q E s
 have hm:markedEach [o1,o2] [y,z] (evalEach [y,z] env)=[eval y env,eval z env]:=by
  show [eval y env,markedBehindIn o2 z (eval z env)]=_
  rw[markedBehindIn_of_false (xl hz o2)]
 rw[hm]
 refine aa (aM h (fun a s₁ h₁=>?_) fun uA uA x=>x)
 show wpAny M A (do
  let rv ← holding [a] (eval y env)
  standAt pos
  let c ← holding [a,rv] (compareOp o1 a rv)
  release [a,rv] [c]
  if ← holding [c,rv] (truthy c) then testChain pos rv [o2] [eval z env] else pure false) Q E s₁
 refine aa (aT (aM h₁ (fun b s₂ h₂=>aa (bR (aa (aT (aM h₂ (fun c s₃ h₃=>?_) fun uA uA x=>x))))) fun uA uA x=>x))
 refine aa (wpAny_release (aa (aT (aM h₃ (fun t s₄ h₄=>?_) fun uA uA x=>x))))
 cases t with
 | false=>rw[aj (by decide)] at h₄;exact ab h₄
 | true=>
   rw[af rfl] at h₄
   show wpAny M A (do
    let rv ← holding [b] (eval z env)
    standAt pos
    let c ← operate [b,rv] (compareOp o2 b rv)
    holding [c] (truthy c)) Q E s₄
   exact aa (aT (aM h₄ (fun d s₅ h₅=>aa (bR (aa (wpAny_operating (aM h₅ (fun e s₆ h₆=>aT h₆) fun uA uA x=>x))))) fun uA uA x=>x))
theorem zm7{p q:Cop}{o1 o2:CmpOp}{x y z:Expr}{ps:Pos}{ra:R za V}{rb rc:za→R za V}{k:Nat}(ro:Room A k)(h1o:x4 p o1=true)(h2o:x4 q o2=true)
 (hy:∀ l k p,y≠.Set l k p) (hz:∀ l k p,z≠.Set l k p)
 (h1:Does G F A s β (eval x F.env) (ra.lift ρ) (VRel G F)) (h2:∀ s' β' O',SR G F β' ρ O' s'.heap→Does G F A s' β' (eval y F.env) ((rb O').lift ρ) (VRel G F))
 (h3:∀ s' β' O',SR G F β' ρ O' s'.heap→Does G F A s' β' (eval z F.env) ((rc O').lift ρ) (VRel G F)) :
 Does G F A s β (isTrue (.Compare x [o1,o2] [y,z] ps) F.env (eval (.Compare x [o1,o2] [y,z] ps) F.env)) ((tv (ra.bind fun v O=>(rb O).bind fun u O=>(cmpV p v u O).bind fun t O=>(opt (truth t) O).bind (andK fun O=>(rc O).bind fun y O=>cmpV q u y O))).lift ρ) BRel:=by
 have e:tv (ra.bind fun v O=>(rb O).bind fun u O=>(cmpV p v u O).bind fun t O=>(opt (truth t) O).bind (andK fun O=>(rc O).bind fun y O=>cmpV q u y O))=ra.bind fun v O=>(rb O).bind fun u O=>(cmpV p v u O).bind fun t O=>(opt (truth t) O).bind fun z O=>(match z with
  | false=>R.ok false O
  | true=>(rc O).bind fun y O=>(cmpV q u y O).bind fun c O=>opt (truth c) O):=by
  cases ra with
  | ok v O=>
    show R.bind (R.bind (rb O) _) _=R.bind (rb O) _
    cases rb O with
    | ok u O=>
      show R.bind (R.bind (cmpV p v u O) _) _=R.bind (cmpV p v u O) _
      cases cmpV p v u O with
      | ok t O=>
        show R.bind (R.bind (opt (truth t) O) _) _=R.bind (opt (truth t) O) _
        cases truth t with
        | none=>rfl
        | some b=>cases b with
          | false=>rfl
          | true=>show R.bind (R.bind (rc O) _) _=R.bind (rc O) _;cases rc O <;> rfl
      | stuck=>rfl
    | stuck=>rfl
  | stuck=>rfl
 rw[e]
 refine DoesW.seqE (T₂:=fun a Q E s₁=>wpAny (model G.prog G.w) A (eval y F.env) (fun b s₂=>wpAny (model G.prog G.w) A (compareOp o1 a b) (fun c s₃=>wpAny (model G.prog G.w) A (truthy c) (fun t s₄=>if t=true then wpAny (model G.prog G.w) A (eval z F.env) (fun d s₅=>wpAny (model G.prog G.w) A (compareOp o2 b d) (fun e s₆=>wpAny (model G.prog G.w) A (truthy e) Q E s₆) E s₅) E s₄ else Q false s₄) E s₃) E s₂) E s₁)
  (fun Q E h=>w3 h hy hz) h1 fun s' β' v d O' e st sr rv=>?_
 refine DoesW.seqE (T₁:=tr G A (eval y F.env)) (T₂:=fun b Q E s₂=>wpAny (model G.prog G.w) A (compareOp o1 v b) (fun c s₃=>wpAny (model G.prog G.w) A (truthy c) (fun t s₄=>if t=true then wpAny (model G.prog G.w) A (eval z F.env) (fun d s₅=>wpAny (model G.prog G.w) A (compareOp o2 b d) (fun e s₆=>wpAny (model G.prog G.w) A (truthy e) Q E s₆) E s₅) E s₄ else Q false s₄) E s₃) E s₂) (fun Q E h=>h) (h2 s' β' O' sr) fun s₂ β₂ u d₂ O₂ e₂ st₂ sr₂ ru=>?_
 refine DoesW.seqE (T₁:=tr G A (compareOp o1 v u)) (T₂:=fun c Q E s₃=>wpAny (model G.prog G.w) A (truthy c) (fun t s₄=>if t=true then wpAny (model G.prog G.w) A (eval z F.env) (fun d s₅=>wpAny (model G.prog G.w) A (compareOp o2 u d) (fun e s₆=>wpAny (model G.prog G.w) A (truthy e) Q E s₆) E s₅) E s₄ else Q false s₄) E s₃) (fun Q E h=>h) (p9 ro h1o sr₂ (rv.step sr.br sr.fm st₂) ru) fun s₃ β₃ c d₃ O₃ e₃ st₃ sr₃ rc'=>?_
 refine DoesW.seqE (T₁:=tr G A (truthy c)) (T₂:=fun t Q E s₄=>if t=true then wpAny (model G.prog G.w) A (eval z F.env) (fun d s₅=>wpAny (model G.prog G.w) A (compareOp o2 u d) (fun e s₆=>wpAny (model G.prog G.w) A (truthy e) Q E s₆) E s₅) E s₄ else Q false s₄) (fun Q E h=>h) (jg sr₃ rc') fun s₄ β₄ b b' O₄ e₄ st₄ sr₄ hb=>?_
 have hb:b=b':=hb
 subst hb
 have ru':=(ru.step sr₂.br sr₂.fm (st₃.trans st₄))
 cases b with
 | false=>exact Does.leaf sr₄ fun Q E q=>by show if _ then _ else _;rw[aj (by decide)];exact q _ _ (KeepsAll.refl _) rfl
 | true=>
   refine DoesW.seqE (T₁:=tr G A (eval z F.env)) (T₂:=fun d Q E s₅=>wpAny (model G.prog G.w) A (compareOp o2 u d) (fun e s₆=>wpAny (model G.prog G.w) A (truthy e) Q E s₆) E s₅) (fun Q E h=>by show if _ then _ else _;rw[af rfl];exact h) (h3 s₄ β₄ O₄ sr₄) fun s₅ β₅ w d₅ O₅ e₅ st₅ sr₅ rw'=>?_
   refine DoesW.seqE (T₁:=tr G A (compareOp o2 u w)) (T₂:=fun e=>tr G A (truthy e)) (fun Q E h=>h) (p9 ro h2o sr₅ (ru'.step sr₄.br sr₄.fm st₅) rw') fun s₆ β₆ c' d₆ O₆ e₆ st₆ sr₆ rc''=>?_
   exact jg sr₆ rc''
end
section
variable{G:Gl}{F:Fm}{A:Around}{cx:Cx}{tgt:CT}{t:Expr}{scope:Scope}{gval:Nat→Option PyData}{gname:Nat→Option Str}{s:Shared}{β:List Addr}{ρ:Loc}{O:za}
theorem uf(env:Env):∀ (ifs:List Expr),(forIn ifs false fun c r=>if r=true then do let ok ← isTrue c env (eval c env);pure (ForInStep.yield ok) else pure (ForInStep.yield r):Sem Bool)=pure false
 | []=>by rw[dC]
 | c::rest=>by
   rw[dY]
   simp only[aO,bo,pure_bind]
   exact uf env rest
theorem zei(sr:SR G F β ρ O s.heap):Does G F A s β (y9 [] F.env) ((R.ok true O).lift ρ) BRel:=
 Does.leaf sr fun Q E q=>ab (q _ _ (KeepsAll.refl s) rfl)
theorem zc1{x:Expr}{rest:List Expr}{ra:R za V}{rb:za→R za Bool}(h1:Does G F A s β (isTrue x F.env (eval x F.env)) ((tv ra).lift ρ) BRel)
 (h2:∀ s' β' O',SR G F β' ρ O' s'.heap→Does G F A s' β' (y9 rest F.env) ((rb O').lift ρ) BRel) :
 Does G F A s β (y9 (x::rest) F.env) (((tv ra).bind fun t O=>(match t with | true=>rb O | false=>.ok false O)).lift ρ) BRel:=by
 refine DoesW.seqE (T₂:=fun t Q E s₁=>if t=true then wpAny (model G.prog G.w) A (y9 rest F.env) Q E s₁ else Q false s₁) (fun Q E h=>?_) h1 fun s' β' b b' O' e st sr hb=>?_
 ·show wpAny (model G.prog G.w) A (y9 (x::rest) F.env) Q E s
  unfold y9
  rw[dY]
  simp only[cJ]
  refine aa (aa (aM h (fun t s₁ h₁=>?_) fun uA uA x=>x))
  cases t with
  | true=>rw[af rfl] at h₁;exact ab h₁
  | false=>
    rw[aj (by decide)] at h₁
    refine ab ?_
    show wpAny _ _ (forIn rest false _) Q E s₁
    rw[uf];exact ab h₁
 have hb:b=b':=hb
 subst hb
 cases b with
 | true=>exact (h2 s' β' O' sr).weaken (fun Q E h=>by show if _ then _ else _;rw[af rfl];exact h) fun uA uA uA uA h=>h
 | false=>exact Does.leaf sr fun Q E q=>by show if _ then _ else _;rw[aj (by decide)];exact q _ _ (KeepsAll.refl s') rfl
theorem Fits.plus(fit:Fits F cx)(M:List Addr):Fits (F.plus M) cx:=⟨fit.names,fit.kind,fit.sck⟩
set_option tactic.hygienic true in
theorem zi5{elt iter:Expr}{ifs:List Expr}{pos spos px:Pos}{x:Str}{i:Nat}{own:Str→Bool}{r:R za Src}{evT:Loc→za→R za Bool}{evX:Loc→za→R za V}{K:V→za→R za V}
 (g:GOk G gval gname) (hh:A.handled=none) (fit:Fits F cx) (hown:∀ x,own x=true→F.own x=true) (hx:chkT cx own (.name i) (.Name x px)=true) (hsc:xa scope cx.sc=true) (honce:xg (cx.inner tgt t scope).names=true) (hc:chkT (cx.inner tgt t scope) (ownOf scope) tgt t=true) (hset:∀ l k p,iter≠.Set l k p)
 (ht:∀ C D s β ρ O,SR G (zh cx F tgt t scope C D) β ρ O s.heap→Does G (zh cx F tgt t scope C D) A s β (y9 ifs (zh cx F tgt t scope C D).env) ((evT ρ O).lift ρ) BRel)
 (he:∀ C D s β ρ O,SR G (zh cx F tgt t scope C D) β ρ O s.heap→Does G (zh cx F tgt t scope C D) A s β (eval elt (zh cx F tgt t scope C D).env) ((evX ρ O).lift ρ) (VRel G (zh cx F tgt t scope C D)))
 (sr:SR G F β ρ O s.heap) (hI:DoesW G F s β (zbp G A iter F.env) (r.lift ρ) (IRel G F A t s)) (has:∀ src O',r=.ok src O'→src.Has O') (hK:Fin2 K)
 (hsw:swapsWith (.ListComp elt [⟨t,iter,ifs,0⟩] scope pos) (some (.Name x px)) spos.line F.env=pure true) :
 Does G F A s β (exec (.Assign [.Name x px] (.ListComp elt [⟨t,iter,ifs,0⟩] scope pos) spos) F.env) ((((r.bind fun src O=>if src.xs.length≤line then yg src (xu tgt evT evX ρ) src.xs [] O else .stuck).bind K).lift ρ).bind (asgR (.name i))) (yu G F):=by
 refine fg (yn hsc) ?_;intro k1 k2 k3
 have hclos:=ve (zb0 (sc:=cx.sc) fit sr.fm hsc)
 have hfold:∀ x,foldedSetIterable iter F.env x=pure x:=fun x=>qd hset _ _
 have open_:∀ (Q:Flow→Shared→Prop) (E:Value→Shared→Prop),
  wpAny (model G.prog G.w) A (comprehension (.ListComp elt [⟨t,iter,ifs,0⟩] scope pos) scope F.env iter.pos (newList []) false (eval iter F.env) (some (assign (.Name x px) F.env))) (fun uA s'=>Q .next s') E s →
  wpAny (model G.prog G.w) A (exec (.Assign [.Name x px] (.ListComp elt [⟨t,iter,ifs,0⟩] scope pos) spos) F.env) Q E s:=fun Q E h=>by
  rw[exec_Assign_Name_used _ _ _ _ hsw]
  refine aa (bR (aa ?_))
  show wpAny _ A (do let _ ← comprehension (.ListComp elt [⟨t,iter,ifs,0⟩] scope pos) scope F.env _ (newList []) false (eval iter F.env) (some (assign (.Name x px) F.env))) _ _ s
  exact aa (aM h (fun uA s' hq=>ab (ab hq)) fun uA uA e=>e)
 cases r with
 | stuck=>trivial
 | ok src O₁=>
   show DoesW G F s β _ ((R.lift ρ (R.bind (if src.xs.length≤line then yg src (xu tgt evT evX ρ) src.xs [] O₁ else .stuck) K)).bind (asgR (.name i))) _
   split
   ·rename_i hlen
    refine eW (km (src:=src) (turn:=xu tgt evT evX ρ) src.xs [] O₁) ?_ ?_
    ·rintro ⟨res,O',hgo⟩;rw[hgo]
     show DoesW G F s β _ ((R.lift ρ (K (.d (.list res)) O')).bind (asgR (.name i))) _
     have run:∀ (Q:Flow→Shared→Prop) (E:Value→Shared→Prop),(∀ s₁ β₁ Z C D s' β',Step F.W β s s₁ β₁→SR G F β₁ ρ O₁ s₁.heap→(∀ z∈Z,Itr s₁.heap z)→(∀ z∈Z,z∉F.B)→(∀ z∈Z,s.heap.get? z=none) →
      CompEnd G F scope Z β₁ s₁ C D res O' s' β'→D∉y0 scope C→wpAny (model G.prog G.w) A (assign (.Name x px) F.env (.ref D)) (fun uA s''=>∃ m,s''.heap.Ns C m∧∀ h',Heap.SameBut C s''.heap h'→Q .next { s'' with heap:=h' }) E s') →
      wpAny (model G.prog G.w) A (exec (.Assign [.Name x px] (.ListComp elt [⟨t,iter,ifs,0⟩] scope pos) spos) F.env) Q E s:=by
      intro Q E k
      refine open_ Q E ?_
      refine wpAny_comprehension_free (use:=some _) rfl hfold hclos k1 (uj hsc) (hI _ _ fun s₁ β₁ it st sr₁ ⟨I,Z,St,e,W,h0,hz⟩=>?_)
      subst e
      have hz0:∀ z∈Z,G.h₀.get? z=none:=fun z hz'=>by
       cases e:G.h₀.get? z with
       | none=>rfl
       | some o=>have:=sr.br.keep z o e;rw[hz z hz'] at this;exfalso;injection this
      have hzB:∀ z∈Z,z∉F.B:=fun z hz' hB=>by
       refine eY (sr.fm.stor z hB) ?_;intro o e _
       rw[hz z hz'] at e;exfalso;injection e
      refine zby (RR:=fun acc C=>compPost (model G.prog G.w) A E (some (assign (.Name x px) F.env)) (fun uA s'=>Q .next s') acc C) g hh fit hsc honce hc ht he W sr₁ hz0 hzB hlen (has _ _ rfl) h0 hgo fun C D s' β' ce=>?_
      obtain⟨m,hm⟩:=ce.ns
      have hDM:D∉y0 scope C:=fun hm'=>by
       obtain⟨o,vs,n,q1,q2,q3,_⟩:=ce.list
       refine eW (ae.mp hm') ?_ ?_
       ·intro e;subst e
        refine fw hm ?_;clear hm;intro o' es ep p1 p2 _
        rw[q1] at p1;injection p1 with eU;subst eU;rw[q3] at p2;exfalso;injection p2
       ·intro hm';exact ce.notCell hm'
      exact k s₁ β₁ Z C D s' β' st sr₁ (W.itr _ _ _ _ h0) hzB hz ce hDM
     have fin:∀ (Q:Flow→Shared→Prop) (E:Value→Shared→Prop) (s₁:Shared) (β₁ Z:List Addr) (C D:Addr) (s':Shared) (β' β₂:List Addr) (v:V) (O₂:za) (S:Loc×za),Step F.W β s s₁ β₁→SR G F β₁ ρ O₁ s₁.heap→(∀ z∈Z,s.heap.get? z=none) →
      CompEnd G F scope Z β₁ s₁ C D res O' s' β'→StepZ Z β₁ s₁ s' β₂→SR G (F.plus (y0 scope C)) β₂ ρ O₂ s'.heap→VR G (F.plus (y0 scope C)).B β₂ s'.heap (.ref D) v→asgR (.name i) v (ρ,O₂)=.ok .next S →
      (∀ s' β' a,Step F.W β s s' β'→SR G F β' S.1 S.2 s'.heap→yu G F β' s'.heap a .next→Q a s') →
      wpAny (model G.prog G.w) A (assign (.Name x px) F.env (.ref D)) (fun uA s''=>∃ m,s''.heap.Ns C m∧∀ h',Heap.SameBut C s''.heap h'→Q .next { s'' with heap:=h' }) E s':=by
      intro Q E s₁ β₁ Z C D s' β' β₂ v O₂ S st sr₁ hz ce sz srp vr hasg k
      have hCM:C∈y0 scope C:=ao
      have hCn:=ce.new C (ag _ ao)
      have hCB:C∉F.B:=fun hB=>by
       refine eY (sr₁.fm.stor C hB) ?_;intro o e _
       rw[hCn] at e;exfalso;injection e
      have hCMp:C∈(F.plus (y0 scope C)).B:=az _ hCM
      have da:=xy (A:=A) hh (fit.plus (y0 scope C)) hown (.name i) hx srp vr
      unfold asgR at hasg
      unfold bindR at da
      dsimp only at hasg da
      cases hbt:zq (.name i) v ρ with
      | none=>rw[hbt] at hasg;exfalso;injection hasg
      | some ρ'=>
        rw[hbt] at hasg da
        injection hasg with eU eV;cases eU;subst eV
        refine da _ _ fun s₃ β₃ uA st₃ sr₃ uA=>?_
        obtain⟨m,hm⟩:=ce.ns
        refine eZ m (Kin.ns hm fun o p1=>st₃.kept C o p1 (srp.fm.notBox C hCMp) fun hw=>hCB (sr₁.fm.sub C hw)) (fun h' hs=>?_)
        have hs':∀ b o,b≠C→s₃.heap.get? b=some o→h'.get? b=some o:=fun b o hb e=>(hs.2 b hb).trans e
        have srF:=SR.drop sr₁.fm sr₃ hCM hCB hs'
        refine k _ β₃ _ ?_ srF rfl
        have s1:Step F.W β s s₃ β₃:=(st.thenStepZ sz hz).trans st₃
        exact s1.thenZ (Z:=[C]) ⟨rfl,rfl,fun b o hb e=>hs' b o (fun e'=>hb (by simp [e'])) e⟩ fun z hz'=>by
         rw [ac.mp hz']
         cases e:s.heap.get? C with
         | none=>rfl
         | some o=>refine fe (st.alive _ _ e) ?_;intro o' e';rw[hCn] at e';exfalso;injection e'
     cases hK with
     | plain=>
       show DoesW G F s β _ (asgR (.name i) (.d (.list res)) (ρ,O')) _
       cases hasg:asgR (.name i) (.d (.list res)) (ρ,O') with
       | stuck=>trivial
       | ok fl S=>
         have hfl:fl=.next:=by unfold asgR at hasg;split at hasg <;> cases hasg;rfl
         subst hfl
         intro Q E k
         refine run Q E fun s₁ β₁ Z C D s' β' st sr₁ hz1 hzB hz ce hDM=>?_
         refine ff (ce.sr sr₁ hz1 hzB g.clsRef hDM) ?_;intro srp vr
         exact fin Q E s₁ β₁ Z C D s' β' β' _ O' S st sr₁ hz ce ce.step srp vr hasg k
     | box=>
       show DoesW G F s β _ (asgR (.name i) (.box O'.length) (ρ,O'++[.lst res])) _
       cases hasg:asgR (.name i) (.box O'.length) (ρ,O'++[.lst res]) with
       | stuck=>trivial
       | ok fl S=>
         have hfl:fl=.next:=by unfold asgR at hasg;split at hasg <;> cases hasg;rfl
         subst hfl
         intro Q E k
         refine run Q E fun s₁ β₁ Z C D s' β' st sr₁ hz1 hzB hz ce hDM=>?_
         refine fg (ce.srB sr₁ hz1 hzB g.clsRef hDM) ?_;intro sz srp vr
         exact fin Q E s₁ β₁ Z C D s' β' _ _ _ S st sr₁ hz ce sz srp vr hasg k
    ·intro hgo;rw[hgo];trivial
   ·trivial
end
section
variable{G:Gl}{F:Fm}{A:Around}{s:Shared}{β:List Addr}{ρ:Loc}{O:za}
theorem xf{s:Shared}{h':Heap}{tk:Nat}(hk:∀ b o,s.heap.get? b=some o→h'.get? b=some o):KeepsAll s { s with heap:=h',toks:=tk }:=⟨rfl,rfl,hk⟩
noncomputable def zpb:Ty→String
 | .int=>"int"
 | .bool=>"bool"
 | .tuple=>"tuple"
 | .list=>"list"
 | .str=>"str"
theorem zp3(t:Ty):(vi t,Value.type (zpb t))∈bis:=by cases t <;> decide
theorem zku{t:Ty}{v:Value}{d:V}{x:PyData}(sr:SR G F β ρ O s.heap)(rv:VR G F.B β s.heap v d)(hx:look O d=some x) :
 LeafD G F s β (tr G A (call (.builtin "isinstance") [v,.type (zpb t)])) (V.d (.bool (isTy t x))) (FRel G F s):=by
 refine fe (vw sr rv hx) ?_;intro as r
 have kT:∀ (Q:Value→Shared→Prop) b,(∀ v' s',KeepsAll s s'→FRel G F s β s'.heap v' (V.d (.bool b))→Q v' s')→Q (.bool b) s∧Q (.bool b) { s with toks:=s.toks+1 }:=fun Q b k=>
  ⟨k _ _ (KeepsAll.refl s) ⟨VR.bool,fun uA h=>by injection h with eU;exfalso;injection eU⟩,k _ _ (KeepsAll.toks s _) ⟨VR.bool,fun uA h=>by injection h with eU;exfalso;injection eU⟩⟩
 refine LeafD.leaf sr fun Q E k=>?_
 refine ff (kT Q _ k) ?_;intro k1 k2
 cases r with
 | none=>cases t <;> first | exact IsiPair.NoneType_int k2 | exact IsiPair.NoneType_bool k2 | exact IsiPair.NoneType_tuple k2 | exact IsiPair.NoneType_list k2 | exact IsiPair.NoneType_str k2
 | bool b=>cases t <;> first | exact IsiPair.bool_int k1 | exact IsiPair.bool_bool k1 | exact IsiPair.bool_tuple k2 | exact IsiPair.bool_list k2 | exact IsiPair.bool_str k2
 | int i u=>cases t <;> first | exact IsiPair.int_int k1 | exact IsiPair.int_bool k2 | exact IsiPair.int_tuple k2 | exact IsiPair.int_list k2 | exact IsiPair.int_str k2
 | str x u=>cases t <;> first | exact IsiPair.str_int k2 | exact IsiPair.str_bool k2 | exact IsiPair.str_tuple k2 | exact IsiPair.str_list k2 | exact IsiPair.str_str k1
 | list h1 h2 h3 h4=>cases t <;> first | exact IsiPair.list_int h1 h2 k2 | exact IsiPair.list_bool h1 h2 k2 | exact IsiPair.list_tuple h1 h2 k2 | exact IsiPair.list_list h1 h2 k1 | exact IsiPair.list_str h1 h2 k2
 | tuple h1 h2 h3 h4=>cases t <;> first | exact IsiPair.tuple_int h1 h2 k2 | exact IsiPair.tuple_bool h1 h2 k2 | exact IsiPair.tuple_tuple h1 h2 k1 | exact IsiPair.tuple_list h1 h2 k2 | exact IsiPair.tuple_str h1 h2 k2
 | dict h1 h2 h3 h4 h5=>cases t <;> first | exact IsiPair.dict_int h1 h2 k2 | exact IsiPair.dict_bool h1 h2 k2 | exact IsiPair.dict_tuple h1 h2 k2 | exact IsiPair.dict_list h1 h2 k2 | exact IsiPair.dict_str h1 h2 k2
theorem zf5{v:Value}{d:V}{xs:List PyData}(sr:SR G F β ρ O s.heap)(rv:VR G F.B β s.heap v d)(hx:look O d=some (.list xs))(hl:xs.length≤line) :
 LeafD G F s β (tr G A (call (.builtin "len") [v])) (V.d (.int xs.length)) (FRel G F s):=by
 refine eY (yb sr rv hx) ?_;intro a eg eo;subst eg;obtain ⟨o,vs,n,h1,h2,h3,as,h4,h5⟩:=eo
 have hsz:vs.size=xs.length:=by rw[← aC,zd h4]
 refine LeafD.leaf sr fun Q E k=>Calls.call_len_list ⟨o,h1,h2,n,h3⟩ (by rw[hsz];have:line=1000000:=rfl;lia) ?_
 rw[hsz]
 exact k _ _ (KeepsAll.toks s _) ⟨VR.int,fun uA h=>by injection h with eU;exfalso;injection eU⟩
theorem zd2{v:Value}{xs:List PyData}(sr:SR G F β ρ O s.heap)(rv:VR G F.B β s.heap v (.d (.tuple xs)))(hl:xs.length≤line) :
 LeafD G F s β (tr G A (call (.builtin "len") [v])) (V.d (.int xs.length)) (FRel G F s):=by
 obtain⟨a,o,vs,n,rfl,h1,h2,h3,as,h4,h5⟩:=rv.tuple_inv
 have hsz:vs.size=xs.length:=by rw[← aC,zd h4]
 refine LeafD.leaf sr fun Q E k=>PyProof.Rows.len_tuple ⟨o,h1,h2,n,h3⟩ (by rw[hsz];have:line=1000000:=rfl;lia) ?_
 rw[hsz]
 exact k _ _ (KeepsAll.toks s _) ⟨VR.int,fun uA h=>by injection h with eU;exfalso;injection eU⟩
theorem zb5{h:Heap}{vs:List Value}{xs:List PyData}{as:List Addr}(r:ReadsAll h vs xs as):∀ {bs:List Bool},vf xs=some bs→vs=bs.map Value.bool:=by
 refine zz (motive:=fun vs xs uA=>∀ {bs:List Bool},vf xs=some bs→vs=bs.map Value.bool) (fun e=>by injection e with eU;subst eU;rfl) ?_ r
 intro v d as vs ds bs r _ ih is e
 cases d with
 | bool i=>
   refine eY (aE.mp e) ?_;intro bs e1 eo;subst eo
   cases r
   rw[ih e1];rfl
 | _=>exfalso;injection e
theorem ints_get{h:Heap}{vs:List Value}{xs:List PyData}{as:List Addr}(r:ReadsAll h vs xs as):∀ {is:List Int},Mine.intsOf xs=some is→IntsAre vs is:=by
 refine zz (motive:=fun vs xs uA=>∀ {is:List Int},Mine.intsOf xs=some is→IntsAre vs is) (fun e=>by injection e with eU;subst eU;exact .nil) ?_ r
 intro v d as vs ds bs r _ ih is e
 cases d with
 | int i=>
   refine eY (aE.mp e) ?_;intro bs e1 eo;subst eo
   cases r
   exact .cons _ _ (ih e1)
 | _=>exfalso;injection e
theorem ints_length:∀ {xs:List PyData} {is:List Int},Mine.intsOf xs=some is→xs=is.map PyData.int
 | [],_,e=>by injection e with eU;subst eU;rfl
 | x::xs,is,e=>by
   cases x with
   | int i=>
     refine eY (aE.mp e) ?_;intro bs e1 eo;subst eo
     rw[ints_length e1];rfl
   | _=>exfalso;injection e
theorem range_all(bs:List Bool):(List.range bs.length).all (fun i=>bs[i]?.getD false)=bs.all id:=by
 rw[cU,aI,aI]
 constructor
 ·intro h b hb
  obtain⟨i,hi,rfl⟩:=List.getElem_of_mem hb
  have:=h i (aZ.mpr hi)
  rwa [aq hi] at this
 ·intro h i hi
  have hi:=aZ.mp hi
  rw[aq hi]
  exact h _ (dH hi)
theorem range_any(bs:List Bool):(List.range bs.length).any (fun i=>bs[i]?.getD false)=bs.any id:=by
 rw[cU,dI,dI]
 constructor
 ·rintro⟨i,hi,h⟩
  have hi:=aZ.mp hi
  rw[aq hi] at h
  exact eZ _ (dH hi) h
 ·rintro⟨b,hb,h⟩
  obtain⟨i,hi,rfl⟩:=List.getElem_of_mem hb
  exact eZ i (aZ.mpr hi) (by rw[aq hi];exact h)
theorem zf9{s:Shared}{h':Heap}{tk:Nat}{o:Obj}(hk:∀ b o',b∉[s.heap.objs.size]→(s.heap.push o).get? b=some o'→h'.get? b=some o'):KeepsAll s { ({ s with heap:=s.heap.push o }:Shared) with heap:=h',toks:=tk }:=
 ⟨rfl,rfl,fun b o' e=>hk b o' (fun hm=>by rw[ac.mp hm,bj (aL _)] at e;exfalso;injection e) (ah _ e)⟩
theorem ztu{v:Value}{d:V}{xs:List PyData}{bs:List Bool}(hh:A.handled=none)(sr:SR G F β ρ O s.heap)(rv:VR G F.B β s.heap v d)(hx:look O d=some (.list xs))(hb:vf xs=some bs) :
 LeafD G F s β (tr G A (call (.builtin "all") [v])) (V.d (.bool (bs.all id))) (FRel G F s):=by
 refine eY (yb sr rv hx) ?_;intro a eg eo;subst eg;obtain ⟨o,vs,n,h1,h2,h3,as,h4,h5⟩:=eo
 have hvs:=zb5 h4 hb
 have hsz:vs.size=bs.length:=by rw[← aC,hvs];simp
 refine LeafD.leaf sr fun Q E k=>call_all_walk (cf ⟨o,h1,h2,n,h3⟩ ?_)
 refine⟨_,_,_,_,_,_,fun i=>bs[i]?.getD false,rfl,Walks.list (A:=A.in1) hh s.heap.objs.size a (bm (a6 h1)) vs,⟨⟨_,aF _ rfl,rfl,rfl⟩,⟨o,ah _ h1,h2,n,h3⟩⟩,?_,fun h' tk hk=>?_⟩
 ·intro i v s' Q E hv q
  rw[← aV,hvs,aR] at hv
  cases hi:bs[i]? with
  | none=>rw[hi] at hv;exfalso;injection hv
  | some b=>rw[hi] at hv;injection hv with eU;subst eU;dsimp only at q;rw[hi] at q;exact bL q
 ·rw[hsz,range_all]
  exact k _ _ (zf9 hk) ⟨VR.bool,fun uA h=>by injection h with eU;exfalso;injection eU⟩
theorem ztt{v:Value}{d:V}{xs:List PyData}{bs:List Bool}(hh:A.handled=none)(sr:SR G F β ρ O s.heap)(rv:VR G F.B β s.heap v d)(hx:look O d=some (.list xs))(hb:vf xs=some bs) :
 LeafD G F s β (tr G A (call (.builtin "any") [v])) (V.d (.bool (bs.any id))) (FRel G F s):=by
 refine eY (yb sr rv hx) ?_;intro a eg eo;subst eg;obtain ⟨o,vs,n,h1,h2,h3,as,h4,h5⟩:=eo
 have hvs:=zb5 h4 hb
 have hsz:vs.size=bs.length:=by rw[← aC,hvs];simp
 refine LeafD.leaf sr fun Q E k=>call_any_walk (cf ⟨o,h1,h2,n,h3⟩ ?_)
 refine⟨_,_,_,_,_,_,fun i=>bs[i]?.getD false,rfl,Walks.list (A:=A.in1) hh s.heap.objs.size a (bm (a6 h1)) vs,⟨⟨_,aF _ rfl,rfl,rfl⟩,⟨o,ah _ h1,h2,n,h3⟩⟩,?_,fun h' tk hk=>?_⟩
 ·intro i v s' Q E hv q
  rw[← aV,hvs,aR] at hv
  cases hi:bs[i]? with
  | none=>rw[hi] at hv;exfalso;injection hv
  | some b=>rw[hi] at hv;injection hv with eU;subst eU;dsimp only at q;rw[hi] at q;exact bL q
 ·rw[hsz,range_any]
  exact k _ _ (zf9 hk) ⟨VR.bool,fun uA h=>by injection h with eU;exfalso;injection eU⟩
theorem un:∀ {vs:List Value} {is:List Int},IntsAre vs is→∀ (i:Nat) v,vs[i]?=some v→∃ n t,is[i]?=some n∧v=.int n t
 | _,_,.nil,i,v,e=>by simp at e
 | _,_,.cons n t r,0,v,e=>by simp at e;exact fD n t (by simp) e.symm
 | _,_,.cons _ _ r,i+1,v,e=>by simp at e;simpa using un r i v e
theorem preSum_eq(is:List Int):preSum (fun i=>is[i]?.getD 0) is.length=is.sum:=by
 have:∀ k,k≤is.length→preSum (fun i=>is[i]?.getD 0) k=(is.take k).sum:=by
  intro k
  induction k with
  | zero=>intro _;simp[preSum]
  | succ k ih=>
    intro hk
    have hk':k < is.length:=hk
    show preSum _ k+_=_
    rw[ih (cq hk'),List.take_add_one,List.sum_append,aq hk']
    simp[aq hk']
 rw[this _ (aL _),bp]
theorem qc:∀ {vs:List Value} {is:List Int},IntsAre vs is→vs.length=is.length
 | _,_,.nil=>rfl
 | _,_,.cons _ _ r=>by simp[qc r]
theorem l_sum{v:Value}{d:V}{xs:List PyData}{is:List Int}(hh:A.handled=none)(sr:SR G F β ρ O s.heap)(rv:VR G F.B β s.heap v d)(hx:look O d=some (.list xs))(hb:Mine.intsOf xs=some is) :
 LeafD G F s β (tr G A (call (.builtin "sum") [v])) (V.d (.int is.sum)) (FRel G F s):=by
 refine eY (yb sr rv hx) ?_;intro a eg eo;subst eg;obtain ⟨o,vs,n,h1,h2,h3,as,h4,h5⟩:=eo
 have hvs:=ints_get h4 hb
 have hsz:vs.size=is.length:=by rw[← aC,qc hvs]
 refine LeafD.leaf sr fun Q E k=>call_sum_walkG (cf ⟨o,h1,h2,n,h3⟩ ?_)
 refine⟨_,_,_,_,_,_,fun i=>is[i]?.getD 0,rfl,Walks.list (A:=A.in1) hh s.heap.objs.size a (bm (a6 h1)) vs,⟨⟨_,aF _ rfl,rfl,rfl⟩,⟨o,ah _ h1,h2,n,h3⟩⟩,fun b hb=>?_,fun i v hv=>?_,fun h' tk t' hk=>?_⟩
 ·show b < (s.heap.push _).objs.size
  rw[bv]
  refine eW (ae.mp hb) ?_ ?_
  ·rintro rfl;exact cL _
  ·intro hb;rw[ac.mp hb];exact cC (a6 h1)
 ·rw[← aV] at hv
  refine fy (un hvs i v hv) ?_;intro n t e1 e2
  exact fh t (by dsimp only;rw[e1];exact e2)
 ·rw[hsz,preSum_eq]
  exact k _ _ (zf9 hk) ⟨VR.int,fun uA h=>by injection h with eU;exfalso;injection eU⟩
theorem zkt{v:Value}{d:V}{x:PyData}{xs:List PyData}(sr:SR G F β ρ O s.heap)(rv:VR G F.B β s.heap v d)(hx:look O d=some x)(hi:items x=some xs)(hl:xs.length≤line) :
 LeafD G F s β (tr G A (call (.type "list") [v])) (V.d (.list xs)) (FRel G F s):=by
 have key:∀ (a:Addr) (o:Obj) (vs:Array Value) (n:Nat) (T:String) (as:List Addr),T = "list"∨T = "tuple"→s.heap.get? a=some o→o.cls=.type T→o.data=.seq vs n→ReadsAll s.heap vs.toList xs as→(∀ b∈as,b∉β∧b∉F.B) →
  LeafD G F s β (tr G A (call (.type "list") [.ref a])) (V.d (.list xs)) (FRel G F s):=by
  intro a o vs n T as hT h1 h2 h3 h4 h5
  have hsz:vs.size≤sizeLine:=by rw[← aC,zd h4];exact ak hl (by decide)
  refine LeafD.leaf sr fun Q E k=>call_list_seq (hsz:=hsz) a hT h1 h2 h3 fun h' c' hk hS=>?_
  exact k _ _ (xf (tk:=s.toks) hk) ⟨y5 hS rfl rfl (zy hk h4) h5 sr.size_new,fun uA uA=>⟨_,rfl,bj (aL _),_,hS,rfl,rfl⟩⟩
 cases x with
 | list ys=>
   injection hi with eU;subst eU
   refine eY (yb sr rv hx) ?_;intro a eg eo;subst eg;obtain ⟨o,vs,n,h1,h2,h3,as,h4,h5⟩:=eo
   exact key a o vs n _ as (.inl rfl) h1 h2 h3 h4 h5
 | tuple ys=>
   injection hi with eU;subst eU
   have:=yi hx (fun uA h=>by exfalso;injection h);subst this
   obtain⟨a,o,vs,n,rfl,h1,h2,h3,as,h4,h5⟩:=rv.tuple_inv
   exact key a o vs n _ as (.inr rfl) h1 h2 h3 h4 h5
 | _=>exfalso;injection hi
theorem zcr{v:Value}{d:V}{xs:List PyData}(sr:SR G F β ρ O s.heap)(rv:VR G F.B β s.heap v d)(hx:look O d=some (.list xs))(hl:xs.length≤line) :
 LeafD G F s β (tr G A (call (.type "tuple") [v])) (V.d (.tuple xs)) (FRel G F s):=by
 refine eY (yb sr rv hx) ?_;intro a eg eo;subst eg;obtain ⟨o,vs,n,h1,h2,h3,as,h4,h5⟩:=eo
 have hsz:vs.size≤sizeLine:=by rw[← aC,zd h4];exact ak hl (by decide)
 refine LeafD.leaf sr fun Q E k=>call_tuple_list (hsz:=hsz) ⟨o,h1,h2,n,h3⟩ fun h' hk=>?_
 have hk':∀ b o,s.heap.get? b=some o→(h'.push { cls:=.type "tuple",data:=.seq vs }).get? b=some o:=fun b o e=>ah _ (hk b o e)
 exact k _ _ (xf (tk:=s.toks) hk') ⟨kx (aF _ rfl) rfl rfl (zy hk' h4) h5,fun uA h=>by injection h with eU;exfalso;injection eU⟩
theorem zay{v:Value}{xs:List PyData}(sr:SR G F β ρ O s.heap)(rv:VR G F.B β s.heap v (.d (.tuple xs))) :
 LeafD G F s β (tr G A (call (.type "tuple") [v])) (V.d (.tuple xs)) (FRel G F s):=by
 obtain⟨a,o,vs,n,rfl,h1,h2,h3,as,h4,h5⟩:=id rv.tuple_inv
 refine LeafD.leaf sr fun Q E k=>call_tuple_tup ⟨o,h1,h2,n,h3⟩ (k _ _ (KeepsAll.refl s) ⟨rv,fun uA h=>by injection h with eU;exfalso;injection eU⟩)
end
section
variable{G:Gl}{F:Fm}{A:Around}{cx:Cx}{s:Shared}{β:List Addr}{ρ:Loc}{O:za}{gval:Nat→Option PyData}{gname:Nat→Option Str}
theorem zem(sr:SR G F β ρ O s.heap):Does G F A s β (execs [] F.env) (.ok .next (ρ,O)) (yu G F):=
 Does.leaf sr fun Q E q=>wpAny_execs_nil (q _ _ (KeepsAll.refl s) rfl)
theorem zc3{x:Stmt}{xs:List Stmt}{r:R (Loc×za) Fl}{g:Loc→za→R (Loc×za) Fl}(h1:Does G F A s β (exec x F.env) r (yu G F))
 (h2:∀ s' β' ρ' O',SR G F β' ρ' O' s'.heap→Does G F A s' β' (execs xs F.env) (g ρ' O') (yu G F)) :
 Does G F A s β (execs (x::xs) F.env) (r.bind (seqK fun S=>g S.1 S.2)) (yu G F):=by
 refine DoesW.seq (T₂:=fun f Q E s'=>match f with | .next=>wpAny (model G.prog G.w) A (execs xs F.env) Q E s' | f=>Q f s') (fun Q E h=>wpAny_execs_cons h) h1 fun s' β' f d S e st sr rf=>?_
 cases d with
 | next=>
   have:f=.next:=rf
   subst this
   exact h2 s' β' S.1 S.2 sr
 | ret v=>
   refine eY rf ?_;clear rf;intro val eg rv;subst eg
   exact Does.leaf sr fun Q E q=>q _ _ (KeepsAll.refl s') ⟨val,rfl,rv⟩
theorem zul{e:Expr}{p:Pos}{r:R za V}(h1:Does G F A s β (eval e F.env) (r.lift ρ) (VRel G F)) :
 Does G F A s β (exec (.Return (some e) p) F.env) ((r.lift ρ).bind fun v S=>.ok (.ret v) S) (yu G F):=
 DoesW.by (f:=Flow.ret) (q:=Fl.ret) (fun Q E h=>wpAny_Return_some h) h1 fun β h a d rv=>⟨a,rfl,rv⟩
theorem zuq{t:Expr}{a b:List Stmt}{p:Pos}{r:R za V}{ga gb:Loc→za→R (Loc×za) Fl}(h1:Does G F A s β (isTrue t F.env (eval t F.env)) ((tv r).lift ρ) BRel)
 (h2:∀ s' β' ρ' O',SR G F β' ρ' O' s'.heap→Does G F A s' β' (execs a F.env) (ga ρ' O') (yu G F)) (h3:∀ s' β' ρ' O',SR G F β' ρ' O' s'.heap→Does G F A s' β' (execs b F.env) (gb ρ' O') (yu G F)) :
 Does G F A s β (exec (.If t a b p) F.env) (((tv r).lift ρ).bind (ifeK (fun S=>ga S.1 S.2) fun S=>gb S.1 S.2)) (yu G F):=by
 refine DoesW.seq (T₂:=fun z Q E s₂=>if z then wpAny (model G.prog G.w) A (execs a F.env) Q E s₂ else wpAny (model G.prog G.w) A (execs b F.env) Q E s₂) (fun Q E h=>wpAny_If h) h1 fun s' β' z d S e st sr hz=>?_
 have hz:z=d:=hz
 subst hz
 cases z with
 | true=>exact (h2 s' β' S.1 S.2 sr).weaken (fun Q E h=>by show if _ then _ else _;rw[af rfl];exact h) fun uA uA uA uA h=>h
 | false=>exact (h3 s' β' S.1 S.2 sr).weaken (fun Q E h=>by show if _ then _ else _;rw[aj (by decide)];exact h) fun uA uA uA uA h=>h
theorem zdd{e:Expr}(h:∀ a b c d,e≠.ListComp a b c d)(h2:∀ a b c d,e≠.SetComp a b c d)(h3:∀ a b c d f,e≠.DictComp a b c d f)(t:Option Expr)(n:Nat)(env:Env):swapsWith e t n env=pure false:=by
 cases e <;> first | rfl | exact absurd rfl (h _ _ _ _) | exact absurd rfl (h2 _ _ _ _) | exact absurd rfl (h3 _ _ _ _ _)
theorem zsh{e:Expr}{p:Pos}{r:R za V}(hk:F.env.scope.kind=.function)(hi:interactive F.env=false)(hs:swapsWith e none p.line F.env=pure false)(h1:Does G F A s β (eval e F.env) (r.lift ρ) (VRel G F)) :
 Does G F A s β (exec (.Expr e p) F.env) ((r.lift ρ).bind fun uA S=>.ok .next S) (yu G F):=by
 refine DoesW.seq (T₂:=fun uA Q E s'=>Q .next s') (fun Q E h=>wpAny_Expr_any h hi hs) h1 fun s' β' v d S e st sr rv=>?_
 exact Does.leaf sr fun Q E q=>q _ _ (KeepsAll.refl s') rfl
set_option tactic.hygienic true in
theorem zae{x:Str}{px spos:Pos}{i:Nat}{own:Str→Bool}{value:Expr}{r:R za V}(fit:Fits F cx)(hown:∀ x,own x=true→F.own x=true)(hx:chkT cx own (.name i) (.Name x px)=true)
 (hs:swapsWith value (some (.Name x px)) spos.line F.env=pure false) (h1:Does G F A s β (eval value F.env) (r.lift ρ) (VRel G F)) :
 Does G F A s β (exec (.Assign [.Name x px] value spos) F.env) ((r.lift ρ).bind (asgR (.name i))) (yu G F):=by
 refine fk (ua hx) ?_;intro y p e h2 h3
 injection e with eU eV;subst eU eV
 refine ff (ul fit h2) ?_;intro g1 g2
 refine DoesW.seq (T₂:=fun v Q E s'=>wpAny (model G.prog G.w) A (storeName F.env x v) (fun uA=>Q .next) E s') (fun Q E h=>wpAny_Assign_Name h hs) h1 fun s' β' v d S e st sr rv=>?_
 have ds:=zhq (A:=A) sr g1 g2 (hown x h3) rv
 unfold asgR zq
 split
 ·rename_i ρ' heq
  split at heq
  ·injection heq with eU;subst eU
   intro Q E k
   exact ds _ _ fun s'' β'' uA st' sr' uA=>k s'' β'' .next st' sr' rfl
  ·exfalso;injection heq
 ·trivial
theorem zen{elts:List Expr}{k:Nat}{tpos spos:Pos}{c:CT}{own:Str→Bool}{value:Expr}{r:R za V}(hh:A.handled=none)(fit:Fits F cx)(hown:∀ x,own x=true→F.own x=true)(hx:chkT cx own c (.Tuple elts k tpos)=true)
 (hs:swapsWithSole [.Tuple elts k tpos] value spos.line F.env=pure false) (hw:swappedStores [.Tuple elts k tpos] value F.env=pure none) (h1:Does G F A s β (eval value F.env) (r.lift ρ) (VRel G F)) :
 Does G F A s β (exec (.Assign [.Tuple elts k tpos] value spos) F.env) ((r.lift ρ).bind (asgR c)) (yu G F):=by
 refine DoesW.seq (T₂:=fun v Q E s'=>wpAny (model G.prog G.w) A (assign (.Tuple elts k tpos) F.env v) (fun uA=>Q .next) E s') (fun Q E h=>Assign_Tuple h hs hw) h1 fun s' β' v d S e st sr rv=>?_
 have da:=xy (A:=A) hh fit hown c hx sr rv
 unfold bindR at da
 unfold asgR
 cases hb:zq c d S.1 with
 | none=>trivial
 | some ρ'=>
   rw[hb] at da
   intro Q E k
   exact da _ _ fun s'' β'' uA st' sr' uA=>k s'' β'' .next st' sr' rfl
theorem zos{t:Expr}{body:List Stmt}{p:Pos}{ev:Loc→za→R za V}{evb:Loc→za→R (Loc×za) Fl}{N:Nat}
 (ht:∀ s β ρ O,SR G F β ρ O s.heap→Does G F A s β (isTrue t F.env (eval t F.env)) ((tv (ev ρ O)).lift ρ) BRel)
 (hb:∀ s β ρ O,SR G F β ρ O s.heap→Does G F A s β (execs body F.env) (evb ρ O) (yu G F)) (sr:SR G F β ρ O s.heap) :
 Does G F A s β (exec (.While t body [] p) F.env) (yv (fun ρ O=>(tv (ev ρ O)).lift ρ) evb N ρ O) (yu G F):=by
 cases hgo:yv (fun ρ O=>(tv (ev ρ O)).lift ρ) evb N ρ O with
 | stuck=>trivial
 | ok fl S=>
   intro Q E k
   refine wpAny_While (codeAny_whileLoop (fun n s'=>∃ β' ρ' O',Step F.W β s s' β'∧SR G F β' ρ' O' s'.heap∧yv (fun ρ O=>(tv (ev ρ O)).lift ρ) evb n ρ' O'=.ok fl S) ?_ N ⟨β,ρ,O,Step.refl _ _ _,sr,hgo⟩)
   rintro n s' ⟨β',ρ',O',st,sr',hgo'⟩
   cases n with
   | zero=>exfalso;injection hgo'
   | succ n=>
     unfold yv at hgo'
     have dt:=ht s' β' ρ' O' sr'
     cases he:(tv (ev ρ' O')).lift ρ' with
     | stuck=>rw[he] at hgo';exfalso;injection hgo'
     | ok b S'=>
       rw[he] at hgo' dt
       refine dt _ _ fun s₂ β₂ b' st₂ sr₂ hb'=>?_
       have hb':b'=b:=hb'
       subst hb'
       cases b' with
       | false=>
         injection hgo' with eU eV;subst eU eV
         rw [aj (by decide)]
         exact wpAny_execs_nil (k s₂ β₂ .next (st.trans st₂) sr₂ rfl)
       | true=>
         rw [af rfl]
         dsimp only at hgo'
         have db:=hb s₂ β₂ S'.1 S'.2 sr₂
         cases he2:evb S'.1 S'.2 with
         | stuck=>rw [he2] at hgo';exfalso;injection hgo'
         | ok f S''=>
           rw [he2] at hgo' db
           refine db _ _ fun s₃ β₃ f' st₃ sr₃ rf=>?_
           cases f with
           | ret u=>
             injection hgo' with eU eV;subst eU eV
             refine eY rf ?_;clear rf;intro val eg rv;subst eg
             exact k s₃ β₃ (.ret val) (st.trans (st₂.trans st₃)) sr₃ ⟨val,rfl,rv⟩
           | next=>
             have rf:f'=.next:=rf
             subst rf
             exact⟨n,cL n,β₃,S''.1,S''.2,st.trans (st₂.trans st₃),sr₃,hgo'⟩
end
theorem zb7{kindOf:Str→Option NameKind}:∀ {binds:List (Str×Value)} {m:Str→Option Value} {x:Str} {v:Value},(binds.map (·.1)).Nodup→(x,v)∈binds→kindOf x=some .local→bindL kindOf binds m x=some v
 | (n,u)::r,m,x,v,hn,hm,hk=>by
   refine ff (bH.mp hn) ?_;intro h1 h2
   unfold bindL
   refine eW (ae.mp hm) ?_ ?_
   ·intro e;have hx:x=n:=(Prod.mk.inj e).1
    have hv:v=u:=(Prod.mk.inj e).2
    subst hx;subst hv
    rw[af hk]
    have:∀ (r:List (Str×Value)) (m:Str→Option Value),x∉r.map (·.1)→bindL kindOf r m x=m x:=by
     intro r
     induction r with
     | nil=>intro m _;rfl
     | cons p r ih=>
       intro m hx
       obtain⟨n',u'⟩:=p
       have hx':x≠n'∧x∉r.map (·.1):=by simpa using hx
       unfold bindL
       rw[ih _ hx'.2]
       split
       ·exact aj hx'.1
       ·rfl
    rw[this r _ h1];simp
   ·intro hm;exact zb7 h2 hm hk
theorem zjf{kindOf:Str→Option NameKind}{x:Str}(r:List (Str×Value)):∀ (m:Str→Option Value),x∉r.map (·.1)→bindC kindOf r m x=m x:=by
 induction r with
 | nil=>exact fun m uA=>rfl
 | cons p r ih=>
   intro m hx
   obtain⟨n',u'⟩:=p
   have hx':x≠n'∧x∉r.map (·.1):=by simpa using hx
   unfold bindC
   rw[ih _ hx'.2]
   split
   ·rfl
   ·exact aj hx'.1
theorem zje{kindOf:Str→Option NameKind}{binds:List (Str×Value)}{x:Str}{v:Value}(hk:kindOf x=some .cell):∀ {m:Str→Option Value},(binds.map (·.1)).Nodup→(x,v)∈binds→bindC kindOf binds m x=some v:=by
 induction binds with
 | nil=>exact fun uA hm=>absurd hm dJ
 | cons p r ih=>
   intro m hn hm
   obtain⟨n,u⟩:=p
   refine ff (bH.mp hn) ?_;intro h1 h2
   unfold bindC
   refine eW (ae.mp hm) ?_ ?_
   ·intro e;refine ff (Prod.mk.inj e) ?_;intro hx hv
    subst hx;subst hv
    rw[aj (by rw[hk];decide),zjf r _ h1]
    exact af rfl
   ·intro hm;exact ih h2 hm
theorem VRs.get{G:Gl}{N β:List Addr}{h:Heap}{vs:List Value}{ds:List V}(r:VRs G N β h vs ds):∀ (i:Nat) (h1:i < vs.length) (h2:i < ds.length),VR G N β h vs[i] ds[i]:=by
 induction r with
 | nil=>intro i h1;simp at h1
 | cons r rs ih=>
   intro i h1 h2
   cases i with
   | zero=>exact r
   | succ i=>exact ih i (by simpa using h1) (by simpa using h2)
theorem BoxAt.less2{N N' β β':List Addr}{h:Heap}(hs:∀ a∈N,a∈N')(hb:∀ a∈β,a∈β'){a:Addr}{bx:Box}(r:BoxAt h N' β' a bx):BoxAt h N β a bx:=by
 cases bx with
 | lst xs=>obtain⟨o,vs,n,h1,h2,h3,as,h4,h5⟩:=r;exact⟨o,vs,n,h1,h2,h3,as,h4,fun b hb'=>⟨fun hm=>(h5 b hb').1 (hb b hm),fun hn=>(h5 b hb').2 (hs b hn)⟩⟩
 | dct kvs=>
   obtain⟨o,es,n,h1,h2,h3,h4,h5⟩:=r
   refine⟨o,es,n,h1,h2,h3,h4,fun i e kv he hkv=>?_⟩
   obtain⟨hq,as,bs,r1,r2,q⟩:=h5 i e kv he hkv
   exact⟨hq,as,bs,r1,r2,fun b hb'=>⟨fun hm=>(q b hb').1 (hb b hm),fun hn=>(q b hb').2 (hs b hn)⟩⟩
noncomputable def xe(fd:FuncData)(L a:Addr)(names:List (Option Str))(B fr:List Addr):Fm:=
 { env:=callEnvC fd L a,names:=names,own:=ownOf fd.scope,W:=L::(cellsFrom (L+1) fd.scope.names []).map (·.2),B:=(L::(cellsFrom (L+1) fd.scope.names []).map (·.2))++B,fr:=L::fr }
structure FnOk(G:Gl)(J:Cx→List Stmt→CSs→Prop)(fname gname cname:Nat→Option Str)(x:Str)(fn:Fn)(a:Addr)(o:Obj)(fd:FuncData)(body:List Stmt)(names:List Str):Prop where
 at_:FnAt G x a o fd
 code:G.h₀.CodeRec fd.code fd.qualname
 body_:fd.body=.stmts body
 clos:fd.closure=[]
 globals:fd.globals=mainGlobals
 builtins:fd.builtins=builtinsNs
 defaults:fd.defaults=.none
 chk:zhr fn names fd.params fd.scope=true
 js:J { names:=yo fn names,sc:=fd.scope,fname,gname,cname } body fn.body
noncomputable def zhw(G:Gl)(J:Cx→List Stmt→CSs→Prop)(fname gname cname:Nat→Option Str)(T:Nat→Option Fn):Prop:=
 ∀ f x,fname f=some x→(∃ a o fd,FnAt G x a o fd)∧∀ fn,T f=some fn→∃ a o fd body names,FnOk G J fname gname cname x fn a o fd body names
structure HdOk(fn:Fn)(names:List Str)(a:Arguments)(sc:Scope):Prop where
 p1:a.posonlyargs=[]
 p2:a.vararg=none
 p3:a.kwonlyargs=[]
 p4:a.kwarg=none
 p5:a.args.map (·.arg)=names.take fn.arity
 k1:sc.kind=.function
 k2:sc.isGenerator=false
 k3:sc.isCoroutine=false
 k4:(sc.names.map (·.1)).Nodup
 k5:∀ x k,(x,k)∈sc.names→k=.local∨k=.cell∨k=.globalImplicit
 n1:names.Nodup
 n2:names.length≤fn.slots
 n3:fn.arity≤names.length
 n4:∀ x∈names,ownOf sc x=true
theorem qk{fn:Fn}{names:List Str}{a:Arguments}{sc:Scope}(h:zhr fn names a sc=true):HdOk fn names a sc:=by
 unfold zhr at h
 simp only[aG,aK] at h
 refine ff h ?_;clear h;intro dZ h6;refine ff dZ ?_;clear dZ;intro dZ h5;refine ff dZ ?_;clear dZ;intro dZ h4;refine ff dZ ?_;clear dZ;intro dZ h3;refine ff dZ ?_;clear dZ;intro h1 h2
 unfold ui at h1
 simp only[aG,cM,Option.isNone_iff_eq_none,aQ] at h1
 unfold zbu at h2
 simp only[aG,Bool.not_eq_true',aK,aQ] at h2
 refine⟨h1.1.1.1.1.1.1.1,h1.1.1.1.1.1.1.2,h1.1.1.1.1.1.2,h1.1.1.1.2,h1.1.2,h2.1.1.1.1,h2.1.1.1.2,h2.1.1.2,h2.1.2,fun x k hm=>?_,h3,h4,h5,aI.mp h6⟩
 have:=aI.mp h2.2 (x,k) hm
 simpa [bG,aQ,or_assoc] using this
section
variable{G:Gl}{J:Cx→List Stmt→CSs→Prop}{F:Fm}{A:Around}{gval:Nat→Option PyData}{fname gname cname:Nat→Option Str}{T:Nat→Option Fn}{P:Pg}
structure Out(G:Gl)(B fr β:List Addr)(h:Heap):Prop where
 new:(∀ a∈B,a≠sysModules→G.h₀.get? a=none)∧sysModules∈B∧sysModules∉fr
 notBox:∀ a∈B,a∉β
 stor:∀ a∈B,∃ o,h.get? a=some o∧∀ vs n,o.data=.seq vs n→o.cls≠.type "tuple"
 frB:∀ a∈fr,a∈B
 frs:∀ a∈fr,∃ m,h.Ns a m
theorem FmOk.out{β:List Addr}{h:Heap}(fm:FmOk G F β h):Out G F.B F.fr β h:=⟨⟨fm.new.1,fm.new.2.1,fm.new.2.2.2⟩,fm.notBox,fm.stor,fm.frB,fm.frs⟩
theorem zbb{fn:Fn}{x:Str}{a:Addr}{o:Obj}{fd:FuncData}{body:List Stmt}{names:List Str}(fo:FnOk G J fname gname cname x fn a o fd body names){s s₁:Shared}{β B fr:List Addr}{O:za}{vals:List Value}{vs:List V}(br:BR G B β O s.heap)(fm:Out G B fr β s.heap)
 (rvs:VRs G B β s.heap vals vs) (hlen:vs.length=fn.arity)
 (ic:InCallC s (callEnvC fd s.heap.objs.size a).locals (bindL (callEnvC fd s.heap.objs.size a).kindOf ((names.take fn.arity).zip vals) fun uA=>none) (callEnvC fd s.heap.objs.size a).cells
   (bindC (callEnvC fd s.heap.objs.size a).kindOf ((names.take fn.arity).zip vals) fun uA=>none) s₁) :
 SR G (xe fd s.heap.objs.size a (yo fn names) B fr) β (vs.map some++List.replicate (fn.slots - fn.arity) none) O s₁.heap∧KeepsAll s s₁:=by
 obtain⟨_,_,_,_,_,k1,k2,k3,k4,k5,n1,n2,n3,n4⟩:=qk fo.chk
 have kept:∀ b o,s.heap.get? b=some o→s₁.heap.get? b=some o:=ic.toInCall.keep
 obtain⟨h₁,tk,e₁⟩:=ic.toInCall.same
 have ka:KeepsAll s s₁:=⟨by rw[e₁],by rw[e₁],kept⟩
 refine⟨?_,ka⟩
 have hns:=ic.toInCall.ns
 have hLn:s.heap.get? s.heap.objs.size=none:=ya s
 have hcn:∀ y c,(y,c)∈cellsFrom (s.heap.objs.size+1) fd.scope.names []→s.heap.get? c=none:=fun y c hm=>bj (cq (ic.above y c hm))
 have hM:∀ b∈s.heap.objs.size::(cellsFrom (s.heap.objs.size+1) fd.scope.names []).map (·.2),s.heap.get? b=none:=fun b hb=>by
  refine eW (ae.mp hb) ?_ ?_
  ·rintro rfl;exact hLn
  ·intro hb;refine eY (av.mp hb) ?_;intro p hp eo;subst eo
   exact hcn p.1 p.2 hp
 have h0:∀ b,s.heap.get? b=none→G.h₀.get? b=none:=fun b hb=>by
  cases e:G.h₀.get? b with
  | none=>rfl
  | some o=>have:=br.keep b o e;rw[hb] at this;exfalso;injection this
 have hnames:(yo fn names)=names.map some++List.replicate (fn.slots - names.length) none:=rfl
 have nget:∀ (i:Nat) y,(yo fn names)[i]?=some (some y)→names[i]?=some y:=fun i y h=>by
  rw[hnames] at h
  refine eW (bk i names.length) ?_ ?_
  ·intro hi;rw[aJ (by simpa using hi),aR] at h
   cases hn:names[i]? with
   | none=>rw[hn] at h;exfalso;injection h
   | some z=>rw[hn] at h;cases h;rfl
  ·intro hi;rw[aH (by simpa using hi),List.getElem?_replicate] at h
   split at h <;> cases h
 have cellok:∀ y c,(y,c)∈cellsFrom (s.heap.objs.size+1) fd.scope.names []→(cellsFrom (s.heap.objs.size+1) fd.scope.names []).lookup y=some c→∃ v,s₁.heap.IsCell c v:=fun y c uA hl=>⟨_,ic.cell y c hl⟩
 refine⟨(br.grow hM).keepAll kept,⟨k1,fo.globals,fo.builtins,fun i j y h1 h2=>?_,⟨_,hns⟩,ao,fun y hy=>?_,fun y z c hy hz=>?_,fun b hb=>az _ hb,?_,fun b hb hb'=>?_,fun b hb=>?_,fun b hb=>?_,fun b hb=>?_,fun m e=>nomatch e⟩,fun i y v h1 h2=>?_⟩
 ·have e1:=nget i y h1
  have e2:=nget j y h2
  have hi:i < names.length:=(aA.mp e1).1
  have hj:j < names.length:=(aA.mp e2).1
  rw[aq hi] at e1
  rw[aq hj] at e2
  exact (List.getElem_inj (h₀:=hi) (h₁:=hj) n1).mp ((aP e1).trans (aP e2).symm)
 ·have hy':fd.scope.names.lookup y=some .cell:=hy
  refine fe (bn.mp (ye fd.scope.names (s.heap.objs.size+1) [] (.inl ((lookup_mem k4).mpr hy')))) ?_;intro c hc
  have hW:c∈s.heap.objs.size::(cellsFrom (s.heap.objs.size+1) fd.scope.names []).map (·.2):=ag _ (av.mpr ⟨(y,c),mem_of_lookup hc,rfl⟩)
  exact fC c _ hc (ic.cell y c hc) (az _ hW) (fun uA=>hW)
 ·exact name_of_addr ic.apart (mem_of_lookup hy) (mem_of_lookup hz)
 ·refine⟨fun b hb hs=>?_,au _ fm.new.2.1,fun hm=>br.notSys (hM _ hm) rfl,fun hm=>?_⟩
  ·refine eW (ai.mp hb) ?_ ?_
   ·intro hb;exact h0 b (hM b hb)
   ·intro hb;exact fm.new.1 b hb hs
  ·refine eW (ae.mp hm) ?_ ?_
   ·intro q;exact br.notSys hLn q.symm
   ·intro hm;exact fm.new.2.2 hm
 ·refine eW (ai.mp hb) ?_ ?_
  ·intro hb;refine eY (br.alive b hb') ?_;intro o e _
   rw[hM b hb] at e;exfalso;injection e
  ·intro hb;exact fm.notBox b hb hb'
 ·refine eW (ai.mp hb) ?_ ?_
  ·intro hb;refine eW (ae.mp hb) ?_ ?_
   ·rintro rfl;refine fw hns ?_;clear hns;intro o es ep q1 q2 _
    exact eZ o q1 (fun vs n q=>by rw[q2] at q;exfalso;injection q)
   ·intro hb;refine eY (av.mp hb) ?_;intro p hp eo;subst eo
    obtain⟨c,hc⟩:=bn.mp (ye fd.scope.names (s.heap.objs.size+1) [] (x:=p.1) (by
     refine eW (xq _ _ _ (show (p.1,p.2)∈_ from hp)) ?_ ?_
     ·intro h;exact .inl h
     ·intro h;cases h))
    have hpc:c=p.2:=by
     have hkeys:∀ (names:List (Str×NameKind)) (n:Nat) (acc:List (Str×Addr)),(names.map (·.1)).Nodup→(∀ q∈acc,q.1∉names.map (·.1))→(acc.map (·.1)).Nodup→((cellsFrom n names acc).map (·.1)).Nodup:=by
      intro names
      induction names with
      | nil=>intro n acc _ _ h;exact h
      | cons z r ih=>
        intro n acc hn ha hacc
        obtain⟨zn,zk⟩:=z
        refine ff (bH.mp hn) ?_;intro hz1 hz2
        unfold cellsFrom
        split
        ·refine ih _ _ hz2 (fun q hq=>?_) ?_
         ·refine eW (ae.mp hq) ?_ ?_
          ·rintro rfl;exact hz1
          ·intro hq;exact fun hm=>ha q hq (ag _ hm)
         ·rw [aS,bH]
          exact⟨fun hm=>by refine eY (av.mp hm) ?_;intro q hq e;exact ha q hq (by rw[e];exact ao),hacc⟩
        ·exact ih _ _ hz2 (fun q hq hm=>ha q hq (ag _ hm)) hacc
     have hk:=hkeys fd.scope.names (s.heap.objs.size+1) [] k4 (fun uA h=>nomatch h) (by simp)
     have e1:=(lookup_mem hk (x:=p.1) (k:=p.2)).mp hp
     rw[hc] at e1;cases e1;rfl
    subst hpc
    refine eY (ic.cell p.1 p.2 hc) ?_;intro o q1 q2
    exact eZ o q1 (fun vs n q=>by rw[q2] at q;exfalso;injection q)
  ·intro hb;refine eY (fm.stor b hb) ?_;intro o q1 q2
   exact eZ o (kept _ _ q1) q2
 ·refine eW (ae.mp hb) ?_ ?_
  ·rintro rfl;exact az _ ao
  ·intro hb;exact au _ (fm.frB b hb)
 ·refine eW (ae.mp hb) ?_ ?_
  ·rintro rfl;exact fh _ hns
  ·intro hb;refine fe (fm.frs b hb) ?_;intro m hm
   exact fh m (hm.keeps kept)
 ·have hvl:vals.length=vs.length:=rvs.length
  have hi:i < vs.length:=by
   refine eW (bk i vs.length) ?_ ?_
   ·intro h;exact h
   ·intro h;rw[aH (by simpa using h),List.getElem?_replicate] at h2
    split at h2 <;> cases h2
  rw[aJ (by simpa using hi),aR,aq hi] at h2
  injection h2 with eU;injection eU with eU;subst eU
  have hiv:i < vals.length:=by rw[hvl];exact hi
  have hy:=nget i y h1
  have hz:(y,vals[i])∈(names.take fn.arity).zip vals:=by
   have:((names.take fn.arity).zip vals)[i]?=some (y,vals[i]):=by
    rw[List.getElem?_zip_eq_some]
    refine⟨?_,aq hiv⟩
    rw[List.getElem?_take_of_lt (by rw[← hlen];exact hi)];exact hy
   exact ay this
  have hnd:(((names.take fn.arity).zip vals).map (·.1)).Nodup:=by
   have:((names.take fn.arity).zip vals).map (·.1)=names.take fn.arity:=by
    rw[List.map_fst_zip]
    rw[dK,hvl,hlen];exact Nat.min_le_left _ _
   rw[this];exact n1.sublist (List.take_sublist _ _)
  refine eZ (vals[i]) ?_ (((rvs.get i hiv hi).grow hM).keepAll kept)
  have how:=n4 y (ay hy)
  unfold ownOf at how
  simp only[bG,aQ] at how
  refine eW how ?_ ?_<;>clear how
  ·intro how;exact .inl ⟨how,_,hns,zb7 hnd hz how⟩
  ·intro how;refine fe (bn.mp (ye fd.scope.names (s.heap.objs.size+1) [] (.inl ((lookup_mem k4).mpr how)))) ?_;intro c hc
   refine .inr ⟨how,c,hc,?_⟩
   have:=ic.cell y c hc
   rwa [zje how hnd hz] at this
end
section
variable{G:Gl}{N N' β β':List Addr}{O':za}{h:Heap}{base:Nat}
theorem pre_take{β β':List Addr}(hp:β <+: β'):β=β'.take β.length:=by refine fe hp ?_;clear hp;intro t eg;subst eg;simp
theorem BR.short(br:BR G N' β' O' h)(hN:∀ a∈N,a∈N')(hp:β <+: β')(hl:β.length=base):BR G N β (O'.take base) h:=by
 have hle:β.length≤β'.length:=hp.length_le
 have hget:∀ {i:Nat} {a:Addr},β[i]?=some a→β'[i]?=some a:=fun e=>xk hp e
 refine⟨br.keep,by rw[dK,← br.len,hl];lia,br.nodup.sublist hp.sublist,fun a ha=>br.new a (hp.subset ha),fun i a bx h1 h2=>?_,fun a ha=>br.plain a (hp.subset ha)⟩
 have h2':O'[i]?=some bx:=by
  rw[List.getElem?_take] at h2
  split at h2
  ·exact h2
  ·exfalso;injection h2
 exact (br.at_ i a bx (hget h1) h2').less2 hN fun a ha=>hp.subset ha
theorem zey{n:Nat}{b:Addr}(br:BR G N' β' O' h)(hp:β <+: β')(hn:β.length≤n)(hb:β'[n]?=some b):b∉β:=fun hm=>by
 refine fe (bX hm) ?_;intro i hi
 have hi':=xk hp hi
 have hil:i < β.length:=(aA.mp hi).1
 have h1:i < β'.length:=(aA.mp hi').1
 have h2:n < β'.length:=(aA.mp hb).1
 rw[aq h1] at hi'
 rw[aq h2] at hb
 have:=(List.getElem_inj (h₀:=h1) (h₁:=h2) br.nodup).mp ((aP hi').trans (aP hb).symm)
 lia
theorem BR.shortB{n:Nat}{b:Addr}{xs:List PyData}(br:BR G N' β' O' h)(hN:∀ a∈N,a∈N')(hp:β <+: β')(hl:β.length=base)(hn:base≤n)(hb:β'[n]?=some b)(hx:O'[n]?=some (.lst xs)) :
 BR G N (β++[b]) (O'.take base++[.lst xs]) h∧(∀ a∈β++[b],a∈β'):=by
 have s:=br.short (base:=base) hN hp hl
 have hbm:b∈β':=ay hb
 have sub:∀ a∈β++[b],a∈β':=fun a ha=>(ai.mp ha).elim (fun h=>hp.subset h) fun h=>by rw[ac.mp h];exact hbm
 have hbβ:b∉β:=zey br hp (by rw[hl];exact hn) hb
 refine⟨⟨br.keep,by simp[s.len],?_,fun a ha=>br.new a (sub a ha),fun i a bx h1 h2=>?_,fun a ha=>br.plain a (sub a ha)⟩,sub⟩
 ·rw[bM]
  exact⟨s.nodup,by simp,fun a ha c hc=>by rw[ac.mp hc];exact fun e=>hbβ (e ▸ ha)⟩
 ·refine eW (bk i β.length) ?_ ?_
  ·intro hi;rw[aJ hi] at h1
   rw[aJ (by rw[← s.len];exact hi),List.getElem?_take] at h2
   split at h2
   ·exact (br.at_ i a bx (xk hp h1) h2).less2 hN sub
   ·exfalso;injection h2
  ·intro hi;rw[aH hi] at h1
   rw[aH (by rw[← s.len];exact hi)] at h2
   have hi0:i - β.length=0:=by
    refine eW (Nat.eq_zero_or_pos (i - β.length)) ?_ ?_
    ·intro h;exact h
    ·intro h;rw[bc (show [b].length≤i - β.length from h)] at h1;exfalso;injection h1
   rw[hi0] at h1
   rw[← s.len,hi0] at h2
   injection h1 with eU;subst eU;injection h2 with eU;subst eU
   exact (br.at_ n b (.lst xs) hb hx).less2 hN sub
theorem zam{n:Nat}{b:Addr}{xs:List PyData}(br:BR G N' β' O' h)(hN:∀ a∈N,a∈N')(nb:∀ a∈N',a∉β')(hp:β <+: β')(hn:β.length≤n)(hb:β'[n]?=some b)(hx:O'[n]?=some (.lst xs)):VR G N β h (.ref b) (.d (.list xs)):=by
 obtain⟨o,vs,k,e1,e2,e3,as,e4,e5⟩:=br.at_ n b (.lst xs) hb hx
 exact⟨b::as,.list e1 e2 e3 e4,fun a ha=>(ae.mp ha).elim (fun e=>e ▸ ⟨zey br hp hn hb,fun hm=>nb b (hN b hm) (ay hb)⟩) fun ha=>⟨fun hm=>(e5 a ha).1 (hp.subset hm),fun hm=>(e5 a ha).2 (hN a hm)⟩⟩
theorem zin{O:za}{n:Nat}{x:PyData}(e:kq O n=some x):∃ xs,x=.list xs∧O[n]?=some (.lst xs):=by
 unfold kq at e
 cases ho:O[n]? with
 | none=>rw[ho] at e;exfalso;injection e
 | some bx=>
   rw[ho] at e
   cases bx with
   | lst xs=>injection e with eU;subst eU;exact eZ xs rfl rfl
   | dct kvs=>exfalso;injection e
set_option tactic.hygienic true in
theorem zrq(br:BR G N' β' O' h)(hN:∀ a∈N,a∈N')(nb:∀ a∈N',a∉β')(hp:β <+: β')(hl:β.length=base){vs:List Value}{its:List It}(r:ItsR N' β' h vs its):∀ {ds:List PyData},frz O' base its=some ds→∃ as,ReadsAll h vs ds as∧∀ a∈as,a∉β∧a∉N:=by
 induction r with
 | nil=>intro ds e;injection e with eU;subst eU;exact eZ [] .nil (fun uA h=>nomatch h)
 | b hb _ ih=>
   rename_i n a vs its _
   intro ds e
   have e:(if base≤n then (kq O' n).bind fun x=>(frz O' base its).map (x::·) else none)=some ds:=e
   by_cases hn:base≤n
   ·rw[af hn] at e
    refine eY (aW.mp e) ?_;intro x h1 e
    refine eY (aE.mp e) ?_;intro ds' h2 eo;subst eo
    refine eY (zin h1) ?_;intro xs eg hx;subst eg
    obtain⟨as,r,q⟩:=zam br hN nb hp (by rw[hl];exact hn) hb hx
    refine eY (ih h2) ?_;intro bs rs qs
    exact eZ (as++bs) (.cons r rs) (fun a ha=>(ai.mp ha).elim (q a) (qs a))
   ·rw[aj hn] at e;exfalso;injection e
 | x r q _ ih=>
   intro ds e
   refine eY (aE.mp e) ?_;intro ds' h2 eo;subst eo
   refine eY (ih h2) ?_;intro bs rs qs
   exact eZ (_++bs) (.cons r rs) (fun a ha=>(ai.mp ha).elim (fun ha=>⟨fun hm=>(q a ha).1 (hp.subset hm),fun hm=>(q a ha).2 (hN a hm)⟩) (qs a))
inductive zpu(G:Gl)(N β β':List Addr)(O'':za)(h:Heap)(val:Value)(v':V):Prop
 | mk (β'':List Addr) (q1:β <+: β'') (q2:∀ a∈β'',a∈β') (q3:BR G N β'' O'' h) (q4:VR G N β'' h val v')
theorem ziy{keep:Bool}{n:Nat}{b:Addr}{v':V}{O'':za}(br:BR G N' β' O' h)(hN:∀ a∈N,a∈N')(nb:∀ a∈N',a∉β')(hp:β <+: β')(hl:β.length=base)(hb:β'[n]?=some b)(hf:zaa base keep n O'=.ok v' O''):zpu G N β β' O'' h (.ref b) v':=by
 unfold zaa at hf
 by_cases hn:n < base
 ·rw[af hn] at hf
  injection hf with eU eV;subst eU eV
  refine⟨β,bz _,fun a ha=>hp.subset ha,br.short hN hp hl,b,?_,rfl⟩
  rw[pre_take hp,List.getElem?_take,af (by rw[hl];exact hn)];exact hb
 ·rw[aj hn] at hf
  cases hx:O'[n]? with
  | none=>rw[hx] at hf;exfalso;injection hf
  | some bx=>
    rw[hx] at hf
    cases bx with
    | dct kvs=>exfalso;injection hf
    | lst xs=>
      cases keep with
      | true=>
        injection hf with eU eV;subst eU eV
        refine ff (br.shortB hN hp hl (Nat.not_lt.mp hn) hb hx) ?_;intro b1 b2
        exact⟨β++[b],List.prefix_append _ _,b2,b1,b,by rw[← hl,aH (aL _),cr];rfl,rfl⟩
      | false=>
        injection hf with eU eV;subst eU eV
        exact⟨β,bz _,fun a ha=>hp.subset ha,br.short hN hp hl,zam br hN nb hp (by rw[hl];exact Nat.not_lt.mp hn) hb hx⟩
theorem zlf{keep:Bool}{val:Value}{v v':V}{O'':za}(br:BR G N' β' O' h)(hN:∀ a∈N,a∈N')(nb:∀ a∈N',a∉β')(hp:β <+: β')(hl:β.length=base)(rv:VR G N' β' h val v)(hf:fin base keep v O'=.ok v' O'') :
 zpu G N β β' O'' h val v':=by
 cases v with
 | d x=>
   injection hf with eU eV;subst eU eV
   obtain⟨as,r,q⟩:=rv
   exact⟨β,bz _,fun a ha=>hp.subset ha,br.short hN hp hl,as,r,fun a ha=>⟨fun hm=>(q a ha).1 (hp.subset hm),fun hm=>(q a ha).2 (hN a hm)⟩⟩
 | box n=>
   obtain⟨b,hb,rfl⟩:=rv
   exact ziy br hN nb hp hl hb hf
 | tm its=>
   obtain⟨a,o,vs,k,rfl,e1,e2,e3,e4⟩:=rv
   have hf:(match frz O' base its with
    | some ds=>.ok (.d (.tuple ds)) (O'.take base)
    | none=>.stuck)=R.ok v' O'':=hf
   cases hz:frz O' base its with
   | none=>rw[hz] at hf;exfalso;injection hf
   | some ds=>
     rw[hz] at hf
     injection hf with eU eV;subst eU eV
     refine eY (zrq br hN nb hp hl e4 hz) ?_;intro as r q
     exact⟨β,bz _,fun a ha=>hp.subset ha,br.short hN hp hl,as,.tuple e1 e2 e3 r,q⟩
end
section
variable{G:Gl}{J:Cx→List Stmt→CSs→Prop}{gval:Nat→Option PyData}{fname gname cname:Nat→Option Str}{T:Nat→Option Fn}{P:Pg}
theorem FrA.deeper{A:Around}{F:Fm}{fd:FuncData}{L a:Addr}{names:List (Option Str)}(fr:FrA A F)(k1:fd.scope.kind=.function):FrA (A.deeper (callEnvC fd L a)) (xe fd L a names F.B F.fr):=by
 refine eY fr ?_;clear fr;intro l h1 h2
 refine eZ _ (cG h1) (fun env he=>?_)
 refine eW (ae.mp he) ?_ ?_
 ·rintro rfl;exact⟨by show fd.scope.kind≠.module;rw[k1];decide,L,rfl,ao⟩
 ·intro he;obtain⟨h3,L',h4,h5⟩:=h2 env he
  exact⟨h3,L',h4,ag _ h5⟩
noncomputable def TopA(A:Around)(F:Fm):Prop:=(∃ outer,A.frames=some (F.env::outer))∧∃ L,F.env.frame=some L
noncomputable def BodyOk(G:Gl)(J:Cx→List Stmt→CSs→Prop)(A:Around)(fname gname cname:Nat→Option Str)(P:Pg):Prop:=
 ∀ (F:Fm) (cx:Cx) (c:CSs) (body:List Stmt) (s:Shared) (β:List Addr) (ρ:Loc) (O:za),cx.fname=fname→cx.gname=gname→cx.cname=cname→Fits F cx→FrA A F→TopA A F→(∀ x,ownOf cx.sc x=true→F.own x=true)→J cx body c→SR G F β ρ O s.heap →
  Does G F A s β (execs body F.env) (evSs P c ρ O) (yu G F)
theorem zlg{base:Nat}{keep:Bool}{O:za}:fin base keep (.d .none) O=.ok (.d .none) (O.take base):=rfl
theorem zdb{A:Around}{F:Fm}{fd:FuncData}{L a:Addr}{names:List (Option Str)}{B fr:List Addr}(frA:FrA A F):TopA (A.deeper (callEnvC fd L a)) (xe fd L a names B fr):=by
 refine eY frA ?_;clear frA;intro l h1 _
 exact⟨⟨l,cG h1⟩,L,rfl⟩
theorem zea{Fc F:Fm}{β β':List Addr}{ρ:Loc}{O O'':za}{S:Loc×za}{s s₁ s':Shared}{keep:Bool}{val:Value}{v res:V}(sr:SR G F β ρ O s.heap)(hWn:∀ b∈Fc.W,s.heap.get? b=none)(subB:∀ b∈F.B,b∈Fc.B)(ka:KeepsAll s s₁)
 (st:Step Fc.W β s₁ s' β') (srE:SR G Fc β' S.1 S.2 s'.heap) (rv:VR G Fc.B β' s'.heap val v) (hf:Mine.fin O.length keep v S.2=.ok res O''):∃ β'',Step F.W β s s' β''∧SR G F β'' ρ O'' s'.heap∧VR G F.B β'' s'.heap val res:=by
 obtain⟨β'',q1,q2,q3,q4⟩:=zlf srE.br subB srE.fm.notBox st.pre sr.br.len rv hf
 have st0:Step [] β s s' β':=((ka.step [] β).thenW st hWn)
 have st1:Step [] β s s' β'':=⟨st0.gens,st0.os,q1,fun b hb'=>st0.fresh b (q2 b hb'),st0.alive,st0.kept⟩
 exact fi β'' ⟨st1.gens,st1.os,st1.pre,st1.fresh,st1.alive,fun b o e hb' uA=>st1.kept b o e hb' dJ⟩ (sr.outer st1 q3 fun b hb' hm=>srE.fm.notBox b (subB b hb') (q2 b hm)) q4
inductive Callee(G:Gl)(F:Fm)(A':Around)(cx:Cx)(β:List Addr)(ρ:Loc)(O:za)(env:Env)(s s₁:Shared):Prop
 | mk (Fc:Fm) (hE:Fc.env=env) (ka:KeepsAll s s₁) (srC:SR G Fc β ρ O s₁.heap) (fit:Fits Fc cx) (fr:FrA A' Fc) (top:TopA A' Fc) (own:∀ x,ownOf cx.sc x=true→Fc.own x=true) (hWn:∀ b∈Fc.W,s.heap.get? b=none) (subB:∀ b∈F.B,b∈Fc.B)
set_option tactic.hygienic true in
theorem call_one(g:GOk G gval gname)(fns:zhw G J fname gname cname T){A:Around}{k:Nat}(ro:Room A (k+1)){call:Bool→Nat→List V→za→R za V}{hd:Bool}
 (hb:∀ env,BodyOk G J (A.deeper env) fname gname cname { P with call:=call,hd:=hd }):uc G A fname (fun f args O=>match T f with
   | some fn=>if args.length=fn.arity∧fn.arity≤fn.slots then evFn { P with call:=call,hd:=hd } fn args O else .stuck
   | none=>.stuck):=by
 intro F s β ρ O f x vals vs sr frA hf rvs
 refine ff (fns f x hf) ?_;intro dZ hfn;refine fE dZ ?_;clear dZ;intro a o eo;refine fe eo ?_;clear eo;intro fd fa
 cases hT:T f with
 | none=>exact eX a o fd fa (by dsimp only;rw[hT];trivial)
 | some fn=>
   refine fE (hfn fn hT) ?_;intro a o eo;refine fE eo ?_;clear eo;intro fd body eo;refine fe eo ?_;clear eo;intro names fo
   refine eX a o fd fo.at_ ?_
   dsimp only
   rw[hT]
   dsimp only
   split
   ·rename_i hlen
    obtain⟨p1,p2,p3,p4,p5,k1,k2,k3,k4,k5,n1,n2,n3,n4⟩:=qk fo.chk
    have hget:s.heap.get? a=some o:=sr.br.keep _ _ fo.at_.get
    have hnt:(names.take fn.arity).length=fn.arity:=by rw[dK];lia
    have hbind:bindArgs fd ⟨vals,[]⟩=pure ((names.take fn.arity).zip vals):=qo p1 p2 p3 p4 p5 (by rw[rvs.length,hnt];exact hlen.1) (n1.sublist (List.take_sublist _ _)) fo.defaults
    have hkind:∀ y∈(names.take fn.arity).zip vals,fd.scope.names.lookup y.1=some .local∨(fd.scope.names.lookup y.1=some .cell∧((cellsFrom (s.heap.objs.size+1) fd.scope.names []).lookup y.1).isSome=true):=fun y hy=>by
     have hy':y.1∈names:=List.mem_of_mem_take (List.of_mem_zip hy).1
     have how:=n4 y.1 hy'
     unfold ownOf at how
     simp only[bG,aQ] at how
     refine eW how ?_ ?_<;>clear how
     ·intro how;exact .inl how
     ·intro how;exact .inr ⟨how,ye _ _ _ (.inl ((lookup_mem k4).mpr how))⟩
    have enter:∀ (Q:Value→Shared→Prop) (E:Value→Shared→Prop),_→wpAny (model G.prog G.w) A (PySem.call (.ref a) vals) Q E s:=fun Q E h=>wpAny_call (codeAny_call_cells ro.room hget fo.at_.data (g.nolimit.keeps sr.br.keep) (Heap.CodeRec.keeps fo.code sr.br.keep) fo.body_ hbind fo.clos hkind h k3 k2 k1)
    have facts:∀ s₁,InCallC s (callEnvC fd s.heap.objs.size a).locals (bindL (callEnvC fd s.heap.objs.size a).kindOf ((names.take fn.arity).zip vals) fun uA=>none) (callEnvC fd s.heap.objs.size a).cells (bindC (callEnvC fd s.heap.objs.size a).kindOf ((names.take fn.arity).zip vals) fun uA=>none) s₁→Callee G F (A.deeper (callEnvC fd s.heap.objs.size a)) { names:=yo fn names,sc:=fd.scope,fname:=fname,gname:=gname,cname:=cname } β (vs.map some++List.replicate (fn.slots - fn.arity) none) O (callEnvC fd s.heap.objs.size a) s s₁:=fun s₁ ic=>by
     refine ff (zbb fo sr.br sr.fm.out rvs hlen.1 ic) ?_;intro srC ka
     refine⟨xe fd s.heap.objs.size a (yo fn names) F.B F.fr,rfl,ka,srC,⟨rfl,fun uA=>rfl,k1⟩,frA.deeper k1,zdb frA,fun uA h=>h,fun b hb'=>?_,fun b hb'=>au _ hb'⟩
     refine eW (ae.mp hb') ?_ ?_
     ·rintro rfl;exact ya s
     ·intro hb';refine eY (av.mp hb') ?_;intro p hp eo;subst eo
      exact bj (cq (ic.above p.1 p.2 hp))
    refine eY (id frA) ?_;intro l₀ hfr₀ _
    have hfr':(A.deeper (callEnvC fd s.heap.objs.size a)).frames=some (callEnvC fd s.heap.objs.size a::l₀):=cG hfr₀
    have hrun:=hb (callEnvC fd s.heap.objs.size a)
    unfold evFn
    cases he:evSs { P with call:=call,hd:=hd } fn.body (vs.map some++List.replicate (fn.slots - fn.arity) none) O with
    | stuck=>trivial
    | ok fl S=>
      cases fl with
      | ret v=>
        show DoesW G F s β _ ((Mine.fin O.length fn.keep v S.2).lift ρ) _
        cases hev:Mine.fin O.length fn.keep v S.2 with
        | stuck=>trivial
        | ok res O''=>
          intro Q E kk
          refine enter Q E fun s₁ ic=>?_
          obtain ⟨Fc,hE,ka,srC,fitC,frC,topC,own,hWn,subB⟩:=facts s₁ ic
          have db:=hrun Fc _ fn.body body s₁ β _ O rfl rfl rfl fitC frC topC own fo.js srC
          rw [he,hE] at db
          refine db _ _ fun s' β' fl' st srE rf=>?_
          refine eY rf ?_;clear rf;intro val eg rv;subst eg
          refine ft (zea sr hWn subB ka st srE rv hev) ?_;intro β'' a1 a2 a3
          exact kk s' β'' val a1 a2 a3
      | next=>
        intro Q E kk
        refine enter Q E fun s₁ ic=>?_
        obtain⟨Fc,hE,ka,srC,fitC,frC,topC,own,hWn,subB⟩:=facts s₁ ic
        have db:=hrun Fc _ fn.body body s₁ β _ O rfl rfl rfl fitC frC topC own fo.js srC
        rw[he,hE] at db
        refine db _ _ fun s' β' fl' st srE rf=>?_
        have rf:fl'=.next:=rf
        subst rf
        refine ft (zea (keep:=fn.keep) sr hWn subB ka st srE VR.none zlg) ?_;intro β'' a1 a2 a3
        exact kk s' β'' .none a1 a2 a3
   ·trivial
structure Like(A A':Around):Prop where
 depth:A'.depth=A.depth
 units:A'.units=A.units
 frames:A'.frames=A.frames
 guards:A'.guards=A.guards
theorem Like.refl(A:Around):Like A A:=⟨rfl,rfl,rfl,rfl⟩
theorem Room.like{A A':Around}{k:Nat}(r:Room A k)(l:Like A A'):Room A' k:=⟨by rw[l.depth];exact r.depth,by rw[l.units];exact r.units,by rw[l.guards];exact r.guards⟩
theorem zes(g:GOk G gval gname)(fns:zhw G J fname gname cname T)
 (body:∀ (A:Around) (call:Bool→Nat→List V→za→R za V) (hd:Bool),Room A 0→(hd=false→A.handled=none) →
   (∀ A' hd',Like A A'→(hd'=false→A'.handled=none)→uc G A' fname (call hd'))→BodyOk G J A fname gname cname { P with call:=call,hd:=hd }) :
 ∀ (k:Nat) (A:Around) (hd:Bool),Room A k→(hd=false→A.handled=none)→uc G A fname (zg P T k hd)
 | 0,A,hd,ro,hm=>fun F s β ρ O f x vals vs sr fr hf rvs=>let ⟨⟨a,o,fd,fa⟩,_⟩:=fns f x hf;⟨a,o,fd,fa,trivial⟩
 | k+1,A,hd,ro,hm=>by
   have:=call_one (P:=P) g fns ro (call:=zg P T k) (hd:=hd) fun env=>body _ _ _ ⟨by have:=(ro.deeper env).depth;lia,by have:=(ro.deeper env).units;lia,(ro.deeper env).guards⟩ hm
    fun A' hd' lk hm'=>zes g fns body k A' hd' ((ro.deeper env).like lk) hm'
   exact this
end
section
variable{G:Gl}{F:Fm}{A:Around}{s:Shared}{β:List Addr}{ρ:Loc}{O:za}{cx:Cx}{gval:Nat→Option PyData}{gname:Nat→Option Str}
theorem SR.setBox{n:Nat}{a:Addr}{bx:Box}{s':Shared}(sr:SR G F β ρ O s.heap)(hn:β[n]?=some a)(hs:Heap.SameBut a s.heap s'.heap)(hg:s'.gens=s.gens)(hos:s'.os=s.os)
 (hx:Step F.W β s s' β→BoxAt s'.heap F.B β a bx) (hp:Plain s'.heap a):Step F.W β s s' β∧SR G F β ρ (O.set n bx) s'.heap:=by
 have ha:a∈β:=ay hn
 have kp:∀ b o,b≠a→s.heap.get? b=some o→s'.heap.get? b=some o:=fun b o hb e=>(hs.2 b hb).trans e
 have st0:Step [] β s s' β:=⟨hg,hos,bz _,fun uA h=>.inl h,fun b o e=>by
  by_cases hb:b=a
  ·subst hb;refine eY hp ?_;clear hp;intro o' e' _;exact fh o' e'
  ·exact fh o (kp b o hb e),fun b o e hb uA=>⟨o,kp b o (fun h=>hb (h ▸ ha)) e,Kin.refl o⟩⟩
 have st:Step F.W β s s' β:=⟨st0.gens,st0.os,st0.pre,st0.fresh,st0.alive,fun b o e hb uA=>st0.kept b o e hb (by simp)⟩
 refine⟨st,sr.outer st0 ⟨fun c o e=>kp c o (fun h=>?_) (sr.br.keep c o e),by rw[bg];exact sr.br.len,sr.br.nodup,sr.br.new,fun i b bx' h1 h2=>?_,fun b hb=>?_⟩ sr.fm.notBox⟩
 ·subst h
  have:=sr.br.new c ha
  rw[e] at this;exfalso;injection this
 ·by_cases hi:n=i
  ·subst hi
   have hl:n < O.length:=by rw[← sr.br.len];exact (aA.mp hn).1
   rw[co hl] at h2
   injection h2 with eU;subst eU
   rw[hn] at h1;injection h1 with eU;subst eU
   exact hx st
  ·rw[bY hi] at h2
   have hne:b≠a:=fun e=>by
    subst e
    have e1:=(aA.mp hn)
    have e2:=(aA.mp h1)
    exact hi ((List.getElem_inj (h₀:=e1.1) (h₁:=e2.1) sr.br.nodup).mp (e1.2.trans e2.2.symm))
   have hb:=sr.br.at_ i b bx' h1 h2
   cases bx' with
   | lst xs=>
     obtain⟨o,vs,n,e1,e2,e3,as,e4,e5⟩:=hb
     exact⟨o,vs,n,kp _ _ hne e1,e2,e3,as,(zu sr.br sr.fm st e4 e5).1,e5⟩
   | dct kvs=>
     obtain⟨o,es,n,e1,e2,e3,e4,e5⟩:=hb
     refine⟨o,es,n,kp _ _ hne e1,e2,e3,e4,fun i e kv he hkv=>?_⟩
     obtain⟨hq,as,bs,r1,r2,q⟩:=e5 i e kv he hkv
     exact⟨hq,as,bs,(z8 sr.br sr.fm st r1 fun a ha=>q a (az _ ha)).1,(z8 sr.br sr.fm st r2 fun a ha=>q a (au _ ha)).1,q⟩
 ·by_cases hba:b=a
  ·subst hba;exact hp
  ·exact (sr.br.plain b hb).at fun o e=>kp b o hba e
theorem yx{h:Heap}{N:List Addr}{a:Addr}{xs:List PyData}(hp:Plain h a)(hl:ListAt h N β a xs):∃ vs as,h.PlainList a vs∧ReadsAll h vs.toList xs as∧∀ b∈as,b∉β∧b∉N:=by
 obtain⟨o,vs,n,e1,e2,e3,as,e4,e5⟩:=hl
 refine ft hp ?_;clear hp;intro o₉ g1 g2 g3
 rw[e1] at g1;injection g1 with eU;subst eU
 obtain⟨cl,di,da,sl⟩:=o
 simp only at e2 e3 g2 g3
 subst e2 e3 g2 g3
 exact fj vs as ⟨n,e1⟩ e4 e5
set_option tactic.hygienic true in
theorem zma{o e:Expr}{p q:Pos}{ra:R za V}{rb:za→R za V}(hm:x5 o p q=true)(hs:starEach [e] F.env=[(false,eval e F.env)])
 (h1:Does G F A s β (eval o F.env) (ra.lift ρ) (VRel G F)) (h2:∀ s' β' O',SR G F β' ρ O' s'.heap→Does G F A s' β' (eval e F.env) ((rb O').lift ρ) (VRel G F)) :
 Does G F A s β (eval (.Call (.Attribute o "append" p) [e] [] q) F.env) ((ra.bind fun v O=>if recv .append v O=true then (rb O).bind fun u O=>meth .append v [u] O else .stuck).lift ρ) (VRel G F):=by
 have hline:(p.endLine == q.line)=true:=(and2 hm).1
 have hbase:attributeBase o "append" F.env (eval o F.env)=eval o F.env:=by
  unfold x5 at hm
  have:=(and2 hm).2
  cases o <;> first | rfl | exact (am this).elim
 have htrees:backTo q (starEach [e] F.env)=[(false,eval e F.env)]:=by rw[hs];rfl
 refine DoesW.seqE (T₂:=fun ov Q E s₁=>∃ D its,ov=.ref D∧PlainL s₁.heap D its∧wpAny (model G.prog G.w) A (eval e F.env) (fun y s₂=>wpAny (model G.prog G.w) A (call (.builtin "list.append") [.ref D,y]) Q E s₂) E s₁)
  (fun Q E h=>wpAny_Call_append hbase (by rw[htrees];rfl) hline htrees h) h1 fun s' β' v d O' uA st sr rv=>?_
 split
 ·rename_i hr
  cases d with
  | box n=>
    have hr:qb O' n=true:=hr
    unfold qb at hr
    cases hx:O'[n]? with
    | none=>rw[hx] at hr;exfalso;injection hr
    | some bx=>
      rw[hx] at hr
      cases bx with
      | dct _=>exfalso;injection hr
      | lst xs=>
        obtain⟨a,hn,rfl⟩:=rv
        refine fk (yx (sr.br.plain a (ay hn)) (sr.br.at_ n a _ hn hx)) ?_;intro vs as hpl r1 q1
        refine fe hpl ?_;clear hpl;intro k0 e0
        refine DoesW.seqE (T₁:=tr G A (eval e F.env)) (T₂:=fun y Q E s₂=>wpAny (model G.prog G.w) A (call (.builtin "list.append") [.ref a,y]) Q E s₂) (fun Q E h=>⟨a,vs,rfl,⟨_,_,e0,rfl,rfl,rfl⟩,h⟩) (h2 s' β' O' sr) fun s₂ β₂ y u O₂ uA st₂ sr₂ ry=>?_
        have hn₂:=xk st₂.pre hn
        show DoesW _ _ _ _ _ (R.lift ρ (boxL (.box n) O₂ fun n xs=>oneD (fun x=>if xs.length < line then .ok (.d .none) (O₂.set n (.lst (xs++[x]))) else .stuck) [u])) _
        unfold boxL
        dsimp only
        cases hy:O₂[n]? with
        | none=>trivial
        | some bx₂=>
          cases bx₂ with
          | dct _=>trivial
          | lst ys=>
            cases u with
            | d x'=>
              show DoesW _ _ _ _ _ (R.lift ρ (if ys.length < line then R.ok (V.d .none) (O₂.set n (.lst (ys++[x']))) else .stuck)) _
              by_cases hlen:ys.length < line
              ·rw [af hlen]
               refine fk (yx (sr₂.br.plain a (ay hn₂)) (sr₂.br.at_ n a _ hn₂ hy)) ?_;intro ws bs hpl₂ r2 q2
               intro Q E k
               have hsz:ws.size≤sizeLine:=by rw [← aC,zd r2];exact ak (cq hlen) (by decide)
               refine wpAny_list_append_plain hpl₂ (fun h' hl' hs'=>?_) hsz
               refine fe hl' ?_;clear hl';intro k' e'
               obtain ⟨cs,r3,q3⟩:=ry
               have hb:Step F.W β₂ s₂ { s₂ with heap:=h' } β₂→BoxAt h' F.B β₂ a (.lst (ys++[x'])):=fun st₃=>by
                refine ⟨_,_,k',e',rfl,rfl,bs++(cs++[]),?_,fun b hb=>?_⟩
                ·rw [Array.toList_push]
                 exact yh (zu sr₂.br sr₂.fm st₃ r2 q2).1 (.cons (z8 sr₂.br sr₂.fm st₃ r3 q3).1 .nil)
                ·rw [be] at hb
                 exact (ai.mp hb).elim (q2 b) (q3 b)
               refine ff (SR.setBox (bx:=.lst (ys++[x'])) (s':={ s₂ with heap:=h' }) sr₂ hn₂ hs' rfl rfl hb ⟨_,e',rfl,rfl⟩) ?_;intro st₃ sr₃
               exact k _ β₂ .none st₃ sr₃ VR.none
              ·rw [aj hlen];trivial
            | _=>trivial
  | _=>exfalso;injection hr
 ·trivial
theorem zf6{v:Value}{b:Bool}(sr:SR G F β ρ O s.heap)(rv:VR G F.B β s.heap v (.d (.bool b))) :
 LeafD G F s β (tr G A (call (.type "int") [v])) (V.d (.int (if b then 1 else 0))) (FRel G F s):=by
 obtain⟨as,r,_⟩:=rv
 cases r
 exact LeafD.leaf sr fun Q E k=>call_int_bool (k _ _ (KeepsAll.toks s _) ⟨VR.int,fun uA h=>by injection h with eU;exfalso;injection eU⟩)
end
theorem R.bind_ok{σ α:Type}(r:R σ α):(r.bind fun v O=>R.ok v O)=r:=by cases r <;> rfl
section
variable{G:Gl}{F:Fm}{A:Around}{s:Shared}{β:List Addr}{ρ:Loc}{O:za}{cx:Cx}{gval:Nat→Option PyData}{gname:Nat→Option Str}{P:Pg}{K:V→za→R za V}
theorem LeafD.fin2{T:WT Value}{c:PyData}(hK:Fin2 K)(sr:SR G F β ρ O s.heap)(h:LeafD G F s β T (V.d c) (FRel G F s)):DoesW G F s β T ((K (.d c) O).lift ρ) (VRel G F):=by
 cases hK with
 | plain=>exact (h.does sr).weaken (fun uA uA h=>h) fun uA uA uA uA r=>r.1
 | box=>exact h.box sr
theorem dg{T:WT Value}{o:Option PyData}(hK:Fin2 K)(sr:SR G F β ρ O s.heap)(h:∀ c,o=some c→LeafD G F s β T (V.d c) (FRel G F s)):DoesW G F s β T (((opt (o.map V.d) O).bind K).lift ρ) (VRel G F):=by
 cases o with
 | none=>trivial
 | some c=>exact (h c rfl).fin2 hK sr
theorem zoy{elts:List Expr}{pos:Pos}{r:R za (List V)}(hK:Fin2 K)(hl:∀ vs O,r=.ok vs O→vs.length≤line)
 (h1:Does G F A s β (spliced (backTo pos (starEach elts F.env))) (r.lift ρ) (VRsl G F)) :
 Does G F A s β (eval (.List elts pos) F.env) (((r.bind fun vs O=>opt ((allD vs).map fun xs=>V.d (.list xs)) O).bind K).lift ρ) (VRel G F):=by
 rw[R.bind_assoc]
 refine DoesW.seqE (T₂:=fun vs Q E s₁=>vs.length≤sizeLine∧Q (.ref s₁.heap.objs.size) { s₁ with heap:=s₁.heap.push { cls:=.type "list",data:=.seq vs.toArray } }) (fun Q E h=>wpAny_List h) h1 fun s' β' vs ds O' e st sr rv=>?_
 have hz:vs.length≤sizeLine:=by rw[rv.length];exact ak (hl _ _ e) (by decide)
 have:((allD ds).map fun xs=>V.d (.list xs))=((allD ds).map PyData.list).map V.d:=by rw[Option.map_map];rfl
 rw[this]
 refine dg hK sr fun c hc=>?_
 cases hd:allD ds with
 | none=>rw[hd] at hc;exfalso;injection hc
 | some xs=>
   rw[hd] at hc;injection hc with eU;subst eU
   exact LeafD.leaf sr fun Q E q=>⟨hz,q _ _ (KeepsAll.push s' _ s'.toks) ⟨zda sr rv hd,fun uA uA=>⟨_,rfl,ya s',_,aF _ rfl,rfl,rfl⟩⟩⟩
theorem zsl{op:Bop}{o:Operator}{x y:Expr}{p:Pos}{ra:R za V}{rb:za→R za V}(hK:Fin2 K)(ho:zeu op o=true)
 (h1:Does G F A s β (eval x F.env) (ra.lift ρ) (VRel G F)) (h2:∀ s' β' O',SR G F β' ρ O' s'.heap→Does G F A s' β' (eval y F.env) ((rb O').lift ρ) (VRel G F)) :
 Does G F A s β (eval (.BinOp x o y p) F.env) (((ra.bind fun v O=>(rb O).bind fun u O=>opt (((look O v).bind fun x=>(look O u).bind fun y=>zb6 op x y).map V.d) O).bind K).lift ρ) (VRel G F):=by
 rw[R.bind_assoc]
 refine DoesW.seqE (T₂:=fun v Q E s₁=>wpAny (model G.prog G.w) A (eval y F.env) (fun u s₂=>wpAny (model G.prog G.w) A (binaryOp o v u) Q E s₂) E s₁) (fun Q E h=>wpAny_BinOp h) h1 fun s' β' v d O' uA st sr rv=>?_
 rw[R.bind_assoc]
 refine DoesW.seqE (T₂:=fun u=>tr G A (binaryOp o v u)) (fun Q E h=>h) (h2 s' β' O' sr) fun s₂ β₂ u d₂ O₂ uA st₂ sr₂ ru=>?_
 exact dg hK sr₂ fun c hc=>znz ho sr₂ (rv.step sr.br sr.fm st₂) ru hc
noncomputable def fvOf:Prim→Value
 | .isinst _ | .isexc _=>.builtin "isinstance"
 | .len | .lenset=>.builtin "len"
 | .all=>.builtin "all"
 | .any=>.builtin "any"
 | .sum=>.builtin "sum"
 | .sorted | .sortedset=>.builtin "sorted"
 | .list=>.type "list"
 | .tuple=>.type "tuple"
 | .min2 | .min=>.builtin "min"
 | .max=>.builtin "max"
 | .int=>.type "int"
 | .str=>.type "str"
theorem zlb(p:Prim):(wh p,fvOf p)∈bis:=by cases p <;> first | decide | exact (by decide:(("isinstance" : Str),Value.builtin "isinstance")∈bis)
theorem zoa(p:Prim):(∃ id,fvOf p=.builtin id)∨∃ T,fvOf p=.type T:=by cases p <;> first | exact .inl ⟨_,rfl⟩ | exact .inr ⟨_,rfl⟩
end
section
variable{G:Gl}{F:Fm}{A:Around}{s:Shared}{β:List Addr}{ρ:Loc}{O:za}{cx:Cx}{gval:Nat→Option PyData}{gname:Nat→Option Str}{P:Pg}{K:V→za→R za V}
theorem zni{p:Prim}{v:V}(hp:∀ c,p≠.isexc c):prim P p [v] O=opt (((look O v).bind fun x=>uh P p [x]).map V.d) O:=by
 have:prim P p [v] O=(match ([v].mapM (look O)).bind (uh P p) with | some y=>R.ok (V.d y) O | none=>.stuck):=by
  cases p <;> first | rfl | exact absurd rfl (hp _)
 rw[this]
 cases hl:look O v with
 | none=>simp[List.mapM_cons,hl,opt]
 | some x=>
   simp only[List.mapM_cons,List.mapM_nil,hl]
   show (match uh P p [x] with | some y=>R.ok (V.d y) O | none=>.stuck)=opt ((uh P p [x]).map V.d) O
   cases uh P p [x] <;> rfl
noncomputable def zar(G:Gl)(P:Pg):Prop:=∀ (A:Around) (F:Fm) (s:Shared) (β:List Addr) (ρ:Loc) (O:za) (v:Value) (d:V) (xs ys:List PyData) (k:Nat),Room A k→SR G F β ρ O s.heap→VR G F.B β s.heap v d→look O d=some (.list xs)→xs.length < 64→P.srt xs=some ys →
 LeafD G F s β (tr G A (call (.builtin "sorted") [v])) (V.d (.list ys)) (FRel G F s)
noncomputable def zmr(G:Gl)(P:Pg):Prop:=P.sets=true→∀ (A:Around) (F:Fm) (s:Shared) (β:List Addr) (ρ:Loc) (O:za) (v:Value) (xs:List PyData) (is:List Int) (k:Nat),Room A k→A.handled=none→SR G F β ρ O s.heap→VR G F.B β s.heap v (.d (.tuple xs))→Mine.intsOf xs=some is→small is=true →
 LeafD G F s β (fun Q E s=>wpAny (model G.prog G.w) A (call (.type "set") [v]) (fun S s₁=>wpAny (model G.prog G.w) A (call (.builtin "len") [S]) Q E s₁) E s) (V.d (.int (ww is).length)) (FRel G F s) ∧
 LeafD G F s β (fun Q E s=>wpAny (model G.prog G.w) A (call (.type "set") [v]) (fun S s₁=>wpAny (model G.prog G.w) A (call (.builtin "sorted") [S]) Q E s₁) E s) (V.d (.list ((ww is).map .int))) (FRel G F s)
noncomputable def zmt(G:Gl)(z:Str)(v:Value):Prop:=G.mg z=some v∨(G.mg z=none∧G.mb z=some v)
structure zhy(G:Gl)(P:Pg)(cname:Nat→Option Str):Prop where
 inst:∀ c z,cname c=some z→∃ cv,zmt G z cv∧∀ (A:Around) (s:Shared) (x:Nat) (b:Bool) (e:Addr) (oe:Obj) (Q:Value→Shared→Prop) (E:Value→Shared→Prop),P.sub x c=some b→(∀ b o,G.h₀.get? b=some o→s.heap.get? b=some o) →
  s.heap.get? e=some oe→oe.cls=G.cls x→oe.dict=none→(∃ fs,oe.data=.fields fs)→(∀ s',KeepsAll s s'→Q (.bool b) s')→wpAny (model G.prog G.w) A (call (.builtin "isinstance") [.ref e,cv]) Q E s
 matches_:∀ c z,cname c=some z→∃ cv,zmt G z cv∧∀ (A:Around) (s:Shared) (x:Nat) (b:Bool) (e:Addr) (oe:Obj) (Q:Bool→Shared→Prop) (E:Value→Shared→Prop),P.sub x c=some b→(∀ b o,G.h₀.get? b=some o→s.heap.get? b=some o) →
  s.heap.get? e=some oe→oe.cls=G.cls x→Q b s→wpAny (model G.prog G.w) A (excMatches (.ref e) cv) Q E s
 raise:∀ (c:Nat) (z:Str) (A:Around) (s:Shared) (env:Env) (x:Str) (y:Str) (np cpos pos yp:Pos) (yk:Nat) (Q:Flow→Shared→Prop) (E:Value→Shared→Prop),cname c=some z→c≠0→A.handled=none→(∀ b o,G.h₀.get? b=some o→s.heap.get? b=some o) →
  env.scope.kind=.function→env.globals=mainGlobals→env.kindOf z=some .globalImplicit→(z == ("__debug__" : Str))=false →
  (∀ h' tk e t oe,(∀ b o,s.heap.get? b=some o→h'.get? b=some o)→s.heap.get? e=none→h'.get? e=some oe→oe.cls=G.cls c→oe.dict=none→oe.data=.fields t→t[1]?=some .none→E (.ref e) { s with heap:=h',toks:=tk }) →
  wpAny (model G.prog G.w) A (exec (.Raise (some (.Call (.Name z np) [.Constant (.str y) yk yp] [] cpos)) none pos) env) Q E s
theorem qx{f:List PyData→Option PyData}{x y:PyData}(h:zd0 f x=some y):∃ xs,x=.list xs∧f xs=some y:=by
 cases x <;> first | (cases h;done) | skip
 exact eZ _ rfl h
theorem zq6{p:Prim}{v:Value}{d:V}{x y:PyData}{k:Nat}(hp:p.plain=true)(hh:p.calm=true∨A.handled=none)(so:zar G P)(ro:Room A k)(sr:SR G F β ρ O s.heap)(rv:VR G F.B β s.heap v d)(hx:look O d=some x)(e:zbi P p x=some y) :
 LeafD G F s β (tr G A (call (fvOf p) [v])) (V.d y) (FRel G F s):=by
 have hh':p.calm=false→A.handled=none:=fun h=>by
  refine eW hh ?_ ?_<;>clear hh
  ·intro hh;rw[h] at hh;exfalso;injection hh
  ·intro hh;exact hh
 cases p with
 | len=>
   cases x with
   | list xs=>refine ff (yy e) ?_;intro h1 eg;subst eg;exact zf5 sr rv hx h1
   | tuple xs=>
     refine ff (yy e) ?_;intro h1 eg;subst eg
     have:=yi hx (fun uA h=>by exfalso;injection h);subst this
     exact zd2 sr rv h1
   | _=>exfalso;injection e
 | all=>
   refine eY (qx e) ?_;intro xs eg e;subst eg
   refine eY (aE.mp e) ?_;intro bs hb eo;subst eo
   exact ztu (hh' rfl) sr rv hx hb
 | any=>
   refine eY (qx e) ?_;intro xs eg e;subst eg
   refine eY (aE.mp e) ?_;intro bs hb eo;subst eo
   exact ztt (hh' rfl) sr rv hx hb
 | sum=>
   refine eY (qx e) ?_;intro xs eg e;subst eg
   refine eY (aE.mp e) ?_;intro bs hb eo;subst eo
   exact l_sum (hh' rfl) sr rv hx hb
 | sorted=>
   refine eY (qx e) ?_;intro xs eg e;subst eg
   have e:(if xs.length < 64 then (P.srt xs).map PyData.list else none)=some y:=e
   by_cases hl:xs.length < 64
   ·rw[af hl] at e
    refine eY (aE.mp e) ?_;intro ys hs eo;subst eo
    exact so A F s β ρ O v d xs ys k ro sr rv hx hl hs
   ·rw[aj hl] at e;exfalso;injection e
 | list=>
   cases x with
   | list xs=>refine ff (yy e) ?_;intro h1 eg;subst eg;exact zkt sr rv hx rfl h1
   | tuple xs=>refine ff (yy e) ?_;intro h1 eg;subst eg;exact zkt sr rv hx rfl h1
   | _=>exfalso;injection e
 | tuple=>
   cases x with
   | list xs=>refine ff (yy e) ?_;intro h1 eg;subst eg;exact zcr sr rv hx h1
   | tuple xs=>
     injection e with eU;subst eU
     have:=yi hx (fun uA h=>by exfalso;injection h);subst this
     exact zay sr rv
   | _=>exfalso;injection e
 | int=>
   cases x with
   | bool b=>
     injection e with eU;subst eU
     have:=yi hx (fun uA h=>by exfalso;injection h);subst this
     exact zf6 sr rv
   | _=>exfalso;injection e
 | min=>exfalso;injection e
 | max=>exfalso;injection e
 | str=>exfalso;injection e
 | isinst _=>exfalso;injection hp
 | isexc _=>exfalso;injection hp
 | min2=>exfalso;injection hp
 | lenset=>exfalso;injection hp
 | sortedset=>exfalso;injection hp
set_option tactic.hygienic true in
theorem zow{p:Prim}{y:Expr}{ps q:Pos}{r:R za V}{k:Nat}(hK:Fin2 K)(hp:p.plain=true)(hh:p.calm=true∨A.handled=none)(so:zar G P)(ro:Room A k)(g:GOk G gval gname)(sr:SR G F β ρ O s.heap)(fit:Fits F cx)(hx:cx.isGlob (wh p)=true)
 (he:starEach [y] F.env=(false,eval y F.env)::starEach [] F.env) (h1:Does G F A s β (eval y F.env) (r.lift ρ) (VRel G F)) :
 Does G F A s β (eval (.Call (.Name (wh p) ps) [y] [] q) F.env) ((((r.bind fun v O=>R.ok [v] O).bind fun vs O=>prim P p vs O).bind K).lift ρ) (VRel G F):=by
 rw[R.bind_assoc]
 refine u4 (r:=r.bind fun v O=>R.ok [v] O) g sr fit hx (zlb p) (zoa p) he rfl (yz he h1 fun s' β' O' sr'=>xx sr') fun s' β' vals vs O' e st sr' rvs=>?_
 cases r with
 | stuck=>exfalso;injection e
 | ok v O₁=>
   cases (e)
   cases rvs with
   | cons rv rs=>cases rs with
     | nil=>
       rename_i val
       have hpr:=zni (P:=P) (v:=v) (O:=O') (p:=p) (fun c e=>by subst e;exfalso;injection hp)
       rw[hpr]
       refine dg hK sr' fun c hc=>?_
       cases hl:look O' v with
       | none=>rw[hl] at hc;exfalso;injection hc
       | some x=>rw[hl] at hc;exact zq6 hp hh so ro sr' rv hl (show zbi P p x=some c from hc)
theorem zl9{t:Ty}{y:Expr}{ps pz q:Pos}{r:R za V}(g:GOk G gval gname)(sr:SR G F β ρ O s.heap)(fit:Fits F cx)(hx:cx.isGlob "isinstance" = true)(hz:cx.isGlob (vi t)=true)
 (he:∀ rest,starEach (y::rest) F.env=(false,eval y F.env)::starEach rest F.env) (h1:Does G F A s β (eval y F.env) (r.lift ρ) (VRel G F)) :
 Does G F A s β (eval (.Call (.Name "isinstance" ps) [y,.Name (vi t) pz] [] q) F.env) (((r.bind fun v O=>R.ok [v] O).bind fun vs O=>prim P (.isinst t) vs O).lift ρ) (VRel G F):=by
 refine ff (g.bi _ (zlb (.isinst t))) ?_;intro b1 b2
 have e1:((r.bind fun v O=>R.ok [v] O).bind fun vs O=>prim P (.isinst t) vs O)=r.bind fun v O=>opt (((look O v).map fun x=>V.d (.bool (isTy t x)))) O:=by
  rw[R.bind_assoc]
  cases r with
  | ok v O₁=>
    show prim P (.isinst t) [v] O₁=opt (((look O₁ v).map fun x=>V.d (.bool (isTy t x)))) O₁
    unfold prim
    cases hl:look O₁ v with
    | none=>simp[List.mapM_cons,hl,opt]
    | some x=>simp[List.mapM_cons,hl,opt,uh,zbi]
  | _=>rfl
 rw[e1]
 have hne:starEach [Expr.Name (vi t) pz] F.env=(false,eval (.Name (vi t) pz) F.env)::starEach [] F.env:=rfl
 refine ff (g.bi _ (zp3 t)) ?_;intro c1 c2
 refine DoesW.seqE (T₂:=fun v Q E s₁=>wpAny (model G.prog G.w) A (eval (.Name (vi t) pz) F.env) (fun c s₂=>wpAny (model G.prog G.w) A (call (.builtin "isinstance") [v,c]) Q E s₂) E s₁)
  (fun Q E h=>Call_Name rfl (yl g sr fit hx b1 b2 (callWith_builtin1 (cN (aM h (fun v s₁ h₁=>cN (aM h₁ (fun c s₂ h₂=>spliced_none h₂) (fun uA uA x=>x)) hne) (fun uA uA x=>x)) (he _)) (he _) rfl))) h1 fun s' β' val v O' uA st sr' rv=>?_
 cases hl:look O' v with
 | none=>trivial
 | some x=>exact ((zku sr' rv hl).does sr').weaken (fun Q E h=>yl g sr' fit hz c1 c2 h) fun uA uA uA uA r=>r.1
end
structure Run(G:Gl)(A:Around)(P:Pg)(fname gname cname:Nat→Option Str):Prop where
 g:GOk G P.gval gname
 ro:Room A 0
 hm:P.hd=false→A.handled=none
 ck:∀ A' hd,Like A A'→(hd=false→A'.handled=none)→uc G A' fname (P.call hd)
 so:zar G P
 se:zmr G P
 cl:zhy G P cname
noncomputable def zj9:Expr→Bool
 | .Set _ _ _=>false
 | .Starred _ _=>false
 | .Slice _ _ _ _=>false
 | _=>true
noncomputable def PX(e:Expr):Prop:=zj9 e=true
theorem PX.star{e:Expr}(h:PX e){env:Env}{rest:List Expr}:starEach (e::rest) env=(false,eval e env)::starEach rest env:=by
 cases e <;> first | rfl | (exfalso;injection h)
theorem PX.set{e:Expr}(h:PX e):∀ l k p,e≠.Set l k p:=fun uA uA uA q=>by subst q;exfalso;injection h
theorem PX.slice{e:Expr}(h:PX e):∀ l u t p,e≠.Slice l u t p:=fun uA uA uA uA q=>by subst q;exfalso;injection h
theorem zjk(ra:R za V)(rb:za→R za V):tv (ra.bind fun v O=>(opt (truth v) O).bind (andK rb))=(tv ra).bind fun t O=>(match t with | true=>tv (rb O) | false=>R.ok false O):=by
 cases ra with
 | ok v O=>
   show tv ((opt (truth v) O).bind (andK rb))=(opt (truth v) O).bind _
   cases truth v with
   | none=>rfl
   | some b=>cases b <;> rfl
 | _=>rfl
theorem zpc(ra:R za V)(rb:za→R za V):tv (ra.bind fun v O=>(opt (truth v) O).bind (orK rb))=(tv ra).bind fun t O=>(match t with | true=>R.ok true O | false=>tv (rb O)):=by
 cases ra with
 | ok v O=>
   show tv ((opt (truth v) O).bind (orK rb))=(opt (truth v) O).bind _
   cases truth v with
   | none=>rfl
   | some b=>cases b <;> rfl
 | _=>rfl
theorem zhs(r:R za Bool):(r.bind fun t O=>(match t with | true=>R.ok true O | false=>R.ok false O))=r:=by
 cases r with
 | ok t O=>cases t <;> rfl
 | _=>rfl
section
variable{G:Gl}{F:Fm}{A:Around}{s:Shared}{β:List Addr}{ρ:Loc}{O:za}
end
noncomputable def CEs.len:CEs→Nat
 | .nil=>0
 | .cons _ es=>es.len+1
theorem zeb{P:Pg}{ρ:Loc}:∀ (es:CEs) (O:za) (vs:List V) (O':za),evEs P ρ es O=.ok vs O'→vs.length=es.len
 | .nil,O,vs,O',h=>by injection h with eU eV;subst eU eV;rfl
 | .cons e es,O,vs,O',h=>by
   unfold evEs at h
   cases he:evE P ρ e O with
   | stuck=>rw[he] at h;exfalso;injection h
   | ok v O₁=>
     rw[he] at h
     cases hes:evEs P ρ es O₁ with
     | stuck=>simp only[R.bind,hes] at h;exfalso;injection h
     | ok ws O₂=>
       simp only[R.bind,hes] at h
       injection h with eU eV;subst eU eV
       exact cK (· + 1) (zeb es O₁ ws _ hes)
set_option tactic.hygienic true in
theorem zjt{v:V}{O O':za}{src:Src}(h:srcV v O=.ok src O'):src.Has O':=by
 unfold srcV at h
 split at h
 ·rename_i x
  cases hi:items x with
  | none=>rw[hi] at h;exfalso;injection h
  | some xs=>rw[hi] at h;injection h with eU eV;subst eU eV;trivial
 ·split at h
  ·injection h with eU eV;subst eU eV;assumption
  ·exfalso;injection h
 ·exfalso;injection h
theorem qn{α β:Type}{r:R za α}{f:α→za→R za β}{b:β}{O:za}(h:r.bind f=.ok b O):∃ a O₁,r=.ok a O₁∧f a O₁=.ok b O:=by
 cases r with
 | ok a O₁=>exact fD a O₁ rfl h
 | _=>exfalso;injection h
section
variable{G:Gl}{F:Fm}{A:Around}{s:Shared}{β:List Addr}{ρ:Loc}{O:za}{cx:Cx}{gval:Nat→Option PyData}{gname:Nat→Option Str}{K:V→za→R za V}
set_option tactic.hygienic true in
theorem zel{y:Expr}{p q:Pos}{r:R za (Int×Int)}(hK:Fin2 K)(g:GOk G gval gname)(hh:A.handled=none)(sr:SR G F β ρ O s.heap)(fit:Fits F cx)(hx:cx.isGlob "list" = true)(he:starEach [y] F.env=(false,eval y F.env)::starEach [] F.env)
 (hs:∀ p O',r=.ok p O'→zb9 p) (h1:Does G F A s β (eval y F.env) (r.lift ρ) (RRel s)) :
 Does G F A s β (eval (.Call (.Name "list" p) [y] [] q) F.env) (((r.bind fun p O=>if (zi p.1 p.2).length≤line then R.ok (V.d (.list (zi p.1 p.2))) O else .stuck).bind K).lift ρ) (VRel G F):=by
 refine ff (g.bi ("list",.type "list") (by decide)) ?_;intro b1 b2
 rw[R.bind_assoc]
 refine DoesW.seqE (T₂:=fun v=>tr G A (call (.type "list") [v])) (fun Q E h=>Call_Name rfl (yl g sr fit hx b1 b2 (callWith_type1 (cN (aM h (fun v s₁ h₁=>spliced_none h₁) (fun uA uA x=>x)) he) he rfl))) h1 fun s' β' v d O' e st sr' rv=>?_
 refine fq rv ?_;clear rv;intro rr t u w eA hr;subst eA
 refine fz (hs _ _ e) ?_;intro p1 p2 p3 p4
 split
 ·rename_i hlen
  refine LeafD.fin2 (c:=.list (zi d.1 d.2)) hK sr' (LeafD.leaf sr' fun Q E k=>call_list_range (n:=(d.2 - d.1).toNat) hh hr (small_one (by lia) (by lia) (by lia) (by lia)) wg ?_ fun h' tk acc' c' hk hS hacc=>?_)
  ·have:(zi d.1 d.2).length=(d.2 - d.1).toNat:=by unfold zi;simp
   rw[this] at hlen
   exact ak hlen (by decide)
  ·have hra:∃ as,ReadsAll h' acc'.toList (zi d.1 d.2) as∧∀ a∈as,a∉β'∧a∉F.B:=by
    refine eZ [] ?_ (fun uA h=>nomatch h)
    refine ff hacc ?_;clear hacc;intro hsz hit
    have key:∀ (l:List Value) (xs:List PyData),l.length=xs.length→(∀ (i:Nat) (h:i < l.length) (h2:i < xs.length),∃ t n,l[i]=.int n t∧xs[i]=.int n)→ReadsAll h' l xs []:=by
     intro l
     induction l with
     | nil=>intro xs hl _;cases xs with
       | nil=>exact .nil
       | cons _ _=>exfalso;injection hl
     | cons v l ih=>
       intro xs hl hx
       cases xs with
       | nil=>exfalso;injection hl
       | cons x xs=>
         refine fy (hx 0 (by simp) (by simp)) ?_;intro t n e1 e2
         have e1:v=.int n t:=e1
         have e2:x=.int n:=e2
         subst e1;subst e2
         refine ReadsAll.cons (as:=[]) (bs:=[]) (.int n t) (ih xs (by simpa using hl) fun i h h2=>?_)
         exact hx (i+1) (by simpa using h) (by simpa using h2)
    refine key _ _ ?_ fun i h h2=>?_
    ·rw[aC,hsz];unfold zi;simp
    ·refine fe (hit i acc'.toList[i] (by rw[← aV];exact aq h)) ?_;intro t ht
     refine fD t _ ht ?_
     have hlen':(zi d.1 d.2).length=(d.2 - d.1).toNat:=by unfold zi;simp
     have e9:(zi d.1 d.2)[i]?=some (.int (d.1+i)):=by
      unfold zi
      rw[aR,List.getElem?_range (by rw[← hlen'];exact h2)];rfl
     rw[aq h2] at e9
     rw[aP e9,Int.mul_one]
   refine eY hra ?_;clear hra;intro as r1 q1
   exact k _ _ (xf hk) ⟨y5 hS rfl rfl r1 q1 sr'.size_new,fun uA uA=>⟨_,rfl,ya s',_,hS,rfl,rfl⟩⟩
 ·trivial
end
structure Here(G:Gl)(A:Around)(P:Pg)(F:Fm)(cx:Cx):Prop where
 run:Run G A P cx.fname cx.gname cx.cname
 fit:Fits F cx
 fr:FrA A F
structure zmu(G:Gl)(A:Around)(P:Pg)(F:Fm)(cx:Cx):Prop extends Here G A P F cx where
 top:TopA A F
 own:∀ x,ownOf cx.sc x=true→F.own x=true
structure JK(cx:Cx)(x:Expr)(c:CE):Prop where
 px:PX x
 d:∀ {G:Gl} {A:Around} {P:Pg} {F:Fm} {s:Shared} {β:List Addr} {ρ:Loc} {O:za} {K:V→za→R za V},Here G A P F cx→SR G F β ρ O s.heap→Fin2 K→Does G F A s β (eval x F.env) (((evE P ρ c O).bind K).lift ρ) (VRel G F)
structure JE(cx:Cx)(x:Expr)(c:CE):Prop where
 px:PX x
 d:∀ {G:Gl} {A:Around} {P:Pg} {F:Fm} {s:Shared} {β:List Addr} {ρ:Loc} {O:za},Here G A P F cx→SR G F β ρ O s.heap→Does G F A s β (eval x F.env) ((evE P ρ c O).lift ρ) (VRel G F)
structure JT(cx:Cx)(x:Expr)(c:CE):Prop where
 d:∀ {G:Gl} {A:Around} {P:Pg} {F:Fm} {s:Shared} {β:List Addr} {ρ:Loc} {O:za},Here G A P F cx→SR G F β ρ O s.heap→Does G F A s β (isTrue x F.env (eval x F.env)) ((tv (evE P ρ c O)).lift ρ) BRel
structure JEs(cx:Cx)(l:List Expr)(es:CEs):Prop where
 d:∀ {G:Gl} {A:Around} {P:Pg} {F:Fm} {s:Shared} {β:List Addr} {ρ:Loc} {O:za} {pos:Pos},Here G A P F cx→SR G F β ρ O s.heap→Does G F A s β (spliced (backTo pos (starEach l F.env))) ((evEs P ρ es O).lift ρ) (VRsl G F)
structure JIfs(cx:Cx)(l:List Expr)(es:CEs):Prop where
 d:∀ {G:Gl} {A:Around} {P:Pg} {F:Fm} {s:Shared} {β:List Addr} {ρ:Loc} {O:za},Here G A P F cx→SR G F β ρ O s.heap→Does G F A s β (y9 l F.env) ((jf P ρ es O).lift ρ) BRel
structure JI(cx:Cx)(x:Expr)(it:CI):Prop where
 px:PX x
 d:∀ {G:Gl} {A:Around} {P:Pg} {F:Fm} {s:Shared} {β:List Addr} {ρ:Loc} {O:za} {target:Expr},A.handled=none→Here G A P F cx→SR G F β ρ O s.heap→DoesW G F s β (zbp G A x F.env) ((evI P ρ it O).lift ρ) (IRel G F A target s)
 has:∀ {P:Pg} {ρ:Loc} {O O':za} {src:Src},evI P ρ it O=.ok src O'→src.Has O'
structure JR(cx:Cx)(x:Expr)(a b:CE):Prop where
 px:PX x
 d:∀ {G:Gl} {A:Around} {P:Pg} {F:Fm} {s:Shared} {β:List Addr} {ρ:Loc} {O:za},Here G A P F cx→SR G F β ρ O s.heap→Does G F A s β (eval x F.env) ((rng a b P ρ O).lift ρ) (RRel s)
structure JS(cx:Cx)(st:Stmt)(c:CS):Prop where
 d:∀ {G:Gl} {A:Around} {P:Pg} {F:Fm} {s:Shared} {β:List Addr} {ρ:Loc} {O:za},zmu G A P F cx→SR G F β ρ O s.heap→Does G F A s β (exec st F.env) (evS P c ρ O) (yu G F)
structure JSs(cx:Cx)(l:List Stmt)(c:CSs):Prop where
 d:∀ {G:Gl} {A:Around} {P:Pg} {F:Fm} {s:Shared} {β:List Addr} {ρ:Loc} {O:za},zmu G A P F cx→SR G F β ρ O s.heap→Does G F A s β (execs l F.env) (evSs P c ρ O) (yu G F)
section
variable{cx:Cx}{x y z u:Expr}{a b c:CE}{p q ps pz:Pos}
theorem JK.e(h:JK cx x c):JE cx x c:=⟨h.px,fun hr sr=>by have:=h.d hr sr .plain;rwa [R.bind_ok] at this⟩
theorem zn4(h:JK cx x c):JE cx x (.boxed c):=⟨h.px,fun hr sr=>h.d hr sr .box⟩
theorem zrb{k:Nat}:JE cx (.Constant .none k p) .none:=⟨rfl,fun {G A P F s β ρ O} hr sr=>Does.leaf sr fun Q E q=>wpAny_Constant_none (q _ _ (KeepsAll.refl s) VR.none)⟩
theorem zri{k:Nat}{v:Bool}:JE cx (.Constant (.bool v) k p) (.bool v):=⟨rfl,fun {G A P F s β ρ O} hr sr=>Does.leaf sr fun Q E q=>wpAny_Constant_bool (q _ _ (KeepsAll.refl s) VR.bool)⟩
theorem zt3{k:Nat}{v:Int}:JE cx (.Constant (.int v) k p) (.int v):=⟨rfl,fun {G A P F s β ρ O} hr sr=>Does.leaf sr fun Q E q=>wpAny_Constant_int (q _ _ (KeepsAll.toks s _) VR.int)⟩
theorem zty{k:Nat}{v:Str}:JE cx (.Constant (.str v) k p) (.str v):=⟨rfl,fun {G A P F s β ρ O} hr sr=>Does.leaf sr fun Q E q=>wpAny_Constant_str (q _ _ (KeepsAll.toks s _) VR.str)⟩
theorem zt1{i:Nat}{n:Str}(h:cx.isLoc i n=true):JE cx (.Name n p) (.loc i):=⟨rfl,fun hr sr=>zuo sr hr.fit h⟩
theorem zrf{k:Nat}{n:Str}(h:(cx.gname k == some n && cx.isGlob n)=true):JE cx (.Name n p) (.glob k):=⟨rfl,fun hr sr=>zse hr.run.g sr hr.fit (aQ.mp (and2 h).1) (and2 h).2⟩
theorem zkq{es:CEs}(hl:Nat.ble es.len 1000=true){P:Pg}{ρ:Loc}{O:za}(vs:List V)(O':za)(e:evEs P ρ es O=.ok vs O'):vs.length≤line:=by
 rw[zeb es O vs O' e];exact ak (dE hl) (by decide)
theorem ztx{l:List Expr}{es:CEs}{k:Nat}(h:JEs cx l es)(hl:Nat.ble es.len 1000=true):JE cx (.Tuple l k p) (.tup es):=⟨rfl,fun hr sr=>zuj (zkq hl) (h.d hr sr)⟩
theorem zq2{l:List Expr}{es:CEs}(h:JEs cx l es)(hl:Nat.ble es.len 1000=true):JK cx (.List l p) (.list es):=⟨rfl,fun hr sr k=>zoy k (zkq hl) (h.d hr sr)⟩
theorem zt0(h:JE cx x a):JE cx (.UnaryOp .USub x p) (.neg a):=⟨rfl,fun hr sr=>zun (h.d hr sr)⟩
theorem j_nt(h:JE cx x a):JE cx (.UnaryOp .Not x p) (.nt a):=⟨rfl,fun hr sr=>d_nt (h.d hr sr)⟩
theorem zrl(h1:JE cx x a)(h2:JE cx y b):JE cx (.BoolOp .And [x,y] p) (.and_ a b):=⟨rfl,fun {G A P F s β ρ O} hr sr=>zpr (rb:=fun O=>evE P ρ b O) (h1.d hr sr) fun s' β' O' sr'=>h2.d hr sr'⟩
theorem zrk{r:List Expr}(h1:JE cx x a)(h2:JE cx (.BoolOp .And (y::z::r) p) b):JE cx (.BoolOp .And (x::y::z::r) p) (.and_ a b):=⟨rfl,fun {G A P F s β ρ O} hr sr=>zpr (rb:=fun O=>evE P ρ b O) (h1.d hr sr) fun s' β' O' sr'=>h2.d hr sr'⟩
theorem ztm{op:Bop}{o:Operator}(h1:JE cx x a)(h2:JE cx y b)(ho:zeu op o=true):JK cx (.BinOp x o y p) (.bin op a b):=⟨rfl,fun {G A P F s β ρ O K} hr sr k=>zsl (rb:=fun O=>evE P ρ b O) k ho (h1.d hr sr) fun s' β' O' sr'=>h2.d hr sr'⟩
theorem zt5{op:Cop}{o:CmpOp}(h1:JE cx x a)(h2:JE cx y b)(ho:x4 op o=true):JE cx (.Compare x [o] [y] p) (.cmp op a b):=⟨rfl,fun {G A P F s β ρ O} hr sr=>zus (rb:=fun O=>evE P ρ b O) hr.run.ro ho h2.px.set (h1.d hr sr) fun s' β' O' sr'=>h2.d hr sr'⟩
theorem zn3{op1 op2:Cop}{o1 o2:CmpOp}(h1:JE cx x a)(h2:JE cx y b)(h3:JE cx z c)(ho:x4 op1 o1=true)(ho2:x4 op2 o2=true):JE cx (.Compare x [o1,o2] [y,z] p) (.chain op1 op2 a b c):=
 ⟨rfl,fun {G A P F s β ρ O} hr sr=>zo1 (rb:=fun O=>evE P ρ b O) (rc:=fun O=>evE P ρ c O) hr.run.ro ho ho2 h2.px.set h3.px.set (h1.d hr sr) (fun s' β' O' sr'=>h2.d hr sr') fun s' β' O' sr'=>h3.d hr sr'⟩
theorem zt2(h1:JT cx x a)(h2:JE cx y b)(h3:JE cx z c):JE cx (.IfExp x y z p) (.ite a b c):=
 ⟨rfl,fun {G A P F s β ρ O} hr sr=>zup (ra:=fun O=>evE P ρ b O) (rb:=fun O=>evE P ρ c O) (h1.d hr sr) (fun s' β' O' sr'=>h2.d hr sr') fun s' β' O' sr'=>h3.d hr sr'⟩
theorem zt4(h1:JE cx x a)(h2:JE cx y b):JE cx (.Subscript x y p) (.idx a b):=⟨rfl,fun {G A P F s β ρ O} hr sr=>zur (rb:=fun O=>evE P ρ b O) hr.run.ro h2.px.slice (h1.d hr sr) fun s' β' O' sr'=>h2.d hr sr'⟩
structure JP(cx:Cx)(o:Option Expr)(c:CE):Prop where
 d:∀ {G:Gl} {A:Around} {P:Pg} {F:Fm} {s:Shared} {β:List Addr} {ρ:Loc} {O:za},Here G A P F cx→SR G F β ρ O s.heap→Does G F A s β (evalPart o F.env) ((evE P ρ c O).lift ρ) (VRel G F)
theorem zqw:JP cx none .none:=⟨fun hr sr=>zek sr⟩
theorem zqv(h:JE cx x c):JP cx (some x) c:=⟨fun hr sr=>h.d hr sr⟩
theorem zn1{lo hi:Option Expr}(h1:JE cx x a)(h2:JP cx lo b)(h3:JP cx hi c):JE cx (.Subscript x (.Slice lo hi none ps) p) (.slice a b c):=
 ⟨rfl,fun {G A P F s β ρ O} hr sr=>zot (rl:=fun O=>evE P ρ b O) (rh:=fun O=>evE P ρ c O) (h1.d hr sr) (fun s' β' O' sr'=>h2.d hr sr') fun s' β' O' sr'=>h3.d hr sr'⟩
theorem zrj{k:Nat}{p' q':Pos}(h1:JE cx x a):JE cx (.Subscript x (.Slice none none (some (.UnaryOp .USub (.Constant (.int 1) k p') q')) ps) p) (.rev a):=
 ⟨rfl,fun {G A P F s β ρ O} hr sr=>zuk (h1.d hr sr)⟩
theorem Here.inner{G:Gl}{A:Around}{P:Pg}{F:Fm}{tgt:CT}{t:Expr}{scope:Scope}(hr:Here G A P F cx)(hk:F.env.scope.kind=.function)(h1:xa scope cx.sc=true)(C D:Addr):Here G A P (zh cx F tgt t scope C D) (cx.inner tgt t scope):=
 ⟨hr.run,dw hr.fit hk h1 C D,hr.fr⟩
theorem zkl{t:Expr}{fs:List Expr}{scope:Scope}{tgt:CT}{it:CI}{ifs:CEs}(hi:JI cx y it)(hf:JIfs (cx.inner tgt t scope) fs ifs)(hx:JE (cx.inner tgt t scope) x c)
 (hc:(xa scope cx.sc && xg (cx.inner tgt t scope).names && chkT (cx.inner tgt t scope) (ownOf scope) tgt t)=true):JK cx (.ListComp x [⟨t,y,fs,0⟩] scope p) (.comp c tgt it ifs):=
 ⟨rfl,fun {G A P F s β ρ O K} hr sr k=>by
   refine fg (and3 hc) ?_;intro h1 h2 h3
   show Does G F A s β _ (R.lift ρ ((if P.hd=true then .stuck else _:R za V).bind K)) _
   by_cases hd:P.hd=true
   ·rw[af hd];trivial
   rw[aj hd]
   have hh:=hr.run.hm (ba.mpr hd)
   exact zsi (r:=evI P ρ it O) (evT:=fun ρ O=>jf P ρ ifs O) (evX:=fun ρ O=>evE P ρ c O) hr.run.g hh hr.fit h1 h2 h3 hi.px.set (fun C D s' β' ρ' O' sr'=>hf.d (hr.inner sr.fm.kind h1 C D) sr') (fun C D s' β' ρ' O' sr'=>hx.d (hr.inner sr.fm.kind h1 C D) sr') sr (hi.d hh hr sr) (fun uA uA e=>hi.has e) k⟩
theorem zbf{P:Pg}{ρ:Loc}{O O':za}{pr:Int×Int}(h:rng a b P ρ O=.ok pr O'):zb9 pr:=by
 refine fy (qn h) ?_;intro v O₁ _ h
 refine fy (qn h) ?_;intro w O₂ _ h
 exact (zcn h).1
theorem ztb(h:JE cx y b)(hg:cx.isGlob "range" = true):JR cx (.Call (.Name "range" ps) [y] [] q) (.int 0) b:=⟨rfl,fun hr sr=>zl5 hr.run.g sr hr.fit hg rfl h.px.star (h.d hr sr)⟩
theorem zta(h1:JE cx x a)(h2:JE cx y b)(hg:cx.isGlob "range" = true):JR cx (.Call (.Name "range" ps) [x,y] [] q) a b:=⟨rfl,fun {G A P F s β ρ O} hr sr=>zl4 (rb:=fun O=>evE P ρ b O) hr.run.g sr hr.fit hg rfl h1.px.star h2.px.star (h1.d hr sr) fun s' β' O' sr'=>h2.d hr sr'⟩
theorem zn9(h:JR cx x a b):JI cx x (.range a b):=⟨h.px,fun hh hr sr=>zc2 hr.run.g hh (fun uA uA e=>zbf e) (h.d hr sr),fun e=>by refine fy (qn e) ?_;intro _ _ _ e;injection e with eU eV;subst eU eV;trivial⟩
theorem i_e(h:JE cx x a):JI cx x (.e a):=⟨h.px,fun hh hr sr=>zl8 hr.run.g hh (h.d hr sr),fun e=>by refine fy (qn e) ?_;intro _ _ _ e;exact zjt e⟩
theorem znv(h:JR cx y a b)(hg:cx.isGlob "list" = true):JK cx (.Call (.Name "list" ps) [y] [] q) (.listI (.range a b)):=
 ⟨rfl,fun {G A P F s β ρ O K} hr sr k=>by
   show Does G F A s β _ (R.lift ρ ((if P.hd=true then .stuck else _:R za V).bind K)) _
   by_cases hd:P.hd=true
   ·rw[af hd];trivial
   rw[aj hd]
   have e1:((evI P ρ (.range a b) O).bind fun src O=>if src.xs.length≤line then R.ok (V.d (.list src.xs)) O else .stuck)=(rng a b P ρ O).bind fun p O=>if (zi p.1 p.2).length≤line then R.ok (V.d (.list (zi p.1 p.2))) O else .stuck:=R.bind_assoc _ _ _
   rw[e1]
   exact zel k hr.run.g (hr.run.hm (ba.mpr hd)) sr hr.fit hg h.px.star (fun uA uA e=>zbf e) (h.d hr sr)⟩
theorem zrh{f:Nat}{n:Str}{l:List Expr}{es:CEs}(h:JEs cx (x::l) es)(hx:zj9 x=true)(hf:(cx.fname f == some n && cx.isGlob n)=true):JE cx (.Call (.Name n p) (x::l) [] q) (.call f es):=
 ⟨rfl,fun {G A P F s β ρ O} hr sr=>zsk (fname:=cx.fname) hr.run.g (hr.run.ck A P.hd (Like.refl A) hr.run.hm) hr.fr sr hr.fit (aQ.mp (and2 hf).1) (and2 hf).2 (PX.star hx) (h.d hr sr)⟩
theorem zqy{P:Pg}{ρ:Loc}{O:za}:evEs P ρ (.cons a .nil) O=(evE P ρ a O).bind fun v O=>R.ok [v] O:=rfl
theorem zo4{G:Gl}{A:Around}{P:Pg}{f g h:Nat→Option Str}{pr:Prim}(run:Run G A P f g h)(hd:¬(P.hd && !pr.calm)=true):pr.calm=true∨A.handled=none:=by
 cases hc:pr.calm with
 | true=>exact .inl rfl
 | false=>
   rw[hc] at hd
   exact .inr (run.hm (by cases hh:P.hd with | false=>rfl | true=>rw[hh] at hd;exact absurd rfl hd))
theorem znu{pr:Prim}{n:Str}(h:JE cx y a)(hp:(n == wh pr && pr.plain && cx.isGlob n)=true):JK cx (.Call (.Name n ps) [y] [] q) (.prim pr (.cons a .nil)):=
 ⟨rfl,fun {G A P F s β ρ O K} hr sr k=>by
   refine fg (and3 hp) ?_;intro h1 h2 h3
   have:=aQ.mp h1;subst this
   show Does G F A s β _ (R.lift ρ ((if (P.hd && !pr.calm)=true then .stuck else _:R za V).bind K)) _
   by_cases hd:(P.hd && !pr.calm)=true
   ·rw[af hd];trivial
   rw[aj hd]
   exact zow k h2 (zo4 hr.run hd) hr.run.so hr.run.ro hr.run.g sr hr.fit h3 h.px.star (h.d hr sr)⟩
theorem zkz{t:Ty}{n:Str}(h:JE cx y a)(hp:(n == vi t && cx.isGlob "isinstance" && cx.isGlob n)=true):JE cx (.Call (.Name "isinstance" ps) [y,.Name n pz] [] q) (.prim (.isinst t) (.cons a .nil)):=
 ⟨rfl,fun {G A P F s β ρ O} hr sr=>by
   refine fg (and3 hp) ?_;intro h1 h2 h3
   have:=aQ.mp h1;subst this
   have hd:(P.hd && !(Prim.isinst t).calm)=false:=by cases P.hd <;> rfl
   show Does G F A s β _ (R.lift ρ (if (P.hd && !(Prim.isinst t).calm)=true then .stuck else _:R za V)) _
   rw[hd,aj (by decide)]
   exact zl9 hr.run.g sr hr.fit h2 h3 (fun rest=>h.px.star) (h.d hr sr)⟩
theorem zk0(h1:JE cx x a)(h2:JE cx y b)(hm:x5 x p q=true):JE cx (.Call (.Attribute x "append" p) [y] [] q) (.meth .append a (.cons b .nil)):=
 ⟨rfl,fun {G A P F s β ρ O} hr sr=>by
   have e1:∀ (v:V) (O:za),((evEs P ρ (.cons b .nil) O).bind fun vs O=>meth .append v vs O)=(evE P ρ b O).bind fun u O=>meth .append v [u] O:=fun v O=>by
    rw[zqy,R.bind_assoc];cases evE P ρ b O <;> rfl
   have e2:evE P ρ (.meth .append a (.cons b .nil)) O=(evE P ρ a O).bind fun v O=>if recv .append v O=true then (evE P ρ b O).bind fun u O=>meth .append v [u] O else .stuck:=by
    show ((evE P ρ a O).bind fun v O=>if recv .append v O=true then (evEs P ρ (.cons b .nil) O).bind fun vs O=>meth .append v vs O else .stuck)=_
    simp only[e1]
   rw[e2]
   exact zma (rb:=fun O=>evE P ρ b O) hm h2.px.star (h1.d hr sr) fun s' β' O' sr'=>h2.d hr sr'⟩
theorem zrv:JEs cx [] .nil:=⟨fun hr sr=>xx sr⟩
theorem zod{l:List Expr}{es:CEs}(h1:JE cx x a)(h2:JEs cx l es):JEs cx (x::l) (.cons a es):=⟨fun {G A P F s β ρ O pos} hr sr=>yz (g:=fun O=>evEs P ρ es O) h1.px.star (h1.d hr sr) fun s' β' O' sr'=>h2.d hr sr'⟩
theorem zn7:JIfs cx [] .nil:=⟨fun hr sr=>zei sr⟩
theorem zk5{l:List Expr}{es:CEs}(h1:JT cx x a)(h2:JIfs cx l es):JIfs cx (x::l) (.cons a es):=⟨fun {G A P F s β ρ O} hr sr=>by
 have:=zc1 (rb:=fun O=>jf P ρ es O) (h1.d hr sr) fun s' β' O' sr'=>h2.d hr sr'
 unfold tv at this
 rw[R.bind_assoc] at this
 exact this⟩
noncomputable def zpd:Expr→Bool
 | .UnaryOp o _ _=>(match o with
    | .Not=>true
    | _=>false)
 | .BoolOp _ _ _=>true
 | .IfExp _ _ _ _=>true
 | .Compare _ _ _ _=>true
 | _=>false
theorem isTrue_plain{e:Expr}{env:Env}(h:zpd e=false):isTrue e env (eval e env)=(do let v ← eval e env;standAt e.pos;holding [v] (truthy v)):=by
 cases e with
 | UnaryOp o x p=>cases o <;> first | rfl | (exfalso;injection h)
 | BoolOp o l p=>exfalso;injection h
 | IfExp a b c p=>exfalso;injection h
 | Compare a b c p=>exfalso;injection h
 | _=>rfl
theorem zm6(h:JE cx x c)(ht:zpd x=false):JT cx x c:=⟨fun hr sr=>zm5 (isTrue_plain ht) (h.d hr sr)⟩
theorem zs0(h:JT cx x a):JT cx (.UnaryOp .Not x p) (.nt a):=⟨fun hr sr=>zs3 (h.d hr sr)⟩
theorem qz{G:Gl}{F:Fm}{A:Around}{s:Shared}{β:List Addr}{ρ:Loc}{t:Sem Bool}{r r':R za Bool}(e:r=r')(h:Does G F A s β t (r'.lift ρ) BRel):Does G F A s β t (r.lift ρ) BRel:=e ▸ h
theorem zm2(h1:JT cx x a)(h2:JT cx y b):JT cx (.BoolOp .And [x,y] p) (.and_ a b):=⟨fun {G A P F s β ρ O} hr sr=>
 qz (zjk (evE P ρ a O) fun O=>evE P ρ b O) (w6 (rb:=fun O=>tv (evE P ρ b O)) (h1.d hr sr) fun s' β' O' sr'=>
  qz (zhs (tv (evE P ρ b O'))).symm (w6 (rb:=fun O=>R.ok true O) (h2.d hr sr') fun s'' β'' O'' sr''=>zba (op:=.And) sr''))⟩
theorem zm1{r:List Expr}(h1:JT cx x a)(h2:JT cx (.BoolOp .And (y::z::r) p) b):JT cx (.BoolOp .And (x::y::z::r) p) (.and_ a b):=⟨fun {G A P F s β ρ O} hr sr=>
 qz (zjk (evE P ρ a O) fun O=>evE P ρ b O) (w6 (rb:=fun O=>tv (evE P ρ b O)) (h1.d hr sr) fun s' β' O' sr'=>h2.d hr sr')⟩
theorem zp5(h1:JT cx x a)(h2:JT cx y b):JT cx (.BoolOp .Or [x,y] p) (.or_ a b):=⟨fun {G A P F s β ρ O} hr sr=>
 qz (zpc (evE P ρ a O) fun O=>evE P ρ b O) (gg (rb:=fun O=>tv (evE P ρ b O)) (h1.d hr sr) fun s' β' O' sr'=>
  qz (zhs (tv (evE P ρ b O'))).symm (gg (rb:=fun O=>R.ok false O) (h2.d hr sr') fun s'' β'' O'' sr''=>zba (op:=.Or) sr''))⟩
theorem zp4{r:List Expr}(h1:JT cx x a)(h2:JT cx (.BoolOp .Or (y::z::r) p) b):JT cx (.BoolOp .Or (x::y::z::r) p) (.or_ a b):=⟨fun {G A P F s β ρ O} hr sr=>
 qz (zpc (evE P ρ a O) fun O=>evE P ρ b O) (gg (rb:=fun O=>tv (evE P ρ b O)) (h1.d hr sr) fun s' β' O' sr'=>h2.d hr sr')⟩
theorem zp6{op:Cop}{o:CmpOp}(h1:JE cx x a)(h2:JE cx y b)(ho:x4 op o=true):JT cx (.Compare x [o] [y] p) (.cmp op a b):=⟨fun {G A P F s β ρ O} hr sr=>zs4 (rb:=fun O=>evE P ρ b O) hr.run.ro ho h2.px.set (h1.d hr sr) fun s' β' O' sr'=>h2.d hr sr'⟩
theorem zjo{op1 op2:Cop}{o1 o2:CmpOp}(h1:JE cx x a)(h2:JE cx y b)(h3:JE cx z c)(ho:x4 op1 o1=true)(ho2:x4 op2 o2=true):JT cx (.Compare x [o1,o2] [y,z] p) (.chain op1 op2 a b c):=⟨fun {G A P F s β ρ O} hr sr=>
 zm7 (rb:=fun O=>evE P ρ b O) (rc:=fun O=>evE P ρ c O) hr.run.ro ho ho2 h2.px.set h3.px.set (h1.d hr sr) (fun s' β' O' sr'=>h2.d hr sr') fun s' β' O' sr'=>h3.d hr sr'⟩
end
section
variable{cx:Cx}{x y z u:Expr}{a b c:CE}{p q ps pz:Pos}
theorem zs6(h:JE cx x a):JS cx (.Return (some x) p) (.ret a):=⟨fun hr sr=>zul (h.d hr.toHere sr)⟩
noncomputable def noCompX:Expr→Bool
 | .ListComp _ _ _ _=>false
 | .SetComp _ _ _ _=>false
 | .DictComp _ _ _ _ _=>false
 | _=>true
theorem noCompX.swaps{e:Expr}(h:noCompX e=true)(t:Option Expr)(n:Nat)(env:Env):swapsWith e t n env=pure false:=
 zdd (fun uA uA uA uA q=>by subst q;exfalso;injection h) (fun uA uA uA uA q=>by subst q;exfalso;injection h) (fun uA uA uA uA uA q=>by subst q;exfalso;injection h) t n env
theorem zqn(h:JE cx x a)(hx:noCompX x=true):JS cx (.Expr x p) (.expr a):=⟨fun hr sr=>zsh sr.fm.kind (by unfold interactive;rw[sr.fm.kind];rfl) (noCompX.swaps hx _ _ _) (h.d hr.toHere sr)⟩
theorem zhi{h:Bool}{i:Nat}:(h && !(CT.name i).isName)=false:=by cases h <;> rfl
theorem zs9{n:Str}{i:Nat}(h:JE cx x a)(hx:(chkT cx (ownOf cx.sc) (.name i) (.Name n ps) && noCompX x)=true):JS cx (.Assign [.Name n ps] x p) (.asg (.name i) a):=⟨fun {G A P F s β ρ O} hr sr=>by
 refine ff (and2 hx) ?_;intro h1 h2
 show Does G F A s β _ (if (P.hd && !(CT.name i).isName)=true then .stuck else _:R (Loc×za) Fl) _
 rw[zhi,aj am]
 exact zae hr.fit hr.own h1 (noCompX.swaps h2 _ _ _) (h.d hr.toHere sr)⟩
noncomputable def unpX:Expr→Bool
 | .Name _ _=>true
 | .Subscript _ _ _=>true
 | .Call _ _ _ _=>true
 | _=>false
theorem zdc{l:List Expr}{k n:Nat}{ps:Pos}{x:Expr}{env:Env}(h:unpX x=true):swapsWithSole [.Tuple l k ps] x n env=pure false∧swappedStores [.Tuple l k ps] x env=pure none:=by
 cases x <;> first | exact⟨rfl,rfl⟩ | (exfalso;injection h)
theorem zqo{l:List Expr}{k:Nat}{t:CT}(h:JE cx x a)(hx:(chkT cx (ownOf cx.sc) t (.Tuple l k ps) && unpX x && !t.isName)=true):JS cx (.Assign [.Tuple l k ps] x p) (.asg t a):=⟨fun {G A P F s β ρ O} hr sr=>by
 refine fg (and3 hx) ?_;intro h1 h2 h3
 show Does G F A s β _ (if (P.hd && !t.isName)=true then .stuck else _:R (Loc×za) Fl) _
 rw[h3,Bool.and_true]
 by_cases hd:P.hd=true
 ·rw[af hd];trivial
 rw[aj hd]
 have e:=zdc (l:=l) (k:=k) (n:=p.line) (ps:=ps) (env:=F.env) h2
 exact zen (hr.run.hm (ba.mpr hd)) hr.fit hr.own h1 e.1 e.2 (h.d hr.toHere sr)⟩
theorem zml{n:Str}{i:Nat}{t:Expr}{fs:List Expr}{scope:Scope}{tgt:CT}{it:CI}{ifs:CEs}(hi:JI cx y it)(hf:JIfs (cx.inner tgt t scope) fs ifs)(hx:JE (cx.inner tgt t scope) x c)
 (hc:(xa scope cx.sc && xg (cx.inner tgt t scope).names && chkT (cx.inner tgt t scope) (ownOf scope) tgt t)=true) (hn:chkT cx (ownOf cx.sc) (.name i) (.Name n ps)=true)
 {G:Gl} {A:Around} {P:Pg} {F:Fm} {s:Shared} {β:List Addr} {ρ:Loc} {O:za} {K:V→za→R za V} (hr:zmu G A P F cx) (sr:SR G F β ρ O s.heap) (hK:Fin2 K) :
 Does G F A s β (exec (.Assign [.Name n ps] (.ListComp x [⟨t,y,fs,0⟩] scope q) p) F.env) ((((evE P ρ (.comp c tgt it ifs) O).bind K).lift ρ).bind (asgR (.name i))) (yu G F):=by
 obtain⟨b,hb⟩ : ∃ b,swapsWith (.ListComp x [⟨t,y,fs,0⟩] scope q) (some (.Name n ps)) p.line F.env=pure b:=⟨_,rfl⟩
 cases b with
 | false=>exact zae hr.fit hr.own hn hb ((zkl hi hf hx hc).d hr.toHere sr hK)
 | true=>
   refine fg (and3 hc) ?_;intro h1 h2 h3
   show Does G F A s β _ ((R.lift ρ ((if P.hd=true then .stuck else _:R za V).bind K)).bind _) _
   by_cases hd:P.hd=true
   ·rw[af hd];trivial
   rw[aj hd]
   have hh:=hr.run.hm (ba.mpr hd)
   exact zi5 (evT:=fun ρ O=>jf P ρ ifs O) (evX:=fun ρ O=>evE P ρ c O) hr.run.g hh hr.fit hr.own hn h1 h2 h3 hi.px.set (fun C D s' β' ρ' O' sr'=>hf.d (hr.toHere.inner sr.fm.kind h1 C D) sr') (fun C D s' β' ρ' O' sr'=>hx.d (hr.toHere.inner sr.fm.kind h1 C D) sr') sr (hi.d hh hr.toHere sr) (fun uA uA e=>hi.has e) hK hb
theorem zqp{n:Str}{i:Nat}{t:Expr}{fs:List Expr}{scope:Scope}{tgt:CT}{it:CI}{ifs:CEs}(hi:JI cx y it)(hf:JIfs (cx.inner tgt t scope) fs ifs)(hx:JE (cx.inner tgt t scope) x c)
 (hc:(xa scope cx.sc && xg (cx.inner tgt t scope).names && chkT (cx.inner tgt t scope) (ownOf scope) tgt t)=true) (hn:chkT cx (ownOf cx.sc) (.name i) (.Name n ps)=true) :
 JS cx (.Assign [.Name n ps] (.ListComp x [⟨t,y,fs,0⟩] scope q) p) (.asg (.name i) (.comp c tgt it ifs)):=⟨fun {G A P F s β ρ O} hr sr=>by
 have:=zml hi hf hx hc hn (p:=p) (q:=q) hr sr .plain
 rw[R.bind_ok] at this
 show Does G F A s β _ (if (P.hd && !(CT.name i).isName)=true then .stuck else _:R (Loc×za) Fl) _
 rw[zhi,aj am]
 exact this⟩
theorem zs7{l m:List Stmt}{d e:CSs}(h1:JT cx x a)(h2:JSs cx l d)(h3:JSs cx m e):JS cx (.If x l m p) (.ife a d e):=⟨fun {G A P F s β ρ O} hr sr=>
 zuq (ga:=fun ρ O=>evSs P d ρ O) (gb:=fun ρ O=>evSs P e ρ O) (h1.d hr.toHere sr) (fun s' β' ρ' O' sr'=>h2.d hr sr') fun s' β' ρ' O' sr'=>h3.d hr sr'⟩
theorem zs8{l:List Stmt}{d:CSs}{t:CT}{it:CI}(h1:JI cx x it)(h2:JSs cx l d)(hc:chkT cx (ownOf cx.sc) t y=true):JS cx (.For y x l [] p) (.for_ t it d):=⟨fun {G A P F s β ρ O} hr sr=>by
 show Does G F A s β _ (if P.hd=true then .stuck else _:R (Loc×za) Fl) _
 by_cases hd:P.hd=true
 ·rw[af hd];trivial
 rw[aj hd]
 have hh:=hr.run.hm (ba.mpr hd)
 exact zpq (evb:=fun ρ O=>evSs P d ρ O) hr.run.g hh hr.fit hr.own hc h1.px.set (fun s' β' ρ' O' sr'=>h2.d hr sr') sr (h1.d hh hr.toHere sr) fun uA uA e=>h1.has e⟩
theorem znf{l:List Stmt}{d:CSs}(h1:JT cx x a)(h2:JSs cx l d):JS cx (.While x l [] p) (.while_ a d):=⟨fun {G A P F s β ρ O} hr sr=>
 zos (ev:=fun ρ O=>evE P ρ a O) (evb:=fun ρ O=>evSs P d ρ O) (fun s' β' ρ' O' sr'=>h1.d hr.toHere sr') (fun s' β' ρ' O' sr'=>h2.d hr sr') sr⟩
theorem zqf:JSs cx [] .nil:=⟨fun hr sr=>zem sr⟩
theorem zg1{st:Stmt}{l:List Stmt}{d:CS}{e:CSs}(h1:JS cx st d)(h2:JSs cx l e):JSs cx (st::l) (.cons d e):=⟨fun {G A P F s β ρ O} hr sr=>
 zc3 (g:=fun ρ O=>evSs P e ρ O) (h1.d hr sr) fun s' β' ρ' O' sr'=>h2.d hr sr'⟩
end
theorem gi{G:Gl}{P:Pg}{fname gname cname:Nat→Option Str}(g:GOk G P.gval gname)(so:zar G P)(se:zmr G P)(cl:zhy G P cname)(A:Around)(call:Bool→Nat→List V→za→R za V)(hd:Bool)(ro:Room A 0)(hm:hd=false→A.handled=none)
 (ck:∀ A' hd',Like A A'→(hd'=false→A'.handled=none)→uc G A' fname (call hd')):BodyOk G JSs A fname gname cname { P with call:=call,hd:=hd }:=by
 intro F cx c body s β ρ O e1 e2 e3 fit fr top own hc sr
 subst e1;subst e2;subst e3
 exact hc.d ⟨⟨⟨g,ro,hm,ck,so,se,⟨cl.inst,cl.matches_,cl.raise⟩⟩,fit,fr⟩,top,own⟩ sr
section
variable{G:Gl}{fname gname cname:Nat→Option Str}{T:Nat→Option Fn}{P:Pg}
set_option tactic.hygienic true in
theorem go_top(g:GOk G P.gval gname)(fns:zhw G JSs fname gname cname T)(so:zar G P)(se:zmr G P)(cl:zhy G P cname){k:Nat}{A:Around}(ro:Room A (k+1))(hm:A.handled=none)(hfr:A.frames=some []){s:Shared}(hs:s.heap=G.h₀)
 {f:Nat} {x:Str} (hf:fname f=some x) {vals:List Value} {vs:List V} (rvs:VRs G [sysModules] [] s.heap vals vs) {d:PyData} {O'':za} (hev:zg P T (k+1) false f vs []=.ok (.d d) O'') {Q:Value→Shared→Prop} {E:Value→Shared→Prop}
 (kk:∀ s' val as,s'.gens=s.gens→s'.os=s.os→(∀ b o,s.heap.get? b=some o→s'.heap.get? b=some o)→Reads s'.heap val d as→Q val s') :
 ∀ a,G.mg x=some (.ref a)→wpAny (model G.prog G.w) A (call (.ref a) vals) Q E s:=by
 intro a₀ ha₀
 rw[zg] at hev
 cases hT:T f with
 | none=>rw[hT] at hev;exfalso;injection hev
 | some fn=>
   refine fE ((fns f x hf).2 fn hT) ?_;intro a o eo;refine fE eo ?_;clear eo;intro fd body eo;refine fe eo ?_;clear eo;intro names fo
   have haa:a=a₀:=by have:=fo.at_.name.symm.trans ha₀;cases this;rfl
   subst haa
   rw[hT] at hev
   dsimp only at hev
   split at hev
   ·rename_i hlen
    obtain⟨p1,p2,p3,p4,p5,k1,k2,k3,k4,k5,n1,n2,n3,n4⟩:=qk fo.chk
    have kp:∀ b o,G.h₀.get? b=some o→s.heap.get? b=some o:=by rw[hs];exact fun uA uA h=>h
    have br:BR G [sysModules] [] [] s.heap:=⟨kp,rfl,.nil,fun uA h=>(nomatch h),fun i a bx h=>by simp at h,fun uA h=>(nomatch h)⟩
    have ou:Out G [sysModules] [] [] s.heap:=⟨⟨fun a ha hs=>absurd (ac.mp ha) hs,ac.mpr rfl,fun h=>(nomatch h)⟩,fun uA uA h=>(nomatch h),fun a ha=>by
     obtain⟨o',es,n,e1,e2⟩:=br.sysAlive
     exact eZ o' (by rw[ac.mp ha];exact e1) (fun vs n q=>by rw[e2] at q;exfalso;injection q),fun uA h=>(nomatch h),fun uA h=>(nomatch h)⟩
    have hget:s.heap.get? a=some o:=kp _ _ fo.at_.get
    have hnt:(names.take fn.arity).length=fn.arity:=by rw[dK];lia
    have hbind:bindArgs fd ⟨vals,[]⟩=pure ((names.take fn.arity).zip vals):=qo p1 p2 p3 p4 p5 (by rw[rvs.length,hnt];exact hlen.1) (n1.sublist (List.take_sublist _ _)) fo.defaults
    have hkind:∀ y∈(names.take fn.arity).zip vals,fd.scope.names.lookup y.1=some .local∨(fd.scope.names.lookup y.1=some .cell∧((cellsFrom (s.heap.objs.size+1) fd.scope.names []).lookup y.1).isSome=true):=fun y hy=>by
     have hy':y.1∈names:=List.mem_of_mem_take (List.of_mem_zip hy).1
     have how:=n4 y.1 hy'
     unfold ownOf at how
     simp only[bG,aQ] at how
     refine eW how ?_ ?_<;>clear how
     ·intro how;exact .inl how
     ·intro how;exact .inr ⟨how,ye _ _ _ (.inl ((lookup_mem k4).mpr how))⟩
    refine wpAny_call (codeAny_call_cells ro.room hget fo.at_.data (g.nolimit.keeps kp) (Heap.CodeRec.keeps fo.code kp) fo.body_ hbind fo.clos hkind (fun s₁ ic=>?_) k3 k2 k1)
    refine ff (zbb fo br ou rvs hlen.1 ic) ?_;intro srC ka
    have fitC:Fits (xe fd s.heap.objs.size a (yo fn names) [sysModules] []) { names:=yo fn names,sc:=fd.scope,fname:=fname,gname:=gname,cname:=cname }:=⟨rfl,fun uA=>rfl,k1⟩
    have frC:FrA (A.deeper (callEnvC fd s.heap.objs.size a)) (xe fd s.heap.objs.size a (yo fn names) [sysModules] []):=⟨_,cG hfr,fun env he=>by
     have he':=ac.mp he
     subst he'
     exact⟨by show fd.scope.kind≠.module;rw[k1];decide,_,rfl,ao⟩⟩
    have topC:TopA (A.deeper (callEnvC fd s.heap.objs.size a)) (xe fd s.heap.objs.size a (yo fn names) [sysModules] []):=⟨⟨[],cG hfr⟩,_,rfl⟩
    have roD:=ro.deeper (callEnvC fd s.heap.objs.size a)
    have db:=gi g so se cl (A.deeper (callEnvC fd s.heap.objs.size a)) (zg P T k) false ⟨by have:=roD.depth;lia,by have:=roD.units;lia,roD.guards⟩ (fun uA=>hm) (fun A' hd' lk hm'=>zes g fns (gi g so se cl) k A' hd' (roD.like lk) hm')
     _ _ fn.body body s₁ [] _ [] rfl rfl rfl fitC frC topC (fun uA h=>h) fo.js srC
    unfold evFn at hev
    cases he:evSs { P with call:=zg P T k,hd:=false } fn.body (vs.map some++List.replicate (fn.slots - fn.arity) none) [] with
    | stuck=>rw[he] at hev;exfalso;injection hev
    | ok fl S=>
      rw[he] at hev db
      have fin:∀ (s':Shared) (β':List Addr) (val:Value) (v:V),Step (xe fd s.heap.objs.size a (yo fn names) [sysModules] []).W [] s₁ s' β'→SR G (xe fd s.heap.objs.size a (yo fn names) [sysModules] []) β' S.1 S.2 s'.heap →
       VR G (xe fd s.heap.objs.size a (yo fn names) [sysModules] []).B β' s'.heap val v→Mine.fin 0 fn.keep v S.2=.ok (.d d) O''→Q val s':=by
       intro s' β' val v st srE rv hf
       obtain⟨β'',q1,q2,q3,as,q4,q5⟩:=zlf srE.br (N:=[sysModules]) (fun a ha=>au _ ha) srE.fm.notBox st.pre rfl rv hf
       exact kk s' val as (st.gens.trans ka.gens) (st.os.trans ka.os) (by rw[hs];exact srE.br.keep) q4
      refine db _ _ fun s' β' fl' st srE rf=>?_
      cases fl with
      | ret v=>
        refine eY rf ?_;clear rf;intro val eg rv;subst eg
        exact fin s' β' val v st srE rv hev
      | next=>
        have rf:fl'=.next:=rf
        subst rf
        exact fin s' β' .none (.d .none) st srE VR.none hev
   ·exfalso;injection hev
end
noncomputable def zgi(p:Program)(fname:Nat→Option Str)(T:Nat→Option Fn)(slots:Nat→List Str)(at_:Nat→Nat)(f:Nat):Bool:=match fname f,T f,(recsOf p)[at_ f]? with
 | some x,some fn,some d=>d.name == x && zhr fn (slots f) d.params d.scope
 | _,_,_=>false
noncomputable def zas(p:Program)(fname gname cname:Nat→Option Str)(T:Nat→Option Fn)(slots:Nat→List Str)(at_:Nat→Nat):Prop:=
 ∀ f fn d,T f=some fn→(recsOf p)[at_ f]?=some d→JSs { names:=yo fn (slots f),sc:=d.scope,fname,gname,cname } d.body fn.body
set_option tactic.hygienic true in
theorem zrr{G:Gl}{p:Program}{loose:List Str}{mean:ExcName→Option Value}{fname gname cname:Nat→Option Str}{T:Nat→Option Fn}{slots:Nat→List Str}{at_:Nat→Nat}(t:Top p loose mean G.mg G.mb G.h₀)(n:Nat)(h0:∀ f,n≤f→fname f=none)
 (h:(List.range n).all (zgi p fname T slots at_)=true) (hb:zas p fname gname cname T slots at_):zhw G JSs fname gname cname T:=by
 intro f x hf
 have hn:f < n:=by
  refine eW (bk f n) ?_ ?_
  ·intro h;exact h
  ·intro h;rw[h0 f h] at hf;exfalso;injection hf
 have hh:=aI.mp h f (aZ.mpr hn)
 unfold zgi at hh
 rw[hf] at hh
 split at hh
 ·rename_i x' fn d e1 e2 e3
  injection e1 with eU;subst eU
  refine ff (and2 hh) ?_;intro q1 q2
  have hx:d.name=x:=aQ.mp q1
  refine fE (t.fn d (ay e3)) ?_;intro a o eo;refine fb eo ?_;clear eo;intro pm code doc h1 h2 h3 h4
  rw[hx] at h1
  exact⟨⟨a,o,_,h1,h2,h3⟩,fun fn' hfn'=>by
   rw[e2] at hfn';injection hfn' with eU;subst eU
   exact⟨a,o,_,_,slots f,⟨⟨h1,h2,h3⟩,h4,rfl,rfl,rfl,rfl,rfl,q2,hb f fn d e2 e3⟩⟩⟩
 ·exfalso;injection hh
noncomputable def zmi(K:W.Frag):Bool:=bis.all fun p=>W.nsIn K mainGlobals p.1 == some none && bootBuiltins p.1 == some p.2 && p.1 != "__name__"
theorem zbr{h:Heap}:∀ {is:List Int} {vs:List Value} {as:List Addr},ReadsAll h vs (is.map .int) as→as=[]
 | [],_,_,.nil=>rfl
 | _::_,_,_,.cons r rs=>by cases r;rw[zbr rs];rfl
theorem zfk{h:Heap}{is:List Int}{a:Addr}{rs:List Addr}{m:Str→Option Value}(hm:h.Ns sysModules m)(r:Reads h (.ref a) (.list (is.map .int)) rs):sysModules∉rs:=by
 cases r with
 | list h1 h2 h3 h4=>
   rw[zbr h4]
   intro hs
   have e:sysModules=a:=ac.mp hs
   refine fw hm ?_;clear hm;intro o es ep q1 q2 _
   rw[e,h1] at q1;injection q1 with eU;subst eU
   rw[h3] at q2;exfalso;injection q2
end Mine
end
section
namespace Mine
open PySem
section
variable{prog:Program}{w:World}{K:Type}[DecidableEq K]
structure ItemKind(prog:Program)(w:World)(K:Type)[DecidableEq K] where
 is:Heap→K→Value→Prop
 hash:K→Int
 draws:K→Nat
 room:Around→Prop
 dep:Nat
 inj:∀ {h:Heap} {v:Value} {x y:K},is h x v→is h y v→x=y
 keeps:∀ {h h':Heap} {k:K} {v:Value} {d:Addr} {o:Obj} {es ep},is h k v→h.get? d=some o→o.data=.dict es ep→Heap.SameBut d h h'→is h' k v
 pyHash:∀ {A:Around} {E:Value→Shared→Prop} {s:Shared} {k:K} {v:Value} {Q:Int→Shared→Prop},room A→is s.heap k v→Q (hash k) { s with toks:=s.toks+draws k }→wpAny (model prog w) A (PySem.pyHash v) Q E s
 eqBool:∀ {A:Around} {E:Value→Shared→Prop} {s:Shared} {x y:K} {u v:Value} {Q:Bool→Shared→Prop},room A→is s.heap x u→is s.heap y v→Q (decide (x=y)) s→wpAny (model prog w) A (PySem.eqBool u v) Q E s
 quiet:∀ {A:Around} {E:Value→Shared→Prop} {s:Shared} {k:K} {v:Value} {n:Nat} {Q:Bool→Shared→Prop},dep≤n→is s.heap k v→Q true s→wpAny (model prog w) A (eqIsQuiet n v) Q E s
inductive ItemsK(ik:ItemKind prog w K)(h:Heap):List K→List Value→Prop
 | nil:ItemsK ik h [] []
 | cons {k:K} {v:Value} {ks:List K} {vs:List Value}:ik.is h k v→ItemsK ik h ks vs→ItemsK ik h (k::ks) (v::vs)
noncomputable def IsTupK(ik:ItemKind prog w K)(h:Heap)(ks:List K)(a:Addr):Prop:=∃ o items n,h.get? a=some o∧o.cls=.type "tuple"∧o.data=.seq items n∧ItemsK ik h ks items.toList
variable{ik:ItemKind prog w K}
theorem ItemsK.inj{h:Heap}{x y:List K}{vs:List Value}(hx:ItemsK ik h x vs)(hy:ItemsK ik h y vs):x=y:=by
 induction hx generalizing y with
 | nil=>cases hy;rfl
 | cons h1 _ ih=>
   cases hy with
   | cons h2 t2=>rw[ik.inj h1 h2,ih t2]
theorem ItemsK.length{h:Heap}{x:List K}{vs:List Value}(hx:ItemsK ik h x vs):x.length=vs.length:=by
 induction hx with
 | nil=>rfl
 | cons _ _ ih=>simp[ih]
theorem ItemsK.keeps{h h':Heap}{x:List K}{vs:List Value}{d:Addr}{o:Obj}{es ep}(hx:ItemsK ik h x vs)(ho:h.get? d=some o)(hd:o.data=.dict es ep)(hs:Heap.SameBut d h h'):ItemsK ik h' x vs:=by
 induction hx with
 | nil=>exact .nil
 | cons h1 _ ih=>exact .cons (ik.keeps h1 ho hd hs) ih
theorem IsTupK.typeIs{s:Shared}{ks:List K}{a:Addr}(x:IsTupK ik s.heap ks a):s.TypeIs (.ref a) "tuple":=let ⟨o,_,_,ho,hc,_⟩:=x;⟨o,ho,hc⟩
theorem IsTupK.inj{h:Heap}{a:Addr}{x y:List K}(hx:IsTupK ik h x a)(hy:IsTupK ik h y a):x=y:=by
 refine fb hx ?_;clear hx;intro o items n ho _ hd hi
 refine fb hy ?_;clear hy;intro o' items' n' ho' _ hd' hi'
 obtain rfl:o=o':=aP (ho.symm.trans ho')
 rw[hd] at hd'
 injection hd' with h1 _
 subst h1
 exact hi.inj hi'
theorem IsTupK.keeps{h h':Heap}{ks:List K}{a d:Addr}{o:Obj}{es ep}(x:IsTupK ik h ks a)(ho:h.get? d=some o)(hd:o.data=.dict es ep)(hs:Heap.SameBut d h h'):IsTupK ik h' ks a:=by
 refine fb x ?_;clear x;intro o' items n ho' hc hd' hi
 have hne:a≠d:=by
  rintro rfl
  obtain rfl:o'=o:=aP (ho'.symm.trans ho)
  rw[hd] at hd';exact nomatch hd'
 exact fc o' items n ((hs.2 a hne).trans ho') hc hd' (hi.keeps ho hd hs)
variable(ik) in
noncomputable def zfc(ks:List K):Int:=reduceHash (Builtin.Tuple.tupleHashOf (ks.map ik.hash))
variable(ik) in
noncomputable def zcf(ks:List K):Nat:=(ks.map ik.draws).sum+1
variable{A:Around}{E:Value→Shared→Prop}{s:Shared}
theorem ziw{ks:List K}{a:Addr}{Q:Int→Shared→Prop}(hu:A.units < cLine)(hr:ik.room A.in1)(hk:IsTupK ik s.heap ks a)(h:Q (zfc ik ks) { s with toks:=s.toks+zcf ik ks }) :
 wpAny (model prog w) A (pyHash (.ref a)) Q E s:=by
 have hT:=hk.typeIs
 refine fb hk ?_;clear hk;intro o items n ho _ hd hi
 unfold pyHash
 unfold pyHashByItsType
 refine aa (wpAny_cRoomFor_or (.inr hu) ?_)
 refine aa (bZ hT F.slot_tuple_hash.lookup ?_)
 show wpAny _ _ (if (some (Value.builtin "tuple.__hash__") == some Value.none)=true then _ else _) Q E s
 rw[aj (by rw[beq_builtin_none];exact am)]
 refine aa (bZ hT F.slot_tuple_hash.lookup ?_)
 show wpAny _ _ (callSpecialIfBoundUnlessNone? (.ref a) "__hash__" _ >>= _) Q E s
 refine aa (wpAny_callSpecialIfBoundUnlessNone?_slot hT F.slot_tuple_hash (bq F.slot_tuple_hash hT F.entry_tuple_hash ?_ (F.args_tuple_hash_1 _)))
 show wpAny _ _ (Builtin.Tuple.tupleItemsOf (.ref a) >>= _) _ _ s
 refine aa (bK ho hd ?_)
 refine aa ?_
 rw[← ct]
 refine bD _
  (fun rest (b:Array Int) s'=>∃ done left,ks=done++left∧ItemsK ik s.heap left rest∧b.toList=done.map ik.hash∧s' = { s with toks:=s.toks+(done.map ik.draws).sum })
  _ ?_ ?_ _ _ ⟨[],ks,rfl,hi,rfl,rfl⟩
 ·rintro x rest b s' ⟨done,left,rfl,hl,hb,rfl⟩
  cases hl with
  | @cons k _ ks' _ h1 hl'=>
    refine aa (ik.pyHash (s:={ s with toks:=s.toks+(done.map ik.draws).sum }) hr h1 ?_)
    first
     | exact ab ⟨done++[k],ks',by simp,hl',by simp[hb],by simp[cS]⟩
     | exact aa (ab (ab ⟨done++[k],ks',by simp,hl',by simp[hb],by simp[cS]⟩))
 ·rintro b s' ⟨done,left,rfl,hl,hb,rfl⟩
  cases hl
  rw[be] at h
  show wpAny _ _ (retInt (Builtin.Tuple.tupleHashOf b.toList)) _ _ _
  rw[hb]
  refine wpAny_ret_mkInt ?_
  show wpAny _ _ (if (decide (-(2:Int) ^ 63≤Builtin.Tuple.tupleHashOf (done.map ik.hash)) && decide (Builtin.Tuple.tupleHashOf (done.map ik.hash) < 2 ^ 63))=true then _ else _) Q E _
  unfold zfc reduceHash at h
  unfold zcf at h
  by_cases hr:(decide (-(2:Int) ^ 63≤Builtin.Tuple.tupleHashOf (done.map ik.hash)) && decide (Builtin.Tuple.tupleHashOf (done.map ik.hash) < 2 ^ 63))=true
  ·rw[af hr]
   rw[af hr] at h
   exact ab (by simpa [cS] using h)
  ·rw[aj hr]
   rw[aj hr] at h
   exact aa (dL (ab (by simpa [cS] using h)))
theorem zll{x y:List K}{a b:Addr}{P:Fin→Shared→Prop}(hr:ik.room A)(hx:IsTupK ik s.heap x a)(hy:IsTupK ik s.heap y b)(h:P (.done (.ret (.bool (decide (x=y))))) s) :
 wpAny (model prog w) A (Builtin.«tuple.__eq__» ⟨[.ref a,.ref b],[]⟩) P E s:=by
 have hTb:=hy.typeIs
 refine fb hx ?_;clear hx;intro oa xs na hoa _ hda hia
 refine fb hy ?_;clear hy;intro ob ys nb hob _ hdb hib
 show wpAny _ _ (isInstance (.ref b) (.type "tuple") >>= _) _ _ s
 refine aa (cO hTb cw ?_)
 simp only[a0,aO,bo]
 refine aa (bK hoa hda ?_)
 refine aa (bK hob hdb ?_)
 refine aa ?_
 refine bD _
  (fun rest r s'=>r.1=none∧s'=s∧∃ x' y' xs' ys',rest=List.zip xs' ys'∧ItemsK ik s.heap x' xs'∧ItemsK ik s.heap y' ys'∧decide (x'=y')=decide (x=y)∧(xs'.length == ys'.length)=(xs.size == ys.size))
  _ ?_ ?_ _ _ ⟨rfl,rfl,x,y,xs.toList,ys.toList,rfl,hia,hib,rfl,by simp⟩
 ·rintro⟨u,v⟩ rest r s' ⟨hr',rfl,x',y',xs',ys',hz,hx',hy',hdec,hlen⟩
  cases hx' with
  | nil=>simp at hz
  | @cons k1 u' x'' xs'' h1 hx''=>
    cases hy' with
    | nil=>simp at hz
    | @cons k2 v' y'' ys'' h2 hy''=>
      simp only[List.zip_cons_cons,List.cons.injEq,Prod.mk.injEq] at hz
      refine ff hz ?_;clear hz;intro dZ eg;refine ff dZ ?_;clear dZ;intro dZ eg;subst dZ;subst eg;subst eg
      refine aa (ik.eqBool (x:=k1) (y:=k2) hr h1 h2 ?_)
      by_cases hk:k1=k2
      ·subst hk
       rw[aD rfl]
       simp only[a0,aO,bo]
       refine ab ⟨rfl,rfl,x'',y'',xs'',ys'',rfl,hx'',hy'',?_,by simpa using hlen⟩
       rw[← hdec]
       by_cases hxy:x''=y''
       ·simp[hxy]
       ·simp[hxy]
      ·rw[aN hk]
       simp only[Bool.not_false,cJ]
       have hf:decide (x=y)=false:=by rw[← hdec];simp[hk]
       rw[hf] at h
       exact aa (ab (ab (ab h)))
 ·rintro⟨r1,r2⟩ s' ⟨hr',rfl,x',y',xs',ys',hz,hx',hy',hdec,hlen⟩
  simp only at hr'
  subst hr'
  refine ab ?_
  have hfin:(xs.size == ys.size)=decide (x=y):=by
   rw[← hdec,← hlen]
   cases hx' with
   | nil=>
     cases hy' with
     | nil=>simp
     | cons _ _=>simp
   | cons _ _=>
     cases hy' with
     | nil=>simp
     | cons _ _=>simp at hz
  show P (.done (.ret (.bool (xs.size == ys.size)))) s'
  rw[hfin];exact h
theorem zoe{x y:List K}{a b:Addr}{Q:Bool→Shared→Prop}(hu:A.units < cLine)(hr:ik.room A.in1)(hx:IsTupK ik s.heap x a)(hy:IsTupK ik s.heap y b)(h:Q (decide (x=y)) s) :
 wpAny (model prog w) A (eqBool (.ref a) (.ref b)) Q E s:=by
 unfold eqBool
 try with_reducible refine aT ?_
 show wpAny _ _ (if (Value.ref a == Value.ref b)=true then _ else _) Q E s
 by_cases hab:(Value.ref a == Value.ref b)=true
 ·rw[af hab]
  have e:a=b:=by have:=eq_of_beq hab;injection this
  subst e
  obtain rfl:=hx.inj hy
  exact aa (dL (ab (by simpa using h)))
 ·rw[aj hab]
  exact aa (dF (op:=.Eq) hx.typeIs hy.typeIs F.slot_tuple_eq
   (bq F.slot_tuple_eq hx.typeIs F.entry_tuple_eq (zll hr hx hy ⟨_,rfl,(fun e=>nomatch e),bL h⟩) (F.args_tuple_eq_2 _ _)) hu)
theorem zfr{ks:List K}{a:Addr}{n:Nat}{Q:Bool→Shared→Prop}(hn:ik.dep+1≤n)(hk:IsTupK ik s.heap ks a)(h:Q true s):wpAny (model prog w) A (eqIsQuiet n (.ref a)) Q E s:=by
 obtain⟨n,rfl⟩ : ∃ n',n=n' + 1:=⟨n - 1,by lia⟩
 have hT:=hk.typeIs
 refine fb hk ?_;clear hk;intro o items _ ho _ hd hi
 unfold eqIsQuiet
 refine aa (bZ hT F.slot_tuple_eq.lookup ?_)
 show wpAny _ _ (isInstance (.ref a) (.type "tuple") >>= _) _ _ s
 refine aa (cO hT cw ?_)
 simp only[a0,aO,bo]
 refine aa (bF ho hd ?_)
 refine aa ?_
 show wpAny _ _ (forIn items _ _) _ _ s
 rw[← ct]
 refine bD _ (fun rest r s'=>r.1=none∧s'=s∧∃ ks',ItemsK ik s.heap ks' rest) _ ?_ ?_ _ _ ⟨rfl,rfl,ks,hi⟩
 ·rintro v rest r s' ⟨hr,rfl,ks',hall⟩
  cases hall with
  | cons h1 h2=>
    refine aa (ik.quiet (by exact Nat.le_of_lt_succ (by assumption)) h1 ?_)
    simp only[a0,aO,bo]
    exact ab ⟨rfl,rfl,_,h2⟩
 ·rintro⟨r1,r2⟩ s' ⟨hr,rfl,_⟩
  simp only at hr
  subst hr
  exact ab h
end
section
variable{prog:Program}{w:World}{K:Type}[DecidableEq K]
noncomputable def uz(ik:ItemKind prog w K):ItemKind prog w (List K) where
 is:=fun h ks v=>∃ a,v=.ref a∧IsTupK ik h ks a
 hash:=zfc ik
 draws:=zcf ik
 room:=fun A=>A.units < cLine∧ik.room A.in1
 dep:=ik.dep+1
 inj:=fun ⟨a,e,h1⟩ ⟨b,e',h2⟩=>by subst e;injection e' with eU;subst eU;exact h1.inj h2
 keeps:=fun ⟨a,e,h1⟩ ho hd hs=>⟨a,e,h1.keeps ho hd hs⟩
 pyHash:=fun ⟨hu,hr⟩ ⟨a,e,h1⟩ h=>by subst e;exact ziw hu hr h1 h
 eqBool:=fun ⟨hu,hr⟩ ⟨a,e,h1⟩ ⟨b,e',h2⟩ h=>by subst e;subst e';exact zoe hu hr h1 h2 h
 quiet:=fun hn ⟨a,e,h1⟩ h=>by subst e;exact zfr hn h1 h
noncomputable def q8:ItemKind prog w Int where
 is:=fun uA i v=>(intKind prog w).is i v=true
 hash:=(intKind prog w).hash
 draws:=fun uA=>1
 room:=fun uA=>True
 dep:=0
 inj:=fun h1 h2=>(intKind prog w).inj _ _ _ h1 h2
 keeps:=fun h uA uA uA=>h
 pyHash:=fun uA h1 h=>(intKind prog w).pyHash h1 h
 eqBool:=fun uA h1 h2 h=>(intKind prog w).eqBool h1 h2 h
 quiet:=fun uA h1 h=>by rw[eqIsQuiet_byValue _ ((intKind prog w).byValue _ _ h1)];exact ab h
noncomputable def IsPairK{K':Type}[DecidableEq K'](ik:ItemKind prog w K)(jk:ItemKind prog w K')(h:Heap)(k:K×K')(a:Addr):Prop:=∃ o x y n,h.get? a=some o∧o.cls=.type "tuple"∧o.data=.seq #[x,y] n∧ik.is h k.1 x∧jk.is h k.2 y
variable{K':Type}[DecidableEq K']{ik:ItemKind prog w K}{jk:ItemKind prog w K'}{A:Around}{E:Value→Shared→Prop}{s:Shared}
theorem IsPairK.typeIs{k:K×K'}{a:Addr}(x:IsPairK ik jk s.heap k a):s.TypeIs (.ref a) "tuple":=let ⟨o,_,_,_,ho,hc,_⟩:=x;⟨o,ho,hc⟩
theorem IsPairK.inj{h:Heap}{a:Addr}{x y:K×K'}(hx:IsPairK ik jk h x a)(hy:IsPairK ik jk h y a):x=y:=by
 refine fq hx ?_;clear hx;intro o u v n ho eB;refine fz eB ?_;clear eB;intro _ hd h1 h2
 refine fq hy ?_;clear hy;intro o' u' v' n' ho' eB;refine fz eB ?_;clear eB;intro _ hd' h1' h2'
 obtain rfl:o=o':=aP (ho.symm.trans ho')
 rw[hd] at hd'
 injection hd' with eU eV;injection eU with eU;injection eU with eU eV;subst eU;injection eV with eU eV;subst eU;cases eV;subst eV
 exact Prod.ext (ik.inj h1 h1') (jk.inj h2 h2')
theorem IsPairK.keeps{h h':Heap}{k:K×K'}{a d:Addr}{o:Obj}{es ep}(x:IsPairK ik jk h k a)(ho:h.get? d=some o)(hd:o.data=.dict es ep)(hs:Heap.SameBut d h h'):IsPairK ik jk h' k a:=by
 refine fq x ?_;clear x;intro o' u v n ho' eB;refine fz eB ?_;clear eB;intro hc hd' h1 h2
 have hne:a≠d:=by
  rintro rfl
  obtain rfl:o'=o:=aP (ho'.symm.trans ho)
  rw[hd] at hd';exact nomatch hd'
 exact⟨o',u,v,n,(hs.2 a hne).trans ho',hc,hd',ik.keeps h1 ho hd hs,jk.keeps h2 ho hd hs⟩
variable(ik jk) in
noncomputable def zft(k:K×K'):Int:=reduceHash (Builtin.Tuple.tupleHashOf [ik.hash k.1,jk.hash k.2])
variable(ik jk) in
noncomputable def zco(k:K×K'):Nat:=ik.draws k.1+jk.draws k.2+1
theorem zgf{k:K×K'}{a:Addr}{Q:Int→Shared→Prop}(hu:A.units < cLine)(hr:ik.room A.in1)(hr':jk.room A.in1)(hk:IsPairK ik jk s.heap k a)(h:Q (zft ik jk k) { s with toks:=s.toks+zco ik jk k }) :
 wpAny (model prog w) A (pyHash (.ref a)) Q E s:=by
 have hT:=hk.typeIs
 refine fq hk ?_;clear hk;intro o x y n ho eB;refine fz eB ?_;clear eB;intro _ hd h1 h2
 unfold pyHash
 unfold pyHashByItsType
 refine aa (wpAny_cRoomFor_or (.inr hu) ?_)
 refine aa (bZ hT F.slot_tuple_hash.lookup ?_)
 show wpAny _ _ (if (some (Value.builtin "tuple.__hash__") == some Value.none)=true then _ else _) Q E s
 rw[aj (by rw[beq_builtin_none];exact am)]
 refine aa (bZ hT F.slot_tuple_hash.lookup ?_)
 show wpAny _ _ (callSpecialIfBoundUnlessNone? (.ref a) "__hash__" _ >>= _) Q E s
 refine aa (wpAny_callSpecialIfBoundUnlessNone?_slot hT F.slot_tuple_hash (bq F.slot_tuple_hash hT F.entry_tuple_hash ?_ (F.args_tuple_hash_1 _)))
 show wpAny _ _ (Builtin.Tuple.tupleItemsOf (.ref a) >>= _) _ _ s
 refine aa (bK ho hd ?_)
 refine aa ?_
 rw[← ct]
 refine bD _
  (fun rest (b:Array Int) s'=>(rest=[x,y]∧b = #[]∧s'=s)∨(rest=[y]∧b = #[ik.hash k.1]∧s' = { s with toks:=s.toks+ik.draws k.1 }) ∨
    (rest=[]∧b = #[ik.hash k.1,jk.hash k.2]∧s' = { s with toks:=s.toks+ik.draws k.1+jk.draws k.2 }))
  _ ?_ ?_ _ _ (.inl ⟨rfl,rfl,rfl⟩)
 ·rintro v rest b s' (⟨hr1,rfl,rfl⟩ | ⟨hr1,rfl,rfl⟩ | ⟨hr1,_⟩)
  ·injection hr1 with eU eV;subst eU eV
   refine aa (ik.pyHash hr h1 ?_)
   first
    | exact ab (.inr (.inl ⟨rfl,rfl,rfl⟩))
    | exact aa (ab (ab (.inr (.inl ⟨rfl,rfl,rfl⟩))))
  ·injection hr1 with eU eV;subst eU eV
   refine aa (jk.pyHash (s:={ s with toks:=s.toks+ik.draws k.1 }) hr' h2 ?_)
   first
    | exact ab (.inr (.inr ⟨rfl,rfl,rfl⟩))
    | exact aa (ab (ab (.inr (.inr ⟨rfl,rfl,rfl⟩))))
  ·exfalso;injection hr1
 ·rintro b s' (⟨hr1,_⟩ | ⟨hr1,_⟩ | ⟨_,rfl,rfl⟩)
  ·exfalso;injection hr1
  ·exfalso;injection hr1
  ·show wpAny _ _ (retInt (Builtin.Tuple.tupleHashOf [ik.hash k.1,jk.hash k.2])) _ _ _
   refine wpAny_ret_mkInt ?_
   show wpAny _ _ (if (decide (-(2:Int) ^ 63≤Builtin.Tuple.tupleHashOf [ik.hash k.1,jk.hash k.2]) && decide (Builtin.Tuple.tupleHashOf [ik.hash k.1,jk.hash k.2] < 2 ^ 63))=true then _ else _) Q E _
   unfold zft reduceHash at h
   unfold zco at h
   by_cases hr:(decide (-(2:Int) ^ 63≤Builtin.Tuple.tupleHashOf [ik.hash k.1,jk.hash k.2]) && decide (Builtin.Tuple.tupleHashOf [ik.hash k.1,jk.hash k.2] < 2 ^ 63))=true
   ·rw[af hr]
    rw[af hr] at h
    exact ab (by simpa [cS] using h)
   ·rw[aj hr]
    rw[aj hr] at h
    exact aa (dL (ab (by simpa [cS] using h)))
theorem zlk{x y:K×K'}{a b:Addr}{P:Fin→Shared→Prop}(hr:ik.room A)(hr':jk.room A)(hx:IsPairK ik jk s.heap x a)(hy:IsPairK ik jk s.heap y b)(h:P (.done (.ret (.bool (decide (x=y))))) s) :
 wpAny (model prog w) A (Builtin.«tuple.__eq__» ⟨[.ref a,.ref b],[]⟩) P E s:=by
 have hTb:=hy.typeIs
 refine fq hx ?_;clear hx;intro oa u v na hoa eB;refine fz eB ?_;clear eB;intro _ hda i1 i2
 refine fq hy ?_;clear hy;intro ob u' v' nb hob eB;refine fz eB ?_;clear eB;intro _ hdb j1 j2
 show wpAny _ _ (isInstance (.ref b) (.type "tuple") >>= _) _ _ s
 refine aa (cO hTb cw ?_)
 simp only[a0,aO,bo]
 refine aa (bK hoa hda ?_)
 refine aa (bK hob hdb ?_)
 refine aa ?_
 refine bD _
  (fun rest r s'=>r.1=none∧s'=s∧(rest=[(u,u'),(v,v')]∨(rest=[(v,v')]∧x.1=y.1)∨(rest=[]∧x=y))) _ ?_ ?_ _ _ ⟨rfl,rfl,.inl rfl⟩
 ·rintro⟨p,q⟩ rest r s' ⟨hr1,rfl,hz | ⟨hz,e1⟩ | ⟨hz,_⟩⟩
  ·injection hz with eU eV;injection eU with eU eV;subst eU eV;subst eV
   refine aa (ik.eqBool (x:=x.1) (y:=y.1) hr i1 j1 ?_)
   by_cases hk:x.1=y.1
   ·rw[aD hk]
    simp only[a0,aO,bo]
    exact ab ⟨rfl,rfl,by simp[hk]⟩
   ·rw[aN hk]
    simp only[Bool.not_false,cJ]
    have hf:decide (x=y)=false:=aN fun e=>hk (by rw[e])
    rw[hf] at h
    exact aa (ab (ab (ab h)))
  ·injection hz with eU eV;injection eU with eU eV;subst eU eV;subst eV
   refine aa (jk.eqBool (x:=x.2) (y:=y.2) hr' i2 j2 ?_)
   by_cases hk:x.2=y.2
   ·rw[aD hk]
    simp only[a0,aO,bo]
    exact ab ⟨rfl,rfl,by simp[Prod.ext e1 hk]⟩
   ·rw[aN hk]
    simp only[Bool.not_false,cJ]
    have hf:decide (x=y)=false:=aN fun e=>hk (by rw[e])
    rw[hf] at h
    exact aa (ab (ab (ab h)))
  ·exfalso;injection hz
 ·rintro⟨r1,r2⟩ s' ⟨hr1,rfl,hz | ⟨hz,_⟩ | ⟨_,e⟩⟩
  ·exfalso;injection hz
  ·exfalso;injection hz
  ·simp only at hr1
   subst hr1
   refine ab ?_
   rw[aD e] at h
   exact h
theorem zlm{x y:K×K'}{a b:Addr}{Q:Bool→Shared→Prop}(hu:A.units < cLine)(hr:ik.room A.in1)(hr':jk.room A.in1)(hx:IsPairK ik jk s.heap x a)(hy:IsPairK ik jk s.heap y b)(h:Q (decide (x=y)) s) :
 wpAny (model prog w) A (eqBool (.ref a) (.ref b)) Q E s:=by
 unfold eqBool
 try with_reducible refine aT ?_
 show wpAny _ _ (if (Value.ref a == Value.ref b)=true then _ else _) Q E s
 by_cases hab:(Value.ref a == Value.ref b)=true
 ·rw[af hab]
  have e:a=b:=by have:=eq_of_beq hab;injection this
  subst e
  obtain rfl:=hx.inj hy
  exact aa (dL (ab (by simpa using h)))
 ·rw[aj hab]
  exact aa (dF (op:=.Eq) hx.typeIs hy.typeIs F.slot_tuple_eq
   (bq F.slot_tuple_eq hx.typeIs F.entry_tuple_eq (zlk hr hr' hx hy ⟨_,rfl,(fun e=>nomatch e),bL h⟩) (F.args_tuple_eq_2 _ _)) hu)
theorem zds{k:K×K'}{a:Addr}{n:Nat}{Q:Bool→Shared→Prop}(hn:ik.dep+1≤n)(hn':jk.dep+1≤n)(hk:IsPairK ik jk s.heap k a)(h:Q true s):wpAny (model prog w) A (eqIsQuiet n (.ref a)) Q E s:=by
 obtain⟨n,rfl⟩ : ∃ n',n=n' + 1:=⟨n - 1,by lia⟩
 have hT:=hk.typeIs
 refine fq hk ?_;clear hk;intro o x y _ ho eB;refine fz eB ?_;clear eB;intro _ hd h1 h2
 unfold eqIsQuiet
 refine aa (bZ hT F.slot_tuple_eq.lookup ?_)
 show wpAny _ _ (isInstance (.ref a) (.type "tuple") >>= _) _ _ s
 refine aa (cO hT cw ?_)
 simp only[a0,aO,bo]
 refine aa (bF ho hd ?_)
 refine aa ?_
 show wpAny _ _ (forIn #[x,y] _ _) _ _ s
 rw[← ct]
 refine bD _ (fun rest r s'=>r.1=none∧s'=s∧(rest=[x,y]∨rest=[y]∨rest=[])) _ ?_ ?_ _ _ ⟨rfl,rfl,.inl rfl⟩
 ·rintro v rest r s' ⟨hr,rfl,hz | hz | hz⟩
  ·injection hz with eU eV;subst eU eV
   refine aa (ik.quiet (by exact Nat.le_of_lt_succ (by assumption)) h1 ?_)
   simp only[a0,aO,bo]
   exact ab ⟨rfl,rfl,by simp⟩
  ·injection hz with eU eV;subst eU eV
   refine aa (jk.quiet (by exact Nat.le_of_lt_succ (by assumption)) h2 ?_)
   simp only[a0,aO,bo]
   exact ab ⟨rfl,rfl,by simp⟩
  ·exfalso;injection hz
 ·rintro⟨r1,r2⟩ s' ⟨hr,rfl,_⟩
  simp only at hr
  subst hr
  exact ab h
noncomputable def zka(ik:ItemKind prog w K)(jk:ItemKind prog w K')(hd:ik.dep≤7)(hd':jk.dep≤7):HeapKind prog w (K×K') where
 is:=IsPairK ik jk
 hash:=zft ik jk
 draws:=zco ik jk
 room:=fun A=>A.units < cLine∧ik.room A.in1∧jk.room A.in1
 inj:=fun hx hy=>hx.inj hy
 keeps:=fun x ho hd hs=>x.keeps ho hd hs
 pyHash:=fun hu hk h=>zgf hu.1 hu.2.1 hu.2.2 hk h
 eqBool:=fun hu hx hy h=>zlm hu.1 hu.2.1 hu.2.2 hx hy h
 quiet:=fun hk h=>zds (by exact Nat.lt_succ_of_le (by assumption)) (by exact Nat.lt_succ_of_le (by assumption)) hk h
noncomputable def yj(prog:Program)(w:World):HeapKind prog w (List (List Int)×Int):=zka (uz (uz q8)) q8 (show 2≤7 by decide) (show 0≤7 by decide)
end
end Mine
end
section
namespace Mine
open PySem PyProof.Rows
section
variable{prog:Program}{w:World}{h:Heap}
theorem int_is{v:Value}{i:Int}:(intKind prog w).is i v=true↔∃ t,v=.int i t:=by
 constructor
 ·intro e
  cases v with
  | int j t=>exact fh t (by have:=(intKind prog w).inj _ _ _ e (intKind_is _ _ j t);rw[this])
  | _=>exfalso;injection e
 ·rintro⟨t,rfl⟩;exact intKind_is _ _ _ _
theorem zbs:∀ {c:List Int} {vs:List Value} {as:List Addr},ReadsAll h vs (c.map .int) as→ItemsK (q8 (prog:=prog) (w:=w)) h c vs
 | [],_,_,.nil=>.nil
 | _::_,_,_,.cons r rs=>by cases r;exact .cons (int_is.mpr ⟨_,rfl⟩) (zbs rs)
theorem items_int:∀ {c:List Int} {vs:List Value},ItemsK (q8 (prog:=prog) (w:=w)) h c vs→ReadsAll h vs (c.map .int) []
 | _,_,.nil=>.nil
 | _,_,.cons r rs=>by refine fe (int_is.mp r) ?_;intro t eg;subst eg;exact ReadsAll.cons (as:=[]) (bs:=[]) (.int _ t) (items_int rs)
theorem za8:∀ {c:List (List Int)} {vs:List Value} {as:List Addr},ReadsAll h vs (c.map fun c=>.tuple (c.map .int)) as→ItemsK (uz (q8 (prog:=prog) (w:=w))) h c vs
 | [],_,_,.nil=>.nil
 | _::_,_,_,.cons r rs=>by
   cases r with
   | tuple h1 h2 h3 h4=>exact .cons ⟨_,rfl,_,_,_,h1,h2,h3,zbs h4⟩ (za8 rs)
theorem zbq:∀ {c:List (List Int)} {vs:List Value},ItemsK (uz (q8 (prog:=prog) (w:=w))) h c vs→ReadsAll h vs (c.map fun c=>.tuple (c.map .int)) []
 | _,_,.nil=>.nil
 | _,_,.cons r rs=>by
   refine eY r ?_;clear r;intro a eg eo;subst eg;refine fb eo ?_;clear eo;intro o its n h1 h2 h3 h4
   exact ReadsAll.cons (as:=[]) (bs:=[]) (.tuple h1 h2 h3 (items_int h4)) (zbq rs)
theorem u0{k:MKey}{v:Value}{as:List Addr}(r:Reads h v (p8 k) as):∃ a,v=.ref a∧(yj prog w).is h k a:=by
 cases r with
 | @tuple a o vs n xs bs h1 h2 h3 h4=>
   refine eZ a rfl ?_
   obtain⟨l⟩:=vs
   cases h4 with
   | cons r1 r2=>cases r2 with
     | cons r3 r4=>
       cases r4
       cases r1 with
       | tuple g1 g2 g3 g4=>
         cases r3 with
         | int i t=>exact⟨o,_,_,n,h1,h2,h3,⟨_,rfl,_,_,_,g1,g2,g3,za8 g4⟩,int_is.mpr ⟨t,rfl⟩⟩
theorem zf0{k:MKey}{a:Addr}(r:(yj prog w).is h k a):Reads h (.ref a) (p8 k) []:=by
 refine fq r ?_;clear r;intro o x y n h1 eB;refine fz eB ?_;clear eB;intro h2 h3 eo h5;refine eY eo ?_;clear eo;intro b eg eo;subst eg;refine fb eo ?_;clear eo;intro o' its n' g1 g2 g3 g4
 refine fe (int_is.mp h5) ?_;intro t eg;subst eg
 exact .tuple h1 h2 h3 (ReadsAll.cons (as:=[]) (bs:=[]) (.tuple g1 g2 g3 (zbq g4)) (ReadsAll.cons (as:=[]) (bs:=[]) (.int _ t) .nil))
theorem zik(k:MKey):(yj prog w).hash k=zpm k:=rfl
noncomputable def wz(h:Heap)(N β:List Addr)(xs:List (MKey×Addr×Value))(kvs:List (MKey×PyData)):Prop:=
 xs.length=kvs.length∧∀ (i:Nat) x kv,xs[i]?=some x→kvs[i]?=some kv→x.1=kv.1∧∃ bs,Reads h x.2.2 kv.2 bs∧∀ b∈bs,b∉β∧b∉N
theorem zc0{N β:List Addr}{d:Addr}{kvs:List (MKey×PyData)}(hp:Plain h d)(hd:DictAt h N β d kvs):∃ xs,h.DictOfH (yj prog w) d xs∧wz h N β xs kvs:=by
 obtain⟨o,es,n,h1,h2,h3,⟨h4,hn⟩,h5⟩:=hd
 refine ft hp ?_;clear hp;intro o' h1' hd' hs'
 rw[h1] at h1';injection h1' with eU;subst eU
 have key:∀ (es:List DictEntry) (kvs:List (MKey×PyData)),es.length=kvs.length→(∀ (i:Nat) e kv,es[i]?=some e→kvs[i]?=some kv→zhx h N β e kv) →
  ∃ xs,es=xs.map (entryOfKey (yj prog w))∧(∀ x∈xs,(yj prog w).is h x.1 x.2.1)∧xs.map (·.1)=kvs.map (·.1)∧wz h N β xs kvs:=by
  intro es
  induction es with
  | nil=>
    intro kvs hl _
    cases kvs with
    | nil=>exact⟨[],rfl,fun uA h=>(nomatch h),rfl,rfl,fun i x kv hx=>by simp at hx⟩
    | cons _ _=>exfalso;injection hl
  | cons e es ih=>
    intro kvs hl hE
    cases kvs with
    | nil=>exfalso;injection hl
    | cons kv kvs=>
      refine ft (ih kvs (by simpa using hl) fun i e' kv' he hk=>hE (i+1) e' kv' (by simpa using he) (by simpa using hk)) ?_;intro xs e1 e2 ez;refine fg ez ?_;clear ez;intro e3 e4 e5
      obtain⟨hq,as,bs,r1,r2,q⟩:=hE 0 e kv rfl rfl
      refine eY (u0 (prog:=prog) (w:=w) r1) ?_;intro a ha hk
      refine⟨(kv.1,a,e.val)::xs,?_,fun x hx=>?_,by simp[e3],by simp[e4],fun i x kv' hx hk'=>?_⟩
      ·rw[aS,← e1]
       congr 1
       obtain⟨eh,ek,ev⟩:=e
       dsimp only at ha hq
       subst ha;subst hq
       rfl
      ·refine eW (ae.mp hx) ?_ ?_
       ·rintro rfl;exact hk
       ·intro hx;exact e2 x hx
      ·cases i with
       | zero=>
         simp at hx hk'
         subst hx;subst hk'
         exact⟨rfl,bs,r2,fun b hb=>q b (au _ hb)⟩
       | succ i=>exact e5 i x kv' (by simpa using hx) (by simpa using hk')
 refine ft (key es.toList kvs (by simpa using h4) fun i e kv he hk=>h5 i e kv (by simpa using he) hk) ?_;intro xs e1 e2 ez;refine ff ez ?_;clear ez;intro e3 e4
 exact eZ xs ⟨o,es,n,h1,⟨h2,hd',hs'⟩,h3,e1,e2,by rw[e3];exact hn⟩ e4
theorem zor{N β:List Addr}{d:Addr}{xs:List (MKey×Addr×Value)}{kvs:List (MKey×PyData)}(hd:h.DictOfH (yj prog w) d xs)(hv:wz h N β xs kvs):DictAt h N β d kvs∧Plain h d:=by
 refine fF hd ?_;clear hd;intro o es n h1 eA h3 h4 eD;refine fg eA ?_;clear eA;intro h2 g1 g2;refine ff eD ?_;clear eD;intro h5 h6
 have hl:es.size=xs.length:=by rw[← aC,h4,aw]
 refine⟨⟨o,es,n,h1,h2,h3,⟨hl.trans hv.1,?_⟩,fun i e kv he hk=>?_⟩,o,h1,g1,g2⟩
 ·have:kvs.map (·.1)=xs.map (·.1):=by
   refine List.ext_getElem? fun i=>?_
   rw[aR,aR]
   cases hx:xs[i]? with
   | none=>
     have:kvs[i]?=none:=by rw[List.getElem?_eq_none_iff] at hx ⊢;rw[← hv.1];exact hx
     rw[this];rfl
   | some x=>
     have hi:=(aA.mp hx).1
     rw[hv.1] at hi
     have hk:kvs[i]?=some kvs[i]:=aq hi
     rw[hk]
     exact cK some ((hv.2 i x _ hx hk).1).symm
  rw[this];exact h6
 ·have he':es.toList[i]?=some e:=by simpa using he
  rw[h4,aR] at he'
  cases hx:xs[i]? with
  | none=>rw[hx] at he';exfalso;injection he'
  | some x=>
    rw[hx] at he'
    injection he' with eU;subst eU
    obtain⟨e1,bs,r,q⟩:=hv.2 i x kv hx hk
    obtain⟨kk,dd⟩:=kv
    have e1:x.1=kk:=e1
    subst e1
    exact⟨zik _,[],bs,zf0 (h5 x (ay hx)),r,fun b hb=>q b (by simpa using hb)⟩
theorem qp{N β:List Addr}{k:MKey}:∀ {xs:List (MKey×Addr×Value)} {kvs:List (MKey×PyData)},wz h N β xs kvs→(atKey xs k=none∧z5 kvs k=none)∨∃ p d bs,atKey xs k=some p∧z5 kvs k=some d∧Reads h p.2 d bs∧∀ b∈bs,b∉β∧b∉N
 | [],[],_=>.inl ⟨rfl,rfl⟩
 | [],_::_,hv=>by cases hv.1
 | _::_,[],hv=>by cases hv.1
 | x::xs,kv::kvs,hv=>by
   obtain⟨e,bs,r,q⟩:=hv.2 0 x kv rfl rfl
   by_cases hk:x.1=k
   ·right
    refine fc x.2 kv.2 bs (by simp[atKey,hk]) (by simp[z5,← e,hk]) r q
   ·have hk':¬ kv.1=k:=by rw[← e];exact hk
    have:=qp (k:=k) (xs:=xs) (kvs:=kvs) ⟨by simpa using hv.1,fun i x' kv' h1 h2=>hv.2 (i+1) x' kv' (by simpa using h1) (by simpa using h2)⟩
    have e1:atKey (x::xs) k=atKey xs k:=by simp[atKey,hk]
    have e2:z5 (kv::kvs) k=z5 kvs k:=by simp[z5,hk']
    rw[e1,e2]
    exact this
end
set_option tactic.hygienic true in
theorem zhg:∀ {xs:List PyData} {is:List Int},intsOf xs=some is→xs=is.map PyData.int
 | [],_,h=>by injection h with eU;subst eU;rfl
 | x::xs,is,h=>by
   cases x <;> first | (cases h;done) | skip
   rename_i i
   unfold intsOf at h
   cases hr:intsOf xs with
   | none=>rw[hr] at h;exfalso;injection h
   | some r=>rw[hr] at h;injection h with eU;subst eU;rw[zhg hr];rfl
theorem zgy:∀ {xs:List PyData} {kss:List (List Int)},ja xs=some kss→xs=kss.map fun c=>PyData.tuple (c.map .int)
 | [],_,h=>by injection h with eU;subst eU;rfl
 | x::xs,kss,h=>by
   unfold ja at h
   cases hx:tupI x with
   | none=>rw[hx] at h;exfalso;injection h
   | some c=>
     rw[hx] at h
     cases hr:ja xs with
     | none=>rw[hr] at h;exfalso;injection h
     | some r=>
       rw[hr] at h;injection h with eU;subst eU
       rw[zgy hr]
       cases x <;> first | (cases hx;done) | skip
       have hx:intsOf _=some c:=hx
       rw[zhg hx];rfl
set_option tactic.hygienic true in
theorem dk{x:PyData}{k:MKey}(h:keyOf x=some k):x=p8 k:=by
 unfold keyOf at h
 split at h
 ·rename_i xs n
  cases hr:ja xs with
  | none=>rw[hr] at h;exfalso;injection h
  | some r=>rw[hr] at h;injection h with eU;subst eU;rw[zgy hr];rfl
 ·exfalso;injection h
section
variable{G:Gl}{F:Fm}{A:Around}{s:Shared}{β:List Addr}{ρ:Loc}{O:za}
theorem Room.memo{k:Nat}(ro:Room A k):(yj G.prog G.w).room A.in1:=by
 have h:=ro.units
 have hc:cLine=9900:=rfl
 refine⟨?_,⟨?_,?_,trivial⟩,trivial⟩
 ·show A.units+1 < cLine;lia
 ·show A.units+1+1 < cLine;lia
 ·show A.units+1+1+1 < cLine;lia
theorem za1{d a:Addr}{k:MKey}{xs:List (MKey×Addr×Value)}{E:Value→Shared→Prop}{Q:Bool→Shared→Prop}(hu:(yj G.prog G.w).room A.in1)(hkey:(yj G.prog G.w).is s.heap k a)(hd:(d == sysModules)=false)(hm:s.heap.DictOfH (yj G.prog G.w) d xs)
 (h:Q (atKey xs k).isSome { s with toks:=s.toks+(yj G.prog G.w).draws k }):wpAny (model G.prog G.w) A (contains (.ref d) (.ref a)) Q E s:=by
 unfold contains
 try with_reducible refine aT ?_
 refine aa (bZ hm.typeIs slot_dict_contains.lookup ?_)
 show wpAny _ _ (if (some (Value.builtin "dict.__contains__") == some Value.none)=true then _ else _) _ E s
 rw[aj (by rw[beq_builtin_none];exact am)]
 refine aa (wpAny_callSpecialUnlessNone?_slot (name:=Str.ofString "__contains__") hm.typeIs slot_dict_contains
  (bq slot_dict_contains hm.typeIs entry_dict_contains ?_ (args_dict_contains _ _)))
 show wpAny _ _ (dictGet d (.ref a) >>= _) _ _ s
 refine aa (wpAny_dictGet_heap hu hkey hm ?_)
 cases hf:atKey xs k with
 | some p=>
   rw[hf] at h
   show wpAny _ _ (ret (.bool true)) _ _ _
   exact ab ⟨_,rfl,bL h⟩
 | none=>
   rw[hf] at h
   show wpAny _ _ (Builtin.Dict.pendingKey? d (.ref a) >>= _) _ _ _
   exact aa (wpAny_pendingKey_other hd (ab ⟨_,rfl,bL h⟩))
theorem za0{v u:Value}{n:Nat}{x:PyData}{kvs:List (MKey×PyData)}{q:MKey}{k:Nat}(ro:Room A k)(sr:SR G F β ρ O s.heap)(ho:O[n]?=some (.dct kvs))(hk:keyOf x=some q)
 (rv:VR G F.B β s.heap v (.d x)) (ru:VR G F.B β s.heap u (.box n)) :
 Does G F A s β (compareOp .NotIn v u) ((R.ok (V.d (.bool !(z5 kvs q).isSome)) O).lift ρ) (VRel G F):=by
 obtain⟨d,hd,rfl⟩:=ru
 obtain⟨as,r,_⟩:=rv
 rw[dk hk] at r
 refine eY (u0 (prog:=G.prog) (w:=G.w) r) ?_;intro a eg hkey;subst eg
 have hm:=ay hd
 refine eY (zc0 (prog:=G.prog) (w:=G.w) (sr.br.plain d hm) (sr.br.at_ n d _ hd ho)) ?_;intro xs hD hv
 refine Does.leaf sr fun Q E kk=>?_
 show wpAny _ _ (do return Value.bool (!(← contains (.ref d) (.ref a)))) Q E s
 refine aa (za1 ro.memo hkey (G.notSys (sr.br.new d hm)) hD (ab ?_))
 have e:(atKey xs q).isSome=(z5 kvs q).isSome:=by
  (refine eW (qp (k:=q) hv) ?_ ?_;rotate_left;rintro ⟨p,d',bs,e1,e2,_⟩;rotate_right;rintro ⟨e1,e2⟩) <;> rw[e1,e2] <;> rfl
 rw[e]
 exact kk _ _ (KeepsAll.toks s _) VR.bool
theorem zeg{value slice:Expr}{v u:Value}{n:Nat}{x:PyData}{kvs:List (MKey×PyData)}{q:MKey}{k:Nat}(ro:Room A k)(sr:SR G F β ρ O s.heap)(ho:O[n]?=some (.dct kvs))(hk:keyOf x=some q)
 (rv:VR G F.B β s.heap v (.box n)) (ru:VR G F.B β s.heap u (.d x)) (hs:subscripted slice false v u=operate [v,u] (getItem v u)) :
 Does G F A s β (subscriptTail value slice v u) ((opt ((z5 kvs q).map V.d) O).lift ρ) (VRel G F):=by
 obtain⟨d,hd,rfl⟩:=rv
 obtain⟨as,r,_⟩:=ru
 rw[dk hk] at r
 refine eY (u0 (prog:=G.prog) (w:=G.w) r) ?_;intro a eg hkey;subst eg
 have hm:=ay hd
 refine eY (zc0 (prog:=G.prog) (w:=G.w) (sr.br.plain d hm) (sr.br.at_ n d _ hd ho)) ?_;intro xs hD hv
 refine eW (qp (k:=q) hv) ?_ ?_
 ·rintro ⟨e1,e2⟩;rw[e2];trivial
 ·rintro ⟨p,d',bs,e1,e2,r',hb⟩;rw[e2]
  refine Does.leaf sr fun Q E kk=>?_
  refine tail_any (T:="dict") hD.typeIs slot_dict_getitem.lookup ?_ hs
  exact wpAny_getItem_heap ro.memo hkey hD e1 (kk _ _ (KeepsAll.toks s _) ⟨bs,r',hb⟩)
end
end Mine
end
section
namespace Mine
open PySem PySem.SetTable
noncomputable abbrev Ent:=Nat×Int×Value
noncomputable def places(L:List Ent):Array Nat:=(L.map (·.1)).toArray
noncomputable def elems(L:List Ent):Array (Int×Value):=(L.map (·.2)).toArray
noncomputable def Rise(L:List Ent):Prop:=L.Pairwise fun a b=>a.1 < b.1
theorem zmj{xs:Array Nat}{j c:Nat}(h:∀ i (hi:i < xs.size),xs[i] < j↔i < c):∀ (fuel lo hi:Nat),lo≤c→c≤hi→hi≤xs.size→hi≤fuel+lo→below.go xs j fuel lo hi=c:=by
 intro fuel
 induction fuel with
 | zero=>exact fun lo hi h1 h2 uA h4=>Nat.le_antisymm h1 (ak h2 (bB lo ▸ h4))
 | succ fuel ih=>
   intro lo hi h1 h2 h3 h4
   show (if lo < hi then (if xs.getD ((lo+hi) / 2) j < j then below.go xs j fuel ((lo+hi) / 2+1) hi else below.go xs j fuel lo ((lo+hi) / 2)) else lo)=c
   by_cases hl:lo < hi
   ·have a1:lo≤(lo+hi) / 2:=by lia
    have a2:(lo+hi) / 2 < hi:=by lia
    generalize (lo+hi) / 2=m at a1 a2
    have hm:m < xs.size:=bV a2 h3
    have e:xs.getD m j=xs[m]:=by rw[bC,a7 hm];rfl
    rw[af hl,e]
    by_cases hx:xs[m] < j
    ·rw[af hx]
     exact ih _ hi ((h _ hm).mp hx) h2 h3 (ak h4 (by lia))
    ·rw[aj hx]
     exact ih lo _ h1 (Nat.le_of_not_lt fun q=>hx ((h _ hm).mpr q)) (cq hm) (bN (bV a2 (Nat.succ_add fuel lo ▸ h4)))
   ·rw[aj hl]
    exact Nat.le_antisymm h1 (ak h2 (Nat.le_of_not_lt hl))
theorem zmk{xs:Array Nat}{j c:Nat}(hc:c≤xs.size)(h:∀ i (hi:i < xs.size),xs[i] < j↔i < c):below xs j=c:=
 zmj h _ _ _ (a8 _) hc (aL _) (aL _)
theorem jq{A B:List Ent}{j:Nat}(hA:∀ e∈A,e.1 < j)(hB:∀ e∈B,j≤e.1):below (places (A++B)) j=A.length:=by
 refine zmk (by simp[places]) fun i hi=>?_
 have hs:i < (A++B).length:=by simpa [places] using hi
 have e:(places (A++B))[i]=((A++B)[i]).1:=by
  apply aP
  rw[← a7 hi]
  unfold places
  rw[List.getElem?_toArray,aR,aq hs]
  rfl
 rw[e]
 by_cases h:i < A.length
 ·rw[List.getElem_append_left h]
  exact⟨fun uA=>h,fun uA=>hA _ (dH _)⟩
 ·rw[List.getElem_append_right (by lia)]
  have:=hB _ (dH (l:=B) (n:=i - A.length) (by simp at hs;lia))
  constructor
  ·intro q;lia
  ·intro q;lia
theorem vn(j:Nat):∀ (L:List Ent),Rise L→∃ A B,L=A++B∧(∀ e∈A,e.1 < j)∧∀ e∈B,j≤e.1
 | [],_=>⟨[],[],rfl,fun uA h=>(nomatch h),fun uA h=>(nomatch h)⟩
 | x::L,h=>by
   have h':Rise L:=(aY.mp h).2
   by_cases hx:x.1 < j
   ·refine fk (vn j L h') ?_;intro A B eo h1 h2;subst eo
    exact⟨x::A,B,rfl,fun e he=>by
     refine eW (ae.mp he) ?_ ?_
     ·rintro rfl;exact hx
     ·intro he;exact h1 e he,h2⟩
   ·refine fj [] (x::L) rfl (fun uA h=>(nomatch h)) (fun e he=>?_)
    refine eW (ae.mp he) ?_ ?_
    ·rintro rfl;lia
    ·intro he;have:=(aY.mp h).1 e he;lia
structure jr(t:SetTable)(m:Nat)(ld:Bool)(L:List Ent):Prop where
 mask:t.mask=m
 place:t.place=places L
 dummies:t.dummies = #[]
 led:t.led=ld
 plain:t.plain=true
theorem zbd{t:SetTable}{m:Nat}{ld:Bool}{A B:List Ent}{e:Ent}(ht:jr t m ld (A++e::B))(hr:Rise (A++e::B)):t.slot e.1=.live A.length:=by
 have hA:∀ x∈A,x.1 < e.1:=fun x hx=>(ca.mp hr).2.2 x hx e ao
 have hB:∀ x∈e::B,e.1≤x.1:=fun x hx=>by
  refine eW (ae.mp hx) ?_ ?_
  ·rintro rfl;exact aL _
  ·intro hx;exact cq ((aY.mp (ca.mp hr).2.1).1 x hx)
 unfold slot
 rw[ht.place,jq hA hB]
 dsimp only
 rw[af]
 simp[places]
theorem zfg{t:SetTable}{m:Nat}{ld:Bool}{L:List Ent}{j:Nat}(ht:jr t m ld L)(hr:Rise L)(hj:∀ e∈L,e.1≠j):t.slot j=.empty:=by
 refine fk (vn j L hr) ?_;intro A B eo hA hB;subst eo
 unfold slot
 rw[ht.place,jq hA hB,ht.dummies]
 dsimp only
 have h1:((places (A++B))[A.length]? == some j)=false:=by
  cases B with
  | nil=>simp[places]
  | cons b B=>
    have:(places (A++b::B))[A.length]?=some b.1:=by simp[places]
    rw[this]
    have hb:=hj b (by simp)
    simpa using hb
 rw[aj (by rw[h1];decide)]
 have h2:has #[] j=false:=by simp[has]
 rw[aj (by rw[h2];decide)]
theorem zqu{t:SetTable}{m:Nat}{ld:Bool}{L:List Ent}{j:Nat}(ht:jr t m ld L)(hr:Rise L)(hj:∀ e∈L,e.1≠j)(h:Int)(x:Value):∃ A B,L=A++B∧(t.put j).2=A.length∧jr (t.put j).1 m ld (A++(j,h,x)::B)∧Rise (A++(j,h,x)::B) ∧
 insertAt (elems L) A.length (h,x)=elems (A++(j,h,x)::B):=by
 refine fk (vn j L hr) ?_;intro A B eo hA hB;subst eo
 have hB':∀ e∈B,j < e.1:=fun e he=>Nat.lt_of_le_of_ne (hB e he) (fun q=>hj e (au _ he) q.symm)
 have ins:∀ {α:Type} (f:Ent→α) (z:α),insertAt ((A++B).map f).toArray A.length z=(A.map f++z::B.map f).toArray:=by
  intro α f z
  unfold insertAt
  apply Array.toList_inj.mp
  simp
  exact List.take_of_length_le (by simp)
 refine⟨A,B,rfl,?_,⟨ht.mask,?_,?_,ht.led,ht.plain⟩,?_,?_⟩
 ·unfold put;dsimp only;rw[ht.place,jq hA hB]
 ·unfold put;dsimp only
  rw[ht.place,jq hA hB]
  unfold places
  rw[ins];simp
 ·unfold put;dsimp only
  rw[ht.dummies]
  rfl
 ·refine ca.mpr ⟨(ca.mp hr).1,aY.mpr ⟨hB',(ca.mp hr).2.1⟩,fun a ha b hb=>?_⟩
  refine eW (ae.mp hb) ?_ ?_
  ·rintro rfl;exact hA a ha
  ·intro hb;exact (ca.mp hr).2.2 a ha b hb
 ·unfold elems
  rw[ins];simp
noncomputable def advM(m:Nat)(p:Probe):Probe:=
 if p.more > 0 then { p with j:=p.j+1,more:=p.more - 1 } else
 { p with j:=(leap m p.i p.perturb).1,more:=runEnd m (leap m p.i p.perturb).1 - (leap m p.i p.perturb).1,i:=(leap m p.i p.perturb).1,perturb:=(leap m p.i p.perturb).2 }
theorem zgq(t:SetTable)(p:Probe):t.advance p=advM t.mask p:=by unfold advance advM;split <;> rfl
noncomputable def lp(m i pt:Nat):Probe:={ j:=i,more:=runEnd m i - i,i:=i,perturb:=pt,dummy:=none }
noncomputable def advN(m:Nat):Nat→Probe→Probe
 | 0,p=>p
 | n+1,p=>advN m n (advM m p)
theorem xz(m:Nat):∀ (a b:Nat) (p:Probe),advN m (a+b) p=advN m b (advN m a p)
 | 0,b,p=>by rw[bB];rfl
 | a+1,b,p=>by rw[Nat.succ_add];exact xz m a b (advM m p)
theorem zao(m:Nat):∀ (k:Nat) (p:Probe),k≤p.more→advN m k p = { p with j:=p.j+k,more:=p.more - k }
 | 0,p,_=>rfl
 | k+1,p,h=>by
   rw[advN,zao m k _ (by unfold advM;rw[af (by lia)];show k≤p.more - 1;lia)]
   unfold advM
   rw[af (by lia)]
   simp only[Probe.mk.injEq]
   refine⟨by lia,by lia,trivial,trivial,trivial⟩
theorem ub(m:Nat)(p:Probe)(hd:p.dummy=none):advN m (p.more+1) p=lp m (leap m p.i p.perturb).1 (leap m p.i p.perturb).2:=by
 rw[xz,zao m _ _ (aL _)]
 show advM m _=_
 unfold advM lp
 rw[aj (by show ¬ (p.more - p.more > 0);lia)]
 simp[hd]
theorem more_le{m i:Nat}:runEnd m i - i≤9:=by unfold runEnd;split <;> lia
noncomputable def lpN(m:Nat):Nat→Nat×Nat→Nat×Nat
 | 0,x=>x
 | q+1,x=>lpN m q (leap m x.1 x.2)
theorem zha(m:Nat):∀ (a b:Nat) (x:Nat×Nat),lpN m (a+b) x=lpN m b (lpN m a x)
 | 0,b,x=>by rw[bB];rfl
 | a+1,b,x=>by rw[Nat.succ_add];exact zha m a b _
theorem zpi(m:Nat):∀ (q i pt:Nat),∃ n,n≤10 * q∧advN m n (lp m i pt)=lp m (lpN m q (i,pt)).1 (lpN m q (i,pt)).2
 | 0,i,pt=>⟨0,aL _,rfl⟩
 | q+1,i,pt=>by
   refine eY (zpi m q (leap m i pt).1 (leap m i pt).2) ?_;intro n h1 h2
   refine eZ ((lp m i pt).more+1+n) ?_ ?_
   ·have:(lp m i pt).more≤9:=more_le
    lia
   ·rw[xz,ub m _ rfl]
    exact h2
theorem zkn(m:Nat):∀ (q i pt:Nat),(lpN m q (i,pt)).2=pt / 32 ^ q
 | 0,i,pt=>by simp[lpN]
 | q+1,i,pt=>by
   show (lpN m q ((leap m i pt).1,(leap m i pt).2)).2=_
   rw[zkn m q]
   show pt / 32 / 32 ^ q=_
   rw[Nat.div_div_eq_div_mul,Nat.pow_succ,Nat.mul_comm]
theorem zko(m:Nat):∀ (q i pt:Nat),i≤m→(lpN m q (i,pt)).1≤m
 | 0,i,pt,h=>h
 | q+1,i,pt,h=>zko m q _ _ (by show (i * 5+1+pt / 32) % (m+1)≤m;have:=Nat.mod_lt (i * 5+1+pt / 32) (show 0 < m+1 by exact Nat.succ_pos _);exact Nat.le_of_lt_succ (by assumption))
noncomputable def full(m:Nat):Bool:=(List.range (m+1)).all fun i=>(List.range (m+1)).all fun j=>(List.range (m+1)).any fun q=>(lpN m q (i,0)).1 == j
theorem zua:full 7=true:=by decide +kernel
theorem zlc:full 31=true:=by decide +kernel
theorem df{m:Nat}(hf:full m=true){i pt j:Nat}(hi:i≤m)(hp:pt < 2 ^ 64)(hj:j≤m):∃ q,q≤13+m∧(lpN m q (i,pt)).1=j:=by
 have h0:(lpN m 13 (i,pt)).2=0:=by rw[zkn];exact Nat.div_eq_of_lt (bV hp (by decide))
 have h1:=zko m 13 i pt hi
 unfold full at hf
 have h2:=aI.mp (aI.mp hf _ (aZ.mpr (Nat.lt_succ_of_le h1))) j (aZ.mpr (Nat.lt_succ_of_le hj))
 refine eY (dI.mp h2) ?_;intro q hq h3
 rw[aZ] at hq
 refine eZ (13+q) (by lia) ?_
 rw[zha]
 have:lpN m 13 (i,pt)=((lpN m 13 (i,pt)).1,0):=Prod.ext rfl h0
 rw[this]
 exact aQ.mp h3
structure Stand(m:Nat)(p:Probe):Prop where
 d:p.dummy=none
 i:p.i≤m
 pt:p.perturb < 2 ^ 64
 more:p.more≤9
theorem zht(h:Int):bits h < 2 ^ 64:=by
 unfold bits
 have h1:0≤h % (2 ^ 64:Int):=Int.emod_nonneg _ (by decide)
 have h2:h % (2 ^ 64:Int) < 2 ^ 64:=Int.emod_lt_of_pos _ (by decide)
 lia
theorem Stand.lp{m i pt:Nat}(hi:i≤m)(hp:pt < 2 ^ 64):Stand m (lp m i pt):=⟨rfl,hi,hp,more_le⟩
theorem Stand.adv{m:Nat}{p:Probe}(h:Stand m p):Stand m (advM m p):=by
 unfold advM
 split
 ·exact⟨h.d,h.i,h.pt,by show p.more - 1≤9;have:=h.more;lia⟩
 ·refine⟨h.d,?_,?_,more_le⟩
  ·show (p.i * 5+1+p.perturb / 32) % (m+1)≤m
   have:=Nat.mod_lt (p.i * 5+1+p.perturb / 32) (show 0 < m+1 by exact Nat.succ_pos _);exact Nat.le_of_lt_succ (by assumption)
  ·show p.perturb / 32 < 2 ^ 64
   have:=h.pt;lia
theorem Stand.advN{m:Nat}:∀ (n:Nat) {p:Probe},Stand m p→Stand m (advN m n p)
 | 0,_,h=>h
 | n+1,_,h=>Stand.advN n h.adv
theorem meets{m:Nat}(hf:full m=true){p:Probe}(hp:Stand m p){j:Nat}(hj:j≤m):∃ n,n < 10 * turns m∧(advN m n p).j=j:=by
 have hl:(leap m p.i p.perturb).1≤m:=by
  show (p.i * 5+1+p.perturb / 32) % (m+1)≤m
  have:=Nat.mod_lt (p.i * 5+1+p.perturb / 32) (show 0 < m+1 by exact Nat.succ_pos _);exact Nat.le_of_lt_succ (by assumption)
 have h2:(leap m p.i p.perturb).2 < 2 ^ 64:=by
  show p.perturb / 32 < 2 ^ 64
  have:=hp.pt;lia
 refine eY (df hf hl h2 hj) ?_;intro q hq e
 refine eY (zpi m q (leap m p.i p.perturb).1 (leap m p.i p.perturb).2) ?_;intro n hn en
 refine eZ (p.more+1+n) ?_ ?_
 ·have:=hp.more
  unfold turns
  lia
 ·rw[xz,ub m p hp.d,en]
  exact e
theorem nodup_le:∀ {l l':List Nat},l.Nodup→(∀ x∈l,x∈l')→l.length≤l'.length
 | [],_,_,_=>a8 _
 | a::l,l',hn,hs=>by
   refine ff (bH.mp hn) ?_;intro h1 h2
   have:=nodup_le (l':=l'.erase a) h2 fun x hx=>(List.mem_erase_of_ne (fun e=>h1 (by rw[← e];exact hx))).mpr (hs x (ag _ hx))
   rw[List.length_erase_of_mem (hs a ao)] at this
   have hp:0 < l'.length:=List.length_pos_of_mem (hs a ao)
   rw[aU]
   lia
noncomputable def FirstFree(L:List Ent)(m n:Nat)(p:Probe):Prop:=(∀ e∈L,e.1≠(advN m n p).j)∧∀ k,k < n→∃ e∈L,e.1=(advN m k p).j
theorem zix{L:List Ent}{m:Nat}(hf:full m=true)(hl:L.length≤m){p:Probe}(hp:Stand m p):∃ n,n < 10 * turns m∧FirstFree L m n p:=by
 have hfree:∃ j,j≤m∧∀ e∈L,e.1≠j:=by
  refine bW fun hn=>?_
  have hall:∀ j,j∈List.range (m+1)→j∈L.map (·.1):=fun j hj=>by
   refine bW fun hc=>hn ⟨j,Nat.lt_succ_iff.mp (aZ.mp hj),fun e he q=>hc (av.mpr ⟨e,he,q⟩)⟩
  have:=nodup_le List.nodup_range hall
  simp at this
  lia
 refine eY hfree ?_;clear hfree;intro j hj hfr
 refine eY (meets hf hp hj) ?_;intro n hn e
 have key:∀ n,(∀ e∈L,e.1≠(advN m n p).j)→∃ k,k≤n∧FirstFree L m k p:=by
  intro n
  induction n using Nat.strongRecOn with
  | ind n ih=>
    intro h
    by_cases hx:∃ k,k < n∧∀ e∈L,e.1≠(advN m k p).j
    ·refine eY hx ?_;clear hx;intro k hk h'
     refine eY (ih k hk h') ?_;intro k' h1 h2
     exact eZ k' (by lia) h2
    ·refine fi n (aL _) h (fun k hk=>?_)
     refine bW fun hc=>hx ⟨k,hk,fun e he q=>hc ⟨e,he,q⟩⟩
 refine eY (key n (by rw[e];exact hfr)) ?_;intro k h1 h2
 exact eZ k (by exact Nat.lt_of_le_of_lt (by assumption) (by assumption)) h2
noncomputable def yw(m:Nat)(h:Int):Probe:=lp m (bits h % (m+1)) (bits h)
theorem zde(m:Nat)(h:Int):Stand m (yw m h):=.lp (by have:=Nat.mod_lt (bits h) (show 0 < m+1 by exact Nat.succ_pos _);exact Nat.le_of_lt_succ (by assumption)) (zht h)
noncomputable def Reach(L:List Ent)(m:Nat):Prop:=∀ e∈L,∃ n,(advN m n (yw m e.2.1)).j=e.1∧∀ k,k < n→∃ e'∈L,e'.1=(advN m k (yw m e.2.1)).j
theorem Reach.before{L:List Ent}{m n:Nat}{e:Ent}(hr:Reach L m)(he:e∈L)(hf:FirstFree L m n (yw m e.2.1)):∃ k,k < n∧(advN m k (yw m e.2.1)).j=e.1:=by
 refine eY (hr e he) ?_;intro k h1 h2
 refine eZ k ?_ h1
 rcases Nat.lt_trichotomy k n with h | h | h
 ·exact h
 ·subst h;exact absurd h1.symm (hf.1 e he)
 ·refine eY (h2 n h) ?_;intro e' he' h3
  exact absurd h3 (hf.1 e' he')
theorem Reach.put{A B:List Ent}{m n:Nat}{h:Int}{x:Value}(hr:Reach (A++B) m)(hf:FirstFree (A++B) m n (yw m h)):Reach (A++((advN m n (yw m h)).j,h,x)::B) m:=by
 have sub:∀ e∈A++B,e∈A++((advN m n (yw m h)).j,h,x)::B:=fun e he=>by
  refine eW (ai.mp he) ?_ ?_
  ·intro he;exact az _ he
  ·intro he;exact au _ (ag _ he)
 have old:∀ e∈A++B,∃ n',(advN m n' (yw m e.2.1)).j=e.1∧∀ k,k < n'→∃ e'∈A++((advN m n (yw m h)).j,h,x)::B,e'.1=(advN m k (yw m e.2.1)).j:=fun e he=>by
  refine eY (hr e he) ?_;intro k h1 h2
  exact eZ k h1 (fun i hi=>let ⟨e',he',q⟩:=h2 i hi;⟨e',sub e' he',q⟩)
 intro e he
 refine eW (ai.mp he) ?_ ?_
 ·intro he;exact old e (az _ he)
 ·intro he;refine eW (ae.mp he) ?_ ?_
  ·rintro rfl;exact eZ n rfl (fun k hk=>let ⟨e',he',q⟩:=hf.2 k hk;⟨e',sub e' he',q⟩)
  ·intro he;exact old e (au _ he)
section
variable{m:Nat}{owner:Array (Option Nat)}
noncomputable def Fr(owner:Array (Option Nat))(j:Nat):Prop:=owner[j]?=some none
noncomputable def Oc(owner:Array (Option Nat))(j:Nat):Prop:=∃ i,owner[j]?=some (some i)
theorem zqr{i:Nat}(hi:i≤m):runEnd m i≤m:=by unfold runEnd;split <;> assumption
theorem zj1{i:Nat}:i≤runEnd m i:=by unfold runEnd;split <;> lia
theorem pq(hs:owner.size=m+1){j:Nat}(hj:j≤m):((owner.getD j (some 0)).isNone=true∧Fr owner j)∨((owner.getD j (some 0)).isNone=false∧Oc owner j):=by
 have hl:j < owner.size:=by lia
 have e:owner[j]?=some owner[j]:=a7 hl
 rw[bC]
 unfold Fr Oc
 rw[e]
 cases owner[j] with
 | none=>exact .inl ⟨rfl,rfl⟩
 | some i=>exact .inr ⟨rfl,i,rfl⟩
theorem zob(hs:owner.size=m+1):∀ (fuel i pt q:Nat),i≤m→q < fuel→Fr owner (lpN m q (i,pt)).1→∃ n,layClean.free m owner fuel i pt=some (advN m n (lp m i pt)).j∧Fr owner (advN m n (lp m i pt)).j∧∀ k,k < n→Oc owner (advN m k (lp m i pt)).j:=by
 intro fuel
 induction fuel with
 | zero=>exact fun uA uA uA uA h=>absurd h (bI _)
 | succ fuel ih=>
   intro i pt q hi hq hfr
   have hin:∀ k,k < runEnd m i - i+1→i+k≤m:=fun k hk=>ak (Nat.add_le_add_left (bN hk) i) (ak (Nat.le_of_eq (Nat.add_sub_of_le zj1)) (zqr hi))
   have ef:layClean.free m owner (fuel+1) i pt=((List.range (runEnd m i+1 - i)).find? fun k=>(owner.getD (i+k) (some 0)).isNone).elim (layClean.free m owner fuel (leap m i pt).1 (leap m i pt).2) (fun k=>some (i+k)):=by
    show (match (List.range (runEnd m i+1 - i)).find? fun k=>(owner.getD (i+k) (some 0)).isNone with | some k=>some (i+k) | none=>layClean.free m owner fuel (leap m i pt).1 (leap m i pt).2)=_
    cases (List.range (runEnd m i+1 - i)).find? fun k=>(owner.getD (i+k) (some 0)).isNone <;> rfl
   rw[ef,Nat.succ_sub zj1]
   clear ef
   have hr:(lp m i pt).more=runEnd m i - i:=rfl
   generalize runEnd m i - i=r at hin hr
   have e:∀ k,k≤r→(advN m k (lp m i pt)).j=i+k:=fun k hk=>by
    rw[zao m k _ (hr ▸ hk)];rfl
   cases hfind:(List.range (r+1)).find? fun k=>(owner.getD (i+k) (some 0)).isNone with
   | some k=>
     refine fg (List.find?_range_eq_some.mp hfind) ?_;intro h1 h2 h3
     have h2:=aZ.mp h2
     refine fi k (cK some (e k (bN h2)).symm) ?_ (fun k' hk'=>?_)
     ·rw[e k (bN h2)]
      refine eW (pq hs (hin k h2)) ?_ ?_
      ·intro h;exact h.2
      ·intro h;exact absurd (h1.symm.trans h.1) nofun
     ·have h4:=Nat.lt_trans hk' h2
      rw[e k' (bN h4)]
      refine eW (pq hs (hin k' h4)) ?_ ?_
      ·intro h;have:=h3 k' hk'
       rw[h.1] at this;exfalso;injection this
      ·intro h;exact h.2
   | none=>
     have hall:∀ k,k < r+1→Oc owner (i+k):=fun k hk=>
      (pq hs (hin k hk)).elim (fun h=>absurd h.1 (List.find?_eq_none.mp hfind k (aZ.mpr hk))) (·.2)
     cases q with
     | zero=>
       refine fe (hall 0 (Nat.succ_pos _)) ?_;intro i' h
       exact absurd ((show owner[i]?=some none from hfr).symm.trans h) nofun
     | succ q=>
       refine ft (ih (leap m i pt).1 (leap m i pt).2 q (bN (Nat.mod_lt _ (Nat.succ_pos m))) (cp hq) hfr) ?_;intro n h1 h2 h3
       have e':∀ k,advN m (r+1+k) (lp m i pt)=advN m k (lp m (leap m i pt).1 (leap m i pt).2):=fun k=>by
        rw[← hr,xz,ub m _ rfl];rfl
       refine fi (r+1+n) ?_ ?_ (fun k hk=>?_)
       ·rw[e'];exact h1
       ·rw[e'];exact h2
       ·by_cases hk':k < r+1
        ·rw [e k (bN hk')]
         exact hall k hk'
        ·refine fe (Nat.exists_eq_add_of_le (Nat.le_of_not_lt hk')) ?_;intro k' eg;subst eg
         rw [e']
         exact h3 k' (Nat.lt_of_add_lt_add_left hk)
end
structure Own(m:Nat)(owner:Array (Option Nat))(hs:List Int)(js:List Nat):Prop where
 size:owner.size=m+1
 len:js.length=hs.length
 nd:js.Nodup
 at_:∀ (j i:Nat),owner[j]?=some (some i)↔js[i]?=some j
 le:∀ j∈js,j≤m
 way:∀ (i:Nat) (h:Int) (j:Nat),hs[i]?=some h→js[i]?=some j→∃ n,(advN m n (yw m h)).j=j∧∀ k,k < n→Oc owner (advN m k (yw m h)).j
theorem zkr{m:Nat}(hf:full m=true){owner:Array (Option Nat)}{hs:List Int}{js:List Nat}(o:Own m owner hs js)(hl:hs.length≤m)(h:Int) :
 ∃ j,layClean.free m owner (turns m) (bits h % (m+1)) (bits h)=some j∧Own m (owner.setIfInBounds j (some hs.length)) (hs++[h]) (js++[j]):=by
 have hi:bits h % (m+1)≤m:=by have:=Nat.mod_lt (bits h) (show 0 < m+1 by exact Nat.succ_pos _);exact Nat.le_of_lt_succ (by assumption)
 have hfree:∃ j,j≤m∧j∉js:=by
  refine bW fun hn=>?_
  have:=nodup_le (l:=List.range (m+1)) (l':=js) List.nodup_range fun x hx=>by
   refine bW fun hc=>hn ⟨x,by have:=aZ.mp hx;exact Nat.le_of_lt_succ (by assumption),hc⟩
  rw[List.length_range,o.len] at this
  lia
 refine eY hfree ?_;clear hfree;intro j0 hj0 hn0
 have hfr0:Fr owner j0:=by
  have hlt:j0 < owner.size:=by rw[o.size];exact Nat.lt_succ_of_le (by assumption)
  have e:owner[j0]?=some owner[j0]:=a7 hlt
  unfold Fr
  rw[e]
  cases hx:owner[j0] with
  | none=>rfl
  | some i=>
    rw[hx] at e
    exact absurd (ay ((o.at_ j0 i).mp e)) hn0
 refine eY (df hf hi (zht h) hj0) ?_;intro q hq eq
 refine ft (zob o.size (turns m) (bits h % (m+1)) (bits h) q hi (by unfold turns;lia) (by rw[eq];exact hfr0)) ?_;intro n h1 h2 h3
 generalize hj:(advN m n (lp m (bits h % (m+1)) (bits h))).j=j at h1 h2
 have hjlt:j < owner.size:=by
  unfold Fr at h2
  exact (Array.getElem?_eq_some_iff.mp h2).1
 have hjn:j∉js:=fun hm=>by
  refine fe (bX hm) ?_;intro i hi'
  have:=(o.at_ j i).mpr hi'
  unfold Fr at h2
  rw[h2] at this;injection this with eU;exfalso;injection eU
 have grow:∀ k,Oc owner k→Oc (owner.setIfInBounds j (some hs.length)) k:=fun k ⟨i,hk⟩=>by
  by_cases e:j=k
  ·subst e;exact fh hs.length (by rw[Array.getElem?_setIfInBounds_self,af hjlt])
  ·exact fh i (by rw[Array.getElem?_setIfInBounds_ne e];exact hk)
 refine eZ j h1 ?_
 constructor
 ·rw[Array.size_setIfInBounds];exact o.size
 ·simp[o.len]
 ·exact bM.mpr ⟨o.nd,by simp,fun a ha b hb=>by rw[ac.mp hb];rintro rfl;exact hjn ha⟩
 ·intro k i
  by_cases e:j=k
  ·subst e
   rw[Array.getElem?_setIfInBounds_self,af hjlt]
   constructor
   ·intro q;injection q with eU;injection eU with eU;subst eU;rw[← o.len];simp
   ·intro q
    by_cases hi':i < js.length
    ·rw[aJ hi'] at q
     exact absurd (ay q) hjn
    ·have:i=js.length:=by
      have:=(aA.mp q).1
      simp at this;lia
     subst this;rw[o.len]
  ·rw[Array.getElem?_setIfInBounds_ne e,o.at_]
   constructor
   ·intro q
    have:=(aA.mp q).1
    rw[aJ this];exact q
   ·intro q
    by_cases hi':i < js.length
    ·rw[aJ hi'] at q;exact q
    ·have:i=js.length:=by
      have:=(aA.mp q).1
      simp at this;lia
     subst this
     simp at q
     exact absurd q e
 ·intro k hk
  refine eW (ai.mp hk) ?_ ?_
  ·intro hk;exact o.le k hk
  ·intro hk;rw[ac.mp hk];have:=o.size;lia
 ·intro i h' j' e1 e2
  by_cases hi':i < js.length
  ·rw[aJ hi'] at e2
   rw[aJ (by rw[← o.len];exact hi')] at e1
   refine eY (o.way i h' j' e1 e2) ?_;intro n' q1 q2
   exact eZ n' q1 (fun k hk=>grow _ (q2 k hk))
  ·have:i=js.length:=by
    have:=(aA.mp e2).1
    simp at this;lia
   subst this
   rw[aH (aL _),cr] at e2
   rw[o.len,aH (aL _),cr] at e1
   injection e1 with eU;subst eU;injection e2 with eU;subst eU
   exact eZ n hj (fun k hk=>grow _ (h3 k hk))
theorem lay_all{m:Nat}(hf:full m=true):∀ (rest hs:List Int) (owner:Array (Option Nat)) (js:List Nat),Own m owner hs js→hs.length+rest.length≤m →
 ∃ owner' js',rest.foldl (init:=some (owner,hs.length)) (fun acc h=>do
  let (owner,k) ← acc
  let j ← layClean.free m owner (turns m) (bits h % (m+1)) (bits h)
  pure (owner.setIfInBounds j (some k),k+1))=some (owner',hs.length+rest.length)∧Own m owner' (hs++rest) js'
 | [],hs,owner,js,o,_=>⟨owner,js,rfl,by rw[be];exact o⟩
 | h::rest,hs,owner,js,o,hl=>by
   rw[aU] at hl
   refine eY (zkr hf o (by lia) h) ?_;intro j h1 h2
   refine fy (lay_all hf rest (hs++[h]) _ _ h2 (by simp;lia)) ?_;intro owner' js' e o'
   refine fD owner' js' ?_ (by rw[cb] at o';exact o')
   rw[dW]
   rw[aX,cy] at e
   have:(do
    let (owner,k) ← some (owner,hs.length)
    let j ← layClean.free m owner (turns m) (bits h % (m+1)) (bits h)
    pure (owner.setIfInBounds j (some k),k+1))=some (owner.setIfInBounds j (some hs.length),hs.length+1):=by
    show (layClean.free m owner (turns m) (bits h % (m+1)) (bits h)).bind _=_
    rw[h1];rfl
   rw[this,e,aU]
   congr 2
   lia
theorem own0(m:Nat):Own m (Array.replicate (m+1) none) [] [] where
 size:=by simp
 len:=rfl
 nd:=List.nodup_nil
 at_:=fun j i=>by
  constructor
  ·intro q
   rw[Array.getElem?_replicate] at q
   split at q <;> cases q
  ·intro q;simp at q
 le:=fun uA h=>nomatch h
 way:=fun i h j e=>by simp at e
theorem zib{ld:Bool}{t:SetTable}{m wanted:Nat}{es:Array (Int×Value)}(hf:full m=true)(hm:sizeAbove wanted - 1=m)(hl:es.size≤m)(hled:t.led=ld)(hplain:t.plain=true) :
 ∃ t' order L,t.relaid (es.map (·.1)) wanted=some (t',order)∧order.filterMap (es[·]?)=elems L∧L.length=es.size∧jr t' m ld L∧Rise L∧Reach L m∧(∀ e∈L,e.1≤m)∧(∀ p,(∃ e∈L,e.2=p)↔p∈es):=by
 refine fy (lay_all hf (es.toList.map (·.1)) [] _ _ (own0 m) (by simp;exact hl)) ?_;intro owner js e1 o
 rw[List.nil_append] at o
 have hn:js.length=es.size:=by rw[o.len];simp
 have elay:layClean m (es.map (·.1))=some owner:=by
  unfold layClean
  have:(es.map (·.1))=(es.toList.map (·.1)).toArray:=by apply Array.toList_inj.mp;simp
  rw[this,← Array.foldl_toList]
  rw[List.toList_toArray]
  rw[show (0:Nat)=([]:List Int).length from rfl,e1]
  rfl
 let live:=(List.range (m+1)).filterMap fun j=>(owner.getD j none).map (j,·)
 have mem_live:∀ j i,(j,i)∈live↔js[i]?=some j:=fun j i=>by
  rw[← o.at_]
  simp only[live,List.mem_filterMap,aZ]
  constructor
  ·rintro⟨k,hk,e⟩
   rw[bC,a7 (by rw[o.size];exact hk)] at e
   simp only[dM,aE,Prod.mk.injEq] at e
   refine ft e ?_;clear e;intro i' h1 eo ez;subst eo;subst ez
   rw[a7 (by rw[o.size];exact hk),h1]
  ·intro q
   have hk:=(Array.getElem?_eq_some_iff.mp q).1
   refine eZ j (by rw[← o.size];exact hk) ?_
   rw[bC,q];rfl
 have idx_lt:∀ j i,(j,i)∈live→i < es.size:=fun j i h=>by
  have:=(aA.mp ((mem_live j i).mp h)).1
  lia
 let entOf:Nat×Nat→Ent:=fun x=>(x.1,es.getD x.2 (0,.none))
 have get_es:∀ i,i < es.size→es[i]?=some (es.getD i (0,.none)):=fun i hi=>by
  rw[bC,a7 hi];rfl
 have rise_live:live.Pairwise fun a b=>a.1 < b.1:=by
  refine List.Pairwise.filterMap _ ?_ List.pairwise_lt_range
  intro a b hab x hx y hy
  simp only[aE] at hx hy
  refine eY hx ?_;clear hx;intro _ _ eo;subst eo
  refine eY hy ?_;clear hy;intro _ _ eo;subst eo
  exact hab
 have len_live:live.length=es.size:=by
  have nd1:(live.map (·.1)).Nodup:=by
   refine List.Pairwise.imp (R:=(· < ·)) (fun h=>bm h) (List.pairwise_map.mpr rise_live)
  have a1:=nodup_le nd1 (l':=js) fun x hx=>by
   refine eY (av.mp hx) ?_;intro p hp eo;subst eo
   exact ay ((mem_live p.1 p.2).mp hp)
  have a2:=nodup_le o.nd (l':=live.map (·.1)) fun x hx=>by
   refine fe (bX hx) ?_;intro i hi
   exact av.mpr ⟨(x,i),(mem_live x i).mpr hi,rfl⟩
  rw[aw] at a1 a2
  lia
 refine⟨{ mask:=m,place:=(live.map (·.1)).toArray,dummies:=#[],finger:=t.finger,led:=t.led,moves:=t.movedTo m,plain:=t.plain },(live.map (·.2)).toArray,live.map entOf,?_,?_,by rw[aw,len_live],⟨rfl,?_,rfl,hled,hplain⟩,?_,?_,?_,?_⟩
 ·unfold relaid laid
  rw[hm,elay]
  rfl
 ·-- the order
  unfold elems
  show Array.filterMap (fun x=>es[x]?) (live.map (·.2)).toArray=_
  rw[List.filterMap_toArray,bf,List.filterMap_map]
  congr 1
  have:∀ l:List (Nat×Nat),(∀ x∈l,x∈live)→l.filterMap ((fun x=>es[x]?)∘fun x=>x.2)=l.map ((fun x=>x.2)∘entOf):=by
   intro l
   induction l with
   | nil=>intro _;rfl
   | cons x l ih=>
     intro hx
     rw[dS,aS]
     have e9:((fun x=>es[x]?)∘fun x:Nat×Nat=>x.2) x=some (es.getD x.2 (0,.none)):=get_es x.2 (idx_lt x.1 x.2 (hx x ao))
     rw[e9]
     dsimp only
     rw[ih fun y hy=>hx y (ag _ hy)]
     rfl
  exact this live fun uA h=>h
 ·unfold places
  rw[bf];rfl
 ·exact List.pairwise_map.mpr rise_live
 ·intro e he
  refine eY (av.mp he) ?_;intro x hx eo;subst eo
  have hx':=(mem_live x.1 x.2).mp hx
  have hlt:=idx_lt x.1 x.2 hx
  obtain⟨n,h1,h2⟩:=o.way x.2 (es.getD x.2 (0,.none)).1 x.1 (by
   rw[aR,aV,get_es x.2 hlt];rfl) hx'
  refine eZ n h1 (fun k hk=>?_)
  refine fe (h2 k hk) ?_;intro i hi
  exact eZ (entOf ((advN m k (yw m (es.getD x.2 (0,.none)).1)).j,i)) (av.mpr ⟨_,(mem_live _ i).mpr ((o.at_ _ i).mp hi),rfl⟩) rfl
 ·intro e he
  refine eY (av.mp he) ?_;intro x hx eo;subst eo
  exact o.le x.1 (ay ((mem_live x.1 x.2).mp hx))
 ·intro p
  constructor
  ·rintro⟨e,he,rfl⟩
   refine eY (av.mp he) ?_;intro x hx eo;subst eo
   exact Array.mem_of_getElem? (get_es x.2 (idx_lt x.1 x.2 hx))
  ·intro hp
   obtain⟨i,hi,e⟩:=Array.getElem_of_mem hp
   have hj:i < js.length:=by lia
   refine eZ (entOf (js[i],i)) (av.mpr ⟨(js[i],i),(mem_live _ _).mpr (aq hj),rfl⟩) ?_
   show es.getD i (0,.none)=p
   rw[bC,a7 hi,← e];rfl
theorem Rise.unique{L:List Ent}(h:Rise L):∀ {e e':Ent},e∈L→e'∈L→e.1=e'.1→e=e':=by
 induction L with
 | nil=>intro e e' he;exact absurd he dJ
 | cons x L ih=>
   intro e e' he he' q
   refine ff (aY.mp h) ?_;intro h1 h2
   refine eW (ae.mp he) ?_ ?_
   ·intro r;refine eW (ae.mp he') ?_ ?_
    ·intro r';rw[r,r']
    ·intro r';subst r;have:=h1 e' r';lia
   ·intro r;refine eW (ae.mp he') ?_ ?_
    ·intro r';subst r';have:=h1 e r;lia
    ·intro r';exact ih h2 r r' q
theorem FirstFree.next{L:List Ent}{m n:Nat}{p:Probe}(h:FirstFree L m (n+1) p):FirstFree L m n (advM m p):=
 ⟨h.1,fun k hk=>h.2 (k+1) (by exact Nat.lt_succ_of_le (by assumption))⟩
theorem FirstFree.drop{L:List Ent}{m:Nat}:∀ (k:Nat) {n:Nat} {p:Probe},FirstFree L m n p→k≤n→FirstFree L m (n - k) (advN m k p)
 | 0,n,p,h,_=>h
 | k+1,n,p,h,hk=>by
   obtain⟨n,rfl⟩ : ∃ n',n=n' + 1:=⟨n - 1,by lia⟩
   have:=FirstFree.drop k h.next (by exact Nat.le_of_lt_succ (by assumption))
   rw[show n+1 - (k+1)=n - k by lia]
   exact this
theorem advM_dummy{m:Nat}{p:Probe}:(advM m p).dummy=p.dummy:=by unfold advM;split <;> rfl
theorem zpn{t:SetTable}{hashAt:Nat→Int}{h:Int}{fuel:Nat}{p:Probe}{x:Slot}(hs:t.slot p.j=x):probe.go t hashAt h (fuel+1) p=match (generalizing:=false) x with
 | .empty=>some (.empty p.j p.dummy)
 | .dummy=>probe.go t hashAt h fuel (t.advance { p with dummy:=some p.j })
 | .live i=>if hashAt i == h then some (.candidate p.j i (t.advance p)) else probe.go t hashAt h fuel (t.advance p):=by subst hs;rfl
theorem zt8{t:SetTable}{m:Nat}{ld:Bool}{L:List Ent}(ht:jr t m ld L)(hr:Rise L){hashAt:Nat→Int}(hh:∀ (i:Nat) (e:Int×Value),(elems L)[i]?=some e→hashAt i=e.1){h:Int} :
 ∀ (fuel n:Nat) (p:Probe),n < fuel→p.dummy=none→FirstFree L m n p →
  (∃ k A e B,k < n∧L=A++e::B∧e.1=(advN m k p).j∧e.2.1=h∧probe.go t hashAt h fuel p=some (.candidate e.1 A.length (advM m (advN m k p)))∧∀ k',k' < k→∀ e'∈L,e'.1=(advN m k' p).j→e'.2.1≠h) ∨
  ((∀ k,k < n→∀ e∈L,e.1=(advN m k p).j→e.2.1≠h)∧probe.go t hashAt h fuel p=some (.empty (advN m n p).j none)):=by
 intro fuel
 induction fuel with
 | zero=>exact fun n uA hn=>absurd hn (bI _)
 | succ fuel ih=>
   intro n p hn hd hf
   cases n with
   | zero=>
     exact .inr ⟨fun k hk=>absurd hk (bI _),(zpn (zfg ht hr (fun e he=>hf.1 e he))).trans (hd ▸ rfl)⟩
   | succ n=>
     refine eY (hf.2 0 (Nat.succ_pos n)) ?_;intro e he hej
     have hej:e.1=p.j:=hej
     refine fE (List.append_of_mem he) ?_;intro A B hL
     have hs:t.slot p.j=.live A.length:=hej ▸ zbd (hL ▸ ht) (hL ▸ hr)
     have hhe:hashAt A.length=e.2.1:=hh A.length e.2 (by rw[hL];simp[elems])
     have ego:=zpn (hashAt:=hashAt) (h:=h) (fuel:=fuel) hs
     dsimp only at ego
     rw[zgq,ht.mask] at ego
     by_cases hq:e.2.1=h
     ·have ego:=ego.trans (af (by rw[hhe,hq];exact bS _))
      exact .inl ⟨0,A,e,B,Nat.succ_pos n,hL,hej,hq,hej ▸ ego,fun k' hk'=>absurd hk' (bI _)⟩
     ·have zero:∀ e'∈L,e'.1=p.j→e'.2.1≠h:=fun e' he' q=>hr.unique he' he (q.trans hej.symm) ▸ hq
      have ego:=ego.trans (aj (by rw[hhe];exact fun q=>hq (aQ.mp q)))
      rw[ego]
      refine eW (ih n (advM m p) (cp hn) (advM_dummy.trans hd) hf.next) ?_ ?_
      ·rintro ⟨k,A',e',B',h1,h2,h3,h4,h5,h6⟩;refine .inl ⟨k+1,A',e',B',Nat.succ_lt_succ h1,h2,h3,h4,h5,fun k' hk'=>?_⟩
       cases k' with
       | zero=>exact zero
       | succ k'=>exact h6 k' (cp hk')
      ·rintro ⟨h1,h2⟩;refine .inr ⟨fun k hk=>?_,h2⟩
       cases k with
       | zero=>exact zero
       | succ k=>exact h1 k (cp hk)
section
variable{prog:Program}{w:World}{A:Around}{E:Value→Shared→Prop}{s:Shared}
variable(prog w) in
noncomputable abbrev TK(h:Heap)(ks:List Int)(a:Addr):Prop:=IsTupleKey (intKind prog w) h ks a
variable(prog w) in
noncomputable abbrev tkh(ks:List Int):Int:=tupleKeyHash (intKind prog w) ks
variable(prog w) in
noncomputable def Ents(h:Heap)(L:List Ent):Prop:=∀ e∈L,∃ a ks,e.2.2=.ref a∧TK prog w h ks a∧e.2.1=tkh prog w ks
theorem za2(n:Nat){v:Value}(h:carriedByValue v=true):ofAClassStatement n v=pure false:=by
 cases v with
 | ref a=>simp[carriedByValue] at h
 | _=>cases n <;> rfl
theorem ur{d:Nat}{ks:List Int}{a:Addr}{Q:Bool→Shared→Prop}(hk:TK prog w s.heap ks a)(h:Q false s):wpAny (model prog w) A (ofAClassStatement (d+1) (.ref a)) Q E s:=by
 have hT:=IsTupleKey.typeIs hk
 refine fb hk ?_;clear hk;intro o items n ho _ hd hi
 unfold ofAClassStatement
 refine aa (wpAny_typeOf hT ?_)
 refine wpAny_ite_true rfl (aa (ab (a9 rfl ?_)))
 refine aa (bF ho hd (aa ?_))
 show wpAny _ _ (forIn items _ _) _ _ s
 rw[← ct]
 refine bD _ (fun rest r s'=>r.1=none∧s'=s∧∀ v∈rest,carriedByValue v=true) _ ?_ ?_ _ _ ⟨rfl,rfl,hi.byValue⟩
 ·rintro v rest r s' ⟨hr,rfl,hall⟩
  rw[za2 _ (hall v ao)]
  refine aa (ab (a9 rfl ?_))
  exact ab ⟨rfl,rfl,fun u hu'=>hall u (ag _ hu')⟩
 ·rintro⟨r1,r2⟩ s' ⟨hr,rfl,_⟩
  simp only at hr
  subst hr
  exact ab h
theorem zne{ks:List Int}{a:Addr}{l:List Value}{Q:Bool→Shared→Prop}(hk:TK prog w s.heap ks a)(hl:∀ y∈l,∃ b ks',y=.ref b∧TK prog w s.heap ks' b)(h:Q false s) :
 wpAny (model prog w) A (searchCouldBeSeen (.ref a) l) Q E s:=by
 unfold searchCouldBeSeen
 refine aa ?_
 refine bD _ (fun rest r s'=>r.1=none∧s'=s∧∀ y∈rest,∃ b ks',y=.ref b∧TK prog w s.heap ks' b) _ ?_ ?_ _ _ ⟨rfl,rfl,hl⟩
 ·rintro v rest r s' ⟨hr,rfl,hall⟩
  refine fy (hall v ao) ?_;intro b ks' eo hb;subst eo
  have next:∀ r:Option Bool×PUnit,r.1=none→∀ y∈rest,∃ b ks',y=Value.ref b∧TK prog w s'.heap ks' b:=fun uA uA y hy=>hall y (ag _ hy)
  dsimp only
  refine wpAny_ite_split (fun uA=>ab ⟨rfl,rfl,next (none,()) rfl⟩) fun uA=>?_
  refine aa (wpAny_eqIsQuiet_tuple hk (a9 rfl ?_))
  refine aa (wpAny_eqIsQuiet_tuple hb (a9 rfl ?_))
  refine aa (ur hk (a9 rfl ?_))
  refine aa (ur hb (a9 rfl ?_))
  exact ab ⟨rfl,rfl,next (none,()) rfl⟩
 ·rintro⟨r1,r2⟩ s' ⟨hr,rfl,_⟩
  simp only at hr
  subst hr
  exact ab h
theorem zgr{m:Nat}(n:Nat):∀ (p:Probe),(advN m n p).dummy=p.dummy:=by
 induction n with
 | zero=>exact fun uA=>rfl
 | succ n ih=>exact fun p=>(ih _).trans advM_dummy
theorem zm9{α:Type}{o:Option (Int×Value)}{x:Int}{y:Value}{f:Int→Value→Sem α}{g:Sem α}{Q:α→Shared→Prop}(h:o=some (x,y))(k:wpAny (model prog w) A (f x y) Q E s) :
 wpAny (model prog w) A (match o with | some (x,y)=>f x y | none=>g) Q E s:=by subst h;exact k
theorem zjv{α:Type}{o:Option (Int×Value)}{x:Int}{y:Value}{f:Value→Sem α}{g:Sem α}{Q:α→Shared→Prop}(h:o=some (x,y))(k:wpAny (model prog w) A (f y) Q E s) :
 wpAny (model prog w) A (match o with | some (_,y)=>f y | _=>g) Q E s:=by subst h;exact k
theorem zh9{S:Addr}{o:Obj}{ep m:Nat}{t:SetTable}{ld:Bool}{L:List Ent}(ho:s.heap.get? S=some o)(hd:o.data=.set (elems L) ep t)(ht:jr t m ld L)(hr:Rise L)(hL:L.length≤m)(hodd:m % 2=1)
 (he:Ents prog w s.heap L) (hu:A.units < cLine) {a:Addr} {ks:List Int} (hk:TK prog w s.heap ks a) {Q:SetFound→Shared→Prop} (hQ1:(∃ e∈L,∃ b,e.2.2=.ref b∧TK prog w s.heap ks b)→Q (.there none) s) :
 ∀ (fuel n:Nat) (st:Option Probe) (p:Probe),st.getD (t.probeStart (tkh prog w ks))=p→n < fuel→n < 10 * turns m→p.dummy=none→FirstFree L m n p →
  ((∀ k,k < n→∀ e∈L,e.1=(advN m k p).j→∀ b,e.2.2=.ref b→¬ TK prog w s.heap ks b)→Q (.free (advN m n p).j false) s) →
  wpAny (model prog w) A (setSearchFrom S (.ref a) (tkh prog w ks) true fuel st) Q E s:=by
 have hfit:t.fits (elems L).size=true:=by
  simp only[SetTable.fits,SetTable.fill,ht.place,ht.dummies,ht.mask,places,elems,aG,aQ,aK]
  simp;exact hL
 have hgw:t.gaveWay=false:=by unfold gaveWay;rw[ht.mask,hodd];decide
 have other:∀ e∈L,e.2.1≠tkh prog w ks→∀ b,e.2.2=.ref b→¬ TK prog w s.heap ks b:=fun e heL hne b hb hkb=>by
  refine fk (he e heL) ?_;intro b' ks' e1 e2 e3
  rw[hb] at e1;injection e1 with eU;subst eU
  rw[IsTupleKey.inj e2 hkb] at e3
  exact hne e3
 have hseen:∀ y∈((elems L).filter (·.1 == tkh prog w ks)).toList.map (·.2),∃ b ks',y=.ref b∧TK prog w s.heap ks' b:=fun y hy=>by
  refine eY (av.mp hy) ?_;intro z hz eo;subst eo
  have hz':z∈elems L:=(Array.mem_filter.mp (Array.mem_toList_iff.mp hz)).1
  unfold elems at hz'
  rw[List.mem_toArray] at hz'
  refine eY (av.mp hz') ?_;intro e' he' eo;subst eo
  refine fk (he e' he') ?_;intro b' ks'' q1 q2 _
  exact fD b' ks'' q1 q2
 intro fuel
 induction fuel with
 | zero=>exact fun n uA uA uA hn=>absurd hn (bI _)
 | succ fuel ih=>
   intro n st p hst hn hn' hpd hf hQ2
   have hgo:=zt8 ht hr (hashAt:=fun i=>((elems L)[i]?.map (·.1)).getD 0) (fun i e he=>by rw[he];rfl) (h:=tkh prog w ks) (10 * turns t.mask) n p (by rw[ht.mask];exact hn') hpd hf
   refine eW hgo ?_ ?_<;>clear hgo
   ·rintro ⟨k,A',e,B',h1,h2,h3,h4,h5,h6⟩;have heL:e∈L:=by rw[h2];simp
    refine fk (he e heL) ?_;intro b ks' e1 e2 e3
    have hget:(elems L)[A'.length]?=some e.2:=by rw[h2];simp[elems]
    have hsl:t.slot e.1=.live A'.length:=zbd (h2 ▸ ht) (h2 ▸ hr)
    have hle:=Nat.succ_le_of_lt h1
    have hadv:advM m (advN m k p)=advN m (k+1) p:=by rw[xz];rfl
    have again:ks'≠ks→wpAny (model prog w) A (setSearchFrom S (.ref a) (tkh prog w ks) true fuel (some (advM m (advN m k p)))) Q E s:=fun hkk=>by
     refine ih (n - (k+1)) _ (advN m (k+1) p) hadv (bU (Nat.sub_le_sub_left (Nat.succ_pos k) n) (Nat.sub_lt_left_of_lt_add (bU (a8 _) h1) (Nat.add_comm _ _ ▸ hn))) (bU (Nat.sub_le _ _) hn') ((zgr _ p).trans hpd) (hf.drop (k+1) hle) fun hno=>?_
     rw[← xz,Nat.add_sub_of_le hle]
     refine hQ2 fun i hi e' he' q=>?_
     rcases Nat.lt_trichotomy i k with hik | rfl | hik
     ·exact other e' he' (h6 i hik e' he' q)
     ·rw[hr.unique he' heL (q.trans h3.symm)]
      intro b' hb' hkb'
      rw[e1] at hb';injection hb' with eU;subst eU
      exact hkk (IsTupleKey.inj e2 hkb')
     ·exact hno (i - (k+1)) (Nat.sub_lt_sub_right hik hi) e' he' (by rw[← xz,Nat.add_sub_of_le hik];exact q)
    clear ih hQ2 hf hpd hn hn' h6 h3 h4 hadv
    obtain⟨ej,eh,ev⟩:=e
    have e1:ev=.ref b:=e1
    subst e1
    have hsm:t.sameMemory t.moves t.mask=some true:=by unfold sameMemory;rw[af (bS _)]
    have hlast:wpAny (model prog w) A (do
     if true && decide (ks'=ks) then return .there none
     let some same:=t.sameMemory t.moves t.mask | unsupported "set.changed-during-lookup:is-the-new-block-at-the-old-address"
     let still ← match (if same then t.slot ej else .empty) with
      | .live i'=>match (elems L)[i']? with
        | some (_,y')=>do pure (if ← isSame y' (.ref b) then some i' else none)
        | none=>pure none
      | _=>pure none
     match still with
     | none=>rule "set.search.anew";setSearchFrom S (.ref a) (tkh prog w ks) true fuel none
     | some i'=>if decide (ks'=ks) then return .there (some i') else setSearchFrom S (.ref a) (tkh prog w ks) true fuel (some (advM m (advN m k p)))) Q E s:=by
     rw[hsm,hsl]
     by_cases hkk:ks'=ks
     ·exact wpAny_ite_true (by rw[aD hkk];rfl) (ab (hQ1 ⟨_,heL,b,rfl,hkk ▸ e2⟩))
     ·exact a9 (by rw[aN hkk];rfl) (zm9 hget (aa (wpAny_isSame_ref_self (aa (ab (a9 (by rw[aN hkk];rfl) (again hkk)))))))
    clear again hsm hsl
    show wpAny _ _ (setState S >>= _) _ _ _
    refine aa (cD ho hd hfit ?_)
    refine a9 (by rw[hgw];rfl) ?_
    dsimp only
    rw[hst]
    unfold probe
    erw [h5]
    refine wpAny_ite_split (fun uA=>aa (zne hk hseen (a9 rfl ?_))) fun uA=>?_ <;> (refine zjv hget ?_;exact (aa (aT (wpAny_eqBool_tuple hu e2 hk (aa (cD ho hd hfit hlast))))))
   ·rintro ⟨h1,h2⟩;show wpAny _ _ (setState S >>= _) _ _ _
    refine aa (cD ho hd hfit ?_)
    refine a9 (by rw[hgw];rfl) ?_
    dsimp only
    rw[hst]
    unfold probe
    erw [h2]
    exact ab (hQ2 fun k hk e' he' q=>other e' he' (h1 k hk e' he' q))
end
section
variable{prog:Program}{w:World}{A:Around}{E:Value→Shared→Prop}{s:Shared}
theorem za5{ks:List Int}{a:Addr}{Q:Bool→Shared→Prop}(hk:TK prog w s.heap ks a)(h:Q true s):wpAny (model prog w) A (hashByValue 8 (.ref a)) Q E s:=by
 have hT:=IsTupleKey.typeIs hk
 refine fb hk ?_;clear hk;intro o items n ho _ hd hi
 have hint:∀ v∈items.toList,∃ i t,v=.int i t:=by
  generalize items.toList=l at hi
  induction hi with
  | nil=>intro v hv;simp at hv
  | @cons k v' ks vs h1 _ ih=>
    intro v hv
    refine eW (ae.mp hv) ?_ ?_
    ·rintro rfl;cases v with
     | int i t=>exact fG i t rfl
     | _=>exfalso;injection h1
    ·intro hv;exact ih v hv
 unfold hashByValue
 refine aa (bZ hT F.slot_tuple_hash.lookup ?_)
 dsimp only
 refine aa (bF ho hd ?_)
 refine aa ?_
 show wpAny _ _ (forIn items _ _) _ _ s
 rw[← ct]
 refine bD _ (fun rest r s'=>r.1=none∧s'=s∧∀ v∈rest,∃ i t,v=Value.int i t) _ ?_ ?_ _ _ ⟨rfl,rfl,hint⟩
 ·rintro v rest r s' ⟨hr,rfl,hall⟩
  refine fE (hall v ao) ?_;intro i t eo;subst eo
  have e:hashByValue 7 (.int i t)=pure true:=by first | rfl | simp[hashByValue]
  rw[e]
  exact aa (ab (a9 rfl (ab ⟨rfl,rfl,fun u hu'=>hall u (ag _ hu')⟩)))
 ·rintro⟨r1,r2⟩ s' ⟨hr,rfl,_⟩
  simp only at hr
  subst hr
  exact ab h
variable(prog w) in
inductive TSet(h:Heap)(S:Addr)(ld:Bool)(K:List (List Int)):Prop
 | mk (o:Obj) (ep:Nat) (t:SetTable) (m:Nat) (L:List Ent) (ho:h.get? S=some o) (hex:o.ExactSet) (hd:o.data=.set (elems L) ep t) (ht:jr t m ld L) (hr:Rise L) (hre:Reach L m) (hlen:L.length=K.length) (hnd:K.Nodup) (hent:Ents prog w h L)
   (hmem:∀ ks,ks∈K↔∃ e∈L,∃ b,e.2.2=.ref b∧TK prog w h ks b) (hm:(m=7∧L.length≤4)∨(m=31∧L.length≤18))
theorem zce{h h':Heap}{S:Addr}{o:Obj}(ho:h.get? S=some o)(hc:o.ExactSet)(hs:Heap.SameBut S h h'){ks:List Int}{b:Addr}(hk:TK prog w h ks b):TK prog w h' ks b:=by
 refine fw hk ?_;clear hk;intro o' items n ho' hc' r
 refine fA o' items n ((hs.2 b fun q=>?_).trans ho') hc' r
 subst q
 rw[ho] at ho';injection ho' with eU;subst eU
 rw[hc.1] at hc';exact absurd hc' (by decide)
theorem zm4{h h':Heap}{S:Addr}{o':Obj}(ho:h'.get? S=some o')(hc:o'.ExactSet)(hs:Heap.SameBut S h h'){ks:List Int}{b:Addr}(hk:TK prog w h' ks b):TK prog w h ks b:=by
 refine fw hk ?_;clear hk;intro o items n ho' hc' r
 refine fA o items n ((hs.2 b fun q=>?_).symm.trans ho') hc' r
 subst q
 rw[ho] at ho';injection ho' with eU;subst eU
 rw[hc.1] at hc';exact absurd hc' (by decide)
theorem zfn(a:Addr)(wanted:Nat):setRelay a wanted=(do
 let (es,_,t) ← setState a
 if SetTable.sizeAbove wanted > sizeLine then unsupported "set:memory"
 let (es,t) ← (do
  let some (t,order):=t.relaid (es.map (·.1)) wanted | unsupported "internal:set-table-without-room"
  let es':=order.filterMap (es[·]?)
  if es'.size != es.size then unsupported "internal:set-table-lost-an-element"
  pure (es',t):Sem (Array (Int×Value)×SetTable))
 storeSet a es t):=rfl
theorem zj4{S:Addr}{o:Obj}{ep:Nat}{t:SetTable}{ld:Bool}{L:List Ent}(ho:s.heap.get? S=some o)(hd:o.data=.set (elems L) ep t)(ht:jr t 7 ld L)(h5:L.length=5){Q:Unit→Shared→Prop}
 (h:∀ t' L',jr t' 31 ld L'→Rise L'→Reach L' 31→L'.length=5→(∀ p,(∃ e∈L',e.2=p)↔∃ e∈L,e.2=p)→Q () { s with heap:=s.heap.update S (Obj.putSet (elems L') t') }) :
 wpAny (model prog w) A (setRelay S (grown 5)) Q E s:=by
 have hsz:(elems L).size=5:=by simp[elems,h5]
 have hfit:t.fits (elems L).size=true:=by
  simp only[SetTable.fits,SetTable.fill,ht.place,ht.dummies,ht.mask,places,elems,aG,aQ,aK]
  simp[h5]
 have h32:sizeAbove (grown 5)=32:=by decide
 refine fF (zib (t:=t) (wanted:=grown 5) (es:=elems L) zlc (by rw[h32]) (by rw[hsz];decide) ht.led ht.plain) ?_;intro t' order L' e1 e2 e3 e4 eD;refine fz eD ?_;clear eD;intro e5 e6 e7 e8
 have hl':(elems L').size=(elems L).size:=by rw[← e3];simp[elems]
 have fin:=h t' L' e4 e5 e6 (by rw[e3,hsz]) fun p=>by
  rw[e8]
  unfold elems
  rw[List.mem_toArray,av]
 rw[← e2] at fin hl'
 clear h e2 e3 e4 e5 e6 e7 e8
 rw[zfn]
 refine aa (cD ho hd hfit (a9 (by rw[h32,cI];rfl) (aa ?_)))
 dsimp only
 rw[e1]
 exact a9 (by rw[hl',bne_self_eq_false];rfl) (ab (wpAny_storeSet_of ho hd fin (by rw[hl',hsz,cI];decide)))
theorem zaq(a:Addr)(x:Value)(h:Int)(fuel:Nat):setAddHashedIn a x h (fuel+1)=(do
 let (es₀,_,t₀) ← setState a
 if byScan x es₀ then
  match ← setAddByScan a x h es₀ t₀ with
  | some added=>return added
  | none=>return ← setAddHashedIn a x h fuel
 let .free slot wasDummy ← setSearch a x h (adding:=true) | return false
 let (es,_,t) ← setState a
 let (t,p):=t.put slot
 let byValue ← if t.plain then hashByValue 8 x else pure true
 let t:=if byValue then t else { t with plain:=false }
 storeSet a (SetTable.insertAt es p (h,x)) t
 if !wasDummy && t.tooFull then setRelay a (SetTable.grown (es.size+1))
 return true):=rfl
theorem zj7{t:SetTable}{m n:Nat}{ld:Bool}{L:List Ent}{h:Int}{x:Value}(ht:jr t m ld L)(hr:Rise L)(hre:Reach L m)(hf:FirstFree L m n (yw m h)) :
 ∃ p t₁ L',t.put (advN m n (yw m h)).j=(t₁,p)∧insertAt (elems L) p (h,x)=elems L'∧jr t₁ m ld L'∧Rise L'∧Reach L' m∧L'.length=L.length+1∧∀ y,(∃ e∈L',e.2=y)↔y=(h,x)∨∃ e∈L,e.2=y:=by
 refine fH (zqu ht hr hf.1 h x) ?_;intro A B eo p1 p2 p3 p4;subst eo
 refine⟨A.length,_,_,Prod.ext rfl p1,p4,p2,p3,hre.put hf,?_,fun y=>?_⟩
 ·rw[aX,aX];rfl
 ·constructor
  ·rintro⟨e,he,rfl⟩
   refine eW (ai.mp he) ?_ ?_
   ·intro he;exact .inr ⟨e,az _ he,rfl⟩
   ·intro he;refine eW (ae.mp he) ?_ ?_
    ·rintro rfl;exact .inl rfl
    ·intro he;exact .inr ⟨e,au _ he,rfl⟩
  ·rintro (rfl | ⟨e,he,rfl⟩)
   ·exact eZ _ (au _ ao) rfl
   ·refine eZ e ?_ rfl
    refine eW (ai.mp he) ?_ ?_
    ·intro he;exact az _ he
    ·intro he;exact au _ (ag _ he)
theorem TSet.more{h h':Heap}{S a:Addr}{ld:Bool}{K:List (List Int)}{ks:List Int}{o o':Obj}{ep' m':Nat}{t':SetTable}{L L' L'':List Ent}(ho:h.get? S=some o)(hex:o.ExactSet)(hk:TK prog w h ks a)(hlen:L.length=K.length)(hnd:K.Nodup)(hent:Ents prog w h L)
 (hmem:∀ ks,ks∈K↔∃ e∈L,∃ b,e.2.2=.ref b∧TK prog w h ks b) (hnK:ks∉K) (hnew:∀ y,(∃ e∈L',e.2=y)↔y=(tkh prog w ks,Value.ref a)∨∃ e∈L,e.2=y)
 (hsb:Heap.SameBut S h h') (ho':h'.get? S=some o') (hex':o'.ExactSet) (hd':o'.data=.set (elems L'') ep' t') (ht':jr t' m' ld L'') (hr':Rise L'') (hre':Reach L'' m') (hl':L''.length=L.length+1)
 (hsame:∀ p,(∃ e∈L'',e.2=p)↔∃ e∈L',e.2=p) (hm':(m'=7∧L''.length≤4)∨(m'=31∧L''.length≤18)):TSet prog w h' S ld (K++[ks]):=by
 have hn:∀ y,(∃ e∈L'',e.2=y)↔y=(tkh prog w ks,Value.ref a)∨∃ e∈L,e.2=y:=fun y=>(hsame y).trans (hnew y)
 have tk:=zce ho hex hsb hk
 refine⟨o',ep',t',m',L'',ho',hex',hd',ht',hr',hre',by rw[hl',hlen,aX];rfl,?_,?_,fun ks'=>?_,hm'⟩
 ·exact bM.mpr ⟨hnd,bH.mpr ⟨dJ,List.nodup_nil⟩,fun x hx y hy=>by rw[ac.mp hy];rintro rfl;exact hnK hx⟩
 ·intro e he
  refine eW ((hn e.2).mp ⟨e,he,rfl⟩) ?_ ?_
  ·intro q;rw[q];exact fj a ks rfl tk rfl
  ·rintro ⟨e₁,he₁,q⟩;rw[← q]
   refine fk (hent e₁ he₁) ?_;intro b ks' q1 q2 q3
   exact fj b ks' q1 (zce ho hex hsb q2) q3
 ·rw[ai,ac,hmem]
  constructor
  ·rintro (⟨e,he,b,hb,hkb⟩ | rfl)
   ·refine eY ((hn e.2).mpr (.inr ⟨e,he,rfl⟩)) ?_;intro e₁ he₁ q
    exact⟨e₁,he₁,b,q ▸ hb,zce ho hex hsb hkb⟩
   ·refine eY ((hn _).mpr (.inl rfl)) ?_;intro e₁ he₁ q
    exact⟨e₁,he₁,a,q ▸ rfl,tk⟩
  ·rintro⟨e,he,b,hb,hkb⟩
   have hkb':TK prog w h ks' b:=zm4 ho' hex' hsb hkb
   refine eW ((hn e.2).mp ⟨e,he,rfl⟩) ?_ ?_
   ·intro q;rw[q] at hb
    injection hb with eU;subst eU
    exact .inr (IsTupleKey.inj hkb' hk)
   ·rintro ⟨e₁,he₁,q⟩;exact .inl ⟨e₁,he₁,b,q ▸ hb,hkb'⟩
theorem zfb{t:SetTable}{m:Nat}{ld:Bool}{L:List Ent}(ht:jr t m ld L):t.tooFull=decide (m * 3≤L.length * 5):=by
 unfold tooFull fill
 rw[ht.place,ht.dummies,ht.mask]
 simp[places]
theorem zo5{S:Addr}{ld:Bool}{K:List (List Int)}(hS:TSet prog w s.heap S ld K)(hu:A.units < cLine){a:Addr}{ks:List Int}(hk:TK prog w s.heap ks a)(hK:K.length≤17){Q:Bool→Shared→Prop}
 (h:∀ b h',Heap.SameBut S s.heap h'→TSet prog w h' S ld (if ks∈K then K else K++[ks])→Q b { s with heap:=h' }) :
 wpAny (model prog w) A (setAddHashed S (.ref a) (tkh prog w ks)) Q E s:=by
 have old:ks∈K→∀ b,Q b s:=fun hin b=>h b s.heap (Heap.SameBut.refl S s.heap) (by rw[af hin];exact hS)
 have new:ks∉K→∀ b h',Heap.SameBut S s.heap h'→TSet prog w h' S ld (K++[ks])→Q b { s with heap:=h' }:=fun hin b h' hs hT=>h b h' hs (by rw[aj hin];exact hT)
 clear h
 obtain⟨o,ep,t,m,L,ho,hex,hd,ht,hr,hre,hlen,hnd,hent,hmem,hm⟩:=hS
 have hLm:L.length≤m:=by (refine eW hm ?_ ?_<;>clear hm;rotate_left;rintro ⟨rfl,h⟩;rotate_right;rintro ⟨rfl,h⟩) <;> exact ak h (by decide)
 have hfull:full m=true:=by (refine eW hm ?_ ?_<;>clear hm;rotate_left;rintro ⟨rfl,_⟩;rotate_right;rintro ⟨rfl,_⟩) <;> first | exact zua | exact zlc
 have hodd:m % 2=1:=by (refine eW hm ?_ ?_<;>clear hm;rotate_left;rintro ⟨rfl,_⟩;rotate_right;rintro ⟨rfl,_⟩) <;> rfl
 have hfit:t.fits (elems L).size=true:=by
  simp only[SetTable.fits,SetTable.fill,ht.place,ht.dummies,ht.mask,places,elems,aG,aQ,aK]
  simp;exact hLm
 have hstart:t.probeStart (tkh prog w ks)=yw m (tkh prog w ks):=by
  show lp t.mask (bits (tkh prog w ks) % (t.mask+1)) (bits (tkh prog w ks))=_
  rw[ht.mask];rfl
 refine eY (zix (L:=L) hfull hLm (zde m (tkh prog w ks))) ?_;intro n hn hff
 have hturn:n < 100000:=bV hn (by (refine eW hm ?_ ?_<;>clear hm;rotate_left;rintro ⟨rfl,_⟩;rotate_right;rintro ⟨rfl,_⟩) <;> decide)
 have hnot:(∀ k,k < n→∀ e∈L,e.1=(advN m k (yw m (tkh prog w ks))).j→∀ b,e.2.2=.ref b→¬ TK prog w s.heap ks b)→ks∉K:=fun hno hin=>by
  refine eY ((hmem ks).mp hin) ?_;intro e he eo;refine eY eo ?_;clear eo;intro b hb hkb
  refine fk (hent e he) ?_;intro b' ks' q1 q2 q3
  rw[hb] at q1;injection q1 with eU;subst eU
  rw[IsTupleKey.inj q2 hkb] at q3
  refine eY (hre.before he (q3.symm ▸ hff)) ?_;intro k hk1 hk2
  rw[q3] at hk2
  exact hno k hk1 e he hk2.symm b hb hkb
 refine fF (zj7 (x:=.ref a) ht hr hre hff) ?_;intro p t₁ L' eput eins p2 p3 eD;refine fg eD ?_;clear eD;intro p4 hlen' hnew
 have hsz':(elems L').size=L.length+1:=by rw[← hlen'];simp[elems]
 have hsb1:=bP s.heap S (Obj.putSet (elems L') t₁)
 have hg1:=cz (Obj.putSet (elems L') t₁) ho (by rw[putSet_of _ _ hd];rfl)
 rw[putSet_of _ _ hd] at hg1
 have last:ks∉K→wpAny (model prog w) A (if (!false && t₁.tooFull)=true then setRelay S (grown ((elems L).size+1)) >>= fun uA=>pure true else pure true) Q E { s with heap:=s.heap.update S (Obj.putSet (elems L') t₁) }:=fun hnK=>by
  have size:(elems L).size=L.length:=by simp[elems]
  rw[zfb p2,hlen']
  by_cases hfl:m * 3≤(L.length+1) * 5
  ·have h74:m=7∧L.length=4:=by (refine eW hm ?_ ?_<;>clear hm;rotate_left;rintro ⟨rfl,h⟩;rotate_right;rintro ⟨rfl,h⟩) <;> lia
   refine ff h74 ?_;clear h74;intro dZ h4;subst dZ
   rw[size,h4]
   refine wpAny_ite_true (by rw[← h4,aD hfl];rfl) (aa (zj4 (s:={ s with heap:=s.heap.update S (Obj.putSet (elems L') t₁) }) hg1 rfl p2 (hlen'.trans (cK (· + 1) h4)) fun t' L'' q1 q2 q3 q4 q5=>ab ?_))
   have hsb2:=bP (s.heap.update S (Obj.putSet (elems L') t₁)) S (Obj.putSet (elems L'') t')
   have hg2:=cz (Obj.putSet (elems L'') t') hg1 (by rw[putSet_of (es:=elems L') (ep:=ep+1) _ _ rfl];rfl)
   rw[putSet_of (es:=elems L') (ep:=ep+1) _ _ rfl] at hg2
   exact new hnK _ _ (hsb1.trans hsb2) (.more ho hex hk hlen hnd hent hmem hnK hnew (hsb1.trans hsb2) hg2 hex rfl q1 q2 q3 (q4.trans (cK (· + 1) h4.symm)) q5 (.inr ⟨rfl,q4 ▸ (by decide)⟩))
  ·exact a9 (by rw[aN hfl];rfl) (ab (new hnK _ _ hsb1 (.more ho hex hk hlen hnd hent hmem hnK hnew hsb1 hg1 hex rfl p2 p3 p4 hlen' (fun uA=>Iff.rfl) (by rw[hlen'];(refine eW hm ?_ ?_<;>clear hm;rotate_left;rintro ⟨rfl,h⟩;rotate_right;rintro ⟨rfl,h⟩) <;> lia))))
 clear hnew p3 p4 hsb1 hg1 new hfull
 unfold setAddHashed
 rw[zaq]
 refine aT (aa (cD ho hd hfit (a9 rfl ?_)))
 refine aa (zh9 ho hd ht hr hLm hodd hent hu hk (fun hin=>ab (old ((hmem ks).mpr hin) _)) 100000 n none (yw m (tkh prog w ks)) hstart hturn hn rfl hff fun hno=>?_)
 refine aa (cD ho hd hfit ?_)
 dsimp only
 rw[eput]
 refine wpAny_ite_true (by rw[p2.plain];rfl) (aa (za5 hk ?_))
 show wpAny _ _ (storeSet S (insertAt (elems L) p (tkh prog w ks,.ref a)) t₁ >>= _) _ _ _
 rw[eins]
 exact aa (wpAny_storeSet_of ho hd (last (hnot hno)) (by rw[hsz',cI];lia))
end
end Mine
end
section
namespace Mine
open PySem PyProof.Rows PySem.W
noncomputable def lexI:List Int→List Int→Bool
 | [],[]=>false
 | [],_::_=>true
 | _::_,[]=>false
 | x::xs,y::ys=>if x=y then lexI xs ys else decide (x < y)
section
variable{prog:Program}{w:World}{A:Around}{E:Value→Shared→Prop}{s:Shared}
theorem zed{x y:Int}{t u:Tok}{Q:Bool→Shared→Prop}(hu:A.units < cLine)(h:Q (decide (x=y)) s):wpAny (model prog w) A (eqBool (.int x t) (.int y u)) Q E s:=by
 have:=SeqAt.eqBoolOverData prog w A E s (.int x t) (.int y u) (.int x) (.int y) [] [] Q (.int x t) (.int y u) rfl rfl (by show A.units+min 0 0 < cLine;simpa using hu)
 refine this ?_
 exact h
theorem zat{a b:Addr}{oa ob:Obj}{xs ys:Array Value}{na nb:Nat}{x y:List Int}{P:PySem.Fin→Shared→Prop}(hu:A.units < cLine)(hoa:s.heap.get? a=some oa)(hca:oa.cls=.type "tuple")(hda:oa.data=.seq xs na)(hia:IntsAre xs.toList x)
 (hob:s.heap.get? b=some ob) (hcb:ob.cls=.type "tuple") (hdb:ob.data=.seq ys nb) (hib:IntsAre ys.toList y) (h:P (.done (.ret (.bool (lexI x y)))) s) :
 wpAny (model prog w) A (Builtin.«tuple.__lt__» ⟨[.ref a,.ref b],[]⟩) P E s:=by
 have hTb:s.TypeIs (.ref b) "tuple":=⟨ob,hob,hcb⟩
 show wpAny _ _ (isInstance (.ref b) (.type "tuple") >>= _) _ _ s
 refine aa (cO hTb cw ?_)
 simp only[a0,aO,bo]
 refine aa (bK hoa hda ?_)
 refine aa (bK hob hdb ?_)
 refine aa ?_
 refine bD _
  (fun rest r s'=>r.1=none∧s'=s∧∃ x' y' xs' ys',rest=List.zip xs' ys'∧IntsAre xs' x'∧IntsAre ys' y'∧lexI x' y'=lexI x y∧(decide (xs'.length < ys'.length))=(decide (xs.size < ys.size)))
  _ ?_ ?_ _ _ ⟨rfl,rfl,x,y,xs.toList,ys.toList,rfl,hia,hib,rfl,by simp⟩
 ·rintro⟨u,v⟩ rest r s' ⟨hr,rfl,x',y',xs',ys',hz,hx',hy',hdec,hlen⟩
  cases hx' with
  | nil=>simp at hz
  | cons k1 t1 hx''=>
    cases hy' with
    | nil=>simp at hz
    | cons k2 t2 hy''=>
      simp only[List.zip_cons_cons,List.cons.injEq,Prod.mk.injEq] at hz
      refine ff hz ?_;clear hz;intro dZ eg;refine ff dZ ?_;clear dZ;intro dZ eg;subst dZ;subst eg;subst eg
      refine aa (zed hu ?_)
      by_cases hk:k1=k2
      ·subst hk
       rw[aD rfl]
       simp only[a0,aO,bo]
       refine ab ⟨rfl,rfl,_,_,_,_,rfl,hx'',hy'',?_,by simpa using hlen⟩
       rw[← hdec]
       simp[lexI]
      ·rw[aN hk]
       simp only[Bool.not_false,cJ]
       have hf:lexI x y=decide (k1 < k2):=by rw[← hdec];simp[lexI,hk]
       rw[hf] at h
       refine aa (dL (aa ?_))
       refine wpAny_lt_int (A:=A) ?_
       exact aa (ab (ab (ab h)))
 ·rintro⟨r1,r2⟩ s' ⟨hr,rfl,x',y',xs',ys',hz,hx',hy',hdec,hlen⟩
  simp only at hr
  subst hr
  refine ab ?_
  have hfin:decide (xs.size < ys.size)=lexI x y:=by
   rw[← hdec,← hlen]
   cases hx' with
   | nil=>
     cases hy' with
     | nil=>simp[lexI]
     | cons _ _ _=>simp[lexI]
   | cons _ _ _=>
     cases hy' with
     | nil=>simp[lexI]
     | cons _ _ _=>simp at hz
  show P (.done (.ret (.bool (decide (xs.size < ys.size))))) s'
  rw[hfin];exact h
theorem zim{a b:Addr}{oa ob:Obj}{xs ys:Array Value}{na nb:Nat}{x y:List Int}{Q:Value→Shared→Prop}(hu:A.units+1 < cLine)(hoa:s.heap.get? a=some oa)(hca:oa.cls=.type "tuple")(hda:oa.data=.seq xs na)(hia:IntsAre xs.toList x)
 (hob:s.heap.get? b=some ob) (hcb:ob.cls=.type "tuple") (hdb:ob.data=.seq ys nb) (hib:IntsAre ys.toList y) (h:Q (.bool (lexI x y)) s):wpAny (model prog w) A (compareOp .Lt (.ref a) (.ref b)) Q E s:=by
 show wpAny _ _ (richCompare .Lt (.ref a) (.ref b)) Q E s
 have hTa:s.TypeIs (.ref a) "tuple":=⟨oa,hoa,hca⟩
 have hTb:s.TypeIs (.ref b) "tuple":=⟨ob,hob,hcb⟩
 exact dF (op:=.Lt) hTa hTb F.slot_tuple_lt (bq F.slot_tuple_lt hTa F.entry_tuple_lt (zat (A:=A.in1) hu hoa hca hda hia hob hcb hdb hib ⟨_,rfl,(fun e=>nomatch e),h⟩) (F.args_tuple_lt_2 _ _)) (by exact Nat.le_of_lt (by assumption))
noncomputable def wm{α:Type}(lt:Nat→Nat→Option Bool):KasT α→Option α
 | .ret a=>some a
 | .ask i j k=>match lt i j with
   | some b=>wm lt (k b)
   | none=>none
theorem zkw{α:Type}{cmp:Nat→Nat→(Bool→Shared→Prop)→Shared→Prop}{lt:Nat→Nat→Option Bool}{s:Shared}(hc:∀ i j b (C:Bool→Shared→Prop),lt i j=some b→C b s→cmp i j C s){Q:α→Shared→Prop}{a:α}(hq:Q a s) :
 ∀ (t:KasT α),wm lt t=some a→t.kasWp cmp Q s
 | .ret b,h=>by injection h with eU;subst eU;exact hq
 | .ask i j k,h=>by
   unfold wm at h
   cases hl:lt i j with
   | none=>rw[hl] at h;exfalso;injection h
   | some b=>
     rw[hl] at h
     exact hc i j b _ hl (zkw hc hq (k b) h)
theorem zh1{a:Addr}{vs:List Value}{n:Nat}{κ:SortKind}{lt:Nat→Nat→Option Bool}{out:List Value}{P:PySem.Fin→Shared→Prop}(ho:s.heap.get? a=some (seqObj "list" vs.toArray n))(h64:vs.length < 64)
 (hk:∀ (s':Shared),(∀ b o,b≠a→s.heap.get? b=some o→s'.heap.get? b=some o)→2≤vs.length→∀ (Q:SortKind→Shared→Prop),Q κ s'→wpAny (model prog w) A (keyKind' vs.toArray) Q E s')
 (hc:∀ (s':Shared),(∀ b o,b≠a→s.heap.get? b=some o→s'.heap.get? b=some o)→∀ i j b (C:Bool→Shared→Prop),lt i j=some b→C b s'→wpAny (model prog w) A (keyLt' κ (vs.getD i Value.none) (vs.getD j Value.none)) C (fun uA uA=>False) s')
 (hev:(vs.length < 2∧out=vs)∨(2≤vs.length∧∃ p,wm lt (kas_sort vs.length)=some p∧out=p.toList.map fun i=>vs.getD i Value.none))
 (h:P (.done (.ret .none)) { s with heap:=sortedHeap s.heap a vs out.toArray }):wpAny (model prog w) A (Builtin.«list.sort» ⟨[.ref a],[]⟩) P E s:=by
 rw[list_sort_plain]
 have ha:a < s.heap.objs.size:=a6 ho
 refine aa (listItems_at ho rfl ?_)
 refine aa (listUpdate_at ho rfl ?_ (by rw[List.size_toArray,cI];lia) (a8 _))
 obtain ⟨e1,ho1⟩ : ∃ e1,(s.heap.update a (Obj.mapSeq fun uA=>#[])).get? a=some (seqObj "list" #[] e1):=⟨_,get?_update_seq ho (fun uA=>#[])⟩
 refine aa (seqEpoch_at ho1 rfl ?_)
 refine aa (wpAny_newTuple ?_ (by show vs.length≤_;rw[cI];lia))
 refine aa (wpAny_newList ?_ (a8 _))
 refine aT ?_
 have ho6:(((s.heap.update a (Obj.mapSeq fun uA=>#[])).push (seqObj "tuple" vs.toArray 0)).push (seqObj "list" #[] 0)).get? a=some (seqObj "list" #[] e1):=by
  rw[cE _ _ _ (by rw[size_push',dO];exact bm (cC ha)),cE _ _ _ (by rw[dO];exact bm ha)]
  exact ho1
 show wpAny (model prog w) A _ P E { s with heap:=((s.heap.update a (Obj.mapSeq fun uA=>#[])).push (seqObj "tuple" vs.toArray 0)).push (seqObj "list" #[] 0) }
 have keep:∀ b o,b≠a→s.heap.get? b=some o→(((s.heap.update a (Obj.mapSeq fun uA=>#[])).push (seqObj "tuple" vs.toArray 0)).push (seqObj "list" #[] 0)).get? b=some o:=fun b o hb e=>
  ah _ (ah _ ((dT _ _ _ _ hb).trans e))
 dsimp only
 have hsz:vs.toArray.size=vs.length:=by simp
 refine eW hev ?_ ?_<;>clear hev
 ·rintro ⟨h2,hout⟩;rw[hout] at h
  have h2':vs.toArray.size < 2:=by rw[hsz];exact h2
  rw[af h2',af h2']
  refine aa (ab ?_)
  rw[StateT.run_pure]
  refine aa (ab ?_)
  dsimp only
  refine aa (seqEpoch_at ho6 rfl ?_)
  have hmap:Array.map (fun x=>x.2) (arrOf (SortSt.mk' general' (vs.toArray.zip vs.toArray) #[] 7 none))=vs.toArray:=by
   show Array.map (fun x=>x.2) (vs.toArray.zip vs.toArray)=vs.toArray
   apply Array.toList_inj.mp
   simp[List.map_snd_zip]
  rw[hmap]
  refine aa (listUpdate_at ho6 rfl ?_ (a8 _) (by rw[List.size_toArray,cI];lia))
  simp only[bne_self_eq_false,aO,bo]
  exact ab h
 ·rintro ⟨h2,p,hp,rfl⟩;have h2':¬ vs.toArray.size < 2:=by rw[hsz];lia
  rw[aj h2',aj h2']
  refine aa (hk _ keep h2 _ ?_)
  refine aa (aM (kat_run (ks:=vs) (Q:=fun st' s'=>s' = { s with heap:=((s.heap.update a (Obj.mapSeq fun uA=>#[])).push (seqObj "tuple" vs.toArray 0)).push (seqObj "list" #[] 0) }∧p.size=vs.length∧arrOf st'=p.map (kas_item (vs.toArray.zip vs.toArray))∧failedOf st'=none)
   (G:=fun q s'=>q=p∧s' = { s with heap:=((s.heap.update a (Obj.mapSeq fun uA=>#[])).push (seqObj "tuple" vs.toArray 0)).push (seqObj "list" #[] 0) }) rfl h2 h64 (fun q st' s' a1 a2 a3 a4=>by refine ff a4 ?_;clear a4;intro dZ eg;subst dZ;subst eg;exact ⟨rfl,a1,a2,a3⟩)
   (zkw (fun i j b C hl hC=>hc _ keep i j b C hl hC) ⟨rfl,rfl⟩ _ hp)) ?_ fun uA uA e=>e)
  rintro⟨⟨⟩,st'⟩ s' ⟨rfl,hps,har,hf⟩
  dsimp only
  refine aa (seqEpoch_at ho6 rfl ?_)
  rw[kat_snds rfl har]
  refine aa (listUpdate_at ho6 rfl ?_ (a8 _) (by rw[List.size_toArray,aw,aC,hps,cI];lia))
  rw[hf]
  simp only[bne_self_eq_false,aO,bo]
  exact ab h
theorem zdi{h:Heap}{a:Addr}{vs out:List Value}{n:Nat}(ho:h.get? a=some (seqObj "list" vs.toArray n)) :
 (∀ b o,b≠a→h.get? b=some o→(sortedHeap h a vs out.toArray).get? b=some o)∧∃ c,(sortedHeap h a vs out.toArray).get? a=some (seqObj "list" out.toArray c):=by
 have ha:a < h.objs.size:=a6 ho
 obtain ⟨e1,ho1⟩ : ∃ e1,(h.update a (Obj.mapSeq fun uA=>#[])).get? a=some (seqObj "list" #[] e1):=⟨_,get?_update_seq ho (fun uA=>#[])⟩
 have ho6:(((h.update a (Obj.mapSeq fun uA=>#[])).push (seqObj "tuple" vs.toArray 0)).push (seqObj "list" #[] 0)).get? a=some (seqObj "list" #[] e1):=by
  rw[cE _ _ _ (by rw[size_push',dO];exact bm (cC ha)),cE _ _ _ (by rw[dO];exact bm ha)]
  exact ho1
 refine⟨fun b o hb e=>?_,_,get?_update_seq ho6 fun uA=>out.toArray⟩
 unfold sortedHeap
 rw[dT _ _ _ _ hb]
 exact ah _ (ah _ ((dT _ _ _ _ hb).trans e))
theorem zdh{l:Addr}{vs:List Value}{κ:SortKind}{lt:Nat→Nat→Option Bool}{out:List Value}{Q:Value→Shared→Prop}(hl:s.heap.IsList l vs.toArray)(h64:vs.length < 64)
 (hk:∀ (s':Shared),(∀ b o,s.heap.get? b=some o→s'.heap.get? b=some o)→2≤vs.length→∀ (Q:SortKind→Shared→Prop),Q κ s'→wpAny (model prog w) A.in1.in1 (keyKind' vs.toArray) Q (fun uA uA=>False) s')
 (hc:∀ (s':Shared),(∀ b o,s.heap.get? b=some o→s'.heap.get? b=some o)→∀ i j b (C:Bool→Shared→Prop),lt i j=some b→C b s'→wpAny (model prog w) A.in1.in1 (keyLt' κ (vs.getD i Value.none) (vs.getD j Value.none)) C (fun uA uA=>False) s')
 (hev:(vs.length < 2∧out=vs)∨(2≤vs.length∧∃ p,wm lt (kas_sort vs.length)=some p∧out=p.toList.map fun i=>vs.getD i Value.none))
 (h:∀ D h' c,s.heap.get? D=none→(∀ b o,s.heap.get? b=some o→h'.get? b=some o)→h'.get? D=some (seqObj "list" out.toArray c)→Q (.ref D) { s with heap:=h' }) :
 wpAny (model prog w) A (call (.builtin "sorted") [.ref l]) Q E s:=by
 refine Calls.call_function_entry kind_sorted plain_sorted entry_sorted (args_sorted1 _) ?_
 unfold Builtin.«sorted»
 refine aa (m:=checkCount "sorted" 1 1 _) (ab ?_)
 refine aa (collect_list hl ?_ (by rw[cI];lia))
 refine aa (wpAny_newList ?_ (by rw[cI];lia))
 have hsz:((s.heap.push (seqObj "list" #[] 0)).update s.heap.objs.size (Obj.mapSeq (·++vs.toArray))).objs.size=s.heap.objs.size+1:=by
  rw[dO,size_push']
 have hoL:(((s.heap.push (seqObj "list" #[] 0)).update s.heap.objs.size (Obj.mapSeq (·++vs.toArray))).push (seqObj "list" vs.toArray 0)).get? (s.heap.objs.size+1)=some (seqObj "list" vs.toArray 0):=by
  rw[← hsz];exact aF _ rfl
 have keep:∀ b o,s.heap.get? b=some o→(((s.heap.push (seqObj "list" #[] 0)).update s.heap.objs.size (Obj.mapSeq (·++vs.toArray))).push (seqObj "list" vs.toArray 0)).get? b=some o:=fun b o q=>by
  have hlt:b < s.heap.objs.size:=a6 q
  rw[cE _ _ _ (by rw[hsz];exact bm (cC hlt)),dT _ _ _ _ (bm hlt),cE _ _ _ (bm hlt)]
  exact q
 have ne:∀ b o,s.heap.get? b=some o→b≠s.heap.objs.size+1:=fun b o q=>bm (cC (a6 q))
 show wpAny _ _ _ _ _ { s with heap:=((s.heap.push (seqObj "list" #[] 0)).update s.heap.objs.size (Obj.mapSeq (·++vs.toArray))).push (seqObj "list" vs.toArray 0) }
 rw[hsz]
 obtain⟨k1,c,k2⟩:=zdi (out:=out) hoL
 refine aa (aT (bq slot_list_sort ⟨_,hoL,rfl⟩ entry_list_sort ?body (args_list_sort _)))
 case body=>
  refine aM (zh1 (E:=fun uA uA=>False) (P:=fun r s'=>r=.done (.ret .none)∧s'=_) hoL h64 (fun s' hk' h2 Q q=>hk s' (fun b o e=>hk' b o (ne b o e) (keep b o e)) h2 Q q) (fun s' hk' i j b C hl hC=>hc s' (fun b o e=>hk' b o (ne b o e) (keep b o e)) i j b C hl hC) hev ⟨rfl,rfl⟩) (fun r s' hr=>?_) fun uA uA x=>x.elim
  refine ff hr ?_;clear hr;intro dZ eg;subst dZ;subst eg
  exact eZ _ rfl (ab ⟨_,rfl,h _ _ c (bj (cH _)) (fun b o e=>k1 b o (ne b o e) (keep b o e)) k2⟩)
end
noncomputable def za9:PyData→Option (List Int)
 | .tuple a=>Mine.intsOf a
 | _=>none
noncomputable def zpg:List PyData→Option (List Int×List Int)
 | [x,y]=>(za9 x).bind fun a=>(za9 y).map fun b=>(a,b)
 | _=>none
noncomputable def pairOf:PyData→Option (List Int×List Int)
 | .tuple xs=>zpg xs
 | _=>none
noncomputable def ltP(p q:List Int×List Int):Bool:=if p.1=q.1 then (if p.2=q.2 then false else lexI p.2 q.2) else lexI p.1 q.1
noncomputable def ltAt(ps:List (List Int×List Int))(i j:Nat):Option Bool:=match ps[i]?,ps[j]? with
 | some p,some q=>some (ltP p q)
 | _,_=>none
noncomputable def j3:List PyData→Option (List (List Int×List Int))
 | []=>some []
 | x::r=>(pairOf x).bind fun p=>(j3 r).map (p::·)
noncomputable def zdf(xs:List PyData):Option (List PyData):=(j3 xs).bind fun ps=>if xs.length < 2 then some xs else (wm (ltAt ps) (kas_sort xs.length)).map fun p=>p.toList.map fun i=>xs.getD i .none
theorem lays:∀ is:List Int,PyData.canLayAll0 (is.map .int)=true
 | []=>rfl
 | _::is=>lays is
theorem qg:∀ a b:List Int,PyData.eqvAll (a.map .int) (b.map .int)=decide (a=b)
 | [],[]=>rfl
 | [],_::_=>rfl
 | _::_,[]=>rfl
 | x::a,y::b=>by
   show (decide (x=y) && PyData.eqvAll (a.map .int) (b.map .int))=_
   rw[qg a b]
   by_cases h:x=y <;> by_cases h':a=b <;> simp[h,h']
theorem qi:∀ a:List Int,PyData.depthAll (a.map .int)≤0
 | []=>aL 0
 | _::a=>Nat.max_le.mpr ⟨aL 0,qi a⟩
theorem zd4{a:List PyData}{x:List Int}(h:Mine.intsOf a=some x):PyData.canLayAll0 a=true:=by rw[ints_length h];exact lays x
theorem zk2{a b:List PyData}{x y:List Int}(h1:Mine.intsOf a=some x)(h2:Mine.intsOf b=some y):PyData.eqvAll a b=decide (x=y):=by rw[ints_length h1,ints_length h2];exact qg x y
theorem zgd{a:List PyData}{x:List Int}(h:Mine.intsOf a=some x):PyData.depthAll a≤0:=by rw[ints_length h];exact qi x
inductive TupI(h:Heap)(b:Addr)(p:List Int):Prop
 | mk (o:Obj) (n:Nat) (vs:Array Value) (g1:h.get? b=some o) (g2:o.cls=.type "tuple") (g3:o.data=.seq vs n) (g4:IntsAre vs.toList p) (xs:List PyData) (as:List Addr) (r:Reads h (.ref b) (.tuple xs) as) (i:Mine.intsOf xs=some p)
inductive PairAt(h:Heap)(v:Value)(p:List Int×List Int):Prop
 | mk (a b c:Addr) (o:Obj) (n:Nat) (e:v=.ref a) (h1:h.get? a=some o) (h2:o.cls=.type "tuple") (h3:o.data=.seq #[.ref b,.ref c] n) (t1:TupI h b p.1) (t2:TupI h c p.2)
theorem zcd{h:Heap}{v:Value}{x:PyData}{as:List Addr}{p:List Int}(r:Reads h v x as)(e:za9 x=some p):∃ b,v=.ref b∧TupI h b p:=by
 cases x <;> first | (cases e;done) | skip
 have r':=r
 cases r with
 | tuple h1 h2 h3 h4=>exact⟨_,rfl,_,_,_,h1,h2,h3,ints_get h4 e,_,_,r',e⟩
theorem zif{xs:List PyData}{p:List Int×List Int}(e:zpg xs=some p):∃ x y,xs=[x,y]∧za9 x=some p.1∧za9 y=some p.2:=by
 cases xs with
 | nil=>exfalso;injection e
 | cons x xs=>cases xs with
   | nil=>exfalso;injection e
   | cons y xs=>cases xs with
     | cons _ _=>exfalso;injection e
     | nil=>
       refine eY (aW.mp e) ?_;intro a h1 e
       refine eY (aE.mp e) ?_;intro b h2 eo;subst eo
       exact fj x y rfl h1 h2
set_option tactic.hygienic true in
theorem znk{h:Heap}{v:Value}{x:PyData}{as:List Addr}{p:List Int×List Int}(r:Reads h v x as)(e:pairOf x=some p):PairAt h v p:=by
 cases x <;> first | (cases e;done) | skip
 refine fk (zif e) ?_;intro x y eo hx hy;subst eo
 cases r with
 | tuple h1 h2 h3 h4=>
   rename_i ad o vs n
   refine fq (wd (P:=fun uA=>True) h4 fun uA uA=>trivial) ?_;intro v1 v2 bs cs hvs eB;refine fz eB ?_;clear eB;intro r1 _ r2 _
   refine eY (zcd r1 hx) ?_;intro b eg t1;subst eg
   refine eY (zcd r2 hy) ?_;intro c eg t2;subst eg
   exact⟨_,b,c,o,n,rfl,h1,h2,by rw[h3,Array.toList_inj.mp (show vs.toList = #[Value.ref b,.ref c].toList from hvs)],t1,t2⟩
theorem TupI.keeps{h h':Heap}{b:Addr}{p:List Int}(hk:∀ b o,h.get? b=some o→h'.get? b=some o)(x:TupI h b p):TupI h' b p:=
 let ⟨o,n,vs,g1,g2,g3,g4,xs,as,r,i⟩:=x;⟨o,n,vs,hk _ _ g1,g2,g3,g4,xs,as,z6 hk r,i⟩
theorem PairAt.keeps{h h':Heap}{v:Value}{p:List Int×List Int}(hk:∀ b o,h.get? b=some o→h'.get? b=some o)(x:PairAt h v p):PairAt h' v p:=
 let ⟨a,b,c,o,n,e,h1,h2,h3,t1,t2⟩:=x;⟨a,b,c,o,n,e,hk _ _ h1,h2,h3,t1.keeps hk,t2.keeps hk⟩
theorem pairs_at{h:Heap}{vs:List Value}{xs:List PyData}{as:List Addr}(r:ReadsAll h vs xs as):∀ {ps:List (List Int×List Int)},j3 xs=some ps→vs.length=ps.length∧∀ (i:Nat) p,ps[i]?=some p→∃ v,vs[i]?=some v∧PairAt h v p:=by
 refine zz (motive:=fun vs xs uA=>∀ {ps:List (List Int×List Int)},j3 xs=some ps→vs.length=ps.length∧∀ (i:Nat) p,ps[i]?=some p→∃ v,vs[i]?=some v∧PairAt h v p) ?_ ?_ r
 ·intro ps e;injection e with eU;subst eU;exact⟨rfl,fun i p h=>by rw[List.getElem?_nil] at h;exfalso;injection h⟩
 ·intro v d as vs ds bs r _ ih ps e
  refine eY (aW.mp e) ?_;intro p hx e
  refine eY (aE.mp e) ?_;intro q hr eo;subst eo
  refine ff (ih hr) ?_;intro l k
  refine⟨cK (· + 1) l,fun i p' h=>?_⟩
  cases i with
  | zero=>have h:some p=some p':=h
          injection h with eU;subst eU;exact eZ v rfl (znk r hx)
  | succ i=>exact k i p' h
section
variable{prog:Program}{w:World}{A:Around}{E:Value→Shared→Prop}{s:Shared}
theorem zhm{b b':Addr}{p q:List Int}{C:Bool→Shared→Prop}(hu:A.units+10 < cLine)(t:TupI s.heap b p)(t':TupI s.heap b' q)(h:C (decide (p=q)) s):wpAny (model prog w) A (eqBool (.ref b) (.ref b')) C E s:=by
 obtain⟨_,_,_,_,_,_,_,xs,as,r,i⟩:=t
 obtain⟨_,_,_,_,_,_,_,xs',as',r',i'⟩:=t'
 have d1:(PyData.tuple xs).depth≤1:=cj (zgd i)
 refine SeqAt.eqBoolOverData prog w A _ s _ _ _ _ _ _ _ r r' (zd4 i) (zd4 i') (by lia) ?_
 have e1:PyData.eqv (.tuple xs) (.tuple xs')=decide (p=q):=zk2 i i'
 rw[e1];exact h
theorem zg9{b b':Addr}{p q:List Int}{Q:Value→Shared→Prop}(hu:A.units+1 < cLine)(t:TupI s.heap b p)(t':TupI s.heap b' q)(h:Q (.bool (lexI p q)) s):wpAny (model prog w) A (compareOp .Lt (.ref b) (.ref b')) Q E s:=by
 obtain⟨_,_,_,g1,g2,g3,g4,_,_,_,_⟩:=t
 obtain⟨_,_,_,k1,k2,k3,k4,_,_,_,_⟩:=t'
 exact zim hu g1 g2 g3 g4 k1 k2 k3 k4 h
theorem zkm{v u:Value}{p q:List Int×List Int}{C:Bool→Shared→Prop}(hu:A.units+10 < cLine)(hv:PairAt s.heap v p)(hw:PairAt s.heap u q)(h:C (ltP p q) s):wpAny (model prog w) A (keyLt' (tuples' false) v u) C E s:=by
 obtain⟨a,b,c,o,n,rfl,h1,h2,h3,t1,t2⟩:=hv
 obtain⟨a',b',c',o',n',rfl,h1',h2',h3',t1',t2'⟩:=hw
 have hu1:A.units+1 < cLine:=by lia
 refine kat_lt h1 h3 h1' h3' ?_
 show KatLex prog w A false (decide (2 < 2)) C [(.ref b,.ref b'),(.ref c,.ref c')] 0 s
 refine kat_cons (zhm hu t1 t1' ?_)
 unfold ltP at h
 by_cases hp:p.1=q.1
 ·rw[af hp] at h
  rw[aD hp]
  refine kat_yes (kat_cons (zhm hu t2 t2' ?_))
  by_cases hq:p.2=q.2
  ·rw[af hq] at h
   rw[aD hq]
   exact kat_yes (kat_nil h)
  ·rw[aj hq] at h
   rw[aN hq]
   exact kat_no (kat_one _ _ (zg9 hu1 t2 t2' h))
 ·rw[aj hp] at h
  rw[aN hp]
  exact kat_no (kat_one _ _ (zg9 hu1 t1 t1' h))
theorem zf8{vs:List Value}{ps:List (List Int×List Int)}{Q:SortKind→Shared→Prop}(hl:vs.length=ps.length)(hp:∀ (i:Nat) p,ps[i]?=some p→∃ v,vs[i]?=some v∧PairAt s.heap v p)(h2:2≤vs.length)(h:Q (tuples' false) s) :
 wpAny (model prog w) A (keyKind' vs.toArray) Q E s:=by
 have key:∀ (vs:List Value) (ps:List (List Int×List Int)),vs.length=ps.length→(∀ (i:Nat) p,ps[i]?=some p→∃ v,vs[i]?=some v∧PairAt s.heap v p)→∃ fs,KatTups s.heap vs fs∧fs.length=vs.length∧∀ f∈fs,∃ b o,f=Value.ref b∧s.heap.get? b=some o∧o.cls=.type "tuple":=by
  intro vs
  induction vs with
  | nil=>intro ps _ _;exact fi [] trivial rfl (fun uA h=>nomatch h)
  | cons v vs ih=>
    intro ps hl hp
    cases ps with
    | nil=>exfalso;injection hl
    | cons p ps=>
      refine ft (ih ps (dD hl) fun i p' h=>hp (i+1) p' h) ?_;intro fs k1 k2 k3
      refine eY (hp 0 p rfl) ?_;intro v' e eo;obtain ⟨a,b,c,o,n,rfl,h1,h2,h3,⟨o1,_,_,g1,g2,_,_,_,_,_,_⟩,_⟩:=eo
      have e:some v=some _:=e
      injection e with eU;subst eU
      refine fi (.ref b::fs) (KatTups.cons h1 h2 h3 (by simp) k1) (by simp[k2]) (fun f hf=>?_)
      refine eW (ae.mp hf) ?_ ?_
      ·rintro rfl;exact fj b o1 rfl g1 g2
      ·intro hf;exact k3 f hf
 refine ft (key vs ps hl hp) ?_;intro fs k1 k2 k3
 refine kat_kind (T:=.type "tuple") k1 (by rw [k2];exact Nat.le_of_lt (by assumption)) (fun f hf=>?_) (by decide) h
 refine fk (k3 f hf) ?_;intro b o eo h1 h2;subst eo
 rw[← h2]
 exact (Looks.ld h1).andThen .now
end
theorem zdr{h:Heap}{P:Addr→Prop}{vs:List Value}{xs:List PyData}{as:List Addr}(r:ReadsAll h vs xs as)(q:∀ a∈as,P a)(i:Nat)(x:PyData)(e:xs[i]?=some x):∃ v bs,vs[i]?=some v∧Reads h v x bs∧∀ b∈bs,P b:=zo r q e
theorem vc{h:Heap}{P:Addr→Prop}{vs:List Value}{xs:List PyData}{as:List Addr}(r:ReadsAll h vs xs as)(q:∀ a∈as,P a):∀ (l:List Nat),(∀ i∈l,i < xs.length)→∃ bs,ReadsAll h (l.map fun i=>vs.getD i Value.none) (l.map fun i=>xs.getD i .none) bs∧∀ b∈bs,P b
 | [],_=>⟨[],.nil,fun uA h=>nomatch h⟩
 | i::l,hl=>by
   have hi:=hl i ao
   refine fk (zdr r q i _ (aq hi)) ?_;intro v bs e1 r1 q1
   refine eY (vc r q l fun j hj=>hl j (ag _ hj)) ?_;intro cs r2 q2
   refine eZ (bs++cs) ?_ (fun b hb=>(ai.mp hb).elim (q1 b) (q2 b))
   have ev:vs.getD i Value.none=v:=by simp[List.getD,e1]
   have ex:xs.getD i .none=xs[i]:=by simp[List.getD,hi]
   rw[aS,aS,ev,ex]
   exact .cons r1 r2
noncomputable def zfe(xs:List PyData):Bool:=match wm (ltAt ((j3 xs).getD [])) (kas_sort xs.length) with
 | some p=>p.toList.all fun i=>decide (i < xs.length)
 | none=>true
noncomputable def zch(xs:List PyData):Option (List PyData):=if zfe xs=true then zdf xs else none
set_option tactic.hygienic true in
theorem zqg{G:Gl}{P:Pg}(hP:P.srt=zch):zar G P:=by
 intro A F s β ρ O v d xs ys k ro sr rv hx h64 hs
 refine eY (yb sr rv hx) ?_;intro a eg eo;subst eg;obtain ⟨o,vs,n,h1,h2,h3,as,h4,h5⟩:=eo
 rw[hP] at hs
 unfold zch at hs
 by_cases hcond:zfe xs=true
 ·rw[af hcond] at hs
  ·have hy:=hs
   unfold zdf at hy
   cases hps:j3 xs with
   | none=>rw[hps] at hy;exfalso;injection hy
   | some ps=>
     rw[hps] at hy
     simp only[Option.bind_some] at hy
     refine ff (pairs_at h4 hps) ?_;intro hl hat
     have hvl:vs.toList.length=xs.length:=zd h4
     have hu:=ro.c (n:=200)
     have hL:s.heap.IsList a vs.toList.toArray:=⟨o,h1,h2,n,by simpa using h3⟩
     have fin:∀ (out:List Value) (bs:List Addr),(∀ h',(∀ b o,s.heap.get? b=some o→h'.get? b=some o)→ReadsAll h' out ys bs)→(∀ b∈bs,b∉β∧b∉F.B) →
      ((vs.toList.length < 2∧out=vs.toList)∨(2≤vs.toList.length∧∃ p,wm (ltAt ps) (kas_sort vs.toList.length)=some p∧out=p.toList.map fun i=>vs.toList.getD i Value.none)) →
      LeafD G F s β (tr G A (call (.builtin "sorted") [.ref a])) (V.d (.list ys)) (FRel G F s):=by
      intro out bs hrd hq hev
      refine LeafD.leaf sr fun Q E kk=>zdh (κ:=tuples' false) (lt:=ltAt ps) (out:=out) hL (by rw[hvl];exact h64) (fun s' hk h2' Q q=>zf8 hl (fun i p hi=>let ⟨v,e,pa⟩:=hat i p hi;⟨v,e,pa.keeps hk⟩) h2' q)
       (fun s' hk i j b C hlt hC=>?_) hev fun D h' c hDn hk hD=>?_
      ·unfold ltAt at hlt
       split at hlt
       ·rename_i p q hp hq'
        injection hlt with eU;subst eU
        refine eY (hat i p hp) ?_;intro v e pv
        refine eY (hat j q hq') ?_;intro u e' pu
        have ev:vs.toList.getD i Value.none=v:=by simp only[List.getD,e,dM]
        have eu:vs.toList.getD j Value.none=u:=by simp only[List.getD,e',dM]
        rw[ev,eu]
        exact zkm (by show A.units+1+1+10 < cLine;lia) (pv.keeps hk) (pu.keeps hk) hC
       ·exfalso;injection hlt
      ·have hDβ:D∉β∧D∉F.B:=⟨fun hm=>(by refine eY (sr.br.alive D hm) ?_;intro o e _;rw[hDn] at e;exfalso;injection e),fun hm=>(by refine eY (sr.fm.stor D hm) ?_;intro o e _;rw[hDn] at e;exfalso;injection e)⟩
       exact kk _ _ (xf (tk:=s.toks) hk) ⟨y5 hD rfl rfl (by simpa using hrd h' hk) hq hDβ,fun uA uA=>⟨D,rfl,hDn,_,hD,rfl,rfl⟩⟩
     split at hy
     ·rename_i hlt
      injection hy with eU;subst eU
      exact fin vs.toList as (fun h' hk=>zy hk h4) h5 (.inl ⟨by rw[hvl];exact hlt,rfl⟩)
     ·rename_i hge
      cases hev:wm (ltAt ps) (kas_sort xs.length) with
      | none=>rw[hev] at hy;exfalso;injection hy
      | some p=>
        rw[hev] at hy
        injection hy with eU;subst eU
        have hall:∀ i∈p.toList,i < xs.length:=by
         have:=hcond
         unfold zfe at this
         rw [hps] at this
         simp only [dM,hev] at this
         intro i hi
         exact bh (aI.mp this i hi)
        refine eY (vc h4 h5 p.toList hall) ?_;intro bs r1 q1
        exact fin _ bs (fun h' hk=>zy hk r1) q1 (.inr ⟨by rw[hvl];lia,p,by rw[hvl];exact hev,rfl⟩)
 ·rw[aj hcond] at hs;exfalso;injection hs
noncomputable def tabOf(L:List Int)(led:Bool):SetTable:={ mask:=7,place:=(L.map Int.toNat).toArray,dummies:=#[],finger:=0,led:=led,moves:=0,plain:=true }
structure Few(L:List Int)(n:Nat):Prop where
 up:L.Pairwise (· < ·)
 lo:∀ x∈L,0≤x∧x < 5
 len:L.length≤n
theorem zru{x:Int}(h:0≤x∧x < 5):∃ a:_root_.Fin 5,x=(a.val:Int):=⟨⟨x.toNat,by lia⟩,by simp;lia⟩
set_option tactic.hygienic true in
theorem zap:∀ (k:Int) (L:List Int) (x:Int),x∈addI k L↔x=k∨x∈L
 | k,[],x=>by simp[addI]
 | k,b::r,x=>by
   unfold addI
   split
   ·simp
   ·split
    ·rename_i h;subst h;simp
    ·simp only[ae,zap k r x]
     constructor
     ·rintro (h | h | h) <;> simp[h]
     ·rintro (h | h | h) <;> simp[h]
set_option tactic.hygienic true in
theorem zhv:∀ (k:Int) (L:List Int),L.Pairwise (· < ·)→(addI k L).Pairwise (· < ·)
 | k,[],_=>by simp[addI]
 | k,b::r,h=>by
   refine ff (aY.mp h) ?_;intro h1 h2
   unfold addI
   split
   ·rename_i hk
    refine aY.mpr ⟨fun x hx=>?_,h⟩
    refine eW (ae.mp hx) ?_ ?_
    ·rintro rfl;exact hk
    ·intro hx;exact Int.lt_trans hk (h1 x hx)
   ·split
    ·exact h
    ·rename_i hk hne
     refine aY.mpr ⟨fun x hx=>?_,zhv k r h2⟩
     refine eW ((zap k r x).mp hx) ?_ ?_
     ·rintro rfl;lia
     ·intro hx;exact h1 x hx
theorem ze1:∀ (k:Int) (L:List Int),(addI k L).length≤L.length+1
 | k,[]=>by simp[addI]
 | k,b::r=>by
   unfold addI
   split
   ·simp
   ·split
    ·simp
    ·have:=ze1 k r;simp;assumption
theorem Few.add{L:List Int}{k:Int}{n:Nat}(f:Few L n)(hk:0≤k∧k < 5):Few (addI k L) (n+1):=
 ⟨zhv k L f.up,fun x hx=>by refine eW ((zap k L x).mp hx) ?_ ?_;rotate_left;intro hx;rotate_right;rintro rfl;exact hk;exact f.lo x hx,ak (ze1 k L) (cj f.len)⟩
noncomputable def SmallSet(h:Heap)(S:Addr)(L:List Int)(led:Bool):Prop:=
 ∃ o es ep,h.get? S=some o∧o.ExactSet∧o.data=.set es ep (tabOf L led)∧es.toList.map (·.1)=L∧∀ e∈es.toList,∃ t,e.2=.int e.1 t
section
variable{prog:Program}{w:World}{A:Around}{E:Value→Shared→Prop}{s:Shared}
theorem zge{k:Int}(hk:0≤k∧k < 5):(intKind prog w).hash k=k:=by
 refine fe (zru hk) ?_;intro k eg;subst eg
 show hashInt (k.val:Int)=_
 revert k
 decide +kernel
theorem SmallSet.elems{es:List (Int×Value)}{L:List Int}{n:Nat}(f:Few L n)(h1:es.map (·.1)=L)(h2:∀ e∈es,∃ t,e.2=.int e.1 t):ElemsOf (intKind prog w) es:=fun e he=>by
 refine fe (h2 e he) ?_;intro t ht
 have hm:e.1∈L:=by rw[← h1];exact av.mpr ⟨e,he,rfl⟩
 refine⟨⟨e.1,?_,(zge (f.lo _ hm)).symm⟩,by rw[ht];rfl⟩
 rw[ht];exact intKind_is _ _ _ _
variable{I:Addr}{fp wr:List Addr}{R:Result→Shared→Prop}{P:Nat→Value→Prop}{St:Nat→Heap→Prop}
end
section
variable{prog:Program}{w:World}{A:Around}{E:Value→Shared→Prop}{s:Shared}
theorem code_set_new(a:Value){Q₁:Value→Shared→Prop}
 (h:Q₁ (.ref s.heap.objs.size) { s with heap:=s.heap.push { cls:=.type "set",dict:=none,data:=.set #[] 0 (.fresh 0 0 (!w.params.followText "set-order")) } }) :
 codeAny (model prog w) A (.call (.builtin "set.__new__") ⟨[.type "set",a],[]⟩) (wants Q₁ E) s:=by
 refine codeAny_of_tree ?_
 show wpAny _ A.in1 (do checkBuiltinCall "set.__new__" ⟨[.type "set",a],[]⟩;again (.builtin "set.__new__" ⟨[.type "set",a],[]⟩)) _ _ s
 refine aa (wpAny_of_eq (PySem.F.newCall_set_1 a) (ab ⟨plainId_quiet PySem.F.plain_set_new _,codeAny_builtin PySem.F.entry_set_new ?_⟩))
 rw[Around.under_plainId PySem.F.plain_set_new _]
 unfold Builtin.«set.__new__» Builtin.Frozenset.newClass
 have hsub:=sub_set_self
 obtain⟨hp,g,d,tk,os⟩:=s
 dsimp only
 wp_walk
 refine wpAny_askSetting (ab ?_)
 dsimp only
 simp only[newObj]
 refine aa (wpAny_alloc (ab ?_))
 exact ab h
noncomputable abbrev newSet(w:World):Obj:={ cls:=.type "set",dict:=none,data:=.set #[] 0 (.fresh 0 0 (!w.params.followText "set-order")) }
noncomputable abbrev zkh(c:String)(l:Addr):Obj:={ cls:=.type c,data:=.fields #[.ref l,.int 0 0] }
theorem zc4{l:Addr}{c ci:String}{ol:Obj}{T:Heap→Prop}{Q:Value→Shared→Prop}(hol:s.heap.get? l=some ol)(hcl:ol.cls=.type c)
 (hsls:isSubtype (.type c) (.type "set")=pure false) (hslf:isSubtype (.type c) (.type "frozenset")=pure false) (hne:(Value.type c == Value.type "dict")=false)
 (hit:∀ {A:Around} {E:Value→Shared→Prop} {s':Shared} {Q':Value→Shared→Prop},s'.heap.get? l=some ol→Q' (.ref s'.heap.objs.size) { s' with heap:=s'.heap.push (zkh ci l) }→wpAny (model prog w) A (pyIter (.ref l)) Q' E s')
 (fill:∀ (R:Result→Shared→Prop),(∀ h' tk,(∀ b o,s.heap.get? b=some o→h'.get? b=some o)→T h'→R (.ok (.ret .none)) { s with heap:=h',toks:=tk }) →
   codeAny (model prog w) A.in1.in1 (.builtin "set.update.loop" ⟨[.ref s.heap.objs.size,.ref (s.heap.push (newSet w)).objs.size],[]⟩) R { s with heap:=(s.heap.push (newSet w)).push (zkh ci l) })
 (h:∀ (h':Heap) (tk:Nat),T h'→(∀ b o,s.heap.get? b=some o→h'.get? b=some o)→Q (.ref s.heap.objs.size) { s with heap:=h',toks:=tk }) :
 wpAny (model prog w) A (call (.type "set") [.ref l]) Q E s:=by
 obtain⟨c',tl,hmro⟩:=PySem.F.called_set.mro
 have hmade:=PySem.F.called_set.made
 have hsub:=PySem.F.called_set.sub
 refine wpAny_call (codeAny_of_tree ?_)
 show wpAny _ _ (callAny (.type "set") _) _ _ _
 refine ab ⟨Code.quiet_builtin _ (by decide +kernel),codeAny_builtin PySem.F.entry_type_call ?_⟩
 rw [Around.under_plain (weight_type_call_type "set" [.ref l] []) rfl]
 have h1:=PySem.F.called_set.notType
 have h2:=PySem.F.called_set.canCreate
 have hct:=PySem.F.typeCall_set_1 (.ref l)
 repeat (any_goals (first | assumption | wp_step))
 refine codeAny_mono (code_set_new (.ref l) (E:=E) (Q₁:=fun obj s₁=>obj=.ref s.heap.objs.size∧s₁ = { s with heap:=s.heap.push (newSet w) }) ⟨rfl,rfl⟩) fun r s₁ hr=>?_
 cases r with
 | error e=>exact hr
 | ok fl=>
   cases fl with
   | ret obj=>
     refine ff hr ?_;clear hr;intro dZ eg;subst dZ;subst eg
     have hS:(s.heap.push (newSet w)).get? s.heap.objs.size=some (newSet w):=aF _ rfl
     have hT:Shared.TypeIs { s with heap:=s.heap.push (newSet w) } (.ref s.heap.objs.size) "set":=⟨_,hS,rfl⟩
     have hli:=PySem.F.called_set.init.lookup
     have hbi:=PySem.F.called_set.init.bind (.ref s.heap.objs.size)
     repeat (any_goals (first | assumption | wp_step))
     refine codeAny_mono (codeAny_call_builtin (R:=wants (fun r s₂=>r=.none∧∃ h' tk,s₂ = { s with heap:=h',toks:=tk }∧T h'∧(∀ b o,s.heap.get? b=some o→h'.get? b=some o)) E) PySem.F.called_set.init.plain PySem.F.entry_set_init (check_set_init_1 hT ?_)) fun r₂ s₂ hr₂=>?_
     ·have hol':(s.heap.push (newSet w)).get? l=some ol:=ah _ hol
      clear hol h
      obtain⟨ocls,odict,odata,oslots⟩:=ol
      have hcl:ocls=_:=hcl
      subst hcl
      unfold Builtin.«set.__init__» noKeywords Builtin.Frozenset.updateFrom
      generalize hPI:pyIter=PI
      wp_walk
      subst hPI
      refine hit hol' (aa (wpAny_runValue (fill _ fun h' tk hk hT=>?_)))
      show wpAny _ _ _ _ _ _
      refine ab ?_
      show wpAny _ _ (ret Value.none) _ _ _
      exact ab ⟨rfl,h',tk,rfl,hT,hk⟩
     ·cases r₂ with
      | error e=>exact hr₂
      | ok fl₂=>
        cases fl₂ with
        | ret r=>
          obtain ⟨rfl,h',tk,rfl,hS',hk'⟩:=hr₂
          repeat (any_goals (first | assumption | wp_step))
          exact h _ _ hS' hk'
        | _=>exact hr₂.elim
   | _=>exact hr.elim
theorem zh6{h h':Heap}{w:World}{c:String}{l:Addr}(hm:∀ b o,b∉h.objs.size::[(h.push (newSet w)).objs.size]→((h.push (newSet w)).push (zkh c l)).get? b=some o→h'.get? b=some o):∀ b o,h.get? b=some o→h'.get? b=some o:=fun b o e=>by
 have hb:=a6 e
 refine hm b o (fun hx=>?_) (ah _ (ah _ e))
 rw[bv] at hx
 refine eW (ae.mp hx) ?_ ?_
 ·rintro rfl;exact cB _ hb
 ·intro hx;rw[ac.mp hx] at hb
  exact cB _ (Nat.lt_trans (cL _) hb)
theorem zh7{h:Heap}{w:World}{l:Addr}(hl:l < h.objs.size):l≠(h.push (newSet w)).objs.size∧h.objs.size∉[(h.push (newSet w)).objs.size,l]:=by
 rw[bv]
 refine⟨bm (cC hl),fun hx=>?_⟩
 refine eW (ae.mp hx) ?_ ?_
 ·intro hx;exact absurd hx (bm (cL _))
 ·intro hx;exact absurd (ac.mp hx) (Nat.ne_of_gt hl)
end
noncomputable def addK(K:List (List Int))(ks:List Int):List (List Int):=if ks∈K then K else K++[ks]
noncomputable def ym(kss:List (List Int))(i:Nat):List (List Int):=(kss.take i).foldl addK []
theorem ue{kss:List (List Int)}{i:Nat}{k:List Int}(h:kss[i]?=some k):ym kss (i+1)=addK (ym kss i) k:=by
 unfold ym
 rw[List.take_add_one,h,List.foldl_append]
 rfl
theorem w4(kss:List (List Int)):∀ i,(ym kss i).length≤i
 | 0=>by simp[ym]
 | i+1=>by
   have ih:=w4 kss i
   cases h:kss[i]? with
   | none=>
     have:ym kss (i+1)=ym kss i:=by unfold ym;rw[List.take_add_one,h];simp
     rw[this];lia
   | some k=>
     rw[ue h]
     unfold addK
     split
     ·lia
     ·rw[aX,cy];exact Nat.lt_succ_of_le (by assumption)
section
variable{prog:Program}{w:World}{A:Around}{E:Value→Shared→Prop}{s:Shared}
variable{I:Addr}{fp wr:List Addr}{R:Result→Shared→Prop}{P:Nat→Value→Prop}{St:Nat→Heap→Prop}
theorem TK.keep{h h':Heap}{ks:List Int}{b:Addr}(hk:TK prog w h ks b)(hs:∀ b o,h.get? b=some o→h'.get? b=some o):TK prog w h' ks b:=by
 refine fu hk ?_;clear hk;intro o items n ho r
 exact eX o items n (hs b o ho) r
theorem TSet.keep{h h':Heap}{S:Addr}{ld:Bool}{K:List (List Int)}(hS:TSet prog w h S ld K)(z:List Addr)(hz:∀ b∈z,∀ o,h.get? b=some o→o.cls≠.type "tuple")(hSz:S∉z)(hs:∀ b o,b∉z→h.get? b=some o→h'.get? b=some o):TSet prog w h' S ld K:=by
 obtain⟨o,ep,t,m,L,ho,hex,hd,ht,hr,hre,hlen,hnd,hent,hmem,hm⟩:=hS
 have up:∀ {ks:List Int} {b:Addr},TK prog w h ks b→TK prog w h' ks b:=fun {ks b} ⟨o',items,n,ho',hc',r⟩=>⟨o',items,n,hs b o' (fun hb=>hz b hb o' ho' hc') ho',hc',r⟩
 refine⟨o,ep,t,m,L,hs S o hSz ho,hex,hd,ht,hr,hre,hlen,hnd,fun e he=>?_,fun ks=>?_,hm⟩
 ·refine fk (hent e he) ?_;intro a ks q1 q2 q3
  exact fj a ks q1 (up q2) q3
 ·rw[hmem]
  constructor
  ·rintro⟨e,he,b,hb,hk⟩
   exact⟨e,he,b,hb,up hk⟩
  ·rintro⟨e,he,b,hb,hk⟩
   refine fk (hent e he) ?_;intro a ks' q1 q2 q3
   rw[hb] at q1;injection q1 with eU;subst eU
   have:=IsTupleKey.inj (up q2) hk
   subst this
   exact⟨e,he,b,hb,q2⟩
theorem zlh{kss:List (List Int)}{ld:Bool}(W:Walks prog w A.in1 I fp wr kss.length P St)(S:Addr)(hSf:S∉fp)(h0:Heap)(hu:A.in1.units < cLine)
 (hval:∀ (i:Nat) v,i < kss.length→P i v→∃ b ks,kss[i]?=some ks∧v=.ref b∧TK prog w h0 ks b) (hwr:∀ i h,St i h→∀ z∈wr,∀ o,h.get? z=some o→o.cls≠.type "tuple") (hS0:h0.get? S=none) (hw0:∀ z∈wr,h0.get? z=none) (h4:kss.length≤17) :
 ∀ (k i:Nat) (s:Shared),kss.length - i=k→i≤kss.length→St i s.heap→TSet prog w s.heap S ld (ym kss i)→(∀ b o,h0.get? b=some o→s.heap.get? b=some o) →
  (∀ h' tk,(∀ b o,b∉S::wr→s.heap.get? b=some o→h'.get? b=some o)→TSet prog w h' S ld (ym kss kss.length)→R (.ok (.ret .none)) { s with heap:=h',toks:=tk }) →
  codeAny (model prog w) A (.builtin "set.update.loop" ⟨[.ref S,.ref I],[]⟩) R s:=by
 have hSw:S∉wr:=fun h=>hSf (W.sub _ h)
 intro k
 induction k with
 | zero=>
   intro i s hk hi hst hS hkp hR
   have hin:i=kss.length:=by lia
   subst hin
   refine codeAny_builtin F.entry_set_update_loop ?_
   rw[Around.under_plainId F.plain_set_update_loop _]
   show wpAny _ A.in1 (pyNext (.ref I) >>= _) _ _ s
   refine aa (W.done s _ _ hst fun h' tk hm=>?_)
   show wpAny _ A.in1 (ret Value.none) _ _ _
   refine ab (hR h' tk (fun b o hb e=>hm b o (fun h=>hb (ag _ h)) e) ?_)
   exact hS.keep wr (hwr _ _ hst) hSw hm
 | succ k ih=>
   intro i s hk hi hst hS hkp hR
   have hlt:i < kss.length:=by lia
   refine codeAny_builtin F.entry_set_update_loop ?_
   rw[Around.under_plainId F.plain_set_update_loop _]
   show wpAny _ A.in1 (pyNext (.ref I) >>= _) _ _ s
   refine aa (W.item i s _ _ hlt hst fun v h₁ tk₁ hP hst' hm=>?_)
   refine fk (hval i v hlt hP) ?_;intro b ks hx ez hkb;subst ez
   have hS':TSet prog w h₁ S ld (ym kss i):=hS.keep wr (hwr _ _ hst) hSw hm
   have hkp1:∀ b o,h0.get? b=some o→h₁.get? b=some o:=fun b o e=>hm b o (fun hb=>by rw[hw0 b hb] at e;exfalso;injection e) (hkp b o e)
   have hk1:TK prog w h₁ ks b:=hkb.keep hkp1
   show wpAny _ A.in1 (holding [Value.ref b] (setAdd S (.ref b)) >>= _) _ _ _
   refine aa (aT ?_)
   unfold setAdd
   refine aT ?_
   refine aa (wpAny_pyHash_tuple (s:={ s with heap:=h₁,toks:=tk₁ }) hu hk1 ?_)
   refine zo5 (s:={ s with heap:=h₁,toks:=tk₁+(ks.length+1) }) hS' hu hk1 (by have:=w4 kss i;lia) fun b' h' hsb hS2=>?_
   have hS2:TSet prog w h' S ld (ym kss (i+1)):=by rw[ue hx];exact hS2
   refine ab ⟨plainId_quiet F.plain_set_update_loop _,ih (i+1) _ (by lia) hlt (W.frame _ _ _ hst' fun b hb o e=>?_) hS2 (fun b o e=>?_) fun h'' tk hk'' hS''=>?_⟩
   ·exact (hsb.2 b (fun h:b=S=>hSf (by rw[← h];exact hb))).trans e
   ·exact (hsb.2 b (fun h:b=S=>by rw[h,hS0] at e;exfalso;injection e)).trans (hkp1 b o e)
   ·refine hR h'' tk (fun b o hb e=>hk'' b o hb ?_) hS''
    exact (hsb.2 b (fun h:b=S=>hb (by rw[h];exact ao))).trans (hm b o (fun h=>hb (ag _ h)) e)
theorem za3{l:Addr}{items:Array Value}{kss:List (List Int)}{Q:Value→Shared→Prop}
 (hh:A.handled=none) (hu:A.units+10 < cLine) (hl:s.heap.IsList l items) (hsz:items.size=kss.length) (hi:∀ (i:Nat) v,items[i]?=some v→∃ b ks,kss[i]?=some ks∧v=.ref b∧TK prog w s.heap ks b) (h4:kss.length≤17)
 (h:∀ (h':Heap) (tk:Nat),TSet prog w h' s.heap.objs.size (!w.params.followText "set-order") (ym kss kss.length) →
   (∀ b o,s.heap.get? b=some o→h'.get? b=some o)→Q (.ref s.heap.objs.size) { s with heap:=h',toks:=tk }) :
 wpAny (model prog w) A (call (.type "set") [.ref l]) Q E s:=by
 refine ft hl ?_;clear hl;intro ol hol hcl ez;refine fe ez ?_;clear ez;intro nl hdl
 refine zc4 (ci:="list_iterator") hol hcl PySem.F.sub_list_set PySem.F.sub_list_frozenset (by decide) (fun e hQ=>cf ⟨_,e,hcl,nl,hdl⟩ hQ) (fun R hR=>?_) h
 refine ff (zh7 (w:=w) (a6 hol)) ?_;intro hneI hSf
 have W:=Walks.list (prog:=prog) (w:=w) (A:=A.in1.in1.in1) (by simp[hh]) (s.heap.push (newSet w)).objs.size l hneI items
 rw[hsz] at W
 have nn:∀ j,s.heap.objs.size≤j→s.heap.get? j=none:=fun j hj=>by
  cases e:s.heap.get? j with
  | none=>rfl
  | some o'=>exact absurd (a6 e) (Nat.not_lt.mpr hj)
 refine zlh (kss:=kss) (ld:=!w.params.followText "set-order") W s.heap.objs.size hSf s.heap (by simp only [Around.in1_units];lia) (fun i v hi' hv=>hi i v hv) (fun i h' st z hz o' e=>?_) (nn _ (aL _)) (fun z hz=>nn z (by rw [ac.mp hz,bv];exact cH _)) h4 kss.length 0 _ rfl (a8 _)
  ⟨⟨_,aF _ rfl,rfl,rfl⟩,ol,ah _ (ah _ hol),hcl,nl,hdl⟩ ?_ (fun b o e=>ah _ (ah _ e)) fun h' tk hm hS'=>hR h' tk (zh6 hm) hS'
 ·refine ff st ?_;clear st;intro dZ _;refine ft dZ ?_;clear dZ;intro oI hoI hcI _
  rw[ac.mp hz] at e
  rw[e] at hoI;injection hoI with eU;subst eU
  rw[hcI];decide
 ·exact⟨_,0,_,7,[],ah _ (aF _ rfl),⟨rfl,rfl,rfl⟩,rfl,⟨rfl,rfl,rfl,rfl,rfl⟩,.nil,fun uA h=>(nomatch h),rfl,by simp[ym],fun uA h=>(nomatch h),fun ks=>by simp[ym],.inl ⟨rfl,a8 _⟩⟩
end
end Mine
end
section
namespace Mine
open PySem PyProof.Rows
noncomputable def CSs.stuck:CSs:=fun uA uA uA=>.stuck
theorem zjr{cx:Cx}{l:List Stmt}:JSs cx l .stuck:=⟨fun uA uA=>trivial⟩
section
variable{G:Gl}{F:Fm}{A:Around}{s:Shared}{β:List Addr}{ρ:Loc}{O:za}{cx:Cx}{gval:Nat→Option PyData}{gname:Nat→Option Str}
theorem zo2{α:Type}{x:Str}{fv:Value}{y z:Expr}{ps q:Pos}{ra:R za V}{rb:za→R za V}{k:V→V→za→R za α}{Rel:List Addr→Heap→Value→α→Prop}(g:GOk G gval gname)(sr:SR G F β ρ O s.heap)(fit:Fits F cx)(hx:cx.isGlob x=true)(hb:(x,fv)∈bis)(hfv:(∃ id,fv=.builtin id)∨∃ T,fv=.type T)
 (he:starEach [y,z] F.env=(false,eval y F.env)::starEach [z] F.env) (he':starEach [z] F.env=(false,eval z F.env)::starEach [] F.env)
 (h1:Does G F A s β (eval y F.env) (ra.lift ρ) (VRel G F)) (h2:∀ s' β' O',SR G F β' ρ O' s'.heap→Does G F A s' β' (eval z F.env) ((rb O').lift ρ) (VRel G F))
 (h3:∀ s' β' val wal v w O',SR G F β' ρ O' s'.heap→VR G F.B β' s'.heap val v→VR G F.B β' s'.heap wal w→Does G F A s' β' (call fv [val,wal]) ((k v w O').lift ρ) Rel) :
 Does G F A s β (eval (.Call (.Name x ps) [y,z] [] q) F.env) ((ra.bind fun v O=>(rb O).bind fun u O=>k v u O).lift ρ) Rel:=by
 have d1:Does G F A s β (spliced (backTo q (starEach [y,z] F.env))) ((ra.bind fun v O=>((rb O).bind fun v O=>(R.ok ([]:List V) O).bind fun vs O=>.ok (v::vs) O).bind fun vs O=>.ok (v::vs) O).lift ρ) (VRsl G F):=
  yz he h1 fun s' β' O' sr'=>yz he' (h2 s' β' O' sr') fun s' β' O' sr'=>xx sr'
 have e1:(ra.bind fun v O=>(rb O).bind fun u O=>k v u O)=(ra.bind fun v O=>((rb O).bind fun v O=>(R.ok ([]:List V) O).bind fun vs O=>.ok (v::vs) O).bind fun vs O=>.ok (v::vs) O).bind fun vs O=>(match vs with | [v,u]=>k v u O | _=>.stuck):=by
  cases ra with
  | ok v O=>
    show (rb O).bind (fun u O=>k v u O)=(((rb O).bind fun v O=>(R.ok ([]:List V) O).bind fun vs O=>R.ok (v::vs) O).bind fun vs O=>R.ok (v::vs) O).bind _
    cases rb O <;> rfl
  | stuck=>rfl
 rw[e1]
 refine u4 g sr fit hx hb hfv he (by rw[he'];rfl) d1 fun s' β' vals vs O' e' st sr' rvs=>?_
 cases vs with
 | nil=>trivial
 | cons u vs=>cases vs with
   | nil=>trivial
   | cons w vs=>cases vs with
     | cons _ _=>trivial
     | nil=>
       obtain⟨v,v',rfl,rv,ru⟩:=rvs.two
       exact h3 s' β' v v' u w O' sr' rv ru
end
noncomputable def minV(v u:V)(O:za):R za V:=match intV v with
 | some i=>(match intV u with
    | some j=>.ok (.d (.int (min i j))) O
    | none=>.stuck)
 | none=>.stuck
noncomputable def CE.min2(a b:CE):CE:=fun P ρ O=>if P.hd=true then .stuck else (evE P ρ a O).bind fun v O=>(evE P ρ b O).bind fun u O=>minV v u O
section
variable{cx:Cx}{x y:Expr}{a b:CE}{p q ps pz:Pos}
theorem zsb{G:Gl}{F:Fm}{A:Around}{s:Shared}{β:List Addr}{ρ:Loc}{O:za}{v u:Value}{d e:V}(hh:A.handled=none)(sr:SR G F β ρ O s.heap)(rv:VR G F.B β s.heap v d)(ru:VR G F.B β s.heap u e) :
 Does G F A s β (call (.builtin "min") [v,u]) ((minV d e O).lift ρ) (VRel G F):=by
 unfold minV
 cases h1:intV d with
 | none=>trivial
 | some i=>
   cases h2:intV e with
   | none=>trivial
   | some j=>
     refine fe (rv.intV h1) ?_;intro t eg;subst eg
     refine fe (ru.intV h2) ?_;intro t' eg;subst eg
     refine Does.leaf sr fun Q E q=>min_two_ints hh fun h' tk hk=>?_
     by_cases hij:j < i
     ·rw[af hij]
      rw[show min i j=j from Int.min_eq_right (Int.le_of_lt hij)] at q
      exact q _ _ (xf hk) VR.int
     ·rw[aj hij]
      rw[show min i j=i from Int.min_eq_left (Int.not_lt.mp hij)] at q
      exact q _ _ (xf hk) VR.int
theorem zrc(h1:JE cx x a)(h2:JE cx y b)(hg:cx.isGlob "min" = true):JE cx (.Call (.Name "min" ps) [x,y] [] q) (.min2 a b):=
 ⟨rfl,fun {G A P F s β ρ O} hr sr=>by
   show Does G F A s β _ (R.lift ρ (if P.hd=true then .stuck else _:R za V)) _
   by_cases hd:P.hd=true
   ·rw[af hd];trivial
   rw[aj hd]
   exact zo2 (rb:=fun O=>evE P ρ b O) (fv:=.builtin "min") hr.run.g sr hr.fit hg (by decide) (.inl ⟨_,rfl⟩) h1.px.star h2.px.star (h1.d hr sr) (fun s' β' O' sr'=>h2.d hr sr') fun s' β' v w d e O' sr' rv rw=>zsb (hr.run.hm (ba.mpr hd)) sr' rv rw⟩
end
section
variable{cx:Cx}{x y:Expr}{a b:CE}{p q ps pz:Pos}
end
section
variable{prog:Program}{w:World}{A:Around}{E:Value→Shared→Prop}{s:Shared}
theorem zau{l:Addr}{items:Array Value}{k:Int}{t:Tok}{v:Value}{Q:Unit→Shared→Prop}(hl:s.heap.PlainList l items)(h0:0≤k)(hfit:k < 2 ^ 63)(hn:k < items.size)
 (hQ:∀ h',h'.PlainList l (items.setIfInBounds k.toNat v)→Heap.SameBut l s.heap h'→Q () { s with heap:=h' }):wpAny (model prog w) A (setItem (.ref l) (.int k t) v) Q E s:=by
 refine fe hl ?_;clear hl;intro n ho
 have hT:s.TypeIs (.ref l) "list":=⟨_,ho,rfl⟩
 unfold setItem
 try with_reducible refine aT ?_
 first | refine aa (ab ?_) | skip
 refine aa (wpAny_sequenceKey hT (by decide) ?_)
 refine aa (cg (name:=Str.ofString "__setitem__") hT slot_list_setitem (bq slot_list_setitem hT entry_list_setitem ?_ (args_list_setitem _ _ _)))
 show wpAny _ _ (Builtin.List.listSubscript? (.int k t) >>= _) _ _ s
 refine aa (wpAny_listSubscript_int (fitsIndex_of h0 hfit) ?_)
 clear hfit
 refine fe (Int.eq_ofNat_of_zero_le h0) ?_;intro j eg;subst eg
 have hj:j < items.size:=by lia
 show wpAny _ _ ((seqItemAt l j >>= fun r=>pure (r.map (j,·))) >>= _) _ _ s
 refine aa (aa (wpAny_seqItemAt ho rfl (ab ?_)))
 rw[a7 hj]
 show wpAny _ _ (setSeqItemAt l j v >>= _) _ _ s
 have hfin:(s.heap.update l (Obj.mapSeq (·.setIfInBounds j v))).PlainList l (items.setIfInBounds j v):=⟨_,cz _ ho rfl⟩
 refine aa (wpAny_setSeqItemAt ho rfl ?_)
 first
  | exact aa (ab (ab ⟨.none,rfl,ab (hQ _ hfin (bP ..))⟩))
  | exact ab ⟨.none,rfl,ab (hQ _ hfin (bP ..))⟩
end
theorem zcl{h:Heap}{P:Addr→Prop}{v:Value}{y:PyData}{cs:List Addr}(rv:Reads h v y cs)(qv:∀ a∈cs,P a){vs:List Value}{xs:List PyData}{as:List Addr}(r:ReadsAll h vs xs as):(∀ a∈as,P a)→∀ (j:Nat),∃ bs,ReadsAll h (vs.set j v) (xs.set j y) bs∧∀ a∈bs,P a:=by
 refine zz (motive:=fun vs xs as=>(∀ a∈as,P a)→∀ (j:Nat),∃ bs,ReadsAll h (vs.set j v) (xs.set j y) bs∧∀ a∈bs,P a) ?_ ?_ r
 ·intro _ j;exact eZ [] .nil (fun uA h=>nomatch h)
 ·intro u d as vs ds bs r rs ih q j
  cases j with
  | zero=>exact eZ (cs++bs) (.cons rv rs) (fun a ha=>(ai.mp ha).elim (qv a) fun h=>q a (au _ h))
  | succ j=>
    refine eY (ih (fun a ha=>q a (au _ ha)) j) ?_;intro b r' q'
    exact eZ (as++b) (.cons r r') (fun a ha=>(ai.mp ha).elim (fun h=>q a (az _ h)) (q' a))
noncomputable def zpe(n:Nat)(xs:List PyData)(k x:V)(O:za):R za Unit:=match intV k with
 | some j=>(match x with
    | .d y=>if 0≤j∧j < xs.length∧xs.length≤line then .ok () (O.set n (.lst (xs.set j.toNat y))) else .stuck
    | _=>.stuck)
 | none=>.stuck
noncomputable def zg3(w k x:V)(O:za):R za Unit:=match w with
 | .box n=>(match O[n]? with
    | some (.lst xs)=>zpe n xs k x O
    | _=>.stuck)
 | _=>.stuck
noncomputable def CS.setI(o i e:CE):CS:=fun P ρ O=>(((evE P ρ e O).bind fun x O=>(evE P ρ o O).bind fun w O=>(evE P ρ i O).bind fun k O=>zg3 w k x O).lift ρ).bind fun uA S=>.ok .next S
section
variable{G:Gl}{F:Fm}{A:Around}{s:Shared}{β:List Addr}{ρ:Loc}{O:za}
set_option tactic.hygienic true in
theorem zov{v u z:Value}{w k x:V}(sr:SR G F β ρ O s.heap)(rw_:VR G F.B β s.heap v w)(rk:VR G F.B β s.heap u k)(rx:VR G F.B β s.heap z x) :
 Does G F A s β (setItem v u z) ((zg3 w k x O).lift ρ) (fun uA uA uA uA=>True):=by
 cases w <;> first | trivial | skip
 rename_i n
 unfold zg3
 dsimp only
 cases hx:O[n]? with
 | none=>trivial
 | some bx=>
   cases bx with
   | dct _=>trivial
   | lst xs=>
     dsimp only
     unfold zpe
     cases hk:intV k with
     | none=>trivial
     | some j=>
       cases x <;> first | trivial | skip
       rename_i y
       dsimp only
       by_cases hj:0≤j∧j < xs.length∧xs.length≤line
       ·rw[af hj]
        obtain⟨a,hn,rfl⟩:=rw_
        refine fe (rk.intV hk) ?_;intro t eg;subst eg
        refine fk (yx (sr.br.plain a (ay hn)) (sr.br.at_ n a _ hn hx)) ?_;intro vs as hpl r1 q1
        have hsz:vs.size=xs.length:=by rw[← aC,zd r1]
        intro Q E kk
        have hline:line < 2 ^ 63:=by decide
        refine zau hpl hj.1 (by lia) (by rw[hsz];exact hj.2.1) fun h' hl' hs'=>?_
        refine fe hl' ?_;clear hl';intro k' e'
        obtain⟨cs,r3,q3⟩:=rx
        have hb:Step F.W β s { s with heap:=h' } β→BoxAt h' F.B β a (.lst (xs.set j.toNat y)):=fun st₃=>by
         refine eY (zcl (z8 sr.br sr.fm st₃ r3 q3).1 q3 (zu sr.br sr.fm st₃ r1 q1).1 q1 j.toNat) ?_;intro bs r4 q4
         exact⟨_,_,k',e',rfl,rfl,bs,by rw[Array.toList_setIfInBounds];exact r4,q4⟩
        refine ff (SR.setBox (bx:=.lst (xs.set j.toNat y)) (s':={ s with heap:=h' }) sr hn hs' rfl rfl hb ⟨_,e',rfl,rfl⟩) ?_;intro st₃ sr₃
        exact kk _ β () st₃ sr₃ trivial
       ·rw[aj hj];trivial
theorem zsa{o i value:Expr}{p spos:Pos}{re:R za V}{ro ri:za→R za V}(hs:swapsWith value (some (.Subscript o i p)) spos.line F.env=pure false)
 (h1:Does G F A s β (eval value F.env) (re.lift ρ) (VRel G F)) (h2:∀ s' β' O',SR G F β' ρ O' s'.heap→Does G F A s' β' (eval o F.env) ((ro O').lift ρ) (VRel G F)) (h3:∀ s' β' O',SR G F β' ρ O' s'.heap→Does G F A s' β' (eval i F.env) ((ri O').lift ρ) (VRel G F)) :
 Does G F A s β (exec (.Assign [.Subscript o i p] value spos) F.env) (((re.bind fun x O=>(ro O).bind fun w O=>(ri O).bind fun k O=>zg3 w k x O).lift ρ).bind fun uA S=>.ok .next S) (yu G F):=by
 refine DoesW.seq (T₁:=fun Q E s=>wpAny (model G.prog G.w) A (eval value F.env) (fun v s₁=>wpAny (model G.prog G.w) A (eval o F.env) (fun ov s₂=>wpAny (model G.prog G.w) A (eval i F.env) (fun iv s₃=>wpAny (model G.prog G.w) A (setItem ov iv v) Q E s₃) E s₂) E s₁) E s)
  (T₂:=fun uA Q E s'=>Q .next s') (Rel₁:=fun uA uA uA uA=>True) (fun Q E h=>wpAny_Assign_Subscript h hs) ?_ fun s' β' v d S e st sr rv=>Does.leaf sr fun Q E q=>q .next _ (KeepsAll.refl s') rfl
 refine DoesW.seqE (T₂:=fun v Q E s₁=>wpAny (model G.prog G.w) A (eval o F.env) (fun ov s₂=>wpAny (model G.prog G.w) A (eval i F.env) (fun iv s₃=>wpAny (model G.prog G.w) A (setItem ov iv v) Q E s₃) E s₂) E s₁) (fun Q E h=>h) h1 fun s₁ β₁ v x O₁ uA st₁ sr₁ rx=>?_
 refine DoesW.seqE (T₁:=tr G A (eval o F.env)) (T₂:=fun ov Q E s₂=>wpAny (model G.prog G.w) A (eval i F.env) (fun iv s₃=>wpAny (model G.prog G.w) A (setItem ov iv v) Q E s₃) E s₂) (fun Q E h=>h) (h2 s₁ β₁ O₁ sr₁) fun s₂ β₂ ov w O₂ uA st₂ sr₂ rw_=>?_
 refine DoesW.seqE (T₁:=tr G A (eval i F.env)) (T₂:=fun iv=>tr G A (setItem ov iv v)) (fun Q E h=>h) (h3 s₂ β₂ O₂ sr₂) fun s₃ β₃ iv k O₃ uA st₃ sr₃ rk=>?_
 exact zov sr₃ (rw_.step sr₂.br sr₂.fm st₃) rk (rx.step sr₁.br sr₁.fm (st₂.trans st₃))
end
theorem zqk{cx:Cx}{x y z:Expr}{a b c:CE}{p ps:Pos}(h1:JE cx x a)(h2:JE cx y b)(h3:JE cx z c)(hx:noCompX z=true):JS cx (.Assign [.Subscript x y ps] z p) (.setI a b c):=
 ⟨fun {G A P F s β ρ O} hr sr=>zsa (ro:=fun O=>evE P ρ a O) (ri:=fun O=>evE P ρ b O) (noCompX.swaps hx _ _ _) (h3.d hr.toHere sr) (fun s' β' O' sr'=>h1.d hr.toHere sr') fun s' β' O' sr'=>h2.d hr.toHere sr'⟩
noncomputable def CE.memo:CE:=fun uA uA O=>.ok (.box O.length) (O++[.dct []])
noncomputable def k9(w k:V)(O:za):Option (Nat×List (MKey×PyData)×MKey):=match w,k with
 | .box n,.d x=>(match O[n]? with
    | some (.dct kvs)=>(keyOf x).map fun q=>(n,kvs,q)
    | _=>none)
 | _,_=>none
inductive zss(w k:V)(O:za)(n:Nat)(kvs:List (MKey×PyData))(q:MKey):Prop
 | mk (x:PyData) (e1:w=.box n) (e2:k=.d x) (e3:O[n]?=some (.dct kvs)) (e4:keyOf x=some q)
set_option tactic.hygienic true in
theorem vv{w k:V}{O:za}{n:Nat}{kvs:List (MKey×PyData)}{q:MKey}(h:k9 w k O=some (n,kvs,q)):zss w k O n kvs q:=by
 cases w <;> first | (cases h;done) | skip
 rename_i m
 cases k <;> first | (cases h;done) | skip
 rename_i x
 have h:(match O[m]? with
  | some (.dct kvs)=>(keyOf x).map fun q=>(m,kvs,q)
  | _=>none)=some (n,kvs,q):=h
 cases e:O[m]? with
 | none=>rw[e] at h;exfalso;injection h
 | some b=>
   rw[e] at h
   cases b with
   | lst _=>exfalso;injection h
   | dct kv=>
     have h:(keyOf x).map (fun q=>(m,kv,q))=some (n,kvs,q):=h
     cases e':keyOf x with
     | none=>rw[e'] at h;exfalso;injection h
     | some q'=>rw[e'] at h;injection h with eU;injection eU with eU eV;subst eU;injection eV with eU eV;subst eU eV;exact⟨x,rfl,rfl,e,e'⟩
noncomputable def notinM(k w:V)(O:za):R za V:=match k9 w k O with
 | some (_,kvs,q)=>.ok (.d (.bool !(z5 kvs q).isSome)) O
 | none=>.stuck
noncomputable def getM(w k:V)(O:za):R za V:=match k9 w k O with
 | some (_,kvs,q)=>opt ((z5 kvs q).map V.d) O
 | none=>.stuck
noncomputable def setM(w k x:V)(O:za):R za Unit:=match k9 w k O,x with
 | some (n,kvs,q),.d y=>if z5 kvs q=none∧kvs.length≤line then .ok () (O.set n (.dct (kvs++[(q,y)]))) else .stuck
 | _,_=>.stuck
noncomputable def CE.notinM(a b:CE):CE:=fun P ρ O=>(evE P ρ a O).bind fun v O=>(evE P ρ b O).bind fun u O=>Mine.notinM v u O
noncomputable def CE.getM(a b:CE):CE:=fun P ρ O=>(evE P ρ a O).bind fun v O=>(evE P ρ b O).bind fun u O=>Mine.getM v u O
noncomputable def CS.setM(o i e:CE):CS:=fun P ρ O=>(((evE P ρ e O).bind fun x O=>(evE P ρ o O).bind fun w O=>(evE P ρ i O).bind fun k O=>Mine.setM w k x O).lift ρ).bind fun uA S=>.ok .next S
section
variable{G:Gl}{F:Fm}{A:Around}{s:Shared}{β:List Addr}{ρ:Loc}{O:za}
theorem zsc{p:Pos}(sr:SR G F β ρ O s.heap):Does G F A s β (eval (.Dict [] [] p) F.env) ((R.ok (V.box O.length) (O++[.dct []])).lift ρ) (VRel G F):=by
 intro Q E k
 have hL:s.heap.objs.size≠F.env.locals:=fun e=>by
  obtain⟨m,o,_,_,h,_⟩:=sr.fm.ns
  rw[← e,ya s] at h;exfalso;injection h
 refine wpAny_Dict_empty ?_
 have hg:(s.heap.push { cls:=.type "dict",data:=.dict #[] }).get? s.heap.objs.size=some { cls:=.type "dict",data:=.dict #[] }:=aF _ rfl
 refine ff (SR.keepNB (bx₀:=.dct []) (s':={ s with heap:=s.heap.push { cls:=.type "dict",data:=.dict #[] } }) (KeepsAll.push s _ s.toks).toL sr (ya s) ⟨_,_,_,hg,rfl,rfl,⟨rfl,List.nodup_nil⟩,fun i e kv h1 h2=>by simp at h2⟩ ⟨_,hg,rfl,rfl⟩) ?_;intro st sr'
 exact k _ _ _ st sr' ⟨_,by rw[← sr.br.len];simp,rfl⟩
theorem zl7{v u:Value}{x y:V}{k:Nat}(ro:Room A k)(sr:SR G F β ρ O s.heap)(rv:VR G F.B β s.heap v x)(ru:VR G F.B β s.heap u y):Does G F A s β (compareOp .NotIn v u) ((notinM x y O).lift ρ) (VRel G F):=by
 unfold notinM
 cases h:k9 y x O with
 | none=>trivial
 | some p=>
   obtain⟨n,kvs,q⟩:=p
   obtain⟨d,rfl,rfl,e3,e4⟩:=vv h
   exact za0 ro sr e3 e4 rv ru
theorem zsf{value slice:Expr}{v u:Value}{x y:V}{k:Nat}(ro:Room A k)(hs:∀ l u t p,slice≠.Slice l u t p)(sr:SR G F β ρ O s.heap)(rv:VR G F.B β s.heap v x)(ru:VR G F.B β s.heap u y):Does G F A s β (subscriptTail value slice v u) ((getM x y O).lift ρ) (VRel G F):=by
 unfold getM
 cases h:k9 x y O with
 | none=>trivial
 | some p=>
   obtain⟨n,kvs,q⟩:=p
   obtain⟨d,rfl,rfl,e3,e4⟩:=vv h
   exact zeg ro sr e3 e4 rv ru (xj hs _ _)
set_option tactic.hygienic true in
theorem zr9{v u z:Value}{w k x:V}{r:Nat}(ro:Room A r)(sr:SR G F β ρ O s.heap)(rw_:VR G F.B β s.heap v w)(rk:VR G F.B β s.heap u k)(rx:VR G F.B β s.heap z x):Does G F A s β (setItem v u z) ((setM w k x O).lift ρ) (fun uA uA uA uA=>True):=by
 unfold setM
 cases h:k9 w k O with
 | none=>trivial
 | some p=>
   obtain⟨n,kvs,q⟩:=p
   obtain⟨d,rfl,rfl,e3,e4⟩:=vv h
   cases x <;> first | trivial | skip
   rename_i y
   dsimp only
   by_cases hj:z5 kvs q=none∧kvs.length≤line
   ·rw[af hj]
    obtain⟨D,hd,rfl⟩:=rw_
    obtain⟨as,rr,_⟩:=rk
    rw[dk e4] at rr
    refine eY (u0 (prog:=G.prog) (w:=G.w) rr) ?_;intro a eg hkey;subst eg
    have hm:=ay hd
    refine eY (zc0 (prog:=G.prog) (w:=G.w) (sr.br.plain D hm) (sr.br.at_ n D _ hd e3)) ?_;intro xs hD hv
    have hnone:atKey xs q=none:=by
     refine eW (qp (k:=q) hv) ?_ ?_
     ·rintro ⟨e1,e2⟩;exact e1
     ·rintro ⟨p,d',bs,e1,e2,_⟩;rw[hj.1] at e2;exfalso;injection e2
    intro Q E kk
    refine wpAny_setItem_heap ro.memo hkey hD (fun h' hD' hs'=>?_) (by rw[hv.1];exact ak hj.2 (by decide))
    rw[storedH_new hnone] at hD'
    obtain⟨cs,r3,q3⟩:=rx
    have hb:Step F.W β s { s with heap:=h',toks:=s.toks+(yj G.prog G.w).draws q } β→wz h' F.B β (xs++[(q,a,z)]) (kvs++[(q,y)]):=fun st₃=>by
     refine⟨by simp[hv.1],fun i x kv h1 h2=>?_⟩
     refine eW (bk i xs.length) ?_ ?_
     ·intro hi;rw[aJ hi] at h1
      rw[aJ (by rw[← hv.1];exact hi)] at h2
      obtain⟨e,bs,r,qq⟩:=hv.2 i x kv h1 h2
      refine ff (z8 sr.br sr.fm st₃ r qq) ?_;intro p1 p2
      exact⟨e,bs,p1,p2⟩
     ·intro hi;rw[aH hi] at h1
      rw[aH (by rw[← hv.1];exact hi),← hv.1] at h2
      obtain⟨e1,e2⟩ : x=(q,a,z)∧kv=(q,y):=by
       cases e:i - xs.length with
       | zero=>rw[e] at h1 h2;injection h1 with eU;subst eU;injection h2 with eU;subst eU;exact⟨rfl,rfl⟩
       | succ j=>rw[e] at h1;simp at h1
      subst e1;subst e2
      refine ff (z8 sr.br sr.fm st₃ r3 q3) ?_;intro p1 p2
      exact⟨rfl,cs,p1,p2⟩
    refine ff (SR.setBox (bx:=.dct (kvs++[(q,y)])) (s':={ s with heap:=h',toks:=s.toks+(yj G.prog G.w).draws q }) sr hd hs' rfl rfl (fun st₃=>(zor hD' (hb st₃)).1) (by refine fw hD' ?_;clear hD';intro o es n h1 eA _;refine fg eA ?_;clear eA;intro _ g1 g2;exact fi o h1 g1 g2)) ?_;intro st₃ sr₃
    exact kk _ β () st₃ sr₃ trivial
   ·rw[aj hj];trivial
theorem zou{o i value:Expr}{p spos:Pos}{re:R za V}{ro ri:za→R za V}{r:Nat}(rm:Room A r)(hs:swapsWith value (some (.Subscript o i p)) spos.line F.env=pure false)
 (h1:Does G F A s β (eval value F.env) (re.lift ρ) (VRel G F)) (h2:∀ s' β' O',SR G F β' ρ O' s'.heap→Does G F A s' β' (eval o F.env) ((ro O').lift ρ) (VRel G F)) (h3:∀ s' β' O',SR G F β' ρ O' s'.heap→Does G F A s' β' (eval i F.env) ((ri O').lift ρ) (VRel G F)) :
 Does G F A s β (exec (.Assign [.Subscript o i p] value spos) F.env) (((re.bind fun x O=>(ro O).bind fun w O=>(ri O).bind fun k O=>setM w k x O).lift ρ).bind fun uA S=>.ok .next S) (yu G F):=by
 refine DoesW.seq (T₁:=fun Q E s=>wpAny (model G.prog G.w) A (eval value F.env) (fun v s₁=>wpAny (model G.prog G.w) A (eval o F.env) (fun ov s₂=>wpAny (model G.prog G.w) A (eval i F.env) (fun iv s₃=>wpAny (model G.prog G.w) A (setItem ov iv v) Q E s₃) E s₂) E s₁) E s)
  (T₂:=fun uA Q E s'=>Q .next s') (Rel₁:=fun uA uA uA uA=>True) (fun Q E h=>wpAny_Assign_Subscript h hs) ?_ fun s' β' v d S e st sr rv=>Does.leaf sr fun Q E q=>q .next _ (KeepsAll.refl s') rfl
 refine DoesW.seqE (T₂:=fun v Q E s₁=>wpAny (model G.prog G.w) A (eval o F.env) (fun ov s₂=>wpAny (model G.prog G.w) A (eval i F.env) (fun iv s₃=>wpAny (model G.prog G.w) A (setItem ov iv v) Q E s₃) E s₂) E s₁) (fun Q E h=>h) h1 fun s₁ β₁ v x O₁ uA st₁ sr₁ rx=>?_
 refine DoesW.seqE (T₁:=tr G A (eval o F.env)) (T₂:=fun ov Q E s₂=>wpAny (model G.prog G.w) A (eval i F.env) (fun iv s₃=>wpAny (model G.prog G.w) A (setItem ov iv v) Q E s₃) E s₂) (fun Q E h=>h) (h2 s₁ β₁ O₁ sr₁) fun s₂ β₂ ov w O₂ uA st₂ sr₂ rw_=>?_
 refine DoesW.seqE (T₁:=tr G A (eval i F.env)) (T₂:=fun iv=>tr G A (setItem ov iv v)) (fun Q E h=>h) (h3 s₂ β₂ O₂ sr₂) fun s₃ β₃ iv k O₃ uA st₃ sr₃ rk=>?_
 exact zr9 rm sr₃ (rw_.step sr₂.br sr₂.fm st₃) rk (rx.step sr₁.br sr₁.fm (st₂.trans st₃))
end
section
variable{cx:Cx}{x y z:Expr}{a b c:CE}{p ps:Pos}
theorem zrd:JE cx (.Dict [] [] p) .memo:=⟨rfl,fun hr sr=>zsc sr⟩
theorem zrg(h1:JE cx x a)(h2:JE cx y b):JE cx (.Subscript x y p) (.getM a b):=⟨rfl,fun {G A P F s β ρ O} hr sr=>by
 refine DoesW.seqE (T₂:=fun a Q E s₁=>wpAny (model G.prog G.w) A (eval y F.env) (fun b s₂=>wpAny (model G.prog G.w) A (subscriptTail x y a b) Q E s₂) E s₁) (fun Q E h=>Subscript_ h) (h1.d hr sr) fun s' β' v d O' e st sr rv=>?_
 refine DoesW.seqE (T₁:=tr G A (eval y F.env)) (T₂:=fun b=>tr G A (subscriptTail x y v b)) (fun Q E h=>h) (h2.d hr sr) fun s₂ β₂ u d₂ O₂ e₂ st₂ sr₂ ru=>?_
 exact zsf hr.run.ro h2.px.slice sr₂ (rv.step sr.br sr.fm st₂) ru⟩
theorem zqj(h1:JE cx x a)(h2:JE cx y b)(h3:JE cx z c)(hx:noCompX z=true):JS cx (.Assign [.Subscript x y ps] z p) (.setM a b c):=
 ⟨fun {G A P F s β ρ O} hr sr=>zou (ro:=fun O=>evE P ρ a O) (ri:=fun O=>evE P ρ b O) hr.run.ro (noCompX.swaps hx _ _ _) (h3.d hr.toHere sr) (fun s' β' O' sr'=>h1.d hr.toHere sr') fun s' β' O' sr'=>h2.d hr.toHere sr'⟩
end
noncomputable def qh(xs:List PyData):List PyData:=xs.zipIdx.map fun p=>.tuple [.int p.2,p.1]
theorem ziz{xs:List PyData}{i:Nat}{x:PyData}(h:(qh xs)[i]?=some x):∃ y,xs[i]?=some y∧x=.tuple [.int i,y]:=by
 unfold qh at h
 rw[aR,List.getElem?_zipIdx] at h
 cases e:xs[i]? with
 | none=>rw[e] at h;exfalso;injection h
 | some y=>
   rw[e] at h
   simp only[cu,Option.some.injEq,bB] at h
   exact eZ y rfl h.symm
theorem zcw{xs:List PyData}:(qh xs).length=xs.length:=by simp[qh]
noncomputable def zub(v:V)(O:za):R za Src:=match v with
 | .d (.list xs)=>.ok (.plain (qh xs)) O
 | _=>.stuck
noncomputable def CI.enum(a:CE):CI:=fun P ρ O=>(evE P ρ a O).bind zub
section
variable{G:Gl}{F:Fm}{A:Around}{es:List Expr}{kt:Nat}{pt:Pos}(hc:∀ c,∃ C,G.cls c=.ref C)
inductive EnSt(G:Gl)(I it ax:Addr)(xs:List PyData)(i:Nat)(N β:List Addr)(h:Heap):Prop
 | mk (old:Value) (e:IsEnum h I it (i:Int) old) (l:h.IsListIter it ax i) (r:VR G N β h (.ref ax) (.d (.list xs)))
theorem EnSt.itr{I it ax:Addr}{xs:List PyData}{i:Nat}{N β:List Addr}{h:Heap}(st:EnSt G I it ax xs i N β h):∀ z∈[I,it],Itr h z:=fun z hz=>by
 obtain⟨old,e,⟨o,h1,h2,h3⟩,r⟩:=st
 refine eW (ae.mp hz) ?_ ?_
 ·rintro rfl;exact fA _ _ _ e rfl rfl
 ·intro hz;rw[ac.mp hz];exact fA o _ _ h1 h2 h3
include hc in
theorem Turns.enum(hh:A.handled=none)(I it ax:Addr)(hne:I≠it)(xs:List PyData):Turns G A (.Tuple es kt pt) I [I,it] (.plain (qh xs)) (EnSt G I it ax xs) where
 itr:=fun i N β h st=>st.itr
 keep:=fun i N N' β β' h h' st k1 k2 uA=>by
  obtain⟨old,e,l,r⟩:=st
  exact⟨old,k1 I (by simp) _ e,l.at fun o e=>k1 it (by simp) o e,k2 _ _ r⟩
 item:=fun i N β O s x Q E hx br has st k=>by
  have hitr:=st.itr
  obtain⟨old,e,l,r⟩:=st
  refine ff (qy r) ?_;intro dZ _;obtain ⟨o,vs,n,h1,h2,h3,as,h4,h5⟩:=dZ
  refine eY (ziz hx) ?_;intro y hy eo;subst eo
  refine fk (zo h4 h5 (i:=i) hy) ?_;intro v cs e1 e2 e3
  refine wpAny_pyNext_enum_item e l ⟨o,h1,h2,n,h3⟩ (x:=v) (by rw[← aV];exact e1) hne fun h' he' hit' ht' hz' hk'=>?_
  refine k _ _ fun Q' E' k'=>wpAny_letOwnedTupleGo_enum he' fun h₂ he₂ hs₂=>?_
  have hI:s.heap.objs.size≠I:=Nat.ne_of_gt (a6 e)
  have kz:KeepsZ [I,it] s { s with heap:=h₂,toks:=s.toks+1 }:=⟨rfl,rfl,fun b o hb hbo=>by
   rw[ae,ac,not_or] at hb
   exact (hs₂.2 b hb.1).trans (hk' b o hb.1 hb.2 hbo)⟩
  have rv:VR G N β h₂ v (.d y):=VR.keepZ (x:=.d y) hitr kz.kept hc ⟨cs,e2,e3⟩
  refine k' _ kz ?_ ⟨v,he₂,hit'.extBut hs₂.extBut hne.symm,VR.keepZ hitr kz.kept hc r⟩
  obtain⟨as',r',q'⟩:=rv
  exact⟨_,.tuple ((hs₂.2 _ hI).trans ht') rfl rfl (.cons (.int _ _) (.cons r' .nil)),by simpa using q'⟩
 done:=fun i N β O s Q E hx br has st k=>by
  obtain⟨old,e,l,r⟩:=st
  refine ff (qy r) ?_;intro dZ _;obtain ⟨o,vs,n,h1,h2,h3,as,h4,h5⟩:=dZ
  refine wpAny_pyNext_enum_end hh e l ⟨o,h1,h2,n,h3⟩ ?_ fun h' he=>k _ ⟨rfl,rfl,fun b o hb hbo=>he b o (fun h=>hb (by simp[h])) hbo⟩
  rw[cn]
  have hx:(qh xs).length=i:=hx
  rw[zcw] at hx
  rw[← aC,zd h4];exact Nat.le_of_eq hx
 self:=fun i N β s Q E st q=>by
  obtain⟨old,e,_⟩:=st
  exact wpAny_pyIter_enum e q
end
set_option tactic.hygienic true in
theorem zqm{cx:Cx}{x:Expr}{a:CE}{ps q pt p:Pos}{es:List Expr}{kt:Nat}{l:List Stmt}{d:CSs}{t:CT}(h:JE cx x a)(hx:cx.isGlob "enumerate" = true)(h2:JSs cx l d)(hc:chkT cx (ownOf cx.sc) t (.Tuple es kt pt)=true) :
 JS cx (.For (.Tuple es kt pt) (.Call (.Name "enumerate" ps) [x] [] q) l [] p) (.for_ t (.enum a) d):=⟨fun {G A P F s β ρ O} hr sr=>by
 show Does G F A s β _ (if P.hd=true then .stuck else _:R (Loc×za) Fl) _
 by_cases hd:P.hd=true
 ·rw[af hd];trivial
 rw[aj hd]
 have hh:=hr.run.hm (ba.mpr hd)
 refine ff (hr.run.g.bi ("enumerate",.type "enumerate") (by decide)) ?_;intro b1 b2
 refine zpq (r:=evI P ρ (.enum a) O) (evb:=fun ρ O=>evSs P d ρ O) hr.run.g hh hr.fit hr.own hc (fun uA uA uA h=>nomatch h) (fun s' β' ρ' O' sr'=>h2.d hr sr') sr ?_ fun src O' e=>?_
 ·refine DoesW.seqE (T₂:=fun v Q E s=>wpAny (model G.prog G.w) A (call (.type "enumerate") [v]) (fun S s₁=>wpAny (model G.prog G.w) A (pyIter S) Q E s₁) E s) (fun Q E h'=>?_) (h.d hr.toHere sr) fun s' β' v d O' e st sr' rv=>?_
  ·exact Call_Name rfl (yl hr.run.g sr hr.fit hx b1 b2 (callWith_type1 (cN (aM h' (fun v s₁ h₁=>spliced_none h₁) (fun uA uA x=>x)) h.px.star) h.px.star rfl))
  ·clear e
   cases d <;> first | trivial | skip
   rename_i z
   cases z <;> first | trivial | skip
   rename_i xs
   have rv':=rv
   obtain⟨b,rfl,⟨o,vs,n,h1,h2,h3,as,h4,h5⟩,h6⟩:=rv.list_inv
   refine DoesW.weaken (T₁:=fun Q E s=>wpAny (model G.prog G.w) A (call (.type "enumerate") [.ref b]) (fun S s₁=>wpAny (model G.prog G.w) A (pyIter S) Q E s₁) E s) (Does.leaf sr' fun Q E k=>?_) (fun Q E h=>h) fun uA uA uA uA r=>IRel.back (target:=.Tuple es kt pt) st r
   refine call_enumerate_list ⟨o,h1,h2,n,h3⟩ fun h' he hl hz hk=>wpAny_pyIter_enum he (k _ { s' with heap:=h' } ⟨rfl,rfl,hk⟩ ⟨_,_,_,rfl,Turns.enum hr.run.g.clsRef hh _ _ b (Nat.succ_ne_self _) xs,⟨_,he,hl,rv'.keepAll hk⟩,fun z hz=>?_⟩)
   refine bj ?_
   refine eW (ae.mp hz) ?_ ?_
   ·rintro rfl;exact cH _
   ·intro hz;rw[ac.mp hz];exact aL _
 ·refine fy (qn e) ?_;intro v O₁ e' e
  clear e'
  cases v <;> first | (cases e;done) | skip
  rename_i z
  cases z <;> first | (cases e;done) | skip
  injection e with eU eV;subst eU eV;trivial⟩
inductive SqK | lst | tup
noncomputable def SqK.cls:SqK→String
 | .lst=>"list"
 | .tup=>"tuple"
noncomputable def SqK.itc:SqK→String
 | .lst=>"list_iterator"
 | .tup=>"tuple_iterator"
noncomputable def IsSq(q:SqK)(h:Heap)(a:Addr)(xs:Array Value):Prop:=∃ o,h.get? a=some o∧o.cls=.type q.cls∧∃ n,o.data=.seq xs n
noncomputable def IsIt(q:SqK)(h:Heap)(i a:Addr)(j:Nat):Prop:=∃ o,h.get? i=some o∧o.cls=.type q.itc∧o.data=.fields #[.ref a,.int j 0]
theorem IsSq.ext{q:SqK}{h h':Heap}{a c:Addr}{xs:Array Value}(x:IsSq q h a xs)(hs:Heap.ExtBut c h h')(hne:a≠c):IsSq q h' a xs:=x.elim fun o r=>⟨o,hs _ _ hne r.1,r.2⟩
theorem IsIt.ext{q:SqK}{h h':Heap}{i a c:Addr}{j:Nat}(x:IsIt q h i a j)(hs:Heap.ExtBut c h h')(hne:i≠c):IsIt q h' i a j:=x.elim fun o r=>⟨o,hs _ _ hne r.1,r.2⟩
structure ZAt(q1 q2:SqK)(h:Heap)(z TI TO i1 i2 t l:Addr)(k:Nat)(f:Value):Prop where
 zip:IsZip h z TI TO f
 ti:IsPair h TI (.ref i1) (.ref i2)
 it1:IsIt q1 h i1 t k
 it2:IsIt q2 h i2 l k
section
variable{prog:Program}{w:World}{A:Around}{E:Value→Shared→Prop}{s:Shared}
theorem zfw{it t:Addr}{i:Nat}{items:Array Value}{x:Value}{Q:Value→Shared→Prop}(hit:IsTupIter s.heap it t i)(ht:IsTup s.heap t items)(hx:items[i]?=some x)
 (hQ:∀ h',IsTupIter h' it t (i+1)→Heap.SameBut it s.heap h'→Q x { s with heap:=h' }):wpAny (model prog w) A (Builtin.SmallTypes.nextOf (.ref it)) Q E s:=by
 refine ft (id hit) ?_;intro o ho hc hd
 refine ft ht ?_;clear ht;intro ol hol _ ez;refine fe ez ?_;clear ez;intro nl hdl
 unfold Builtin.SmallTypes.nextOf
 refine aa (cg (name:=Str.ofString "__next__") hit.typeIs dU (bq dU hit.typeIs entry_tupleiter_next ?_ (args_tupleiter_next _)))
 show wpAny _ _ (field (.ref it) 0 >>= _) _ _ s
 refine aa (bQ ho hd (x:=.ref t) rfl ?_)
 show wpAny _ _ (if (Value.ref t == Value.none)=true then _ else _) _ _ s
 rw[aj (show ¬ ((Value.ref t == Value.none)=true) from am)]
 refine aa (bQ ho hd (x:=.int i 0) rfl (aa (bF hol hdl ?_)))
 simp only[dB,hx]
 refine aa (wpAny_setField ho hd (by simp) (ab ⟨x,rfl,ab (hQ _ ?_ (bP ..))⟩))
 exact⟨_,cz _ ho (Obj.isFreed_of_fields (Obj.data_mapFields hd _)),(Obj.cls_mapFields ..).trans hc,by
  rw[Obj.data_mapFields hd];simp[rawInt]⟩
theorem zbk{q:SqK}{it t:Addr}{i:Nat}{items:Array Value}{x:Value}{Q:Value→Shared→Prop}(hit:IsIt q s.heap it t i)(ht:IsSq q s.heap t items)(hx:items[i]?=some x)
 (hQ:∀ h',IsIt q h' it t (i+1)→Heap.SameBut it s.heap h'→Q x { s with heap:=h' }):wpAny (model prog w) A (Builtin.SmallTypes.nextOf (.ref it)) Q E s:=by
 cases q with
 | tup=>exact zfw hit ht hx hQ
 | lst=>exact wpAny_nextOf_list_item hit ht hx hQ
variable{q1 q2:SqK}{z TI TO i1 i2 t l:Addr}{k:Nat}{xs ys:Array Value}{x y a b:Value}
theorem zjh{Q:Option Value→Shared→Prop}(D:ZipApart z TI TO i1 i2 t l)(Z:ZAt q1 q2 s.heap z TI TO i1 i2 t l k .none)(hTO:IsPair s.heap TO a b)(hl1:IsSq q1 s.heap t xs)(hl2:IsSq q2 s.heap l ys)(hx:xs[k]?=some x)(hy:ys[k]?=some y)
 (hQ:∀ h',ZAt q1 q2 h' z TI TO i1 i2 t l (k+1) (rawInt s.heap.objs.size)→IsPair h' TO x y→IsPair h' s.heap.objs.size x y →
   (∀ c o,c≠z→c≠TO→c≠i1→c≠i2→s.heap.get? c=some o→h'.get? c=some o)→Q (some (.ref s.heap.objs.size)) { s with heap:=h' }) :
 wpAny (model prog w) A (pyNext (.ref z)) Q E s:=by
 obtain⟨hz,hTI,h1,h2⟩:=Z
 have hT:s.TypeIs (.ref z) "zip":=⟨_,hz,rfl⟩
 unfold pyNext
 refine aa (wpAny_attempt (cg (name:=Str.ofString "__next__") hT F.slot_zip_next (bq F.slot_zip_next hT F.entry_zip_next ?_ (F.args_zip_next_1 _))))
 show wpAny _ _ (field (.ref z) 2 >>= _) _ _ _
 refine aa (bQ hz rfl (x:=.bool false) rfl ?_)
 show wpAny _ _ (field (.ref z) 3 >>= _) _ _ _
 refine aa (bQ hz rfl (x:=.ref TI) rfl (aa (bF hTI rfl ?_)))
 show wpAny _ _ (Builtin.SmallTypes.ownedTupleIsFree (.ref z) >>= _) _ _ _
 refine aa ?_
 unfold Builtin.SmallTypes.ownedTupleIsFree
 refine aa (bQ hz rfl (x:=.none) rfl (ab ?_))
 simp only[cJ]
 refine aa (dL (aa (bQ hz rfl (x:=.ref TO) rfl (aa (cV hz (by simp) fun h₁ hz₁ hs₁=>?_)))))
 replace hz₁:IsZip h₁ z TI TO .ellipsis:=hz₁
 refine aa ?_
 simp only[List.zipIdx_cons,List.zipIdx_nil,dY,dC]
 refine aa (aa (wpAny_onRaise ?_))
 show wpAny _ _ (Builtin.SmallTypes.nextOf (.ref i1) >>= _) _ _ _
 refine aa (zbk (h1.ext hs₁.extBut D.i1z) (hl1.ext hs₁.extBut D.l1z) hx fun h₂ h1₂ hs₂=>ab ?_)
 have hTO₂:IsPair h₂ TO a b:=hs₂.extBut _ _ D.TOi1 (hs₁.extBut _ _ D.TOz hTO)
 refine aa (bF hTO₂ rfl (aa (wpAny_updateSeq_pair hTO₂ fun h₃ hTO₃ hs₃=>?_)))
 replace hTO₃:IsPair h₃ TO x b:=hTO₃
 refine aa (wpAny_letGo (ab ?_))
 refine aa (aa (wpAny_onRaise ?_))
 show wpAny _ _ (Builtin.SmallTypes.nextOf (.ref i2) >>= _) _ _ _
 refine aa (zbk (((h2.ext hs₁.extBut D.i2z).ext hs₂.extBut D.i12.symm).ext hs₃.extBut D.TOi2.symm)
  (((hl2.ext hs₁.extBut D.l2z).ext hs₂.extBut D.l2i1).ext hs₃.extBut D.l2TO) hy fun h₄ h2₄ hs₄=>ab ?_)
 have hTO₄:IsPair h₄ TO x b:=hs₄.extBut _ _ D.TOi2 hTO₃
 refine aa (bF hTO₄ rfl (aa (wpAny_updateSeq_pair hTO₄ fun h₅ hTO₅ hs₅=>?_)))
 replace hTO₅:IsPair h₅ TO x y:=hTO₅
 refine aa (wpAny_letGo (ab (ab ?_)))
 refine aa (bF hTO₅ rfl (aa (wpAny_newTuple ?_)))
 have hsz:h₅.objs.size=s.heap.objs.size:=by rw[hs₅.1,hs₄.1,hs₃.1,hs₂.1,hs₁.1]
 have hk₅:∀ c o,c≠z→c≠TO→c≠i1→c≠i2→s.heap.get? c=some o→h₅.get? c=some o:=fun c o c1 c2 c3 c4 e=>
  hs₅.extBut _ _ c2 (hs₄.extBut _ _ c4 (hs₃.extBut _ _ c2 (hs₂.extBut _ _ c3 (hs₁.extBut _ _ c1 e))))
 have hz₅:IsZip h₅ z TI TO .ellipsis:=hs₅.extBut _ _ D.TOz.symm (hs₄.extBut _ _ D.i2z.symm (hs₃.extBut _ _ D.TOz.symm (hs₂.extBut _ _ D.i1z.symm hz₁)))
 have h1₅:IsIt q1 h₅ i1 t (k+1):=((h1₂.ext hs₃.extBut D.TOi1.symm).ext hs₄.extBut D.i12).ext hs₅.extBut D.TOi1.symm
 have h2₅:IsIt q2 h₅ i2 l (k+1):=h2₄.ext hs₅.extBut D.TOi2.symm
 have hTI₅:IsPair h₅ TI (.ref i1) (.ref i2):=hk₅ _ _ D.TIz D.TITO D.TIi1 D.TIi2 hTI
 have hzlt:z < h₅.objs.size:=a6 hz₅
 show wpAny _ _ (Builtin.SmallTypes.ownedTupleHandOut (.ref z) (.ref h₅.objs.size) >>= _) _ _ _
 refine aa ?_
 unfold Builtin.SmallTypes.ownedTupleHandOut
 have hz₆:IsZip (h₅.push { cls:=.type "tuple",data:=.seq #[x,y] }) z TI TO .ellipsis:=ah _ hz₅
 refine aa (cV hz₆ (by simp) fun h₇ hz₇ hs₇=>?_)
 replace hz₇:IsZip h₇ z TI TO (rawInt h₅.objs.size):=hz₇
 refine cV hz₇ (by simp) fun h₈ hz₈ hs₈=>?_
 replace hz₈:IsZip h₈ z TI TO (rawInt h₅.objs.size):=hz₈
 have up:∀ c o,c≠z→h₅.get? c=some o→h₈.get? c=some o:=fun c o c1 e=>hs₈.extBut _ _ c1 (hs₇.extBut _ _ c1 (ah _ e))
 have hT₈:IsPair h₈ h₅.objs.size x y:=hs₈.extBut _ _ (Nat.ne_of_gt hzlt) (hs₇.extBut _ _ (Nat.ne_of_gt hzlt) (aF _ rfl))
 rw[hsz] at hz₈ hT₈
 refine ab ⟨_,rfl,?_⟩
 rw[hsz]
 exact ab (hQ h₈ ⟨hz₈,up _ _ D.TIz hTI₅,h1₅.elim fun o r=>⟨o,up _ _ D.i1z r.1,r.2⟩,h2₅.elim fun o r=>⟨o,up _ _ D.i2z r.1,r.2⟩⟩ (up _ _ D.TOz hTO₅) hT₈ fun c o c1 c2 c3 c4 e=>up c o c1 (hk₅ c o c1 c2 c3 c4 e))
theorem g8{it t:Addr}{i:Nat}{items:Array Value}{Q:Value→Shared→Prop}(hh:A.handled=none)(hit:IsTupIter s.heap it t i)(ht:IsTup s.heap t items)(hx:items[i]?=none)
 (hE:∀ h' e,Heap.ExtBut it s.heap h'→(∃ o,h'.get? e=some o∧o.cls=.type "StopIteration")→E (.ref e) { s with heap:=h' }):wpAny (model prog w) A (Builtin.SmallTypes.nextOf (.ref it)) Q E s:=by
 refine ft (id hit) ?_;intro o ho hc hd
 refine ft ht ?_;clear ht;intro ol hol _ ez;refine fe ez ?_;clear ez;intro nl hdl
 unfold Builtin.SmallTypes.nextOf
 refine aa (cg (name:=Str.ofString "__next__") hit.typeIs dU (bq dU hit.typeIs entry_tupleiter_next ?_ (args_tupleiter_next _)))
 show wpAny _ _ (field (.ref it) 0 >>= _) _ _ s
 refine aa (bQ ho hd (x:=.ref t) rfl ?_)
 show wpAny _ _ (if (Value.ref t == Value.none)=true then _ else _) _ _ s
 rw[aj (show ¬ ((Value.ref t == Value.none)=true) from am)]
 refine aa (bQ ho hd (x:=.int i 0) rfl (aa (bF hol hdl ?_)))
 simp only[dB,hx]
 refine aa (dL (aa (wpAny_setField ho hd (by simp) ?_)))
 show wpAny _ _ (newExc (.type "StopIteration") [] >>= _) _ _ _
 refine aa ?_
 simp only[newExc,newTuple]
 refine aa (wpAny_newObj_type ?_ (by size_fits))
 refine aa (m:=firstArgMember _ _) (wpAny_of_eq (a:=Value.none) (by first | rfl | (simp only[firstArgMember];rfl)) ?_)
 refine wpAny_newObj_type ?_ (by size_fits)
 simp only[raiseNew]
 refine aa (wpAny_handled ?_)
 first | rw[show A.in1.handled=none from hh] | rw[hh]
 refine aa (ab (wpAny_throw ?_))
 exact hE _ _ (((bP ..).extBut.push _).push _) ⟨_,aF _ rfl,rfl⟩
theorem zfx{q:SqK}{it t:Addr}{i:Nat}{items:Array Value}{Q:Value→Shared→Prop}(hh:A.handled=none)(hit:IsIt q s.heap it t i)(ht:IsSq q s.heap t items)(hx:items[i]?=none)
 (hE:∀ h' e,Heap.ExtBut it s.heap h'→(∃ o,h'.get? e=some o∧o.cls=.type "StopIteration")→E (.ref e) { s with heap:=h' }):wpAny (model prog w) A (Builtin.SmallTypes.nextOf (.ref it)) Q E s:=by
 cases q with
 | tup=>exact g8 hh hit ht hx hE
 | lst=>exact wpAny_nextOf_list_end hh hit ht hx hE
theorem zmw{Q:Option Value→Shared→Prop}(hh:A.handled=none)(D:ZipApart z TI TO i1 i2 t l)(Z:ZAt q1 q2 s.heap z TI TO i1 i2 t l k .none)(hl1:IsSq q1 s.heap t xs)(hx:xs[k]?=none)
 (hQ:∀ h',(∀ c o,c≠z→c≠i1→s.heap.get? c=some o→h'.get? c=some o)→Q none { s with heap:=h' }) :
 wpAny (model prog w) A (pyNext (.ref z)) Q E s:=by
 obtain⟨hz,hTI,h1,h2⟩:=Z
 have hT:s.TypeIs (.ref z) "zip":=⟨_,hz,rfl⟩
 unfold pyNext
 refine aa (wpAny_attempt (cg (name:=Str.ofString "__next__") hT F.slot_zip_next (bq F.slot_zip_next hT F.entry_zip_next ?_ (F.args_zip_next_1 _))))
 show wpAny _ _ (field (.ref z) 2 >>= _) _ _ _
 refine aa (bQ hz rfl (x:=.bool false) rfl ?_)
 show wpAny _ _ (field (.ref z) 3 >>= _) _ _ _
 refine aa (bQ hz rfl (x:=.ref TI) rfl (aa (bF hTI rfl ?_)))
 show wpAny _ _ (Builtin.SmallTypes.ownedTupleIsFree (.ref z) >>= _) _ _ _
 refine aa ?_
 unfold Builtin.SmallTypes.ownedTupleIsFree
 refine aa (bQ hz rfl (x:=.none) rfl (ab ?_))
 simp only[cJ]
 refine aa (dL (aa (bQ hz rfl (x:=.ref TO) rfl (aa (cV hz (by simp) fun h₁ hz₁ hs₁=>?_)))))
 replace hz₁:IsZip h₁ z TI TO .ellipsis:=hz₁
 refine aa ?_
 simp only[List.zipIdx_cons,List.zipIdx_nil,dY,dC]
 refine aa (aa (wpAny_onRaise ?_))
 show wpAny _ _ (Builtin.SmallTypes.nextOf (.ref i1) >>= _) _ _ _
 refine aa (zfx hh (h1.ext hs₁.extBut D.i1z) (hl1.ext hs₁.extBut D.l1z) hx fun h₂ e hs₂ he=>?_)
 refine eY he ?_;clear he;intro oe hoe hce
 have hz₂:IsZip h₂ z TI TO .ellipsis:=hs₂ _ _ D.i1z.symm hz₁
 have hez:e≠z:=fun x=>by subst x;rw[hz₂] at hoe;injection hoe with eU;subst eU;simp at hce
 refine cV hz₂ (by simp) fun h₃ uA hs₃=>?_
 refine aa (cO (T:="StopIteration") (b:=true) ⟨oe,hs₃.extBut _ _ hez hoe,hce⟩ isSubtype_stop ?_)
 exact ab (hQ h₃ fun c o c1 c3 x=>hs₃.extBut _ _ c1 (hs₂ _ _ c3 (hs₁.extBut _ _ c1 x)))
theorem zhf{q:SqK}{l:Addr}{xs:Array Value}{Q:Value→Shared→Prop}(hl:IsSq q s.heap l xs)(hQ:Q (.ref s.heap.objs.size) { s with heap:=s.heap.push { cls:=.type q.itc,data:=.fields #[.ref l,.int 0 0] } }):wpAny (model prog w) A (pyIter (.ref l)) Q E s:=by
 cases q with
 | tup=>exact iter_tuple hl hQ
 | lst=>exact cf hl hQ
noncomputable abbrev zH1(q1:SqK)(h:Heap)(l:Addr):Heap:=h.push { cls:=.type q1.itc,data:=.fields #[.ref l,.int 0 0] }
noncomputable abbrev zH2(q1 q2:SqK)(h:Heap)(l t:Addr):Heap:=(zH1 q1 h l).push { cls:=.type q2.itc,data:=.fields #[.ref t,.int 0 0] }
noncomputable abbrev zH3(q1 q2:SqK)(h:Heap)(l t:Addr):Heap:=(zH2 q1 q2 h l t).push { cls:=.type "tuple",data:=.seq #[.ref h.objs.size,.ref (zH1 q1 h l).objs.size] }
noncomputable abbrev zH4(q1 q2:SqK)(h:Heap)(l t:Addr):Heap:=(zH3 q1 q2 h l t).push { cls:=.type "tuple",data:=.seq #[.none,.none] }
noncomputable abbrev zH5(q1 q2:SqK)(h:Heap)(l t:Addr):Heap:=(zH4 q1 q2 h l t).push { cls:=.type "zip",data:=.fields #[.none,.bool false,.bool false,.ref (zH2 q1 q2 h l t).objs.size,.ref (zH3 q1 q2 h l t).objs.size] }
theorem zil(q1 q2:SqK)(l t:Addr)(xs ys:Array Value) :
 Meets (Builtin.«zip.__new__» ⟨[.type "zip",.ref l,.ref t],[]⟩) (fun uA R s=>IsSq q1 s.heap l xs∧IsSq q2 s.heap t ys ∧
  R (.ok (.ret (.ref (zH4 q1 q2 s.heap l t).objs.size))) { s with heap:=zH5 q1 q2 s.heap l t }):=
 .of_wp fun prog w A R s h=>by
  obtain⟨hp,g,d,tk,os⟩:=s;refine fg h ?_;clear h;intro hl1 hl2 h
  have hsub:=sub_zip
  have hL1:IsSq q1 (Shared.heap ⟨hp,g,d,tk,os⟩) l xs:=hl1
  have hL2:IsSq q2 (Shared.heap ⟨hp.push { cls:=.type q1.itc,data:=.fields #[.ref l,.int 0 0] },g,d,tk,os⟩) t ys:=let ⟨o,e,r⟩:=hl2;⟨o,ah _ e,r⟩
  wp_walk using zhf hL1,zhf hL2
  exact eZ _ rfl h
theorem zmf{l t:Addr}{Q:Value→Shared→Prop}(hl1:IsSq q1 s.heap l xs)(hl2:IsSq q2 s.heap t ys)
 (h:∀ h' z TI TO i1 i2,ZAt q1 q2 h' z TI TO i1 i2 l t 0 .none→IsPair h' TO .none .none→ZipApart z TI TO i1 i2 l t→(∀ c∈[z,TI,TO,i1,i2],s.heap.get? c=none)→(∀ c o,s.heap.get? c=some o→h'.get? c=some o)→Q (.ref z) { s with heap:=h' }) :
 wpAny (model prog w) A (call (.type "zip") [.ref l,.ref t]) Q E s:=by
 refine callType_new F.called_zip (by decide) (F.typeCall_zip_2 _ _) (F.newCall_zip_2 _ _) (fun obj=>F.args_object_init_3 obj _ _) F.entry_zip_new (zil q1 q2 l t xs ys) ⟨hl1,hl2,?_⟩
 have hl:l < s.heap.objs.size:=by refine eY hl1 ?_;clear hl1;intro _ e _;exact a6 e
 have ht:t < s.heap.objs.size:=by refine eY hl2 ?_;clear hl2;intro _ e _;exact a6 e
 have z1:(zH1 q1 s.heap l).objs.size=s.heap.objs.size+1:=bv ..
 have z2:(zH2 q1 q2 s.heap l t).objs.size=s.heap.objs.size+2:=by rw[bv,z1]
 have z3:(zH3 q1 q2 s.heap l t).objs.size=s.heap.objs.size+3:=by rw[bv,z2]
 have z4:(zH4 q1 q2 s.heap l t).objs.size=s.heap.objs.size+4:=by rw[bv,z3]
 have g5:(zH5 q1 q2 s.heap l t).get? (zH4 q1 q2 s.heap l t).objs.size=some _:=aF _ rfl
 have g4:(zH5 q1 q2 s.heap l t).get? (zH3 q1 q2 s.heap l t).objs.size=some _:=ah _ (aF _ rfl)
 have g3:(zH5 q1 q2 s.heap l t).get? (zH2 q1 q2 s.heap l t).objs.size=some _:=ah _ (ah _ (aF _ rfl))
 have g2:(zH5 q1 q2 s.heap l t).get? (zH1 q1 s.heap l).objs.size=some _:=ah _ (ah _ (ah _ (aF _ rfl)))
 have g1:(zH5 q1 q2 s.heap l t).get? s.heap.objs.size=some _:=ah _ (ah _ (ah _ (ah _ (aF _ rfl))))
 refine⟨⟨_,g5,rfl⟩,h _ _ _ _ _ _ ⟨g5,g3,⟨_,g1,rfl,rfl⟩,⟨_,g2,rfl,rfl⟩⟩ g4 ?_ (fun c hc=>bj ?_) fun c o x=>
  ah _ (ah _ (ah _ (ah _ (ah _ x))))⟩
 ·rw[z4,z3,z2,z1];exact zipApart_new hl ht
 ·simp only[ae,dJ,or_false] at hc
  rcases hc with rfl | rfl | rfl | rfl | rfl
  ·rw[z4];exact dP _ _
  ·rw[z2];exact dP _ _
  ·rw[z3];exact dP _ _
  ·exact aL _
  ·rw[z1];exact dP _ _
end
inductive Shy(Bd:List PyData→Prop):PyData→Prop
 | none:Shy Bd .none
 | bool (b:Bool):Shy Bd (.bool b)
 | int (i:Int):Shy Bd (.int i)
 | str (x:Str):Shy Bd (.str x)
 | list {xs:List PyData} (h:∀ x∈xs,Shy Bd x):Shy Bd (.list xs)
 | tuple {xs:List PyData} (h:∀ x∈xs,Shy Bd x) (hb:¬ Bd xs):Shy Bd (.tuple xs)
variable{Bd:List PyData→Prop}
theorem Shy.of_list{xs:List PyData}(h:Shy Bd (.list xs)):∀ x∈xs,Shy Bd x:=by cases h;assumption
theorem Shy.of_tuple{xs:List PyData}(h:Shy Bd (.tuple xs)):(∀ x∈xs,Shy Bd x)∧¬ Bd xs:=by cases h;exact⟨by assumption,by assumption⟩
noncomputable def ShyV(Bd:List PyData→Prop):V→Prop
 | .d x=>Shy Bd x
 | .box _=>True
 | .tm _=>False
noncomputable def ShyB(Bd:List PyData→Prop):Box→Prop
 | .lst xs=>∀ x∈xs,Shy Bd x
 | .dct kvs=>∀ kv∈kvs,Shy Bd (p8 kv.1)∧Shy Bd kv.2
structure ShyS(Bd:List PyData→Prop)(ρ:Loc)(O:za):Prop where
 loc:∀ v,some v∈ρ→ShyV Bd v
 box:∀ b∈O,ShyB Bd b
theorem Reads.same{h:Heap}{v:Value}{x:PyData}{as:List Addr}(r:Reads h v x as):Shy Bd x→∀ (x':PyData) (as':List Addr),Reads h v x' as'→x'=x:=
 Reads.rec (motive_1:=fun v x as uA=>Shy Bd x→∀ (x':PyData) (as':List Addr),Reads h v x' as'→x'=x) (motive_2:=fun vs xs as uA=>(∀ x∈xs,Shy Bd x)→∀ (xs':List PyData) (as':List Addr),ReadsAll h vs xs' as'→xs'=xs)
  (fun uA x' as' r=>by cases r;rfl) (fun b uA x' as' r=>by cases r;rfl) (fun i t uA x' as' r=>by cases r;rfl) (fun x t uA x' as' r=>by cases r;rfl)
  (fun h1 h2 h3 uA ih s x' as' r=>by
    cases r with
    | list q1 q2 q3 q4=>rw[h1] at q1;injection q1 with eU;subst eU;rw[h3] at q3;injection q3 with eU eV;subst eU eV;rw[ih s.of_list _ _ q4]
    | tuple q1 q2 q3 q4=>rw[h1] at q1;injection q1 with eU;subst eU;rw[h2] at q2;exact absurd q2 (by simp)
    | dict q1 q2 q3 q4=>rw[h1] at q1;injection q1 with eU;subst eU;rw[h2] at q2;exact absurd q2 (by simp))
  (fun h1 h2 h3 uA ih s x' as' r=>by
    cases r with
    | list q1 q2 q3 q4=>rw[h1] at q1;injection q1 with eU;subst eU;rw[h2] at q2;exact absurd q2 (by simp)
    | tuple q1 q2 q3 q4=>rw[h1] at q1;injection q1 with eU;subst eU;rw[h3] at q3;injection q3 with eU eV;subst eU eV;rw[ih s.of_tuple.1 _ _ q4]
    | dict q1 q2 q3 q4=>rw[h1] at q1;injection q1 with eU;subst eU;rw[h2] at q2;exact absurd q2 (by simp))
  (fun uA uA uA uA uA uA uA s=>nomatch s)
  (fun uA xs' as' r=>by cases r;rfl)
  (fun uA uA i1 i2 s xs' as' r=>by
    cases r with
    | cons r1 r2=>rw[i1 (s _ ao) _ _ r1,i2 (fun x hx=>s x (ag _ hx)) _ _ r2]) r
inductive ZOwn(Bd:List PyData→Prop)(h:Heap)(T:Addr):Prop
 | none (e:IsPair h T .none .none):ZOwn Bd h T
 | data (a b:Value) (e:IsPair h T a b) (x y:PyData) (as cs:List Addr) (r1:Reads h a x as) (r2:Reads h b y cs) (s1:Shy Bd x) (s2:Shy Bd y) (hb:Bd [x,y]):ZOwn Bd h T
theorem ZOwn.pair{h:Heap}{T:Addr}(o:ZOwn Bd h T):∃ a b,IsPair h T a b:=by
 cases o with
 | none e=>exact fG _ _ e
 | data a b e=>exact fG a b e
theorem ZOwn.bad{h:Heap}{T:Addr}(hN:Bd [.none,.none])(o:ZOwn Bd h T){ob:Obj}{vs:Array Value}{n:Nat}(e:h.get? T=some ob)(hd:ob.data=.seq vs n){xs:List PyData}{as:List Addr}(r:ReadsAll h vs.toList xs as):Bd xs:=by
 cases o with
 | none e'=>
   have e':h.get? T=_:=e'
   rw[e] at e';injection e' with eU;subst eU;injection hd with eU eV;subst eU eV
   cases r with
   | cons r1 r=>
     cases r with
     | cons r2 r=>cases r;cases r1;cases r2;exact hN
 | data a b e' x y as cs g1 g2 s1 s2 hb=>
   have e':h.get? T=_:=e'
   rw[e] at e';injection e' with eU;subst eU;injection hd with eU eV;subst eU eV
   cases r with
   | cons r1 r=>
     cases r with
     | cons r2 r=>
       cases r
       rw[Reads.same g1 s1 _ _ r1,Reads.same g2 s2 _ _ r2];exact hb
section
variable{G:Gl}{F:Fm}{N β Z:List Addr}{T:Addr}{ρ:Loc}{O:za}{h h':Heap}(hz:∀ z∈Z,Itr h z)(hN:Bd [.none,.none])(ho:ZOwn Bd h T)(hk:∀ b o,b∉Z→b≠T→h.get? b=some o→h'.get? b=some o)
include hz hN ho hk
theorem getS{b:Addr}{o:Obj}(e:h.get? b=some o)(hd:∀ fs,o.data≠.fields fs)(hc:∀ vs n,o.data=.seq vs n→o.cls≠.type "tuple"):h'.get? b=some o:=by
 refine hk b o (notZ hz e hd) (fun hb=>?_) e
 obtain⟨x,y,ep⟩:=ho.pair
 have ep:h.get? T=_:=ep
 rw[← hb,e] at ep;injection ep with eU;subst eU
 exact hc _ _ rfl rfl
theorem jm{v:Value}{x:PyData}{as:List Addr}(r:Reads h v x as):Shy Bd x→Reads h' v x as:=
 Reads.rec (motive_1:=fun v x as uA=>Shy Bd x→Reads h' v x as) (motive_2:=fun vs xs as uA=>(∀ x∈xs,Shy Bd x)→ReadsAll h' vs xs as)
  (fun uA=>.none) (fun b uA=>.bool b) (fun i t uA=>.int i t) (fun x t uA=>.str x t)
  (fun h1 h2 h3 uA ih s=>.list (getS hz hN ho hk h1 (fun fs q=>by rw[h3] at q;exfalso;injection q) fun uA uA uA q=>by rw[h2] at q;exact absurd q (by simp)) h2 h3 (ih s.of_list))
  (fun {a o vs n xs as} h1 h2 h3 r ih s=>.tuple (hk a o (notZ hz h1 fun fs q=>by rw[h3] at q;exfalso;injection q) (fun e=>s.of_tuple.2 (ho.bad hN (e ▸ h1) h3 r)) h1) h2 h3 (ih s.of_tuple.1))
  (fun uA uA uA uA uA uA uA s=>nomatch s)
  (fun uA=>.nil) (fun uA uA i1 i2 s=>.cons (i1 (s _ ao)) (i2 fun x hx=>s x (ag _ hx))) r
theorem gv{vs:List Value}{xs:List PyData}{as:List Addr}(r:ReadsAll h vs xs as)(s:∀ x∈xs,Shy Bd x):ReadsAll h' vs xs as:=by
 revert s
 refine zz (motive:=fun vs xs as=>(∀ x∈xs,Shy Bd x)→ReadsAll h' vs xs as) (fun uA=>.nil) (fun {v d as vs ds bs} r uA ih s=>.cons (jm hz hN ho hk r (s _ ao)) (ih fun x hx=>s x (ag _ hx))) r
theorem VR.keepS{v:Value}{x:V}(r:VR G N β h v x)(s:ShyV Bd x):VR G N β h' v x:=by
 cases x with
 | d x=>obtain⟨as,r,q⟩:=r;exact⟨as,jm hz hN ho hk r s,q⟩
 | box n=>exact r
 | tm its=>cases s
theorem BoxAt.keepS{a:Addr}{bx:Box}(r:BoxAt h N β a bx)(s:ShyB Bd bx):BoxAt h' N β a bx:=by
 cases bx with
 | lst xs=>obtain⟨o,vs,n,h1,h2,h3,as,h4,h5⟩:=r;exact⟨o,vs,n,getS hz hN ho hk h1 (fun fs q=>by rw[h3] at q;exfalso;injection q) (fun uA uA uA q=>by rw[h2] at q;exact absurd q (by simp)),h2,h3,as,gv hz hN ho hk h4 s,h5⟩
 | dct kvs=>
   obtain⟨o,es,n,h1,h2,h3,h4,h5⟩:=r
   refine⟨o,es,n,getS hz hN ho hk h1 (fun fs q=>by rw[h3] at q;exfalso;injection q) (fun uA uA q=>by rw[h3] at q;exfalso;injection q),h2,h3,h4,fun i e kv he hkv=>?_⟩
   obtain⟨hq,as,bs,r1,r2,q⟩:=h5 i e kv he hkv
   exact⟨hq,as,bs,jm hz hN ho hk r1 (s _ (ay hkv)).1,jm hz hN ho hk r2 (s _ (ay hkv)).2,q⟩
theorem nsS{L:Addr}{m:Str→Option Value}(x:h.Ns L m):h'.Ns L m:=by
 refine fw x ?_;clear x;intro o es ep h1 h2 r
 exact fA o es ep (getS hz hN ho hk h1 (fun fs q=>by rw[h2] at q;exfalso;injection q) (fun uA uA q=>by rw[h2] at q;exfalso;injection q)) h2 r
theorem zpt{c:Addr}{v:Option Value}(x:h.IsCell c v):h'.IsCell c v:=by
 refine eY x ?_;clear x;intro o h1 h2
 exact eZ o (getS hz hN ho hk h1 (fun fs q=>by rw[h2] at q;exfalso;injection q) (fun uA uA q=>by rw[h2] at q;exfalso;injection q)) h2
theorem SR.keepS(hz0:∀ z∈Z,G.h₀.get? z=none)(hT0:G.h₀.get? T=none)(hzB:∀ z∈Z,z∉F.B)(hTB:T∉F.B)(r:SR G F β ρ O h)(s:ShyS Bd ρ O):SR G F β ρ O h':=by
 have f:=r.fm
 refine⟨⟨fun c o e=>hk _ _ (fun hb=>by rw[hz0 c hb] at e;exfalso;injection e) (fun hb=>by rw[hb,hT0] at e;exfalso;injection e) (r.br.keep c o e),r.br.len,r.br.nodup,r.br.new,fun i a bx h1 h2=>(r.br.at_ i a bx h1 h2).keepS hz hN ho hk (s.box _ (ay h2)),fun a ha=>(r.br.plain a ha).at fun o e=>?_⟩,
  ⟨f.kind,f.globals,f.builtins,f.once,let ⟨m,e⟩:=f.ns;⟨m,nsS hz hN ho hk e⟩,f.nsW,fun x h1=>let ⟨c,v,h3,h4,h5⟩:=f.cell x h1;⟨c,v,h3,zpt hz hN ho hk h4,h5⟩,f.apart,f.sub,f.new,f.notBox,
    fun a ha=>let ⟨o,h1,h2⟩:=f.stor a ha;⟨o,hk _ _ (fun hb=>hzB a hb ha) (fun hb=>hTB (hb ▸ ha)) h1,h2⟩,f.frB,fun a ha=>let ⟨m,e⟩:=f.frs a ha;⟨m,nsS hz hN ho hk e⟩,fun m e=>⟨nsS hz hN ho hk (f.pin m e).1,(f.pin m e).2⟩⟩,
  fun i x v h1 h2=>?_⟩
 ·refine hk a o (r.br.notItr hz (fun b o hb e=>e) ha) (fun hT=>?_) e
  refine eY (r.br.alive a ha) ?_;intro o' e' hc
  obtain⟨x,y,ep⟩:=ho.pair
  have ep:h.get? T=_:=ep
  rw[← hT,e'] at ep;injection ep with eU;subst eU
  (refine eW hc ?_ ?_<;>clear hc;rotate_left;intro hc;rotate_right;intro hc) <;> exact absurd hc (by simp)
 ·refine eY (r.get i x v h1 h2) ?_;intro val h3 h4
  refine eZ val ?_ (h4.keepS hz hN ho hk (s.loc v (ay h2)))
  refine eW h3 ?_ ?_<;>clear h3
  ·rintro ⟨g1,m,g2,g3⟩;exact .inl ⟨g1,m,nsS hz hN ho hk g2,g3⟩
  ·rintro ⟨g1,c,g2,g3⟩;exact .inr ⟨g1,c,g2,zpt hz hN ho hk g3⟩
end
end Mine
end
section
namespace Mine
open PySem PyProof.Rows
theorem zh0{i n:Nat}(h:i < n):n+1 - (i+1) < n+1 - i:=by lia
theorem in5{α:Type}{z a b c d:α}:∀ x∈[z,c,d],x∈[z,a,b,c,d]:=fun uA h=>List.Sublist.subset (.cons_cons _ (.cons _ (.cons _ (cF _)))) h
theorem all4{α:Type}{p:α→Prop}{a b c d:α}(h1:p a)(h2:p b)(h3:p c)(h4:p d):∀ x∈[a,b,c,d],p x:=fun x hx=>by
 refine eW (ae.mp hx) ?_ ?_;rotate_left;intro hx;rotate_right;rintro rfl
 ·exact h1
 refine eW (ae.mp hx) ?_ ?_;rotate_left;intro hx;rotate_right;rintro rfl
 ·exact h2
 refine eW (ae.mp hx) ?_ ?_
 ·rintro rfl;exact h3
 ·intro hx;rw[ac.mp hx];exact h4
noncomputable def zipT(xs ys:List PyData):List PyData:=List.zipWith (fun x y=>.tuple [x,y]) xs ys
noncomputable def SqK.mk:SqK→List PyData→PyData
 | .lst,xs=>.list xs
 | .tup,xs=>.tuple xs
noncomputable def sqOf:SqK→PyData→Option (List PyData)
 | .lst,.list xs=>some xs
 | .tup,.tuple xs=>some xs
 | _,_=>none
theorem zdg{q:SqK}{x:PyData}{xs:List PyData}(h:sqOf q x=some xs):x=q.mk xs:=by
 cases q <;> cases x <;> first | (cases h;rfl) | (exfalso;injection h)
structure ZOk(Bd:List PyData→Prop)(q1 q2:SqK)(xs ys:List PyData):Prop where
 len:xs.length=ys.length
 sx:Shy Bd (q1.mk xs)
 sy:Shy Bd (q2.mk ys)
 non:Bd [.none,.none]
 bad:∀ (i:Nat) x y,xs[i]?=some x→ys[i]?=some y→Bd [x,y]
theorem Shy.of_sq{Bd:List PyData→Prop}{q:SqK}{xs:List PyData}(h:Shy Bd (q.mk xs)):∀ x∈xs,Shy Bd x:=by
 cases q with
 | lst=>exact Shy.of_list h
 | tup=>exact (Shy.of_tuple h).1
inductive SqV(q:SqK)(h:Heap)(N β:List Addr)(v:Value)(xs:List PyData):Prop
 | mk (a:Addr) (o:Obj) (vs:Array Value) (n:Nat) (hv:v=.ref a) (h1:h.get? a=some o) (h2:o.cls=.type q.cls) (h3:o.data=.seq vs n) (as:List Addr) (h4:ReadsAll h vs.toList xs as) (h5:∀ a∈as,a∉β∧a∉N)
theorem VR.sq_inv{G:Gl}{q:SqK}{h:Heap}{N β:List Addr}{v:Value}{xs:List PyData}(r:VR G N β h v (.d (q.mk xs))):SqV q h N β v xs:=by
 cases q with
 | tup=>obtain⟨a,o,vs,n,e,h1,h2,h3,as,h4,h5⟩:=VR.tuple_inv r;exact⟨a,o,vs,n,e,h1,h2,h3,as,h4,h5⟩
 | lst=>refine ft (VR.list_inv r) ?_;intro a e eo _;obtain ⟨o,vs,n,h1,h2,h3,as,h4,h5⟩:=eo;exact⟨a,o,vs,n,e,h1,h2,h3,as,h4,h5⟩
noncomputable def xt(Bd:List PyData→Prop)(c:CT)(evb:Loc→za→R (Loc×za) Fl)(x:PyData)(ρ:Loc)(O:za):R (Loc×za) Fl:=@ite _ (ShyS Bd ρ O) (Classical.propDecidable _) (jy c evb x ρ O) .stuck
noncomputable def zle(Bd:List PyData→Prop)(q1 q2:SqK)(c:CT)(evb:Loc→za→R (Loc×za) Fl)(o1 o2:Option (List PyData))(S:Loc×za):R (Loc×za) Fl:=match o1,o2 with
 | some xs,some ys=>@ite _ (ZOk Bd q1 q2 xs ys) (Classical.propDecidable _) (z7 (.plain (zipT xs ys)) (xt Bd c evb) (zipT xs ys) S.1 S.2) .stuck
 | _,_=>.stuck
noncomputable def zhj(Bd:List PyData→Prop)(q1 q2:SqK)(c:CT)(evb:Loc→za→R (Loc×za) Fl)(p:V×V)(S:Loc×za):R (Loc×za) Fl:=match p with
 | (.d x,.d y)=>zle Bd q1 q2 c evb (sqOf q1 x) (sqOf q2 y) S
 | _=>.stuck
noncomputable def CS.forG(Bd:List PyData→Prop)(q1 q2:SqK)(t:CT)(a b:CE)(c:CSs):CS:=fun P ρ O=>if P.hd=true then .stuck else (((evE P ρ a O).bind fun v O=>(evE P ρ b O).bind fun u O=>.ok (v,u) O).lift ρ).bind (zhj Bd q1 q2 t fun ρ O=>evSs P c ρ O)
variable{Bd:List PyData→Prop}{q1 q2:SqK}
theorem zld{src:Src}{c:CT}{evb:Loc→za→R (Loc×za) Fl}{x:PyData}{xs:List PyData}{ρ:Loc}{O:za}{fl:Fl}{S:Loc×za}(h:z7 src (xt Bd c evb) (x::xs) ρ O=.ok fl S):ShyS Bd ρ O∧zmv src c evb x (z7 src (xt Bd c evb) xs) ρ O fl S:=by
 have h:(match xt Bd c evb x ρ O with
  | .ok (.ret v) S=>.ok (.ret v) S
  | .ok .next S=>if src.still S.2 then z7 src (xt Bd c evb) xs S.1 S.2 else .stuck
  | _=>.stuck)=R.ok fl S:=h
 by_cases hs:ShyS Bd ρ O
 ·rw[show xt Bd c evb x ρ O=jy c evb x ρ O from af hs] at h
  exact⟨hs,zd7 h⟩
 ·rw[show xt Bd c evb x ρ O=.stuck from aj hs] at h
  exfalso;injection h
section
variable{G:Gl}{F:Fm}{A:Around}{cx:Cx}{gval:Nat→Option PyData}{gname:Nat→Option Str}
inductive OwnV(G:Gl)(Bd:List PyData→Prop)(N β:List Addr)(h:Heap)(T:Addr):Prop
 | none (e:IsPair h T .none .none):OwnV G Bd N β h T
 | data (a b:Value) (e:IsPair h T a b) (x y:PyData) (r1:VR G N β h a (.d x)) (r2:VR G N β h b (.d y)) (s1:Shy Bd x) (s2:Shy Bd y) (hb:Bd [x,y]):OwnV G Bd N β h T
theorem OwnV.own{N β:List Addr}{h:Heap}{T:Addr}(o:OwnV G Bd N β h T):ZOwn Bd h T:=by
 cases o with
 | none e=>exact .none e
 | data a b e x y r1 r2 s1 s2 hb=>obtain⟨as,r1,_⟩:=r1;obtain⟨cs,r2,_⟩:=r2;exact .data a b e x y as cs r1 r2 s1 s2 hb
inductive TInv(G:Gl)(Bd:List PyData→Prop)(q1 q2:SqK)(F:Fm)(β₀:List Addr)(s₀:Shared)(z TI TO i1 i2 t l:Addr)(xs ys:List PyData)(go:List PyData→Loc→za→Prop)(k:Nat)(s:Shared):Prop
 | mk (i:Nat) (β:List Addr) (ρ:Loc) (O:za) (hk:k=xs.length+1 - i) (hi:i≤xs.length) (step:Step F.W β₀ s₀ s β) (sr:SR G F β ρ O s.heap) (Z:ZAt q1 q2 s.heap z TI TO i1 i2 t l i .none) (own:OwnV G Bd F.B β s.heap TO)
    (rt:VR G F.B β s.heap (.ref t) (.d (q1.mk xs))) (rl:VR G F.B β s.heap (.ref l) (.d (q2.mk ys))) (hgo:go ((zipT xs ys).drop i) ρ O)
theorem ZAt.at{h h':Heap}{z TI TO i1 i2 t l:Addr}{k:Nat}{f:Value}(Z:ZAt q1 q2 h z TI TO i1 i2 t l k f)(hk:∀ c∈[z,TI,i1,i2],∀ o,(∀ es n,o.data≠.dict es n)→h.get? c=some o→h'.get? c=some o):ZAt q1 q2 h' z TI TO i1 i2 t l k f:=by
 obtain⟨h1,h2,⟨o4,h4,c4,d4⟩,⟨o5,h5,c5,d5⟩⟩:=Z
 exact⟨hk z (.head _) _ (fun uA uA e=>nomatch e) h1,hk TI (.tail _ (.head _)) _ (fun uA uA e=>nomatch e) h2,
  ⟨o4,hk i1 (.tail _ (.tail _ (.head _))) _ (fun uA uA e=>by rw[d4] at e;exfalso;injection e) h4,c4,d4⟩,⟨o5,hk i2 (.tail _ (.tail _ (.tail _ (.head _)))) _ (fun uA uA e=>by rw[d5] at e;exfalso;injection e) h5,c5,d5⟩⟩
theorem ZAt.itr{h:Heap}{z TI TO i1 i2 t l:Addr}{k:Nat}{f:Value}(Z:ZAt q1 q2 h z TI TO i1 i2 t l k f):∀ c∈[z,i1,i2],Itr h c:=fun c hc=>by
 obtain⟨h1,h2,⟨o4,h4,c4,d4⟩,⟨o5,h5,c5,d5⟩⟩:=Z
 refine eW (ae.mp hc) ?_ ?_;rotate_left;intro hc;rotate_right;rintro rfl
 ·exact fA _ _ _ h1 rfl rfl
 refine eW (ae.mp hc) ?_ ?_
 ·rintro rfl;exact fA o4 _ _ h4 c4 d4
 ·intro hc;rw[ac.mp hc];exact fA o5 _ _ h5 c5 d5
theorem BR.notTup{N β:List Addr}{O:za}{h:Heap}(b:BR G N β O h){c:Addr}{x y:Value}(e:IsPair h c x y):c∉β:=fun hc=>by
 refine eY (b.alive c hc) ?_;intro o e' hd
 have e:h.get? c=_:=e
 rw[e] at e';injection e' with eU;subst eU
 (refine eW hd ?_ ?_<;>clear hd;rotate_left;intro hd;rotate_right;intro hd) <;> exact absurd hd (by simp)
theorem zsg{es:List Expr}{kt:Nat}{pt:Pos}{c:CT}{own:Str→Bool}{body:List Stmt}{evb:Loc→za→R (Loc×za) Fl}{xs ys:List PyData}(g:GOk G gval gname)(hh:A.handled=none)(fit:Fits F cx)(hown:∀ x,own x=true→F.own x=true)(hc:chkT cx own c (.Tuple es kt pt)=true)
 (hb:∀ s β ρ O,SR G F β ρ O s.heap→Does G F A s β (execs body F.env) (evb ρ O) (yu G F)) {s:Shared} {β:List Addr} {ρ:Loc} {O:za} {v u:Value} (sr:SR G F β ρ O s.heap) (rv:VR G F.B β s.heap v (.d (q1.mk xs))) (ru:VR G F.B β s.heap u (.d (q2.mk ys))) (ok:ZOk Bd q1 q2 xs ys)
 {fl:Fl} {S:Loc×za} (hgo:z7 (.plain (zipT xs ys)) (xt Bd c evb) (zipT xs ys) ρ O=.ok fl S) {Q:Flow→Shared→Prop} {E:Value→Shared→Prop}
 (kk:∀ s' β' f,Step F.W β s s' β'→SR G F β' S.1 S.2 s'.heap→yu G F β' s'.heap f fl→Q f s') :
 wpAny (model G.prog G.w) A (call (.type "zip") [v,u]) (fun z s₁=>wpAny (model G.prog G.w) A (pyIter z) (fun it s₂=>codeAny (model G.prog G.w) A (.forLoop (.Tuple es kt pt) it body [] F.env)
  (fun r s'=>match r with | .ok f=>Q f s' | .error e=>cameBackBy (model G.prog G.w) A F.env E e s') s₂) E s₁) E s:=by
 have rv₀:=rv
 have ru₀:=ru
 obtain⟨t,ot,vt,nt,rfl,t1,t2,t3,at',t4,t5⟩:=rv.sq_inv
 obtain⟨l,ol,vl,nl,rfl,l1,l2,l3,al,l4,l5⟩:=ru.sq_inv
 refine zmf (q1:=q1) (q2:=q2) ⟨ot,t1,t2,nt,t3⟩ ⟨ol,l1,l2,nl,l3⟩ fun h₁ z TI TO i1 i2 Z hTO D fresh kept=>wpAny_pyIter_zip Z.zip ?_
 clear t1 t2 t3 t4 t5 l1 l2 l3 l4 l5
 have f0:∀ c∈[z,TI,TO,i1,i2],G.h₀.get? c=none:=fun c hc=>by
  cases e:G.h₀.get? c with
  | none=>rfl
  | some o=>have:=sr.br.keep c o e;rw[fresh c hc] at this;exfalso;injection this
 have fB:∀ c∈[z,TI,TO,i1,i2],c∉F.B:=fun c hc hB=>by
  refine eY (sr.fm.stor c hB) ?_;intro o e _
  rw[fresh c hc] at e;exfalso;injection e
 have m3:∀ c∈[z,i1,i2],c∈[z,TI,TO,i1,i2]:=in5
 have ka:KeepsAll s { s with heap:=h₁ }:=⟨rfl,rfl,kept⟩
 refine codeAny_forLoop_any (TInv G Bd q1 q2 F β s z TI TO i1 i2 t l xs ys fun zs ρ O=>z7 (.plain (zipT xs ys)) (xt Bd c evb) zs ρ O=.ok fl S) ?_ (xs.length+1) ⟨0,β,ρ,O,rfl,a8 _,ka.step _ _,sr.keepAll kept,Z,.none hTO,rv₀.keepAll kept,ru₀.keepAll kept,hgo⟩
 clear hgo Z hTO ka rv₀ ru₀
 intro k s' hI
 obtain⟨i,β',ρ',O',rfl,hi,step,sr',Z,own,rt,rl,hgo⟩:=hI
 have hitr:=Z.itr
 have hlz:(zipT xs ys).length=xs.length:=by unfold zipT;rw[List.length_zipWith,← ok.len,Nat.min_self]
 have rt':=rt
 have rl':=rl
 obtain⟨t',ot,vt,nt,e,t1,t2,t3,at',t4,t5⟩:=rt.sq_inv
 injection e with eU;subst eU
 obtain⟨l',ol,vl,nl,e,l1,l2,l3,al,l4,l5⟩:=rl.sq_inv
 injection e with eU;subst eU
 by_cases hlt:i < xs.length
 ·have hxi:xs[i]?=some xs[i]:=aq hlt
  have hly:i < ys.length:=by rw[← ok.len];exact hlt
  have hyi:ys[i]?=some ys[i]:=aq hly
  have hzi:(zipT xs ys).drop i=.tuple [xs[i],ys[i]]::(zipT xs ys).drop (i+1):=by
   rw[List.drop_eq_getElem_cons (by rw[hlz];exact hlt)]
   unfold zipT
   rw[List.getElem_zipWith]
  rw[hzi] at hgo
  obtain⟨hshy,ρ'',f,S',hbt,he,hrest⟩:=zld hgo
  have sx:Shy Bd xs[i]:=ok.sx.of_sq _ (ay hxi)
  have sy:Shy Bd ys[i]:=ok.sy.of_sq _ (ay hyi)
  have hbd:Bd [xs[i],ys[i]]:=ok.bad i _ _ hxi hyi
  have hN:=ok.non
  generalize xs[i]=x at hxi hbt sx hzi hbd
  generalize ys[i]=y at hyi hbt sy hzi hbd
  refine fk (zo t4 t5 hxi) ?_;intro vx bx x1 x2 x3
  refine fk (zo l4 l5 hyi) ?_;intro vy by' y1 y2 y3
  rw[aV] at x1 y1
  obtain⟨ta,tb,hTO⟩:=own.own.pair
  refine zjh D Z hTO ⟨ot,t1,t2,nt,t3⟩ ⟨ol,l1,l2,nl,l3⟩ x1 y1 fun h₂ Z₂ hTO₂ hT hk₂=>?_
  have zlt:s'.heap.objs.size≠z:=Nat.ne_of_gt (a6 Z.zip)
  refine wpAny_letOwnedTupleGo_zip (s:={ s' with heap:=h₂ }) Z₂.zip fun h₃ hz₃ hs₃=>?_
  have hk₃:∀ b o,b∉[z,i1,i2]→b≠TO→s'.heap.get? b=some o→h₃.get? b=some o:=fun b o hb hbT e=>by
   exact hs₃.extBut _ _ (fun e=>hb (e ▸ .head _)) (hk₂ b o (fun e=>hb (e ▸ .head _)) hbT (fun e=>hb (e ▸ .tail _ (.head _))) (fun e=>hb (e ▸ .tail _ (.tail _ (.head _)))) e)
  have Z₃:ZAt q1 q2 h₃ z TI TO i1 i2 t l (i+1) .none:=by
   obtain⟨_,q2,⟨o4,q4,r4⟩,q5⟩:=Z₂
   exact⟨hz₃,hs₃.extBut _ _ D.TIz q2,⟨o4,hs₃.extBut _ _ D.i1z q4,r4⟩,q5.ext hs₃.extBut D.i2z⟩
  have hTO₃:IsPair h₃ TO vx vy:=hs₃.extBut _ _ D.TOz hTO₂
  have sr₃:SR G F β' ρ' O' h₃:=sr'.keepS hitr hN own.own hk₃ (fun c hc=>f0 c (m3 c hc)) (f0 TO (.tail _ (.tail _ (.head _)))) (fun c hc=>fB c (m3 c hc)) (fB TO (.tail _ (.tail _ (.head _)))) hshy
  have rx:VR G F.B β' h₃ vx (.d x):=VR.keepS hitr hN own.own hk₃ (x:=.d x) ⟨bx,x2,x3⟩ sx
  have ry:VR G F.B β' h₃ vy (.d y):=VR.keepS hitr hN own.own hk₃ (x:=.d y) ⟨by',y2,y3⟩ sy
  have rt₃:=rt'.keepS hitr hN own.own hk₃ ok.sx
  have rl₃:=rl'.keepS hitr hN own.own hk₃ ok.sy
  have rp:VR G F.B β' h₃ (.ref s'.heap.objs.size) (.d (.tuple [x,y])):=by
   obtain⟨as,r1,q1⟩:=id rx
   obtain⟨bs,r2,q2⟩:=id ry
   exact⟨_,.tuple (hs₃.extBut _ _ zlt hT) rfl rfl (.cons r1 (.cons r2 .nil)),fun a ha=>by
    rw[be] at ha
    exact (ai.mp ha).elim (q1 a) (q2 a)⟩
  have step₃:Step F.W β s { s' with heap:=h₃ } β':=step.thenZ (Z:=[z,TI,TO,i1,i2]) ⟨rfl,rfl,fun b o hb e=>hk₃ b o (fun h=>hb (m3 b h)) (fun h=>hb (h ▸ .tail _ (.tail _ (.head _)))) e⟩ fresh
  have da:=xy (A:=A) (s:={ s' with heap:=h₃ }) hh fit hown c hc sr₃ rp
  unfold bindR at da
  dsimp only at da
  rw[hbt] at da
  dsimp only at da
  refine da _ _ fun s₄ β₄ uA st₄ sr₄ uA=>?_
  have db:=hb s₄ β₄ ρ'' O' sr₄
  rw[he] at db
  refine db _ _ fun s₅ β₅ f' st₅ sr₅ rf=>?_
  have st:=st₄.trans st₅
  have step₅:=step₃.trans st
  cases hrest with
  | ret w e=>
    subst e
    refine eY rf ?_;clear rf;intro val eg rv';subst eg
    exact kk s₅ β₅ (.ret val) step₅ sr₅ ⟨val,rfl,rv'⟩
  | next _ hst hgo=>
    have rf:f'=.next:=rf
    subst rf
    have nW:∀ c∈[z,TI,TO,i1,i2],c∉F.W:=fun c hc hW=>fB c hc (sr.fm.sub c hW)
    refine⟨xs.length+1 - (i+1),zh0 hlt,i+1,β₅,S'.1,S'.2,rfl,hlt,step₅,sr₅,Z₃.at (all4 (fun o hd e=>st.keptE e (u6 sr₃.br Z₃.itr _ (.head _)) (nW _ (.head _)) hd) (fun o hd e=>st.keptE e (sr₃.br.notTup Z₃.ti) (nW _ (.tail _ (.head _))) hd) (fun o hd e=>st.keptE e (u6 sr₃.br Z₃.itr _ (.tail _ (.head _))) (nW _ (.tail _ (.tail _ (.tail _ (.head _))))) hd) fun o hd e=>st.keptE e (u6 sr₃.br Z₃.itr _ (.tail _ (.tail _ (.head _)))) (nW _ (.tail _ (.tail _ (.tail _ (.tail _ (.head _)))))) hd),.data vx vy ?_ x y (rx.step sr₃.br sr₃.fm st) (ry.step sr₃.br sr₃.fm st) sx sy hbd,rt₃.step sr₃.br sr₃.fm st,rl₃.step sr₃.br sr₃.fm st,hgo⟩
    exact st.keptE hTO₃ (sr₃.br.notTup hTO₃) (nW TO (.tail _ (.tail _ (.head _)))) fun uA uA e=>nomatch e
 ·have hie:i=xs.length:=by lia
  have hd:(zipT xs ys).drop i=[]:=by rw[List.drop_eq_nil_iff,hlz,hie];exact aL _
  rw[hd] at hgo
  have hgo:Mine.R.ok Fl.next (ρ',O')=Mine.R.ok fl S:=hgo
  injection hgo with eU eV;subst eU eV
  have hnone:vt[i]?=none:=by
   rw[← aV,bc]
   rw[zd t4,hie];exact aL _
  refine zmw hh D Z ⟨ot,t1,t2,nt,t3⟩ hnone fun h' hk=>?_
  have kz:KeepsZ [z,i1] s' { s' with heap:=h' }:=⟨rfl,rfl,fun b o hb e=>hk b o (fun e=>hb (e ▸ .head _)) (fun e=>hb (e ▸ .tail _ (.head _))) e⟩
  have m2:∀ c∈[z,i1],c∈[z,i1,i2]:=fun c hc=>az [i2] hc
  exact wpAny_execs_nil (kk _ β' .next (step.thenZ kz fun c hc=>fresh c (m3 c (m2 c hc))) (sr'.keepZ (fun c hc=>hitr c (m2 c hc)) kz.kept g.clsRef (fun c hc=>f0 c (m3 c (m2 c hc))) fun c hc=>fB c (m3 c (m2 c hc))) rfl)
end
set_option tactic.hygienic true in
theorem zql{cx:Cx}{x y:Expr}{a b:CE}{c:CSs}{t:CT}{body:List Stmt}{es:List Expr}{pt ps q pos:Pos}{kt:Nat}(h1:JE cx x a)(h2:JE cx y b)(hb:JSs cx body c)(hx:cx.isGlob "zip" = true)(hc:chkT cx (ownOf cx.sc) t (.Tuple es kt pt)=true) :
 JS cx (.For (.Tuple es kt pt) (.Call (.Name "zip" ps) [x,y] [] q) body [] pos) (.forG Bd q1 q2 t a b c):=⟨fun {G A P F s β ρ O} hr sr=>by
 show Does G F A s β _ (if P.hd=true then .stuck else _:R (Loc×za) Fl) _
 by_cases hd:P.hd=true
 ·rw[af hd];trivial
 rw[aj hd]
 have hh:=hr.run.hm (ba.mpr hd)
 refine ff (hr.run.g.bi ("zip",.type "zip") (by decide)) ?_;intro b1 b2
 let evb:Loc→za→R (Loc×za) Fl:=fun ρ O=>evSs P c ρ O
 have e1:(((evE P ρ a O).bind fun v O=>(evE P ρ b O).bind fun u O=>R.ok (v,u) O).lift ρ).bind (zhj Bd q1 q2 t evb)=((evE P ρ a O).lift ρ).bind fun v S=>((evE P ρ b S.2).lift ρ).bind fun u S'=>zhj Bd q1 q2 t evb (v,u) (ρ,S'.2):=by
  cases evE P ρ a O with
  | ok v O'=>
    show (((evE P ρ b O').bind fun u O=>R.ok (v,u) O).lift ρ).bind _=((evE P ρ b O').lift ρ).bind _
    cases evE P ρ b O' <;> rfl
  | stuck=>rfl
 rw[e1]
 let tail:Value→Value→WT Flow:=fun v u Q E s=>wpAny (model G.prog G.w) A (call (.type "zip") [v,u]) (fun z s₁=>wpAny (model G.prog G.w) A (pyIter z) (fun it s₂=>codeAny (model G.prog G.w) A (.forLoop (.Tuple es kt pt) it body [] F.env)
  (fun r s'=>match r with | .ok f=>Q f s' | .error e=>cameBackBy (model G.prog G.w) A F.env E e s') s₂) E s₁) E s
 refine DoesW.seq (T₂:=fun v Q E s=>wpAny (model G.prog G.w) A (eval y F.env) (fun u s₁=>tail v u Q E s₁) E s) (fun Q E h=>?_) (h1.d hr.toHere sr) fun s₁ β₁ v d S e st sr₁ rv=>?_
 ·exact wpAny_For (Call_Name rfl (yl hr.run.g sr hr.fit hx b1 b2 (callWith_type1 (cN (aM h (fun v s₁ h₁=>cN (aM h₁ (fun u s₂ h₂=>spliced_none h₂) fun uA uA x=>x) h2.px.star) fun uA uA x=>x) h1.px.star) h1.px.star (by rw[h2.px.star];rfl)))) fun v=>rfl
 ·have hS:S=(ρ,S.2):=by
   cases hv:evE P ρ a O with
   | ok _ _=>rw[hv] at e;injection e with eU eV;subst eU eV;rfl
   | stuck=>rw[hv] at e;exfalso;injection e
  rw[hS] at sr₁
  refine DoesW.seq (T₁:=tr G A (eval y F.env)) (T₂:=fun u=>tail v u) (fun Q E h=>h) (h2.d hr.toHere sr₁) fun s₂ β₂ u d₂ S₂ e₂ st₂ sr₂ ru=>?_
  have hS₂:S₂.1=ρ:=by
   cases hv:evE P ρ b S.2 with
   | ok _ _=>rw[hv] at e₂;injection e₂ with eU eV;subst eU eV;rfl
   | stuck=>rw[hv] at e₂;exfalso;injection e₂
  rw[hS₂] at sr₂
  have rv₂:=rv.step sr₁.br sr₁.fm st₂
  clear rv e e₂
  cases d <;> first | trivial | skip
  rename_i dx
  cases d₂ <;> first | trivial | skip
  rename_i dy
  show DoesW G F s₂ β₂ _ (zle Bd q1 q2 t evb (sqOf q1 dx) (sqOf q2 dy) (ρ,S₂.2)) _
  cases hx':sqOf q1 dx with
  | none=>trivial
  | some xs=>
    cases hy':sqOf q2 dy with
    | none=>trivial
    | some ys=>
      rw[zdg hx'] at rv₂
      rw[zdg hy'] at ru
      show DoesW G F s₂ β₂ _ (@ite _ (ZOk Bd q1 q2 xs ys) (Classical.propDecidable _) (z7 (.plain (zipT xs ys)) (xt Bd t evb) (zipT xs ys) ρ S₂.2) .stuck) _
      by_cases ok:ZOk Bd q1 q2 xs ys
      ·rw[af ok]
       cases hgo:z7 (.plain (zipT xs ys)) (xt Bd t evb) (zipT xs ys) ρ S₂.2 with
       | stuck=>trivial
       | ok fl S'=>exact fun Q E kk=>zsg hr.run.g hh hr.fit hr.own hc (fun s' β' ρ' O' sr'=>hb.d hr sr') sr₂ rv₂ ru ok hgo kk
      ·rw[aj ok];trivial⟩
end Mine
end
section
namespace Mine
open PySem PyProof.Rows PySem.W
section
variable{prog:Program}{w:World}
theorem zk1{vs:List Value}{is:List Int}(h:IntsAre vs is):ItemsAre (intKind prog w) is vs:=by
 induction h with
 | nil=>exact .nil
 | cons i t _ ih=>exact .cons (by show Value.isInt i (.int i t)=true;unfold Value.isInt;exact aD rfl) ih
theorem zjm{h:Heap}{vs:List Value}{xs:List PyData}{as:List Addr}(r:ReadsAll h vs xs as):∀ {kss:List (List Int)},ja xs=some kss→vs.length=kss.length∧∀ (i:Nat) v,vs[i]?=some v→∃ b ks,kss[i]?=some ks∧v=.ref b∧TK (prog:=prog) (w:=w) h ks b:=by
 refine zz (motive:=fun vs xs uA=>∀ {kss:List (List Int)},ja xs=some kss→vs.length=kss.length∧∀ (i:Nat) v,vs[i]?=some v→∃ b ks,kss[i]?=some ks∧v=.ref b∧TK (prog:=prog) (w:=w) h ks b) ?_ ?_ r
 ·intro kss e;injection e with eU;subst eU;exact⟨rfl,fun i v h=>by rw[List.getElem?_nil] at h;exfalso;injection h⟩
 ·intro v d as vs ds bs r _ ih kss e
  refine eY (aW.mp e) ?_;intro p hx e
  refine eY (aE.mp e) ?_;intro q hr eo;subst eo
  refine ff (ih hr) ?_;intro l k
  refine⟨cK (· + 1) l,fun i u h=>?_⟩
  cases i with
  | succ i=>exact k i u h
  | zero=>
    have h:some v=some u:=h
    injection h with eU;subst eU
    have hx:za9 d=some p:=hx
    refine eY (zcd r hx) ?_;intro b eg eo;subst eg;obtain ⟨o,n,us,g1,g2,g3,g4,_⟩:=eo
    exact⟨b,p,rfl,rfl,o,us,n,g1,g2,g3,zk1 g4⟩
end
noncomputable def de(x:PyData):Option PyData:=ofList (fun xs=>(ja xs).bind fun kss=>if kss.length≤17 then some (.int (ym kss kss.length).length) else none) x
noncomputable def CE.lenS(a:CE):CE:=fun P ρ O=>if P.hd=true then .stuck else (evE P ρ a O).bind fun v O=>opt (((look O v).bind de).map .d) O
section
variable{G:Gl}{F:Fm}{A:Around}{s:Shared}{β:List Addr}{ρ:Loc}{O:za}{cx:Cx}{gval:Nat→Option PyData}{gname:Nat→Option Str}
theorem zq8{v:Value}{d:V}{x y:PyData}{k:Nat}(ro:Room A k)(hh:A.handled=none)(sr:SR G F β ρ O s.heap)(rv:VR G F.B β s.heap v d)(hx:look O d=some x)(hy:de x=some y) :
 DoesW G F s β (fun Q E s=>wpAny (model G.prog G.w) A (call (.type "set") [v]) (fun S s₁=>wpAny (model G.prog G.w) A (call (.builtin "len") [S]) Q E s₁) E s) (.ok (V.d y) (ρ,O)) (VRel G F):=by
 refine eY (vq (f:=fun xs=>(ja xs).bind fun kss=>if kss.length≤17 then some (.int (ym kss kss.length).length) else none) hy) ?_;intro xs eg h;subst eg
 refine eY (aW.mp h) ?_;intro kss h1 h
 refine ff (yy h) ?_;intro h17 eg;subst eg
 refine eY (yb sr rv hx) ?_;intro a eg eo;subst eg;obtain ⟨o,vs,n,e1,e2,e3,as,r,q⟩:=eo
 refine ff (zjm (prog:=G.prog) (w:=G.w) r h1) ?_;intro l hk
 have hu:=ro.c (n:=200)
 refine Does.leaf sr fun Q E kk=>za3 hh (by lia) ⟨o,e1,e2,n,e3⟩ (by rw[← aC];exact l) (fun i v hv=>hk i v (by rw[← hv];exact aV)) h17 fun h' tk hS hkeep=>?_
 obtain⟨o',ep,t,m,L,ho,hex,hd,ht,hr,hre,hlen,hnd,hent,hmem,hm⟩:=hS
 have hsz:(elems L).size=(ym kss kss.length).length:=by rw[← hlen];unfold elems;rw[List.size_toArray,aw]
 have hle:=w4 kss kss.length
 have hfit:t.fits (elems L).size=true:=by
  simp only[SetTable.fits,SetTable.fill,ht.place,ht.dummies,ht.mask,places,elems,aG,aQ,aK]
  constructor
  ·simp
  ·simp;lia
 refine call_len_set (s:={ s with heap:=h',toks:=tk }) ho hex hd hfit (by rw[hsz];lia) ?_
 rw[hsz]
 exact kk _ _ ⟨rfl,rfl,hkeep⟩ VR.int
theorem zre{y:Expr}{a:CE}{ps pz q q':Pos}(h:JE cx y a)(hg:(cx.isGlob "len" && cx.isGlob "set")=true):JE cx (.Call (.Name "len" ps) [.Call (.Name "set" pz) [y] [] q'] [] q) (.lenS a):=
 ⟨rfl,fun {G A P F s β ρ O} hr sr=>by
   refine ff (and2 hg) ?_;intro hx hz
   show Does G F A s β _ (R.lift ρ (if P.hd=true then .stuck else _:R za V)) _
   by_cases hd:P.hd=true
   ·rw[af hd];trivial
   rw[aj hd]
   have hh:=hr.run.hm (ba.mpr hd)
   refine ff (hr.run.g.bi ("len",.builtin "len") (by decide)) ?_;intro b1 b2
   refine ff (hr.run.g.bi ("set",.type "set") (by decide)) ?_;intro c1 c2
   have hne:starEach [Expr.Call (.Name "set" pz) [y] [] q'] F.env=(false,eval (.Call (.Name "set" pz) [y] [] q') F.env)::starEach [] F.env:=rfl
   refine DoesW.seqE (T₂:=fun v Q E s=>wpAny (model G.prog G.w) A (call (.type "set") [v]) (fun S s₁=>wpAny (model G.prog G.w) A (call (.builtin "len") [S]) Q E s₁) E s)
    (fun Q E h'=>?_) (h.d hr sr) fun s' β' val v O' uA st sr' rv=>?_
   ·exact Call_Name rfl (yl hr.run.g sr hr.fit hx b1 b2 (callWith_builtin1 (cN (aM (Call_Name rfl (yl hr.run.g sr hr.fit hz c1 c2 (callWith_type1 (cN (aM h' (fun v s₁ h₁=>spliced_none h₁) (fun uA uA x=>x)) h.px.star) h.px.star rfl))) (fun v s₁ h₁=>spliced_none h₁) (fun uA uA x=>x)) hne) hne rfl))
   ·cases hl:(look O' v).bind de with
    | none=>trivial
    | some y=>
      refine eY (aW.mp hl) ?_;intro x h1 h2
      exact zq8 hr.run.ro hh sr' rv h1 h2⟩
end
end Mine
end
section
namespace Mine
open PySem PyProof.Rows
section
variable{G:Gl}{F:Fm}{A:Around}{s:Shared}{β:List Addr}{ρ:Loc}{O:za}
end
section
variable{G:Gl}{F:Fm}{A:Around}{s:Shared}{β:List Addr}{ρ:Loc}{O:za}{cx:Cx}
end
noncomputable def ztj(f:List PyData→Option PyData):PyData→Option PyData
 | .tuple xs=>f xs
 | _=>none
noncomputable def znb(xs:List PyData)(lo hi:PyData):Option PyData:=if xs.length≤line then (clip xs.length 0 lo).bind fun l=>(clip xs.length xs.length hi).map fun h=>.tuple (j9 xs l h) else none
noncomputable def zu1(v l h:V)(O:za):R za V:=match l with
 | .d l=>(match h with
    | .d h=>opt (((look O v).bind (ztj fun xs=>znb xs l h)).map .d) O
    | _=>.stuck)
 | _=>.stuck
section
variable{G:Gl}{F:Fm}{A:Around}{s:Shared}{β:List Addr}{ρ:Loc}{O:za}
end
section
variable{cx:Cx}{x y:Expr}{a b c:CE}{p q ps:Pos}
end
noncomputable def zmm(i j k:Nat)(v:V)(S:Loc×za):R (Loc×za) Fl:=match v with
 | .d (.tuple [x,y,z])=>if i < S.1.length∧j < S.1.length∧k < S.1.length then .ok .next (((S.1.set i (some (.d x))).set j (some (.d y))).set k (some (.d z)),S.2) else .stuck
 | _=>.stuck
noncomputable def CS.asg3(i j k:Nat)(e:CE):CS:=fun P ρ O=>if P.hd=true then .stuck else ((evE P ρ e O).lift ρ).bind (zmm i j k)
theorem ztp{α:Type}{l:List α}{a b c:α}(hl:l.length=3)(h0:l[0]?=some a)(h1:l[1]?=some b)(h2:l[2]?=some c):l=[a,b,c]:=by
 cases l with
 | nil=>exfalso;injection h0
 | cons x l=>
   cases l with
   | nil=>exfalso;injection h1
   | cons y l=>
     cases l with
     | nil=>exfalso;injection h2
     | cons z l=>
       rw[cZ (dD (dD (dD hl))),aP h0,aP h1,aP h2]
inductive R3(h:Heap)(P:Addr→Prop)(vs:List Value)(x y z:PyData):Prop
 | mk (v1 v2 v3:Value) (b1 b2 b3:List Addr) (hv:vs=[v1,v2,v3]) (r1:Reads h v1 x b1) (q1:∀ a∈b1,P a) (r2:Reads h v2 y b2) (q2:∀ a∈b2,P a) (r3:Reads h v3 z b3) (q3:∀ a∈b3,P a)
theorem gs{h:Heap}{P:Addr→Prop}{vs:List Value}{x y z:PyData}{as:List Addr}(r:ReadsAll h vs [x,y,z] as)(q:∀ a∈as,P a):R3 h P vs x y z:=by
 refine fk (zo r q (i:=0) rfl) ?_;intro v1 b1 e1 r1 q1
 refine fk (zo r q (i:=1) rfl) ?_;intro v2 b2 e2 r2 q2
 refine fk (zo r q (i:=2) rfl) ?_;intro v3 b3 e3 r3 q3
 refine⟨v1,v2,v3,b1,b2,b3,?_,r1,q1,r2,q2,r3,q3⟩
 exact ztp (zd r) e1 e2 e3
set_option tactic.hygienic true in
theorem zqq{cx:Cx}{x:Expr}{a:CE}{p ps pa pb pc:Pos}{kt i j k:Nat}{na nb nc:Str}(h:JE cx x a)(hx:(chkT cx (ownOf cx.sc) (.name i) (.Name na pa) && chkT cx (ownOf cx.sc) (.name j) (.Name nb pb) && chkT cx (ownOf cx.sc) (.name k) (.Name nc pc) && unpX x)=true) :
 JS cx (.Assign [.Tuple [.Name na pa,.Name nb pb,.Name nc pc] kt ps] x p) (.asg3 i j k a):=⟨fun {G A P F s β ρ O} hr sr=>by
 refine ff (and2 hx) ?_;intro hx h2
 refine fg (and3 hx) ?_;intro ha hb hc
 show Does G F A s β _ (if P.hd=true then .stuck else _:R (Loc×za) Fl) _
 by_cases hd:P.hd=true
 ·rw[af hd];trivial
 rw[aj hd]
 have e:=zdc (l:=[.Name na pa,.Name nb pb,.Name nc pc]) (k:=kt) (n:=p.line) (ps:=ps) (env:=F.env) h2
 have hh:=hr.run.hm (ba.mpr hd)
 refine DoesW.seq (T₂:=fun v Q E s'=>wpAny (model G.prog G.w) A (assign (.Tuple [.Name na pa,.Name nb pb,.Name nc pc] kt ps) F.env v) (fun uA=>Q .next) E s') (fun Q E h=>Assign_Tuple h e.1 e.2) (h.d hr.toHere sr) fun s' β' v d S e st sr rv=>?_
 cases d <;> first | trivial | skip
 rename_i z
 cases z <;> first | trivial | skip
 rename_i l
 match l,rv with
 | [y1,y2,y3],rv=>
   by_cases hl:i < S.1.length∧j < S.1.length∧k < S.1.length
   ·show DoesW G F s' β' _ (if i < S.1.length∧j < S.1.length∧k < S.1.length then _ else _) _
    rw[af hl]
    intro Q E kk
    obtain⟨a,o,vs,n,rfl,g1,g2,g3,as,r,q⟩:=rv.tuple_inv
    obtain⟨v1,v2,v3,b1,b2,b3,hvs,r1,q1,r2,q2,r3,q3⟩:=gs r q
    have hsz:vs.size=3:=by rw[← aC,hvs];rfl
    refine v8 (M:=model G.prog G.w) hh g1 (.inl g2) g3 (by rw[hsz];rfl) rfl fun s₁ ka=>?_
    show wpAny _ A (assignInOrder [assign (.Name na pa) F.env,assign (.Name nb pb) F.env,assign (.Name nc pc) F.env] vs.toList) _ _ s₁
    rw[hvs]
    have da:=xy (A:=A) hh hr.fit hr.own (.name i) ha (sr.keepAll ka.kept) (v:=v1) (d:=.d y1) ⟨b1,z6 ka.kept r1,q1⟩
    unfold bindR zq at da
    dsimp only at da
    rw[af hl.1] at da
    refine cT (da _ _ fun s₂ β₂ uA st₂ sr₂ uA=>?_)
    have db:=xy (A:=A) hh hr.fit hr.own (.name j) hb sr₂ (v:=v2) (d:=.d y2) (VR.step (sr.keepAll ka.kept).br (sr.keepAll ka.kept).fm st₂ ⟨b2,z6 ka.kept r2,q2⟩)
    unfold bindR zq at db
    dsimp only at db
    rw[af (by rw[bg];exact hl.2.1)] at db
    refine cT (db _ _ fun s₃ β₃ uA st₃ sr₃ uA=>?_)
    have dc:=xy (A:=A) hh hr.fit hr.own (.name k) hc sr₃ (v:=v3) (d:=.d y3) (VR.step (sr.keepAll ka.kept).br (sr.keepAll ka.kept).fm (st₂.trans st₃) ⟨b3,z6 ka.kept r3,q3⟩)
    unfold bindR zq at dc
    dsimp only at dc
    rw[af (by rw[bg,bg];exact hl.2.2)] at dc
    refine cT (dc _ _ fun s₄ β₄ uA st₄ sr₄ uA=>?_)
    exact assignInOrder_nil (kk s₄ β₄ .next ((ka.step _ _).trans ((st₂.trans st₃).trans st₄)) sr₄ rfl)
   ·show DoesW G F s' β' _ (if i < S.1.length∧j < S.1.length∧k < S.1.length then _ else _) _
    rw[aj hl];trivial
 | [],_=>trivial
 | [_],_=>trivial
 | [_,_],_=>trivial
 | _::_::_::_::_,_=>trivial⟩
section
variable{G:Gl}{F:Fm}{A:Around}{s:Shared}{β:List Addr}{ρ:Loc}{O:za}
end
theorem zhz{cx:Cx}{x y:Expr}{a b:CE}{p:Pos}(h1:JE cx x a)(h2:JE cx y b):JT cx (.Compare x [.NotIn] [y] p) (.notinM a b):=⟨fun {G A P F s β ρ O} hr sr=>by
 have e:tv (evE P ρ (.notinM a b) O)=(evE P ρ a O).bind fun v O=>(evE P ρ b O).bind fun u O=>(Mine.notinM v u O).bind fun c O=>opt (truth c) O:=by
  show tv ((evE P ρ a O).bind fun v O=>(evE P ρ b O).bind fun u O=>Mine.notinM v u O)=_
  cases evE P ρ a O with
  | ok v O=>show R.bind (R.bind (evE P ρ b O) _) _=R.bind (evE P ρ b O) _;cases evE P ρ b O <;> rfl
  | stuck=>rfl
 rw[e]
 refine DoesW.seqE (T₂:=fun a Q E s₁=>wpAny (model G.prog G.w) A (eval y F.env) (fun b s₂=>wpAny (model G.prog G.w) A (compareOp .NotIn a b) (fun c s₃=>wpAny (model G.prog G.w) A (truthy c) Q E s₃) E s₂) E s₁) (fun Q E h=>wpAny_isTrue_Compare1 h (xl h2.px.set .NotIn)) (h1.d hr sr) fun s' β' v d O' e st sr rv=>?_
 refine DoesW.seqE (T₁:=tr G A (eval y F.env)) (T₂:=fun b Q E s₂=>wpAny (model G.prog G.w) A (compareOp .NotIn v b) (fun c s₃=>wpAny (model G.prog G.w) A (truthy c) Q E s₃) E s₂) (fun Q E h=>h) (h2.d hr sr) fun s₂ β₂ u d₂ O₂ e₂ st₂ sr₂ ru=>?_
 refine DoesW.seqE (T₁:=tr G A (compareOp .NotIn v u)) (T₂:=fun c=>tr G A (truthy c)) (fun Q E h=>h) (zl7 hr.run.ro sr₂ (rv.step sr.br sr.fm st₂) ru) fun s₃ β₃ c d₃ O₃ e₃ st₃ sr₃ rc=>?_
 exact jg sr₃ rc⟩
noncomputable def badP(xs:List PyData):Prop:=xs=[.none,.none]∨∃ a l,xs=[a,.list l]
section
variable{prog:Program}{w:World}{A:Around}{E:Value→Shared→Prop}{s:Shared}{env:Env}
theorem za4{o e:Expr}{ap pos:Pos}{Q:Value→Shared→Prop}(hbase:attributeBase o "pop" env (eval o env)=eval o env)
 (hfew:((backTo pos (starEach [e] env)).all (fun x=>!x.1) && (backToKw pos (keywordEach [] env)).all (fun x=>x.1.isSome) && decide (([e]:List Expr).length+([]:List Keyword).length+(if ([]:List Keyword).isEmpty then 0 else 1) < 30))=true)
 (hline:(ap.endLine == pos.line)=true) (htrees:backTo pos (starEach [e] env)=[(false,eval e env)])
 (h:wpAny (model prog w) A (eval o env) (fun v s₁=>∃ D its n,v=.ref D∧s₁.heap.get? D=some { cls:=.type "list",data:=.seq its n }∧wpAny (model prog w) A (eval e env) (fun y s₂=>wpAny (model prog w) A (call (.builtin "list.pop") [.ref D,y]) Q E s₂) E s₁) E s) :
 wpAny (model prog w) A (eval (.Call (.Attribute o "pop" ap) [e] [] pos) env) Q E s:=by
 rw[arm_eval_Call,hbase]
 refine aa (aM h (fun v s₁ h₁=>?_) fun uA uA x=>x)
 refine fw h₁ ?_;clear h₁;intro D its n ez ho hc;subst ez
 refine aa (bR ?_)
 have fin:wpAny (model prog w) A (callWith pos (.builtin "list.pop") [.ref D] (backTo pos (starEach [e] env)) []) Q E s₁:=by
  rw[htrees]
  exact Calls.callWith_builtin rfl (Calls.evalArgs_plain (Calls.spliced_cons (aM hc (fun y s₂ h₂=>Calls.spliced_nil h₂) fun uA uA x=>x)))
 have hform:methodCallForm (([e]:List Expr).length+([]:List Keyword).length) (backTo pos (starEach [e] env)) (backToKw pos (keywordEach [] env))=true:=hfew
 have hpos:methodCallPos true o env ap pos=pure pos:=by unfold methodCallPos;simp[hline]
 unfold methodCall
 rw[hform]
 refine aa (aT (getMethod_builtin ⟨_,ho,rfl⟩ PySem.F.plainAttrs_list PySem.F.slot_list_pop PySem.F.type_list_pop (fun a x=>by injection x with eU;subst eU;exact eZ _ ho rfl) ?_))
 exact aa (wpAny_of_eq hpos fin)
theorem zid{l:Addr}{items:Array Value}{k:Int}{t:Tok}{y:Value}{Q:Value→Shared→Prop}(hl:s.heap.PlainList l items)(h0:0≤k)(hfit:k < 2 ^ 63)(hy:items[k.toNat]?=some y)(hsz:items.size≤sizeLine)
 (hQ:∀ h',h'.PlainList l (items.eraseIdxIfInBounds k.toNat)→Heap.SameBut l s.heap h'→Q y { s with heap:=h' }):wpAny (model prog w) A (call (.builtin "list.pop") [.ref l,.int k t]) Q E s:=by
 refine fe hl ?_;clear hl;intro n ho
 have hlt:k.toNat < items.size:=(Array.getElem?_eq_some_iff.mp hy).1
 have hk:seqIndex? k items.size=some k.toNat:=by
  have e:(if k < 0 then k+(items.size:Int) else k)=k:=aj (by lia)
  unfold seqIndex?
  dsimp only
  rw[e,af]
  rw[aG,aK,aK];lia
 refine call_meets PySem.F.slot_list_pop ⟨_,ho,rfl⟩ PySem.F.entry_list_pop (PySem.F.args_list_pop_2 _ _) (PySem.MeetsSeq.list_pop_at l _ n k t _ y (fitsIndex_of h0 hfit) hk hy hsz) ⟨ho,hQ _ ⟨_,cz _ ho rfl⟩ (bP ..)⟩
end
theorem gw{h:Heap}{P:Addr→Prop}{vs:List Value}{xs:List PyData}{as:List Addr}(r:ReadsAll h vs xs as):(∀ a∈as,P a)→∀ (j:Nat),∃ bs,ReadsAll h (vs.eraseIdx j) (xs.eraseIdx j) bs∧∀ a∈bs,P a:=by
 refine zz (motive:=fun vs xs as=>(∀ a∈as,P a)→∀ (j:Nat),∃ bs,ReadsAll h (vs.eraseIdx j) (xs.eraseIdx j) bs∧∀ a∈bs,P a) ?_ ?_ r
 ·intro _ j;exact eZ [] .nil (fun uA h=>nomatch h)
 ·intro u d as vs ds bs r rs ih q j
  cases j with
  | zero=>exact eZ bs rs (fun a ha=>q a (au _ ha))
  | succ j=>
    refine eY (ih (fun a ha=>q a (au _ ha)) j) ?_;intro b r' q'
    exact eZ (as++b) (.cons r r') (fun a ha=>(ai.mp ha).elim (fun h=>q a (az _ h)) (q' a))
noncomputable def zpf(n:Nat)(xs:List PyData)(k:V)(O:za):R za V:=match intV k with
 | some j=>if 0≤j∧j < xs.length∧xs.length≤line then .ok (.d (xs[j.toNat]?.getD .none)) (O.set n (.lst (xs.eraseIdx j.toNat))) else .stuck
 | none=>.stuck
noncomputable def g0(w k:V)(O:za):R za V:=match w with
 | .box n=>(match O[n]? with
    | some (.lst xs)=>zpf n xs k O
    | _=>.stuck)
 | _=>.stuck
noncomputable def CE.pop(a b:CE):CE:=fun P ρ O=>(evE P ρ a O).bind fun v O=>if recv .append v O=true then (evE P ρ b O).bind fun u O=>g0 v u O else .stuck
section
variable{G:Gl}{F:Fm}{A:Around}{s:Shared}{β:List Addr}{ρ:Loc}{O:za}
theorem zox{n:Nat}{a:Addr}{u:Value}{k:V}(sr:SR G F β ρ O s.heap)(hn:β[n]?=some a)(rk:VR G F.B β s.heap u k) :
 Does G F A s β (call (.builtin "list.pop") [.ref a,u]) ((g0 (.box n) k O).lift ρ) (VRel G F):=by
 unfold g0
 dsimp only
 cases hx:O[n]? with
 | none=>trivial
 | some bx=>
   cases bx with
   | dct _=>trivial
   | lst xs=>
     dsimp only
     unfold zpf
     cases hk:intV k with
     | none=>trivial
     | some j=>
       dsimp only
       by_cases hj:0≤j∧j < xs.length∧xs.length≤line
       ·rw[af hj]
        refine fe (rk.intV hk) ?_;intro t eg;subst eg
        refine fk (yx (sr.br.plain a (ay hn)) (sr.br.at_ n a _ hn hx)) ?_;intro vs as hpl r1 q1
        have hlt:j.toNat < xs.length:=by lia
        have hxj:xs[j.toNat]?=some (xs[j.toNat]'hlt):=aq hlt
        rw[hxj,dM]
        refine fk (zo r1 q1 hxj) ?_;intro y bs y1 y2 y3
        rw[aV] at y1
        have hsz:vs.size=xs.length:=by rw[← aC,zd r1]
        intro Q E kk
        have hline:line < 2 ^ 63:=by decide
        have hls:line≤sizeLine:=by decide
        refine zid hpl hj.1 (by lia) y1 (by lia) fun h' hl' hs'=>?_
        refine fe hl' ?_;clear hl';intro k' e'
        have hb:Step F.W β s { s with heap:=h' } β→BoxAt h' F.B β a (.lst (xs.eraseIdx j.toNat)):=fun st₃=>by
         refine eY (gw (zu sr.br sr.fm st₃ r1 q1).1 q1 j.toNat) ?_;intro cs r4 q4
         refine ⟨_,_,k',e',rfl,rfl,cs,?_,q4⟩
         have he:(vs.eraseIdxIfInBounds j.toNat).toList=vs.toList.eraseIdx j.toNat:=by
          unfold Array.eraseIdxIfInBounds
          rw [dif_pos (by lia),Array.toList_eraseIdx]
         rw[he];exact r4
        refine ff (SR.setBox (bx:=.lst (xs.eraseIdx j.toNat)) (s':={ s with heap:=h' }) sr hn hs' rfl rfl hb ⟨_,e',rfl,rfl⟩) ?_;intro st₃ sr₃
        exact kk _ β y st₃ sr₃ ⟨bs,(z8 sr.br sr.fm st₃ y2 y3).1,y3⟩
       ·rw[aj hj];trivial
set_option tactic.hygienic true in
theorem zum{o e:Expr}{p q:Pos}{ra:R za V}{rb:za→R za V}(hm:x5 o p q=true)(hs:starEach [e] F.env=[(false,eval e F.env)])
 (h1:Does G F A s β (eval o F.env) (ra.lift ρ) (VRel G F)) (h2:∀ s' β' O',SR G F β' ρ O' s'.heap→Does G F A s' β' (eval e F.env) ((rb O').lift ρ) (VRel G F)) :
 Does G F A s β (eval (.Call (.Attribute o "pop" p) [e] [] q) F.env) ((ra.bind fun v O=>if recv .append v O=true then (rb O).bind fun u O=>g0 v u O else .stuck).lift ρ) (VRel G F):=by
 have hline:(p.endLine == q.line)=true:=(and2 hm).1
 have hbase:attributeBase o "pop" F.env (eval o F.env)=eval o F.env:=by
  unfold x5 at hm
  have:=(and2 hm).2
  cases o <;> first | rfl | exact (am this).elim
 have htrees:backTo q (starEach [e] F.env)=[(false,eval e F.env)]:=by rw[hs];rfl
 refine DoesW.seqE (T₂:=fun ov Q E s₁=>∃ D its n,ov=.ref D∧s₁.heap.get? D=some { cls:=.type "list",data:=.seq its n }∧wpAny (model G.prog G.w) A (eval e F.env) (fun y s₂=>wpAny (model G.prog G.w) A (call (.builtin "list.pop") [.ref D,y]) Q E s₂) E s₁)
  (fun Q E h=>za4 hbase (by rw[htrees];rfl) hline htrees h) h1 fun s' β' v d O' uA st sr rv=>?_
 split
 ·rename_i hr
  cases d with
  | box n=>
    have hr:qb O' n=true:=hr
    unfold qb at hr
    cases hx:O'[n]? with
    | none=>rw[hx] at hr;exfalso;injection hr
    | some bx=>
      rw[hx] at hr
      cases bx with
      | dct _=>exfalso;injection hr
      | lst xs=>
        obtain⟨a,hn,rfl⟩:=rv
        refine fk (yx (sr.br.plain a (ay hn)) (sr.br.at_ n a _ hn hx)) ?_;intro vs as hpl r1 q1
        refine fe hpl ?_;clear hpl;intro k0 e0
        refine DoesW.seqE (T₁:=tr G A (eval e F.env)) (T₂:=fun y Q E s₂=>wpAny (model G.prog G.w) A (call (.builtin "list.pop") [.ref a,y]) Q E s₂) (fun Q E h=>⟨a,vs,k0,rfl,e0,h⟩) (h2 s' β' O' sr) fun s₂ β₂ y u O₂ uA st₂ sr₂ ry=>?_
        exact zox sr₂ (xk st₂.pre hn) ry
  | _=>exfalso;injection hr
 ·trivial
end
theorem ztz{cx:Cx}{x y:Expr}{a b:CE}{p q:Pos}(h1:JE cx x a)(h2:JE cx y b)(hm:x5 x p q=true):JE cx (.Call (.Attribute x "pop" p) [y] [] q) (.pop a b):=
 ⟨rfl,fun {G A P F s β ρ O} hr sr=>zum (rb:=fun O=>evE P ρ b O) hm h2.px.star (h1.d hr sr) fun s' β' O' sr'=>h2.d hr sr'⟩
theorem dn{j:Int}:∀ {vs:List Value} {is:List Int},IntsAre vs is→∀ (m:Nat) {v:Value},vs[m]?=some v→∃ i,is[m]?=some i∧PyProof.Rows.isInt j v=(i == j)
 | _,_,.nil,m,v,e=>nomatch e
 | _,_,.cons n t h,0,v,e=>by injection e with eU;subst eU;exact eZ n rfl rfl
 | _,_,.cons n t h,m+1,v,e=>dn h m e
noncomputable def idxI(j:Int):List Int→Option Nat
 | []=>none
 | i::r=>if i == j then some 0 else (idxI j r).map (· + 1)
theorem pn{j:Int}:∀ {is:List Int} {k:Nat},idxI j is=some k→is[k]?=some j∧∀ m,m < k→∀ i,is[m]?=some i→(i == j)=false
 | [],k,e=>nomatch e
 | i::r,k,e=>by
   unfold idxI at e
   cases hb:(i == j) with
   | true=>
     rw[hb,af rfl] at e
     injection e with eU;subst eU
     exact⟨cK some (eq_of_beq hb),fun m hm=>absurd hm (bI _)⟩
   | false=>
     rw[hb,aj am] at e
     refine eY (aE.mp e) ?_;intro k' e' eo;subst eo
     refine ff (pn e') ?_;intro h1 h2
     refine⟨h1,fun m hm i' hi=>?_⟩
     cases m with
     | zero=>injection hi with eU;subst eU;exact hb
     | succ m=>exact h2 m (cp hm) i' hi
section
variable{prog:Program}{w:World}{A:Around}{E:Value→Shared→Prop}{s:Shared}{env:Env}
theorem uw{o e:Expr}{ap pos:Pos}{Q:Value→Shared→Prop}(hbase:attributeBase o "index" env (eval o env)=eval o env)
 (hfew:((backTo pos (starEach [e] env)).all (fun x=>!x.1) && (backToKw pos (keywordEach [] env)).all (fun x=>x.1.isSome) && decide (([e]:List Expr).length+([]:List Keyword).length+(if ([]:List Keyword).isEmpty then 0 else 1) < 30))=true)
 (hline:(ap.endLine == pos.line)=true) (htrees:backTo pos (starEach [e] env)=[(false,eval e env)])
 (h:wpAny (model prog w) A (eval o env) (fun v s₁=>∃ D its n,v=.ref D∧s₁.heap.get? D=some { cls:=.type "list",data:=.seq its n }∧wpAny (model prog w) A (eval e env) (fun y s₂=>wpAny (model prog w) A (call (.builtin "list.index") [.ref D,y]) Q E s₂) E s₁) E s) :
 wpAny (model prog w) A (eval (.Call (.Attribute o "index" ap) [e] [] pos) env) Q E s:=by
 rw[arm_eval_Call,hbase]
 refine aa (aM h (fun v s₁ h₁=>?_) fun uA uA x=>x)
 refine fw h₁ ?_;clear h₁;intro D its n ez ho hc;subst ez
 refine aa (bR ?_)
 have fin:wpAny (model prog w) A (callWith pos (.builtin "list.index") [.ref D] (backTo pos (starEach [e] env)) []) Q E s₁:=by
  rw[htrees]
  exact Calls.callWith_builtin rfl (Calls.evalArgs_plain (Calls.spliced_cons (aM hc (fun y s₂ h₂=>Calls.spliced_nil h₂) fun uA uA x=>x)))
 have hform:methodCallForm (([e]:List Expr).length+([]:List Keyword).length) (backTo pos (starEach [e] env)) (backToKw pos (keywordEach [] env))=true:=hfew
 have hpos:methodCallPos true o env ap pos=pure pos:=by unfold methodCallPos;simp[hline]
 unfold methodCall
 rw[hform]
 refine aa (aT (getMethod_builtin ⟨_,ho,rfl⟩ PySem.F.plainAttrs_list PySem.F.slot_list_index PySem.F.type_list_index (fun a x=>by injection x with eU;subst eU;exact eZ _ ho rfl) ?_))
 exact aa (wpAny_of_eq hpos fin)
end
noncomputable def zk8(xs:List PyData)(k:V)(O:za):R za V:=match intV k with
 | some j=>if xs.length≤line then opt (((intsOf xs).bind (idxI j)).map fun k=>V.d (.int (k:Int))) O else .stuck
 | none=>.stuck
noncomputable def dz(w k:V)(O:za):R za V:=match w with
 | .box n=>(match O[n]? with
    | some (.lst xs)=>zk8 xs k O
    | _=>.stuck)
 | _=>.stuck
noncomputable def CE.index(a b:CE):CE:=fun P ρ O=>(evE P ρ a O).bind fun v O=>if recv .append v O=true then (evE P ρ b O).bind fun u O=>dz v u O else .stuck
section
variable{G:Gl}{F:Fm}{A:Around}{s:Shared}{β:List Addr}{ρ:Loc}{O:za}
theorem zo0{n:Nat}{a:Addr}{u:Value}{k:V}(sr:SR G F β ρ O s.heap)(hn:β[n]?=some a)(rk:VR G F.B β s.heap u k) :
 Does G F A s β (call (.builtin "list.index") [.ref a,u]) ((dz (.box n) k O).lift ρ) (VRel G F):=by
 unfold dz
 dsimp only
 cases hx:O[n]? with
 | none=>trivial
 | some bx=>
   cases bx with
   | dct _=>trivial
   | lst xs=>
     dsimp only
     unfold zk8
     cases hk:intV k with
     | none=>trivial
     | some j=>
       dsimp only
       by_cases hl:xs.length≤line
       ·rw[af hl]
        cases hi:(intsOf xs).bind (idxI j) with
        | none=>trivial
        | some i=>
          refine eY (aW.mp hi) ?_;intro is h1 h2
          refine ff (pn h2) ?_;intro g1 g2
          refine fe (rk.intV hk) ?_;intro t eg;subst eg
          refine fk (yx (sr.br.plain a (ay hn)) (sr.br.at_ n a _ hn hx)) ?_;intro vs as eo r1 q1;refine fe eo ?_;clear eo;intro c ho
          have hI:=ints_get r1 h1
          have hsz:vs.size=xs.length:=by rw [← aC,zd r1]
          have hil:i < vs.size:=by
           have:=(aA.mp g1).1
           rw [← aC,qc hI];exact this
          have at_:∀ m (hm:m < vs.size),∃ z,is[m]?=some z∧PyProof.Rows.isInt j vs[m]=(z == j):=fun m hm=>dn hI m (by rw [aV];exact a7 hm)
          have hline:(line:Int) < 2 ^ 63 - 1:=by decide
          refine Does.leaf sr fun Q E q=>call_meets PySem.F.slot_list_index ⟨_,ho,rfl⟩ PySem.F.entry_list_index (PySem.F.args_list_index_2 _ _) (PySem.MeetsSeq.list_index a vs c (.int j t) (PyProof.Rows.isInt j) (fun y hy=>eq_isInt j t hI y (Array.mem_toList_iff.mpr hy)) i hil (Int.lt_of_le_of_lt (Int.ofNat_le.mpr (ak (cq hil) (hsz ▸ hl))) hline) ?_ ?_) ⟨ho,q _ _ (KeepsAll.toks s _) VR.int⟩
          ·refine eY (at_ i hil) ?_;intro z e1 e2
           rw [g1] at e1;injection e1 with eU;subst eU
           rw [e2];exact bS _
          ·intro m hm hlt
           refine eY (at_ m hm) ?_;intro z e1 e2
           rw[e2];exact g2 m hlt z e1
       ·rw[aj hl];trivial
set_option tactic.hygienic true in
theorem zoz{o e:Expr}{p q:Pos}{ra:R za V}{rb:za→R za V}(hm:x5 o p q=true)(hs:starEach [e] F.env=[(false,eval e F.env)])
 (h1:Does G F A s β (eval o F.env) (ra.lift ρ) (VRel G F)) (h2:∀ s' β' O',SR G F β' ρ O' s'.heap→Does G F A s' β' (eval e F.env) ((rb O').lift ρ) (VRel G F)) :
 Does G F A s β (eval (.Call (.Attribute o "index" p) [e] [] q) F.env) ((ra.bind fun v O=>if recv .append v O=true then (rb O).bind fun u O=>dz v u O else .stuck).lift ρ) (VRel G F):=by
 have hline:(p.endLine == q.line)=true:=(and2 hm).1
 have hbase:attributeBase o "index" F.env (eval o F.env)=eval o F.env:=by
  unfold x5 at hm
  have:=(and2 hm).2
  cases o <;> first | rfl | exact (am this).elim
 have htrees:backTo q (starEach [e] F.env)=[(false,eval e F.env)]:=by rw[hs];rfl
 refine DoesW.seqE (T₂:=fun ov Q E s₁=>∃ D its n,ov=.ref D∧s₁.heap.get? D=some { cls:=.type "list",data:=.seq its n }∧wpAny (model G.prog G.w) A (eval e F.env) (fun y s₂=>wpAny (model G.prog G.w) A (call (.builtin "list.index") [.ref D,y]) Q E s₂) E s₁)
  (fun Q E h=>uw hbase (by rw[htrees];rfl) hline htrees h) h1 fun s' β' v d O' uA st sr rv=>?_
 split
 ·rename_i hr
  cases d with
  | box n=>
    have hr:qb O' n=true:=hr
    unfold qb at hr
    cases hx:O'[n]? with
    | none=>rw[hx] at hr;exfalso;injection hr
    | some bx=>
      rw[hx] at hr
      cases bx with
      | dct _=>exfalso;injection hr
      | lst xs=>
        obtain⟨a,hn,rfl⟩:=rv
        refine fk (yx (sr.br.plain a (ay hn)) (sr.br.at_ n a _ hn hx)) ?_;intro vs as hpl r1 q1
        refine fe hpl ?_;clear hpl;intro k0 e0
        refine DoesW.seqE (T₁:=tr G A (eval e F.env)) (T₂:=fun y Q E s₂=>wpAny (model G.prog G.w) A (call (.builtin "list.index") [.ref a,y]) Q E s₂) (fun Q E h=>⟨a,vs,k0,rfl,e0,h⟩) (h2 s' β' O' sr) fun s₂ β₂ y u O₂ uA st₂ sr₂ ry=>?_
        exact zo0 sr₂ (xk st₂.pre hn) ry
  | _=>exfalso;injection hr
 ·trivial
end
theorem zn2{cx:Cx}{x y:Expr}{a b:CE}{p q:Pos}(h1:JE cx x a)(h2:JE cx y b)(hm:x5 x p q=true):JE cx (.Call (.Attribute x "index" p) [y] [] q) (.index a b):=
 ⟨rfl,fun {G A P F s β ρ O} hr sr=>zoz (rb:=fun O=>evE P ρ b O) hm h2.px.star (h1.d hr sr) fun s' β' O' sr'=>h2.d hr sr'⟩
theorem kh{a:Int}:∀ l:List Int,(ki a l).Perm (a::l)
 | []=>.refl _
 | b::r=>by
   unfold ki
   split
   ·exact .refl _
   ·exact ((kh r).cons b).trans (.swap a b r)
theorem sortI_perm:∀ l:List Int,(sortI l).Perm l
 | []=>.refl _
 | a::r=>by
   show (ki a (sortI r)).Perm _
   exact (kh _).trans ((sortI_perm r).cons a)
set_option tactic.hygienic true in
theorem dq{a:Int}:∀ {l:List Int},l.Pairwise (·≤·)→(ki a l).Pairwise (·≤·)
 | [],_=>List.pairwise_singleton _ _
 | b::r,h=>by
   refine ff (aY.mp h) ?_;intro h1 h2
   unfold ki
   split
   ·rename_i hab
    refine aY.mpr ⟨fun x hx=>?_,h⟩
    refine eW (ae.mp hx) ?_ ?_
    ·rintro rfl;exact hab
    ·intro hx;exact Int.le_trans hab (h1 x hx)
   ·rename_i hab
    refine aY.mpr ⟨fun x hx=>?_,dq h2⟩
    refine eW (ae.mp ((kh r).mem_iff.mp hx)) ?_ ?_
    ·rintro rfl;lia
    ·intro hx;exact h1 x hx
theorem zdj:∀ l:List Int,(sortI l).Pairwise (·≤·)
 | []=>.nil
 | a::r=>dq (zdj r)
noncomputable def wb(xs:List PyData):Option (List PyData):=match intsOf xs with
 | some is=>some ((sortI is).map .int)
 | none=>zch xs
theorem zbh{h:Heap}:∀ {vs:List Value} {is:List Int},IntsAre vs is→ReadsAll h vs (is.map .int) []
 | _,_,.nil=>.nil
 | _,_,.cons n t r=>ReadsAll.cons (as:=[]) (bs:=[]) (.int n t) (zbh r)
theorem zjs{G:Gl}{P:Pg}(hP:P.srt=wb):zar G P:=by
 intro A F s β ρ O v d xs ys k ro sr rv hx h64 hs
 rw[hP] at hs
 unfold wb at hs
 cases hi:intsOf xs with
 | none=>
   rw[hi] at hs
   exact zqg (G:=G) (P:={ P with srt:=zch }) rfl A F s β ρ O v d xs ys k ro sr rv hx h64 hs
 | some is=>
   rw[hi] at hs
   injection hs with eU;subst eU
   refine eY (yb sr rv hx) ?_;intro a eg eo;subst eg;obtain ⟨o,vs,n,h1,h2,h3,as,h4,h5⟩:=eo
   have hI:=ints_get h4 hi
   have hvl:vs.toList.length=xs.length:=zd h4
   have hL:s.heap.IsList a vs.toList.toArray:=⟨o,h1,h2,n,by simpa using h3⟩
   refine LeafD.leaf sr fun Q E kk=>sorted_ints hL hI (by lia) fun out ns' a1 a2 a3=>?_
   have hns:ns'=sortI is:=PySem.W.ksm_same (a2.trans (sortI_perm is).symm) a3 (zdj is)
   subst hns
   refine fe (sortedAll_at s.heap vs.toList out) ?_;intro c hD
   have hDn:s.heap.get? (s.heap.objs.size+1)=none:=by
    cases e:s.heap.get? (s.heap.objs.size+1) with
    | none=>rfl
    | some o'=>exact absurd (a6 e) fun h=>cB _ (Nat.lt_trans (cL _) h)
   have hDβ:s.heap.objs.size+1∉β∧s.heap.objs.size+1∉F.B:=⟨fun hm=>(by refine eY (sr.br.alive _ hm) ?_;intro o e _;rw[hDn] at e;exfalso;injection e),fun hm=>(by refine eY (sr.fm.stor _ hm) ?_;intro o e _;rw[hDn] at e;exfalso;injection e)⟩
   exact kk _ _ (xf (tk:=s.toks) fun uA uA=>sortedAll_old) ⟨y5 (as:=[]) hD rfl rfl (zbh a1) (fun uA h=>nomatch h) hDβ,fun uA uA=>⟨_,rfl,hDn,_,hD,rfl,rfl⟩⟩
end Mine
end
section
namespace Mine.L11
open PySem Mine
noncomputable def c0:Fn:=⟨3,3,false,(.cons (.ret (.and_ (.prim (.isinst .int) (.cons (.loc 0) .nil)) (.and_ (.nt (.prim (.isinst .bool) (.cons (.loc 0) .nil))) (.chain .le .le (.loc 1) (.loc 0) (.loc 2))))) .nil)⟩
noncomputable def c1:Fn:=⟨1,1,false,(.cons (.ife (.nt (.call 0 (.cons (.loc 0) (.cons (.glob 0) (.cons (.glob 1) .nil))))) .stuck .nil) .nil)⟩
noncomputable def c2:Fn:=⟨2,3,false,(.cons (.ret (.and_ (.prim (.isinst .tuple) (.cons (.loc 1) .nil)) (.and_ (.cmp .eq (.prim .len (.cons (.loc 1) .nil)) (.loc 0)) (.prim .all (.cons (.comp (.call 0 (.cons (.loc 2) (.cons (.neg (.int 1)) (.cons (.int 1) .nil)))) (.name 2) (.e (.loc 1)) .nil) .nil))))) .nil)⟩
noncomputable def c3:Fn:=⟨2,3,false,(.cons (.expr (.call 1 (.cons (.loc 0) .nil))) (.cons (.ife (.or_ (.nt (.prim (.isinst .list) (.cons (.loc 1) .nil))) (.nt (.chain .le .le (.int 1) (.prim .len (.cons (.loc 1) .nil)) (.glob 2)))) .stuck .nil) (.cons (.ife (.nt (.prim .all (.cons (.comp (.call 2 (.cons (.loc 0) (.cons (.loc 2) .nil))) (.name 2) (.e (.loc 1)) .nil) .nil))) .stuck .nil) (.cons (.ife (.cmp .lt (.lenS (.loc 1)) (.prim .len (.cons (.loc 1) .nil))) .stuck .nil) .nil))))⟩
noncomputable def c4:Fn:=⟨2,4,false,(.cons (.ife (.or_ (.nt (.prim (.isinst .tuple) (.cons (.loc 1) .nil))) (.or_ (.cmp .eq (.prim .len (.cons (.loc 1) .nil)) (.int 0)) (.nt (.prim .all (.cons (.comp (.call 0 (.cons (.loc 2) (.cons (.int 0) (.cons (.bin .sub (.loc 0) (.int 1)) .nil)))) (.name 2) (.e (.loc 1)) .nil) .nil))))) (.cons (.ret (.bool false)) .nil) .nil) (.cons (.ret (.prim .all (.cons (.comp (.cmp .lt (.idx (.loc 1) (.bin .sub (.loc 3) (.int 1))) (.idx (.loc 1) (.loc 3))) (.name 3) (.range (.int 1) (.prim .len (.cons (.loc 1) .nil))) .nil) .nil))) .nil))⟩
noncomputable def c5:Fn:=⟨2,5,false,(.cons (.ife (.or_ (.nt (.prim (.isinst .tuple) (.cons (.loc 1) .nil))) (.cmp .ne (.prim .len (.cons (.loc 1) .nil)) (.int 2))) (.cons (.ret (.bool false)) .nil) .nil) (.cons (.asg (.two (.name 2) (.name 3)) (.loc 1)) (.cons (.ife (.or_ (.nt (.call 4 (.cons (.loc 0) (.cons (.loc 2) .nil)))) (.or_ (.nt (.call 4 (.cons (.loc 0) (.cons (.loc 3) .nil)))) (.cmp .ne (.prim .len (.cons (.loc 2) .nil)) (.prim .len (.cons (.loc 3) .nil))))) (.cons (.ret (.bool false)) .nil) .nil) (.cons (.ret (.nt (.prim .any (.cons (.comp (.cmp .in_ (.loc 4) (.loc 3)) (.name 4) (.e (.loc 2)) .nil) .nil)))) .nil))))⟩
noncomputable def c6:Fn:=⟨1,4,false,(.cons (.asg (.name 1) (.list (.cons (.tup .nil) .nil))) (.cons (.for_ (.name 2) (.e (.loc 0)) (.cons (.asg (.name 1) (.bin .add (.loc 1) (.comp (.bin .add (.loc 3) (.tup (.cons (.loc 2) .nil))) (.name 3) (.e (.loc 1)) .nil))) .nil)) (.cons (.ret (.loc 1)) .nil)))⟩
noncomputable def c7:Fn:=⟨1,5,false,(.cons (.asg (.name 1) (.call 6 (.cons (.listI (.range (.int 0) (.loc 0))) .nil))) (.cons (.asg (.name 2) (.boxed (.list .nil))) (.cons (.for_ (.name 3) (.e (.loc 1)) (.cons (.for_ (.name 4) (.e (.loc 1)) (.cons (.ife (.and_ (.call 5 (.cons (.loc 0) (.cons (.tup (.cons (.loc 3) (.cons (.loc 4) .nil))) .nil))) (.cmp .lt (.idx (.loc 3) (.int 0)) (.idx (.loc 4) (.int 0)))) (.cons (.expr (.meth .append (.loc 2) (.cons (.tup (.cons (.loc 3) (.cons (.loc 4) .nil))) .nil))) .nil) .nil) .nil)) .nil)) (.cons (.ret (.prim .sorted (.cons (.loc 2) .nil))) .nil))))⟩
noncomputable def c8:Fn:=⟨2,7,false,(.cons (.asg (.two (.name 2) (.name 3)) (.loc 0)) (.cons (.asg (.name 4) (.bin .sub (.prim .sum (.cons (.comp (.idx (.loc 1) (.loc 5)) (.name 5) (.e (.loc 2)) .nil) .nil)) (.prim .sum (.cons (.comp (.idx (.loc 1) (.loc 6)) (.name 6) (.e (.loc 3)) .nil) .nil)))) (.cons (.ife (.cmp .gt (.loc 4) (.int 0)) (.cons (.ret (.int 1)) .nil) .nil) (.cons (.ret (.ite (.cmp .lt (.loc 4) (.int 0)) (.neg (.int 1)) (.int 0))) .nil))))⟩
noncomputable def c9:Fn:=⟨2,5,false,(.cons (.asg (.name 2) (.boxed (.list .nil))) (.cons (.for_ (.name 3) (.e (.glob 3)) (.cons (.expr (.meth .append (.loc 2) (.cons (.comp (.loc 4) (.name 4) (.e (.loc 1)) (.cons (.cmp .eq (.call 8 (.cons (.loc 0) (.cons (.loc 4) .nil))) (.loc 3)) .nil)) .nil))) .nil)) (.cons (.ret (.loc 2)) .nil)))⟩
noncomputable def c10:Fn:=⟨1,3,false,(.cons (.asg (.name 1) (.int 1)) (.cons (.for_ (.name 2) (.range (.int 0) (.loc 0)) (.cons (.asg (.name 1) (.bin .mul (.loc 1) (.int 3))) .nil)) (.cons (.ret (.loc 1)) .nil)))⟩
noncomputable def c11:Fn:=⟨2,2,false,(.cons (.ife (.or_ (.nt (.prim (.isinst .tuple) (.cons (.loc 1) .nil))) (.cmp .ne (.prim .len (.cons (.loc 1) .nil)) (.int 2))) (.cons (.ret (.bool false)) .nil) .nil) (.cons (.ret (.and_ (.call 5 (.cons (.loc 0) (.cons (.idx (.loc 1) (.int 0)) .nil))) (.call 0 (.cons (.idx (.loc 1) (.int 1)) (.cons (.neg (.int 1)) (.cons (.int 1) .nil)))))) .nil))⟩
noncomputable def c12:Fn:=⟨3,7,false,(.cons (.expr (.call 3 (.cons (.loc 0) (.cons (.loc 1) .nil)))) (.cons (.ife (.or_ (.nt (.prim (.isinst .list) (.cons (.loc 2) .nil))) (.or_ (.cmp .gt (.prim .len (.cons (.loc 2) .nil)) (.glob 4)) (.nt (.prim .all (.cons (.comp (.call 11 (.cons (.loc 0) (.cons (.loc 3) .nil))) (.name 3) (.e (.loc 2)) .nil) .nil))))) .stuck .nil) (.cons (.ret (.comp (.loc 4) (.name 4) (.e (.loc 1)) (.cons (.prim .all (.cons (.comp (.cmp .eq (.call 8 (.cons (.loc 5) (.cons (.loc 4) .nil))) (.loc 6)) (.two (.name 5) (.name 6)) (.e (.loc 2)) .nil) .nil)) .nil))) .nil)))⟩
noncomputable def c13:Fn:=⟨3,4,false,(.cons (.ret (.prim .all (.cons (.comp (.cmp .eq (.call 8 (.cons (.loc 3) (.cons (.loc 1) .nil))) (.call 8 (.cons (.loc 3) (.cons (.loc 2) .nil)))) (.name 3) (.e (.loc 0)) .nil) .nil))) .nil)⟩
noncomputable def c14:Fn:=⟨2,5,false,(.cons (.for_ (.two (.name 2) (.name 3)) (.enum (.loc 1)) (.cons (.for_ (.name 4) (.e (.slice (.loc 1) (.bin .add (.loc 2) (.int 1)) .none)) (.cons (.ife (.call 13 (.cons (.loc 0) (.cons (.loc 3) (.cons (.loc 4) .nil)))) (.cons (.ret (.tup (.cons (.loc 3) (.cons (.loc 4) .nil)))) .nil) .nil) .nil)) .nil)) (.cons (.ret .none) .nil))⟩
noncomputable def c15:Fn:=⟨5,10,false,(.cons (.asg (.name 5) (.boxed (.list .nil))) (.cons (.forG badP .tup .lst (.two (.name 6) (.name 7)) (.glob 3) (.call 9 (.cons (.loc 1) (.cons (.loc 2) .nil))) (.cons (.ife (.cmp .eq (.loc 7) (.list .nil)) (.cons (.expr (.meth .append (.loc 5) (.cons .none .nil))) .nil) (.cons (.asg (.two (.name 8) (.name 9)) (.call 17 (.cons (.loc 0) (.cons (.loc 7) (.cons (.bin .sub (.loc 3) (.int 1)) (.cons (.loc 4) .nil)))))) (.cons (.ife (.cmp .eq (.loc 8) (.str (Str.ofString "hold"))) (.cons (.ret (.tup (.cons (.str (Str.ofString "hold")) (.cons (.tup (.cons (.loc 6) (.cons (.loc 9) .nil))) .nil)))) .nil) .nil) (.cons (.expr (.meth .append (.loc 5) (.cons (.loc 9) .nil))) .nil)))) .nil)) (.cons (.ret (.tup (.cons (.str (Str.ofString "plan")) (.cons (.tup (.cons (.str (Str.ofString "weigh")) (.cons (.loc 1) (.cons (.prim .tuple (.cons (.loc 5) .nil)) .nil)))) .nil)))) .nil)))⟩
noncomputable def c16:Fn:=⟨4,8,false,(.cons (.asg (.name 4) (.boxed (.list .nil))) (.cons (.for_ (.name 5) (.e (.loc 0)) (.cons (.asg (.two (.name 6) (.name 7)) (.call 15 (.cons (.loc 0) (.cons (.loc 5) (.cons (.loc 1) (.cons (.loc 2) (.cons (.loc 3) .nil))))))) (.cons (.ife (.cmp .eq (.loc 6) (.str (Str.ofString "plan"))) (.cons (.ret (.tup (.cons (.str (Str.ofString "plan")) (.cons (.loc 7) .nil)))) .nil) .nil) (.cons (.expr (.meth .append (.loc 4) (.cons (.loc 7) .nil))) .nil)))) (.cons (.ret (.tup (.cons (.str (Str.ofString "hold")) (.cons (.tup (.cons (.str (Str.ofString "each")) (.cons (.prim .tuple (.cons (.loc 4) .nil)) .nil))) .nil)))) .nil)))⟩
noncomputable def c17:Fn:=⟨4,5,false,(.cons (.ife (.cmp .eq (.prim .len (.cons (.loc 1) .nil)) (.int 1)) (.cons (.ret (.tup (.cons (.str (Str.ofString "plan")) (.cons (.tup (.cons (.str (Str.ofString "told")) (.cons (.idx (.loc 1) (.int 0)) .nil))) .nil)))) .nil) .nil) (.cons (.ife (.cmp .gt (.prim .len (.cons (.loc 1) .nil)) (.call 10 (.cons (.loc 2) .nil))) (.cons (.ret (.tup (.cons (.str (Str.ofString "hold")) (.cons (.tup (.cons (.str (Str.ofString "many")) .nil)) .nil)))) .nil) .nil) (.cons (.asg (.name 4) (.tup (.cons (.prim .tuple (.cons (.loc 1) .nil)) (.cons (.loc 2) .nil)))) (.cons (.ife (.notinM (.loc 4) (.loc 3)) (.cons (.setM (.loc 3) (.loc 4) (.call 16 (.cons (.loc 0) (.cons (.loc 1) (.cons (.loc 2) (.cons (.loc 3) .nil)))))) .nil) .nil) (.cons (.ret (.getM (.loc 3) (.loc 4))) .nil)))))⟩
noncomputable def c18:Fn:=⟨2,7,false,(.cons (.asg (.name 2) .memo) (.cons (.asg (.name 3) .none) (.cons (.asg (.name 4) (.int 0)) (.cons (.asg (.two (.name 5) (.name 6)) (.call 17 (.cons (.loc 0) (.cons (.loc 1) (.cons (.loc 4) (.cons (.loc 2) .nil)))))) (.cons (.while_ (.cmp .eq (.loc 5) (.str (Str.ofString "hold"))) (.cons (.asg (.name 3) (.loc 6)) (.cons (.asg (.name 4) (.bin .add (.loc 4) (.int 1))) (.cons (.asg (.two (.name 5) (.name 6)) (.call 17 (.cons (.loc 0) (.cons (.loc 1) (.cons (.loc 4) (.cons (.loc 2) .nil)))))) .nil)))) (.cons (.ret (.tup (.cons (.loc 6) (.cons (.loc 3) (.cons (.loc 4) .nil))))) .nil))))))⟩
noncomputable def c19:Fn:=⟨3,9,false,(.cons (.asg (.name 3) (.call 12 (.cons (.loc 0) (.cons (.loc 1) (.cons (.loc 2) .nil))))) (.cons (.asg (.name 4) (.call 7 (.cons (.loc 0) .nil))) (.cons (.ife (.cmp .eq (.loc 3) (.list .nil)) (.cons (.ret (.tup (.cons (.str (Str.ofString "none")) .nil))) .nil) .nil) (.cons (.asg (.name 5) (.call 14 (.cons (.loc 4) (.cons (.loc 3) .nil)))) (.cons (.ife (.cmp .isnot (.loc 5) .none) (.cons (.ret (.tup (.cons (.str (Str.ofString "alike")) (.cons (.idx (.loc 5) (.int 0)) (.cons (.idx (.loc 5) (.int 1)) .nil))))) .nil) .nil) (.cons (.asg3 6 7 8 (.call 18 (.cons (.loc 4) (.cons (.loc 3) .nil)))) (.cons (.ret (.tup (.cons (.str (Str.ofString "plan")) (.cons (.loc 6) (.cons (.loc 7) .nil))))) .nil)))))))⟩
noncomputable def c20:Fn:=⟨3,5,false,(.cons (.asg (.name 3) (.call 12 (.cons (.loc 0) (.cons (.loc 1) (.cons (.loc 2) .nil))))) (.cons (.asg (.name 4) (.call 7 (.cons (.loc 0) .nil))) (.cons (.ife (.or_ (.cmp .eq (.loc 3) (.list .nil)) (.cmp .isnot (.call 14 (.cons (.loc 4) (.cons (.loc 3) .nil))) .none)) (.cons (.ret .none) .nil) .nil) (.cons (.ret (.idx (.call 18 (.cons (.loc 4) (.cons (.loc 3) .nil))) (.int 2))) .nil))))⟩
noncomputable def c21:Fn:=⟨2,2,false,(.cons (.ife (.cmp .lt (.loc 1) (.prim .len (.cons (.loc 0) .nil))) (.cons (.ret (.idx (.loc 0) (.loc 1))) .nil) .nil) (.cons (.ret (.int 0)) .nil))⟩
noncomputable def c22:Fn:=⟨2,2,false,(.cons (.ret (.bin .fdiv (.bin .mod (.bin .mul (.bin .add (.bin .add (.call 21 (.cons (.loc 0) (.cons (.loc 1) .nil))) (.bin .mul (.int 7919) (.loc 1))) (.int 13)) (.int 48271)) (.int 2147483647)) (.int 3))) .nil)⟩
noncomputable def c23:Fn:=⟨2,4,false,(.cons (.asg (.name 2) (.int 0)) (.cons (.for_ (.name 3) (.e (.idx (.loc 0) (.int 0))) (.cons (.asg (.name 2) (.bin .add (.loc 2) (.idx (.loc 1) (.loc 3)))) .nil)) (.cons (.for_ (.name 3) (.e (.idx (.loc 0) (.int 1))) (.cons (.asg (.name 2) (.bin .sub (.loc 2) (.idx (.loc 1) (.loc 3)))) .nil)) (.cons (.ret (.ite (.cmp .gt (.loc 2) (.int 0)) (.int 1) (.ite (.cmp .lt (.loc 2) (.int 0)) (.neg (.int 1)) (.int 0)))) .nil))))⟩
noncomputable def c24:Fn:=⟨1,9,false,(.cons (.asg (.name 1) (.boxed (.list .nil))) (.cons (.for_ (.name 2) (.range (.int 0) (.idx (.list (.cons (.int 9) (.cons (.int 27) (.cons (.int 81) (.cons (.int 243) .nil))))) (.bin .sub (.loc 0) (.int 2)))) (.cons (.asg (.name 3) (.comp (.bin .mod (.bin .fdiv (.loc 2) (.idx (.list (.cons (.int 1) (.cons (.int 3) (.cons (.int 9) (.cons (.int 27) (.cons (.int 81) .nil)))))) (.loc 6))) (.int 3)) (.name 6) (.range (.int 0) (.loc 0)) .nil)) (.cons (.asg (.name 4) (.prim .tuple (.cons (.comp (.loc 7) (.name 7) (.range (.int 0) (.loc 0)) (.cons (.cmp .eq (.idx (.loc 3) (.loc 7)) (.int 1)) .nil)) .nil))) (.cons (.asg (.name 5) (.prim .tuple (.cons (.comp (.loc 8) (.name 8) (.range (.int 0) (.loc 0)) (.cons (.cmp .eq (.idx (.loc 3) (.loc 8)) (.int 2)) .nil)) .nil))) (.cons (.ife (.and_ (.cmp .eq (.prim .len (.cons (.loc 4) .nil)) (.prim .len (.cons (.loc 5) .nil))) (.and_ (.cmp .ne (.loc 4) (.tup .nil)) (.cmp .lt (.idx (.loc 4) (.int 0)) (.idx (.loc 5) (.int 0))))) (.cons (.expr (.meth .append (.loc 1) (.cons (.tup (.cons (.loc 4) (.cons (.loc 5) .nil))) .nil))) .nil) .nil) .nil))))) (.cons (.ret (.prim .sorted (.cons (.loc 1) .nil))) .nil)))⟩
noncomputable def c25:Fn:=⟨2,6,false,(.cons (.asg (.name 2) (.boxed (.list .nil))) (.cons (.for_ (.name 3) (.range (.int 0) (.loc 0)) (.cons (.for_ (.name 4) (.range (.int 0) (.loc 0)) (.cons (.asg (.name 5) (.boxed (.bin .mul (.list (.cons (.int 0) .nil)) (.loc 0)))) (.cons (.setI (.loc 5) (.loc 3) (.idx (.list (.cons (.int 1) (.cons (.neg (.int 1)) (.cons (.idx (.list (.cons (.int 1) (.cons (.neg (.int 1)) .nil))) (.bin .mod (.loc 4) (.int 2))) (.cons (.int 1) (.cons (.int 1) .nil)))))) (.loc 1))) (.cons (.ife (.and_ (.cmp .gt (.loc 1) (.int 2)) (.cmp .ne (.loc 3) (.loc 4))) (.cons (.setI (.loc 5) (.loc 4) (.idx (.list (.cons (.int 1) (.cons (.neg (.int 1)) .nil))) (.bin .sub (.loc 1) (.int 3)))) .nil) .nil) (.cons (.ife (.and_ (.cmp .notin (.prim .tuple (.cons (.loc 5) .nil)) (.loc 2)) (.or_ (.cmp .lt (.loc 1) (.int 3)) (.cmp .ne (.loc 3) (.loc 4)))) (.cons (.expr (.meth .append (.loc 2) (.cons (.prim .tuple (.cons (.loc 5) .nil)) .nil))) .nil) .nil) .nil))))) .nil)) (.cons (.ife (.cmp .eq (.loc 1) (.int 2)) (.cons (.expr (.meth .append (.loc 2) (.cons (.bin .mul (.tup (.cons (.int 0) .nil)) (.loc 0)) .nil))) .nil) .nil) (.cons (.ret (.loc 2)) .nil))))⟩
noncomputable def c26:Fn:=⟨3,12,false,(.cons (.asg (.name 3) (.call 22 (.cons (.loc 0) (.cons (.loc 1) .nil)))) (.cons (.asg (.name 4) (.min2 (.loc 2) (.idx (.list (.cons (.int 2) (.cons (.int 3) (.cons (.int 3) (.cons (.int 4) (.cons (.int 4) (.cons (.int 5) .nil))))))) (.bin .mod (.loc 3) (.int 6))))) (.cons (.asg (.name 5) (.idx (.list (.cons (.int 9) (.cons (.int 12) (.cons (.int 8) (.cons (.int 5) .nil))))) (.bin .sub (.loc 4) (.int 2)))) (.cons (.asg (.name 6) (.boxed (.list .nil))) (.cons (.for_ (.name 7) (.range (.int 0) (.int 12)) (.cons (.asg (.name 8) (.call 22 (.cons (.loc 0) (.cons (.bin .add (.bin .add (.loc 1) (.int 1)) (.loc 7)) .nil)))) (.cons (.expr (.meth .append (.loc 6) (.cons (.prim .tuple (.cons (.comp (.bin .sub (.bin .mod (.bin .fdiv (.loc 8) (.idx (.list (.cons (.int 1) (.cons (.int 3) (.cons (.int 9) (.cons (.int 27) (.cons (.int 81) .nil)))))) (.loc 11))) (.int 3)) (.int 1)) (.name 11) (.range (.int 0) (.loc 4)) .nil) .nil)) .nil))) .nil))) (.cons (.ife (.cmp .gt (.bin .mod (.bin .fdiv (.loc 3) (.int 6)) (.int 6)) (.int 0)) (.cons (.asg (.name 6) (.call 25 (.cons (.loc 4) (.cons (.bin .sub (.bin .mod (.bin .fdiv (.loc 3) (.int 6)) (.int 6)) (.int 1)) .nil)))) .nil) .nil) (.cons (.asg (.name 9) (.boxed (.list .nil))) (.cons (.asg (.name 8) (.bin .fdiv (.loc 3) (.int 36))) (.cons (.ife (.and_ (.cmp .gt (.loc 4) (.int 3)) (.and_ (.cmp .eq (.bin .mod (.bin .fdiv (.loc 8) (.int 256)) (.int 4)) (.int 1)) (.cmp .gt (.bin .mod (.bin .fdiv (.loc 3) (.int 6)) (.int 6)) (.int 0)))) (.cons (.asg (.name 5) (.int 12)) .nil) .nil) (.cons (.for_ (.name 7) (.range (.int 0) (.idx (.list (.cons (.bin .add (.int 1) (.bin .mod (.loc 8) (.loc 5))) (.cons (.loc 5) .nil))) (.prim .int (.cons (.and_ (.cmp .eq (.loc 5) (.int 12)) (.cmp .gt (.loc 4) (.int 3))) .nil)))) (.cons (.asg (.name 10) (.idx (.loc 6) (.bin .mod (.bin .add (.bin .fdiv (.loc 8) (.int 8)) (.bin .mul (.loc 7) (.bin .add (.int 1) (.bin .mod (.bin .fdiv (.loc 8) (.int 64)) (.int 2))))) (.prim .len (.cons (.loc 6) .nil))))) (.cons (.ife (.cmp .notin (.loc 10) (.loc 9)) (.cons (.expr (.meth .append (.loc 9) (.cons (.loc 10) .nil))) .nil) .nil) .nil))) (.cons (.ret (.tup (.cons (.loc 4) (.cons (.loc 9) .nil)))) .nil)))))))))))⟩
noncomputable def c27:Fn:=⟨4,13,false,(.cons (.asg (.name 4) (.call 22 (.cons (.loc 0) (.cons (.loc 1) .nil)))) (.cons (.asg (.name 5) (.call 24 (.cons (.loc 2) .nil))) (.cons (.asg (.name 6) (.boxed (.list .nil))) (.cons (.for_ (.name 7) (.range (.int 0) (.idx (.list (.cons (.int 0) (.cons (.int 0) (.cons (.int 1) (.cons (.int 2) (.cons (.int 3) .nil)))))) (.bin .mod (.loc 4) (.int 5)))) (.cons (.asg (.name 8) (.call 22 (.cons (.loc 0) (.cons (.bin .add (.bin .add (.loc 1) (.int 1)) (.loc 7)) .nil)))) (.cons (.asg (.two (.name 9) (.name 10)) (.idx (.loc 5) (.bin .mod (.loc 8) (.prim .len (.cons (.loc 5) .nil))))) (.cons (.asg (.name 11) (.idx (.list (.cons (.tup (.cons (.loc 9) (.cons (.loc 10) .nil))) (.cons (.tup (.cons (.loc 10) (.cons (.loc 9) .nil))) .nil))) (.bin .mod (.bin .fdiv (.loc 8) (.int 32)) (.int 2)))) (.cons (.asg (.name 12) (.call 23 (.cons (.loc 11) (.cons (.idx (.loc 3) (.bin .mod (.bin .fdiv (.loc 4) (.int 5)) (.prim .len (.cons (.loc 3) .nil)))) .nil)))) (.cons (.ife (.cmp .eq (.bin .mod (.bin .fdiv (.loc 8) (.int 64)) (.int 8)) (.int 1)) (.cons (.asg (.name 12) (.bin .sub (.bin .mod (.bin .fdiv (.loc 8) (.int 512)) (.int 3)) (.int 1))) .nil) .nil) (.cons (.expr (.meth .append (.loc 6) (.cons (.tup (.cons (.loc 11) (.cons (.loc 12) .nil))) .nil))) .nil))))))) (.cons (.ret (.loc 6)) .nil)))))⟩
noncomputable def c28:Fn:=⟨2,5,false,(.cons (.ret (.comp (.loc 2) (.name 2) (.e (.loc 0)) (.cons (.cmp .eq (.comp (.int 1) (.two (.name 3) (.name 4)) (.e (.loc 1)) (.cons (.cmp .ne (.call 23 (.cons (.loc 3) (.cons (.loc 2) .nil))) (.loc 4)) .nil)) (.list .nil)) .nil))) .nil)⟩
noncomputable def c29:Fn:=⟨2,3,false,(.cons (.ret (.prim .tuple (.cons (.comp (.idx (.loc 0) (.loc 2)) (.name 2) (.e (.loc 1)) .nil) .nil))) .nil)⟩
noncomputable def c30:Fn:=⟨2,3,false,(.cons (.ret (.prim .tuple (.cons (.prim .sorted (.cons (.comp (.index (.loc 1) (.loc 2)) (.name 2) (.e (.loc 0)) .nil) .nil)) .nil))) .nil)⟩
noncomputable def c31:Fn:=⟨2,4,true,(.cons (.asg (.name 2) (.boxed (.listI (.range (.int 0) (.loc 1))))) (.cons (.asg (.name 3) (.boxed (.list .nil))) (.cons (.while_ (.cmp .ne (.loc 2) (.list .nil)) (.cons (.expr (.meth .append (.loc 3) (.cons (.pop (.loc 2) (.bin .mod (.loc 0) (.prim .len (.cons (.loc 2) .nil)))) .nil))) (.cons (.asg (.name 0) (.bin .fdiv (.loc 0) (.int 3))) .nil))) (.cons (.ret (.loc 3)) .nil))))⟩
noncomputable def c32:Fn:=⟨4,23,false,(.cons (.asg (.name 4) (.call 31 (.cons (.call 22 (.cons (.loc 0) (.cons (.int 20) .nil))) (.cons (.loc 1) .nil)))) (.cons (.asg (.name 5) (.comp (.call 29 (.cons (.loc 11) (.cons (.loc 4) .nil))) (.name 11) (.e (.loc 2)) .nil)) (.cons (.asg (.name 6) (.comp (.tup (.cons (.tup (.cons (.call 30 (.cons (.loc 12) (.cons (.loc 4) .nil))) (.cons (.call 30 (.cons (.loc 13) (.cons (.loc 4) .nil))) .nil))) (.cons (.loc 14) .nil))) (.two (.two (.name 12) (.name 13)) (.name 14)) (.e (.loc 3)) .nil)) (.cons (.asg (.name 7) (.comp (.prim .tuple (.cons (.comp (.bin .sub (.int 0) (.loc 16)) (.name 16) (.e (.loc 15)) .nil) .nil)) (.name 15) (.e (.loc 2)) .nil)) (.cons (.asg (.name 8) (.comp (.tup (.cons (.tup (.cons (.idx (.loc 17) (.int 1)) (.cons (.idx (.loc 17) (.int 0)) .nil))) (.cons (.bin .sub (.int 0) (.loc 18)) .nil))) (.two (.name 17) (.name 18)) (.e (.loc 3)) .nil)) (.cons (.asg (.name 9) (.list (.cons (.tup (.cons (.loc 5) (.cons (.loc 6) .nil))) (.cons (.tup (.cons (.loc 7) (.cons (.comp (.tup (.cons (.loc 19) (.cons (.bin .sub (.int 0) (.loc 20)) .nil))) (.two (.name 19) (.name 20)) (.e (.loc 3)) .nil) .nil))) (.cons (.tup (.cons (.rev (.loc 2)) (.cons (.loc 3) .nil))) .nil))))) (.cons (.asg (.name 10) (.comp (.tup (.cons (.tup (.cons (.idx (.loc 21) (.int 1)) (.cons (.idx (.loc 21) (.int 0)) .nil))) (.cons (.loc 22) .nil))) (.two (.name 21) (.name 22)) (.e (.loc 3)) .nil)) (.cons (.ret (.bin .add (.loc 9) (.list (.cons (.tup (.cons (.loc 2) (.cons (.rev (.loc 8)) .nil))) (.cons (.tup (.cons (.loc 2) (.cons (.bin .add (.loc 3) (.loc 8)) .nil))) (.cons (.tup (.cons (.loc 7) (.cons (.loc 10) .nil))) .nil)))))) .nil))))))))⟩
noncomputable def c33:Fn:=⟨1,12,false,(.cons (.asg (.two (.name 1) (.name 2)) (.call 26 (.cons (.loc 0) (.cons (.int 6) (.cons (.int 4) .nil))))) (.cons (.asg (.name 3) (.call 27 (.cons (.loc 0) (.cons (.int 1) (.cons (.loc 1) (.cons (.loc 2) .nil)))))) (.cons (.asg (.name 4) (.call 28 (.cons (.loc 2) (.cons (.loc 3) .nil)))) (.cons (.asg (.name 5) (.idx (.call 19 (.cons (.loc 1) (.cons (.prim .list (.cons (.loc 2) .nil)) (.cons (.prim .list (.cons (.loc 3) .nil)) .nil)))) (.int 0))) (.cons (.asg (.name 6) (.call 20 (.cons (.loc 1) (.cons (.prim .list (.cons (.loc 2) .nil)) (.cons (.prim .list (.cons (.loc 3) .nil)) .nil))))) (.cons (.asg (.name 7) (.call 32 (.cons (.loc 0) (.cons (.loc 1) (.cons (.loc 2) (.cons (.loc 3) .nil)))))) (.cons (.ife (.cmp .eq (.loc 1) (.int 4)) (.cons (.asg (.name 8) (.bin .mod (.call 22 (.cons (.loc 0) (.cons (.int 22) .nil))) (.int 6))) (.cons (.asg (.name 7) (.list (.cons (.idx (.loc 7) (.loc 8)) (.cons (.idx (.loc 7) (.bin .mod (.bin .add (.loc 8) (.int 1)) (.int 6))) .nil)))) .nil)) .nil) (.cons (.for_ (.two (.name 9) (.name 10)) (.e (.loc 7)) (.cons (.ife (.or_ (.cmp .ne (.call 20 (.cons (.loc 1) (.cons (.prim .list (.cons (.loc 9) .nil)) (.cons (.prim .list (.cons (.loc 10) .nil)) .nil)))) (.loc 6)) (.cmp .ne (.idx (.call 19 (.cons (.loc 1) (.cons (.prim .list (.cons (.loc 9) .nil)) (.cons (.prim .list (.cons (.loc 10) .nil)) .nil)))) (.int 0)) (.loc 5))) (.cons (.ret (.bool false)) .nil) .nil) .nil)) (.cons (.ife (.cmp .eq (.loc 4) (.list .nil)) (.cons (.ret (.and_ (.cmp .eq (.loc 5) (.str (Str.ofString "none"))) (.cmp .is (.loc 6) .none))) .nil) .nil) (.cons (.ife (.or_ (.cmp .ne (.idx (.call 19 (.cons (.loc 1) (.cons (.prim .list (.cons (.loc 4) .nil)) (.cons (.list .nil) .nil)))) (.int 0)) (.loc 5)) (.cmp .ne (.call 20 (.cons (.loc 1) (.cons (.prim .list (.cons (.loc 4) .nil)) (.cons (.list .nil) .nil)))) (.loc 6))) (.cons (.ret (.bool false)) .nil) .nil) (.cons (.asg (.name 8) (.bin .mod (.call 22 (.cons (.loc 0) (.cons (.int 21) .nil))) (.prim .len (.cons (.loc 4) .nil)))) (.cons (.asg (.name 11) (.bin .add (.slice (.loc 4) .none (.loc 8)) (.slice (.loc 4) (.bin .add (.loc 8) (.int 1)) .none))) (.cons (.ife (.and_ (.cmp .isnot (.loc 6) .none) (.and_ (.cmp .ne (.loc 11) (.list .nil)) (.nt (.chain .le .le (.int 0) (.call 20 (.cons (.loc 1) (.cons (.prim .list (.cons (.loc 11) .nil)) (.cons (.list .nil) .nil)))) (.loc 6))))) (.cons (.ret (.bool false)) .nil) .nil) (.cons (.ret (.cmp .eq (.call 20 (.cons (.loc 1) (.cons (.prim .list (.cons (.loc 2) .nil)) (.cons (.prim .list (.cons (.loc 3) .nil)) .nil)))) (.loc 6))) .nil))))))))))))))⟩
noncomputable def zrs:List Str:=[("is_among" : Str),("need_count" : Str),("is_case" : Str),("need_cases" : Str),("is_pan" : Str),("is_weighing" : Str),("some_of" : Str),("all_leading" : Str),("came" : Str),("parted" : Str),("threes" : Str),("is_done" : Str),("still_open" : Str),("are_alike" : Str),("alike_of" : Str),("tried" : Str),("by_each" : Str),("looked" : Str),("found_for" : Str),("told" : Str),("least" : Str),("_law_cell_at" : Str),("_law_mixed" : Str),("_law_came" : Str),("_law_pans" : Str),("_law_pool" : Str),("_law_puzzle" : Str),("_law_done" : Str),("_law_open" : Str),("_law_numbered" : Str),("_law_pan_numbered" : Str),("_law_order" : Str),("_law_others" : Str),("law" : Str)]
noncomputable def v4(f:Nat):Option Str:=zrs[f]?
noncomputable def zjw:List (List Str):=[[("thing" : Str),("least" : Str),("most" : Str)],[("many" : Str)],[("many" : Str),("thing" : Str)],[("many" : Str),("cases" : Str)],[("many" : Str),("thing" : Str)],[("many" : Str),("thing" : Str),("left" : Str),("right" : Str)],[("things" : Str),("found" : Str),("one" : Str)],[("many" : Str),("pans" : Str),("found" : Str),("left" : Str),("right" : Str)],[("weighing" : Str),("case" : Str),("left" : Str),("right" : Str),("more" : Str)],[("weighing" : Str),("cases" : Str),("found" : Str),("outcome" : Str)],[("number" : Str),("found" : Str),("turn" : Str)],[("many" : Str),("thing" : Str)],[("many" : Str),("cases" : Str),("done" : Str)],[("pans" : Str),("one" : Str),("other" : Str)],[("pans" : Str),("cases" : Str),("k" : Str),("one" : Str),("other" : Str)],[("pans" : Str),("weighing" : Str),("cases" : Str),("number" : Str),("known" : Str),("parts" : Str),("outcome" : Str),("some" : Str),("word" : Str),("found" : Str)],[("pans" : Str),("cases" : Str),("number" : Str),("known" : Str),("rows" : Str),("weighing" : Str),("word" : Str),("found" : Str)],[("pans" : Str),("cases" : Str),("number" : Str),("known" : Str),("key" : Str)],[("pans" : Str),("cases" : Str),("known" : Str),("hold" : Str),("number" : Str),("word" : Str),("found" : Str)],[("many" : Str),("cases" : Str),("done" : Str),("some" : Str),("pans" : Str),("pair" : Str),("plan" : Str),("hold" : Str),("number" : Str)],[("many" : Str),("cases" : Str),("done" : Str),("some" : Str),("pans" : Str)],[("_law_script" : Str),("_law_k" : Str)],[("_law_script" : Str),("_law_k" : Str)],[("_law_weighing" : Str),("_law_case" : Str),("_law_more" : Str),("_law_one" : Str)],[("_law_many" : Str),("_law_found" : Str),("_law_number" : Str),("_law_sides" : Str),("_law_left" : Str),("_law_right" : Str)],[("_law_many" : Str),("_law_kind" : Str),("_law_found" : Str),("_law_one" : Str),("_law_other" : Str),("_law_case" : Str)],[("_law_script" : Str),("_law_at" : Str),("_law_greatest" : Str),("_law_first" : Str),("_law_many" : Str),("_law_most" : Str),("_law_pool_here" : Str),("_law_k" : Str),("_law_number" : Str),("_law_found" : Str),("_law_case" : Str)],[("_law_script" : Str),("_law_at" : Str),("_law_many" : Str),("_law_cases" : Str),("_law_first" : Str),("_law_pans_here" : Str),("_law_found" : Str),("_law_k" : Str),("_law_number" : Str),("_law_left" : Str),("_law_right" : Str),("_law_weighing" : Str),("_law_due" : Str)],[("_law_cases" : Str),("_law_done_here" : Str)],[("_law_case" : Str),("_law_order_here" : Str)],[("_law_pan" : Str),("_law_order_here" : Str)],[("_law_number" : Str),("_law_many" : Str),("_law_left" : Str),("_law_found" : Str)],[("_law_script" : Str),("_law_many" : Str),("_law_cases" : Str),("_law_done_here" : Str),("_law_order_here" : Str),("_law_moved" : Str),("_law_rows" : Str),("_law_against" : Str),("_law_turned" : Str),("_law_found" : Str),("_law_both" : Str)],[("_law_script" : Str),("_law_many" : Str),("_law_cases" : Str),("_law_done_here" : Str),("_law_some" : Str),("_law_word" : Str),("_law_size" : Str),("_law_ways" : Str),("_law_at" : Str),("_law_others_here" : Str),("_law_rows" : Str),("_law_less" : Str)]]
noncomputable def jz(f:Nat):List Str:=zjw[f]?.getD []
noncomputable def zrp:List Str:=[("LEAST_THINGS" : Str),("MOST_THINGS" : Str),("MOST_CASES" : Str),("OUTCOMES" : Str),("MOST_DONE" : Str)]
noncomputable def po(k:Nat):Option Str:=zrp[k]?
noncomputable def zsn:List Str:=[]
noncomputable def zag(k:Nat):Option Str:=zsn[k]?
noncomputable def table:Nat→Option Fn
 | 0=>some c0
 | 1=>some c1
 | 2=>some c2
 | 3=>some c3
 | 4=>some c4
 | 5=>some c5
 | 6=>some c6
 | 7=>some c7
 | 8=>some c8
 | 9=>some c9
 | 10=>some c10
 | 11=>some c11
 | 12=>some c12
 | 13=>some c13
 | 14=>some c14
 | 15=>some c15
 | 16=>some c16
 | 17=>some c17
 | 18=>some c18
 | 19=>some c19
 | 20=>some c20
 | 21=>some c21
 | 22=>some c22
 | 23=>some c23
 | 24=>some c24
 | 25=>some c25
 | 26=>some c26
 | 27=>some c27
 | 28=>some c28
 | 29=>some c29
 | 30=>some c30
 | 31=>some c31
 | 32=>some c32
 | 33=>some c33
 | _+34=>none
noncomputable def zrn:List PyData:=[.int (2),.int (5),.int (12),.tuple [.int (-1),.int (0),.int (1)],.int (20)]
noncomputable def zt7(k:Nat):Option PyData:=zrn[k]?
noncomputable def zks:Nat:=33
noncomputable def zsq:List Nat:=[0,1,2,3,4,5,6,7,8,9,10,11,12,13,14,15,16,17,18,19,20,21,22,23,24,25,26,27,28,29,30,31,32,33]
noncomputable def at_(f:Nat):Nat:=zsq[f]?.getD 0
noncomputable def subs(x c:Nat):Option Bool:=match x with
 | _=>none
noncomputable def P:Pg:={ call:=fun uA uA uA uA=>.stuck,hd:=false,gval:=zt7,turns:=200,sub:=subs,srt:=wb,sets:=false,txt:=fun uA=>none }
end Mine.L11
end
section
namespace Mine.L11
open PySem Mine PyProof.Rows
noncomputable def prog:Program:=PySem.Challenge.pw_uf050003_11
noncomputable def fnOf:Option Stmt→List Stmt×Scope
 | some (.FunctionDef _ _ b _ _ _ s _ _ _)=>(b,s)
 | _=>([],⟨.module,[],false,false,[]⟩)
noncomputable def bd(k:Nat):List Stmt:=(fnOf (prog.main.body[k]?)).1
noncomputable def sp(k:Nat):Scope:=(fnOf (prog.main.body[k]?)).2
noncomputable def cxOf(fn:Fn)(f k:Nat):Cx:={ names:=yo fn (jz f),sc:=sp k,fname:=v4,gname:=po,cname:=zag }
theorem bs:JSs (cxOf c0 0 9) (bd 9) c0.body∧JSs (cxOf c1 1 10) (bd 10) c1.body∧JSs (cxOf c2 2 11) (bd 11) c2.body∧JSs (cxOf c3 3 12) (bd 12) c3.body∧JSs (cxOf c4 4 15) (bd 15) c4.body∧JSs (cxOf c5 5 16) (bd 16) c5.body∧JSs (cxOf c6 6 17) (bd 17) c6.body∧JSs (cxOf c7 7 18) (bd 18) c7.body∧JSs (cxOf c8 8 19) (bd 19) c8.body∧JSs (cxOf c9 9 20) (bd 20) c9.body∧JSs (cxOf c10 10 22) (bd 22) c10.body∧JSs (cxOf c11 11 25) (bd 25) c11.body∧JSs (cxOf c12 12 26) (bd 26) c12.body∧JSs (cxOf c13 13 28) (bd 28) c13.body∧JSs (cxOf c14 14 29) (bd 29) c14.body∧JSs (cxOf c15 15 30) (bd 30) c15.body∧JSs (cxOf c16 16 31) (bd 31) c16.body∧JSs (cxOf c17 17 32) (bd 32) c17.body∧JSs (cxOf c18 18 33) (bd 33) c18.body∧JSs (cxOf c19 19 34) (bd 34) c19.body∧JSs (cxOf c20 20 35) (bd 35) c20.body∧JSs (cxOf c21 21 37) (bd 37) c21.body∧JSs (cxOf c22 22 38) (bd 38) c22.body∧JSs (cxOf c23 23 39) (bd 39) c23.body∧JSs (cxOf c24 24 40) (bd 40) c24.body∧JSs (cxOf c25 25 41) (bd 41) c25.body∧JSs (cxOf c26 26 42) (bd 42) c26.body∧JSs (cxOf c27 27 43) (bd 43) c27.body∧JSs (cxOf c28 28 44) (bd 44) c28.body∧JSs (cxOf c29 29 45) (bd 45) c29.body∧JSs (cxOf c30 30 46) (bd 46) c30.body∧JSs (cxOf c31 31 47) (bd 47) c31.body∧JSs (cxOf c32 32 48) (bd 48) c32.body∧JSs (cxOf c33 33 49) (bd 49) c33.body:=by
 refine⟨?_,?_,?_,?_,?_,?_,?_,?_,?_,?_,?_,?_,?_,?_,?_,?_,?_,?_,?_,?_,?_,?_,?_,?_,?_,?_,?_,?_,?_,?_,?_,?_,?_,?_⟩ <;> apply zg1
 all_goals with_reducible repeat' first
  | apply q_nil | apply q_ret | apply q_if | apply zqf | apply zg1 | apply zjr | apply s_ret0 | apply zs6 | apply zs7 | apply zqp | apply s_asgB | apply zqq | apply zqo | apply zqj | apply zqk | apply zs9 | apply s_forZ | apply zql | apply s_forT | apply zqm | apply zs8 | apply znf | apply zqn | apply s_raise | apply s_try
  | apply zhz | apply zs0 | apply zm2 | apply zm1 | apply zp5 | apply zp4 | apply tt_cmpB | apply zp6 | apply zjo | apply tt_ite | apply zm6
  | apply zrd | apply j_notinM | apply zrg | apply j_minL | apply zrb | apply zri | apply zt3 | apply zty | apply zt1 | apply zrf | apply ztx | apply j_listB | apply j_dict | apply zt0 | apply j_nt | apply zrl | apply zrk | apply j_or2 | apply j_orN | apply zt5 | apply zn3 | apply zt2
  | apply j_sliceT | apply j_backT | apply j_maxL | apply j_lenI | apply zn1 | apply zrj | apply j_idxB | apply zt4 | apply zkz | apply j_isexc | apply zre | apply j_str1 | apply zrc | apply j_ofset | apply ztz | apply zn2 | apply zk0 | apply j_clear | apply zrh | apply zn4 | apply JK.e
  | apply zq2 | apply ztm | apply zkl | apply znv | apply znu
  | apply zrv | apply zod | apply zn7 | apply zk5 | apply zqw | apply zqv | apply zn9 | apply i_rev | apply i_e | apply ztb | apply zta
  | exact .inl rfl | exact .inr rfl | kernel_rfl
theorem b0:JSs (cxOf c0 0 9) (bd 9) c0.body:=bs.1
theorem b1:JSs (cxOf c1 1 10) (bd 10) c1.body:=bs.2.1
theorem b2:JSs (cxOf c2 2 11) (bd 11) c2.body:=bs.2.2.1
theorem b3:JSs (cxOf c3 3 12) (bd 12) c3.body:=bs.2.2.2.1
theorem b4:JSs (cxOf c4 4 15) (bd 15) c4.body:=bs.2.2.2.2.1
theorem b5:JSs (cxOf c5 5 16) (bd 16) c5.body:=bs.2.2.2.2.2.1
theorem b6:JSs (cxOf c6 6 17) (bd 17) c6.body:=bs.2.2.2.2.2.2.1
theorem b7:JSs (cxOf c7 7 18) (bd 18) c7.body:=bs.2.2.2.2.2.2.2.1
theorem b8:JSs (cxOf c8 8 19) (bd 19) c8.body:=bs.2.2.2.2.2.2.2.2.1
theorem b9:JSs (cxOf c9 9 20) (bd 20) c9.body:=bs.2.2.2.2.2.2.2.2.2.1
theorem b10:JSs (cxOf c10 10 22) (bd 22) c10.body:=bs.2.2.2.2.2.2.2.2.2.2.1
theorem b11:JSs (cxOf c11 11 25) (bd 25) c11.body:=bs.2.2.2.2.2.2.2.2.2.2.2.1
theorem b12:JSs (cxOf c12 12 26) (bd 26) c12.body:=bs.2.2.2.2.2.2.2.2.2.2.2.2.1
theorem b13:JSs (cxOf c13 13 28) (bd 28) c13.body:=bs.2.2.2.2.2.2.2.2.2.2.2.2.2.1
theorem b14:JSs (cxOf c14 14 29) (bd 29) c14.body:=bs.2.2.2.2.2.2.2.2.2.2.2.2.2.2.1
theorem b15:JSs (cxOf c15 15 30) (bd 30) c15.body:=bs.2.2.2.2.2.2.2.2.2.2.2.2.2.2.2.1
theorem b16:JSs (cxOf c16 16 31) (bd 31) c16.body:=bs.2.2.2.2.2.2.2.2.2.2.2.2.2.2.2.2.1
theorem b17:JSs (cxOf c17 17 32) (bd 32) c17.body:=bs.2.2.2.2.2.2.2.2.2.2.2.2.2.2.2.2.2.1
theorem b18:JSs (cxOf c18 18 33) (bd 33) c18.body:=bs.2.2.2.2.2.2.2.2.2.2.2.2.2.2.2.2.2.2.1
theorem b19:JSs (cxOf c19 19 34) (bd 34) c19.body:=bs.2.2.2.2.2.2.2.2.2.2.2.2.2.2.2.2.2.2.2.1
theorem b20:JSs (cxOf c20 20 35) (bd 35) c20.body:=bs.2.2.2.2.2.2.2.2.2.2.2.2.2.2.2.2.2.2.2.2.1
theorem b21:JSs (cxOf c21 21 37) (bd 37) c21.body:=bs.2.2.2.2.2.2.2.2.2.2.2.2.2.2.2.2.2.2.2.2.2.1
theorem b22:JSs (cxOf c22 22 38) (bd 38) c22.body:=bs.2.2.2.2.2.2.2.2.2.2.2.2.2.2.2.2.2.2.2.2.2.2.1
theorem b23:JSs (cxOf c23 23 39) (bd 39) c23.body:=bs.2.2.2.2.2.2.2.2.2.2.2.2.2.2.2.2.2.2.2.2.2.2.2.1
theorem b24:JSs (cxOf c24 24 40) (bd 40) c24.body:=bs.2.2.2.2.2.2.2.2.2.2.2.2.2.2.2.2.2.2.2.2.2.2.2.2.1
theorem b25:JSs (cxOf c25 25 41) (bd 41) c25.body:=bs.2.2.2.2.2.2.2.2.2.2.2.2.2.2.2.2.2.2.2.2.2.2.2.2.2.1
theorem b26:JSs (cxOf c26 26 42) (bd 42) c26.body:=bs.2.2.2.2.2.2.2.2.2.2.2.2.2.2.2.2.2.2.2.2.2.2.2.2.2.2.1
theorem b27:JSs (cxOf c27 27 43) (bd 43) c27.body:=bs.2.2.2.2.2.2.2.2.2.2.2.2.2.2.2.2.2.2.2.2.2.2.2.2.2.2.2.1
theorem b28:JSs (cxOf c28 28 44) (bd 44) c28.body:=bs.2.2.2.2.2.2.2.2.2.2.2.2.2.2.2.2.2.2.2.2.2.2.2.2.2.2.2.2.1
theorem b29:JSs (cxOf c29 29 45) (bd 45) c29.body:=bs.2.2.2.2.2.2.2.2.2.2.2.2.2.2.2.2.2.2.2.2.2.2.2.2.2.2.2.2.2.1
theorem b30:JSs (cxOf c30 30 46) (bd 46) c30.body:=bs.2.2.2.2.2.2.2.2.2.2.2.2.2.2.2.2.2.2.2.2.2.2.2.2.2.2.2.2.2.2.1
theorem b31:JSs (cxOf c31 31 47) (bd 47) c31.body:=bs.2.2.2.2.2.2.2.2.2.2.2.2.2.2.2.2.2.2.2.2.2.2.2.2.2.2.2.2.2.2.2.1
theorem b32:JSs (cxOf c32 32 48) (bd 48) c32.body:=bs.2.2.2.2.2.2.2.2.2.2.2.2.2.2.2.2.2.2.2.2.2.2.2.2.2.2.2.2.2.2.2.2.1
theorem b33:JSs (cxOf c33 33 49) (bd 49) c33.body:=bs.2.2.2.2.2.2.2.2.2.2.2.2.2.2.2.2.2.2.2.2.2.2.2.2.2.2.2.2.2.2.2.2.2
theorem zp{f k:Nat}{fn fn':Fn}{d:DefRec}(h:((recsOf prog)[at_ f]?.map fun d=>(d.body,d.scope))=some (bd k,sp k))(hb:JSs (cxOf fn f k) (bd k) fn.body)(hT:some fn=some fn')(hd:(recsOf prog)[at_ f]?=some d) :
 JSs { names:=yo fn' (jz f),sc:=d.scope,fname:=v4,gname:=po,cname:=zag } d.body fn'.body:=by
 injection hT with eU;subst eU
 rw[hd] at h
 injection h with h
 injection h with h1 h2
 rw[h1,h2];exact hb
theorem zsp:zas prog v4 po zag table jz at_:=fun f fn d=>match f with
 | 0=>zp (k:=9) (by kernel_rfl) b0
 | 1=>zp (k:=10) (by kernel_rfl) b1
 | 2=>zp (k:=11) (by kernel_rfl) b2
 | 3=>zp (k:=12) (by kernel_rfl) b3
 | 4=>zp (k:=15) (by kernel_rfl) b4
 | 5=>zp (k:=16) (by kernel_rfl) b5
 | 6=>zp (k:=17) (by kernel_rfl) b6
 | 7=>zp (k:=18) (by kernel_rfl) b7
 | 8=>zp (k:=19) (by kernel_rfl) b8
 | 9=>zp (k:=20) (by kernel_rfl) b9
 | 10=>zp (k:=22) (by kernel_rfl) b10
 | 11=>zp (k:=25) (by kernel_rfl) b11
 | 12=>zp (k:=26) (by kernel_rfl) b12
 | 13=>zp (k:=28) (by kernel_rfl) b13
 | 14=>zp (k:=29) (by kernel_rfl) b14
 | 15=>zp (k:=30) (by kernel_rfl) b15
 | 16=>zp (k:=31) (by kernel_rfl) b16
 | 17=>zp (k:=32) (by kernel_rfl) b17
 | 18=>zp (k:=33) (by kernel_rfl) b18
 | 19=>zp (k:=34) (by kernel_rfl) b19
 | 20=>zp (k:=35) (by kernel_rfl) b20
 | 21=>zp (k:=37) (by kernel_rfl) b21
 | 22=>zp (k:=38) (by kernel_rfl) b22
 | 23=>zp (k:=39) (by kernel_rfl) b23
 | 24=>zp (k:=40) (by kernel_rfl) b24
 | 25=>zp (k:=41) (by kernel_rfl) b25
 | 26=>zp (k:=42) (by kernel_rfl) b26
 | 27=>zp (k:=43) (by kernel_rfl) b27
 | 28=>zp (k:=44) (by kernel_rfl) b28
 | 29=>zp (k:=45) (by kernel_rfl) b29
 | 30=>zp (k:=46) (by kernel_rfl) b30
 | 31=>zp (k:=47) (by kernel_rfl) b31
 | 32=>zp (k:=48) (by kernel_rfl) b32
 | 33=>zp (k:=49) (by kernel_rfl) b33
 | _+34=>fun hT uA=>nomatch hT
end Mine.L11
end
section
namespace Mine.L11
open PySem PySem.W PySem.Calls PyProof.Rows Mine
theorem zt9{G:Gl}{p:Program}{loose:List Str}{mean:ExcName→Option Value}{gval:Nat→Option PyData}{gname:Nat→Option Str}{K:W.Frag}(X:K.In G.h₀)(t:Top p loose mean G.mg G.mb G.h₀)(hc:∀ c,∃ C,G.cls c=.ref C)(hb:zmi K=true)
 (hv:∀ k d x,gval k=some d→gname k=some x→valOf p x=some d∨∃ v,nsIn K mainGlobals x=some (some v)∧∀ h,K.In h→Reads h v d []):GOk G gval gname where
 nolimit:=t.nolimit
 g:=t.g
 b:=t.b
 gl:=fun k d x h1 h2=>by
  refine eW (hv k d x h1 h2) ?_ ?_
  ·intro h;refine eY (t.const x d h) ?_;intro v q1 q2;exact eZ v q1 (q2 _)
  ·rintro ⟨v,h,r⟩;exact eZ v (W.mg_of X t.g h) (r _ X)
 clsRef:=hc
 bi:=fun q hq=>by
  have:=aI.mp hb q hq
  simp only[aG,aQ,bne_iff_ne,ne_eq] at this
  exact⟨W.mg_none_of X t.g this.1.1,by rw[t.builtins _ this.2];exact this.1.2⟩
 digits:=t.nodigits
theorem cl0{G:Gl}:zhy G P zag:=⟨fun c z h=>(nomatch h),fun c z h=>(nomatch h),fun c z A s env x y np cpos pos yp yk Q E h=>(nomatch h)⟩
noncomputable abbrev oOut:Obj:=PySem.Obj.mk (Value.type "tuple") Option.none (PySem.Data.seq #[Value.int (-1) 294,Value.int 0 295,Value.int 1 296]) #[]
theorem h_gv{p:Program}{K:W.Frag}(h0:valOf p "LEAST_THINGS" = some (.int 2))(h1:valOf p "MOST_THINGS" = some (.int 5))(h2:valOf p "MOST_CASES" = some (.int 12))(h5:valOf p "MOST_DONE" = some (.int 20))(h3:nsIn K mainGlobals "OUTCOMES" = some (some (.ref 88)))(h4:K.lookup 88=some oOut):∀ k d x,P.gval k=some d→po k=some x→valOf p x=some d∨∃ v,nsIn K mainGlobals x=some (some v)∧∀ h,K.In h→Reads h v d []:=fun k d x e1 e2=>by
 match k,e1,e2 with
 | 0,e1,e2=>injection e1 with eU;subst eU;injection e2 with eU;subst eU;exact .inl h0
 | 1,e1,e2=>injection e1 with eU;subst eU;injection e2 with eU;subst eU;exact .inl h1
 | 2,e1,e2=>injection e1 with eU;subst eU;injection e2 with eU;subst eU;exact .inl h2
 | 3,e1,e2=>
   injection e1 with eU;subst eU;injection e2 with eU;subst eU
   exact .inr ⟨_,h3,fun h X=>.tuple (X 88 _ h4) rfl rfl (.cons (.int _ _) (.cons (.int _ _) (.cons (.int _ _) .nil)))⟩
 | 4,e1,e2=>injection e1 with eU;subst eU;injection e2 with eU;subst eU;exact .inl h5
 | n+5,e1,_=>exfalso;injection e1
theorem h_no:∀ f,34≤f→v4 f=none:=fun f hf=>bc hf
theorem zny{p:Program}{loose:List Str}{mean:ExcName→Option Value}{K:W.Frag}{prog:Program}{w:World}{s:Shared}{mg mb:Str→Option Value}
 (t:Top p loose mean mg mb s.heap) (X:K.In s.heap) (hf:(List.range 34).all (zgi p v4 table jz at_)=true) (hbo:zas p v4 po zag table jz at_) (hb:zmi K=true) (hv:∀ k d x,P.gval k=some d→po k=some x→valOf p x=some d∨∃ v,nsIn K mainGlobals x=some (some v)∧∀ h,K.In h→Reads h v d [])
 (himp:importsNone p=true) {x:Str} (hfx:v4 zks=some x) {script:List Int} {a:Addr} {rs:List Addr} (r0:Reads s.heap (.ref a) (.list (script.map .int)) rs) {d:PyData} {O'':za}
 (hev:zg P table 61 false zks [.d (.list (script.map .int))] []=.ok (.d d) O'') {Q:Value→Shared→Prop} {E:Value→Shared→Prop}
 (kk:∀ s' val as,s'.gens=s.gens→s'.os=s.os→(∀ b o,s.heap.get? b=some o→s'.heap.get? b=some o)→Reads s'.heap val d as→Q val s') {fa:Addr} (hmg:mg x=some (.ref fa)):wpAny (model prog w) callerA (call (.ref fa) [.ref a]) Q E s:=
 go_top (G:={ prog:=prog,w:=w,h₀:=s.heap,mg:=mg,mb:=mb,cls:=fun uA=>.ref 0,sys:=let ⟨m,h,_⟩:=(t.seer himp).mods;⟨m,h⟩ }) (zt9 X t (fun uA=>⟨0,rfl⟩) hb hv) (zrr t 34 h_no hf hbo) (zjs rfl) (fun h=>by exfalso;injection h) cl0 (k:=60) ⟨by decide,by decide,rfl⟩ rfl rfl rfl hfx
  (vals:=[.ref a]) (vs:=[.d (.list (script.map .int))]) (.cons ⟨rs,r0,fun b hb=>⟨fun h=>(nomatch h),fun h=>by rw[ac.mp h] at hb;refine eY (t.seer himp).mods ?_;intro m hm _;exact zfk hm r0 hb⟩⟩ .nil) hev kk fa hmg
set_option tactic.hygienic true in
theorem holds_of(hE:∀ script:List Int,script.length≤63→∃ O,zg P table 61 false zks [.d (.list (script.map .int))] []=.ok (.d (.bool true)) O):PySem.Challenge.rw_uf050003_11.Holds:=by
 w_on
 refine holds_law ws fun said=>?_
 refine holds_open (q:=view) (loose:=[]) (Xt:=fun s=>xlAt view [] s && recOk (RowW.records (OpenRow.toRowW (OpenLaw.row PySem.Challenge.rw_uf050003_11))) s) (XP:=XL view []) (Yf:=Hook.obs hook) (Ya:=Hook.val hook) (YP:=Hook.says hook) (N:=4166) ?hl (Hook.of hook) (Hook.keeps hook) (fun s e=>xl_of s (Bool.and_eq_true_iff.mp e).1) XL.keeps (by rfl) (by rfl) (by rfl) (fun s e=>recFacts_of (Bool.and_eq_true_iff.mp e).2) (by rfl) (by assumption) (by decide +kernel) ⟨rfl,rfl,rfl,rfl,rfl,by decide +kernel⟩ ?hw ?hc
 case hw=>w_witness2
 case hl=>exact znx
 case hc=>
  intro w s₀ s₁ mg mb G Y fa o pm cd doc dV kV ho hd hcd hD hmg hg args vals as hpre hlay hrd hwl hlo
  have KX:=kIn_of Y
  have X:=(Ground.X G).1
  have V:=(Ground.X G).2
  refine Ground.open G ?_
  intro T B D TE TW
  clear hd hcd hD
  wrow_args hpre hlay hrd hwl hlo
  clear Y G X V B D TE TW ho
  rename_i script _ _ _ _ _ rs _ a vs _ hL ra _ r0 _ _ hlen _
  have hlen':script.length≤63:=by lia
  refine fe (hE script hlen') ?_;intro O hev
  refine zny T KX (by kernel_rfl) zsp (by kernel_rfl) (h_gv (by kernel_rfl) (by kernel_rfl) (by kernel_rfl) (by kernel_rfl) (by kernel_rfl) (by kernel_rfl)) (by kernel_rfl) rfl r0 hev ?_ hmg
  intro s' val as' hgens hos hkeep hread
  have hread':=readsW_of_reads (R:=Challenge.rw_uf050003_11.row.claim.records) (cl:=classAt s₀.heap) hread
  cases hread
  refine⟨.inl ⟨_,.bool true,[],rfl,fun uA=>rfl,?_,?_,fun uA=>⟨.nil,fun uA h=>(nomatch h)⟩⟩,.of_keep hkeep,hos,.of_eq (hgens.trans hg)⟩
  ·exact hread'
  ·kernel_rfl
end Mine.L11
end
section
namespace Mine
open PySem
theorem zaf{ys:List PyData}{turn:PyData→za→R za (Option PyData)}{f:PyData→PyData}{O:za}:∀ (xs acc:List PyData),(∀ x∈xs,turn x O=.ok (some (f x)) O)→yg (.plain ys) turn xs acc O=.ok (.d (.list (acc++xs.map f))) O
 | [],acc,_=>by simp[yg]
 | x::xs,acc,h=>by
   rw[yg,h x ao]
   show (if (Src.plain ys).still O=true then _ else _)=_
   rw[af (show (Src.plain ys).still _=true from rfl),zaf xs _ fun y hy=>h y (ag _ hy)]
   simp
theorem d8{α:Type}{ys:List PyData}{turn:PyData→Loc→za→R (Loc×za) Fl}(st:α→Loc×za)(f:α→PyData→α):∀ (xs:List PyData) (a:α),(∀ a,∀ x∈xs,turn x (st a).1 (st a).2=.ok .next (st (f a x))) →
 z7 (.plain ys) turn xs (st a).1 (st a).2=.ok .next (st (xs.foldl f a))
 | [],a,_=>rfl
 | x::xs,a,h=>by
   rw[z7,h a x ao]
   show (if (Src.plain ys).still _=true then _ else _)=_
   rw[af (show (Src.plain ys).still _=true from rfl),d8 st f xs (f a x) fun a y hy=>h a y (ag _ hy)]
   rfl
section
variable{P:Pg}{ρ:Loc}{O:za}{a b c t:CE}{es:CEs}
theorem jw{i:Int}:evE P ρ (.int i) O=.ok (.d (.int i)) O:=rfl
theorem x8{i:Nat}:evE P ρ (.loc i) O=opt (ρ[i]?.join) O:=rfl
theorem zo9:evE P ρ (.tup es) O=(evEs P ρ es O).bind fun vs O=>opt (tupV vs) O:=rfl
theorem w0:evE P ρ (.list es) O=(evEs P ρ es O).bind fun vs O=>opt ((allD vs).map fun xs=>.d (.list xs)) O:=rfl
theorem zmx:evE P ρ (.boxed a) O=(evE P ρ a O).bind boxK:=rfl
theorem x_nt:evE P ρ (.nt a) O=(evE P ρ a O).bind fun v O=>opt ((truth v).map fun b=>.d (.bool !b)) O:=rfl
theorem zsw:evE P ρ (.and_ a b) O=(evE P ρ a O).bind fun v O=>(opt (truth v) O).bind (andK fun O=>evE P ρ b O):=rfl
theorem x_or:evE P ρ (.or_ a b) O=(evE P ρ a O).bind fun v O=>(opt (truth v) O).bind (orK fun O=>evE P ρ b O):=rfl
theorem zji:evE P ρ (.ite t a b) O=(evE P ρ t O).bind fun v O=>(opt (truth v) O).bind (iteK (fun O=>evE P ρ a O) fun O=>evE P ρ b O):=rfl
theorem u8{op:Bop}:evE P ρ (.bin op a b) O=(evE P ρ a O).bind fun v O=>(evE P ρ b O).bind fun u O=>binK op v u O:=rfl
theorem zc9{op:Cop}:evE P ρ (.cmp op a b) O=(evE P ρ a O).bind fun v O=>(evE P ρ b O).bind fun u O=>cmpV op v u O:=rfl
theorem zgv{p q:Cop}:evE P ρ (.chain p q a b c) O=(evE P ρ a O).bind fun v O=>(evE P ρ b O).bind fun u O=>(cmpV p v u O).bind fun t O=>(opt (truth t) O).bind (andK fun O=>(evE P ρ c O).bind fun y O=>cmpV q u y O):=rfl
theorem za7:evE P ρ (.idx a b) O=(evE P ρ a O).bind fun v O=>(evE P ρ b O).bind fun u O=>idxV v u O:=rfl
theorem zca:evE P ρ (.slice a b c) O=(evE P ρ a O).bind fun v O=>(evE P ρ b O).bind fun l O=>(evE P ρ c O).bind fun h O=>zfh v l h O:=rfl
theorem zsu:evE P ρ (.rev a) O=(evE P ρ a O).bind fun v O=>opt (((look O v).bind revD).map .d) O:=rfl
theorem x_call{f:Nat}:evE P ρ (.call f es) O=(evEs P ρ es O).bind fun vs O=>P.call P.hd f vs O:=rfl
theorem ze5{p:Prim}:evE P ρ (.prim p es) O=if (P.hd && !p.calm)=true then .stuck else (evEs P ρ es O).bind fun vs O=>prim P p vs O:=rfl
theorem zpw{m:Meth}:evE P ρ (.meth m a es) O=(evE P ρ a O).bind fun v O=>if recv m v O then (evEs P ρ es O).bind fun vs O=>meth m v vs O else .stuck:=rfl
theorem kw:evEs P ρ .nil O=.ok [] O:=rfl
theorem x9:evEs P ρ (.cons a es) O=(evE P ρ a O).bind fun v O=>(evEs P ρ es O).bind fun vs O=>.ok (v::vs) O:=rfl
theorem zsv:jf P ρ .nil O=.ok true O:=rfl
theorem zgu:jf P ρ (.cons a es) O=(evE P ρ a O).bind fun v O=>(opt (truth v) O).bind fun t O=>(match t with
 | true=>jf P ρ es O
 | false=>.ok false O):=rfl
theorem x_e:evI P ρ (.e a) O=(evE P ρ a O).bind srcV:=rfl
theorem zm8{n:Nat}{xs:List PyData}(h:O[n]?=some (.lst xs)):srcV (.box n) O=.ok (.box n xs) O:=by unfold srcV;dsimp only;rw[h]
noncomputable def zj5(v u:V)(O:za):R za Src:=(xc v u O).bind fun p O=>.ok (.plain (zi p.1 p.2)) O
theorem kc{i j:Int}(h : -(10 ^ 9)≤i∧i≤10 ^ 9∧-(10 ^ 9)≤j∧j≤10 ^ 9):zj5 (.d (.int i)) (.d (.int j)) O=.ok (.plain (zi i j)) O:=by
 have:xc (.d (.int i)) (.d (.int j)) O=.ok (i,j) O:=af h
 unfold zj5;rw[this];rfl
theorem ux:evI P ρ (.range a b) O=((evE P ρ a O).bind fun v O=>(evE P ρ b O).bind fun u O=>xc v u O).bind fun p O=>.ok (.plain (zi p.1 p.2)) O:=rfl
theorem zp0{elt:CE}{tgt:CT}{it:CI}{ifs:CEs}{xs:List PyData}{O':za}(hd:P.hd=false)(hit:evI P ρ it O=.ok (.plain xs) O')(hl:xs.length≤line)(f:PyData→PyData)
 (h:∀ x∈xs,∃ ρ',zq tgt (.d x) ρ=some ρ'∧jf P ρ' ifs O'=.ok true O'∧evE P ρ' elt O'=.ok (.d (f x)) O'):evE P ρ (.comp elt tgt it ifs) O=.ok (.d (.list (xs.map f))) O':=by
 show (if P.hd=true then .stuck else _:R za V)=_
 rw[aj (by rw[hd];decide),hit]
 show (if xs.length≤line then _ else _)=_
 rw[af hl]
 refine zaf (f:=f) xs [] fun x hx=>?_
 refine ft (h x hx) ?_;intro ρ' h1 h2 h3
 unfold xu
 rw[h1]
 dsimp only
 rw[h2]
 simp only[R.bind,h3]
theorem zgt:evS P (.ret a) ρ O=((evE P ρ a O).lift ρ).bind fun v S=>.ok (.ret v) S:=rfl
theorem v7{y:CT}:evS P (.asg y a) ρ O=if (P.hd && !y.isName)=true then .stuck else ((evE P ρ a O).lift ρ).bind (asgR y):=rfl
theorem za6{p q:CSs}:evS P (.ife t p q) ρ O=(((evE P ρ t O).bind fun v O=>opt (truth v) O).lift ρ).bind (ifeK (fun S=>evSs P p S.1 S.2) fun S=>evSs P q S.1 S.2):=rfl
noncomputable def yq(P:Pg)(y:CT)(p:CSs):PyData→Loc→za→R (Loc×za) Fl:=jy y fun ρ O=>evSs P p ρ O
theorem v5{y:CT}{it:CI}{p:CSs}:evS P (.for_ y it p) ρ O=if P.hd=true then .stuck else ((evI P ρ it O).lift ρ).bind fun src S=>z7 src (yq P y p) src.xs S.1 S.2:=rfl
theorem zpz:evS P (.expr a) ρ O=((evE P ρ a O).lift ρ).bind fun uA S=>.ok .next S:=rfl
theorem u7:evSs P .nil ρ O=.ok .next (ρ,O):=rfl
theorem jj{s:CS}{ss:CSs}:evSs P (.cons s ss) ρ O=(evS P s ρ O).bind (seqK fun S=>evSs P ss S.1 S.2):=rfl
end
section
variable{P:Pg}{ρ:Loc}{O:za}
theorem zj{σ α β:Type}{a:α}{s:σ}{f:α→σ→R σ β}:(R.ok a s).bind f=f a s:=rfl
theorem ke{α:Type}{a:α}:(R.ok a O).lift ρ=.ok a (ρ,O):=rfl
theorem je{α:Type}{a:α}:opt (some a) O=.ok a O:=rfl
theorem gf{b:Bool}:truth (.d (.bool b))=some b:=rfl
theorem zsr{r:za→R za V}:andK r true O=r O:=rfl
theorem zli{p q:Loc×za→R (Loc×za) Fl}{S:Loc×za}:ifeK p q true S=p S:=rfl
theorem zhk{p q:Loc×za→R (Loc×za) Fl}{S:Loc×za}:ifeK p q false S=q S:=rfl
theorem zfl{p:Loc×za→R (Loc×za) Fl}{v:V}{S:Loc×za}:seqK p (.ret v) S=.ok (.ret v) S:=rfl
theorem zfm{p:Loc×za→R (Loc×za) Fl}{S:Loc×za}:seqK p .next S=p S:=rfl
theorem zan{i:Nat}{v:V}:zq (.name i) v ρ=if i < ρ.length then some (ρ.set i (some v)) else none:=rfl
theorem zc5:allD []=some []:=rfl
theorem zc6{x:PyData}{r:List V}:allD (.d x::r)=(allD r).map (x::·):=rfl
theorem zme:Prim.calm .len=true:=rfl
theorem nm_1{i:Nat}:CT.isName (.name i)=true:=rfl
theorem zdu{p:Prim}{x y:PyData}(h:zbi P p x=some y):prim P p [.d x] O=.ok (.d y) O:=by
 have e:∀ (o:Option PyData),o=some y→(match o with | some y=>R.ok (V.d y) O | none=>.stuck)=R.ok (V.d y) O:=fun o h=>by rw[h]
 cases p with
 | isexc _=>exfalso;injection h
 | _=>exact e _ h
theorem g6{xs:List PyData}(h:xs.length≤line):prim P .len [.d (.list xs)] O=.ok (.d (.int xs.length)) O:=zdu (af h)
theorem zb4{α:Type}(g:α→Bool):∀ xs:List α,vf (xs.map fun x=>.bool (g x))=some (xs.map g)
 | []=>rfl
 | x::xs=>by rw[aS,vf,zb4 g xs];rfl
theorem ints_map{α:Type}(g:α→Int):∀ xs:List α,Mine.intsOf (xs.map fun x=>.int (g x))=some (xs.map g)
 | []=>rfl
 | x::xs=>by rw[aS,Mine.intsOf,ints_map g xs];rfl
theorem q0:∀ xs:List Int,Mine.intsOf (xs.map .int)=some xs
 | []=>rfl
 | x::xs=>by rw[aS,Mine.intsOf,q0 xs];rfl
theorem zti{α:Type}{g:α→Bool}{xs:List α}:prim P .all [.d (.list (xs.map fun x=>.bool (g x)))] O=.ok (.d (.bool (xs.all g))) O:=by
 have e:(xs.map g).all id=xs.all g:=by rw[List.all_map];rfl
 rw[← e]
 exact zdu (show (vf (xs.map fun x=>.bool (g x))).map (fun bs=>PyData.bool (bs.all id))=_ by rw[zb4];rfl)
theorem zth{α:Type}{g:α→Int}{xs:List α}:prim P .sum [.d (.list (xs.map fun x=>.int (g x)))] O=.ok (.d (.int (xs.map g).sum)) O:=
 zdu (show (Mine.intsOf (xs.map fun x=>.int (g x))).map (fun is=>PyData.int is.sum)=_ by rw[ints_map];rfl)
theorem zcp{xs:List PyData}(h:xs.length≤line):prim P .tuple [.d (.list xs)] O=.ok (.d (.tuple xs)) O:=zdu (af h)
theorem v_eq{x y:PyData}:cmpV .eq (.d x) (.d y) O=opt ((kr .eq x y).map fun b=>.d (.bool b)) O:=rfl
theorem v_ne{x y:PyData}:cmpV .ne (.d x) (.d y) O=opt ((kr .ne x y).map fun b=>.d (.bool b)) O:=rfl
theorem v_lt{x y:Int}:cmpV .lt (.d (.int x)) (.d (.int y)) O=.ok (.d (.bool (decide (x < y)))) O:=rfl
theorem v_le{x y:Int}:cmpV .le (.d (.int x)) (.d (.int y)) O=.ok (.d (.bool (decide (x≤y)))) O:=rfl
theorem v_gt{x y:Int}:cmpV .gt (.d (.int x)) (.d (.int y)) O=.ok (.d (.bool (decide (x > y)))) O:=rfl
theorem jx{x k:PyData}:idxV (.d x) (.d k) O=opt ((idxD x k).map .d) O:=rfl
theorem wn{a b:Int}:binK .add (.d (.int a)) (.d (.int b)) O=.ok (.d (.int (a+b))) O:=rfl
theorem vd{a b:Int}:binK .sub (.d (.int a)) (.d (.int b)) O=.ok (.d (.int (a - b))) O:=rfl
theorem zhe{op:Bop}{x y:PyData}:binK op (.d x) (.d y) O=opt ((zb6 op x y).map V.d) O:=rfl
theorem zga{a b:List PyData}(h:a.length+b.length≤line):binK .add (.d (.list a)) (.d (.list b)) O=.ok (.d (.list (a++b))) O:=by rw[zhe];show opt (Option.map V.d (if _ then _ else _)) O=_;rw[af h];rfl
theorem zkx{a b:Int}(h:a.natAbs < 2 ^ 64∨b.natAbs < 2 ^ 64):binK .mul (.d (.int a)) (.d (.int b)) O=.ok (.d (.int (a * b))) O:=by rw[zhe];show opt (Option.map V.d (if _ then _ else _)) O=_;rw[af h];rfl
theorem zcs{a b:Int}(h:b≠0∧b.natAbs < 1073741824):binK .fdiv (.d (.int a)) (.d (.int b)) O=.ok (.d (.int (Int.fdiv a b))) O:=by rw[zhe];show opt (Option.map V.d (if _ then _ else _)) O=_;rw[af h];rfl
theorem zky{a b:Int}(h:b≠0):binK .mod (.d (.int a)) (.d (.int b)) O=.ok (.d (.int (Int.fmod a b))) O:=by rw[zhe];show opt (Option.map V.d (if _ then _ else _)) O=_;rw[aj h];rfl
theorem zec{a b:Int}:eqOk (.int a) (.int b)=true:=by unfold eqOk;rfl
theorem zhl{a b:Int}:PyData.eqv (.int a) (.int b)=decide (a=b):=by first | rfl | simp[PyData.eqv]
theorem eq_int{a b:Int}:cmpV .eq (.d (.int a)) (.d (.int b)) O=.ok (.d (.bool (decide (a=b)))) O:=by rw[v_eq,kr,zec,zhl];rfl
theorem ne_int{a b:Int}:cmpV .ne (.d (.int a)) (.d (.int b)) O=.ok (.d (.bool (!decide (a=b)))) O:=by rw[v_ne,kr,zec,zhl];rfl
end
section
variable{P:Pg}{ρ ρ':Loc}{O O' O'':za}{a b c e t:CE}{es:CEs}{v u:V}
theorem jt(h:evE P ρ e O=.ok v O'):evS P (.expr e) ρ O=.ok .next (ρ,O'):=by rw[zpz,h];rfl
theorem zt{i:Nat}(h:evE P ρ e O=.ok v O')(hi:Nat.blt i ρ.length=true)(hr:ρ.set i (some v)=ρ'):evS P (.asg (.name i) e) ρ O=.ok .next (ρ',O'):=by
 subst hr
 rw[v7,h]
 have:(P.hd && !(CT.name i).isName)=false:=by cases P.hd <;> rfl
 rw[this,aj am]
 show (match (if i < ρ.length then some (ρ.set i (some v)) else none) with | some ρ'=>R.ok Fl.next (ρ',O') | none=>.stuck)=_
 rw[af (show i < ρ.length from dE hi)]
theorem y4{p:CSs}(h:evE P ρ t O=.ok (.d (.bool false)) O'):evS P (.ife t p .nil) ρ O=.ok .next (ρ,O'):=by rw[za6,h];rfl
theorem w_if{p q:CSs}{bb:Bool}(h:evE P ρ t O=.ok (.d (.bool bb)) O'):evS P (.ife t p q) ρ O=if bb then evSs P p ρ O' else evSs P q ρ O':=by rw[za6,h];cases bb <;> rfl
theorem yf(h:evE P ρ e O=.ok v O'):evS P (.ret e) ρ O=.ok (.ret v) (ρ,O'):=by rw[zgt,h];rfl
theorem zc{st:CS}{ss:CSs}(h:evS P st ρ O=.ok .next (ρ',O')):evSs P (.cons st ss) ρ O=evSs P ss ρ' O':=by rw[jj,h];rfl
theorem ze{st:CS}{ss:CSs}{S:Loc×za}(h:evS P st ρ O=.ok (.ret v) S):evSs P (.cons st ss) ρ O=.ok (.ret v) S:=by rw[jj,h];rfl
theorem zm{f:Nat}{vs:List V}{r:R za V}(he:evEs P ρ es O=.ok vs O')(hc:P.call P.hd f vs O'=r):evE P ρ (.call f es) O=r:=by rw[x_call,he];exact hc
theorem zr{vs:List V}(h:evE P ρ a O=.ok v O')(h':evEs P ρ es O'=.ok vs O''):evEs P ρ (.cons a es) O=.ok (v::vs) O'':=by rw[x9,h,zj,h',zj]
theorem w_nt{bb:Bool}(h:evE P ρ a O=.ok (.d (.bool bb)) O'):evE P ρ (.nt a) O=.ok (.d (.bool !bb)) O':=by rw[x_nt,h];rfl
theorem w_or{bb:Bool}(h:evE P ρ a O=.ok (.d (.bool bb)) O'):evE P ρ (.or_ a b) O=if bb then .ok (.d (.bool true)) O' else evE P ρ b O':=by rw[x_or,h];cases bb <;> rfl
theorem w_and{bb:Bool}(h:evE P ρ a O=.ok (.d (.bool bb)) O'):evE P ρ (.and_ a b) O=if bb then evE P ρ b O' else .ok (.d (.bool false)) O':=by rw[zsw,h];cases bb <;> rfl
theorem h8{r:R za V}(h:evE P ρ a O=.ok (.d (.bool false)) O')(h':evE P ρ b O'=r):evE P ρ (.or_ a b) O=r:=(w_or h).trans h'
theorem zsz(h:evE P ρ a O=.ok (.d (.bool true)) O'):evE P ρ (.or_ a b) O=.ok (.d (.bool true)) O':=w_or h
theorem zcb{r:R za V}(h:evE P ρ a O=.ok (.d (.bool true)) O')(h':evE P ρ b O'=r):evE P ρ (.and_ a b) O=r:=(w_and h).trans h'
theorem ze9(h:evE P ρ a O=.ok (.d (.bool false)) O'):evE P ρ (.and_ a b) O=.ok (.d (.bool false)) O':=w_and h
theorem yc{p:Prim}{r:R za V}(hp:(P.hd && !p.calm)=false)(h:evE P ρ a O=.ok v O')(hr:prim P p [v] O'=r):evE P ρ (.prim p (.cons a .nil)) O=r:=by rw[ze5,hp,aj am,x9,h,zj,kw,zj,zj];exact hr
theorem z9{op:Cop}{r:R za V}(h1:evE P ρ a O=.ok v O')(h2:evE P ρ b O'=.ok u O'')(h3:cmpV op v u O''=r):evE P ρ (.cmp op a b) O=r:=by rw[zc9,h1,zj,h2,zj];exact h3
theorem z0{op:Bop}{r:R za V}(h1:evE P ρ a O=.ok v O')(h2:evE P ρ b O'=.ok u O'')(h3:binK op v u O''=r):evE P ρ (.bin op a b) O=r:=by rw[u8,h1,zj,h2,zj];exact h3
theorem xh{r:R za V}(h1:evE P ρ a O=.ok v O')(h2:evE P ρ b O'=.ok u O'')(h3:idxV v u O''=r):evE P ρ (.idx a b) O=r:=by rw[za7,h1,zj,h2,zj];exact h3
theorem vg{m:Meth}{vs:List V}{r:R za V}(h1:evE P ρ a O=.ok v O')(hr:recv m v O'=true)(h2:evEs P ρ es O'=.ok vs O'')(h3:meth m v vs O''=r):evE P ρ (.meth m a es) O=r:=by rw[zpw,h1,zj,af hr,h2];exact h3
theorem vp{p:Prim}{x y:PyData}(hv:look O v=some x)(hp:zbi P p x=some y):prim P p [v] O=.ok (.d y) O:=by
 have e:([v].mapM (look O)).bind (uh P p)=some y:=by rw[List.mapM_cons,hv,List.mapM_nil];exact hp
 have e2:∀ (o:Option PyData),o=some y→(match o with | some y=>R.ok (V.d y) O | none=>.stuck)=R.ok (V.d y) O:=fun o h=>by rw[h]
 cases p with
 | isexc _=>exfalso;injection hp
 | _=>exact e2 _ e
theorem zmg{op:Cop}{x y:PyData}{bb:Bool}(hop:op=.eq∨op=.ne)(hv:look O v=some x)(hu:look O u=some y)(h:kr op x y=some bb):cmpV op v u O=.ok (.d (.bool bb)) O:=by
 have:cmpG op v u O=.ok (.d (.bool bb)) O:=by unfold cmpG;rw[hv,hu];show opt ((kr op x y).map _) O=_;rw[h];rfl
 (refine eW hop ?_ ?_<;>clear hop;rotate_left;rintro rfl;rotate_right;rintro rfl) <;> exact this
inductive Seen(O:za):V→List PyData→Prop
 | d (xs:List PyData):Seen O (.d (.list xs)) xs
 | box (n:Nat) (xs:List PyData) (h:O[n]?=some (.lst xs)):Seen O (.box n) xs
theorem Seen.look{xs:List PyData}(h:Seen O v xs):look O v=some (.list xs):=by
 cases h with
 | d xs=>rfl
 | box n xs h=>show kq O n=_;unfold kq;rw[h]
theorem Seen.src{xs:List PyData}(h:Seen O v xs):∃ src:Src,srcV v O=.ok src O∧src.xs=xs∧src.still O=true:=by
 cases h with
 | d xs=>exact fi _ rfl rfl rfl
 | box n xs h=>exact fi _ (zm8 h) rfl (by unfold Src.still;exact @aD _ (Classical.propDecidable _) h)
theorem Seen.more{xs:List PyData}{bx:Box}(h:Seen O v xs):Seen (O++[bx]) v xs:=by
 cases h with
 | d xs=>exact .d xs
 | box n xs h=>exact .box n xs (by rw[aJ (qw h)];exact h)
theorem zd3{xs:List PyData}(h:Seen O v xs):prim P (.isinst .list) [v] O=.ok (.d (.bool true)) O:=vp h.look rfl
theorem zd1{xs:List PyData}(h:Seen O v xs)(hl:xs.length≤line):prim P .len [v] O=.ok (.d (.int xs.length)) O:=vp h.look (af hl)
theorem zbz{src:Src}{turn:PyData→za→R za (Option PyData)}{f:PyData→Option PyData}(hs:src.still O=true):∀ (xs acc:List PyData),(∀ x∈xs,turn x O=.ok (f x) O)→yg src turn xs acc O=.ok (.d (.list (acc++xs.filterMap f))) O
 | [],acc,_=>by rw[yg,List.filterMap_nil,be]
 | x::xs,acc,h=>by
   rw[yg,h x ao]
   show (if src.still O=true then _ else _)=_
   rw[af hs,zbz hs xs _ fun y hy=>h y (ag _ hy),cb]
   cases hx:f x with
   | none=>rw[cP hx];rfl
   | some y=>rw[cQ hx];rfl
theorem v6{elt:CE}{tgt:CT}{it:CI}{ifs:CEs}{src:Src}(hd:P.hd=false)(hit:evI P ρ it O=.ok src O)(hs:src.still O=true)(hl:src.xs.length≤line)(f:PyData→Option PyData)
 (h:∀ x∈src.xs,xu tgt (fun ρ O=>jf P ρ ifs O) (fun ρ O=>evE P ρ elt O) ρ x O=.ok (f x) O):evE P ρ (.comp elt tgt it ifs) O=.ok (.d (.list (src.xs.filterMap f))) O:=by
 show (if P.hd=true then .stuck else _:R za V)=_
 rw[aj (by rw[hd];decide),hit]
 show (if src.xs.length≤line then _ else _)=_
 rw[af hl]
 exact zbz hs src.xs [] h
theorem j8{elt:CE}{tgt:CT}{it:CI}{src:Src}(hd:P.hd=false)(hit:evI P ρ it O=.ok src O)(hs:src.still O=true)(hl:src.xs.length≤line)(f:PyData→PyData)
 (h:∀ x∈src.xs,∃ ρ',zq tgt (.d x) ρ=some ρ'∧evE P ρ' elt O=.ok (.d (f x)) O):evE P ρ (.comp elt tgt it .nil) O=.ok (.d (.list (src.xs.map f))) O:=by
 rw[← List.filterMap_eq_map]
 refine v6 hd hit hs hl _ fun x hx=>?_
 refine eY (h x hx) ?_;intro ρ' h1 h2
 unfold xu
 rw[h1]
 show R.bind (evE P ρ' elt O) _=_
 rw[h2];rfl
theorem uy{elt:CE}{tgt:CT}{it:CI}{src:Src}{xs:List PyData}(g:PyData→Bool)(hd:P.hd=false)(hit:evI P ρ it O=.ok src O)(hx:src.xs=xs)(hs:src.still O=true)(hl:xs.length≤line)
 (h:∀ x∈xs,∃ ρ',zq tgt (.d x) ρ=some ρ'∧evE P ρ' elt O=.ok (.d (.bool (g x))) O):evE P ρ (.prim .all (.cons (.comp elt tgt it .nil) .nil)) O=.ok (.d (.bool (xs.all g))) O:=by
 subst hx
 refine yc (by rw[hd];rfl) (j8 hd hit hs hl (fun x=>.bool (g x)) h) ?_
 exact zti
end
end Mine
end
section
namespace Mine.L11
open PySem Mine
section
variable{P:Pg}{ρ:Loc}{O:za}{a b c:CE}
theorem zpv:evE P ρ (.min2 a b) O=if P.hd=true then .stuck else (evE P ρ a O).bind fun v O=>(evE P ρ b O).bind fun u O=>minV v u O:=rfl
theorem zpx:evE P ρ (.lenS a) O=if P.hd=true then .stuck else (evE P ρ a O).bind fun v O=>opt (((look O v).bind de).map .d) O:=rfl
end
noncomputable abbrev PG(k:Nat)(hd:Bool):Pg:={ P with call:=zg P table k,hd:=hd }
theorem ji{k:Nat}{hd:Bool}{f:Nat}{fn:Fn}{args:List V}{O:za}(h:table f=some fn)(hl:args.length=fn.arity∧fn.arity≤fn.slots):zg P table (k+1) hd f args O=evFn (PG k hd) fn args O:=by
 rw[zg,h];exact af hl
section
variable{k:Nat}{hd:Bool}{f:Nat}{fn:Fn}{args:List V}{O:za}{ρ ρ':Loc}{x:PyData}(h:table f=some fn)(hl:args.length=fn.arity∧fn.arity≤fn.slots)(hρ:args.map some++List.replicate (fn.slots - fn.arity) none=ρ)
include h hl hρ
theorem zal{O':za}(hb:evSs (PG k hd) fn.body ρ O=.ok (.ret (.d x)) (ρ',O++O')):zg P table (k+1) hd f args O=.ok (.d x) O:=by
 rw[ji h hl,evFn,hρ,hb]
 show R.ok (V.d x) ((O++O').take O.length)=_
 rw[List.take_left']
 rfl
theorem zv(hb:evSs (PG k hd) fn.body ρ O=.ok (.ret (.d x)) (ρ',O)):zg P table (k+1) hd f args O=.ok (.d x) O:=
 zal (O':=[]) h hl hρ (by rw[be];exact hb)
theorem zja(hb:evSs (PG k hd) fn.body ρ O=.ok .next (ρ',O)):zg P table (k+1) hd f args O=.ok (.d .none) O:=by
 rw[ji h hl,evFn,hρ,hb]
 show R.ok (V.d .none) (O.take O.length)=_
 rw[bp]
end
noncomputable def good(m:Nat)(c:List Int):Prop:=c.length=m∧∀ i∈c,-1≤i∧i≤1
noncomputable def m4(m:Nat):Prop:=2≤m∧m≤5
theorem wl{m:Nat}(h:m4 m):m=2∨m=3∨m=4∨m=5:=by have:=h.1;have:=h.2;lia
structure Found(m:Nat)(cs:List (List Int)):Prop where
 good:∀ c∈cs,good m c
 nodup:cs.Nodup
 pos:1≤cs.length
 le:cs.length≤12
noncomputable def caseD(c:List Int):PyData:=.tuple (c.map .int)
noncomputable def zb(cs:List (List Int)):List PyData:=cs.map caseD
theorem zl{cs:List (List Int)}:(zb cs).length=cs.length:=aw _
theorem d9:∀ (kss K:List (List Int)),(K++kss).Nodup→kss.foldl addK K=K++kss
 | [],K,_=>(be K).symm
 | k::kss,K,h=>by
   have hk:k∉K:=fun hm=>(bM.mp h).2.2 k hm k ao rfl
   rw[dW]
   have:addK K k=K++[k]:=by unfold addK;rw[aj hk]
   rw[this,d9 kss (K++[k]) (by rw[cb];exact h),cb];rfl
theorem vj:∀ cs:List (List Int),ja (zb cs)=some cs
 | []=>rfl
 | c::cs=>by
   show ((intsOf (c.map .int)).bind fun a=>(ja (zb cs)).map (a::·))=_
   rw[q0,vj cs];rfl
theorem zf3{cs:List (List Int)}(h:cs.length≤17)(hn:cs.Nodup):de (.list (zb cs))=some (.int cs.length):=by
 show ((ja (zb cs)).bind fun kss=>if kss.length≤17 then some (PyData.int (ym kss kss.length).length) else none)=_
 rw[vj]
 show (if cs.length≤17 then _ else _)=_
 rw[af h,show ym cs cs.length=cs by unfold ym;rw[bp];exact d9 cs [] hn]
noncomputable def allC:Nat→List (List Int)
 | 0=>[[]]
 | n+1=>(allC n).flatMap fun c=>[-1::c,0::c,1::c]
theorem zdx:∀ {m:Nat} {c:List Int},good m c→c∈allC m
 | 0,c,h=>by
   have:=List.length_eq_zero_iff.mp h.1
   subst this;exact ac.mpr rfl
 | m+1,c,h=>by
   cases c with
   | nil=>cases h.1
   | cons i c=>
     refine bA.mpr ⟨c,zdx ⟨dD h.1,fun j hj=>h.2 j (ag _ hj)⟩,?_⟩
     have hi:=h.2 i ao
     have:i = -1∨i=0∨i=1:=by lia
     rcases this with rfl | rfl | rfl <;> simp
theorem zcq{α β:Type}{f g:α→β}{l:List α}(h:l.map f=l.map g){x:α}(hx:x∈l):f x=g x:=List.map_inj_left.mp h x hx
noncomputable def Tk:Nat→za→za
 | 0,O=>O
 | n+1,O=>Tk n (O.take O.length)
theorem zmq:∀ (n:Nat) (O:za),Tk n O=O
 | 0,_=>rfl
 | n+1,O=>by rw[Tk,bp];exact zmq n O
noncomputable abbrev zer(m k:Nat)(O:za):Prop:=(allC m).map (fun c=>zg P table (k+2) false 2 [.d (.int m),.d (caseD c)] O)=(allC m).map fun uA=>.ok (.d (.bool true)) ((Tk m O).take O.length)
theorem zux{k:Nat}{O:za}:zer 2 k O:=by kernel_rfl
theorem zuw{k:Nat}{O:za}:zer 3 k O:=by kernel_rfl
theorem zuv{k:Nat}{O:za}:zer 4 k O:=by kernel_rfl
theorem zuu{k:Nat}{O:za}:zer 5 k O:=by kernel_rfl
theorem zly{k m:Nat}{c:List Int}{O:za}(hm:m4 m)(h:good m c):zg P table (k+2) false 2 [.d (.int m),.d (caseD c)] O=.ok (.d (.bool true)) O:=by
 have hc:=zdx h
 have hq:zer m k O:=by
  rcases wl hm with rfl | rfl | rfl | rfl
  ·exact zux
  ·exact zuw
  ·exact zuv
  ·exact zuu
 refine (zcq hq hc).trans ?_
 rw[zmq,bp]
theorem zom{k m:Nat}{O:za}(hm:m4 m):zg P table (k+2) false 1 [.d (.int m)] O=.ok (.d .none) O:=by
 have:zg P table (k+2) false 1 [.d (.int m)] O=.ok (.d .none) ((O.take O.length).take O.length):=by rcases wl hm with rfl | rfl | rfl | rfl <;> kernel_rfl
 rw[this,bp,bp]
theorem zr4{k m:Nat}{cs:List (List Int)}{v:V}{O:za}(hm:m4 m)(f:Found m cs)(h:Seen O v (zb cs)):zg P table (k+3) false 3 [.d (.int m),v] O=.ok (.d .none) O:=by
 have f1:=f.pos
 have f2:=f.le
 have hl:(zb cs).length≤line:=by rw[zl];exact ak f.le (by decide)
 obtain⟨src,s1,s2,s3⟩:=h.src
 have pl:prim (PG (k+2) false) .len [v] O=.ok (.d (.int cs.length)) O:=by rw[zd1 h hl,zl]
 have le:evE (PG (k+2) false) [some (.d (.int m)),some v,none] (.prim .len (.cons (.loc 1) .nil)) O=.ok (.d (.int cs.length)) O:=yc rfl rfl pl
 have d1:decide ((1:Int)≤(cs.length:Int))=true:=aD (by lia)
 have d2:decide ((cs.length:Int)≤12)=true:=aD (by lia)
 have d3:decide ((cs.length:Int) < (cs.length:Int))=false:=aN (by lia)
 have t1:evE (PG (k+2) false) [some (.d (.int m)),some v,none] (.chain .le .le (.int 1) (.prim .len (.cons (.loc 1) .nil)) (.glob 2)) O=.ok (.d (.bool true)) O:=by
  rw[zgv,jw,zj,le,zj,v_le,d1]
  show cmpV .le (.d (.int cs.length)) (.d (.int 12)) O=_
  rw[v_le,d2]
 have t2:evE (PG (k+2) false) [some (.d (.int m)),some v,none] (.prim .all (.cons (.comp (.call 2 (.cons (.loc 0) (.cons (.loc 2) .nil))) (.name 2) (.e (.loc 1)) .nil) .nil)) O=.ok (.d (.bool true)) O:=by
  have:=uy (P:=PG (k+2) false) (ρ:=[some (.d (.int m)),some v,none]) (elt:=.call 2 (.cons (.loc 0) (.cons (.loc 2) .nil))) (tgt:=.name 2) (it:=.e (.loc 1)) (O:=O) (fun uA=>true) rfl s1 s2 s3 hl fun x hx=>⟨[some (.d (.int m)),some v,some (.d x)],rfl,by
   refine eY (av.mp hx) ?_;intro c hc eo;subst eo
   exact zm rfl (zly hm (f.good c hc))⟩
  rw[this]
  congr 4
  exact aI.mpr fun uA uA=>rfl
 have t3:evE (PG (k+2) false) [some (.d (.int m)),some v,none] (.lenS (.loc 1)) O=.ok (.d (.int cs.length)) O:=by
  rw[zpx,aj am]
  show opt (((look O v).bind de).map V.d) O=_
  rw[h.look]
  show opt ((de (.list (zb cs))).map V.d) O=_
  rw[zf3 (by lia) f.nodup];rfl
 refine zja (fn:=c3) (ρ':=[some (.d (.int m)),some v,none]) rfl ⟨rfl,by decide⟩ rfl ?_
 refine (zc (jt (zm rfl (zom hm)))).trans ?_
 refine (zc (y4 (h8 (w_nt (yc rfl rfl (zd3 h))) (w_nt t1)))).trans ?_
 refine (zc (y4 (w_nt t2))).trans ?_
 refine (zc (y4 (z9 t3 le ?_))).trans rfl
 rw[v_lt,d3]
theorem zd6{is:List Int}{j:Nat}(hl:is.length≤line)(hj:j < is.length):idxD (.list (is.map .int)) (.int j)=some (.int (is.getD j 0)):=by
 have e:(is.map PyData.int)[j]?=some (.int (is.getD j 0)):=by
  rw[aR,a5,aq hj];rfl
 unfold idxD items
 dsimp only
 rw[aw,af hl,af (by lia)]
 exact e
theorem zd9{a:Int}{n:Nat}(hn:0 < n):∃ j:Nat,j < n∧Int.fmod a (n:Int)=(j:Int):=by
 have h1:Int.fmod a (n:Int)=a % (n:Int):=Int.fmod_eq_emod_of_nonneg _ (by lia)
 have h2:=Int.emod_nonneg a (show (n:Int)≠0 by lia)
 have h3:=Int.emod_lt_of_pos a (show (0:Int) < n by lia)
 exact eZ (a % (n:Int)).toNat (by lia) (by rw[h1];lia)
theorem wq{xs:List PyData}{j n:Nat}(hx:xs.length=n)(hl:n≤line)(hj:j < n):∃ y∈xs,idxD (.list xs) (.int j)=some y:=by
 have hj':j < xs.length:=by lia
 refine eZ (xs[j]) (dH hj') ?_
 unfold idxD items
 dsimp only
 rw[hx,af hl,af (by lia)]
 exact aq hj'
theorem zfz{a:Int}{n:Nat}{O:za}(hn:0 < n):∃ j:Nat,j < n∧Int.fmod a (n:Int)=(j:Int)∧binK .mod (.d (.int a)) (.d (.int (n:Int))) O=.ok (.d (.int (j:Int))) O:=by
 refine eY (zd9 (a:=a) hn) ?_;intro j hj e
 exact fi j hj e (by rw[zky (by lia),e])
theorem zr8{k:Nat}{s:List Int}{j:Nat}{O:za}(hs:s.length≤63):zg P table (k+1) false 21 [.d (.list (s.map .int)),.d (.int j)] O=.ok (.d (.int (s.getD j 0))) O:=by
 refine zv (fn:=c21) (ρ:=[some (.d (.list (s.map .int))),some (.d (.int j))]) (ρ':=[some (.d (.list (s.map .int))),some (.d (.int j))]) rfl ⟨rfl,by decide⟩ rfl ?_
 have hlen:(s.map PyData.int).length≤line:=by rw[aw];exact ak hs (by decide)
 by_cases h:j < s.length
 ·have hd:decide ((j:Int) < ((s.map PyData.int).length:Int))=true:=aD (by rw[aw];lia)
  simp only[c21,jw,x8,zc9,za7,ze5,kw,x9,zgt,za6,u7,jj,zj,ke,je,gf,zli,zfl,v_lt,jx,cu,bT,bt,bu,a0,cm,aO,bo,zme,g6 hlen,hd,zd6 (ak hs (by decide)) h]
 ·have hd:decide ((j:Int) < ((s.map PyData.int).length:Int))=false:=aN (by rw[aw];lia)
  have e:s.getD j 0=0:=by rw[a5,bc (by lia)];rfl
  simp only[c21,jw,x8,zc9,za7,ze5,kw,x9,zgt,za6,u7,jj,zj,ke,je,gf,zhk,zfl,zfm,v_lt,bT,bt,bu,a0,cm,aO,bo,zme,g6 hlen,hd,e]
noncomputable def mixI(s:List Int)(j:Nat):Int:=Int.fdiv (Int.fmod ((s.getD j 0+7919 * (j:Int)+13) * 48271) 2147483647) 3
theorem kl{k:Nat}{s:List Int}{j:Nat}{O:za}(hs:s.length≤63):zg P table (k+2) false 22 [.d (.list (s.map .int)),.d (.int j)] O=.ok (.d (.int (mixI s j))) O:=by
 refine zv (fn:=c22) (ρ:=[some (.d (.list (s.map .int))),some (.d (.int j))]) (ρ':=[some (.d (.list (s.map .int))),some (.d (.int j))]) rfl ⟨rfl,by decide⟩ rfl ?_
 have e1:∀ n:Int,binK .mul (.d (.int 7919)) (.d (.int n)) O=.ok (.d (.int (7919 * n))) O:=fun n=>zkx (.inl (by decide))
 have e2:∀ n:Int,binK .mul (.d (.int n)) (.d (.int 48271)) O=.ok (.d (.int (n * 48271))) O:=fun n=>zkx (.inr (by decide))
 have e3:∀ n:Int,binK .mod (.d (.int n)) (.d (.int 2147483647)) O=.ok (.d (.int (Int.fmod n 2147483647))) O:=fun n=>zky (by decide)
 have e4:∀ n:Int,binK .fdiv (.d (.int n)) (.d (.int 3)) O=.ok (.d (.int (Int.fdiv n 3))) O:=fun n=>zcs ⟨by decide,by decide⟩
 simp only[c22,jw,x8,u8,x_call,kw,x9,zgt,u7,jj,zj,ke,je,zfl,wn,bT,bt,bu,zr8 hs,e1,e2,e3,e4,mixI]
noncomputable def wi(m j:Nat):List (List Int):=match zg P table 1 false 25 [.d (.int m),.d (.int j)] [] with
 | .ok (.d (.list xs)) _=>(ja xs).getD []
 | _=>[]
noncomputable def mjs:List (Nat×Nat):=[2,3,4,5].flatMap fun m=>[0,1,2,3,4].map fun j=>(m,j)
theorem zg8{m j:Nat}(hm:m4 m)(hj:j < 5):(m,j)∈mjs:=by
 have h2:j=0∨j=1∨j=2∨j=3∨j=4:=by lia
 exact bA.mpr ⟨m,by rcases wl hm with rfl | rfl | rfl | rfl <;> simp,av.mpr ⟨j,by rcases h2 with rfl | rfl | rfl | rfl | rfl <;> simp,rfl⟩⟩
noncomputable def zk9(m:Nat)(c:List Int):Bool:=c.length == m && c.all fun i=>decide (-1≤i) && decide (i≤1)
theorem zgg{m:Nat}{c:List Int}(h:zk9 m c=true):good m c:=by
 unfold zk9 at h
 rw[aG,aQ] at h
 refine⟨h.1,fun i hi=>?_⟩
 have:=aI.mp h.2 i hi
 rw[aG,aK,aK] at this
 exact this
theorem zj8:(mjs.all fun p=>(wi p.1 p.2).all (zk9 p.1) && decide (1≤(wi p.1 p.2).length) && decide ((wi p.1 p.2).length≤30))=true:=by kernel_rfl
theorem zie{m j:Nat}(hm:m4 m)(hj:j < 5):(∀ c∈wi m j,good m c)∧1≤(wi m j).length∧(wi m j).length≤30:=by
 have h:=aI.mp zj8 _ (zg8 hm hj)
 rw[aG,aG,aK,aK] at h
 exact⟨fun c hc=>zgg (aI.mp h.1.1 c hc),h.1.2,h.2⟩
theorem znj{k:Nat}{xs:List PyData}:mjs.map (fun p=>zg P table (k+1) false 25 [.d (.int p.1),.d (.int p.2)] [Box.lst xs])=mjs.map fun p=>.ok (.d (.list (zb (wi p.1 p.2)))) [Box.lst xs]:=by kernel_rfl
theorem zr0{k m j:Nat}{xs:List PyData}(hm:m4 m)(hj:j < 5):zg P table (k+1) false 25 [.d (.int m),.d (.int j)] [Box.lst xs]=.ok (.d (.list (zb (wi m j)))) [Box.lst xs]:=zcq znj (zg8 hm hj)
theorem wu{ys:List PyData}{turn:PyData→Loc→za→R (Loc×za) Fl}(I:Nat→Loc→za→Prop):∀ (xs:List PyData) (i:Nat) (ρ:Loc) (O:za),(∀ j x,xs[j]?=some x→∀ ρ O,I (i+j) ρ O→∃ ρ' O',turn x ρ O=.ok .next (ρ',O')∧I (i+j+1) ρ' O')→I i ρ O →
 ∃ ρ' O',z7 (.plain ys) turn xs ρ O=.ok .next (ρ',O')∧I (i+xs.length) ρ' O'
 | [],i,ρ,O,_,hi=>⟨ρ,O,rfl,hi⟩
 | x::xs,i,ρ,O,h,hi=>by
   refine fy (h 0 x rfl ρ O hi) ?_;intro ρ' O' e hi'
   obtain⟨ρ₂,O₂,e₂,hi₂⟩:=wu I xs (i+1) ρ' O' (fun j y hy ρ O hI=>by
    have:=h (j+1) y hy ρ O (by rw[show i+(j+1)=i+1+j by lia];exact hI)
    rwa [show i+(j+1)+1=i+1+j+1 by lia] at this) hi'
   refine fD ρ₂ O₂ ?_ (by rw[aU,show i+(xs.length+1)=i+1+xs.length by lia];exact hi₂)
   rw[z7,e]
   show (if (Src.plain ys).still _=true then _ else _)=_
   rw[af (show (Src.plain ys).still _=true from rfl)];exact e₂
theorem gy{a n:Int}{j:Nat}{x:PyData}(h:(zi a n)[j]?=some x):x=.int (a+j):=by
 unfold zi at h
 rw[aR] at h
 refine eY (aE.mp h) ?_;intro i hi eo;subst eo
 have:=aA.mp hi
 obtain⟨h1,h2⟩:=this
 rw[List.getElem_range] at h2
 rw[h2]
theorem xn{a n:Int}:(zi a n).length=(n - a).toNat:=by unfold zi;rw[aw,List.length_range]
noncomputable def toI:PyData→Int
 | .int n=>n
 | _=>0
noncomputable def pow3:List Int:=[1,3,9,27,81]
noncomputable def uu(n:Int)(m:Nat):List Int:=(List.range m).map fun i=>Int.fmod (Int.fdiv n (pow3.getD i 0)) 3 - 1
theorem zaj{n:Int}{m:Nat}:good m (uu n m):=by
 refine⟨by unfold uu;rw[aw,List.length_range],fun i hi=>?_⟩
 unfold uu at hi
 refine eY (av.mp hi) ?_;intro j _ eo;subst eo
 refine eY (zd9 (a:=Int.fdiv n (pow3.getD j 0)) (n:=3) (by decide)) ?_;intro t ht e
 have e:Int.fmod (Int.fdiv n (pow3.getD j 0)) 3=(t:Int):=e
 rw[e]
 lia
theorem zi8{k:Nat}{ρ:Loc}{O:za}{n:Int}{m:Nat}{a b c:Nat}(hm:m4 m)(hc:c < ρ.length)(hac:a≠c)(ha:ρ[a]?=some (some (.d (.int n))))(hb:ρ[b]?=some (some (.d (.int m)))) :
 evE (PG k false) ρ (.comp (.bin .sub (.bin .mod (.bin .fdiv (.loc a) (.idx (.list (.cons (.int 1) (.cons (.int 3) (.cons (.int 9) (.cons (.int 27) (.cons (.int 81) .nil)))))) (.loc c))) (.int 3)) (.int 1)) (.name c) (.range (.int 0) (.loc b)) .nil) O=.ok (.d (.list ((uu n m).map .int))) O:=by
 have key:(uu n m).map PyData.int=(zi 0 m).map fun x=>.int (Int.fmod (Int.fdiv n (pow3.getD (toI x).toNat 0)) 3 - 1):=by
  unfold uu zi
  rw[bf,bf]
  have:((m:Int) - 0).toNat=m:=by lia
  rw[this]
  refine bO fun i hi=>?_
  show PyData.int _=PyData.int (Int.fmod (Int.fdiv n (pow3.getD (toI (.int ((0:Int)+i))).toNat 0)) 3 - 1)
  have:(toI (.int ((0:Int)+i))).toNat=i:=by show ((0:Int)+i).toNat=i;lia
  rw[this]
 rw[key]
 have hm5:=hm.2
 have hb':opt (ρ[b]?.join) O=.ok (.d (.int m)) O:=by rw[hb];rfl
 refine zp0 rfl (O':=O) (xs:=zi 0 m) (by
  simp only[ux,jw,x8,hb',zj]
  exact kc (by lia)) (by rw[xn];exact ak (show ((m:Int) - 0).toNat≤5 by assumption) (by decide)) _ fun x hx=>⟨ρ.set c (some (.d x)),af hc,zsv,?_⟩
 refine eY (av.mp hx) ?_;intro i' hi' eo;subst eo
 rw[aZ] at hi'
 have e0:((0:Int)+(i':Int))=(i':Int):=by lia
 have hi5:i' < 5:=by exact Nat.lt_of_lt_of_le (by assumption) (by assumption)
 have ip:idxD (.list [.int 1,.int 3,.int 9,.int 27,.int 81]) (.int (i':Int))=some (.int (pow3.getD i' 0)):=zd6 (is:=pow3) (by decide) hi5
 have hp3:pow3.getD i' 0≠0∧(pow3.getD i' 0).natAbs < 1073741824:=by
  have:i'=0∨i'=1∨i'=2∨i'=3∨i'=4:=by lia
  rcases this with rfl | rfl | rfl | rfl | rfl <;> decide
 have fp:binK .fdiv (.d (.int n)) (.d (.int (pow3.getD i' 0))) O=.ok (.d (.int (Int.fdiv n (pow3.getD i' 0)))) O:=zcs hp3
 have m3:∀ z:Int,binK .mod (.d (.int z)) (.d (.int 3)) O=.ok (.d (.int (Int.fmod z 3))) O:=fun z=>zky (by decide)
 have et:(toI (.int (i':Int))).toNat=i':=by show (i':Int).toNat=i';lia
 rw[e0]
 have h1:opt ((ρ.set c (some (.d (.int (i':Int)))))[a]?.join) O=.ok (.d (.int n)) O:=by rw[bY (Ne.symm hac),ha];rfl
 have h2:opt ((ρ.set c (some (.d (.int (i':Int)))))[c]?.join) O=.ok (.d (.int (i':Int))) O:=by rw[co hc];rfl
 simp only[u8,za7,w0,x9,kw,jw,x8,h1,h2,zj,je,zc6,zc5,cu,jx,ip,fp,m3,vd,et]
theorem app0{xs:List PyData}{x:PyData}(h:xs.length < line):meth .append (.box 0) [.d x] [Box.lst xs]=.ok (.d .none) [Box.lst (xs++[x])]:=by
 show (if xs.length < line then _ else _)=_
 rw[af h];rfl
theorem app1{b:Box}{xs:List PyData}{x:PyData}(h:xs.length < line):meth .append (.box 1) [.d x] [b,Box.lst xs]=.ok (.d .none) [b,Box.lst (xs++[x])]:=by
 show (if xs.length < line then _ else _)=_
 rw[af h];rfl
theorem ut{cs:List (List Int)}{c:List Int}:zb cs++[.tuple (c.map .int)]=zb (cs++[c]):=by unfold zb;rw[cW];rfl
theorem dv{c b:Int}{O:za}(h:b≠0∧b.natAbs < 1073741824):binK .fdiv (.d (.int c)) (.d (.int b)) O=.ok (.d (.int (Int.fdiv c b))) O:=zcs h
theorem md(a:Int)(n:Nat)(O:za)(hn:0 < n):∃ j:Nat,j < n∧binK .mod (.d (.int a)) (.d (.int (n:Int))) O=.ok (.d (.int (j:Int))) O:=let ⟨j,hj,_,e⟩:=zfz (a:=a) (O:=O) hn;⟨j,hj,e⟩
noncomputable def xw:CSs:=(.cons (.asg (.name 8) (.call 22 (.cons (.loc 0) (.cons (.bin .add (.bin .add (.loc 1) (.int 1)) (.loc 7)) .nil)))) (.cons (.expr (.meth .append (.loc 6) (.cons (.prim .tuple (.cons (.comp (.bin .sub (.bin .mod (.bin .fdiv (.loc 8) (.idx (.list (.cons (.int 1) (.cons (.int 3) (.cons (.int 9) (.cons (.int 27) (.cons (.int 81) .nil)))))) (.loc 11))) (.int 3)) (.int 1)) (.name 11) (.range (.int 0) (.loc 4)) .nil) .nil)) .nil))) .nil))
noncomputable def L1(s:List Int)(n0:Int)(m w:Nat)(pv:V)(a b:Option V):Loc:=[some (.d (.list (s.map .int))),some (.d (.int 6)),some (.d (.int 4)),some (.d (.int n0)),some (.d (.int m)),some (.d (.int w)),some pv,a,b,none,none,none]
inductive AtD(s:List Int)(n0:Int)(m w:Nat)(i:Nat):Loc→za→Prop
 | mk (a b:Option V) (cs:List (List Int)) (g:∀ c∈cs,good m c) (len:cs.length=i):AtD s n0 m w i (L1 s n0 m w (.box 0) a b) [Box.lst (zb cs)]
theorem zqd{k:Nat}{s:List Int}{n0:Int}{m w i:Nat}{ρ:Loc}{O:za}(hs:s.length≤63)(hm:m4 m)(hi:i < 100)(h:AtD s n0 m w i ρ O) :
 ∃ ρ' O',yq (PG (k+2) false) (.name 7) xw (.int (0+(i:Int))) ρ O=.ok .next (ρ',O')∧AtD s n0 m w (i+1) ρ' O':=by
 obtain⟨a,b,cs,g,len⟩:=h
 have n1:=kl (k:=k) (j:=7+i) (O:=[Box.lst (zb cs)]) hs
 rw[show ((7+i:Nat):Int)=(6:Int)+1+(0+(i:Int)) by lia] at n1
 generalize mixI s (7+i)=n at n1
 have hl':(zb cs).length < line:=by rw[zl,len];exact bV hi (by decide)
 have cc:=zi8 (k:=k+2) (ρ:=L1 s n0 m w (.box 0) (some (.d (.int (0+(i:Int))))) (some (.d (.int n)))) (O:=[Box.lst (zb cs)]) (n:=n) (m:=m) (a:=8) (b:=4) (c:=11) hm (by show 11 < 12;decide) (by decide) rfl rfl
 have ap:=app0 (x:=.tuple ((uu n m).map .int)) hl'
 rw[ut] at ap
 refine fD (L1 s n0 m w (.box 0) (some (.d (.int (0+(i:Int))))) (some (.d (.int n)))) _ ?_ (.mk _ _ (cs++[uu n m]) (fun c hc=>(ai.mp hc).elim (g c) fun h=>ac.mp h ▸ zaj) (by rw[aX,len];rfl))
 show evSs (PG (k+2) false) xw (L1 s n0 m w (.box 0) (some (.d (.int (0+(i:Int))))) b) [Box.lst (zb cs)]=_
 unfold xw
 exact (zc (zt (ρ':=L1 s n0 m w (.box 0) (some (.d (.int (0+(i:Int))))) (some (.d (.int n)))) (zm rfl n1) rfl rfl)).trans ((zc (jt (vg rfl rfl (zr (yc rfl cc (zcp (by rw[aw,(zaj (n:=n) (m:=m)).1];exact ak hm.2 (by decide)))) rfl) ap))).trans rfl)
theorem zq9{k:Nat}{s:List Int}{n0:Int}{m w:Nat}(hs:s.length≤63)(hm:m4 m):∃ a b cs,z7 (.plain (zi 0 12)) (yq (PG (k+2) false) (.name 7) xw) (zi 0 12) (L1 s n0 m w (.box 0) none none) [Box.lst []]=.ok .next (L1 s n0 m w (.box 0) a b,[Box.lst (zb cs)])∧(∀ c∈cs,good m c)∧cs.length=12:=by
 obtain⟨ρ',O',e,h⟩:=wu (ys:=zi 0 12) (turn:=yq (PG (k+2) false) (.name 7) xw) (AtD s n0 m w) (zi 0 12) 0 (L1 s n0 m w (.box 0) none none) [Box.lst []]
  (fun j x hx ρ O h=>by
    have hj:j < 12:=by have:=(aA.mp hx).1;rw[xn] at this;exact this
    rw[gy hx]
    rw[bB] at h ⊢
    exact zqd hs hm (by lia) h) (.mk none none [] (fun uA h=>nomatch h) rfl)
 obtain⟨a,b,cs,g,len⟩:=h
 exact fA a b cs e g (by rw[len,xn];rfl)
theorem zlj{a c:List Int}:PyData.eqv (caseD a) (caseD c)=decide (a=c):=qg a c
theorem dj{c:List Int}:(caseD c).canLay0=true:=lays c
theorem zbm:∀ cs:List (List Int),PyData.canLayAll0 (zb cs)=true
 | []=>rfl
 | c::cs=>by
   show ((caseD c).canLay0 && PyData.canLayAll0 (zb cs))=true
   rw[dj,zbm cs];rfl
theorem zac(c:List Int):(caseD c).depth≤1:=cj (qi c)
theorem zez{c:List Int}:∀ cs:List (List Int),((zb cs).any fun y=>PyData.eqv y (caseD c))=decide (c∈cs)
 | []=>rfl
 | a::cs=>by
   show (PyData.eqv (caseD a) (caseD c) || (zb cs).any fun y=>PyData.eqv y (caseD c))=_
   rw[zez cs,zlj]
   by_cases h:a=c
   ·subst h;simp
   ·have h':¬ c=a:=fun e=>h e.symm
    simp[h,h']
theorem zk4{c:List Int}{cs:List (List Int)}:inD (caseD c) (zb cs)=some (decide (c∈cs)):=by
 unfold inD
 have h:=zac c
 rw[dj,zbm,zez,af]
 rw[aD (show (caseD c).depth≤100 by lia)];rfl
theorem zq1{b:Box}{c:List Int}{cs:List (List Int)}:cmpV .notin (.d (caseD c)) (.box 1) [b,Box.lst (zb cs)]=.ok (.d (.bool !decide (c∈cs))) [b,Box.lst (zb cs)]:=by
 show opt (((inD (caseD c) (zb cs)).map (!·)).map fun b=>V.d (.bool b)) _=_
 rw[zk4];rfl
theorem kf{k:Nat}{v:V}{xs:List PyData}{O:za}(h:look O v=some (.list xs))(hl:xs.length≤line):prim (PG k false) .len [v] O=.ok (.d (.int xs.length)) O:=vp h (af hl)
theorem zk7{v:V}{k x:PyData}{O:za}(h:look O v=some x):idxV v (.d k) O=opt ((idxD x k).map .d) O:=by
 show opt (((look O v).bind fun x=>idxD x k).map V.d) O=_
 rw[h];rfl
noncomputable def jd:CSs:=(.cons (.asg (.name 10) (.idx (.loc 6) (.bin .mod (.bin .add (.bin .fdiv (.loc 8) (.int 8)) (.bin .mul (.loc 7) (.bin .add (.int 1) (.bin .mod (.bin .fdiv (.loc 8) (.int 64)) (.int 2))))) (.prim .len (.cons (.loc 6) .nil))))) (.cons (.ife (.cmp .notin (.loc 10) (.loc 9)) (.cons (.expr (.meth .append (.loc 9) (.cons (.loc 10) .nil))) .nil) .nil) .nil))
noncomputable def L2(s:List Int)(n0 nn:Int)(m w:Nat)(pv:V)(a b:Option V):Loc:=[some (.d (.list (s.map .int))),some (.d (.int 6)),some (.d (.int 4)),some (.d (.int n0)),some (.d (.int m)),some (.d (.int w)),some pv,a,some (.d (.int nn)),some (.box 1),b,none]
noncomputable def zc7(pv:V)(b0:Box)(pcs:List (List Int)):Prop:=∀ b1,look [b0,b1] pv=some (.list (zb pcs))
inductive AtP(s:List Int)(n0 nn:Int)(m w:Nat)(pv:V)(b0:Box)(i:Nat):Loc→za→Prop
 | mk (a b:Option V) (cs:List (List Int)) (g:∀ c∈cs,good m c) (nd:cs.Nodup) (le:cs.length≤i) (pos:0 < i→1≤cs.length):AtP s n0 nn m w pv b0 i (L2 s n0 nn m w pv a b) [b0,Box.lst (zb cs)]
theorem zqb{k:Nat}{s:List Int}{n0 nn:Int}{m w i:Nat}{pv:V}{b0:Box}{ρ:Loc}{O:za}{pcs:List (List Int)}(hp:zc7 pv b0 pcs)(h1:1≤pcs.length)(h2:pcs.length≤100)(hg:∀ c∈pcs,good m c)(hi:i < 100)(h:AtP s n0 nn m w pv b0 i ρ O) :
 ∃ ρ' O',yq (PG (k+2) false) (.name 7) jd (.int (0+(i:Int))) ρ O=.ok .next (ρ',O')∧AtP s n0 nn m w pv b0 (i+1) ρ' O':=by
 obtain⟨a,b,cs,g,nd,le,pos⟩:=h
 have hlp:(zb pcs).length≤line:=by rw[zl];exact ak h2 (by decide)
 have pl:=kf (k:=k+2) (hp (Box.lst (zb cs))) hlp
 refine eY (md (Int.fdiv nn 64) 2 [b0,Box.lst (zb cs)] (by decide)) ?_;intro j2 _ e2
 refine eY (md (Int.fdiv nn 8+(0+(i:Int)) * (1+(j2:Int))) (zb pcs).length [b0,Box.lst (zb cs)] (by rw[zl];exact h1)) ?_;intro j hj ej
 refine eY (wq (xs:=zb pcs) rfl hlp hj) ?_;intro y hy ey
 refine eY (av.mp hy) ?_;intro c hc eo;subst eo
 have ix:=zk7 (k:=.int (j:Int)) (hp (Box.lst (zb cs)))
 rw[ey] at ix
 have ap:=app1 (b:=b0) (x:=caseD c) (xs:=zb cs) (by rw[zl];exact bU le (bV hi (by decide)))
 have apc:zb cs++[caseD c]=zb (cs++[c]):=ut
 rw[apc] at ap
 have e10:evS (PG (k+2) false) (.asg (.name 10) (.idx (.loc 6) (.bin .mod (.bin .add (.bin .fdiv (.loc 8) (.int 8)) (.bin .mul (.loc 7) (.bin .add (.int 1) (.bin .mod (.bin .fdiv (.loc 8) (.int 64)) (.int 2))))) (.prim .len (.cons (.loc 6) .nil))))) (L2 s n0 nn m w pv (some (.d (.int (0+(i:Int))))) b) [b0,Box.lst (zb cs)]=.ok .next (L2 s n0 nn m w pv (some (.d (.int (0+(i:Int))))) (some (.d (caseD c))),[b0,Box.lst (zb cs)]):=
  zt (xh rfl (z0 (z0 (z0 rfl rfl (dv (by decide))) (z0 rfl (z0 rfl (z0 (z0 rfl rfl (dv (by decide))) rfl e2) wn) (zkx (.inl (by lia)))) wn) (yc rfl rfl pl) ej) ix) rfl rfl
 have ht:evE (PG (k+2) false) (L2 s n0 nn m w pv (some (.d (.int (0+(i:Int))))) (some (.d (caseD c)))) (.cmp .notin (.loc 10) (.loc 9)) [b0,Box.lst (zb cs)]=.ok (.d (.bool !decide (c∈cs))) [b0,Box.lst (zb cs)]:=z9 rfl rfl zq1
 refine fD (L2 s n0 nn m w pv (some (.d (.int (0+(i:Int))))) (some (.d (caseD c)))) [b0,Box.lst (zb (if c∈cs then cs else cs++[c]))] ?_ ?_
 ·show evSs (PG (k+2) false) jd (L2 s n0 nn m w pv (some (.d (.int (0+(i:Int))))) b) [b0,Box.lst (zb cs)]=_
  unfold jd
  refine (zc e10).trans ?_
  by_cases hcm:c∈cs
  ·rw[aD hcm] at ht
   rw[af hcm]
   exact (zc (y4 ht)).trans rfl
  ·rw[aN hcm] at ht
   rw[aj hcm]
   have happ:evS (PG (k+2) false) (.expr (.meth .append (.loc 9) (.cons (.loc 10) .nil))) (L2 s n0 nn m w pv (some (.d (.int (0+(i:Int))))) (some (.d (caseD c)))) [b0,Box.lst (zb cs)]=.ok .next (L2 s n0 nn m w pv (some (.d (.int (0+(i:Int))))) (some (.d (caseD c))),[b0,Box.lst (zb (cs++[c]))]):=jt (vg rfl rfl (zr rfl rfl) ap)
   rw[jj,w_if ht]
   show R.bind (evSs (PG (k+2) false) (.cons (.expr (.meth .append (.loc 9) (.cons (.loc 10) .nil))) .nil) _ _) _=_
   rw[zc happ]
   rfl
 ·by_cases hcm:c∈cs
  ·rw[af hcm];exact .mk _ _ cs g nd (dA le) fun uA=>List.length_pos_of_mem hcm
  ·rw[aj hcm]
   refine .mk _ _ (cs++[c]) (fun d hd=>(ai.mp hd).elim (g d) fun h=>ac.mp h ▸ hg c hc) (bM.mpr ⟨nd,by simp,fun a ha b hb=>by rw[ac.mp hb];exact fun e=>hcm (e ▸ ha)⟩) ?_ fun uA=>?_
   ·rw[aX];exact cj le
   ·rw[aX];exact Nat.le_add_left _ _
theorem zq7{k:Nat}{s:List Int}{n0 nn:Int}{m w n:Nat}{pv:V}{b0:Box}{a:Option V}{pcs:List (List Int)}(hp:zc7 pv b0 pcs)(h1:1≤pcs.length)(h2:pcs.length≤100)(hg:∀ c∈pcs,good m c)(hn:1≤n∧n≤12) :
 ∃ ρ' O',z7 (.plain (zi 0 n)) (yq (PG (k+2) false) (.name 7) jd) (zi 0 n) (L2 s n0 nn m w pv a none) [b0,Box.lst []]=.ok .next (ρ',O')∧AtP s n0 nn m w pv b0 n ρ' O':=by
 obtain⟨ρ',O',e,h⟩:=wu (ys:=zi 0 n) (turn:=yq (PG (k+2) false) (.name 7) jd) (AtP s n0 nn m w pv b0) (zi 0 n) 0 (L2 s n0 nn m w pv a none) [b0,Box.lst []]
  (fun j x hx ρ O h=>by
    have hj:j < n:=by have:=(aA.mp hx).1;rw[xn] at this;assumption
    rw[gy hx]
    rw[bB] at h ⊢
    exact zqb hp h1 h2 hg (by lia) h) (.mk a none [] (fun uA h=>nomatch h) List.nodup_nil (aL _) fun h=>absurd h (cB 0))
 refine fD ρ' O' e ?_
 rwa [xn,show (0:Nat)+((n:Int) - 0).toNat=n by lia] at h
noncomputable def zdo:CSs:=(.cons (.for_ (.name 7) (.range (.int 0) (.idx (.list (.cons (.bin .add (.int 1) (.bin .mod (.loc 8) (.loc 5))) (.cons (.loc 5) .nil))) (.prim .int (.cons (.and_ (.cmp .eq (.loc 5) (.int 12)) (.cmp .gt (.loc 4) (.int 3))) .nil)))) jd) (.cons (.ret (.tup (.cons (.loc 4) (.cons (.loc 9) .nil)))) .nil))
theorem zph{k:Nat}{b:Bool}{O:za}:prim (PG k false) .int [.d (.bool b)] O=.ok (.d (.int (if b then 1 else 0))) O:=rfl
theorem ze8{P:Pg}{ρ:Loc}{O:za}{a b:CE}(h:∃ x,evE P ρ a O=.ok (.d (.bool x)) O)(h':∃ x,evE P ρ b O=.ok (.d (.bool x)) O):∃ x,evE P ρ (.and_ a b) O=.ok (.d (.bool x)) O:=by
 refine fe h ?_;clear h;intro x e
 cases x with
 | true=>exact let ⟨y,e'⟩:=h';⟨y,zcb e e'⟩
 | false=>exact fh false (ze9 e)
theorem zoh{k:Nat}{s:List Int}{n0 nn:Int}{m w:Nat}{pv:V}{b0:Box}{a:Option V}{pcs:List (List Int)}(hp:zc7 pv b0 pcs)(h1:1≤pcs.length)(h2:pcs.length≤100)(hg:∀ c∈pcs,good m c)(hw:1≤w∧w≤12) :
 ∃ ρ' cs,evSs (PG (k+2) false) zdo (L2 s n0 nn m w pv a none) [b0,Box.lst []]=.ok (.ret (.tm [.x (.int m),.b 1])) (ρ',[b0,Box.lst (zb cs)])∧Found m cs:=by
 refine eY (md nn w [b0,Box.lst []] (by lia)) ?_;intro j hj ej
 refine fe (ze8 (P:=PG (k+2) false) (ρ:=L2 s n0 nn m w pv a none) (O:=[b0,Box.lst []]) (a:=.cmp .eq (.loc 5) (.int 12)) (b:=.cmp .gt (.loc 4) (.int 3)) ⟨_,z9 rfl rfl eq_int⟩ ⟨_,z9 rfl rfl v_gt⟩) ?_;intro bb hb
 have hn:∃ n:Nat,(1≤n∧n≤12)∧evE (PG (k+2) false) (L2 s n0 nn m w pv a none) (.idx (.list (.cons (.bin .add (.int 1) (.bin .mod (.loc 8) (.loc 5))) (.cons (.loc 5) .nil))) (.prim .int (.cons (.and_ (.cmp .eq (.loc 5) (.int 12)) (.cmp .gt (.loc 4) (.int 3))) .nil))) [b0,Box.lst []]=.ok (.d (.int (n:Int))) [b0,Box.lst []]:=by
  have hl:evE (PG (k+2) false) (L2 s n0 nn m w pv a none) (.list (.cons (.bin .add (.int 1) (.bin .mod (.loc 8) (.loc 5))) (.cons (.loc 5) .nil))) [b0,Box.lst []]=.ok (.d (.list [.int ((1+j:Nat):Int),.int (w:Int)])) [b0,Box.lst []]:=by
   rw[w0,zr (z0 rfl (z0 rfl rfl ej) wn) rfl,show (1:Int)+(j:Int)=((1+j:Nat):Int) by lia];rfl
  cases bb with
  | true=>exact eZ w hw (xh hl (yc rfl hb zph) rfl)
  | false=>exact eZ (1+j) (by lia) (xh hl (yc rfl hb zph) rfl)
 refine eY hn ?_;clear hn;intro n hn en
 refine fy (zq7 (k:=k) (s:=s) (n0:=n0) (nn:=nn) (m:=m) (w:=w) (n:=n) (a:=a) hp h1 h2 hg hn) ?_;intro ρ' O' ef hat
 have hI:evI (PG (k+2) false) (L2 s n0 nn m w pv a none) (.range (.int 0) (.idx (.list (.cons (.bin .add (.int 1) (.bin .mod (.loc 8) (.loc 5))) (.cons (.loc 5) .nil))) (.prim .int (.cons (.and_ (.cmp .eq (.loc 5) (.int 12)) (.cmp .gt (.loc 4) (.int 3))) .nil)))) [b0,Box.lst []]=.ok (.plain (zi 0 n)) [b0,Box.lst []]:=by
  rw[ux,jw,zj,en,zj]
  exact kc (by lia)
 obtain⟨a',b',cs,g,nd,le,pos⟩:=hat
 refine⟨L2 s n0 nn m w pv a' b',cs,?_,g,nd,pos hn.1,ak le hn.2⟩
 generalize zi 0 (n:Int)=rs at ef hI
 unfold zdo
 refine (zc ?_).trans (ze (yf rfl))
 rw[v5,aj am,hI]
 exact ef
noncomputable def zdp:CSs:=(.cons (.asg (.name 9) (.boxed (.list .nil))) (.cons (.asg (.name 8) (.bin .fdiv (.loc 3) (.int 36))) (.cons (.ife (.and_ (.cmp .gt (.loc 4) (.int 3)) (.and_ (.cmp .eq (.bin .mod (.bin .fdiv (.loc 8) (.int 256)) (.int 4)) (.int 1)) (.cmp .gt (.bin .mod (.bin .fdiv (.loc 3) (.int 6)) (.int 6)) (.int 0)))) (.cons (.asg (.name 5) (.int 12)) .nil) .nil) zdo)))
theorem zho{k:Nat}{s:List Int}{n0:Int}{m w:Nat}{pv:V}{b0:Box}{a b:Option V}{pcs:List (List Int)}(hp:zc7 pv b0 pcs)(h1:1≤pcs.length)(h2:pcs.length≤100)(hg:∀ c∈pcs,good m c)(hw:1≤w∧w≤12) :
 ∃ ρ' cs,evSs (PG (k+2) false) zdp (L1 s n0 m w pv a b) [b0]=.ok (.ret (.tm [.x (.int m),.b 1])) (ρ',[b0,Box.lst (zb cs)])∧Found m cs:=by
 have st:=fun w hw=>zoh (k:=k) (s:=s) (n0:=n0) (nn:=Int.fdiv n0 36) (w:=w) (a:=a) hp h1 h2 hg hw
 refine eY (md (Int.fdiv (Int.fdiv n0 36) 256) 4 [b0,Box.lst []] (by decide)) ?_;intro j4 _ e4
 refine eY (md (Int.fdiv n0 6) 6 [b0,Box.lst []] (by decide)) ?_;intro j6 _ e6
 have t2:∃ x,evE (PG (k+2) false) (L2 s n0 (Int.fdiv n0 36) m w pv a none) (.cmp .eq (.bin .mod (.bin .fdiv (.loc 8) (.int 256)) (.int 4)) (.int 1)) [b0,Box.lst []]=.ok (.d (.bool x)) [b0,Box.lst []]:=⟨_,z9 (z0 (z0 rfl rfl (dv (by decide))) rfl e4) rfl eq_int⟩
 have t3:∃ x,evE (PG (k+2) false) (L2 s n0 (Int.fdiv n0 36) m w pv a none) (.cmp .gt (.bin .mod (.bin .fdiv (.loc 3) (.int 6)) (.int 6)) (.int 0)) [b0,Box.lst []]=.ok (.d (.bool x)) [b0,Box.lst []]:=⟨_,z9 (z0 (z0 rfl rfl (dv (by decide))) rfl e6) rfl v_gt⟩
 refine fe (ze8 (a:=.cmp .gt (.loc 4) (.int 3)) ⟨_,z9 rfl rfl v_gt⟩ (ze8 t2 t3)) ?_;intro bb ht
 have s12:evSs (PG (k+2) false) zdp (L1 s n0 m w pv a b) [b0]=(evS (PG (k+2) false) (.ife (.and_ (.cmp .gt (.loc 4) (.int 3)) (.and_ (.cmp .eq (.bin .mod (.bin .fdiv (.loc 8) (.int 256)) (.int 4)) (.int 1)) (.cmp .gt (.bin .mod (.bin .fdiv (.loc 3) (.int 6)) (.int 6)) (.int 0)))) (.cons (.asg (.name 5) (.int 12)) .nil) .nil) (L2 s n0 (Int.fdiv n0 36) m w pv a none) [b0,Box.lst []]).bind (seqK fun S=>evSs (PG (k+2) false) zdo S.1 S.2):=by
  unfold zdp
  exact (zc (zt (v:=.box 1) (O':=[b0,Box.lst []]) rfl rfl rfl)).trans (zc (zt (z0 rfl rfl (dv (by decide))) rfl rfl))
 rw[s12]
 cases bb with
 | false=>rw[y4 ht];exact st w hw
 | true=>
   have h12:evS (PG (k+2) false) (.asg (.name 5) (.int 12)) (L2 s n0 (Int.fdiv n0 36) m w pv a none) [b0,Box.lst []]=.ok .next (L2 s n0 (Int.fdiv n0 36) m 12 pv a none,[b0,Box.lst []]):=zt rfl rfl rfl
   rw[w_if ht]
   show ∃ ρ' cs,R.bind (evSs (PG (k+2) false) (.cons (.asg (.name 5) (.int 12)) .nil) _ _) _=_∧_
   rw[zc h12]
   exact st 12 ⟨by decide,by decide⟩
theorem zrt{m:Nat}{cs:List (List Int)}{b0:Box}:fin 0 false (.tm [.x (.int m),.b 1]) [b0,Box.lst (zb cs)]=.ok (.d (.tuple [.int m,.list (zb cs)])) []:=rfl
noncomputable def zdq:CSs:=(.cons (.ife (.cmp .gt (.bin .mod (.bin .fdiv (.loc 3) (.int 6)) (.int 6)) (.int 0)) (.cons (.asg (.name 6) (.call 25 (.cons (.loc 4) (.cons (.bin .sub (.bin .mod (.bin .fdiv (.loc 3) (.int 6)) (.int 6)) (.int 1)) .nil)))) .nil) .nil) zdp)
theorem zoi{k:Nat}{s:List Int}{n0:Int}{m w:Nat}{a b:Option V}{dcs:List (List Int)}(hm:m4 m)(hw:1≤w∧w≤12)(hdg:∀ c∈dcs,good m c)(hdl:dcs.length=12) :
 ∃ ρ' b0 cs,evSs (PG (k+2) false) zdq (L1 s n0 m w (.box 0) a b) [Box.lst (zb dcs)]=.ok (.ret (.tm [.x (.int m),.b 1])) (ρ',[b0,Box.lst (zb cs)])∧Found m cs:=by
 have d6:∀ O,binK .fdiv (.d (.int n0)) (.d (.int 6)) O=.ok (.d (.int (Int.fdiv n0 6))) O:=fun O=>zcs ⟨by decide,by decide⟩
 refine ft (zfz (a:=Int.fdiv n0 6) (n:=6) (O:=[Box.lst (zb dcs)]) (by decide)) ?_;intro j6 hj6 _ ej
 have ej:binK .mod (.d (.int (Int.fdiv n0 6))) (.d (.int 6)) [Box.lst (zb dcs)]=.ok (.d (.int (j6:Int))) [Box.lst (zb dcs)]:=ej
 cases hq:decide ((j6:Int) > 0) with
 | false=>
   refine fy (zho (k:=k) (s:=s) (n0:=n0) (m:=m) (w:=w) (pv:=.box 0) (b0:=Box.lst (zb dcs)) (a:=a) (b:=b) (pcs:=dcs) (fun uA=>rfl) (by lia) (by lia) hdg hw) ?_;intro ρ' cs e f
   unfold L1 at e
   exact eX ρ' (Box.lst (zb dcs)) cs (by unfold zdq L1;simp only[jw,x8,u8,zc9,x_call,kw,x9,v7,za6,u7,jj,zj,ke,je,gf,zhk,zfm,v_gt,bT,bt,bu,a0,cm,aO,bo,nm_1,d6,ej,hq,e]) f
 | true=>
   have hj1:1≤j6:=by have:=bh hq;lia
   refine fg (zie (m:=m) (j:=j6 - 1) hm (by lia)) ?_;intro pg pp pl
   have ep:=zr0 (k:=k+1) (m:=m) (j:=j6 - 1) (xs:=zb dcs) hm (by lia)
   generalize wi m (j6 - 1)=pcs at pg pp pl ep
   have ejj:((j6:Int) - 1)=((j6 - 1:Nat):Int):=by lia
   refine fy (zho (k:=k) (s:=s) (n0:=n0) (m:=m) (w:=w) (pv:=.d (.list (zb pcs))) (b0:=Box.lst (zb dcs)) (a:=a) (b:=b) (pcs:=pcs) (fun uA=>rfl) pp (by lia) pg hw) ?_;intro ρ' cs e f
   unfold L1 at e
   exact eX ρ' (Box.lst (zb dcs)) cs (by unfold zdq L1;simp only[jw,x8,u8,zc9,x_call,kw,x9,v7,za6,u7,jj,zj,ke,je,gf,zli,zfm,v_gt,vd,bT,bt,bu,a0,cm,aO,cJ,bo,nm_1,asgR,zan,cX,cY,aU,cA,Nat.reduceAdd,Nat.reduceLT,bB,d6,ej,hq,ejj,ep,e]) f
theorem zi2{k:Nat}{s:List Int}{n0:Int}{m w:Nat}(hs:s.length≤63)(hm:m4 m):∃ a b cs,evS (PG (k+2) false) (.for_ (.name 7) (.range (.int 0) (.int 12)) xw) (L1 s n0 m w (.box 0) none none) [Box.lst []]=.ok .next (L1 s n0 m w (.box 0) a b,[Box.lst (zb cs)])∧(∀ c∈cs,good m c)∧cs.length=12:=by
 refine fw (zq9 (k:=k) (s:=s) (n0:=n0) (m:=m) (w:=w) hs hm) ?_;intro a b cs ed hg hl
 refine fA a b cs ?_ hg hl
 have hI:evI (PG (k+2) false) (L1 s n0 m w (.box 0) none none) (.range (.int 0) (.int 12)) [Box.lst []]=.ok (.plain (zi 0 12)) [Box.lst []]:=by
  simp only[ux,jw,zj]
  exact kc (by decide)
 generalize zi 0 12=rs at ed hI
 rw[v5,aj am,hI]
 exact ed
theorem zso:c26.body=(.cons (.asg (.name 3) (.call 22 (.cons (.loc 0) (.cons (.loc 1) .nil)))) (.cons (.asg (.name 4) (.min2 (.loc 2) (.idx (.list (.cons (.int 2) (.cons (.int 3) (.cons (.int 3) (.cons (.int 4) (.cons (.int 4) (.cons (.int 5) .nil))))))) (.bin .mod (.loc 3) (.int 6))))) (.cons (.asg (.name 5) (.idx (.list (.cons (.int 9) (.cons (.int 12) (.cons (.int 8) (.cons (.int 5) .nil))))) (.bin .sub (.loc 4) (.int 2)))) (.cons (.asg (.name 6) (.boxed (.list .nil))) (.cons (.for_ (.name 7) (.range (.int 0) (.int 12)) xw) zdq))))):=by
 unfold c26 zdq zdp zdo xw jd
 rfl
theorem tb1{k:Nat}{s:List Int}{n0:Int}(n1:zg P table (k+2) false 22 [.d (.list (s.map .int)),.d (.int 6)] []=.ok (.d (.int n0)) []):evS (PG (k+2) false) (.asg (.name 3) (.call 22 (.cons (.loc 0) (.cons (.loc 1) .nil)))) [some (.d (.list (s.map .int))),some (.d (.int 6)),some (.d (.int 4)),none,none,none,none,none,none,none,none,none] []=.ok .next ([some (.d (.list (s.map .int))),some (.d (.int 6)),some (.d (.int 4)),some (.d (.int n0)),none,none,none,none,none,none,none,none],[]):=by
 simp only[x8,x_call,kw,x9,v7,zj,ke,je,bT,bt,bu,a0,cm,aO,cJ,bo,nm_1,asgR,zan,cX,cY,aU,cA,Nat.reduceAdd,Nat.reduceLT,bB,n1]
theorem tb2{k:Nat}{s:List Int}{n0:Int}{m x i6:Nat}(hx:minV (.d (.int 4)) (.d (.int (x:Int))) []=.ok (.d (.int (m:Int))) [])(e6:binK .mod (.d (.int n0)) (.d (.int 6)) []=.ok (.d (.int (i6:Int))) [])(em:idxD (.list [.int 2,.int 3,.int 3,.int 4,.int 4,.int 5]) (.int (i6:Int))=some (.int (x:Int))):evS (PG (k+2) false) (.asg (.name 4) (.min2 (.loc 2) (.idx (.list (.cons (.int 2) (.cons (.int 3) (.cons (.int 3) (.cons (.int 4) (.cons (.int 4) (.cons (.int 5) .nil))))))) (.bin .mod (.loc 3) (.int 6))))) [some (.d (.list (s.map .int))),some (.d (.int 6)),some (.d (.int 4)),some (.d (.int n0)),none,none,none,none,none,none,none,none] []=.ok .next ([some (.d (.list (s.map .int))),some (.d (.int 6)),some (.d (.int 4)),some (.d (.int n0)),some (.d (.int m)),none,none,none,none,none,none,none],[]):=by
 simp only[jw,x8,w0,u8,za7,kw,x9,v7,zj,ke,je,jx,zc5,zc6,cu,bT,bt,bu,a0,cm,aO,cJ,bo,nm_1,asgR,zan,cX,cY,aU,cA,Nat.reduceAdd,Nat.reduceLT,bB,zpv,e6,em,hx]
theorem tb3{k:Nat}{s:List Int}{n0:Int}{m w:Nat}(ew:idxD (.list [.int 9,.int 12,.int 8,.int 5]) (.int ((m:Int) - 2))=some (.int (w:Int))):evS (PG (k+2) false) (.asg (.name 5) (.idx (.list (.cons (.int 9) (.cons (.int 12) (.cons (.int 8) (.cons (.int 5) .nil))))) (.bin .sub (.loc 4) (.int 2)))) [some (.d (.list (s.map .int))),some (.d (.int 6)),some (.d (.int 4)),some (.d (.int n0)),some (.d (.int m)),none,none,none,none,none,none,none] []=.ok .next ([some (.d (.list (s.map .int))),some (.d (.int 6)),some (.d (.int 4)),some (.d (.int n0)),some (.d (.int m)),some (.d (.int w)),none,none,none,none,none,none],[]):=by
 simp only[jw,x8,w0,u8,za7,kw,x9,v7,zj,ke,je,jx,vd,zc5,zc6,cu,bT,bt,bu,a0,cm,aO,cJ,bo,nm_1,asgR,zan,cX,cY,aU,cA,Nat.reduceAdd,Nat.reduceLT,bB,ew]
theorem tb4{k:Nat}{s:List Int}{n0:Int}{m w:Nat}:evS (PG (k+2) false) (.asg (.name 6) (.boxed (.list .nil))) [some (.d (.list (s.map .int))),some (.d (.int 6)),some (.d (.int 4)),some (.d (.int n0)),some (.d (.int m)),some (.d (.int w)),none,none,none,none,none,none] []=.ok .next (L1 s n0 m w (.box 0) none none,[Box.lst []]):=by
 have bl:boxK (.d (.list [])) []=.ok (.box 0) [Box.lst []]:=rfl
 unfold L1
 simp only[w0,zmx,kw,v7,zj,ke,je,zc5,cu,a0,cm,aO,cJ,bo,nm_1,asgR,zan,cX,cY,aU,cA,Nat.reduceAdd,Nat.reduceLT,bB,bl]
theorem zi0{k:Nat}{s:List Int}{n0:Int}{m w x i6:Nat}(hs:s.length≤63)(n1:zg P table (k+2) false 22 [.d (.list (s.map .int)),.d (.int 6)] []=.ok (.d (.int n0)) [])(e6:binK .mod (.d (.int n0)) (.d (.int 6)) []=.ok (.d (.int (i6:Int))) [])(hm:m4 m)
 (em:idxD (.list [.int 2,.int 3,.int 3,.int 4,.int 4,.int 5]) (.int (i6:Int))=some (.int (x:Int))) (hx:minV (.d (.int 4)) (.d (.int (x:Int))) []=.ok (.d (.int (m:Int))) []) (hw:1≤w∧w≤12) (ew:idxD (.list [.int 9,.int 12,.int 8,.int 5]) (.int ((m:Int) - 2))=some (.int (w:Int))) :
 ∃ ρ' b0 cs,evSs (PG (k+2) false) c26.body [some (.d (.list (s.map .int))),some (.d (.int 6)),some (.d (.int 4)),none,none,none,none,none,none,none,none,none] []=.ok (.ret (.tm [.x (.int m),.b 1])) (ρ',[b0,Box.lst (zb cs)])∧Found m cs:=by
 refine fw (zi2 (k:=k) (s:=s) (n0:=n0) (m:=m) (w:=w) hs hm) ?_;intro a b dcs ed hdg hdl
 refine fu (zoi (k:=k) (s:=s) (n0:=n0) (m:=m) (w:=w) (a:=a) (b:=b) hm hw hdg hdl) ?_;intro ρ' b0 cs e f
 refine eX ρ' b0 cs ?_ f
 rw[zso,zc (tb1 n1),zc (tb2 hx e6 em),zc (tb3 ew),zc tb4,zc ed]
 exact e
theorem zlp{k:Nat}{s:List Int}(hs:s.length≤63):∃ m cs,m4 m∧m≤4∧Found m cs∧zg P table (k+3) false 26 [.d (.list (s.map .int)),.d (.int 6),.d (.int 4)] []=.ok (.d (.tuple [.int m,.list (zb cs)])) []:=by
 have n1:zg P table (k+2) false 22 [.d (.list (s.map .int)),.d (.int 6)] []=.ok (.d (.int (mixI s 6))) []:=kl (k:=k) (j:=6) (O:=[]) hs
 generalize mixI s 6=n0 at n1
 refine ft (zfz (a:=n0) (n:=6) (O:=[]) (by decide)) ?_;intro i6 h6 _ e6
 have e6:binK .mod (.d (.int n0)) (.d (.int 6)) []=.ok (.d (.int (i6:Int))) []:=e6
 have hm:∃ m x:Nat,m4 m∧m≤4∧idxD (.list [.int 2,.int 3,.int 3,.int 4,.int 4,.int 5]) (.int (i6:Int))=some (.int (x:Int))∧minV (.d (.int 4)) (.d (.int (x:Int))) []=.ok (.d (.int (m:Int))) []:=by
  have:i6=0∨i6=1∨i6=2∨i6=3∨i6=4∨i6=5:=by lia
  rcases this with rfl | rfl | rfl | rfl | rfl | rfl
  ·exact fC 2 2 ⟨by decide,by decide⟩ (by decide) rfl rfl
  ·exact fC 3 3 ⟨by decide,by decide⟩ (by decide) rfl rfl
  ·exact fC 3 3 ⟨by decide,by decide⟩ (by decide) rfl rfl
  ·exact fC 4 4 ⟨by decide,by decide⟩ (by decide) rfl rfl
  ·exact fC 4 4 ⟨by decide,by decide⟩ (by decide) rfl rfl
  ·exact fC 4 5 ⟨by decide,by decide⟩ (by decide) rfl rfl
 refine fx hm ?_;clear hm;intro m x hm hm3 em hx
 have hw:∃ w:Nat,(1≤w∧w≤12)∧idxD (.list [.int 9,.int 12,.int 8,.int 5]) (.int ((m:Int) - 2))=some (.int (w:Int)):=by
  have:m=2∨m=3∨m=4∨m=5:=by have:=hm.1;have:=hm.2;lia
  rcases this with rfl | rfl | rfl | rfl
  ·exact eZ 9 ⟨by decide,by decide⟩ rfl
  ·exact eZ 12 ⟨by decide,by decide⟩ rfl
  ·exact eZ 8 ⟨by decide,by decide⟩ rfl
  ·exact eZ 5 ⟨by decide,by decide⟩ rfl
 refine eY hw ?_;clear hw;intro w hw ew
 refine fu (zi0 hs n1 e6 hm em hx hw ew) ?_;intro ρ' b0 cs e f
 refine fC m cs hm hm3 f ?_
 rw[ji (fn:=c26) rfl ⟨rfl,by decide⟩]
 unfold evFn
 show (match evSs (PG (k+2) false) c26.body [some (.d (.list (s.map .int))),some (.d (.int 6)),some (.d (.int 4)),none,none,none,none,none,none,none,none,none] [] with | .ok (.ret v) S=>fin 0 false v S.2 | .ok .next S=>.ok (.d .none) (S.2.take 0) | .stuck=>.stuck)=_
 rw[e]
 exact zrt
noncomputable def sgn(d:Int):Int:=if d > 0 then 1 else if d < 0 then -1 else 0
theorem zci(a b:Int):sgn (b - a)=0 - sgn (a - b):=by
 unfold sgn
 repeat' split
 all_goals lia
theorem zqh (d:Int) : -1≤sgn d∧sgn d≤1:=by unfold sgn;repeat' split
                                           all_goals lia
noncomputable def yr(cs is:List Int):Int:=(is.map fun i=>cs.getD i.toNat 0).sum
noncomputable def wOf(is js:List Int):PyData:=.tuple [.tuple (is.map .int),.tuple (js.map .int)]
structure InR(m:Nat)(is:List Int):Prop where
 len:is.length≤2
 at_:∀ i∈is,0≤i∧i < (m:Int)
theorem zhu{m:Nat}{cs is:List Int}{i:Int}(hm:m4 m)(hc:good m cs)(h:InR m is)(hi:i∈is):idxD (caseD cs) (.int i)=some (.int (cs.getD i.toNat 0)):=by
 have hb:=h.at_ i hi
 have hl:=hc.1
 have hj:i.toNat < cs.length:=by lia
 have h5:cs.length≤line:=by rw[hl];exact ak hm.2 (by decide)
 unfold caseD idxD items
 dsimp only
 rw[aw,af h5,af hb.1,aR,a5,aq hj];rfl
theorem zpo{k:Nat}{m:Nat}{cs ls:List Int}{a b:Nat}{ρ:Loc}{O:za}(hm:m4 m)(hc:good m cs)(hr:InR m ls)(ha:Nat.blt a ρ.length=true)(ha1:a≠1)(h1:ρ[1]?=some (some (.d (caseD cs))))(hb:ρ[b]?=some (some (.d (.tuple (ls.map .int))))) :
 evE (PG k false) ρ (.prim .sum (.cons (.comp (.idx (.loc 1) (.loc a)) (.name a) (.e (.loc b)) .nil) .nil)) O=.ok (.d (.int (yr cs ls))) O:=by
 have ha:a < ρ.length:=dE ha
 have hl:(ls.map PyData.int).length≤line:=by rw[aw];exact ak hr.len (by decide)
 have hI:evI (PG k false) ρ (.e (.loc b)) O=.ok (.plain (ls.map .int)) O:=by rw[x_e,x8,hb];rfl
 refine yc rfl (j8 rfl hI rfl hl (fun x=>.int (cs.getD (toI x).toNat 0)) fun x hx=>⟨ρ.set a (some (.d x)),af ha,?_⟩) ?_
 ·refine eY (av.mp hx) ?_;intro i hi eo;subst eo
  have e1:evE (PG k false) (ρ.set a (some (.d (.int i)))) (.loc 1) O=.ok (.d (caseD cs)) O:=by rw[x8,bY ha1,h1];rfl
  have e2:evE (PG k false) (ρ.set a (some (.d (.int i)))) (.loc a) O=.ok (.d (.int i)) O:=by rw[x8,co ha];rfl
  refine xh e1 e2 ?_
  rw[jx,zhu hm hc hr hi];rfl
 ·refine (zth (g:=fun x=>cs.getD (toI x).toNat 0)).trans ?_
  rw[show ((Src.plain (ls.map PyData.int)).xs.map fun x=>cs.getD (toI x).toNat 0).sum=yr cs ls by show ((ls.map PyData.int).map _).sum=_;rw[bf];rfl]
theorem zjj{P:Pg}{ρ ρ':Loc}{O O':za}{e:CE}{t:CT}{v:V}(hd:P.hd=false)(h:evE P ρ e O=.ok v O')(hb:zq t v ρ=some ρ'):evS P (.asg t e) ρ O=.ok .next (ρ',O'):=by
 rw[v7,hd,Bool.false_and,aj am,h]
 show asgR t v (ρ,O')=_
 unfold asgR
 rw[hb]
theorem zry{k:Nat}{a b c e f g:Option V}{O:za}{d:Int}:evSs (PG k false) (.cons (.ife (.cmp .gt (.loc 4) (.int 0)) (.cons (.ret (.int 1)) .nil) .nil) (.cons (.ret (.ite (.cmp .lt (.loc 4) (.int 0)) (.neg (.int 1)) (.int 0))) .nil)) [a,b,c,e,some (.d (.int d)),f,g] O=.ok (.ret (.d (.int (sgn d)))) ([a,b,c,e,some (.d (.int d)),f,g],O):=by
 have h1:evE (PG k false) [a,b,c,e,some (.d (.int d)),f,g] (.cmp .gt (.loc 4) (.int 0)) O=.ok (.d (.bool (decide (d > 0)))) O:=rfl
 have h2:evE (PG k false) [a,b,c,e,some (.d (.int d)),f,g] (.cmp .lt (.loc 4) (.int 0)) O=.ok (.d (.bool (decide (d < 0)))) O:=rfl
 unfold sgn
 by_cases hg:d > 0
 ·rw[af hg]
  rw[aD hg] at h1
  exact ze ((w_if h1).trans rfl)
 ·rw[aj hg]
  rw[aN hg] at h1
  refine (zc (y4 h1)).trans (ze (yf ?_))
  rw[zji,h2]
  by_cases hl:d < 0
  ·rw[af hl,aD hl];rfl
  ·rw[aj hl,aN hl];rfl
theorem zl0{k m:Nat}{cs is js:List Int}{O:za}(hm:m4 m)(hc:good m cs)(hi:InR m is)(hj:InR m js):zg P table (k+1) false 8 [.d (wOf is js),.d (caseD cs)] O=.ok (.d (.int (sgn (yr cs is - yr cs js)))) O:=by
 have k1:=zpo (k:=k) (a:=5) (b:=2) (O:=O) (ρ:=[some (.d (wOf is js)),some (.d (caseD cs)),some (.d (.tuple (is.map .int))),some (.d (.tuple (js.map .int))),none,none,none]) hm hc hi rfl (by decide) rfl rfl
 have k2:=zpo (k:=k) (a:=6) (b:=3) (O:=O) (ρ:=[some (.d (wOf is js)),some (.d (caseD cs)),some (.d (.tuple (is.map .int))),some (.d (.tuple (js.map .int))),none,none,none]) hm hc hj rfl (by decide) rfl rfl
 refine zv (fn:=c8) rfl ⟨rfl,by decide⟩ rfl ((zc (zjj rfl rfl rfl)).trans ((zc (zt (z0 k1 k2 vd) rfl rfl)).trans zry))
noncomputable def zjq(g:Int→Int→Int)(cs:List Int)(a:Int×Option V)(x:PyData):Int×Option V:=(g a.1 (cs.getD (toI x).toNat 0),some (V.d x))
theorem l_sum{k m:Nat}{op:Bop}{g:Int→Int→Int}{cs ls:List Int}{w:V}{i:CE}{O:za}{n:Int}{z:Option V}(hg:∀ a b,binK op (.d (.int a)) (.d (.int b)) O=.ok (.d (.int (g a b))) O)(hm:m4 m)(hc:good m cs)(hr:InR m ls)
 (hi:∀ n z,evE (PG k false) [some w,some (.d (caseD cs)),some (.d (.int n)),z] i O=.ok (.d (.tuple (ls.map .int))) O) :
 ∃ z',evS (PG k false) (.for_ (.name 3) (.e i) (.cons (.asg (.name 2) (.bin op (.loc 2) (.idx (.loc 1) (.loc 3)))) .nil)) [some w,some (.d (caseD cs)),some (.d (.int n)),z] O=.ok .next ([some w,some (.d (caseD cs)),some (.d (.int ((ls.map fun i=>cs.getD i.toNat 0).foldl g n))),z'],O):=by
 refine fh ((ls.map PyData.int).foldl (zjq g cs) (n,z)).2 ?_
 have e1:∀ (ls:List Int) (a:Int×Option V),((ls.map PyData.int).foldl (zjq g cs) a).1=(ls.map fun i=>cs.getD i.toNat 0).foldl g a.1:=fun ls=>by
  induction ls with
  | nil=>exact fun a=>rfl
  | cons x ls ih=>exact fun a=>ih _
 have:=d8 (ys:=ls.map PyData.int) (turn:=yq (PG k false) (.name 3) (.cons (.asg (.name 2) (.bin op (.loc 2) (.idx (.loc 1) (.loc 3)))) .nil)) (fun a:Int×Option V=>([some w,some (.d (caseD cs)),some (.d (.int a.1)),a.2],O)) (zjq g cs) (ls.map PyData.int) (n,z) fun a x hx=>by
  refine eY (av.mp hx) ?_;intro i hi eo;subst eo
  refine (zc (zt (ρ:=[some w,some (.d (caseD cs)),some (.d (.int a.1)),some (.d (.int i))]) (z0 rfl (xh rfl rfl ?_) (hg _ _)) rfl rfl)).trans rfl
  rw[jx,zhu hm hc hr hi];rfl
 rw[e1] at this
 rw[v5,aj am,x_e,hi]
 exact this
theorem zog{k:Nat}{a b c:Option V}{O:za}{d:Int}:evSs (PG k false) (.cons (.ret (.ite (.cmp .gt (.loc 2) (.int 0)) (.int 1) (.ite (.cmp .lt (.loc 2) (.int 0)) (.neg (.int 1)) (.int 0)))) .nil) [a,b,some (.d (.int d)),c] O=.ok (.ret (.d (.int (sgn d)))) ([a,b,some (.d (.int d)),c],O):=by
 have h1:evE (PG k false) [a,b,some (.d (.int d)),c] (.cmp .gt (.loc 2) (.int 0)) O=.ok (.d (.bool (decide (d > 0)))) O:=rfl
 have h2:evE (PG k false) [a,b,some (.d (.int d)),c] (.cmp .lt (.loc 2) (.int 0)) O=.ok (.d (.bool (decide (d < 0)))) O:=rfl
 refine ze (yf ?_)
 unfold sgn
 rw[zji,h1]
 by_cases hg:d > 0
 ·rw[af hg,aD hg];rfl
 ·rw[aj hg,aN hg]
  show evE (PG k false) [a,b,some (.d (.int d)),c] (.ite (.cmp .lt (.loc 2) (.int 0)) (.neg (.int 1)) (.int 0)) O=_
  rw[zji,h2]
  by_cases hl:d < 0
  ·rw[af hl,aD hl];rfl
  ·rw[aj hl,aN hl];rfl
theorem fold_add:∀ (l:List Int) (a:Int),l.foldl (· + ·) a=a+l.sum
 | [],a=>by simp
 | x::l,a=>by rw[dW,fold_add l,bE];lia
theorem zd8:∀ (l:List Int) (a:Int),l.foldl (· - ·) a=a - l.sum
 | [],a=>by simp
 | x::l,a=>by rw[dW,zd8 l,bE];lia
theorem zhp{k m:Nat}{cs is js:List Int}{O:za}(hm:m4 m)(hc:good m cs)(hi:InR m is)(hj:InR m js):zg P table (k+1) false 23 [.d (wOf is js),.d (caseD cs)] O=.ok (.d (.int (sgn (yr cs is - yr cs js)))) O:=by
 refine fe (l_sum (k:=k) (op:=.add) (g:=(· + ·)) (w:=.d (wOf is js)) (i:=.idx (.loc 0) (.int 0)) (O:=O) (n:=0) (z:=none) (fun uA uA=>wn) hm hc hi fun uA uA=>rfl) ?_;intro z1 e1
 rw[fold_add,Int.zero_add] at e1
 refine fe (l_sum (k:=k) (op:=.sub) (g:=(· - ·)) (w:=.d (wOf is js)) (i:=.idx (.loc 0) (.int 1)) (O:=O) (n:=(is.map fun i=>cs.getD i.toNat 0).sum) (z:=z1) (fun uA uA=>vd) hm hc hj fun uA uA=>rfl) ?_;intro z2 e2
 rw[zd8] at e2
 exact zv (fn:=c23) rfl ⟨rfl,by decide⟩ rfl ((zc (zt rfl rfl rfl)).trans ((zc e1).trans ((zc e2).trans zog)))
noncomputable def dueI:Nat→List (List Int×List Int)
 | 2=>[([0],[1])]
 | 3=>[([0],[1]),([0],[2]),([1],[2])]
 | 4=>[([0],[1]),([0],[2]),([0],[3]),([0,1],[2,3]),([0,2],[1,3]),([0,3],[1,2]),([1],[2]),([1],[3]),([2],[3])]
 | 5=>[([0],[1]),([0],[2]),([0],[3]),([0],[4]),([0,1],[2,3]),([0,1],[2,4]),([0,1],[3,4]),([0,2],[1,3]),([0,2],[1,4]),([0,2],[3,4]),([0,3],[1,2]),([0,3],[1,4]),([0,3],[2,4]),([0,4],[1,2]),([0,4],[1,3]),([0,4],[2,3]),([1],[2]),([1],[3]),([1],[4]),([1,2],[3,4]),([1,3],[2,4]),([1,4],[2,3]),([2],[3]),([2],[4]),([3],[4])]
 | _=>[]
noncomputable def due(m:Nat):List PyData:=(dueI m).map fun p=>wOf p.1 p.2
noncomputable def wsI(m:Nat):List (List Int×List Int):=(dueI m).flatMap fun p=>[(p.1,p.2),(p.2,p.1)]
noncomputable def panB(m:Nat)(is:List Int):Bool:=decide (is.length≤2) && is.all fun i=>decide (0≤i) && decide (i < (m:Int))
theorem zg4{m:Nat}{is:List Int}(h:panB m is=true):InR m is:=by
 unfold panB at h
 rw[aG,aK] at h
 refine⟨h.1,fun i hi=>?_⟩
 have:=aI.mp h.2 i hi
 rwa [aG,aK,aK] at this
theorem zp1{m:Nat}(hm:m4 m):((wsI m).all fun p=>panB m p.1 && panB m p.2 && (wsI m).contains (p.2,p.1))=true:=by
 rcases wl hm with rfl | rfl | rfl | rfl <;> decide +kernel
noncomputable abbrev Dn:=List Int×List Int×Int
noncomputable def dnD(d:Dn):PyData:=.tuple [wOf d.1 d.2.1,.int d.2.2]
noncomputable def dnsD(ds:List Dn):List PyData:=ds.map dnD
structure OkD(m:Nat)(d:Dn):Prop where
 w:(d.1,d.2.1)∈wsI m
 o : -1≤d.2.2∧d.2.2≤1
structure OkW(m:Nat)(p:List Int×List Int):Prop where
 l:InR m p.1
 r:InR m p.2
 t:(p.2,p.1)∈wsI m
theorem ud{m:Nat}{p:List Int×List Int}(hm:m4 m)(h:p∈wsI m):OkW m p:=by
 have:=aI.mp (zp1 hm) p h
 rw[aG,aG] at this
 exact⟨zg4 this.1.1,zg4 this.1.2,List.contains_iff_mem.mp this.2⟩
noncomputable def xm(d:Dn):Dn:=(d.2.1,d.1,0 - d.2.2)
theorem OkD.turn{m:Nat}{d:Dn}(hm:m4 m)(h:OkD m d):OkD m (xm d):=⟨(ud hm h.w).t,by have:=h.o;show -1≤0 - d.2.2∧0 - d.2.2≤1;lia⟩
noncomputable def zmp(m:Nat):List Dn:=(wsI m).flatMap fun p=>[(p.1,p.2,-1),(p.1,p.2,0),(p.1,p.2,1)]
theorem OkD.mem{m:Nat}{d:Dn}(h:OkD m d):d∈zmp m:=by
 obtain⟨is,js,o⟩:=d
 refine bA.mpr ⟨(is,js),h.w,?_⟩
 have ho:=h.o
 have:o = -1∨o=0∨o=1:=by show o = -1∨o=0∨o=1;have : -1≤o∧o≤1:=ho;lia
 rcases this with rfl | rfl | rfl <;> simp
noncomputable def tkA(n:Nat)(O:za):za:=(Tk n O).take O.length
noncomputable def tkW(n:Nat)(O:za):za:=(tkA n (tkA n O)).take O.length
noncomputable def tkD(n:Nat)(O:za):za:=((tkW n O).take (tkW n O).length).take O.length
theorem zp9(n:Nat)(O:za):tkW n O=O:=by
 have hA:∀ O,tkA n O=O:=fun O=>by unfold tkA;rw[zmq,bp]
 unfold tkW;rw[hA,hA,bp]
theorem zqa(n:Nat)(O:za):tkD n O=O:=by
 unfold tkD;rw[zp9,bp,bp]
noncomputable abbrev zef(m k:Nat)(O:za):Prop:=(zmp m).map (fun d=>zg P table (k+4) false 11 [.d (.int m),.d (dnD d)] O)=(zmp m).map fun d=>.ok (.d (.bool true)) (tkD d.1.length O)
theorem zui{k:Nat}{O:za}:zef 2 k O:=by kernel_rfl
theorem zuh{k:Nat}{O:za}:zef 3 k O:=by kernel_rfl
theorem zug{k:Nat}{O:za}:zef 4 k O:=by kernel_rfl
theorem zuf{k:Nat}{O:za}:zef 5 k O:=by kernel_rfl
theorem zlx{k m:Nat}{d:Dn}{O:za}(hm:m4 m)(h:OkD m d):zg P table (k+4) false 11 [.d (.int m),.d (dnD d)] O=.ok (.d (.bool true)) O:=by
 have hq:zef m k O:=by
  rcases wl hm with rfl | rfl | rfl | rfl
  ·exact zui
  ·exact zuh
  ·exact zug
  ·exact zuf
 refine (zcq hq h.mem).trans ?_
 rw[zqa]
noncomputable def xb(d:Dn)(c:List Int):Int:=sgn (yr c d.1 - yr c d.2.1)
noncomputable def x0(ds:List Dn)(c:List Int):Bool:=ds.all fun d=>decide (xb d c=d.2.2)
noncomputable def zw(cs:List (List Int))(ds:List Dn):List (List Int):=cs.filter (x0 ds)
noncomputable def unC:PyData→List Int
 | .tuple xs=>xs.map toI
 | _=>[]
theorem wa(l:List Int):(l.map PyData.int).map toI=l:=by
 rw[bf]
 exact (bO fun uA uA=>rfl).trans (List.map_id l)
theorem xi(c:List Int):unC (caseD c)=c:=wa c
noncomputable def unW:PyData→List Int×List Int
 | .tuple [l,r]=>(unC l,unC r)
 | _=>([],[])
noncomputable def unD:PyData→Dn
 | .tuple [w,o]=>((unW w).1,(unW w).2,toI o)
 | _=>([],[],0)
theorem w5(d:Dn):unD (dnD d)=d:=by
 obtain⟨is,js,o⟩:=d
 show (((is.map PyData.int).map toI,(js.map PyData.int).map toI,o):Dn)=_
 rw[wa,wa]
noncomputable def qf(ds:List Dn)(x:PyData):Option PyData:=if x0 ds (unC x) then some x else none
theorem jp(ds:List Dn):∀ cs:List (List Int),(zb cs).filterMap (qf ds)=zb (zw cs ds)
 | []=>rfl
 | c::cs=>by
   show (caseD c::zb cs).filterMap (qf ds)=_
   unfold zw
   cases h:x0 ds c with
   | true=>rw[cQ (show qf ds (caseD c)=some (caseD c) by unfold qf;rw[xi,h];rfl),jp ds cs,List.filter_cons_of_pos h];rfl
   | false=>rw[cP (show qf ds (caseD c)=none by unfold qf;rw[xi,h];rfl),jp ds cs,List.filter_cons_of_neg (by rw[h];decide)];rfl
structure Dns(m:Nat)(ds:List Dn):Prop where
 ok:∀ d∈ds,OkD m d
 le:ds.length≤20
theorem xd{ds:List Dn}:(dnsD ds).length=ds.length:=aw _
noncomputable abbrev R8(m:Nat)(v u:V)(a b c e:Option V):Loc:=[some (.d (.int m)),some v,some u,a,b,c,e]
theorem zgk{k m:Nat}{ds:List Dn}{c:List Int}{v u:V}{O:za}(hm:m4 m)(hc:good m c)(hd:Dns m ds)(hu:Seen O u (dnsD ds)) :
 evE (PG (k+4) false) (R8 m v u none (some (.d (caseD c))) none none) (.prim .all (.cons (.comp (.cmp .eq (.call 8 (.cons (.loc 5) (.cons (.loc 4) .nil))) (.loc 6)) (.two (.name 5) (.name 6)) (.e (.loc 2)) .nil) .nil)) O=.ok (.d (.bool (x0 ds c))) O:=by
 obtain⟨src,s1,s2,s3⟩:=hu.src
 have hl:(dnsD ds).length≤line:=by rw[xd];exact ak hd.le (by decide)
 have:=uy (P:=PG (k+4) false) (ρ:=R8 m v u none (some (.d (caseD c))) none none) (elt:=.cmp .eq (.call 8 (.cons (.loc 5) (.cons (.loc 4) .nil))) (.loc 6)) (tgt:=.two (.name 5) (.name 6)) (it:=.e (.loc 2)) (O:=O) (fun y=>decide (xb (unD y) c=(unD y).2.2)) rfl s1 s2 s3 hl fun x hx=>by
  refine eY (av.mp hx) ?_;intro d hdm eo;subst eo
  have w:=ud hm (hd.ok d hdm).w
  refine eZ (R8 m v u none (some (.d (caseD c))) (some (.d (wOf d.1 d.2.1))) (some (.d (.int d.2.2)))) rfl ?_
  rw[w5]
  exact z9 (zm rfl (zl0 hm hc w.l w.r)) rfl eq_int
 rw[this]
 unfold x0 dnsD
 rw[List.all_map]
 congr 4
 funext d
 show decide (xb (unD (dnD d)) c=(unD (dnD d)).2.2)=_
 rw[w5]
theorem zi1{k m:Nat}{cs:List (List Int)}{ds:List Dn}{v u:V}{O:za}(hm:m4 m)(f:Found m cs)(hd:Dns m ds)(hv:Seen O v (zb cs))(hu:Seen O u (dnsD ds)) :
 evE (PG (k+4) false) (R8 m v u none none none none) (.comp (.loc 4) (.name 4) (.e (.loc 1)) (.cons (.prim .all (.cons (.comp (.cmp .eq (.call 8 (.cons (.loc 5) (.cons (.loc 4) .nil))) (.loc 6)) (.two (.name 5) (.name 6)) (.e (.loc 2)) .nil) .nil)) .nil)) O=.ok (.d (.list (zb (zw cs ds)))) O:=by
 obtain⟨src,s1,s2,s3⟩:=hv.src
 have hl:(zb cs).length≤line:=by rw[zl];exact ak f.le (by decide)
 have:=v6 (P:=PG (k+4) false) (ρ:=R8 m v u none none none none) (elt:=.loc 4) (tgt:=.name 4) (it:=.e (.loc 1)) (ifs:=.cons (.prim .all (.cons (.comp (.cmp .eq (.call 8 (.cons (.loc 5) (.cons (.loc 4) .nil))) (.loc 6)) (.two (.name 5) (.name 6)) (.e (.loc 2)) .nil) .nil)) .nil) (O:=O) rfl s1 s3 (by rw[s2];exact hl) (qf ds) fun x hx=>by
  rw[s2] at hx
  refine eY (av.mp hx) ?_;intro c hc eo;subst eo
  have ht:=zgk (k:=k) (v:=v) hm (f.good c hc) hd hu
  show R.bind (jf (PG (k+4) false) (R8 m v u none (some (.d (caseD c))) none none) _ O) _=_
  rw[zgu,ht]
  unfold qf
  rw[xi]
  cases x0 ds c <;> rfl
 rw[this,s2,jp]
theorem zlu{k m:Nat}{cs:List (List Int)}{ds:List Dn}{v u:V}{O:za}(hm:m4 m)(f:Found m cs)(hd:Dns m ds)(hv:Seen O v (zb cs))(hu:Seen O u (dnsD ds)) :
 zg P table (k+5) false 12 [.d (.int m),v,u] O=.ok (.d (.list (zb (zw cs ds)))) O:=by
 obtain⟨src,s1,s2,s3⟩:=hu.src
 have hl:(dnsD ds).length≤line:=by rw[xd];exact ak hd.le (by decide)
 have hle:=hd.le
 have t1:evE (PG (k+4) false) (R8 m v u none none none none) (.cmp .gt (.prim .len (.cons (.loc 2) .nil)) (.glob 4)) O=.ok (.d (.bool false)) O:=by
  refine z9 (yc rfl rfl (zd1 hu hl)) rfl ?_
  show R.ok (V.d (.bool (decide (((dnsD ds).length:Int) > 20)))) O=_
  rw[aN (by rw[xd];lia)]
 have t2:evE (PG (k+4) false) (R8 m v u none none none none) (.prim .all (.cons (.comp (.call 11 (.cons (.loc 0) (.cons (.loc 3) .nil))) (.name 3) (.e (.loc 2)) .nil) .nil)) O=.ok (.d (.bool true)) O:=by
  have:=uy (P:=PG (k+4) false) (ρ:=R8 m v u none none none none) (elt:=.call 11 (.cons (.loc 0) (.cons (.loc 3) .nil))) (tgt:=.name 3) (it:=.e (.loc 2)) (O:=O) (fun uA=>true) rfl s1 s2 s3 hl fun x hx=>⟨R8 m v u (some (.d x)) none none none,rfl,by
   refine eY (av.mp hx) ?_;intro d hdm eo;subst eo
   exact zm rfl (zlx hm (hd.ok d hdm))⟩
  rw[this]
  congr 4
  exact aI.mpr fun uA uA=>rfl
 refine zv (fn:=c12) (ρ':=R8 m v u none none none none) rfl ⟨rfl,by decide⟩ rfl ?_
 refine (zc (jt (zm rfl (zr4 (k:=k+1) hm f hv)))).trans ?_
 refine (zc (y4 (h8 (w_nt (yc rfl rfl (zd3 hu))) (h8 t1 (w_nt t2))))).trans ?_
 exact ze (yf (zi1 hm f hd hv hu))
theorem ztg{k:Nat}:zg P table (k+1) false 24 [.d (.int 2)] []=.ok (.d (.list (due 2))) []:=by kernel_rfl
theorem ztf{k:Nat}:zg P table (k+1) false 24 [.d (.int 3)] []=.ok (.d (.list (due 3))) []:=by kernel_rfl
theorem zte{k:Nat}:zg P table (k+1) false 24 [.d (.int 4)] []=.ok (.d (.list (due 4))) []:=by kernel_rfl
theorem ztd{k:Nat}:zg P table (k+1) false 24 [.d (.int 5)] []=.ok (.d (.list (due 5))) []:=by kernel_rfl
theorem zr3{k m:Nat}(hm:m4 m):zg P table (k+1) false 24 [.d (.int m)] []=.ok (.d (.list (due m))) []:=by
 rcases wl hm with rfl | rfl | rfl | rfl
 ·exact ztg
 ·exact ztf
 ·exact zte
 ·exact ztd
theorem zop{m:Nat}(hm:m4 m):0 < (due m).length∧(due m).length≤line:=by rcases wl hm with rfl | rfl | rfl | rfl <;> decide +kernel
theorem zoo{m:Nat}{x:PyData}(h:x∈due m):∃ p:List Int×List Int,x=wOf p.1 p.2∧(p.1,p.2)∈wsI m∧(p.2,p.1)∈wsI m:=by
 refine eY (av.mp h) ?_;intro p hp eo;subst eo
 exact fi p rfl (bA.mpr ⟨p,hp,by simp⟩) (bA.mpr ⟨p,hp,by simp⟩)
noncomputable abbrev R18(s:List Int)(m:Nat)(cs:List (List Int))(n0:Int)(a b c d e f:Option V):Loc:=[some (.d (.list (s.map .int))),some (.d (.int 1)),some (.d (.int m)),some (.d (.list (zb cs))),some (.d (.int n0)),some (.d (.list (due m))),some (.box 0),a,b,c,d,e,f]
section
variable{k:Nat}{s:List Int}{m:Nat}{cs:List (List Int)}{n0 n:Int}{a b c d e f:Option V}{O:za}
theorem q1{i:Nat}(hs:s.length≤63):∃ n,evS (PG (k+2) false) (.asg (.name 8) (.call 22 (.cons (.loc 0) (.cons (.bin .add (.bin .add (.loc 1) (.int 1)) (.loc 7)) .nil)))) (R18 s m cs n0 (some (.d (.int (0+(i:Int))))) b c d e f) O=.ok .next (R18 s m cs n0 (some (.d (.int (0+(i:Int))))) (some (.d (.int n))) c d e f,O):=by
 refine fh (mixI s (2+i)) (zt (zm rfl ?_) rfl rfl)
 show zg P table (k+2) false 22 [.d (.list (s.map .int)),.d (.int (1+1+(0+(i:Int))))] O=_
 rw[show ((1:Int)+1+(0+(i:Int)))=((2+i:Nat):Int) by lia]
 exact kl hs
theorem q2(hm:m4 m):∃ is js,(is,js)∈wsI m∧(js,is)∈wsI m∧evS (PG k false) (.asg (.two (.name 9) (.name 10)) (.idx (.loc 5) (.bin .mod (.loc 8) (.prim .len (.cons (.loc 5) .nil))))) (R18 s m cs n0 a (some (.d (.int n))) c d e f) O=.ok .next (R18 s m cs n0 a (some (.d (.int n))) (some (.d (.tuple (is.map .int)))) (some (.d (.tuple (js.map .int)))) e f,O):=by
 refine ff (zop hm) ?_;intro h1 h2
 refine eY (md n (due m).length O h1) ?_;intro j hj ej
 refine eY (wq (xs:=due m) rfl h2 hj) ?_;intro y hy ey
 refine ft (zoo hy) ?_;intro p eg w1 w2;subst eg
 exact fj p.1 p.2 w1 w2 (zjj rfl (xh rfl (z0 rfl (yc rfl rfl (g6 h2)) ej) (by rw[jx,ey];rfl)) rfl)
theorem q3{is js:List Int}(w1:(is,js)∈wsI m)(w2:(js,is)∈wsI m):∃ p:List Int×List Int,p∈wsI m∧evS (PG k false) (.asg (.name 11) (.idx (.list (.cons (.tup (.cons (.loc 9) (.cons (.loc 10) .nil))) (.cons (.tup (.cons (.loc 10) (.cons (.loc 9) .nil))) .nil))) (.bin .mod (.bin .fdiv (.loc 8) (.int 32)) (.int 2)))) (R18 s m cs n0 a (some (.d (.int n))) (some (.d (.tuple (is.map .int)))) (some (.d (.tuple (js.map .int)))) e f) O=.ok .next (R18 s m cs n0 a (some (.d (.int n))) (some (.d (.tuple (is.map .int)))) (some (.d (.tuple (js.map .int)))) (some (.d (wOf p.1 p.2))) f,O):=by
 refine eY (md (Int.fdiv n 32) 2 O (by decide)) ?_;intro j hj ej
 have:j=0∨j=1:=by lia
 refine eW this ?_ ?_<;>clear this
 ·rintro rfl;exact eZ _ w1 (zt (xh rfl (z0 (z0 rfl rfl (dv (by decide))) rfl ej) rfl) rfl rfl)
 ·rintro rfl;exact eZ _ w2 (zt (xh rfl (z0 (z0 rfl rfl (dv (by decide))) rfl ej) rfl) rfl rfl)
theorem q4{p:List Int×List Int}(hm:m4 m)(hf:Found m cs)(hp:p∈wsI m):∃ o:Int,(-1≤o∧o≤1)∧evS (PG (k+1) false) (.asg (.name 12) (.call 23 (.cons (.loc 11) (.cons (.idx (.loc 3) (.bin .mod (.bin .fdiv (.loc 4) (.int 5)) (.prim .len (.cons (.loc 3) .nil)))) .nil)))) (R18 s m cs n0 a (some (.d (.int n))) c d (some (.d (wOf p.1 p.2))) f) O=.ok .next (R18 s m cs n0 a (some (.d (.int n))) c d (some (.d (wOf p.1 p.2))) (some (.d (.int o))),O):=by
 have hl:(zb cs).length≤line:=by rw[zl];exact ak hf.le (by decide)
 refine eY (md (Int.fdiv n0 5) (zb cs).length O (by rw[zl];exact hf.pos)) ?_;intro j hj ej
 refine eY (wq (xs:=zb cs) rfl hl hj) ?_;intro y hy ey
 refine eY (av.mp hy) ?_;intro cc hc eo;subst eo
 have w:=ud hm hp
 exact eZ _ (zqh _) (zt (zm (zr rfl (zr (xh rfl (z0 (z0 rfl rfl (dv (by decide))) (yc rfl rfl (g6 hl)) ej) (by rw[jx,ey];rfl)) rfl)) (zhp hm (hf.good cc hc) w.l w.r)) rfl rfl)
theorem q5{o:Int}(ho : -1≤o∧o≤1):∃ o':Int,(-1≤o'∧o'≤1)∧evS (PG k false) (.ife (.cmp .eq (.bin .mod (.bin .fdiv (.loc 8) (.int 64)) (.int 8)) (.int 1)) (.cons (.asg (.name 12) (.bin .sub (.bin .mod (.bin .fdiv (.loc 8) (.int 512)) (.int 3)) (.int 1))) .nil) .nil) (R18 s m cs n0 a (some (.d (.int n))) c d e (some (.d (.int o)))) O=.ok .next (R18 s m cs n0 a (some (.d (.int n))) c d e (some (.d (.int o'))),O):=by
 refine eY (md (Int.fdiv n 64) 8 O (by decide)) ?_;intro j hj ej
 refine eY (md (Int.fdiv n 512) 3 O (by decide)) ?_;intro i hi ei
 have ht:evE (PG k false) (R18 s m cs n0 a (some (.d (.int n))) c d e (some (.d (.int o)))) (.cmp .eq (.bin .mod (.bin .fdiv (.loc 8) (.int 64)) (.int 8)) (.int 1)) O=.ok (.d (.bool (decide ((j:Int)=1)))) O:=z9 (z0 (z0 rfl rfl (dv (by decide))) rfl ej) rfl eq_int
 by_cases h:(j:Int)=1
 ·rw[aD h] at ht
  refine eZ ((i:Int) - 1) (by lia) ((w_if ht).trans ?_)
  exact (zc (zt (z0 (z0 (z0 rfl rfl (dv (by decide))) rfl ei) rfl vd) rfl rfl)).trans rfl
 ·rw[aN h] at ht
  exact eZ o ho (y4 ht)
theorem zl1{ds:List Dn}{x:Dn}:dnsD ds++[dnD x]=dnsD (ds++[x]):=by unfold dnsD;rw[cW];rfl
theorem q6{p:List Int×List Int}{o:Int}{ds:List Dn}(hl:ds.length < 10):evS (PG k false) (.expr (.meth .append (.loc 6) (.cons (.tup (.cons (.loc 11) (.cons (.loc 12) .nil))) .nil))) (R18 s m cs n0 a b c d (some (.d (wOf p.1 p.2))) (some (.d (.int o)))) [Box.lst (dnsD ds)]=.ok .next (R18 s m cs n0 a b c d (some (.d (wOf p.1 p.2))) (some (.d (.int o))),[Box.lst (dnsD (ds++[(p.1,p.2,o)]))]):=by
 have ap:=app0 (xs:=dnsD ds) (x:=dnD (p.1,p.2,o)) (by rw[xd];exact bV hl (by decide))
 rw[zl1] at ap
 exact jt (v:=.d .none) ap
end
noncomputable def doneBody:CSs:=(.cons (.asg (.name 8) (.call 22 (.cons (.loc 0) (.cons (.bin .add (.bin .add (.loc 1) (.int 1)) (.loc 7)) .nil)))) (.cons (.asg (.two (.name 9) (.name 10)) (.idx (.loc 5) (.bin .mod (.loc 8) (.prim .len (.cons (.loc 5) .nil))))) (.cons (.asg (.name 11) (.idx (.list (.cons (.tup (.cons (.loc 9) (.cons (.loc 10) .nil))) (.cons (.tup (.cons (.loc 10) (.cons (.loc 9) .nil))) .nil))) (.bin .mod (.bin .fdiv (.loc 8) (.int 32)) (.int 2)))) (.cons (.asg (.name 12) (.call 23 (.cons (.loc 11) (.cons (.idx (.loc 3) (.bin .mod (.bin .fdiv (.loc 4) (.int 5)) (.prim .len (.cons (.loc 3) .nil)))) .nil)))) (.cons (.ife (.cmp .eq (.bin .mod (.bin .fdiv (.loc 8) (.int 64)) (.int 8)) (.int 1)) (.cons (.asg (.name 12) (.bin .sub (.bin .mod (.bin .fdiv (.loc 8) (.int 512)) (.int 3)) (.int 1))) .nil) .nil) (.cons (.expr (.meth .append (.loc 6) (.cons (.tup (.cons (.loc 11) (.cons (.loc 12) .nil))) .nil))) .nil))))))
inductive At18(s:List Int)(m:Nat)(cs:List (List Int))(n0:Int)(i:Nat):Loc→za→Prop
 | mk (a b c d e f:Option V) (ds:List Dn) (ok:∀ d∈ds,OkD m d) (len:ds.length=i):At18 s m cs n0 i (R18 s m cs n0 a b c d e f) [Box.lst (dnsD ds)]
theorem zqe{k i:Nat}{s:List Int}{m:Nat}{cs:List (List Int)}{n0:Int}{ρ:Loc}{O:za}(hs:s.length≤63)(hm:m4 m)(hf:Found m cs)(hi:i < 10)(h:At18 s m cs n0 i ρ O):∃ ρ' O',yq (PG (k+2) false) (.name 7) doneBody (.int (0+(i:Int))) ρ O=.ok .next (ρ',O')∧At18 s m cs n0 (i+1) ρ' O':=by
 obtain⟨a,b,c,d,e,f,ds,ok,len⟩:=h
 refine fe (q1 (k:=k) (s:=s) (m:=m) (cs:=cs) (n0:=n0) (i:=i) (b:=b) (c:=c) (d:=d) (e:=e) (f:=f) (O:=[Box.lst (dnsD ds)]) hs) ?_;intro n e1
 refine fk (q2 (k:=k+2) (s:=s) (cs:=cs) (n0:=n0) (n:=n) (a:=some (.d (.int (0+(i:Int))))) (c:=c) (d:=d) (e:=e) (f:=f) (O:=[Box.lst (dnsD ds)]) hm) ?_;intro is js w1 w2 e2
 refine eY (q3 (k:=k+2) (s:=s) (cs:=cs) (n0:=n0) (n:=n) (a:=some (.d (.int (0+(i:Int))))) (e:=e) (f:=f) (O:=[Box.lst (dnsD ds)]) w1 w2) ?_;intro p hp e3
 refine eY (q4 (k:=k+1) (s:=s) (n0:=n0) (n:=n) (a:=some (.d (.int (0+(i:Int))))) (c:=some (.d (.tuple (is.map .int)))) (d:=some (.d (.tuple (js.map .int)))) (f:=f) (O:=[Box.lst (dnsD ds)]) hm hf hp) ?_;intro o ho e4
 refine eY (q5 (k:=k+2) (s:=s) (m:=m) (cs:=cs) (n0:=n0) (n:=n) (a:=some (.d (.int (0+(i:Int))))) (c:=some (.d (.tuple (is.map .int)))) (d:=some (.d (.tuple (js.map .int)))) (e:=some (.d (wOf p.1 p.2))) (O:=[Box.lst (dnsD ds)]) ho) ?_;intro o' ho' e5
 refine fD _ _ ?_ (.mk (some (.d (.int (0+(i:Int))))) (some (.d (.int n))) (some (.d (.tuple (is.map .int)))) (some (.d (.tuple (js.map .int)))) (some (.d (wOf p.1 p.2))) (some (.d (.int o'))) (ds++[(p.1,p.2,o')]) (fun x hx=>?_) (by rw[aX,len];rfl))
 ·show evSs (PG (k+2) false) doneBody (R18 s m cs n0 (some (.d (.int (0+(i:Int))))) b c d e f) [Box.lst (dnsD ds)]=_
  unfold doneBody
  exact (zc e1).trans ((zc e2).trans ((zc e3).trans ((zc e4).trans ((zc e5).trans ((zc (q6 (by lia))).trans rfl)))))
 ·refine eW (ai.mp hx) ?_ ?_
  ·intro hx;exact ok x hx
  ·intro hx;rw[ac.mp hx];exact⟨hp,ho'⟩
theorem zra{k n:Nat}{s:List Int}{m:Nat}{cs:List (List Int)}{n0:Int}(hs:s.length≤63)(hm:m4 m)(hf:Found m cs)(hn:n≤10):∃ ρ' O',z7 (.plain (zi 0 n)) (yq (PG (k+2) false) (.name 7) doneBody) (zi 0 n) (R18 s m cs n0 none none none none none none) [Box.lst []]=.ok .next (ρ',O')∧At18 s m cs n0 n ρ' O':=by
 obtain⟨ρ',O',e,h⟩:=wu (ys:=zi 0 n) (turn:=yq (PG (k+2) false) (.name 7) doneBody) (fun i ρ O=>At18 s m cs n0 i ρ O) (zi 0 n) 0 (R18 s m cs n0 none none none none none none) [Box.lst []]
  (fun j x hx ρ O h=>by
    have hj:j < n:=by have:=(aA.mp hx).1;rw[xn] at this;assumption
    rw[gy hx]
    rw[bB] at h ⊢
    exact zqe hs hm hf (by exact Nat.lt_of_lt_of_le (by assumption) (by assumption)) h) (.mk _ _ _ _ _ _ [] (fun uA h=>nomatch h) rfl)
 refine fD ρ' O' e ?_
 rw[xn] at h
 rwa [show (0:Nat)+((n:Int) - 0).toNat=n by lia] at h
theorem zr7{k:Nat}{s:List Int}{m:Nat}{cs:List (List Int)}(hs:s.length≤63)(hm:m4 m)(hf:Found m cs):∃ ds:List Dn,(∀ d∈ds,OkD m d)∧ds.length≤3∧zg P table (k+3) false 27 [.d (.list (s.map .int)),.d (.int 1),.d (.int m),.d (.list (zb cs))] []=.ok (.d (.list (dnsD ds))) []:=by
 have n1:zg P table (k+2) false 22 [.d (.list (s.map .int)),.d (.int 1)] []=.ok (.d (.int (mixI s 1))) []:=kl (k:=k) (j:=1) (O:=[]) hs
 generalize mixI s 1=n0 at n1
 refine eY (md n0 5 [Box.lst []] (by decide)) ?_;intro j hj ej
 have hn:∃ n:Nat,n≤3∧idxD (.list [.int 0,.int 0,.int 1,.int 2,.int 3]) (.int (j:Int))=some (.int (n:Int)):=by
  have:j=0∨j=1∨j=2∨j=3∨j=4:=by lia
  rcases this with rfl | rfl | rfl | rfl | rfl
  ·exact eZ 0 (by decide) rfl
  ·exact eZ 0 (by decide) rfl
  ·exact eZ 1 (by decide) rfl
  ·exact eZ 2 (by decide) rfl
  ·exact eZ 3 (by decide) rfl
 refine eY hn ?_;clear hn;intro n hn en
 refine fy (zra (k:=k) (n:=n) (n0:=n0) hs hm hf (by lia)) ?_;intro ρ' O' el hat
 have hI:evI (PG (k+2) false) (R18 s m cs n0 none none none none none none) (.range (.int 0) (.idx (.list (.cons (.int 0) (.cons (.int 0) (.cons (.int 1) (.cons (.int 2) (.cons (.int 3) .nil)))))) (.bin .mod (.loc 4) (.int 5)))) [Box.lst []]=.ok (.plain (zi 0 n)) [Box.lst []]:=by
  have:evE (PG (k+2) false) (R18 s m cs n0 none none none none none none) (.idx (.list (.cons (.int 0) (.cons (.int 0) (.cons (.int 1) (.cons (.int 2) (.cons (.int 3) .nil)))))) (.bin .mod (.loc 4) (.int 5))) [Box.lst []]=.ok (.d (.int (n:Int))) [Box.lst []]:=xh rfl (z0 rfl rfl ej) (by rw[jx,en];rfl)
  rw[ux,jw,zj,this,zj]
  exact kc (by lia)
 generalize zi 0 (n:Int)=rs at el hI
 obtain⟨a,b,c,d,e,f,ds,ok,len⟩:=hat
 refine fi ds ok (by lia) ?_
 have hfor:evS (PG (k+2) false) (.for_ (.name 7) (.range (.int 0) (.idx (.list (.cons (.int 0) (.cons (.int 0) (.cons (.int 1) (.cons (.int 2) (.cons (.int 3) .nil)))))) (.bin .mod (.loc 4) (.int 5)))) doneBody) (R18 s m cs n0 none none none none none none) [Box.lst []]=.ok .next (R18 s m cs n0 a b c d e f,[Box.lst (dnsD ds)]):=by
  rw[v5,aj am,hI];exact el
 have hb:evSs (PG (k+2) false) c27.body [some (.d (.list (s.map .int))),some (.d (.int 1)),some (.d (.int m)),some (.d (.list (zb cs))),none,none,none,none,none,none,none,none,none] []=.ok (.ret (.box 0)) (R18 s m cs n0 a b c d e f,[Box.lst (dnsD ds)]):=
  (zc (zt (zm rfl n1) rfl rfl)).trans ((zc (zt (zm rfl (zr3 (k:=k+1) hm)) rfl rfl)).trans ((zc (zt (v:=.box 0) (O':=[Box.lst []]) rfl rfl rfl)).trans ((zc hfor).trans (ze (yf rfl)))))
 rw[ji (fn:=c27) rfl ⟨rfl,by decide⟩]
 unfold evFn
 show (match evSs (PG (k+2) false) c27.body [some (.d (.list (s.map .int))),some (.d (.int 1)),some (.d (.int m)),some (.d (.list (zb cs))),none,none,none,none,none,none,none,none,none] [] with | .ok (.ret v) S=>fin 0 false v S.2 | .ok .next S=>.ok (.d .none) (S.2.take 0) | .stuck=>.stuck)=_
 rw[hb];rfl
structure Lay(n:Nat)(x:PyData):Prop where
 lay:x.canLay0=true
 depth:x.depth≤n
theorem lay_all{n:Nat}:∀ (xs:List PyData),(∀ x∈xs,Lay n x)→PyData.canLayAll0 xs=true∧PyData.depthAll xs≤n
 | [],_=>⟨rfl,a8 _⟩
 | x::xs,h=>by
   refine ff (lay_all xs fun y hy=>h y (ag _ hy)) ?_;intro h1 h2
   have hx:=h x ao
   refine⟨?_,Nat.max_le.mpr ⟨hx.depth,h2⟩⟩
   show (x.canLay0 && PyData.canLayAll0 xs)=true
   rw[hx.lay,h1];rfl
theorem Lay.list{n:Nat}{xs:List PyData}(h:∀ x∈xs,Lay n x):Lay (n+1) (.list xs):=⟨(lay_all xs h).1,cj (lay_all xs h).2⟩
theorem Lay.eq{n:Nat}{x:PyData}(h:Lay n x)(hn:n≤100):kr .eq x x=some true∧kr .ne x x=some false:=by
 have h3:eqOk x x=true:=by
  unfold eqOk
  rw[h.lay,aD (by rw[Nat.min_self];exact ak h.depth hn)];rfl
 refine⟨?_,?_⟩
 ·show (if eqOk x x=true then some (PyData.eqv x x) else none)=_
  rw[af h3,PySem.SeqAt.eqv_refl x h.lay]
 ·show (if eqOk x x=true then some (!PyData.eqv x x) else none)=_
  rw[af h3,PySem.SeqAt.eqv_refl x h.lay];rfl
theorem vz(cs:List (List Int)):∀ x∈zb cs,Lay 10 x:=fun x hx=>by
 refine eY (av.mp hx) ?_;intro c _ eo;subst eo
 exact⟨dj,ak (zac c) (by decide)⟩
theorem zee{f:PyData→Option PyData}:∀ xs:List PyData,(xs.filterMap f).isEmpty=xs.all fun x=>(f x).isNone
 | []=>rfl
 | x::xs=>by
   cases h:f x with
   | none=>rw[cP h,zee xs,dR,h];rfl
   | some y=>rw[cQ h,dR,h];rfl
theorem p0{xs ys:List PyData}(h1:PyData.canLayAll0 xs=true)(h2:PyData.canLayAll0 ys=true)(h3:(PyData.list ys).depth≤100):eqOk (.list xs) (.list ys)=true:=by
 unfold eqOk
 rw[show (PyData.list xs).canLay0=true from h1,show (PyData.list ys).canLay0=true from h2,aD (ak (Nat.min_le_right _ _) h3)];rfl
theorem zcv{xs:List PyData}{O:za}(h:∀ x∈xs,Lay 10 x):cmpV .eq (.d (.list xs)) (.d (.list [])) O=.ok (.d (.bool xs.isEmpty)) O:=by
 rw[v_eq]
 show opt (Option.map _ (if eqOk (.list xs) (.list [])=true then some (PyData.eqv (.list xs) (.list [])) else none)) O=_
 rw[af (p0 (Lay.list h).lay rfl (by decide))]
 cases xs <;> rfl
noncomputable def uq(c:List Int)(y:PyData):Option PyData:=if xb (unD y) c=(unD y).2.2 then none else some (.int 1)
theorem zjz{c:List Int}{ds:List Dn}:((dnsD ds).filterMap (uq c)).isEmpty=x0 ds c:=by
 rw[zee]
 unfold x0 dnsD
 rw[List.all_map]
 congr 1
 funext d
 show (uq c (dnD d)).isNone=_
 unfold uq
 rw[w5]
 by_cases h:xb d c=d.2.2
 ·rw[af h,aD h];rfl
 ·rw[aj h,aN h];rfl
theorem zjy{c:List Int}{ys:List PyData}:∀ x∈ys.filterMap (uq c),Lay 10 x:=fun x hx=>by
 refine eY (List.mem_filterMap.mp hx) ?_;intro y _ e
 unfold uq at e
 by_cases h:xb (unD y) c=(unD y).2.2
 ·rw[af h] at e;exfalso;injection e
 ·rw[aj h] at e;injection e with eU;subst eU;exact⟨rfl,a8 _⟩
noncomputable abbrev R19(cs:List (List Int))(ds:List Dn)(a b c:Option V):Loc:=[some (.d (.list (zb cs))),some (.d (.list (dnsD ds))),a,b,c]
theorem zrz{k m:Nat}{cs:List (List Int)}{ds:List Dn}{c:List Int}{O:za}(hm:m4 m)(hc:good m c)(hd:Dns m ds) :
 evE (PG (k+1) false) (R19 cs ds (some (.d (caseD c))) none none) (.cmp .eq (.comp (.int 1) (.two (.name 3) (.name 4)) (.e (.loc 1)) (.cons (.cmp .ne (.call 23 (.cons (.loc 3) (.cons (.loc 2) .nil))) (.loc 4)) .nil)) (.list .nil)) O=.ok (.d (.bool (x0 ds c))) O:=by
 have hl:(dnsD ds).length≤line:=by rw[xd];exact ak hd.le (by decide)
 have:=v6 (P:=PG (k+1) false) (ρ:=R19 cs ds (some (.d (caseD c))) none none) (elt:=.int 1) (tgt:=.two (.name 3) (.name 4)) (it:=.e (.loc 1)) (ifs:=.cons (.cmp .ne (.call 23 (.cons (.loc 3) (.cons (.loc 2) .nil))) (.loc 4)) .nil) (src:=.plain (dnsD ds)) (O:=O) rfl rfl rfl hl (uq c) fun x hx=>by
  refine eY (av.mp hx) ?_;intro d hdm eo;subst eo
  have w:=ud hm (hd.ok d hdm).w
  have ht:evE (PG (k+1) false) (R19 cs ds (some (.d (caseD c))) (some (.d (wOf d.1 d.2.1))) (some (.d (.int d.2.2)))) (.cmp .ne (.call 23 (.cons (.loc 3) (.cons (.loc 2) .nil))) (.loc 4)) O=.ok (.d (.bool (!decide (xb d c=d.2.2)))) O:=z9 (zm rfl (zhp hm hc w.l w.r)) rfl ne_int
  show R.bind (jf (PG (k+1) false) (R19 cs ds (some (.d (caseD c))) (some (.d (wOf d.1 d.2.1))) (some (.d (.int d.2.2)))) _ O) _=_
  rw[zgu,ht]
  unfold uq
  rw[w5]
  by_cases h:xb d c=d.2.2
  ·rw[af h,aD h];rfl
  ·rw[aj h,aN h];rfl
 refine z9 this rfl ?_
 refine (zcv zjy).trans ?_
 show R.ok (V.d (.bool ((dnsD ds).filterMap (uq c)).isEmpty)) O=_
 rw[zjz]
theorem zol{k m:Nat}{cs:List (List Int)}{ds:List Dn}{O:za}(hm:m4 m)(f:Found m cs)(hd:Dns m ds):zg P table (k+2) false 28 [.d (.list (zb cs)),.d (.list (dnsD ds))] O=.ok (.d (.list (zb (zw cs ds)))) O:=by
 have hl:(zb cs).length≤line:=by rw[zl];exact ak f.le (by decide)
 have:=v6 (P:=PG (k+1) false) (ρ:=R19 cs ds none none none) (elt:=.loc 2) (tgt:=.name 2) (it:=.e (.loc 0)) (ifs:=.cons (.cmp .eq (.comp (.int 1) (.two (.name 3) (.name 4)) (.e (.loc 1)) (.cons (.cmp .ne (.call 23 (.cons (.loc 3) (.cons (.loc 2) .nil))) (.loc 4)) .nil)) (.list .nil)) .nil) (src:=.plain (zb cs)) (O:=O) rfl rfl rfl hl (qf ds) fun x hx=>by
  refine eY (av.mp hx) ?_;intro c hc eo;subst eo
  have ht:=zrz (k:=k) (cs:=cs) (O:=O) hm (f.good c hc) hd
  show R.bind (jf (PG (k+1) false) (R19 cs ds (some (.d (caseD c))) none none) _ O) _=_
  rw[zgu,ht]
  unfold qf
  rw[xi]
  cases x0 ds c <;> rfl
 rw[show (Src.plain (zb cs)).xs.filterMap (qf ds)=zb (zw cs ds) from jp ds cs] at this
 exact zv (fn:=c28) rfl ⟨rfl,by decide⟩ rfl (ze (yf this))
noncomputable abbrev Cs:=List (List Int)
noncomputable abbrev Wg:=List Int×List Int
noncomputable def zx(w:Wg)(c:List Int):Int:=sgn (yr c w.1 - yr c w.2)
noncomputable def zf(w:Wg)(o:Int)(cs:Cs):Cs:=cs.filter fun c=>decide (zx w c=o)
theorem zh5(d:Int):sgn d = -1∨sgn d=0∨sgn d=1:=by
 unfold sgn
 by_cases h:d > 0
 ·rw[af h];exact .inr (.inr rfl)
 ·rw[aj h]
  by_cases h:d < 0
  ·rw[af h];exact .inl rfl
  ·rw[aj h];exact .inr (.inl rfl)
theorem zdt(w:Wg):∀ cs:Cs,(zf w (-1) cs).length+(zf w 0 cs).length+(zf w 1 cs).length=cs.length
 | []=>rfl
 | c::cs=>by
   have ih:=zdt w cs
   unfold zf at ih ⊢
   rw[dQ,dQ,dQ]
   rcases zh5 (yr c w.1 - yr c w.2) with h | h | h
   ·have h:zx w c = -1:=h
    rw[h,af (by decide),aj (by decide),aj (by decide)]
    simp only[aU];lia
   ·have h:zx w c=0:=h
    rw[h,aj (by decide),af (by decide),aj (by decide)]
    simp only[aU];lia
   ·have h:zx w c=1:=h
    rw[h,aj (by decide),aj (by decide),af (by decide)]
    simp only[aU];lia
noncomputable def outs:List Int:=[-1,0,1]
noncomputable def solv(ws:List Wg):Nat→Cs→Bool
 | 0,cs=>cs.length == 1
 | n+1,cs=>cs.length == 1 || (decide (cs.length≤3 ^ (n+1)) && ws.any fun w=>outs.all fun o=>(zf w o cs).isEmpty || solv ws n (zf w o cs))
variable{ws:List Wg}
theorem jb{n:Nat}{cs:Cs}(h:cs.length=1):solv ws n cs=true:=by
 cases n with
 | zero=>exact aQ.mpr h
 | succ n=>unfold solv;rw[h];rfl
theorem solv_succ{n:Nat}{cs:Cs}:solv ws (n+1) cs=true↔cs.length=1∨cs.length≤3 ^ (n+1)∧∃ w∈ws,∀ o∈outs,zf w o cs=[]∨solv ws n (zf w o cs)=true:=by
 show (cs.length == 1 || (decide (cs.length≤3 ^ (n+1)) && ws.any fun w=>outs.all fun o=>(zf w o cs).isEmpty || solv ws n (zf w o cs)))=true↔_
 rw[bG,aG,aQ,aK,dI]
 simp only[aI,bG,cM]
theorem zdk{cs:Cs}:∀ {n:Nat},solv ws n cs=true→cs.length≤3 ^ n
 | 0,h=>Nat.le_of_eq (aQ.mp h)
 | n+1,h=>by
   refine eW (solv_succ.mp h) ?_ ?_
   ·intro h;rw[h];exact Nat.one_le_pow _ _ (by decide)
   ·intro h;exact h.1
theorem zbc:∀ {n:Nat} {cs:Cs},solv ws n cs=true→solv ws (n+1) cs=true
 | 0,cs,h=>jb (aQ.mp h)
 | n+1,cs,h=>by
   refine eW (solv_succ.mp h) ?_ ?_
   ·intro h;exact jb h
   ·rintro ⟨h1,w,hw,h⟩;refine solv_succ.mpr (.inr ⟨ak h1 (Nat.pow_le_pow_right (by decide) (cH _)),w,hw,fun o ho=>(h o ho).imp id zbc⟩)
theorem zna{n m:Nat}{cs:Cs}(h:solv ws n cs=true)(hm:n≤m):solv ws m cs=true:=by
 refine fe (Nat.exists_eq_add_of_le hm) ?_;intro k eg;subst eg
 induction k with
 | zero=>exact h
 | succ k ih=>exact zbc (ih (dP _ _))
theorem gj:∀ {n:Nat} {cs cs':Cs},solv ws n cs=true→cs'.Sublist cs→cs'≠[]→solv ws n cs'=true
 | 0,cs,cs',h,hs,hn=>by
   have h:cs.length=1:=aQ.mp h
   have:=hs.length_le
   have:0 < cs'.length:=cR.mpr hn
   exact aQ.mpr (by lia)
 | n+1,cs,cs',h,hs,hn=>by
   have hp:0 < cs'.length:=cR.mpr hn
   have hl:=hs.length_le
   refine eW (solv_succ.mp h) ?_ ?_
   ·intro h;exact jb (by lia)
   ·rintro ⟨h1,w,hw,h⟩;refine solv_succ.mpr (.inr ⟨ak hl h1,w,hw,fun o ho=>?_⟩)
    by_cases he:zf w o cs'=[]
    ·exact .inl he
    ·refine eW (h o ho) ?_ ?_
     ·intro h;have:=(hs.filter fun c=>decide (zx w c=o))
      unfold zf at h he
      rw[h] at this
      exact absurd (List.sublist_nil.mp this) he
     ·intro h;exact .inr (gj h (hs.filter _) he)
theorem gp{n:Nat}{w:Wg}{cs:Cs}(hw:w∈ws)(h:∀ o∈outs,zf w o cs=[]∨solv ws n (zf w o cs)=true):solv ws (n+1) cs=true:=by
 have le:∀ o∈outs,(zf w o cs).length≤3 ^ n:=fun o ho=>by
  refine eW (h o ho) ?_ ?_
  ·intro h;rw[h];exact a8 _
  ·intro h;exact zdk h
 have h1:=le (-1) (by decide)
 have h2:=le 0 (by decide)
 have h3:=le 1 (by decide)
 have:=zdt w cs
 exact solv_succ.mpr (.inr ⟨by rw[Nat.pow_succ];lia,w,hw,h⟩)
noncomputable def yt(ws:List Wg)(a b:List Int):Bool:=ws.all fun w=>decide (zx w a=zx w b)
noncomputable def Pw(ws:List Wg)(cs:Cs):Prop:=cs.Pairwise fun a b=>yt ws a b=false
theorem Pw.solv{cs:Cs}:∀ {vs:List Wg},(∀ v∈vs,v∈ws)→∀ {cs:Cs},Pw vs cs→cs≠[]→solv ws vs.length cs=true
 | [],_,cs,hp,hn=>by
   cases cs with
   | nil=>exact absurd rfl hn
   | cons a l=>cases l with
     | nil=>exact jb rfl
     | cons b l=>exact absurd ((aY.mp hp).1 b (.head _)) (by intro h;exfalso;injection h)
 | w::vs,hv,cs,hp,hn=>by
   refine gp (hv w (.head _)) fun o uA=>?_
   by_cases he:zf w o cs=[]
   ·exact .inl he
   ·refine .inr (Pw.solv (cs:=cs) (fun v h=>hv v (.tail _ h)) ?_ he)
    have h1:Pw (w::vs) (zf w o cs):=hp.sublist ch
    refine List.Pairwise.imp_of_mem (R:=fun a b=>yt (w::vs) a b=false) (fun {a b} ha hb h=>?_) h1
    have ha:zx w a=o:=bh (bw.mp ha).2
    have hb:zx w b=o:=bh (bw.mp hb).2
    unfold yt at h
    rw[dR,ha,hb,aD rfl,Bool.true_and] at h
    exact h
structure Least(ws:List Wg)(n:Nat)(cs:Cs):Prop where
 yes:solv ws n cs=true
 no:∀ k,k < n→solv ws k cs=false
theorem Least.le{n k:Nat}{cs:Cs}(h:Least ws n cs)(hk:solv ws k cs=true):n≤k:=by
 refine eW (bk k n) ?_ ?_
 ·intro hl;rw[h.no k hl] at hk;exfalso;injection hk
 ·intro hl;exact hl
theorem Least.one{n:Nat}{cs:Cs}(h:Least ws n cs)(hl:cs.length=1):n=0:=Nat.le_zero.mp (h.le (jb hl))
theorem Least.part{n k:Nat}{w:Wg}{o:Int}{cs:Cs}(h:Least ws n cs)(hk:Least ws k (zf w o cs))(he:zf w o cs≠[]):k≤n:=hk.le (gj h.yes ch he)
theorem Least.step{n:Nat}{cs:Cs}{M:Wg→Nat}(h:Least ws n cs)(hl:cs.length≠1)(hM:∀ w∈ws,(∀ o∈outs,zf w o cs=[]∨solv ws (M w) (zf w o cs)=true)∧∀ k,(∀ o∈outs,zf w o cs=[]∨solv ws k (zf w o cs)=true)→M w≤k) :
 ∃ w∈ws,n=M w+1∧∀ v∈ws,M w≤M v:=by
 cases n with
 | zero=>exact absurd (aQ.mp h.yes) hl
 | succ n=>
   refine eW (solv_succ.mp h.yes) ?_ ?_
   ·intro h';exact absurd h' hl
   ·rintro ⟨_,w,hw,h'⟩;have low:∀ v∈ws,n≤M v:=fun v hv=>Nat.le_of_succ_le_succ (h.le (gp hv (hM v hv).1))
    have e:n=M w:=Nat.le_antisymm (low w hw) ((hM w hw).2 n h')
    exact fi w hw (by rw[e]) (fun v hv=>e ▸ low v hv)
theorem zfs{ws:List Wg}:∀ (n:Nat) {cs:Cs},Pw ws cs→cs≠[]→cs.length≤n+1→solv ws n cs=true
 | n,cs,hp,hn,hl=>by
   cases cs with
   | nil=>exact absurd rfl hn
   | cons a l=>
     cases l with
     | nil=>exact jb rfl
     | cons b l=>
       cases n with
       | zero=>exact absurd hl (by simp)
       | succ n=>
         have hab:yt ws a b=false:=(aY.mp hp).1 b (.head _)
         refine eY (List.all_eq_false.mp hab) ?_;intro w hw hd
         rw [aK] at hd
         refine gp hw fun o uA=>?_
         by_cases he:zf w o (a::b::l)=[]
         ·exact .inl he
         ·refine .inr (zfs n (hp.sublist ch) he ?_)
          have hs:(zf w o (a::b::l)).Sublist (a::b::l):=ch
          refine eW (bk (zf w o (a::b::l)).length (a::b::l).length) ?_ ?_
          ·intro h;lia
          ·intro h;have e:=hs.eq_of_length (Nat.le_antisymm hs.length_le h)
           have ha:a∈zf w o (a::b::l):=by rw [e];exact ao
           have hb:b∈zf w o (a::b::l):=by rw [e];exact ag _ ao
           exact absurd ((bh (bw.mp ha).2).trans (bh (bw.mp hb).2).symm) hd
end Mine.L11
end
section
namespace Mine.L11
open PySem Mine
theorem mem_part{w:Wg}{o:Int}{cs:Cs}{c:List Int}:c∈zf w o cs↔c∈cs∧zx w c=o:=by unfold zf;rw[bw,aK]
noncomputable abbrev wD(w:Wg):PyData:=wOf w.1 w.2
noncomputable def wv(w:Wg)(o:Int)(x:PyData):Option PyData:=if decide (zx w (unC x)=o) then some x else none
theorem qe(w:Wg)(o:Int):∀ cs:Cs,(zb cs).filterMap (wv w o)=zb (zf w o cs)
 | []=>rfl
 | c::cs=>by
   show (caseD c::zb cs).filterMap (wv w o)=_
   unfold zf
   cases h:decide (zx w c=o) with
   | true=>rw[cQ (show wv w o (caseD c)=some (caseD c) by unfold wv;rw[xi,h];rfl),qe w o cs,List.filter_cons_of_pos (p:=fun c=>decide (zx w c=o)) h];rfl
   | false=>rw[cP (show wv w o (caseD c)=none by unfold wv;rw[xi,h];rfl),qe w o cs,List.filter_cons_of_neg (p:=fun c=>decide (zx w c=o)) (by rw[h];decide)];rfl
structure Ok12(m:Nat)(cs:Cs):Prop where
 good:∀ c∈cs,good m c
 le:cs.length≤12
theorem Ok12.part{m:Nat}{cs:Cs}(h:Ok12 m cs)(w:Wg)(o:Int):Ok12 m (zf w o cs):=⟨fun c hc=>h.good c (mem_part.mp hc).1,ak (List.length_filter_le _ _) h.le⟩
theorem Ok12.line{m:Nat}{cs:Cs}(h:Ok12 m cs):(zb cs).length≤line:=by rw[zl];exact ak h.le (by decide)
theorem zr2{k f m a b:Nat}{w:Wg}{o:Int}{cs:Cs}{wx ox:CE}{ρ:Loc}{O:za}(h:Ok12 m cs)(hf:∀ c,good m c→zg P table k false f [.d (wD w),.d (caseD c)] O=.ok (.d (.int (zx w c))) O)(ha:Nat.blt a ρ.length=true)
 (hb:ρ[b]?=some (some (.d (.list (zb cs))))) (hw:∀ x,evE (PG k false) (ρ.set a (some (.d x))) wx O=.ok (.d (wD w)) O) (ho:∀ x,evE (PG k false) (ρ.set a (some (.d x))) ox O=.ok (.d (.int o)) O) :
 evE (PG k false) ρ (.comp (.loc a) (.name a) (.e (.loc b)) (.cons (.cmp .eq (.call f (.cons wx (.cons (.loc a) .nil))) ox) .nil)) O=.ok (.d (.list (zb (zf w o cs)))) O:=by
 have ha:a < ρ.length:=dE ha
 have hI:evI (PG k false) ρ (.e (.loc b)) O=.ok (.plain (zb cs)) O:=by rw[x_e,x8,hb];rfl
 have:=v6 (P:=PG k false) (ρ:=ρ) (elt:=.loc a) (tgt:=.name a) (it:=.e (.loc b)) (ifs:=.cons (.cmp .eq (.call f (.cons wx (.cons (.loc a) .nil))) ox) .nil) (O:=O) rfl hI rfl h.line (wv w o) fun x hx=>by
  refine eY (av.mp hx) ?_;intro c hc eo;subst eo
  have ea:evE (PG k false) (ρ.set a (some (.d (caseD c)))) (.loc a) O=.ok (.d (caseD c)) O:=by rw[x8,co ha];rfl
  have et:evE (PG k false) (ρ.set a (some (.d (caseD c)))) (.cmp .eq (.call f (.cons wx (.cons (.loc a) .nil))) ox) O=.ok (.d (.bool (decide (zx w c=o)))) O:=z9 (zm (zr (hw _) (zr ea rfl)) (hf c (h.good c hc))) (ho _) eq_int
  unfold xu zq
  rw[af ha]
  show R.bind (jf (PG k false) (ρ.set a (some (.d (caseD c)))) _ O) _=_
  rw[zgu,et]
  unfold wv
  rw[xi]
  cases decide (zx w c=o) with
  | true=>
    show R.bind (evE (PG k false) (ρ.set a (some (.d (caseD c)))) (.loc a) O) _=_
    rw[ea];rfl
  | false=>rfl
 rw[this]
 show R.ok (V.d (.list ((zb cs).filterMap (wv w o)))) O=_
 rw[qe]
theorem zgj{k m:Nat}{w:Wg}{O:za}(hm:m4 m)(hw:w∈wsI m)(c:List Int)(hc:good m c):zg P table (k+1) false 8 [.d (wD w),.d (caseD c)] O=.ok (.d (.int (zx w c))) O:=zl0 hm hc (ud hm hw).l (ud hm hw).r
theorem jo{ys:List PyData}{turn:PyData→Loc→za→R (Loc×za) Fl}{x:PyData}{xs:List PyData}{ρ ρ':Loc}{O O':za}(h:turn x ρ O=.ok .next (ρ',O')):z7 (.plain ys) turn (x::xs) ρ O=z7 (.plain ys) turn xs ρ' O':=by
 rw[z7,h];exact af rfl
theorem zjb{k:Nat}{f:Nat}{fn:Fn}{args:List V}{O:za}{ρ ρ':Loc}{xs:List PyData}(h:table f=some fn)(hl:args.length=fn.arity∧fn.arity≤fn.slots)(hρ:args.map some++List.replicate (fn.slots - fn.arity) none=ρ)(hk:fn.keep=false)
 (hb:evSs (PG k false) fn.body ρ O=.ok (.ret (.box O.length)) (ρ',O++[.lst xs])):zg P table (k+1) false f args O=.ok (.d (.list xs)) O:=by
 rw[ji h hl,evFn,hρ,hb]
 show zaa O.length fn.keep O.length (O++[.lst xs])=_
 unfold zaa
 rw[aj (cB _),hk,aH (aL _),cr]
 show R.ok (V.d (.list xs)) ((O++[Box.lst xs]).take O.length)=_
 rw[List.take_left']
 rfl
theorem zfj{O:za}{a b:Box}:(O++[a]).set O.length b=O++[b]:=by rw[List.set_append_right _ _ (aL _),cr];rfl
theorem appN{O:za}{xs:List PyData}{x:PyData}(h:xs.length < line):meth .append (.box O.length) [.d x] (O++[Box.lst xs])=.ok (.d .none) (O++[Box.lst (xs++[x])]):=by
 show (match (O++[Box.lst xs])[O.length]? with | some (.lst xs)=>_ | _=>_)=_
 rw[aH (aL _),cr]
 show (if xs.length < line then R.ok (V.d .none) ((O++[Box.lst xs]).set O.length (.lst (xs++[x]))) else _)=_
 rw[af h,zfj]
theorem recN{O:za}{xs:List PyData}:recv .append (.box O.length) (O++[Box.lst xs])=true:=by
 show qb (O++[Box.lst xs]) O.length=true
 unfold qb
 rw[aH (aL _),cr]
 rfl
noncomputable def ztc:CSs:=.cons (.expr (.meth .append (.loc 2) (.cons (.comp (.loc 4) (.name 4) (.e (.loc 1)) (.cons (.cmp .eq (.call 8 (.cons (.loc 0) (.cons (.loc 4) .nil))) (.loc 3)) .nil)) .nil))) .nil
theorem gd{k m:Nat}{w:Wg}{o:Int}{cs:Cs}{z:Option V}{xs:List PyData}{O:za}(hm:m4 m)(hw:w∈wsI m)(h:Ok12 m cs)(hx:xs.length < line) :
 yq (PG (k+1) false) (.name 3) ztc (.int o) [some (.d (wD w)),some (.d (.list (zb cs))),some (.box O.length),z,none] (O++[Box.lst xs])=.ok .next ([some (.d (wD w)),some (.d (.list (zb cs))),some (.box O.length),some (.d (.int o)),none],O++[Box.lst (xs++[.list (zb (zf w o cs))])]):=by
 have ep:=zr2 (k:=k+1) (a:=4) (b:=1) (w:=w) (o:=o) (wx:=.loc 0) (ox:=.loc 3) (ρ:=[some (.d (wD w)),some (.d (.list (zb cs))),some (.box O.length),some (.d (.int o)),none]) (O:=O++[Box.lst xs]) h (zgj hm hw) rfl rfl (fun uA=>rfl) fun uA=>rfl
 exact (zc (ρ:=[some (.d (wD w)),some (.d (.list (zb cs))),some (.box O.length),some (.d (.int o)),none]) (jt (vg rfl recN (zr ep rfl) (appN hx)))).trans rfl
noncomputable def zfu(w:Wg)(cs:Cs):List PyData:=[.list (zb (zf w (-1) cs)),.list (zb (zf w 0 cs)),.list (zb (zf w 1 cs))]
theorem zlq{k m:Nat}{w:Wg}{cs:Cs}{O:za}(hm:m4 m)(hw:w∈wsI m)(h:Ok12 m cs):zg P table (k+2) false 9 [.d (wD w),.d (.list (zb cs))] O=.ok (.d (.list (zfu w cs))) O:=by
 refine zjb (fn:=c9) rfl ⟨rfl,by decide⟩ rfl rfl ((zc (zt (v:=.box O.length) (O':=O++[Box.lst []]) rfl rfl rfl)).trans ((zc (ρ':=[some (.d (wD w)),some (.d (.list (zb cs))),some (.box O.length),some (.d (.int 1)),none]) (O':=O++[Box.lst (zfu w cs)]) ?_).trans (ze (yf rfl))))
 rw[v5,aj am]
 exact (jo (gd hm hw h (by show 0 < 1000000;decide))).trans ((jo (gd hm hw h (by show 1 < 1000000;decide))).trans ((jo (gd hm hw h (by show 2 < 1000000;decide))).trans rfl))
theorem zlo{k n:Nat}{O:za}(hn:n≤11):zg P table (k+1) false 10 [.d (.int n)] O=.ok (.d (.int ((3 ^ n:Nat):Int))) O:=by
 have key:(List.range 12).map (fun n:Nat=>zg P table (k+1) false 10 [.d (.int n)] O)=(List.range 12).map fun n:Nat=>.ok (.d (.int ((3 ^ n:Nat):Int))) (O.take O.length):=by kernel_rfl
 rw[zcq key (aZ.mpr (Nat.lt_succ_of_le hn)),bp]
theorem zts{k:Nat}:zg P table (k+4) false 7 [.d (.int (2:Nat))] []=.ok (.d (.list (due 2))) []:=by kernel_rfl
theorem ztr{k:Nat}:zg P table (k+4) false 7 [.d (.int (3:Nat))] []=.ok (.d (.list (due 3))) []:=by kernel_rfl
theorem ztq{k:Nat}:zg P table (k+4) false 7 [.d (.int (4:Nat))] []=.ok (.d (.list (due 4))) []:=by kernel_rfl
theorem zq5{k:Nat}{b:Box}:zg P table (k+4) false 7 [.d (.int (2:Nat))] [b]=.ok (.d (.list (due 2))) [b]:=by kernel_rfl
theorem zq4{k:Nat}{b:Box}:zg P table (k+4) false 7 [.d (.int (3:Nat))] [b]=.ok (.d (.list (due 3))) [b]:=by kernel_rfl
theorem zq3{k:Nat}{b:Box}:zg P table (k+4) false 7 [.d (.int (4:Nat))] [b]=.ok (.d (.list (due 4))) [b]:=by kernel_rfl
inductive One:za→Prop
 | nil:One []
 | one (b:Box):One [b]
theorem zlw{k m:Nat}{O:za}(h2:2≤m)(h3:m≤4)(hO:One O):zg P table (k+4) false 7 [.d (.int m)] O=.ok (.d (.list (due m))) O:=by
 have hm:m=2∨m=3∨m=4:=by lia
 cases hO with
 | nil=>
   rcases hm with rfl | rfl | rfl
   ·exact zts
   ·exact ztr
   ·exact ztq
 | one b=>
   rcases hm with rfl | rfl | rfl
   ·exact zq5
   ·exact zq4
   ·exact zq3
theorem zpa(w:Wg):unW (wD w)=w:=Prod.ext (wa w.1) (wa w.2)
theorem zon{k m:Nat}{a b:List Int}{O:za}(hm:m4 m)(ha:good m a)(hb:good m b):zg P table (k+2) false 13 [.d (.list (due m)),.d (caseD a),.d (caseD b)] O=.ok (.d (.bool (yt (dueI m) a b))) O:=by
 have hl:(due m).length≤line:=by rcases wl hm with rfl | rfl | rfl | rfl <;> decide
 have hc:=uy (P:=PG (k+1) false) (ρ:=[some (.d (.list (due m))),some (.d (caseD a)),some (.d (caseD b)),none]) (elt:=.cmp .eq (.call 8 (.cons (.loc 3) (.cons (.loc 1) .nil))) (.call 8 (.cons (.loc 3) (.cons (.loc 2) .nil)))) (tgt:=.name 3) (it:=.e (.loc 0)) (O:=O) (src:=.plain (due m)) (fun x=>decide (zx (unW x) a=zx (unW x) b)) rfl rfl rfl rfl hl fun x hx=>⟨[some (.d (.list (due m))),some (.d (caseD a)),some (.d (caseD b)),some (.d x)],rfl,by
  refine eY (av.mp hx) ?_;intro w hw eo;subst eo
  have hw':w∈wsI m:=bA.mpr ⟨w,hw,.head _⟩
  rw[zpa]
  exact z9 (zm rfl (zgj hm hw' a ha)) (zm rfl (zgj hm hw' b hb)) eq_int⟩
 refine zv (fn:=c13) rfl ⟨rfl,by decide⟩ rfl (ze (yf (hc.trans ?_)))
 congr 3
 show ((dueI m).map fun p=>wOf p.1 p.2).all _=_
 unfold yt
 rw[List.all_map]
 congr 1
 funext w
 show decide (zx (unW (wD w)) a=zx (unW (wD w)) b)=_
 rw[zpa]
inductive Pl where
 | no
 | told (c:List Int)
 | weigh (w:Wg) (a b c:Pl)
noncomputable abbrev sT:Str:=Str.ofString "told"
noncomputable abbrev sW:Str:=Str.ofString "weigh"
noncomputable def Pl.toD:Pl→PyData
 | .no=>.none
 | .told c=>.tuple [.str sT,caseD c]
 | .weigh w a b c=>.tuple [.str sW,wD w,.tuple [a.toD,b.toD,c.toD]]
noncomputable def Pl.fits(m:Nat):Pl→Cs→Prop
 | .no,cs=>cs=[]
 | .told c,cs=>cs=[c]
 | .weigh w a b c,cs=>w∈dueI m∧cs≠[]∧a.fits m (zf w (-1) cs)∧b.fits m (zf w 0 cs)∧c.fits m (zf w 1 cs)
noncomputable def Pl.hgt:Pl→Nat
 | .weigh _ a b c=>max a.hgt (max b.hgt c.hgt)+1
 | _=>0
inductive PlR(m n:Nat)(cs:Cs)(y:PyData):Prop
 | mk (p:Pl) (e:y=p.toD) (fit:p.fits m cs) (le:p.hgt≤n)
noncomputable def ze4{α:Type}(Q:α→PyData→Prop):List α→List PyData→Prop
 | [],ys=>ys=[]
 | w::ws,ys=>∃ y zs,ys=y::zs∧Q w y∧ze4 Q ws zs
noncomputable abbrev zkk:PyData:=.tuple [.str (Str.ofString "many")]
noncomputable abbrev zuc(ys:List PyData):PyData:=.tuple [.str (Str.ofString "each"),.tuple ys]
noncomputable abbrev rowD(o:Int)(y:PyData):PyData:=.tuple [.int o,y]
noncomputable def Hd(m:Nat):Nat→Cs→PyData→Prop
 | 0,cs,y=>3 ^ 0 < cs.length∧y=zkk
 | n+1,cs,y=>(3 ^ (n+1) < cs.length∧y=zkk)∨∃ ys,y=zuc ys∧ze4 (fun w y=>∃ o z,y=rowD o z∧o∈outs∧Hd m n (zf w o cs) z) (dueI m) ys
theorem Hd.many{m:Nat}{cs:Cs}:∀ {n:Nat},3 ^ n < cs.length→Hd m n cs zkk
 | 0,h=>⟨h,rfl⟩
 | n+1,h=>.inl ⟨h,rfl⟩
noncomputable def Row(m n:Nat)(cs:Cs)(w:Wg)(y:PyData):Prop:=∃ o z,y=rowD o z∧o∈outs∧Hd m n (zf w o cs) z
theorem Hd.tup{m:Nat}{cs:Cs}{y:PyData}:∀ {n:Nat},Hd m n cs y→∃ xs,y=.tuple xs
 | 0,h=>⟨_,h.2⟩
 | n+1,h=>by
   refine eW h ?_ ?_<;>clear h
   ·intro h;exact fh _ h.2
   ·rintro ⟨ys,h,_⟩;exact fh _ h
noncomputable def Rs(m n:Nat)(cs:Cs):Bool→PyData→Prop
 | true,y=>PlR m n cs y
 | false,y=>Hd m n cs y
theorem Rs.nl{m n:Nat}{cs:Cs}{b:Bool}{y:PyData}(h:Rs m n cs b y)(l:List PyData):y≠.list l:=by
 cases b with
 | true=>obtain⟨p,rfl,_,_⟩:=h;cases p <;> exact fun h=>nomatch h
 | false=>refine fe (Hd.tup h) ?_;intro xs eg;subst eg;exact fun h=>nomatch h
structure Mild(Bd:List PyData→Prop):Prop where
 one:∀ x,¬ Bd [x]
 nil:¬ Bd []
 more:∀ x y z l,¬ Bd (x::y::z::l)
 str:∀ s y,(∀ l,y≠.list l)→¬ Bd [.str s,y]
 int:∀ i j,¬ Bd [.int i,.int j]
 row:∀ i xs,¬ Bd [.int i,.tuple xs]
 key:∀ xs i,¬ Bd [.tuple xs,.int i]
 pans:∀ (a b:List Int),¬ Bd [.tuple (a.map .int),.tuple (b.map .int)]
 rows:∀ i xs j ys,¬ Bd [rowD i xs,rowD j ys]
set_option tactic.hygienic true in
theorem mildP:Mild badP:=by
 constructor <;> intros <;> rintro (h | ⟨_,_,h⟩) <;> cases h
 rename_i h;exact h _ rfl
section
variable{Bd:List PyData→Prop}
theorem kb{x y:PyData}(hx:Shy Bd x)(hy:Shy Bd y)(h:¬ Bd [x,y]):Shy Bd (.tuple [x,y]):=.tuple (fun z hz=>by
 refine eW (ae.mp hz) ?_ ?_
 ·rintro rfl;exact hx
 ·intro hz;rw[ac.mp hz];exact hy) h
variable(M:Mild Bd)
include M
theorem w7{x y z:PyData}(hx:Shy Bd x)(hy:Shy Bd y)(hz:Shy Bd z):Shy Bd (.tuple [x,y,z]):=.tuple (fun u hu=>by
 refine eW (ae.mp hu) ?_ ?_
 ·rintro rfl;exact hx
 ·intro hu;refine eW (ae.mp hu) ?_ ?_
  ·rintro rfl;exact hy
  ·intro hu;rw[ac.mp hu];exact hz) (M.more _ _ _ _)
theorem k7(l:List Int):Shy Bd (.tuple (l.map .int)):=by
 refine .tuple (fun x hx=>?_) ?_
 ·refine eY (av.mp hx) ?_;intro i _ eo;subst eo;exact .int i
 ·match l with
  | []=>exact M.nil
  | [_]=>exact M.one _
  | [i,j]=>exact M.int i j
  | _::_::_::_=>exact M.more _ _ _ _
theorem x6(cs:Cs):Shy Bd (.list (zb cs)):=.list fun x hx=>by
 refine eY (av.mp hx) ?_;intro c _ eo;subst eo;exact k7 M c
theorem zjx(w:Wg):Shy Bd (wD w):=kb (k7 M w.1) (k7 M w.2) (M.pans _ _)
theorem znd(m:Nat):Shy Bd (.list (due m)):=.list fun x hx=>by
 refine eY (av.mp hx) ?_;intro w _ eo;subst eo;exact zjx M w
theorem k6:∀ p:Pl,Shy Bd p.toD
 | .no=>.none
 | .told c=>kb (.str _) (k7 M c) (M.str _ _ fun uA h=>nomatch h)
 | .weigh w a b c=>w7 M (.str _) (zjx M w) (w7 M (k6 a) (k6 b) (k6 c))
theorem zdn{m n:Nat}{cs:Cs}(ih:∀ {cs:Cs} {y:PyData},Hd m n cs y→Shy Bd y):∀ {ws:List Wg} {ys:List PyData},ze4 (Row m n cs) ws ys→(∀ y∈ys,Shy Bd y)∧¬ Bd ys
 | [],ys,h=>by subst h;exact⟨fun uA h=>(nomatch h),M.nil⟩
 | w::ws,ys,h=>by
   refine fk h ?_;clear h;intro y zs eo hr h;subst eo
   refine fk hr ?_;clear hr;intro o z eo _ hz;subst eo
   obtain⟨xs,rfl⟩:=hz.tup
   refine⟨fun x hx=>?_,?_⟩
   ·refine eW (ae.mp hx) ?_ ?_
    ·rintro rfl;exact kb (.int o) (ih hz) (M.row _ _)
    ·intro hx;exact (zdn ih h).1 x hx
   ·match ws,zs,h with
    | [],zs,h=>have h:zs=[]:=h;subst h;exact M.one _
    | _::_,zs,h=>
      refine fk h ?_;clear h;intro _ zs' eo hr _;subst eo
      refine fk hr ?_;clear hr;intro o' z' eo _ hz';subst eo
      cases zs' with
      | nil=>exact M.rows _ _ _ _
      | cons _ _=>exact M.more _ _ _ _
theorem gq{m:Nat}:∀ {n:Nat} {cs:Cs} {y:PyData},Hd m n cs y→Shy Bd y
 | 0,cs,y,h=>by rw[h.2];exact .tuple (fun x hx=>by rw[ac.mp hx];exact .str _) (M.one _)
 | n+1,cs,y,h=>by
   refine eW h ?_ ?_<;>clear h
   ·intro h;rw[h.2];exact .tuple (fun x hx=>by rw[ac.mp hx];exact .str _) (M.one _)
   ·rintro ⟨ys,rfl,h⟩;refine ff (zdn M (fun h=>gq h) h) ?_;intro h1 h2
    exact kb (.str _) (.tuple h1 h2) (M.str _ _ fun uA h=>nomatch h)
theorem Rs.shy{m n:Nat}{cs:Cs}{b:Bool}{y:PyData}(h:Rs m n cs b y):Shy Bd y:=by
 cases b with
 | true=>obtain⟨p,rfl,_,_⟩:=h;exact k6 M p
 | false=>exact gq M h
end
noncomputable def word(b:Bool):PyData:=.str (if b then Str.ofString "plan" else Str.ofString "hold")
noncomputable def resD(b:Bool)(y:PyData):PyData:=.tuple [word b,y]
theorem zj6(b:Bool)(O:za):cmpV .eq (.d (word b)) (.d (.str (Str.ofString "hold"))) O=.ok (.d (.bool !b)) O:=by cases b <;> kernel_rfl
theorem zqs(b:Bool)(O:za):cmpV .eq (.d (word b)) (.d (.str (Str.ofString "plan"))) O=.ok (.d (.bool b)) O:=by cases b <;> kernel_rfl
theorem zdm(b:Bool):Shy badP (word b):=.str _
theorem znc(q:MKey):Shy badP (p8 q):=kb (.tuple (fun x hx=>by
 refine eY (av.mp hx) ?_;intro c _ eo;subst eo;exact k7 mildP c) fun h=>by
 refine eW h ?_ ?_<;>clear h
 ·intro h;rcases q with ⟨q,_⟩
  cases q with
  | nil=>exfalso;injection h
  | cons _ _=>injection h with h _;exfalso;injection h
 ·rintro ⟨a,l,h⟩;rcases q with ⟨q,_⟩
  cases q with
  | nil=>exfalso;injection h
  | cons _ q=>cases q with
    | nil=>injection h with _ h;exfalso;injection h
    | cons _ _=>injection h with _ h;injection h with h _;exfalso;injection h) (.int _) (mildP.key _ _)
noncomputable def allK:Cs→List MKey
 | []=>(List.range 12).map fun n:Nat=>([],(n:Int))
 | c::l=>allK l++(allK l).map fun q=>(c::q.1,q.2)
theorem ze0:∀ C:Cs,(allK C).length=12 * 2 ^ C.length
 | []=>rfl
 | c::l=>by
   show (allK l++(allK l).map _).length=_
   rw[aX,aw,ze0 l,aU,Nat.pow_succ];lia
theorem zmo{s C:Cs}{n:Nat}(h:s.Sublist C)(hn:n≤11):(s,(n:Int))∈allK C:=by
 induction h with
 | slnil=>exact av.mpr ⟨n,aZ.mpr (Nat.lt_succ_of_le hn),rfl⟩
 | cons c _ ih=>exact az _ ih
 | cons_cons c _ ih=>exact au _ (av.mpr ⟨_,ih,rfl⟩)
theorem nodup_le{α:Type}[DecidableEq α]:∀ {l L:List α},l.Nodup→(∀ a∈l,a∈L)→l.length≤L.length
 | [],L,_,_=>a8 _
 | a::l,L,hn,hs=>by
   have ha:=hs a (.head _)
   have ih:=nodup_le (L:=L.erase a) (bH.mp hn).2 fun b hb=>(List.mem_erase_of_ne (fun e:b=a=>(bH.mp hn).1 (e ▸ hb))).mpr (hs b (.tail _ hb))
   rw[List.length_erase_of_mem ha] at ih
   have:=List.length_pos_of_mem ha
   rw[aU];lia
structure InC(m:Nat)(C cs:Cs):Prop extends Ok12 m cs where
 sub:cs.Sublist C
theorem InC.part{m:Nat}{C cs:Cs}(h:InC m C cs)(w:Wg)(o:Int):InC m C (zf w o cs):=⟨h.toOk12.part w o,ch.trans h.sub⟩
structure Mem(m:Nat)(C:Cs)(kvs:List (MKey×PyData)):Prop where
 ok:∀ kv∈kvs,∃ n:Nat,kv.1.2=n∧∃ y,kv.2=resD (solv (dueI m) n kv.1.1) y∧Rs m n kv.1.1 (solv (dueI m) n kv.1.1) y
 keys:∀ kv∈kvs,kv.1∈allK C
 nodup:(kvs.map (·.1)).Nodup
 small:C.length≤12
theorem Mem.len{m:Nat}{C:Cs}{kvs:List (MKey×PyData)}(h:Mem m C kvs):kvs.length≤line:=by
 have:=nodup_le h.nodup fun q hq=>by refine eY (av.mp hq) ?_;intro kv hkv eo;subst eo;exact h.keys kv hkv
 rw[aw,ze0] at this
 have hp:2 ^ C.length≤2 ^ 12:=Nat.pow_le_pow_right (by decide) h.small
 exact ak this (ak (Nat.mul_le_mul_left 12 hp) (by decide))
theorem Mem.find{m n:Nat}{C cs:Cs}{kvs:List (MKey×PyData)}{x:PyData}(h:Mem m C kvs)(e:z5 kvs (cs,(n:Int))=some x):∃ y,x=resD (solv (dueI m) n cs) y∧Rs m n cs (solv (dueI m) n cs) y:=by
 refine eY (aE.mp e) ?_;intro kv h1 eo;subst eo
 have h2:kv.1=(cs,(n:Int)):=bh (List.find?_some (p:=fun kv:MKey×PyData=>decide (kv.1=(cs,(n:Int)))) h1)
 refine eY (h.ok kv (List.mem_of_find?_eq_some h1)) ?_;intro n' e1 eo;refine eY eo ?_;clear eo;intro y e2 hy
 rw[h2] at e1 e2 hy
 have:n'=n:=(Int.ofNat.inj e1).symm
 subst this
 exact eZ y e2 hy
theorem Mem.add{m n:Nat}{C cs:Cs}{kvs:List (MKey×PyData)}{y:PyData}(h:Mem m C kvs)(hy:Rs m n cs (solv (dueI m) n cs) y)(hc:cs.Sublist C)(hn:n≤11)(hd:z5 kvs (cs,(n:Int))=none):Mem m C (kvs++[((cs,(n:Int)),resD (solv (dueI m) n cs) y)]):=⟨fun kv hkv=>by
 refine eW (ai.mp hkv) ?_ ?_
 ·intro hkv;exact h.ok kv hkv
 ·intro hkv;rw[ac.mp hkv];exact⟨n,rfl,y,rfl,hy⟩,fun kv hkv=>by
 refine eW (ai.mp hkv) ?_ ?_
 ·intro hkv;exact h.keys kv hkv
 ·intro hkv;rw[ac.mp hkv];exact zmo hc hn,by
 rw[cW]
 refine bM.mpr ⟨h.nodup,List.pairwise_singleton _ _,fun a ha b hb e=>?_⟩
 refine eY (av.mp ha) ?_;intro kv hkv eo;subst eo
 rw[ac.mp hb] at e
 have:=List.find?_eq_none.mp (Option.map_eq_none_iff.mp hd) kv hkv
 exact this (aD e),h.small⟩
theorem zi3{kvs:List (MKey×PyData)}{q:MKey}{x:PyData}(h:z5 kvs q=none):z5 (kvs++[(q,x)]) q=some x:=by
 unfold z5 at h ⊢
 rw[Option.map_eq_none_iff] at h
 rw[List.find?_append,h,Option.none_or]
 rw[List.find?_cons,aD rfl];rfl
theorem zeh{kvs:List (MKey×PyData)}{q q':MKey}{x:PyData}(h:q≠q'):z5 (kvs++[(q,x)]) q'=z5 kvs q':=by
 unfold z5
 rw[List.find?_append]
 have:List.find? (fun kv:MKey×PyData=>decide (kv.1=q')) [(q,x)]=none:=by rw[List.find?_cons,aN h];rfl
 rw[this,Option.or_none]
structure Ok(m:Nat)(C:Cs)(d:Nat)(O:za)(kvs:List (MKey×PyData)):Prop where
 at_:O[d]?=some (.dct kvs)
 mem:Mem m C kvs
 shy:∀ b∈O,ShyB badP b
theorem set_same{O:za}{d:Nat}{b:Box}(h:O[d]?=some b):O.set d b=O:=by
 obtain⟨hlt,e⟩:=aA.mp h
 rw[← e];exact List.set_getElem_self hlt
section
variable{m d n:Nat}{C:Cs}{O:za}{kvs kvs':List (MKey×PyData)}
theorem Ok.lt(h:Ok m C d O kvs):d < O.length:=(aA.mp h.at_).1
theorem Ok.push{b:Box}(h:Ok m C d O kvs)(hb:ShyB badP b):Ok m C d (O++[b]) kvs:=⟨by rw[aJ h.lt];exact h.at_,h.mem,fun x hx=>by
 refine eW (ai.mp hx) ?_ ?_
 ·intro hx;exact h.shy x hx
 ·intro hx;rw[ac.mp hx];exact hb⟩
theorem Ok.set_push{b x:Box}(h:Ok m C d O kvs):(O++[b]).set d x=O.set d x++[b]:=List.set_append_left _ _ h.lt
theorem Mem.shy(h:Mem m C kvs):ShyB badP (.dct kvs):=fun kv hkv=>by
 refine eY (h.ok kv hkv) ?_;intro _ _ eo;refine eY eo ?_;clear eo;intro y e hy
 rw[e];exact⟨znc _,kb (zdm _) (hy.shy mildP) (mildP.str _ _ hy.nl)⟩
theorem Ok.set(h:Ok m C d O kvs)(hm:Mem m C kvs'):Ok m C d (O.set d (.dct kvs')) kvs':=⟨co h.lt,hm,fun x hx=>by
 refine eW (List.mem_or_eq_of_mem_set hx) ?_ ?_
 ·intro hx;exact h.shy x hx
 ·rintro rfl;exact hm.shy⟩
inductive Gives(m:Nat)(C:Cs)(n d:Nat)(O:za)(kvs:List (MKey×PyData))(b:Bool)(Q:PyData→Prop)(r:R za V):Prop
 | mk (y:PyData) (kvs':List (MKey×PyData)) (e:r=.ok (.d (resD b y)) (O.set d (.dct kvs'))) (ny:Q y) (mem:Mem m C kvs') (old:∀ q:MKey,(n:Int) < q.2→z5 kvs' q=z5 kvs q)
end
theorem ql{k:Nat}{f:Nat}{fn:Fn}{args:List V}{O O₁ O':za}{ρ ρ':Loc}{x:PyData}(h:table f=some fn)(hl:args.length=fn.arity∧fn.arity≤fn.slots)(hρ:args.map some++List.replicate (fn.slots - fn.arity) none=ρ)
 (hn:O₁.length=O.length) (hb:evSs (PG k false) fn.body ρ O=.ok (.ret (.d x)) (ρ',O₁++O')):zg P table (k+1) false f args O=.ok (.d x) O₁:=by
 rw[ji h hl,evFn,hρ,hb]
 show R.ok (V.d x) ((O₁++O').take O.length)=_
 rw[← hn,List.take_left']
 rfl
theorem h9{P:Pg}{ρ ρ':Loc}{O O':za}{e:CE}{t:CT}{v:V}(hd:P.hd=false)(h:evE P ρ e O=.ok v O')(hb:zq t v ρ=some ρ'):evS P (.asg t e) ρ O=.ok .next (ρ',O'):=by
 rw[v7,aj (by rw[hd,Bool.false_and];decide),h]
 show asgR t v (ρ,O')=_
 unfold asgR
 rw[show (ρ,O').1=ρ from rfl,hb]
noncomputable def LookS(m:Nat)(C:Cs)(n lev:Nat):Prop:=∀ (k:Nat) (cs:Cs) (O:za) (d:Nat) (kvs:List (MKey×PyData)),InC m C cs→cs≠[]→Ok m C d O kvs →
 Gives m C n d O kvs (solv (dueI m) n cs) (Rs m n cs (solv (dueI m) n cs)) (zg P table (k+lev) false 17 [.d (.list (due m)),.d (.list (zb cs)),.d (.int (n:Int)),.box d] O)
noncomputable def ShyO(a:Option V):Prop:=∀ v,a=some v→ShyV badP v
theorem qr:ShyO none:=fun uA h=>nomatch h
theorem w8{x:PyData}(h:Shy badP x):ShyO (some (.d x)):=fun v e=>by injection e with eU;subst eU;exact h
noncomputable abbrev RT(m n:Nat)(w:Wg)(cs:Cs)(d L:Nat)(a b c e:Option V):Loc:=[some (.d (.list (due m))),some (.d (wD w)),some (.d (.list (zb cs))),some (.d (.int ((n+1:Nat):Int))),some (.box d),some (.box L),a,b,c,e]
noncomputable def tryB:CSs:=(.cons (.ife (.cmp .eq (.loc 7) (.list .nil)) (.cons (.expr (.meth .append (.loc 5) (.cons .none .nil))) .nil) (.cons (.asg (.two (.name 8) (.name 9)) (.call 17 (.cons (.loc 0) (.cons (.loc 7) (.cons (.bin .sub (.loc 3) (.int 1)) (.cons (.loc 4) .nil)))))) (.cons (.ife (.cmp .eq (.loc 8) (.str (Str.ofString "hold"))) (.cons (.ret (.tup (.cons (.str (Str.ofString "hold")) (.cons (.tup (.cons (.loc 6) (.cons (.loc 9) .nil))) .nil)))) .nil) .nil) (.cons (.expr (.meth .append (.loc 5) (.cons (.loc 9) .nil))) .nil)))) .nil)
noncomputable def okP(m n:Nat)(w:Wg)(cs:Cs)(o:Int):Bool:=(zf w o cs).isEmpty || solv (dueI m) n (zf w o cs)
section
variable{m n lev k d:Nat}{w:Wg}{C cs:Cs}{O:za}{kvs:List (MKey×PyData)}
theorem zs5{L:Nat}{a b c e:Option V}(ha:ShyO a)(hb:ShyO b)(hc:ShyO c)(he:ShyO e)(hO:∀ b∈O,ShyB badP b):ShyS badP (RT m n w cs d L a b c e) O:=by
 refine⟨fun v hv=>?_,hO⟩
 refine eW (ae.mp hv) ?_ ?_;rotate_left;intro hv;rotate_right;intro hv
 ·injection hv with eU;subst eU;exact znd mildP m
 refine eW (ae.mp hv) ?_ ?_;rotate_left;intro hv;rotate_right;intro hv
 ·injection hv with eU;subst eU;exact zjx mildP w
 refine eW (ae.mp hv) ?_ ?_;rotate_left;intro hv;rotate_right;intro hv
 ·injection hv with eU;subst eU;exact x6 mildP cs
 refine eW (ae.mp hv) ?_ ?_;rotate_left;intro hv;rotate_right;intro hv
 ·injection hv with eU;subst eU;exact .int _
 refine eW (ae.mp hv) ?_ ?_;rotate_left;intro hv;rotate_right;intro hv
 ·injection hv with eU;subst eU;trivial
 refine eW (ae.mp hv) ?_ ?_;rotate_left;intro hv;rotate_right;intro hv
 ·injection hv with eU;subst eU;trivial
 refine eW (ae.mp hv) ?_ ?_;rotate_left;intro hv;rotate_right;intro hv
 ·exact ha v hv.symm
 refine eW (ae.mp hv) ?_ ?_;rotate_left;intro hv;rotate_right;intro hv
 ·exact hb v hv.symm
 refine eW (ae.mp hv) ?_ ?_
 ·intro hv;exact hc v hv.symm
 ·intro hv;exact he v (ac.mp hv).symm
inductive zuz(m:Nat)(C:Cs)(n:Nat)(w:Wg)(cs:Cs)(d:Nat)(O:za)(kvs:List (MKey×PyData))(xs:List PyData)(o:Int)(r:R (Loc×za) Fl):Prop
 | next (kvs':List (MKey×PyData)) (mem:Mem m C kvs') (old:∀ q:MKey,(n:Int) < q.2→z5 kvs' q=z5 kvs q) (hb:okP m n w cs o=true) (x:PyData) (hx:PlR m n (zf w o cs) x) (a b c e:Option V) (ha:ShyO a) (hbb:ShyO b) (hc:ShyO c) (he:ShyO e)
    (h:r=.ok .next (RT m n w cs d O.length a b c e,O.set d (.dct kvs')++[Box.lst (xs++[x])]))
 | ret (kvs':List (MKey×PyData)) (mem:Mem m C kvs') (old:∀ q:MKey,(n:Int) < q.2→z5 kvs' q=z5 kvs q) (hb:okP m n w cs o=false) (y:PyData) (hy:Row m n cs w y) (ρ':Loc)
    (h:r=.ok (.ret (.d (resD false y))) (ρ',O.set d (.dct kvs')++[Box.lst xs]))
theorem zs2(L1:LookS m C n lev){o:Int}{xs:List PyData}{a b c e:Option V}(ho:o∈outs)(h:InC m C cs)(ok:Ok m C d O kvs)(hxs:∀ x∈xs,Shy badP x)(hl:xs.length < line)(ha:ShyO a)(hb:ShyO b)(hc:ShyO c)(he:ShyO e) :
 zuz m C n w cs d O kvs xs o (xt badP (.two (.name 6) (.name 7)) (fun ρ O=>evSs (PG (k+lev) false) tryB ρ O) (.tuple [.int o,.list (zb (zf w o cs))]) (RT m n w cs d O.length a b c e) (O++[Box.lst xs])):=by
 have ok1:Ok m C d (O++[Box.lst xs]) kvs:=ok.push hxs
 have hp:=h.part w o
 have e0:xt badP (.two (.name 6) (.name 7)) (fun ρ O=>evSs (PG (k+lev) false) tryB ρ O) (.tuple [.int o,.list (zb (zf w o cs))]) (RT m n w cs d O.length a b c e) (O++[Box.lst xs])=evSs (PG (k+lev) false) tryB (RT m n w cs d O.length (some (.d (.int o))) (some (.d (.list (zb (zf w o cs))))) c e) (O++[Box.lst xs]):=by
  unfold xt
  rw[af (zs5 ha hb hc he ok1.shy)]
  rfl
 rw[e0]
 have et:evE (PG (k+lev) false) (RT m n w cs d O.length (some (.d (.int o))) (some (.d (.list (zb (zf w o cs))))) c e) (.cmp .eq (.loc 7) (.list .nil)) (O++[Box.lst xs])=.ok (.d (.bool (zf w o cs).isEmpty)) (O++[Box.lst xs]):=by
  refine z9 rfl rfl ((zcv (vz _)).trans ?_)
  congr 3
  unfold zb;rw[List.isEmpty_map]
 cases hem:(zf w o cs).isEmpty with
 | true=>
   rw[hem] at et
   refine .next kvs ok.mem (fun uA uA=>rfl) (by unfold okP;rw[hem];rfl) .none ⟨.no,rfl,cM.mp hem,a8 _⟩ _ _ c e (w8 (.int o)) (w8 (x6 mildP (zf w o cs))) hc he ?_
   rw[set_same ok.at_]
   exact (zc ((w_if et).trans ((af rfl).trans ((zc (jt (vg rfl recN (zr rfl rfl) (appN hl)))).trans rfl)))).trans rfl
 | false=>
   rw[hem] at et
   have hne:zf w o cs≠[]:=fun e=>by rw[e] at hem;exfalso;injection hem
   obtain⟨y,kvs',e1,ny,mem,old⟩:=L1 k (zf w o cs) _ d kvs hp hne ok1
   have hnum:((n+1:Nat):Int) - 1=(n:Int):=by lia
   have es:evS (PG (k+lev) false) (.asg (.two (.name 8) (.name 9)) (.call 17 (.cons (.loc 0) (.cons (.loc 7) (.cons (.bin .sub (.loc 3) (.int 1)) (.cons (.loc 4) .nil)))))) (RT m n w cs d O.length (some (.d (.int o))) (some (.d (.list (zb (zf w o cs))))) c e) (O++[Box.lst xs]) =
    .ok .next (RT m n w cs d O.length (some (.d (.int o))) (some (.d (.list (zb (zf w o cs))))) (some (.d (word (solv (dueI m) n (zf w o cs))))) (some (.d y)),O.set d (.dct kvs')++[Box.lst xs]):=by
    refine h9 rfl (zm (zr rfl (zr rfl (zr (z0 rfl rfl vd) (zr rfl rfl)))) ?_) (v:=.d (resD (solv (dueI m) n (zf w o cs)) y)) rfl
    rw[hnum,← ok.set_push]
    exact e1
   have eq:=zj6 (solv (dueI m) n (zf w o cs)) (O.set d (.dct kvs')++[Box.lst xs])
   have hlen:(O.set d (.dct kvs')).length=O.length:=bg
   cases hb':solv (dueI m) n (zf w o cs) with
   | true=>
     rw[hb'] at eq es ny
     refine .next kvs' mem old (by unfold okP;rw[hb',Bool.or_true]) y ny _ _ _ _ (w8 (.int o)) (w8 (x6 mildP (zf w o cs))) (w8 (zdm true)) (w8 (Rs.shy mildP ny)) ?_
     have er:recv .append (.box O.length) (O.set d (.dct kvs')++[Box.lst xs])=true:=by rw[← hlen];exact recN
     have ea:meth .append (.box O.length) [.d y] (O.set d (.dct kvs')++[Box.lst xs])=.ok (.d .none) (O.set d (.dct kvs')++[Box.lst (xs++[y])]):=by rw[← hlen];exact appN hl
     exact (zc ((w_if et).trans ((aj am).trans ((zc es).trans ((zc (y4 (z9 rfl rfl eq))).trans ((zc (jt (vg rfl er (zr rfl rfl) ea))).trans rfl)))))).trans rfl
   | false=>
     rw[hb'] at eq es ny
     refine .ret kvs' mem old (by unfold okP;rw[hb',hem];rfl) (.tuple [.int o,y]) ⟨o,y,rfl,ho,ny⟩ (RT m n w cs d O.length (some (.d (.int o))) (some (.d (.list (zb (zf w o cs))))) (some (.d (word false))) (some (.d y))) ?_
     exact ze ((w_if et).trans ((aj am).trans ((zc es).trans (ze ((w_if (z9 rfl rfl eq)).trans ((af rfl).trans (ze (yf rfl))))))))
inductive TryR(m:Nat)(C:Cs)(n:Nat)(w:Wg)(cs:Cs)(d:Nat)(O:za)(kvs:List (MKey×PyData))(xs:List PyData)(os:List Int)(r:R (Loc×za) Fl):Prop
 | next (kvs':List (MKey×PyData)) (mem:Mem m C kvs') (old:∀ q:MKey,(n:Int) < q.2→z5 kvs' q=z5 kvs q) (hb:os.all (okP m n w cs)=true) (ys:List PyData) (hy:ze4 (fun o=>PlR m n (zf w o cs)) os ys) (a b c e:Option V)
    (h:r=.ok .next (RT m n w cs d O.length a b c e,O.set d (.dct kvs')++[Box.lst (xs++ys)]))
 | ret (kvs':List (MKey×PyData)) (mem:Mem m C kvs') (old:∀ q:MKey,(n:Int) < q.2→z5 kvs' q=z5 kvs q) (hb:os.all (okP m n w cs)=false) (y:PyData) (hy:Row m n cs w y) (ρ':Loc) (xs':List PyData)
    (h:r=.ok (.ret (.d (resD false y))) (ρ',O.set d (.dct kvs')++[Box.lst xs']))
theorem u3{ys:List PyData}{turn:PyData→Loc→za→R (Loc×za) Fl}{x:PyData}{xs:List PyData}{ρ:Loc}{O:za}{v:V}{S:Loc×za}(h:turn x ρ O=.ok (.ret v) S):z7 (.plain ys) turn (x::xs) ρ O=.ok (.ret v) S:=by
 rw[z7,h]
theorem zpk(L1:LookS m C n lev)(h:InC m C cs){zs:List PyData}:∀ (os:List Int) (O:za) (kvs:List (MKey×PyData)) (xs:List PyData) (a b c e:Option V),(∀ o∈os,o∈outs)→Ok m C d O kvs→(∀ x∈xs,Shy badP x)→xs.length+os.length < line→ShyO a→ShyO b→ShyO c→ShyO e →
 TryR m C n w cs d O kvs xs os (z7 (.plain zs) (xt badP (.two (.name 6) (.name 7)) (fun ρ O=>evSs (PG (k+lev) false) tryB ρ O)) (os.map fun o=>.tuple [.int o,.list (zb (zf w o cs))]) (RT m n w cs d O.length a b c e) (O++[Box.lst xs]))
 | [],O,kvs,xs,a,b,c,e,_,ok,_,_,_,_,_,_=>.next kvs ok.mem (fun uA uA=>rfl) rfl [] rfl a b c e (by rw[be,set_same ok.at_];rfl)
 | o::os,O,kvs,xs,a,b,c,e,ho,ok,hxs,hl,ha,hb,hc,he=>by
   rw[aU] at hl
   rcases zs2 (k:=k) (w:=w) (o:=o) L1 (ho o (.head _)) h ok hxs (by lia) ha hb hc he with ⟨kvs₁,mem₁,old₁,hb₁,x,hx,a',b',c',e',ha',hb',hc',he',h₁⟩ | ⟨kvs₁,mem₁,old₁,hb₁,y,hy,ρ',h₁⟩
   ·have ok₁:=ok.set mem₁
    have hlen:(O.set d (.dct kvs₁)).length=O.length:=bg
    have ih:=zpk (zs:=zs) L1 h os (O.set d (.dct kvs₁)) kvs₁ (xs++[x]) a' b' c' e' (fun z hz=>ho z (.tail _ hz)) ok₁ (fun z hz=>by
     refine eW (ai.mp hz) ?_ ?_
     ·intro hz;exact hxs z hz
     ·intro hz;rw[ac.mp hz];obtain⟨p,e,_,_⟩:=hx;rw[e];exact k6 mildP p) (by rw[aX,cy];lia) ha' hb' hc' he'
    rw[hlen] at ih
    rw[aS,jo h₁]
    rcases ih with ⟨kvs',mem,old,hb₂,ys,hy,a₂,b₂,c₂,e₂,h₂⟩ | ⟨kvs',mem,old,hb₂,y,hy,ρ',xs',h₂⟩
    ·refine .next kvs' mem (fun q hq=>(old q hq).trans (old₁ q hq)) (by rw[dR,hb₁,hb₂];rfl) (x::ys) ⟨x,ys,rfl,hx,hy⟩ a₂ b₂ c₂ e₂ ?_
     rw[h₂,hlen,List.set_set,cb];rfl
    ·refine .ret kvs' mem (fun q hq=>(old q hq).trans (old₁ q hq)) (by rw[dR,hb₁,hb₂];rfl) y hy ρ' xs' ?_
     rw[h₂,List.set_set]
   ·refine .ret kvs₁ mem₁ old₁ (by rw[dR,hb₁];rfl) y hy ρ' xs ?_
    rw[aS,u3 h₁]
theorem zpy{Bd:List PyData→Prop}{q1 q2:SqK}{P:Pg}{ρ:Loc}{O O₁ O₂:za}{t:CT}{a b:CE}{c:CSs}{xs ys:List PyData}(hd:P.hd=false)(h1:evE P ρ a O=.ok (.d (q1.mk xs)) O₁)(h2:evE P ρ b O₁=.ok (.d (q2.mk ys)) O₂)(ok:ZOk Bd q1 q2 xs ys):evS P (.forG Bd q1 q2 t a b c) ρ O=z7 (.plain (zipT xs ys)) (xt Bd t fun ρ O=>evSs P c ρ O) (zipT xs ys) ρ O₂:=by
 show (if P.hd=true then .stuck else (((evE P ρ a O).bind fun v O=>(evE P ρ b O).bind fun u O=>.ok (v,u) O).lift ρ).bind (zhj Bd q1 q2 t fun ρ O=>evSs P c ρ O))=_
 rw[aj (by rw[hd];exact am),h1,zj,h2]
 show zle Bd q1 q2 t (fun ρ O=>evSs P c ρ O) (sqOf q1 (q1.mk xs)) (sqOf q2 (q2.mk ys)) (ρ,O₂)=_
 have e1:∀ {q:SqK} {xs:List PyData},sqOf q (q.mk xs)=some xs:=fun {q xs}=>by cases q <;> rfl
 rw[e1,e1]
 exact af ok
theorem y8{P:Pg}{ρ:Loc}{a b:CE}{x y:PyData}{O O' O'':za}(h1:evE P ρ a O=.ok (.d x) O')(h2:evE P ρ b O'=.ok (.d y) O''):evE P ρ (.tup (.cons a (.cons b .nil))) O=.ok (.d (.tuple [x,y])) O'':=by
 rw[zo9,zr h1 (zr h2 rfl)];rfl
theorem zrw{P:Pg}{ρ:Loc}{a b c:CE}{x y z:PyData}{O O' O'' O₃:za}(h1:evE P ρ a O=.ok (.d x) O')(h2:evE P ρ b O'=.ok (.d y) O'')(h3:evE P ρ c O''=.ok (.d z) O₃):evE P ρ (.tup (.cons a (.cons b (.cons c .nil)))) O=.ok (.d (.tuple [x,y,z])) O₃:=by
 rw[zo9,zr h1 (zr h2 (zr h3 rfl))];rfl
theorem zjn{k:Nat}{O:za}{xs:List PyData}(hl:xs.length≤line):prim (PG k false) .tuple [.box O.length] (O++[Box.lst xs])=.ok (.d (.tuple xs)) (O++[Box.lst xs]):=by
 refine vp (x:=.list xs) ?_ (af hl)
 show kq (O++[Box.lst xs]) O.length=_
 unfold kq
 rw[aH (aL _),cr];rfl
noncomputable def TQ(m n:Nat)(w:Wg)(cs:Cs):Bool→PyData→Prop
 | true,y=>PlR m (n+1) cs y
 | false,y=>Row m n cs w y
theorem zof(L1:LookS m C n lev)(hm:m4 m)(hw:w∈dueI m)(h:InC m C cs)(hne:cs≠[])(hlev:2≤lev)(ok:Ok m C d O kvs) :
 Gives m C n d O kvs (outs.all (okP m n w cs)) (TQ m n w cs (outs.all (okP m n w cs))) (zg P table (k+lev+1) false 15 [.d (.list (due m)),.d (wD w),.d (.list (zb cs)),.d (.int ((n+1:Nat):Int)),.box d] O):=by
 refine fe (Nat.exists_eq_add_of_le' hlev) ?_;intro l' eg;subst eg
 have hw':w∈wsI m:=bA.mpr ⟨w,hw,.head _⟩
 have hz:ZOk badP .tup .lst [.int (-1),.int 0,.int 1] (zfu w cs):=⟨rfl,w7 mildP (.int (-1)) (.int 0) (.int 1),.list fun x hx=>by
  refine eW (ae.mp hx) ?_ ?_;rotate_left;intro hx;rotate_right;rintro rfl
  ·exact x6 mildP _
  refine eW (ae.mp hx) ?_ ?_
  ·rintro rfl;exact x6 mildP _
  ·intro hx;rw[ac.mp hx];exact x6 mildP _,.inl rfl,fun i x y uA hy=>by
  have hy:=ay hy
  refine eW (ae.mp hy) ?_ ?_;rotate_left;intro hy;rotate_right;rintro rfl
  ·exact .inr ⟨_,_,rfl⟩
  refine eW (ae.mp hy) ?_ ?_
  ·rintro rfl;exact .inr ⟨_,_,rfl⟩
  ·intro hy;rw[ac.mp hy];exact .inr ⟨_,_,rfl⟩⟩
 have lp:=zpk (k:=k) (d:=d) (w:=w) (zs:=outs.map fun o=>.tuple [.int o,.list (zb (zf w o cs))]) L1 h outs O kvs [] none none none none (fun uA h=>h) ok (fun uA h=>nomatch h) (by show 3 < 1000000;decide) qr qr qr qr
 have ef:evS (PG (k+(l' + 2)) false) (.forG badP .tup .lst (.two (.name 6) (.name 7)) (.glob 3) (.call 9 (.cons (.loc 1) (.cons (.loc 2) .nil))) tryB) (RT m n w cs d O.length none none none none) (O++[Box.lst []])=z7 (.plain (outs.map fun o=>.tuple [.int o,.list (zb (zf w o cs))])) (xt badP (.two (.name 6) (.name 7)) (fun ρ O=>evSs (PG (k+(l' + 2)) false) tryB ρ O)) (outs.map fun o=>.tuple [.int o,.list (zb (zf w o cs))]) (RT m n w cs d O.length none none none none) (O++[Box.lst []]):=
  zpy (q1:=.tup) (q2:=.lst) rfl rfl (zm rfl (zlq (k:=k+l') hm hw' h.toOk12)) hz
 have hlen:∀ kvs',(O.set d (.dct kvs')).length=O.length:=fun uA=>bg
 rcases lp with ⟨kvs',mem,old,hb,ys,hy,a,b,c,e,h₁⟩ | ⟨kvs',mem,old,hb,y,hy,ρ',xs',h₁⟩
 ·rw[hb]
  refine fk hy ?_;clear hy;intro y1 ys eo ez hy;subst eo;obtain ⟨p1,rfl,f1,l1⟩:=ez
  refine fk hy ?_;clear hy;intro y2 ys eo ez hy;subst eo;obtain ⟨p2,rfl,f2,l2⟩:=ez
  refine fk hy ?_;clear hy;intro y3 ys eo ez hy;subst eo;obtain ⟨p3,rfl,f3,l3⟩:=ez
  have hy:ys=[]:=hy
  subst hy
  refine⟨(Pl.weigh w p1 p2 p3).toD,kvs',?_,⟨.weigh w p1 p2 p3,rfl,⟨hw,hne,f1,f2,f3⟩,cj (Nat.max_le.mpr ⟨l1,Nat.max_le.mpr ⟨l2,l3⟩⟩)⟩,mem,old⟩
  refine ql (fn:=c15) (O':=[Box.lst ([]++[p1.toD,p2.toD,p3.toD])]) rfl ⟨rfl,by decide⟩ rfl (hlen kvs') ((zc (zt (v:=.box O.length) (O':=O++[Box.lst []]) rfl rfl rfl)).trans ((zc (ef.trans h₁)).trans (ze (yf ?_))))
  have et:evE (PG (k+(l' + 2)) false) (RT m n w cs d O.length a b c e) (.prim .tuple (.cons (.loc 5) .nil)) (O.set d (.dct kvs')++[Box.lst ([]++[p1.toD,p2.toD,p3.toD])])=.ok (.d (.tuple [p1.toD,p2.toD,p3.toD])) (O.set d (.dct kvs')++[Box.lst ([]++[p1.toD,p2.toD,p3.toD])]):=yc rfl rfl (by rw[← hlen kvs'];exact zjn (by show 3≤1000000;decide))
  exact y8 rfl (zrw rfl rfl et)
 ·rw[hb]
  exact⟨y,kvs',ql (fn:=c15) rfl ⟨rfl,by decide⟩ rfl (hlen kvs') ((zc (zt (v:=.box O.length) (O':=O++[Box.lst []]) rfl rfl rfl)).trans (ze (ef.trans h₁))),hy,mem,old⟩
end
noncomputable abbrev RE(m n:Nat)(cs:Cs)(d L:Nat)(a b c:Option V):Loc:=[some (.d (.list (due m))),some (.d (.list (zb cs))),some (.d (.int ((n+1:Nat):Int))),some (.box d),some (.box L),a,b,c]
noncomputable def zhn:CSs:=(.cons (.asg (.two (.name 6) (.name 7)) (.call 15 (.cons (.loc 0) (.cons (.loc 5) (.cons (.loc 1) (.cons (.loc 2) (.cons (.loc 3) .nil))))))) (.cons (.ife (.cmp .eq (.loc 6) (.str (Str.ofString "plan"))) (.cons (.ret (.tup (.cons (.str (Str.ofString "plan")) (.cons (.loc 7) .nil)))) .nil) .nil) (.cons (.expr (.meth .append (.loc 4) (.cons (.loc 7) .nil))) .nil)))
noncomputable def trB(m n:Nat)(cs:Cs)(w:Wg):Bool:=outs.all (okP m n w cs)
section
variable{m n lev k d:Nat}{C cs:Cs}{O:za}{kvs:List (MKey×PyData)}
inductive zu0(m:Nat)(C:Cs)(n:Nat)(w:Wg)(cs:Cs)(d:Nat)(O:za)(kvs:List (MKey×PyData))(xs:List PyData)(r:R (Loc×za) Fl):Prop
 | next (kvs':List (MKey×PyData)) (mem:Mem m C kvs') (old:∀ q:MKey,(n:Int) < q.2→z5 kvs' q=z5 kvs q) (hb:trB m n cs w=false) (y:PyData) (hy:Row m n cs w y) (a b c:Option V)
    (h:r=.ok .next (RE m n cs d O.length a b c,O.set d (.dct kvs')++[Box.lst (xs++[y])]))
 | ret (kvs':List (MKey×PyData)) (mem:Mem m C kvs') (old:∀ q:MKey,(n:Int) < q.2→z5 kvs' q=z5 kvs q) (hb:trB m n cs w=true) (y:PyData) (hy:PlR m (n+1) cs y) (ρ':Loc)
    (h:r=.ok (.ret (.d (resD true y))) (ρ',O.set d (.dct kvs')++[Box.lst xs]))
theorem zqc(L1:LookS m C n lev)(hm:m4 m){w:Wg}(hw:w∈dueI m)(h:InC m C cs)(hne:cs≠[])(hlev:2≤lev){xs:List PyData}{a b c:Option V}(ok:Ok m C d O kvs)(hxs:∀ x∈xs,Shy badP x)(hl:xs.length < line) :
 zu0 m C n w cs d O kvs xs (yq (PG (k+lev+1) false) (.name 5) zhn (wD w) (RE m n cs d O.length a b c) (O++[Box.lst xs])):=by
 have ok1:Ok m C d (O++[Box.lst xs]) kvs:=ok.push hxs
 obtain⟨y,kvs',e1,ny,mem,old⟩:=zof (k:=k) L1 hm hw h hne hlev ok1
 have es:evS (PG (k+lev+1) false) (.asg (.two (.name 6) (.name 7)) (.call 15 (.cons (.loc 0) (.cons (.loc 5) (.cons (.loc 1) (.cons (.loc 2) (.cons (.loc 3) .nil))))))) (RE m n cs d O.length (some (.d (wD w))) b c) (O++[Box.lst xs])=.ok .next (RE m n cs d O.length (some (.d (wD w))) (some (.d (word (trB m n cs w)))) (some (.d y)),O.set d (.dct kvs')++[Box.lst xs]):=by
  refine h9 rfl (zm (zr rfl (zr rfl (zr rfl (zr rfl (zr rfl rfl))))) ?_) (v:=.d (resD (trB m n cs w) y)) rfl
  rw[← ok.set_push]
  exact e1
 have eq:=zqs (trB m n cs w) (O.set d (.dct kvs')++[Box.lst xs])
 have hlen:(O.set d (.dct kvs')).length=O.length:=bg
 have ny:TQ m n w cs (trB m n cs w) y:=ny
 cases hb:trB m n cs w with
 | true=>
   rw[hb] at es eq ny
   refine .ret kvs' mem old hb y ny (RE m n cs d O.length (some (.d (wD w))) (some (.d (word true))) (some (.d y))) ?_
   exact (zc es).trans (ze ((w_if (z9 rfl rfl eq)).trans ((af rfl).trans (ze (yf rfl)))))
 | false=>
   rw[hb] at es eq ny
   have er:recv .append (.box O.length) (O.set d (.dct kvs')++[Box.lst xs])=true:=by rw[← hlen];exact recN
   have ea:meth .append (.box O.length) [.d y] (O.set d (.dct kvs')++[Box.lst xs])=.ok (.d .none) (O.set d (.dct kvs')++[Box.lst (xs++[y])]):=by rw[← hlen];exact appN hl
   refine .next kvs' mem old hb y ny (some (.d (wD w))) (some (.d (word false))) (some (.d y)) ?_
   exact (zc es).trans ((zc (y4 (z9 rfl rfl eq))).trans ((zc (jt (vg rfl er (zr rfl rfl) ea))).trans rfl))
inductive EachL(m:Nat)(C:Cs)(n:Nat)(cs:Cs)(d:Nat)(O:za)(kvs:List (MKey×PyData))(xs:List PyData)(ws:List Wg)(r:R (Loc×za) Fl):Prop
 | next (kvs':List (MKey×PyData)) (mem:Mem m C kvs') (old:∀ q:MKey,(n:Int) < q.2→z5 kvs' q=z5 kvs q) (hb:ws.any (trB m n cs)=false) (ys:List PyData) (hl:ys.length=ws.length) (hy:ze4 (Row m n cs) ws ys) (a b c:Option V)
    (h:r=.ok .next (RE m n cs d O.length a b c,O.set d (.dct kvs')++[Box.lst (xs++ys)]))
 | ret (kvs':List (MKey×PyData)) (mem:Mem m C kvs') (old:∀ q:MKey,(n:Int) < q.2→z5 kvs' q=z5 kvs q) (hb:ws.any (trB m n cs)=true) (y:PyData) (hy:PlR m (n+1) cs y) (ρ':Loc) (xs':List PyData)
    (h:r=.ok (.ret (.d (resD true y))) (ρ',O.set d (.dct kvs')++[Box.lst xs']))
theorem zkv(L1:LookS m C n lev)(hm:m4 m)(h:InC m C cs)(hne:cs≠[])(hlev:2≤lev){zs:List PyData}:∀ (ws:List Wg) (O:za) (kvs:List (MKey×PyData)) (xs:List PyData) (a b c:Option V),(∀ w∈ws,w∈dueI m)→Ok m C d O kvs→(∀ x∈xs,Shy badP x)→xs.length+ws.length < line →
 EachL m C n cs d O kvs xs ws (z7 (.plain zs) (yq (PG (k+lev+1) false) (.name 5) zhn) (ws.map fun p=>wOf p.1 p.2) (RE m n cs d O.length a b c) (O++[Box.lst xs]))
 | [],O,kvs,xs,a,b,c,_,ok,_,_=>.next kvs ok.mem (fun uA uA=>rfl) rfl [] rfl rfl a b c (by rw[be,set_same ok.at_];rfl)
 | w::ws,O,kvs,xs,a,b,c,hw,ok,hxs,hl=>by
   rw[aU] at hl
   rcases zqc (k:=k) (a:=a) (b:=b) (c:=c) L1 hm (hw w (.head _)) h hne hlev ok hxs (by lia) with ⟨kvs₁,mem₁,old₁,hb₁,y,hy₁,a',b',c',h₁⟩ | ⟨kvs₁,mem₁,old₁,hb₁,y,hy,ρ',h₁⟩
   ·have ok₁:=ok.set mem₁
    have hlen:(O.set d (.dct kvs₁)).length=O.length:=bg
    have ih:=zkv (zs:=zs) L1 hm h hne hlev ws (O.set d (.dct kvs₁)) kvs₁ (xs++[y]) a' b' c' (fun v hv=>hw v (.tail _ hv)) ok₁ (fun z hz=>by
     refine eW (ai.mp hz) ?_ ?_
     ·intro hz;exact hxs z hz
     ·intro hz;rw[ac.mp hz];refine fk hy₁ ?_;clear hy₁;intro o z e _ hz;obtain⟨xs,e2⟩:=hz.tup;rw[e];exact kb (.int o) (gq mildP hz) (by rw[e2];exact mildP.row _ _)) (by rw[aX,cy];lia)
    rw[hlen] at ih
    rw[aS,jo h₁]
    rcases ih with ⟨kvs',mem,old,hb₂,ys,hl',hy,a₂,b₂,c₂,h₂⟩ | ⟨kvs',mem,old,hb₂,y',hy,ρ',xs',h₂⟩
    ·refine .next kvs' mem (fun q hq=>(old q hq).trans (old₁ q hq)) (by rw[List.any_cons,hb₁,hb₂];rfl) (y::ys) (by rw[aU,aU,hl']) ⟨y,ys,rfl,hy₁,hy⟩ a₂ b₂ c₂ ?_
     rw[h₂,hlen,List.set_set,cb];rfl
    ·refine .ret kvs' mem (fun q hq=>(old q hq).trans (old₁ q hq)) (by rw[List.any_cons,hb₁,hb₂];rfl) y' hy ρ' xs' ?_
     rw[h₂,List.set_set]
   ·refine .ret kvs₁ mem₁ old₁ (by rw[List.any_cons,hb₁];rfl) y hy ρ' xs ?_
    rw[aS,u3 h₁]
theorem zr6(L1:LookS m C n lev)(hm:m4 m)(hw3:(dueI m).length≤9)(h:InC m C cs)(hne:cs≠[])(hlev:2≤lev)(ok:Ok m C d O kvs) :
 Gives m C n d O kvs ((dueI m).any (trB m n cs)) (Rs m (n+1) cs ((dueI m).any (trB m n cs))) (zg P table (k+lev+2) false 16 [.d (.list (due m)),.d (.list (zb cs)),.d (.int ((n+1:Nat):Int)),.box d] O):=by
 have lp:=zkv (k:=k) (d:=d) (zs:=due m) L1 hm h hne hlev (dueI m) O kvs [] none none none (fun uA h=>h) ok (fun uA h=>nomatch h) (bU (by rw[cA,bB];exact hw3) (by show 9 < 1000000;decide))
 have ef:evS (PG (k+lev+1) false) (.for_ (.name 5) (.e (.loc 0)) zhn) (RE m n cs d O.length none none none) (O++[Box.lst []])=z7 (.plain (due m)) (yq (PG (k+lev+1) false) (.name 5) zhn) ((dueI m).map fun p=>wOf p.1 p.2) (RE m n cs d O.length none none none) (O++[Box.lst []]):=by
  rw[v5,aj am]
  rfl
 have hlen:∀ kvs',(O.set d (.dct kvs')).length=O.length:=fun uA=>bg
 rcases lp with ⟨kvs',mem,old,hb,ys,hl,hy,a,b,c,h₁⟩ | ⟨kvs',mem,old,hb,y,hy,ρ',xs',h₁⟩
 ·rw[hb]
  refine ⟨.tuple [.str (Str.ofString "each"),.tuple ys],kvs',?_,.inr ⟨ys,rfl,hy⟩,mem,old⟩
  have et:evE (PG (k+lev+1) false) (RE m n cs d O.length a b c) (.prim .tuple (.cons (.loc 4) .nil)) (O.set d (.dct kvs')++[Box.lst ([]++ys)])=.ok (.d (.tuple ys)) (O.set d (.dct kvs')++[Box.lst ([]++ys)]):=yc rfl rfl (by rw[← hlen kvs'];exact zjn (by show ys.length≤_;rw[hl];exact ak hw3 (by decide)))
  exact ql (fn:=c16) (O':=[Box.lst ([]++ys)]) rfl ⟨rfl,by decide⟩ rfl (hlen kvs') ((zc (zt (v:=.box O.length) (O':=O++[Box.lst []]) rfl rfl rfl)).trans ((zc (ef.trans h₁)).trans (ze (yf (y8 rfl (y8 rfl et))))))
 ·rw[hb]
  exact⟨y,kvs',ql (fn:=c16) rfl ⟨rfl,by decide⟩ rfl (hlen kvs') ((zc (zt (v:=.box O.length) (O':=O++[Box.lst []]) rfl rfl rfl)).trans (ze (ef.trans h₁))),hy,mem,old⟩
end
noncomputable abbrev RL(m n:Nat)(cs:Cs)(d:Nat)(a:Option V):Loc:=[some (.d (.list (due m))),some (.d (.list (zb cs))),some (.d (.int (n:Int))),some (.box d),a]
noncomputable def keyD(n:Nat)(cs:Cs):PyData:=.tuple [.tuple (zb cs),.int (n:Int)]
section
variable{m n lev k d:Nat}{C cs:Cs}{O:za}{kvs:List (MKey×PyData)}
theorem u1(h:O[d]?=some (.dct kvs)):k9 (.box d) (.d (keyD n cs)) O=some (d,kvs,(cs,(n:Int))):=by
 show (match O[d]? with
  | some (.dct kvs)=>(keyOf (keyD n cs)).map fun q=>(d,kvs,q)
  | _=>none)=_
 rw[h]
 show (keyOf (keyD n cs)).map (fun q=>(d,kvs,q))=_
 have:keyOf (keyD n cs)=some (cs,(n:Int)):=by
  show (ja (zb cs)).map (fun kss=>(kss,(n:Int)))=_
  rw[vj];rfl
 rw[this];rfl
theorem zcy(h:InC m C cs){a:Option V}:evE (PG k false) (RL m n cs d a) (.cmp .eq (.prim .len (.cons (.loc 1) .nil)) (.int 1)) O=.ok (.d (.bool (decide ((cs.length:Int)=1)))) O:=by
 refine z9 (yc rfl rfl (kf rfl h.line)) rfl (eq_int.trans ?_)
 rw[zl]
theorem zlv(h:InC m C cs)(hn:n≤11){a:Option V}:evE (PG (k+1) false) (RL m n cs d a) (.cmp .gt (.prim .len (.cons (.loc 1) .nil)) (.call 10 (.cons (.loc 2) .nil))) O=.ok (.d (.bool (decide ((cs.length:Int) > ((3 ^ n:Nat):Int))))) O:=by
 refine z9 (yc rfl rfl (kf rfl h.line)) (zm rfl (zlo hn)) (v_gt.trans ?_)
 rw[zl]
theorem zdy(h:InC m C cs)(hl:cs.length=1)(ok:Ok m C d O kvs):Gives m C n d O kvs (solv (dueI m) n cs) (Rs m n cs (solv (dueI m) n cs)) (zg P table (k+1) false 17 [.d (.list (due m)),.d (.list (zb cs)),.d (.int (n:Int)),.box d] O):=by
 refine fe (List.length_eq_one_iff.mp hl) ?_;intro c eg;subst eg
 rw[jb rfl]
 refine ⟨.tuple [.str (Str.ofString "told"),caseD c],kvs,?_,⟨.told c,rfl,rfl,a8 _⟩,ok.mem,fun uA uA=>rfl⟩
 rw[set_same ok.at_]
 exact zv (fn:=c17) (ρ':=RL m n [c] d none) rfl ⟨rfl,by decide⟩ rfl (ze ((w_if (zcy h)).trans ((af rfl).trans (ze (yf rfl)))))
theorem zbl(h:InC m C cs)(hn:n≤11)(hl:3 ^ n < cs.length)(ok:Ok m C d O kvs):Gives m C n d O kvs (solv (dueI m) n cs) (Rs m n cs (solv (dueI m) n cs)) (zg P table (k+2) false 17 [.d (.list (due m)),.d (.list (zb cs)),.d (.int (n:Int)),.box d] O):=by
 have h1:1 < cs.length:=bU (Nat.one_le_pow _ _ (by decide)) hl
 have hs:solv (dueI m) n cs=false:=ba.mpr fun e=>Nat.not_lt.mpr (zdk e) hl
 rw[hs]
 refine ⟨.tuple [.str (Str.ofString "many")],kvs,?_,Hd.many hl,ok.mem,fun uA uA=>rfl⟩
 rw[set_same ok.at_]
 have e1:=zcy (k:=k+1) (n:=n) (d:=d) (O:=O) h (a:=none)
 rw[aN (by lia)] at e1
 have e2:=zlv (k:=k) (d:=d) (O:=O) h hn (a:=none)
 rw[aD (show (cs.length:Int) > ((3 ^ n:Nat):Int) from Int.ofNat_lt.mpr hl)] at e2
 exact zv (fn:=c17) (ρ':=RL m n cs d none) rfl ⟨rfl,by decide⟩ rfl ((zc (y4 e1)).trans (ze ((w_if e2).trans ((af rfl).trans (ze (yf rfl))))))
theorem zto:LookS m C 0 2:=fun k cs O d kvs h hne ok=>by
 by_cases hl:cs.length=1
 ·exact zdy (k:=k+1) h hl ok
 ·exact zbl h (by decide) (by have:0 < cs.length:=cR.mpr hne;show 1 < cs.length;lia) ok
theorem ztn(L1:LookS m C n lev)(hm:m4 m)(hw3:(dueI m).length≤9)(hlev:2≤lev)(hn:n+1≤11):LookS m C (n+1) (lev+3):=fun k cs O d kvs h hne ok=>by
 by_cases hl:cs.length=1
 ·exact zdy (k:=k+lev+2) h hl ok
 by_cases h3:3 ^ (n+1) < cs.length
 ·exact zbl (k:=k+lev+1) h hn h3 ok
 have hs:solv (dueI m) (n+1) cs=(dueI m).any (trB m n cs):=by
  show (cs.length == 1 || (decide (cs.length≤3 ^ (n+1)) && (dueI m).any (trB m n cs)))=_
  rw[beq_false_of_ne hl,aD (Nat.le_of_not_lt h3)];rfl
 have e1:=zcy (k:=k+lev+2) (n:=n+1) (d:=d) (O:=O) h (a:=none)
 rw[aN (by lia)] at e1
 have e2:=zlv (k:=k+lev+1) (d:=d) (O:=O) h hn (a:=none)
 rw[aN (show ¬ (cs.length:Int) > ((3 ^ (n+1):Nat):Int) from fun q=>h3 (Int.ofNat_lt.mp q))] at e2
 have ek:evS (PG (k+lev+2) false) (.asg (.name 4) (.tup (.cons (.prim .tuple (.cons (.loc 1) .nil)) (.cons (.loc 2) .nil)))) (RL m (n+1) cs d none) O=.ok .next (RL m (n+1) cs d (some (.d (keyD (n+1) cs))),O):=
  zt (y8 (yc rfl rfl (vp (x:=.list (zb cs)) rfl (af h.line))) rfl) rfl rfl
 have en:evE (PG (k+lev+2) false) (RL m (n+1) cs d (some (.d (keyD (n+1) cs)))) (.notinM (.loc 4) (.loc 3)) O=.ok (.d (.bool !(z5 kvs (cs,((n+1:Nat):Int))).isSome)) O:=by
  show Mine.notinM (.d (keyD (n+1) cs)) (.box d) O=_
  unfold Mine.notinM
  rw[u1 ok.at_]
 have pre:∀ {r:R (Loc×za) Fl} {ss:CSs},evSs (PG (k+lev+2) false) ss (RL m (n+1) cs d (some (.d (keyD (n+1) cs)))) O=r→evSs (PG (k+lev+2) false) (.cons (.ife (.cmp .eq (.prim .len (.cons (.loc 1) .nil)) (.int 1)) (.cons (.ret (.tup (.cons (.str (Str.ofString "plan")) (.cons (.tup (.cons (.str (Str.ofString "told")) (.cons (.idx (.loc 1) (.int 0)) .nil))) .nil)))) .nil) .nil) (.cons (.ife (.cmp .gt (.prim .len (.cons (.loc 1) .nil)) (.call 10 (.cons (.loc 2) .nil))) (.cons (.ret (.tup (.cons (.str (Str.ofString "hold")) (.cons (.tup (.cons (.str (Str.ofString "many")) .nil)) .nil)))) .nil) .nil) (.cons (.asg (.name 4) (.tup (.cons (.prim .tuple (.cons (.loc 1) .nil)) (.cons (.loc 2) .nil)))) ss))) (RL m (n+1) cs d none) O=r:=
  fun h=>(zc (y4 e1)).trans ((zc (y4 e2)).trans ((zc ek).trans h))
 rw[hs]
 cases hd:z5 kvs (cs,((n+1:Nat):Int)) with
 | some x=>
   rw[hd] at en
   refine eY (ok.mem.find hd) ?_;intro y eg hy;subst eg
   rw[hs] at hd hy
   refine⟨y,kvs,?_,hy,ok.mem,fun uA uA=>rfl⟩
   rw[set_same ok.at_]
   refine zv (fn:=c17) (ρ':=RL m (n+1) cs d (some (.d (keyD (n+1) cs)))) rfl ⟨rfl,by decide⟩ rfl (pre ((zc (y4 en)).trans (ze (yf ?_))))
   show Mine.getM (.box d) (.d (keyD (n+1) cs)) O=_
   unfold Mine.getM
   rw[u1 ok.at_]
   show opt ((z5 kvs (cs,((n+1:Nat):Int))).map V.d) O=_
   rw[hd];rfl
 | none=>
   rw[hd] at en
   obtain⟨y,kvs₁,ee,hy,mem₁,old₁⟩:=zr6 (k:=k) L1 hm hw3 h hne hlev ok
   have ok₁:=ok.set mem₁
   have hd₁:z5 kvs₁ (cs,((n+1:Nat):Int))=none:=(old₁ _ (by show (n:Int) < ((n+1:Nat):Int);lia)).trans hd
   have mem₂:Mem m C (kvs₁++[((cs,((n+1:Nat):Int)),resD (solv (dueI m) (n+1) cs) y)]):=mem₁.add (by rw[hs];exact hy) h.sub hn hd₁
   rw[hs] at mem₂
   have eset:evS (PG (k+lev+2) false) (.setM (.loc 3) (.loc 4) (.call 16 (.cons (.loc 0) (.cons (.loc 1) (.cons (.loc 2) (.cons (.loc 3) .nil)))))) (RL m (n+1) cs d (some (.d (keyD (n+1) cs)))) O=.ok .next (RL m (n+1) cs d (some (.d (keyD (n+1) cs))),O.set d (.dct (kvs₁++[((cs,((n+1:Nat):Int)),resD ((dueI m).any (trB m n cs)) y)]))):=by
    have ec:evE (PG (k+lev+2) false) (RL m (n+1) cs d (some (.d (keyD (n+1) cs)))) (.call 16 (.cons (.loc 0) (.cons (.loc 1) (.cons (.loc 2) (.cons (.loc 3) .nil))))) O=.ok (.d (resD ((dueI m).any (trB m n cs)) y)) (O.set d (.dct kvs₁)):=zm rfl ee
    show R.bind (R.lift _ (R.bind (evE (PG (k+lev+2) false) (RL m (n+1) cs d (some (.d (keyD (n+1) cs)))) (.call 16 (.cons (.loc 0) (.cons (.loc 1) (.cons (.loc 2) (.cons (.loc 3) .nil))))) O) _)) _=_
    rw[ec]
    show R.bind (R.lift _ (Mine.setM (.box d) (.d (keyD (n+1) cs)) (.d (resD ((dueI m).any (trB m n cs)) y)) (O.set d (.dct kvs₁)))) _=_
    unfold Mine.setM
    rw[u1 ok₁.at_]
    show R.bind (R.lift _ (if z5 kvs₁ (cs,((n+1:Nat):Int))=none∧kvs₁.length≤line then _ else _)) _=_
    rw[af ⟨hd₁,mem₁.len⟩]
    show R.ok _ (_,(O.set d (.dct kvs₁)).set d _)=_
    rw[List.set_set]
   have hlen:(O.set d (.dct (kvs₁++[((cs,((n+1:Nat):Int)),resD ((dueI m).any (trB m n cs)) y)]))).length=O.length:=bg
   refine⟨y,_,?_,hy,mem₂,fun q hq=>?_⟩
   ·refine ql (fn:=c17) (O':=[]) (ρ':=RL m (n+1) cs d (some (.d (keyD (n+1) cs)))) rfl ⟨rfl,by decide⟩ rfl hlen (pre ((zc ((w_if en).trans ((af rfl).trans ((zc eset).trans rfl)))).trans (ze (yf ?_))))
    show Mine.getM (.box d) (.d (keyD (n+1) cs)) (O.set d _)=_
    unfold Mine.getM
    rw[u1 (ok.set mem₂).at_,be]
    show opt ((z5 _ (cs,((n+1:Nat):Int))).map V.d) _=_
    rw[zi3 hd₁];rfl
   ·rw[zeh (fun e=>by rw[← e] at hq;exact absurd hq (Int.lt_irrefl _))]
    exact old₁ q (by have:((n+1:Nat):Int) < q.2:=hq;lia)
end
noncomputable abbrev R14(m:Nat)(cs:Cs)(a b c:Option V):Loc:=[some (.d (.list (due m))),some (.d (.list (zb cs))),a,b,c]
noncomputable def v0:CSs:=.cons (.ife (.call 13 (.cons (.loc 0) (.cons (.loc 3) (.cons (.loc 4) .nil)))) (.cons (.ret (.tup (.cons (.loc 3) (.cons (.loc 4) .nil)))) .nil) .nil) .nil
noncomputable def pf:CSs:=.cons (.for_ (.name 4) (.e (.slice (.loc 1) (.bin .add (.loc 2) (.int 1)) .none)) v0) .nil
section
variable{m k:Nat}{cs:Cs}{O:za}
theorem zhd(hm:m4 m){a:List Int}(ha:good m a){i:Option V}{zs:List PyData}:∀ (l:Cs),(∀ c∈l,good m c)→∀ e:Option V,
 (l.any (yt (dueI m) a)=false∧∃ e',z7 (.plain zs) (yq (PG (k+2) false) (.name 4) v0) (zb l) (R14 m cs i (some (.d (caseD a))) e) O=.ok .next (R14 m cs i (some (.d (caseD a))) e',O)) ∨
 (l.any (yt (dueI m) a)=true∧∃ b ρ',z7 (.plain zs) (yq (PG (k+2) false) (.name 4) v0) (zb l) (R14 m cs i (some (.d (caseD a))) e) O=.ok (.ret (.d (.tuple [caseD a,caseD b]))) (ρ',O))
 | [],_,e=>.inl ⟨rfl,e,rfl⟩
 | c::l,hl,e=>by
   have et:evE (PG (k+2) false) (R14 m cs i (some (.d (caseD a))) (some (.d (caseD c)))) (.call 13 (.cons (.loc 0) (.cons (.loc 3) (.cons (.loc 4) .nil)))) O=.ok (.d (.bool (yt (dueI m) a c))) O:=zm rfl (zon hm ha (hl c (.head _)))
   cases hb:yt (dueI m) a c with
   | true=>
     rw[hb] at et
     have h1:yq (PG (k+2) false) (.name 4) v0 (caseD c) (R14 m cs i (some (.d (caseD a))) e) O=.ok (.ret (.d (.tuple [caseD a,caseD c]))) (R14 m cs i (some (.d (caseD a))) (some (.d (caseD c))),O):=
      ze (P:=PG (k+2) false) (ρ:=R14 m cs i (some (.d (caseD a))) (some (.d (caseD c)))) ((w_if et).trans ((af rfl).trans (ze (yf rfl))))
     exact .inr ⟨by rw[List.any_cons,hb];rfl,c,_,u3 h1⟩
   | false=>
     rw[hb] at et
     have h1:yq (PG (k+2) false) (.name 4) v0 (caseD c) (R14 m cs i (some (.d (caseD a))) e) O=.ok .next (R14 m cs i (some (.d (caseD a))) (some (.d (caseD c))),O):=
      (zc (P:=PG (k+2) false) (ρ:=R14 m cs i (some (.d (caseD a))) (some (.d (caseD c)))) (y4 et)).trans rfl
     have hany:(c::l).any (yt (dueI m) a)=l.any (yt (dueI m) a):=by rw[List.any_cons,hb];rfl
     rw[hany,show zb (c::l)=caseD c::zb l from rfl,jo h1]
     exact zhd hm ha l (fun c hc=>hl c (.tail _ hc)) _
theorem zr5(h:Ok12 m cs){i:Nat}(hi:i < cs.length){b c:Option V}:evE (PG k false) (R14 m cs (some (.d (.int (i:Int)))) b c) (.slice (.loc 1) (.bin .add (.loc 2) (.int 1)) .none) O=.ok (.d (.list (zb (cs.drop (i+1))))) O:=by
 have hc:clipAt (zb cs).length ((i:Int)+1)=i+1:=by
  have:=clipAt_cast (zb cs).length ((i:Int)+1)
  rw[aj (by lia),zl] at this
  rw[zl];lia
 have ea:evE (PG k false) (R14 m cs (some (.d (.int (i:Int)))) b c) (.bin .add (.loc 2) (.int 1)) O=.ok (.d (.int ((i:Int)+1))) O:=z0 rfl rfl wn
 rw[zca,show evE (PG k false) (R14 m cs (some (.d (.int (i:Int)))) b c) (.loc 1) O=.ok (.d (.list (zb cs))) O from rfl,zj,ea,zj]
 show opt ((xo (zb cs) (.int ((i:Int)+1)) .none).map V.d) O=_
 unfold xo
 rw[af h.line]
 show R.ok (V.d (.list (j9 (zb cs) (clipAt (zb cs).length ((i:Int)+1)) (zb cs).length))) O=_
 rw[hc]
 unfold j9
 rw[List.take_of_length_le (by rw[List.length_drop];exact aL _)]
 unfold zb
 rw[List.map_drop]
theorem any_alike{a:List Int}{l:Cs}:l.any (yt (dueI m) a)=false↔∀ b∈l,yt (dueI m) a b=false:=by
 rw[List.any_eq_false]
 exact⟨fun h b hb=>ba.mpr (h b hb),fun h b hb=>ba.mp (h b hb)⟩
theorem zhc(hm:m4 m)(h:Ok12 m cs){zs:List PyData}:∀ (l:Cs) (i:Nat) (a b e:Option V),cs.drop i=l →
 (Pw (dueI m) l∧∃ a' b' e',z7 (.plain zs) (yq (PG (k+2) false) (.two (.name 2) (.name 3)) pf) ((l.zipIdx i).map fun p=>.tuple [.int (p.2:Int),caseD p.1]) (R14 m cs a b e) O=.ok .next (R14 m cs a' b' e',O)) ∨
 (¬ Pw (dueI m) l∧∃ x y ρ',z7 (.plain zs) (yq (PG (k+2) false) (.two (.name 2) (.name 3)) pf) ((l.zipIdx i).map fun p=>.tuple [.int (p.2:Int),caseD p.1]) (R14 m cs a b e) O=.ok (.ret (.d (.tuple [x,y]))) (ρ',O))
 | [],i,a,b,e,_=>.inl ⟨List.Pairwise.nil,a,b,e,rfl⟩
 | c::l,i,a,b,e,hd=>by
   have hi:i < cs.length:=Nat.lt_of_not_le fun q=>by rw[List.drop_eq_nil_of_le q] at hd;exfalso;injection hd
   have hd':cs.drop (i+1)=l:=by rw[← List.drop_drop,hd];rfl
   have hmem:∀ x∈c::l,x∈cs:=fun x hx=>List.mem_of_mem_drop (hd ▸ hx)
   have hg:∀ x∈l,good m x:=fun x hx=>h.good x (hmem x (.tail _ hx))
   have ef:evS (PG (k+2) false) (.for_ (.name 4) (.e (.slice (.loc 1) (.bin .add (.loc 2) (.int 1)) .none)) v0) (R14 m cs (some (.d (.int (i:Int)))) (some (.d (caseD c))) e) O=z7 (.plain (zb l)) (yq (PG (k+2) false) (.name 4) v0) (zb l) (R14 m cs (some (.d (.int (i:Int)))) (some (.d (caseD c))) e) O:=by
    rw[v5,aj am,x_e,zr5 h hi,hd']
    rfl
   rw[List.zipIdx_cons,aS]
   refine eW (zhd (k:=k) (cs:=cs) (O:=O) (i:=some (.d (.int (i:Int)))) (zs:=zb l) hm (h.good c (hmem c (.head _))) l hg e) ?_ ?_
   ·rintro ⟨hb,e',h1⟩;have ht:yq (PG (k+2) false) (.two (.name 2) (.name 3)) pf (.tuple [.int (i:Int),caseD c]) (R14 m cs a b e) O=.ok .next (R14 m cs (some (.d (.int (i:Int)))) (some (.d (caseD c))) e',O):=
     (zc (P:=PG (k+2) false) (ρ:=R14 m cs (some (.d (.int (i:Int)))) (some (.d (caseD c))) e) (ef.trans h1)).trans rfl
    rw[jo ht]
    have hp:Pw (dueI m) (c::l)↔Pw (dueI m) l:=by
     unfold Pw
     rw[aY]
     exact⟨fun h=>h.2,fun h=>⟨any_alike.mp hb,h⟩⟩
    rw[hp]
    exact zhc hm h l (i+1) _ _ _ hd'
   ·rintro ⟨hb,x,ρ',h1⟩;have ht:yq (PG (k+2) false) (.two (.name 2) (.name 3)) pf (.tuple [.int (i:Int),caseD c]) (R14 m cs a b e) O=.ok (.ret (.d (.tuple [caseD c,caseD x]))) (ρ',O):=
     ze (P:=PG (k+2) false) (ρ:=R14 m cs (some (.d (.int (i:Int)))) (some (.d (caseD c))) e) (ef.trans h1)
    refine .inr ⟨fun hp=>?_,_,_,_,u3 ht⟩
    rw[any_alike.mpr (aY.mp hp).1] at hb;exfalso;injection hb
theorem zbx(hm:m4 m)(h:Ok12 m cs):(Pw (dueI m) cs∧zg P table (k+3) false 14 [.d (.list (due m)),.d (.list (zb cs))] O=.ok (.d .none) O)∨(¬ Pw (dueI m) cs∧∃ x y,zg P table (k+3) false 14 [.d (.list (due m)),.d (.list (zb cs))] O=.ok (.d (.tuple [x,y])) O):=by
 have ee:qh (zb cs)=(cs.zipIdx 0).map fun p=>.tuple [.int (p.2:Int),caseD p.1]:=by
  unfold qh zb
  rw[List.zipIdx_map,bf]
  rfl
 have ef:evS (PG (k+2) false) (.for_ (.two (.name 2) (.name 3)) (.enum (.loc 1)) pf) (R14 m cs none none none) O=z7 (.plain (qh (zb cs))) (yq (PG (k+2) false) (.two (.name 2) (.name 3)) pf) ((cs.zipIdx 0).map fun p=>.tuple [.int (p.2:Int),caseD p.1]) (R14 m cs none none none) O:=by
  rw[v5,aj am,← ee]
  rfl
 refine eW (zhc (k:=k) (O:=O) (zs:=qh (zb cs)) hm h cs 0 none none none rfl) ?_ ?_
 ·rintro ⟨hp,a',b',e',h1⟩;exact .inl ⟨hp,zv (fn:=c14) rfl ⟨rfl,by decide⟩ rfl ((zc (ef.trans h1)).trans (ze (yf rfl)))⟩
 ·rintro ⟨hp,x,y,ρ',h1⟩;exact .inr ⟨hp,x,y,zv (fn:=c14) rfl ⟨rfl,by decide⟩ rfl (ze (ef.trans h1))⟩
end
section
variable{m n lev k d:Nat}{C cs:Cs}{O:za}{kvs:List (MKey×PyData)}
theorem LookS.more{lev':Nat}(h:LookS m C n lev)(hl:lev≤lev'):LookS m C n lev':=fun k cs O d kvs h1 h2 h3=>by
 refine fe (Nat.exists_eq_add_of_le' hl) ?_;intro j eg;subst eg
 obtain⟨y,kvs',e,ny,mem,old⟩:=h (k+j) cs O d kvs h1 h2 h3
 exact⟨y,kvs',by rw[← cS];exact e,ny,mem,old⟩
theorem zkp(hm:m4 m)(hw3:(dueI m).length≤9):∀ n,n≤11→LookS m C n (3 * n+2)
 | 0,_=>zto
 | n+1,hn=>ztn (zkp hm hw3 n (Nat.le_of_succ_le hn)) hm hw3 (by lia) hn
theorem zdz(hm:m4 m)(hw3:(dueI m).length≤9){n:Nat}(hn:n≤11):LookS m C n 35:=(zkp hm hw3 n hn).more (by lia)
noncomputable def Held(m:Nat)(cs:Cs):Nat→PyData→Prop
 | 0,h=>h=.none
 | n+1,h=>Hd m n cs h
inductive WhR(m:Nat)(cs:Cs)(N:Nat)(O:za)(r:R (Loc×za) Fl):Prop
 | mk (kvs':List (MKey×PyData)) (h y:PyData) (hh:Held m cs N h) (hy:PlR m N cs y) (e:r=.ok .next ([some (.d (.list (due m))),some (.d (.list (zb cs))),some (.box O.length),some (.d h),some (.d (.int (N:Int))),some (.d (word true)),some (.d y)],O++[.dct kvs']))
noncomputable abbrev RF(m:Nat)(cs:Cs)(d:Nat)(h a b c:Option V):Loc:=[some (.d (.list (due m))),some (.d (.list (zb cs))),some (.box d),h,a,b,c]
noncomputable def ze6:CSs:=(.cons (.asg (.name 3) (.loc 6)) (.cons (.asg (.name 4) (.bin .add (.loc 4) (.int 1))) (.cons (.asg (.two (.name 5) (.name 6)) (.call 17 (.cons (.loc 0) (.cons (.loc 1) (.cons (.loc 4) (.cons (.loc 2) .nil)))))) .nil)))
noncomputable def whT(k:Nat)(ρ:Loc)(O:za):R (Loc×za) Bool:=((evE (PG k false) ρ (.cmp .eq (.loc 5) (.str (Str.ofString "hold"))) O).bind fun v O=>opt (truth v) O).lift ρ
theorem zgw{b:Bool}{h a c:Option V}:whT k (RF m cs d h a (some (.d (word b))) c) O=.ok (!b) (RF m cs d h a (some (.d (word b))) c,O):=by
 have e:evE (PG k false) (RF m cs d h a (some (.d (word b))) c) (.cmp .eq (.loc 5) (.str (Str.ofString "hold"))) O=.ok (.d (.bool !b)) O:=z9 rfl rfl (zj6 b O)
 unfold whT
 rw[e];rfl
theorem zgx{turn:Loc→za→R (Loc×za) Fl}{test:Loc→za→R (Loc×za) Bool}{t:Nat}{ρ ρ':Loc}{O O':za}(h:turn ρ O=.ok .next (ρ',O')) :
 (match (R.ok (!false) (ρ,O):R (Loc×za) Bool) with
   | .ok false S=>R.ok Fl.next S
   | .ok true S=>(match turn S.1 S.2 with
      | .ok (.ret v) S=>R.ok (Fl.ret v) S
      | .ok .next S=>yv test turn t S.1 S.2
      | _=>.stuck)
   | _=>.stuck)=yv test turn t ρ' O':=by
 show (match turn ρ O with
        | .ok (.ret v) S=>R.ok (Fl.ret v) S
        | .ok .next S=>yv test turn t S.1 S.2
        | _=>.stuck)=_
 rw[h]
theorem zhb(LA:∀ n,n≤11→LookS m C n 35)(h:InC m C cs)(hne:cs≠[]){N:Nat}(hN:N≤11)(hL:Least (dueI m) N cs):∀ (r t j:Nat) (kvs:List (MKey×PyData)) (hh:PyData) (y:PyData),N=j+r→r < t→Ok m C O.length (O++[.dct kvs]) kvs→Held m cs j hh→Rs m j cs (solv (dueI m) j cs) y →
 WhR m cs N O (yv (whT (k+35)) (fun ρ O=>evSs (PG (k+35) false) ze6 ρ O) t (RF m cs O.length (some (.d hh)) (some (.d (.int (j:Int)))) (some (.d (word (solv (dueI m) j cs)))) (some (.d y))) (O++[.dct kvs]))
 | 0,0,_,_,_,_,_,h,_,_,_=>absurd h (cB _)
 | 0,t+1,j,kvs,hh,y,e,_,_,g1,g2=>by
   have e:N=j:=e
   subst e
   rw[hL.yes] at g2
   refine⟨kvs,hh,y,g1,g2,?_⟩
   rw[yv,zgw,hL.yes]
   rfl
 | r+1,0,_,_,_,_,_,h,_,_,_=>absurd h (bI _)
 | r+1,t+1,j,kvs,hh,y,e,ht,ok,g1,g2=>by
   have hs:solv (dueI m) j cs=false:=hL.no j (by lia)
   obtain⟨y₁,kvs₁,e₁,ny,mem,old⟩:=LA (j+1) (by lia) k cs _ O.length kvs h hne ok
   have hset:(O++[Box.dct kvs]).set O.length (.dct kvs₁)=O++[.dct kvs₁]:=zfj
   rw[hset] at e₁
   have ok₁:Ok m C O.length (O++[.dct kvs₁]) kvs₁:=hset ▸ ok.set mem
   rw[hs] at g2
   obtain⟨kvs',h',y',q1,q2,ih⟩:=zhb LA h hne hN hL r t (j+1) kvs₁ y y₁ (by lia) (by exact Nat.le_of_lt_succ (by assumption)) ok₁ g2 ny
   refine⟨kvs',h',y',q1,q2,?_⟩
   have hb:evSs (PG (k+35) false) ze6 (RF m cs O.length (some (.d hh)) (some (.d (.int (j:Int)))) (some (.d (word (solv (dueI m) j cs)))) (some (.d y))) (O++[.dct kvs])=.ok .next (RF m cs O.length (some (.d y)) (some (.d (.int ((j+1:Nat):Int)))) (some (.d (word (solv (dueI m) (j+1) cs)))) (some (.d y₁)),O++[.dct kvs₁]):=by
    refine (zc (zt rfl rfl rfl)).trans ((zc (zt (z0 rfl rfl wn) rfl rfl)).trans ((zc (h9 rfl (zm rfl e₁) (v:=.d (resD (solv (dueI m) (j+1) cs) y₁)) rfl)).trans rfl))
   rw[yv,zgw,hs]
   rw[hs] at hb
   exact (zgx hb).trans ih
theorem kj{ws:List Wg}{cs:Cs}:∀ N,solv ws N cs=true→∃ n,n≤N∧Least ws n cs
 | 0,h=>⟨0,aL _,h,fun k hk=>absurd hk (bI _)⟩
 | N+1,h=>by
   cases hb:solv ws N cs with
   | true=>refine eY (kj N hb) ?_;intro n h1 h2;exact eZ n (dA h1) h2
   | false=>exact⟨N+1,aL _,h,fun k hk=>ba.mpr fun e=>by rw[zna e (bN hk)] at hb;cases hb⟩
inductive zst(m:Nat)(cs:Cs)(N:Nat)(O:za)(r:R za V):Prop
 | mk (y h:PyData) (hy:PlR m N cs y) (hh:Held m cs N h) (e:r=.ok (.d (.tuple [y,h,.int (N:Int)])) O)
theorem zab(LA:∀ n,n≤11→LookS m C n 35)(h:InC m C cs)(hne:cs≠[]){N:Nat}(hN:N≤11)(hL:Least (dueI m) N cs)(hC:C.length≤12)(hO:∀ b∈O,ShyB badP b):zst m cs N O (zg P table (k+36) false 18 [.d (.list (due m)),.d (.list (zb cs))] O):=by
 have ok0:Ok m C O.length (O++[.dct []]) []:=⟨by rw[aH (aL _),cr];rfl,⟨fun uA h=>(nomatch h),fun uA h=>(nomatch h),.nil,hC⟩,fun b hb=>by
  refine eW (ai.mp hb) ?_ ?_
  ·intro hb;exact hO b hb
  ·intro hb;rw[ac.mp hb];exact fun uA h=>nomatch h⟩
 obtain⟨y₁,kvs₁,e₁,ny,mem,old⟩:=LA 0 (by decide) k cs _ O.length [] h hne ok0
 have hset:(O++[Box.dct []]).set O.length (.dct kvs₁)=O++[.dct kvs₁]:=zfj
 rw[hset] at e₁
 have ok₁:Ok m C O.length (O++[.dct kvs₁]) kvs₁:=hset ▸ ok0.set mem
 obtain⟨kvs',h',y',q1,q2,hw⟩:=zhb (k:=k) (O:=O) LA h hne hN hL N 200 0 kvs₁ .none y₁ (by lia) (by lia) ok₁ rfl ny
 refine⟨y',h',q2,q1,?_⟩
 refine zal (fn:=c18) (ρ':=RF m cs O.length (some (.d h')) (some (.d (.int (N:Int)))) (some (.d (word true))) (some (.d y'))) (O':=[.dct kvs']) rfl ⟨rfl,by decide⟩ rfl ?_
 refine (zc (zt (v:=.box O.length) (O':=O++[.dct []]) rfl rfl rfl)).trans ((zc (zt rfl rfl rfl)).trans ((zc (zt rfl rfl rfl)).trans ?_))
 refine (zc (h9 rfl (zm rfl e₁) (v:=.d (resD (solv (dueI m) 0 cs) y₁)) rfl)).trans ?_
 have hw:evS (PG (k+35) false) (.while_ (.cmp .eq (.loc 5) (.str (Str.ofString "hold"))) ze6) (RF m cs O.length (some (.d .none)) (some (.d (.int ((0:Nat):Int)))) (some (.d (word (solv (dueI m) 0 cs)))) (some (.d y₁))) (O++[.dct kvs₁])=_:=hw
 exact (zc hw).trans (ze (yf rfl))
inductive LeastR(m:Nat)(so:Cs)(x:PyData):Prop
 | none (h:so=[]∨¬ Pw (dueI m) so) (e:x=.none)
 | some (n:Nat) (hne:so≠[]) (hp:Pw (dueI m) so) (hl:Least (dueI m) n so) (e:x=.int (n:Int))
inductive ToldR(m:Nat)(so:Cs)(x:PyData):Prop
 | none (h:so=[]) (e:x=.tuple [.str (Str.ofString "none")])
 | alike (hne:so≠[]) (hp:¬ Pw (dueI m) so) (a b:PyData) (e:x=.tuple [.str (Str.ofString "alike"),a,b])
 | plan (n:Nat) (hne:so≠[]) (hN:n≤11) (hp:Pw (dueI m) so) (hl:Least (dueI m) n so) (y h:PyData) (hy:PlR m n so y) (hh:Held m so n h) (e:x=.tuple [.str (Str.ofString "plan"),y,h])
theorem due9{m:Nat}(h2:2≤m)(h4:m≤4):(dueI m).length≤9:=by
 have:m=2∨m=3∨m=4:=by lia
 rcases this with rfl | rfl | rfl <;> decide
theorem Ok12.open_{cs:Cs}{ds:List Dn}(f:Found m cs):Ok12 m (zw cs ds):=⟨fun c hc=>f.good c (bw.mp hc).1,ak (List.length_filter_le _ _) f.le⟩
theorem zcz{so:Cs}{P:Pg}{ρ:Loc}{a:CE}(h:evE P ρ a O=.ok (.d (.list (zb so))) O):evE P ρ (.cmp .eq a (.list .nil)) O=.ok (.d (.bool so.isEmpty)) O:=by
 refine z9 h rfl ((zcv (vz _)).trans ?_)
 congr 3
 unfold zb;rw[List.isEmpty_map]
theorem zok(hm:m4 m)(h4:m≤4){cs:Cs}{ds:List Dn}(f:Found m cs)(hd:Dns m ds)(h1:One O)(hO:∀ b∈O,ShyB badP b):∃ x,zg P table (k+37) false 20 [.d (.int m),.d (.list (zb cs)),.d (.list (dnsD ds))] O=.ok (.d x) O∧LeastR m (zw cs ds) x:=by
 have hso:Ok12 m (zw cs ds):=.open_ f
 have e1:=zlu (k:=k+31) (O:=O) hm f hd (.d _) (.d _)
 have e2:=zlw (k:=k+32) hm.1 h4 h1
 have e3:evE (PG (k+36) false) [some (.d (.int m)),some (.d (.list (zb cs))),some (.d (.list (dnsD ds))),some (.d (.list (zb (zw cs ds)))),some (.d (.list (due m)))] (.cmp .eq (.loc 3) (.list .nil)) O=.ok (.d (.bool (zw cs ds).isEmpty)) O:=zcz rfl
 have pre:∀ {r:R (Loc×za) Fl} {ss:CSs},evSs (PG (k+36) false) ss [some (.d (.int m)),some (.d (.list (zb cs))),some (.d (.list (dnsD ds))),some (.d (.list (zb (zw cs ds)))),some (.d (.list (due m)))] O=r→evSs (PG (k+36) false) (.cons (.asg (.name 3) (.call 12 (.cons (.loc 0) (.cons (.loc 1) (.cons (.loc 2) .nil))))) (.cons (.asg (.name 4) (.call 7 (.cons (.loc 0) .nil))) ss)) [some (.d (.int m)),some (.d (.list (zb cs))),some (.d (.list (dnsD ds))),none,none] O=r:=
  fun h=>(zc (zt (zm rfl e1) rfl rfl)).trans ((zc (zt (zm rfl e2) rfl rfl)).trans h)
 cases hem:(zw cs ds).isEmpty with
 | true=>
   rw[hem] at e3
   exact eZ .none (zv (fn:=c20) rfl ⟨rfl,by decide⟩ rfl (pre (ze ((w_if (zsz e3)).trans ((af rfl).trans (ze (yf rfl))))))) (.none (.inl (cM.mp hem)) rfl)
 | false=>
   rw[hem] at e3
   have hne:zw cs ds≠[]:=fun e=>by rw[e] at hem;exfalso;injection hem
   refine eW (zbx (k:=k+33) (O:=O) hm hso) ?_ ?_
   ·rintro ⟨hp,e4⟩;refine eY (kj _ (zfs 11 hp hne (ak hso.le (by decide)))) ?_;intro N hN hL
    obtain⟨y,h',_,_,e5⟩:=zab (k:=k) (O:=O) (fun n hn=>zdz hm (due9 hm.1 h4) hn) ⟨hso,cF _⟩ hne hN hL hso.le hO
    refine eZ (.int (N:Int)) (zv (fn:=c20) rfl ⟨rfl,by decide⟩ rfl (pre ((zc (y4 (h8 e3 (z9 (zm rfl e4) rfl rfl)))).trans (ze (yf (xh (zm rfl e5) rfl rfl)))))) (.some N hne hp hL rfl)
   ·rintro ⟨hp,x,y,e4⟩;exact eZ .none (zv (fn:=c20) rfl ⟨rfl,by decide⟩ rfl (pre (ze ((w_if (h8 e3 (z9 (zm rfl e4) rfl rfl))).trans ((af rfl).trans (ze (yf rfl))))))) (.none (.inr hp) rfl)
theorem zp2{P:Pg}{ρ ρ':Loc}{O O':za}{e:CE}{i j k:Nat}{v:V}(hd:P.hd=false)(h:evE P ρ e O=.ok v O')(hb:zmm i j k v (ρ,O')=.ok .next (ρ',O')):evS P (.asg3 i j k e) ρ O=.ok .next (ρ',O'):=by
 show (if P.hd=true then .stuck else ((evE P ρ e O).lift ρ).bind (zmm i j k))=_
 rw[aj (by rw[hd];exact am),h];exact hb
theorem zrx(hm:m4 m)(h4:m≤4){cs:Cs}{ds:List Dn}(f:Found m cs)(hd:Dns m ds):∃ x,zg P table (k+37) false 19 [.d (.int m),.d (.list (zb cs)),.d (.list (dnsD ds))] []=.ok (.d x) []∧ToldR m (zw cs ds) x:=by
 have hso:Ok12 m (zw cs ds):=.open_ f
 have e1:=zlu (k:=k+31) (O:=[]) hm f hd (.d _) (.d _)
 have e2:=zlw (k:=k+32) hm.1 h4 .nil
 have e3:evE (PG (k+36) false) [some (.d (.int m)),some (.d (.list (zb cs))),some (.d (.list (dnsD ds))),some (.d (.list (zb (zw cs ds)))),some (.d (.list (due m))),none,none,none,none] (.cmp .eq (.loc 3) (.list .nil)) []=.ok (.d (.bool (zw cs ds).isEmpty)) []:=zcz rfl
 have pre:∀ {r:R (Loc×za) Fl} {ss:CSs},evSs (PG (k+36) false) ss [some (.d (.int m)),some (.d (.list (zb cs))),some (.d (.list (dnsD ds))),some (.d (.list (zb (zw cs ds)))),some (.d (.list (due m))),none,none,none,none] []=r→evSs (PG (k+36) false) (.cons (.asg (.name 3) (.call 12 (.cons (.loc 0) (.cons (.loc 1) (.cons (.loc 2) .nil))))) (.cons (.asg (.name 4) (.call 7 (.cons (.loc 0) .nil))) ss)) [some (.d (.int m)),some (.d (.list (zb cs))),some (.d (.list (dnsD ds))),none,none,none,none,none,none] []=r:=
  fun h=>(zc (zt (zm rfl e1) rfl rfl)).trans ((zc (zt (zm rfl e2) rfl rfl)).trans h)
 cases hem:(zw cs ds).isEmpty with
 | true=>
   rw[hem] at e3
   exact eZ _ (zv (fn:=c19) rfl ⟨rfl,by decide⟩ rfl (pre (ze ((w_if e3).trans ((af rfl).trans (ze (yf rfl))))))) (.none (cM.mp hem) rfl)
 | false=>
   rw[hem] at e3
   have hne:zw cs ds≠[]:=fun e=>by rw[e] at hem;exfalso;injection hem
   refine eW (zbx (k:=k+33) (O:=[]) hm hso) ?_ ?_
   ·rintro ⟨hp,e4⟩;refine eY (kj _ (zfs 11 hp hne (ak hso.le (by decide)))) ?_;intro N hN hL
    obtain⟨y,h',q1,q2,e5⟩:=zab (k:=k) (O:=[]) (fun n hn=>zdz hm (due9 hm.1 h4) hn) ⟨hso,cF _⟩ hne hN hL hso.le (fun uA h=>nomatch h)
    refine eZ _ (zv (fn:=c19) rfl ⟨rfl,by decide⟩ rfl (pre ((zc (y4 e3)).trans ((zc (zt (zm rfl e4) rfl rfl)).trans ((zc (y4 (z9 rfl rfl rfl))).trans ((zc (zp2 rfl (zm rfl e5) rfl)).trans (ze (yf rfl)))))))) (.plan N hne hN hp hL y h' q1 q2 rfl)
   ·rintro ⟨hp,x,y,e4⟩;exact eZ _ (zv (fn:=c19) rfl ⟨rfl,by decide⟩ rfl (pre ((zc (y4 e3)).trans ((zc (zt (zm rfl e4) rfl rfl)).trans (ze ((w_if (z9 rfl rfl rfl)).trans ((af rfl).trans (ze (yf rfl))))))))) (.alike hne hp x y rfl)
end
section
variable{ws:List Wg}
theorem vm:∀ {n:Nat} {cs cs':Cs},cs.Perm cs'→solv ws n cs=true→solv ws n cs'=true
 | 0,cs,cs',hp,h=>by
   have h:(cs.length == 1)=true:=h
   show (cs'.length == 1)=true
   rw[← hp.length_eq];exact h
 | n+1,cs,cs',hp,h=>by
   rw[solv_succ] at h ⊢
   rw[← hp.length_eq]
   refine h.imp id fun ⟨hl,w,hw,h⟩=>⟨hl,w,hw,fun o ho=>?_⟩
   have hq:(zf w o cs).Perm (zf w o cs'):=hp.filter _
   refine (h o ho).imp (fun e=>?_) fun h=>vm hq h
   rw[e] at hq
   exact hq.nil_eq.symm
theorem zh2{n:Nat}{cs cs':Cs}(hp:cs.Perm cs'):solv ws n cs=solv ws n cs':=cU.mpr ⟨vm hp,vm hp.symm⟩
theorem zgp{a b:List Int}:yt ws a b=yt ws b a:=by
 unfold yt
 congr 1
 funext w
 exact decide_eq_decide.mpr ⟨Eq.symm,Eq.symm⟩
theorem zng{cs cs':Cs}(hp:cs.Perm cs'):Pw ws cs↔Pw ws cs':=hp.pairwise_iff fun h=>by rw[zgp];exact h
structure Corr(ws:List Wg)(f:List Int→List Int)(ok:List Int→Prop):Prop where
 fwd:∀ w∈ws,∃ w'∈ws,∃ t:Int,(t=1∨t = -1)∧∀ c,ok c→zx w' (f c)=t * zx w c
 bwd:∀ w'∈ws,∃ w∈ws,∃ t:Int,(t=1∨t = -1)∧∀ c,ok c→zx w' (f c)=t * zx w c
theorem zkb{t o:Int}(ht:t=1∨t = -1)(ho:o∈outs):t * o∈outs:=by
 refine eW ht ?_ ?_<;>clear ht
 ·rintro rfl;rw[Int.one_mul];exact ho
 ·rintro rfl;refine eW (ae.mp ho) ?_ ?_;rotate_left;intro ho;rotate_right;rintro rfl
  ·exact .tail _ (.tail _ (.head _))
  refine eW (ae.mp ho) ?_ ?_
  ·rintro rfl;exact .tail _ (.head _)
  ·intro ho;rw[ac.mp ho];exact .head _
theorem t_eq{t a o:Int}(ht:t=1∨t = -1):t * a=o↔a=t * o:=by
 (refine eW ht ?_ ?_<;>clear ht;rotate_left;rintro rfl;rotate_right;rintro rfl) <;> lia
theorem part_map{f:List Int→List Int}{w w':Wg}{t o:Int}(ht:t=1∨t = -1):∀ {cs:Cs},(∀ c∈cs,zx w' (f c)=t * zx w c)→zf w' o (cs.map f)=(zf w (t * o) cs).map f
 | [],_=>rfl
 | c::cs,h=>by
   have ih:=part_map (o:=o) ht fun c hc=>h c (.tail _ hc)
   unfold zf at ih ⊢
   rw[aS,dQ,dQ,ih,h c (.head _)]
   by_cases e:t * zx w c=o
   ·rw[aD e,aD ((t_eq ht).mp e),af rfl,af rfl];rfl
   ·rw[aN e,aN fun q=>e ((t_eq ht).mpr q),aj am,aj am]
theorem gn{f:List Int→List Int}{ok:List Int→Prop}(C:Corr ws f ok):∀ {n:Nat} {cs:Cs},(∀ c∈cs,ok c)→(solv ws n (cs.map f)=true↔solv ws n cs=true)
 | 0,cs,_=>by
   show ((cs.map f).length == 1)=true↔(cs.length == 1)=true
   rw[aw]
 | n+1,cs,hok=>by
   rw[solv_succ,solv_succ,aw]
   have sub:∀ {w:Wg} {o:Int},∀ c∈zf w o cs,ok c:=fun c hc=>hok c (bw.mp hc).1
   refine or_congr Iff.rfl (and_congr Iff.rfl ⟨fun ⟨w',hw',h⟩=>?_,fun ⟨w,hw,h⟩=>?_⟩)
   ·refine eY (C.bwd w' hw') ?_;intro w hw eo;refine eY eo ?_;clear eo;intro t ht e
    refine eZ w hw (fun o ho=>?_)
    have:=h (t * o) (zkb ht ho)
    rw[part_map ht fun c hc=>e c (hok c hc)] at this
    have hto:t * (t * o)=o:=by (refine eW ht ?_ ?_<;>clear ht;rotate_left;rintro rfl;rotate_right;rintro rfl) <;> lia
    rw[hto] at this
    exact this.imp List.map_eq_nil_iff.mp (gn C sub).mp
   ·refine eY (C.fwd w hw) ?_;intro w' hw' eo;refine eY eo ?_;clear eo;intro t ht e
    refine eZ w' hw' (fun o ho=>?_)
    rw[part_map ht fun c hc=>e c (hok c hc)]
    exact (h (t * o) (zkb ht ho)).imp List.map_eq_nil_iff.mpr (gn C sub).mpr
theorem zb8{f:List Int→List Int}{ok:List Int→Prop}(C:Corr ws f ok){a b:List Int}(ha:ok a)(hb:ok b):yt ws (f a) (f b)=yt ws a b:=by
 unfold yt
 refine cU.mpr ?_
 rw[aI,aI]
 refine⟨fun h w hw=>?_,fun h w' hw'=>?_⟩
 ·refine eY (C.fwd w hw) ?_;intro w' hw' eo;refine eY eo ?_;clear eo;intro t ht e
  have:=bh (h w' hw')
  rw[e a ha,e b hb] at this
  refine aD ?_
  (refine eW ht ?_ ?_<;>clear ht;rotate_left;rintro rfl;rotate_right;rintro rfl) <;> lia
 ·refine eY (C.bwd w' hw') ?_;intro w hw eo;refine eY eo ?_;clear eo;intro t ht e
  refine aD ?_
  rw[e a ha,e b hb,bh (h w hw)]
theorem zqt{f:List Int→List Int}{ok:List Int→Prop}(C:Corr ws f ok){cs:Cs}(hok:∀ c∈cs,ok c):Pw ws (cs.map f)↔Pw ws cs:=by
 unfold Pw
 rw[List.pairwise_map]
 refine⟨fun h=>h.imp_of_mem fun ha hb h=>?_,fun h=>h.imp_of_mem fun ha hb h=>?_⟩
 ·rw[← zb8 C (hok _ ha) (hok _ hb)];exact h
 ·rw[zb8 C (hok _ ha) (hok _ hb)];exact h
end
structure Same(m:Nat)(so so':Cs):Prop where
 nil:so=[]↔so'=[]
 pw:Pw (dueI m) so↔Pw (dueI m) so'
 solv:∀ n,solv (dueI m) n so=solv (dueI m) n so'
theorem Same.perm{m:Nat}{so so':Cs}(h:so.Perm so'):Same m so so':=⟨⟨fun e=>by rw[e] at h;exact h.nil_eq.symm,fun e=>by rw[e] at h;exact h.eq_nil⟩,zng h,fun uA=>zh2 h⟩
theorem Same.map{m:Nat}{so:Cs}{f:List Int→List Int}{ok:List Int→Prop}(C:Corr (dueI m) f ok)(h:∀ c∈so,ok c):Same m so (so.map f):=⟨List.map_eq_nil_iff.symm,(zqt C h).symm,fun uA=>cU.mpr (gn C h).symm⟩
theorem Same.least{m:Nat}{so so':Cs}{x x':PyData}(S:Same m so so')(h:LeastR m so x)(h':LeastR m so' x'):x=x':=by
 cases h with
 | none hb e=>
   cases h' with
   | none _ e'=>rw[e,e']
   | some n hne hp _ _=>exact (hb.elim (fun q=>hne (S.nil.mp q)) fun q=>q (S.pw.mpr hp)).elim
 | some n hne hp hl e=>
   cases h' with
   | none hb _=>exact (hb.elim (fun q=>hne (S.nil.mpr q)) fun q=>q (S.pw.mp hp)).elim
   | some n' _ _ hl' e'=>
     have:n=n':=by
      rcases Nat.lt_trichotomy n n' with q | q | q
      ·have:=hl'.no n q;rw[← S.solv,hl.yes] at this;exfalso;injection this
      ·exact q
      ·have:=hl.no n' q;rw[S.solv,hl'.yes] at this;exfalso;injection this
     rw[e,e',this]
inductive WordR(m:Nat)(so:Cs)(w:Str):Prop
 | none (h:so=[]) (e:w=Str.ofString "none")
 | alike (hne:so≠[]) (hp:¬ Pw (dueI m) so) (e:w=Str.ofString "alike")
 | plan (hne:so≠[]) (hp:Pw (dueI m) so) (e:w=Str.ofString "plan")
theorem ToldR.word{m:Nat}{so:Cs}{t:PyData}(h:ToldR m so t):∃ w xs,t=.tuple (.str w::xs)∧xs.length≤2∧WordR m so w:=by
 cases h with
 | none h e=>exact fj _ [] e (by decide) (.none h rfl)
 | alike hne hp a b e=>exact fj _ [a,b] e (by show 2≤2;decide) (.alike hne hp rfl)
 | plan n hne hN hp hl y h hy hh e=>exact fj _ [y,h] e (by show 2≤2;decide) (.plan hne hp rfl)
theorem Same.word{m:Nat}{so so':Cs}{w w':Str}(S:Same m so so')(h:WordR m so w)(h':WordR m so' w'):w=w':=by
 cases h with
 | none h e=>
   cases h' with
   | none _ e'=>rw[e,e']
   | alike hne _ _=>exact (hne (S.nil.mp h)).elim
   | plan hne _ _=>exact (hne (S.nil.mp h)).elim
 | alike hne hp e=>
   cases h' with
   | none h _=>exact (hne (S.nil.mpr h)).elim
   | alike _ _ e'=>rw[e,e']
   | plan _ hp' _=>exact (hp (S.pw.mpr hp')).elim
 | plan hne hp e=>
   cases h' with
   | none h _=>exact (hne (S.nil.mpr h)).elim
   | alike _ hp' _=>exact (hp' (S.pw.mp hp)).elim
   | plan _ _ e'=>rw[e,e']
noncomputable def negC(c:List Int):List Int:=c.map fun i=>0 - i
theorem zla(c:List Int)(k:Nat):(negC c).getD k 0=0 - c.getD k 0:=by
 unfold negC
 rw[a5,a5,aR]
 cases c[k]? <;> rfl
theorem zcg(c:List Int):∀ is:List Int,yr (negC c) is=0 - yr c is
 | []=>rfl
 | i::is=>by
   have ih:=zcg c is
   unfold yr at ih ⊢
   rw[aS,aS,bE,bE,ih,zla]
   lia
theorem zak(w:Wg)(c:List Int):zx w (negC c) = -1 * zx w c:=by
 unfold zx
 rw[zcg,zcg,show (0 - yr c w.1) - (0 - yr c w.2)=yr c w.2 - yr c w.1 by lia,zci]
 lia
theorem zmb{ws:List Wg}:Corr ws negC fun uA=>True:=⟨fun w hw=>⟨w,hw,-1,.inr rfl,fun c uA=>zak w c⟩,fun w hw=>⟨w,hw,-1,.inr rfl,fun c uA=>zak w c⟩⟩
theorem zki{m:Nat}{c:List Int}(h:good m c):good m (negC c):=⟨by unfold negC;rw[aw];exact h.1,fun i hi=>by
 refine eY (av.mp hi) ?_;intro j hj eo;subst eo
 have:=h.2 j hj
 lia⟩
noncomputable def movC(p c:List Int):List Int:=p.map fun i=>c.getD i.toNat 0
noncomputable def idxN(p:List Int)(i:Int):Int:=((idxI i p).getD 0:Nat)
noncomputable def panN(p is:List Int):List Int:=sortI (is.map (idxN p))
theorem zjp{c is js:List Int}(h:is.Perm js):yr c is=yr c js:=by
 unfold yr
 induction h with
 | nil=>rfl
 | cons x _ ih=>rw[aS,aS,bE,bE,ih]
 | swap x y l=>rw[aS,aS,aS,aS,bE,bE,bE,bE];lia
 | trans _ _ ih1 ih2=>exact ih1.trans ih2
theorem zfy{p c:List Int}{i:Int}{k:Nat}(h:idxI i p=some k):(movC p c).getD k 0=c.getD i.toNat 0:=by
 unfold movC
 rw[a5,aR,(pn h).1];rfl
theorem zg0{p c:List Int}:∀ {is:List Int},(∀ i∈is,(idxI i p).isSome=true)→yr (movC p c) (is.map (idxN p))=yr c is
 | [],_=>rfl
 | i::is,h=>by
   have ih:=zg0 (c:=c) fun j hj=>h j (.tail _ hj)
   unfold yr at ih ⊢
   rw[aS,aS,aS,bE,bE,ih]
   refine fe (bn.mp (h i (.head _))) ?_;intro k hk
   have:idxN p i=(k:Int):=by unfold idxN;rw[hk];rfl
   rw[this,dB,zfy hk]
theorem zgz{p c is:List Int}(h:∀ i∈is,(idxI i p).isSome=true):yr (movC p c) (panN p is)=yr c is:=(zjp (sortI_perm _)).trans (zg0 h)
noncomputable def wN(p:List Int)(w:Wg):Wg:=(panN p w.1,panN p w.2)
theorem wy{p c:List Int}{w:Wg}(h1:∀ i∈w.1,(idxI i p).isSome=true)(h2:∀ i∈w.2,(idxI i p).isSome=true):zx (wN p w) (movC p c)=zx w c:=by
 unfold zx wN
 rw[zgz h1,zgz h2]
noncomputable def ordT:Nat→List Int→List Int→List (List Int)
 | 0,_,found=>[found]
 | n+1,left,found=>(List.range left.length).flatMap fun j=>ordT n (left.eraseIdx j) (found++[(left[j]?).getD 0])
noncomputable def ju(m:Nat):List Int:=(List.range m).map fun i:Nat=>(i:Int)
noncomputable def ords(m:Nat):List (List Int):=ordT m (ju m) []
noncomputable def zkc(m:Nat)(p:List Int):Bool:=((dueI m).all fun w=>w.1.all (fun i=>(idxI i p).isSome) && w.2.all (fun i=>(idxI i p).isSome) && ((dueI m).contains (wN p w) || (dueI m).contains ((wN p w).2,(wN p w).1))) && ((dueI m).all fun w'=>(dueI m).any fun w=>wN p w == w' || wN p w == (w'.2,w'.1)) && decide (p.length=m) && p.all (fun i=>decide (0≤i) && decide (i < (m:Int))) && (ju m).all fun i=>(idxI i p).isSome
theorem znm{m:Nat}(h2:2≤m)(h4:m≤4):((ords m).all (zkc m))=true:=by
 have:m=2∨m=3∨m=4:=by lia
 rcases this with rfl | rfl | rfl <;> decide +kernel
theorem zb2(w:Wg)(c:List Int):zx (w.2,w.1) c = -1 * zx w c:=by
 have:zx (w.2,w.1) c=0 - zx w c:=zci _ _
 lia
structure ku(m:Nat)(p:List Int):Prop where
 l:∀ w∈dueI m,∀ i∈w.1,(idxI i p).isSome=true
 r:∀ w∈dueI m,∀ i∈w.2,(idxI i p).isSome=true
 fwd:∀ w∈dueI m,wN p w∈dueI m∨((wN p w).2,(wN p w).1)∈dueI m
 bwd:∀ w'∈dueI m,∃ w∈dueI m,wN p w=w'∨wN p w=(w'.2,w'.1)
 len:p.length=m
 at_:∀ i∈p,0≤i∧i < (m:Int)
 has:∀ i∈ju m,(idxI i p).isSome=true
theorem zqx{m:Nat}{p:List Int}(h2:2≤m)(h4:m≤4)(h:p∈ords m):ku m p:=by
 have:=aI.mp (znm h2 h4) p h
 unfold zkc at this
 rw[aG,aG,aG,aG,aI,aI,aI,aI,aK] at this
 refine ff this ?_;clear this;intro dZ g5;refine ff dZ ?_;clear dZ;intro dZ g4;refine ff dZ ?_;clear dZ;intro dZ g3;refine ff dZ ?_;clear dZ;intro g1 g2
 have g:∀ w∈dueI m,((∀ i∈w.1,(idxI i p).isSome=true)∧∀ i∈w.2,(idxI i p).isSome=true)∧(wN p w∈dueI m∨((wN p w).2,(wN p w).1)∈dueI m):=fun w hw=>by
  have:=g1 w hw
  rwa [aG,aG,aI,aI,bG,List.contains_iff_mem,List.contains_iff_mem] at this
 refine⟨fun w hw=>(g w hw).1.1,fun w hw=>(g w hw).1.2,fun w hw=>(g w hw).2,fun w' hw'=>?_,g3,fun i hi=>?_,g5⟩
 ·refine eY (dI.mp (g2 w' hw')) ?_;intro w hw e
  rw[bG] at e
  exact eZ w hw (e.imp eq_of_beq eq_of_beq)
 ·have:=g4 i hi
  rwa [aG,aK,aK] at this
section
variable{m:Nat}{p:List Int}
theorem zmc(h:ku m p):Corr (dueI m) (movC p) fun uA=>True:=by
 refine⟨fun w hw=>?_,fun w' hw'=>?_⟩
 ·have e:∀ c,zx (wN p w) (movC p c)=zx w c:=fun c=>wy (h.l w hw) (h.r w hw)
  refine eW (h.fwd w hw) ?_ ?_
  ·intro g;exact⟨_,g,1,.inl rfl,fun c uA=>by rw[e,Int.one_mul]⟩
  ·intro g;exact⟨_,g,-1,.inr rfl,fun c uA=>by rw[zb2,e]⟩
 ·refine eY (h.bwd w' hw') ?_;intro w hw g
  have e:∀ c,zx (wN p w) (movC p c)=zx w c:=fun c=>wy (h.l w hw) (h.r w hw)
  refine eZ w hw ?_
  refine eW g ?_ ?_<;>clear g
  ·intro g;exact eZ 1 (.inl rfl) (fun c uA=>by rw[← g,e,Int.one_mul])
  ·intro g;refine eZ (-1) (.inr rfl) (fun c uA=>?_)
   have:=e c
   rw[g,zb2] at this
   lia
theorem zkj{c:List Int}(h:ku m p)(hc:good m c):good m (movC p c):=⟨by unfold movC;rw[aw];exact h.len,fun i hi=>by
 refine eY (av.mp hi) ?_;intro j _ eo;subst eo
 rw[a5]
 cases e:c[j.toNat]? with
 | none=>decide
 | some z=>exact hc.2 z (ay e)⟩
noncomputable def dN(p:List Int)(d:Dn):Dn:=(panN p d.1,panN p d.2.1,d.2.2)
theorem u9{w:Wg}(h:w∈wsI m):w∈dueI m∨(w.2,w.1)∈dueI m:=by
 refine eY (bA.mp h) ?_;intro v hv h
 refine eW (ae.mp h) ?_ ?_
 ·rintro rfl;exact .inl hv
 ·intro h;rw[ac.mp h];exact .inr hv
theorem zsx{w:Wg}(h:w∈dueI m∨(w.2,w.1)∈dueI m):w∈wsI m:=by
 refine eW h ?_ ?_<;>clear h
 ·intro h;exact bA.mpr ⟨w,h,.head _⟩
 ·intro h;exact bA.mpr ⟨(w.2,w.1),h,.tail _ (.head _)⟩
theorem zut(h:ku m p){d:Dn}(hd:OkD m d):OkD m (dN p d):=⟨zsx (by
 refine eW (u9 hd.w) ?_ ?_
 ·intro g;exact h.fwd _ g
 ·intro g;refine eW (h.fwd _ g) ?_ ?_
  ·intro q;exact .inr q
  ·intro q;exact .inl q),hd.o⟩
theorem zo3(h:ku m p){d:Dn}(hd:OkD m d)(c:List Int):xb (dN p d) (movC p c)=xb d c:=by
 have:zx (wN p (d.1,d.2.1)) (movC p c)=zx (d.1,d.2.1) c:=by
  refine eW (u9 hd.w) ?_ ?_
  ·intro g;exact wy (h.l _ g) (h.r _ g)
  ·intro g;exact wy (h.r _ g) (h.l _ g)
 exact this
theorem ph{f:List Int→List Int}{g:Dn→Dn}{cs:Cs}{ds:List Dn}(h:∀ d∈ds,∀ c∈cs,(xb (g d) (f c)=(g d).2.2↔xb d c=d.2.2)):zw (cs.map f) (ds.map g)=(zw cs ds).map f:=by
 unfold zw
 rw[List.filter_map]
 congr 1
 refine List.filter_congr fun c hc=>?_
 show (ds.map g).all _=_
 unfold x0
 rw[List.all_map]
 refine cU.mpr ?_
 rw[aI,aI]
 exact forall_congr' fun d=>forall_congr' fun hd=>by
  show decide (xb (g d) (f c)=(g d).2.2)=true↔_
  rw[aK,aK];exact h d hd c hc
theorem zkf(h:ku m p){cs:Cs}{ds:List Dn}(hd:∀ d∈ds,OkD m d):zw (cs.map (movC p)) (ds.map (dN p))=(zw cs ds).map (movC p):=ph fun d hdm c uA=>by
 rw[zo3 h (hd d hdm)];exact Iff.rfl
noncomputable def oppD(d:Dn):Dn:=(d.1,d.2.1,0 - d.2.2)
noncomputable def zet(d:Dn):Dn:=(d.2.1,d.1,d.2.2)
theorem zb3(d:Dn)(c:List Int):xb d (negC c)=0 - xb d c:=by
 have:=zak (d.1,d.2.1) c
 show zx (d.1,d.2.1) (negC c)=0 - zx (d.1,d.2.1) c
 lia
theorem zb1(d:Dn)(c:List Int):xb (xm d) c=0 - xb d c:=zci _ _
theorem zke{cs:Cs}{ds:List Dn}:zw (cs.map negC) (ds.map oppD)=(zw cs ds).map negC:=ph fun d uA c uA=>by
 show xb d (negC c)=0 - d.2.2↔_
 rw[zb3];lia
theorem zih{cs:Cs}{ds:List Dn}:zw (cs.map negC) (ds.map zet)=(zw cs ds).map negC:=ph fun d uA c uA=>by
 have e:xb (zet d) (negC c)=0 - xb d (negC c):=zb1 d (negC c)
 rw[e,zb3]
 show 0 - (0 - xb d c)=d.2.2↔_
 lia
end
theorem zkd{cs:Cs}{ds:List Dn}:zw cs.reverse ds=(zw cs ds).reverse:=by
 unfold zw;exact List.filter_reverse
theorem g7{ds:List Dn}{c:List Int}:x0 (ds.map xm) c=x0 ds c:=by
 unfold x0
 rw[List.all_map]
 congr 1
 funext d
 show decide (xb (xm d) c=0 - d.2.2)=_
 rw[zb1]
 exact decide_eq_decide.mpr (by lia)
theorem zig{cs:Cs}{ds:List Dn}:zw cs (ds.map xm).reverse=zw cs ds:=by
 unfold zw
 congr 1
 funext c
 rw[← g7 (ds:=ds)]
 unfold x0
 exact List.all_reverse
theorem zfv{cs:Cs}{ds:List Dn}:zw cs (ds++ds.map xm)=zw cs ds:=by
 unfold zw
 congr 1
 funext c
 have:=g7 (ds:=ds) (c:=c)
 unfold x0 at this ⊢
 rw[List.all_append,this,Bool.and_self]
theorem lay_ints:∀ (is:List Int),∀ x∈is.map PyData.int,Lay 10 x:=fun is x hx=>by
 refine eY (av.mp hx) ?_;intro i _ eo;subst eo
 exact⟨rfl,a8 _⟩
theorem zns{is:List Int}{O:za}{n:Nat}(h:O[n]?=some (.lst (is.map .int))):cmpV .ne (.box n) (.d (.list [])) O=.ok (.d (.bool !is.isEmpty)) O:=by
 refine zmg (.inr rfl) (Seen.box n _ h).look rfl ?_
 show (if eqOk (.list (is.map .int)) (.list [])=true then some (!PyData.eqv (.list (is.map .int)) (.list [])) else none)=_
 rw[af (p0 (Lay.list (lay_ints is)).lay rfl (by decide))]
 cases is <;> rfl
theorem zbw{α β:Type}{f:α→β}:∀ (l:List α) (j:Nat),(l.map f).eraseIdx j=(l.eraseIdx j).map f
 | [],_=>rfl
 | _::_,0=>rfl
 | a::l,j+1=>cK (f a::·) (zbw l j)
noncomputable abbrev RO(n:Int)(m:Nat):Loc:=[some (.d (.int n)),some (.d (.int m)),some (.box 0),some (.box 1)]
noncomputable abbrev OO(l f:List Int):za:=[.lst (l.map .int),.lst (f.map .int)]
noncomputable def ordB:CSs:=(.cons (.expr (.meth .append (.loc 3) (.cons (.pop (.loc 2) (.bin .mod (.loc 0) (.prim .len (.cons (.loc 2) .nil)))) .nil))) (.cons (.asg (.name 0) (.bin .fdiv (.loc 0) (.int 3))) .nil))
noncomputable def odT(k:Nat)(ρ:Loc)(O:za):R (Loc×za) Bool:=((evE (PG k false) ρ (.cmp .ne (.loc 2) (.list .nil)) O).bind fun v O=>opt (truth v) O).lift ρ
section
variable{k m:Nat}{n:Int}{l f:List Int}{j:Nat}
theorem zg5:odT k (RO n m) (OO l f)=.ok (!l.isEmpty) (RO n m,OO l f):=by
 have e:evE (PG k false) (RO n m) (.cmp .ne (.loc 2) (.list .nil)) (OO l f)=.ok (.d (.bool !l.isEmpty)) (OO l f):=z9 rfl rfl (zns rfl)
 unfold odT
 rw[e];rfl
theorem zsy{P:Pg}{ρ:Loc}{a b:CE}{O:za}{r:R za V}{n:Nat}{u:V}(h1:evE P ρ a O=.ok (.box n) O)(hr:recv .append (.box n) O=true)(h2:evE P ρ b O=.ok u O)(h3:g0 (.box n) u O=r):evE P ρ (.pop a b) O=r:=by
 show (evE P ρ a O).bind (fun v O=>if recv .append v O=true then (evE P ρ b O).bind fun u O=>g0 v u O else .stuck)=r
 rw[h1,zj,af hr,h2];exact h3
theorem pop_at(hj:j < l.length)(hl:l.length≤100):g0 (.box 0) (.d (.int (j:Int))) (OO l f)=.ok (.d (.int ((l[j]?).getD 0))) (OO (l.eraseIdx j) f):=by
 have hL:line=1000000:=rfl
 show (if 0≤(j:Int)∧(j:Int) < (l.map PyData.int).length∧(l.map PyData.int).length≤line then R.ok (V.d (((l.map PyData.int)[(j:Int).toNat]?).getD .none)) [Box.lst ((l.map PyData.int).eraseIdx (j:Int).toNat),Box.lst (f.map .int)] else .stuck)=_
 rw[aw,af ⟨by lia,by lia,by lia⟩,dB,aR,aq hj,zbw]
 rfl
theorem appO{x:Int}(h:f.length≤100):meth .append (.box 1) [.d (.int x)] (OO l f)=.ok (.d .none) (OO l (f++[x])):=by
 have hL:line=1000000:=rfl
 show (if (f.map PyData.int).length < line then R.ok (V.d .none) [Box.lst (l.map .int),Box.lst (f.map PyData.int++[.int x])] else .stuck)=_
 rw[af (by rw[aw];lia)]
 show _=R.ok (V.d .none) [Box.lst (l.map .int),Box.lst ((f++[x]).map .int)]
 rw[cW];rfl
theorem znp(hj:j < l.length)(hl:l.length≤100)(hf:f.length≤100)(ej:binK .mod (.d (.int n)) (.d (.int (l.length:Int))) (OO l f)=.ok (.d (.int (j:Int))) (OO l f)):evSs (PG k false) ordB (RO n m) (OO l f)=.ok .next (RO (Int.fdiv n 3) m,OO (l.eraseIdx j) (f++[(l[j]?).getD 0])):=by
 have hL:line=1000000:=rfl
 have el:evE (PG k false) (RO n m) (.prim .len (.cons (.loc 2) .nil)) (OO l f)=.ok (.d (.int (l.length:Int))) (OO l f):=(yc rfl rfl (kf (xs:=l.map .int) rfl (by rw[aw];lia))).trans (by rw[aw])
 exact (zc (jt (vg (v:=.box 1) rfl rfl (zr (zsy rfl rfl (z0 rfl el ej) (pop_at hj hl)) rfl) (appO hf)))).trans ((zc (zt (z0 rfl rfl (dv (by decide))) rfl rfl)).trans rfl)
theorem zpl:∀ (r t:Nat) (l f:List Int) (n:Int),l.length=r→r < t→r+f.length≤50→∃ p∈ordT r l f,∃ n',yv (odT k) (fun ρ O=>evSs (PG k false) ordB ρ O) t (RO n m) (OO l f)=.ok .next (RO n' m,OO [] p)
 | 0,0,_,_,_,_,h,_=>absurd h (bI _)
 | r+1,0,_,_,_,_,h,_=>absurd h (bI _)
 | 0,t+1,l,f,n,hl,_,_=>by
   have hl:=List.length_eq_zero_iff.mp hl
   subst hl
   exact⟨f,.head _,n,by rw[yv,zg5];rfl⟩
 | r+1,t+1,l,f,n,hl,ht,hb=>by
   refine eY (md n l.length (OO l f) (by lia)) ?_;intro j hj ej
   have hlen:(l.eraseIdx j).length=r:=by rw[List.length_eraseIdx,af hj];lia
   refine eY (zpl r t (l.eraseIdx j) (f++[(l[j]?).getD 0]) (Int.fdiv n 3) hlen (by omega) (by rw[aX,cy];omega)) ?_;intro p hp eo;refine fe eo ?_;clear eo;intro n' e
   refine⟨p,bA.mpr ⟨j,aZ.mpr hj,hp⟩,n',?_⟩
   have he:l.isEmpty=false:=by
    cases l with
    | nil=>exfalso;injection hl
    | cons _ _=>rfl
   rw[yv,zg5,he]
   exact (zgx (znp hj (by lia) (by lia) ej)).trans e
theorem zoj(hm:m4 m):∃ p∈ords m,zg P table (k+1) false 31 [.d (.int n),.d (.int m)] []=.ok (.box 0) [.lst (p.map .int)]:=by
 have h5:=hm.2
 refine eY (zpl (k:=k) (m:=m) m 200 (ju m) [] n (by unfold ju;rw[aw,List.length_range]) (by lia) (by rw[cA];lia)) ?_;intro p hp eo;refine fe eo ?_;clear eo;intro n' e
 refine eZ p hp ?_
 have ew:evS (PG k false) (.while_ (.cmp .ne (.loc 2) (.list .nil)) ordB) (RO n m) (OO (ju m) [])=.ok .next (RO n' m,OO [] p):=e
 have e0:evE (PG k false) [some (.d (.int n)),some (.d (.int m)),none,none] (.boxed (.listI (.range (.int 0) (.loc 1)))) []=.ok (.box 0) [.lst ((ju m).map .int)]:=by
  rcases wl hm with rfl | rfl | rfl | rfl <;> kernel_rfl
 have eb:evSs (PG k false) c31.body [some (.d (.int n)),some (.d (.int m)),none,none] []=.ok (.ret (.box 1)) (RO n' m,OO [] p):=(zc (zt e0 rfl rfl)).trans ((zc (zt (v:=.box 1) (O':=OO (ju m) []) rfl rfl rfl)).trans ((zc ew).trans (ze (yf rfl))))
 rw[ji (fn:=c31) rfl ⟨rfl,by decide⟩,evFn]
 show (match evSs (PG k false) c31.body [some (.d (.int n)),some (.d (.int m)),none,none] [] with
  | .ok (.ret v) S=>fin 0 true v S.2
  | .ok .next S=>.ok (.d .none) (S.2.take 0)
  | .stuck=>.stuck)=_
 rw[eb];rfl
end
section
variable{k m n:Nat}{p c is:List Int}{O:za}
theorem zgl(h:ku m p)(h5:m≤5)(hc:good m c)(hO:Seen O (.box n) (p.map .int)):zg P table (k+1) false 29 [.d (caseD c),.box n] O=.ok (.d (caseD (movC p c))) O:=by
 have hL:line=1000000:=rfl
 obtain⟨src,s1,s2,s3⟩:=hO.src
 have hl:src.xs.length≤line:=by rw[s2,aw,h.len];lia
 have e:=j8 (P:=PG k false) (ρ:=[some (.d (caseD c)),some (.box n),none]) (elt:=.idx (.loc 0) (.loc 2)) (tgt:=.name 2) (it:=.e (.loc 1)) (O:=O) rfl s1 s3 hl (fun x=>.int (c.getD (toI x).toNat 0)) fun x hx=>by
  rw[s2] at hx
  refine eY (av.mp hx) ?_;intro i hi eo;subst eo
  refine eZ [some (.d (caseD c)),some (.box n),some (.d (.int i))] rfl (xh rfl rfl ?_)
  have hb:=h.at_ i hi
  have hcl:=hc.1
  have hj:i.toNat < c.length:=by lia
  have:idxD (caseD c) (.int i)=some (.int (c.getD i.toNat 0)):=by
   unfold caseD idxD items
   dsimp only
   rw[aw,af (by lia),af hb.1,aR,a5,aq hj];rfl
  rw[jx,this];rfl
 rw[s2,bf] at e
 refine zv (fn:=c29) rfl ⟨rfl,by decide⟩ rfl (ze (yf (yc rfl e ((zcp (by rw[aw,h.len];lia)).trans ?_))))
 show _=R.ok (V.d (.tuple ((p.map fun i=>c.getD i.toNat 0).map .int))) O
 rw[bf];rfl
theorem zmz{P:Pg}{ρ:Loc}{a b:CE}{r:R za V}{u:V}(h1:evE P ρ a O=.ok (.box n) O)(hr:recv .append (.box n) O=true)(h2:evE P ρ b O=.ok u O)(h3:dz (.box n) u O=r):evE P ρ (.index a b) O=r:=by
 show (evE P ρ a O).bind (fun v O=>if recv .append v O=true then (evE P ρ b O).bind fun u O=>dz v u O else .stuck)=r
 rw[h1,zj,af hr,h2];exact h3
theorem zrm{i:Int}(hO:O[n]?=some (.lst (p.map .int)))(hl:p.length≤100)(h:(idxI i p).isSome=true):dz (.box n) (.d (.int i)) O=.ok (.d (.int (idxN p i))) O:=by
 refine fe (bn.mp h) ?_;intro k hk
 have hL:line=1000000:=rfl
 show (match O[n]? with
  | some (.lst xs)=>zk8 xs (.d (.int i)) O
  | _=>.stuck)=_
 rw[hO]
 show (if (p.map PyData.int).length≤line then opt (((intsOf (p.map .int)).bind (idxI i)).map fun k=>V.d (.int (k:Int))) O else .stuck)=_
 rw[aw,af (by lia),q0]
 show opt ((idxI i p).map fun k=>V.d (.int (k:Int))) O=_
 unfold idxN
 rw[hk];rfl
theorem znl{js:List Int}(h:js.length < 64):prim (PG k false) .sorted [.d (.list (js.map .int))] O=.ok (.d (.list ((sortI js).map .int))) O:=zdu (by
 show (if (js.map PyData.int).length < 64 then (wb (js.map .int)).map PyData.list else none)=_
 rw[aw,af h]
 unfold wb
 rw[q0];rfl)
theorem zlr(h:∀ i∈is,(idxI i p).isSome=true)(hl:is.length≤2)(hp:p.length≤100)(hO:O[n]?=some (.lst (p.map .int))):zg P table (k+1) false 30 [.d (.tuple (is.map .int)),.box n] O=.ok (.d (.tuple ((panN p is).map .int))) O:=by
 have hL:line=1000000:=rfl
 have e:=j8 (P:=PG k false) (ρ:=[some (.d (.tuple (is.map .int))),some (.box n),none]) (elt:=.index (.loc 1) (.loc 2)) (tgt:=.name 2) (it:=.e (.loc 0)) (src:=.plain (is.map .int)) (O:=O) rfl rfl rfl (by show (is.map PyData.int).length≤line;rw[aw];lia) (fun x=>.int (idxN p (toI x))) fun x hx=>by
  refine eY (av.mp hx) ?_;intro i hi eo;subst eo
  refine eZ [some (.d (.tuple (is.map .int))),some (.box n),some (.d (.int i))] rfl (zmz rfl ?_ rfl (zrm hO hp (h i hi)))
  show qb O n=true
  unfold qb
  rw[hO]
 have e':(Src.plain (is.map PyData.int)).xs.map (fun x=>PyData.int (idxN p (toI x)))=(is.map (idxN p)).map .int:=by
  show (is.map PyData.int).map _=_
  rw[bf,bf];rfl
 rw[e'] at e
 have hs:(sortI (is.map (idxN p))).length=is.length:=by rw[(sortI_perm _).length_eq,aw]
 exact zv (fn:=c30) rfl ⟨rfl,by decide⟩ rfl (ze (yf (yc rfl (yc rfl e (znl (by rw[aw];lia))) (zcp (by rw[aw,hs];lia)))))
end
noncomputable abbrev Way:=Cs×List Dn
noncomputable def wayD(w:Way):PyData:=.tuple [.list (zb w.1),.list (dnsD w.2)]
noncomputable def ways(p:List Int)(cs:Cs)(ds:List Dn):List Way:=[(cs.map (movC p),ds.map (dN p)),(cs.map negC,ds.map oppD),(cs.reverse,ds),(cs,(ds.map xm).reverse),(cs,ds++ds.map xm),(cs.map negC,ds.map zet)]
structure ze2(m:Nat)(so:Cs)(w:Way):Prop where
 f:Found m w.1
 d:Dns m w.2
 s:Same m so (zw w.1 w.2)
section
variable{m:Nat}{p:List Int}{cs:Cs}{ds:List Dn}
theorem zbt{g:List Int→List Int}(f:Found m cs)(h1:∀ c,good m c→good m (g c))(h2:∀ a b,good m a→good m b→g a=g b→a=b):Found m (cs.map g):=⟨fun c hc=>by
 refine eY (av.mp hc) ?_;intro a ha eo;subst eo
 exact h1 a (f.good a ha),List.pairwise_map.mpr (f.nodup.imp_of_mem fun ha hb h e=>h (h2 _ _ (f.good _ ha) (f.good _ hb) e)),by rw[aw];exact f.pos,by rw[aw];exact f.le⟩
theorem zg6(c:List Int):negC (negC c)=c:=by
 unfold negC
 rw[bf]
 refine (bO fun i uA=>?_).trans (List.map_id c)
 show 0 - (0 - i)=i
 lia
theorem znt(h:ku m p){a b:List Int}(ha:good m a)(hb:good m b)(e:movC p a=movC p b):a=b:=by
 refine List.ext_getElem (ha.1.trans hb.1.symm) fun i h1 h2=>?_
 have hi:(i:Int)∈ju m:=av.mpr ⟨i,aZ.mpr (ha.1 ▸ h1),rfl⟩
 refine fe (bn.mp (h.has _ hi)) ?_;intro k hk
 have e1:=zfy (c:=a) hk
 have e2:=zfy (c:=b) hk
 rw[e,e2,dB,a5,a5,aq h1,aq h2] at e1
 exact e1.symm
theorem same_rfl{so:Cs}:Same m so so:=⟨Iff.rfl,Iff.rfl,fun uA=>rfl⟩
theorem zmy(hm:m4 m)(h:ku m p)(f:Found m cs)(hd:∀ d∈ds,OkD m d)(hl:ds.length≤3):∀ w∈ways p cs ds,ze2 m (zw cs ds) w:=fun w hw=>by
 have fn:Found m (cs.map negC):=zbt f (fun c hc=>zki hc) fun a b uA uA e=>by rw[← zg6 a,e,zg6]
 have dm:∀ g:Dn→Dn,(∀ d∈ds,OkD m (g d))→Dns m (ds.map g):=fun g hg=>⟨fun d hd=>by
  refine eY (av.mp hd) ?_;intro e he eo;subst eo
  exact hg e he,by rw[aw];lia⟩
 have dt:∀ d∈ds.map xm,OkD m d:=(dm xm fun d hdm=>(hd d hdm).turn hm).ok
 have sn:Same m (zw cs ds) ((zw cs ds).map negC):=.map zmb fun uA uA=>trivial
 unfold ways at hw
 refine eW (ae.mp hw) ?_ ?_;rotate_left;intro hw;rotate_right;rintro rfl
 ·exact⟨zbt f (fun c hc=>zkj h hc) fun a b=>znt h,dm _ fun d hdm=>zut h (hd d hdm),by rw[zkf h hd];exact .map (zmc h) fun uA uA=>trivial⟩
 refine eW (ae.mp hw) ?_ ?_;rotate_left;intro hw;rotate_right;rintro rfl
 ·exact⟨fn,dm _ fun d hdm=>⟨(hd d hdm).w,by have:=(hd d hdm).o;show -1≤0 - d.2.2∧0 - d.2.2≤1;lia⟩,by rw[zke];exact sn⟩
 refine eW (ae.mp hw) ?_ ?_;rotate_left;intro hw;rotate_right;rintro rfl
 ·exact⟨⟨fun c hc=>f.good c (List.mem_reverse.mp hc),(List.reverse_perm cs).symm.nodup f.nodup,by rw[List.length_reverse];exact f.pos,by rw[List.length_reverse];exact f.le⟩,⟨hd,ak hl (by decide)⟩,by rw[zkd];exact .perm (List.reverse_perm _).symm⟩
 refine eW (ae.mp hw) ?_ ?_;rotate_left;intro hw;rotate_right;rintro rfl
 ·exact⟨f,⟨fun d hdm=>dt d (List.mem_reverse.mp hdm),by rw[List.length_reverse,aw];lia⟩,by rw[zig];exact same_rfl⟩
 refine eW (ae.mp hw) ?_ ?_
 ·rintro rfl;exact⟨f,⟨fun d hdm=>(ai.mp hdm).elim (hd d) (dt d),by rw[aX,aw];lia⟩,by rw[zfv];exact same_rfl⟩
 ·intro hw;rw[ac.mp hw]
  exact⟨fn,dm _ fun d hdm=>⟨(ud hm (hd d hdm).w).t,(hd d hdm).o⟩,by rw[zih];exact sn⟩
end
section
variable{P:Pg}{ρ:Loc}{O:za}{elt a:CE}{t:CT}
theorem zcx{ds:List Dn}{g:Dn→Dn}(hd:P.hd=false)(hl:ds.length≤20)(ha:evE P ρ a O=.ok (.d (.list (dnsD ds))) O)(h:∀ d∈ds,∃ ρ',zq t (.d (dnD d)) ρ=some ρ'∧evE P ρ' elt O=.ok (.d (dnD (g d))) O):evE P ρ (.comp elt t (.e a) .nil) O=.ok (.d (.list (dnsD (ds.map g)))) O:=by
 have e:=j8 (elt:=elt) (tgt:=t) (it:=.e a) (src:=.plain (dnsD ds)) hd (by rw[x_e,ha];rfl) rfl (by show (dnsD ds).length≤line;rw[xd];exact ak hl (by decide)) (fun x=>dnD (g (unD x))) fun x hx=>by
  refine eY (av.mp hx) ?_;intro d hdm eo;subst eo
  rw[w5];exact h d hdm
 rw[e,show (Src.plain (dnsD ds)).xs.map (fun x=>dnD (g (unD x)))=dnsD (ds.map g) by
  show (dnsD ds).map _=_
  unfold dnsD
  rw[bf,bf]
  exact bO fun d uA=>by show dnD (g (unD (dnD d)))=_;rw[w5];rfl]
theorem zlz{cs:Cs}{g:List Int→List Int}(hd:P.hd=false)(hl:cs.length≤12)(ha:evE P ρ a O=.ok (.d (.list (zb cs))) O)(h:∀ c∈cs,∃ ρ',zq t (.d (caseD c)) ρ=some ρ'∧evE P ρ' elt O=.ok (.d (caseD (g c))) O):evE P ρ (.comp elt t (.e a) .nil) O=.ok (.d (.list (zb (cs.map g)))) O:=by
 have e:=j8 (elt:=elt) (tgt:=t) (it:=.e a) (src:=.plain (zb cs)) hd (by rw[x_e,ha];rfl) rfl (by show (zb cs).length≤line;rw[zl];exact ak hl (by decide)) (fun x=>caseD (g (unC x))) fun x hx=>by
  refine eY (av.mp hx) ?_;intro d hdm eo;subst eo
  rw[xi];exact h d hdm
 rw[e,show (Src.plain (zb cs)).xs.map (fun x=>caseD (g (unC x)))=zb (cs.map g) by
  show (zb cs).map _=_
  unfold zb
  rw[bf,bf]
  exact bO fun d uA=>by show caseD (g (unC (caseD d)))=_;rw[xi];rfl]
theorem ze7{es:CEs}{vs:List V}{xs:List PyData}{O':za}(h:evEs P ρ es O=.ok vs O')(h':allD vs=some xs):evE P ρ (.list es) O=.ok (.d (.list xs)) O':=by
 rw[w0,h,zj,h'];rfl
theorem w_rev{xs:List PyData}(h:evE P ρ a O=.ok (.d (.list xs)) O)(hl:xs.length≤line):evE P ρ (.rev a) O=.ok (.d (.list xs.reverse)) O:=by
 rw[zsu,h,zj]
 show opt (Option.map V.d (if xs.length≤line then some (.list xs.reverse) else none)) O=_
 rw[af hl];rfl
end
noncomputable abbrev RU(s:List Int)(m:Nat)(cs:Cs)(ds:List Dn)(a b c d e f g:Option V):Loc:=[some (.d (.list (s.map .int))),some (.d (.int m)),some (.d (.list (zb cs))),some (.d (.list (dnsD ds))),a,b,c,d,e,f,g,none,none,none,none,none,none,none,none,none,none,none,none]
section
variable{k m:Nat}{s p:List Int}{cs:Cs}{ds:List Dn}{a b c d e f g:Option V}{O:za}
theorem znq(h:ku m p)(h5:m≤5)(fd:Found m cs)(hO:Seen O (.box 0) (p.map .int)):evE (PG (k+1) false) (RU s m cs ds (some (.box 0)) b c d e f g) (.comp (.call 29 (.cons (.loc 11) (.cons (.loc 4) .nil))) (.name 11) (.e (.loc 2)) .nil) O=.ok (.d (.list (zb (cs.map (movC p))))) O:=
 zlz rfl fd.le rfl fun c hc=>⟨_,rfl,zm rfl (zgl h h5 (fd.good c hc) hO)⟩
theorem zqz(h:ku m p)(hm:m4 m)(hd:Dns m ds)(hO:O[0]?=some (.lst (p.map .int))):evE (PG (k+1) false) (RU s m cs ds (some (.box 0)) b c d e f g) (.comp (.tup (.cons (.tup (.cons (.call 30 (.cons (.loc 12) (.cons (.loc 4) .nil))) (.cons (.call 30 (.cons (.loc 13) (.cons (.loc 4) .nil))) .nil))) (.cons (.loc 14) .nil))) (.two (.two (.name 12) (.name 13)) (.name 14)) (.e (.loc 3)) .nil) O=.ok (.d (.list (dnsD (ds.map (dN p))))) O:=
 zcx rfl hd.le rfl fun d hdm=>by
  have ok:=hd.ok d hdm
  have w:=ud hm ok.w
  have hp:p.length≤100:=by rw[h.len];exact ak hm.2 (by decide)
  have hi:(∀ i∈d.1,(idxI i p).isSome=true)∧∀ i∈d.2.1,(idxI i p).isSome=true:=by
   refine eW (u9 ok.w) ?_ ?_
   ·intro q;exact⟨h.l _ q,h.r _ q⟩
   ·intro q;exact⟨h.r _ q,h.l _ q⟩
  exact eZ _ rfl (y8 (y8 (zm rfl (zlr hi.1 w.l.len hp hO)) (zm rfl (zlr hi.2 w.r.len hp hO))) rfl)
theorem zii(h5:m≤5)(fd:Found m cs):evE (PG k false) (RU s m cs ds a b c d e f g) (.comp (.prim .tuple (.cons (.comp (.bin .sub (.int 0) (.loc 16)) (.name 16) (.e (.loc 15)) .nil) .nil)) (.name 15) (.e (.loc 2)) .nil) O=.ok (.d (.list (zb (cs.map negC)))) O:=
 zlz rfl fd.le rfl fun cc hc=>⟨RU s m cs ds a b c d e f g |>.set 15 (some (.d (caseD cc))),rfl,by
  have hL:line=1000000:=rfl
  have hl:=(fd.good cc hc).1
  have e1:=j8 (P:=PG k false) (ρ:=(RU s m cs ds a b c d e f g).set 15 (some (.d (caseD cc)))) (elt:=.bin .sub (.int 0) (.loc 16)) (tgt:=.name 16) (it:=.e (.loc 15)) (src:=.plain (cc.map .int)) (O:=O) rfl rfl rfl (by show (cc.map PyData.int).length≤line;rw[aw];lia) (fun x=>.int (0 - toI x)) fun x hx=>by
   refine eY (av.mp hx) ?_;intro i hi eo;subst eo
   exact eZ _ rfl (z0 rfl rfl vd)
  have e2:(Src.plain (cc.map PyData.int)).xs.map (fun x=>PyData.int (0 - toI x))=(negC cc).map .int:=by
   show (cc.map PyData.int).map _=_
   unfold negC
   rw[bf,bf];rfl
  rw[e2] at e1
  exact yc rfl e1 (zcp (by unfold negC;rw[aw,aw];lia))⟩
theorem zkg(hd:Dns m ds):evE (PG k false) (RU s m cs ds a b c d e f g) (.comp (.tup (.cons (.tup (.cons (.idx (.loc 17) (.int 1)) (.cons (.idx (.loc 17) (.int 0)) .nil))) (.cons (.bin .sub (.int 0) (.loc 18)) .nil))) (.two (.name 17) (.name 18)) (.e (.loc 3)) .nil) O=.ok (.d (.list (dnsD (ds.map xm)))) O:=
 zcx rfl hd.le rfl fun d uA=>⟨_,rfl,y8 (y8 (xh rfl rfl rfl) (xh rfl rfl rfl)) (z0 rfl rfl vd)⟩
theorem ztk(hd:Dns m ds):evE (PG k false) (RU s m cs ds a b c d e f g) (.comp (.tup (.cons (.loc 19) (.cons (.bin .sub (.int 0) (.loc 20)) .nil))) (.two (.name 19) (.name 20)) (.e (.loc 3)) .nil) O=.ok (.d (.list (dnsD (ds.map oppD)))) O:=
 zcx rfl hd.le rfl fun d uA=>⟨_,rfl,y8 rfl (z0 rfl rfl vd)⟩
theorem zq0(hd:Dns m ds):evE (PG k false) (RU s m cs ds a b c d e f g) (.comp (.tup (.cons (.tup (.cons (.idx (.loc 21) (.int 1)) (.cons (.idx (.loc 21) (.int 0)) .nil))) (.cons (.loc 22) .nil))) (.two (.name 21) (.name 22)) (.e (.loc 3)) .nil) O=.ok (.d (.list (dnsD (ds.map zet)))) O:=
 zcx rfl hd.le rfl fun d uA=>⟨_,rfl,y8 (y8 (xh rfl rfl rfl) (xh rfl rfl rfl)) rfl⟩
theorem zia:(zb cs).reverse=zb cs.reverse:=by unfold zb;rw[List.map_reverse]
theorem zj2{ds:List Dn}:(dnsD ds).reverse=dnsD ds.reverse:=by unfold dnsD;rw[List.map_reverse]
theorem zmn{ds es:List Dn}:dnsD ds++dnsD es=dnsD (ds++es):=by unfold dnsD;rw[cW]
theorem zls(hs:s.length≤63)(hm:m4 m)(h4:m≤4)(fd:Found m cs)(hd:∀ d∈ds,OkD m d)(hl:ds.length≤3):∃ p,ku m p∧zg P table (k+3) false 32 [.d (.list (s.map .int)),.d (.int m),.d (.list (zb cs)),.d (.list (dnsD ds))] []=.ok (.d (.list ((ways p cs ds).map wayD))) []:=by
 have hL:line=1000000:=rfl
 have n1:=kl (k:=k) (j:=20) (O:=[]) hs
 refine eY (zoj (k:=k+1) (m:=m) (n:=mixI s 20) hm) ?_;intro p hp e0
 have h:=zqx hm.1 h4 hp
 have hD:Dns m ds:=⟨hd,by lia⟩
 refine eZ p h ?_
 have hO:Seen [Box.lst (p.map .int)] (.box 0) (p.map .int):=.box 0 _ rfl
 have q1:evE (PG (k+2) false) (RU s m cs ds none none none none none none none) (.call 31 (.cons (.call 22 (.cons (.loc 0) (.cons (.int 20) .nil))) (.cons (.loc 1) .nil))) []=.ok (.box 0) [.lst (p.map .int)]:=zm (zr (zm rfl n1) rfl) e0
 generalize hB:[Box.lst (p.map .int)]=B at q1 hO
 have hB0:B[0]?=some (.lst (p.map .int)):=hB ▸ rfl
 have q2:=znq (k:=k+1) (s:=s) (ds:=ds) (b:=none) (c:=none) (d:=none) (e:=none) (f:=none) (g:=none) h hm.2 fd hO
 have q3:=zqz (k:=k+1) (s:=s) (cs:=cs) (b:=some (.d (.list (zb (cs.map (movC p)))))) (c:=none) (d:=none) (e:=none) (f:=none) (g:=none) h hm hD hB0
 have q4:=zii (k:=k+2) (s:=s) (ds:=ds) (a:=some (.box 0)) (b:=some (.d (.list (zb (cs.map (movC p)))))) (c:=some (.d (.list (dnsD (ds.map (dN p)))))) (d:=none) (e:=none) (f:=none) (g:=none) (O:=B) hm.2 fd
 have q5:=zkg (k:=k+2) (s:=s) (cs:=cs) (a:=some (.box 0)) (b:=some (.d (.list (zb (cs.map (movC p)))))) (c:=some (.d (.list (dnsD (ds.map (dN p)))))) (d:=some (.d (.list (zb (cs.map negC))))) (e:=none) (f:=none) (g:=none) (O:=B) hD
 have q6:=ztk (k:=k+2) (s:=s) (cs:=cs) (a:=some (.box 0)) (b:=some (.d (.list (zb (cs.map (movC p)))))) (c:=some (.d (.list (dnsD (ds.map (dN p)))))) (d:=some (.d (.list (zb (cs.map negC))))) (e:=some (.d (.list (dnsD (ds.map xm))))) (f:=none) (g:=none) (O:=B) hD
 have q7:=zq0 (k:=k+2) (s:=s) (cs:=cs) (a:=some (.box 0)) (b:=some (.d (.list (zb (cs.map (movC p)))))) (c:=some (.d (.list (dnsD (ds.map (dN p)))))) (d:=some (.d (.list (zb (cs.map negC))))) (e:=some (.d (.list (dnsD (ds.map xm))))) (f:=some (.d (.list [wayD (cs.map (movC p),ds.map (dN p)),wayD (cs.map negC,ds.map oppD),wayD (cs.reverse,ds)]))) (g:=none) (O:=B) hD
 have r2:∀ {ρ:Loc},evE (PG (k+2) false) ρ (.loc 2) B=.ok (.d (.list (zb cs))) B→evE (PG (k+2) false) ρ (.rev (.loc 2)) B=.ok (.d (.list (zb cs.reverse))) B:=fun h=>(w_rev h (by rw[zl];exact ak fd.le (by decide))).trans (by rw[zia])
 have r8:∀ {ρ:Loc},evE (PG (k+2) false) ρ (.loc 8) B=.ok (.d (.list (dnsD (ds.map xm)))) B→evE (PG (k+2) false) ρ (.rev (.loc 8)) B=.ok (.d (.list (dnsD (ds.map xm).reverse))) B:=fun h=>(w_rev h (by rw[xd,aw];lia)).trans (by rw[zj2])
 have r3:∀ {ρ:Loc},evE (PG (k+2) false) ρ (.loc 3) B=.ok (.d (.list (dnsD ds))) B→evE (PG (k+2) false) ρ (.loc 8) B=.ok (.d (.list (dnsD (ds.map xm)))) B→evE (PG (k+2) false) ρ (.bin .add (.loc 3) (.loc 8)) B=.ok (.d (.list (dnsD (ds++ds.map xm)))) B:=fun h1 h2=>(z0 h1 h2 (zga (by rw[xd,xd,aw];lia))).trans (by rw[zmn])
 suffices hb:evSs (PG (k+2) false) c32.body (RU s m cs ds none none none none none none none) []=.ok (.ret (.d (.list ((ways p cs ds).map wayD)))) (RU s m cs ds (some (.box 0)) (some (.d (.list (zb (cs.map (movC p)))))) (some (.d (.list (dnsD (ds.map (dN p)))))) (some (.d (.list (zb (cs.map negC))))) (some (.d (.list (dnsD (ds.map xm))))) (some (.d (.list [wayD (cs.map (movC p),ds.map (dN p)),wayD (cs.map negC,ds.map oppD),wayD (cs.reverse,ds)]))) (some (.d (.list (dnsD (ds.map zet))))),B) from zal (fn:=c32) (O:=[]) (O':=B) rfl ⟨rfl,by decide⟩ rfl hb
 refine (zc (zt q1 rfl rfl)).trans ((zc (zt q2 rfl rfl)).trans ((zc (zt q3 rfl rfl)).trans ((zc (zt q4 rfl rfl)).trans ((zc (zt q5 rfl rfl)).trans ?_))))
 refine (zc (zt (ze7 (zr (y8 rfl rfl) (zr (y8 rfl q6) (zr (y8 (r2 rfl) rfl) rfl))) rfl) rfl rfl)).trans ((zc (zt q7 rfl rfl)).trans (ze (yf ?_)))
 exact z0 rfl (ze7 (zr (y8 rfl (r8 rfl)) (zr (y8 rfl (r3 rfl rfl)) (zr (y8 rfl rfl) rfl))) rfl) (zga (by show 3+3≤line;lia))
end
theorem zdv{cs:Cs}:zw cs []=cs:=List.filter_eq_self.mpr fun uA uA=>rfl
theorem y7{cs:Cs}{q:Nat}{ρ:Loc}{O:za}{a:CE}(h:cs.length≤12)(ha:evE (PG q false) ρ a O=.ok (.d (.list (zb cs))) O):evE (PG q false) ρ (.prim .list (.cons a .nil)) O=.ok (.d (.list (zb cs))) O:=
 yc rfl ha (vp (x:=.list (zb cs)) rfl (af (by rw[zl];exact ak h (by decide))))
theorem j5{ds:List Dn}{q:Nat}{ρ:Loc}{O:za}{a:CE}(h:ds.length≤20)(ha:evE (PG q false) ρ a O=.ok (.d (.list (dnsD ds))) O):evE (PG q false) ρ (.prim .list (.cons a .nil)) O=.ok (.d (.list (dnsD ds))) O:=
 yc rfl ha (vp (x:=.list (dnsD ds)) rfl (af (by rw[xd];exact ak h (by decide))))
theorem zh4{P:Pg}{ρ:Loc}{O:za}{a b:CE}{i:Nat}{xs:List PyData}(h:xs.length≤line)(ha:evE P ρ a O=.ok (.d (.list xs)) O)(hb:evE P ρ b O=.ok (.d (.int (i:Int))) O):evE P ρ (.slice a .none b) O=.ok (.d (.list (xs.take i))) O:=by
 have hc:clipAt xs.length (i:Int)=min i xs.length:=by
  unfold clipAt
  rw[aj (by lia)]
  lia
 rw[zca,ha,zj,show evE P ρ .none O=.ok (.d .none) O from rfl,zj,hb,zj]
 show opt ((xo xs .none (.int (i:Int))).map V.d) O=_
 unfold xo
 rw[af h]
 show R.ok (V.d (.list (j9 xs 0 (clipAt xs.length (i:Int))))) O=_
 rw[hc]
 unfold j9
 rw[List.drop_zero,Nat.sub_zero,← List.take_eq_take_min]
theorem zh3{P:Pg}{ρ:Loc}{O:za}{a b:CE}{i:Nat}{xs:List PyData}(h:xs.length≤line)(hi:i≤xs.length)(ha:evE P ρ a O=.ok (.d (.list xs)) O)(hb:evE P ρ b O=.ok (.d (.int (i:Int))) O):evE P ρ (.slice a b .none) O=.ok (.d (.list (xs.drop i))) O:=by
 have hc:clipAt xs.length (i:Int)=i:=by
  unfold clipAt
  rw[aj (by lia)]
  lia
 rw[zca,ha,zj,hb,zj,show evE P ρ .none O=.ok (.d .none) O from rfl,zj]
 show opt ((xo xs (.int (i:Int)) .none).map V.d) O=_
 unfold xo
 rw[af h]
 show R.ok (V.d (.list (j9 xs (clipAt xs.length (i:Int)) xs.length))) O=_
 rw[hc]
 unfold j9
 rw[List.take_of_length_le (by rw[List.length_drop];exact Nat.le_refl _)]
theorem zk6{w:Str}{xs:List PyData}{O:za}(h:xs.length≤2):idxV (.d (.tuple (.str w::xs))) (.d (.int 0)) O=.ok (.d (.str w)) O:=by
 have hL:line=1000000:=rfl
 rw[jx]
 unfold idxD items
 dsimp only
 rw[aU,af (by lia)];rfl
theorem WordR.ne{m:Nat}{so:Cs}{w:Str}{O:za}(h:WordR m so w):cmpV .ne (.d (.str w)) (.d (.str w)) O=.ok (.d (.bool false)) O:=by
 cases h with
 | none _ e=>subst e;kernel_rfl
 | alike _ _ e=>subst e;kernel_rfl
 | plan _ _ e=>subst e;kernel_rfl
theorem LeastR.cmp{m:Nat}{so:Cs}{x:PyData}{O:za}(h:LeastR m so x):cmpV .ne (.d x) (.d x) O=.ok (.d (.bool false)) O∧cmpV .eq (.d x) (.d x) O=.ok (.d (.bool true)) O:=by
 have:Lay 10 x:=by
  cases h with
  | none _ e=>subst e;exact⟨rfl,a8 _⟩
  | some _ _ _ _ e=>subst e;exact⟨rfl,a8 _⟩
 have:=this.eq (by decide)
 rw[v_ne,v_eq,this.1,this.2]
 exact⟨rfl,rfl⟩
section
variable{k m:Nat}{cs so:Cs}{ds:List Dn}{s:List Int}
theorem zgh(hm:m4 m)(h4:m≤4)(f:Found m cs)(hd:Dns m ds):∃ w,WordR m (zw cs ds) w∧∀ {ρ:Loc} {a b c:CE},evE (PG (k+37) false) ρ a []=.ok (.d (.int m)) []→evE (PG (k+37) false) ρ b []=.ok (.d (.list (zb cs))) []→evE (PG (k+37) false) ρ c []=.ok (.d (.list (dnsD ds))) []→evE (PG (k+37) false) ρ (.idx (.call 19 (.cons a (.cons b (.cons c .nil)))) (.int 0)) []=.ok (.d (.str w)) []:=by
 refine eY (zrx (k:=k) hm h4 f hd) ?_;intro t e ht
 obtain⟨w,xs,rfl,hl,hw⟩:=ht.word
 exact eZ w hw (fun ha hb hc=>xh (zm (zr ha (zr hb (zr hc rfl))) e) rfl (zk6 hl))
theorem d7(hm:m4 m)(h4:m≤4)(f:Found m cs)(hd:Dns m ds):∃ x,LeastR m (zw cs ds) x∧∀ {ρ:Loc} {a b c:CE},evE (PG (k+37) false) ρ a []=.ok (.d (.int m)) []→evE (PG (k+37) false) ρ b []=.ok (.d (.list (zb cs))) []→evE (PG (k+37) false) ρ c []=.ok (.d (.list (dnsD ds))) []→evE (PG (k+37) false) ρ (.call 20 (.cons a (.cons b (.cons c .nil)))) []=.ok (.d x) []:=by
 refine eY (zok (k:=k) (O:=[]) hm h4 f hd .nil (fun uA h=>nomatch h)) ?_;intro x e hx
 exact eZ x hx (fun ha hb hc=>zm (zr ha (zr hb (zr hc rfl))) e)
noncomputable def lawB:CSs:=(.cons (.ife (.or_ (.cmp .ne (.call 20 (.cons (.loc 1) (.cons (.prim .list (.cons (.loc 9) .nil)) (.cons (.prim .list (.cons (.loc 10) .nil)) .nil)))) (.loc 6)) (.cmp .ne (.idx (.call 19 (.cons (.loc 1) (.cons (.prim .list (.cons (.loc 9) .nil)) (.cons (.prim .list (.cons (.loc 10) .nil)) .nil)))) (.int 0)) (.loc 5))) (.cons (.ret (.bool false)) .nil) .nil) .nil)
noncomputable abbrev RK(s:List Int)(m:Nat)(cs:Cs)(ds:List Dn)(so:Cs)(w:Str)(x:PyData)(a b c d e:Option V):Loc:=[some (.d (.list (s.map .int))),some (.d (.int m)),some (.d (.list (zb cs))),some (.d (.list (dnsD ds))),some (.d (.list (zb so))),some (.d (.str w)),some (.d x),a,b,c,d,e]
variable{w:Str}{x:PyData}{a b c d e:Option V}
theorem zs1(hm:m4 m)(h4:m≤4)(hw:WordR m so w)(hx:LeastR m so x){y:Way}(h:ze2 m so y):yq (PG (k+37) false) (.two (.name 9) (.name 10)) lawB (wayD y) (RK s m cs ds so w x a b c d e) []=.ok .next (RK s m cs ds so w x a b (some (.d (.list (zb y.1)))) (some (.d (.list (dnsD y.2)))) e,[]):=by
 refine eY (zgh (k:=k) hm h4 h.f h.d) ?_;intro w' hw' e1
 refine eY (d7 (k:=k) hm h4 h.f h.d) ?_;intro x' hx' e2
 obtain rfl:=h.s.word hw hw'
 obtain rfl:=h.s.least hx hx'
 exact (zc (P:=PG (k+37) false) (ρ:=RK s m cs ds so w x a b (some (.d (.list (zb y.1)))) (some (.d (.list (dnsD y.2)))) e) (y4 (h8 (z9 (e2 rfl (y7 h.f.le rfl) (j5 h.d.le rfl)) rfl hx.cmp.1) (z9 (e1 rfl (y7 h.f.le rfl) (j5 h.d.le rfl)) rfl hw.ne)))).trans rfl
theorem zpj(hm:m4 m)(h4:m≤4)(hw:WordR m so w)(hx:LeastR m so x){zs:List PyData}:∀ (l:List Way) (c d:Option V),(∀ y∈l,ze2 m so y)→∃ c' d',z7 (.plain zs) (yq (PG (k+37) false) (.two (.name 9) (.name 10)) lawB) (l.map wayD) (RK s m cs ds so w x a b c d e) []=.ok .next (RK s m cs ds so w x a b c' d' e,[])
 | [],c,d,_=>⟨c,d,rfl⟩
 | y::l,c,d,h=>by
   refine fE (zpj hm h4 hw hx (zs:=zs) l (some (.d (.list (zb y.1)))) (some (.d (.list (dnsD y.2)))) fun z hz=>h z (.tail _ hz)) ?_;intro c' d' e'
   exact fG c' d' ((jo (zs1 hm h4 hw hx (h y (.head _)))).trans e')
noncomputable def endB:CSs:=(.cons (.ife (.cmp .eq (.loc 4) (.list .nil)) (.cons (.ret (.and_ (.cmp .eq (.loc 5) (.str (Str.ofString "none"))) (.cmp .is (.loc 6) .none))) .nil) .nil) (.cons (.ife (.or_ (.cmp .ne (.idx (.call 19 (.cons (.loc 1) (.cons (.prim .list (.cons (.loc 4) .nil)) (.cons (.list .nil) .nil)))) (.int 0)) (.loc 5)) (.cmp .ne (.call 20 (.cons (.loc 1) (.cons (.prim .list (.cons (.loc 4) .nil)) (.cons (.list .nil) .nil)))) (.loc 6))) (.cons (.ret (.bool false)) .nil) .nil) (.cons (.asg (.name 8) (.bin .mod (.call 22 (.cons (.loc 0) (.cons (.int 21) .nil))) (.prim .len (.cons (.loc 4) .nil)))) (.cons (.asg (.name 11) (.bin .add (.slice (.loc 4) .none (.loc 8)) (.slice (.loc 4) (.bin .add (.loc 8) (.int 1)) .none))) (.cons (.ife (.and_ (.cmp .isnot (.loc 6) .none) (.and_ (.cmp .ne (.loc 11) (.list .nil)) (.nt (.chain .le .le (.int 0) (.call 20 (.cons (.loc 1) (.cons (.prim .list (.cons (.loc 11) .nil)) (.cons (.list .nil) .nil)))) (.loc 6))))) (.cons (.ret (.bool false)) .nil) .nil) (.cons (.ret (.cmp .eq (.call 20 (.cons (.loc 1) (.cons (.prim .list (.cons (.loc 2) .nil)) (.cons (.prim .list (.cons (.loc 3) .nil)) .nil)))) (.loc 6))) .nil))))))
theorem zg7{cs:Cs}{O:za}:cmpV .ne (.d (.list (zb cs))) (.d (.list [])) O=.ok (.d (.bool !cs.isEmpty)) O:=by
 refine zmg (.inr rfl) rfl rfl ?_
 show (if eqOk (.list (zb cs)) (.list [])=true then some (!PyData.eqv (.list (zb cs)) (.list [])) else none)=_
 rw[af (p0 (Lay.list (vz cs)).lay rfl (by decide))]
 cases cs <;> rfl
theorem q_none{O:za}:cmpV .eq (.d (.str (Str.ofString "none"))) (.d (.str (Str.ofString "none"))) O=.ok (.d (.bool true)) O:=by kernel_rfl
theorem zgm{cs:Cs}{i:Nat}:(zb cs).drop i=zb (cs.drop i):=by unfold zb;rw[List.map_drop]
theorem zfd{cs:Cs}{i:Nat}:(zb cs).take i=zb (cs.take i):=by unfold zb;rw[List.map_take]
theorem zjg{cs cs':Cs}:zb cs++zb cs'=zb (cs++cs'):=by unfold zb;rw[cW]
theorem zm0{P:Pg}{ρ:Loc}{O:za}{a b c:CE}{i j l:Int}(h1:evE P ρ a O=.ok (.d (.int i)) O)(h2:evE P ρ b O=.ok (.d (.int j)) O)(h3:evE P ρ c O=.ok (.d (.int l)) O)(hi:i≤j)(hj:j≤l):evE P ρ (.chain .le .le a b c) O=.ok (.d (.bool true)) O:=by
 rw[zgv,h1,zj,h2,zj,v_le,aD hi,zj,gf,je,zj,zsr,h3,zj,v_le,aD hj]
theorem zue(hs:s.length≤63)(hm:m4 m)(h4:m≤4)(f:Found m cs)(hd:Dns m ds)(hS:zw cs ds=so)(hw:WordR m so w)(hx:LeastR m so x):∃ ρ',evSs (PG (k+37) false) endB (RK s m cs ds so w x a b c d none) []=.ok (.ret (.d (.bool true))) (ρ',[]):=by
 have hL:line=1000000:=rfl
 have e1:evE (PG (k+37) false) (RK s m cs ds so w x a b c d none) (.cmp .eq (.loc 4) (.list .nil)) []=.ok (.d (.bool so.isEmpty)) []:=zcz rfl
 cases hem:so.isEmpty with
 | true=>
   rw[hem] at e1
   have hn:so=[]:=cM.mp hem
   cases hw with
   | alike hne _ _=>exact absurd hn hne
   | plan hne _ _=>exact absurd hn hne
   | none _ ew=>
     subst ew
     cases hx with
     | some _ hne _ _ _=>exact absurd hn hne
     | none _ ex=>
       subst ex
       exact fh _ (ze ((w_if e1).trans ((af rfl).trans (ze (yf (zcb (z9 rfl rfl q_none) (z9 rfl rfl rfl)))))))
 | false=>
   rw[hem] at e1
   have hne:so≠[]:=fun q=>by rw[q] at hem;exfalso;injection hem
   have hle:so.length≤12:=hS ▸ ak (List.length_filter_le _ _) f.le
   have hpos:0 < so.length:=cR.mpr hne
   have sub:∀ l:Cs,l.Sublist so→l≠[]→Found m l:=fun l hl hn=>⟨fun c hc=>f.good c (bw.mp (hS ▸ hl.subset hc)).1,f.nodup.sublist (hl.trans (hS ▸ ch)),cR.mpr hn,ak hl.length_le hle⟩
   have d0:Dns m []:=⟨fun uA h=>(nomatch h),a8 _⟩
   refine eY (zgh (k:=k) hm h4 (sub so (cF _) hne) d0) ?_;intro w' hw' e2
   refine eY (d7 (k:=k) hm h4 (sub so (cF _) hne) d0) ?_;intro x' hx' e3
   rw[zdv] at hw' hx'
   obtain rfl:=same_rfl.word hw hw'
   obtain rfl:=same_rfl.least hx hx'
   have s2:evE (PG (k+37) false) (RK s m cs ds so w x a b c d none) (.or_ (.cmp .ne (.idx (.call 19 (.cons (.loc 1) (.cons (.prim .list (.cons (.loc 4) .nil)) (.cons (.list .nil) .nil)))) (.int 0)) (.loc 5)) (.cmp .ne (.call 20 (.cons (.loc 1) (.cons (.prim .list (.cons (.loc 4) .nil)) (.cons (.list .nil) .nil)))) (.loc 6))) []=.ok (.d (.bool false)) []:=
    h8 (z9 (e2 rfl (y7 hle rfl) rfl) rfl hw.ne) (z9 (e3 rfl (y7 hle rfl) rfl) rfl hx.cmp.1)
   have n1:=kl (k:=k+35) (j:=21) (O:=[]) hs
   refine eY (md (mixI s 21) so.length [] hpos) ?_;intro j hj ej
   have hcl:(zb so).length≤line:=by rw[zl];lia
   have s3:evS (PG (k+37) false) (.asg (.name 8) (.bin .mod (.call 22 (.cons (.loc 0) (.cons (.int 21) .nil))) (.prim .len (.cons (.loc 4) .nil)))) (RK s m cs ds so w x a b c d none) []=.ok .next (RK s m cs ds so w x a (some (.d (.int (j:Int)))) c d none,[]):=by
    refine zt (z0 (zm rfl n1) (yc rfl rfl (g6 hcl)) ?_) rfl rfl
    rw[zl];exact ej
   have sp:evE (PG (k+37) false) (RK s m cs ds so w x a (some (.d (.int (j:Int)))) c d none) (.slice (.loc 4) .none (.loc 8)) []=.ok (.d (.list (zb (so.take j)))) []:=(zh4 hcl rfl rfl).trans (by rw[zfd])
   have ss:evE (PG (k+37) false) (RK s m cs ds so w x a (some (.d (.int (j:Int)))) c d none) (.slice (.loc 4) (.bin .add (.loc 8) (.int 1)) .none) []=.ok (.d (.list (zb (so.drop (j+1))))) []:=(zh3 (i:=j+1) hcl (by rw[zl];assumption) rfl (z0 rfl rfl wn)).trans (by rw[zgm])
   have hsub:(so.take j++so.drop (j+1)).Sublist so:=by
    conv=>rhs;rw[← List.take_append_drop j so]
    exact (cF _).append (List.drop_sublist_drop_left so (cH j))
   generalize hless:so.take j++so.drop (j+1)=less at hsub
   have s4:evS (PG (k+37) false) (.asg (.name 11) (.bin .add (.slice (.loc 4) .none (.loc 8)) (.slice (.loc 4) (.bin .add (.loc 8) (.int 1)) .none))) (RK s m cs ds so w x a (some (.d (.int (j:Int)))) c d none) []=.ok .next (RK s m cs ds so w x a (some (.d (.int (j:Int)))) c d (some (.d (.list (zb less)))),[]):=by
    refine zt (z0 sp ss ((zga ?_).trans ?_)) rfl rfl
    ·rw[zl,zl,dK,List.length_drop];lia
    ·rw[zjg,hless]
   have s5:evE (PG (k+37) false) (RK s m cs ds so w x a (some (.d (.int (j:Int)))) c d (some (.d (.list (zb less))))) (.and_ (.cmp .isnot (.loc 6) .none) (.and_ (.cmp .ne (.loc 11) (.list .nil)) (.nt (.chain .le .le (.int 0) (.call 20 (.cons (.loc 1) (.cons (.prim .list (.cons (.loc 11) .nil)) (.cons (.list .nil) .nil)))) (.loc 6))))) []=.ok (.d (.bool false)) []:=by
    cases hx with
    | none _ ex=>subst ex;exact ze9 (z9 rfl rfl rfl)
    | some n _ hp hl ex=>
      subst ex
      refine zcb (z9 rfl rfl rfl) ?_
      cases hle':less.isEmpty with
      | true=>exact ze9 ((z9 rfl rfl zg7).trans (by rw[hle'];rfl))
      | false=>
        have hln:less≠[]:=fun q=>by rw[q] at hle';exfalso;injection hle'
        refine eY (d7 (k:=k) hm h4 (sub less hsub hln) d0) ?_;intro y hy e4
        rw[zdv] at hy
        cases hy with
        | none hb _=>exact (hb.elim hln fun q=>q (hp.sublist hsub)).elim
        | some n' _ _ hl' ey=>
          subst ey
          have hn':n'≤n:=hl'.le (gj hl.yes hsub hln)
          exact zcb ((z9 rfl rfl zg7).trans (by rw[hle'];rfl)) (w_nt (bb:=true) (zm0 rfl (e4 rfl (y7 (ak hsub.length_le hle) rfl) rfl) rfl (by lia) (by lia)))
   refine eY (d7 (k:=k) hm h4 f hd) ?_;intro y hy e5
   rw[hS] at hy
   obtain rfl:=same_rfl.least hx hy
   exact fh _ ((zc (y4 e1)).trans ((zc (y4 s2)).trans ((zc s3).trans ((zc s4).trans ((zc (y4 s5)).trans (ze (yf (z9 (e5 rfl (y7 f.le rfl) (j5 hd.le rfl)) rfl hx.cmp.2))))))))
theorem zr1(hs:s.length≤63){l:List Way}(hl:l.length=6)(hok:∀ y∈l,ze2 m so y):∃ (l':List Way) (b':Option V),(∀ y∈l',ze2 m so y)∧evS (PG (k+37) false) (.ife (.cmp .eq (.loc 1) (.int 4)) (.cons (.asg (.name 8) (.bin .mod (.call 22 (.cons (.loc 0) (.cons (.int 22) .nil))) (.int 6))) (.cons (.asg (.name 7) (.list (.cons (.idx (.loc 7) (.loc 8)) (.cons (.idx (.loc 7) (.bin .mod (.bin .add (.loc 8) (.int 1)) (.int 6))) .nil)))) .nil)) .nil) (RK s m cs ds so w x (some (.d (.list (l.map wayD)))) none none none none) []=.ok .next (RK s m cs ds so w x (some (.d (.list (l'.map wayD)))) b' none none none,[]):=by
 have et:evE (PG (k+37) false) (RK s m cs ds so w x (some (.d (.list (l.map wayD)))) none none none none) (.cmp .eq (.loc 1) (.int 4)) []=.ok (.d (.bool (decide ((m:Int)=4)))) []:=z9 rfl rfl eq_int
 by_cases h:(m:Int)=4
 ·rw[aD h] at et
  have n1:=kl (k:=k+35) (j:=22) (O:=[]) hs
  refine eY (md (mixI s 22) 6 [] (by decide)) ?_;intro i hi ei
  refine eY (md ((i:Int)+1) 6 [] (by decide)) ?_;intro j hj ej
  have hlen:(l.map wayD).length=6:=by rw[aw,hl]
  refine eY (wq hlen (by decide) hi) ?_;intro x1 hx1 ex1
  refine eY (wq hlen (by decide) hj) ?_;intro x2 hx2 ex2
  refine eY (av.mp hx1) ?_;intro y1 hy1 eo;subst eo
  refine eY (av.mp hx2) ?_;intro y2 hy2 eo;subst eo
  refine fD [y1,y2] (some (.d (.int (i:Int)))) (fun y hy=>?_) ((w_if et).trans ((af rfl).trans ((zc (zt (z0 (zm rfl n1) rfl ei) rfl rfl)).trans ((zc (zt (ze7 (zr (xh rfl rfl (by rw[jx,ex1];rfl)) (zr (xh rfl (z0 (z0 rfl rfl wn) rfl ej) (by rw[jx,ex2];rfl)) rfl)) rfl) rfl rfl)).trans rfl))))
  refine eW (ae.mp hy) ?_ ?_
  ·rintro rfl;exact hok _ hy1
  ·intro hy;rw[ac.mp hy];exact hok _ hy2
 ·rw[aN h] at et
  exact fD l none hok (y4 et)
theorem zud(hs:s.length≤63):zg P table (k+38) false 33 [.d (.list (s.map .int))] []=.ok (.d (.bool true)) []:=by
 refine fx (zlp (k:=k+34) hs) ?_;intro m cs hm h4 f e1
 refine ft (zr7 (k:=k+34) hs hm f) ?_;intro ds hd hdl e2
 have hD:Dns m ds:=⟨hd,ak hdl (by decide)⟩
 have e3:=zol (k:=k+35) (O:=[]) hm f hD
 refine eY (zgh (k:=k) hm h4 f hD) ?_;intro w hw e4
 refine eY (d7 (k:=k) hm h4 f hD) ?_;intro x hx e5
 refine eY (zls (k:=k+34) hs hm h4 f hd hdl) ?_;intro p hp e6
 refine fy (zr1 (k:=k) (cs:=cs) (ds:=ds) (w:=w) (x:=x) hs rfl (zmy hm hp f hd hdl)) ?_;intro l b hl e7
 generalize hS:zw cs ds=so at e3 hw hx hl e7
 refine fE (zpj (k:=k) (s:=s) (cs:=cs) (ds:=ds) (a:=some (.d (.list (l.map wayD)))) (b:=b) (e:=none) hm h4 hw hx (zs:=l.map wayD) l none none hl) ?_;intro c' d' e8
 have ef:evS (PG (k+37) false) (.for_ (.two (.name 9) (.name 10)) (.e (.loc 7)) lawB) (RK s m cs ds so w x (some (.d (.list (l.map wayD)))) b none none none) []=.ok .next (RK s m cs ds so w x (some (.d (.list (l.map wayD)))) b c' d' none,[]):=by
  rw[v5,aj am]
  exact e8
 refine fe (zue (k:=k) (a:=some (.d (.list (l.map wayD)))) (b:=b) (c:=c') (d:=d') hs hm h4 f hD hS hw hx) ?_;intro ρ' er
 suffices hb:evSs (PG (k+37) false) c33.body [some (.d (.list (s.map .int))),none,none,none,none,none,none,none,none,none,none,none] []=.ok (.ret (.d (.bool true))) (ρ',[]) from zv (fn:=c33) rfl ⟨rfl,by decide⟩ rfl hb
 refine (zc (h9 rfl (zm rfl e1) rfl)).trans ?_
 refine (zc (zt (zm rfl e2) rfl rfl)).trans ?_
 refine (zc (zt (zm rfl e3) rfl rfl)).trans ?_
 refine (zc (zt (e4 rfl (y7 f.le rfl) (j5 hD.le rfl)) rfl rfl)).trans ?_
 refine (zc (zt (e5 rfl (y7 f.le rfl) (j5 hD.le rfl)) rfl rfl)).trans ?_
 refine (zc (zt (zm rfl e6) rfl rfl)).trans ?_
 exact (zc e7).trans ((zc ef).trans er)
end
theorem holds:PySem.Challenge.rw_uf050003_11.Holds:=holds_of fun script h=>⟨_,zud (k:=23) h⟩
end Mine.L11
end
end
theorem PySem.Challenge.cw_uf050003_11_holds : PySem.Challenge.rw_uf050003_11.Holds :=
  Mine.L11.holds
