import PyProof.Rows.All
import PySem.SetOps
import PyProof.Raises
import PyProof.Calls
import PyProof.PureCalls
import PyProof.EvalArms
import PyProof.Rules2
import PyProof.Claim2
import PyProof.Lay0
import PyProof.Rows.Frame
import PyProof.FactsAll.list_3
import PyProof.FactsAll.tuple_2
import PyProof.FactsAll.subtypes_4
import PyProof.Rules3
import PyProof.ListIndex
import PyProof.CallStr
import PyProof.Cells
import PyProof.Claim2Refuses
import PyProof.ConsumeWalk
import PyProof.CollectWalk
import PyProof.CompFree
import PyProof.PureInt
import PyProof.Conv_int_bool
import PyProof.DefCall
import PyProof.Dict
import PyProof.MeetsSeq
import PyProof.DictKind
import PyProof.DictKinds
import PyProof.DictStraight
import PyProof.TupleKey
import PyProof.DictRoadsH
import PyProof.EnumFor
import PyProof.EnumStmt
import PyProof.EnumMake
import PyProof.IsRules
import PyProof.P3Statements
import PyProof.EqLayable
import PyProof.FactsAll.set_1
import PyProof.FactsAll.set_2
import PyProof.ForAppend
import PyProof.WalksMore
import PyProof.RangeFor
import PyProof.IsiHeapPairs
import PyProof.IsiNone
import PyProof.IsiPairs
import PyProof.ListCopy
import PyProof.ListIndexNeg
import PyProof.ListRange
import PyProof.WalkInts
import PyProof.P3In
import PyProof.ReprRoads
import PyProof.Rows.Globals
import PyProof.Rows.News
import PyProof.Rows.Tup
import PyProof.Rows.TupIter
import PyProof.Rows.TupAssign
import PyProof.Rows.TupSub
import PyProof.Rows.SeqJoint
import PyProof.Rows.IntRules
import PyProof.Rows.ZipGen
import PyProof.WalksPairs
import PyProof.TupleCall
import PyProof.Rows.ListMade
import PyProof.Rows.Exc
import PyProof.Rows.RuleB_mul
import PyProof.Rows.RuleB_sub
import PyProof.Rows.RuleB_pow
import PyProof.Rows.RuleB_floordiv
import PyProof.Rows.RuleB_mod
import PyProof.StrBlock2
import PyProof.Rows.StrMul
import PyProof.Rows.StrTemp
import PyProof.Rows.RuleC_int
import PyProof.TupleOps
import PyProof.SeqI3
import PyProof.Rows.TupMore
import PyProof.SliceMore
import PyProof.Rows.StrRules
import PyProof.RulesDelMore
import PyProof.SumWalkG
import PyProof.Rows.TupAdd
import PyProof.TupleOfSeq
import PyProof.SetRoads
import PyProof.Rows.SetFrom
import PyProof.Rows.RotEnd
import KE.KUnpack
import KE.KMulAny
import KE.KRevSl
import KE.KSortTup
import KE.KSortedM
import Wide.FinOn
import OpenK.AllK
import Wide.All
import Lean
import PySem.Challenge.RW_uf050003_10
set_option Elab.async false
set_option genInjectivity false
set_option genSizeOf false
set_option linter.all false
set_option maxRecDepth 100000
set_option maxHeartbeats 8000000
namespace Mine
theorem eS{a b X:Prop}(h:a∨b)(k:a→X)(l:b→X):X:=h.elim k l
theorem ex1{A:Type _}{P:A→Prop}{X:Prop}(h:∃ x, P x)(k:∀ x, P x→X):X:=h.elim fun x h => k x h
theorem ex2{A B:Type _}{P:A→B→Prop}{X:Prop}(h:∃ x y, P x y)(k:∀ x y, P x y→X):X:=h.elim fun x h => ex1 h (k x)
theorem ex3{A B C:Type _}{P:A→B→C→Prop}{X:Prop}(h:∃ x y z, P x y z)(k:∀ x y z, P x y z→X):X:=h.elim fun x h => ex2 h (k x)
theorem ex4{A B C D:Type _}{P:A→B→C→D→Prop}{X:Prop}(h:∃ x y z u, P x y z u)(k:∀ x y z u, P x y z u→X):X:=h.elim fun x h => ex3 h (k x)
theorem fb{P0 P1:Prop}{X:Prop}(h:P0∧P1)(k:P0→P1→X):X:=k h.1 h.2
theorem fc{P0 P1 P2:Prop}{X:Prop}(h:P0∧P1∧P2)(k:P0→P1→P2→X):X:=k h.1 h.2.1 h.2.2
theorem fw{P0 P1 P2 P3:Prop}{X:Prop}(h:P0∧P1∧P2∧P3)(k:P0→P1→P2→P3→X):X:=k h.1 h.2.1 h.2.2.1 h.2.2.2
theorem fF{P0 P1 P2 P3 P4:Prop}{X:Prop}(h:P0∧P1∧P2∧P3∧P4)(k:P0→P1→P2→P3→P4→X):X:=k h.1 h.2.1 h.2.2.1 h.2.2.2.1 h.2.2.2.2
theorem eZ{A:Type _}{P0:A→Prop}{X:Prop}(h:∃ x, P0 x)(k:∀ x, P0 x→X):X:=ex1 h k
theorem eV{A:Type _}{P0 P1:A→Prop}{X:Prop}(h:∃ x, P0 x∧P1 x)(k:∀ x, P0 x→P1 x→X):X:=ex1 h fun x h => fb h (k x)
theorem fj{A:Type _}{P0 P1 P2:A→Prop}{X:Prop}(h:∃ x, P0 x∧P1 x∧P2 x)(k:∀ x, P0 x→P1 x→P2 x→X):X:=ex1 h fun x h => fc h (k x)
theorem fA{A B:Type _}{P0:A→B→Prop}{X:Prop}(h:∃ x y, P0 x y)(k:∀ x y, P0 x y→X):X:=ex2 h k
theorem fu{A B:Type _}{P0 P1:A→B→Prop}{X:Prop}(h:∃ x y, P0 x y∧P1 x y)(k:∀ x y, P0 x y→P1 x y→X):X:=ex2 h fun x y h => fb h (k x y)
theorem fh{A B:Type _}{P0 P1 P2:A→B→Prop}{X:Prop}(h:∃ x y, P0 x y∧P1 x y∧P2 x y)(k:∀ x y, P0 x y→P1 x y→P2 x y→X):X:=ex2 h fun x y h => fc h (k x y)
theorem ft{A B:Type _}{P0 P1 P2 P3:A→B→Prop}{X:Prop}(h:∃ x y, P0 x y∧P1 x y∧P2 x y∧P3 x y)(k:∀ x y, P0 x y→P1 x y→P2 x y→P3 x y→X):X:=ex2 h fun x y h => fw h (k x y)
theorem fE{A B:Type _}{P0 P1 P2 P3 P4:A→B→Prop}{X:Prop}(h:∃ x y, P0 x y∧P1 x y∧P2 x y∧P3 x y∧P4 x y)(k:∀ x y, P0 x y→P1 x y→P2 x y→P3 x y→P4 x y→X):X:=ex2 h fun x y h => fF h (k x y)
theorem fk{A B C:Type _}{P0 P1:A→B→C→Prop}{X:Prop}(h:∃ x y z, P0 x y z∧P1 x y z)(k:∀ x y z, P0 x y z→P1 x y z→X):X:=ex3 h fun x y z h => fb h (k x y z)
theorem fq{A B C:Type _}{P0 P1 P2:A→B→C→Prop}{X:Prop}(h:∃ x y z, P0 x y z∧P1 x y z∧P2 x y z)(k:∀ x y z, P0 x y z→P1 x y z→P2 x y z→X):X:=ex3 h fun x y z h => fc h (k x y z)
theorem eX{A B C:Type _}{P0 P1 P2 P3:A→B→C→Prop}{X:Prop}(h:∃ x y z, P0 x y z∧P1 x y z∧P2 x y z∧P3 x y z)(k:∀ x y z, P0 x y z→P1 x y z→P2 x y z→P3 x y z→X):X:=ex3 h fun x y z h => fw h (k x y z)
theorem fC{A B C:Type _}{P0 P1 P2 P3 P4:A→B→C→Prop}{X:Prop}(h:∃ x y z, P0 x y z∧P1 x y z∧P2 x y z∧P3 x y z∧P4 x y z)(k:∀ x y z, P0 x y z→P1 x y z→P2 x y z→P3 x y z→P4 x y z→X):X:=ex3 h fun x y z h => fF h (k x y z)
theorem fi{A B C D:Type _}{P0 P1:A→B→C→D→Prop}{X:Prop}(h:∃ x y z u, P0 x y z u∧P1 x y z u)(k:∀ x y z u, P0 x y z u→P1 x y z u→X):X:=ex4 h fun x y z u h => fb h (k x y z u)
theorem fe{A:Type _}{P0:A→Prop}(x:A)(h0:P0 x):∃ x, P0 x:=⟨x, h0⟩
theorem eW{A:Type _}{P0 P1:A→Prop}(x:A)(h0:P0 x)(h1:P1 x):∃ x, P0 x∧P1 x:=⟨x, h0, h1⟩
theorem ff{A:Type _}{P0 P1 P2:A→Prop}(x:A)(h0:P0 x)(h1:P1 x)(h2:P2 x):∃ x, P0 x∧P1 x∧P2 x:=⟨x, h0, h1, h2⟩
theorem fD{A B:Type _}{P0:A→B→Prop}(x:A)(y:B)(h0:P0 x y):∃ x y, P0 x y:=⟨x, y, h0⟩
theorem fz{A B:Type _}{P0 P1:A→B→Prop}(x:A)(y:B)(h0:P0 x y)(h1:P1 x y):∃ x y, P0 x y∧P1 x y:=⟨x, y, h0, h1⟩
theorem fg{A B:Type _}{P0 P1 P2:A→B→Prop}(x:A)(y:B)(h0:P0 x y)(h1:P1 x y)(h2:P2 x y):∃ x y, P0 x y∧P1 x y∧P2 x y:=⟨x, y, h0, h1, h2⟩
theorem fy{A B:Type _}{P0 P1 P2 P3:A→B→Prop}(x:A)(y:B)(h0:P0 x y)(h1:P1 x y)(h2:P2 x y)(h3:P3 x y):∃ x y, P0 x y∧P1 x y∧P2 x y∧P3 x y:=⟨x, y, h0, h1, h2, h3⟩
theorem eU{A B C:Type _}{P0 P1:A→B→C→Prop}(x:A)(y:B)(z:C)(h0:P0 x y z)(h1:P1 x y z):∃ x y z, P0 x y z∧P1 x y z:=⟨x, y, z, h0, h1⟩
theorem fx{A B C:Type _}{P0 P1 P2:A→B→C→Prop}(x:A)(y:B)(z:C)(h0:P0 x y z)(h1:P1 x y z)(h2:P2 x y z):∃ x y z, P0 x y z∧P1 x y z∧P2 x y z:=⟨x, y, z, h0, h1, h2⟩
theorem eY{A B C:Type _}{P0 P1 P2 P3:A→B→C→Prop}(x:A)(y:B)(z:C)(h0:P0 x y z)(h1:P1 x y z)(h2:P2 x y z)(h3:P3 x y z):∃ x y z, P0 x y z∧P1 x y z∧P2 x y z∧P3 x y z:=⟨x, y, z, h0, h1, h2, h3⟩
noncomputable abbrev aa:=@PySem.wpAny_bind
noncomputable abbrev ab:=@PySem.wpAny_pure
noncomputable abbrev ac:=@PySem.Heap.get?_push_of_some
noncomputable abbrev ae:=@List.mem_singleton
noncomputable abbrev af:=@List.mem_cons
noncomputable abbrev ag:=@List.mem_cons_of_mem
noncomputable abbrev ah:=@if_pos
noncomputable abbrev ai:=@if_neg
noncomputable abbrev aj:=@List.mem_append
noncomputable abbrev ak:=@Bool.false_ne_true
noncomputable abbrev am:=@List.mem_cons_self
noncomputable abbrev ao:=@List.getElem?_eq_getElem
noncomputable abbrev aq:=@Nat.le_trans
noncomputable abbrev au:=@List.mem_append_right
noncomputable abbrev av:=@Array.length_toList
noncomputable abbrev aw:=@List.mem_of_getElem?
noncomputable abbrev ay:=@PySem.Heap.get?_push_size
noncomputable abbrev az:=@List.mem_append_left
noncomputable abbrev aA:=@List.pairwise_cons
noncomputable abbrev aC:=@List.mem_map
noncomputable abbrev aD:=@Bool.and_eq_true
noncomputable abbrev aE:=@Option.map_eq_some_iff
noncomputable abbrev aF:=@List.getElem?_append_right
noncomputable abbrev aG:=@List.length_map
noncomputable abbrev aH:=@decide_eq_true
noncomputable abbrev aI:=@Nat.le_refl
noncomputable abbrev aJ:=@List.getElem?_append_left
noncomputable abbrev aK:=@PySem.wpAny_mono
noncomputable abbrev aL:=@List.getElem?_eq_some_iff
noncomputable abbrev aM:=@Option.some.inj
noncomputable abbrev aN:=@Bool.false_eq_true
noncomputable abbrev aO:=@decide_eq_true_eq
noncomputable abbrev aP:=@Array.getElem?_toList
noncomputable abbrev aQ:=@decide_eq_false
noncomputable abbrev aR:=@PySem.wpAny_holding
noncomputable abbrev aS:=@beq_iff_eq
noncomputable abbrev aT:=@List.getElem?_map
noncomputable abbrev aU:=@List.all_eq_true
noncomputable abbrev aV:=@Option.bind_eq_some_iff
noncomputable abbrev aW:=@Bool.eq_false_iff
noncomputable abbrev aX:=@PySem.Heap.lt_size
noncomputable abbrev aY:=@Nat.le_max_right
noncomputable abbrev aZ:=@PySem.wpAny_call_entry
noncomputable abbrev a0:=@List.length_cons
noncomputable abbrev a5:=@PySem.wpAny_ite_false
noncomputable abbrev a6:=@List.getElem?_eq_none
noncomputable abbrev a7:=@List.mem_range
noncomputable abbrev a8:=@Nat.ne_of_lt
noncomputable abbrev a9:=@List.map_cons
noncomputable abbrev ba:=@List.append_nil
noncomputable abbrev bc:=@List.length_set
noncomputable abbrev be:=@Nat.zero_le
noncomputable abbrev bf:=@List.append_assoc
noncomputable abbrev bg:=@PySem.Heap.get?_none_of_le
noncomputable abbrev bh:=@Array.getElem?_eq_getElem
noncomputable abbrev bj:=@List.length_append
noncomputable abbrev bk:=@List.nodup_cons
noncomputable abbrev bl:=@Nat.le_max_left
noncomputable abbrev bm:=@Nat.lt_or_ge
noncomputable abbrev bn:=@PySem.Heap.get?_update_self
noncomputable abbrev bo:=@PySem.Heap.size_push
noncomputable abbrev bp:=@Bool.not_true
noncomputable abbrev bq:=@Nat.not_lt_zero
noncomputable abbrev bt:=@List.prefix_refl
noncomputable abbrev bu:=@if_false
noncomputable abbrev bv:=@of_decide_eq_true
noncomputable abbrev bw:=@PySem.wpAny_setState_of
noncomputable abbrev bz:=@Array.getD_eq_getD_getElem?
noncomputable abbrev bA:=@PySem.wpAny_forIn_list
noncomputable abbrev bB:=@PySem.wpAny_seqItems
noncomputable abbrev bC:=@Nat.le_of_lt_succ
noncomputable abbrev bD:=@List.lookup_cons
noncomputable abbrev bE:=@List.take_length
noncomputable abbrev bF:=@PySem.wpAny_tupleItemsOf
noncomputable abbrev bG:=@PyProof.Rows.F.plain_set_update_loop
noncomputable abbrev bH:=@PySem.wpAny_callSpecial?_slot
noncomputable abbrev bI:=@Bool.not_eq_true'
noncomputable abbrev bJ:=@PySem.wpAny_truthy_bool
noncomputable abbrev bK:=@Int.toNat_natCast
noncomputable abbrev bL:=@List.mem_filter
noncomputable abbrev bM:=@PySem.wpAny_specialOf
noncomputable abbrev bN:=@List.getElem?_set_self
noncomputable abbrev bO:=@PySem.sizeLine_eq
noncomputable abbrev bP:=@Nat.lt_of_succ_lt_succ
noncomputable abbrev bQ:=@PySem.wpAny_field
noncomputable abbrev bR:=@PySem.wpAny_isInstance
noncomputable abbrev bS:=@Nat.lt_of_le_of_lt
noncomputable abbrev bT:=@PyProof.Rows.assignInOrder_cons
noncomputable abbrev bU:=@Nat.le_of_ble_eq_true
noncomputable abbrev bV:=@List.length_singleton
noncomputable abbrev bW:=@Classical.byContradiction
noncomputable abbrev bX:=@List.getElem?_of_mem
noncomputable abbrev bY:=@Bool.or_eq_true
noncomputable abbrev bZ:=@Option.isSome_iff_exists
noncomputable abbrev ca:=@Nat.sub_self
noncomputable abbrev cb:=@PyProof.Rows.spliced_more
noncomputable abbrev cc:=@PySem.codeAny_builtin
noncomputable abbrev cf:=@PySem.Around.under_plainId
noncomputable abbrev cg:=@List.pairwise_append
noncomputable abbrev ch:=@PySem.wpAny_pyIter_list
noncomputable abbrev cj:=@List.nodup_append
noncomputable abbrev cm:=@Nat.lt_succ_of_lt
noncomputable abbrev cn:=@PySem.wpAny_standAt
noncomputable abbrev co:=@List.eq_nil_of_length_eq_zero
noncomputable abbrev cp:=@PySem.Heap.SameBut.update
noncomputable abbrev cq:=@beq_self_eq_true
noncomputable abbrev cr:=@Nat.succ_le_succ
noncomputable abbrev ct:=@Array.getElem?_eq_none
noncomputable abbrev cu:=@PySem.Heap.get?_update_other
noncomputable abbrev cw:=@Nat.le_of_lt
noncomputable abbrev cy:=@Array.forIn_toList
noncomputable abbrev cz:=@PySem.isSubtype_tuple_tuple
noncomputable abbrev cA:=@congrArg
noncomputable abbrev cB:=@Nat.add_assoc
noncomputable abbrev cC:=@PySem.wpAny_newObj_type
noncomputable abbrev cD:=@PySem.Heap.get?_push_ne
noncomputable abbrev cE:=@bne_self_eq_false
noncomputable abbrev cF:=@Nat.lt_succ_of_le
noncomputable abbrev cG:=@List.getElem?_set_ne
noncomputable abbrev cH:=@PySem.Around.frames_deeper
noncomputable abbrev cI:=@PySem.wpAny_rule
noncomputable abbrev cJ:=@Nat.le_succ
noncomputable abbrev cK:=@Nat.ne_of_gt
noncomputable abbrev cL:=@Nat.lt_succ_self
noncomputable abbrev cM:=@List.not_mem_nil
noncomputable abbrev cN:=@PyProof.Rows.spliced_none
noncomputable abbrev cO:=@List.map_map
noncomputable abbrev cP:=@List.map_congr_left
noncomputable abbrev cQ:=@List.filter_sublist
noncomputable abbrev cR:=@PyProof.Rows.F.entry_set_update_loop
noncomputable abbrev cS:=@Nat.lt_irrefl
noncomputable abbrev cT:=@Nat.not_lt
noncomputable abbrev cU:=@List.foldl_cons
noncomputable abbrev cV:=@PyProof.Rows.Call_Name
noncomputable abbrev cW:=@Nat.le_antisymm
noncomputable abbrev cX:=@PySem.wpAny_setField_rec
noncomputable abbrev cY:=@List.map_append
noncomputable abbrev cZ:=@Nat.le_succ_of_le
noncomputable abbrev dA:=@List.take_add_one
noncomputable abbrev dB:=@List.forIn_nil
noncomputable abbrev dC:=@Nat.succ.inj
noncomputable abbrev dD:=@PySem.wpAny_ite_true
noncomputable abbrev dE:=@PySem.wpAny_richCompare_same_room
noncomputable abbrev dF:=@List.mem_of_mem_take
noncomputable abbrev dG:=@Nat.max_le
noncomputable abbrev dH:=@List.getElem_mem
noncomputable abbrev dI:=@List.isEmpty_iff
noncomputable abbrev dJ:=@PySem.Heap.size_update
noncomputable abbrev dK:=@Option.getD_some
noncomputable abbrev dL:=@PySem.wpAny_askSetting
noncomputable abbrev dM:=@Nat.le_of_not_lt
noncomputable abbrev dN:=@Nat.le_add_right
noncomputable abbrev dO:=@List.mem_flatMap
noncomputable abbrev dP:=@List.filterMap_cons
noncomputable abbrev dQ:=@PySem.Heap.get?_update_ne
noncomputable abbrev dR:=@PyProof.Rows.slot_tupleiter_next
noncomputable abbrev dS:=@List.length_pos_iff
noncomputable abbrev dT:=@List.forIn_cons
noncomputable abbrev dU:=@PySem.wpAny_ite_split
end Mine
set_option bootstrap.genMatcherCode false
set_option tactic.hygienic false
section
section
namespace Mine.L10
open PySem PySem.W PySem.Calls PyProof.Rows
noncomputable def en(P:Params)(x:String)(n:Nat)(v:Value):DictEntry:=DictEntry.mk (PyData.keyHash P (Str.ofString x)) (Value.str (Str.ofString x) n) v
noncomputable def zr2:Params→Frag:=fun P=>[
 (3,PySem.Obj.mk (Value.type "dict") Option.none (PySem.Data.dict #[en P "__name__" 165 (Value.str (Str.ofString "law_uf050003_10") 467),en P "__doc__" 166 Value.none,en P "__package__" 167 Value.none,en P "__loader__" 168 (Value.builtin "__main__.__loader__#opaque"),en P "__spec__" 169 Value.none,en P "__annotations__" 170 (Value.ref 6),en P "__builtins__" 171 (Value.ref 4),en P "__file__" 173 (Value.str (Str.ofString "/claim/cut.py") 172),en P "__cached__" 174 Value.none,en P "PanError" 206 (Value.ref 24),en P "BadCount" 222 (Value.ref 37),en P "BadCases" 238 (Value.ref 49),en P "BadDone" 254 (Value.ref 61),en P "LEAST_THINGS" 258 (Value.int 2 257),en P "MOST_THINGS" 260 (Value.int 5 259),en P "MOST_CASES" 262 (Value.int 12 261),en P "is_among" 271 (Value.ref 70),en P "need_count" 278 (Value.ref 77),en P "is_case" 284 (Value.ref 82),en P "need_cases" 290 (Value.ref 87),en P "OUTCOMES" 297 (Value.ref 88),en P "is_pan" 303 (Value.ref 93),en P "is_weighing" 309 (Value.ref 98),en P "some_of" 315 (Value.ref 103),en P "all_leading" 326 (Value.ref 110),en P "came" 332 (Value.ref 115),en P "parted" 338 (Value.ref 120),en P "threes" 349 (Value.ref 127),en P "MOST_DONE" 353 (Value.int 20 352),en P "is_done" 361 (Value.ref 134),en P "still_open" 367 (Value.ref 139),en P "are_alike" 375 (Value.ref 144),en P "alike_of" 386 (Value.ref 151),en P "tried" 402 (Value.ref 158),en P "by_each" 416 (Value.ref 165),en P "looked" 427 (Value.ref 172),en P "found_for" 440 (Value.ref 179),en P "told" 455 (Value.ref 186),en P "least" 466 (Value.ref 193),en P "_law_cell_at" 476 (Value.ref 200),en P "_law_mixed" 484 (Value.ref 207),en P "_law_whole" 491 (Value.ref 214),en P "_law_came" 501 (Value.ref 221),en P "_law_pans" 507 (Value.ref 226),en P "_law_is_pan" 513 (Value.ref 231),en P "_law_is_weighing" 521 (Value.ref 238),en P "_law_is_case_told" 527 (Value.ref 243),en P "_law_is_plan" 533 (Value.ref 248),en P "_law_length" 539 (Value.ref 253),en P "_law_threes" 548 (Value.ref 260),en P "_law_is_hold" 554 (Value.ref 265),en P "_law_two" 560 (Value.ref 270),en P "_law_one" 566 (Value.ref 275),en P "_law_any" 572 (Value.ref 280),en P "_law_known" 581 (Value.ref 287),en P "law" 596 (Value.ref 294)] 56) #[]),
 (88,PySem.Obj.mk (Value.type "tuple") Option.none (PySem.Data.seq #[Value.int (-1) 294,Value.int 0 295,Value.int 1 296]) #[])]
noncomputable def zr3:List Addr:=[3,88]
noncomputable def zl2:Stmt→Bool
 | .Assign [.Name x _] _ _=>!(x == ("__name__" : Str))
 | _=>true
noncomputable def view:Program:={ PySem.Challenge.pw_uf050003_10 with main:={ PySem.Challenge.pw_uf050003_10.main with body:=PySem.Challenge.pw_uf050003_10.main.body.filter zl2 } }
noncomputable abbrev hook:=kHook zr2 zr3 (fun uA=>by kernel_rfl)
theorem ws:OpenLaw.wellSaid PySem.Challenge.rw_uf050003_10=true:=by kernel_rfl
theorem zl9:LeftO (OpenLaw.row PySem.Challenge.rw_uf050003_10).prog view [] (fun s=>xlAt view [] s && recOk (RowW.records (OpenRow.toRowW (OpenLaw.row PySem.Challenge.rw_uf050003_10))) s) (Hook.obs hook) (Hook.val hook) 4344:=by
 intro w;kernel_rfl
end Mine.L10
end
section
namespace Mine
open PySem
inductive It where
 | b (n:Nat)
 | x (d:PyData)
inductive V where
 | d (x:PyData)
 | box (n:Nat)
 | tm (its:List It)
noncomputable abbrev MKey:=List (List Int)×Int
noncomputable def w1(k:MKey):PyData:=.tuple [.tuple (k.1.map fun c=>.tuple (c.map .int)),.int k.2]
noncomputable def zny(k:MKey):Int:=reduceHash (Builtin.Tuple.tupleHashOf [reduceHash (Builtin.Tuple.tupleHashOf (k.1.map fun c=>reduceHash (Builtin.Tuple.tupleHashOf (c.map hashInt)))),hashInt k.2])
inductive Box where
 | lst (xs:List PyData)
 | dct (kvs:List (MKey×PyData))
noncomputable abbrev za:=List Box
noncomputable abbrev Loc:=List (Option V)
inductive R(σ α:Type) where
 | ok (a:α) (s:σ)
 | stuck
noncomputable def R.bind{σ α β:Type}:R σ α→(α→σ→R σ β)→R σ β
 | .ok a s,f=>f a s
 | .stuck,_=>.stuck
noncomputable def R.lift{α:Type}(ρ:Loc):R za α→R (Loc×za) α
 | .ok a O=>.ok a (ρ,O)
 | .stuck=>.stuck
theorem R.lift_bind{α β:Type}(ρ:Loc)(r:R za α)(g:α→za→R za β) :
 (r.bind g).lift ρ=(r.lift ρ).bind fun a S=>(g a S.2).lift ρ:=by cases r <;> rfl
inductive Fl where
 | next
 | ret (v:V)
structure Gl where
 prog:Program
 w:World
 h₀:Heap
 mg:Str→Option Value
 mb:Str→Option Value
 cls:Nat→Value
 sys:∃ m,h₀.Ns sysModules m
theorem Gl.notSys(G:Gl){d:Addr}(h:G.h₀.get? d=none):(d == sysModules)=false:=beq_eq_false_iff_ne.mpr fun e=>by
 obtain⟨m,o,es,ep,h1,_⟩:=G.sys
 rw[e,h1] at h;exfalso;injection h
inductive ItsR(N β:List Addr)(h:Heap):List Value→List It→Prop
 | nil:ItsR N β h [] []
 | b {n:Nat} {a:Addr} {vs:List Value} {its:List It}:β[n]?=some a→ItsR N β h vs its→ItsR N β h (.ref a::vs) (.b n::its)
 | x {v:Value} {d:PyData} {as:List Addr} {vs:List Value} {its:List It}:Reads h v d as→(∀ a∈as,a∉β∧a∉N)→ItsR N β h vs its→ItsR N β h (v::vs) (.x d::its)
inductive VRd(N β:List Addr)(h:Heap)(v:Value)(x:PyData):Prop
 | mk (as:List Addr) (r:Reads h v x as) (q:∀ a∈as,a∉β∧a∉N)
inductive zs2(β:List Addr)(v:Value)(n:Nat):Prop
 | mk (a:Addr) (h1:β[n]?=some a) (h2:v=.ref a)
inductive VRtm(N β:List Addr)(h:Heap)(v:Value)(its:List It):Prop
 | mk (a:Addr) (o:Obj) (vs:Array Value) (k:Nat) (e:v=.ref a) (h1:h.get? a=some o) (h2:o.cls=.type "tuple") (h3:o.data=.seq vs k) (h4:ItsR N β h vs.toList its)
noncomputable def VR(G:Gl)(N β:List Addr)(h:Heap)(v:Value):V→Prop
 | .d x=>VRd N β h v x
 | .box n=>zs2 β v n
 | .tm its=>VRtm N β h v its
inductive ListAt(h:Heap)(N β:List Addr)(a:Addr)(xs:List PyData):Prop
 | mk (o:Obj) (vs:Array Value) (n:Nat) (h1:h.get? a=some o) (h2:o.cls=.type "list") (h3:o.data=.seq vs n) (as:List Addr) (h4:ReadsAll h vs.toList xs as) (h5:∀ b∈as,b∉β∧b∉N)
inductive zgr(h:Heap)(N β:List Addr)(e:DictEntry)(kv:MKey×PyData):Prop
 | mk (hq:e.hash=zny kv.1) (as bs:List Addr) (r1:Reads h e.key (w1 kv.1) as) (r2:Reads h e.val kv.2 bs) (q:∀ b∈as++bs,b∉β∧b∉N)
inductive DictAt(h:Heap)(N β:List Addr)(a:Addr)(kvs:List (MKey×PyData)):Prop
 | mk (o:Obj) (es:Array DictEntry) (n:Nat) (h1:h.get? a=some o) (h2:o.cls=.type "dict") (h3:o.data=.dict es n) (h4:es.size=kvs.length∧(kvs.map (·.1)).Nodup)
    (h5:∀ (i:Nat) e kv,es[i]?=some e→kvs[i]?=some kv→zgr h N β e kv)
noncomputable def BoxAt(h:Heap)(N β:List Addr)(a:Addr):Box→Prop
 | .lst xs=>ListAt h N β a xs
 | .dct kvs=>DictAt h N β a kvs
noncomputable def Plain(h:Heap)(a:Addr):Prop:=∃ o,h.get? a=some o∧o.dict=none∧o.slots = #[]
theorem Plain.at{h h':Heap}{a:Addr}(x:Plain h a)(hk:∀ o,h.get? a=some o→h'.get? a=some o):Plain h' a:=let ⟨o,e,r⟩:=x;⟨o,hk o e,r⟩
structure BR(G:Gl)(N β:List Addr)(O:za)(h:Heap):Prop where
 keep:∀ b o,G.h₀.get? b=some o→h.get? b=some o
 len:β.length=O.length
 nodup:β.Nodup
 new:∀ a∈β,G.h₀.get? a=none
 at_:∀ (i:Nat) a bx,β[i]?=some a→O[i]?=some bx→BoxAt h N β a bx
 plain:∀ a∈β,Plain h a
noncomputable def Get(h:Heap)(env:Env)(x:Str)(v:Value):Prop:=
 (env.kindOf x=some .local∧∃ m,h.Ns env.locals m∧m x=some v) ∨
 (env.kindOf x=some .cell∧∃ c,env.cells.lookup x=some c∧h.IsCell c (some v))
structure Fm where
 env:Env
 names:List (Option Str)
 own:Str→Bool
 W:List Addr
 B:List Addr
 fr:List Addr
 pin:Option (Str→Option Value):=none
structure FmOk(G:Gl)(F:Fm)(β:List Addr)(h:Heap):Prop where
 kind:F.env.scope.kind=.function
 globals:F.env.globals=mainGlobals
 builtins:F.env.builtins=builtinsNs
 once:∀ (i j:Nat) x,F.names[i]?=some (some x)→F.names[j]?=some (some x)→i=j
 ns:∃ m,h.Ns F.env.locals m
 nsW:F.env.locals∈F.W
 cell:∀ x,F.env.kindOf x=some .cell→∃ c v,F.env.cells.lookup x=some c∧h.IsCell c v∧c∈F.B∧(F.own x=true→c∈F.W)
 apart:∀ x y c,F.env.cells.lookup x=some c→F.env.cells.lookup y=some c→x=y
 sub:∀ a∈F.W,a∈F.B
 new:(∀ a∈F.B,a≠sysModules→G.h₀.get? a=none)∧sysModules∈F.B∧sysModules∉F.W∧sysModules∉F.fr
 notBox:∀ a∈F.B,a∉β
 stor:∀ a∈F.B,∃ o,h.get? a=some o∧∀ vs n,o.data=.seq vs n→o.cls≠.type "tuple"
 frB:∀ a∈F.fr,a∈F.B
 frs:∀ a∈F.fr,∃ m,h.Ns a m
 pin:∀ m,F.pin=some m→h.Ns F.env.locals m∧∀ x,F.own x=false
theorem FmOk.newB{G:Gl}{F:Fm}{β:List Addr}{h:Heap}(f:FmOk G F β h){a:Addr}(ha:a∈F.B)(hs:a≠sysModules):G.h₀.get? a=none:=f.new.1 a ha hs
theorem FmOk.newW{G:Gl}{F:Fm}{β:List Addr}{h:Heap}(f:FmOk G F β h){a:Addr}(ha:a∈F.W):G.h₀.get? a=none:=f.new.1 a (f.sub a ha) fun e=>f.new.2.2.1 (e ▸ ha)
structure SR(G:Gl)(F:Fm)(β:List Addr)(ρ:Loc)(O:za)(h:Heap):Prop where
 br:BR G F.B β O h
 fm:FmOk G F β h
 get:∀ (i:Nat) x v,F.names[i]?=some (some x)→ρ[i]?=some (some v)→∃ val,Get h F.env x val∧VR G F.B β h val v
theorem BR.sysAlive{G:Gl}{N β:List Addr}{O:za}{h:Heap}(b:BR G N β O h):∃ o es n,h.get? sysModules=some o∧o.data=.dict es n:=by
 obtain⟨m,o,es,ep,h1,h2,_⟩:=G.sys
 exact eU o es ep (b.keep _ _ h1) h2
theorem BR.notSys{G:Gl}{N β:List Addr}{O:za}{h:Heap}(b:BR G N β O h){a:Addr}(ha:h.get? a=none):a≠sysModules:=fun e=>by
 obtain⟨o,es,n,h1,_⟩:=b.sysAlive
 rw[e,h1] at ha;exfalso;injection ha
theorem BR.notSysD{G:Gl}{N β:List Addr}{O:za}{h:Heap}(b:BR G N β O h){a:Addr}{o:Obj}(ha:h.get? a=some o)(hd:∀ es n,o.data≠.dict es n):a≠sysModules:=fun e=>by
 obtain⟨o',es,n,h1,h2⟩:=b.sysAlive
 rw[e,h1] at ha;injection ha with eQ;subst eQ
 exact hd _ _ h2
theorem zct{G:Gl}{F:Fm}{N β M fr:List Addr}{O:za}{h:Heap}(b:BR G N β O h)(hM:∀ a∈M,h.get? a=none)(f:(∀ a∈F.B,a≠sysModules→G.h₀.get? a=none)∧sysModules∈F.B) :
 (∀ a∈M++F.B,a≠sysModules→G.h₀.get? a=none)∧sysModules∈M++F.B∧sysModules∉M:=by
 refine⟨fun a ha hs=>?_,au _ f.2,fun hm=>b.notSys (hM _ hm) rfl⟩
 refine eS (aj.mp ha) ?_ ?_
 ·intro ha;cases e:G.h₀.get? a with
  | none=>rfl
  | some o=>have:=b.keep a o e;rw[hM a ha] at this;exfalso;injection this
 ·intro ha;exact f.1 a ha hs
noncomputable def Kin(o o':Obj):Prop:=∃ sl,o' = { o with slots:=sl }∧((∀ es n,o.data≠.dict es n)→sl=o.slots)
theorem Kin.refl(o:Obj):Kin o o:=⟨o.slots,rfl,fun uA=>rfl⟩
theorem Kin.trans{o o' o'':Obj}(x:Kin o o')(y:Kin o' o''):Kin o o'':=by
 refine eV x ?_;clear x;intro a dX h1;subst dX
 refine eV y ?_;clear y;intro b dX h2;subst dX
 exact eW b rfl (fun h=>(h2 h).trans (h1 h))
theorem Kin.cls{o o':Obj}(x:Kin o o'):o'.cls=o.cls:=by refine eV x ?_;clear x;intro a dX _;subst dX;rfl
theorem Kin.data{o o':Obj}(x:Kin o o'):o'.data=o.data:=by refine eV x ?_;clear x;intro a dX _;subst dX;rfl
theorem Kin.same{o o':Obj}(x:Kin o o')(h:∀ es n,o.data≠.dict es n):o'=o:=by refine eV x ?_;clear x;intro a dX h1;subst dX;rw[h1 h]
theorem Kin.ns{h h':Heap}{a:Addr}{m:Str→Option Value}(x:h.Ns a m)(k:∀ o,h.get? a=some o→∃ o',h'.get? a=some o'∧Kin o o'):h'.Ns a m:=by
 refine eX x ?_;clear x;intro o es ep h1 h2 h3 h4
 refine eV (k o h1) ?_;intro o' e' kn
 exact eY o' es ep e' (kn.data.trans h2) h3 h4
theorem Kin.cell{h h':Heap}{a:Addr}{v:Option Value}(x:h.IsCell a v)(k:∀ o,h.get? a=some o→∃ o',h'.get? a=some o'∧Kin o o'):h'.IsCell a v:=by
 refine eV x ?_;clear x;intro o h1 h2
 refine eV (k o h1) ?_;intro o' e' kn
 exact eW o' e' (kn.data.trans h2)
structure Step(W:List Addr)(β:List Addr)(s s':Shared)(β':List Addr):Prop where
 gens:s'.gens=s.gens
 os:s'.os=s.os
 pre:β <+: β'
 fresh:∀ a∈β',a∈β∨s.heap.get? a=none
 alive:∀ b o,s.heap.get? b=some o→∃ o',s'.heap.get? b=some o'
 kept:∀ b o,s.heap.get? b=some o→b∉β→b∉W→∃ o',s'.heap.get? b=some o'∧Kin o o'
theorem Step.refl(W β s):Step W β s s β:=⟨rfl,rfl,bt _,fun uA h=>.inl h,fun uA o h=>⟨o,h⟩,fun uA o h uA uA=>⟨o,h,Kin.refl o⟩⟩
theorem Step.keptE{W β s s' β'}(x:Step W β s s' β'){b:Addr}{o:Obj}(e:s.heap.get? b=some o)(hb:b∉β)(hW:b∉W)(hd:∀ es n,o.data≠.dict es n):s'.heap.get? b=some o:=by
 refine eV (x.kept b o e hb hW) ?_;intro o' e' k
 rw[e',k.same hd]
theorem Step.trans{W β β' β'' s s' s''}(x:Step W β s s' β')(y:Step W β' s' s'' β''):Step W β s s'' β'' where
 gens:=y.gens.trans x.gens
 os:=y.os.trans x.os
 pre:=x.pre.trans y.pre
 fresh:=fun a ha=>by
  refine eS (y.fresh a ha) ?_ ?_
  ·intro h;exact x.fresh a h
  ·intro h;right
   cases e:s.heap.get? a with
   | none=>rfl
   | some o=>refine eZ (x.alive a o e) ?_;intro o' e';rw[e'] at h;exfalso;injection h
 alive:=fun b o e=>let ⟨o',e'⟩:=x.alive b o e;y.alive b o' e'
 kept:=fun b o e hb hW=>by
  refine eV (x.kept b o e hb hW) ?_;intro o' e' k
  obtain⟨o'',e'',k'⟩:=y.kept b o' e' (fun hb'=>by
   refine eS (x.fresh b hb') ?_ ?_
   ·intro h;exact hb h
   ·intro h;rw[e] at h;exfalso;injection h) hW
  exact eW o'' e'' (k.trans k')
theorem xn{β β':List Addr}(h:β <+: β'){i:Nat}{a:Addr}(ha:β[i]?=some a):β'[i]?=some a:=by
 refine eZ h ?_;clear h;intro t dX;subst dX
 have hi:i < β.length:=by
  refine eS (bm i β.length) ?_ ?_
  ·intro h;exact h
  ·intro h;rw[a6 h] at ha;exfalso;injection ha
 rw[aJ hi];exact ha
theorem qg{h h':Heap}{P:Addr→Prop}(hk:∀ b o,h.get? b=some o→P b→∃ o',h'.get? b=some o'∧Kin o o')
 (hP:∀ b o vs n,h.get? b=some o→o.cls=.type "tuple"→o.data=.seq vs n→P b) {v:Value} {x:PyData} {as:List Addr} (r:Reads h v x as):(∀ a∈as,P a)→Reads h' v x as:=
 Reads.rec (motive_1:=fun v x as uA=>(∀ a∈as,P a)→Reads h' v x as) (motive_2:=fun vs xs as uA=>(∀ a∈as,P a)→ReadsAll h' vs xs as)
  (fun uA=>.none) (fun b uA=>.bool b) (fun i t uA=>.int i t) (fun x t uA=>.str x t)
  (fun h1 h2 h3 uA ih q=>let ⟨_,e,k⟩:=hk _ _ h1 (q _ (.head _));.list e (k.cls.trans h2) (k.data.trans h3) (ih fun a ha=>q a (.tail _ ha)))
  (fun h1 h2 h3 uA ih q=>let ⟨_,e,k⟩:=hk _ _ h1 (hP _ _ _ _ h1 h2 h3);.tuple e (k.cls.trans h2) (k.data.trans h3) (ih q))
  (fun h1 h2 h3 uA uA ih ih' q=>let ⟨_,e,k⟩:=hk _ _ h1 (q _ (.head _));.dict e (k.cls.trans h2) (k.data.trans h3) (ih fun a ha=>q a (az _ (ag _ ha))) (ih' fun a ha=>q a (au _ ha)))
  (fun uA=>.nil) (fun uA uA i1 i2 q=>.cons (i1 fun a ha=>q a (az _ ha)) (i2 fun a ha=>q a (au _ ha))) r
theorem v4{h h':Heap}{P:Addr→Prop}(hk:∀ b o,h.get? b=some o→P b→∃ o',h'.get? b=some o'∧Kin o o')
 (hP:∀ b o vs n,h.get? b=some o→o.cls=.type "tuple"→o.data=.seq vs n→P b) {vs:List Value} {xs:List PyData} {as:List Addr} (r:ReadsAll h vs xs as):(∀ a∈as,P a)→ReadsAll h' vs xs as:=
 ReadsAll.rec (motive_1:=fun uA uA uA uA=>True) (motive_2:=fun vs xs as uA=>(∀ a∈as,P a)→ReadsAll h' vs xs as)
  trivial (fun uA=>trivial) (fun uA uA=>trivial) (fun uA uA=>trivial) (fun uA uA uA uA uA=>trivial) (fun uA uA uA uA uA=>trivial) (fun uA uA uA uA uA uA uA=>trivial)
  (fun uA=>.nil) (fun r uA uA i2 q=>.cons (qg hk hP r fun a ha=>q a (az _ ha)) (i2 fun a ha=>q a (au _ ha))) r
theorem x7{h h':Heap}{P:Addr→Prop}(hk:∀ b o,h.get? b=some o→P b→h'.get? b=some o)
 (hP:∀ b o vs n,h.get? b=some o→o.cls=.type "tuple"→o.data=.seq vs n→P b) {v:Value} {x:PyData} {as:List Addr} (r:Reads h v x as) (q:∀ a∈as,P a):Reads h' v x as:=
 qg (fun b o e p=>⟨o,hk b o e p,Kin.refl o⟩) hP r q
theorem xm{h h':Heap}{P:Addr→Prop}(hk:∀ b o,h.get? b=some o→P b→h'.get? b=some o)
 (hP:∀ b o vs n,h.get? b=some o→o.cls=.type "tuple"→o.data=.seq vs n→P b) {vs:List Value} {xs:List PyData} {as:List Addr} (r:ReadsAll h vs xs as) (q:∀ a∈as,P a):ReadsAll h' vs xs as:=
 v4 (fun b o e p=>⟨o,hk b o e p,Kin.refl o⟩) hP r q
theorem y6{h:Heap}{v:Value}{x:PyData}{as:List Addr}(r:Reads h v x as):∀ a∈as,∃ o,h.get? a=some o:=
 Reads.rec (motive_1:=fun uA uA as uA=>∀ a∈as,∃ o,h.get? a=some o) (motive_2:=fun uA uA as uA=>∀ a∈as,∃ o,h.get? a=some o)
  (fun uA h=>nomatch h) (fun uA uA h=>nomatch h) (fun uA uA uA h=>nomatch h) (fun uA uA uA h=>nomatch h)
  (fun h1 uA uA uA ih a ha=>(af.mp ha).elim (fun e=>⟨_,e ▸ h1⟩) (ih a))
  (fun uA uA uA uA ih=>ih)
  (fun h1 uA uA uA uA ih ih' a ha=>(aj.mp ha).elim (fun ha=>(af.mp ha).elim (fun e=>⟨_,e ▸ h1⟩) (ih a)) (ih' a))
  (fun uA h=>nomatch h) (fun uA uA i1 i2 a ha=>(aj.mp ha).elim (i1 a) (i2 a)) r
theorem ki{h:Heap}{vs:List Value}{xs:List PyData}{as:List Addr}(r:ReadsAll h vs xs as):∀ a∈as,∃ o,h.get? a=some o:=
 ReadsAll.rec (motive_1:=fun uA uA uA uA=>True) (motive_2:=fun uA uA as uA=>∀ a∈as,∃ o,h.get? a=some o)
  trivial (fun uA=>trivial) (fun uA uA=>trivial) (fun uA uA=>trivial) (fun uA uA uA uA uA=>trivial) (fun uA uA uA uA uA=>trivial) (fun uA uA uA uA uA uA uA=>trivial)
  (fun uA h=>nomatch h) (fun r uA uA i2 a ha=>(aj.mp ha).elim (y6 r a) (i2 a)) r
theorem BR.alive{G:Gl}{N β:List Addr}{O:za}{h:Heap}(b:BR G N β O h):∀ a∈β,∃ o,h.get? a=some o∧(o.cls=.type "list"∨o.cls=.type "dict"):=by
 intro a ha
 refine eZ (bX ha) ?_;intro i hi
 have hl:i < O.length:=by
  rw[← b.len]
  refine eS (bm i β.length) ?_ ?_
  ·intro h;exact h
  ·intro h;rw[a6 h] at hi;exfalso;injection hi
 have hx:=b.at_ i a _ hi (ao hl)
 cases hb:O[i] with
 | lst xs=>rw[hb] at hx;obtain⟨o,_,_,h1,h2,_⟩:=hx;exact eW o h1 (.inl h2)
 | dct kvs=>rw[hb] at hx;obtain⟨o,_,_,h1,h2,_⟩:=hx;exact eW o h1 (.inr h2)
theorem kg{G:Gl}{F:Fm}{β:List Addr}{O:za}{h:Heap}(b:BR G F.B β O h)(f:FmOk G F β h){a:Addr}{o:Obj}{vs:Array Value}{n:Nat}(e:h.get? a=some o)(hc:o.cls=.type "tuple")(hd:o.data=.seq vs n) :
 a∉β∧a∉F.B:=by
 refine⟨fun hb=>?_,fun hB=>?_⟩
 ·refine eV (b.alive a hb) ?_;intro o' e' h'
  rw[e] at e';injection e' with eQ;subst eQ
  rw[hc] at h'
  (refine eS h' ?_ ?_<;>clear h';rotate_left;intro h';rotate_right;intro h') <;> exact absurd h' (by decide)
 ·refine eV (f.stor a hB) ?_;intro o' e' h'
  rw[e] at e';injection e' with eQ;subst eQ
  exact h' _ _ hd hc
theorem pi{W β β':List Addr}{s s':Shared}(st:Step W β s s' β'){as:List Addr}{N:List Addr}(al:∀ a∈as,∃ o,s.heap.get? a=some o)(q:∀ a∈as,a∉β∧a∉N):∀ a∈as,a∉β'∧a∉N:=
 fun a ha=>by
  refine⟨fun hb=>?_,(q a ha).2⟩
  refine eS (st.fresh a hb) ?_ ?_
  ·intro h;exact (q a ha).1 h
  ·intro h;refine eZ (al a ha) ?_;intro o e
   rw[e] at h;exfalso;injection h
section
variable{G:Gl}{F:Fm}{β β':List Addr}{O:za}{s s':Shared}(b:BR G F.B β O s.heap)(f:FmOk G F β s.heap)(st:Step F.W β s s' β')
include b f st
theorem z0{v:Value}{x:PyData}{as:List Addr}(r:Reads s.heap v x as)(q:∀ a∈as,a∉β∧a∉F.B):Reads s'.heap v x as∧∀ a∈as,a∉β'∧a∉F.B:=
 ⟨qg (P:=fun a=>a∉β∧a∉F.B) (fun a o e p=>st.kept a o e p.1 fun hw=>p.2 (f.sub a hw)) (fun uA uA uA uA e hc hd=>kg b f e hc hd) r q,pi st (y6 r) q⟩
theorem zu{vs:List Value}{xs:List PyData}{as:List Addr}(r:ReadsAll s.heap vs xs as)(q:∀ a∈as,a∉β∧a∉F.B):ReadsAll s'.heap vs xs as∧∀ a∈as,a∉β'∧a∉F.B:=
 ⟨v4 (P:=fun a=>a∉β∧a∉F.B) (fun a o e p=>st.kept a o e p.1 fun hw=>p.2 (f.sub a hw)) (fun uA uA uA uA e hc hd=>kg b f e hc hd) r q,pi st (ki r) q⟩
theorem ItsR.step{vs:List Value}{its:List It}(r:ItsR F.B β s.heap vs its):ItsR F.B β' s'.heap vs its:=by
 induction r with
 | nil=>exact .nil
 | b h1 _ ih=>exact .b (xn st.pre h1) ih
 | x h1 h2 _ ih=>refine fb (z0 b f st h1 h2) ?_;intro r' q';exact .x r' q' ih
theorem VR.step{v:Value}{x:V}(r:VR G F.B β s.heap v x):VR G F.B β' s'.heap v x:=by
 cases x with
 | d x=>obtain⟨as,r,q⟩:=r;refine fb (z0 b f st r q) ?_;intro r' q';exact⟨as,r',q'⟩
 | box n=>obtain⟨a,h1,h2⟩:=r;exact⟨a,xn st.pre h1,h2⟩
 | tm its=>
   obtain⟨a,o,vs,k,rfl,h1,h2,h3,h4⟩:=r
   refine fb (kg b f h1 h2 h3) ?_;intro p1 p2
   exact⟨a,o,vs,k,rfl,st.keptE h1 p1 (fun hw=>p2 (f.sub a hw)) (fun es n q=>by rw[h3] at q;exfalso;injection q),h2,h3,ItsR.step b f st h4⟩
end
noncomputable abbrev WT(α:Type):=(α→Shared→Prop)→(Value→Shared→Prop)→Shared→Prop
noncomputable abbrev tr(G:Gl)(A:Around){α:Type}(t:Sem α):WT α:=fun Q E s=>wpAny (model G.prog G.w) A t Q E s
noncomputable def DoesW{α δ:Type}(G:Gl)(F:Fm)(s:Shared)(β:List Addr)(T:WT α)(r:R (Loc×za) δ)(Rel:List Addr→Heap→α→δ→Prop):Prop:=
 match r with
 | .ok d S=>∀ (Q:α→Shared→Prop) (E:Value→Shared→Prop),
    (∀ s' β' a,Step F.W β s s' β'→SR G F β' S.1 S.2 s'.heap→Rel β' s'.heap a d→Q a s')→T Q E s
 | .stuck=>True
noncomputable abbrev Does{α δ:Type}(G:Gl)(F:Fm)(A:Around)(s:Shared)(β:List Addr)(t:Sem α)(r:R (Loc×za) δ)(Rel:List Addr→Heap→α→δ→Prop):Prop:=
 DoesW G F s β (tr G A t) r Rel
theorem DoesW.seq{α γ δ ε:Type}{G:Gl}{F:Fm}{s:Shared}{β:List Addr}{T:WT γ}{T₁:WT α}{T₂:α→WT γ}{r:R (Loc×za) δ}{g:δ→Loc×za→R (Loc×za) ε}
 {Rel₁:List Addr→Heap→α→δ→Prop} {Rel:List Addr→Heap→γ→ε→Prop}
 (hw:∀ (Q:γ→Shared→Prop) (E:Value→Shared→Prop),T₁ (fun a s'=>T₂ a Q E s') E s→T Q E s)
 (h1:DoesW G F s β T₁ r Rel₁)
 (h2:∀ s' β' a d S,r=.ok d S→Step F.W β s s' β'→SR G F β' S.1 S.2 s'.heap→Rel₁ β' s'.heap a d→DoesW G F s' β' (T₂ a) (g d S) Rel) :
 DoesW G F s β T (r.bind g) Rel:=by
 cases r with
 | stuck=>trivial
 | ok d S=>
   show DoesW G F s β T (g d S) Rel
   cases hg:g d S with
   | stuck=>trivial
   | ok e S'=>
     intro Q E k
     refine hw Q E (h1 _ _ fun s' β' a st sr rel=>?_)
     have:=h2 s' β' a d S rfl st sr rel
     rw[hg] at this
     exact this Q E fun s'' β'' c st' sr' rel'=>k s'' β'' c (st.trans st') sr' rel'
theorem DoesW.seqE{α γ δ ε:Type}{G:Gl}{F:Fm}{s:Shared}{β:List Addr}{ρ:Loc}{T:WT γ}{T₁:WT α}{T₂:α→WT γ}{r:R za δ}{g:δ→za→R za ε}
 {Rel₁:List Addr→Heap→α→δ→Prop} {Rel:List Addr→Heap→γ→ε→Prop}
 (hw:∀ (Q:γ→Shared→Prop) (E:Value→Shared→Prop),T₁ (fun a s'=>T₂ a Q E s') E s→T Q E s)
 (h1:DoesW G F s β T₁ (r.lift ρ) Rel₁)
 (h2:∀ s' β' a d O,r=.ok d O→Step F.W β s s' β'→SR G F β' ρ O s'.heap→Rel₁ β' s'.heap a d→DoesW G F s' β' (T₂ a) ((g d O).lift ρ) Rel) :
 DoesW G F s β T ((r.bind g).lift ρ) Rel:=by
 rw[R.lift_bind]
 refine DoesW.seq hw h1 fun s' β' a d S e st sr rel=>?_
 cases r with
 | ok d' O=>cases (e);exact h2 s' β' a d O rfl st sr rel
 | stuck=>exfalso;injection e
theorem DoesW.by{α γ δ ε:Type}{G:Gl}{F:Fm}{s:Shared}{β:List Addr}{T:WT γ}{T₁:WT α}{r:R (Loc×za) δ}{r':R (Loc×za) ε}
 {Rel₁:List Addr→Heap→α→δ→Prop} {Rel:List Addr→Heap→γ→ε→Prop} (f:α→γ) (q:δ→ε)
 (hw:∀ (Q:γ→Shared→Prop) (E:Value→Shared→Prop),T₁ (fun a s'=>Q (f a) s') E s→T Q E s)
 (h1:DoesW G F s β T₁ r Rel₁) (hr:∀ β h a d,Rel₁ β h a d→Rel β h (f a) (q d))
 (hq:r'=r.bind fun d S=>.ok (q d) S:=by rfl):DoesW G F s β T r' Rel:=by
 subst hq
 cases r with
 | stuck=>trivial
 | ok d S=>exact fun Q E k=>hw Q E (h1 _ _ fun s' β' a st sr rel=>k s' β' _ st sr (hr _ _ _ _ rel))
theorem DoesW.weaken{α δ:Type}{G:Gl}{F:Fm}{s:Shared}{β:List Addr}{T T₁:WT α}{r:R (Loc×za) δ}
 {Rel₁ Rel:List Addr→Heap→α→δ→Prop} (h1:DoesW G F s β T₁ r Rel₁) (hw:∀ (Q:α→Shared→Prop) (E:Value→Shared→Prop),T₁ Q E s→T Q E s)
 (hr:∀ β h a d,Rel₁ β h a d→Rel β h a d):DoesW G F s β T r Rel:=by
 cases r with
 | stuck=>trivial
 | ok d S=>exact fun Q E k=>hw Q E (h1 _ _ fun s' β' a st sr rel=>k s' β' _ st sr (hr _ _ _ _ rel))
inductive Ty where
 | int | bool | tuple | list | str
 deriving DecidableEq
inductive Bop where
 | add | sub | mul | fdiv | mod | pow
 deriving DecidableEq
inductive Cop where
 | eq | ne | lt | le | gt | ge | is | isnot | in_ | notin
 deriving DecidableEq
inductive Prim where
 | isinst (t:Ty) | isexc (c:Nat)
 | len | all | any | sum | sorted | list | tuple | min2 | min | max | int | str | lenset | sortedset
 deriving DecidableEq
inductive Meth where
 | append | pop | clear | index
 deriving DecidableEq
inductive CT where
 | name (i:Nat)
 | two (a b:CT)
structure Pg where
 call:Bool→Nat→List V→za→R za V
 hd:Bool
 gval:Nat→Option PyData
 turns:Nat
 sub:Nat→Nat→Option Bool
 srt:List PyData→Option (List PyData)
 sets:Bool
 txt:PyData→Option Str
noncomputable def j7(O:za)(n:Nat):Option PyData:=match O[n]? with
 | some (.lst xs)=>some (.list xs)
 | _=>none
noncomputable def look(O:za):V→Option PyData
 | .d x=>some x
 | .box n=>j7 O n
 | _=>none
noncomputable def allD:List V→Option (List PyData)
 | []=>some []
 | .d x::r=>(allD r).map (x::·)
 | _::_=>none
noncomputable def allI:List V→Option (List It)
 | []=>some []
 | .d x::r=>(allI r).map (.x x::·)
 | .box n::r=>(allI r).map (.b n::·)
 | _::_=>none
noncomputable def tupV(vs:List V):Option V:=match allD vs with
 | some xs=>some (.d (.tuple xs))
 | none=>(allI vs).map .tm
noncomputable def repL{α:Type}(xs:List α)(n:Int):List α:=(List.replicate n.toNat xs).flatten
noncomputable def line:Nat:=1000000
noncomputable def addD:PyData→PyData→Option PyData
 | .int a,y=>(match y with
    | .int b=>some (.int (a+b))
    | _=>none)
 | .list a,y=>(match y with
    | .list b=>if a.length+b.length≤line then some (.list (a++b)) else none
    | _=>none)
 | .tuple a,y=>(match y with
    | .tuple b=>if a.length+b.length≤line then some (.tuple (a++b)) else none
    | _=>none)
 | .str a,y=>(match y with
    | .str b=>if a.length+b.length≤line then some (.str (a++b)) else none
    | _=>none)
 | _,_=>none
noncomputable def mulD:PyData→Int→Option PyData
 | .int a,b=>if a.natAbs < 2 ^ 64∨b.natAbs < 2 ^ 64 then some (.int (a * b)) else none
 | .list a,n=>if a.length * n.toNat≤256∧0≤n∧n≤256 then some (.list (repL a n)) else none
 | .tuple a,n=>if a≠[]∧a.length * n.toNat≤256∧2≤n∧n≤256 then some (.tuple (repL a n)) else none
 | .str a,n=>if a.length≤256∧0≤n∧n≤256 then some (.str (Txt.mul a n)) else none
 | _,_=>none
noncomputable def arith(op:Bop)(a b:Int):Option PyData:=match op with
 | .sub=>some (.int (a - b))
 | .fdiv=>if b≠0∧b.natAbs < 1073741824 then some (.int (Int.fdiv a b)) else none
 | .mod=>if b=0 then none else some (.int (Int.fmod a b))
 | .pow=>if a=10∧b=20 then some (.int 100000000000000000000) else none
 | _=>none
noncomputable def intD(f:Int→Option PyData):PyData→Option PyData
 | .int i=>f i
 | _=>none
noncomputable def za9(op:Bop)(x y:PyData):Option PyData:=match op with
 | .add=>addD x y
 | .mul=>intD (mulD x) y
 | op=>intD (fun a=>intD (arith op a) y) x
noncomputable def eqOk(a b:PyData):Bool:=a.canLay0 && b.canLay0 && decide (min a.depth b.depth≤100)
noncomputable def inD(a:PyData)(xs:List PyData):Option Bool:=if a.canLay0 && PyData.canLayAll0 xs && decide (a.depth≤100) then some (xs.any fun y=>PyData.eqv y a) else none
noncomputable def seqD:PyData→Option (List PyData)
 | .list xs=>some xs
 | .tuple xs=>some xs
 | _=>none
noncomputable def ordD(f:Int→Int→Bool):PyData→PyData→Option Bool
 | .int a,y=>(match y with
    | .int b=>some (f a b)
    | _=>none)
 | _,_=>none
noncomputable def kb(op:Cop)(a b:PyData):Option Bool:=match op with
 | .eq=>if eqOk a b then some (PyData.eqv a b) else none
 | .ne=>if eqOk a b then some (!PyData.eqv a b) else none
 | .lt=>ordD (fun a b=>decide (a < b)) a b
 | .le=>ordD (fun a b=>decide (a≤b)) a b
 | .gt=>ordD (fun a b=>decide (a > b)) a b
 | .ge=>ordD (fun a b=>decide (a ≥ b)) a b
 | .in_=>(seqD b).bind (inD a)
 | .notin=>((seqD b).bind (inD a)).map (!·)
 | _=>none
noncomputable def isNone:PyData→Bool
 | .none=>true
 | _=>false
noncomputable def isBool(b:Bool):PyData→Bool
 | .bool a=>a == b
 | _=>false
noncomputable def isop(x:PyData):PyData→Option Bool
 | .none=>some (isNone x)
 | .bool b=>some (isBool b x)
 | _=>none
noncomputable def truth:V→Option Bool
 | .d (.bool b)=>some b
 | _=>none
noncomputable def items:PyData→Option (List PyData)
 | .list xs=>some xs
 | .tuple xs=>some xs
 | _=>none
noncomputable def idxD(x:PyData)(i:PyData):Option PyData:=match items x,i with
 | some xs,.int k=>if xs.length≤line then (if 0≤k then xs[k.toNat]? else if 0≤k+xs.length then xs[(k+xs.length).toNat]? else none) else none
 | _,_=>none
noncomputable def clip(n:Nat)(dflt:Nat):PyData→Option Nat
 | .none=>some dflt
 | .int k=>some (clipAt n k)
 | _=>none
noncomputable def um{α:Type}(xs:List α)(lo hi:Nat):List α:=(xs.drop lo).take (hi - lo)
noncomputable def qe(xs:List PyData)(lo hi:PyData):Option PyData:=if xs.length≤line then (clip xs.length 0 lo).bind fun l=>(clip xs.length xs.length hi).map fun h=>.list (um xs l h) else none
noncomputable def ofList(f:List PyData→Option PyData):PyData→Option PyData
 | .list xs=>f xs
 | _=>none
noncomputable def zef(x lo hi:PyData):Option PyData:=ofList (fun xs=>qe xs lo hi) x
noncomputable def isTy:Ty→PyData→Bool
 | .int,.int _=>true
 | .int,.bool _=>true
 | .bool,.bool _=>true
 | .tuple,.tuple _=>true
 | .list,.list _=>true
 | .str,.str _=>true
 | _,_=>false
noncomputable def intsOf:List PyData→Option (List Int)
 | []=>some []
 | .int i::r=>(intsOf r).map (i::·)
 | _::_=>none
noncomputable def q6:List PyData→Option (List Bool)
 | []=>some []
 | .bool i::r=>(q6 r).map (i::·)
 | _::_=>none
noncomputable def isInt:PyData→Bool
 | .int _=>true
 | _=>false
noncomputable def addI(a:Int):List Int→List Int
 | []=>[a]
 | b::r=>if a < b then a::b::r else if a=b then b::r else b::addI a r
noncomputable def xw(is:List Int):List Int:=is.foldl (fun acc i=>addI i acc) []
noncomputable def small(is:List Int):Bool:=decide (is.length≤4) && is.all fun i=>decide (0≤i) && decide (i < 5)
noncomputable def maxI:List Int→Option Int
 | []=>none
 | a::r=>some (r.foldl max a)
noncomputable def tupI:PyData→Option (List Int)
 | .tuple xs=>intsOf xs
 | _=>none
noncomputable def jc:List PyData→Option (List (List Int))
 | []=>some []
 | x::r=>(tupI x).bind fun a=>(jc r).map (a::·)
noncomputable def Prim.calm:Prim→Bool
 | .isinst _ | .isexc _ | .len | .int=>true
 | _=>false
noncomputable def lenD:PyData→Option PyData
 | .list xs=>if xs.length≤line then some (.int xs.length) else none
 | .tuple xs=>if xs.length≤line then some (.int xs.length) else none
 | _=>none
noncomputable def zcy(f:List PyData→Option PyData):PyData→Option PyData
 | .list xs=>f xs
 | _=>none
noncomputable def zlj:PyData→Option PyData
 | .list xs=>if xs.length≤line then some (.list xs) else none
 | .tuple xs=>if xs.length≤line then some (.list xs) else none
 | _=>none
noncomputable def zol:PyData→Option PyData
 | .list xs=>if xs.length≤line then some (.tuple xs) else none
 | .tuple xs=>some (.tuple xs)
 | _=>none
noncomputable def zom:PyData→Option PyData
 | .bool b=>some (.int (if b then 1 else 0))
 | _=>none
noncomputable def setT(f:List Int→PyData)(xs:List PyData):Option PyData:=(intsOf xs).bind fun is=>if small is then some (f is) else none
noncomputable def zbx:PyData→Option PyData
 | .tuple xs=>setT (fun is=>.int (xw is).length) xs
 | _=>none
noncomputable def va:PyData→Option PyData
 | .tuple xs=>setT (fun is=>.list ((xw is).map .int)) xs
 | _=>none
noncomputable def zaj(P:Pg):Prim→PyData→Option PyData
 | .isinst t,x=>some (.bool (isTy t x))
 | .isexc _,_=>none
 | .len,x=>lenD x
 | .all,x=>zcy (fun xs=>(q6 xs).map fun bs=>.bool (bs.all id)) x
 | .any,x=>zcy (fun xs=>(q6 xs).map fun bs=>.bool (bs.any id)) x
 | .sum,x=>zcy (fun xs=>(intsOf xs).map fun is=>.int is.sum) x
 | .sorted,x=>zcy (fun xs=>if xs.length < 64 then (P.srt xs).map .list else none) x
 | .list,x=>zlj x
 | .tuple,x=>zol x
 | .min2,_=>none
 | .min,_=>none
 | .max,_=>none
 | .int,x=>zom x
 | .str,_=>none
 | .lenset,x=>(match P.sets with
    | true=>zbx x
    | false=>none)
 | .sortedset,x=>(match P.sets with
    | true=>va x
    | false=>none)
noncomputable def zrq:PyData→PyData→Option PyData
 | .int a,.int b=>some (.int (min a b))
 | _,_=>none
noncomputable def qy(P:Pg)(p:Prim)(xs:List PyData):Option PyData:=match xs with
 | [x]=>zaj P p x
 | [x,y]=>(match p with
     | .min2=>zrq x y
     | _=>none)
 | _=>none
noncomputable def opt{α:Type}(o:Option α)(O:za):R za α:=match o with
 | some a=>.ok a O
 | none=>.stuck
noncomputable def prim(P:Pg)(p:Prim)(vs:List V)(O:za):R za V:=
 match (vs.mapM (look O)).bind (qy P p) with
 | some y=>.ok (.d y) O
 | none=>.stuck
noncomputable def zw(kvs:List (MKey×PyData))(k:MKey):Option PyData:=(kvs.find? fun kv=>decide (kv.1=k)).map (·.2)
noncomputable def keyOf:PyData→Option MKey
 | .tuple [.tuple xs,.int n]=>(jc xs).map fun kss=>(kss,n)
 | _=>none
noncomputable def boxL(o:V)(O:za)(f:Nat→List PyData→R za V):R za V:=match o with
 | .box n=>(match O[n]? with
    | some (.lst xs)=>f n xs
    | _=>.stuck)
 | _=>.stuck
noncomputable def oneD(f:PyData→R za V)(vs:List V):R za V:=match vs with
 | [.d x]=>f x
 | _=>.stuck
noncomputable def meth(m:Meth)(o:V)(vs:List V)(O:za):R za V:=match m with
 | .append=>boxL o O fun n xs=>oneD (fun x=>if xs.length < line then .ok (.d .none) (O.set n (.lst (xs++[x]))) else .stuck) vs
 | _=>.stuck
noncomputable def gd(O:za)(n:Nat):Bool:=match O[n]? with
 | some (.lst _)=>true
 | _=>false
noncomputable def recv(m:Meth)(v:V)(O:za):Bool:=match m,v with
 | .append,.box n=>gd O n
 | _,_=>false
inductive Src where
 | plain (xs:List PyData)
 | box (n:Nat) (xs:List PyData)
noncomputable def Src.xs:Src→List PyData
 | .plain xs=>xs
 | .box _ xs=>xs
noncomputable def Src.still(s:Src)(O:za):Bool:=match s with
 | .plain _=>true
 | .box n xs=>@decide (O[n]?=some (.lst xs)) (Classical.propDecidable _)
noncomputable def It.v:It→V
 | .b n=>.box n
 | .x d=>.d d
noncomputable def zp:CT→V→Loc→Option Loc
 | .name i,v,ρ=>if i < ρ.length then some (ρ.set i (some v)) else none
 | .two a b,.d x,ρ=>(match items x with
    | some [y,z]=>(zp a (.d y) ρ).bind (zp b (.d z))
    | _=>none)
 | _,_,_=>none
noncomputable def z6(a b:Int):List PyData:=(List.range (b - a).toNat).map fun (i:Nat)=>.int (a+i)
noncomputable def yf(src:Src)(turn:PyData→za→R za (Option PyData)):List PyData→List PyData→za→R za V
 | [],acc,O=>.ok (.d (.list acc)) O
 | x::xs,acc,O=>(match turn x O with
    | .ok y O'=>if src.still O' then yf src turn xs (acc++y.toList) O' else .stuck
    | _=>.stuck)
noncomputable def isV(f:Bool→Bool)(x y:V)(O:za):R za V:=match x with
 | .d a=>(match y with
    | .d b=>opt ((isop a b).map fun c=>.d (.bool (f c))) O
    | _=>.stuck)
 | _=>.stuck
noncomputable def cmpG(op:Cop)(x y:V)(O:za):R za V:=opt (((look O x).bind fun x=>(look O y).bind fun y=>kb op x y).map fun b=>.d (.bool b)) O
noncomputable def cmpV(op:Cop)(x y:V)(O:za):R za V:=match op with
 | .is=>isV id x y O
 | .isnot=>isV not x y O
 | op=>cmpG op x y O
noncomputable def idxV(v u:V)(O:za):R za V:=match u with
 | .d k=>opt (((look O v).bind fun x=>idxD x k).map .d) O
 | _=>.stuck
noncomputable def CE:Type:=Pg→Loc→za→R za V
noncomputable def evE(P:Pg)(ρ:Loc)(c:CE)(O:za):R za V:=c P ρ O
noncomputable def CI:Type:=Pg→Loc→za→R za Src
noncomputable def evI(P:Pg)(ρ:Loc)(c:CI)(O:za):R za Src:=c P ρ O
inductive CEs where
 | nil
 | cons (e:CE) (es:CEs)
noncomputable def evEs(P:Pg)(ρ:Loc):CEs→za→R za (List V)
 | .nil,O=>.ok [] O
 | .cons e es,O=>(evE P ρ e O).bind fun v O=>(evEs P ρ es O).bind fun vs O=>.ok (v::vs) O
noncomputable def j9(P:Pg)(ρ:Loc):CEs→za→R za Bool
 | .nil,O=>.ok true O
 | .cons e es,O=>(evE P ρ e O).bind fun v O=>(opt (truth v) O).bind fun t O=>(match t with
    | true=>j9 P ρ es O
    | false=>.ok false O)
noncomputable def boxK(v:V)(O:za):R za V:=match v with
 | .d (.list xs)=>.ok (.box O.length) (O++[.lst xs])
 | _=>.stuck
noncomputable def xr(tgt:CT)(evT:Loc→za→R za Bool)(evX:Loc→za→R za V)(ρ:Loc)(x:PyData)(O:za):R za (Option PyData):=match zp tgt (.d x) ρ with
 | none=>.stuck
 | some ρ'=>(evT ρ' O).bind fun t O=>(match t with
    | false=>.ok none O
    | true=>(evX ρ' O).bind fun v O=>(match v with
       | .d y=>.ok (some y) O
       | _=>.stuck))
noncomputable def negV(v:V)(O:za):R za V:=match v with
 | .d (.int i)=>.ok (.d (.int (-i))) O
 | _=>.stuck
noncomputable def CE.none:CE:=fun uA uA O=>.ok (.d .none) O
noncomputable def CE.bool(b:Bool):CE:=fun uA uA O=>.ok (.d (.bool b)) O
noncomputable def CE.int(i:Int):CE:=fun uA uA O=>.ok (.d (.int i)) O
noncomputable def CE.str(x:Str):CE:=fun uA uA O=>.ok (.d (.str x)) O
noncomputable def CE.loc(i:Nat):CE:=fun uA ρ O=>opt (ρ[i]?.join) O
noncomputable def CE.glob(k:Nat):CE:=fun P uA O=>opt ((P.gval k).map .d) O
noncomputable def CE.tup(es:CEs):CE:=fun P ρ O=>(evEs P ρ es O).bind fun vs O=>opt (tupV vs) O
noncomputable def CE.list(es:CEs):CE:=fun P ρ O=>(evEs P ρ es O).bind fun vs O=>opt ((allD vs).map fun xs=>.d (.list xs)) O
noncomputable def CE.dict:CE:=fun uA uA O=>.ok (.d (.dict [])) O
noncomputable def CE.boxed(e:CE):CE:=fun P ρ O=>(evE P ρ e O).bind boxK
noncomputable def CE.neg(e:CE):CE:=fun P ρ O=>(evE P ρ e O).bind negV
noncomputable def CE.nt(e:CE):CE:=fun P ρ O=>(evE P ρ e O).bind fun v O=>opt ((truth v).map fun b=>.d (.bool !b)) O
noncomputable def andK(r:za→R za V):Bool→za→R za V
 | true,O=>r O
 | false,O=>.ok (.d (.bool false)) O
noncomputable def orK(r:za→R za V):Bool→za→R za V
 | true,O=>.ok (.d (.bool true)) O
 | false,O=>r O
noncomputable def iteK(r q:za→R za V):Bool→za→R za V
 | true,O=>r O
 | false,O=>q O
noncomputable def binK(op:Bop)(v u:V)(O:za):R za V:=opt (((look O v).bind fun x=>(look O u).bind fun y=>za9 op x y).map V.d) O
noncomputable def CE.and_(a b:CE):CE:=fun P ρ O=>(evE P ρ a O).bind fun v O=>(opt (truth v) O).bind (andK fun O=>evE P ρ b O)
noncomputable def CE.or_(a b:CE):CE:=fun P ρ O=>(evE P ρ a O).bind fun v O=>(opt (truth v) O).bind (orK fun O=>evE P ρ b O)
noncomputable def CE.bin(op:Bop)(a b:CE):CE:=fun P ρ O=>(evE P ρ a O).bind fun v O=>(evE P ρ b O).bind fun u O=>binK op v u O
noncomputable def CE.cmp(op:Cop)(a b:CE):CE:=fun P ρ O=>(evE P ρ a O).bind fun v O=>(evE P ρ b O).bind fun u O=>cmpV op v u O
noncomputable def CE.chain(p q:Cop)(a b c:CE):CE:=fun P ρ O=>(evE P ρ a O).bind fun v O=>(evE P ρ b O).bind fun u O=>(cmpV p v u O).bind fun t O=>(opt (truth t) O).bind (andK fun O=>(evE P ρ c O).bind fun y O=>cmpV q u y O)
noncomputable def CE.ite(t a b:CE):CE:=fun P ρ O=>(evE P ρ t O).bind fun v O=>(opt (truth v) O).bind (iteK (fun O=>evE P ρ a O) fun O=>evE P ρ b O)
noncomputable def CE.idx(a i:CE):CE:=fun P ρ O=>(evE P ρ a O).bind fun v O=>(evE P ρ i O).bind fun u O=>idxV v u O
noncomputable def zee(v l h:V)(O:za):R za V:=match l with
 | .d l=>(match h with
    | .d h=>opt (((look O v).bind fun x=>zef x l h).map .d) O
    | _=>.stuck)
 | _=>.stuck
noncomputable def CE.slice(a lo hi:CE):CE:=fun P ρ O=>(evE P ρ a O).bind fun v O=>(evE P ρ lo O).bind fun l O=>(evE P ρ hi O).bind fun h O=>zee v l h O
noncomputable def CE.comp(elt:CE)(tgt:CT)(it:CI)(ifs:CEs):CE:=fun P ρ O=>if P.hd=true then .stuck else (evI P ρ it O).bind fun src O=>if src.xs.length≤line then yf src (xr tgt (fun ρ O=>j9 P ρ ifs O) (fun ρ O=>evE P ρ elt O) ρ) src.xs [] O else .stuck
noncomputable def CE.listI(it:CI):CE:=fun P ρ O=>if P.hd=true then .stuck else (evI P ρ it O).bind fun src O=>if src.xs.length≤line then .ok (.d (.list src.xs)) O else .stuck
noncomputable def CE.call(f:Nat)(args:CEs):CE:=fun P ρ O=>(evEs P ρ args O).bind fun vs O=>P.call P.hd f vs O
noncomputable def CE.prim(p:Prim)(args:CEs):CE:=fun P ρ O=>if (P.hd && !p.calm)=true then .stuck else (evEs P ρ args O).bind fun vs O=>Mine.prim P p vs O
noncomputable def CE.meth(m:Meth)(o:CE)(args:CEs):CE:=fun P ρ O=>(evE P ρ o O).bind fun v O=>if recv m v O then (evEs P ρ args O).bind fun vs O=>Mine.meth m v vs O else .stuck
noncomputable def srcV(v:V)(O:za):R za Src:=match v with
 | .d x=>opt ((items x).map .plain) O
 | .box n=>(match O[n]? with
    | some (.lst xs)=>.ok (.box n xs) O
    | _=>.stuck)
 | _=>.stuck
noncomputable def zsd:PyData→Option Int
 | .int i=>some i
 | _=>none
noncomputable def intV:V→Option Int
 | .d x=>zsd x
 | _=>none
noncomputable def xb(v u:V)(O:za):R za (Int×Int):=match intV v with
 | some i=>(match intV u with
    | some j=>if -(10 ^ 9)≤i∧i≤10 ^ 9∧-(10 ^ 9)≤j∧j≤10 ^ 9 then .ok (i,j) O else .stuck
    | none=>.stuck)
 | none=>.stuck
noncomputable def rng(a b:CE)(P:Pg)(ρ:Loc)(O:za):R za (Int×Int):=(evE P ρ a O).bind fun v O=>(evE P ρ b O).bind fun u O=>xb v u O
noncomputable def CI.e(a:CE):CI:=fun P ρ O=>(evE P ρ a O).bind srcV
noncomputable def CI.range(a b:CE):CI:=fun P ρ O=>(rng a b P ρ O).bind fun p O=>.ok (.plain (z6 p.1 p.2)) O
noncomputable def zq(src:Src)(turn:PyData→Loc→za→R (Loc×za) Fl):List PyData→Loc→za→R (Loc×za) Fl
 | [],ρ,O=>.ok .next (ρ,O)
 | x::xs,ρ,O=>(match turn x ρ O with
    | .ok (.ret v) S=>.ok (.ret v) S
    | .ok .next S=>if src.still S.2 then zq src turn xs S.1 S.2 else .stuck
    | _=>.stuck)
noncomputable def yg(test:Loc→za→R (Loc×za) Bool)(turn:Loc→za→R (Loc×za) Fl):Nat→Loc→za→R (Loc×za) Fl
 | 0,_,_=>.stuck
 | n+1,ρ,O=>(match test ρ O with
    | .ok false S=>.ok .next S
    | .ok true S=>(match turn S.1 S.2 with
       | .ok (.ret v) S=>.ok (.ret v) S
       | .ok .next S=>yg test turn n S.1 S.2
       | _=>.stuck)
    | _=>.stuck)
noncomputable def CT.isName:CT→Bool
 | .name _=>true
 | _=>false
noncomputable def CS:Type:=Pg→Loc→za→R (Loc×za) Fl
noncomputable def CSs:Type:=Pg→Loc→za→R (Loc×za) Fl
noncomputable def evS(P:Pg)(c:CS)(ρ:Loc)(O:za):R (Loc×za) Fl:=c P ρ O
noncomputable def evSs(P:Pg)(c:CSs)(ρ:Loc)(O:za):R (Loc×za) Fl:=c P ρ O
structure Fn where
 arity:Nat
 slots:Nat
 keep:Bool
 body:CSs
noncomputable def asgR(t:CT)(v:V)(S:Loc×za):R (Loc×za) Fl:=match zp t v S.1 with
 | some ρ'=>.ok .next (ρ',S.2)
 | none=>.stuck
noncomputable def jm(t:CT)(evb:Loc→za→R (Loc×za) Fl)(x:PyData)(ρ:Loc)(O:za):R (Loc×za) Fl:=match zp t (.d x) ρ with
 | none=>.stuck
 | some ρ'=>evb ρ' O
noncomputable def seqK(p:Loc×za→R (Loc×za) Fl):Fl→Loc×za→R (Loc×za) Fl
 | .ret v,S=>.ok (.ret v) S
 | .next,S=>p S
noncomputable def ifeK(p q:Loc×za→R (Loc×za) Fl):Bool→Loc×za→R (Loc×za) Fl
 | true,S=>p S
 | false,S=>q S
noncomputable def CS.ret(e:CE):CS:=fun P ρ O=>((evE P ρ e O).lift ρ).bind fun v S=>.ok (.ret v) S
noncomputable def CS.asg(t:CT)(e:CE):CS:=fun P ρ O=>if (P.hd && !t.isName)=true then .stuck else ((evE P ρ e O).lift ρ).bind (asgR t)
noncomputable def CS.ife(t:CE)(a b:CSs):CS:=fun P ρ O=>(((evE P ρ t O).bind fun v O=>opt (truth v) O).lift ρ).bind (ifeK (fun S=>evSs P a S.1 S.2) fun S=>evSs P b S.1 S.2)
noncomputable def CS.for_(t:CT)(it:CI)(body:CSs):CS:=fun P ρ O=>if P.hd=true then .stuck else ((evI P ρ it O).lift ρ).bind fun src S=>zq src (jm t fun ρ O=>evSs P body ρ O) src.xs S.1 S.2
noncomputable def CS.while_(t:CE)(body:CSs):CS:=fun P ρ O=>yg (fun ρ O=>((evE P ρ t O).bind fun v O=>opt (truth v) O).lift ρ) (fun ρ O=>evSs P body ρ O) P.turns ρ O
noncomputable def CS.expr(e:CE):CS:=fun P ρ O=>((evE P ρ e O).lift ρ).bind fun uA S=>.ok .next S
noncomputable def CSs.nil:CSs:=fun uA ρ O=>.ok .next (ρ,O)
noncomputable def CSs.cons(s:CS)(ss:CSs):CSs:=fun P ρ O=>(evS P s ρ O).bind (seqK fun S=>evSs P ss S.1 S.2)
noncomputable def vm(base:Nat)(keep:Bool)(n:Nat)(O:za):R za V:=if n < base then .ok (.box n) (O.take base) else (match O[n]? with
 | some (.lst xs)=>(match keep with
    | true=>.ok (.box base) (O.take base++[.lst xs])
    | false=>.ok (.d (.list xs)) (O.take base))
 | _=>.stuck)
noncomputable def frz(O:za)(base:Nat):List It→Option (List PyData)
 | []=>some []
 | .x d::r=>(frz O base r).map (d::·)
 | .b n::r=>if base≤n then (j7 O n).bind fun x=>(frz O base r).map (x::·) else none
noncomputable def bxX(n:Nat)(i:It):Option (Nat×PyData):=match i with
 | .x d=>some (n,d)
 | .b _=>none
noncomputable def bxT(n:Nat)(r:List It):Option (Nat×PyData):=match r with
 | [i]=>bxX n i
 | _=>none
noncomputable def bxB(r:List It)(i:It):Option (Nat×PyData):=match i with
 | .b n=>bxT n r
 | .x _=>none
noncomputable def vn(its:List It):Option (Nat×PyData):=match its with
 | i::r=>bxB r i
 | []=>none
noncomputable def uc(base:Nat)(p:Nat×PyData)(O:za):R za V:=if p.1 < base then .stuck else (match O[p.1]? with
 | some (.lst xs)=>.ok (.tm [.b base,.x p.2]) (O.take base++[.lst xs])
 | _=>.stuck)
noncomputable def fin(base:Nat)(keep:Bool)(v:V)(O:za):R za V:=match v with
 | .d x=>.ok (.d x) (O.take base)
 | .box n=>vm base keep n O
 | .tm its=>(match keep with
    | true=>(match vn its with
       | some p=>uc base p O
       | none=>.stuck)
    | false=>(match frz O base its with
       | some ds=>.ok (.d (.tuple ds)) (O.take base)
       | none=>.stuck))
noncomputable def evFn(P:Pg)(fn:Fn)(args:List V)(O:za):R za V:=
 match evSs P fn.body (args.map some++List.replicate (fn.slots - fn.arity) none) O with
 | .ok (.ret v) S=>fin O.length fn.keep v S.2
 | .ok .next S=>.ok (.d .none) (S.2.take O.length)
 | .stuck=>.stuck
noncomputable def zg(P:Pg)(T:Nat→Option Fn):Nat→Bool→Nat→List V→za→R za V
 | 0,_,_,_,_=>.stuck
 | k+1,hd,f,args,O=>match T f with
   | some fn=>if args.length=fn.arity∧fn.arity≤fn.slots then evFn { P with call:=zg P T k,hd:=hd } fn args O else .stuck
   | none=>.stuck
structure KeepsAll(s s':Shared):Prop where
 gens:s'.gens=s.gens
 os:s'.os=s.os
 kept:∀ b o,s.heap.get? b=some o→s'.heap.get? b=some o
theorem KeepsAll.refl(s:Shared):KeepsAll s s:=⟨rfl,rfl,fun uA uA h=>h⟩
theorem KeepsAll.toks(s:Shared)(n:Nat):KeepsAll s { s with toks:=n }:=⟨rfl,rfl,fun uA uA h=>h⟩
theorem KeepsAll.trans{s s' s'':Shared}(x:KeepsAll s s')(y:KeepsAll s' s''):KeepsAll s s'':=⟨y.gens.trans x.gens,y.os.trans x.os,fun b o e=>y.kept b o (x.kept b o e)⟩
theorem KeepsAll.push(s:Shared)(o:Obj)(n:Nat):KeepsAll s { s with heap:=s.heap.push o,toks:=n }:=⟨rfl,rfl,fun uA uA e=>ac o e⟩
theorem KeepsAll.step{s s':Shared}(x:KeepsAll s s')(W β:List Addr):Step W β s s' β:=
 ⟨x.gens,x.os,bt _,fun uA h=>.inl h,fun b o e=>⟨o,x.kept b o e⟩,fun b o e uA uA=>⟨o,x.kept b o e,Kin.refl o⟩⟩
section
variable{G:Gl}{F:Fm}{N β:List Addr}{ρ:Loc}{O:za}{h h':Heap}
theorem zt(hk:∀ b o,h.get? b=some o→h'.get? b=some o){v:Value}{x:PyData}{as:List Addr}(r:Reads h v x as):Reads h' v x as:=
 x7 (P:=fun uA=>True) (fun b o e uA=>hk b o e) (fun uA uA uA uA uA uA uA=>trivial) r fun uA uA=>trivial
theorem zv(hk:∀ b o,h.get? b=some o→h'.get? b=some o){v:List Value}{x:List PyData}{as:List Addr}(r:ReadsAll h v x as):ReadsAll h' v x as:=
 xm (P:=fun uA=>True) (fun b o e uA=>hk b o e) (fun uA uA uA uA uA uA uA=>trivial) r fun uA uA=>trivial
theorem wa(hk:∀ b o,h.get? b=some o→h'.get? b=some o){vs:List Value}{its:List It}(r:ItsR N β h vs its):ItsR N β h' vs its:=by
 induction r with
 | nil=>exact .nil
 | b h1 _ ih=>exact .b h1 ih
 | x h1 h2 _ ih=>exact .x (zt hk h1) h2 ih
theorem VR.keepAll(hk:∀ b o,h.get? b=some o→h'.get? b=some o){v:Value}{x:V}(r:VR G N β h v x):VR G N β h' v x:=by
 cases x with
 | d x=>obtain⟨as,r,q⟩:=r;exact⟨as,zt hk r,q⟩
 | box n=>exact r
 | tm its=>obtain⟨a,o,vs,k,e,h1,h2,h3,h4⟩:=r;exact⟨a,o,vs,k,e,hk _ _ h1,h2,h3,wa hk h4⟩
theorem BoxAt.keepAll(hk:∀ b o,h.get? b=some o→h'.get? b=some o){a:Addr}{bx:Box}(r:BoxAt h N β a bx):BoxAt h' N β a bx:=by
 cases bx with
 | lst xs=>obtain⟨o,vs,n,h1,h2,h3,as,h4,h5⟩:=r;exact⟨o,vs,n,hk _ _ h1,h2,h3,as,zv hk h4,h5⟩
 | dct kvs=>
   obtain⟨o,es,n,h1,h2,h3,h4,h5⟩:=r
   refine⟨o,es,n,hk _ _ h1,h2,h3,h4,fun i e kv he hkv=>?_⟩
   obtain⟨hq,as,bs,r1,r2,q⟩:=h5 i e kv he hkv
   exact⟨hq,as,bs,zt hk r1,zt hk r2,q⟩
theorem BR.keepAll(hk:∀ b o,h.get? b=some o→h'.get? b=some o)(b:BR G N β O h):BR G N β O h':=
 ⟨fun c o e=>hk _ _ (b.keep c o e),b.len,b.nodup,b.new,fun i a bx h1 h2=>(b.at_ i a bx h1 h2).keepAll hk,fun a ha=>(b.plain a ha).at fun o e=>hk a o e⟩
theorem Get.keepAll(hk:∀ b o,h.get? b=some o→h'.get? b=some o){env:Env}{x:Str}{v:Value}(g:Get h env x v):Get h' env x v:=by
 refine eS g ?_ ?_<;>clear g
 ·rintro ⟨h1,m,h2,h3⟩;exact .inl ⟨h1,m,h2.keeps hk,h3⟩
 ·rintro ⟨h1,c,h2,h3⟩;exact .inr ⟨h1,c,h2,h3.keeps hk⟩
theorem FmOk.keepAll(hk:∀ b o,h.get? b=some o→h'.get? b=some o)(f:FmOk G F β h):FmOk G F β h' where
 kind:=f.kind
 globals:=f.globals
 builtins:=f.builtins
 once:=f.once
 ns:=let ⟨m,e⟩:=f.ns;⟨m,e.keeps hk⟩
 nsW:=f.nsW
 cell:=fun x h1=>let ⟨c,v,h3,h4,h5⟩:=f.cell x h1;⟨c,v,h3,h4.keeps hk,h5⟩
 apart:=f.apart
 sub:=f.sub
 new:=f.new
 notBox:=f.notBox
 stor:=fun a ha=>let ⟨o,h1,h2⟩:=f.stor a ha;⟨o,hk _ _ h1,h2⟩
 frB:=f.frB
 frs:=fun a ha=>let ⟨m,e⟩:=f.frs a ha;⟨m,e.keeps hk⟩
 pin:=fun m e=>⟨(f.pin m e).1.keeps hk,(f.pin m e).2⟩
theorem SR.keepAll(hk:∀ b o,h.get? b=some o→h'.get? b=some o)(r:SR G F β ρ O h):SR G F β ρ O h':=
 ⟨r.br.keepAll hk,r.fm.keepAll hk,fun i x v h1 h2=>let ⟨val,h3,h4⟩:=r.get i x v h1 h2;⟨val,h3.keepAll hk,h4.keepAll hk⟩⟩
end
section
variable{G:Gl}{F:Fm}{s:Shared}{β:List Addr}{ρ:Loc}{O:za}
theorem Does.leaf{α δ:Type}{T:WT α}{d:δ}{Rel:List Addr→Heap→α→δ→Prop}(sr:SR G F β ρ O s.heap)
 (hw:∀ (Q:α→Shared→Prop) (E:Value→Shared→Prop),(∀ v s',KeepsAll s s'→Rel β s'.heap v d→Q v s')→T Q E s) :
 DoesW G F s β T (.ok d (ρ,O)) Rel:=
 fun Q E k=>hw Q E fun v s' ka r=>k s' β v (ka.step _ _) (sr.keepAll ka.kept) r
theorem VR.none{N:List Addr}{h:Heap}:VR G N β h .none (.d .none):=⟨[],.none,fun uA h=>nomatch h⟩
theorem VR.bool{N:List Addr}{h:Heap}{b:Bool}:VR G N β h (.bool b) (.d (.bool b)):=⟨[],.bool b,fun uA h=>nomatch h⟩
theorem VR.int{N:List Addr}{h:Heap}{i:Int}{t:Tok}:VR G N β h (.int i t) (.d (.int i)):=⟨[],.int i t,fun uA h=>nomatch h⟩
theorem VR.str{N:List Addr}{h:Heap}{x:Str}{t:Tok}:VR G N β h (.str x t) (.d (.str x)):=⟨[],.str x t,fun uA h=>nomatch h⟩
end
structure Cx where
 names:List (Option Str)
 sc:Scope
 fname:Nat→Option Str
 gname:Nat→Option Str
 cname:Nat→Option Str
noncomputable def Cx.kind(cx:Cx)(x:Str):Option NameKind:=cx.sc.names.lookup x
noncomputable def v8(x:Str):Bool:=!(x == ("__debug__" : Str))
noncomputable def Cx.isLoc(cx:Cx)(i:Nat)(x:Str):Bool:=(cx.names[i]? == some (some x)) && (cx.kind x == some .local || cx.kind x == some .cell) && v8 x
noncomputable def Cx.isGlob(cx:Cx)(x:Str):Bool:=cx.kind x == some .globalImplicit && v8 x
noncomputable def zdu:Bop→Operator→Bool
 | .add,.Add=>true
 | .sub,.Sub=>true
 | .mul,.Mult=>true
 | .fdiv,.FloorDiv=>true
 | .mod,.Mod=>true
 | .pow,.Pow=>true
 | _,_=>false
noncomputable def xy:Cop→CmpOp→Bool
 | .eq,.Eq=>true
 | .ne,.NotEq=>true
 | .lt,.Lt=>true
 | .le,.LtE=>true
 | .gt,.Gt=>true
 | .ge,.GtE=>true
 | .is,.Is=>true
 | .isnot,.IsNot=>true
 | .in_,.In=>true
 | .notin,.NotIn=>true
 | _,_=>false
noncomputable def q8:Ty→Str
 | .int=>"int"
 | .bool=>"bool"
 | .tuple=>"tuple"
 | .list=>"list"
 | .str=>"str"
noncomputable def x8:Prim→Str
 | .isinst _=>"isinstance"
 | .isexc _=>"isinstance"
 | .len=>"len"
 | .all=>"all"
 | .any=>"any"
 | .sum=>"sum"
 | .sorted=>"sorted"
 | .list=>"list"
 | .tuple=>"tuple"
 | .min2=>"min"
 | .min=>"min"
 | .max=>"max"
 | .int=>"int"
 | .str=>"str"
 | .lenset=>"len"
 | .sortedset=>"sorted"
noncomputable def Prim.plain:Prim→Bool
 | .len | .all | .any | .sum | .sorted | .list | .tuple | .min | .max | .int | .str=>true
 | _=>false
noncomputable def addT:CT→Expr→List (Option Str)→List (Option Str)
 | .name i,.Name x _,l=>if l[i]? == some none then l.set i (some x) else l
 | .two a b,.Tuple [x,y] _ _,l=>addT b y (addT a x l)
 | _,_,l=>l
noncomputable def xf(l:List (Option Str)):Bool:=decide (l.filterMap id).Nodup
noncomputable def chkT(cx:Cx)(own:Str→Bool):CT→Expr→Bool
 | .name i,.Name x _=>cx.isLoc i x && own x
 | .two a b,.Tuple [x,y] _ _=>chkT cx own a x && chkT cx own b y
 | _,_=>false
noncomputable def ownOf(sc:Scope)(x:Str):Bool:=sc.names.lookup x == some .local || sc.names.lookup x == some .cell
noncomputable def zai(scope sc:Scope):Scope:=
 { scope with names:=scope.names.map fun (n,k)=>if (k == .free && sc.kind == .function && sc.names.lookup n == some .cell) then (n,.cell) else (n,k) }
noncomputable def y9(scope sc:Scope):Bool:=
 scope.kind == .function && decide ((scope.names.map (·.1)).Nodup) && scope.names.all fun (n,k)=>k == .local || k == .cell || k == .globalImplicit || (k == .free && sc.names.lookup n == some .cell)
noncomputable def Cx.inner(cx:Cx)(tgt:CT)(t:Expr)(scope:Scope):Cx:=
 { cx with names:=addT tgt t (cx.names.map fun o=>o.filter fun x=>scope.names.lookup x == some .free),sc:=zai scope cx.sc }
noncomputable def qi(x:Expr)(ap q:Pos):Bool:=(ap.endLine == q.line) && (match x with
 | .Name _ _=>true
 | .Subscript _ _ _=>true
 | _=>false)
noncomputable def yq(fn:Fn)(names:List Str):List (Option Str):=names.map some++List.replicate (fn.slots - names.length) none
noncomputable def pd(a:Arguments)(names:List Str)(ar:Nat):Bool:=
 a.posonlyargs.isEmpty && a.vararg.isNone && a.kwonlyargs.isEmpty && a.kw_defaults.isEmpty && a.kwarg.isNone && a.defaults.isEmpty && (a.args.map (·.arg) == names.take ar) && a.args.length == ar
noncomputable def zaz(sc:Scope):Bool:=sc.kind == .function && !sc.isGenerator && !sc.isCoroutine && decide ((sc.names.map (·.1)).Nodup) && sc.names.all fun (_,k)=>k == .local || k == .cell || k == .globalImplicit
noncomputable def zgk(fn:Fn)(names:List Str)(a:Arguments)(sc:Scope):Bool:=
 pd a names fn.arity && zaz sc && decide (names.Nodup) && decide (names.length≤fn.slots) && decide (fn.arity≤names.length) && names.all (ownOf sc)
end Mine
end
section
namespace Mine
open PySem PyProof.Rows
structure Room(A:Around)(k:Nat):Prop where
 depth:A.depth+k < 690
 units:A.units+8 * k < 7000
 guards:A.guards=some []
theorem Room.deeper{A:Around}{k:Nat}(r:Room A (k+1))(env:Env):Room (A.deeper env) k:=
 ⟨by have:=r.depth;show A.depth+1+k < 690;lia,by have:=r.units;show A.units+3+8 * k < 7000;lia,r.guards⟩
theorem Room.room{A:Around}{k:Nat}(r:Room A k):A.depth < recursionLimit:=by have:=r.depth;show A.depth < 1000;lia
theorem Room.c{A:Around}{k n:Nat}(r:Room A k)(hn:n≤2000:=by decide):A.units+n < cLine:=by have:=r.units;show A.units+n < 9900;lia
structure Fits(F:Fm)(cx:Cx):Prop where
 names:F.names=cx.names
 kind:∀ x,F.env.kindOf x=cx.kind x
 sck:cx.sc.kind=.function
noncomputable def bis:List (Str×Value):=[("isinstance",.builtin "isinstance"),("len",.builtin "len"),("all",.builtin "all"),("any",.builtin "any"),("sum",.builtin "sum"),("sorted",.builtin "sorted"),("min",.builtin "min"),("max",.builtin "max"),
 ("list",.type "list"),("tuple",.type "tuple"),("int",.type "int"),("str",.type "str"),("set",.type "set"),("bool",.type "bool"),("range",.type "range"),("zip",.type "zip"),("enumerate",.type "enumerate"),("reversed",.type "reversed")]
structure GOk(G:Gl)(gval:Nat→Option PyData)(gname:Nat→Option Str):Prop where
 nolimit:G.h₀.NoLimit
 g:G.h₀.Ns mainGlobals G.mg
 b:G.h₀.Ns builtinsNs G.mb
 gl:∀ k d x,gval k=some d→gname k=some x→∃ v,G.mg x=some v∧Reads G.h₀ v d []
 clsRef:∀ c,∃ C,G.cls c=.ref C
 bi:∀ p∈bis,G.mg p.1=none∧G.mb p.1=some p.2
 digits:∃ mc,G.h₀.Ns cStatics mc∧mc "sys.int_max_str_digits" = none
section
variable{G:Gl}{F:Fm}{A:Around}{s:Shared}{β:List Addr}{ρ:Loc}{O:za}{cx:Cx}{gval:Nat→Option PyData}{gname:Nat→Option Str}
noncomputable abbrev VRel(G:Gl)(F:Fm):List Addr→Heap→Value→V→Prop:=fun β h v d=>VR G F.B β h v d
theorem ph{i:Nat}{x:Str}(h:cx.isLoc i x=true):cx.names[i]?=some (some x)∧(cx.kind x=some .local∨cx.kind x=some .cell)∧(x == ("__debug__" : Str))=false:=by
 simp only[Cx.isLoc,v8,aD,bY,aS,bI] at h
 exact⟨h.1.1,h.1.2,h.2⟩
theorem wb{x:Str}(h:cx.isGlob x=true):cx.kind x=some .globalImplicit∧(x == ("__debug__" : Str))=false:=by
 simp only[Cx.isGlob,v8,aD,aS,bI] at h
 exact h
theorem zss{i:Nat}{x:Str}{p:Pos}(sr:SR G F β ρ O s.heap)(fit:Fits F cx)(h:cx.isLoc i x=true) :
 Does G F A s β (eval (.Name x p) F.env) ((opt (ρ[i]?.join) O).lift ρ) (VRel G F):=by
 refine fc (ph h) ?_;intro h1 h2 h3
 cases hv:ρ[i]?.join with
 | none=>trivial
 | some v=>
   have hv':ρ[i]?=some (some v):=by
    cases e:ρ[i]? with
    | none=>rw[e] at hv;exfalso;injection hv
    | some o=>rw[e] at hv;cases o with
      | none=>exfalso;injection hv
      | some u=>injection hv with eQ;subst eQ;rfl
   refine eV (sr.get i x v (by rw[fit.names];exact h1) hv') ?_;intro val g r
   refine Does.leaf sr fun Q E k=>?_
   have hq:Q val s:=k val s (KeepsAll.refl s) r
   refine eS g ?_ ?_<;>clear g
   ·rintro ⟨gk,m,gm,gx⟩;exact wpAny_Name (wpAny_loadName_local sr.fm.kind gk gm gx hq) h3
   ·rintro ⟨gk,c,gc,gx⟩;exact wpAny_Name (wpAny_loadName_cell sr.fm.kind gk gc gx hq) h3
theorem za1{x:Str}{p:Pos}{v:Value}{Q:Value→Shared→Prop}{E:Value→Shared→Prop}(g:GOk G gval gname)(sr:SR G F β ρ O s.heap)(fit:Fits F cx)(h:cx.isGlob x=true)(hv:G.mg x=some v)(q:Q v s) :
 wpAny (model G.prog G.w) A (eval (.Name x p) F.env) Q E s:=by
 refine fb (wb h) ?_;intro h1 h2
 exact Calls.Name_function_global sr.fm.kind ((fit.kind x).trans h1) (Calls.loadGlobal_global (mg:=G.mg) (by rw[sr.fm.globals];exact g.g.keeps sr.br.keep) hv q) h2
theorem z8{x:Str}{p:Pos}{v:Value}{Q:Value→Shared→Prop}{E:Value→Shared→Prop}(g:GOk G gval gname)(sr:SR G F β ρ O s.heap)(fit:Fits F cx)(h:cx.isGlob x=true)(hm:G.mg x=none)(hv:G.mb x=some v)(q:Q v s) :
 wpAny (model G.prog G.w) A (eval (.Name x p) F.env) Q E s:=by
 refine fb (wb h) ?_;intro h1 h2
 exact Calls.Name_function_global sr.fm.kind ((fit.kind x).trans h1) (Calls.loadGlobal_builtin (mg:=G.mg) (mb:=G.mb) (by rw[sr.fm.globals];exact g.g.keeps sr.br.keep) hm (by rw[sr.fm.builtins];exact g.b.keeps sr.br.keep) hv q) h2
theorem zqd{k:Nat}{x:Str}{p:Pos}(g:GOk G gval gname)(sr:SR G F β ρ O s.heap)(fit:Fits F cx)(hk:gname k=some x)(h:cx.isGlob x=true) :
 Does G F A s β (eval (.Name x p) F.env) ((opt ((gval k).map V.d) O).lift ρ) (VRel G F):=by
 cases hd:gval k with
 | none=>trivial
 | some d=>
   refine eV (g.gl k d x hd hk) ?_;intro v hv r
   refine Does.leaf sr fun Q E q=>za1 g sr fit h hv (q v s (KeepsAll.refl s) ⟨[],zt sr.br.keep r,fun uA h=>nomatch h⟩)
end
end Mine
end
section
namespace Mine
open PySem
theorem and2{a b:Bool}(h:(a && b)=true):a=true∧b=true:=Bool.and_eq_true_iff.mp h
theorem and3{a b c:Bool}(h:(a && b && c)=true):a=true∧b=true∧c=true:=by
 refine fb (and2 h) ?_;intro h1 h2;refine fb (and2 h1) ?_;intro h3 h4;exact⟨h3,h4,h2⟩
end Mine
end
section
namespace Mine
open PySem PyProof.Rows
section
variable{G:Gl}{N β:List Addr}{h:Heap}{v:Value}
theorem VR.none_inv(r:VR G N β h v (.d .none)):v=.none:=by obtain⟨_,r,_⟩:=r;cases r;rfl
theorem VR.bool_inv{b:Bool}(r:VR G N β h v (.d (.bool b))):v=.bool b:=by obtain⟨_,r,_⟩:=r;cases r;rfl
theorem VR.int_inv{i:Int}(r:VR G N β h v (.d (.int i))):∃ t,v=.int i t:=by obtain⟨_,r,_⟩:=r;cases r;exact fe _ rfl
theorem VR.str_inv{x:Str}(r:VR G N β h v (.d (.str x))):∃ t,v=.str x t:=by obtain⟨_,r,_⟩:=r;cases r;exact fe _ rfl
inductive TupV(h:Heap)(N β:List Addr)(v:Value)(xs:List PyData):Prop
 | mk (a:Addr) (o:Obj) (vs:Array Value) (n:Nat) (hv:v=.ref a) (h1:h.get? a=some o) (h2:o.cls=.type "tuple") (h3:o.data=.seq vs n) (as:List Addr) (h4:ReadsAll h vs.toList xs as) (h5:∀ a∈as,a∉β∧a∉N)
theorem VR.tuple_inv{xs:List PyData}(r:VR G N β h v (.d (.tuple xs))):TupV h N β v xs:=by
 obtain⟨_,r,q⟩:=r
 cases r with
 | tuple h1 h2 h3 h4=>exact⟨_,_,_,_,rfl,h1,h2,h3,_,h4,q⟩
theorem VR.list_inv{xs:List PyData}(r:VR G N β h v (.d (.list xs))):∃ a,v=.ref a∧ListAt h N β a xs∧a∉β∧a∉N:=by
 obtain⟨_,r,q⟩:=r
 cases r with
 | list h1 h2 h3 h4=>exact ff _ rfl ⟨_,_,_,h1,h2,h3,_,h4,fun a ha=>q a (.tail _ ha)⟩ (q _ (.head _))
end
inductive VRs(G:Gl)(N β:List Addr)(h:Heap):List Value→List V→Prop
 | nil:VRs G N β h [] []
 | cons {v:Value} {d:V} {vs:List Value} {ds:List V}:VR G N β h v d→VRs G N β h vs ds→VRs G N β h (v::vs) (d::ds)
section
variable{G:Gl}{N β:List Addr}{h:Heap}
theorem VRs.length{vs:List Value}{ds:List V}(r:VRs G N β h vs ds):vs.length=ds.length:=by
 induction r with
 | nil=>rfl
 | cons _ _ ih=>simp[ih]
set_option tactic.hygienic true in
theorem VRs.data{vs:List Value}{ds:List V}(r:VRs G N β h vs ds):∀ {xs:List PyData},allD ds=some xs→∃ as,ReadsAll h vs xs as∧∀ a∈as,a∉β∧a∉N:=by
 induction r with
 | nil=>intro xs e;injection e with eQ;subst eQ;exact eW [] .nil (fun uA h=>nomatch h)
 | cons r _ ih=>
   rename_i v d vs ds _
   intro xs e
   cases d with
   | d x=>
     simp only[allD,aE] at e
     refine eV e ?_;clear e;intro ys e1 dY;subst dY
     obtain⟨as,r1,q1⟩:=r
     refine eV (ih e1) ?_;intro bs r2 q2
     exact eW (as++bs) (.cons r1 r2) (fun a ha=>(aj.mp ha).elim (q1 a) (q2 a))
   | box n=>exfalso;injection e
   | tm n=>exfalso;injection e
set_option tactic.hygienic true in
theorem VRs.its{vs:List Value}{ds:List V}(r:VRs G N β h vs ds):∀ {is:List It},allI ds=some is→ItsR N β h vs is:=by
 induction r with
 | nil=>intro xs e;injection e with eQ;subst eQ;exact .nil
 | cons r _ ih=>
   rename_i v d vs ds _
   intro xs e
   cases d with
   | d x=>
     simp only[allI,aE] at e
     refine eV e ?_;clear e;intro ys e1 dY;subst dY
     obtain⟨as,r1,q1⟩:=r
     exact .x r1 q1 (ih e1)
   | box n=>
     simp only[allI,aE] at e
     refine eV e ?_;clear e;intro ys e1 dY;subst dY
     obtain⟨a,h1,rfl⟩:=r
     exact .b h1 (ih e1)
   | tm n=>exfalso;injection e
end
section
variable{G:Gl}{F:Fm}{β β':List Addr}{O:za}{s s':Shared}
theorem VRs.step(b:BR G F.B β O s.heap)(f:FmOk G F β s.heap)(st:Step F.W β s s' β'){vs:List Value}{ds:List V}(r:VRs G F.B β s.heap vs ds):VRs G F.B β' s'.heap vs ds:=by
 induction r with
 | nil=>exact .nil
 | cons r _ ih=>exact .cons (r.step b f st) ih
end
theorem xj{e:Expr}(h:∀ l k p,e≠.Set l k p)(op:CmpOp):behindInMarks op e=false:=by
 cases e <;> first | rfl | exact absurd rfl (h _ _ _)
theorem kr{e:Expr}(h:∀ l k p,e≠.Set l k p)(env:Env)(x:Value):foldedSetIterable e env x=pure x:=by
 cases e <;> first | rfl | exact absurd rfl (h _ _ _)
section
variable{G:Gl}{F:Fm}{A:Around}{s:Shared}{β:List Addr}{ρ:Loc}{O:za}
noncomputable abbrev VRsl(G:Gl)(F:Fm):List Addr→Heap→List Value→List V→Prop:=fun β h v d=>VRs G F.B β h v d
theorem xh{pos:Pos}(sr:SR G F β ρ O s.heap):Does G F A s β (spliced (backTo pos (starEach [] F.env))) ((R.ok ([]:List V) O).lift ρ) (VRsl G F):=
 Does.leaf sr fun Q E k=>wpAny_items_nil (k _ _ (KeepsAll.refl s) .nil)
theorem yi{pos:Pos}{e:Expr}{rest:List Expr}{r:R za V}{g:za→R za (List V)}
 (he:starEach (e::rest) F.env=(false,eval e F.env)::starEach rest F.env)
 (h1:Does G F A s β (eval e F.env) (r.lift ρ) (VRel G F))
 (h2:∀ s' β' O',SR G F β' ρ O' s'.heap→Does G F A s' β' (spliced (backTo pos (starEach rest F.env))) ((g O').lift ρ) (VRsl G F)) :
 Does G F A s β (spliced (backTo pos (starEach (e::rest) F.env))) ((r.bind fun v O=>(g O).bind fun vs O=>.ok (v::vs) O).lift ρ) (VRsl G F):=by
 refine DoesW.seqE (T₂:=fun v Q E s'=>wpAny (model G.prog G.w) A (spliced (backTo pos (starEach rest F.env))) (fun vs s₂=>Q (v::vs) s₂) E s') (fun Q E h=>wpAny_items_cons h he) h1 fun s' β' v d O' uA st sr' rv=>?_
 refine DoesW.seqE (T₁:=tr G A (spliced (backTo pos (starEach rest F.env)))) (T₂:=fun vs Q E s'=>Q (v::vs) s') (fun Q E h=>h) (h2 s' β' O' sr') fun s₂ β₂ vs ds O₂ uA st₂ sr₂ rvs=>?_
 exact Does.leaf sr₂ fun Q E k=>k _ _ (KeepsAll.refl s₂) (.cons (rv.step sr'.br sr'.fm st₂) rvs)
theorem SR.push{h:Heap}(sr:SR G F β ρ O h)(o:Obj):SR G F β ρ O (h.push o):=sr.keepAll fun uA uA e=>ac o e
theorem v7{h:Heap}{l:List Addr}(al:∀ a∈l,∃ o,h.get? a=some o):h.objs.size∉l:=fun hm=>by
 refine eZ (al _ hm) ?_;intro o e
 exact cS _ (aX e)
theorem SR.size_new{h:Heap}(sr:SR G F β ρ O h):h.objs.size∉β∧h.objs.size∉F.B:=
 ⟨v7 fun a ha=>let ⟨o,e,_⟩:=sr.br.alive a ha;⟨o,e⟩,v7 fun a ha=>let ⟨o,e,_⟩:=sr.fm.stor a ha;⟨o,e⟩⟩
theorem zbi{vs:List Value}{ds:List V}{d:V}(r:VRs G F.B β s.heap vs ds)(e:tupV ds=some d) :
 VR G F.B β (s.heap.push { cls:=.type "tuple",data:=.seq vs.toArray }) (.ref s.heap.objs.size) d:=by
 have hk:∀ b o,s.heap.get? b=some o→(s.heap.push { cls:=.type "tuple",data:=.seq vs.toArray }).get? b=some o:=fun uA uA e=>ac _ e
 unfold tupV at e
 cases hd:allD ds with
 | some xs=>
   rw[hd] at e;injection e with eQ;subst eQ
   refine eV (r.data hd) ?_;intro as r1 q
   exact⟨as,.tuple (ay _ rfl) rfl rfl (zv hk r1),q⟩
 | none=>
   rw[hd] at e
   simp only[aE] at e
   refine eV e ?_;clear e;intro is e1 dY;subst dY
   exact⟨_,_,_,_,rfl,ay _ rfl,rfl,rfl,wa hk (r.its e1)⟩
theorem zcc{vs:List Value}{ds:List V}{xs:List PyData}{ρ:Loc}{O:za}(sr:SR G F β ρ O s.heap)(r:VRs G F.B β s.heap vs ds)(e:allD ds=some xs) :
 VR G F.B β (s.heap.push { cls:=.type "list",data:=.seq vs.toArray }) (.ref s.heap.objs.size) (.d (.list xs)):=by
 refine eV (r.data e) ?_;intro as r1 q
 refine⟨_::as,.list (ay _ rfl) rfl rfl (zv (fun uA uA e=>ac _ e) r1),fun a ha=>?_⟩
 refine eS (af.mp ha) ?_ ?_
 ·rintro rfl;exact sr.size_new
 ·intro ha;exact q a ha
theorem zsn{elts:List Expr}{k:Nat}{pos:Pos}{r:R za (List V)}(hl:∀ vs O,r=.ok vs O→vs.length≤line)
 (h1:Does G F A s β (spliced (backTo pos (starEach elts F.env))) (r.lift ρ) (VRsl G F)) :
 Does G F A s β (eval (.Tuple elts k pos) F.env) ((r.bind fun vs O=>opt (tupV vs) O).lift ρ) (VRel G F):=by
 refine DoesW.seqE (T₂:=fun vs Q E s₁=>vs.length≤sizeLine∧Q (.ref s₁.heap.objs.size) { s₁ with heap:=s₁.heap.push { cls:=.type "tuple",data:=.seq vs.toArray } }) (fun Q E h=>wpAny_Tuple h) h1 fun s' β' vs ds O' e st sr rv=>?_
 cases hd:tupV ds with
 | none=>trivial
 | some d=>
   have hz:vs.length≤sizeLine:=by rw[rv.length];exact aq (hl _ _ e) (by decide)
   exact Does.leaf sr fun Q E q=>⟨hz,q _ _ (KeepsAll.push s' _ _) (zbi rv hd)⟩
end
section
variable{G:Gl}{F:Fm}{A:Around}{s:Shared}{β:List Addr}{ρ:Loc}{O:za}
theorem pf{N:List Addr}{h:Heap}(b:BR G N β O h){n:Nat}{a:Addr}{x:PyData}(ha:β[n]?=some a)(e:j7 O n=some x):∃ xs,x=.list xs∧ListAt h N β a xs:=by
 unfold j7 at e
 cases ho:O[n]? with
 | none=>rw[ho] at e;exfalso;injection e
 | some bx=>
   rw[ho] at e
   cases bx with
   | lst xs=>injection e with eQ;subst eQ;exact eW xs rfl (b.at_ n a _ ha ho)
   | dct kvs=>exfalso;injection e
theorem ListAt.reads{N:List Addr}{h:Heap}{a:Addr}{xs:List PyData}(l:ListAt h N β a xs):∃ as,Reads h (.ref a) (.list xs) (a::as)∧∀ b∈as,b∉β∧b∉N:=by
 obtain⟨o,vs,n,h1,h2,h3,as,h4,h5⟩:=l
 exact eW as (.list h1 h2 h3 h4) h5
theorem vg(sr:SR G F β ρ O s.heap){v:Value}{d:V}(r:VR G F.B β s.heap v d){x:PyData}(e:look O d=some x):∃ as,Reads s.heap v x as:=by
 cases d with
 | d y=>injection e with eQ;subst eQ;obtain⟨as,r,_⟩:=r;exact fe as r
 | box n=>
   obtain⟨a,ha,rfl⟩:=r
   refine eV (pf sr.br ha e) ?_;intro xs dX l;subst dX
   obtain⟨as,r,_⟩:=l.reads
   exact fe _ r
 | tm n=>exfalso;injection e
theorem ya(sr:SR G F β ρ O s.heap){v:Value}{d:V}(r:VR G F.B β s.heap v d){xs:List PyData}(e:look O d=some (.list xs)):∃ a,v=.ref a∧ListAt s.heap F.B β a xs:=by
 cases d with
 | d y=>injection e with eQ;subst eQ;obtain⟨a,h1,h2,_⟩:=r.list_inv;exact eW a h1 h2
 | box n=>
   obtain⟨a,ha,rfl⟩:=r
   refine eV (pf sr.br ha e) ?_;intro ys e' l
   injection e' with eQ;subst eQ
   exact eW a rfl l
 | tm n=>exfalso;injection e
theorem ye{d:V}{x:PyData}(e:look O d=some x)(hx:∀ xs,x≠.list xs):d=.d x:=by
 cases d with
 | d y=>injection e with eQ;subst eQ;rfl
 | box n=>
   exfalso
   simp only[look,j7] at e
   cases ho:O[n]? with
   | none=>rw[ho] at e;exfalso;injection e
   | some bx=>
     rw[ho] at e
     cases bx with
     | lst xs=>injection e with eQ;subst eQ;exact hx _ rfl
     | dct kvs=>exfalso;injection e
 | tm n=>exfalso;injection e
set_option tactic.hygienic true in
theorem zhh{v:Value}{x:PyData}{b:Bool}{as:List Addr}(r:Reads s.heap v x as):isSame v (.bool b)=pure (isBool b x):=by
 cases r <;> first | rfl | (rename_i c;cases b <;> cases c <;> rfl)
theorem ze6{v:Value}{x:PyData}{as:List Addr}(r:Reads s.heap v x as):isSame v .none=pure (isNone x):=by cases r <;> rfl
theorem zmh(sr:SR G F β ρ O s.heap){v u:Value}{x y:PyData}{b:Bool}(rv:VR G F.B β s.heap v (.d x))(ru:VR G F.B β s.heap u (.d y))(e:isop x y=some b):isSame v u=pure b:=by
 obtain⟨as,r,_⟩:=rv
 cases y <;> first | (cases e;done) | skip
 ·have:=ru.none_inv;subst this
  rw[← aM e];exact ze6 r
 ·have:=ru.bool_inv;subst this
  rw[← aM e];exact zhh r
theorem zlz{f:Int→Int→Bool}{x y:PyData}{b:Bool}(e:ordD f x y=some b):∃ i j,x=.int i∧y=.int j∧f i j=b:=by
 cases x <;> first | (cases e;done) | skip
 cases y <;> first | (cases e;done) | skip
 exact fg _ _ rfl rfl (aM e)
theorem zkc{x y:PyData}{c b:Bool}(e:(if eqOk x y then some c else none)=some b):(x.canLay0=true∧y.canLay0=true)∧min x.depth y.depth≤100∧c=b:=by
 by_cases h:eqOk x y=true
 ·rw[ah h] at e
  have h':=h
  simp only[eqOk,aD,aO] at h'
  exact⟨h'.1,h'.2,aM e⟩
 ·rw[ai h] at e;exfalso;injection e
theorem zmi{x:PyData}{xs:List PyData}{b:Bool}(e:inD x xs=some b):(x.canLay0=true∧PyData.canLayAll0 xs=true)∧x.depth≤100∧(xs.any fun y=>PyData.eqv y x)=b:=by
 unfold inD at e
 by_cases h:(x.canLay0 && PyData.canLayAll0 xs && decide (x.depth≤100))=true
 ·rw[ah h] at e
  have h':=h
  simp only[aD,aO] at h'
  exact⟨h'.1,h'.2,aM e⟩
 ·rw[ai h] at e;exfalso;injection e
theorem zis{y:PyData}{xs:List PyData}(e:seqD y=some xs):y=.list xs∨y=.tuple xs:=by
 cases y <;> first | (cases e;done) | skip
 ·injection e with eQ;subst eQ;exact .inl rfl
 ·injection e with eQ;subst eQ;exact .inr rfl
theorem zjs{x y:PyData}{b:Bool}(e:(seqD y).bind (inD x)=some b):∃ xs,(y=.list xs∨y=.tuple xs)∧(x.canLay0=true∧PyData.canLayAll0 xs=true)∧x.depth≤100∧(xs.any fun y=>PyData.eqv y x)=b:=by
 cases h:seqD y with
 | none=>rw[h] at e;exfalso;injection e
 | some xs=>rw[h] at e;exact eW xs (zis h) (zmi e)
noncomputable def Cop.op:Cop→CmpOp
 | .eq=>.Eq
 | .ne=>.NotEq
 | .lt=>.Lt
 | .le=>.LtE
 | .gt=>.Gt
 | .ge=>.GtE
 | .is=>.Is
 | .isnot=>.IsNot
 | .in_=>.In
 | .notin=>.NotIn
theorem zql{op:Cop}{o:CmpOp}(h:xy op o=true):o=op.op:=by cases op <;> cases o <;> first | rfl | exact (ak h).elim
theorem qh{f:Int→Int→Bool}{v u:Value}{x y:PyData}{as bs:List Addr}{b:Bool}(rv:Reads s.heap v x as)(ru:Reads s.heap u y bs)(e:ordD f x y=some b):∃ i j t t',v=.int i t∧u=.int j t'∧f i j=b:=by
 refine fh (zlz e) ?_;intro i j dY dZ ed;subst dY;subst dZ;subst ed
 cases rv;cases ru
 exact⟨_,_,_,_,rfl,rfl,rfl⟩
theorem zkw{op:Cop}{o:CmpOp}{v u:Value}{x y:PyData}{as bs:List Addr}{b:Bool}{Q:Value→Shared→Prop}{E:Value→Shared→Prop}{k:Nat}(ro:Room A k)(ho:xy op o=true)
 (rv:Reads s.heap v x as) (ru:Reads s.heap u y bs) (e:kb op x y=some b) (q:Q (.bool b) s):wpAny (model G.prog G.w) A (compareOp o v u) Q E s:=by
 have hu:=ro.c (n:=200)
 rw[zql ho]
 clear ho ro
 have hle:∀ {a:Nat},a≤100→A.units+a < cLine:=fun h=>bS (Nat.add_le_add_left (aq h (by decide)) _) hu
 cases op with
 | eq=>
   refine fc (zkc e) ?_;intro dW h3 dY;refine fb dW ?_;clear dW;intro h1 h2;subst dY
   exact SeqAt.compareEq_reads rv ru h1 h2 (hle h3) q
 | ne=>
   refine fc (zkc e) ?_;intro dW h3 dY;refine fb dW ?_;clear dW;intro h1 h2;subst dY
   exact SeqAt.compareNe_reads rv ru h1 h2 (hle h3) q
 | lt=>
   refine fi (qh rv ru e) ?_;intro i j t t' ed eg;subst ed;refine fb eg ?_;clear eg;intro dW dX;subst dW;subst dX
   exact wpAny_lt_int q
 | le=>
   refine fi (qh rv ru e) ?_;intro i j t t' ed eg;subst ed;refine fb eg ?_;clear eg;intro dW dX;subst dW;subst dX
   exact le_int q
 | gt=>
   refine fi (qh rv ru e) ?_;intro i j t t' ed eg;subst ed;refine fb eg ?_;clear eg;intro dW dX;subst dW;subst dX
   exact PySem.P.gt_int q
 | ge=>
   refine fi (qh rv ru e) ?_;intro i j t t' ed eg;subst ed;refine fb eg ?_;clear eg;intro dW dX;subst dW;subst dX
   exact PySem.P.ge_int q
 | is=>exfalso;injection e
 | isnot=>exfalso;injection e
 | in_=>
   refine fj (zjs e) ?_;intro xs hy dY dZ;refine fb dY ?_;clear dY;intro h1 h2;refine fb dZ ?_;clear dZ;intro h3 dX;subst dX
   refine eS hy ?_ ?_<;>clear hy
   ·rintro rfl;exact SeqAt.in_list_reads ru rv h2 h1 (by lia) q
   ·rintro rfl;exact SeqAt.in_tuple_reads ru rv h2 h1 (by lia) q
 | notin=>
   refine eV (aE.mp e) ?_;intro c e1 dY;subst dY
   refine fj (zjs e1) ?_;intro xs hy dY dZ;refine fb dY ?_;clear dY;intro h1 h2;refine fb dZ ?_;clear dZ;intro h3 dX;subst dX
   refine eS hy ?_ ?_<;>clear hy
   ·rintro rfl;exact SeqAt.notIn_list_reads ru rv h2 h1 (by lia) q
   ·rintro rfl;exact SeqAt.notIn_tuple_reads ru rv h2 h1 (by lia) q
end
structure KeepsL(L:Addr)(s s':Shared):Prop where
 gens:s'.gens=s.gens
 os:s'.os=s.os
 kept:∀ b o,b≠L→s.heap.get? b=some o→s'.heap.get? b=some o
 ns:∀ m,s.heap.Ns L m→s'.heap.Ns L m
section
variable{G:Gl}{F:Fm}{β:List Addr}{ρ:Loc}{O:za}{s s':Shared}
theorem KeepsL.step(x:KeepsL F.env.locals s s')(f:FmOk G F β s.heap):Step F.W β s s' β where
 gens:=x.gens
 os:=x.os
 pre:=bt _
 fresh:=fun uA h=>.inl h
 alive:=fun b o e=>by
  by_cases hb:b=F.env.locals
  ·subst hb
   obtain⟨m,hm⟩:=f.ns
   refine fk (x.ns m hm) ?_;intro o' _ _ h _
   exact fe o' h
  ·exact fe o (x.kept b o hb e)
 kept:=fun b o e uA hW=>⟨o,x.kept b o (fun h=>hW (h ▸ f.nsW)) e,Kin.refl o⟩
theorem SR.keepL(x:KeepsL F.env.locals s s')(r:SR G F β ρ O s.heap):SR G F β ρ O s'.heap:=by
 have st:=x.step r.fm
 have nL:F.env.locals∈F.B:=r.fm.sub _ r.fm.nsW
 have ne:∀ {a:Addr},a∈β→a≠F.env.locals:=fun ha e=>r.fm.notBox _ nL (e ▸ ha)
 refine⟨⟨fun c o e=>x.kept c o (fun h=>?_) (r.br.keep c o e),r.br.len,r.br.nodup,r.br.new,fun i a bx h1 h2=>?_,fun a ha=>(r.br.plain a ha).at fun o e=>x.kept a o (ne ha) e⟩,⟨r.fm.kind,r.fm.globals,r.fm.builtins,r.fm.once,?_,r.fm.nsW,?_,r.fm.apart,r.fm.sub,r.fm.new,r.fm.notBox,?_,r.fm.frB,fun a ha=>?_,fun m e=>⟨x.ns m (r.fm.pin m e).1,(r.fm.pin m e).2⟩⟩,fun i y v h1 h2=>?_⟩
 ·have:=r.fm.newW r.fm.nsW
  rw[← h,e] at this;exfalso;injection this
 ·have hb:=r.br.at_ i a bx h1 h2
  have hne:=ne (aw h1)
  cases bx with
  | lst xs=>
    obtain⟨o,vs,n,e1,e2,e3,as,e4,e5⟩:=hb
    exact⟨o,vs,n,x.kept _ _ hne e1,e2,e3,as,(zu r.br r.fm st e4 e5).1,e5⟩
  | dct kvs=>
    obtain⟨o,es,n,e1,e2,e3,e4,e5⟩:=hb
    refine⟨o,es,n,x.kept _ _ hne e1,e2,e3,e4,fun i e kv he hkv=>?_⟩
    obtain⟨hq,as,bs,r1,r2,q⟩:=e5 i e kv he hkv
    exact⟨hq,as,bs,(z0 r.br r.fm st r1 fun a ha=>q a (az _ ha)).1,(z0 r.br r.fm st r2 fun a ha=>q a (au _ ha)).1,q⟩
 ·obtain⟨m,hm⟩:=r.fm.ns;exact fe m (x.ns m hm)
 ·intro y h1
  refine fh (r.fm.cell y h1) ?_;intro c v h3 dZ h5;refine eV dZ ?_;clear dZ;intro o h4 h4'
  refine fg c v h3 ⟨o,x.kept _ _ (fun h=>?_) h4,h4'⟩ h5
  obtain⟨m,o',es,ep,q1,q2,_⟩:=r.fm.ns
  rw[h] at h4;rw[h4] at q1;injection q1 with eQ;subst eQ;rw[h4'] at q2;exfalso;injection q2
 ·intro a ha
  refine eV (r.fm.stor a ha) ?_;intro o h1 h2
  by_cases hb:a=F.env.locals
  ·subst hb
   obtain⟨m,hm⟩:=r.fm.ns
   refine fq (x.ns m hm) ?_;intro o' es ep h hd _
   exact eW o' h (fun vs n hv=>by rw[hd] at hv;exfalso;injection hv)
  ·exact eW o (x.kept _ _ hb h1) h2
 ·refine eZ (r.fm.frs a ha) ?_;intro m hm
  by_cases hb:a=F.env.locals
  ·subst hb;exact fe m (x.ns m hm)
  ·refine fk hm ?_;clear hm;intro o es ep h1 h2
   exact⟨m,o,es,ep,x.kept _ _ hb h1,h2⟩
 ·refine eV (r.get i y v h1 h2) ?_;intro val g rv
  refine eW val ?_ (rv.step r.br r.fm st)
  refine eS g ?_ ?_<;>clear g
  ·rintro ⟨g1,m,g2,g3⟩;exact .inl ⟨g1,m,x.ns m g2,g3⟩
  ·rintro ⟨g1,c,g2,o,g3,g4⟩;refine .inr ⟨g1,c,g2,o,x.kept _ _ (fun h=>?_) g3,g4⟩
   obtain⟨m,o',es,ep,q1,q2,_⟩:=r.fm.ns
   rw[h] at g3;rw[g3] at q1;injection q1 with eQ;subst eQ;rw[g4] at q2;exfalso;injection q2
theorem Does.leafL{α δ:Type}{T:WT α}{d:δ}{Rel:List Addr→Heap→α→δ→Prop}(sr:SR G F β ρ O s.heap)
 (hw:∀ (Q:α→Shared→Prop) (E:Value→Shared→Prop),(∀ v s',KeepsL F.env.locals s s'→Rel β s'.heap v d→Q v s')→T Q E s) :
 DoesW G F s β T (.ok d (ρ,O)) Rel:=
 fun Q E k=>hw Q E fun v s' ka r=>k s' β v (ka.step sr.fm) (sr.keepL ka) r
end
noncomputable def qr(h:Heap)(L:Addr):Heap:={ objs:=h.objs.extract 0 L,life:=h.life }
theorem ud{h:Heap}{L a:Addr}:(qr h L).get? a=if a < L then h.get? a else none:=by
 have e:(h.objs.extract 0 L)[a]?=if a < L then h.objs[a]? else none:=by
  rw[Array.getElem?_extract]
  generalize h.objs=x
  have key:∀ (n L a:Nat),(a < min L n - 0)↔(a < L∧a < n):=fun n L a=>by rw[Nat.sub_zero];exact Nat.lt_min
  by_cases h1:a < L
  ·by_cases h2:a < x.size
   ·rw[ah ((key _ _ _).mpr ⟨h1,h2⟩),ah h1,Nat.zero_add]
   ·rw[ai (fun q=>h2 ((key _ _ _).mp q).2),ah h1,ct (cT.mp h2)]
  ·rw[ai (fun q=>h1 ((key _ _ _).mp q).1),ai h1]
 unfold Heap.get? qr
 dsimp only
 rw[e]
 by_cases h1:a < L
 ·rw[ah h1,ah h1]
 ·rw[ai h1,ai h1]
noncomputable def newsOf(h:Heap)(L:Addr):List (Addr×Obj):=(List.range h.objs.size).filterMap fun a=>if L < a then (h.get? a).map fun o=>(a,o) else none
set_option tactic.hygienic true in
theorem mem_newsOf{h:Heap}{L:Addr}{p:Addr×Obj}:p∈newsOf h L↔L < p.1∧h.get? p.1=some p.2:=by
 unfold newsOf
 rw[List.mem_filterMap]
 constructor
 ·rintro⟨a,_,e⟩
  split at e
  ·rename_i hl
   rw[aE] at e
   refine eV e ?_;clear e;intro o e1 dY;subst dY
   exact⟨hl,e1⟩
  ·exfalso;injection e
 ·rintro⟨h1,h2⟩
  exact eW p.1 (a7.mpr (aX h2)) (by rw[ah h1,h2];rfl)
theorem zfi{h:Heap}{L:Addr}{m:Str→Option Value}(hn:h.Ns L m):Fr (qr h L) L h m∧News (qr h L) L h (newsOf h L):=by
 refine⟨⟨hn,fun b o e=>?_,?_⟩,fun p hp=>?_⟩
 ·rw[ud] at e;split at e
  ·exact e
  ·exfalso;injection e
 ·show (h.objs.extract 0 L).size≤L
  rw[Array.size_extract];lia
 ·refine fb (mem_newsOf.mp hp) ?_;intro h1 h2
  exact⟨h2,cK h1,by rw[ud,ai (cT.mpr (cw h1))]⟩
theorem zak{h:Heap}{L:Addr}{m m':Str→Option Value}(x:h.Ns L m)(y:h.Ns L m'):m=m':=by
 refine eX x ?_;clear x;intro o es ep h1 h2 _ h3
 refine eX y ?_;clear y;intro o' es' ep' h1' h2' _ h3'
 rw[h1] at h1';injection h1' with eQ;subst eQ
 rw[h2] at h2';injection h2' with eQ eR;subst eQ eR
 funext z
 rw[← h3,← h3']
theorem qa{s:Shared}{L:Addr}{m:Str→Option Value}{h':Heap}{news':List (Addr×Obj)}{tk:Nat}{dr:Drawn}(hn:s.heap.Ns L m)(f:Fr (qr s.heap L) L h' m)(n:News (qr s.heap L) L h' news')(hs:∀ p∈newsOf s.heap L,p∈news') :
 KeepsL L s { s with heap:=h',toks:=tk,drawn:=dr } where
 gens:=rfl
 os:=rfl
 kept:=fun b o hb e=>by
  refine eS (bm b L) ?_ ?_
  ·intro h;exact f.keep b o (by rw[ud,ah h];exact e)
  ·intro h;exact (n (b,o) (hs _ (mem_newsOf.mpr ⟨Nat.lt_of_le_of_ne h (Ne.symm hb),e⟩))).1
 ns:=fun m' hm=>by rw[zak hm hn];exact f.ns
theorem uq(items:Array Value)(k:Nat):(List.replicate k items).foldl (fun x1 x2=>x1++x2) #[]=(List.replicate k items.toList).flatten.toArray:=by
 have:∀ (acc:Array Value),(List.replicate k items).foldl (fun x1 x2=>x1++x2) acc=(acc.toList++(List.replicate k items.toList).flatten).toArray:=by
  induction k with
  | zero=>intro acc;simp
  | succ k ih=>intro acc;rw[List.replicate_succ,cU,ih];simp[List.replicate_succ]
 rw[this];simp
theorem pp(l:Addr)(items:Array Value)(n:Nat)(d:Option Addr)(sl:Array (Option Value))(x:Int)(u:Tok)(h0:items.isEmpty=false)(h2:2≤x)(hx:x≤256)(hz:items.size * x.toNat≤256) :
 Meets (Builtin.«tuple.__mul__» ⟨[.ref l,.int x u],[]⟩) (fun uA R s=>s.heap.get? l=some { cls:=.type "tuple",dict:=d,data:=.seq items n,slots:=sl }∧R (.ok (.ret (Value.ref s.heap.objs.size))) { s with heap:=s.heap.push { cls:=Value.type "tuple",data:=Data.seq (List.foldl (fun x1 x2=>x1++x2) #[] (List.replicate x.toNat items)) },toks:=s.toks }):=
 .of_wp fun prog w A R s h=>by
  obtain⟨hp,g,d,tk,os⟩:=s;refine fb h ?_;clear h;intro hl h
  have c1:¬ (decide (x < -(2 ^ 63)) || decide (x ≥ 2 ^ 63))=true:=by simp;lia
  have c2:¬ (items.isEmpty || x == 1)=true:=by simp[h0];lia
  have c3:¬ (decide (x≤0) || items.isEmpty)=true:=by simp[h0];lia
  have hz':(items.size:Int) * x≤256:=by
   have:(items.size:Int) * x=((items.size * x.toNat:Nat):Int):=by rw[Int.natCast_mul];congr 1;lia
   rw[this];lia
  generalize hy:(items.size:Int) * x=y at hz'
  have c4:¬ (y > (2 ^ 63 - 1) / 8):=by lia
  have c5:¬ Builtin.Tuple.tupleTooMany y=true:=by
   simp only[Builtin.Tuple.tupleTooMany,aO]
   show ¬ y > ((2 ^ 24:Nat):Int)
   lia
  subst hy
  have c6:¬ ((List.replicate x.toNat items).foldl (fun x1 x2=>x1++x2) #[]).size > sizeLine:=by
   rw[uq];simp[sizeLine];rw[Nat.mul_comm];lia
  wp_walk
  rw[ai c1]
  wp_walk
  rw[ai c2]
  wp_walk
  rw[ai c3]
  wp_walk
  rw[ai c4]
  wp_walk
  exact eW _ rfl h
theorem wu:fillsNumberSlot (.type "tuple") "mul" = pure false:=
 PySem.fillsNumberSlot_seq (id:="tuple.__mul__") (r:=some (.builtin "tuple.__rmul__")) F.slot_tuple_mul.lookup (by decide +kernel) F.slot_tuple_rmul.lookup (by decide +kernel)
theorem zbp:seqRepeat? (.type "tuple")=pure (some (.builtin "tuple.__mul__")):=by
 unfold seqRepeat?
 rw [PySem.seqSlot_of (T:="tuple") (name:="__mul__") (id:="tuple.__mul__") F.slot_tuple_mul.lookup (by decide +kernel),PySem.seqSlot_of (T:="tuple") (name:="__rmul__") (id:="tuple.__rmul__") F.slot_tuple_rmul.lookup (by decide +kernel)]
 rfl
theorem wn(a:Int)(t:Tok)(l:Addr)(items:Array Value)(n:Nat)(d:Option Addr)(sl:Array (Option Value)) :
 Meets (Builtin.«int.__rmul__» ⟨[.int a t,.ref l],[]⟩) (fun uA R s=>s.heap.get? l=some { cls:=.type "tuple",dict:=d,data:=.seq items n,slots:=sl }∧R (.ok (.ret Value.notImplemented)) s):=
 .of_wp fun prog w A R s h=>by obtain⟨hp,g,d,tk,os⟩:=s;refine fb h ?_;clear h;intro hl h;wp_walk;exact eW _ rfl h
theorem zg5{prog:Program}{w:World}{A:Around}{E:Value→Shared→Prop}{s:Shared}{l:Addr}{o:Obj}{items:Array Value}{k:Nat}{x:Int}{u:Tok}{Q:Value→Shared→Prop}(ho:s.heap.get? l=some o)(hc:o.cls=.type "tuple")(hd:o.data=.seq items k)
 (h0:items.isEmpty=false) (h2:2≤x) (hx:x≤256) (hz:items.size * x.toNat≤256)
 (h:Q (.ref s.heap.objs.size) { s with heap:=s.heap.push { cls:=Value.type "tuple",data:=Data.seq (List.replicate x.toNat items.toList).flatten.toArray } }):wpAny (model prog w) A (binaryOp .Mult (.ref l) (.int x u)) Q E s:=by
 obtain⟨cls,d,data,sl⟩:=o
 simp only at hc hd
 subst hc hd
 refine wpAny_binaryOp_repeat_ref (T:="tuple") (U:="int") (by decide) ⟨_,ho,rfl⟩ (fun s'=>typeIs_int s' x u) wu F.fills_int_mul F.slot_int_rmul zbp F.slot_int_index.lookup
  (call_meets F.slot_int_rmul (typeIs_int s x u) F.entry_int_rmul (F.args_int_rmul_2 _ _) (wn x u l items k d sl)
    ⟨ho,rfl,⟨_,ho,rfl⟩,call_meets F.slot_tuple_mul ⟨_,ho,rfl⟩ F.entry_tuple_mul (F.args_tuple_mul_2 _ _) (pp l items k d sl x u h0 h2 hx hz) ⟨ho,?_⟩⟩)
 rw[uq];exact h
theorem z5{h:Heap}{motive:List Value→List PyData→List Addr→Prop}(nil:motive [] [] [])(cons:∀ {v:Value} {d:PyData} {as:List Addr} {vs:List Value} {ds:List PyData} {bs:List Addr},Reads h v d as→ReadsAll h vs ds bs→motive vs ds bs→motive (v::vs) (d::ds) (as++bs))
 {vs:List Value} {xs:List PyData} {as:List Addr} (r:ReadsAll h vs xs as):motive vs xs as:=
 ReadsAll.rec (motive_1:=fun uA uA uA uA=>True) (motive_2:=fun vs xs as uA=>motive vs xs as)
  trivial (fun uA=>trivial) (fun uA uA=>trivial) (fun uA uA=>trivial) (fun uA uA uA uA uA=>trivial) (fun uA uA uA uA uA=>trivial) (fun uA uA uA uA uA uA uA=>trivial) nil (fun r rs uA ih=>cons r rs ih) r
theorem yx{h:Heap}{vs ws:List Value}{xs ys:List PyData}{as bs:List Addr}(r:ReadsAll h vs xs as)(r':ReadsAll h ws ys bs):ReadsAll h (vs++ws) (xs++ys) (as++bs):=
 z5 (motive:=fun vs xs as=>ReadsAll h (vs++ws) (xs++ys) (as++bs)) r' (fun r uA ih=>by rw[bf];exact .cons r ih) r
theorem v0{h:Heap}{vs:List Value}{xs:List PyData}{as:List Addr}{P:Addr→Prop}(r:ReadsAll h vs xs as)(q:∀ a∈as,P a)(k:Nat):∃ bs,ReadsAll h (List.replicate k vs).flatten (List.replicate k xs).flatten bs∧∀ a∈bs,P a:=by
 induction k with
 | zero=>exact eW [] .nil (fun uA h=>nomatch h)
 | succ k ih=>
   refine eV ih ?_;clear ih;intro bs r' q'
   refine eW (as++bs) ?_ (fun a ha=>(aj.mp ha).elim (q a) (q' a))
   simpa [List.replicate_succ] using yx r r'
theorem zd{h:Heap}{vs:List Value}{xs:List PyData}{as:List Addr}(r:ReadsAll h vs xs as):vs.length=xs.length:=
 z5 (motive:=fun vs xs uA=>vs.length=xs.length) rfl (fun uA uA ih=>cA (· + 1) ih) r
section
variable{G:Gl}{F:Fm}{A:Around}{s:Shared}{β:List Addr}{ρ:Loc}{O:za}
theorem KeepsAll.toL{L:Addr}{s s':Shared}(x:KeepsAll s s'):KeepsL L s s':=⟨x.gens,x.os,fun b o uA e=>x.kept b o e,fun m h=>h.keeps x.kept⟩
theorem y5{h:Heap}{N:List Addr}{D:Addr}{o:Obj}{vs:Array Value}{n:Nat}{xs:List PyData}{as:List Addr}(e1:h.get? D=some o)(e2:o.cls=.type "list")(e3:o.data=.seq vs n)(r:ReadsAll h vs.toList xs as)(q:∀ a∈as,a∉β∧a∉N)(hD:D∉β∧D∉N):VR G N β h (.ref D) (.d (.list xs)):=
 ⟨D::as,.list e1 e2 e3 r,fun a ha=>(af.mp ha).elim (fun e=>e ▸ hD) (q a)⟩
theorem ke{h:Heap}{N:List Addr}{D:Addr}{o:Obj}{vs:Array Value}{n:Nat}{xs:List PyData}{as:List Addr}(e1:h.get? D=some o)(e2:o.cls=.type "tuple")(e3:o.data=.seq vs n)(r:ReadsAll h vs.toList xs as)(q:∀ a∈as,a∉β∧a∉N):VR G N β h (.ref D) (.d (.tuple xs)):=
 ⟨as,.tuple e1 e2 e3 r,q⟩
noncomputable def NewL(s:Shared)(h:Heap)(v:Value):Prop:=∃ a,v=.ref a∧s.heap.get? a=none∧Plain h a
noncomputable abbrev FRel(G:Gl)(F:Fm)(s:Shared):List Addr→Heap→Value→V→Prop:=fun β h v d=>VR G F.B β h v d∧(∀ xs,d=.d (.list xs)→NewL s h v)
noncomputable def LeafD{α δ:Type}(G:Gl)(F:Fm)(s:Shared)(β:List Addr)(T:WT α)(d:δ)(Rel:List Addr→Heap→α→δ→Prop):Prop:=
 ∀ (Q:α→Shared→Prop) (E:Value→Shared→Prop),(∀ v s',KeepsL F.env.locals s s'→Rel β s'.heap v d→Q v s')→T Q E s
theorem LeafD.leaf{α δ:Type}{T:WT α}{d:δ}{Rel:List Addr→Heap→α→δ→Prop}(sr:SR G F β ρ O s.heap)
 (hw:∀ (Q:α→Shared→Prop) (E:Value→Shared→Prop),(∀ v s',KeepsAll s s'→Rel β s'.heap v d→Q v s')→T Q E s):LeafD G F s β T d Rel:=fun Q E k=>hw Q E fun v s' ka r=>k v s' ka.toL r
theorem LeafD.leafL{α δ:Type}{T:WT α}{d:δ}{Rel:List Addr→Heap→α→δ→Prop}(sr:SR G F β ρ O s.heap)
 (hw:∀ (Q:α→Shared→Prop) (E:Value→Shared→Prop),(∀ v s',KeepsL F.env.locals s s'→Rel β s'.heap v d→Q v s')→T Q E s):LeafD G F s β T d Rel:=hw
theorem LeafD.does{α δ:Type}{T:WT α}{d:δ}{Rel:List Addr→Heap→α→δ→Prop}(sr:SR G F β ρ O s.heap)(h:LeafD G F s β T d Rel):DoesW G F s β T (.ok d (ρ,O)) Rel:=Does.leafL sr h
theorem u5{a b:Int}(h:a.natAbs < 2 ^ 64∨b.natAbs < 2 ^ 64):IntMulOk a b:=by
 refine eS h ?_ ?_<;>clear h
 ·intro h;exact IntMulOk.of_left (intBits_le_64 (by lia) (by lia))
 ·intro h;exact IntMulOk.of_right (intBits_le_64 (by lia) (by lia))
theorem gf{f:Int→Option PyData}{y c:PyData}(h:intD f y=some c):∃ n,y=.int n∧f n=some c:=by
 cases y <;> first | (cases h;done) | skip
 exact eW _ rfl h
theorem yn{p:Prop}[Decidable p]{a c:PyData}(h:(if p then some a else none)=some c):p∧a=c:=by
 by_cases hp:p
 ·rw[ah hp] at h;exact⟨hp,aM h⟩
 ·rw[ai hp] at h;exfalso;injection h
theorem znf{x y c:PyData}(h:addD x y=some c):(∃ a b,x=.int a∧y=.int b∧c=.int (a+b))∨(∃ a b,x=.list a∧y=.list b∧a.length+b.length≤line∧c=.list (a++b)) ∨
 (∃ a b,x=.tuple a∧y=.tuple b∧a.length+b.length≤line∧c=.tuple (a++b))∨(∃ a b,x=.str a∧y=.str b∧a.length+b.length≤line∧c=.str (a++b)):=by
 cases x with
 | int a=>cases y <;> first | (cases h;done) | skip
          injection h with eQ;subst eQ;exact .inl ⟨_,_,rfl,rfl,rfl⟩
 | list a=>cases y <;> first | (cases h;done) | skip
           refine fb (yn h) ?_;intro h1 dX;subst dX;exact .inr (.inl ⟨_,_,rfl,rfl,h1,rfl⟩)
 | tuple a=>cases y <;> first | (cases h;done) | skip
            refine fb (yn h) ?_;intro h1 dX;subst dX;exact .inr (.inr (.inl ⟨_,_,rfl,rfl,h1,rfl⟩))
 | str a=>cases y <;> first | (cases h;done) | skip
          refine fb (yn h) ?_;intro h1 dX;subst dX;exact .inr (.inr (.inr ⟨_,_,rfl,rfl,h1,rfl⟩))
 | _=>exfalso;injection h
theorem VR.ints{v:Value}{x:V}{i:Int}(rv:VR G F.B β s.heap v x)(h:look O x=some (.int i)):∃ t,v=.int i t:=by
 have:=ye h (fun uA h=>by exfalso;injection h);subst this
 exact rv.int_inv
theorem zaq{T:WT Value}{i:Int}(sr:SR G F β ρ O s.heap)(h:∀ (Q:Value→Shared→Prop) (E:Value→Shared→Prop),(∀ t,Q (.int i t) { s with toks:=s.toks+1 })→T Q E s):LeafD G F s β T (V.d (.int i)) (FRel G F s):=
 LeafD.leaf sr fun Q E q=>h Q E fun t=>q _ _ (KeepsAll.toks _ _) ⟨VR.int,fun uA h=>by injection h with eQ;exfalso;injection eQ⟩
theorem zhf{v u:Value}{x y:V}{a b:Str}(sr:SR G F β ρ O s.heap)(rv:VR G F.B β s.heap v x)(ru:VR G F.B β s.heap u y)(h1:look O x=some (.str a))(h2:look O y=some (.str b))(hz:a.length+b.length≤line) :
 LeafD G F s β (tr G A (binaryOp .Add v u)) (V.d (.str (a++b))) (FRel G F s):=by
 have:=ye h1 (fun uA h=>by exfalso;injection h);subst this
 have:=ye h2 (fun uA h=>by exfalso;injection h);subst this
 obtain⟨t,rfl⟩:=rv.str_inv;obtain⟨t',rfl⟩:=ru.str_inv
 exact LeafD.leaf sr fun Q E q=>add_str (fun t' tk=>q _ _ (KeepsAll.toks _ _) ⟨VR.str,fun uA h=>by injection h with eQ;exfalso;injection eQ⟩) (aq hz (by decide))
theorem ze2{v u:Value}{x y:V}{a b:List PyData}(sr:SR G F β ρ O s.heap)(rv:VR G F.B β s.heap v x)(ru:VR G F.B β s.heap u y)(h1:look O x=some (.list a))(h2:look O y=some (.list b))(hz:a.length+b.length≤line) :
 LeafD G F s β (tr G A (binaryOp .Add v u)) (V.d (.list (a++b))) (FRel G F s):=by
 have new:s.heap.get? s.heap.objs.size=none:=bg (aI _)
 refine eV (ya sr rv h1) ?_;intro D1 dX dY;subst dX;obtain ⟨o1,vs1,n1,e1,e2,e3,as1,r1,q1⟩:=dY
 refine eV (ya sr ru h2) ?_;intro D2 dX dY;subst dX;obtain ⟨o2,vs2,n2,f1,f2,f3,as2,r2,q2⟩:=dY
 obtain⟨m,hm⟩:=sr.fm.ns
 refine fb (zfi hm) ?_;intro fr nw
 refine LeafD.leafL sr fun Q E q=>?_
 refine add_arrays fr nw ⟨o1,e1,e2,n1,e3⟩ ⟨o2,f1,f2,n2,f3⟩ (fun h' fr' nw'=>?_) (by have:=zd r1;have:=zd r2;simp at *;exact aq (by lia) (aq hz (by decide)))
 have kp:KeepsL F.env.locals s { s with heap:=h' }:=qa (tk:=s.toks) (dr:=s.drawn) hm fr' nw' fun p hp=>ag _ hp
 have st:=kp.step sr.fm
 refine fb (zu sr.br sr.fm st r1 q1) ?_;intro r1' q1'
 refine fb (zu sr.br sr.fm st r2 q2) ?_;intro r2' q2'
 refine q _ _ kp ⟨y5 (nw' _ (.head _)).1 rfl rfl (by simpa using yx r1' r2') (fun a ha=>(aj.mp ha).elim (q1 a) (q2 a)) sr.size_new,fun uA uA=>⟨_,rfl,new,_,(nw' _ (.head _)).1,rfl,rfl⟩⟩
theorem zhe{v u:Value}{x y:V}{a b:List PyData}(sr:SR G F β ρ O s.heap)(rv:VR G F.B β s.heap v x)(ru:VR G F.B β s.heap u y)(h1:look O x=some (.tuple a))(h2:look O y=some (.tuple b))(hz:a.length+b.length≤line) :
 LeafD G F s β (tr G A (binaryOp .Add v u)) (V.d (.tuple (a++b))) (FRel G F s):=by
 have:=ye h1 (fun uA h=>by exfalso;injection h);subst this
 have:=ye h2 (fun uA h=>by exfalso;injection h);subst this
 obtain⟨D1,o1,vs1,n1,rfl,e1,e2,e3,as1,r1,q1⟩:=rv.tuple_inv
 obtain⟨D2,o2,vs2,n2,rfl,f1,f2,f3,as2,r2,q2⟩:=ru.tuple_inv
 obtain⟨m,hm⟩:=sr.fm.ns
 refine fb (zfi hm) ?_;intro fr nw
 refine LeafD.leafL sr fun Q E q=>?_
 refine add_tuples (vs:=vs1.toList) (ws:=vs2.toList) fr nw ⟨o1,e1,e2,n1,by simpa using e3⟩ ⟨o2,f1,f2,n2,by simpa using f3⟩ (fun hv=>?_) (fun uA hv=>?_) (fun uA uA h' fr' nw'=>?_) (by have:=zd r1;have:=zd r2;simp at *;exact aq (by lia) (aq hz (by decide)))
 ·have hv':vs1.toList=[]:=hv
  rw[hv'] at r1;cases r1
  exact q _ _ (KeepsAll.refl s).toL ⟨ru,fun uA h=>by injection h with eQ;exfalso;injection eQ⟩
 ·have hv':vs2.toList=[]:=hv
  rw[hv'] at r2;cases r2
  rw[ba] at q
  exact q _ _ (KeepsAll.refl s).toL ⟨rv,fun uA h=>by injection h with eQ;exfalso;injection eQ⟩
 ·have kp:KeepsL F.env.locals s { s with heap:=h' }:=qa (tk:=s.toks) (dr:=s.drawn) hm fr' nw' fun p hp=>ag _ hp
  have st:=kp.step sr.fm
  refine fb (zu sr.br sr.fm st r1 q1) ?_;intro r1' q1'
  refine fb (zu sr.br sr.fm st r2 q2) ?_;intro r2' q2'
  exact q _ _ kp ⟨ke (nw' _ (.head _)).1 rfl rfl (by simpa using yx r1' r2') (fun a ha=>(aj.mp ha).elim (q1 a) (q2 a)),fun uA h=>by injection h with eQ;exfalso;injection eQ⟩
theorem zhd{v:Value}{x:V}{a:Str}{n:Int}{t':Tok}(sr:SR G F β ρ O s.heap)(rv:VR G F.B β s.heap v x)(h1:look O x=some (.str a))(hz:a.length≤256∧0≤n∧n≤256) :
 LeafD G F s β (tr G A (binaryOp .Mult v (.int n t'))) (V.d (.str (Txt.mul a n))) (FRel G F s):=by
 have:=ye h1 (fun uA h=>by exfalso;injection h);subst this
 obtain⟨t,rfl⟩:=rv.str_inv
 exact LeafD.leaf sr fun Q E q=>SB.mul (mulOk_of 256 256 hz.1 (by lia) (by lia) (by decide) (by decide)) (fun t' k=>q _ _ (KeepsAll.toks _ _) ⟨VR.str,fun uA h=>by injection h with eQ;exfalso;injection eQ⟩)
theorem zez{v:Value}{x:V}{a:List PyData}{n:Int}{t':Tok}(sr:SR G F β ρ O s.heap)(rv:VR G F.B β s.heap v x)(h1:look O x=some (.list a))(hz:a.length * n.toNat≤256∧0≤n∧n≤256) :
 LeafD G F s β (tr G A (binaryOp .Mult v (.int n t'))) (V.d (.list (repL a n))) (FRel G F s):=by
 refine eV (ya sr rv h1) ?_;intro D1 dX dY;subst dX;obtain ⟨o1,vs1,n1,e1,e2,e3,as1,r1,q1⟩:=dY
 obtain⟨m,hm⟩:=sr.fm.ns
 refine fb (zfi hm) ?_;intro fr nw
 refine LeafD.leafL sr fun Q E q=>?_
 have hl:=zd r1
 refine PySem.W.KMa.mul (vs:=vs1.toList) fr nw ⟨o1,e1,e2,n1,by simpa using e3⟩ (by lia) (by lia) (by rw[hl];exact hz.1) rfl fun D h' fr' nw' hlt=>?_
 have kp:KeepsL F.env.locals s { s with heap:=h' }:=qa (tk:=s.toks) (dr:=s.drawn) hm fr' nw' fun p hp=>ag _ hp
 have st:=kp.step sr.fm
 refine fb (zu sr.br sr.fm st r1 q1) ?_;intro r1' q1'
 refine eV (v0 r1' q1' n.toNat) ?_;intro bs r2 q2
 have hD:=nw' _ (.head _)
 have nD:s.heap.get? D=none:=by
  cases e:s.heap.get? D with
  | none=>rfl
  | some o=>
    exfalso
    refine eS (bm F.env.locals D) ?_ ?_
    ·intro h;exact cS _ (hlt (D,o) (mem_newsOf.mpr ⟨h,e⟩))
    ·intro h;have h':D < F.env.locals:=Nat.lt_of_le_of_ne h hD.2.1
     have:=hD.2.2
     rw[ud,ah h'] at this
     rw[e] at this;exfalso;injection this
 refine q _ _ kp ⟨y5 hD.1 rfl rfl (by simpa [repL] using r2) q2 ⟨fun hb=>?_,fun hb=>?_⟩,fun uA uA=>⟨D,rfl,nD,_,hD.1,rfl,rfl⟩⟩
 ·refine eV (sr.br.alive D hb) ?_;intro o e _;rw[e] at nD;exfalso;injection nD
 ·refine eV (sr.fm.stor D hb) ?_;intro o e _;rw[e] at nD;exfalso;injection nD
theorem zhc{v:Value}{x:V}{a:List PyData}{n:Int}{t':Tok}(sr:SR G F β ρ O s.heap)(rv:VR G F.B β s.heap v x)(h1:look O x=some (.tuple a))(hz:a≠[]∧a.length * n.toNat≤256∧2≤n∧n≤256) :
 LeafD G F s β (tr G A (binaryOp .Mult v (.int n t'))) (V.d (.tuple (repL a n))) (FRel G F s):=by
 have:=ye h1 (fun uA h=>by exfalso;injection h);subst this
 obtain⟨D1,o1,vs1,n1,rfl,e1,e2,e3,as1,r1,q1⟩:=rv.tuple_inv
 have hl:=zd r1
 refine LeafD.leaf sr fun Q E q=>?_
 refine zg5 e1 e2 e3 (by cases hv:vs1.isEmpty with
  | false=>rfl
  | true=>rw[Array.isEmpty_iff] at hv;subst hv;simp at hl;exact absurd (co hl.symm) hz.1) hz.2.2.1 hz.2.2.2 (by rw[← av,hl];exact hz.2.1) ?_
 have kp:=KeepsAll.push s { cls:=Value.type "tuple",data:=Data.seq (List.replicate n.toNat vs1.toList).flatten.toArray } s.toks
 refine eV (v0 (zv kp.kept r1) q1 n.toNat) ?_;intro bs r2 q2
 exact q _ _ kp ⟨ke (ay _ rfl) rfl rfl (by simpa [repL] using r2) q2,fun uA h=>by injection h with eQ;exfalso;injection eQ⟩
theorem zmc{op:Bop}{o:Operator}{i j:Int}{t t':Tok}{c:PyData}(ho:zdu op o=true)(sr:SR G F β ρ O s.heap)(h:arith op i j=some c) :
 LeafD G F s β (tr G A (binaryOp o (.int i t) (.int j t'))) (V.d c) (FRel G F s):=by
 cases op with
 | sub=>
   cases o <;> first | exact (ak ho).elim | skip
   injection h with eQ;subst eQ
   exact zaq sr fun Q E q=>sub_int (q _)
 | fdiv=>
   cases o <;> first | exact (ak ho).elim | skip
   refine fb (yn h) ?_;intro hz dX;subst dX
   exact zaq sr fun Q E q=>floordiv_int hz.1 (q _) (.inl (PyProof.noPylong_small hz.2))
 | mod=>
   cases o <;> first | exact (ak ho).elim | skip
   by_cases hz:j=0
   ·unfold arith at h;dsimp only at h;rw[ah hz] at h;exfalso;injection h
   ·unfold arith at h;dsimp only at h;rw[ai hz] at h;injection h with eQ;subst eQ
    exact zaq sr fun Q E q=>mod_int' hz (q _)
 | pow=>
   cases o <;> first | exact (ak ho).elim | skip
   refine fb (yn h) ?_;intro dW dX;refine fb dW ?_;clear dW;intro dW dX;subst dW;subst dX;subst dX
   refine zaq sr fun Q E q=>pow_int (by decide) (by decide +kernel) ?_
   have e:(10:Int) ^ (20:Int).toNat=100000000000000000000:=by decide
   rw[e]
   exact q _
 | _=>exfalso;injection h
theorem zmb{op:Bop}{o:Operator}{v u:Value}{x y:V}{c:PyData}(ho:zdu op o=true)(sr:SR G F β ρ O s.heap)(rv:VR G F.B β s.heap v x)(ru:VR G F.B β s.heap u y)
 (hc:((look O x).bind fun x=>(look O y).bind fun y=>za9 op x y)=some c):LeafD G F s β (tr G A (binaryOp o v u)) (V.d c) (FRel G F s):=by
 refine eV (aV.mp hc) ?_;intro a h1 hc
 refine eV (aV.mp hc) ?_;intro b h2 h3
 have rest:∀ op,za9 op a b=intD (fun i=>intD (arith op i) b) a→zdu op o=true→za9 op a b=some c→LeafD G F s β (tr G A (binaryOp o v u)) (V.d c) (FRel G F s):=fun op e ho h3=>by
  rw[e] at h3
  refine eV (gf h3) ?_;intro i dX h3;subst dX
  have h3:intD (arith op i) b=some c:=h3
  refine eV (gf h3) ?_;intro j dX h3;subst dX
  refine eZ (rv.ints h1) ?_;intro t dX;subst dX
  refine eZ (ru.ints h2) ?_;intro t' dX;subst dX
  exact zmc ho sr h3
 cases op with
 | add=>
   cases o <;> first | exact (ak ho).elim | skip
   rcases znf h3 with ⟨i,j,rfl,rfl,rfl⟩ | ⟨i,j,rfl,rfl,hz,rfl⟩ | ⟨i,j,rfl,rfl,hz,rfl⟩ | ⟨i,j,rfl,rfl,hz,rfl⟩
   ·refine eZ (rv.ints h1) ?_;intro t dX;subst dX
    refine eZ (ru.ints h2) ?_;intro t' dX;subst dX
    exact zaq sr fun Q E q=>wpAny_add_int (q _)
   ·exact ze2 sr rv ru h1 h2 hz
   ·exact zhe sr rv ru h1 h2 hz
   ·exact zhf sr rv ru h1 h2 hz
 | mul=>
   cases o <;> first | exact (ak ho).elim | skip
   refine eV (gf h3) ?_;intro n dX h3;subst dX
   refine eZ (ru.ints h2) ?_;intro t' dX;subst dX
   cases a with
   | int i=>
     refine fb (yn h3) ?_;intro hz dX;subst dX
     refine eZ (rv.ints h1) ?_;intro t dX;subst dX
     exact zaq sr fun Q E q=>mul_int (q _) (u5 hz)
   | str a=>refine fb (yn h3) ?_;intro hz dX;subst dX;exact zhd sr rv h1 hz
   | list a=>refine fb (yn h3) ?_;intro hz dX;subst dX;exact zez sr rv h1 hz
   | tuple a=>refine fb (yn h3) ?_;intro hz dX;subst dX;exact zhc sr rv h1 hz
   | _=>exfalso;injection h3
 | sub=>exact rest .sub rfl ho h3
 | fdiv=>exact rest .fdiv rfl ho h3
 | mod=>exact rest .mod rfl ho h3
 | pow=>exact rest .pow rfl ho h3
end
section
variable{G:Gl}{F:Fm}{A:Around}{s:Shared}{β:List Addr}{ρ:Loc}{O:za}
theorem zqi{op:Cop}{o:CmpOp}{v u:Value}{x y:V}{k:Nat}(ro:Room A k)(ho:xy op o=true)(sr:SR G F β ρ O s.heap)(rv:VR G F.B β s.heap v x)(ru:VR G F.B β s.heap u y) :
 Does G F A s β (compareOp o v u) ((cmpG op x y O).lift ρ) (VRel G F):=by
 unfold cmpG
 cases h1:look O x with
 | none=>trivial
 | some a=>
   cases h2:look O y with
   | none=>trivial
   | some b=>
     show DoesW G F s β _ ((opt ((kb op a b).map fun b=>V.d (.bool b)) O).lift ρ) _
     cases h3:kb op a b with
     | none=>trivial
     | some c=>
       refine eZ (vg sr rv h1) ?_;intro as r1
       refine eZ (vg sr ru h2) ?_;intro bs r2
       exact Does.leaf sr fun Q E q=>zkw ro ho r1 r2 h3 (q _ _ (KeepsAll.refl s) VR.bool)
set_option tactic.hygienic true in
theorem zn2{o:CmpOp}{v u:Value}{x y:V}{f:Bool→Bool}(ho:compareOp o v u=(do return Value.bool (f (← isSame v u))))(sr:SR G F β ρ O s.heap)(rv:VR G F.B β s.heap v x)(ru:VR G F.B β s.heap u y) :
 Does G F A s β (compareOp o v u) ((isV f x y O).lift ρ) (VRel G F):=by
 cases x <;> first | trivial | skip
 cases y <;> first | trivial | skip
 rename_i a b
 show DoesW G F s β _ ((opt ((isop a b).map fun c=>V.d (.bool (f c))) O).lift ρ) _
 cases h:isop a b with
 | none=>trivial
 | some c=>
   refine Does.leaf sr fun Q E q=>?_
   rw[ho,zmh sr rv ru h]
   exact aa (ab (ab (q _ _ (KeepsAll.refl s) VR.bool)))
theorem w2{op:Cop}{o:CmpOp}{v u:Value}{x y:V}{k:Nat}(ro:Room A k)(ho:xy op o=true)(sr:SR G F β ρ O s.heap)(rv:VR G F.B β s.heap v x)(ru:VR G F.B β s.heap u y) :
 Does G F A s β (compareOp o v u) ((cmpV op x y O).lift ρ) (VRel G F):=by
 have dflt:=zqi ro ho sr rv ru
 cases op with
 | is=>cases o <;> first | exact (ak ho).elim | exact zn2 rfl sr rv ru
 | isnot=>cases o <;> first | exact (ak ho).elim | exact zn2 rfl sr rv ru
 | _=>exact dflt
theorem vq{v:Value}{d:V}{b:Bool}(r:VR G F.B β s.heap v d)(e:truth d=some b):v=.bool b:=by
 cases d with
 | d x=>cases x with
   | bool c=>injection e with eQ;subst eQ;exact r.bool_inv
   | _=>exfalso;injection e
 | _=>exfalso;injection e
noncomputable abbrev BRel:List Addr→Heap→Bool→Bool→Prop:=fun uA uA a b=>a=b
theorem ja{v:Value}{d:V}(sr:SR G F β ρ O s.heap)(r:VR G F.B β s.heap v d):Does G F A s β (truthy v) ((opt (truth d) O).lift ρ) BRel:=by
 cases h:truth d with
 | none=>trivial
 | some b=>
   have:=vq r h;subst this
   exact Does.leaf sr fun Q E q=>bJ (q _ _ (KeepsAll.refl s) rfl)
theorem d_ok{T:WT Value}{v:Value}{d:V}(sr:SR G F β ρ O s.heap)(r:VR G F.B β s.heap v d)(h:∀ Q E,Q v s→T Q E s):DoesW G F s β T ((R.ok d O).lift ρ) (VRel G F):=
 Does.leaf sr fun Q E q=>h Q E (q _ _ (KeepsAll.refl s) r)
theorem zsq{x:Expr}{p:Pos}{r:R za V}(h1:Does G F A s β (eval x F.env) (r.lift ρ) (VRel G F)) :
 Does G F A s β (eval (.UnaryOp .USub x p) F.env) ((r.bind fun v O=>(match v with
  | .d (.int i)=>R.ok (V.d (.int (-i))) O
  | _=>.stuck)).lift ρ) (VRel G F):=by
 refine DoesW.seqE (T₂:=fun v=>tr G A (unaryOp .USub v)) (fun Q E h=>wpAny_UnaryOp h) h1 fun s' β' v d O' e st sr rv=>?_
 cases d with
 | d x=>cases x with
   | int i=>obtain⟨t,rfl⟩:=rv.int_inv;exact Does.leaf sr fun Q E q=>PySem.P.neg_int (q _ _ (KeepsAll.toks _ _) VR.int)
   | _=>trivial
 | _=>trivial
theorem d_nt{x:Expr}{p:Pos}{r:R za V}(h1:Does G F A s β (eval x F.env) (r.lift ρ) (VRel G F)) :
 Does G F A s β (eval (.UnaryOp .Not x p) F.env) ((r.bind fun v O=>opt ((truth v).map fun b=>V.d (.bool !b)) O).lift ρ) (VRel G F):=by
 refine DoesW.seqE (T₂:=fun v=>tr G A (unaryOp .Not v)) (fun Q E h=>wpAny_UnaryOp h) h1 fun s' β' v d O' e st sr rv=>?_
 cases h:truth d with
 | none=>trivial
 | some b=>
   have:=vq rv h;subst this
   exact Does.leaf sr fun Q E q=>not_value (bJ (q _ _ (KeepsAll.refl _) VR.bool))
end
theorem zo{h:Heap}{P:Addr→Prop}{vs:List Value}{xs:List PyData}{as:List Addr}(r:ReadsAll h vs xs as):(∀ a∈as,P a)→∀ {i:Nat} {x:PyData},xs[i]?=some x→∃ v bs,vs[i]?=some v∧Reads h v x bs∧∀ a∈bs,P a:=by
 refine z5 (motive:=fun vs xs as=>(∀ a∈as,P a)→∀ {i:Nat} {x:PyData},xs[i]?=some x→∃ v bs,vs[i]?=some v∧Reads h v x bs∧∀ a∈bs,P a) ?_ ?_ r
 ·intro _ i x e;rw[List.getElem?_nil] at e;exfalso;injection e
 ·intro v d as vs ds bs r _ ih q i x e
  cases i with
  | zero=>have e:some d=some x:=e
          injection e with eQ;subst eQ;exact fg v as rfl r (fun a ha=>q a (az _ ha))
  | succ i=>exact ih (fun a ha=>q a (au _ ha)) (i:=i) e
theorem dj{h:Heap}{P:Addr→Prop}{vs:List Value}{xs:List PyData}{as:List Addr}(r:ReadsAll h vs xs as):(∀ a∈as,P a)→∀ (k:Nat),∃ bs,ReadsAll h (vs.drop k) (xs.drop k) bs∧∀ a∈bs,P a:=by
 refine z5 (motive:=fun vs xs as=>(∀ a∈as,P a)→∀ (k:Nat),∃ bs,ReadsAll h (vs.drop k) (xs.drop k) bs∧∀ a∈bs,P a) ?_ ?_ r
 ·intro _ k;exact eW [] (by rw[List.drop_nil,List.drop_nil];exact .nil) (fun uA h=>nomatch h)
 ·intro v d as vs ds bs r rs ih q k
  cases k with
  | zero=>exact eW _ (.cons r rs) q
  | succ k=>exact ih (fun a ha=>q a (au _ ha)) k
theorem dg{h:Heap}{P:Addr→Prop}{vs:List Value}{xs:List PyData}{as:List Addr}(r:ReadsAll h vs xs as):(∀ a∈as,P a)→∀ (k:Nat),∃ bs,ReadsAll h (vs.take k) (xs.take k) bs∧∀ a∈bs,P a:=by
 refine z5 (motive:=fun vs xs as=>(∀ a∈as,P a)→∀ (k:Nat),∃ bs,ReadsAll h (vs.take k) (xs.take k) bs∧∀ a∈bs,P a) ?_ ?_ r
 ·intro _ k;exact eW [] (by rw[List.take_nil,List.take_nil];exact .nil) (fun uA h=>nomatch h)
 ·intro v d as vs ds bs r rs ih q k
  cases k with
  | zero=>exact eW [] .nil (fun uA h=>nomatch h)
  | succ k=>
    refine eV (ih (fun a ha=>q a (au _ ha)) k) ?_;intro b r' q'
    exact eW (as++b) (.cons r r') (fun a ha=>(aj.mp ha).elim (fun h=>q a (az _ h)) (q' a))
section
variable{G:Gl}{F:Fm}{A:Around}{s:Shared}{β:List Addr}{ρ:Loc}{O:za}
set_option tactic.hygienic true in
theorem zf9{xs:List PyData}{k:Int}{z:PyData}{x:PyData}(hx:items x=some xs)(e:idxD x (.int k)=some z):xs.length≤line∧((0≤k∧xs[k.toNat]?=some z)∨(k < 0∧0≤k+xs.length∧xs[(k+xs.length).toNat]?=some z)):=by
 unfold idxD at e
 rw[hx] at e
 dsimp only at e
 split at e
 ·rename_i h1
  refine⟨h1,?_⟩
  split at e
  ·rename_i h2;exact .inl ⟨h2,e⟩
  ·rename_i h2
   split at e
   ·rename_i h3;exact .inr ⟨by lia,h3,e⟩
   ·exfalso;injection e
 ·exfalso;injection e
theorem qj{α:Type}{xs:List α}{i:Nat}{z:α}(e:xs[i]?=some z):i < xs.length:=by
 refine eS (bm i xs.length) ?_ ?_
 ·intro h;exact h
 ·intro h;rw[a6 h] at e;exfalso;injection e
theorem zhb{value slice:Expr}{a:Addr}{xs:List PyData}{k:Int}{t:Tok}{z:PyData}{Q:Value→Shared→Prop}{E:Value→Shared→Prop}(l:ListAt s.heap F.B β a xs)(e:idxD (.list xs) (.int k)=some z)
 (hs:subscripted slice false (.ref a) (.int k t)=operate [.ref a,.int k t] (getItem (.ref a) (.int k t)))
 (q:∀ v,VR G F.B β s.heap v (.d z)→Q v s):wpAny (model G.prog G.w) A (subscriptTail value slice (.ref a) (.int k t)) Q E s:=by
 obtain⟨o,vs,n,e1,e2,e3,as,r,q1⟩:=l
 have hl:=zd r
 have hsz:vs.size=xs.length:=by rw[← hl,av]
 obtain⟨h0,h | h⟩:=zf9 (xs:=xs) rfl e
 ·refine fh (zo r q1 h.2) ?_;intro v bs g1 g2 g3
  have:=qj h.2
  refine tail_any (T:="list") ⟨o,e1,e2⟩ slot_list_getitem.lookup (wpAny_getItem_list ⟨o,e1,e2,n,e3⟩ h.1 (by simp only [line] at h0;lia) (by simpa using g1) (q v ⟨bs,g2,g3⟩)) hs
 ·refine fh (zo r q1 h.2.2) ?_;intro v bs g1 g2 g3
  refine tail_any (T:="list") ⟨o,e1,e2⟩ slot_list_getitem.lookup (wpAny_getItem_list_neg ⟨o,e1,e2,n,e3⟩ h.1 (by rw [hsz];lia) (by simp only [line] at h0;lia) (by rw [hsz];simpa using g1) (q v ⟨bs,g2,g3⟩)) hs
theorem zd6{value slice:Expr}{v:Value}{xs:List PyData}{k:Int}{t:Tok}{z:PyData}{Q:Value→Shared→Prop}{E:Value→Shared→Prop}(rv:VR G F.B β s.heap v (.d (.tuple xs)))(e:idxD (.tuple xs) (.int k)=some z)
 (hs:subscripted slice false v (.int k t)=operate [v,.int k t] (getItem v (.int k t)))
 (q:∀ v,VR G F.B β s.heap v (.d z)→Q v s):wpAny (model G.prog G.w) A (subscriptTail value slice v (.int k t)) Q E s:=by
 obtain⟨a,o,vs,n,rfl,e1,e2,e3,as,r,q1⟩:=rv.tuple_inv
 have hl:=zd r
 have hsz:vs.size=xs.length:=by rw[← hl,av]
 have ht:IsTup s.heap a vs:=⟨o,e1,e2,n,e3⟩
 obtain⟨h0,h | h⟩:=zf9 (xs:=xs) rfl e
 ·refine fh (zo r q1 h.2) ?_;intro v bs g1 g2 g3
  have:=qj h.2
  exact tail_any (T:="tuple") ht.typeIs slot_tuple_getitem.lookup (getItem_tuple ht (by lia) (by simp only [line] at h0;lia) (j:=k.toNat) (by unfold seqIndex?;rw [hsz];simp;lia) (by simpa using g1) (q v ⟨bs,g2,g3⟩)) hs
 ·refine fh (zo r q1 h.2.2) ?_;intro v bs g1 g2 g3
  have:=qj h.2.2
  exact tail_any (T:="tuple") ht.typeIs slot_tuple_getitem.lookup (getItem_tuple ht (by simp only [line] at h0;lia) (by lia) (j:=(k+xs.length).toNat) (by unfold seqIndex?;rw [hsz];simp;lia) (by simpa using g1) (q v ⟨bs,g2,g3⟩)) hs
end
section
variable{prog:Program}{w:World}{A:Around}{E:Value→Shared→Prop}{s:Shared}
theorem jp{α β:Type}{f g:α→Option β}:∀ {l:List α},(∀ x∈l,f x=g x)→l.filterMap f=l.filterMap g
 | [],_=>rfl
 | x::r,h=>by
   rw[dP,dP,h x (.head _),jp fun y hy=>h y (.tail _ hy)]
end
theorem xi{e:Expr}(h:∀ l u t p,e≠.Slice l u t p)(o i:Value):subscripted e false o i=operate [o,i] (getItem o i):=by
 cases e <;> first | rfl | exact absurd rfl (h _ _ _ _)
section
variable{G:Gl}{F:Fm}{A:Around}{s:Shared}{β:List Addr}{ρ:Loc}{O:za}
theorem zml{a k z:PyData}(h:idxD a k=some z):(∃ i,k=.int i)∧((∃ xs,a=.list xs)∨∃ xs,a=.tuple xs):=by
 cases a <;> first | (cases h;done) | skip
 ·cases k <;> first | (cases h;done) | exact⟨⟨_,rfl⟩,.inl ⟨_,rfl⟩⟩
 ·cases k <;> first | (cases h;done) | exact⟨⟨_,rfl⟩,.inr ⟨_,rfl⟩⟩
set_option tactic.hygienic true in
theorem zqc{value slice:Expr}{v u:Value}{x y:V}{k:Nat}(ro:Room A k)(hs:∀ l u t p,slice≠.Slice l u t p)(sr:SR G F β ρ O s.heap)(rv:VR G F.B β s.heap v x)(ru:VR G F.B β s.heap u y) :
 Does G F A s β (subscriptTail value slice v u) ((idxV x y O).lift ρ) (VRel G F):=by
 cases y <;> first | trivial | skip
 rename_i k'
 unfold idxV
 cases h1:look O x with
 | none=>trivial
 | some a=>
   show DoesW G F s β _ ((opt ((idxD a k').map V.d) O).lift ρ) _
   cases h3:idxD a k' with
   | none=>trivial
   | some z=>
     refine fb (zml h3) ?_;intro dW hx;refine eZ dW ?_;clear dW;intro i dX;subst dX
     obtain⟨t,rfl⟩:=ru.int_inv
     refine eS hx ?_ ?_<;>clear hx
     ·rintro ⟨xs,rfl⟩;refine eV (ya sr rv h1) ?_;intro b dX l;subst dX
      exact Does.leaf sr fun Q E q=>zhb l h3 (xi hs _ _) fun v rv=>q _ _ (KeepsAll.refl s) rv
     ·rintro ⟨xs,rfl⟩;rw[ye h1 fun uA e=>nomatch e] at rv
      exact Does.leaf sr fun Q E q=>zd6 rv h3 (xi hs _ _) fun v rv=>q _ _ (KeepsAll.refl s) rv
theorem zsv{x y:Expr}{p:Pos}{ra:R za V}{rb:za→R za V}{k:Nat}(ro:Room A k)(hs:∀ l u t p,y≠.Slice l u t p)
 (h1:Does G F A s β (eval x F.env) (ra.lift ρ) (VRel G F)) (h2:∀ s' β' O',SR G F β' ρ O' s'.heap→Does G F A s' β' (eval y F.env) ((rb O').lift ρ) (VRel G F)) :
 Does G F A s β (eval (.Subscript x y p) F.env) ((ra.bind fun v O=>(rb O).bind fun u O=>idxV v u O).lift ρ) (VRel G F):=by
 refine DoesW.seqE (T₂:=fun a Q E s₁=>wpAny (model G.prog G.w) A (eval y F.env) (fun b s₂=>wpAny (model G.prog G.w) A (subscriptTail x y a b) Q E s₂) E s₁) (fun Q E h=>Subscript_ h) h1 fun s' β' v d O' e st sr rv=>?_
 refine DoesW.seqE (T₁:=tr G A (eval y F.env)) (T₂:=fun b=>tr G A (subscriptTail x y v b)) (fun Q E h=>h) (h2 s' β' O' sr) fun s₂ β₂ u d₂ O₂ e₂ st₂ sr₂ ru=>?_
 exact zqc ro hs sr₂ (rv.step sr.br sr.fm st₂) ru
theorem part_of{N:List Addr}{h:Heap}{v:Value}{l:PyData}{n dflt c:Nat}(r:VR G N β h v (.d l))(e:clip n dflt l=some c):∃ k,IsPart v k∧c=k.elim dflt (clipAt n):=by
 cases l with
 | none=>have:=r.none_inv;subst this;injection e with eQ;subst eQ;exact eW none .none rfl
 | int i=>obtain⟨t,rfl⟩:=r.int_inv;injection e with eQ;subst eQ;exact eW (some i) (.int i t) rfl
 | _=>exfalso;injection e
theorem zgw{value:Expr}{lo hi st:Option Expr}{ps:Pos}{vl vu vk:Value}{D:Addr}{o:Obj}{vs:Array Value}{n:Nat}{klo khi kst:Option Int}{ys:List PyData}{bs:List Addr}{ops:List Value}(sr:SR G F β ρ O s.heap)
 (e1:s.heap.get? D=some o) (e2:o.cls=.type "list") (e3:o.data=.seq vs n) (hops:subscripted (.Slice lo hi st ps) false (.ref D) (.ref s.heap.objs.size)=operate ops (getItem (.ref D) (.ref s.heap.objs.size)))
 (hl:vs.size≤sizeLine) (pl:IsPart vl klo) (pu:IsPart vu khi) (pk:IsPart vk kst) (h0:kst≠some 0) (r2:ReadsAll s.heap (slicePick vs klo khi kst).toList ys bs) (q2:∀ a∈bs,a∉β∧a∉F.B) :
 DoesW G F s β (fun Q E s=>wpAny (model G.prog G.w) A (subscriptTail value (.Slice lo hi st ps) (.ref D) (.ref s.heap.objs.size)) Q E { s with heap:=s.heap.push { cls:=.type "slice",data:=.fields #[vl,vu,vk] } }) (.ok (V.d (.list ys)) (ρ,O)) (VRel G F):=by
 refine Does.leaf sr fun Q E q=>?_
 refine tail_any (T:="list") ⟨o,ac _ e1,e2⟩ slot_list_getitem.lookup ?_ hops
 refine wpAny_getItem_list_slice (lo:=klo) (hi:=khi) (st:=kst) ⟨o,ac _ e1,e2,n,e3⟩ (Heap.IsSliceOf.new ..) pl pu pk h0 ?_ hl
 generalize ho1:({ cls:=.type "slice",data:=.fields #[vl,vu,vk] }:Obj)=o1
 have kp2:KeepsAll s { s with heap:=(s.heap.push o1).push { cls:=.type "list",data:=.seq (slicePick vs klo khi kst) } }:=⟨rfl,rfl,fun b o e=>ac _ (ac _ e)⟩
 have nD:s.heap.get? (s.heap.push o1).objs.size=none:=by
  cases e:s.heap.get? (s.heap.push o1).objs.size with
  | none=>rfl
  | some o=>exact absurd (aX e) (by rw[bo];exact cT.mpr (cJ _))
 refine q _ _ kp2 (y5 (ay _ rfl) rfl rfl (zv kp2.kept r2) q2 ⟨fun hb=>?_,fun hb=>?_⟩)
 ·refine eV (sr.br.alive _ hb) ?_;intro o e _;rw[e] at nD;exfalso;injection nD
 ·refine eV (sr.fm.stor _ hb) ?_;intro o e _;rw[e] at nD;exfalso;injection nD
theorem ve{f:List PyData→Option PyData}{x y:PyData}(h:ofList f x=some y):∃ xs,x=.list xs∧f xs=some y:=by
 cases x <;> first | (cases h;done) | exact eW _ rfl h
inductive zng(xs:List PyData)(l h y:PyData):Prop
 | mk (a b:Nat) (hl:xs.length≤line) (h1:clip xs.length 0 l=some a) (h2:clip xs.length xs.length h=some b) (e:y=.list (um xs a b))
theorem zcm{xs:List PyData}{l h y:PyData}(e:qe xs l h=some y):zng xs l h y:=by
 unfold qe at e
 by_cases hl:xs.length≤line
 ·rw[ah hl] at e
  refine eV (aV.mp e) ?_;intro a h1 e
  refine eV (aE.mp e) ?_;intro b h2 e
  exact⟨a,b,hl,h1,h2,e.symm⟩
 ·rw[ai hl] at e;exfalso;injection e
theorem zko{value:Expr}{lo hi:Option Expr}{ps:Pos}{v vl vu:Value}{x:V}{l h:PyData}(sr:SR G F β ρ O s.heap)(rv:VR G F.B β s.heap v x)(rl:VR G F.B β s.heap vl (.d l))(rh:VR G F.B β s.heap vu (.d h)) :
 DoesW G F s β (fun Q E s=>wpAny (model G.prog G.w) A (subscriptTail value (.Slice lo hi none ps) v (.ref s.heap.objs.size)) Q E { s with heap:=s.heap.push { cls:=.type "slice",data:=.fields #[vl,vu,.none] } })
  ((opt (((look O x).bind fun x=>zef x l h).map V.d) O).lift ρ) (VRel G F):=by
 cases h3:(look O x).bind fun x=>zef x l h with
 | none=>trivial
 | some c=>
   refine eV (aV.mp h3) ?_;intro a h1 h3
   refine eV (ve (f:=fun xs=>qe xs l h) h3) ?_;intro xs dX h4;subst dX
   obtain⟨a,b,hl,hc1,hc2,rfl⟩:=zcm h4
   refine eV (ya sr rv h1) ?_;intro D dX dY;subst dX;obtain ⟨o,vs,n,e1,e2,e3,as,r1,q1⟩:=dY
   have hsz:vs.size=xs.length:=by rw[← zd r1,av]
   refine eV (part_of rl hc1) ?_;intro klo pl dY;subst dY
   refine eV (part_of rh hc2) ?_;intro khi pu dY;subst dY
   refine eV (dj r1 q1 (klo.elim 0 (clipAt xs.length))) ?_;intro b1 s1 t1
   refine eV (dg s1 t1 (khi.elim xs.length (clipAt xs.length) - klo.elim 0 (clipAt xs.length))) ?_;intro b2 s2 t2
   exact zgw sr e1 e2 e3 rfl (by rw[hsz];exact aq hl (by decide)) pl pu .none (by decide) (by rw[slicePick_plain,hsz];exact s2) t2
end
theorem zew{names:List Str}:∀ {vals:List Value},vals.length=names.length→∀ n∈names,((names.zip vals).lookup n).isSome=true:=by
 induction names with
 | nil=>intro _ _ n hn;cases hn
 | cons x names ih=>
   intro vals hl n hn
   cases vals with
   | nil=>simp at hl
   | cons v vals=>
     rw[List.zip_cons_cons,bD]
     cases h:n == x with
     | true=>rfl
     | false=>
       refine eS (af.mp hn) ?_ ?_
       ·rintro rfl;rw[cq] at h;exfalso;injection h
       ·intro hn;exact ih (by simpa using hl) n hn
theorem dn{names:List Str}:∀ {vals:List Value},vals.length=names.length→names.Nodup→names.filterMap (fun n=>((names.zip vals).lookup n).map fun v=>(n,v))=names.zip vals:=by
 induction names with
 | nil=>intro _ _ _;rfl
 | cons x names ih=>
   intro vals hl hn
   cases vals with
   | nil=>simp at hl
   | cons v vals=>
     refine fb (bk.mp hn) ?_;intro h1 h2
     rw[List.zip_cons_cons,dP]
     have e:((x,v)::names.zip vals).lookup x=some v:=by rw[bD,cq]
     have tl:names.filterMap (fun n=>(((x,v)::names.zip vals).lookup n).map fun v=>(n,v))=names.zip vals:=by
      have e':=ih (vals:=vals) (by simpa using hl) h2
      refine Eq.trans (jp fun n hn'=>?_) e'
      have:(n == x)=false:=by rw[beq_eq_false_iff_ne];rintro rfl;exact h1 hn'
      rw[bD,this]
     rw[e,tl];rfl
theorem zkz{fd:FuncData}{as:List Arg}{kd:List (Option Expr)}{ds:List Expr}{vals:List Value}(hp:fd.params=⟨[],as,none,[],kd,none,ds⟩)(hd:fd.defaults=.none) :
 ∃ (T1 T2:Sem (List (Str×Value))) (f:Str×Value→List (Str×Value)→Sem (ForInStep (List (Str×Value)))) (K:List (Str×Value)→Sem (List (Str×Value))),
  bindArgs fd ⟨vals,[]⟩=(if (decide (vals.length > (as.map Arg.arg).length) && true)=true then T1 else
   if (!(((as.map Arg.arg).take ((as.map Arg.arg).length - (([]:List Value).drop (0 - (as.map Arg.arg).length)).length)).filter fun n=>(((as.map Arg.arg).zip vals).lookup n).isNone).isEmpty)=true then T2 else
    (forIn (((as.map Arg.arg).drop ((as.map Arg.arg).length - (([]:List Value).drop (0 - (as.map Arg.arg).length)).length)).zip (([]:List Value).drop (0 - (as.map Arg.arg).length))) ((as.map Arg.arg).zip vals) f >>= K)) ∧
  K ((as.map Arg.arg).zip vals)=pure (((as.map Arg.arg)++[]).filterMap fun n=>(((as.map Arg.arg).zip vals).lookup n).map fun v=>(n,v)):=by
 unfold bindArgs
 rw[hp,hd]
 exact⟨_,_,_,_,rfl,rfl⟩
theorem qc{fd:FuncData}{names:List Str}{vals:List Value}(h1:fd.params.posonlyargs=[])(h2:fd.params.vararg=none)(h3:fd.params.kwonlyargs=[])(h4:fd.params.kwarg=none)
 (ha:fd.params.args.map (·.arg)=names) (hl:vals.length=names.length) (hn:names.Nodup) (hd:fd.defaults=.none):bindArgs fd ⟨vals,[]⟩=pure (names.zip vals):=by
 have hm:∀ k,((names.take k).filter fun n=>((names.zip vals).lookup n).isNone)=[]:=fun k=>by
  rw[List.filter_eq_nil_iff]
  intro n hn h
  rw[Option.isNone_iff_eq_none] at h
  have:=zew hl n (dF hn)
  rw[h] at this;exfalso;injection this
 cases hp:fd.params with
 | mk p1 p2 p3 p4 p5 p6 p7=>
   rw[hp] at h1 h2 h3 h4 ha
   subst h1;subst h2;subst h3;subst h4;subst ha
   refine fi (zkz (vals:=vals) hp hd) ?_;intro T1 T2 f K e k
   rw[e,ai (by rw[hl];simp),hm,ai (by decide),List.drop_nil,List.zip_nil_right,dB,pure_bind,k,ba,dn hl hn]
section
variable{G:Gl}{F:Fm}{A:Around}{s:Shared}{β:List Addr}{ρ:Loc}{O:za}{cx:Cx}{gval:Nat→Option PyData}{gname:Nat→Option Str}
theorem zdk(sr:SR G F β ρ O s.heap):Does G F A s β (evalPart none F.env) ((R.ok (V.d .none) O).lift ρ) (VRel G F):=
 Does.leaf sr fun Q E q=>ab (q _ _ (KeepsAll.refl s) VR.none)
theorem zm5{x:Expr}{lo hi:Option Expr}{ps p:Pos}{ra:R za V}{rl rh:za→R za V}
 (h1:Does G F A s β (eval x F.env) (ra.lift ρ) (VRel G F)) (h2:∀ s' β' O',SR G F β' ρ O' s'.heap→Does G F A s' β' (evalPart lo F.env) ((rl O').lift ρ) (VRel G F))
 (h3:∀ s' β' O',SR G F β' ρ O' s'.heap→Does G F A s' β' (evalPart hi F.env) ((rh O').lift ρ) (VRel G F)) :
 Does G F A s β (eval (.Subscript x (.Slice lo hi none ps) p) F.env) ((ra.bind fun v O=>(rl O).bind fun l O=>(rh O).bind fun h O=>zee v l h O).lift ρ) (VRel G F):=by
 refine DoesW.seqE (T₂:=fun a Q E s₁=>wpAny (model G.prog G.w) A (evalPart lo F.env) (fun l s₂=>wpAny (model G.prog G.w) A (evalPart hi F.env) (fun u s₃=>
  wpAny (model G.prog G.w) A (subscriptTail x (.Slice lo hi none ps) a (.ref s₃.heap.objs.size)) Q E { s₃ with heap:=s₃.heap.push { cls:=.type "slice",data:=.fields #[l,u,.none] } }) E s₂) E s₁)
  (fun Q E h=>Subscript_ (aK h (fun a s₁ h=>wpAny_Slice (aK h (fun l s₂ h=>aK h (fun u s₃ h=>ab h) fun uA uA x=>x) fun uA uA x=>x)) fun uA uA x=>x)) h1 fun s' β' v d O' e st' sr rv=>?_
 refine DoesW.seqE (T₁:=tr G A (evalPart lo F.env)) (T₂:=fun l Q E s₂=>wpAny (model G.prog G.w) A (evalPart hi F.env) (fun u s₃=>
  wpAny (model G.prog G.w) A (subscriptTail x (.Slice lo hi none ps) v (.ref s₃.heap.objs.size)) Q E { s₃ with heap:=s₃.heap.push { cls:=.type "slice",data:=.fields #[l,u,.none] } }) E s₂) (fun Q E h=>h) (h2 s' β' O' sr) fun s₂ β₂ vl dl O₂ e₂ st₂ sr₂ rvl=>?_
 refine DoesW.seqE (T₁:=tr G A (evalPart hi F.env)) (T₂:=fun u Q E s₃=>
  wpAny (model G.prog G.w) A (subscriptTail x (.Slice lo hi none ps) v (.ref s₃.heap.objs.size)) Q E { s₃ with heap:=s₃.heap.push { cls:=.type "slice",data:=.fields #[vl,u,.none] } }) (fun Q E h=>h) (h3 s₂ β₂ O₂ sr₂) fun s₃ β₃ vh dh O₃ e₃ st₃ sr₃ rvh=>?_
 cases dl <;> first | trivial | skip
 cases dh <;> first | trivial | skip
 exact zko sr₃ (rv.step sr.br sr.fm (st₂.trans st₃)) (rvl.step sr₂.br sr₂.fm st₃) rvh
structure FnAt(G:Gl)(x:Str)(a:Addr)(o:Obj)(fd:FuncData):Prop where
 name:G.mg x=some (.ref a)
 get:G.h₀.get? a=some o
 data:o.data=.func fd
noncomputable def FrA(A:Around)(F:Fm):Prop:=∃ l,A.frames=some l∧∀ env∈l,env.scope.kind≠.module∧∃ L,env.frame=some L∧L∈F.fr
noncomputable def w5(G:Gl)(A:Around)(fname:Nat→Option Str)(call:Nat→List V→za→R za V):Prop:=
 ∀ (F:Fm) (s:Shared) (β:List Addr) (ρ:Loc) (O:za) (f:Nat) (x:Str) (vals:List Value) (vs:List V),SR G F β ρ O s.heap→FrA A F→fname f=some x→VRs G F.B β s.heap vals vs →
  ∃ a o fd,FnAt G x a o fd∧Does G F A s β (PySem.call (.ref a) vals) ((call f vs O).lift ρ) (VRel G F)
theorem zqj{f:Nat}{x:Str}{e:Expr}{rest:List Expr}{p q:Pos}{r:R za (List V)}{call:Nat→List V→za→R za V}{fname:Nat→Option Str}(g:GOk G gval gname)(ck:w5 G A fname call)(fr:FrA A F)(sr:SR G F β ρ O s.heap)(fit:Fits F cx)
 (hf:fname f=some x) (hx:cx.isGlob x=true) (he:starEach (e::rest) F.env=(false,eval e F.env)::starEach rest F.env)
 (h1:Does G F A s β (spliced (backTo q (starEach (e::rest) F.env))) (r.lift ρ) (VRsl G F)) :
 Does G F A s β (eval (.Call (.Name x p) (e::rest) [] q) F.env) ((r.bind fun vs O=>call f vs O).lift ρ) (VRel G F):=by
 refine fk (ck F s β ρ O f x [] [] sr fr hf .nil) ?_;intro a o fd fa _
 refine DoesW.seqE (T₂:=fun vs Q E s₁=>s₁.heap.get? a=some o∧wpAny (model G.prog G.w) A (PySem.call (.ref a) vs) Q E s₁) (fun Q E h=>cV rfl (za1 g sr fit hx fa.name (callWith_def fa.data h he))) h1 fun s' β' vals vs O' uA st sr' rvs=>?_
 refine fk (ck F s' β' ρ O' f x vals vs sr' fr hf rvs) ?_;intro a' o' fd' fa' dd
 have:a'=a:=by have h1:=fa.name;have h2:=fa'.name;rw[h1] at h2;injection h2 with eQ;injection eQ with eQ;subst eQ;rfl
 subst this
 exact dd.weaken (fun Q E h=>⟨sr'.br.keep _ _ fa.get,h⟩) fun uA uA uA uA h=>h
end
section
variable{G:Gl}{F:Fm}{A:Around}{s:Shared}{β:List Addr}{ρ:Loc}{O:za}
theorem uk{a:Addr}{s':Shared}{o':Obj}(sr:SR G F β ρ O s.heap)(ha:a∈F.W)(hg:s'.gens=s.gens)(ho:s'.os=s.os)(hs:Heap.SameBut a s.heap s'.heap)(hn:s'.heap.get? a=some o'):Step F.W β s s' β where
 gens:=hg
 os:=ho
 pre:=bt _
 fresh:=fun uA h=>.inl h
 alive:=fun b o e=>by
  by_cases hb:b=a
  ·subst hb;exact fe o' hn
  ·exact fe o ((hs.2 b hb).trans e)
 kept:=fun b o e uA hW=>⟨o,(hs.2 b (fun h=>hW (h ▸ ha))).trans e,Kin.refl o⟩
theorem BR.write{a:Addr}{s':Shared}(sr:SR G F β ρ O s.heap)(ha:a∈F.W)(hs:Heap.SameBut a s.heap s'.heap)(st:Step F.W β s s' β):BR G F.B β O s'.heap:=by
 have aB:a∈F.B:=sr.fm.sub _ ha
 refine⟨fun c o e=>?_,sr.br.len,sr.br.nodup,sr.br.new,fun i b bx h1 h2=>?_,fun b hb=>(sr.br.plain b hb).at fun o e=>(hs.2 b fun h=>sr.fm.notBox _ aB (h ▸ hb)).trans e⟩
 ·refine (hs.2 c fun h=>?_).trans (sr.br.keep c o e)
  have:=sr.fm.newW ha;rw[← h,e] at this;exfalso;injection this
 ·have hb:=sr.br.at_ i b bx h1 h2
  have hne:b≠a:=fun h=>sr.fm.notBox _ aB (h ▸ aw h1)
  cases bx with
  | lst xs=>
    obtain⟨o,vs,n,e1,e2,e3,as,e4,e5⟩:=hb
    exact⟨o,vs,n,(hs.2 b hne).trans e1,e2,e3,as,(zu sr.br sr.fm st e4 e5).1,e5⟩
  | dct kvs=>
    obtain⟨o,es,n,e1,e2,e3,e4,e5⟩:=hb
    refine⟨o,es,n,(hs.2 b hne).trans e1,e2,e3,e4,fun i e kv he hkv=>?_⟩
    obtain⟨hq,as,bs,r1,r2,q⟩:=e5 i e kv he hkv
    exact⟨hq,as,bs,(z0 sr.br sr.fm st r1 fun a ha=>q a (az _ ha)).1,(z0 sr.br sr.fm st r2 fun a ha=>q a (au _ ha)).1,q⟩
theorem zfw{ρ:Loc}{i j:Nat}{d u:V}(h:(ρ.set i (some d))[j]?=some (some u)):(j=i∧u=d)∨(j≠i∧ρ[j]?=some (some u)):=by
 rw[List.getElem?_set] at h
 by_cases hij:i=j
 ·subst hij
  rw[ah rfl] at h
  split at h
  ·injection h with eQ;injection eQ with eQ;subst eQ;exact .inl ⟨rfl,rfl⟩
  ·exfalso;injection h
 ·rw[ai hij] at h;exact .inr ⟨fun e=>hij e.symm,h⟩
theorem zgj{i:Nat}{x:Str}{v:Value}{d:V}(sr:SR G F β ρ O s.heap)(hx:F.names[i]?=some (some x))(hk:F.env.kindOf x=some .local∨F.env.kindOf x=some .cell)(own:F.own x=true)(rv:VR G F.B β s.heap v d) :
 Does G F A s β (storeName F.env x v) (.ok () (ρ.set i (some d),O)) (fun uA uA uA uA=>True):=by
 intro Q E k
 obtain⟨m,hm⟩:=sr.fm.ns
 refine eS hk ?_ ?_<;>clear hk
 ·intro hk;refine wpAny_storeName_local hk hm (fun h' hn hs=>?_) (by show (F.env.scope.kind == .class || _)=false;rw[sr.fm.kind];rfl)
  refine fq (id hn) ?_;intro o' es' ep' ho' hd' _
  have st:Step F.W β s { s with heap:=h',toks:=s.toks+1 } β:=uk sr sr.fm.nsW rfl rfl hs ho'
  refine k _ β () st ⟨BR.write (s':={ s with heap:=h',toks:=s.toks+1 }) sr sr.fm.nsW hs st,⟨sr.fm.kind,sr.fm.globals,sr.fm.builtins,sr.fm.once,⟨_,hn⟩,sr.fm.nsW,fun y h1=>?_,sr.fm.apart,sr.fm.sub,sr.fm.new,sr.fm.notBox,fun a ha=>?_,sr.fm.frB,fun a ha=>?_,fun m e=>absurd own (by rw[(sr.fm.pin m e).2 x];exact ak)⟩,fun j y u h1 h2=>?_⟩ trivial
  ·refine fh (sr.fm.cell y h1) ?_;intro c w h3 dZ h5;refine eV dZ ?_;clear dZ;intro o h4 h4'
   refine fg c w h3 ⟨o,(hs.2 c fun h=>?_).trans h4,h4'⟩ h5
   refine fq hm ?_;clear hm;intro o2 es ep q1 q2 _
   rw[h] at h4;rw[h4] at q1;injection q1 with eQ;subst eQ;rw[h4'] at q2;exfalso;injection q2
  ·refine eV (sr.fm.stor a ha) ?_;intro o h1 h2
   by_cases hb:a=F.env.locals
   ·subst hb;exact eW o' ho' (fun vs n hv=>by rw[hd'] at hv;exfalso;injection hv)
   ·exact eW o ((hs.2 a hb).trans h1) h2
  ·refine eZ (sr.fm.frs a ha) ?_;intro m' hm'
   by_cases hb:a=F.env.locals
   ·subst hb;exact fe _ hn
   ·exact fe m' (hm'.sameBut hs hb)
  ·refine eS (zfw h2) ?_ ?_
   ·rintro ⟨rfl,rfl⟩;rw[hx] at h1;injection h1 with eQ;injection eQ with eQ;subst eQ
    exact eW v (.inl ⟨hk,_,hn,by simp⟩) (rv.step sr.br sr.fm st)
   ·rintro ⟨hj,h2⟩;refine eV (sr.get j y u h1 h2) ?_;intro val g r
    have hyx:y≠x:=fun e=>hj (sr.fm.once j i x (e ▸ h1) hx)
    refine eW val ?_ (r.step sr.br sr.fm st)
    refine eS g ?_ ?_<;>clear g
    ·rintro ⟨g1,m',g2,g3⟩;rw[zak g2 hm] at g3
     exact .inl ⟨g1,_,hn,by simp[hyx,g3]⟩
    ·rintro ⟨g1,c,g2,o,g3,g4⟩;refine .inr ⟨g1,c,g2,o,(hs.2 c fun h=>?_).trans g3,g4⟩
     refine fq hm ?_;clear hm;intro o2 es ep q1 q2 _
     rw[h] at g3;rw[g3] at q1;injection q1 with eQ;subst eQ;rw[g4] at q2;exfalso;injection q2
 ·intro hk;refine ft (sr.fm.cell x hk) ?_;intro c w hc hcell hcB hcW
  have hcW:=hcW own
  refine wpAny_storeName_cell sr.fm.kind hk hc hcell fun h' hcell' hs=>?_
  refine eV (id hcell') ?_;intro o' ho' hd'
  have st:Step F.W β s { s with heap:=h' } β:=uk sr hcW rfl rfl hs ho'
  have hcL:F.env.locals≠c:=fun h=>by
   refine fq hm ?_;clear hm;intro o2 es ep q1 q2 _
   refine eV hcell ?_;clear hcell;intro o3 q3 q4
   rw[← h,q1] at q3;injection q3 with eQ;subst eQ;rw[q2] at q4;exfalso;injection q4
  have hn':h'.Ns F.env.locals m:=hm.sameBut hs hcL
  refine k _ β () st ⟨BR.write (s':={ s with heap:=h' }) sr hcW hs st,⟨sr.fm.kind,sr.fm.globals,sr.fm.builtins,sr.fm.once,⟨m,hn'⟩,sr.fm.nsW,fun y h1=>?_,sr.fm.apart,sr.fm.sub,sr.fm.new,sr.fm.notBox,fun a ha=>?_,sr.fm.frB,fun a ha=>?_,fun m e=>absurd own (by rw[(sr.fm.pin m e).2 x];exact ak)⟩,fun j y u h1 h2=>?_⟩ trivial
  ·refine fh (sr.fm.cell y h1) ?_;intro c' w' h3 h4 h5
   by_cases hcc:c'=c
   ·subst hcc;exact fg c' _ h3 hcell' h5
   ·exact fg c' w' h3 (h4.sameBut hs hcc) h5
  ·refine eV (sr.fm.stor a ha) ?_;intro o h1 h2
   by_cases hb:a=c
   ·subst hb;exact eW o' ho' (fun vs n hv=>by rw[hd'] at hv;exfalso;injection hv)
   ·exact eW o ((hs.2 a hb).trans h1) h2
  ·refine eZ (sr.fm.frs a ha) ?_;intro m' hm'
   refine fe m' (hm'.sameBut hs fun h=>?_)
   subst h
   refine fq hm' ?_;clear hm';intro o2 es ep q1 q2 _
   refine eV hcell ?_;clear hcell;intro o3 q3 q4
   rw[q1] at q3;injection q3 with eQ;subst eQ;rw[q2] at q4;exfalso;injection q4
  ·refine eS (zfw h2) ?_ ?_
   ·rintro ⟨rfl,rfl⟩;rw[hx] at h1;injection h1 with eQ;injection eQ with eQ;subst eQ
    exact eW v (.inr ⟨hk,c,hc,hcell'⟩) (rv.step sr.br sr.fm st)
   ·rintro ⟨hj,h2⟩;refine eV (sr.get j y u h1 h2) ?_;intro val g r
    have hyx:y≠x:=fun e=>hj (sr.fm.once j i x (e ▸ h1) hx)
    refine eW val ?_ (r.step sr.br sr.fm st)
    refine eS g ?_ ?_<;>clear g
    ·rintro ⟨g1,m',g2,g3⟩;exact .inl ⟨g1,m',g2.sameBut hs hcL,g3⟩
    ·rintro ⟨g1,c',g2,g3⟩;refine .inr ⟨g1,c',g2,g3.sameBut hs fun h=>?_⟩
     subst h
     exact hyx (sr.fm.apart _ _ _ g2 hc)
end
theorem zar{s:Shared}{h':Heap}(he:Heap.ExtBut s.heap.objs.size s.heap h'):KeepsAll s { s with heap:=h' }:=
 ⟨rfl,rfl,fun b o e=>he b o (a8 (aX e)) e⟩
noncomputable def bindR(c:CT)(d:V)(S:Loc×za):R (Loc×za) Unit:=match zp c d S.1 with
 | some ρ'=>.ok () (ρ',S.2)
 | none=>.stuck
section
variable{G:Gl}{F:Fm}{A:Around}{cx:Cx}{own:Str→Bool}
theorem pg(fit:Fits F cx){i:Nat}{x:Str}(h:cx.isLoc i x=true):F.names[i]?=some (some x)∧(F.env.kindOf x=some .local∨F.env.kindOf x=some .cell):=by
 refine fc (ph h) ?_;intro h1 h2 _
 exact⟨by rw[fit.names];exact h1,by rw[fit.kind];exact h2⟩
theorem w3{i:Nat}{e:Expr}(h:chkT cx own (.name i) e=true):∃ x p,e=.Name x p∧cx.isLoc i x=true∧own x=true:=by
 cases e with
 | Name x p=>refine fb (and2 h) ?_;intro h1 h2;exact fg x p rfl h1 h2
 | _=>exact (ak h).elim
theorem zdr{a b:CT}{e:Expr}(h:chkT cx own (.two a b) e=true):∃ x y k p,e=.Tuple [x,y] k p∧chkT cx own a x=true∧chkT cx own b y=true:=by
 cases e with
 | Tuple l k p=>
   match l,h with
   | [x,y],h=>refine fb (and2 h) ?_;intro h1 h2;exact⟨x,y,k,p,rfl,h1,h2⟩
   | [],h=>exact (ak h).elim
   | [_],h=>exact (ak h).elim
   | _::_::_::_,h=>exact (ak h).elim
 | _=>exact (ak h).elim
theorem x4{c:CT}{e:Expr}(h:chkT cx own c e=true)(env:Env)(rest:List Expr):assignEach (e::rest) env=(false,assign e env)::assignEach rest env:=by
 cases c with
 | name i=>refine fu (w3 h) ?_;intro _ _ dY _;subst dY;rfl
 | two a b=>refine fi (zdr h) ?_;intro _ _ _ _ ed _;subst ed;rfl
theorem zex{x:PyData}{xs:List PyData}{N β:List Addr}{h:Heap}{v:Value}(r:VR G N β h v (.d x))(e:items x=some xs) :
 ∃ a o vs n,v=.ref a∧h.get? a=some o∧(o.cls=.type "tuple"∨o.cls=.type "list")∧o.data=.seq vs n∧∃ as,ReadsAll h vs.toList xs as∧∀ a∈as,a∉β∧a∉N:=by
 cases x with
 | list ys=>injection e with eQ;subst eQ;obtain⟨a,rfl,⟨o,vs,n,h1,h2,h3,as,h4,h5⟩,_⟩:=r.list_inv;exact⟨a,o,vs,n,rfl,h1,.inr h2,h3,as,h4,h5⟩
 | tuple ys=>injection e with eQ;subst eQ;obtain⟨a,o,vs,n,rfl,h1,h2,h3,as,h4,h5⟩:=r.tuple_inv;exact⟨a,o,vs,n,rfl,h1,.inl h2,h3,as,h4,h5⟩
 | _=>exfalso;injection e
theorem jt{M:Model}{prog:Program}{w:World}{E:Value→Shared→Prop}{s:Shared}{env:Env}{elts:List Expr}{k:Nat}{pos:Pos}{a:Addr}{o:Obj}{vs:Array Value}{n:Nat}{Q:Unit→Shared→Prop}(hh:A.handled=none)
 (h1:s.heap.get? a=some o) (h2:o.cls=.type "tuple"∨o.cls=.type "list") (h3:o.data=.seq vs n) (hn:(assignEach elts env).length=vs.size) (hstar:(assignEach elts env).findIdx? (·.1)=none)
 (h:∀ s',KeepsAll s s'→wpAny (model prog w) A (assignInOrder ((assignEach elts env).map (·.2)) vs.toList) Q E s'):wpAny (model prog w) A (assign (.Tuple elts k pos) env (.ref a)) Q E s:=by
 rw[assign_Tuple]
 refine aa (cn ?_)
 unfold unpack
 rw[hn,hstar]
 refine eS h2 ?_ ?_<;>clear h2
 ·intro h2;exact aa (aR (unpackItems_tuple hh ⟨o,h1,h2,n,h3⟩ fun h' he=>h _ (zar he)))
 ·intro h2;exact aa (aR (PySem.W.kun_itemsOf hh ⟨o,h1,h2,n,h3⟩ fun h' he=>h _ (zar he)))
theorem vz{h:Heap}{P:Addr→Prop}{vs:List Value}{y z:PyData}{as:List Addr}(r:ReadsAll h vs [y,z] as)(q:∀ a∈as,P a):∃ v u bs cs,vs=[v,u]∧Reads h v y bs∧(∀ a∈bs,P a)∧Reads h u z cs∧∀ a∈cs,P a:=by
 refine fh (zo r q (i:=0) rfl) ?_;intro v1 b1 e1 r1 q1
 refine fh (zo r q (i:=1) rfl) ?_;intro v2 b2 e2 r2 q2
 refine⟨v1,v2,b1,b2,?_,r1,q1,r2,q2⟩
 have hl:vs.length=2:=zd r
 clear r r1 r2
 cases vs with
 | nil=>exfalso;injection e1
 | cons x l=>
   cases l with
   | nil=>exfalso;injection e2
   | cons y l=>rw[co (dC (dC hl)),aM e1,aM e2]
noncomputable abbrev URel:List Addr→Heap→Unit→Unit→Prop:=fun uA uA uA uA=>True
set_option tactic.hygienic true in
theorem xc(hh:A.handled=none)(fit:Fits F cx)(hown:∀ x,own x=true→F.own x=true):∀ (c:CT) {e:Expr} {s:Shared} {β:List Addr} {ρ:Loc} {O:za} {v:Value} {d:V},chkT cx own c e=true→SR G F β ρ O s.heap→VR G F.B β s.heap v d →
 Does G F A s β (assign e F.env v) (bindR c d (ρ,O)) URel:=by
 intro c
 induction c with
 | name i=>
   intro e s β ρ O v d h sr rv
   refine fh (w3 h) ?_;intro x p dY h1 h2;subst dY
   refine fb (pg fit h1) ?_;intro g1 g2
   unfold bindR zp
   dsimp only
   split
   ·rename_i ρ' heq
    split at heq
    ·injection heq with eQ;subst eQ
     exact (zgj sr g1 g2 (hown x h2) rv).weaken (fun Q E h=>wpAny_assign_Name h) fun uA uA uA uA h=>h
    ·exfalso;injection heq
   ·trivial
 | two a b iha ihb=>
   intro e s β ρ O v d h sr rv
   refine fi (zdr h) ?_;intro x y k p ed eg;subst ed;refine fb eg ?_;clear eg;intro h1 h2
   have hn:∀ (vs:Array Value),vs.size=2→(assignEach [x,y] F.env).length=vs.size:=fun vs hv=>by rw[x4 h1,x4 h2,hv];rfl
   have hstar:(assignEach [x,y] F.env).findIdx? (·.1)=none:=by rw[x4 h1,x4 h2];rfl
   have hmap:(assignEach [x,y] F.env).map (·.2)=[assign x F.env,assign y F.env]:=by rw[x4 h1,x4 h2];rfl
   have both:∀ (s:Shared) (v1 v2:Value) (d1 d2:V),SR G F β ρ O s.heap→VR G F.B β s.heap v1 d1→VR G F.B β s.heap v2 d2 →
    DoesW G F s β (tr G A (assignInOrder [assign x F.env,assign y F.env] [v1,v2])) (match (zp a d1 ρ).bind (zp b d2) with | some ρ'=>.ok () (ρ',O) | none=>.stuck) URel:=by
    intro s v1 v2 d1 d2 sr r1 r2
    have da:=iha h1 sr r1
    have e1:(match (zp a d1 ρ).bind (zp b d2) with | some ρ'=>R.ok () (ρ',O) | none=>.stuck)=(bindR a d1 (ρ,O)).bind fun uA S=>bindR b d2 S:=by
     unfold bindR
     cases zp a d1 ρ <;> rfl
    rw[e1]
    refine DoesW.seq (T₂:=fun uA Q E s=>wpAny (model G.prog G.w) A (assign y F.env v2) (fun uA s=>Q () s) E s) (fun Q E h=>bT (aK h (fun uA s₁ h=>bT (aK h (fun uA s₂ h=>assignInOrder_nil h) fun uA uA x=>x)) fun uA uA x=>x)) da fun s' β' uA uA S e st sr' uA=>?_
    exact ihb h2 sr' (r2.step sr.br sr.fm st)
   cases d with
   | d z=>
     show DoesW G F s β _ (match (match items z with | some [y',z']=>(zp a (.d y') ρ).bind (zp b (.d z')) | _=>none) with | some ρ'=>R.ok () (ρ',O) | none=>.stuck) _
     cases hi:items z with
     | none=>trivial
     | some l=>
       match l,hi with
       | [y',z'],hi=>
         refine fi (zex rv hi) ?_;intro ad o vs n ed eg;subst ed;refine fw eg ?_;clear eg;intro g1 g2 g3 dZ;refine eV dZ ?_;clear dZ;intro as r q
         refine fi (vz r q) ?_;intro v1 v2 bs cs hvs eg;refine fw eg ?_;clear eg;intro r1 q1 r2 q2
         have hsz:vs.size=2:=by rw [← av,hvs];rfl
         have kall:∀ s',KeepsAll s s'→DoesW G F s' β (tr G A (assignInOrder [assign x F.env,assign y F.env] [v1,v2])) (match (zp a (.d y') ρ).bind (zp b (.d z')) with | some ρ'=>.ok () (ρ',O) | none=>.stuck) URel:=fun s' ka=>
          both s' v1 v2 (.d y') (.d z') (sr.keepAll ka.kept) ⟨bs,zt ka.kept r1,q1⟩ ⟨cs,zt ka.kept r2,q2⟩
         dsimp only
         cases hb:(zp a (.d y') ρ).bind (zp b (.d z')) with
         | none=>trivial
         | some ρ'=>
           intro Q E kk
           refine jt (M:=model G.prog G.w) hh g1 g2 g3 (hn vs hsz) hstar fun s' ka=>?_
           rw [hmap,hvs]
           have dd:=kall s' ka
           rw [hb] at dd
           exact dd Q E fun s'' β' u st sr'' r=>kk s'' β' u ((ka.step _ _).trans st) sr'' r
       | [],_=>trivial
       | [_],_=>trivial
       | _::_::_::_,_=>trivial
   | tm its=>trivial
   | box n=>trivial
end
noncomputable def Itr(h:Heap)(z:Addr):Prop:=∃ o T fs,h.get? z=some o∧o.cls=.type T∧o.data=.fields fs
structure KeepsZ(Z:List Addr)(s s':Shared):Prop where
 gens:s'.gens=s.gens
 os:s'.os=s.os
 kept:∀ b o,b∉Z→s.heap.get? b=some o→s'.heap.get? b=some o
theorem KeepsZ.refl(Z:List Addr)(s:Shared):KeepsZ Z s s:=⟨rfl,rfl,fun uA uA uA e=>e⟩
theorem KeepsZ.trans{Z:List Addr}{s s' s'':Shared}(x:KeepsZ Z s s')(y:KeepsZ Z s' s''):KeepsZ Z s s'':=⟨y.gens.trans x.gens,y.os.trans x.os,fun b o hb e=>y.kept b o hb (x.kept b o hb e)⟩
theorem KeepsAll.z{s s':Shared}(x:KeepsAll s s')(Z:List Addr):KeepsZ Z s s':=⟨x.gens,x.os,fun b o uA e=>x.kept b o e⟩
theorem Step.thenZ{W β₀ β Z:List Addr}{s₀ s s':Shared}(st:Step W β₀ s₀ s β)(k:KeepsZ Z s s')(hz:∀ z∈Z,s₀.heap.get? z=none):Step W β₀ s₀ s' β where
 gens:=k.gens.trans st.gens
 os:=k.os.trans st.os
 pre:=st.pre
 fresh:=st.fresh
 alive:=fun b o e=>by
  refine eZ (st.alive b o e) ?_;intro o' e'
  exact fe o' (k.kept b o' (fun h=>by rw[hz b h] at e;exfalso;injection e) e')
 kept:=fun b o e hb hW=>let ⟨o',e',kn⟩:=st.kept b o e hb hW;⟨o',k.kept b o' (fun h=>by rw[hz b h] at e;exfalso;injection e) e',kn⟩
inductive zd2(h:Heap)(a:Addr):Prop
 | mk (o:Obj) (e:h.get? a=some o) (hd:∀ fs,o.data≠.fields fs)
theorem zos{d:Data}{vs:Array Value}{n:Nat}(h:d=.seq vs n):∀ fs,d≠.fields fs:=fun fs e=>by rw[h] at e;exfalso;injection e
theorem zm2{d:Data}{vs:Array DictEntry}{n:Nat}(h:d=.dict vs n):∀ fs,d≠.fields fs:=fun fs e=>by rw[h] at e;exfalso;injection e
theorem wo{h:Heap}{v:Value}{x:PyData}{as:List Addr}(r:Reads h v x as):∀ a∈as,zd2 h a:=
 Reads.rec (motive_1:=fun uA uA as uA=>∀ a∈as,zd2 h a) (motive_2:=fun uA uA as uA=>∀ a∈as,zd2 h a)
  (fun uA h=>nomatch h) (fun uA uA h=>nomatch h) (fun uA uA uA h=>nomatch h) (fun uA uA uA h=>nomatch h)
  (fun h1 uA h3 uA ih a ha=>(af.mp ha).elim (fun e=>e ▸ ⟨_,h1,zos h3⟩) (ih a))
  (fun uA uA uA uA ih=>ih)
  (fun h1 uA h3 uA uA ih ih' a ha=>(aj.mp ha).elim (fun ha=>(af.mp ha).elim (fun e=>e ▸ ⟨_,h1,zm2 h3⟩) (ih a)) (ih' a))
  (fun uA h=>nomatch h) (fun uA uA i1 i2 a ha=>(aj.mp ha).elim (i1 a) (i2 a)) r
theorem zbr{h:Heap}{vs:List Value}{xs:List PyData}{as:List Addr}(r:ReadsAll h vs xs as):∀ a∈as,zd2 h a:=
 ReadsAll.rec (motive_1:=fun uA uA uA uA=>True) (motive_2:=fun uA uA as uA=>∀ a∈as,zd2 h a)
  trivial (fun uA=>trivial) (fun uA uA=>trivial) (fun uA uA=>trivial) (fun uA uA uA uA uA=>trivial) (fun uA uA uA uA uA=>trivial) (fun uA uA uA uA uA uA uA=>trivial)
  (fun uA h=>nomatch h) (fun r uA uA i2 a ha=>(aj.mp ha).elim (wo r a) (i2 a)) r
section
variable{G:Gl}{F:Fm}{N β Z:List Addr}{ρ:Loc}{O:za}{h h':Heap}
theorem notZ(hz:∀ z∈Z,Itr h z){b:Addr}{o:Obj}(e:h.get? b=some o)(hd:∀ fs,o.data≠.fields fs):b∉Z:=fun hb=>by
 refine fq (hz b hb) ?_;intro o' T fs e' _ hf
 rw[e] at e';injection e' with eQ;subst eQ;exact hd fs hf
section
variable(hz:∀ z∈Z,Itr h z)(hk:∀ b o,b∉Z→h.get? b=some o→h'.get? b=some o)
include hz hk
theorem getZ{b:Addr}{o:Obj}(e:h.get? b=some o)(hd:∀ fs,o.data≠.fields fs):h'.get? b=some o:=hk b o (notZ hz e hd) e
theorem jd{v:Value}{x:PyData}{as:List Addr}(r:Reads h v x as):Reads h' v x as:=
 x7 (P:=fun b=>b∉Z) (fun b o e hb=>hk b o hb e) (fun b o vs n e uA hd=>notZ hz e fun fs q=>by rw[hd] at q;exfalso;injection q) r fun a ha=>let ⟨o,e,hd⟩:=wo r a ha;notZ hz e hd
theorem ut{vs:List Value}{xs:List PyData}{as:List Addr}(r:ReadsAll h vs xs as):ReadsAll h' vs xs as:=
 xm (P:=fun b=>b∉Z) (fun b o e hb=>hk b o hb e) (fun b o vs n e uA hd=>notZ hz e fun fs q=>by rw[hd] at q;exfalso;injection q) r fun a ha=>let ⟨o,e,hd⟩:=zbr r a ha;notZ hz e hd
theorem ze5{vs:List Value}{its:List It}(r:ItsR N β h vs its):ItsR N β h' vs its:=by
 induction r with
 | nil=>exact .nil
 | b h1 _ ih=>exact .b h1 ih
 | x h1 h2 _ ih=>exact .x (jd hz hk h1) h2 ih
theorem VR.keepZ(hc:∀ c,∃ C,G.cls c=.ref C){v:Value}{x:V}(r:VR G N β h v x):VR G N β h' v x:=by
 cases x with
 | d x=>obtain⟨as,r,q⟩:=r;exact⟨as,jd hz hk r,q⟩
 | box n=>exact r
 | tm its=>obtain⟨a,o,vs,k,e,h1,h2,h3,h4⟩:=r;exact⟨a,o,vs,k,e,getZ hz hk h1 (fun fs q=>by rw[h3] at q;exfalso;injection q),h2,h3,ze5 hz hk h4⟩
theorem BoxAt.keepZ{a:Addr}{bx:Box}(r:BoxAt h N β a bx):BoxAt h' N β a bx:=by
 cases bx with
 | lst xs=>obtain⟨o,vs,n,h1,h2,h3,as,h4,h5⟩:=r;exact⟨o,vs,n,getZ hz hk h1 (fun fs q=>by rw[h3] at q;exfalso;injection q),h2,h3,as,ut hz hk h4,h5⟩
 | dct kvs=>
   obtain⟨o,es,n,h1,h2,h3,h4,h5⟩:=r
   refine⟨o,es,n,getZ hz hk h1 (fun fs q=>by rw[h3] at q;exfalso;injection q),h2,h3,h4,fun i e kv he hkv=>?_⟩
   obtain⟨hq,as,bs,r1,r2,q⟩:=h5 i e kv he hkv
   exact⟨hq,as,bs,jd hz hk r1,jd hz hk r2,q⟩
theorem BR.notItr{O:za}(b:BR G N β O h){a:Addr}(ha:a∈β):a∉Z:=by
 refine eZ (bX ha) ?_;intro i hi
 have hl:i < O.length:=by rw[← b.len];exact (aL.mp hi).1
 have hx:=b.at_ i a _ hi (ao hl)
 cases hb:O[i] with
 | lst xs=>rw[hb] at hx;obtain⟨o',vs,n,h1,h2,h3,_⟩:=hx;exact notZ hz h1 fun fs q=>by rw[h3] at q;exfalso;injection q
 | dct kvs=>rw[hb] at hx;obtain⟨o',vs,n,h1,h2,h3,_⟩:=hx;exact notZ hz h1 fun fs q=>by rw[h3] at q;exfalso;injection q
theorem BR.keepZ(hz0:∀ z∈Z,G.h₀.get? z=none)(b:BR G N β O h):BR G N β O h':=
 ⟨fun c o e=>hk _ _ (fun hb=>by rw[hz0 c hb] at e;exfalso;injection e) (b.keep c o e),b.len,b.nodup,b.new,fun i a bx h1 h2=>(b.at_ i a bx h1 h2).keepZ hz hk,fun a ha=>(b.plain a ha).at fun o e=>hk a o (BR.notItr hz hk b ha) e⟩
theorem nsZ{L:Addr}{m:Str→Option Value}(x:h.Ns L m):h'.Ns L m:=by
 refine fq x ?_;clear x;intro o es ep h1 h2 r
 exact fx o es ep (getZ hz hk h1 (fun fs q=>by rw[h2] at q;exfalso;injection q)) h2 r
theorem zn5{c:Addr}{v:Option Value}(x:h.IsCell c v):h'.IsCell c v:=by
 refine eV x ?_;clear x;intro o h1 h2
 exact eW o (getZ hz hk h1 (fun fs q=>by rw[h2] at q;exfalso;injection q)) h2
theorem Get.keepZ{env:Env}{x:Str}{v:Value}(g:Get h env x v):Get h' env x v:=by
 refine eS g ?_ ?_<;>clear g
 ·rintro ⟨h1,m,h2,h3⟩;exact .inl ⟨h1,m,nsZ hz hk h2,h3⟩
 ·rintro ⟨h1,c,h2,h3⟩;exact .inr ⟨h1,c,h2,zn5 hz hk h3⟩
theorem FmOk.keepZ(hzB:∀ z∈Z,z∉F.B)(f:FmOk G F β h):FmOk G F β h' where
 kind:=f.kind
 globals:=f.globals
 builtins:=f.builtins
 once:=f.once
 ns:=let ⟨m,e⟩:=f.ns;⟨m,nsZ hz hk e⟩
 nsW:=f.nsW
 cell:=fun x h1=>let ⟨c,v,h3,h4,h5⟩:=f.cell x h1;⟨c,v,h3,zn5 hz hk h4,h5⟩
 apart:=f.apart
 sub:=f.sub
 new:=f.new
 notBox:=f.notBox
 stor:=fun a ha=>let ⟨o,h1,h2⟩:=f.stor a ha;⟨o,hk _ _ (fun hb=>hzB a hb ha) h1,h2⟩
 frB:=f.frB
 frs:=fun a ha=>let ⟨m,e⟩:=f.frs a ha;⟨m,nsZ hz hk e⟩
 pin:=fun m e=>⟨nsZ hz hk (f.pin m e).1,(f.pin m e).2⟩
theorem SR.keepZ(hc:∀ c,∃ C,G.cls c=.ref C)(hz0:∀ z∈Z,G.h₀.get? z=none)(hzB:∀ z∈Z,z∉F.B)(r:SR G F β ρ O h):SR G F β ρ O h':=
 ⟨r.br.keepZ hz hk hz0,r.fm.keepZ hz hk hzB,fun i x v h1 h2=>let ⟨val,h3,h4⟩:=r.get i x v h1 h2;⟨val,h3.keepZ hz hk,h4.keepZ hz hk hc⟩⟩
end
end
noncomputable def Src.Has(s:Src)(O:za):Prop:=match s with
 | .plain _=>True
 | .box n xs=>O[n]?=some (.lst xs)
theorem Src.has_of{s:Src}{O:za}(h:s.still O=true):s.Has O:=by
 cases s with
 | plain xs=>trivial
 | box n xs=>exact @bv _ (Classical.propDecidable _) h
structure Turns(G:Gl)(A:Around)(target:Expr)(I:Addr)(Z:List Addr)(src:Src)(St:Nat→List Addr→List Addr→Heap→Prop):Prop where
 itr:∀ i N β h,St i N β h→∀ z∈Z,Itr h z
 keep:∀ i N N' β β' h h',St i N β h→(∀ z∈Z,∀ o,h.get? z=some o→h'.get? z=some o)→(∀ v x,VR G N β h v (.d x)→VR G N' β' h' v (.d x))→β <+: β'→St i N' β' h'
 item:∀ i N β O s x (Q:Option Value→Shared→Prop) (E:Value→Shared→Prop),src.xs[i]?=some x→BR G N β O s.heap→src.Has O→St i N β s.heap →
  (∀ v s',(∀ (Q':Unit→Shared→Prop) (E':Value→Shared→Prop),(∀ s'',KeepsZ Z s s''→VR G N β s''.heap v (.d x)→St (i+1) N β s''.heap→Q' () s'')→wpAny (model G.prog G.w) A (letOwnedTupleGo target (.ref I) v) Q' E' s')→Q (some v) s') →
  wpAny (model G.prog G.w) A (pyNext (.ref I)) Q E s
 done:∀ i N β O s (Q:Option Value→Shared→Prop) (E:Value→Shared→Prop),src.xs.length=i→BR G N β O s.heap→src.Has O→St i N β s.heap →
  (∀ s',KeepsZ Z s s'→Q none s')→wpAny (model G.prog G.w) A (pyNext (.ref I)) Q E s
 self:∀ i N β s (Q:Value→Shared→Prop) (E:Value→Shared→Prop),St i N β s.heap→Q (.ref I) s→wpAny (model G.prog G.w) A (pyIter (.ref I)) Q E s
set_option tactic.hygienic true in
theorem wc{prog:Program}{w:World}{A:Around}{E:Value→Shared→Prop}{s:Shared}{target:Expr}{I:Addr}{v:Value}{o:Obj}{T:String}{Q:Unit→Shared→Prop}(ho:s.heap.get? I=some o)(hc:o.cls=.type T)
 (hT:["enumerate","zip","dict_itemiterator","dict_reverseitemiterator","odict_iterator","itertools.zip_longest","itertools.pairwise"].contains T=false) (hQ:Q () s) :
 wpAny (model prog w) A (letOwnedTupleGo target (.ref I) v) Q E s:=by
 have main:∀ a:Addr,wpAny (model prog w) A (do
  let o ← load I
  match o.cls,o.data with
  | .type n,.fields vs=>
    if ["enumerate","zip","dict_itemiterator","dict_reverseitemiterator","odict_iterator","itertools.zip_longest","itertools.pairwise"].contains n && vs[0]? == some (rawInt a) then
     rule "for.unpacks-the-owned-tuple"
     updateField I 0 .none
  | _,_=>pure ():Sem Unit) Q E s:=by
  intro a
  refine aa (wpAny_load ho ?_)
  rw[hc]
  cases o.data <;> first | exact ab hQ | skip
  rename_i vs
  dsimp only
  rw[ai (by rw[hT,Bool.false_and];exact ak)]
  exact ab hQ
 unfold letOwnedTupleGo
 cases target <;> first | exact ab hQ | skip
 all_goals
  cases v <;> first | exact ab hQ | exact main _
theorem jg{s:Shared}{I:Addr}{h':Heap}{tk:Nat}(hs:Heap.SameBut I s.heap h'):KeepsZ [I] s { s with heap:=h',toks:=tk }:=
 ⟨rfl,rfl,fun b o hb e=>(hs.2 b fun h=>hb (by simp[h])).trans e⟩
theorem jw{s:Shared}{I:Addr}{h':Heap}(hs:Heap.ExtBut I s.heap h'):KeepsZ [I] s { s with heap:=h' }:=
 ⟨rfl,rfl,fun b o hb e=>hs b o (fun h=>hb (by simp[h])) e⟩
section
variable{G:Gl}{A:Around}{target:Expr}(hc:∀ c,∃ C,G.cls c=.ref C)
theorem km{h:Heap}{I l:Addr}{i:Nat}(x:h.IsListIter I l i):∀ z∈[I],Itr h z:=fun z hz=>by
 refine fj x ?_;clear x;intro o h1 h2 h3
 rw[ae.mp hz];exact fx o _ _ h1 h2 h3
theorem ql{h:Heap}{N β:List Addr}{a:Addr}{xs:List PyData}(r:VR G N β h (.ref a) (.d (.list xs))):ListAt h N β a xs∧a∉β∧a∉N:=by
 obtain⟨a',e,h1,h2⟩:=r.list_inv
 injection e with eQ;subst eQ;exact⟨h1,h2⟩
include hc in
theorem Turns.list(hh:A.handled=none)(I ax:Addr)(xs:List PyData):Turns G A target I [I] (.plain xs) (fun i N β h=>h.IsListIter I ax i∧VR G N β h (.ref ax) (.d (.list xs))) where
 itr:=fun i N β h st=>km st.1
 keep:=fun i N N' β β' h h' st k1 k2 uA=>⟨st.1.at fun o e=>k1 I (by simp) o e,k2 _ _ st.2⟩
 item:=fun i N β O s x Q E hx br has st k=>by
  refine fb (ql st.2) ?_;intro dW _;obtain ⟨o,vs,n,h1,h2,h3,as,h4,h5⟩:=dW
  refine fh (zo h4 h5 (i:=i) hx) ?_;intro v cs e1 e2 e3
  refine wpAny_pyNext_list_item st.1 ⟨o,h1,h2,n,h3⟩ (x:=v) (by rw[← aP];exact e1) fun h' hit' hs'=>?_
  refine fj (id hit') ?_;intro o' q1 q2 q3
  have kz:KeepsZ [I] s { s with heap:=h' }:=jg hs'
  have rv:VR G N β h' v (.d x):=VR.keepZ (km st.1) kz.kept hc ⟨cs,e2,e3⟩
  exact k v _ fun Q' E' k'=>wc q1 q2 (by decide) (k' _ kz rv ⟨hit',VR.keepZ (km st.1) kz.kept hc st.2⟩)
 done:=fun i N β O s Q E hx br has st k=>by
  refine fb (ql st.2) ?_;intro dW _;obtain ⟨o,vs,n,h1,h2,h3,as,h4,h5⟩:=dW
  refine wpAny_pyNext_list_end hh st.1 ⟨o,h1,h2,n,h3⟩ ?_ fun h' he=>k _ (jw he)
  rw[ct]
  rw[← av,zd h4];exact Nat.le_of_eq hx
 self:=fun i N β s Q E st q=>wpAny_pyIter_listiter st.1 q
include hc in
theorem Turns.box(hh:A.handled=none)(I ax:Addr)(n:Nat)(xs:List PyData):Turns G A target I [I] (.box n xs) (fun i N β h=>h.IsListIter I ax i∧β[n]?=some ax) where
 itr:=fun i N β h st=>km st.1
 keep:=fun i N N' β β' h h' st k1 k2 p=>⟨st.1.at fun o e=>k1 I (by simp) o e,xn p st.2⟩
 item:=fun i N β O s x Q E hx br has st k=>by
  obtain⟨o,vs,n,h1,h2,h3,as,h4,h5⟩:=br.at_ n ax (.lst xs) st.2 has
  refine fh (zo h4 h5 (i:=i) hx) ?_;intro v cs e1 e2 e3
  refine wpAny_pyNext_list_item st.1 ⟨o,h1,h2,n,h3⟩ (x:=v) (by rw[← aP];exact e1) fun h' hit' hs'=>?_
  refine fj (id hit') ?_;intro o' q1 q2 q3
  have kz:KeepsZ [I] s { s with heap:=h' }:=jg hs'
  have rv:VR G N β h' v (.d x):=VR.keepZ (km st.1) kz.kept hc ⟨cs,e2,e3⟩
  exact k v _ fun Q' E' k'=>wc q1 q2 (by decide) (k' _ kz rv ⟨hit',st.2⟩)
 done:=fun i N β O s Q E hx br has st k=>by
  obtain⟨o,vs,n,h1,h2,h3,as,h4,h5⟩:=br.at_ n ax (.lst xs) st.2 has
  refine wpAny_pyNext_list_end hh st.1 ⟨o,h1,h2,n,h3⟩ ?_ fun h' he=>k _ (jw he)
  rw[ct]
  rw[← av,zd h4];exact Nat.le_of_eq hx
 self:=fun i N β s Q E st q=>wpAny_pyIter_listiter st.1 q
theorem zbz{h:Heap}{I l:Addr}{i:Nat}(x:IsTupIter h I l i):∀ z∈[I],Itr h z:=fun z hz=>by
 refine fj x ?_;clear x;intro o h1 h2 h3
 rw[ae.mp hz];exact fx o _ _ h1 h2 h3
include hc in
theorem Turns.tuple(hh:A.handled=none)(I ax:Addr)(xs:List PyData):Turns G A target I [I] (.plain xs) (fun i N β h=>IsTupIter h I ax i∧VR G N β h (.ref ax) (.d (.tuple xs))) where
 itr:=fun i N β h st=>zbz st.1
 keep:=fun i N N' β β' h h' st k1 k2 uA=>⟨by refine eV st.1 ?_;intro o e r;exact eW o (k1 I (by simp) o e) r,k2 _ _ st.2⟩
 item:=fun i N β O s x Q E hx br has st k=>by
  obtain⟨a',o,vs,n,e,h1,h2,h3,as,h4,h5⟩:=st.2.tuple_inv
  injection e with eQ;subst eQ
  refine fh (zo h4 h5 (i:=i) hx) ?_;intro v cs e1 e2 e3
  refine next_tuple_item st.1 ⟨o,h1,h2,n,h3⟩ (x:=v) (by rw[← aP];exact e1) fun h' hit' hs'=>?_
  refine fj (id hit') ?_;intro o' q1 q2 q3
  have kz:KeepsZ [I] s { s with heap:=h' }:=jg hs'
  have rv:VR G N β h' v (.d x):=VR.keepZ (zbz st.1) kz.kept hc ⟨cs,e2,e3⟩
  exact k v _ fun Q' E' k'=>wc q1 q2 (by decide) (k' _ kz rv ⟨hit',VR.keepZ (zbz st.1) kz.kept hc st.2⟩)
 done:=fun i N β O s Q E hx br has st k=>by
  obtain⟨a',o,vs,n,e,h1,h2,h3,as,h4,h5⟩:=st.2.tuple_inv
  injection e with eQ;subst eQ
  refine next_tuple_end hh st.1 ⟨o,h1,h2,n,h3⟩ ?_ fun h' he=>k _ (jw he)
  rw[ct]
  rw[← av,zd h4];exact Nat.le_of_eq hx
 self:=fun i N β s Q E st q=>wpAny_pyIter_tupleiter st.1 q
theorem zen{a b:Int}{i:Nat}{x:PyData}(h:(z6 a b)[i]?=some x):x=.int (a+i)∧i < (b - a).toNat:=by
 unfold z6 at h
 rw[aT] at h
 cases e:(List.range (b - a).toNat)[i]? with
 | none=>rw[e] at h;exfalso;injection h
 | some j=>
   rw[e] at h
   have hi:i < (List.range (b - a).toNat).length:=by
    refine eS (bm i (List.range (b - a).toNat).length) ?_ ?_
    ·intro h;exact h
    ·intro h;rw[a6 h] at e;exfalso;injection e
   rw[ao hi,List.getElem_range] at e
   injection e with eQ;subst eQ;injection h with eQ;subst eQ
   exact⟨rfl,by simpa using hi⟩
theorem dk{a b:Int}:(z6 a b).length=(b - a).toNat:=by simp[z6]
theorem zhg{h:Heap}{I:Addr}{x l st:Int}(q:IsRangeIter h I x l st):∀ z∈[I],Itr h z:=fun z hz=>by
 rw[ae.mp hz];exact fx _ _ _ q rfl rfl
include hc in
theorem Turns.range(hh:A.handled=none)(I:Addr)(a b:Int):Turns G A target I [I] (.plain (z6 a b)) (fun i N β h=>IsRangeIter h I (a+(i:Nat)) (((b - a).toNat:Int) - (i:Nat)) 1) where
 itr:=fun i N β h st=>zhg st
 keep:=fun i N N' β β' h h' st k1 k2 uA=>k1 I (by simp) _ st
 item:=fun i N β O s x Q E hx br has st k=>by
  refine fb (zen hx) ?_;intro dW hi;subst dW
  refine wpAny_pyNext_range_item st (by lia) fun h' hit' hs'=>?_
  have kz:KeepsZ [I] s { s with heap:=h',toks:=s.toks+1 }:=jg hs'
  refine k _ _ fun Q' E' k'=>wc hit' rfl (by decide) (k' _ kz VR.int ?_)
  have e1:a+((i+1:Nat):Int)=a+(i:Int)+1:=by push_cast;lia
  have e2:((b - a).toNat:Int) - ((i+1:Nat):Int)=((b - a).toNat:Int) - (i:Int) - 1:=by push_cast;lia
  rw[e1,e2];exact hit'
 done:=fun i N β O s Q E hx br has st k=>wpAny_pyNext_range_end hh st (by have:(z6 a b).length=i:=hx;rw[dk] at this;lia) fun h' he=>k _ (jw he)
 self:=fun i N β s Q E st q=>wpAny_pyIter_rangeiter st q
end
section
variable{G:Gl}{F:Fm}{A:Around}{s:Shared}{β:List Addr}{ρ:Loc}{O:za}{cx:Cx}{gval:Nat→Option PyData}{gname:Nat→Option Str}
theorem wd{α:Type}{x:Str}{fv:Value}{e:Expr}{rest:List Expr}{p q:Pos}{r:R za (List V)}{k:List V→za→R za α}{Rel:List Addr→Heap→Value→α→Prop}(g:GOk G gval gname)(sr:SR G F β ρ O s.heap)(fit:Fits F cx)
 (hx:cx.isGlob x=true) (hb:(x,fv)∈bis) (hfv:(∃ id,fv=.builtin id)∨∃ T,fv=.type T)
 (he:starEach (e::rest) F.env=(false,eval e F.env)::starEach rest F.env) (hplain:(backTo q (starEach rest F.env)).any (·.1)=false)
 (h1:Does G F A s β (spliced (backTo q (starEach (e::rest) F.env))) (r.lift ρ) (VRsl G F))
 (h2:∀ s' β' vals vs O',r=.ok vs O'→Step F.W β s s' β'→SR G F β' ρ O' s'.heap→VRs G F.B β' s'.heap vals vs→Does G F A s' β' (call fv vals) ((k vs O').lift ρ) Rel) :
 Does G F A s β (eval (.Call (.Name x p) (e::rest) [] q) F.env) ((r.bind k).lift ρ) Rel:=by
 refine fb (g.bi _ hb) ?_;intro b1 b2
 refine DoesW.seqE (T₂:=fun vs=>tr G A (call fv vs)) (fun Q E h=>cV rfl (z8 g sr fit hx b1 b2 ?_)) h1 fun s' β' vals vs O' e' st sr' rvs=>h2 s' β' vals vs O' e' st sr' rvs
 refine eS hfv ?_ ?_<;>clear hfv
 ·rintro ⟨id,rfl⟩;exact callWith_builtin1 h he hplain
 ·rintro ⟨T,rfl⟩;exact callWith_type1 h he hplain
noncomputable def IRel(G:Gl)(F:Fm)(A:Around)(target:Expr)(s:Shared):List Addr→Heap→Value→Src→Prop:=fun β h v src=>
 ∃ I Z St,v=.ref I∧Turns G A target I Z src St∧St 0 F.B β h∧∀ z∈Z,s.heap.get? z=none
theorem IRel.back{target:Expr}{s':Shared}{β':List Addr}{h:Heap}{v:Value}{src:Src}{β₁:List Addr}{W:List Addr}(st:Step W β s s' β')(r:IRel G F A target s' β₁ h v src):IRel G F A target s β₁ h v src:=by
 refine eX r ?_;clear r;intro I Z St e t h0 hz
 refine eY I Z St e t h0 (fun z hz'=>?_)
 cases e:s.heap.get? z with
 | none=>rfl
 | some o=>refine eZ (st.alive z o e) ?_;intro o' e';rw[hz z hz'] at e';exfalso;injection e'
noncomputable abbrev zat(G:Gl)(A:Around)(x:Expr)(env:Env):WT Value:=fun Q E s=>wpAny (model G.prog G.w) A (eval x env) (fun xv s₁=>wpAny (model G.prog G.w) A (pyIter xv) Q E s₁) E s
theorem zz(s:Shared):s.heap.get? s.heap.objs.size=none:=bg (aI _)
theorem zkr{target:Expr}{v:Value}{d:V}(g:GOk G gval gname)(hh:A.handled=none)(sr:SR G F β ρ O s.heap)(rv:VR G F.B β s.heap v d) :
 Does G F A s β (pyIter v) ((match d with
  | .d x=>opt ((items x).map Src.plain) O
  | .box n=>(match O[n]? with
     | some (.lst xs)=>R.ok (Src.box n xs) O
     | _=>.stuck)
  | _=>.stuck).lift ρ) (IRel G F A target s):=by
 cases d with
 | d x=>
   cases x with
   | list xs=>
     obtain⟨a,rfl,⟨o,vs,n,h1,h2,h3,as,h4,h5⟩,h6⟩:=rv.list_inv
     refine Does.leaf sr fun Q E k=>ch ⟨o,h1,h2,n,h3⟩ (k _ _ (KeepsAll.push s _ _) ?_)
     exact eY _ _ _ rfl (Turns.list g.clsRef hh _ a xs) ⟨⟨_,ay _ rfl,rfl,rfl⟩,rv.keepAll (fun uA uA e=>ac _ e)⟩ (fun z hz=>by rw[ae.mp hz];exact zz s)
   | tuple xs=>
     obtain⟨a,o,vs,n,rfl,h1,h2,h3,as,h4,h5⟩:=rv.tuple_inv
     refine Does.leaf sr fun Q E k=>iter_tuple ⟨o,h1,h2,n,h3⟩ (k _ _ (KeepsAll.push s _ _) ?_)
     exact eY _ _ _ rfl (Turns.tuple g.clsRef hh _ a xs) ⟨⟨_,ay _ rfl,rfl,rfl⟩,rv.keepAll (fun uA uA e=>ac _ e)⟩ (fun z hz=>by rw[ae.mp hz];exact zz s)
   | _=>trivial
 | box n=>
   obtain⟨a,ha,rfl⟩:=rv
   dsimp only
   cases hO:O[n]? with
   | none=>trivial
   | some bx=>cases bx with
     | dct kvs=>trivial
     | lst xs=>
       obtain⟨o,vs,k',h1,h2,h3,as,h4,h5⟩:=sr.br.at_ n a (.lst xs) ha hO
       refine Does.leaf sr fun Q E k=>ch ⟨o,h1,h2,k',h3⟩ (k _ _ (KeepsAll.push s _ _) ?_)
       exact eY _ _ _ rfl (Turns.box g.clsRef hh _ a n xs) ⟨⟨_,ay _ rfl,rfl,rfl⟩,ha⟩ (fun z hz=>by rw[ae.mp hz];exact zz s)
 | _=>trivial
theorem zkt{target x:Expr}{ra:R za V}(g:GOk G gval gname)(hh:A.handled=none)(h1:Does G F A s β (eval x F.env) (ra.lift ρ) (VRel G F)) :
 DoesW G F s β (zat G A x F.env) ((ra.bind fun v O=>(match v with
  | .d x=>opt ((items x).map Src.plain) O
  | .box n=>(match O[n]? with
     | some (.lst xs)=>R.ok (Src.box n xs) O
     | _=>.stuck)
  | _=>.stuck)).lift ρ) (IRel G F A target s):=by
 refine DoesW.seqE (T₂:=fun v=>tr G A (pyIter v)) (fun Q E h=>h) h1 fun s' β' v d O' e st sr rv=>?_
 exact (zkr (target:=target) g hh sr rv).weaken (fun Q E h=>h) fun uA uA uA uA r=>r.back st
theorem v5{a b:Int}:Builtin.Range.rangeSize a b 1=((b - a).toNat:Int):=by rw[rangeSize_one];split <;> lia
noncomputable def RRel(s:Shared):List Addr→Heap→Value→Int×Int→Prop:=fun β h v d=>∃ r t u w,v=.ref r∧IsRange h r d.1 d.2 1 t u w
noncomputable def zbd(p:Int×Int):Prop:=-(10 ^ 9)≤p.1∧p.1≤10 ^ 9∧-(10 ^ 9)≤p.2∧p.2≤10 ^ 9
inductive znh(v u:V)(O:za)(p:Int×Int)(O':za):Prop
 | mk (i j:Int) (h1:intV v=some i) (h2:intV u=some j) (hs:zbd (i,j)) (e:p=(i,j)) (e':O'=O)
theorem uw{v u:V}{O O':za}{p:Int×Int}(h:xb v u O=.ok p O'):znh v u O p O':=by
 unfold xb at h
 cases h1:intV v with
 | none=>rw[h1] at h;exfalso;injection h
 | some i=>
   cases h2:intV u with
   | none=>rw[h1,h2] at h;exfalso;injection h
   | some j=>
     rw[h1,h2] at h
     dsimp only at h
     by_cases hs : -(10 ^ 9)≤i∧i≤10 ^ 9∧-(10 ^ 9)≤j∧j≤10 ^ 9
     ·rw[ah hs] at h;injection h with eQ eR;subst eQ eR;exact⟨i,j,h1,h2,hs,rfl,rfl⟩
     ·rw[ai hs] at h;exfalso;injection h
theorem zbs{v u:V}{O O':za}{p:Int×Int}(h:xb v u O=.ok p O'):zbd p∧O'=O:=by
 obtain⟨i,j,_,_,hs,rfl,rfl⟩:=uw h
 exact⟨hs,rfl⟩
set_option tactic.hygienic true in
theorem VR.intV{N:List Addr}{h:Heap}{v:Value}{d:V}{i:Int}(r:VR G N β h v d)(e:intV d=some i):∃ t,v=.int i t:=by
 cases d <;> first | (cases e;done) | skip
 rename_i x
 cases x <;> first | (cases e;done) | skip
 injection e with eQ;subst eQ
 exact r.int_inv
theorem VRs.one{N:List Addr}{h:Heap}{vals:List Value}{d:V}(r:VRs G N β h vals [d]):∃ v,vals=[v]∧VR G N β h v d:=by
 cases r with
 | cons r rs=>cases rs;exact eW _ rfl r
theorem VRs.two{N:List Addr}{h:Heap}{vals:List Value}{d e:V}(r:VRs G N β h vals [d,e]):∃ v u,vals=[v,u]∧VR G N β h v d∧VR G N β h u e:=by
 cases r with
 | cons r rs=>obtain⟨u,rfl,q⟩:=rs.one;exact fg _ u rfl r q
theorem zdj{T:WT Value}{v u:V}(h:∀ i j,intV v=some i→intV u=some j→DoesW G F s β T (.ok (i,j) (ρ,O)) (RRel s)):DoesW G F s β T ((xb v u O).lift ρ) (RRel s):=by
 cases e:xb v u O with
 | stuck=>trivial
 | ok p O'=>
   obtain⟨i,j,h1,h2,hs,rfl,rfl⟩:=uw e
   exact h i j h1 h2
theorem gu{target:Expr}{v:Value}{p:Int×Int}(g:GOk G gval gname)(hh:A.handled=none)(sr:SR G F β ρ O s.heap)(rv:RRel s β s.heap v p)(hp:zbd p) :
 Does G F A s β (pyIter v) ((R.ok (Src.plain (z6 p.1 p.2)) O).lift ρ) (IRel G F A target s):=by
 refine fi rv ?_;clear rv;intro r t u w ed hr;subst ed
 refine fw hp ?_;clear hp;intro p1 p2 p3 p4
 refine Does.leaf sr fun Q E k=>wpAny_pyIter_range hr (small_one (by lia) (by lia) (by lia) (by lia)) (k _ _ (KeepsAll.push s _ _) ?_)
 refine eY _ _ _ rfl (Turns.range g.clsRef hh _ p.1 p.2) ?_ (fun z hz=>by rw[ae.mp hz];exact zz s)
 rw[v5]
 simpa using ay _ rfl
theorem zkq{y:Expr}{p q:Pos}{x:Str}{rb:R za V}(g:GOk G gval gname)(sr:SR G F β ρ O s.heap)(fit:Fits F cx)(hx:cx.isGlob x=true)(hb:x = "range")(he:starEach [y] F.env=(false,eval y F.env)::starEach [] F.env)
 (h1:Does G F A s β (eval y F.env) (rb.lift ρ) (VRel G F)) :
 Does G F A s β (eval (.Call (.Name x p) [y] [] q) F.env) ((rb.bind fun u O=>xb (.d (.int 0)) u O).lift ρ) (RRel s):=by
 subst hb
 have d1:Does G F A s β (spliced (backTo q (starEach [y] F.env))) ((rb.bind fun v O=>(R.ok ([]:List V) O).bind fun vs O=>.ok (v::vs) O).lift ρ) (VRsl G F):=
  yi he h1 fun s' β' O' sr'=>xh sr'
 have e1:(rb.bind fun u O=>xb (.d (.int 0)) u O)=(rb.bind fun v O=>(R.ok ([]:List V) O).bind fun vs O=>R.ok (v::vs) O).bind fun vs O=>(match vs with | [u]=>xb (.d (.int 0)) u O | _=>.stuck):=by cases rb <;> rfl
 rw[e1]
 refine wd g sr fit hx (fv:=.type "range") (by decide) (.inr ⟨_,rfl⟩) he rfl d1 fun s' β' vals vs O' e' st sr' rvs=>?_
 cases vs with
 | nil=>trivial
 | cons u vs=>
   cases vs with
   | cons _ _=>trivial
   | nil=>
     obtain⟨v,rfl,ru⟩:=rvs.one
     refine zdj fun i j h1 h2=>?_
     injection h1 with eQ;subst eQ
     refine eZ (ru.intV h2) ?_;intro t dX;subst dX
     exact Does.leaf sr' fun Q E k=>call_range_1 (k _ _ (KeepsAll.push s' _ _) ⟨_,_,_,_,rfl,IsRange.new _ _ _ _ _ _ _⟩)
theorem zkp{y z:Expr}{p q:Pos}{x:Str}{ra:R za V}{rb:za→R za V}(g:GOk G gval gname)(sr:SR G F β ρ O s.heap)(fit:Fits F cx)(hx:cx.isGlob x=true)(hb:x = "range")
 (he:starEach [y,z] F.env=(false,eval y F.env)::starEach [z] F.env) (he':starEach [z] F.env=(false,eval z F.env)::starEach [] F.env)
 (h1:Does G F A s β (eval y F.env) (ra.lift ρ) (VRel G F)) (h2:∀ s' β' O',SR G F β' ρ O' s'.heap→Does G F A s' β' (eval z F.env) ((rb O').lift ρ) (VRel G F)) :
 Does G F A s β (eval (.Call (.Name x p) [y,z] [] q) F.env) ((ra.bind fun v O=>(rb O).bind fun u O=>xb v u O).lift ρ) (RRel s):=by
 subst hb
 have d1:Does G F A s β (spliced (backTo q (starEach [y,z] F.env))) ((ra.bind fun v O=>((rb O).bind fun v O=>(R.ok ([]:List V) O).bind fun vs O=>.ok (v::vs) O).bind fun vs O=>.ok (v::vs) O).lift ρ) (VRsl G F):=
  yi he h1 fun s' β' O' sr'=>yi he' (h2 s' β' O' sr') fun s' β' O' sr'=>xh sr'
 have e1:(ra.bind fun v O=>(rb O).bind fun u O=>xb v u O)=(ra.bind fun v O=>((rb O).bind fun v O=>(R.ok ([]:List V) O).bind fun vs O=>.ok (v::vs) O).bind fun vs O=>.ok (v::vs) O).bind fun vs O=>(match vs with | [v,u]=>xb v u O | _=>.stuck):=by
  cases ra with
  | ok v O=>
    show (rb O).bind (fun u O=>xb v u O)=(((rb O).bind fun v O=>(R.ok ([]:List V) O).bind fun vs O=>R.ok (v::vs) O).bind fun vs O=>R.ok (v::vs) O).bind _
    cases rb O <;> rfl
  | stuck=>rfl
 rw[e1]
 refine wd g sr fit hx (fv:=.type "range") (by decide) (.inr ⟨_,rfl⟩) he (by rw [he'];rfl) d1 fun s' β' vals vs O' e' st sr' rvs=>?_
 cases vs with
 | nil=>trivial
 | cons u vs=>
   cases vs with
   | nil=>trivial
   | cons w vs=>
     cases vs with
     | cons _ _=>trivial
     | nil=>
       obtain⟨v,v',rfl,rv,ru⟩:=rvs.two
       refine zdj fun i j h1 h2=>?_
       refine eZ (rv.intV h1) ?_;intro t dX;subst dX
       refine eZ (ru.intV h2) ?_;intro t' dX;subst dX
       exact Does.leaf sr' fun Q E k=>call_range_2 (k _ _ (KeepsAll.push s' _ _) ⟨_,_,_,_,rfl,IsRange.new _ _ _ _ _ _ _⟩)
theorem zb8{target x:Expr}{r:R za (Int×Int)}(g:GOk G gval gname)(hh:A.handled=none)(hs:∀ p O',r=.ok p O'→zbd p)(h1:Does G F A s β (eval x F.env) (r.lift ρ) (RRel s)) :
 DoesW G F s β (zat G A x F.env) ((r.bind fun p O=>R.ok (Src.plain (z6 p.1 p.2)) O).lift ρ) (IRel G F A target s):=by
 refine DoesW.seqE (T₂:=fun v=>tr G A (pyIter v)) (fun Q E h=>h) h1 fun s' β' v d O' e st sr rv=>?_
 exact (gu (target:=target) g hh sr rv (hs _ _ e)).weaken (fun Q E h=>h) fun uA uA uA uA r=>r.back st
end
noncomputable def yr(G:Gl)(F:Fm):List Addr→Heap→Flow→Fl→Prop:=fun β h f d=>match d with
 | .next=>f=.next
 | .ret v=>∃ val,f=.ret val∧VR G F.B β h val v
section
variable{G:Gl}{F:Fm}{A:Around}{cx:Cx}{gval:Nat→Option PyData}{gname:Nat→Option Str}
theorem ue{N β Z:List Addr}{O:za}{h:Heap}(br:BR G N β O h)(hz:∀ z∈Z,Itr h z):∀ z∈Z,z∉β:=fun z hz' hb=>by
 refine eZ (bX hb) ?_;intro i hi
 have hl:i < O.length:=by
  rw[← br.len]
  refine eS (bm i β.length) ?_ ?_
  ·intro h;exact h
  ·intro h;rw[a6 h] at hi;exfalso;injection hi
 have hx:=br.at_ i z _ hi (ao hl)
 refine fq (hz z hz') ?_;intro o T fs e _ hf
 cases hb:O[i] with
 | lst xs=>rw[hb] at hx;obtain⟨o',vs,n,h1,h2,h3,_⟩:=hx;rw[e] at h1;injection h1 with eQ;subst eQ;rw[hf] at h3;exfalso;injection h3
 | dct kvs=>rw[hb] at hx;obtain⟨o',vs,n,h1,h2,h3,_⟩:=hx;rw[e] at h1;injection h1 with eQ;subst eQ;rw[hf] at h3;exfalso;injection h3
theorem Turns.over{target:Expr}{I:Addr}{Z:List Addr}{src:Src}{St:Nat→List Addr→List Addr→Heap→Prop}(W:Turns G A target I Z src St){i:Nat}{β β':List Addr}{ρ:Loc}{O:za}{s s':Shared}
 (sr:SR G F β ρ O s.heap) (hzB:∀ z∈Z,z∉F.B) (st:St i F.B β s.heap) (step:Step F.W β s s' β'):St i F.B β' s'.heap:=
 W.keep i F.B F.B β β' s.heap s'.heap st (fun z hz o e=>step.keptE e (ue sr.br (W.itr _ _ _ _ st) z hz) (fun hw=>hzB z hz (sr.fm.sub z hw)) fun es n q=>by
  refine fq (W.itr _ _ _ _ st z hz) ?_;intro o' _ _ e' _ hf
  rw[e] at e';injection e' with eQ;subst eQ;rw[hf] at q;exfalso;injection q) (fun v x r=>r.step sr.br sr.fm step) step.pre
inductive FInv(G:Gl)(F:Fm)(src:Src)(β₀:List Addr)(s₀:Shared)(St:Nat→List Addr→List Addr→Heap→Prop)(go:List PyData→Loc→za→Prop)(k:Nat)(s:Shared):Prop
 | mk (i:Nat) (β:List Addr) (ρ:Loc) (O:za) (hk:k=src.xs.length+1 - i) (hi:i≤src.xs.length) (step:Step F.W β₀ s₀ s β) (sr:SR G F β ρ O s.heap) (has:src.Has O) (st:St i F.B β s.heap) (hgo:go (src.xs.drop i) ρ O)
inductive zca(src:Src)(go:Loc→za→R (Loc×za) Fl)(fl:Fl)(S:Loc×za):Fl→Loc×za→Prop
 | ret (v:V) (h:fl=.ret v):zca src go fl S (.ret v) S
 | next (S':Loc×za) (hs:src.still S'.2=true) (hg:go S'.1 S'.2=.ok fl S):zca src go fl S .next S'
inductive zk9(src:Src)(c:CT)(evb:Loc→za→R (Loc×za) Fl)(x:PyData)(go:Loc→za→R (Loc×za) Fl)(ρ:Loc)(O:za)(fl:Fl)(S:Loc×za):Prop
 | mk (ρ':Loc) (f:Fl) (S':Loc×za) (hb:zp c (.d x) ρ=some ρ') (he:evb ρ' O=.ok f S') (hr:zca src go fl S f S')
theorem zc8{src:Src}{c:CT}{evb:Loc→za→R (Loc×za) Fl}{x:PyData}{go:Loc→za→R (Loc×za) Fl}{ρ:Loc}{O:za}{fl:Fl}{S:Loc×za} (h:(match jm c evb x ρ O with
 | .ok (.ret v) S=>.ok (.ret v) S
 | .ok .next S=>if src.still S.2 then go S.1 S.2 else .stuck
 | _=>.stuck)=R.ok fl S):zk9 src c evb x go ρ O fl S:=by
 unfold jm at h
 cases hb:zp c (.d x) ρ with
 | none=>rw[hb] at h;exfalso;injection h
 | some ρ'=>
   rw[hb] at h
   dsimp only at h
   cases he:evb ρ' O with
   | ok f S'=>
     rw[he] at h
     cases f with
     | ret v=>injection h with eQ eR;subst eQ eR;exact⟨ρ',_,_,hb,he,.ret v rfl⟩
     | next=>
       dsimp only at h
       by_cases hs:src.still S'.2=true
       ·rw[ah hs] at h;exact⟨ρ',_,_,hb,he,.next S' hs h⟩
       ·rw[ai hs] at h;exfalso;injection h
   | _=>rw[he] at h;exfalso;injection h
theorem zmp{src:Src}{c:CT}{evb:Loc→za→R (Loc×za) Fl}{x:PyData}{xs:List PyData}{ρ:Loc}{O:za}{fl:Fl}{S:Loc×za}(h:zq src (jm c evb) (x::xs) ρ O=.ok fl S):zk9 src c evb x (zq src (jm c evb) xs) ρ O fl S:=zc8 h
theorem zho{target:Expr}{c:CT}{own:Str→Bool}{body:List Stmt}{src:Src}{I:Addr}{Z:List Addr}{St:Nat→List Addr→List Addr→Heap→Prop}{evb:Loc→za→R (Loc×za) Fl}
 (g:GOk G gval gname) (hh:A.handled=none) (fit:Fits F cx) (hown:∀ x,own x=true→F.own x=true) (hc:chkT cx own c target=true)
 (hb:∀ s β ρ O,SR G F β ρ O s.heap→Does G F A s β (execs body F.env) (evb ρ O) (yr G F))
 (W:Turns G A target I Z src St) {s₀ s:Shared} {β₀ β:List Addr} {ρ₀ ρ:Loc} {O₀ O:za} (sr₀:SR G F β₀ ρ₀ O₀ s₀.heap) (hz:∀ z∈Z,s₀.heap.get? z=none)
 (step:Step F.W β₀ s₀ s β) (sr:SR G F β ρ O s.heap) (has:src.Has O) (st:St 0 F.B β s.heap) {fl:Fl} {S:Loc×za}
 (hgo:zq src (jm c evb) src.xs ρ O=.ok fl S) {R:Result→Shared→Prop}
 (hR:∀ s' β' f,Step F.W β₀ s₀ s' β'→SR G F β' S.1 S.2 s'.heap→yr G F β' s'.heap f fl→R (.ok f) s') :
 codeAny (model G.prog G.w) A (.forLoop target (.ref I) body [] F.env) R s:=by
 have hz0:∀ z∈Z,G.h₀.get? z=none:=fun z hz'=>by
  cases e:G.h₀.get? z with
  | none=>rfl
  | some o=>have:=sr₀.br.keep z o e;rw[hz z hz'] at this;exfalso;injection this
 have hzB:∀ z∈Z,z∉F.B:=fun z hz' hB=>by
  refine eV (sr₀.fm.stor z hB) ?_;intro o e _
  rw[hz z hz'] at e;exfalso;injection e
 refine codeAny_forLoop_any (FInv G F src β₀ s₀ St fun xs ρ O=>zq src (jm c evb) xs ρ O=.ok fl S) ?_ (src.xs.length+1) ⟨0,β,ρ,O,rfl,be _,step,sr,has,st,hgo⟩
 clear hgo st has sr step
 intro k s hI
 obtain⟨i,β,ρ,O,rfl,hi,step,sr,has,st,hgo⟩:=hI
 have hitr:=W.itr _ _ _ _ st
 by_cases hlt:i < src.xs.length
 ·rw[List.drop_eq_getElem_cons hlt] at hgo
  have hx:src.xs[i]?=some src.xs[i]:=ao hlt
  generalize src.xs[i]=x at hgo hx
  obtain⟨ρ',f,S',hbt,he,hrest⟩:=zmp hgo
  refine W.item i F.B β O s x _ _ hx sr.br has st fun v s₁ kk=>?_
  refine kk _ _ fun s' kz rv st'=>?_
  have sr':=sr.keepZ hitr kz.kept g.clsRef hz0 hzB
  have step':=step.thenZ kz hz
  have da:=xc (A:=A) hh fit hown c hc sr' rv
  unfold bindR at da
  dsimp only at da
  rw[hbt] at da
  dsimp only at da
  refine da _ _ fun s₂ β₂ uA st₂ sr₂ uA=>?_
  have db:=hb s₂ β₂ ρ' O sr₂
  have stZ:=W.over sr' hzB st' st₂
  rw[he] at db
  refine db _ _ fun s₃ β₃ f' st₃ sr₃ rf=>?_
  have step₃:=step'.trans (st₂.trans st₃)
  cases hrest with
  | ret u e=>
    subst e
    refine eV rf ?_;clear rf;intro val dX rv';subst dX
    exact hR s₃ β₃ (.ret val) step₃ sr₃ ⟨val,rfl,rv'⟩
  | next _ hst hgo=>
    have rf:f'=.next:=rf
    subst rf
    exact⟨src.xs.length+1 - (i+1),by lia,i+1,β₃,S'.1,S'.2,rfl,hlt,step₃,sr₃,Src.has_of hst,W.over sr₂ hzB stZ st₃,hgo⟩
 ·have hie:i=src.xs.length:=by lia
  rw[hie,List.drop_length] at hgo
  have hgo:Mine.R.ok Fl.next (ρ,O)=Mine.R.ok fl S:=hgo
  injection hgo with eQ eR;subst eQ eR
  refine W.done i F.B β O s _ _ hie.symm sr.br has st fun s' kz=>?_
  refine wpAny_execs_nil (hR s' β .next (step.thenZ kz hz) (sr.keepZ hitr kz.kept g.clsRef hz0 hzB) rfl)
theorem zn3{target x:Expr}{c:CT}{own:Str→Bool}{body:List Stmt}{pos:Pos}{r:R za Src}{evb:Loc→za→R (Loc×za) Fl}{s:Shared}{β:List Addr}{ρ:Loc}{O:za}
 (g:GOk G gval gname) (hh:A.handled=none) (fit:Fits F cx) (hown:∀ x,own x=true→F.own x=true) (hc:chkT cx own c target=true) (hset:∀ l k p,x≠.Set l k p)
 (hb:∀ s β ρ O,SR G F β ρ O s.heap→Does G F A s β (execs body F.env) (evb ρ O) (yr G F))
 (sr:SR G F β ρ O s.heap) (hI:DoesW G F s β (zat G A x F.env) (r.lift ρ) (IRel G F A target s)) (has:∀ src O',r=.ok src O'→src.Has O') :
 Does G F A s β (exec (.For target x body [] pos) F.env) ((r.lift ρ).bind fun src S=>zq src (jm c evb) src.xs S.1 S.2) (yr G F):=by
 cases r with
 | stuck=>trivial
 | ok src O'=>
   show DoesW G F s β _ (zq src (jm c evb) src.xs ρ O') _
   cases hgo:zq src (jm c evb) src.xs ρ O' with
   | stuck=>trivial
   | ok fl S=>
     intro Q E k
     refine wpAny_For (hI _ _ fun s' β' it st sr' ⟨I,Z,St,e,W,h0,hz⟩=>?_) fun v=>kr hset _ _
     subst e
     exact zho g hh fit hown hc hb W sr hz st sr' (has _ _ rfl) h0 hgo fun s' β' f st' sr'' rf=>k s' β' f st' sr'' rf
end
theorem dkv1:∀ l:List (PyData×PyData),PyData.depthAll (l.map (·.1))≤PyData.depthKv l
 | []=>aI _
 | (_,_)::r=>dG.mpr ⟨aq (bl _ _) (bl _ _),aq (dkv1 r) (aY _ _)⟩
theorem dkv2:∀ l:List (PyData×PyData),PyData.depthAll (l.map (·.2))≤PyData.depthKv l
 | []=>aI _
 | (_,_)::r=>dG.mpr ⟨aq (aY _ _) (bl _ _),aq (dkv2 r) (aY _ _)⟩
inductive Sub(h:Heap)(b:Addr)(n:Nat):Prop
 | mk (x:PyData) (as:List Addr) (r:Reads h (.ref b) x as) (hs:x.depth≤n)
theorem Sub.le{h:Heap}{b:Addr}{n m:Nat}(s:Sub h b n)(hm:n≤m):Sub h b m:=let ⟨x,as,r,hs⟩:=s;⟨x,as,r,aq hs hm⟩
theorem zg0{h:Heap}{v:Value}{x:PyData}{as:List Addr}(r:Reads h v x as):∀ b∈as,Sub h b x.depth:=
 Reads.rec (motive_1:=fun uA x as uA=>∀ b∈as,Sub h b x.depth) (motive_2:=fun uA xs as uA=>∀ b∈as,Sub h b (PyData.depthAll xs))
  (fun uA h=>nomatch h) (fun uA uA h=>nomatch h) (fun uA uA uA h=>nomatch h) (fun uA uA uA h=>nomatch h)
  (fun h1 h2 h3 r ih b hb=>(af.mp hb).elim (fun e=>e ▸ ⟨_,_,.list h1 h2 h3 r,aI _⟩) fun hb=>(ih b hb).le (cJ _))
  (fun uA uA uA uA ih b hb=>(ih b hb).le (cJ _))
  (fun h1 h2 h3 r1 r2 i1 i2 b hb=>(aj.mp hb).elim (fun hb=>(af.mp hb).elim (fun e=>e ▸ ⟨_,_,.dict h1 h2 h3 r1 r2,aI _⟩) fun hb=>(i1 b hb).le (cZ (dkv1 _))) fun hb=>(i2 b hb).le (cZ (dkv2 _)))
  (fun uA h=>nomatch h) (fun uA uA i1 i2 b hb=>(aj.mp hb).elim (fun hb=>(i1 b hb).le (bl _ _)) fun hb=>(i2 b hb).le (aY _ _)) r
theorem zbq{h:Heap}{vs:List Value}{xs:List PyData}{as:List Addr}(r:ReadsAll h vs xs as):∀ b∈as,Sub h b (PyData.depthAll xs):=
 ReadsAll.rec (motive_1:=fun uA uA uA uA=>True) (motive_2:=fun uA xs as uA=>∀ b∈as,Sub h b (PyData.depthAll xs))
  trivial (fun uA=>trivial) (fun uA uA=>trivial) (fun uA uA=>trivial) (fun uA uA uA uA uA=>trivial) (fun uA uA uA uA uA=>trivial) (fun uA uA uA uA uA uA uA=>trivial)
  (fun uA h=>nomatch h) (fun r uA uA i2 b hb=>(aj.mp hb).elim (fun hb=>(zg0 r b hb).le (bl _ _)) fun hb=>(i2 b hb).le (aY _ _)) r
theorem zel{h:Heap}{a:Addr}{o:Obj}{vs:Array Value}{n:Nat}{xs:List PyData}{as:List Addr}(h1:h.get? a=some o)(h2:o.cls=.type "list")(h3:o.data=.seq vs n)(r:ReadsAll h vs.toList xs as):a∉as:=fun ha=>by
 obtain⟨x',as',r',hs⟩:=zbq r a ha
 have:=(Reads.unique (Reads.list h1 h2 h3 r) _ _ r').1
 subst this
 exact Nat.not_succ_le_self _ hs
section
variable{G:Gl}{F:Fm}{A:Around}{β β':List Addr}{ρ:Loc}{O O':za}{s s':Shared}
theorem SR.outer(sr:SR G F β ρ O s.heap)(st:Step [] β s s' β')(br:BR G F.B β' O' s'.heap)(nb:∀ a∈F.B,a∉β'):SR G F β' ρ O' s'.heap:=by
 have st':Step F.W β s s' β':=⟨st.gens,st.os,st.pre,st.fresh,st.alive,fun b o e hb uA=>st.kept b o e hb (by simp)⟩
 have hB:∀ a∈F.B,∀ o,s.heap.get? a=some o→∃ o',s'.heap.get? a=some o'∧Kin o o':=fun a ha o e=>st.kept a o e (sr.fm.notBox a ha) (by simp)
 have hL:F.env.locals∈F.B:=sr.fm.sub _ sr.fm.nsW
 have hns:∀ m,s.heap.Ns F.env.locals m→s'.heap.Ns F.env.locals m:=fun m hm=>Kin.ns hm (hB _ hL)
 refine⟨br,⟨sr.fm.kind,sr.fm.globals,sr.fm.builtins,sr.fm.once,?_,sr.fm.nsW,?_,sr.fm.apart,sr.fm.sub,sr.fm.new,nb,?_,sr.fm.frB,fun a ha=>let ⟨m,hm⟩:=sr.fm.frs a ha;⟨m,Kin.ns hm (hB a (sr.fm.frB a ha))⟩,fun m e=>⟨hns m (sr.fm.pin m e).1,(sr.fm.pin m e).2⟩⟩,fun i x v h1 h2=>?_⟩
 ·obtain⟨m,hm⟩:=sr.fm.ns;exact fe m (hns m hm)
 ·intro x hx
  refine ft (sr.fm.cell x hx) ?_;intro c v h3 h4 h6 h7
  exact fy c v h3 (Kin.cell h4 (hB c h6)) h6 h7
 ·intro a ha
  refine eV (sr.fm.stor a ha) ?_;intro o h1 h2
  refine eV (hB a ha o h1) ?_;intro o' e' kn
  exact eW o' e' (fun vs n hv=>by rw[kn.cls];exact h2 vs n (kn.data.symm.trans hv))
 ·refine eV (sr.get i x v h1 h2) ?_;intro val g r
  refine eW val ?_ (r.step sr.br sr.fm st')
  refine eS g ?_ ?_<;>clear g
  ·rintro ⟨g1,m,g2,g3⟩;exact .inl ⟨g1,m,hns m g2,g3⟩
  ·rintro ⟨g1,c,g2,g3⟩;refine ft (sr.fm.cell x g1) ?_;intro c' v' h3 h4 h6 h7
   rw[g2] at h3;injection h3 with eQ;subst eQ
   exact .inr ⟨g1,c,g2,Kin.cell g3 (hB c h6)⟩
theorem SR.keepNB{a:Addr}{bx₀:Box}(x:KeepsL F.env.locals s s')(r:SR G F β ρ O s.heap)(hn:s.heap.get? a=none)(hl:BoxAt s'.heap F.B (β++[a]) a bx₀)(hpl:Plain s'.heap a):Step F.W β s s' (β++[a])∧SR G F (β++[a]) ρ (O++[bx₀]) s'.heap:=by
 have sr':=r.keepL x
 have st0:=x.step r.fm
 have st:Step F.W β s s' (β++[a]):=⟨st0.gens,st0.os,List.prefix_append _ _,fun b hb=>by
  refine eS (aj.mp hb) ?_ ?_
  ·intro h;exact .inl h
  ·intro h;rw[ae.mp h];exact .inr hn,st0.alive,st0.kept⟩
 have aB:a∉F.B:=fun h=>by refine eV (r.fm.stor a h) ?_;intro o e _;rw[hn] at e;exfalso;injection e
 have aβ:a∉β:=fun h=>by refine eV (r.br.alive a h) ?_;intro o e _;rw[hn] at e;exfalso;injection e
 have nL:F.env.locals∈F.B:=r.fm.sub _ r.fm.nsW
 have ne:∀ {b:Addr},b∈β→b≠F.env.locals:=fun hb e=>r.fm.notBox _ nL (e ▸ hb)
 refine⟨st,⟨⟨sr'.br.keep,by simp[r.br.len],?_,fun b hb=>?_,fun i b bx h1 h2=>?_,fun b hb=>(aj.mp hb).elim (sr'.br.plain b) fun h=>by rw[ae.mp h];exact hpl⟩,⟨sr'.fm.kind,sr'.fm.globals,sr'.fm.builtins,sr'.fm.once,sr'.fm.ns,sr'.fm.nsW,sr'.fm.cell,sr'.fm.apart,sr'.fm.sub,sr'.fm.new,fun b hb h=>?_,sr'.fm.stor,sr'.fm.frB,sr'.fm.frs,sr'.fm.pin⟩,fun i y v h1 h2=>?_⟩⟩
 ·rw[cj]
  exact⟨r.br.nodup,by simp,fun b hb c hc=>by rw[ae.mp hc];exact fun e=>aβ (e ▸ hb)⟩
 ·refine eS (aj.mp hb) ?_ ?_
  ·intro h;exact r.br.new b h
  ·intro h;rw[ae.mp h]
   cases e:G.h₀.get? a with
   | none=>rfl
   | some o=>have:=r.br.keep a o e;rw[hn] at this;exfalso;injection this
 ·refine eS (bm i β.length) ?_ ?_
  ·intro hi;rw[aJ hi] at h1
   rw[aJ (by rw[← r.br.len];exact hi)] at h2
   have hb:=r.br.at_ i b bx h1 h2
   have hne:=ne (aw h1)
   cases bx with
   | lst ys=>
     obtain⟨o,vs,n,e1,e2,e3,as,e4,e5⟩:=hb
     refine fb (zu r.br r.fm st e4 e5) ?_;intro q1 q2
     exact⟨o,vs,n,x.kept _ _ hne e1,e2,e3,as,q1,q2⟩
   | dct kvs=>
     obtain⟨o,es,n,e1,e2,e3,e4,e5⟩:=hb
     refine⟨o,es,n,x.kept _ _ hne e1,e2,e3,e4,fun i e kv he hkv=>?_⟩
     obtain⟨hq,as,bs,r1,r2,q⟩:=e5 i e kv he hkv
     refine fb (z0 r.br r.fm st r1 fun a ha=>q a (az _ ha)) ?_;intro p1 p2
     refine fb (z0 r.br r.fm st r2 fun a ha=>q a (au _ ha)) ?_;intro p3 p4
     exact⟨hq,as,bs,p1,p3,fun b hb=>(aj.mp hb).elim (p2 b) (p4 b)⟩
  ·intro hi;rw[aF hi] at h1
   rw[aF (by rw[← r.br.len];exact hi)] at h2
   have hi0:i - β.length=0:=by
    refine eS (Nat.eq_zero_or_pos (i - β.length)) ?_ ?_
    ·intro h;exact h
    ·intro h;rw[a6 (show [a].length≤i - β.length from h)] at h1;exfalso;injection h1
   rw[hi0] at h1
   rw[← r.br.len,hi0] at h2
   injection h1 with eQ;subst eQ;injection h2 with eQ;subst eQ
   exact hl
 ·refine eS (aj.mp h) ?_ ?_
  ·intro h;exact r.fm.notBox b hb h
  ·intro h;rw[ae.mp h] at hb;exact aB hb
 ·refine eV (r.get i y v h1 h2) ?_;intro val g rv
  refine eW val ?_ (rv.step r.br r.fm st)
  refine eS g ?_ ?_<;>clear g
  ·rintro ⟨g1,m,g2,g3⟩;exact .inl ⟨g1,m,x.ns m g2,g3⟩
  ·rintro ⟨g1,c,g2,o,g3,g4⟩;refine .inr ⟨g1,c,g2,o,x.kept _ _ (fun h=>?_) g3,g4⟩
   obtain⟨m,o',es,ep,q1,q2,_⟩:=r.fm.ns
   rw[h] at g3;rw[g3] at q1;injection q1 with eQ;subst eQ;rw[g4] at q2;exfalso;injection q2
theorem SR.keepLB{a:Addr}{xs:List PyData}(x:KeepsL F.env.locals s s')(r:SR G F β ρ O s.heap)(hn:s.heap.get? a=none)(hl:ListAt s'.heap F.B β a xs)(hpl:Plain s'.heap a):Step F.W β s s' (β++[a])∧SR G F (β++[a]) ρ (O++[.lst xs]) s'.heap:=by
 obtain⟨o,vs,n,e1,e2,e3,as,e4,e5⟩:=hl
 have hac:=zel e1 e2 e3 e4
 refine SR.keepNB x r hn (bx₀:=.lst xs) ⟨o,vs,n,e1,e2,e3,as,e4,fun b hb=>⟨fun h=>?_,(e5 b hb).2⟩⟩ hpl
 refine eS (aj.mp h) ?_ ?_
 ·intro h;exact (e5 b hb).1 h
 ·intro h;rw[ae.mp h] at hb;exact hac hb
theorem R.bind_assoc{σ α β γ:Type}(r:R σ α)(f:α→σ→R σ β)(g:β→σ→R σ γ):(r.bind f).bind g=r.bind fun a s=>(f a s).bind g:=by cases r <;> rfl
theorem LeafD.box{T:WT Value}{c:PyData}(sr:SR G F β ρ O s.heap)(h:LeafD G F s β T (V.d c) (FRel G F s)):DoesW G F s β T ((boxK (.d c) O).lift ρ) (VRel G F):=by
 cases c with
 | list xs=>
   intro Q E k
   refine h Q E fun v s' ka r=>?_
   refine fj r.1.list_inv ?_;intro a dX hl _;subst dX
   refine fj (r.2 xs rfl) ?_;intro a' e hn hpl
   injection e with eQ;subst eQ
   refine fb (SR.keepLB ka sr hn hl hpl) ?_;intro st sr'
   exact k s' _ _ st sr' ⟨a,by rw[← sr.br.len];simp,rfl⟩
 | _=>trivial
end
noncomputable def jb(env:Env):List (Str×NameKind)→List (Str×Addr)→List (Str×Addr)
 | [],cs=>cs
 | (n,k)::r,cs=>if k == .free then jb env r ((n,(env.cells.lookup n).getD 0)::cs) else jb env r cs
theorem j3(env:Env)(f:Str×NameKind→List (Str×Addr)→Sem (ForInStep (List (Str×Addr))))
 (hf:∀ name kind cs,f (name,kind) cs=if kind == .free then (do let a ← cellOf env name;pure (.yield ((name,a)::cs))) else pure (.yield cs)) :
 ∀ (names:List (Str×NameKind)) (acc:List (Str×Addr)),(∀ p∈names,p.2=.free→(env.cells.lookup p.1).isSome=true)→forIn names acc f=pure (jb env names acc)
 | [],acc,_=>by rw[dB];rfl
 | (n,k)::r,acc,h=>by
   rw[dT,hf]
   have hr:∀ p∈r,p.2=.free→(env.cells.lookup p.1).isSome=true:=fun p hp=>h p (ag _ hp)
   unfold jb
   cases hk:k == NameKind.free with
   | true=>
     have hk':k=.free:=by cases k <;> first | rfl | (exact absurd hk (by decide))
     refine eZ (bZ.mp (h (n,k) am hk')) ?_;intro c hc
     have e:cellOf env n=pure c:=by unfold cellOf;rw[hc]
     simp only[if_true,e,pure_bind]
     rw[j3 env f hf r _ hr,hc]
     rfl
   | false=>
     simp only[aN,bu,pure_bind]
     exact j3 env f hf r _ hr
theorem q0{scope:Scope}{env:Env}(h:∀ p∈scope.names,p.2=.free→(env.cells.lookup p.1).isSome=true):closureFor scope env=pure (jb env scope.names []):=by
 unfold closureFor
 dsimp only
 rw[j3 env _ (fun name kind cs=>rfl) scope.names [] h]
 rfl
theorem jj{env:Env}{x:Str}:∀ (names:List (Str×NameKind)) (acc:List (Str×Addr)),(jb env names acc).lookup x=if (x,NameKind.free)∈names then some ((env.cells.lookup x).getD 0) else acc.lookup x
 | [],acc=>by simp[jb]
 | (n,k)::r,acc=>by
   unfold jb
   cases hk:k == NameKind.free with
   | true=>
     have hk':k=.free:=by cases k <;> first | rfl | (exact absurd hk (by decide))
     subst hk'
     rw[ah rfl,jj r]
     by_cases h:(x,NameKind.free)∈r
     ·rw[ah h,ah (ag _ h)]
     ·rw[ai h,bD]
      cases hx:x == n with
      | true=>
        have:x=n:=aS.mp hx
        subst this
        rw[ah am]
      | false=>
        rw[ai]
        intro hm
        refine eS (af.mp hm) ?_ ?_
        ·intro e;injection e with eQ eR;subst eQ;cases eR;rw[cq] at hx;exfalso;injection hx
        ·intro hm;exact h hm
   | false=>
     rw[ai (by decide),jj r]
     by_cases h:(x,NameKind.free)∈r
     ·rw[ah h,ah (ag _ h)]
     ·rw[ai h,ai]
      intro hm
      refine eS (af.mp hm) ?_ ?_
      ·intro e;injection e with eQ eR;subst eQ eR;exact absurd hk (by decide)
      ·intro hm;exact h hm
theorem xp:∀ (names:List (Str×NameKind)) (n:Nat) (acc:List (Str×Addr)),cellsFrom n names acc=cellsFrom n names []++acc
 | [],n,acc=>rfl
 | (x,k)::r,n,acc=>by
   unfold cellsFrom
   split
   ·rw[xp r (n+1) ((x,n)::acc),xp r (n+1) [(x,n)]];simp
   ·exact xp r n acc
set_option tactic.hygienic true in
theorem xo:∀ (names:List (Str×NameKind)) (n:Nat) (acc:List (Str×Addr)) {x:Str} {c:Addr},(x,c)∈cellsFrom n names acc→(x,NameKind.cell)∈names∨(x,c)∈acc
 | [],n,acc,x,c,h=>.inr h
 | (y,k)::r,n,acc,x,c,h=>by
   unfold cellsFrom at h
   split at h
   ·rename_i hk
    have hk':k=.cell:=by cases k <;> first | rfl | (exact absurd hk (by decide))
    subst hk'
    refine eS (xo r _ _ h) ?_ ?_
    ·intro h;exact .inl (ag _ h)
    ·intro h;refine eS (af.mp h) ?_ ?_
     ·intro e;injection e with eQ eR;subst eQ eR;exact .inl am
     ·intro h;exact .inr h
   ·refine eS (xo r _ _ h) ?_ ?_
    ·intro h;exact .inl (ag _ h)
    ·intro h;exact .inr h
set_option tactic.hygienic true in
theorem yd:∀ (names:List (Str×NameKind)) (n:Nat) (acc:List (Str×Addr)) {x:Str},((x,NameKind.cell)∈names∨(acc.lookup x).isSome=true)→((cellsFrom n names acc).lookup x).isSome=true
 | [],n,acc,x,h=>by
   refine eS h ?_ ?_<;>clear h
   ·intro h;cases h
   ·intro h;exact h
 | (y,k)::r,n,acc,x,h=>by
   unfold cellsFrom
   split
   ·rename_i hk
    refine yd r _ _ ?_
    refine eS h ?_ ?_<;>clear h
    ·intro h;refine eS (af.mp h) ?_ ?_
     ·intro e;injection e with eQ eR;subst eQ eR;right;rw[bD,cq];rfl
     ·intro h;exact .inl h
    ·intro h;right
     rw[bD]
     cases x == y with
     | true=>rfl
     | false=>exact h
   ·rename_i hk
    refine yd r _ _ ?_
    refine eS h ?_ ?_<;>clear h
    ·intro h;refine eS (af.mp h) ?_ ?_
     ·intro e;injection e with eQ eR;subst eQ eR;exact absurd rfl hk
     ·intro h;exact .inl h
    ·intro h;exact .inr h
theorem lookup_mem{α:Type}:∀ {l:List (Str×α)} {x:Str} {k:α},(l.map (·.1)).Nodup→((x,k)∈l↔l.lookup x=some k)
 | [],x,k,_=>by simp
 | (y,j)::r,x,k,h=>by
   refine fb (bk.mp h) ?_;intro h1 h2
   rw[bD]
   cases hx:x == y with
   | true=>
     have:x=y:=aS.mp hx
     subst this
     constructor
     ·intro hm
      refine eS (af.mp hm) ?_ ?_
      ·intro e;injection e with eQ eR;cases eQ;subst eR;rfl
      ·intro hm;exact absurd (aC.mpr ⟨(x,k),hm,rfl⟩) h1
     ·intro e;injection e with eQ;subst eQ;exact am
   | false=>
     rw[← lookup_mem (l:=r) h2]
     constructor
     ·intro hm
      refine eS (af.mp hm) ?_ ?_
      ·intro e;injection e with eQ eR;subst eQ eR;rw[cq] at hx;exfalso;injection hx
      ·intro hm;exact hm
     ·exact ag _
noncomputable def zdp(scope:Scope)(env:Env)(C:Addr)(cl:List (Str×Addr)):Env:=
 { scope:=scope,locals:=C,globals:=env.globals,cells:=cellsFrom (C+1) scope.names cl,qual:=env.qual,func:=none,code:=env.code,frame:=env.frame,builtins:=env.builtins }
theorem zdo{M:Model}{A:Around}{E:Value→Shared→Prop}{s:Shared}{scope:Scope}{env:Env}{cl:List (Str×Addr)}{Q:Env→Shared→Prop}
 (h:∀ s',KeepsAll s s'→s'.heap.Ns s.heap.objs.size (fun uA=>none)→CellsOk s'.heap (s.heap.objs.size+1) (cellsFrom (s.heap.objs.size+1) scope.names [])→Q (zdp scope env s.heap.objs.size cl) s') :
 wpAny M A (newFunctionEnv scope env.globals cl [] env.qual none .none (some env)) Q E s:=by
 simp only[newFunctionEnv,Option.isSome_some,if_true]
 refine aa (wpAny_alloc ?_)
 refine aa (wpAny_layCells _ (fun name kind cells=>by cases hkc:kind == NameKind.cell <;> simp[hkc]) _ _ _ _ ?_)
 have ok:=cellsFrom_ok scope.names (s.heap.push { cls:=.type "dict",data:=.dict #[] }) (s.heap.objs.size+1) [] ⟨fun uA uA hm=>(nomatch hm),List.Pairwise.nil⟩ (by rw [bo];exact aI _)
 rw[bo] at ok
 rw [show ({ s with heap:=s.heap.push { cls:=.type "dict",data:=.dict #[] } }:Shared).heap.objs.size=s.heap.objs.size+1 from bo ..]
 simp only[dB]
 refine aa (ab (ab (h _ ⟨rfl,rfl,fun b o e=>pushCells_keeps _ _ b o (ac _ e)⟩ ?_ ok)))
 exact (Heap.Ns.new s.heap (.type "dict")).keeps (pushCells_keeps _ _)
noncomputable def yc:CT→List Nat
 | .name i=>[i]
 | .two a b=>yc a++yc b
noncomputable def clr:List Nat→Loc→Loc
 | [],ρ=>ρ
 | i::S,ρ=>(clr S ρ).set i none
theorem gz:∀ (S:List Nat) (ρ:Loc),(clr S ρ).length=ρ.length
 | [],_=>rfl
 | i::S,ρ=>by unfold clr;rw[bc,gz S ρ]
theorem qt:∀ (S:List Nat) (ρ:Loc) (i:Nat),i∉S→(clr S ρ)[i]?=ρ[i]?
 | [],_,_,_=>rfl
 | j::S,ρ,i,h=>by
   unfold clr
   rw[cG (fun e=>h (by simp[e]))]
   exact qt S ρ i fun hm=>h (ag _ hm)
theorem gy:∀ (S:List Nat) (ρ:Loc) (i:Nat) (v:V),i∈S→(clr S ρ)[i]?≠some (some v)
 | j::S,ρ,i,v,h,e=>by
   unfold clr at e
   rw[List.getElem?_set] at e
   by_cases hj:j=i
   ·rw[ah hj] at e
    split at e <;> cases e
   ·rw[ai hj] at e
    refine eS (af.mp h) ?_ ?_
    ·rintro rfl;exact hj rfl
    ·intro h;exact gy S ρ i v h e
noncomputable def Agree(S:List Nat)(ρ ρ':Loc):Prop:=ρ.length=ρ'.length∧∀ i,i∉S→ρ[i]?=ρ'[i]?
theorem Agree.nil{ρ ρ':Loc}(h:Agree [] ρ ρ'):ρ=ρ':=List.ext_getElem? fun i=>h.2 i (by simp)
theorem zht(S:List Nat)(ρ:Loc):Agree S (clr S ρ) ρ:=⟨gz S ρ,fun i hi=>qt S ρ i hi⟩
theorem zgx{S:List Nat}{ρ ρ':Loc}{i:Nat}{v:Option V}(h:Agree S ρ ρ'):Agree (S.filter fun j=>j != i) (ρ.set i v) (ρ'.set i v):=by
 refine⟨by rw[bc,bc];exact h.1,fun j hj=>?_⟩
 rw[List.getElem?_set,List.getElem?_set]
 by_cases e:i=j
 ·rw[ah e,ah e,h.1]
 ·rw[ai e,ai e]
  refine h.2 j fun hm=>hj (bL.mpr ⟨hm,?_⟩)
  simpa using fun e'=>e e'.symm
noncomputable def Both(S:List Nat):Option Loc→Option Loc→Prop
 | some r,some r'=>Agree S r r'
 | none,none=>True
 | _,_=>False
noncomputable def subL(S T:List Nat):List Nat:=S.filter fun j=>!T.contains j
theorem Agree.mono{S T:List Nat}{ρ ρ':Loc}(h:Agree S ρ ρ')(hs:∀ i∈S,i∈T):Agree T ρ ρ':=⟨h.1,fun i hi=>h.2 i fun hm=>hi (hs i hm)⟩
theorem zhw{S T U:List Nat}{f g:Loc→Option Loc}{a b:Option Loc}(h:Both S a b)(hf:∀ r r',Agree S r r'→Both T (f r) (g r')):Both T (a.bind f) (b.bind g):=by
 cases a <;> cases b <;> first | exact h | exact hf _ _ h | exact (show False from h).elim
theorem zdx:∀ (c:CT) (d:V) (S:List Nat) (ρ ρ':Loc),Agree S ρ ρ'→Both (subL S (yc c)) (zp c d ρ) (zp c d ρ'):=by
 intro c
 induction c with
 | name i=>
   intro d S ρ ρ' h
   unfold zp
   rw[h.1]
   by_cases hi:i < ρ'.length
   ·rw[ah hi,ah hi]
    refine (zgx h).mono fun j hj=>?_
    refine fb (bL.mp hj) ?_;intro h1 h2
    refine bL.mpr ⟨h1,?_⟩
    simp only[yc,List.contains_cons,List.contains_nil,Bool.or_false] at h2 ⊢
    simpa using h2
   ·rw[ai hi,ai hi];trivial
 | two a b iha ihb=>
   intro d S ρ ρ' h
   have key:∀ (d1 d2:V),Both (subL S (yc (.two a b))) ((zp a d1 ρ).bind (zp b d2)) ((zp a d1 ρ').bind (zp b d2)):=fun d1 d2=>by
    refine zhw (U:=[]) (iha d1 S ρ ρ' h) fun r r' h'=>?_
    have:=ihb d2 _ r r' h'
    revert this
    cases zp b d2 r <;> cases zp b d2 r' <;> intro this <;> first | exact this | skip
    refine Agree.mono this fun i hi=>?_
    simp only[subL,bL,yc,List.contains_eq_mem,aj,bI,decide_eq_false_iff_not] at hi ⊢
    exact⟨hi.1.1,fun hm=>hm.elim hi.1.2 hi.2⟩
   cases d with
   | d x=>
     unfold zp
     cases items x with
     | none=>trivial
     | some l=>
       match l with
       | [y,z]=>exact key _ _
       | []=>trivial
       | [_]=>trivial
       | _::_::_::_=>trivial
   | _=>trivial
theorem zhx(c:CT)(d:V)(ρ:Loc):zp c d (clr (yc c) ρ)=zp c d ρ:=by
 have:=zdx c d _ _ _ (zht (yc c) ρ)
 have e:subL (yc c) (yc c)=[]:=by
  unfold subL
  rw[List.filter_eq_nil_iff]
  intro a ha
  simpa using ha
 rw[e] at this
 revert this
 cases zp c d (clr (yc c) ρ) <;> cases zp c d ρ <;> intro this <;> first | rfl | exact this.elim | exact cA some this.nil
theorem zdw:∀ (c:CT) (d:V) (ρ ρ':Loc),zp c d ρ=some ρ'→∀ i,i∉yc c→ρ'[i]?=ρ[i]?:=by
 intro c
 induction c with
 | name j=>
   intro d ρ ρ' h i hi
   unfold zp at h
   split at h
   ·injection h with eQ;subst eQ;exact cG fun e=>hi (by simp[yc,e])
   ·exfalso;injection h
 | two a b iha ihb=>
   intro d ρ ρ' h i hi
   simp only[yc,aj,not_or] at hi
   have key:∀ (d1 d2:V),(zp a d1 ρ).bind (zp b d2)=some ρ'→ρ'[i]?=ρ[i]?:=fun d1 d2 h=>by
    cases h1:zp a d1 ρ with
    | none=>rw[h1] at h;exfalso;injection h
    | some r=>rw[h1] at h;exact (ihb d2 r ρ' h i hi.2).trans (iha d1 ρ r h1 i hi.1)
   cases d with
   | d x=>
     unfold zp at h
     cases hx:items x with
     | none=>rw[hx] at h;exfalso;injection h
     | some l=>
       rw[hx] at h
       match l,h with
       | [y,z],h=>exact key _ _ h
       | [],h=>exfalso;injection h
       | [_],h=>exfalso;injection h
       | _::_::_::_,h=>exfalso;injection h
   | _=>exfalso;injection h
theorem zfn:∀ (c:CT) (e:Expr) (l:List (Option Str)) (i:Nat) (x:Str),(addT c e l)[i]?=some (some x)→l[i]?=some (some x)∨i∈yc c:=by
 intro c
 induction c with
 | name j=>
   intro e l i x h
   cases e with
   | Name y p=>
     change (if l[j]? == some none then l.set j (some y) else l)[i]?=_ at h
     split at h
     ·by_cases hj:j=i
      ·exact .inr (by simp[yc,hj])
      ·rw[cG hj] at h;exact .inl h
     ·exact .inl h
   | _=>exact .inl h
 | two a b iha ihb=>
   intro e l i x h
   cases e with
   | Tuple es k p=>
     match es,h with
     | [y,z],h=>
       refine eS (ihb _ _ _ _ h) ?_ ?_
       ·intro h;refine eS (iha _ _ _ _ h) ?_ ?_
        ·intro h;exact .inl h
        ·intro h;exact .inr (az _ h)
       ·intro h;exact .inr (au _ h)
     | [],h=>exact .inl h
     | [_],h=>exact .inl h
     | _::_::_::_,h=>exact .inl h
   | _=>exact .inl h
theorem zl0{l:List (Option Str)}(h:xf l=true):∀ (i j:Nat) x,l[i]?=some (some x)→l[j]?=some (some x)→i=j:=by
 have h:(l.filterMap id).Nodup:=bv h
 induction l with
 | nil=>intro i j x h1;simp at h1
 | cons o l ih=>
   have hl:(l.filterMap id).Nodup:=by
    cases o with
    | none=>simpa using h
    | some y=>simp at h;exact h.2
   intro i j x h1 h2
   have nin:∀ k,l[k]?=some (some x)→o≠some x:=fun k hk e=>by
    subst e
    simp at h
    have:some x∈l:=aw hk
    exact h.1 this
   match i,j,h1,h2 with
   | 0,0,_,_=>rfl
   | 0,j+1,h1,h2=>simp at h1 h2;exact absurd h1 (nin j h2)
   | i+1,0,h1,h2=>simp at h1 h2;exact absurd h2 (nin i h1)
   | i+1,j+1,h1,h2=>simp at h1 h2;exact cA (· + 1) (ih (aH hl) hl i j x h1 h2)
section
variable{G:Gl}{N M β:List Addr}{O:za}{h:Heap}
theorem ua{as:List Addr}(al:∀ a∈as,∃ o,h.get? a=some o)(hM:∀ a∈M,h.get? a=none)(q:∀ a∈as,a∉β∧a∉N):∀ a∈as,a∉β∧a∉M++N:=fun a ha=>by
 refine⟨(q a ha).1,fun hm=>?_⟩
 refine eS (aj.mp hm) ?_ ?_
 ·intro hm;refine eZ (al a ha) ?_;intro o e
  rw[hM a hm] at e;exfalso;injection e
 ·intro hm;exact (q a ha).2 hm
theorem ItsR.grow(hM:∀ a∈M,h.get? a=none){vs:List Value}{its:List It}(r:ItsR N β h vs its):ItsR (M++N) β h vs its:=by
 induction r with
 | nil=>exact .nil
 | b h1 _ ih=>exact .b h1 ih
 | x h1 h2 _ ih=>exact .x h1 (ua (y6 h1) hM h2) ih
theorem VR.grow(hM:∀ a∈M,h.get? a=Option.none){v:Value}{x:V}(r:VR G N β h v x):VR G (M++N) β h v x:=by
 cases x with
 | d x=>obtain⟨as,r,q⟩:=r;exact⟨as,r,ua (y6 r) hM q⟩
 | box n=>exact r
 | tm its=>obtain⟨a,o,vs,k,e,h1,h2,h3,h4⟩:=r;exact⟨a,o,vs,k,e,h1,h2,h3,h4.grow hM⟩
theorem BoxAt.grow(hM:∀ a∈M,h.get? a=none){a:Addr}{bx:Box}(r:BoxAt h N β a bx):BoxAt h (M++N) β a bx:=by
 cases bx with
 | lst xs=>obtain⟨o,vs,n,h1,h2,h3,as,h4,h5⟩:=r;exact⟨o,vs,n,h1,h2,h3,as,h4,ua (ki h4) hM h5⟩
 | dct kvs=>
   obtain⟨o,es,n,h1,h2,h3,h4,h5⟩:=r
   refine⟨o,es,n,h1,h2,h3,h4,fun i e kv he hkv=>?_⟩
   obtain⟨hq,as,bs,r1,r2,q⟩:=h5 i e kv he hkv
   exact⟨hq,as,bs,r1,r2,ua (fun a ha=>(aj.mp ha).elim (y6 r1 a) (y6 r2 a)) hM q⟩
theorem BR.grow(hM:∀ a∈M,h.get? a=none)(b:BR G N β O h):BR G (M++N) β O h:=
 ⟨b.keep,b.len,b.nodup,b.new,fun i a bx h1 h2=>(b.at_ i a bx h1 h2).grow hM,b.plain⟩
theorem BoxAt.less{N':List Addr}(hs:∀ a∈N,a∈N'){a:Addr}{bx:Box}(r:BoxAt h N' β a bx):BoxAt h N β a bx:=by
 cases bx with
 | lst xs=>obtain⟨o,vs,n,h1,h2,h3,as,h4,h5⟩:=r;exact⟨o,vs,n,h1,h2,h3,as,h4,fun b hb=>⟨(h5 b hb).1,fun hn=>(h5 b hb).2 (hs b hn)⟩⟩
 | dct kvs=>
   obtain⟨o,es,n,h1,h2,h3,h4,h5⟩:=r
   refine⟨o,es,n,h1,h2,h3,h4,fun i e kv he hkv=>?_⟩
   obtain⟨hq,as,bs,r1,r2,q⟩:=h5 i e kv he hkv
   exact⟨hq,as,bs,r1,r2,fun b hb=>⟨(q b hb).1,fun hn=>(q b hb).2 (hs b hn)⟩⟩
theorem BR.less{N':List Addr}(hs:∀ a∈N,a∈N')(b:BR G N' β O h):BR G N β O h:=
 ⟨b.keep,b.len,b.nodup,b.new,fun i a bx h1 h2=>(b.at_ i a bx h1 h2).less hs,b.plain⟩
theorem BR.but{D:Addr}{h':Heap}(hs:∀ b o,b≠D→h.get? b=some o→h'.get? b=some o)(hN:D∈N)(hb:D∉β)(h0:G.h₀.get? D=none)(ht:∀ o vs n,h.get? D=some o→o.data=.seq vs n→o.cls≠.type "tuple")(b:BR G N β O h):BR G N β O h':=by
 have rd:∀ {v:Value} {x:PyData} {as:List Addr},Reads h v x as→(∀ a∈as,a∉β∧a∉N)→Reads h' v x as:=fun r q=>
  x7 (P:=fun a=>a≠D) (fun a o e p=>hs a o p e) (fun a o vs n e hc hd=>fun e'=>by subst e';exact ht o vs n e hd hc) r fun a ha e'=>(q a ha).2 (e' ▸ hN)
 have rda:∀ {v:List Value} {x:List PyData} {as:List Addr},ReadsAll h v x as→(∀ a∈as,a∉β∧a∉N)→ReadsAll h' v x as:=fun r q=>
  xm (P:=fun a=>a≠D) (fun a o e p=>hs a o p e) (fun a o vs n e hc hd=>fun e'=>by subst e';exact ht o vs n e hd hc) r fun a ha e'=>(q a ha).2 (e' ▸ hN)
 refine⟨fun c o e=>hs c o (fun e'=>by rw[e',h0] at e;exfalso;injection e) (b.keep c o e),b.len,b.nodup,b.new,fun i a bx h1 h2=>?_,fun a ha=>(b.plain a ha).at fun o e=>hs a o (fun e'=>hb (e' ▸ ha)) e⟩
 have hx:=b.at_ i a bx h1 h2
 have hne:a≠D:=fun e=>hb (e ▸ aw h1)
 cases bx with
 | lst xs=>obtain⟨o,vs,n,e1,e2,e3,as,e4,e5⟩:=hx;exact⟨o,vs,n,hs _ _ hne e1,e2,e3,as,rda e4 e5,e5⟩
 | dct kvs=>
   obtain⟨o,es,n,e1,e2,e3,e4,e5⟩:=hx
   refine⟨o,es,n,hs _ _ hne e1,e2,e3,e4,fun i e kv he hkv=>?_⟩
   obtain⟨hq,as,bs,r1,r2,q⟩:=e5 i e kv he hkv
   exact⟨hq,as,bs,rd r1 fun a ha=>q a (az _ ha),rd r2 fun a ha=>q a (au _ ha),q⟩
theorem ItsR.but{D:Addr}{h':Heap}(hs:∀ b o,b≠D→h.get? b=some o→h'.get? b=some o)(hN:D∈N)(ht:∀ o vs n,h.get? D=some o→o.data=.seq vs n→o.cls≠.type "tuple"){vs:List Value}{its:List It}(r:ItsR N β h vs its):ItsR N β h' vs its:=by
 induction r with
 | nil=>exact .nil
 | b h1 _ ih=>exact .b h1 ih
 | x h1 h2 _ ih=>
   refine .x (x7 (P:=fun a=>a≠D) (fun a o e p=>hs a o p e) (fun a o vs n e hc hd=>fun e'=>?_) h1 fun a ha e'=>(h2 a ha).2 (e' ▸ hN)) h2 ih
   subst e';exact ht o vs n e hd hc
theorem VR.but{D:Addr}{h':Heap}(hs:∀ b o,b≠D→h.get? b=some o→h'.get? b=some o)(hN:D∈N)(ht:∀ o vs n,h.get? D=some o→o.data=.seq vs n→o.cls≠.type "tuple"){v:Value}{x:V}(r:VR G N β h v x):VR G N β h' v x:=by
 cases x with
 | d x=>
   obtain⟨as,r,q⟩:=r
   refine⟨as,x7 (P:=fun a=>a≠D) (fun a o e p=>hs a o p e) (fun a o vs n e hc hd=>fun e'=>?_) r fun a ha e'=>(q a ha).2 (e' ▸ hN),q⟩
   subst e';exact ht o vs n e hd hc
 | box n=>exact r
 | tm its=>obtain⟨a,o,vs,k,e,h1,h2,h3,h4⟩:=r;exact⟨a,o,vs,k,e,hs _ _ (fun e'=>by subst e';exact ht o vs k h1 h3 h2) h1,h2,h3,h4.but hs hN ht⟩
end
theorem SR.but{G:Gl}{F:Fm}{β:List Addr}{ρ:Loc}{O:za}{h h':Heap}{D:Addr}{vs vs':Array Value}{n n':Nat}{o o':Obj}(hs:∀ b o,b≠D→h.get? b=some o→h'.get? b=some o)(hD:D∈F.B)(e:h.get? D=some o)(hc:o.cls=.type "list")(hd:o.data=.seq vs n)
 (e':h'.get? D=some o') (hc':o'.cls=.type "list") (sr:SR G F β ρ O h):SR G F β ρ O h':=by
 have ht:∀ o vs n,h.get? D=some o→o.data=.seq vs n→o.cls≠.type "tuple":=fun o₂ vs₂ n₂ e₂ uA=>by rw [e] at e₂;injection e₂ with eQ;subst eQ;rw [hc];decide
 have notD:∀ {b:Addr} {o₂:Obj},h.get? b=some o₂→(∀ vs n,o₂.data≠.seq vs n)→b≠D:=fun e₂ hn e₃=>by subst e₃;rw[e] at e₂;injection e₂ with eQ;subst eQ;exact hn _ _ hd
 have hns:∀ {L m},h.Ns L m→h'.Ns L m:=fun ⟨o,es,ep,h1,h2,r⟩=>⟨o,es,ep,hs _ _ (notD h1 fun vs n q=>by rw[h2] at q;exfalso;injection q) h1,h2,r⟩
 have hcell:∀ {c v},h.IsCell c v→h'.IsCell c v:=fun ⟨o,h1,h2⟩=>⟨o,hs _ _ (notD h1 fun vs n q=>by rw[h2] at q;exfalso;injection q) h1,h2⟩
 refine⟨sr.br.but hs hD (sr.fm.notBox D hD) (sr.fm.newB hD (sr.br.notSysD e fun es n q=>by rw[hd] at q;exfalso;injection q)) ht,⟨sr.fm.kind,sr.fm.globals,sr.fm.builtins,sr.fm.once,let ⟨m,hm⟩:=sr.fm.ns;⟨m,hns hm⟩,sr.fm.nsW,fun x hx=>?_,sr.fm.apart,sr.fm.sub,sr.fm.new,sr.fm.notBox,fun a ha=>?_,sr.fm.frB,fun a ha=>let ⟨m,hm⟩:=sr.fm.frs a ha;⟨m,hns hm⟩,fun m e=>⟨hns (sr.fm.pin m e).1,(sr.fm.pin m e).2⟩⟩,fun i x v h1 h2=>?_⟩
 ·refine fh (sr.fm.cell x hx) ?_;intro c v h3 h4 h5
  exact fg c v h3 (hcell h4) h5
 ·by_cases ha':a=D
  ·subst ha';exact eW o' e' (fun uA uA uA=>by rw[hc'];decide)
  ·refine eV (sr.fm.stor a ha) ?_;intro o₂ h1 h2
   exact eW o₂ (hs _ _ ha' h1) h2
 ·refine eV (sr.get i x v h1 h2) ?_;intro val g r
  refine eW val ?_ (r.but hs hD ht)
  refine eS g ?_ ?_<;>clear g
  ·rintro ⟨g1,m,g2,g3⟩;exact .inl ⟨g1,m,hns g2,g3⟩
  ·rintro ⟨g1,c,g2,g3⟩;exact .inr ⟨g1,c,g2,hcell g3⟩
theorem SR.fewer{G:Gl}{F:Fm}{β:List Addr}{ρ ρ':Loc}{O:za}{h:Heap}(sr:SR G F β ρ O h)(hs:∀ (i:Nat) v,ρ'[i]?=some (some v)→ρ[i]?=some (some v)):SR G F β ρ' O h:=
 ⟨sr.br,sr.fm,fun i x v h1 h2=>sr.get i x v h1 (hs i v h2)⟩
theorem Step.thenW{W₀ W β₀ β β':List Addr}{s₀ s s':Shared}(st:Step W₀ β₀ s₀ s β)(st':Step W β s s' β')(hW:∀ a∈W,s₀.heap.get? a=none):Step W₀ β₀ s₀ s' β' where
 gens:=st'.gens.trans st.gens
 os:=st'.os.trans st.os
 pre:=st.pre.trans st'.pre
 fresh:=fun a ha=>by
  refine eS (st'.fresh a ha) ?_ ?_
  ·intro h;exact st.fresh a h
  ·intro h;right
   cases e:s₀.heap.get? a with
   | none=>rfl
   | some o=>refine eZ (st.alive a o e) ?_;intro o' e';rw[e'] at h;exfalso;injection h
 alive:=fun b o e=>let ⟨o',e'⟩:=st.alive b o e;st'.alive b o' e'
 kept:=fun b o e hb hW'=>by
  refine eV (st.kept b o e hb hW') ?_;intro o' e' kn
  obtain⟨o'',e'',kn'⟩:=st'.kept b o' e' (fun hb'=>by
   refine eS (st.fresh b hb') ?_ ?_
   ·intro h;exact hb h
   ·intro h;rw[e] at h;exfalso;injection h) fun hw=>by rw[hW b hw] at e;exfalso;injection e
  exact eW o'' e'' (kn.trans kn')
noncomputable def zh(cx:Cx)(F:Fm)(tgt:CT)(t:Expr)(scope:Scope)(C D:Addr):Fm:=
 { env:={ zdp scope F.env C (jb F.env scope.names []) with scope:=relabel scope F.env }
   names:=(cx.inner tgt t scope).names
   own:=ownOf scope
   W:=C::(cellsFrom (C+1) scope.names []).map (·.2)
   B:=(D::C::(cellsFrom (C+1) scope.names []).map (·.2))++F.B
   fr:=F.fr }
theorem yl{scope sc:Scope}(h:y9 scope sc=true):scope.kind=.function∧(scope.names.map (·.1)).Nodup∧∀ x k,(x,k)∈scope.names→k=.local∨k=.cell∨k=.globalImplicit∨(k=.free∧sc.names.lookup x=some .cell):=by
 refine fc (and3 h) ?_;intro h1 h2 h3
 refine⟨aS.mp h1,bv h2,fun x k hm=>?_⟩
 have:=aU.mp h3 (x,k) hm
 simpa [bY,aD,aS,or_assoc] using this
theorem vw(f:Str→NameKind→NameKind):∀ (l:List (Str×NameKind)) (x:Str),(l.map fun (n,k)=>(n,f n k)).lookup x=(l.lookup x).map (f x)
 | [],x=>rfl
 | (n,k)::r,x=>by
   rw[a9,bD,bD]
   cases hx:x == n with
   | true=>rw[aS.mp hx];rfl
   | false=>exact vw f r x
section
variable{G:Gl}{F:Fm}{A:Around}{cx:Cx}{tgt:CT}{t:Expr}{scope:Scope}
theorem zek(fit:Fits F cx)(hk:F.env.scope.kind=.function):relabel scope F.env=zai scope cx.sc:=by
 unfold relabel zai
 congr 1
 refine cP fun p uA=>?_
 obtain⟨n,k⟩:=p
 have h1:F.env.kindOf n=cx.sc.names.lookup n:=fit.kind n
 dsimp only
 rw[h1,hk,fit.sck]
theorem gg(fit:Fits F cx)(hk:F.env.scope.kind=.function)(C D:Addr)(x:Str):(zh cx F tgt t scope C D).env.kindOf x=(cx.inner tgt t scope).kind x:=by
 show (relabel scope F.env).names.lookup x=(zai scope cx.sc).names.lookup x
 rw[zek fit hk]
theorem zc7(hsc:y9 scope cx.sc=true)(fit:Fits F cx)(x:Str):(cx.inner tgt t scope).kind x=(match scope.names.lookup x with | some .free=>some .cell | o=>o):=by
 refine fc (yl hsc) ?_;intro h1 h2 h3
 show (zai scope cx.sc).names.lookup x=_
 unfold zai
 have e:(scope.names.map fun (n,k)=>if (k == NameKind.free && cx.sc.kind == ScopeKind.function && cx.sc.names.lookup n == some NameKind.cell) then (n,NameKind.cell) else (n,k)) =
  scope.names.map fun (n,k)=>(n,if (k == NameKind.free && cx.sc.kind == ScopeKind.function && cx.sc.names.lookup n == some NameKind.cell) then NameKind.cell else k):=by
  refine cP fun p uA=>?_
  obtain⟨n,k⟩:=p
  dsimp only
  split <;> rfl
 dsimp only
 rw[e,vw (fun n k=>if (k == NameKind.free && cx.sc.kind == ScopeKind.function && cx.sc.names.lookup n == some NameKind.cell) then NameKind.cell else k)]
 cases hl:scope.names.lookup x with
 | none=>rfl
 | some k=>
   have hm:=(lookup_mem h2).mpr hl
   dsimp only[Option.map]
   rcases h3 x k hm with rfl | rfl | rfl | ⟨rfl,hc⟩
   ·rfl
   ·rfl
   ·rfl
   ·rw[hc,fit.sck];rfl
theorem gh(fit:Fits F cx)(hk:F.env.scope.kind=.function)(hsc:y9 scope cx.sc=true)(C D:Addr):Fits (zh cx F tgt t scope C D) (cx.inner tgt t scope) where
 names:=rfl
 kind:=gg fit hk C D
 sck:=(yl hsc).1
end
section
variable{prog:Program}{w:World}{A:Around}{R:Result→Shared→Prop}{s:Shared}
noncomputable def y8(ifs:List Expr)(env:Env):Sem Bool:=forIn ifs true fun c r=>if r=true then do let ok ← isTrue c env (eval c env);pure (ForInStep.yield ok) else pure (ForInStep.yield r)
theorem k6{elt target iter:Expr}{ifs:List Expr}{scope:Scope}{pos:Pos}{it acc:Value}{env:Env}(I:Nat→Shared→Prop)
 (turn:∀ n s,I n s→wpAny (model prog w) A (pyNext it) (fun r s₁=>match r with
   | none=>R (.ok .next) s₁
   | some v=>wpAny (model prog w) A (letOwnedTupleGo target it v) (fun uA s₁'=>wpAny (model prog w) A (assign target env v) (fun uA s₂=>
      wpAny (model prog w) A (y8 ifs env) (fun ok s₃=>
       if ok=true then wpAny (model prog w) A (eval elt env) (fun x s₄=>
        wpAny (model prog w) A (call (.builtin "list.append") [acc,x]) (fun uA s₅=>∃ m,m < n∧I m s₅) (notedBy (model prog w) A env fun e s'=>R (.error e) s') s₄) (notedBy (model prog w) A env fun e s'=>R (.error e) s') s₃
       else ∃ m,m < n∧I m s₃) (notedBy (model prog w) A env fun e s'=>R (.error e) s') s₂) (notedBy (model prog w) A env fun e s'=>R (.error e) s') s₁') (notedBy (model prog w) A env fun e s'=>R (.error e) s') s₁)
   (notedBy (model prog w) A env fun e s'=>R (.error e) s') s)
 (n:Nat) (h:I n s):codeAny (model prog w) A (.compLoop (.ListComp elt [⟨target,iter,ifs,0⟩] scope pos) 0 it acc env) R s:=by
 refine codeAny_loop rfl I (fun n s hI=>?_) n h
 show wpAny _ A ((compTurn (.ListComp elt [⟨target,iter,ifs,0⟩] scope pos) 0 it acc env).onRaise (fun x=>do noteFrame x env;theTreesLotGoes x)) _ _ s
 refine wpAny_noted ?_
 rw[compTurn_list]
 refine aa (cn (aa (aK (turn n s hI) (fun r s₁ h₁=>?_) fun uA uA h'=>h')))
 cases r with
 | none=>exact ab h₁
 | some v=>
   refine aa (aK h₁ (fun uA s₁' h₁'=>?_) fun uA uA h'=>h')
   refine aa (aK h₁' (fun uA s₂ h₂=>aa (aK h₂ (fun ok s₃ h₃=>?_) fun uA uA h'=>h')) fun uA uA h'=>h')
   cases ok with
   | false=>exact ab ⟨rfl,h₃⟩
   | true=>
     exact aa (aa (aK h₃ (fun x s₄ h₄=>aa (aK h₄ (fun uA s₅ h₅=>ab (ab ⟨rfl,h₅⟩)) fun uA uA h'=>h')) fun uA uA h'=>h'))
end
section
variable{G:Gl}{F:Fm}{A:Around}{cx:Cx}{tgt:CT}{t:Expr}{scope:Scope}{gval:Nat→Option PyData}{gname:Nat→Option Str}
set_option tactic.hygienic true in
theorem zil{β:List Addr}{ρ:Loc}{O:za}{s s':Shared}{C D:Addr}{m:Str→Option Value}{oD:Obj}(fit:Fits F cx)(sr:SR G F β ρ O s.heap)(hsc:y9 scope cx.sc=true)(honce:xf (cx.inner tgt t scope).names=true)
 (kept:∀ b o,s.heap.get? b=some o→s'.heap.get? b=some o) (hns:s'.heap.Ns C m) (ok:CellsOk s'.heap (C+1) (cellsFrom (C+1) scope.names [])) (hlo:∀ a,C≤a→s.heap.get? a=none)
 (hDn:s.heap.get? D=none) (hD:s'.heap.get? D=some oD) (hDc:oD.cls=.type "list"):SR G (zh cx F tgt t scope C D) β (clr (yc tgt) ρ) O s'.heap:=by
 refine fc (yl hsc) ?_;intro k1 k2 k3
 have hkind:=gg (tgt:=tgt) (t:=t) (scope:=scope) fit sr.fm.kind C D
 have hkind':=zc7 (tgt:=tgt) (t:=t) hsc fit
 have hCn:s.heap.get? C=none:=hlo C (aI _)
 have hcn:∀ x c,(x,c)∈cellsFrom (C+1) scope.names []→s.heap.get? c=none:=fun x c hm=>hlo c (Nat.le_of_succ_le (ok.empty x c hm).2)
 have hM:∀ a∈D::C::(cellsFrom (C+1) scope.names []).map (·.2),s.heap.get? a=none:=fun a ha=>by
  refine eS (af.mp ha) ?_ ?_
  ·rintro rfl;exact hDn
  ·intro ha;refine eS (af.mp ha) ?_ ?_
   ·rintro rfl;exact hCn
   ·intro ha;refine eV (aC.mp ha) ?_;intro p hp dY;subst dY
    exact hcn p.1 p.2 hp
 have h0:∀ a,s.heap.get? a=none→G.h₀.get? a=none:=fun a ha=>by
  cases e:G.h₀.get? a with
  | none=>rfl
  | some o=>have:=sr.br.keep a o e;rw[ha] at this;exfalso;injection this
 have lkup:∀ x,(zh cx F tgt t scope C D).env.cells.lookup x=((cellsFrom (C+1) scope.names []).lookup x).or (if (x,NameKind.free)∈scope.names then some ((F.env.cells.lookup x).getD 0) else none):=fun x=>by
  show (cellsFrom (C+1) scope.names (jb F.env scope.names [])).lookup x=_
  rw[xp,List.lookup_append,jj]
  rfl
 have newNone:∀ x,(x,NameKind.free)∈scope.names→(cellsFrom (C+1) scope.names []).lookup x=none:=fun x hx=>by
  cases e:(cellsFrom (C+1) scope.names []).lookup x with
  | none=>rfl
  | some c=>
    refine eS (xo _ _ _ (mem_of_lookup e)) ?_ ?_
    ·intro h;have e1:=(lookup_mem k2).mp hx
     have e2:=(lookup_mem k2).mp h
     rw[e1] at e2;injection e2 with eQ;exfalso;injection eQ
    ·intro h;cases h
 have outer:∀ x,(x,NameKind.free)∈scope.names→∃ c v,F.env.cells.lookup x=some c∧s.heap.IsCell c v∧c∈F.B∧(zh cx F tgt t scope C D).env.cells.lookup x=some c:=fun x hx=>by
  have hc:cx.sc.names.lookup x=some .cell:=by
   rcases k3 x _ hx with h | h | h | ⟨_,h⟩
   ·exfalso;injection h
   ·exfalso;injection h
   ·exfalso;injection h
   ·exact h
  refine ft (sr.fm.cell x ((fit.kind x).trans hc)) ?_;intro c v h1 h2 h3 _
  refine fy c v h1 h2 h3 ?_
  rw[lkup,newNone x hx,ah hx,h1];rfl
 refine⟨(sr.br.grow hM).keepAll kept,⟨k1,sr.fm.globals,sr.fm.builtins,zl0 honce,⟨m,hns⟩,am,fun x hx=>?_,fun x y c hx hy=>?_,fun a ha=>az _ (ag _ ha),?_,fun a ha hb=>?_,fun a ha=>?_,fun a ha=>au _ (sr.fm.frB a ha),fun a ha=>let ⟨m,hm⟩:=sr.fm.frs a ha;⟨m,hm.keeps kept⟩,fun m e=>nomatch e⟩,fun i x v h1 h2=>?_⟩
 ·rw[hkind,hkind'] at hx
  cases hl:scope.names.lookup x with
  | none=>rw[hl] at hx;exfalso;injection hx
  | some k=>
    have hm:=(lookup_mem k2).mpr hl
    rw[hl] at hx
    cases k with
    | cell=>
      refine eZ (bZ.mp (yd scope.names (C+1) [] (.inl hm))) ?_;intro c hc
      have hmem:=mem_of_lookup hc
      have hW:c∈C::(cellsFrom (C+1) scope.names []).map (·.2):=ag _ (aC.mpr ⟨(x,c),hmem,rfl⟩)
      exact fy c none (by rw[lkup,hc];rfl) (ok.empty x c hmem).1 (az _ (ag _ hW)) (fun uA=>hW)
    | free=>
      refine ft (outer x hm) ?_;intro c v h1 h2 h3 h4
      refine fy c v h4 (h2.keeps kept) (au _ h3) (fun ho=>?_)
      have ho:ownOf scope x=true:=ho
      unfold ownOf at ho
      rw[hl] at ho
      exact absurd ho (by decide)
    | _=>injection hx with eQ;exfalso;injection eQ
 ·rw[lkup] at hx hy
  cases e1:(cellsFrom (C+1) scope.names []).lookup x with
  | some c1=>
    rw[e1] at hx
    have:c1=c:=aM hx
    subst this
    cases e2:(cellsFrom (C+1) scope.names []).lookup y with
    | some c2=>
      rw[e2] at hy
      have:c2=c1:=aM hy
      subst this
      exact name_of_addr ok.apart (mem_of_lookup e1) (mem_of_lookup e2)
    | none=>
      rw[e2] at hy
      by_cases hf:(y,NameKind.free)∈scope.names
      ·refine ft (outer y hf) ?_;intro c' v q1 dZ _ _;refine eV dZ ?_;clear dZ;intro o q2 _
       rw[ah hf,q1] at hy
       have:c'=c1:=aM hy
       subst this
       have:=hcn x c' (mem_of_lookup e1)
       rw[q2] at this;exfalso;injection this
      ·rw[ai hf] at hy;exfalso;injection hy
  | none=>
    rw[e1] at hx
    by_cases hf:(x,NameKind.free)∈scope.names
    ·refine ft (outer x hf) ?_;intro c' v q1 dZ _ _;refine eV dZ ?_;clear dZ;intro o q2 _
     rw[ah hf,q1] at hx
     have:c'=c:=aM hx
     subst this
     cases e2:(cellsFrom (C+1) scope.names []).lookup y with
     | some c2=>
       rw[e2] at hy
       have:c2=c':=aM hy
       subst this
       have:=hcn y c2 (mem_of_lookup e2)
       rw[q2] at this;exfalso;injection this
     | none=>
       rw[e2] at hy
       by_cases hf':(y,NameKind.free)∈scope.names
       ·refine fu (outer y hf') ?_;intro c'' v' q1' _
        rw[ah hf',q1'] at hy
        have:c''=c':=aM hy
        subst this
        exact sr.fm.apart x y c'' q1 q1'
       ·rw[ai hf'] at hy;exfalso;injection hy
    ·rw[ai hf] at hx;exfalso;injection hx
 ·have:=zct (F:=F) (fr:=[]) sr.br hM ⟨sr.fm.new.1,sr.fm.new.2.1⟩
  exact⟨this.1,this.2.1,fun hm=>this.2.2 (ag _ hm),sr.fm.new.2.2.2⟩
 ·refine eS (aj.mp ha) ?_ ?_
  ·intro ha;refine eV (sr.br.alive a hb) ?_;intro o e _
   rw[hM a ha] at e;exfalso;injection e
  ·intro ha;exact sr.fm.notBox a ha hb
 ·refine eS (aj.mp ha) ?_ ?_
  ·intro ha;refine eS (af.mp ha) ?_ ?_
   ·rintro rfl;exact eW oD hD (fun uA uA uA=>by rw[hDc];decide)
   ·intro ha;refine eS (af.mp ha) ?_ ?_
    ·rintro rfl;refine fq hns ?_;clear hns;intro o es ep q1 q2 _
     exact eW o q1 (fun vs n q=>by rw[q2] at q;exfalso;injection q)
    ·intro ha;refine eV (aC.mp ha) ?_;intro p hp dY;subst dY
     refine eV (ok.empty p.1 p.2 hp).1 ?_;intro o q1 q2
     exact eW o q1 (fun vs n q=>by rw[q2] at q;exfalso;injection q)
  ·intro ha;refine eV (sr.fm.stor a ha) ?_;intro o q1 q2
   exact eW o (kept _ _ q1) q2
 ·have hi:i∉yc tgt:=fun hm=>gy _ _ _ _ hm h2
  rw[qt _ _ _ hi] at h2
  refine eS (zfn tgt t _ i x h1) ?_ ?_
  ·intro h1;rw[aT] at h1
   cases hn:cx.names[i]? with
   | none=>rw[hn] at h1;exfalso;injection h1
   | some o=>
     rw[hn] at h1
     cases o with
     | none=>injection h1 with eQ;exfalso;injection eQ
     | some y=>
       simp only[Option.map_some,Option.filter,Option.some.injEq] at h1
       split at h1
       ·rename_i hfree
        cases (h1)
        have hfree:scope.names.lookup x=some .free:=aS.mp hfree
        have hm:=(lookup_mem k2).mpr hfree
        refine eV (sr.get i x v (by rw[fit.names];exact hn) h2) ?_;intro val g r
        refine ft (outer x hm) ?_;intro c v' q1 q2 q3 q4
        refine eW val ?_ ((r.grow hM).keepAll kept)
        have hcl:F.env.kindOf x=some .cell:=by
         rcases k3 x _ hm with h | h | h | ⟨_,h⟩
         ·exfalso;injection h
         ·exfalso;injection h
         ·exfalso;injection h
         ·exact (fit.kind x).trans h
        refine eS g ?_ ?_<;>clear g
        ·rintro ⟨g1,_⟩;rw[hcl] at g1;injection g1 with eQ;exfalso;injection eQ
        ·rintro ⟨g1,c',g2,g3⟩;rw [q1] at g2;injection g2 with eQ;subst eQ
         refine .inr ⟨?_,c,q4,g3.keeps kept⟩
         rw[hkind,hkind',hfree]
       ·exfalso;injection h1
  ·intro h1;exact absurd h1 hi
structure StepZ(Z β:List Addr)(s s':Shared)(β':List Addr):Prop where
 gens:s'.gens=s.gens
 os:s'.os=s.os
 pre:β <+: β'
 fresh:∀ a∈β',a∈β∨s.heap.get? a=none
 alive:∀ b o,b∉Z→s.heap.get? b=some o→∃ o',s'.heap.get? b=some o'
 kept:∀ b o,b∉Z→s.heap.get? b=some o→b∉β→∃ o',s'.heap.get? b=some o'∧Kin o o'
theorem StepZ.keptE{Z β:List Addr}{s s':Shared}{β':List Addr}(x:StepZ Z β s s' β'){b:Addr}{o:Obj}(hz:b∉Z)(e:s.heap.get? b=some o)(hb:b∉β)(hd:∀ es n,o.data≠.dict es n):s'.heap.get? b=some o:=by
 refine eV (x.kept b o hz e hb) ?_;intro o' e' k
 rw[e',k.same hd]
theorem Step.z{Z β β':List Addr}{s s' s'':Shared}(st:Step Z β s s' β')(kz:KeepsZ Z s' s''):StepZ Z β s s'' β':=
 ⟨kz.gens.trans st.gens,kz.os.trans st.os,st.pre,st.fresh,fun b o hz e=>let ⟨o',e'⟩:=st.alive b o e;⟨o',kz.kept b o' hz e'⟩,fun b o hz e hb=>let ⟨o',e',kn⟩:=st.kept b o e hb hz;⟨o',kz.kept b o' hz e',kn⟩⟩
theorem Step.thenStepZ{W Z β₀ β β':List Addr}{s₀ s s':Shared}(st:Step W β₀ s₀ s β)(sz:StepZ Z β s s' β')(hz:∀ z∈Z,s₀.heap.get? z=none):Step W β₀ s₀ s' β' where
 gens:=sz.gens.trans st.gens
 os:=sz.os.trans st.os
 pre:=st.pre.trans sz.pre
 fresh:=fun a ha=>by
  refine eS (sz.fresh a ha) ?_ ?_
  ·intro h;exact st.fresh a h
  ·intro h;right
   cases e:s₀.heap.get? a with
   | none=>rfl
   | some o=>refine eZ (st.alive a o e) ?_;intro o' e';rw[e'] at h;exfalso;injection h
 alive:=fun b o e=>by
  refine eZ (st.alive b o e) ?_;intro o' e'
  exact sz.alive b o' (fun h=>by rw[hz b h] at e;exfalso;injection e) e'
 kept:=fun b o e hb hW=>by
  refine eV (st.kept b o e hb hW) ?_;intro o' e' kn
  obtain⟨o'',e'',kn'⟩:=sz.kept b o' (fun h=>by rw[hz b h] at e;exfalso;injection e) e' fun hb'=>by
   refine eS (st.fresh b hb') ?_ ?_
   ·intro h;exact hb h
   ·intro h;rw[e] at h;exfalso;injection h
  exact eW o'' e'' (kn.trans kn')
structure CompEnd(G:Gl)(F:Fm)(scope:Scope)(Z β₁:List Addr)(s₁:Shared)(C D:Addr)(acc:List PyData)(O':za)(s':Shared)(β':List Addr):Prop where
 step:StepZ Z β₁ s₁ s' β'
 br:BR G (D::(C::(cellsFrom (C+1) scope.names []).map (·.2))++F.B) β' O' s'.heap
 list:ListAt s'.heap (D::(C::(cellsFrom (C+1) scope.names []).map (·.2))++F.B) β' D acc
 ns:∃ m,s'.heap.Ns C m
 stor:∀ a∈C::(cellsFrom (C+1) scope.names []).map (·.2),∃ o,s'.heap.get? a=some o∧∀ vs n,o.data=.seq vs n→o.cls≠.type "tuple"
 notBox:∀ a∈D::(C::(cellsFrom (C+1) scope.names []).map (·.2))++F.B,a∉β'
 new:∀ a∈D::C::(cellsFrom (C+1) scope.names []).map (·.2),s₁.heap.get? a=none
 notCell:D∉(cellsFrom (C+1) scope.names []).map (·.2)
 plain:Plain s'.heap D
inductive CInv(G:Gl)(F':Fm)(src:Src)(Z β₁:List Addr)(s₁:Shared)(D:Addr)(ρc:Loc)(St:Nat→List Addr→List Addr→Heap→Prop)(go:List PyData→List PyData→za→Prop)(k:Nat)(s:Shared):Prop
 | mk (i:Nat) (β:List Addr) (O:za) (acc:List PyData) (hk:k=src.xs.length+1 - i) (hi:i≤src.xs.length) (step:Step Z β₁ s₁ s β) (sr:SR G F' β ρc O s.heap) (has:src.Has O) (st:St i F'.B β s.heap)
   (hl:ListAt s.heap F'.B β D acc) (hpl:Plain s.heap D) (hal:acc.length≤i) (hgo:go (src.xs.drop i) acc O)
inductive zk6(evX:za→R za V)(O₂:za):Bool→Option PyData→za→Prop
 | skip:zk6 evX O₂ false none O₂
 | put (d:PyData) (O':za) (h:evX O₂=.ok (.d d) O'):zk6 evX O₂ true (some d) O'
inductive TurnOk(tgt:CT)(evT:Loc→za→R za Bool)(evX:Loc→za→R za V)(ρ:Loc)(x:PyData)(O:za)(y:Option PyData)(O':za):Prop
 | mk (ρ':Loc) (b:Bool) (O₂:za) (hb:zp tgt (.d x) ρ=some ρ') (ht:evT ρ' O=.ok b O₂) (hp:zk6 (evX ρ') O₂ b y O')
theorem zlx{r:R za V}{y:Option PyData}{O':za}(h:(r.bind fun v O=>(match v with | .d y=>R.ok (some y) O | _=>.stuck))=.ok y O'):∃ d,r=.ok (.d d) O'∧y=some d:=by
 cases r with
 | ok v O=>cases v <;> first | (cases h;done) | skip
           exact eW _ (by injection h with eQ eR;subst eQ eR;rfl) (by injection h with eQ eR;subst eQ eR;rfl)
 | _=>exfalso;injection h
theorem zic{tgt:CT}{evT:Loc→za→R za Bool}{evX:Loc→za→R za V}{ρ:Loc}{x:PyData}{O:za}{y:Option PyData}{O':za}(h:xr tgt evT evX ρ x O=.ok y O'):TurnOk tgt evT evX ρ x O y O':=by
 unfold xr at h
 cases hb:zp tgt (.d x) ρ with
 | none=>rw[hb] at h;exfalso;injection h
 | some ρ'=>
   rw[hb] at h
   dsimp only at h
   cases ht:evT ρ' O with
   | ok b O₂=>
     rw[ht] at h
     cases b with
     | false=>injection h with eQ eR;subst eQ eR;exact⟨ρ',false,_,hb,ht,.skip⟩
     | true=>refine eV (zlx h) ?_;intro d e dY;subst dY;exact⟨ρ',true,O₂,hb,ht,.put d O' e⟩
   | _=>rw[ht] at h;exfalso;injection h
inductive GoOk(src:Src)(turn:PyData→za→R za (Option PyData))(x:PyData)(xs acc:List PyData)(O:za)(v:V)(O':za):Prop
 | mk (y:Option PyData) (O₂:za) (ht:turn x O=.ok y O₂) (hs:src.still O₂=true) (hg:yf src turn xs (acc++y.toList) O₂=.ok v O')
theorem zpr{src:Src}{turn:PyData→za→R za (Option PyData)}{x:PyData}{xs acc:List PyData}{O:za}{v:V}{O':za}(h:yf src turn (x::xs) acc O=.ok v O'):GoOk src turn x xs acc O v O':=by
 have h:(match turn x O with
  | .ok y O'=>if src.still O' then yf src turn xs (acc++y.toList) O' else .stuck
  | _=>.stuck)=R.ok v O':=h
 cases ht:turn x O with
 | ok y O₂=>
   rw[ht] at h
   dsimp only at h
   by_cases hs:src.still O₂=true
   ·rw[ah hs] at h;exact⟨y,O₂,ht,hs,h⟩
   ·rw[ai hs] at h;exfalso;injection h
 | _=>rw[ht] at h;exfalso;injection h
theorem wv{F':Fm}{D:Addr}{acc:List PyData}{s s':Shared}{β β':List Addr}{ρ:Loc}{O:za}(hDB:D∈F'.B)(hDW:D∉F'.W)(sr:SR G F' β ρ O s.heap)(st:Step F'.W β s s' β')(h:ListAt s.heap F'.B β D acc):ListAt s'.heap F'.B β' D acc:=by
 obtain⟨o,vs,n,e1,e2,e3,as,e4,e5⟩:=h
 refine fb (zu sr.br sr.fm st e4 e5) ?_;intro q1 q2
 exact⟨o,vs,n,st.keptE e1 (sr.fm.notBox D hDB) hDW (fun es n q=>by rw[e3] at q;exfalso;injection q),e2,e3,as,q1,q2⟩
theorem vd{F':Fm}{D:Addr}{acc:List PyData}{s s':Shared}{β β':List Addr}{ρ:Loc}{O:za}(hDB:D∈F'.B)(hDW:D∉F'.W)(sr:SR G F' β ρ O s.heap)(st:Step F'.W β s s' β')(p:Plain s.heap D)(h:ListAt s.heap F'.B β D acc):Plain s'.heap D:=by
 obtain⟨o,vs,n,e1,e2,e3,as,e4,e5⟩:=h
 exact p.at fun o e=>st.keptE e (sr.fm.notBox D hDB) hDW (fun es n q=>by rw[e1] at e;injection e with eQ;subst eQ;rw[e3] at q;exfalso;injection q)
theorem zhq{F':Fm}{D:Addr}{acc:List PyData}{s:Shared}{β:List Addr}{ρ:Loc}{O:za}{v:Value}{y:PyData}{Q:Value→Shared→Prop}{E:Value→Shared→Prop}(hDB:D∈F'.B)(sr:SR G F' β ρ O s.heap)(rv:VR G F'.B β s.heap v (.d y))(hl:ListAt s.heap F'.B β D acc)(hpl:Plain s.heap D)(hn:acc.length≤line)
 (k:∀ h',(∀ b o,b≠D→s.heap.get? b=some o→h'.get? b=some o)→(∃ o,h'.get? D=some o)→SR G F' β ρ O h'→(∀ v x,VR G F'.B β s.heap v (.d x)→VR G F'.B β h' v (.d x))→ListAt h' F'.B β D (acc++[y])→Plain h' D→Q .none { s with heap:=h' }) :
 wpAny (model G.prog G.w) A (call (.builtin "list.append") [.ref D,v]) Q E s:=by
 obtain⟨o,vs,n,e1,e2,e3,as,e4,e5⟩:=hl
 have hvl:=zd e4
 have hvs:vs.size≤sizeLine:=by
  rw[← av,hvl]
  exact aq hn (by decide)
 have hPL:s.heap.PlainList D vs:=by
  refine fj hpl ?_;clear hpl;intro o₉ g1 g2 g3
  rw[e1] at g1;injection g1 with eQ;subst eQ
  obtain⟨cl,di,da,sl⟩:=o
  simp only at e2 e3 g2 g3
  subst e2 e3 g2 g3
  exact fe n e1
 refine wpAny_list_append_plain hPL (fun h' hl₆ hs₆=>?_) hvs
 refine eZ hl₆ ?_;clear hl₆;intro n' f1
 have hs':∀ b o,b≠D→s.heap.get? b=some o→h'.get? b=some o:=fun b o hb e=>(hs₆.2 b hb).trans e
 have tup:∀ o₂ vs₂ n₂,s.heap.get? D=some o₂→o₂.data=.seq vs₂ n₂→o₂.cls≠.type "tuple":=fun o₂ vs₂ n₂ e₂ uA=>by rw [e1] at e₂;injection e₂ with eQ;subst eQ;rw [e2];decide
 have vr:∀ v x,VR G F'.B β s.heap v (.d x)→VR G F'.B β h' v (.d x):=fun v x r=>r.but hs' hDB tup
 obtain⟨bs,r5,q5⟩:=vr _ _ rv
 have r4:ReadsAll h' vs.toList acc as:=xm (P:=fun a=>a≠D) (fun a o e p=>hs' a o p e) (fun a o vs n e hc hd=>fun e'=>by subst e';exact tup o vs n e hd hc) e4 fun a ha e'=>(e5 a ha).2 (e' ▸ hDB)
 refine k h' hs' ⟨_,f1⟩ (sr.but (n':=n') (vs':=vs) hs' hDB e1 e2 e3 f1 rfl) vr ⟨_,_,n',f1,rfl,rfl,as++(bs++[]),?_,fun a ha=>?_⟩ ⟨_,f1,rfl,rfl⟩
 ·rw[Array.toList_push]
  exact yx r4 (.cons r5 .nil)
 ·rw[ba] at ha
  exact (aj.mp ha).elim (e5 a) (q5 a)
theorem zhr{elt iter:Expr}{ifs:List Expr}{pos:Pos}{src:Src}{I D:Addr}{Z:List Addr}{St:Nat→List Addr→List Addr→Heap→Prop}{evT:Loc→za→R za Bool}{evX:Loc→za→R za V}{F':Fm}{cx':Cx}{own:Str→Bool}
 (g:GOk G gval gname) (hh:A.handled=none) (fit':Fits F' cx') (hown:∀ x,own x=true→F'.own x=true) (hc:chkT cx' own tgt t=true)
 (ht:∀ s β ρ O,SR G F' β ρ O s.heap→Does G F' A s β (y8 ifs F'.env) ((evT ρ O).lift ρ) BRel)
 (he:∀ s β ρ O,SR G F' β ρ O s.heap→Does G F' A s β (eval elt F'.env) ((evX ρ O).lift ρ) (VRel G F'))
 (W:Turns G A t I Z src St) {s₁ s:Shared} {β₁:List Addr} {ρ:Loc} {O₁:za} (hz0:∀ z∈Z,G.h₀.get? z=none) (hzF:∀ z∈Z,z∉F'.B) (hDn:s₁.heap.get? D=none) (hWn:∀ a∈F'.W,s₁.heap.get? a=none) (hDW:D∉F'.W) (hDB:D∈F'.B)
 (hlen:src.xs.length≤line) (step:Step Z β₁ s₁ s β₁) (sr:SR G F' β₁ (clr (yc tgt) ρ) O₁ s.heap) (has:src.Has O₁) (st:St 0 F'.B β₁ s.heap) (hlist:s.heap.PlainList D #[])
 {v:V} {O':za} (hgo:yf src (xr tgt evT evX ρ) src.xs [] O₁=.ok v O') {R:Result→Shared→Prop}
 (hR:∀ s' β' res,v=.d (.list res)→StepZ Z β₁ s₁ s' β'→SR G F' β' (clr (yc tgt) ρ) O' s'.heap→ListAt s'.heap F'.B β' D res→Plain s'.heap D→R (.ok .next) s') :
 codeAny (model G.prog G.w) A (.compLoop (.ListComp elt [⟨t,iter,ifs,0⟩] scope pos) 0 (.ref I) (.ref D) F'.env) R s:=by
 refine eZ hlist ?_;clear hlist;intro n e1
 refine k6 (CInv G F' src Z β₁ s₁ D (clr (yc tgt) ρ) St fun xs acc O=>yf src (xr tgt evT evX ρ) xs acc O=.ok v O') ?_ (src.xs.length+1) ⟨0,β₁,O₁,[],rfl,be _,step,sr,has,st,⟨_,_,n,e1,rfl,rfl,[],.nil,fun uA h=>nomatch h⟩,⟨_,e1,rfl,rfl⟩,aI _,hgo⟩
 clear hgo st has sr step e1
 intro k s hI
 obtain⟨i,β,O,acc,rfl,hi,step,sr,has,st,hl,hpl,hal,hgo⟩:=hI
 have hitr:=W.itr _ _ _ _ st
 by_cases hlt:i < src.xs.length
 ·rw[List.drop_eq_getElem_cons hlt] at hgo
  have hx:src.xs[i]?=some src.xs[i]:=ao hlt
  generalize src.xs[i]=x at hgo hx
  obtain⟨y,O₃,ht',hst,hgo⟩:=zpr hgo
  obtain⟨ρ',b,O₂,hbt,het,hput⟩:=zic ht'
  refine W.item i _ β O s x _ _ hx sr.br has st fun v s₂ kk=>?_
  refine kk _ _ fun s' kz rv st'=>?_
  have sr':=sr.keepZ hitr kz.kept g.clsRef hz0 hzF
  have step':Step Z β₁ s₁ s' β:=⟨kz.gens.trans step.gens,kz.os.trans step.os,step.pre,step.fresh,fun b o e=>by
   by_cases hb:b∈Z
   ·refine fk (W.itr _ _ _ _ st' b hb) ?_;intro o' _ _ e' _;exact fe o' e'
   ·refine eZ (step.alive b o e) ?_;intro o' e';exact fe o' (kz.kept b o' hb e'),fun b o e hb hz=>let ⟨o',e',kn⟩:=step.kept b o e hb hz;⟨o',kz.kept b o' hz e',kn⟩⟩
  have hl':ListAt s'.heap F'.B β D acc:=BoxAt.keepZ (bx:=.lst acc) hitr kz.kept hl
  have hpl':Plain s'.heap D:=hpl.at fun o e=>kz.kept D o (fun h=>hzF D h hDB) e
  have da:=xc (A:=A) hh fit' hown tgt hc sr' rv
  unfold bindR at da
  dsimp only at da
  rw[zhx,hbt] at da
  dsimp only at da
  refine da _ _ fun s₃ β₃ uA st₃ sr₃ uA=>?_
  have step₃:=step'.thenW st₃ hWn
  have stZ₃:=W.over sr' hzF st' st₃
  have hl₃:=wv hDB hDW sr' st₃ hl'
  have hpl₃:=vd hDB hDW sr' st₃ hpl' hl'
  have clear':∀ {s β O},SR G F' β ρ' O s→SR G F' β (clr (yc tgt) ρ) O s:=fun sr=>sr.fewer fun j v hv=>by
   have hj:j∉yc tgt:=fun hm=>gy _ _ _ _ hm hv
   rw[qt _ _ _ hj] at hv
   rw[zdw tgt _ ρ ρ' hbt j hj];exact hv
  have dt:=ht s₃ β₃ ρ' O sr₃
  rw[het] at dt
  refine dt _ _ fun s₄ β₄ b' st₄ sr₄ hb=>?_
  have hb:b'=b:=hb
  subst hb
  have step₄:=step₃.thenW st₄ hWn
  have stZ₄:=W.over sr₃ hzF stZ₃ st₄
  have hl₄:=wv hDB hDW sr₃ st₄ hl₃
  have hpl₄:=vd hDB hDW sr₃ st₄ hpl₃ hl₃
  have hk:src.xs.length+1 - (i+1) < src.xs.length+1 - i:=by lia
  cases hput with
  | skip=>
    rw[ai (by decide)]
    rw[Option.toList_none,ba] at hgo
    exact⟨_,hk,i+1,β₄,_,acc,rfl,hlt,step₄,clear' sr₄,Src.has_of hst,stZ₄,hl₄,hpl₄,cZ hal,hgo⟩
  | put y _ hex=>
    rw[ah rfl]
    have dx:=he s₄ β₄ ρ' O₂ sr₄
    rw[hex] at dx
    refine dx _ _ fun s₅ β₅ v₅ st₅ sr₅ rv₅=>?_
    have step₅:=step₄.thenW st₅ hWn
    have stZ₅:=W.over sr₄ hzF stZ₄ st₅
    refine zhq hDB sr₅ rv₅ (wv hDB hDW sr₄ st₅ hl₄) (vd hDB hDW sr₄ st₅ hpl₄ hl₄) (aq hal (aq (cw hlt) hlen)) fun h' hs' hD sr₆ vr₆ hl₆ hpl₆=>?_
    refine⟨_,hk,i+1,β₅,O₃,acc++[y],rfl,hlt,?_,clear' sr₆,Src.has_of hst,W.keep _ _ _ _ _ _ _ stZ₅ (fun z hz o e=>hs' z o (fun e'=>hzF z hz (e' ▸ hDB)) e) vr₆ (bt _),hl₆,hpl₆,by rw[bj];exact cr hal,hgo⟩
    exact⟨step₅.gens,step₅.os,step₅.pre,step₅.fresh,fun b o e=>by
     by_cases hb:b=D
     ·subst hb;exact hD
     ·refine eZ (step₅.alive b o e) ?_;intro o₂ e₂;exact fe o₂ (hs' b o₂ hb e₂),fun b o e hb hz=>let ⟨o',e',kn⟩:=step₅.kept b o e hb hz;⟨o',hs' b o' (fun e₂=>by subst e₂;rw[hDn] at e;exfalso;injection e) e',kn⟩⟩
 ·have hie:i=src.xs.length:=by lia
  rw[hie,List.drop_length] at hgo
  have hgo:Mine.R.ok (V.d (.list acc)) O=Mine.R.ok v O':=hgo
  injection hgo with eQ eR;subst eQ eR
  refine W.done i _ β _ s _ _ hie.symm sr.br has st fun s' kz=>?_
  exact hR s' β acc rfl (step.z kz) (sr.keepZ hitr kz.kept g.clsRef hz0 hzF) (BoxAt.keepZ (bx:=.lst _) hitr kz.kept hl) (hpl.at fun o e=>kz.kept D o (fun h=>hzF D h hDB) e)
theorem zfh{elt iter:Expr}{ifs:List Expr}{pos:Pos}{src:Src}{I C D:Addr}{Z:List Addr}{St:Nat→List Addr→List Addr→Heap→Prop}{evT:Loc→za→R za Bool}{evX:Loc→za→R za V}
 (g:GOk G gval gname) (hh:A.handled=none) (fit':Fits (zh cx F tgt t scope C D) (cx.inner tgt t scope)) (hc:chkT (cx.inner tgt t scope) (ownOf scope) tgt t=true)
 (ht:∀ s β ρ O,SR G (zh cx F tgt t scope C D) β ρ O s.heap→Does G (zh cx F tgt t scope C D) A s β (y8 ifs (zh cx F tgt t scope C D).env) ((evT ρ O).lift ρ) BRel)
 (he:∀ s β ρ O,SR G (zh cx F tgt t scope C D) β ρ O s.heap→Does G (zh cx F tgt t scope C D) A s β (eval elt (zh cx F tgt t scope C D).env) ((evX ρ O).lift ρ) (VRel G (zh cx F tgt t scope C D)))
 (W:Turns G A t I Z src St) {s₁ s:Shared} {β₁:List Addr} {ρ:Loc} {O₁:za} (hz1:∀ z∈Z,Itr s₁.heap z) (hz0:∀ z∈Z,G.h₀.get? z=none) (hzB:∀ z∈Z,z∉F.B)
 (hM:∀ a∈D::C::(cellsFrom (C+1) scope.names []).map (·.2),s₁.heap.get? a=none) (hDC:D≠C) (hDcell:∀ x,(x,D)∉cellsFrom (C+1) scope.names [])
 (hlen:src.xs.length≤line)
 (step:Step Z β₁ s₁ s β₁) (sr:SR G (zh cx F tgt t scope C D) β₁ (clr (yc tgt) ρ) O₁ s.heap) (has:src.Has O₁) (st:St 0 (zh cx F tgt t scope C D).B β₁ s.heap) (hlist:s.heap.PlainList D #[])
 {res:List PyData} {O':za}
 (hgo:yf src (xr tgt evT evX ρ) src.xs [] O₁=.ok (.d (.list res)) O') {R:Result→Shared→Prop}
 (hR:∀ s' β',CompEnd G F scope Z β₁ s₁ C D res O' s' β'→R (.ok .next) s') :
 codeAny (model G.prog G.w) A (.compLoop (.ListComp elt [⟨t,iter,ifs,0⟩] scope pos) 0 (.ref I) (.ref D) (zh cx F tgt t scope C D).env) R s:=by
 have hzF:∀ z∈Z,z∉(zh cx F tgt t scope C D).B:=fun z hz hm=>by
  refine eS (aj.mp hm) ?_ ?_
  ·intro hm;refine fk (hz1 z hz) ?_;intro o _ _ e _
   rw[hM z hm] at e;exfalso;injection e
  ·intro hm;exact hzB z hz hm
 have hDW:D∉(zh cx F tgt t scope C D).W:=fun hm=>by
  refine eS (af.mp hm) ?_ ?_
  ·intro e;exact hDC e
  ·intro hm;refine eV (aC.mp hm) ?_;intro p hp e
   exact hDcell p.1 (by rw[← e];exact hp)
 refine zhr g hh fit' (fun x h=>h) hc ht he W hz0 hzF (hM D am) (fun a ha=>hM a (ag _ ha)) hDW am hlen step sr has st hlist hgo fun s' β res' e sz sr' hl hpl=>?_
 injection e with eQ;injection eQ with eQ;subst eQ
 exact hR s' β ⟨sz,sr'.br,hl,sr'.fm.ns,fun a ha=>sr'.fm.stor a (az _ (ag _ ha)),sr'.fm.notBox,hM,fun hm=>hDW (ag _ hm),hpl⟩
end
noncomputable def Fm.plus(F:Fm)(M:List Addr):Fm:={ F with B:=M++F.B }
section
variable{G:Gl}{F:Fm}{A:Around}{Z β β' N M:List Addr}{O O':za}{ρ:Loc}{s s':Shared}(hz:∀ z∈Z,Itr s.heap z)(hc:∀ c,∃ C,G.cls c=.ref C)(sz:StepZ Z β s s' β')
include hz sz
theorem zb0{as:List Addr}(al:∀ a∈as,∃ o,s.heap.get? a=some o)(q:∀ a∈as,a∉β∧a∉N):∀ a∈as,a∉β'∧a∉N:=fun a ha=>by
 refine⟨fun hb=>?_,(q a ha).2⟩
 refine eS (sz.fresh a hb) ?_ ?_
 ·intro h;exact (q a ha).1 h
 ·intro h;refine eZ (al a ha) ?_;intro o e;rw[e] at h;exfalso;injection h
theorem w9(br:BR G N β O s.heap){v:Value}{x:PyData}{as:List Addr}(r:Reads s.heap v x as)(q:∀ a∈as,a∉β∧a∉N):Reads s'.heap v x as∧∀ a∈as,a∉β'∧a∉N:=by
 refine⟨qg (P:=fun a=>a∉β∧a∉Z) (fun a o e p=>sz.kept a o p.2 e p.1) (fun a o vs n e hcl hd=>⟨fun hb=>?_,notZ hz e fun fs h=>by rw[hd] at h;exfalso;injection h⟩) r fun a ha=>⟨(q a ha).1,let ⟨o,e,hd⟩:=wo r a ha;notZ hz e hd⟩,zb0 hz sz (y6 r) q⟩
 refine eV (br.alive a hb) ?_;intro o' e' h'
 rw[e] at e';injection e' with eQ;subst eQ
 rw[hcl] at h'
 (refine eS h' ?_ ?_<;>clear h';rotate_left;intro h';rotate_right;intro h') <;> exact absurd h' (by decide)
theorem ItsR.stepZ(br:BR G N β O s.heap){vs:List Value}{its:List It}(r:ItsR N β s.heap vs its):ItsR N β' s'.heap vs its:=by
 induction r with
 | nil=>exact .nil
 | b h1 _ ih=>exact .b (xn sz.pre h1) ih
 | x h1 h2 _ ih=>refine fb (w9 hz sz br h1 h2) ?_;intro r' q';exact .x r' q' ih
include hc in
theorem VR.stepZ(br:BR G N β O s.heap){v:Value}{x:V}(r:VR G N β s.heap v x):VR G N β' s'.heap v x:=by
 have nb:∀ {a:Addr} {o:Obj},s.heap.get? a=some o→a∉β→a∉β':=fun e h hb=>by
  refine eS (sz.fresh _ hb) ?_ ?_
  ·intro h';exact h h'
  ·intro h';rw[e] at h';exfalso;injection h'
 cases x with
 | d x=>obtain⟨as,r,q⟩:=r;refine fb (w9 hz sz br r q) ?_;intro r' q';exact⟨as,r',q'⟩
 | box n=>obtain⟨a,h1,h2⟩:=r;exact⟨a,xn sz.pre h1,h2⟩
 | tm its=>
   obtain⟨a,o,vs,k,rfl,h1,h2,h3,h4⟩:=r
   refine⟨a,o,vs,k,rfl,sz.keptE (notZ hz h1 fun fs h=>by rw[h3] at h;exfalso;injection h) h1 (fun hb=>?_) (fun es n q=>by rw[h3] at q;exfalso;injection q),h2,h3,ItsR.stepZ hz sz br h4⟩
   refine eV (br.alive a hb) ?_;intro o' e' h'
   rw[h1] at e';injection e' with eQ;subst eQ
   rw[h2] at h'
   (refine eS h' ?_ ?_<;>clear h';rotate_left;intro h';rotate_right;intro h') <;> exact absurd h' (by decide)
include hc in
theorem SR.outerZ(sr:SR G F β ρ O s.heap)(hzB:∀ z∈Z,z∉F.B)(hM:∀ a∈M,s.heap.get? a=none)(br:BR G (M++F.B) β' O' s'.heap)(nb:∀ a∈M++F.B,a∉β')
 (hst:∀ a∈M,∃ o,s'.heap.get? a=some o∧∀ vs n,o.data=.seq vs n→o.cls≠.type "tuple"):SR G (F.plus M) β' ρ O' s'.heap:=by
 have hB:∀ a∈F.B,∀ o,s.heap.get? a=some o→∃ o',s'.heap.get? a=some o'∧Kin o o':=fun a ha o e=>sz.kept a o (fun h=>hzB a h ha) e (sr.fm.notBox a ha)
 have hL:F.env.locals∈F.B:=sr.fm.sub _ sr.fm.nsW
 have hns:∀ m,s.heap.Ns F.env.locals m→s'.heap.Ns F.env.locals m:=fun m hm=>Kin.ns hm (hB _ hL)
 refine⟨br,⟨sr.fm.kind,sr.fm.globals,sr.fm.builtins,sr.fm.once,?_,sr.fm.nsW,?_,sr.fm.apart,fun a ha=>au _ (sr.fm.sub a ha),?_,nb,fun a ha=>?_,fun a ha=>au _ (sr.fm.frB a ha),fun a ha=>let ⟨m,hm⟩:=sr.fm.frs a ha;⟨m,Kin.ns hm (hB a (sr.fm.frB a ha))⟩,fun m e=>⟨hns m (sr.fm.pin m e).1,(sr.fm.pin m e).2⟩⟩,fun i x v h1 h2=>?_⟩
 ·obtain⟨m,hm⟩:=sr.fm.ns;exact fe m (hns m hm)
 ·intro x hx
  refine ft (sr.fm.cell x hx) ?_;intro c v h3 h4 h6 h7
  exact fy c v h3 (Kin.cell h4 (hB c h6)) (au _ h6) h7
 ·have:=zct (F:=F) (fr:=[]) sr.br hM ⟨sr.fm.new.1,sr.fm.new.2.1⟩
  exact⟨this.1,this.2.1,sr.fm.new.2.2⟩
 ·refine eS (aj.mp ha) ?_ ?_
  ·intro ha;exact hst a ha
  ·intro ha;refine eV (sr.fm.stor a ha) ?_;intro o h1 h2
   refine eV (hB a ha o h1) ?_;intro o' e' kn
   exact eW o' e' (fun vs n hv=>by rw[kn.cls];exact h2 vs n (kn.data.symm.trans hv))
 ·refine eV (sr.get i x v h1 h2) ?_;intro val g r
  refine eW val ?_ ((r.grow hM).stepZ hz hc sz (sr.br.grow hM))
  refine eS g ?_ ?_<;>clear g
  ·rintro ⟨g1,m,g2,g3⟩;exact .inl ⟨g1,m,hns m g2,g3⟩
  ·rintro ⟨g1,c,g2,g3⟩;refine ft (sr.fm.cell x g1) ?_;intro c' v' h3 h4 h6 h7
   rw[g2] at h3;injection h3 with eQ;subst eQ
   exact .inr ⟨g1,c,g2,Kin.cell g3 (hB c h6)⟩
end
section
variable{G:Gl}{F:Fm}{A:Around}{β β₁ N M:List Addr}{O:za}{ρ:Loc}{h h' h₁:Heap}
theorem ItsR.less{N':List Addr}(hs:∀ a∈N,a∈N'){vs:List Value}{its:List It}(r:ItsR N' β h vs its):ItsR N β h vs its:=by
 induction r with
 | nil=>exact .nil
 | b h1 _ ih=>exact .b h1 ih
 | x h1 h2 _ ih=>exact .x h1 (fun a ha=>⟨(h2 a ha).1,fun hn=>(h2 a ha).2 (hs a hn)⟩) ih
theorem VR.less{N':List Addr}(hs:∀ a∈N,a∈N'){v:Value}{x:V}(r:VR G N' β h v x):VR G N β h v x:=by
 cases x with
 | d x=>obtain⟨as,r,q⟩:=r;exact⟨as,r,fun a ha=>⟨(q a ha).1,fun hn=>(q a ha).2 (hs a hn)⟩⟩
 | box n=>exact r
 | tm its=>obtain⟨a,o,vs,k,e,h1,h2,h3,h4⟩:=r;exact⟨a,o,vs,k,e,h1,h2,h3,h4.less hs⟩
theorem SR.drop{C:Addr}(fm:FmOk G F β₁ h₁)(sr:SR G (F.plus M) β ρ O h)(hC:C∈M)(hCB:C∉F.B)(hs:∀ b o,b≠C→h.get? b=some o→h'.get? b=some o):SR G F β ρ O h':=by
 have hCM:C∈(F.plus M).B:=az _ hC
 have ht:∀ o vs n,h.get? C=some o→o.data=.seq vs n→o.cls≠.type "tuple":=fun o vs n e hd=>by
  refine eV (sr.fm.stor C hCM) ?_;intro o' e' q
  rw[e] at e';injection e' with eQ;subst eQ
  exact q vs n hd
 have sub:∀ a∈F.B,a∈(F.plus M).B:=fun a ha=>au _ ha
 have hL:F.env.locals∈F.B:=fm.sub _ fm.nsW
 have hB:∀ a∈F.B,∀ o,h.get? a=some o→h'.get? a=some o:=fun a ha o e=>hs a o (fun e'=>hCB (e' ▸ ha)) e
 have hns:∀ m,h.Ns F.env.locals m→h'.Ns F.env.locals m:=fun m ⟨o,es,ep,h1,r⟩=>⟨o,es,ep,hB _ hL o h1,r⟩
 refine⟨(sr.br.but hs hCM (sr.fm.notBox C hCM) (sr.fm.newB hCM fun e=>hCB (e ▸ fm.new.2.1)) ht).less sub,⟨sr.fm.kind,sr.fm.globals,sr.fm.builtins,sr.fm.once,?_,sr.fm.nsW,?_,sr.fm.apart,fm.sub,fm.new,fun a ha=>sr.fm.notBox a (sub a ha),fun a ha=>?_,fm.frB,fun a ha=>?_,fun m e=>⟨hns m (sr.fm.pin m e).1,(sr.fm.pin m e).2⟩⟩,fun i x v h1 h2=>?_⟩
 ·obtain⟨m,hm⟩:=sr.fm.ns;exact fe m (hns m hm)
 ·intro x hx
  refine ft (sr.fm.cell x hx) ?_;intro c v h3 dZ _ h7;refine eV dZ ?_;clear dZ;intro o h4 h5
  refine ft (fm.cell x hx) ?_;intro c' _ q1 _ q2 q3
  have:F.env.cells.lookup x=some c:=h3
  rw[this] at q1;injection q1 with eQ;subst eQ
  exact fy c v h3 ⟨o,hB c q2 o h4,h5⟩ q2 q3
 ·refine eV (sr.fm.stor a (sub a ha)) ?_;intro o h1 h2
  exact eW o (hB a ha o h1) h2
 ·refine fi (sr.fm.frs a ha) ?_;intro m o es ep h1 h2
  exact⟨m,o,es,ep,hB a (fm.frB a ha) o h1,h2⟩
 ·refine eV (sr.get i x v h1 h2) ?_;intro val g r
  refine eW val ?_ ((r.but hs hCM ht).less sub)
  refine eS g ?_ ?_<;>clear g
  ·rintro ⟨g1,m,g2,g3⟩;exact .inl ⟨g1,m,hns m g2,g3⟩
  ·rintro ⟨g1,c,g2,o,g3,g4⟩;refine ft (fm.cell x g1) ?_;intro c' _ q1 _ q2 q3
   have g2':F.env.cells.lookup x=some c:=g2
   rw[g2'] at q1;injection q1 with eQ;subst eQ
   exact .inr ⟨g1,c,g2,o,hB c q2 o g3,g4⟩
end
section
variable{G:Gl}{F:Fm}{A:Around}{cx:Cx}{tgt:CT}{t:Expr}{scope:Scope}{gval:Nat→Option PyData}{gname:Nat→Option Str}
theorem za4{elt iter:Expr}{ifs:List Expr}{pos:Pos}{src:Src}{I:Addr}{Z:List Addr}{St:Nat→List Addr→List Addr→Heap→Prop}{evT:Loc→za→R za Bool}{evX:Loc→za→R za V}{E:Value→Shared→Prop}
 (g:GOk G gval gname) (hh:A.handled=none) (fit:Fits F cx) (hsc:y9 scope cx.sc=true) (honce:xf (cx.inner tgt t scope).names=true) (hc:chkT (cx.inner tgt t scope) (ownOf scope) tgt t=true)
 (ht:∀ C D s β ρ O,SR G (zh cx F tgt t scope C D) β ρ O s.heap→Does G (zh cx F tgt t scope C D) A s β (y8 ifs (zh cx F tgt t scope C D).env) ((evT ρ O).lift ρ) BRel)
 (he:∀ C D s β ρ O,SR G (zh cx F tgt t scope C D) β ρ O s.heap→Does G (zh cx F tgt t scope C D) A s β (eval elt (zh cx F tgt t scope C D).env) ((evX ρ O).lift ρ) (VRel G (zh cx F tgt t scope C D)))
 (W:Turns G A t I Z src St) {s₁:Shared} {β₁:List Addr} {ρ:Loc} {O₁:za} (sr₁:SR G F β₁ ρ O₁ s₁.heap) (hz0:∀ z∈Z,G.h₀.get? z=none) (hzB:∀ z∈Z,z∉F.B)
 (hlen:src.xs.length≤line) (has:src.Has O₁) (st:St 0 F.B β₁ s₁.heap) {res:List PyData} {O':za} (hgo:yf src (xr tgt evT evX ρ) src.xs [] O₁=.ok (.d (.list res)) O') {RR:Value→Addr→Result→Shared→Prop}
 (hR:∀ C D s' β',CompEnd G F scope Z β₁ s₁ C D res O' s' β'→RR (.ref D) C (.ok .next) s') :
 wpAny (model G.prog G.w) A (newList []) (fun acc s₃=>wpAny (model G.prog G.w) A (newFunctionEnv scope F.env.globals (jb F.env scope.names []) [] F.env.qual none .none (some F.env)) (fun cenv s₄=>
  codeAny (model G.prog G.w) A (.compStart (.ListComp elt [⟨t,iter,ifs,0⟩] scope pos) 0 (.ref I) acc { cenv with scope:=relabel scope F.env }) (RR acc cenv.locals) s₄) E s₃) E s₁:=by
 refine cC ?_
 refine zdo fun s₄ ka hns ok=>?_
 have kp:=KeepsAll.push s₁ { cls:=.type "list",data:=.seq ([]:List Value).toArray } s₁.toks
 have ka1:KeepsAll s₁ s₄:=kp.trans ka
 generalize hD:s₁.heap.objs.size=D at *
 have hCe:(s₁.heap.push { cls:=.type "list",data:=.seq ([]:List Value).toArray }).objs.size=D+1:=by rw [bo,hD]
 dsimp only at hns ok ⊢
 rw[hCe] at hns ok ⊢
 have hlo:∀ a,D≤a→s₁.heap.get? a=none:=fun a ha=>bg (by rw[hD];exact ha)
 have hDo:s₄.heap.get? D=some { cls:=.type "list",data:=.seq ([]:List Value).toArray }:=ka.kept _ _ (by rw [← hD];exact ay _ rfl)
 have hM:∀ a∈D::(D+1)::(cellsFrom (D+1+1) scope.names []).map (·.2),s₁.heap.get? a=none:=fun a ha=>by
  refine eS (af.mp ha) ?_ ?_
  ·rintro rfl;exact hlo _ (aI _)
  ·intro ha;refine eS (af.mp ha) ?_ ?_
   ·rintro rfl;exact hlo _ (cJ _)
   ·intro ha;refine eV (aC.mp ha) ?_;intro p hp dY;subst dY
    exact hlo _ (by have:=(ok.empty p.1 p.2 hp).2;lia)
 have sr₄:=zil (C:=D+1) (D:=D) (tgt:=tgt) (t:=t) fit sr₁ hsc honce ka1.kept hns ok (fun a ha=>hlo a (Nat.le_of_succ_le ha)) (hlo _ (aI _)) hDo rfl
 have fit':=gh (tgt:=tgt) (t:=t) (scope:=scope) fit sr₁.fm.kind hsc (D+1) D
 have hz1:=W.itr _ _ _ _ st
 have st₄:St 0 (zh cx F tgt t scope (D+1) D).B β₁ s₄.heap:=W.keep 0 F.B _ β₁ β₁ s₁.heap s₄.heap st (fun z hz o e=>ka1.kept z o e) (fun v x r=>(r.grow hM).keepAll ka1.kept) (bt _)
 have loop:codeAny (model G.prog G.w) A (.compLoop (.ListComp elt [⟨t,iter,ifs,0⟩] scope pos) 0 (.ref I) (.ref D) (zh cx F tgt t scope (D+1) D).env) (RR (.ref D) (D+1)) s₄:=
  zfh g hh fit' hc (ht _ _) (he _ _) W hz1 hz0 hzB hM (a8 (cL D)) (fun x hm=>by have:=(ok.empty x D hm).2;lia) hlen (ka1.step _ _) sr₄ has st₄ ⟨_,hDo⟩ hgo (hR _ _)
 exact codeAny_compStart_list loop (W.self 0 _ _ _ _ _ st₄ loop)
end
theorem BR.addBox{G:Gl}{N β:List Addr}{O:za}{h:Heap}{D:Addr}{xs:List PyData}(b:BR G (D::N) β O h)(l:ListAt h (D::N) β D xs)(hb:D∉β)(h0:G.h₀.get? D=none)(hpl:Plain h D):BR G N (β++[D]) (O++[.lst xs]) h:=by
 have ap:∀ {as:List Addr},(∀ a∈as,a∉β∧a∉D::N)→∀ a∈as,a∉β++[D]∧a∉N:=fun q a ha=>by
  refine fb (q a ha) ?_;intro q1 q2
  refine⟨fun hm=>?_,fun hm=>q2 (ag _ hm)⟩
  refine eS (aj.mp hm) ?_ ?_
  ·intro hm;exact q1 hm
  ·intro hm;rw[ae.mp hm] at q2;exact q2 am
 refine⟨b.keep,by simp[b.len],?_,fun a ha=>?_,fun i a bx h1 h2=>?_,fun a ha=>(aj.mp ha).elim (b.plain a) fun h=>by rw[ae.mp h];exact hpl⟩
 ·rw[cj]
  exact⟨b.nodup,by simp,fun a ha c hc=>by rw[ae.mp hc];exact fun e=>hb (e ▸ ha)⟩
 ·refine eS (aj.mp ha) ?_ ?_
  ·intro h;exact b.new a h
  ·intro h;rw[ae.mp h];exact h0
 ·refine eS (bm i β.length) ?_ ?_
  ·intro hi;rw[aJ hi] at h1
   rw[aJ (by rw[← b.len];exact hi)] at h2
   have hx:=b.at_ i a bx h1 h2
   cases bx with
   | lst ys=>obtain⟨o,vs,n,e1,e2,e3,as,e4,e5⟩:=hx;exact⟨o,vs,n,e1,e2,e3,as,e4,ap e5⟩
   | dct kvs=>
     obtain⟨o,es,n,e1,e2,e3,e4,e5⟩:=hx
     refine⟨o,es,n,e1,e2,e3,e4,fun i e kv he hkv=>?_⟩
     obtain⟨hq,as,bs,r1,r2,q⟩:=e5 i e kv he hkv
     exact⟨hq,as,bs,r1,r2,ap q⟩
  ·intro hi;rw[aF hi] at h1
   rw[aF (by rw[← b.len];exact hi)] at h2
   have hi0:i - β.length=0:=by
    refine eS (Nat.eq_zero_or_pos (i - β.length)) ?_ ?_
    ·intro h;exact h
    ·intro h;rw[a6 (show [D].length≤i - β.length from h)] at h1;exfalso;injection h1
   rw[hi0] at h1
   rw[← b.len,hi0] at h2
   injection h1 with eQ;subst eQ;injection h2 with eQ;subst eQ
   obtain⟨o,vs,n,e1,e2,e3,as,e4,e5⟩:=l
   exact⟨o,vs,n,e1,e2,e3,as,e4,ap e5⟩
section
variable{G:Gl}{F:Fm}{A:Around}{cx:Cx}{tgt:CT}{t:Expr}{scope:Scope}{gval:Nat→Option PyData}{gname:Nat→Option Str}
variable{Z β₁ β':List Addr}{s₁ s':Shared}{C D:Addr}{res:List PyData}{O₁ O':za}{ρ:Loc}
noncomputable abbrev yv(scope:Scope)(C:Addr):List Addr:=C::(cellsFrom (C+1) scope.names []).map (·.2)
theorem CompEnd.sr(e:CompEnd G F scope Z β₁ s₁ C D res O' s' β')(sr₁:SR G F β₁ ρ O₁ s₁.heap)(hz:∀ z∈Z,Itr s₁.heap z)(hzB:∀ z∈Z,z∉F.B)(hc:∀ c,∃ C,G.cls c=.ref C)(hDM:D∉yv scope C) :
 SR G (F.plus (yv scope C)) β' ρ O' s'.heap∧VR G (F.plus (yv scope C)).B β' s'.heap (.ref D) (.d (.list res)):=by
 refine⟨SR.outerZ hz hc e.step sr₁ hzB (fun a ha=>e.new a (ag _ ha)) (e.br.less fun a ha=>ag _ ha) (fun a ha=>e.notBox a (ag _ ha)) e.stor,?_⟩
 obtain⟨o,vs,n,e1,e2,e3,as,e4,e5⟩:=e.list
 refine y5 e1 e2 e3 e4 (fun a ha=>⟨(e5 a ha).1,fun hm=>(e5 a ha).2 (ag _ hm)⟩) ⟨e.notBox D am,fun hm=>?_⟩
 refine eS (aj.mp hm) ?_ ?_
 ·intro hm;exact hDM hm
 ·intro hm;refine eV (sr₁.fm.stor D hm) ?_;intro o' q _
  rw[e.new D am] at q;exfalso;injection q
theorem CompEnd.srB(e:CompEnd G F scope Z β₁ s₁ C D res O' s' β')(sr₁:SR G F β₁ ρ O₁ s₁.heap)(hz:∀ z∈Z,Itr s₁.heap z)(hzB:∀ z∈Z,z∉F.B)(hc:∀ c,∃ C,G.cls c=.ref C)(hDM:D∉yv scope C) :
 StepZ Z β₁ s₁ s' (β'++[D])∧SR G (F.plus (yv scope C)) (β'++[D]) ρ (O'++[.lst res]) s'.heap∧VR G (F.plus (yv scope C)).B (β'++[D]) s'.heap (.ref D) (.box O'.length):=by
 have hDn:=e.new D am
 have hDb:=e.notBox D am
 have sz:StepZ Z β₁ s₁ s' (β'++[D]):=⟨e.step.gens,e.step.os,e.step.pre.trans (List.prefix_append _ _),fun a ha=>by
  refine eS (aj.mp ha) ?_ ?_
  ·intro h;exact e.step.fresh a h
  ·intro h;rw[ae.mp h];exact .inr hDn,e.step.alive,e.step.kept⟩
 have h0:G.h₀.get? D=none:=by
  cases q:G.h₀.get? D with
  | none=>rfl
  | some o=>have:=sr₁.br.keep D o q;rw[hDn] at this;exfalso;injection this
 have br:=e.br.addBox (N:=yv scope C++F.B) e.list hDb h0 e.plain
 refine⟨sz,SR.outerZ hz hc sz sr₁ hzB (fun a ha=>e.new a (ag _ ha)) br (fun a ha hm=>?_) e.stor,⟨D,by rw[← e.br.len];simp,rfl⟩⟩
 refine eS (aj.mp hm) ?_ ?_
 ·intro hm;exact e.notBox a (ag _ ha) hm
 ·intro hm;rw[ae.mp hm] at ha
  refine eS (aj.mp ha) ?_ ?_
  ·intro ha;exact hDM ha
  ·intro ha;refine eV (sr₁.fm.stor D ha) ?_;intro o' q _
   rw[hDn] at q;exfalso;injection q
theorem pe{sc:Scope}(hsc:y9 scope sc=true):∀ x∈scope.names,x.2=.local→scope.names.lookup x.1=some .local:=fun x hx h=>by
 refine fc (yl hsc) ?_;intro _ k2 _
 obtain⟨n,k⟩:=x
 cases h
 exact (lookup_mem k2).mp hx
theorem za6{β:List Addr}{h:Heap}{sc:Scope}(fit:Fits F cx)(fm:FmOk G F β h)(hsc:y9 scope cx.sc=true):∀ p∈scope.names,p.2=.free→(F.env.cells.lookup p.1).isSome=true:=fun p hp hf=>by
 obtain⟨n,k⟩:=p
 refine fc (yl hsc) ?_;intro _ _ k3
 cases hf
 rcases k3 n _ hp with h | h | h | ⟨_,h⟩
 ·exfalso;injection h
 ·exfalso;injection h
 ·exfalso;injection h
 ·refine fu (fm.cell n ((fit.kind n).trans h)) ?_;intro c v q _
  rw[q];rfl
inductive Fin2:(V→za→R za V)→Prop
 | plain:Fin2 fun v O=>.ok v O
 | box:Fin2 boxK
theorem jz{src:Src}{turn:PyData→za→R za (Option PyData)}:∀ (xs acc:List PyData) (O:za),(∃ ys O',yf src turn xs acc O=.ok (.d (.list ys)) O')∨yf src turn xs acc O=.stuck
 | [],acc,O=>.inl ⟨acc,O,rfl⟩
 | x::xs,acc,O=>by
   unfold yf
   split
   ·split
    ·exact jz xs _ _
    ·exact .inr rfl
   ·exact .inr rfl
set_option tactic.hygienic true in
theorem zqh{elt iter:Expr}{ifs:List Expr}{pos:Pos}{r:R za Src}{evT:Loc→za→R za Bool}{evX:Loc→za→R za V}{K:V→za→R za V}{s:Shared}{β:List Addr}{O:za}
 (g:GOk G gval gname) (hh:A.handled=none) (fit:Fits F cx) (hsc:y9 scope cx.sc=true) (honce:xf (cx.inner tgt t scope).names=true) (hc:chkT (cx.inner tgt t scope) (ownOf scope) tgt t=true) (hset:∀ l k p,iter≠.Set l k p)
 (ht:∀ C D s β ρ O,SR G (zh cx F tgt t scope C D) β ρ O s.heap→Does G (zh cx F tgt t scope C D) A s β (y8 ifs (zh cx F tgt t scope C D).env) ((evT ρ O).lift ρ) BRel)
 (he:∀ C D s β ρ O,SR G (zh cx F tgt t scope C D) β ρ O s.heap→Does G (zh cx F tgt t scope C D) A s β (eval elt (zh cx F tgt t scope C D).env) ((evX ρ O).lift ρ) (VRel G (zh cx F tgt t scope C D)))
 (sr:SR G F β ρ O s.heap) (hI:DoesW G F s β (zat G A iter F.env) (r.lift ρ) (IRel G F A t s)) (has:∀ src O',r=.ok src O'→src.Has O') (hK:Fin2 K) :
 Does G F A s β (eval (.ListComp elt [⟨t,iter,ifs,0⟩] scope pos) F.env) (((r.bind fun src O=>if src.xs.length≤line then yf src (xr tgt evT evX ρ) src.xs [] O else .stuck).bind K).lift ρ) (VRel G F):=by
 refine fc (yl hsc) ?_;intro k1 k2 k3
 have hclos:=q0 (za6 (sc:=cx.sc) fit sr.fm hsc)
 have hfold:∀ x,foldedSetIterable iter F.env x=pure x:=fun x=>kr hset _ _
 cases r with
 | stuck=>trivial
 | ok src O₁=>
   show DoesW G F s β _ (R.lift ρ (R.bind (if src.xs.length≤line then yf src (xr tgt evT evX ρ) src.xs [] O₁ else .stuck) K)) _
   split
   ·rename_i hlen
    refine eS (jz (src:=src) (turn:=xr tgt evT evX ρ) src.xs [] O₁) ?_ ?_
    ·rintro ⟨res,O',hgo⟩;rw[hgo]
     show DoesW G F s β _ (R.lift ρ (K (.d (.list res)) O')) _
     have run:∀ (Q:Value→Shared→Prop) (E:Value→Shared→Prop),(∀ s₁ β₁ Z C D s' β' h',Step F.W β s s₁ β₁→SR G F β₁ ρ O₁ s₁.heap→(∀ z∈Z,Itr s₁.heap z)→(∀ z∈Z,z∉F.B)→(∀ z∈Z,s.heap.get? z=none) →
      CompEnd G F scope Z β₁ s₁ C D res O' s' β'→D∉yv scope C→Heap.SameBut C s'.heap h'→Q (.ref D) { s' with heap:=h' })→wpAny (model G.prog G.w) A (eval (.ListComp elt [⟨t,iter,ifs,0⟩] scope pos) F.env) Q E s:=by
      intro Q E k
      rw[eval_ListComp]
      refine wpAny_comprehension_free (use:=none) rfl hfold hclos k1 (pe hsc) (hI _ _ fun s₁ β₁ it st sr₁ ⟨I,Z,St,e,W,h0,hz⟩=>?_)
      subst e
      have hz0:∀ z∈Z,G.h₀.get? z=none:=fun z hz'=>by
       cases e:G.h₀.get? z with
       | none=>rfl
       | some o=>have:=sr.br.keep z o e;rw[hz z hz'] at this;exfalso;injection this
      have hzB:∀ z∈Z,z∉F.B:=fun z hz' hB=>by
       refine eV (sr.fm.stor z hB) ?_;intro o e _
       rw[hz z hz'] at e;exfalso;injection e
      refine za4 (RR:=fun acc C=>compPost (model G.prog G.w) A E none Q acc C) g hh fit hsc honce hc ht he W sr₁ hz0 hzB hlen (has _ _ rfl) h0 hgo fun C D s' β' ce=>?_
      obtain⟨m,hm⟩:=ce.ns
      have hDM:D∉yv scope C:=fun hm'=>by
       obtain⟨o,vs,n,q1,q2,q3,_⟩:=ce.list
       refine eS (af.mp hm') ?_ ?_
       ·intro e;subst e
        refine fq hm ?_;clear hm;intro o' es ep p1 p2 _
        rw[q1] at p1;injection p1 with eQ;subst eQ;rw[q3] at p2;exfalso;injection p2
       ·intro hm';exact ce.notCell hm'
      exact eW m hm (fun h' hs=>k s₁ β₁ Z C D s' β' h' st sr₁ (W.itr _ _ _ _ h0) hzB hz ce hDM hs)
     cases hK with
     | plain=>
       intro Q E k
       refine run Q E fun s₁ β₁ Z C D s' β' h' st sr₁ hz1 hzB hz ce hDM hs=>?_
       refine fb (ce.sr sr₁ hz1 hzB g.clsRef hDM) ?_;intro srp vr
       have hCM:C∈yv scope C:=am
       have hCB:C∉F.B:=fun hB=>by
        refine eV (sr₁.fm.stor C hB) ?_;intro o e _
        rw[ce.new C (ag _ am)] at e;exfalso;injection e
       have hs':∀ b o,b≠C→s'.heap.get? b=some o→h'.get? b=some o:=fun b o hb e=>(hs.2 b hb).trans e
       have srF:=SR.drop sr₁.fm srp hCM hCB hs'
       have stF:Step F.W β s { s' with heap:=h' } β':=by
        have s1:=st.thenStepZ ce.step hz
        exact s1.thenZ (Z:=[C]) ⟨rfl,rfl,fun b o hb e=>hs' b o (fun e'=>hb (by simp [e'])) e⟩ fun z hz'=>by
         rw [ae.mp hz']
         cases e:s.heap.get? C with
         | none=>rfl
         | some o=>refine eZ (st.alive _ _ e) ?_;intro o' e';rw[ce.new C (ag _ am)] at e';exfalso;injection e'
       refine k _ β' _ stF srF ?_
       have hCMp:C∈(F.plus (yv scope C)).B:=az _ hCM
       exact (vr.but hs' hCMp (fun o vs n e hd=>by
        refine eV (srp.fm.stor C hCMp) ?_;intro o' e' q
        rw[e] at e';injection e' with eQ;subst eQ;exact q vs n hd)).less fun a ha=>au _ ha
     | box=>
       intro Q E k
       refine run Q E fun s₁ β₁ Z C D s' β' h' st sr₁ hz1 hzB hz ce hDM hs=>?_
       refine fc (ce.srB sr₁ hz1 hzB g.clsRef hDM) ?_;intro sz srp vr
       have hCM:C∈yv scope C:=am
       have hCB:C∉F.B:=fun hB=>by
        refine eV (sr₁.fm.stor C hB) ?_;intro o e _
        rw[ce.new C (ag _ am)] at e;exfalso;injection e
       have hs':∀ b o,b≠C→s'.heap.get? b=some o→h'.get? b=some o:=fun b o hb e=>(hs.2 b hb).trans e
       have srF:=SR.drop sr₁.fm srp hCM hCB hs'
       have stF:Step F.W β s { s' with heap:=h' } (β'++[D]):=by
        have s1:=st.thenStepZ sz hz
        exact s1.thenZ (Z:=[C]) ⟨rfl,rfl,fun b o hb e=>hs' b o (fun e'=>hb (by simp [e'])) e⟩ fun z hz'=>by
         rw [ae.mp hz']
         cases e:s.heap.get? C with
         | none=>rfl
         | some o=>refine eZ (st.alive _ _ e) ?_;intro o' e';rw[ce.new C (ag _ am)] at e';exfalso;injection e'
       exact k _ _ _ stF srF vr
    ·intro hgo;rw[hgo];trivial
   ·trivial
end
theorem zdv{M:Model}{A:Around}{E:Value→Shared→Prop}{s:Shared}{op:BoolOp}{x y:Expr}{r:List Expr}{pos:Pos}{env:Env}{Q:Value→Shared→Prop}
 (h:wpAny M A (eval x env) (fun v s₁=>wpAny M A (truthy v) (fun t s₂=>if t=(op == .Or) then Q v s₂ else wpAny M A (boolOp pos op (evalEach (y::r) env)) Q E s₂) E s₁) E s) :
 wpAny M A (eval (.BoolOp op (x::y::r) pos) env) Q E s:=by
 show wpAny M A (do
  let v ← eval x env
  standAt pos
  let t ← holding [v] (truthy v)
  match op,t with
  | .And,false | .Or,true=>pure v
  | _,_=>boolOp pos op (evalEach (y::r) env)) Q E s
 refine aa (aK h (fun v s₁ h₁=>aa (cn (aa (aR (aK h₁ (fun t s₂ h₂=>?_) fun uA uA x=>x))))) fun uA uA x=>x)
 cases op <;> cases t
 ·rw[ah (by decide)] at h₂;exact ab h₂
 ·rw[ai (by decide)] at h₂;exact h₂
 ·rw[ai (by decide)] at h₂;exact h₂
 ·rw[ah (by decide)] at h₂;exact ab h₂
section
variable{G:Gl}{F:Fm}{A:Around}{s:Shared}{β:List Addr}{ρ:Loc}{O:za}
theorem zn4{x y:Expr}{r:List Expr}{p:Pos}{ra:R za V}{rb:za→R za V}(h1:Does G F A s β (eval x F.env) (ra.lift ρ) (VRel G F))
 (h2:∀ s' β' O',SR G F β' ρ O' s'.heap→Does G F A s' β' (boolOp p .And (evalEach (y::r) F.env)) ((rb O').lift ρ) (VRel G F)) :
 Does G F A s β (eval (.BoolOp .And (x::y::r) p) F.env) ((ra.bind fun v O=>(opt (truth v) O).bind (andK rb)).lift ρ) (VRel G F):=by
 refine DoesW.seqE (T₂:=fun v Q E s'=>wpAny (model G.prog G.w) A (truthy v) (fun t s₂=>if t=(BoolOp.And == .Or) then Q v s₂ else wpAny (model G.prog G.w) A (boolOp p .And (evalEach (y::r) F.env)) Q E s₂) E s') (fun Q E h=>zdv h) h1 fun s' β' v d O' e st sr rv=>?_
 refine DoesW.seqE (T₂:=fun t Q E s₂=>if t=(BoolOp.And == .Or) then Q v s₂ else wpAny (model G.prog G.w) A (boolOp p .And (evalEach (y::r) F.env)) Q E s₂) (fun Q E h=>h) (ja sr rv) fun s₂ β₂ b b' O₂ e₂ st₂ sr₂ hb=>?_
 have hb:b=b':=hb
 subst hb
 have hd:truth d=some b:=by cases h:truth d with
  | none=>rw[h] at e₂;exfalso;injection e₂
  | some c=>rw[h] at e₂;injection e₂ with eQ eR;subst eQ eR;rfl
 have:=vq rv hd
 subst this
 cases b with
 | true=>exact (h2 s₂ β₂ O₂ sr₂).weaken (fun Q E h=>by show if _ then _ else _;rw[ai (by decide)];exact h) fun uA uA uA uA h=>h
 | false=>exact d_ok sr₂ VR.bool fun Q E h=>by show if _ then _ else _;rw[ah (by decide)];exact h
theorem zsw{op:Cop}{o:CmpOp}{x y:Expr}{p:Pos}{ra:R za V}{rb:za→R za V}{k:Nat}(ro:Room A k)(ho:xy op o=true)(hs:∀ l k p,y≠.Set l k p)
 (h1:Does G F A s β (eval x F.env) (ra.lift ρ) (VRel G F)) (h2:∀ s' β' O',SR G F β' ρ O' s'.heap→Does G F A s' β' (eval y F.env) ((rb O').lift ρ) (VRel G F)) :
 Does G F A s β (eval (.Compare x [o] [y] p) F.env) ((ra.bind fun v O=>(rb O).bind fun u O=>cmpV op v u O).lift ρ) (VRel G F):=by
 refine DoesW.seqE (T₂:=fun a Q E s₁=>wpAny (model G.prog G.w) A (eval y F.env) (fun b s₂=>wpAny (model G.prog G.w) A (compareOp o a b) Q E s₂) E s₁) (fun Q E h=>wpAny_Compare1 h (xj hs o)) h1 fun s' β' v d O' e st sr rv=>?_
 refine DoesW.seqE (T₁:=tr G A (eval y F.env)) (T₂:=fun b=>tr G A (compareOp o v b)) (fun Q E h=>h) (h2 s' β' O' sr) fun s₂ β₂ u d₂ O₂ e₂ st₂ sr₂ ru=>?_
 exact w2 ro ho sr₂ (rv.step sr.br sr.fm st₂) ru
theorem qv{M:Model}{E:Value→Shared→Prop}{x y z:Expr}{o1 o2:CmpOp}{pos:Pos}{env:Env}{Q:Value→Shared→Prop}
 (h:wpAny M A (eval x env) (fun a s₁=>wpAny M A (eval y env) (fun b s₂=>wpAny M A (compareOp o1 a b) (fun c s₃=>wpAny M A (truthy c) (fun t s₄=>if t=true then wpAny M A (eval z env) (fun d s₅=>wpAny M A (compareOp o2 b d) Q E s₅) E s₄ else Q c s₄) E s₃) E s₂) E s₁) E s)
 (hy:∀ l k p,y≠.Set l k p) (hz:∀ l k p,z≠.Set l k p):wpAny M A (eval (.Compare x [o1,o2] [y,z] pos) env) Q E s:=by
 show wpAny M A (do compareChain pos (← eval x env) [o1,o2] (markedEach [o1,o2] [y,z] (evalEach [y,z] env))) Q E s
 have hm:markedEach [o1,o2] [y,z] (evalEach [y,z] env)=[eval y env,eval z env]:=by
  show [eval y env,markedBehindIn o2 z (eval z env)]=_
  rw[markedBehindIn_of_false (xj hz o2)]
 rw[hm]
 refine aa (aK h (fun a s₁ h₁=>?_) fun uA uA x=>x)
 show wpAny M A (do
  let rv ← holding [a] (eval y env)
  standAt pos
  let c ← holding [a,rv] (compareOp o1 a rv)
  release [a,rv] [c]
  if ← holding [c,rv] (truthy c) then compareChain pos rv [o2] [eval z env] else pure c) Q E s₁
 refine aa (aR (aK h₁ (fun b s₂ h₂=>aa (cn (aa (aR (aK h₂ (fun c s₃ h₃=>?_) fun uA uA x=>x))))) fun uA uA x=>x))
 refine aa (wpAny_release (aa (aR (aK h₃ (fun t s₄ h₄=>?_) fun uA uA x=>x))))
 cases t with
 | false=>rw[ai (by decide)] at h₄;exact ab h₄
 | true=>
   rw[ah rfl] at h₄
   show wpAny M A (do
    let rv ← holding [b] (eval z env)
    standAt pos
    operate [b,rv] (compareOp o2 b rv)) Q E s₄
   exact aa (aR (aK h₄ (fun d s₅ h₅=>aa (cn (wpAny_operating h₅))) fun uA uA x=>x))
end
noncomputable def tv(r:R za V):R za Bool:=r.bind fun v O=>opt (truth v) O
section
variable{G:Gl}{F:Fm}{A:Around}{s:Shared}{β:List Addr}{ρ:Loc}{O:za}
theorem znb{p q:Cop}{o1 o2:CmpOp}{x y z:Expr}{ps:Pos}{ra:R za V}{rb rc:za→R za V}{k:Nat}(ro:Room A k)(h1o:xy p o1=true)(h2o:xy q o2=true)
 (hy:∀ l k p,y≠.Set l k p) (hz:∀ l k p,z≠.Set l k p)
 (h1:Does G F A s β (eval x F.env) (ra.lift ρ) (VRel G F)) (h2:∀ s' β' O',SR G F β' ρ O' s'.heap→Does G F A s' β' (eval y F.env) ((rb O').lift ρ) (VRel G F))
 (h3:∀ s' β' O',SR G F β' ρ O' s'.heap→Does G F A s' β' (eval z F.env) ((rc O').lift ρ) (VRel G F)) :
 Does G F A s β (eval (.Compare x [o1,o2] [y,z] ps) F.env) ((ra.bind fun v O=>(rb O).bind fun u O=>(cmpV p v u O).bind fun t O=>(opt (truth t) O).bind (andK fun O=>(rc O).bind fun y O=>cmpV q u y O)).lift ρ) (VRel G F):=by
 refine DoesW.seqE (T₂:=fun a Q E s₁=>wpAny (model G.prog G.w) A (eval y F.env) (fun b s₂=>wpAny (model G.prog G.w) A (compareOp o1 a b) (fun c s₃=>wpAny (model G.prog G.w) A (truthy c) (fun t s₄=>if t=true then wpAny (model G.prog G.w) A (eval z F.env) (fun d s₅=>wpAny (model G.prog G.w) A (compareOp o2 b d) Q E s₅) E s₄ else Q c s₄) E s₃) E s₂) E s₁)
  (fun Q E h=>qv h hy hz) h1 fun s' β' v d O' e st sr rv=>?_
 refine DoesW.seqE (T₁:=tr G A (eval y F.env)) (T₂:=fun b Q E s₂=>wpAny (model G.prog G.w) A (compareOp o1 v b) (fun c s₃=>wpAny (model G.prog G.w) A (truthy c) (fun t s₄=>if t=true then wpAny (model G.prog G.w) A (eval z F.env) (fun d s₅=>wpAny (model G.prog G.w) A (compareOp o2 b d) Q E s₅) E s₄ else Q c s₄) E s₃) E s₂) (fun Q E h=>h) (h2 s' β' O' sr) fun s₂ β₂ u d₂ O₂ e₂ st₂ sr₂ ru=>?_
 refine DoesW.seqE (T₁:=tr G A (compareOp o1 v u)) (T₂:=fun c Q E s₃=>wpAny (model G.prog G.w) A (truthy c) (fun t s₄=>if t=true then wpAny (model G.prog G.w) A (eval z F.env) (fun d s₅=>wpAny (model G.prog G.w) A (compareOp o2 u d) Q E s₅) E s₄ else Q c s₄) E s₃) (fun Q E h=>h) (w2 ro h1o sr₂ (rv.step sr.br sr.fm st₂) ru) fun s₃ β₃ c d₃ O₃ e₃ st₃ sr₃ rc'=>?_
 refine DoesW.seqE (T₁:=tr G A (truthy c)) (T₂:=fun t Q E s₄=>if t=true then wpAny (model G.prog G.w) A (eval z F.env) (fun d s₅=>wpAny (model G.prog G.w) A (compareOp o2 u d) Q E s₅) E s₄ else Q c s₄) (fun Q E h=>h) (ja sr₃ rc') fun s₄ β₄ b b' O₄ e₄ st₄ sr₄ hb=>?_
 have hb:b=b':=hb
 subst hb
 have hd:truth d₃=some b:=by cases h:truth d₃ with
  | none=>rw[h] at e₄;exfalso;injection e₄
  | some c=>rw[h] at e₄;injection e₄ with eQ eR;subst eQ eR;rfl
 have:=vq rc' hd
 subst this
 have ru':=(ru.step sr₂.br sr₂.fm (st₃.trans st₄))
 cases b with
 | false=>exact d_ok sr₄ VR.bool fun Q E h=>by show if _ then _ else _;rw[ai (by decide)];exact h
 | true=>
   refine DoesW.seqE (T₁:=tr G A (eval z F.env)) (T₂:=fun d=>tr G A (compareOp o2 u d)) (fun Q E h=>by show if _ then _ else _;rw[ah rfl];exact h) (h3 s₄ β₄ O₄ sr₄) fun s₅ β₅ w d₅ O₅ e₅ st₅ sr₅ rw'=>?_
   exact w2 ro h2o sr₅ (ru'.step sr₄.br sr₄.fm st₅) rw'
theorem zst{x y z:Expr}{p:Pos}{rt:R za V}{ra rb:za→R za V}(h1:Does G F A s β (isTrue x F.env (eval x F.env)) ((tv rt).lift ρ) BRel)
 (h2:∀ s' β' O',SR G F β' ρ O' s'.heap→Does G F A s' β' (eval y F.env) ((ra O').lift ρ) (VRel G F))
 (h3:∀ s' β' O',SR G F β' ρ O' s'.heap→Does G F A s' β' (eval z F.env) ((rb O').lift ρ) (VRel G F)) :
 Does G F A s β (eval (.IfExp x y z p) F.env) ((rt.bind fun v O=>(opt (truth v) O).bind (iteK ra rb)).lift ρ) (VRel G F):=by
 have e:(rt.bind fun v O=>(opt (truth v) O).bind (iteK ra rb))=(tv rt).bind (iteK ra rb):=by cases rt <;> rfl
 rw[e]
 refine DoesW.seqE (T₂:=fun b Q E s₁=>if b=true then wpAny (model G.prog G.w) A (eval y F.env) Q E s₁ else wpAny (model G.prog G.w) A (eval z F.env) Q E s₁) (fun Q E h=>?_) h1 fun s' β' b b' O' e st sr rb'=>?_
 ·show wpAny (model G.prog G.w) A (do if ← isTrue x F.env (eval x F.env) then eval y F.env else eval z F.env) Q E s
  refine aa (aK h (fun b s₁ h₁=>?_) fun uA uA x=>x)
  cases b with
  | true=>rw[ah rfl] at h₁;exact h₁
  | false=>rw[ai (by decide)] at h₁;exact h₁
 have hb:b=b':=rb'
 subst hb
 cases b with
 | true=>exact (h2 s' β' O' sr).weaken (fun Q E h=>by show if _ then _ else _;rw[ah rfl];exact h) fun uA uA uA uA h=>h
 | false=>exact (h3 s' β' O' sr).weaken (fun Q E h=>by show if _ then _ else _;rw[ai (by decide)];exact h) fun uA uA uA uA h=>h
theorem zll{e:Expr}{r:R za V}(he:isTrue e F.env (eval e F.env)=(do let v ← eval e F.env;standAt e.pos;holding [v] (truthy v)))
 (h1:Does G F A s β (eval e F.env) (r.lift ρ) (VRel G F)):Does G F A s β (isTrue e F.env (eval e F.env)) ((tv r).lift ρ) BRel:=
 DoesW.seqE (T₂:=fun v=>tr G A (truthy v)) (fun Q E h=>wpAny_isTrue_value h he) h1 fun s' β' v d O' e st sr rv=>ja sr rv
theorem zq4{x:Expr}{p:Pos}{r:R za V}(h1:Does G F A s β (isTrue x F.env (eval x F.env)) ((tv r).lift ρ) BRel) :
 Does G F A s β (isTrue (.UnaryOp .Not x p) F.env (eval (.UnaryOp .Not x p) F.env)) ((tv (r.bind fun v O=>opt ((truth v).map fun b=>V.d (.bool !b)) O)).lift ρ) BRel:=by
 have e:tv (r.bind fun v O=>opt ((truth v).map fun b=>V.d (.bool !b)) O)=(tv r).bind fun b O=>.ok (!b) O:=by
  cases r with
  | ok v O=>show R.bind (opt ((truth v).map fun b=>V.d (.bool !b)) O) _=R.bind (opt (truth v) O) _;cases truth v <;> rfl
  | stuck=>rfl
 rw[e]
 refine DoesW.seqE (T₂:=fun b Q E s₁=>Q (!b) s₁) (fun Q E h=>wpAny_isTrue_Not h) h1 fun s' β' b b' O' e st sr hb=>?_
 have hb:b=b':=hb
 subst hb
 exact Does.leaf sr fun Q E q=>q _ _ (KeepsAll.refl s') rfl
theorem d9{op:BoolOp}(sr:SR G F β ρ O s.heap):Does G F A s β (allTrue op [] F.env) ((R.ok (op == .And) O).lift ρ) BRel:=
 Does.leaf sr fun Q E q=>ab (q _ _ (KeepsAll.refl s) rfl)
theorem wj{x:Expr}{rest:List Expr}{ra:R za V}{rb:za→R za Bool}(h1:Does G F A s β (isTrue x F.env (eval x F.env)) ((tv ra).lift ρ) BRel)
 (h2:∀ s' β' O',SR G F β' ρ O' s'.heap→Does G F A s' β' (allTrue .And rest F.env) ((rb O').lift ρ) BRel) :
 Does G F A s β (allTrue .And (x::rest) F.env) (((tv ra).bind fun t O=>(match t with | true=>rb O | false=>.ok false O)).lift ρ) BRel:=by
 refine DoesW.seqE (T₂:=fun t Q E s₁=>if t=true then wpAny (model G.prog G.w) A (allTrue .And rest F.env) Q E s₁ else Q false s₁) (fun Q E h=>?_) h1 fun s' β' b b' O' e st sr hb=>?_
 ·show wpAny (model G.prog G.w) A (do
   match BoolOp.And,← isTrue x F.env (eval x F.env) with
   | .And,false=>pure false
   | .Or,true=>pure true
   | _,_=>allTrue .And rest F.env) Q E s
  refine aa (aK h (fun t s₁ h₁=>?_) fun uA uA x=>x)
  cases t with
  | true=>rw[ah rfl] at h₁;exact h₁
  | false=>rw[ai (by decide)] at h₁;exact ab h₁
 have hb:b=b':=hb
 subst hb
 cases b with
 | true=>exact (h2 s' β' O' sr).weaken (fun Q E h=>by show if _ then _ else _;rw[ah rfl];exact h) fun uA uA uA uA h=>h
 | false=>exact Does.leaf sr fun Q E q=>by show if _ then _ else _;rw[ai (by decide)];exact q _ _ (KeepsAll.refl s') rfl
theorem ui{x:Expr}{rest:List Expr}{ra:R za V}{rb:za→R za Bool}(h1:Does G F A s β (isTrue x F.env (eval x F.env)) ((tv ra).lift ρ) BRel)
 (h2:∀ s' β' O',SR G F β' ρ O' s'.heap→Does G F A s' β' (allTrue .Or rest F.env) ((rb O').lift ρ) BRel) :
 Does G F A s β (allTrue .Or (x::rest) F.env) (((tv ra).bind fun t O=>(match t with | true=>.ok true O | false=>rb O)).lift ρ) BRel:=by
 refine DoesW.seqE (T₂:=fun t Q E s₁=>if t=true then Q true s₁ else wpAny (model G.prog G.w) A (allTrue .Or rest F.env) Q E s₁) (fun Q E h=>?_) h1 fun s' β' b b' O' e st sr hb=>?_
 ·show wpAny (model G.prog G.w) A (do
   match BoolOp.Or,← isTrue x F.env (eval x F.env) with
   | .And,false=>pure false
   | .Or,true=>pure true
   | _,_=>allTrue .Or rest F.env) Q E s
  refine aa (aK h (fun t s₁ h₁=>?_) fun uA uA x=>x)
  cases t with
  | true=>rw[ah rfl] at h₁;exact ab h₁
  | false=>rw[ai (by decide)] at h₁;exact h₁
 have hb:b=b':=hb
 subst hb
 cases b with
 | false=>exact (h2 s' β' O' sr).weaken (fun Q E h=>by show if _ then _ else _;rw[ai (by decide)];exact h) fun uA uA uA uA h=>h
 | true=>exact Does.leaf sr fun Q E q=>by show if _ then _ else _;rw[ah rfl];exact q _ _ (KeepsAll.refl s') rfl
theorem zq5{op:Cop}{o:CmpOp}{x y:Expr}{p:Pos}{ra:R za V}{rb:za→R za V}{k:Nat}(ro:Room A k)(ho:xy op o=true)(hs:∀ l k p,y≠.Set l k p)
 (h1:Does G F A s β (eval x F.env) (ra.lift ρ) (VRel G F)) (h2:∀ s' β' O',SR G F β' ρ O' s'.heap→Does G F A s' β' (eval y F.env) ((rb O').lift ρ) (VRel G F)) :
 Does G F A s β (isTrue (.Compare x [o] [y] p) F.env (eval (.Compare x [o] [y] p) F.env)) ((tv (ra.bind fun v O=>(rb O).bind fun u O=>cmpV op v u O)).lift ρ) BRel:=by
 have e:tv (ra.bind fun v O=>(rb O).bind fun u O=>cmpV op v u O)=ra.bind fun v O=>(rb O).bind fun u O=>(cmpV op v u O).bind fun c O=>opt (truth c) O:=by
  cases ra with
  | ok v O=>show R.bind (R.bind (rb O) _) _=R.bind (rb O) _;cases rb O <;> rfl
  | stuck=>rfl
 rw[e]
 refine DoesW.seqE (T₂:=fun a Q E s₁=>wpAny (model G.prog G.w) A (eval y F.env) (fun b s₂=>wpAny (model G.prog G.w) A (compareOp o a b) (fun c s₃=>wpAny (model G.prog G.w) A (truthy c) Q E s₃) E s₂) E s₁) (fun Q E h=>wpAny_isTrue_Compare1 h (xj hs o)) h1 fun s' β' v d O' e st sr rv=>?_
 refine DoesW.seqE (T₁:=tr G A (eval y F.env)) (T₂:=fun b Q E s₂=>wpAny (model G.prog G.w) A (compareOp o v b) (fun c s₃=>wpAny (model G.prog G.w) A (truthy c) Q E s₃) E s₂) (fun Q E h=>h) (h2 s' β' O' sr) fun s₂ β₂ u d₂ O₂ e₂ st₂ sr₂ ru=>?_
 refine DoesW.seqE (T₁:=tr G A (compareOp o v u)) (T₂:=fun c=>tr G A (truthy c)) (fun Q E h=>h) (w2 ro ho sr₂ (rv.step sr.br sr.fm st₂) ru) fun s₃ β₃ c d₃ O₃ e₃ st₃ sr₃ rc=>?_
 exact ja sr₃ rc
end
section
variable{G:Gl}{F:Fm}{A:Around}{s:Shared}{β:List Addr}{ρ:Loc}{O:za}
theorem wh{M:Model}{E:Value→Shared→Prop}{x y z:Expr}{o1 o2:CmpOp}{pos:Pos}{env:Env}{whole:Sem Value}{Q:Bool→Shared→Prop}
 (h:wpAny M A (eval x env) (fun a s₁=>wpAny M A (eval y env) (fun b s₂=>wpAny M A (compareOp o1 a b) (fun c s₃=>wpAny M A (truthy c) (fun t s₄=>if t=true then wpAny M A (eval z env) (fun d s₅=>wpAny M A (compareOp o2 b d) (fun e s₆=>wpAny M A (truthy e) Q E s₆) E s₅) E s₄ else Q false s₄) E s₃) E s₂) E s₁) E s)
 (hy:∀ l k p,y≠.Set l k p) (hz:∀ l k p,z≠.Set l k p):wpAny M A (isTrue (.Compare x [o1,o2] [y,z] pos) env whole) Q E s:=by
 show wpAny M A (do testChain pos (← eval x env) [o1,o2] (markedEach [o1,o2] [y,z] (evalEach [y,z] env))) Q E s
 have hm:markedEach [o1,o2] [y,z] (evalEach [y,z] env)=[eval y env,eval z env]:=by
  show [eval y env,markedBehindIn o2 z (eval z env)]=_
  rw[markedBehindIn_of_false (xj hz o2)]
 rw[hm]
 refine aa (aK h (fun a s₁ h₁=>?_) fun uA uA x=>x)
 show wpAny M A (do
  let rv ← holding [a] (eval y env)
  standAt pos
  let c ← holding [a,rv] (compareOp o1 a rv)
  release [a,rv] [c]
  if ← holding [c,rv] (truthy c) then testChain pos rv [o2] [eval z env] else pure false) Q E s₁
 refine aa (aR (aK h₁ (fun b s₂ h₂=>aa (cn (aa (aR (aK h₂ (fun c s₃ h₃=>?_) fun uA uA x=>x))))) fun uA uA x=>x))
 refine aa (wpAny_release (aa (aR (aK h₃ (fun t s₄ h₄=>?_) fun uA uA x=>x))))
 cases t with
 | false=>rw[ai (by decide)] at h₄;exact ab h₄
 | true=>
   rw[ah rfl] at h₄
   show wpAny M A (do
    let rv ← holding [b] (eval z env)
    standAt pos
    let c ← operate [b,rv] (compareOp o2 b rv)
    holding [c] (truthy c)) Q E s₄
   exact aa (aR (aK h₄ (fun d s₅ h₅=>aa (cn (aa (wpAny_operating (aK h₅ (fun e s₆ h₆=>aR h₆) fun uA uA x=>x))))) fun uA uA x=>x))
theorem zln{p q:Cop}{o1 o2:CmpOp}{x y z:Expr}{ps:Pos}{ra:R za V}{rb rc:za→R za V}{k:Nat}(ro:Room A k)(h1o:xy p o1=true)(h2o:xy q o2=true)
 (hy:∀ l k p,y≠.Set l k p) (hz:∀ l k p,z≠.Set l k p)
 (h1:Does G F A s β (eval x F.env) (ra.lift ρ) (VRel G F)) (h2:∀ s' β' O',SR G F β' ρ O' s'.heap→Does G F A s' β' (eval y F.env) ((rb O').lift ρ) (VRel G F))
 (h3:∀ s' β' O',SR G F β' ρ O' s'.heap→Does G F A s' β' (eval z F.env) ((rc O').lift ρ) (VRel G F)) :
 Does G F A s β (isTrue (.Compare x [o1,o2] [y,z] ps) F.env (eval (.Compare x [o1,o2] [y,z] ps) F.env)) ((tv (ra.bind fun v O=>(rb O).bind fun u O=>(cmpV p v u O).bind fun t O=>(opt (truth t) O).bind (andK fun O=>(rc O).bind fun y O=>cmpV q u y O))).lift ρ) BRel:=by
 have e:tv (ra.bind fun v O=>(rb O).bind fun u O=>(cmpV p v u O).bind fun t O=>(opt (truth t) O).bind (andK fun O=>(rc O).bind fun y O=>cmpV q u y O))=ra.bind fun v O=>(rb O).bind fun u O=>(cmpV p v u O).bind fun t O=>(opt (truth t) O).bind fun z O=>(match z with
  | false=>R.ok false O
  | true=>(rc O).bind fun y O=>(cmpV q u y O).bind fun c O=>opt (truth c) O):=by
  cases ra with
  | ok v O=>
    show R.bind (R.bind (rb O) _) _=R.bind (rb O) _
    cases rb O with
    | ok u O=>
      show R.bind (R.bind (cmpV p v u O) _) _=R.bind (cmpV p v u O) _
      cases cmpV p v u O with
      | ok t O=>
        show R.bind (R.bind (opt (truth t) O) _) _=R.bind (opt (truth t) O) _
        cases truth t with
        | none=>rfl
        | some b=>cases b with
          | false=>rfl
          | true=>show R.bind (R.bind (rc O) _) _=R.bind (rc O) _;cases rc O <;> rfl
      | stuck=>rfl
    | stuck=>rfl
  | stuck=>rfl
 rw[e]
 refine DoesW.seqE (T₂:=fun a Q E s₁=>wpAny (model G.prog G.w) A (eval y F.env) (fun b s₂=>wpAny (model G.prog G.w) A (compareOp o1 a b) (fun c s₃=>wpAny (model G.prog G.w) A (truthy c) (fun t s₄=>if t=true then wpAny (model G.prog G.w) A (eval z F.env) (fun d s₅=>wpAny (model G.prog G.w) A (compareOp o2 b d) (fun e s₆=>wpAny (model G.prog G.w) A (truthy e) Q E s₆) E s₅) E s₄ else Q false s₄) E s₃) E s₂) E s₁)
  (fun Q E h=>wh h hy hz) h1 fun s' β' v d O' e st sr rv=>?_
 refine DoesW.seqE (T₁:=tr G A (eval y F.env)) (T₂:=fun b Q E s₂=>wpAny (model G.prog G.w) A (compareOp o1 v b) (fun c s₃=>wpAny (model G.prog G.w) A (truthy c) (fun t s₄=>if t=true then wpAny (model G.prog G.w) A (eval z F.env) (fun d s₅=>wpAny (model G.prog G.w) A (compareOp o2 b d) (fun e s₆=>wpAny (model G.prog G.w) A (truthy e) Q E s₆) E s₅) E s₄ else Q false s₄) E s₃) E s₂) (fun Q E h=>h) (h2 s' β' O' sr) fun s₂ β₂ u d₂ O₂ e₂ st₂ sr₂ ru=>?_
 refine DoesW.seqE (T₁:=tr G A (compareOp o1 v u)) (T₂:=fun c Q E s₃=>wpAny (model G.prog G.w) A (truthy c) (fun t s₄=>if t=true then wpAny (model G.prog G.w) A (eval z F.env) (fun d s₅=>wpAny (model G.prog G.w) A (compareOp o2 u d) (fun e s₆=>wpAny (model G.prog G.w) A (truthy e) Q E s₆) E s₅) E s₄ else Q false s₄) E s₃) (fun Q E h=>h) (w2 ro h1o sr₂ (rv.step sr.br sr.fm st₂) ru) fun s₃ β₃ c d₃ O₃ e₃ st₃ sr₃ rc'=>?_
 refine DoesW.seqE (T₁:=tr G A (truthy c)) (T₂:=fun t Q E s₄=>if t=true then wpAny (model G.prog G.w) A (eval z F.env) (fun d s₅=>wpAny (model G.prog G.w) A (compareOp o2 u d) (fun e s₆=>wpAny (model G.prog G.w) A (truthy e) Q E s₆) E s₅) E s₄ else Q false s₄) (fun Q E h=>h) (ja sr₃ rc') fun s₄ β₄ b b' O₄ e₄ st₄ sr₄ hb=>?_
 have hb:b=b':=hb
 subst hb
 have ru':=(ru.step sr₂.br sr₂.fm (st₃.trans st₄))
 cases b with
 | false=>exact Does.leaf sr₄ fun Q E q=>by show if _ then _ else _;rw[ai (by decide)];exact q _ _ (KeepsAll.refl _) rfl
 | true=>
   refine DoesW.seqE (T₁:=tr G A (eval z F.env)) (T₂:=fun d Q E s₅=>wpAny (model G.prog G.w) A (compareOp o2 u d) (fun e s₆=>wpAny (model G.prog G.w) A (truthy e) Q E s₆) E s₅) (fun Q E h=>by show if _ then _ else _;rw[ah rfl];exact h) (h3 s₄ β₄ O₄ sr₄) fun s₅ β₅ w d₅ O₅ e₅ st₅ sr₅ rw'=>?_
   refine DoesW.seqE (T₁:=tr G A (compareOp o2 u w)) (T₂:=fun e=>tr G A (truthy e)) (fun Q E h=>h) (w2 ro h2o sr₅ (ru'.step sr₄.br sr₄.fm st₅) rw') fun s₆ β₆ c' d₆ O₆ e₆ st₆ sr₆ rc''=>?_
   exact ja sr₆ rc''
end
section
variable{G:Gl}{F:Fm}{A:Around}{cx:Cx}{tgt:CT}{t:Expr}{scope:Scope}{gval:Nat→Option PyData}{gname:Nat→Option Str}{s:Shared}{β:List Addr}{ρ:Loc}{O:za}
theorem w7(env:Env):∀ (ifs:List Expr),(forIn ifs false fun c r=>if r=true then do let ok ← isTrue c env (eval c env);pure (ForInStep.yield ok) else pure (ForInStep.yield r):Sem Bool)=pure false
 | []=>by rw[dB]
 | c::rest=>by
   rw[dT]
   simp only[aN,bu,pure_bind]
   exact w7 env rest
theorem zdi(sr:SR G F β ρ O s.heap):Does G F A s β (y8 [] F.env) ((R.ok true O).lift ρ) BRel:=
 Does.leaf sr fun Q E q=>ab (q _ _ (KeepsAll.refl s) rfl)
theorem zb7{x:Expr}{rest:List Expr}{ra:R za V}{rb:za→R za Bool}(h1:Does G F A s β (isTrue x F.env (eval x F.env)) ((tv ra).lift ρ) BRel)
 (h2:∀ s' β' O',SR G F β' ρ O' s'.heap→Does G F A s' β' (y8 rest F.env) ((rb O').lift ρ) BRel) :
 Does G F A s β (y8 (x::rest) F.env) (((tv ra).bind fun t O=>(match t with | true=>rb O | false=>.ok false O)).lift ρ) BRel:=by
 refine DoesW.seqE (T₂:=fun t Q E s₁=>if t=true then wpAny (model G.prog G.w) A (y8 rest F.env) Q E s₁ else Q false s₁) (fun Q E h=>?_) h1 fun s' β' b b' O' e st sr hb=>?_
 ·show wpAny (model G.prog G.w) A (y8 (x::rest) F.env) Q E s
  unfold y8
  rw[dT]
  simp only[if_true]
  refine aa (aa (aK h (fun t s₁ h₁=>?_) fun uA uA x=>x))
  cases t with
  | true=>rw[ah rfl] at h₁;exact ab h₁
  | false=>
    rw[ai (by decide)] at h₁
    refine ab ?_
    show wpAny _ _ (forIn rest false _) Q E s₁
    rw[w7];exact ab h₁
 have hb:b=b':=hb
 subst hb
 cases b with
 | true=>exact (h2 s' β' O' sr).weaken (fun Q E h=>by show if _ then _ else _;rw[ah rfl];exact h) fun uA uA uA uA h=>h
 | false=>exact Does.leaf sr fun Q E q=>by show if _ then _ else _;rw[ai (by decide)];exact q _ _ (KeepsAll.refl s') rfl
theorem Fits.plus(fit:Fits F cx)(M:List Addr):Fits (F.plus M) cx:=⟨fit.names,fit.kind,fit.sck⟩
set_option tactic.hygienic true in
theorem zhp{elt iter:Expr}{ifs:List Expr}{pos spos px:Pos}{x:Str}{i:Nat}{own:Str→Bool}{r:R za Src}{evT:Loc→za→R za Bool}{evX:Loc→za→R za V}{K:V→za→R za V}
 (g:GOk G gval gname) (hh:A.handled=none) (fit:Fits F cx) (hown:∀ x,own x=true→F.own x=true) (hx:chkT cx own (.name i) (.Name x px)=true) (hsc:y9 scope cx.sc=true) (honce:xf (cx.inner tgt t scope).names=true) (hc:chkT (cx.inner tgt t scope) (ownOf scope) tgt t=true) (hset:∀ l k p,iter≠.Set l k p)
 (ht:∀ C D s β ρ O,SR G (zh cx F tgt t scope C D) β ρ O s.heap→Does G (zh cx F tgt t scope C D) A s β (y8 ifs (zh cx F tgt t scope C D).env) ((evT ρ O).lift ρ) BRel)
 (he:∀ C D s β ρ O,SR G (zh cx F tgt t scope C D) β ρ O s.heap→Does G (zh cx F tgt t scope C D) A s β (eval elt (zh cx F tgt t scope C D).env) ((evX ρ O).lift ρ) (VRel G (zh cx F tgt t scope C D)))
 (sr:SR G F β ρ O s.heap) (hI:DoesW G F s β (zat G A iter F.env) (r.lift ρ) (IRel G F A t s)) (has:∀ src O',r=.ok src O'→src.Has O') (hK:Fin2 K)
 (hsw:swapsWith (.ListComp elt [⟨t,iter,ifs,0⟩] scope pos) (some (.Name x px)) spos.line F.env=pure true) :
 Does G F A s β (exec (.Assign [.Name x px] (.ListComp elt [⟨t,iter,ifs,0⟩] scope pos) spos) F.env) ((((r.bind fun src O=>if src.xs.length≤line then yf src (xr tgt evT evX ρ) src.xs [] O else .stuck).bind K).lift ρ).bind (asgR (.name i))) (yr G F):=by
 refine fc (yl hsc) ?_;intro k1 k2 k3
 have hclos:=q0 (za6 (sc:=cx.sc) fit sr.fm hsc)
 have hfold:∀ x,foldedSetIterable iter F.env x=pure x:=fun x=>kr hset _ _
 have open_:∀ (Q:Flow→Shared→Prop) (E:Value→Shared→Prop),
  wpAny (model G.prog G.w) A (comprehension (.ListComp elt [⟨t,iter,ifs,0⟩] scope pos) scope F.env iter.pos (newList []) false (eval iter F.env) (some (assign (.Name x px) F.env))) (fun uA s'=>Q .next s') E s →
  wpAny (model G.prog G.w) A (exec (.Assign [.Name x px] (.ListComp elt [⟨t,iter,ifs,0⟩] scope pos) spos) F.env) Q E s:=fun Q E h=>by
  rw[exec_Assign_Name_used _ _ _ _ hsw]
  refine aa (cn (aa ?_))
  show wpAny _ A (do let _ ← comprehension (.ListComp elt [⟨t,iter,ifs,0⟩] scope pos) scope F.env _ (newList []) false (eval iter F.env) (some (assign (.Name x px) F.env))) _ _ s
  exact aa (aK h (fun uA s' hq=>ab (ab hq)) fun uA uA e=>e)
 cases r with
 | stuck=>trivial
 | ok src O₁=>
   show DoesW G F s β _ ((R.lift ρ (R.bind (if src.xs.length≤line then yf src (xr tgt evT evX ρ) src.xs [] O₁ else .stuck) K)).bind (asgR (.name i))) _
   split
   ·rename_i hlen
    refine eS (jz (src:=src) (turn:=xr tgt evT evX ρ) src.xs [] O₁) ?_ ?_
    ·rintro ⟨res,O',hgo⟩;rw[hgo]
     show DoesW G F s β _ ((R.lift ρ (K (.d (.list res)) O')).bind (asgR (.name i))) _
     have run:∀ (Q:Flow→Shared→Prop) (E:Value→Shared→Prop),(∀ s₁ β₁ Z C D s' β',Step F.W β s s₁ β₁→SR G F β₁ ρ O₁ s₁.heap→(∀ z∈Z,Itr s₁.heap z)→(∀ z∈Z,z∉F.B)→(∀ z∈Z,s.heap.get? z=none) →
      CompEnd G F scope Z β₁ s₁ C D res O' s' β'→D∉yv scope C→wpAny (model G.prog G.w) A (assign (.Name x px) F.env (.ref D)) (fun uA s''=>∃ m,s''.heap.Ns C m∧∀ h',Heap.SameBut C s''.heap h'→Q .next { s'' with heap:=h' }) E s') →
      wpAny (model G.prog G.w) A (exec (.Assign [.Name x px] (.ListComp elt [⟨t,iter,ifs,0⟩] scope pos) spos) F.env) Q E s:=by
      intro Q E k
      refine open_ Q E ?_
      refine wpAny_comprehension_free (use:=some _) rfl hfold hclos k1 (pe hsc) (hI _ _ fun s₁ β₁ it st sr₁ ⟨I,Z,St,e,W,h0,hz⟩=>?_)
      subst e
      have hz0:∀ z∈Z,G.h₀.get? z=none:=fun z hz'=>by
       cases e:G.h₀.get? z with
       | none=>rfl
       | some o=>have:=sr.br.keep z o e;rw[hz z hz'] at this;exfalso;injection this
      have hzB:∀ z∈Z,z∉F.B:=fun z hz' hB=>by
       refine eV (sr.fm.stor z hB) ?_;intro o e _
       rw[hz z hz'] at e;exfalso;injection e
      refine za4 (RR:=fun acc C=>compPost (model G.prog G.w) A E (some (assign (.Name x px) F.env)) (fun uA s'=>Q .next s') acc C) g hh fit hsc honce hc ht he W sr₁ hz0 hzB hlen (has _ _ rfl) h0 hgo fun C D s' β' ce=>?_
      obtain⟨m,hm⟩:=ce.ns
      have hDM:D∉yv scope C:=fun hm'=>by
       obtain⟨o,vs,n,q1,q2,q3,_⟩:=ce.list
       refine eS (af.mp hm') ?_ ?_
       ·intro e;subst e
        refine fq hm ?_;clear hm;intro o' es ep p1 p2 _
        rw[q1] at p1;injection p1 with eQ;subst eQ;rw[q3] at p2;exfalso;injection p2
       ·intro hm';exact ce.notCell hm'
      exact k s₁ β₁ Z C D s' β' st sr₁ (W.itr _ _ _ _ h0) hzB hz ce hDM
     have fin:∀ (Q:Flow→Shared→Prop) (E:Value→Shared→Prop) (s₁:Shared) (β₁ Z:List Addr) (C D:Addr) (s':Shared) (β' β₂:List Addr) (v:V) (O₂:za) (S:Loc×za),Step F.W β s s₁ β₁→SR G F β₁ ρ O₁ s₁.heap→(∀ z∈Z,s.heap.get? z=none) →
      CompEnd G F scope Z β₁ s₁ C D res O' s' β'→StepZ Z β₁ s₁ s' β₂→SR G (F.plus (yv scope C)) β₂ ρ O₂ s'.heap→VR G (F.plus (yv scope C)).B β₂ s'.heap (.ref D) v→asgR (.name i) v (ρ,O₂)=.ok .next S →
      (∀ s' β' a,Step F.W β s s' β'→SR G F β' S.1 S.2 s'.heap→yr G F β' s'.heap a .next→Q a s') →
      wpAny (model G.prog G.w) A (assign (.Name x px) F.env (.ref D)) (fun uA s''=>∃ m,s''.heap.Ns C m∧∀ h',Heap.SameBut C s''.heap h'→Q .next { s'' with heap:=h' }) E s':=by
      intro Q E s₁ β₁ Z C D s' β' β₂ v O₂ S st sr₁ hz ce sz srp vr hasg k
      have hCM:C∈yv scope C:=am
      have hCn:=ce.new C (ag _ am)
      have hCB:C∉F.B:=fun hB=>by
       refine eV (sr₁.fm.stor C hB) ?_;intro o e _
       rw[hCn] at e;exfalso;injection e
      have hCMp:C∈(F.plus (yv scope C)).B:=az _ hCM
      have da:=xc (A:=A) hh (fit.plus (yv scope C)) hown (.name i) hx srp vr
      unfold asgR at hasg
      unfold bindR at da
      dsimp only at hasg da
      cases hbt:zp (.name i) v ρ with
      | none=>rw[hbt] at hasg;exfalso;injection hasg
      | some ρ'=>
        rw[hbt] at hasg da
        injection hasg with eQ eR;cases eQ;subst eR
        refine da _ _ fun s₃ β₃ uA st₃ sr₃ uA=>?_
        obtain⟨m,hm⟩:=ce.ns
        refine eW m (Kin.ns hm fun o p1=>st₃.kept C o p1 (srp.fm.notBox C hCMp) fun hw=>hCB (sr₁.fm.sub C hw)) (fun h' hs=>?_)
        have hs':∀ b o,b≠C→s₃.heap.get? b=some o→h'.get? b=some o:=fun b o hb e=>(hs.2 b hb).trans e
        have srF:=SR.drop sr₁.fm sr₃ hCM hCB hs'
        refine k _ β₃ _ ?_ srF rfl
        have s1:Step F.W β s s₃ β₃:=(st.thenStepZ sz hz).trans st₃
        exact s1.thenZ (Z:=[C]) ⟨rfl,rfl,fun b o hb e=>hs' b o (fun e'=>hb (by simp [e'])) e⟩ fun z hz'=>by
         rw [ae.mp hz']
         cases e:s.heap.get? C with
         | none=>rfl
         | some o=>refine eZ (st.alive _ _ e) ?_;intro o' e';rw[hCn] at e';exfalso;injection e'
     cases hK with
     | plain=>
       show DoesW G F s β _ (asgR (.name i) (.d (.list res)) (ρ,O')) _
       cases hasg:asgR (.name i) (.d (.list res)) (ρ,O') with
       | stuck=>trivial
       | ok fl S=>
         have hfl:fl=.next:=by unfold asgR at hasg;split at hasg <;> cases hasg;rfl
         subst hfl
         intro Q E k
         refine run Q E fun s₁ β₁ Z C D s' β' st sr₁ hz1 hzB hz ce hDM=>?_
         refine fb (ce.sr sr₁ hz1 hzB g.clsRef hDM) ?_;intro srp vr
         exact fin Q E s₁ β₁ Z C D s' β' β' _ O' S st sr₁ hz ce ce.step srp vr hasg k
     | box=>
       show DoesW G F s β _ (asgR (.name i) (.box O'.length) (ρ,O'++[.lst res])) _
       cases hasg:asgR (.name i) (.box O'.length) (ρ,O'++[.lst res]) with
       | stuck=>trivial
       | ok fl S=>
         have hfl:fl=.next:=by unfold asgR at hasg;split at hasg <;> cases hasg;rfl
         subst hfl
         intro Q E k
         refine run Q E fun s₁ β₁ Z C D s' β' st sr₁ hz1 hzB hz ce hDM=>?_
         refine fc (ce.srB sr₁ hz1 hzB g.clsRef hDM) ?_;intro sz srp vr
         exact fin Q E s₁ β₁ Z C D s' β' _ _ _ S st sr₁ hz ce sz srp vr hasg k
    ·intro hgo;rw[hgo];trivial
   ·trivial
end
section
variable{G:Gl}{F:Fm}{A:Around}{s:Shared}{β:List Addr}{ρ:Loc}{O:za}
theorem yu{s:Shared}{h':Heap}{tk:Nat}(hk:∀ b o,s.heap.get? b=some o→h'.get? b=some o):KeepsAll s { s with heap:=h',toks:=tk }:=⟨rfl,rfl,hk⟩
noncomputable def znl:Ty→String
 | .int=>"int"
 | .bool=>"bool"
 | .tuple=>"tuple"
 | .list=>"list"
 | .str=>"str"
theorem zoh(t:Ty):(q8 t,Value.type (znl t))∈bis:=by cases t <;> decide
theorem zjg{t:Ty}{v:Value}{d:V}{x:PyData}(sr:SR G F β ρ O s.heap)(rv:VR G F.B β s.heap v d)(hx:look O d=some x) :
 LeafD G F s β (tr G A (call (.builtin "isinstance") [v,.type (znl t)])) (V.d (.bool (isTy t x))) (FRel G F s):=by
 refine eZ (vg sr rv hx) ?_;intro as r
 have kT:∀ (Q:Value→Shared→Prop) b,(∀ v' s',KeepsAll s s'→FRel G F s β s'.heap v' (V.d (.bool b))→Q v' s')→Q (.bool b) s∧Q (.bool b) { s with toks:=s.toks+1 }:=fun Q b k=>
  ⟨k _ _ (KeepsAll.refl s) ⟨VR.bool,fun uA h=>by injection h with eQ;exfalso;injection eQ⟩,k _ _ (KeepsAll.toks s _) ⟨VR.bool,fun uA h=>by injection h with eQ;exfalso;injection eQ⟩⟩
 refine LeafD.leaf sr fun Q E k=>?_
 refine fb (kT Q _ k) ?_;intro k1 k2
 cases r with
 | none=>cases t <;> first | exact IsiPair.NoneType_int k2 | exact IsiPair.NoneType_bool k2 | exact IsiPair.NoneType_tuple k2 | exact IsiPair.NoneType_list k2 | exact IsiPair.NoneType_str k2
 | bool b=>cases t <;> first | exact IsiPair.bool_int k1 | exact IsiPair.bool_bool k1 | exact IsiPair.bool_tuple k2 | exact IsiPair.bool_list k2 | exact IsiPair.bool_str k2
 | int i u=>cases t <;> first | exact IsiPair.int_int k1 | exact IsiPair.int_bool k2 | exact IsiPair.int_tuple k2 | exact IsiPair.int_list k2 | exact IsiPair.int_str k2
 | str x u=>cases t <;> first | exact IsiPair.str_int k2 | exact IsiPair.str_bool k2 | exact IsiPair.str_tuple k2 | exact IsiPair.str_list k2 | exact IsiPair.str_str k1
 | list h1 h2 h3 h4=>cases t <;> first | exact IsiPair.list_int h1 h2 k2 | exact IsiPair.list_bool h1 h2 k2 | exact IsiPair.list_tuple h1 h2 k2 | exact IsiPair.list_list h1 h2 k1 | exact IsiPair.list_str h1 h2 k2
 | tuple h1 h2 h3 h4=>cases t <;> first | exact IsiPair.tuple_int h1 h2 k2 | exact IsiPair.tuple_bool h1 h2 k2 | exact IsiPair.tuple_tuple h1 h2 k1 | exact IsiPair.tuple_list h1 h2 k2 | exact IsiPair.tuple_str h1 h2 k2
 | dict h1 h2 h3 h4 h5=>cases t <;> first | exact IsiPair.dict_int h1 h2 k2 | exact IsiPair.dict_bool h1 h2 k2 | exact IsiPair.dict_tuple h1 h2 k2 | exact IsiPair.dict_list h1 h2 k2 | exact IsiPair.dict_str h1 h2 k2
theorem ze0{v:Value}{d:V}{xs:List PyData}(sr:SR G F β ρ O s.heap)(rv:VR G F.B β s.heap v d)(hx:look O d=some (.list xs))(hl:xs.length≤line) :
 LeafD G F s β (tr G A (call (.builtin "len") [v])) (V.d (.int xs.length)) (FRel G F s):=by
 refine eV (ya sr rv hx) ?_;intro a dX dY;subst dX;obtain ⟨o,vs,n,h1,h2,h3,as,h4,h5⟩:=dY
 have hsz:vs.size=xs.length:=by rw[← av,zd h4]
 refine LeafD.leaf sr fun Q E k=>Calls.call_len_list ⟨o,h1,h2,n,h3⟩ (by rw[hsz];have:line=1000000:=rfl;lia) ?_
 rw[hsz]
 exact k _ _ (KeepsAll.toks s _) ⟨VR.int,fun uA h=>by injection h with eQ;exfalso;injection eQ⟩
theorem zc3{v:Value}{xs:List PyData}(sr:SR G F β ρ O s.heap)(rv:VR G F.B β s.heap v (.d (.tuple xs)))(hl:xs.length≤line) :
 LeafD G F s β (tr G A (call (.builtin "len") [v])) (V.d (.int xs.length)) (FRel G F s):=by
 obtain⟨a,o,vs,n,rfl,h1,h2,h3,as,h4,h5⟩:=rv.tuple_inv
 have hsz:vs.size=xs.length:=by rw[← av,zd h4]
 refine LeafD.leaf sr fun Q E k=>PyProof.Rows.len_tuple ⟨o,h1,h2,n,h3⟩ (by rw[hsz];have:line=1000000:=rfl;lia) ?_
 rw[hsz]
 exact k _ _ (KeepsAll.toks s _) ⟨VR.int,fun uA h=>by injection h with eQ;exfalso;injection eQ⟩
theorem za8{h:Heap}{vs:List Value}{xs:List PyData}{as:List Addr}(r:ReadsAll h vs xs as):∀ {bs:List Bool},q6 xs=some bs→vs=bs.map Value.bool:=by
 refine z5 (motive:=fun vs xs uA=>∀ {bs:List Bool},q6 xs=some bs→vs=bs.map Value.bool) (fun e=>by injection e with eQ;subst eQ;rfl) ?_ r
 intro v d as vs ds bs r _ ih is e
 cases d with
 | bool i=>
   refine eV (aE.mp e) ?_;intro bs e1 dY;subst dY
   cases r
   rw[ih e1];rfl
 | _=>exfalso;injection e
theorem ints_get{h:Heap}{vs:List Value}{xs:List PyData}{as:List Addr}(r:ReadsAll h vs xs as):∀ {is:List Int},Mine.intsOf xs=some is→IntsAre vs is:=by
 refine z5 (motive:=fun vs xs uA=>∀ {is:List Int},Mine.intsOf xs=some is→IntsAre vs is) (fun e=>by injection e with eQ;subst eQ;exact .nil) ?_ r
 intro v d as vs ds bs r _ ih is e
 cases d with
 | int i=>
   refine eV (aE.mp e) ?_;intro bs e1 dY;subst dY
   cases r
   exact .cons _ _ (ih e1)
 | _=>exfalso;injection e
theorem ints_length:∀ {xs:List PyData} {is:List Int},Mine.intsOf xs=some is→xs=is.map PyData.int
 | [],_,e=>by injection e with eQ;subst eQ;rfl
 | x::xs,is,e=>by
   cases x with
   | int i=>
     refine eV (aE.mp e) ?_;intro bs e1 dY;subst dY
     rw[ints_length e1];rfl
   | _=>exfalso;injection e
theorem range_all(bs:List Bool):(List.range bs.length).all (fun i=>bs[i]?.getD false)=bs.all id:=by
 rw[Bool.eq_iff_iff,aU,aU]
 constructor
 ·intro h b hb
  obtain⟨i,hi,rfl⟩:=List.getElem_of_mem hb
  have:=h i (a7.mpr hi)
  rwa [ao hi] at this
 ·intro h i hi
  have hi:=a7.mp hi
  rw[ao hi]
  exact h _ (dH hi)
theorem range_any(bs:List Bool):(List.range bs.length).any (fun i=>bs[i]?.getD false)=bs.any id:=by
 rw[Bool.eq_iff_iff,List.any_eq_true,List.any_eq_true]
 constructor
 ·rintro⟨i,hi,h⟩
  have hi:=a7.mp hi
  rw[ao hi] at h
  exact eW _ (dH hi) h
 ·rintro⟨b,hb,h⟩
  obtain⟨i,hi,rfl⟩:=List.getElem_of_mem hb
  exact eW i (a7.mpr hi) (by rw[ao hi];exact h)
theorem ze4{s:Shared}{h':Heap}{tk:Nat}{o:Obj}(hk:∀ b o',b∉[s.heap.objs.size]→(s.heap.push o).get? b=some o'→h'.get? b=some o'):KeepsAll s { ({ s with heap:=s.heap.push o }:Shared) with heap:=h',toks:=tk }:=
 ⟨rfl,rfl,fun b o' e=>hk b o' (fun hm=>by rw[ae.mp hm,bg (aI _)] at e;exfalso;injection e) (ac _ e)⟩
theorem zr1{v:Value}{d:V}{xs:List PyData}{bs:List Bool}(hh:A.handled=none)(sr:SR G F β ρ O s.heap)(rv:VR G F.B β s.heap v d)(hx:look O d=some (.list xs))(hb:q6 xs=some bs) :
 LeafD G F s β (tr G A (call (.builtin "all") [v])) (V.d (.bool (bs.all id))) (FRel G F s):=by
 refine eV (ya sr rv hx) ?_;intro a dX dY;subst dX;obtain ⟨o,vs,n,h1,h2,h3,as,h4,h5⟩:=dY
 have hvs:=za8 h4 hb
 have hsz:vs.size=bs.length:=by rw[← av,hvs];simp
 refine LeafD.leaf sr fun Q E k=>call_all_walk (ch ⟨o,h1,h2,n,h3⟩ ?_)
 refine⟨_,_,_,_,_,_,fun i=>bs[i]?.getD false,rfl,Walks.list (A:=A.in1) hh s.heap.objs.size a (a8 (aX h1)) vs,⟨⟨_,ay _ rfl,rfl,rfl⟩,⟨o,ac _ h1,h2,n,h3⟩⟩,?_,fun h' tk hk=>?_⟩
 ·intro i v s' Q E hv q
  rw[← aP,hvs,aT] at hv
  cases hi:bs[i]? with
  | none=>rw[hi] at hv;exfalso;injection hv
  | some b=>rw[hi] at hv;injection hv with eQ;subst eQ;dsimp only at q;rw[hi] at q;exact bJ q
 ·rw[hsz,range_all]
  exact k _ _ (ze4 hk) ⟨VR.bool,fun uA h=>by injection h with eQ;exfalso;injection eQ⟩
theorem zr0{v:Value}{d:V}{xs:List PyData}{bs:List Bool}(hh:A.handled=none)(sr:SR G F β ρ O s.heap)(rv:VR G F.B β s.heap v d)(hx:look O d=some (.list xs))(hb:q6 xs=some bs) :
 LeafD G F s β (tr G A (call (.builtin "any") [v])) (V.d (.bool (bs.any id))) (FRel G F s):=by
 refine eV (ya sr rv hx) ?_;intro a dX dY;subst dX;obtain ⟨o,vs,n,h1,h2,h3,as,h4,h5⟩:=dY
 have hvs:=za8 h4 hb
 have hsz:vs.size=bs.length:=by rw[← av,hvs];simp
 refine LeafD.leaf sr fun Q E k=>call_any_walk (ch ⟨o,h1,h2,n,h3⟩ ?_)
 refine⟨_,_,_,_,_,_,fun i=>bs[i]?.getD false,rfl,Walks.list (A:=A.in1) hh s.heap.objs.size a (a8 (aX h1)) vs,⟨⟨_,ay _ rfl,rfl,rfl⟩,⟨o,ac _ h1,h2,n,h3⟩⟩,?_,fun h' tk hk=>?_⟩
 ·intro i v s' Q E hv q
  rw[← aP,hvs,aT] at hv
  cases hi:bs[i]? with
  | none=>rw[hi] at hv;exfalso;injection hv
  | some b=>rw[hi] at hv;injection hv with eQ;subst eQ;dsimp only at q;rw[hi] at q;exact bJ q
 ·rw[hsz,range_any]
  exact k _ _ (ze4 hk) ⟨VR.bool,fun uA h=>by injection h with eQ;exfalso;injection eQ⟩
theorem kq:∀ {vs:List Value} {is:List Int},IntsAre vs is→∀ (i:Nat) v,vs[i]?=some v→∃ n t,is[i]?=some n∧v=.int n t
 | _,_,.nil,i,v,e=>by simp at e
 | _,_,.cons n t r,0,v,e=>by simp at e;exact fz n t (by simp) e.symm
 | _,_,.cons _ _ r,i+1,v,e=>by simp at e;simpa using kq r i v e
theorem preSum_eq(is:List Int):preSum (fun i=>is[i]?.getD 0) is.length=is.sum:=by
 have:∀ k,k≤is.length→preSum (fun i=>is[i]?.getD 0) k=(is.take k).sum:=by
  intro k
  induction k with
  | zero=>intro _;simp[preSum]
  | succ k ih=>
    intro hk
    have hk':k < is.length:=hk
    show preSum _ k+_=_
    rw[ih (cw hk'),dA,List.sum_append,ao hk']
    simp[ao hk']
 rw[this _ (aI _),bE]
theorem ko:∀ {vs:List Value} {is:List Int},IntsAre vs is→vs.length=is.length
 | _,_,.nil=>rfl
 | _,_,.cons _ _ r=>by simp[ko r]
theorem l_sum{v:Value}{d:V}{xs:List PyData}{is:List Int}(hh:A.handled=none)(sr:SR G F β ρ O s.heap)(rv:VR G F.B β s.heap v d)(hx:look O d=some (.list xs))(hb:Mine.intsOf xs=some is) :
 LeafD G F s β (tr G A (call (.builtin "sum") [v])) (V.d (.int is.sum)) (FRel G F s):=by
 refine eV (ya sr rv hx) ?_;intro a dX dY;subst dX;obtain ⟨o,vs,n,h1,h2,h3,as,h4,h5⟩:=dY
 have hvs:=ints_get h4 hb
 have hsz:vs.size=is.length:=by rw[← av,ko hvs]
 refine LeafD.leaf sr fun Q E k=>call_sum_walkG (ch ⟨o,h1,h2,n,h3⟩ ?_)
 refine⟨_,_,_,_,_,_,fun i=>is[i]?.getD 0,rfl,Walks.list (A:=A.in1) hh s.heap.objs.size a (a8 (aX h1)) vs,⟨⟨_,ay _ rfl,rfl,rfl⟩,⟨o,ac _ h1,h2,n,h3⟩⟩,fun b hb=>?_,fun i v hv=>?_,fun h' tk t' hk=>?_⟩
 ·show b < (s.heap.push _).objs.size
  rw[bo]
  refine eS (af.mp hb) ?_ ?_
  ·rintro rfl;exact cL _
  ·intro hb;rw[ae.mp hb];exact cm (aX h1)
 ·rw[← aP] at hv
  refine fu (kq hvs i v hv) ?_;intro n t e1 e2
  exact fe t (by dsimp only;rw[e1];exact e2)
 ·rw[hsz,preSum_eq]
  exact k _ _ (ze4 hk) ⟨VR.int,fun uA h=>by injection h with eQ;exfalso;injection eQ⟩
theorem zjf{v:Value}{d:V}{x:PyData}{xs:List PyData}(sr:SR G F β ρ O s.heap)(rv:VR G F.B β s.heap v d)(hx:look O d=some x)(hi:items x=some xs)(hl:xs.length≤line) :
 LeafD G F s β (tr G A (call (.type "list") [v])) (V.d (.list xs)) (FRel G F s):=by
 have key:∀ (a:Addr) (o:Obj) (vs:Array Value) (n:Nat) (T:String) (as:List Addr),T = "list"∨T = "tuple"→s.heap.get? a=some o→o.cls=.type T→o.data=.seq vs n→ReadsAll s.heap vs.toList xs as→(∀ b∈as,b∉β∧b∉F.B) →
  LeafD G F s β (tr G A (call (.type "list") [.ref a])) (V.d (.list xs)) (FRel G F s):=by
  intro a o vs n T as hT h1 h2 h3 h4 h5
  have hsz:vs.size≤sizeLine:=by rw[← av,zd h4];exact aq hl (by decide)
  refine LeafD.leaf sr fun Q E k=>call_list_seq (hsz:=hsz) a hT h1 h2 h3 fun h' c' hk hS=>?_
  exact k _ _ (yu (tk:=s.toks) hk) ⟨y5 hS rfl rfl (zv hk h4) h5 sr.size_new,fun uA uA=>⟨_,rfl,bg (aI _),_,hS,rfl,rfl⟩⟩
 cases x with
 | list ys=>
   injection hi with eQ;subst eQ
   refine eV (ya sr rv hx) ?_;intro a dX dY;subst dX;obtain ⟨o,vs,n,h1,h2,h3,as,h4,h5⟩:=dY
   exact key a o vs n _ as (.inl rfl) h1 h2 h3 h4 h5
 | tuple ys=>
   injection hi with eQ;subst eQ
   have:=ye hx (fun uA h=>by exfalso;injection h);subst this
   obtain⟨a,o,vs,n,rfl,h1,h2,h3,as,h4,h5⟩:=rv.tuple_inv
   exact key a o vs n _ as (.inr rfl) h1 h2 h3 h4 h5
 | _=>exfalso;injection hi
theorem zby{v:Value}{d:V}{xs:List PyData}(sr:SR G F β ρ O s.heap)(rv:VR G F.B β s.heap v d)(hx:look O d=some (.list xs))(hl:xs.length≤line) :
 LeafD G F s β (tr G A (call (.type "tuple") [v])) (V.d (.tuple xs)) (FRel G F s):=by
 refine eV (ya sr rv hx) ?_;intro a dX dY;subst dX;obtain ⟨o,vs,n,h1,h2,h3,as,h4,h5⟩:=dY
 have hsz:vs.size≤sizeLine:=by rw[← av,zd h4];exact aq hl (by decide)
 refine LeafD.leaf sr fun Q E k=>call_tuple_list (hsz:=hsz) ⟨o,h1,h2,n,h3⟩ fun h' hk=>?_
 have hk':∀ b o,s.heap.get? b=some o→(h'.push { cls:=.type "tuple",data:=.seq vs }).get? b=some o:=fun b o e=>ac _ (hk b o e)
 exact k _ _ (yu (tk:=s.toks) hk') ⟨ke (ay _ rfl) rfl rfl (zv hk' h4) h5,fun uA h=>by injection h with eQ;exfalso;injection eQ⟩
theorem dm{v:Value}{xs:List PyData}(sr:SR G F β ρ O s.heap)(rv:VR G F.B β s.heap v (.d (.tuple xs))) :
 LeafD G F s β (tr G A (call (.type "tuple") [v])) (V.d (.tuple xs)) (FRel G F s):=by
 obtain⟨a,o,vs,n,rfl,h1,h2,h3,as,h4,h5⟩:=id rv.tuple_inv
 refine LeafD.leaf sr fun Q E k=>call_tuple_tup ⟨o,h1,h2,n,h3⟩ (k _ _ (KeepsAll.refl s) ⟨rv,fun uA h=>by injection h with eQ;exfalso;injection eQ⟩)
end
section
variable{G:Gl}{F:Fm}{A:Around}{cx:Cx}{s:Shared}{β:List Addr}{ρ:Loc}{O:za}{gval:Nat→Option PyData}{gname:Nat→Option Str}
theorem zdm(sr:SR G F β ρ O s.heap):Does G F A s β (execs [] F.env) (.ok .next (ρ,O)) (yr G F):=
 Does.leaf sr fun Q E q=>wpAny_execs_nil (q _ _ (KeepsAll.refl s) rfl)
theorem zb9{x:Stmt}{xs:List Stmt}{r:R (Loc×za) Fl}{g:Loc→za→R (Loc×za) Fl}(h1:Does G F A s β (exec x F.env) r (yr G F))
 (h2:∀ s' β' ρ' O',SR G F β' ρ' O' s'.heap→Does G F A s' β' (execs xs F.env) (g ρ' O') (yr G F)) :
 Does G F A s β (execs (x::xs) F.env) (r.bind (seqK fun S=>g S.1 S.2)) (yr G F):=by
 refine DoesW.seq (T₂:=fun f Q E s'=>match f with | .next=>wpAny (model G.prog G.w) A (execs xs F.env) Q E s' | f=>Q f s') (fun Q E h=>wpAny_execs_cons h) h1 fun s' β' f d S e st sr rf=>?_
 cases d with
 | next=>
   have:f=.next:=rf
   subst this
   exact h2 s' β' S.1 S.2 sr
 | ret v=>
   refine eV rf ?_;clear rf;intro val dX rv;subst dX
   exact Does.leaf sr fun Q E q=>q _ _ (KeepsAll.refl s') ⟨val,rfl,rv⟩
theorem zso{e:Expr}{p:Pos}{r:R za V}(h1:Does G F A s β (eval e F.env) (r.lift ρ) (VRel G F)) :
 Does G F A s β (exec (.Return (some e) p) F.env) ((r.lift ρ).bind fun v S=>.ok (.ret v) S) (yr G F):=
 DoesW.by (f:=Flow.ret) (q:=Fl.ret) (fun Q E h=>wpAny_Return_some h) h1 fun β h a d rv=>⟨a,rfl,rv⟩
theorem zsu{t:Expr}{a b:List Stmt}{p:Pos}{r:R za V}{ga gb:Loc→za→R (Loc×za) Fl}(h1:Does G F A s β (isTrue t F.env (eval t F.env)) ((tv r).lift ρ) BRel)
 (h2:∀ s' β' ρ' O',SR G F β' ρ' O' s'.heap→Does G F A s' β' (execs a F.env) (ga ρ' O') (yr G F)) (h3:∀ s' β' ρ' O',SR G F β' ρ' O' s'.heap→Does G F A s' β' (execs b F.env) (gb ρ' O') (yr G F)) :
 Does G F A s β (exec (.If t a b p) F.env) (((tv r).lift ρ).bind (ifeK (fun S=>ga S.1 S.2) fun S=>gb S.1 S.2)) (yr G F):=by
 refine DoesW.seq (T₂:=fun z Q E s₂=>if z then wpAny (model G.prog G.w) A (execs a F.env) Q E s₂ else wpAny (model G.prog G.w) A (execs b F.env) Q E s₂) (fun Q E h=>wpAny_If h) h1 fun s' β' z d S e st sr hz=>?_
 have hz:z=d:=hz
 subst hz
 cases z with
 | true=>exact (h2 s' β' S.1 S.2 sr).weaken (fun Q E h=>by show if _ then _ else _;rw[ah rfl];exact h) fun uA uA uA uA h=>h
 | false=>exact (h3 s' β' S.1 S.2 sr).weaken (fun Q E h=>by show if _ then _ else _;rw[ai (by decide)];exact h) fun uA uA uA uA h=>h
theorem zcf{e:Expr}(h:∀ a b c d,e≠.ListComp a b c d)(h2:∀ a b c d,e≠.SetComp a b c d)(h3:∀ a b c d f,e≠.DictComp a b c d f)(t:Option Expr)(n:Nat)(env:Env):swapsWith e t n env=pure false:=by
 cases e <;> first | rfl | exact absurd rfl (h _ _ _ _) | exact absurd rfl (h2 _ _ _ _) | exact absurd rfl (h3 _ _ _ _ _)
theorem zqg{e:Expr}{p:Pos}{r:R za V}(hk:F.env.scope.kind=.function)(hi:interactive F.env=false)(hs:swapsWith e none p.line F.env=pure false)(h1:Does G F A s β (eval e F.env) (r.lift ρ) (VRel G F)) :
 Does G F A s β (exec (.Expr e p) F.env) ((r.lift ρ).bind fun uA S=>.ok .next S) (yr G F):=by
 refine DoesW.seq (T₂:=fun uA Q E s'=>Q .next s') (fun Q E h=>wpAny_Expr_any h hi hs) h1 fun s' β' v d S e st sr rv=>?_
 exact Does.leaf sr fun Q E q=>q _ _ (KeepsAll.refl s') rfl
set_option tactic.hygienic true in
theorem gv{x:Str}{px spos:Pos}{i:Nat}{own:Str→Bool}{value:Expr}{r:R za V}(fit:Fits F cx)(hown:∀ x,own x=true→F.own x=true)(hx:chkT cx own (.name i) (.Name x px)=true)
 (hs:swapsWith value (some (.Name x px)) spos.line F.env=pure false) (h1:Does G F A s β (eval value F.env) (r.lift ρ) (VRel G F)) :
 Does G F A s β (exec (.Assign [.Name x px] value spos) F.env) ((r.lift ρ).bind (asgR (.name i))) (yr G F):=by
 refine fh (w3 hx) ?_;intro y p e h2 h3
 injection e with eQ eR;subst eQ eR
 refine fb (pg fit h2) ?_;intro g1 g2
 refine DoesW.seq (T₂:=fun v Q E s'=>wpAny (model G.prog G.w) A (storeName F.env x v) (fun uA=>Q .next) E s') (fun Q E h=>wpAny_Assign_Name h hs) h1 fun s' β' v d S e st sr rv=>?_
 have ds:=zgj (A:=A) sr g1 g2 (hown x h3) rv
 unfold asgR zp
 split
 ·rename_i ρ' heq
  split at heq
  ·injection heq with eQ;subst eQ
   intro Q E k
   exact ds _ _ fun s'' β'' uA st' sr' uA=>k s'' β'' .next st' sr' rfl
  ·exfalso;injection heq
 ·trivial
theorem zdn{elts:List Expr}{k:Nat}{tpos spos:Pos}{c:CT}{own:Str→Bool}{value:Expr}{r:R za V}(hh:A.handled=none)(fit:Fits F cx)(hown:∀ x,own x=true→F.own x=true)(hx:chkT cx own c (.Tuple elts k tpos)=true)
 (hs:swapsWithSole [.Tuple elts k tpos] value spos.line F.env=pure false) (hw:swappedStores [.Tuple elts k tpos] value F.env=pure none) (h1:Does G F A s β (eval value F.env) (r.lift ρ) (VRel G F)) :
 Does G F A s β (exec (.Assign [.Tuple elts k tpos] value spos) F.env) ((r.lift ρ).bind (asgR c)) (yr G F):=by
 refine DoesW.seq (T₂:=fun v Q E s'=>wpAny (model G.prog G.w) A (assign (.Tuple elts k tpos) F.env v) (fun uA=>Q .next) E s') (fun Q E h=>Assign_Tuple h hs hw) h1 fun s' β' v d S e st sr rv=>?_
 have da:=xc (A:=A) hh fit hown c hx sr rv
 unfold bindR at da
 unfold asgR
 cases hb:zp c d S.1 with
 | none=>trivial
 | some ρ'=>
   rw[hb] at da
   intro Q E k
   exact da _ _ fun s'' β'' uA st' sr' uA=>k s'' β'' .next st' sr' rfl
theorem zm4{t:Expr}{body:List Stmt}{p:Pos}{ev:Loc→za→R za V}{evb:Loc→za→R (Loc×za) Fl}{N:Nat}
 (ht:∀ s β ρ O,SR G F β ρ O s.heap→Does G F A s β (isTrue t F.env (eval t F.env)) ((tv (ev ρ O)).lift ρ) BRel)
 (hb:∀ s β ρ O,SR G F β ρ O s.heap→Does G F A s β (execs body F.env) (evb ρ O) (yr G F)) (sr:SR G F β ρ O s.heap) :
 Does G F A s β (exec (.While t body [] p) F.env) (yg (fun ρ O=>(tv (ev ρ O)).lift ρ) evb N ρ O) (yr G F):=by
 cases hgo:yg (fun ρ O=>(tv (ev ρ O)).lift ρ) evb N ρ O with
 | stuck=>trivial
 | ok fl S=>
   intro Q E k
   refine wpAny_While (codeAny_whileLoop (fun n s'=>∃ β' ρ' O',Step F.W β s s' β'∧SR G F β' ρ' O' s'.heap∧yg (fun ρ O=>(tv (ev ρ O)).lift ρ) evb n ρ' O'=.ok fl S) ?_ N ⟨β,ρ,O,Step.refl _ _ _,sr,hgo⟩)
   rintro n s' ⟨β',ρ',O',st,sr',hgo'⟩
   cases n with
   | zero=>exfalso;injection hgo'
   | succ n=>
     unfold yg at hgo'
     have dt:=ht s' β' ρ' O' sr'
     cases he:(tv (ev ρ' O')).lift ρ' with
     | stuck=>rw[he] at hgo';exfalso;injection hgo'
     | ok b S'=>
       rw[he] at hgo' dt
       refine dt _ _ fun s₂ β₂ b' st₂ sr₂ hb'=>?_
       have hb':b'=b:=hb'
       subst hb'
       cases b' with
       | false=>
         injection hgo' with eQ eR;subst eQ eR
         rw [ai (by decide)]
         exact wpAny_execs_nil (k s₂ β₂ .next (st.trans st₂) sr₂ rfl)
       | true=>
         rw [ah rfl]
         dsimp only at hgo'
         have db:=hb s₂ β₂ S'.1 S'.2 sr₂
         cases he2:evb S'.1 S'.2 with
         | stuck=>rw [he2] at hgo';exfalso;injection hgo'
         | ok f S''=>
           rw [he2] at hgo' db
           refine db _ _ fun s₃ β₃ f' st₃ sr₃ rf=>?_
           cases f with
           | ret u=>
             injection hgo' with eQ eR;subst eQ eR
             refine eV rf ?_;clear rf;intro val dX rv;subst dX
             exact k s₃ β₃ (.ret val) (st.trans (st₂.trans st₃)) sr₃ ⟨val,rfl,rv⟩
           | next=>
             have rf:f'=.next:=rf
             subst rf
             exact⟨n,cL n,β₃,S''.1,S''.2,st.trans (st₂.trans st₃),sr₃,hgo'⟩
end
theorem zba{kindOf:Str→Option NameKind}:∀ {binds:List (Str×Value)} {m:Str→Option Value} {x:Str} {v:Value},(binds.map (·.1)).Nodup→(x,v)∈binds→kindOf x=some .local→bindL kindOf binds m x=some v
 | (n,u)::r,m,x,v,hn,hm,hk=>by
   refine fb (bk.mp hn) ?_;intro h1 h2
   unfold bindL
   refine eS (af.mp hm) ?_ ?_
   ·intro e;have hx:x=n:=(Prod.mk.inj e).1
    have hv:v=u:=(Prod.mk.inj e).2
    subst hx;subst hv
    rw[ah hk]
    have:∀ (r:List (Str×Value)) (m:Str→Option Value),x∉r.map (·.1)→bindL kindOf r m x=m x:=by
     intro r
     induction r with
     | nil=>intro m _;rfl
     | cons p r ih=>
       intro m hx
       obtain⟨n',u'⟩:=p
       have hx':x≠n'∧x∉r.map (·.1):=by simpa using hx
       unfold bindL
       rw[ih _ hx'.2]
       split
       ·exact ai hx'.1
       ·rfl
    rw[this r _ h1];simp
   ·intro hm;exact zba h2 hm hk
theorem zhz{kindOf:Str→Option NameKind}{x:Str}(r:List (Str×Value)):∀ (m:Str→Option Value),x∉r.map (·.1)→bindC kindOf r m x=m x:=by
 induction r with
 | nil=>exact fun m uA=>rfl
 | cons p r ih=>
   intro m hx
   obtain⟨n',u'⟩:=p
   have hx':x≠n'∧x∉r.map (·.1):=by simpa using hx
   unfold bindC
   rw[ih _ hx'.2]
   split
   ·rfl
   ·exact ai hx'.1
theorem zhy{kindOf:Str→Option NameKind}{binds:List (Str×Value)}{x:Str}{v:Value}(hk:kindOf x=some .cell):∀ {m:Str→Option Value},(binds.map (·.1)).Nodup→(x,v)∈binds→bindC kindOf binds m x=some v:=by
 induction binds with
 | nil=>exact fun uA hm=>absurd hm cM
 | cons p r ih=>
   intro m hn hm
   obtain⟨n,u⟩:=p
   refine fb (bk.mp hn) ?_;intro h1 h2
   unfold bindC
   refine eS (af.mp hm) ?_ ?_
   ·intro e;refine fb (Prod.mk.inj e) ?_;intro hx hv
    subst hx;subst hv
    rw[ai (by rw[hk];decide),zhz r _ h1]
    exact ah rfl
   ·intro hm;exact ih h2 hm
theorem VRs.get{G:Gl}{N β:List Addr}{h:Heap}{vs:List Value}{ds:List V}(r:VRs G N β h vs ds):∀ (i:Nat) (h1:i < vs.length) (h2:i < ds.length),VR G N β h vs[i] ds[i]:=by
 induction r with
 | nil=>intro i h1;simp at h1
 | cons r rs ih=>
   intro i h1 h2
   cases i with
   | zero=>exact r
   | succ i=>exact ih i (by simpa using h1) (by simpa using h2)
theorem BoxAt.less2{N N' β β':List Addr}{h:Heap}(hs:∀ a∈N,a∈N')(hb:∀ a∈β,a∈β'){a:Addr}{bx:Box}(r:BoxAt h N' β' a bx):BoxAt h N β a bx:=by
 cases bx with
 | lst xs=>obtain⟨o,vs,n,h1,h2,h3,as,h4,h5⟩:=r;exact⟨o,vs,n,h1,h2,h3,as,h4,fun b hb'=>⟨fun hm=>(h5 b hb').1 (hb b hm),fun hn=>(h5 b hb').2 (hs b hn)⟩⟩
 | dct kvs=>
   obtain⟨o,es,n,h1,h2,h3,h4,h5⟩:=r
   refine⟨o,es,n,h1,h2,h3,h4,fun i e kv he hkv=>?_⟩
   obtain⟨hq,as,bs,r1,r2,q⟩:=h5 i e kv he hkv
   exact⟨hq,as,bs,r1,r2,fun b hb'=>⟨fun hm=>(q b hb').1 (hb b hm),fun hn=>(q b hb').2 (hs b hn)⟩⟩
noncomputable def xd(fd:FuncData)(L a:Addr)(names:List (Option Str))(B fr:List Addr):Fm:=
 { env:=callEnvC fd L a,names:=names,own:=ownOf fd.scope,W:=L::(cellsFrom (L+1) fd.scope.names []).map (·.2),B:=(L::(cellsFrom (L+1) fd.scope.names []).map (·.2))++B,fr:=L::fr }
structure FnOk(G:Gl)(J:Cx→List Stmt→CSs→Prop)(fname gname cname:Nat→Option Str)(x:Str)(fn:Fn)(a:Addr)(o:Obj)(fd:FuncData)(body:List Stmt)(names:List Str):Prop where
 at_:FnAt G x a o fd
 code:G.h₀.CodeRec fd.code fd.qualname
 body_:fd.body=.stmts body
 clos:fd.closure=[]
 globals:fd.globals=mainGlobals
 builtins:fd.builtins=builtinsNs
 defaults:fd.defaults=.none
 chk:zgk fn names fd.params fd.scope=true
 js:J { names:=yq fn names,sc:=fd.scope,fname,gname,cname } body fn.body
noncomputable def zgq(G:Gl)(J:Cx→List Stmt→CSs→Prop)(fname gname cname:Nat→Option Str)(T:Nat→Option Fn):Prop:=
 ∀ f x,fname f=some x→(∃ a o fd,FnAt G x a o fd)∧∀ fn,T f=some fn→∃ a o fd body names,FnOk G J fname gname cname x fn a o fd body names
structure HdOk(fn:Fn)(names:List Str)(a:Arguments)(sc:Scope):Prop where
 p1:a.posonlyargs=[]
 p2:a.vararg=none
 p3:a.kwonlyargs=[]
 p4:a.kwarg=none
 p5:a.args.map (·.arg)=names.take fn.arity
 k1:sc.kind=.function
 k2:sc.isGenerator=false
 k3:sc.isCoroutine=false
 k4:(sc.names.map (·.1)).Nodup
 k5:∀ x k,(x,k)∈sc.names→k=.local∨k=.cell∨k=.globalImplicit
 n1:names.Nodup
 n2:names.length≤fn.slots
 n3:fn.arity≤names.length
 n4:∀ x∈names,ownOf sc x=true
theorem k7{fn:Fn}{names:List Str}{a:Arguments}{sc:Scope}(h:zgk fn names a sc=true):HdOk fn names a sc:=by
 unfold zgk at h
 simp only[aD,aO] at h
 refine fb h ?_;clear h;intro dW h6;refine fb dW ?_;clear dW;intro dW h5;refine fb dW ?_;clear dW;intro dW h4;refine fb dW ?_;clear dW;intro dW h3;refine fb dW ?_;clear dW;intro h1 h2
 unfold pd at h1
 simp only[aD,dI,Option.isNone_iff_eq_none,aS] at h1
 unfold zaz at h2
 simp only[aD,bI,aO,aS] at h2
 refine⟨h1.1.1.1.1.1.1.1,h1.1.1.1.1.1.1.2,h1.1.1.1.1.1.2,h1.1.1.1.2,h1.1.2,h2.1.1.1.1,h2.1.1.1.2,h2.1.1.2,h2.1.2,fun x k hm=>?_,h3,h4,h5,aU.mp h6⟩
 have:=aU.mp h2.2 (x,k) hm
 simpa [bY,aS,or_assoc] using this
section
variable{G:Gl}{J:Cx→List Stmt→CSs→Prop}{F:Fm}{A:Around}{gval:Nat→Option PyData}{fname gname cname:Nat→Option Str}{T:Nat→Option Fn}{P:Pg}
structure Out(G:Gl)(B fr β:List Addr)(h:Heap):Prop where
 new:(∀ a∈B,a≠sysModules→G.h₀.get? a=none)∧sysModules∈B∧sysModules∉fr
 notBox:∀ a∈B,a∉β
 stor:∀ a∈B,∃ o,h.get? a=some o∧∀ vs n,o.data=.seq vs n→o.cls≠.type "tuple"
 frB:∀ a∈fr,a∈B
 frs:∀ a∈fr,∃ m,h.Ns a m
theorem FmOk.out{β:List Addr}{h:Heap}(fm:FmOk G F β h):Out G F.B F.fr β h:=⟨⟨fm.new.1,fm.new.2.1,fm.new.2.2.2⟩,fm.notBox,fm.stor,fm.frB,fm.frs⟩
theorem zaa{fn:Fn}{x:Str}{a:Addr}{o:Obj}{fd:FuncData}{body:List Stmt}{names:List Str}(fo:FnOk G J fname gname cname x fn a o fd body names){s s₁:Shared}{β B fr:List Addr}{O:za}{vals:List Value}{vs:List V}(br:BR G B β O s.heap)(fm:Out G B fr β s.heap)
 (rvs:VRs G B β s.heap vals vs) (hlen:vs.length=fn.arity)
 (ic:InCallC s (callEnvC fd s.heap.objs.size a).locals (bindL (callEnvC fd s.heap.objs.size a).kindOf ((names.take fn.arity).zip vals) fun uA=>none) (callEnvC fd s.heap.objs.size a).cells
   (bindC (callEnvC fd s.heap.objs.size a).kindOf ((names.take fn.arity).zip vals) fun uA=>none) s₁) :
 SR G (xd fd s.heap.objs.size a (yq fn names) B fr) β (vs.map some++List.replicate (fn.slots - fn.arity) none) O s₁.heap∧KeepsAll s s₁:=by
 obtain⟨_,_,_,_,_,k1,k2,k3,k4,k5,n1,n2,n3,n4⟩:=k7 fo.chk
 have kept:∀ b o,s.heap.get? b=some o→s₁.heap.get? b=some o:=ic.toInCall.keep
 obtain⟨h₁,tk,e₁⟩:=ic.toInCall.same
 have ka:KeepsAll s s₁:=⟨by rw[e₁],by rw[e₁],kept⟩
 refine⟨?_,ka⟩
 have hns:=ic.toInCall.ns
 have hLn:s.heap.get? s.heap.objs.size=none:=zz s
 have hcn:∀ y c,(y,c)∈cellsFrom (s.heap.objs.size+1) fd.scope.names []→s.heap.get? c=none:=fun y c hm=>bg (cw (ic.above y c hm))
 have hM:∀ b∈s.heap.objs.size::(cellsFrom (s.heap.objs.size+1) fd.scope.names []).map (·.2),s.heap.get? b=none:=fun b hb=>by
  refine eS (af.mp hb) ?_ ?_
  ·rintro rfl;exact hLn
  ·intro hb;refine eV (aC.mp hb) ?_;intro p hp dY;subst dY
   exact hcn p.1 p.2 hp
 have h0:∀ b,s.heap.get? b=none→G.h₀.get? b=none:=fun b hb=>by
  cases e:G.h₀.get? b with
  | none=>rfl
  | some o=>have:=br.keep b o e;rw[hb] at this;exfalso;injection this
 have hnames:(yq fn names)=names.map some++List.replicate (fn.slots - names.length) none:=rfl
 have nget:∀ (i:Nat) y,(yq fn names)[i]?=some (some y)→names[i]?=some y:=fun i y h=>by
  rw[hnames] at h
  refine eS (bm i names.length) ?_ ?_
  ·intro hi;rw[aJ (by simpa using hi),aT] at h
   cases hn:names[i]? with
   | none=>rw[hn] at h;exfalso;injection h
   | some z=>rw[hn] at h;cases h;rfl
  ·intro hi;rw[aF (by simpa using hi),List.getElem?_replicate] at h
   split at h <;> cases h
 have cellok:∀ y c,(y,c)∈cellsFrom (s.heap.objs.size+1) fd.scope.names []→(cellsFrom (s.heap.objs.size+1) fd.scope.names []).lookup y=some c→∃ v,s₁.heap.IsCell c v:=fun y c uA hl=>⟨_,ic.cell y c hl⟩
 refine⟨(br.grow hM).keepAll kept,⟨k1,fo.globals,fo.builtins,fun i j y h1 h2=>?_,⟨_,hns⟩,am,fun y hy=>?_,fun y z c hy hz=>?_,fun b hb=>az _ hb,?_,fun b hb hb'=>?_,fun b hb=>?_,fun b hb=>?_,fun b hb=>?_,fun m e=>nomatch e⟩,fun i y v h1 h2=>?_⟩
 ·have e1:=nget i y h1
  have e2:=nget j y h2
  have hi:i < names.length:=(aL.mp e1).1
  have hj:j < names.length:=(aL.mp e2).1
  rw[ao hi] at e1
  rw[ao hj] at e2
  exact (List.getElem_inj (h₀:=hi) (h₁:=hj) n1).mp ((aM e1).trans (aM e2).symm)
 ·have hy':fd.scope.names.lookup y=some .cell:=hy
  refine eZ (bZ.mp (yd fd.scope.names (s.heap.objs.size+1) [] (.inl ((lookup_mem k4).mpr hy')))) ?_;intro c hc
  have hW:c∈s.heap.objs.size::(cellsFrom (s.heap.objs.size+1) fd.scope.names []).map (·.2):=ag _ (aC.mpr ⟨(y,c),mem_of_lookup hc,rfl⟩)
  exact fy c _ hc (ic.cell y c hc) (az _ hW) (fun uA=>hW)
 ·exact name_of_addr ic.apart (mem_of_lookup hy) (mem_of_lookup hz)
 ·refine⟨fun b hb hs=>?_,au _ fm.new.2.1,fun hm=>br.notSys (hM _ hm) rfl,fun hm=>?_⟩
  ·refine eS (aj.mp hb) ?_ ?_
   ·intro hb;exact h0 b (hM b hb)
   ·intro hb;exact fm.new.1 b hb hs
  ·refine eS (af.mp hm) ?_ ?_
   ·intro q;exact br.notSys hLn q.symm
   ·intro hm;exact fm.new.2.2 hm
 ·refine eS (aj.mp hb) ?_ ?_
  ·intro hb;refine eV (br.alive b hb') ?_;intro o e _
   rw[hM b hb] at e;exfalso;injection e
  ·intro hb;exact fm.notBox b hb hb'
 ·refine eS (aj.mp hb) ?_ ?_
  ·intro hb;refine eS (af.mp hb) ?_ ?_
   ·rintro rfl;refine fq hns ?_;clear hns;intro o es ep q1 q2 _
    exact eW o q1 (fun vs n q=>by rw[q2] at q;exfalso;injection q)
   ·intro hb;refine eV (aC.mp hb) ?_;intro p hp dY;subst dY
    obtain⟨c,hc⟩:=bZ.mp (yd fd.scope.names (s.heap.objs.size+1) [] (x:=p.1) (by
     refine eS (xo _ _ _ (show (p.1,p.2)∈_ from hp)) ?_ ?_
     ·intro h;exact .inl h
     ·intro h;cases h))
    have hpc:c=p.2:=by
     have hkeys:∀ (names:List (Str×NameKind)) (n:Nat) (acc:List (Str×Addr)),(names.map (·.1)).Nodup→(∀ q∈acc,q.1∉names.map (·.1))→(acc.map (·.1)).Nodup→((cellsFrom n names acc).map (·.1)).Nodup:=by
      intro names
      induction names with
      | nil=>intro n acc _ _ h;exact h
      | cons z r ih=>
        intro n acc hn ha hacc
        obtain⟨zn,zk⟩:=z
        refine fb (bk.mp hn) ?_;intro hz1 hz2
        unfold cellsFrom
        split
        ·refine ih _ _ hz2 (fun q hq=>?_) ?_
         ·refine eS (af.mp hq) ?_ ?_
          ·rintro rfl;exact hz1
          ·intro hq;exact fun hm=>ha q hq (ag _ hm)
         ·rw [a9,bk]
          exact⟨fun hm=>by refine eV (aC.mp hm) ?_;intro q hq e;exact ha q hq (by rw[e];exact am),hacc⟩
        ·exact ih _ _ hz2 (fun q hq hm=>ha q hq (ag _ hm)) hacc
     have hk:=hkeys fd.scope.names (s.heap.objs.size+1) [] k4 (fun uA h=>nomatch h) (by simp)
     have e1:=(lookup_mem hk (x:=p.1) (k:=p.2)).mp hp
     rw[hc] at e1;cases e1;rfl
    subst hpc
    refine eV (ic.cell p.1 p.2 hc) ?_;intro o q1 q2
    exact eW o q1 (fun vs n q=>by rw[q2] at q;exfalso;injection q)
  ·intro hb;refine eV (fm.stor b hb) ?_;intro o q1 q2
   exact eW o (kept _ _ q1) q2
 ·refine eS (af.mp hb) ?_ ?_
  ·rintro rfl;exact az _ am
  ·intro hb;exact au _ (fm.frB b hb)
 ·refine eS (af.mp hb) ?_ ?_
  ·rintro rfl;exact fe _ hns
  ·intro hb;refine eZ (fm.frs b hb) ?_;intro m hm
   exact fe m (hm.keeps kept)
 ·have hvl:vals.length=vs.length:=rvs.length
  have hi:i < vs.length:=by
   refine eS (bm i vs.length) ?_ ?_
   ·intro h;exact h
   ·intro h;rw[aF (by simpa using h),List.getElem?_replicate] at h2
    split at h2 <;> cases h2
  rw[aJ (by simpa using hi),aT,ao hi] at h2
  injection h2 with eQ;injection eQ with eQ;subst eQ
  have hiv:i < vals.length:=by rw[hvl];exact hi
  have hy:=nget i y h1
  have hz:(y,vals[i])∈(names.take fn.arity).zip vals:=by
   have:((names.take fn.arity).zip vals)[i]?=some (y,vals[i]):=by
    rw[List.getElem?_zip_eq_some]
    refine⟨?_,ao hiv⟩
    rw[List.getElem?_take_of_lt (by rw[← hlen];exact hi)];exact hy
   exact aw this
  have hnd:(((names.take fn.arity).zip vals).map (·.1)).Nodup:=by
   have:((names.take fn.arity).zip vals).map (·.1)=names.take fn.arity:=by
    rw[List.map_fst_zip]
    rw[List.length_take,hvl,hlen];exact Nat.min_le_left _ _
   rw[this];exact n1.sublist (List.take_sublist _ _)
  refine eW (vals[i]) ?_ (((rvs.get i hiv hi).grow hM).keepAll kept)
  have how:=n4 y (aw hy)
  unfold ownOf at how
  simp only[bY,aS] at how
  refine eS how ?_ ?_<;>clear how
  ·intro how;exact .inl ⟨how,_,hns,zba hnd hz how⟩
  ·intro how;refine eZ (bZ.mp (yd fd.scope.names (s.heap.objs.size+1) [] (.inl ((lookup_mem k4).mpr how)))) ?_;intro c hc
   refine .inr ⟨how,c,hc,?_⟩
   have:=ic.cell y c hc
   rwa [zhy how hnd hz] at this
end
section
variable{G:Gl}{N N' β β':List Addr}{O':za}{h:Heap}{base:Nat}
theorem pre_take{β β':List Addr}(hp:β <+: β'):β=β'.take β.length:=by refine eZ hp ?_;clear hp;intro t dX;subst dX;simp
theorem BR.short(br:BR G N' β' O' h)(hN:∀ a∈N,a∈N')(hp:β <+: β')(hl:β.length=base):BR G N β (O'.take base) h:=by
 have hle:β.length≤β'.length:=hp.length_le
 have hget:∀ {i:Nat} {a:Addr},β[i]?=some a→β'[i]?=some a:=fun e=>xn hp e
 refine⟨br.keep,by rw[List.length_take,← br.len,hl];lia,br.nodup.sublist hp.sublist,fun a ha=>br.new a (hp.subset ha),fun i a bx h1 h2=>?_,fun a ha=>br.plain a (hp.subset ha)⟩
 have h2':O'[i]?=some bx:=by
  rw[List.getElem?_take] at h2
  split at h2
  ·exact h2
  ·exfalso;injection h2
 exact (br.at_ i a bx (hget h1) h2').less2 hN fun a ha=>hp.subset ha
theorem zdy{n:Nat}{b:Addr}(br:BR G N' β' O' h)(hp:β <+: β')(hn:β.length≤n)(hb:β'[n]?=some b):b∉β:=fun hm=>by
 refine eZ (bX hm) ?_;intro i hi
 have hi':=xn hp hi
 have hil:i < β.length:=(aL.mp hi).1
 have h1:i < β'.length:=(aL.mp hi').1
 have h2:n < β'.length:=(aL.mp hb).1
 rw[ao h1] at hi'
 rw[ao h2] at hb
 have:=(List.getElem_inj (h₀:=h1) (h₁:=h2) br.nodup).mp ((aM hi').trans (aM hb).symm)
 lia
theorem BR.shortB{n:Nat}{b:Addr}{xs:List PyData}(br:BR G N' β' O' h)(hN:∀ a∈N,a∈N')(hp:β <+: β')(hl:β.length=base)(hn:base≤n)(hb:β'[n]?=some b)(hx:O'[n]?=some (.lst xs)) :
 BR G N (β++[b]) (O'.take base++[.lst xs]) h∧(∀ a∈β++[b],a∈β'):=by
 have s:=br.short (base:=base) hN hp hl
 have hbm:b∈β':=aw hb
 have sub:∀ a∈β++[b],a∈β':=fun a ha=>(aj.mp ha).elim (fun h=>hp.subset h) fun h=>by rw[ae.mp h];exact hbm
 have hbβ:b∉β:=zdy br hp (by rw[hl];exact hn) hb
 refine⟨⟨br.keep,by simp[s.len],?_,fun a ha=>br.new a (sub a ha),fun i a bx h1 h2=>?_,fun a ha=>br.plain a (sub a ha)⟩,sub⟩
 ·rw[cj]
  exact⟨s.nodup,by simp,fun a ha c hc=>by rw[ae.mp hc];exact fun e=>hbβ (e ▸ ha)⟩
 ·refine eS (bm i β.length) ?_ ?_
  ·intro hi;rw[aJ hi] at h1
   rw[aJ (by rw[← s.len];exact hi),List.getElem?_take] at h2
   split at h2
   ·exact (br.at_ i a bx (xn hp h1) h2).less2 hN sub
   ·exfalso;injection h2
  ·intro hi;rw[aF hi] at h1
   rw[aF (by rw[← s.len];exact hi)] at h2
   have hi0:i - β.length=0:=by
    refine eS (Nat.eq_zero_or_pos (i - β.length)) ?_ ?_
    ·intro h;exact h
    ·intro h;rw[a6 (show [b].length≤i - β.length from h)] at h1;exfalso;injection h1
   rw[hi0] at h1
   rw[← s.len,hi0] at h2
   injection h1 with eQ;subst eQ;injection h2 with eQ;subst eQ
   exact (br.at_ n b (.lst xs) hb hx).less2 hN sub
theorem g6{n:Nat}{b:Addr}{xs:List PyData}(br:BR G N' β' O' h)(hN:∀ a∈N,a∈N')(nb:∀ a∈N',a∉β')(hp:β <+: β')(hn:β.length≤n)(hb:β'[n]?=some b)(hx:O'[n]?=some (.lst xs)):VR G N β h (.ref b) (.d (.list xs)):=by
 obtain⟨o,vs,k,e1,e2,e3,as,e4,e5⟩:=br.at_ n b (.lst xs) hb hx
 exact⟨b::as,.list e1 e2 e3 e4,fun a ha=>(af.mp ha).elim (fun e=>e ▸ ⟨zdy br hp hn hb,fun hm=>nb b (hN b hm) (aw hb)⟩) fun ha=>⟨fun hm=>(e5 a ha).1 (hp.subset hm),fun hm=>(e5 a ha).2 (hN a hm)⟩⟩
theorem zha{O:za}{n:Nat}{x:PyData}(e:j7 O n=some x):∃ xs,x=.list xs∧O[n]?=some (.lst xs):=by
 unfold j7 at e
 cases ho:O[n]? with
 | none=>rw[ho] at e;exfalso;injection e
 | some bx=>
   rw[ho] at e
   cases bx with
   | lst xs=>injection e with eQ;subst eQ;exact eW xs rfl rfl
   | dct kvs=>exfalso;injection e
set_option tactic.hygienic true in
theorem zpt(br:BR G N' β' O' h)(hN:∀ a∈N,a∈N')(nb:∀ a∈N',a∉β')(hp:β <+: β')(hl:β.length=base){vs:List Value}{its:List It}(r:ItsR N' β' h vs its):∀ {ds:List PyData},frz O' base its=some ds→∃ as,ReadsAll h vs ds as∧∀ a∈as,a∉β∧a∉N:=by
 induction r with
 | nil=>intro ds e;injection e with eQ;subst eQ;exact eW [] .nil (fun uA h=>nomatch h)
 | b hb _ ih=>
   rename_i n a vs its _
   intro ds e
   have e:(if base≤n then (j7 O' n).bind fun x=>(frz O' base its).map (x::·) else none)=some ds:=e
   by_cases hn:base≤n
   ·rw[ah hn] at e
    refine eV (aV.mp e) ?_;intro x h1 e
    refine eV (aE.mp e) ?_;intro ds' h2 dY;subst dY
    refine eV (zha h1) ?_;intro xs dX hx;subst dX
    obtain⟨as,r,q⟩:=g6 br hN nb hp (by rw[hl];exact hn) hb hx
    refine eV (ih h2) ?_;intro bs rs qs
    exact eW (as++bs) (.cons r rs) (fun a ha=>(aj.mp ha).elim (q a) (qs a))
   ·rw[ai hn] at e;exfalso;injection e
 | x r q _ ih=>
   intro ds e
   refine eV (aE.mp e) ?_;intro ds' h2 dY;subst dY
   refine eV (ih h2) ?_;intro bs rs qs
   exact eW (_++bs) (.cons r rs) (fun a ha=>(aj.mp ha).elim (fun ha=>⟨fun hm=>(q a ha).1 (hp.subset hm),fun hm=>(q a ha).2 (hN a hm)⟩) (qs a))
inductive zla(G:Gl)(N β β':List Addr)(O'':za)(h:Heap)(val:Value)(v':V):Prop
 | mk (β'':List Addr) (q1:β <+: β'') (q2:∀ a∈β'',a∈β') (q3:BR G N β'' O'' h) (q4:VR G N β'' h val v')
theorem zhk{keep:Bool}{n:Nat}{b:Addr}{v':V}{O'':za}(br:BR G N' β' O' h)(hN:∀ a∈N,a∈N')(nb:∀ a∈N',a∉β')(hp:β <+: β')(hl:β.length=base)(hb:β'[n]?=some b)(hf:vm base keep n O'=.ok v' O''):zla G N β β' O'' h (.ref b) v':=by
 unfold vm at hf
 by_cases hn:n < base
 ·rw[ah hn] at hf
  injection hf with eQ eR;subst eQ eR
  refine⟨β,bt _,fun a ha=>hp.subset ha,br.short hN hp hl,b,?_,rfl⟩
  rw[pre_take hp,List.getElem?_take,ah (by rw[hl];exact hn)];exact hb
 ·rw[ai hn] at hf
  cases hx:O'[n]? with
  | none=>rw[hx] at hf;exfalso;injection hf
  | some bx=>
    rw[hx] at hf
    cases bx with
    | dct kvs=>exfalso;injection hf
    | lst xs=>
      cases keep with
      | true=>
        injection hf with eQ eR;subst eQ eR
        refine fb (br.shortB hN hp hl (cT.mp hn) hb hx) ?_;intro b1 b2
        exact⟨β++[b],List.prefix_append _ _,b2,b1,b,by rw[← hl,aF (aI _),ca];rfl,rfl⟩
      | false=>
        injection hf with eQ eR;subst eQ eR
        exact⟨β,bt _,fun a ha=>hp.subset ha,br.short hN hp hl,g6 br hN nb hp (by rw[hl];exact cT.mp hn) hb hx⟩
theorem g0{its:List It}{p:Nat×PyData}(e:vn its=some p):its=[.b p.1,.x p.2]:=by
 cases its with
 | nil=>exfalso;injection e
 | cons i r=>
   cases i with
   | x _=>exfalso;injection e
   | b n=>
     cases r with
     | nil=>exfalso;injection e
     | cons j r=>
       cases r with
       | cons _ _=>exfalso;injection e
       | nil=>
         cases j with
         | b _=>exfalso;injection e
         | x d=>injection e with eQ;subst eQ;rfl
theorem zfc{p:Nat×PyData}{val:Value}{v':V}{O'':za}(br:BR G N' β' O' h)(hN:∀ a∈N,a∈N')(hp:β <+: β')(hl:β.length=base)(rv:VRtm N' β' h val [.b p.1,.x p.2])(hf:uc base p O'=.ok v' O''):zla G N β β' O'' h val v':=by
 obtain⟨a,o,vs,k,rfl,e1,e2,e3,e4⟩:=rv
 unfold uc at hf
 by_cases hn:p.1 < base
 ·rw[ah hn] at hf;exfalso;injection hf
 ·rw[ai hn] at hf
  cases hx:O'[p.1]? with
  | none=>rw[hx] at hf;exfalso;injection hf
  | some bx=>
    rw[hx] at hf
    cases bx with
    | dct _=>exfalso;injection hf
    | lst xs=>
      injection hf with eQ eR;subst eQ eR
      generalize hv:vs.toList=l at e4
      cases e4 with
      | b hb r=>
        cases r with
        | x r q r'=>
          cases r'
          refine fb (br.shortB hN hp hl (cT.mp hn) hb hx) ?_;intro b1 b2
          refine ⟨_,List.prefix_append _ _,b2,b1,a,o,vs,k,rfl,e1,e2,e3,?_⟩
          rw [hv]
          exact .b (by rw[← hl,aF (aI _),ca];rfl) (.x r (fun c hc=>⟨fun hm=>(q c hc).1 (b2 c hm),fun hm=>(q c hc).2 (hN c hm)⟩) .nil)
theorem zj5{keep:Bool}{val:Value}{v v':V}{O'':za}(br:BR G N' β' O' h)(hN:∀ a∈N,a∈N')(nb:∀ a∈N',a∉β')(hp:β <+: β')(hl:β.length=base)(rv:VR G N' β' h val v)(hf:fin base keep v O'=.ok v' O'') :
 zla G N β β' O'' h val v':=by
 cases v with
 | d x=>
   injection hf with eQ eR;subst eQ eR
   obtain⟨as,r,q⟩:=rv
   exact⟨β,bt _,fun a ha=>hp.subset ha,br.short hN hp hl,as,r,fun a ha=>⟨fun hm=>(q a ha).1 (hp.subset hm),fun hm=>(q a ha).2 (hN a hm)⟩⟩
 | box n=>
   obtain⟨b,hb,rfl⟩:=rv
   exact zhk br hN nb hp hl hb hf
 | tm its=>
   cases keep with
   | true=>
     have hf:(match vn its with
      | some p=>uc base p O'
      | none=>.stuck)=R.ok v' O'':=hf
     cases hz:vn its with
     | none=>rw[hz] at hf;exfalso;injection hf
     | some p=>
       rw[hz] at hf
       rw[g0 hz] at rv
       exact zfc br hN hp hl rv hf
   | false=>
     obtain⟨a,o,vs,k,rfl,e1,e2,e3,e4⟩:=rv
     have hf:(match frz O' base its with
      | some ds=>.ok (.d (.tuple ds)) (O'.take base)
      | none=>.stuck)=R.ok v' O'':=hf
     cases hz:frz O' base its with
     | none=>rw[hz] at hf;exfalso;injection hf
     | some ds=>
       rw[hz] at hf
       injection hf with eQ eR;subst eQ eR
       refine eV (zpt br hN nb hp hl e4 hz) ?_;intro as r q
       exact⟨β,bt _,fun a ha=>hp.subset ha,br.short hN hp hl,as,.tuple e1 e2 e3 r,q⟩
end
section
variable{G:Gl}{J:Cx→List Stmt→CSs→Prop}{gval:Nat→Option PyData}{fname gname cname:Nat→Option Str}{T:Nat→Option Fn}{P:Pg}
theorem FrA.deeper{A:Around}{F:Fm}{fd:FuncData}{L a:Addr}{names:List (Option Str)}(fr:FrA A F)(k1:fd.scope.kind=.function):FrA (A.deeper (callEnvC fd L a)) (xd fd L a names F.B F.fr):=by
 refine eV fr ?_;clear fr;intro l h1 h2
 refine eW _ (cH h1) (fun env he=>?_)
 refine eS (af.mp he) ?_ ?_
 ·rintro rfl;exact⟨by show fd.scope.kind≠.module;rw[k1];decide,L,rfl,am⟩
 ·intro he;obtain⟨h3,L',h4,h5⟩:=h2 env he
  exact⟨h3,L',h4,ag _ h5⟩
noncomputable def TopA(A:Around)(F:Fm):Prop:=(∃ outer,A.frames=some (F.env::outer))∧∃ L,F.env.frame=some L
noncomputable def BodyOk(G:Gl)(J:Cx→List Stmt→CSs→Prop)(A:Around)(fname gname cname:Nat→Option Str)(P:Pg):Prop:=
 ∀ (F:Fm) (cx:Cx) (c:CSs) (body:List Stmt) (s:Shared) (β:List Addr) (ρ:Loc) (O:za),cx.fname=fname→cx.gname=gname→cx.cname=cname→Fits F cx→FrA A F→TopA A F→(∀ x,ownOf cx.sc x=true→F.own x=true)→J cx body c→SR G F β ρ O s.heap →
  Does G F A s β (execs body F.env) (evSs P c ρ O) (yr G F)
theorem zj6{base:Nat}{keep:Bool}{O:za}:fin base keep (.d .none) O=.ok (.d .none) (O.take base):=rfl
theorem zce{A:Around}{F:Fm}{fd:FuncData}{L a:Addr}{names:List (Option Str)}{B fr:List Addr}(frA:FrA A F):TopA (A.deeper (callEnvC fd L a)) (xd fd L a names B fr):=by
 refine eV frA ?_;clear frA;intro l h1 _
 exact⟨⟨l,cH h1⟩,L,rfl⟩
theorem zda{Fc F:Fm}{β β':List Addr}{ρ:Loc}{O O'':za}{S:Loc×za}{s s₁ s':Shared}{keep:Bool}{val:Value}{v res:V}(sr:SR G F β ρ O s.heap)(hWn:∀ b∈Fc.W,s.heap.get? b=none)(subB:∀ b∈F.B,b∈Fc.B)(ka:KeepsAll s s₁)
 (st:Step Fc.W β s₁ s' β') (srE:SR G Fc β' S.1 S.2 s'.heap) (rv:VR G Fc.B β' s'.heap val v) (hf:Mine.fin O.length keep v S.2=.ok res O''):∃ β'',Step F.W β s s' β''∧SR G F β'' ρ O'' s'.heap∧VR G F.B β'' s'.heap val res:=by
 obtain⟨β'',q1,q2,q3,q4⟩:=zj5 srE.br subB srE.fm.notBox st.pre sr.br.len rv hf
 have st0:Step [] β s s' β':=((ka.step [] β).thenW st hWn)
 have st1:Step [] β s s' β'':=⟨st0.gens,st0.os,q1,fun b hb'=>st0.fresh b (q2 b hb'),st0.alive,st0.kept⟩
 exact ff β'' ⟨st1.gens,st1.os,st1.pre,st1.fresh,st1.alive,fun b o e hb' uA=>st1.kept b o e hb' cM⟩ (sr.outer st1 q3 fun b hb' hm=>srE.fm.notBox b (subB b hb') (q2 b hm)) q4
inductive Callee(G:Gl)(F:Fm)(A':Around)(cx:Cx)(β:List Addr)(ρ:Loc)(O:za)(env:Env)(s s₁:Shared):Prop
 | mk (Fc:Fm) (hE:Fc.env=env) (ka:KeepsAll s s₁) (srC:SR G Fc β ρ O s₁.heap) (fit:Fits Fc cx) (fr:FrA A' Fc) (top:TopA A' Fc) (own:∀ x,ownOf cx.sc x=true→Fc.own x=true) (hWn:∀ b∈Fc.W,s.heap.get? b=none) (subB:∀ b∈F.B,b∈Fc.B)
set_option tactic.hygienic true in
theorem call_one(g:GOk G gval gname)(fns:zgq G J fname gname cname T){A:Around}{k:Nat}(ro:Room A (k+1)){call:Bool→Nat→List V→za→R za V}{hd:Bool}
 (hb:∀ env,BodyOk G J (A.deeper env) fname gname cname { P with call:=call,hd:=hd }):w5 G A fname (fun f args O=>match T f with
   | some fn=>if args.length=fn.arity∧fn.arity≤fn.slots then evFn { P with call:=call,hd:=hd } fn args O else .stuck
   | none=>.stuck):=by
 intro F s β ρ O f x vals vs sr frA hf rvs
 refine fb (fns f x hf) ?_;intro dW hfn;refine fA dW ?_;clear dW;intro a o dY;refine eZ dY ?_;clear dY;intro fd fa
 cases hT:T f with
 | none=>exact eU a o fd fa (by dsimp only;rw[hT];trivial)
 | some fn=>
   refine fA (hfn fn hT) ?_;intro a o dY;refine fA dY ?_;clear dY;intro fd body dY;refine eZ dY ?_;clear dY;intro names fo
   refine eU a o fd fo.at_ ?_
   dsimp only
   rw[hT]
   dsimp only
   split
   ·rename_i hlen
    obtain⟨p1,p2,p3,p4,p5,k1,k2,k3,k4,k5,n1,n2,n3,n4⟩:=k7 fo.chk
    have hget:s.heap.get? a=some o:=sr.br.keep _ _ fo.at_.get
    have hnt:(names.take fn.arity).length=fn.arity:=by rw[List.length_take];lia
    have hbind:bindArgs fd ⟨vals,[]⟩=pure ((names.take fn.arity).zip vals):=qc p1 p2 p3 p4 p5 (by rw[rvs.length,hnt];exact hlen.1) (n1.sublist (List.take_sublist _ _)) fo.defaults
    have hkind:∀ y∈(names.take fn.arity).zip vals,fd.scope.names.lookup y.1=some .local∨(fd.scope.names.lookup y.1=some .cell∧((cellsFrom (s.heap.objs.size+1) fd.scope.names []).lookup y.1).isSome=true):=fun y hy=>by
     have hy':y.1∈names:=dF (List.of_mem_zip hy).1
     have how:=n4 y.1 hy'
     unfold ownOf at how
     simp only[bY,aS] at how
     refine eS how ?_ ?_<;>clear how
     ·intro how;exact .inl how
     ·intro how;exact .inr ⟨how,yd _ _ _ (.inl ((lookup_mem k4).mpr how))⟩
    have enter:∀ (Q:Value→Shared→Prop) (E:Value→Shared→Prop),_→wpAny (model G.prog G.w) A (PySem.call (.ref a) vals) Q E s:=fun Q E h=>wpAny_call (codeAny_call_cells ro.room hget fo.at_.data (g.nolimit.keeps sr.br.keep) (Heap.CodeRec.keeps fo.code sr.br.keep) fo.body_ hbind fo.clos hkind h k3 k2 k1)
    have facts:∀ s₁,InCallC s (callEnvC fd s.heap.objs.size a).locals (bindL (callEnvC fd s.heap.objs.size a).kindOf ((names.take fn.arity).zip vals) fun uA=>none) (callEnvC fd s.heap.objs.size a).cells (bindC (callEnvC fd s.heap.objs.size a).kindOf ((names.take fn.arity).zip vals) fun uA=>none) s₁→Callee G F (A.deeper (callEnvC fd s.heap.objs.size a)) { names:=yq fn names,sc:=fd.scope,fname:=fname,gname:=gname,cname:=cname } β (vs.map some++List.replicate (fn.slots - fn.arity) none) O (callEnvC fd s.heap.objs.size a) s s₁:=fun s₁ ic=>by
     refine fb (zaa fo sr.br sr.fm.out rvs hlen.1 ic) ?_;intro srC ka
     refine⟨xd fd s.heap.objs.size a (yq fn names) F.B F.fr,rfl,ka,srC,⟨rfl,fun uA=>rfl,k1⟩,frA.deeper k1,zce frA,fun uA h=>h,fun b hb'=>?_,fun b hb'=>au _ hb'⟩
     refine eS (af.mp hb') ?_ ?_
     ·rintro rfl;exact zz s
     ·intro hb';refine eV (aC.mp hb') ?_;intro p hp dY;subst dY
      exact bg (cw (ic.above p.1 p.2 hp))
    refine eV (id frA) ?_;intro l₀ hfr₀ _
    have hfr':(A.deeper (callEnvC fd s.heap.objs.size a)).frames=some (callEnvC fd s.heap.objs.size a::l₀):=cH hfr₀
    have hrun:=hb (callEnvC fd s.heap.objs.size a)
    unfold evFn
    cases he:evSs { P with call:=call,hd:=hd } fn.body (vs.map some++List.replicate (fn.slots - fn.arity) none) O with
    | stuck=>trivial
    | ok fl S=>
      cases fl with
      | ret v=>
        show DoesW G F s β _ ((Mine.fin O.length fn.keep v S.2).lift ρ) _
        cases hev:Mine.fin O.length fn.keep v S.2 with
        | stuck=>trivial
        | ok res O''=>
          intro Q E kk
          refine enter Q E fun s₁ ic=>?_
          obtain ⟨Fc,hE,ka,srC,fitC,frC,topC,own,hWn,subB⟩:=facts s₁ ic
          have db:=hrun Fc _ fn.body body s₁ β _ O rfl rfl rfl fitC frC topC own fo.js srC
          rw [he,hE] at db
          refine db _ _ fun s' β' fl' st srE rf=>?_
          refine eV rf ?_;clear rf;intro val dX rv;subst dX
          refine fj (zda sr hWn subB ka st srE rv hev) ?_;intro β'' a1 a2 a3
          exact kk s' β'' val a1 a2 a3
      | next=>
        intro Q E kk
        refine enter Q E fun s₁ ic=>?_
        obtain⟨Fc,hE,ka,srC,fitC,frC,topC,own,hWn,subB⟩:=facts s₁ ic
        have db:=hrun Fc _ fn.body body s₁ β _ O rfl rfl rfl fitC frC topC own fo.js srC
        rw[he,hE] at db
        refine db _ _ fun s' β' fl' st srE rf=>?_
        have rf:fl'=.next:=rf
        subst rf
        refine fj (zda (keep:=fn.keep) sr hWn subB ka st srE VR.none zj6) ?_;intro β'' a1 a2 a3
        exact kk s' β'' .none a1 a2 a3
   ·trivial
structure Like(A A':Around):Prop where
 depth:A'.depth=A.depth
 units:A'.units=A.units
 frames:A'.frames=A.frames
 guards:A'.guards=A.guards
theorem Like.refl(A:Around):Like A A:=⟨rfl,rfl,rfl,rfl⟩
theorem Room.like{A A':Around}{k:Nat}(r:Room A k)(l:Like A A'):Room A' k:=⟨by rw[l.depth];exact r.depth,by rw[l.units];exact r.units,by rw[l.guards];exact r.guards⟩
theorem zdt(g:GOk G gval gname)(fns:zgq G J fname gname cname T)
 (body:∀ (A:Around) (call:Bool→Nat→List V→za→R za V) (hd:Bool),Room A 0→(hd=false→A.handled=none) →
   (∀ A' hd',Like A A'→(hd'=false→A'.handled=none)→w5 G A' fname (call hd'))→BodyOk G J A fname gname cname { P with call:=call,hd:=hd }) :
 ∀ (k:Nat) (A:Around) (hd:Bool),Room A k→(hd=false→A.handled=none)→w5 G A fname (zg P T k hd)
 | 0,A,hd,ro,hm=>fun F s β ρ O f x vals vs sr fr hf rvs=>let ⟨⟨a,o,fd,fa⟩,_⟩:=fns f x hf;⟨a,o,fd,fa,trivial⟩
 | k+1,A,hd,ro,hm=>by
   have:=call_one (P:=P) g fns ro (call:=zg P T k) (hd:=hd) fun env=>body _ _ _ ⟨by have:=(ro.deeper env).depth;lia,by have:=(ro.deeper env).units;lia,(ro.deeper env).guards⟩ hm
    fun A' hd' lk hm'=>zdt g fns body k A' hd' ((ro.deeper env).like lk) hm'
   exact this
end
section
variable{G:Gl}{F:Fm}{A:Around}{s:Shared}{β:List Addr}{ρ:Loc}{O:za}{cx:Cx}{gval:Nat→Option PyData}{gname:Nat→Option Str}
theorem SR.setBox{n:Nat}{a:Addr}{bx:Box}{s':Shared}(sr:SR G F β ρ O s.heap)(hn:β[n]?=some a)(hs:Heap.SameBut a s.heap s'.heap)(hg:s'.gens=s.gens)(hos:s'.os=s.os)
 (hx:Step F.W β s s' β→BoxAt s'.heap F.B β a bx) (hp:Plain s'.heap a):Step F.W β s s' β∧SR G F β ρ (O.set n bx) s'.heap:=by
 have ha:a∈β:=aw hn
 have kp:∀ b o,b≠a→s.heap.get? b=some o→s'.heap.get? b=some o:=fun b o hb e=>(hs.2 b hb).trans e
 have st0:Step [] β s s' β:=⟨hg,hos,bt _,fun uA h=>.inl h,fun b o e=>by
  by_cases hb:b=a
  ·subst hb;refine eV hp ?_;clear hp;intro o' e' _;exact fe o' e'
  ·exact fe o (kp b o hb e),fun b o e hb uA=>⟨o,kp b o (fun h=>hb (h ▸ ha)) e,Kin.refl o⟩⟩
 have st:Step F.W β s s' β:=⟨st0.gens,st0.os,st0.pre,st0.fresh,st0.alive,fun b o e hb uA=>st0.kept b o e hb (by simp)⟩
 refine⟨st,sr.outer st0 ⟨fun c o e=>kp c o (fun h=>?_) (sr.br.keep c o e),by rw[bc];exact sr.br.len,sr.br.nodup,sr.br.new,fun i b bx' h1 h2=>?_,fun b hb=>?_⟩ sr.fm.notBox⟩
 ·subst h
  have:=sr.br.new c ha
  rw[e] at this;exfalso;injection this
 ·by_cases hi:n=i
  ·subst hi
   have hl:n < O.length:=by rw[← sr.br.len];exact (aL.mp hn).1
   rw[bN hl] at h2
   injection h2 with eQ;subst eQ
   rw[hn] at h1;injection h1 with eQ;subst eQ
   exact hx st
  ·rw[cG hi] at h2
   have hne:b≠a:=fun e=>by
    subst e
    have e1:=(aL.mp hn)
    have e2:=(aL.mp h1)
    exact hi ((List.getElem_inj (h₀:=e1.1) (h₁:=e2.1) sr.br.nodup).mp (e1.2.trans e2.2.symm))
   have hb:=sr.br.at_ i b bx' h1 h2
   cases bx' with
   | lst xs=>
     obtain⟨o,vs,n,e1,e2,e3,as,e4,e5⟩:=hb
     exact⟨o,vs,n,kp _ _ hne e1,e2,e3,as,(zu sr.br sr.fm st e4 e5).1,e5⟩
   | dct kvs=>
     obtain⟨o,es,n,e1,e2,e3,e4,e5⟩:=hb
     refine⟨o,es,n,kp _ _ hne e1,e2,e3,e4,fun i e kv he hkv=>?_⟩
     obtain⟨hq,as,bs,r1,r2,q⟩:=e5 i e kv he hkv
     exact⟨hq,as,bs,(z0 sr.br sr.fm st r1 fun a ha=>q a (az _ ha)).1,(z0 sr.br sr.fm st r2 fun a ha=>q a (au _ ha)).1,q⟩
 ·by_cases hba:b=a
  ·subst hba;exact hp
  ·exact (sr.br.plain b hb).at fun o e=>kp b o hba e
theorem xz{h:Heap}{N:List Addr}{a:Addr}{xs:List PyData}(hp:Plain h a)(hl:ListAt h N β a xs):∃ vs as,h.PlainList a vs∧ReadsAll h vs.toList xs as∧∀ b∈as,b∉β∧b∉N:=by
 obtain⟨o,vs,n,e1,e2,e3,as,e4,e5⟩:=hl
 refine fj hp ?_;clear hp;intro o₉ g1 g2 g3
 rw[e1] at g1;injection g1 with eQ;subst eQ
 obtain⟨cl,di,da,sl⟩:=o
 simp only at e2 e3 g2 g3
 subst e2 e3 g2 g3
 exact fg vs as ⟨n,e1⟩ e4 e5
set_option tactic.hygienic true in
theorem zkv{o e:Expr}{p q:Pos}{ra:R za V}{rb:za→R za V}(hm:qi o p q=true)(hs:starEach [e] F.env=[(false,eval e F.env)])
 (h1:Does G F A s β (eval o F.env) (ra.lift ρ) (VRel G F)) (h2:∀ s' β' O',SR G F β' ρ O' s'.heap→Does G F A s' β' (eval e F.env) ((rb O').lift ρ) (VRel G F)) :
 Does G F A s β (eval (.Call (.Attribute o "append" p) [e] [] q) F.env) ((ra.bind fun v O=>if recv .append v O=true then (rb O).bind fun u O=>meth .append v [u] O else .stuck).lift ρ) (VRel G F):=by
 have hline:(p.endLine == q.line)=true:=(and2 hm).1
 have hbase:attributeBase o "append" F.env (eval o F.env)=eval o F.env:=by
  unfold qi at hm
  have:=(and2 hm).2
  cases o <;> first | rfl | exact (ak this).elim
 have htrees:backTo q (starEach [e] F.env)=[(false,eval e F.env)]:=by rw[hs];rfl
 refine DoesW.seqE (T₂:=fun ov Q E s₁=>∃ D its,ov=.ref D∧PlainL s₁.heap D its∧wpAny (model G.prog G.w) A (eval e F.env) (fun y s₂=>wpAny (model G.prog G.w) A (call (.builtin "list.append") [.ref D,y]) Q E s₂) E s₁)
  (fun Q E h=>wpAny_Call_append hbase (by rw[htrees];rfl) hline htrees h) h1 fun s' β' v d O' uA st sr rv=>?_
 split
 ·rename_i hr
  cases d with
  | box n=>
    have hr:gd O' n=true:=hr
    unfold gd at hr
    cases hx:O'[n]? with
    | none=>rw[hx] at hr;exfalso;injection hr
    | some bx=>
      rw[hx] at hr
      cases bx with
      | dct _=>exfalso;injection hr
      | lst xs=>
        obtain⟨a,hn,rfl⟩:=rv
        refine fh (xz (sr.br.plain a (aw hn)) (sr.br.at_ n a _ hn hx)) ?_;intro vs as hpl r1 q1
        refine eZ hpl ?_;clear hpl;intro k0 e0
        refine DoesW.seqE (T₁:=tr G A (eval e F.env)) (T₂:=fun y Q E s₂=>wpAny (model G.prog G.w) A (call (.builtin "list.append") [.ref a,y]) Q E s₂) (fun Q E h=>⟨a,vs,rfl,⟨_,_,e0,rfl,rfl,rfl⟩,h⟩) (h2 s' β' O' sr) fun s₂ β₂ y u O₂ uA st₂ sr₂ ry=>?_
        have hn₂:=xn st₂.pre hn
        show DoesW _ _ _ _ _ (R.lift ρ (boxL (.box n) O₂ fun n xs=>oneD (fun x=>if xs.length < line then .ok (.d .none) (O₂.set n (.lst (xs++[x]))) else .stuck) [u])) _
        unfold boxL
        dsimp only
        cases hy:O₂[n]? with
        | none=>trivial
        | some bx₂=>
          cases bx₂ with
          | dct _=>trivial
          | lst ys=>
            cases u with
            | d x'=>
              show DoesW _ _ _ _ _ (R.lift ρ (if ys.length < line then R.ok (V.d .none) (O₂.set n (.lst (ys++[x']))) else .stuck)) _
              by_cases hlen:ys.length < line
              ·rw [ah hlen]
               refine fh (xz (sr₂.br.plain a (aw hn₂)) (sr₂.br.at_ n a _ hn₂ hy)) ?_;intro ws bs hpl₂ r2 q2
               intro Q E k
               have hsz:ws.size≤sizeLine:=by rw [← av,zd r2];exact aq (cw hlen) (by decide)
               refine wpAny_list_append_plain hpl₂ (fun h' hl' hs'=>?_) hsz
               refine eZ hl' ?_;clear hl';intro k' e'
               obtain ⟨cs,r3,q3⟩:=ry
               have hb:Step F.W β₂ s₂ { s₂ with heap:=h' } β₂→BoxAt h' F.B β₂ a (.lst (ys++[x'])):=fun st₃=>by
                refine ⟨_,_,k',e',rfl,rfl,bs++(cs++[]),?_,fun b hb=>?_⟩
                ·rw [Array.toList_push]
                 exact yx (zu sr₂.br sr₂.fm st₃ r2 q2).1 (.cons (z0 sr₂.br sr₂.fm st₃ r3 q3).1 .nil)
                ·rw [ba] at hb
                 exact (aj.mp hb).elim (q2 b) (q3 b)
               refine fb (SR.setBox (bx:=.lst (ys++[x'])) (s':={ s₂ with heap:=h' }) sr₂ hn₂ hs' rfl rfl hb ⟨_,e',rfl,rfl⟩) ?_;intro st₃ sr₃
               exact k _ β₂ .none st₃ sr₃ VR.none
              ·rw [ai hlen];trivial
            | _=>trivial
  | _=>exfalso;injection hr
 ·trivial
theorem ze1{v:Value}{b:Bool}(sr:SR G F β ρ O s.heap)(rv:VR G F.B β s.heap v (.d (.bool b))) :
 LeafD G F s β (tr G A (call (.type "int") [v])) (V.d (.int (if b then 1 else 0))) (FRel G F s):=by
 obtain⟨as,r,_⟩:=rv
 cases r
 exact LeafD.leaf sr fun Q E k=>call_int_bool (k _ _ (KeepsAll.toks s _) ⟨VR.int,fun uA h=>by injection h with eQ;exfalso;injection eQ⟩)
end
theorem R.bind_ok{σ α:Type}(r:R σ α):(r.bind fun v O=>R.ok v O)=r:=by cases r <;> rfl
section
variable{G:Gl}{F:Fm}{A:Around}{s:Shared}{β:List Addr}{ρ:Loc}{O:za}{cx:Cx}{gval:Nat→Option PyData}{gname:Nat→Option Str}{P:Pg}{K:V→za→R za V}
theorem LeafD.fin2{T:WT Value}{c:PyData}(hK:Fin2 K)(sr:SR G F β ρ O s.heap)(h:LeafD G F s β T (V.d c) (FRel G F s)):DoesW G F s β T ((K (.d c) O).lift ρ) (VRel G F):=by
 cases hK with
 | plain=>exact (h.does sr).weaken (fun uA uA h=>h) fun uA uA uA uA r=>r.1
 | box=>exact h.box sr
theorem u9{T:WT Value}{o:Option PyData}(hK:Fin2 K)(sr:SR G F β ρ O s.heap)(h:∀ c,o=some c→LeafD G F s β T (V.d c) (FRel G F s)):DoesW G F s β T (((opt (o.map V.d) O).bind K).lift ρ) (VRel G F):=by
 cases o with
 | none=>trivial
 | some c=>exact (h c rfl).fin2 hK sr
theorem zna{elts:List Expr}{pos:Pos}{r:R za (List V)}(hK:Fin2 K)(hl:∀ vs O,r=.ok vs O→vs.length≤line)
 (h1:Does G F A s β (spliced (backTo pos (starEach elts F.env))) (r.lift ρ) (VRsl G F)) :
 Does G F A s β (eval (.List elts pos) F.env) (((r.bind fun vs O=>opt ((allD vs).map fun xs=>V.d (.list xs)) O).bind K).lift ρ) (VRel G F):=by
 rw[R.bind_assoc]
 refine DoesW.seqE (T₂:=fun vs Q E s₁=>vs.length≤sizeLine∧Q (.ref s₁.heap.objs.size) { s₁ with heap:=s₁.heap.push { cls:=.type "list",data:=.seq vs.toArray } }) (fun Q E h=>wpAny_List h) h1 fun s' β' vs ds O' e st sr rv=>?_
 have hz:vs.length≤sizeLine:=by rw[rv.length];exact aq (hl _ _ e) (by decide)
 have:((allD ds).map fun xs=>V.d (.list xs))=((allD ds).map PyData.list).map V.d:=by rw[Option.map_map];rfl
 rw[this]
 refine u9 hK sr fun c hc=>?_
 cases hd:allD ds with
 | none=>rw[hd] at hc;exfalso;injection hc
 | some xs=>
   rw[hd] at hc;injection hc with eQ;subst eQ
   exact LeafD.leaf sr fun Q E q=>⟨hz,q _ _ (KeepsAll.push s' _ s'.toks) ⟨zcc sr rv hd,fun uA uA=>⟨_,rfl,zz s',_,ay _ rfl,rfl,rfl⟩⟩⟩
theorem zqk{op:Bop}{o:Operator}{x y:Expr}{p:Pos}{ra:R za V}{rb:za→R za V}(hK:Fin2 K)(ho:zdu op o=true)
 (h1:Does G F A s β (eval x F.env) (ra.lift ρ) (VRel G F)) (h2:∀ s' β' O',SR G F β' ρ O' s'.heap→Does G F A s' β' (eval y F.env) ((rb O').lift ρ) (VRel G F)) :
 Does G F A s β (eval (.BinOp x o y p) F.env) (((ra.bind fun v O=>(rb O).bind fun u O=>opt (((look O v).bind fun x=>(look O u).bind fun y=>za9 op x y).map V.d) O).bind K).lift ρ) (VRel G F):=by
 rw[R.bind_assoc]
 refine DoesW.seqE (T₂:=fun v Q E s₁=>wpAny (model G.prog G.w) A (eval y F.env) (fun u s₂=>wpAny (model G.prog G.w) A (binaryOp o v u) Q E s₂) E s₁) (fun Q E h=>wpAny_BinOp h) h1 fun s' β' v d O' uA st sr rv=>?_
 rw[R.bind_assoc]
 refine DoesW.seqE (T₂:=fun u=>tr G A (binaryOp o v u)) (fun Q E h=>h) (h2 s' β' O' sr) fun s₂ β₂ u d₂ O₂ uA st₂ sr₂ ru=>?_
 exact u9 hK sr₂ fun c hc=>zmb ho sr₂ (rv.step sr.br sr.fm st₂) ru hc
noncomputable def fvOf:Prim→Value
 | .isinst _ | .isexc _=>.builtin "isinstance"
 | .len | .lenset=>.builtin "len"
 | .all=>.builtin "all"
 | .any=>.builtin "any"
 | .sum=>.builtin "sum"
 | .sorted | .sortedset=>.builtin "sorted"
 | .list=>.type "list"
 | .tuple=>.type "tuple"
 | .min2 | .min=>.builtin "min"
 | .max=>.builtin "max"
 | .int=>.type "int"
 | .str=>.type "str"
theorem zfa(p:Prim):(x8 p,fvOf p)∈bis:=by cases p <;> first | decide | exact (by decide:(("isinstance" : Str),Value.builtin "isinstance")∈bis)
theorem zmn(p:Prim):(∃ id,fvOf p=.builtin id)∨∃ T,fvOf p=.type T:=by cases p <;> first | exact .inl ⟨_,rfl⟩ | exact .inr ⟨_,rfl⟩
end
section
variable{G:Gl}{F:Fm}{A:Around}{s:Shared}{β:List Addr}{ρ:Loc}{O:za}{cx:Cx}{gval:Nat→Option PyData}{gname:Nat→Option Str}{P:Pg}{K:V→za→R za V}
theorem zfy{p:Prim}{v:V}(hp:∀ c,p≠.isexc c):prim P p [v] O=opt (((look O v).bind fun x=>qy P p [x]).map V.d) O:=by
 have:prim P p [v] O=(match ([v].mapM (look O)).bind (qy P p) with | some y=>R.ok (V.d y) O | none=>.stuck):=by
  cases p <;> first | rfl | exact absurd rfl (hp _)
 rw[this]
 cases hl:look O v with
 | none=>simp[List.mapM_cons,hl,opt]
 | some x=>
   simp only[List.mapM_cons,List.mapM_nil,hl]
   show (match qy P p [x] with | some y=>R.ok (V.d y) O | none=>.stuck)=opt ((qy P p [x]).map V.d) O
   cases qy P p [x] <;> rfl
noncomputable def zbc(G:Gl)(P:Pg):Prop:=∀ (A:Around) (F:Fm) (s:Shared) (β:List Addr) (ρ:Loc) (O:za) (v:Value) (d:V) (xs ys:List PyData) (k:Nat),Room A k→SR G F β ρ O s.heap→VR G F.B β s.heap v d→look O d=some (.list xs)→xs.length < 64→P.srt xs=some ys →
 LeafD G F s β (tr G A (call (.builtin "sorted") [v])) (V.d (.list ys)) (FRel G F s)
noncomputable def zd1(G:Gl)(P:Pg):Prop:=P.sets=true→∀ (A:Around) (F:Fm) (s:Shared) (β:List Addr) (ρ:Loc) (O:za) (v:Value) (xs:List PyData) (is:List Int) (k:Nat),Room A k→A.handled=none→SR G F β ρ O s.heap→VR G F.B β s.heap v (.d (.tuple xs))→Mine.intsOf xs=some is→small is=true →
 LeafD G F s β (fun Q E s=>wpAny (model G.prog G.w) A (call (.type "set") [v]) (fun S s₁=>wpAny (model G.prog G.w) A (call (.builtin "len") [S]) Q E s₁) E s) (V.d (.int (xw is).length)) (FRel G F s) ∧
 LeafD G F s β (fun Q E s=>wpAny (model G.prog G.w) A (call (.type "set") [v]) (fun S s₁=>wpAny (model G.prog G.w) A (call (.builtin "sorted") [S]) Q E s₁) E s) (V.d (.list ((xw is).map .int))) (FRel G F s)
noncomputable def zk7(G:Gl)(z:Str)(v:Value):Prop:=G.mg z=some v∨(G.mg z=none∧G.mb z=some v)
structure zgs(G:Gl)(P:Pg)(cname:Nat→Option Str):Prop where
 inst:∀ c z,cname c=some z→∃ cv,zk7 G z cv∧∀ (A:Around) (s:Shared) (x:Nat) (b:Bool) (e:Addr) (oe:Obj) (Q:Value→Shared→Prop) (E:Value→Shared→Prop),P.sub x c=some b→(∀ b o,G.h₀.get? b=some o→s.heap.get? b=some o) →
  s.heap.get? e=some oe→oe.cls=G.cls x→oe.dict=none→(∃ fs,oe.data=.fields fs)→(∀ s',KeepsAll s s'→Q (.bool b) s')→wpAny (model G.prog G.w) A (call (.builtin "isinstance") [.ref e,cv]) Q E s
 matches_:∀ c z,cname c=some z→∃ cv,zk7 G z cv∧∀ (A:Around) (s:Shared) (x:Nat) (b:Bool) (e:Addr) (oe:Obj) (Q:Bool→Shared→Prop) (E:Value→Shared→Prop),P.sub x c=some b→(∀ b o,G.h₀.get? b=some o→s.heap.get? b=some o) →
  s.heap.get? e=some oe→oe.cls=G.cls x→Q b s→wpAny (model G.prog G.w) A (excMatches (.ref e) cv) Q E s
 raise:∀ (c:Nat) (z:Str) (A:Around) (s:Shared) (env:Env) (x:Str) (y:Str) (np cpos pos yp:Pos) (yk:Nat) (Q:Flow→Shared→Prop) (E:Value→Shared→Prop),cname c=some z→c≠0→A.handled=none→(∀ b o,G.h₀.get? b=some o→s.heap.get? b=some o) →
  env.scope.kind=.function→env.globals=mainGlobals→env.kindOf z=some .globalImplicit→(z == ("__debug__" : Str))=false →
  (∀ h' tk e t oe,(∀ b o,s.heap.get? b=some o→h'.get? b=some o)→s.heap.get? e=none→h'.get? e=some oe→oe.cls=G.cls c→oe.dict=none→oe.data=.fields t→t[1]?=some .none→E (.ref e) { s with heap:=h',toks:=tk }) →
  wpAny (model G.prog G.w) A (exec (.Raise (some (.Call (.Name z np) [.Constant (.str y) yk yp] [] cpos)) none pos) env) Q E s
theorem qk{f:List PyData→Option PyData}{x y:PyData}(h:zcy f x=some y):∃ xs,x=.list xs∧f xs=some y:=by
 cases x <;> first | (cases h;done) | skip
 exact eW _ rfl h
theorem zpa{p:Prim}{v:Value}{d:V}{x y:PyData}{k:Nat}(hp:p.plain=true)(hh:p.calm=true∨A.handled=none)(so:zbc G P)(ro:Room A k)(sr:SR G F β ρ O s.heap)(rv:VR G F.B β s.heap v d)(hx:look O d=some x)(e:zaj P p x=some y) :
 LeafD G F s β (tr G A (call (fvOf p) [v])) (V.d y) (FRel G F s):=by
 have hh':p.calm=false→A.handled=none:=fun h=>by
  refine eS hh ?_ ?_<;>clear hh
  ·intro hh;rw[h] at hh;exfalso;injection hh
  ·intro hh;exact hh
 cases p with
 | len=>
   cases x with
   | list xs=>refine fb (yn e) ?_;intro h1 dX;subst dX;exact ze0 sr rv hx h1
   | tuple xs=>
     refine fb (yn e) ?_;intro h1 dX;subst dX
     have:=ye hx (fun uA h=>by exfalso;injection h);subst this
     exact zc3 sr rv h1
   | _=>exfalso;injection e
 | all=>
   refine eV (qk e) ?_;intro xs dX e;subst dX
   refine eV (aE.mp e) ?_;intro bs hb dY;subst dY
   exact zr1 (hh' rfl) sr rv hx hb
 | any=>
   refine eV (qk e) ?_;intro xs dX e;subst dX
   refine eV (aE.mp e) ?_;intro bs hb dY;subst dY
   exact zr0 (hh' rfl) sr rv hx hb
 | sum=>
   refine eV (qk e) ?_;intro xs dX e;subst dX
   refine eV (aE.mp e) ?_;intro bs hb dY;subst dY
   exact l_sum (hh' rfl) sr rv hx hb
 | sorted=>
   refine eV (qk e) ?_;intro xs dX e;subst dX
   have e:(if xs.length < 64 then (P.srt xs).map PyData.list else none)=some y:=e
   by_cases hl:xs.length < 64
   ·rw[ah hl] at e
    refine eV (aE.mp e) ?_;intro ys hs dY;subst dY
    exact so A F s β ρ O v d xs ys k ro sr rv hx hl hs
   ·rw[ai hl] at e;exfalso;injection e
 | list=>
   cases x with
   | list xs=>refine fb (yn e) ?_;intro h1 dX;subst dX;exact zjf sr rv hx rfl h1
   | tuple xs=>refine fb (yn e) ?_;intro h1 dX;subst dX;exact zjf sr rv hx rfl h1
   | _=>exfalso;injection e
 | tuple=>
   cases x with
   | list xs=>refine fb (yn e) ?_;intro h1 dX;subst dX;exact zby sr rv hx h1
   | tuple xs=>
     injection e with eQ;subst eQ
     have:=ye hx (fun uA h=>by exfalso;injection h);subst this
     exact dm sr rv
   | _=>exfalso;injection e
 | int=>
   cases x with
   | bool b=>
     injection e with eQ;subst eQ
     have:=ye hx (fun uA h=>by exfalso;injection h);subst this
     exact ze1 sr rv
   | _=>exfalso;injection e
 | min=>exfalso;injection e
 | max=>exfalso;injection e
 | str=>exfalso;injection e
 | isinst _=>exfalso;injection hp
 | isexc _=>exfalso;injection hp
 | min2=>exfalso;injection hp
 | lenset=>exfalso;injection hp
 | sortedset=>exfalso;injection hp
set_option tactic.hygienic true in
theorem zm7{p:Prim}{y:Expr}{ps q:Pos}{r:R za V}{k:Nat}(hK:Fin2 K)(hp:p.plain=true)(hh:p.calm=true∨A.handled=none)(so:zbc G P)(ro:Room A k)(g:GOk G gval gname)(sr:SR G F β ρ O s.heap)(fit:Fits F cx)(hx:cx.isGlob (x8 p)=true)
 (he:starEach [y] F.env=(false,eval y F.env)::starEach [] F.env) (h1:Does G F A s β (eval y F.env) (r.lift ρ) (VRel G F)) :
 Does G F A s β (eval (.Call (.Name (x8 p) ps) [y] [] q) F.env) ((((r.bind fun v O=>R.ok [v] O).bind fun vs O=>prim P p vs O).bind K).lift ρ) (VRel G F):=by
 rw[R.bind_assoc]
 refine wd (r:=r.bind fun v O=>R.ok [v] O) g sr fit hx (zfa p) (zmn p) he rfl (yi he h1 fun s' β' O' sr'=>xh sr') fun s' β' vals vs O' e st sr' rvs=>?_
 cases r with
 | stuck=>exfalso;injection e
 | ok v O₁=>
   cases (e)
   cases rvs with
   | cons rv rs=>cases rs with
     | nil=>
       rename_i val
       have hpr:=zfy (P:=P) (v:=v) (O:=O') (p:=p) (fun c e=>by subst e;exfalso;injection hp)
       rw[hpr]
       refine u9 hK sr' fun c hc=>?_
       cases hl:look O' v with
       | none=>rw[hl] at hc;exfalso;injection hc
       | some x=>rw[hl] at hc;exact zpa hp hh so ro sr' rv hl (show zaj P p x=some c from hc)
theorem zku{t:Ty}{y:Expr}{ps pz q:Pos}{r:R za V}(g:GOk G gval gname)(sr:SR G F β ρ O s.heap)(fit:Fits F cx)(hx:cx.isGlob "isinstance" = true)(hz:cx.isGlob (q8 t)=true)
 (he:∀ rest,starEach (y::rest) F.env=(false,eval y F.env)::starEach rest F.env) (h1:Does G F A s β (eval y F.env) (r.lift ρ) (VRel G F)) :
 Does G F A s β (eval (.Call (.Name "isinstance" ps) [y,.Name (q8 t) pz] [] q) F.env) (((r.bind fun v O=>R.ok [v] O).bind fun vs O=>prim P (.isinst t) vs O).lift ρ) (VRel G F):=by
 refine fb (g.bi _ (zfa (.isinst t))) ?_;intro b1 b2
 have e1:((r.bind fun v O=>R.ok [v] O).bind fun vs O=>prim P (.isinst t) vs O)=r.bind fun v O=>opt (((look O v).map fun x=>V.d (.bool (isTy t x)))) O:=by
  rw[R.bind_assoc]
  cases r with
  | ok v O₁=>
    show prim P (.isinst t) [v] O₁=opt (((look O₁ v).map fun x=>V.d (.bool (isTy t x)))) O₁
    unfold prim
    cases hl:look O₁ v with
    | none=>simp[List.mapM_cons,hl,opt]
    | some x=>simp[List.mapM_cons,hl,opt,qy,zaj]
  | _=>rfl
 rw[e1]
 have hne:starEach [Expr.Name (q8 t) pz] F.env=(false,eval (.Name (q8 t) pz) F.env)::starEach [] F.env:=rfl
 refine fb (g.bi _ (zoh t)) ?_;intro c1 c2
 refine DoesW.seqE (T₂:=fun v Q E s₁=>wpAny (model G.prog G.w) A (eval (.Name (q8 t) pz) F.env) (fun c s₂=>wpAny (model G.prog G.w) A (call (.builtin "isinstance") [v,c]) Q E s₂) E s₁)
  (fun Q E h=>cV rfl (z8 g sr fit hx b1 b2 (callWith_builtin1 (cb (aK h (fun v s₁ h₁=>cb (aK h₁ (fun c s₂ h₂=>cN h₂) (fun uA uA x=>x)) hne) (fun uA uA x=>x)) (he _)) (he _) rfl))) h1 fun s' β' val v O' uA st sr' rv=>?_
 cases hl:look O' v with
 | none=>trivial
 | some x=>exact ((zjg sr' rv hl).does sr').weaken (fun Q E h=>z8 g sr' fit hz c1 c2 h) fun uA uA uA uA r=>r.1
theorem zm9{p:Prim}{y:Expr}{ps pz q q':Pos}{r:R za V}{k:Nat}(hp:p=.lenset∨p=.sortedset)(se:zd1 G P)(ro:Room A k)(hh:A.handled=none)(g:GOk G gval gname)(sr:SR G F β ρ O s.heap)(fit:Fits F cx)(hx:cx.isGlob (x8 p)=true)(hz:cx.isGlob "set" = true)
 (he:starEach [y] F.env=(false,eval y F.env)::starEach [] F.env) (h1:Does G F A s β (eval y F.env) (r.lift ρ) (VRel G F)) :
 Does G F A s β (eval (.Call (.Name (x8 p) ps) [.Call (.Name "set" pz) [y] [] q'] [] q) F.env) (((r.bind fun v O=>R.ok [v] O).bind fun vs O=>prim P p vs O).lift ρ) (VRel G F):=by
 refine fb (g.bi _ (zfa p)) ?_;intro b1 b2
 refine fb (g.bi ("set",.type "set") (by decide)) ?_;intro c1 c2
 obtain⟨id,hid⟩ : ∃ id,fvOf p=.builtin id:=by (refine eS hp ?_ ?_<;>clear hp;rotate_left;rintro rfl;rotate_right;rintro rfl) <;> exact fe _ rfl
 have hne:starEach [Expr.Call (.Name "set" pz) [y] [] q'] F.env=(false,eval (.Call (.Name "set" pz) [y] [] q') F.env)::starEach [] F.env:=rfl
 have e1:((r.bind fun v O=>R.ok [v] O).bind fun vs O=>prim P p vs O)=r.bind fun v O=>prim P p [v] O:=by rw[R.bind_assoc];cases r <;> rfl
 rw[e1]
 refine DoesW.seqE (T₂:=fun v Q E s=>wpAny (model G.prog G.w) A (call (.type "set") [v]) (fun S s₁=>wpAny (model G.prog G.w) A (call (.builtin id) [S]) Q E s₁) E s)
  (fun Q E h=>?_) h1 fun s' β' val v O' uA st sr' rv=>?_
 ·rw[hid] at b2
  refine cV rfl (z8 g sr fit hx b1 b2 (callWith_builtin1 (cb (aK (cV rfl (z8 g sr fit hz c1 c2 (callWith_type1 (cb (aK h (fun v s₁ h₁=>cN h₁) (fun uA uA x=>x)) he) he rfl))) (fun v s₁ h₁=>cN h₁) (fun uA uA x=>x)) hne) hne rfl))
 ·have hpr:=zfy (P:=P) (v:=v) (O:=O') (p:=p) (fun c e=>by (refine eS hp ?_ ?_<;>clear hp;rotate_left;intro hp;rotate_right;intro hp) <;> (rw[hp] at e;exfalso;injection e))
  rw[hpr]
  cases hl:look O' v with
  | none=>trivial
  | some x=>
    show DoesW _ _ _ _ _ ((opt ((qy P p [x]).map V.d) O').lift ρ) _
    cases hd:qy P p [x] with
    | none=>trivial
    | some c=>
      have hset:P.sets=true:=by
       refine eS hp ?_ ?_<;>clear hp
       ·rintro rfl;have hd:(match P.sets with | true=>zbx x | false=>none)=some c:=hd
        cases h:P.sets with
        | true=>rfl
        | false=>rw[h] at hd;exfalso;injection hd
       ·rintro rfl;have hd:(match P.sets with | true=>va x | false=>none)=some c:=hd
        cases h:P.sets with
        | true=>rfl
        | false=>rw[h] at hd;exfalso;injection hd
      have inv:∀ (f:List Int→PyData) (xs:List PyData),setT f xs=some c→∃ is,Mine.intsOf xs=some is∧small is=true∧f is=c:=fun f xs h=>by
       refine eV (aV.mp h) ?_;intro is h1 h2
       refine fb (yn h2) ?_;intro h3 h4
       exact ff is h1 h3 h4
      have key:∃ xs is,x=.tuple xs∧Mine.intsOf xs=some is∧small is=true∧((p=.lenset∧c=.int (xw is).length)∨(p=.sortedset∧c=.list ((xw is).map .int))):=by
       refine eS hp ?_ ?_<;>clear hp
       ·rintro rfl;have hd:(match P.sets with | true=>zbx x | false=>none)=some c:=hd
        rw[hset] at hd
        cases x <;> first | (cases hd;done) | skip
        refine fj (inv _ _ hd) ?_;intro is h1 h2 dZ;subst dZ
        exact fy _ is rfl h1 h2 (.inl ⟨rfl,rfl⟩)
       ·rintro rfl;have hd:(match P.sets with | true=>va x | false=>none)=some c:=hd
        rw[hset] at hd
        cases x <;> first | (cases hd;done) | skip
        refine fj (inv _ _ hd) ?_;intro is h1 h2 dZ;subst dZ
        exact fy _ is rfl h1 h2 (.inr ⟨rfl,rfl⟩)
      refine ft key ?_;clear key;intro xs is dY hi hsm hc;subst dY
      have:=ye hl (fun uA h=>by exfalso;injection h);subst this
      refine fb (se hset A F s' β' ρ O' val xs is k ro hh sr' rv hi hsm) ?_;intro s1 s2
      refine eS hc ?_ ?_<;>clear hc
      ·rintro ⟨rfl,rfl⟩;injection hid with eQ;subst eQ
       exact (s1.does sr').weaken (fun uA uA h=>h) fun uA uA uA uA r=>r.1
      ·rintro ⟨rfl,rfl⟩;injection hid with eQ;subst eQ
       exact (s2.does sr').weaken (fun uA uA h=>h) fun uA uA uA uA r=>r.1
end
structure Run(G:Gl)(A:Around)(P:Pg)(fname gname cname:Nat→Option Str):Prop where
 g:GOk G P.gval gname
 ro:Room A 0
 hm:P.hd=false→A.handled=none
 ck:∀ A' hd,Like A A'→(hd=false→A'.handled=none)→w5 G A' fname (P.call hd)
 so:zbc G P
 se:zd1 G P
 cl:zgs G P cname
noncomputable def ziz:Expr→Bool
 | .Set _ _ _=>false
 | .Starred _ _=>false
 | .Slice _ _ _ _=>false
 | _=>true
noncomputable def PX(e:Expr):Prop:=ziz e=true
theorem PX.star{e:Expr}(h:PX e){env:Env}{rest:List Expr}:starEach (e::rest) env=(false,eval e env)::starEach rest env:=by
 cases e <;> first | rfl | (exfalso;injection h)
theorem PX.set{e:Expr}(h:PX e):∀ l k p,e≠.Set l k p:=fun uA uA uA q=>by subst q;exfalso;injection h
theorem PX.slice{e:Expr}(h:PX e):∀ l u t p,e≠.Slice l u t p:=fun uA uA uA uA q=>by subst q;exfalso;injection h
theorem zib(ra:R za V)(rb:za→R za V):tv (ra.bind fun v O=>(opt (truth v) O).bind (andK rb))=(tv ra).bind fun t O=>(match t with | true=>tv (rb O) | false=>R.ok false O):=by
 cases ra with
 | ok v O=>
   show tv ((opt (truth v) O).bind (andK rb))=(opt (truth v) O).bind _
   cases truth v with
   | none=>rfl
   | some b=>cases b <;> rfl
 | _=>rfl
theorem znm(ra:R za V)(rb:za→R za V):tv (ra.bind fun v O=>(opt (truth v) O).bind (orK rb))=(tv ra).bind fun t O=>(match t with | true=>R.ok true O | false=>tv (rb O)):=by
 cases ra with
 | ok v O=>
   show tv ((opt (truth v) O).bind (orK rb))=(opt (truth v) O).bind _
   cases truth v with
   | none=>rfl
   | some b=>cases b <;> rfl
 | _=>rfl
theorem zgm(r:R za Bool):(r.bind fun t O=>(match t with | true=>R.ok true O | false=>R.ok false O))=r:=by
 cases r with
 | ok t O=>cases t <;> rfl
 | _=>rfl
section
variable{G:Gl}{F:Fm}{A:Around}{s:Shared}{β:List Addr}{ρ:Loc}{O:za}
end
noncomputable def CEs.len:CEs→Nat
 | .nil=>0
 | .cons _ es=>es.len+1
theorem zdb{P:Pg}{ρ:Loc}:∀ (es:CEs) (O:za) (vs:List V) (O':za),evEs P ρ es O=.ok vs O'→vs.length=es.len
 | .nil,O,vs,O',h=>by injection h with eQ eR;subst eQ eR;rfl
 | .cons e es,O,vs,O',h=>by
   unfold evEs at h
   cases he:evE P ρ e O with
   | stuck=>rw[he] at h;exfalso;injection h
   | ok v O₁=>
     rw[he] at h
     cases hes:evEs P ρ es O₁ with
     | stuck=>simp only[R.bind,hes] at h;exfalso;injection h
     | ok ws O₂=>
       simp only[R.bind,hes] at h
       injection h with eQ eR;subst eQ eR
       exact cA (· + 1) (zdb es O₁ ws _ hes)
set_option tactic.hygienic true in
theorem zik{v:V}{O O':za}{src:Src}(h:srcV v O=.ok src O'):src.Has O':=by
 unfold srcV at h
 split at h
 ·rename_i x
  cases hi:items x with
  | none=>rw[hi] at h;exfalso;injection h
  | some xs=>rw[hi] at h;injection h with eQ eR;subst eQ eR;trivial
 ·split at h
  ·injection h with eQ eR;subst eQ eR;assumption
  ·exfalso;injection h
 ·exfalso;injection h
theorem qb{α β:Type}{r:R za α}{f:α→za→R za β}{b:β}{O:za}(h:r.bind f=.ok b O):∃ a O₁,r=.ok a O₁∧f a O₁=.ok b O:=by
 cases r with
 | ok a O₁=>exact fz a O₁ rfl h
 | _=>exfalso;injection h
section
variable{G:Gl}{F:Fm}{A:Around}{s:Shared}{β:List Addr}{ρ:Loc}{O:za}{cx:Cx}{gval:Nat→Option PyData}{gname:Nat→Option Str}{K:V→za→R za V}
set_option tactic.hygienic true in
theorem zdl{y:Expr}{p q:Pos}{r:R za (Int×Int)}(hK:Fin2 K)(g:GOk G gval gname)(hh:A.handled=none)(sr:SR G F β ρ O s.heap)(fit:Fits F cx)(hx:cx.isGlob "list" = true)(he:starEach [y] F.env=(false,eval y F.env)::starEach [] F.env)
 (hs:∀ p O',r=.ok p O'→zbd p) (h1:Does G F A s β (eval y F.env) (r.lift ρ) (RRel s)) :
 Does G F A s β (eval (.Call (.Name "list" p) [y] [] q) F.env) (((r.bind fun p O=>if (z6 p.1 p.2).length≤line then R.ok (V.d (.list (z6 p.1 p.2))) O else .stuck).bind K).lift ρ) (VRel G F):=by
 refine fb (g.bi ("list",.type "list") (by decide)) ?_;intro b1 b2
 rw[R.bind_assoc]
 refine DoesW.seqE (T₂:=fun v=>tr G A (call (.type "list") [v])) (fun Q E h=>cV rfl (z8 g sr fit hx b1 b2 (callWith_type1 (cb (aK h (fun v s₁ h₁=>cN h₁) (fun uA uA x=>x)) he) he rfl))) h1 fun s' β' v d O' e st sr' rv=>?_
 refine fi rv ?_;clear rv;intro rr t u w ed hr;subst ed
 refine fw (hs _ _ e) ?_;intro p1 p2 p3 p4
 split
 ·rename_i hlen
  refine LeafD.fin2 (c:=.list (z6 d.1 d.2)) hK sr' (LeafD.leaf sr' fun Q E k=>call_list_range (n:=(d.2 - d.1).toNat) hh hr (small_one (by lia) (by lia) (by lia) (by lia)) v5 ?_ fun h' tk acc' c' hk hS hacc=>?_)
  ·have:(z6 d.1 d.2).length=(d.2 - d.1).toNat:=by unfold z6;simp
   rw[this] at hlen
   exact aq hlen (by decide)
  ·have hra:∃ as,ReadsAll h' acc'.toList (z6 d.1 d.2) as∧∀ a∈as,a∉β'∧a∉F.B:=by
    refine eW [] ?_ (fun uA h=>nomatch h)
    refine fb hacc ?_;clear hacc;intro hsz hit
    have key:∀ (l:List Value) (xs:List PyData),l.length=xs.length→(∀ (i:Nat) (h:i < l.length) (h2:i < xs.length),∃ t n,l[i]=.int n t∧xs[i]=.int n)→ReadsAll h' l xs []:=by
     intro l
     induction l with
     | nil=>intro xs hl _;cases xs with
       | nil=>exact .nil
       | cons _ _=>exfalso;injection hl
     | cons v l ih=>
       intro xs hl hx
       cases xs with
       | nil=>exfalso;injection hl
       | cons x xs=>
         refine fu (hx 0 (by simp) (by simp)) ?_;intro t n e1 e2
         have e1:v=.int n t:=e1
         have e2:x=.int n:=e2
         subst e1;subst e2
         refine ReadsAll.cons (as:=[]) (bs:=[]) (.int n t) (ih xs (by simpa using hl) fun i h h2=>?_)
         exact hx (i+1) (by simpa using h) (by simpa using h2)
    refine key _ _ ?_ fun i h h2=>?_
    ·rw[av,hsz];unfold z6;simp
    ·refine eZ (hit i acc'.toList[i] (by rw[← aP];exact ao h)) ?_;intro t ht
     refine fz t _ ht ?_
     have hlen':(z6 d.1 d.2).length=(d.2 - d.1).toNat:=by unfold z6;simp
     have e9:(z6 d.1 d.2)[i]?=some (.int (d.1+i)):=by
      unfold z6
      rw[aT,List.getElem?_range (by rw[← hlen'];exact h2)];rfl
     rw[ao h2] at e9
     rw[aM e9,Int.mul_one]
   refine eV hra ?_;clear hra;intro as r1 q1
   exact k _ _ (yu hk) ⟨y5 hS rfl rfl r1 q1 sr'.size_new,fun uA uA=>⟨_,rfl,zz s',_,hS,rfl,rfl⟩⟩
 ·trivial
end
structure Here(G:Gl)(A:Around)(P:Pg)(F:Fm)(cx:Cx):Prop where
 run:Run G A P cx.fname cx.gname cx.cname
 fit:Fits F cx
 fr:FrA A F
structure zk8(G:Gl)(A:Around)(P:Pg)(F:Fm)(cx:Cx):Prop extends Here G A P F cx where
 top:TopA A F
 own:∀ x,ownOf cx.sc x=true→F.own x=true
structure JK(cx:Cx)(x:Expr)(c:CE):Prop where
 px:PX x
 d:∀ {G:Gl} {A:Around} {P:Pg} {F:Fm} {s:Shared} {β:List Addr} {ρ:Loc} {O:za} {K:V→za→R za V},Here G A P F cx→SR G F β ρ O s.heap→Fin2 K→Does G F A s β (eval x F.env) (((evE P ρ c O).bind K).lift ρ) (VRel G F)
structure JE(cx:Cx)(x:Expr)(c:CE):Prop where
 px:PX x
 d:∀ {G:Gl} {A:Around} {P:Pg} {F:Fm} {s:Shared} {β:List Addr} {ρ:Loc} {O:za},Here G A P F cx→SR G F β ρ O s.heap→Does G F A s β (eval x F.env) ((evE P ρ c O).lift ρ) (VRel G F)
structure JT(cx:Cx)(x:Expr)(c:CE):Prop where
 d:∀ {G:Gl} {A:Around} {P:Pg} {F:Fm} {s:Shared} {β:List Addr} {ρ:Loc} {O:za},Here G A P F cx→SR G F β ρ O s.heap→Does G F A s β (isTrue x F.env (eval x F.env)) ((tv (evE P ρ c O)).lift ρ) BRel
structure JEs(cx:Cx)(l:List Expr)(es:CEs):Prop where
 d:∀ {G:Gl} {A:Around} {P:Pg} {F:Fm} {s:Shared} {β:List Addr} {ρ:Loc} {O:za} {pos:Pos},Here G A P F cx→SR G F β ρ O s.heap→Does G F A s β (spliced (backTo pos (starEach l F.env))) ((evEs P ρ es O).lift ρ) (VRsl G F)
structure JIfs(cx:Cx)(l:List Expr)(es:CEs):Prop where
 d:∀ {G:Gl} {A:Around} {P:Pg} {F:Fm} {s:Shared} {β:List Addr} {ρ:Loc} {O:za},Here G A P F cx→SR G F β ρ O s.heap→Does G F A s β (y8 l F.env) ((j9 P ρ es O).lift ρ) BRel
structure JI(cx:Cx)(x:Expr)(it:CI):Prop where
 px:PX x
 d:∀ {G:Gl} {A:Around} {P:Pg} {F:Fm} {s:Shared} {β:List Addr} {ρ:Loc} {O:za} {target:Expr},A.handled=none→Here G A P F cx→SR G F β ρ O s.heap→DoesW G F s β (zat G A x F.env) ((evI P ρ it O).lift ρ) (IRel G F A target s)
 has:∀ {P:Pg} {ρ:Loc} {O O':za} {src:Src},evI P ρ it O=.ok src O'→src.Has O'
structure JR(cx:Cx)(x:Expr)(a b:CE):Prop where
 px:PX x
 d:∀ {G:Gl} {A:Around} {P:Pg} {F:Fm} {s:Shared} {β:List Addr} {ρ:Loc} {O:za},Here G A P F cx→SR G F β ρ O s.heap→Does G F A s β (eval x F.env) ((rng a b P ρ O).lift ρ) (RRel s)
structure JS(cx:Cx)(st:Stmt)(c:CS):Prop where
 d:∀ {G:Gl} {A:Around} {P:Pg} {F:Fm} {s:Shared} {β:List Addr} {ρ:Loc} {O:za},zk8 G A P F cx→SR G F β ρ O s.heap→Does G F A s β (exec st F.env) (evS P c ρ O) (yr G F)
structure JSs(cx:Cx)(l:List Stmt)(c:CSs):Prop where
 d:∀ {G:Gl} {A:Around} {P:Pg} {F:Fm} {s:Shared} {β:List Addr} {ρ:Loc} {O:za},zk8 G A P F cx→SR G F β ρ O s.heap→Does G F A s β (execs l F.env) (evSs P c ρ O) (yr G F)
section
variable{cx:Cx}{x y z u:Expr}{a b c:CE}{p q ps pz:Pos}
theorem JK.e(h:JK cx x c):JE cx x c:=⟨h.px,fun hr sr=>by have:=h.d hr sr .plain;rwa [R.bind_ok] at this⟩
theorem zmg(h:JK cx x c):JE cx x (.boxed c):=⟨h.px,fun hr sr=>h.d hr sr .box⟩
theorem zpf{k:Nat}:JE cx (.Constant .none k p) .none:=⟨rfl,fun {G A P F s β ρ O} hr sr=>Does.leaf sr fun Q E q=>wpAny_Constant_none (q _ _ (KeepsAll.refl s) VR.none)⟩
theorem zpn{k:Nat}{v:Bool}:JE cx (.Constant (.bool v) k p) (.bool v):=⟨rfl,fun {G A P F s β ρ O} hr sr=>Does.leaf sr fun Q E q=>wpAny_Constant_bool (q _ _ (KeepsAll.refl s) VR.bool)⟩
theorem zsa{k:Nat}{v:Int}:JE cx (.Constant (.int v) k p) (.int v):=⟨rfl,fun {G A P F s β ρ O} hr sr=>Does.leaf sr fun Q E q=>wpAny_Constant_int (q _ _ (KeepsAll.toks s _) VR.int)⟩
theorem zr5{k:Nat}{v:Str}:JE cx (.Constant (.str v) k p) (.str v):=⟨rfl,fun {G A P F s β ρ O} hr sr=>Does.leaf sr fun Q E q=>wpAny_Constant_str (q _ _ (KeepsAll.toks s _) VR.str)⟩
theorem zr8{i:Nat}{n:Str}(h:cx.isLoc i n=true):JE cx (.Name n p) (.loc i):=⟨rfl,fun hr sr=>zss sr hr.fit h⟩
theorem zpk{k:Nat}{n:Str}(h:(cx.gname k == some n && cx.isGlob n)=true):JE cx (.Name n p) (.glob k):=⟨rfl,fun hr sr=>zqd hr.run.g sr hr.fit (aS.mp (and2 h).1) (and2 h).2⟩
theorem zjb{es:CEs}(hl:Nat.ble es.len 1000=true){P:Pg}{ρ:Loc}{O:za}(vs:List V)(O':za)(e:evEs P ρ es O=.ok vs O'):vs.length≤line:=by
 rw[zdb es O vs O' e];exact aq (bU hl) (by decide)
theorem zr4{l:List Expr}{es:CEs}{k:Nat}(h:JEs cx l es)(hl:Nat.ble es.len 1000=true):JE cx (.Tuple l k p) (.tup es):=⟨rfl,fun hr sr=>zsn (zjb hl) (h.d hr sr)⟩
theorem zo9{l:List Expr}{es:CEs}(h:JEs cx l es)(hl:Nat.ble es.len 1000=true):JK cx (.List l p) (.list es):=⟨rfl,fun hr sr k=>zna k (zjb hl) (h.d hr sr)⟩
theorem zr7(h:JE cx x a):JE cx (.UnaryOp .USub x p) (.neg a):=⟨rfl,fun hr sr=>zsq (h.d hr sr)⟩
theorem j_nt(h:JE cx x a):JE cx (.UnaryOp .Not x p) (.nt a):=⟨rfl,fun hr sr=>d_nt (h.d hr sr)⟩
theorem zpp(h1:JE cx x a)(h2:JE cx y b):JE cx (.BoolOp .And [x,y] p) (.and_ a b):=⟨rfl,fun {G A P F s β ρ O} hr sr=>zn4 (rb:=fun O=>evE P ρ b O) (h1.d hr sr) fun s' β' O' sr'=>h2.d hr sr'⟩
theorem zpo{r:List Expr}(h1:JE cx x a)(h2:JE cx (.BoolOp .And (y::z::r) p) b):JE cx (.BoolOp .And (x::y::z::r) p) (.and_ a b):=⟨rfl,fun {G A P F s β ρ O} hr sr=>zn4 (rb:=fun O=>evE P ρ b O) (h1.d hr sr) fun s' β' O' sr'=>h2.d hr sr'⟩
theorem zrr{op:Bop}{o:Operator}(h1:JE cx x a)(h2:JE cx y b)(ho:zdu op o=true):JK cx (.BinOp x o y p) (.bin op a b):=⟨rfl,fun {G A P F s β ρ O K} hr sr k=>zqk (rb:=fun O=>evE P ρ b O) k ho (h1.d hr sr) fun s' β' O' sr'=>h2.d hr sr'⟩
theorem zsc{op:Cop}{o:CmpOp}(h1:JE cx x a)(h2:JE cx y b)(ho:xy op o=true):JE cx (.Compare x [o] [y] p) (.cmp op a b):=⟨rfl,fun {G A P F s β ρ O} hr sr=>zsw (rb:=fun O=>evE P ρ b O) hr.run.ro ho h2.px.set (h1.d hr sr) fun s' β' O' sr'=>h2.d hr sr'⟩
theorem zmf{op1 op2:Cop}{o1 o2:CmpOp}(h1:JE cx x a)(h2:JE cx y b)(h3:JE cx z c)(ho:xy op1 o1=true)(ho2:xy op2 o2=true):JE cx (.Compare x [o1,o2] [y,z] p) (.chain op1 op2 a b c):=
 ⟨rfl,fun {G A P F s β ρ O} hr sr=>znb (rb:=fun O=>evE P ρ b O) (rc:=fun O=>evE P ρ c O) hr.run.ro ho ho2 h2.px.set h3.px.set (h1.d hr sr) (fun s' β' O' sr'=>h2.d hr sr') fun s' β' O' sr'=>h3.d hr sr'⟩
theorem zr9(h1:JT cx x a)(h2:JE cx y b)(h3:JE cx z c):JE cx (.IfExp x y z p) (.ite a b c):=
 ⟨rfl,fun {G A P F s β ρ O} hr sr=>zst (ra:=fun O=>evE P ρ b O) (rb:=fun O=>evE P ρ c O) (h1.d hr sr) (fun s' β' O' sr'=>h2.d hr sr') fun s' β' O' sr'=>h3.d hr sr'⟩
theorem zsb(h1:JE cx x a)(h2:JE cx y b):JE cx (.Subscript x y p) (.idx a b):=⟨rfl,fun {G A P F s β ρ O} hr sr=>zsv (rb:=fun O=>evE P ρ b O) hr.run.ro h2.px.slice (h1.d hr sr) fun s' β' O' sr'=>h2.d hr sr'⟩
structure JP(cx:Cx)(o:Option Expr)(c:CE):Prop where
 d:∀ {G:Gl} {A:Around} {P:Pg} {F:Fm} {s:Shared} {β:List Addr} {ρ:Loc} {O:za},Here G A P F cx→SR G F β ρ O s.heap→Does G F A s β (evalPart o F.env) ((evE P ρ c O).lift ρ) (VRel G F)
theorem zo5:JP cx none .none:=⟨fun hr sr=>zdk sr⟩
theorem zo4(h:JE cx x c):JP cx (some x) c:=⟨fun hr sr=>h.d hr sr⟩
theorem zmd{lo hi:Option Expr}(h1:JE cx x a)(h2:JP cx lo b)(h3:JP cx hi c):JE cx (.Subscript x (.Slice lo hi none ps) p) (.slice a b c):=
 ⟨rfl,fun {G A P F s β ρ O} hr sr=>zm5 (rl:=fun O=>evE P ρ b O) (rh:=fun O=>evE P ρ c O) (h1.d hr sr) (fun s' β' O' sr'=>h2.d hr sr') fun s' β' O' sr'=>h3.d hr sr'⟩
theorem Here.inner{G:Gl}{A:Around}{P:Pg}{F:Fm}{tgt:CT}{t:Expr}{scope:Scope}(hr:Here G A P F cx)(hk:F.env.scope.kind=.function)(h1:y9 scope cx.sc=true)(C D:Addr):Here G A P (zh cx F tgt t scope C D) (cx.inner tgt t scope):=
 ⟨hr.run,gh hr.fit hk h1 C D,hr.fr⟩
theorem zi6{t:Expr}{fs:List Expr}{scope:Scope}{tgt:CT}{it:CI}{ifs:CEs}(hi:JI cx y it)(hf:JIfs (cx.inner tgt t scope) fs ifs)(hx:JE (cx.inner tgt t scope) x c)
 (hc:(y9 scope cx.sc && xf (cx.inner tgt t scope).names && chkT (cx.inner tgt t scope) (ownOf scope) tgt t)=true):JK cx (.ListComp x [⟨t,y,fs,0⟩] scope p) (.comp c tgt it ifs):=
 ⟨rfl,fun {G A P F s β ρ O K} hr sr k=>by
   refine fc (and3 hc) ?_;intro h1 h2 h3
   show Does G F A s β _ (R.lift ρ ((if P.hd=true then .stuck else _:R za V).bind K)) _
   by_cases hd:P.hd=true
   ·rw[ah hd];trivial
   rw[ai hd]
   have hh:=hr.run.hm (aW.mpr hd)
   exact zqh (r:=evI P ρ it O) (evT:=fun ρ O=>j9 P ρ ifs O) (evX:=fun ρ O=>evE P ρ c O) hr.run.g hh hr.fit h1 h2 h3 hi.px.set (fun C D s' β' ρ' O' sr'=>hf.d (hr.inner sr.fm.kind h1 C D) sr') (fun C D s' β' ρ' O' sr'=>hx.d (hr.inner sr.fm.kind h1 C D) sr') sr (hi.d hh hr sr) (fun uA uA e=>hi.has e) k⟩
theorem zah{P:Pg}{ρ:Loc}{O O':za}{pr:Int×Int}(h:rng a b P ρ O=.ok pr O'):zbd pr:=by
 refine fu (qb h) ?_;intro v O₁ _ h
 refine fu (qb h) ?_;intro w O₂ _ h
 exact (zbs h).1
theorem zrc(h:JE cx y b)(hg:cx.isGlob "range" = true):JR cx (.Call (.Name "range" ps) [y] [] q) (.int 0) b:=⟨rfl,fun hr sr=>zkq hr.run.g sr hr.fit hg rfl h.px.star (h.d hr sr)⟩
theorem zrb(h1:JE cx x a)(h2:JE cx y b)(hg:cx.isGlob "range" = true):JR cx (.Call (.Name "range" ps) [x,y] [] q) a b:=⟨rfl,fun {G A P F s β ρ O} hr sr=>zkp (rb:=fun O=>evE P ρ b O) hr.run.g sr hr.fit hg rfl h1.px.star h2.px.star (h1.d hr sr) fun s' β' O' sr'=>h2.d hr sr'⟩
theorem zmm(h:JR cx x a b):JI cx x (.range a b):=⟨h.px,fun hh hr sr=>zb8 hr.run.g hh (fun uA uA e=>zah e) (h.d hr sr),fun e=>by refine fu (qb e) ?_;intro _ _ _ e;injection e with eQ eR;subst eQ eR;trivial⟩
theorem i_e(h:JE cx x a):JI cx x (.e a):=⟨h.px,fun hh hr sr=>zkt hr.run.g hh (h.d hr sr),fun e=>by refine fu (qb e) ?_;intro _ _ _ e;exact zik e⟩
theorem zl8(h:JR cx y a b)(hg:cx.isGlob "list" = true):JK cx (.Call (.Name "list" ps) [y] [] q) (.listI (.range a b)):=
 ⟨rfl,fun {G A P F s β ρ O K} hr sr k=>by
   show Does G F A s β _ (R.lift ρ ((if P.hd=true then .stuck else _:R za V).bind K)) _
   by_cases hd:P.hd=true
   ·rw[ah hd];trivial
   rw[ai hd]
   have e1:((evI P ρ (.range a b) O).bind fun src O=>if src.xs.length≤line then R.ok (V.d (.list src.xs)) O else .stuck)=(rng a b P ρ O).bind fun p O=>if (z6 p.1 p.2).length≤line then R.ok (V.d (.list (z6 p.1 p.2))) O else .stuck:=R.bind_assoc _ _ _
   rw[e1]
   exact zdl k hr.run.g (hr.run.hm (aW.mpr hd)) sr hr.fit hg h.px.star (fun uA uA e=>zah e) (h.d hr sr)⟩
theorem zpm{f:Nat}{n:Str}{l:List Expr}{es:CEs}(h:JEs cx (x::l) es)(hx:ziz x=true)(hf:(cx.fname f == some n && cx.isGlob n)=true):JE cx (.Call (.Name n p) (x::l) [] q) (.call f es):=
 ⟨rfl,fun {G A P F s β ρ O} hr sr=>zqj (fname:=cx.fname) hr.run.g (hr.run.ck A P.hd (Like.refl A) hr.run.hm) hr.fr sr hr.fit (aS.mp (and2 hf).1) (and2 hf).2 (PX.star hx) (h.d hr sr)⟩
theorem zo7{P:Pg}{ρ:Loc}{O:za}:evEs P ρ (.cons a .nil) O=(evE P ρ a O).bind fun v O=>R.ok [v] O:=rfl
theorem zgl{G:Gl}{A:Around}{P:Pg}{f g h:Nat→Option Str}{pr:Prim}(run:Run G A P f g h)(hd:¬(P.hd && !pr.calm)=true):pr.calm=true∨A.handled=none:=by
 cases hc:pr.calm with
 | true=>exact .inl rfl
 | false=>
   rw[hc] at hd
   exact .inr (run.hm (by cases hh:P.hd with | false=>rfl | true=>rw[hh] at hd;exact absurd rfl hd))
theorem zl7{pr:Prim}{n:Str}(h:JE cx y a)(hp:(n == x8 pr && pr.plain && cx.isGlob n)=true):JK cx (.Call (.Name n ps) [y] [] q) (.prim pr (.cons a .nil)):=
 ⟨rfl,fun {G A P F s β ρ O K} hr sr k=>by
   refine fc (and3 hp) ?_;intro h1 h2 h3
   have:=aS.mp h1;subst this
   show Does G F A s β _ (R.lift ρ ((if (P.hd && !pr.calm)=true then .stuck else _:R za V).bind K)) _
   by_cases hd:(P.hd && !pr.calm)=true
   ·rw[ah hd];trivial
   rw[ai hd]
   exact zm7 k h2 (zgl hr.run hd) hr.run.so hr.run.ro hr.run.g sr hr.fit h3 h.px.star (h.d hr sr)⟩
theorem zjm{t:Ty}{n:Str}(h:JE cx y a)(hp:(n == q8 t && cx.isGlob "isinstance" && cx.isGlob n)=true):JE cx (.Call (.Name "isinstance" ps) [y,.Name n pz] [] q) (.prim (.isinst t) (.cons a .nil)):=
 ⟨rfl,fun {G A P F s β ρ O} hr sr=>by
   refine fc (and3 hp) ?_;intro h1 h2 h3
   have:=aS.mp h1;subst this
   have hd:(P.hd && !(Prim.isinst t).calm)=false:=by cases P.hd <;> rfl
   show Does G F A s β _ (R.lift ρ (if (P.hd && !(Prim.isinst t).calm)=true then .stuck else _:R za V)) _
   rw[hd,ai (by decide)]
   exact zku hr.run.g sr hr.fit h2 h3 (fun rest=>h.px.star) (h.d hr sr)⟩
theorem zme{pr:Prim}{n:Str}{q':Pos}(h:JE cx y a)(hp:pr=.lenset∨pr=.sortedset)(hg:(n == x8 pr && cx.isGlob n && cx.isGlob "set")=true):JE cx (.Call (.Name n ps) [.Call (.Name "set" pz) [y] [] q'] [] q) (.prim pr (.cons a .nil)):=
 ⟨rfl,fun {G A P F s β ρ O} hr sr=>by
   refine fc (and3 hg) ?_;intro h1 h2 h3
   have:=aS.mp h1;subst this
   show Does G F A s β _ (R.lift ρ (if (P.hd && !pr.calm)=true then .stuck else _:R za V)) _
   by_cases hd:(P.hd && !pr.calm)=true
   ·rw[ah hd];trivial
   rw[ai hd]
   have hc:pr.calm=false:=by (refine eS hp ?_ ?_<;>clear hp;rotate_left;rintro rfl;rotate_right;rintro rfl) <;> rfl
   exact zm9 hp hr.run.se hr.run.ro ((zgl hr.run hd).resolve_left (by rw[hc];decide)) hr.run.g sr hr.fit h2 h3 h.px.star (h.d hr sr)⟩
theorem zjn(h1:JE cx x a)(h2:JE cx y b)(hm:qi x p q=true):JE cx (.Call (.Attribute x "append" p) [y] [] q) (.meth .append a (.cons b .nil)):=
 ⟨rfl,fun {G A P F s β ρ O} hr sr=>by
   have e1:∀ (v:V) (O:za),((evEs P ρ (.cons b .nil) O).bind fun vs O=>meth .append v vs O)=(evE P ρ b O).bind fun u O=>meth .append v [u] O:=fun v O=>by
    rw[zo7,R.bind_assoc];cases evE P ρ b O <;> rfl
   have e2:evE P ρ (.meth .append a (.cons b .nil)) O=(evE P ρ a O).bind fun v O=>if recv .append v O=true then (evE P ρ b O).bind fun u O=>meth .append v [u] O else .stuck:=by
    show ((evE P ρ a O).bind fun v O=>if recv .append v O=true then (evEs P ρ (.cons b .nil) O).bind fun vs O=>meth .append v vs O else .stuck)=_
    simp only[e1]
   rw[e2]
   exact zkv (rb:=fun O=>evE P ρ b O) hm h2.px.star (h1.d hr sr) fun s' β' O' sr'=>h2.d hr sr'⟩
theorem zpy:JEs cx [] .nil:=⟨fun hr sr=>xh sr⟩
theorem zmr{l:List Expr}{es:CEs}(h1:JE cx x a)(h2:JEs cx l es):JEs cx (x::l) (.cons a es):=⟨fun {G A P F s β ρ O pos} hr sr=>yi (g:=fun O=>evEs P ρ es O) h1.px.star (h1.d hr sr) fun s' β' O' sr'=>h2.d hr sr'⟩
theorem zmj:JIfs cx [] .nil:=⟨fun hr sr=>zdi sr⟩
theorem zjt{l:List Expr}{es:CEs}(h1:JT cx x a)(h2:JIfs cx l es):JIfs cx (x::l) (.cons a es):=⟨fun {G A P F s β ρ O} hr sr=>by
 have:=zb7 (rb:=fun O=>j9 P ρ es O) (h1.d hr sr) fun s' β' O' sr'=>h2.d hr sr'
 unfold tv at this
 rw[R.bind_assoc] at this
 exact this⟩
noncomputable def znn:Expr→Bool
 | .UnaryOp o _ _=>(match o with
    | .Not=>true
    | _=>false)
 | .BoolOp _ _ _=>true
 | .IfExp _ _ _ _=>true
 | .Compare _ _ _ _=>true
 | _=>false
theorem isTrue_plain{e:Expr}{env:Env}(h:znn e=false):isTrue e env (eval e env)=(do let v ← eval e env;standAt e.pos;holding [v] (truthy v)):=by
 cases e with
 | UnaryOp o x p=>cases o <;> first | rfl | (exfalso;injection h)
 | BoolOp o l p=>exfalso;injection h
 | IfExp a b c p=>exfalso;injection h
 | Compare a b c p=>exfalso;injection h
 | _=>rfl
theorem zlm(h:JE cx x c)(ht:znn x=false):JT cx x c:=⟨fun hr sr=>zll (isTrue_plain ht) (h.d hr sr)⟩
theorem zq2(h:JT cx x a):JT cx (.UnaryOp .Not x p) (.nt a):=⟨fun hr sr=>zq4 (h.d hr sr)⟩
theorem qm{G:Gl}{F:Fm}{A:Around}{s:Shared}{β:List Addr}{ρ:Loc}{t:Sem Bool}{r r':R za Bool}(e:r=r')(h:Does G F A s β t (r'.lift ρ) BRel):Does G F A s β t (r.lift ρ) BRel:=e ▸ h
theorem zli(h1:JT cx x a)(h2:JT cx y b):JT cx (.BoolOp .And [x,y] p) (.and_ a b):=⟨fun {G A P F s β ρ O} hr sr=>
 qm (zib (evE P ρ a O) fun O=>evE P ρ b O) (wj (rb:=fun O=>tv (evE P ρ b O)) (h1.d hr sr) fun s' β' O' sr'=>
  qm (zgm (tv (evE P ρ b O'))).symm (wj (rb:=fun O=>R.ok true O) (h2.d hr sr') fun s'' β'' O'' sr''=>d9 (op:=.And) sr''))⟩
theorem zlh{r:List Expr}(h1:JT cx x a)(h2:JT cx (.BoolOp .And (y::z::r) p) b):JT cx (.BoolOp .And (x::y::z::r) p) (.and_ a b):=⟨fun {G A P F s β ρ O} hr sr=>
 qm (zib (evE P ρ a O) fun O=>evE P ρ b O) (wj (rb:=fun O=>tv (evE P ρ b O)) (h1.d hr sr) fun s' β' O' sr'=>h2.d hr sr')⟩
theorem zoj(h1:JT cx x a)(h2:JT cx y b):JT cx (.BoolOp .Or [x,y] p) (.or_ a b):=⟨fun {G A P F s β ρ O} hr sr=>
 qm (znm (evE P ρ a O) fun O=>evE P ρ b O) (ui (rb:=fun O=>tv (evE P ρ b O)) (h1.d hr sr) fun s' β' O' sr'=>
  qm (zgm (tv (evE P ρ b O'))).symm (ui (rb:=fun O=>R.ok false O) (h2.d hr sr') fun s'' β'' O'' sr''=>d9 (op:=.Or) sr''))⟩
theorem zoi{r:List Expr}(h1:JT cx x a)(h2:JT cx (.BoolOp .Or (y::z::r) p) b):JT cx (.BoolOp .Or (x::y::z::r) p) (.or_ a b):=⟨fun {G A P F s β ρ O} hr sr=>
 qm (znm (evE P ρ a O) fun O=>evE P ρ b O) (ui (rb:=fun O=>tv (evE P ρ b O)) (h1.d hr sr) fun s' β' O' sr'=>h2.d hr sr')⟩
theorem zok{op:Cop}{o:CmpOp}(h1:JE cx x a)(h2:JE cx y b)(ho:xy op o=true):JT cx (.Compare x [o] [y] p) (.cmp op a b):=⟨fun {G A P F s β ρ O} hr sr=>zq5 (rb:=fun O=>evE P ρ b O) hr.run.ro ho h2.px.set (h1.d hr sr) fun s' β' O' sr'=>h2.d hr sr'⟩
theorem zif{op1 op2:Cop}{o1 o2:CmpOp}(h1:JE cx x a)(h2:JE cx y b)(h3:JE cx z c)(ho:xy op1 o1=true)(ho2:xy op2 o2=true):JT cx (.Compare x [o1,o2] [y,z] p) (.chain op1 op2 a b c):=⟨fun {G A P F s β ρ O} hr sr=>
 zln (rb:=fun O=>evE P ρ b O) (rc:=fun O=>evE P ρ c O) hr.run.ro ho ho2 h2.px.set h3.px.set (h1.d hr sr) (fun s' β' O' sr'=>h2.d hr sr') fun s' β' O' sr'=>h3.d hr sr'⟩
end
section
variable{cx:Cx}{x y z u:Expr}{a b c:CE}{p q ps pz:Pos}
theorem zq7(h:JE cx x a):JS cx (.Return (some x) p) (.ret a):=⟨fun hr sr=>zso (h.d hr.toHere sr)⟩
noncomputable def noCompX:Expr→Bool
 | .ListComp _ _ _ _=>false
 | .SetComp _ _ _ _=>false
 | .DictComp _ _ _ _ _=>false
 | _=>true
theorem noCompX.swaps{e:Expr}(h:noCompX e=true)(t:Option Expr)(n:Nat)(env:Env):swapsWith e t n env=pure false:=
 zcf (fun uA uA uA uA q=>by subst q;exfalso;injection h) (fun uA uA uA uA q=>by subst q;exfalso;injection h) (fun uA uA uA uA uA q=>by subst q;exfalso;injection h) t n env
theorem zox(h:JE cx x a)(hx:noCompX x=true):JS cx (.Expr x p) (.expr a):=⟨fun hr sr=>zqg sr.fm.kind (by unfold interactive;rw[sr.fm.kind];rfl) (noCompX.swaps hx _ _ _) (h.d hr.toHere sr)⟩
theorem zga{h:Bool}{i:Nat}:(h && !(CT.name i).isName)=false:=by cases h <;> rfl
theorem zra{n:Str}{i:Nat}(h:JE cx x a)(hx:(chkT cx (ownOf cx.sc) (.name i) (.Name n ps) && noCompX x)=true):JS cx (.Assign [.Name n ps] x p) (.asg (.name i) a):=⟨fun {G A P F s β ρ O} hr sr=>by
 refine fb (and2 hx) ?_;intro h1 h2
 show Does G F A s β _ (if (P.hd && !(CT.name i).isName)=true then .stuck else _:R (Loc×za) Fl) _
 rw[zga,ai ak]
 exact gv hr.fit hr.own h1 (noCompX.swaps h2 _ _ _) (h.d hr.toHere sr)⟩
noncomputable def unpX:Expr→Bool
 | .Name _ _=>true
 | .Subscript _ _ _=>true
 | .Call _ _ _ _=>true
 | _=>false
theorem uj{l:List Expr}{k n:Nat}{ps:Pos}{x:Expr}{env:Env}(h:unpX x=true):swapsWithSole [.Tuple l k ps] x n env=pure false∧swappedStores [.Tuple l k ps] x env=pure none:=by
 cases x <;> first | exact⟨rfl,rfl⟩ | (exfalso;injection h)
theorem zoy{l:List Expr}{k:Nat}{t:CT}(h:JE cx x a)(hx:(chkT cx (ownOf cx.sc) t (.Tuple l k ps) && unpX x && !t.isName)=true):JS cx (.Assign [.Tuple l k ps] x p) (.asg t a):=⟨fun {G A P F s β ρ O} hr sr=>by
 refine fc (and3 hx) ?_;intro h1 h2 h3
 show Does G F A s β _ (if (P.hd && !t.isName)=true then .stuck else _:R (Loc×za) Fl) _
 rw[h3,Bool.and_true]
 by_cases hd:P.hd=true
 ·rw[ah hd];trivial
 rw[ai hd]
 have e:=uj (l:=l) (k:=k) (n:=p.line) (ps:=ps) (env:=F.env) h2
 exact zdn (hr.run.hm (aW.mpr hd)) hr.fit hr.own h1 e.1 e.2 (h.d hr.toHere sr)⟩
theorem zk3{n:Str}{i:Nat}{t:Expr}{fs:List Expr}{scope:Scope}{tgt:CT}{it:CI}{ifs:CEs}(hi:JI cx y it)(hf:JIfs (cx.inner tgt t scope) fs ifs)(hx:JE (cx.inner tgt t scope) x c)
 (hc:(y9 scope cx.sc && xf (cx.inner tgt t scope).names && chkT (cx.inner tgt t scope) (ownOf scope) tgt t)=true) (hn:chkT cx (ownOf cx.sc) (.name i) (.Name n ps)=true)
 {G:Gl} {A:Around} {P:Pg} {F:Fm} {s:Shared} {β:List Addr} {ρ:Loc} {O:za} {K:V→za→R za V} (hr:zk8 G A P F cx) (sr:SR G F β ρ O s.heap) (hK:Fin2 K) :
 Does G F A s β (exec (.Assign [.Name n ps] (.ListComp x [⟨t,y,fs,0⟩] scope q) p) F.env) ((((evE P ρ (.comp c tgt it ifs) O).bind K).lift ρ).bind (asgR (.name i))) (yr G F):=by
 obtain⟨b,hb⟩ : ∃ b,swapsWith (.ListComp x [⟨t,y,fs,0⟩] scope q) (some (.Name n ps)) p.line F.env=pure b:=⟨_,rfl⟩
 cases b with
 | false=>exact gv hr.fit hr.own hn hb ((zi6 hi hf hx hc).d hr.toHere sr hK)
 | true=>
   refine fc (and3 hc) ?_;intro h1 h2 h3
   show Does G F A s β _ ((R.lift ρ ((if P.hd=true then .stuck else _:R za V).bind K)).bind _) _
   by_cases hd:P.hd=true
   ·rw[ah hd];trivial
   rw[ai hd]
   have hh:=hr.run.hm (aW.mpr hd)
   exact zhp (evT:=fun ρ O=>j9 P ρ ifs O) (evX:=fun ρ O=>evE P ρ c O) hr.run.g hh hr.fit hr.own hn h1 h2 h3 hi.px.set (fun C D s' β' ρ' O' sr'=>hf.d (hr.toHere.inner sr.fm.kind h1 C D) sr') (fun C D s' β' ρ' O' sr'=>hx.d (hr.toHere.inner sr.fm.kind h1 C D) sr') sr (hi.d hh hr.toHere sr) (fun uA uA e=>hi.has e) hK hb
theorem zoz{n:Str}{i:Nat}{t:Expr}{fs:List Expr}{scope:Scope}{tgt:CT}{it:CI}{ifs:CEs}(hi:JI cx y it)(hf:JIfs (cx.inner tgt t scope) fs ifs)(hx:JE (cx.inner tgt t scope) x c)
 (hc:(y9 scope cx.sc && xf (cx.inner tgt t scope).names && chkT (cx.inner tgt t scope) (ownOf scope) tgt t)=true) (hn:chkT cx (ownOf cx.sc) (.name i) (.Name n ps)=true) :
 JS cx (.Assign [.Name n ps] (.ListComp x [⟨t,y,fs,0⟩] scope q) p) (.asg (.name i) (.comp c tgt it ifs)):=⟨fun {G A P F s β ρ O} hr sr=>by
 have:=zk3 hi hf hx hc hn (p:=p) (q:=q) hr sr .plain
 rw[R.bind_ok] at this
 show Does G F A s β _ (if (P.hd && !(CT.name i).isName)=true then .stuck else _:R (Loc×za) Fl) _
 rw[zga,ai ak]
 exact this⟩
theorem zq8{l m:List Stmt}{d e:CSs}(h1:JT cx x a)(h2:JSs cx l d)(h3:JSs cx m e):JS cx (.If x l m p) (.ife a d e):=⟨fun {G A P F s β ρ O} hr sr=>
 zsu (ga:=fun ρ O=>evSs P d ρ O) (gb:=fun ρ O=>evSs P e ρ O) (h1.d hr.toHere sr) (fun s' β' ρ' O' sr'=>h2.d hr sr') fun s' β' ρ' O' sr'=>h3.d hr sr'⟩
theorem zq9{l:List Stmt}{d:CSs}{t:CT}{it:CI}(h1:JI cx x it)(h2:JSs cx l d)(hc:chkT cx (ownOf cx.sc) t y=true):JS cx (.For y x l [] p) (.for_ t it d):=⟨fun {G A P F s β ρ O} hr sr=>by
 show Does G F A s β _ (if P.hd=true then .stuck else _:R (Loc×za) Fl) _
 by_cases hd:P.hd=true
 ·rw[ah hd];trivial
 rw[ai hd]
 have hh:=hr.run.hm (aW.mpr hd)
 exact zn3 (evb:=fun ρ O=>evSs P d ρ O) hr.run.g hh hr.fit hr.own hc h1.px.set (fun s' β' ρ' O' sr'=>h2.d hr sr') sr (h1.d hh hr.toHere sr) fun uA uA e=>h1.has e⟩
theorem zlv{l:List Stmt}{d:CSs}(h1:JT cx x a)(h2:JSs cx l d):JS cx (.While x l [] p) (.while_ a d):=⟨fun {G A P F s β ρ O} hr sr=>
 zm4 (ev:=fun ρ O=>evE P ρ a O) (evb:=fun ρ O=>evSs P d ρ O) (fun s' β' ρ' O' sr'=>h1.d hr.toHere sr') (fun s' β' ρ' O' sr'=>h2.d hr sr') sr⟩
theorem zop:JSs cx [] .nil:=⟨fun hr sr=>zdm sr⟩
theorem zfv{st:Stmt}{l:List Stmt}{d:CS}{e:CSs}(h1:JS cx st d)(h2:JSs cx l e):JSs cx (st::l) (.cons d e):=⟨fun {G A P F s β ρ O} hr sr=>
 zb9 (g:=fun ρ O=>evSs P e ρ O) (h1.d hr sr) fun s' β' ρ' O' sr'=>h2.d hr sr'⟩
end
theorem ul{G:Gl}{P:Pg}{fname gname cname:Nat→Option Str}(g:GOk G P.gval gname)(so:zbc G P)(se:zd1 G P)(cl:zgs G P cname)(A:Around)(call:Bool→Nat→List V→za→R za V)(hd:Bool)(ro:Room A 0)(hm:hd=false→A.handled=none)
 (ck:∀ A' hd',Like A A'→(hd'=false→A'.handled=none)→w5 G A' fname (call hd')):BodyOk G JSs A fname gname cname { P with call:=call,hd:=hd }:=by
 intro F cx c body s β ρ O e1 e2 e3 fit fr top own hc sr
 subst e1;subst e2;subst e3
 exact hc.d ⟨⟨⟨g,ro,hm,ck,so,se,⟨cl.inst,cl.matches_,cl.raise⟩⟩,fit,fr⟩,top,own⟩ sr
section
variable{G:Gl}{fname gname cname:Nat→Option Str}{T:Nat→Option Fn}{P:Pg}
set_option tactic.hygienic true in
theorem go_top(g:GOk G P.gval gname)(fns:zgq G JSs fname gname cname T)(so:zbc G P)(se:zd1 G P)(cl:zgs G P cname){k:Nat}{A:Around}(ro:Room A (k+1))(hm:A.handled=none)(hfr:A.frames=some []){s:Shared}(hs:s.heap=G.h₀)
 {f:Nat} {x:Str} (hf:fname f=some x) {vals:List Value} {vs:List V} (rvs:VRs G [sysModules] [] s.heap vals vs) {d:PyData} {O'':za} (hev:zg P T (k+1) false f vs []=.ok (.d d) O'') {Q:Value→Shared→Prop} {E:Value→Shared→Prop}
 (kk:∀ s' val as,s'.gens=s.gens→s'.os=s.os→(∀ b o,s.heap.get? b=some o→s'.heap.get? b=some o)→Reads s'.heap val d as→Q val s') :
 ∀ a,G.mg x=some (.ref a)→wpAny (model G.prog G.w) A (call (.ref a) vals) Q E s:=by
 intro a₀ ha₀
 rw[zg] at hev
 cases hT:T f with
 | none=>rw[hT] at hev;exfalso;injection hev
 | some fn=>
   refine fA ((fns f x hf).2 fn hT) ?_;intro a o dY;refine fA dY ?_;clear dY;intro fd body dY;refine eZ dY ?_;clear dY;intro names fo
   have haa:a=a₀:=by have:=fo.at_.name.symm.trans ha₀;cases this;rfl
   subst haa
   rw[hT] at hev
   dsimp only at hev
   split at hev
   ·rename_i hlen
    obtain⟨p1,p2,p3,p4,p5,k1,k2,k3,k4,k5,n1,n2,n3,n4⟩:=k7 fo.chk
    have kp:∀ b o,G.h₀.get? b=some o→s.heap.get? b=some o:=by rw[hs];exact fun uA uA h=>h
    have br:BR G [sysModules] [] [] s.heap:=⟨kp,rfl,.nil,fun uA h=>(nomatch h),fun i a bx h=>by simp at h,fun uA h=>(nomatch h)⟩
    have ou:Out G [sysModules] [] [] s.heap:=⟨⟨fun a ha hs=>absurd (ae.mp ha) hs,ae.mpr rfl,fun h=>(nomatch h)⟩,fun uA uA h=>(nomatch h),fun a ha=>by
     obtain⟨o',es,n,e1,e2⟩:=br.sysAlive
     exact eW o' (by rw[ae.mp ha];exact e1) (fun vs n q=>by rw[e2] at q;exfalso;injection q),fun uA h=>(nomatch h),fun uA h=>(nomatch h)⟩
    have hget:s.heap.get? a=some o:=kp _ _ fo.at_.get
    have hnt:(names.take fn.arity).length=fn.arity:=by rw[List.length_take];lia
    have hbind:bindArgs fd ⟨vals,[]⟩=pure ((names.take fn.arity).zip vals):=qc p1 p2 p3 p4 p5 (by rw[rvs.length,hnt];exact hlen.1) (n1.sublist (List.take_sublist _ _)) fo.defaults
    have hkind:∀ y∈(names.take fn.arity).zip vals,fd.scope.names.lookup y.1=some .local∨(fd.scope.names.lookup y.1=some .cell∧((cellsFrom (s.heap.objs.size+1) fd.scope.names []).lookup y.1).isSome=true):=fun y hy=>by
     have hy':y.1∈names:=dF (List.of_mem_zip hy).1
     have how:=n4 y.1 hy'
     unfold ownOf at how
     simp only[bY,aS] at how
     refine eS how ?_ ?_<;>clear how
     ·intro how;exact .inl how
     ·intro how;exact .inr ⟨how,yd _ _ _ (.inl ((lookup_mem k4).mpr how))⟩
    refine wpAny_call (codeAny_call_cells ro.room hget fo.at_.data (g.nolimit.keeps kp) (Heap.CodeRec.keeps fo.code kp) fo.body_ hbind fo.clos hkind (fun s₁ ic=>?_) k3 k2 k1)
    refine fb (zaa fo br ou rvs hlen.1 ic) ?_;intro srC ka
    have fitC:Fits (xd fd s.heap.objs.size a (yq fn names) [sysModules] []) { names:=yq fn names,sc:=fd.scope,fname:=fname,gname:=gname,cname:=cname }:=⟨rfl,fun uA=>rfl,k1⟩
    have frC:FrA (A.deeper (callEnvC fd s.heap.objs.size a)) (xd fd s.heap.objs.size a (yq fn names) [sysModules] []):=⟨_,cH hfr,fun env he=>by
     have he':=ae.mp he
     subst he'
     exact⟨by show fd.scope.kind≠.module;rw[k1];decide,_,rfl,am⟩⟩
    have topC:TopA (A.deeper (callEnvC fd s.heap.objs.size a)) (xd fd s.heap.objs.size a (yq fn names) [sysModules] []):=⟨⟨[],cH hfr⟩,_,rfl⟩
    have roD:=ro.deeper (callEnvC fd s.heap.objs.size a)
    have db:=ul g so se cl (A.deeper (callEnvC fd s.heap.objs.size a)) (zg P T k) false ⟨by have:=roD.depth;lia,by have:=roD.units;lia,roD.guards⟩ (fun uA=>hm) (fun A' hd' lk hm'=>zdt g fns (ul g so se cl) k A' hd' (roD.like lk) hm')
     _ _ fn.body body s₁ [] _ [] rfl rfl rfl fitC frC topC (fun uA h=>h) fo.js srC
    unfold evFn at hev
    cases he:evSs { P with call:=zg P T k,hd:=false } fn.body (vs.map some++List.replicate (fn.slots - fn.arity) none) [] with
    | stuck=>rw[he] at hev;exfalso;injection hev
    | ok fl S=>
      rw[he] at hev db
      have fin:∀ (s':Shared) (β':List Addr) (val:Value) (v:V),Step (xd fd s.heap.objs.size a (yq fn names) [sysModules] []).W [] s₁ s' β'→SR G (xd fd s.heap.objs.size a (yq fn names) [sysModules] []) β' S.1 S.2 s'.heap →
       VR G (xd fd s.heap.objs.size a (yq fn names) [sysModules] []).B β' s'.heap val v→Mine.fin 0 fn.keep v S.2=.ok (.d d) O''→Q val s':=by
       intro s' β' val v st srE rv hf
       obtain⟨β'',q1,q2,q3,as,q4,q5⟩:=zj5 srE.br (N:=[sysModules]) (fun a ha=>au _ ha) srE.fm.notBox st.pre rfl rv hf
       exact kk s' val as (st.gens.trans ka.gens) (st.os.trans ka.os) (by rw[hs];exact srE.br.keep) q4
      refine db _ _ fun s' β' fl' st srE rf=>?_
      cases fl with
      | ret v=>
        refine eV rf ?_;clear rf;intro val dX rv;subst dX
        exact fin s' β' val v st srE rv hev
      | next=>
        have rf:fl'=.next:=rf
        subst rf
        exact fin s' β' .none (.d .none) st srE VR.none hev
   ·exfalso;injection hev
end
noncomputable def zfb(p:Program)(fname:Nat→Option Str)(T:Nat→Option Fn)(slots:Nat→List Str)(at_:Nat→Nat)(f:Nat):Bool:=match fname f,T f,(recsOf p)[at_ f]? with
 | some x,some fn,some d=>d.name == x && zgk fn (slots f) d.params d.scope
 | _,_,_=>false
noncomputable def de(p:Program)(fname gname cname:Nat→Option Str)(T:Nat→Option Fn)(slots:Nat→List Str)(at_:Nat→Nat):Prop:=
 ∀ f fn d,T f=some fn→(recsOf p)[at_ f]?=some d→JSs { names:=yq fn (slots f),sc:=d.scope,fname,gname,cname } d.body fn.body
set_option tactic.hygienic true in
theorem zpv{G:Gl}{p:Program}{loose:List Str}{mean:ExcName→Option Value}{fname gname cname:Nat→Option Str}{T:Nat→Option Fn}{slots:Nat→List Str}{at_:Nat→Nat}(t:Top p loose mean G.mg G.mb G.h₀)(n:Nat)(h0:∀ f,n≤f→fname f=none)
 (h:(List.range n).all (zfb p fname T slots at_)=true) (hb:de p fname gname cname T slots at_):zgq G JSs fname gname cname T:=by
 intro f x hf
 have hn:f < n:=by
  refine eS (bm f n) ?_ ?_
  ·intro h;exact h
  ·intro h;rw[h0 f h] at hf;exfalso;injection hf
 have hh:=aU.mp h f (a7.mpr hn)
 unfold zfb at hh
 rw[hf] at hh
 split at hh
 ·rename_i x' fn d e1 e2 e3
  injection e1 with eQ;subst eQ
  refine fb (and2 hh) ?_;intro q1 q2
  have hx:d.name=x:=aS.mp q1
  refine fA (t.fn d (aw e3)) ?_;intro a o dY;refine eX dY ?_;clear dY;intro pm code doc h1 h2 h3 h4
  rw[hx] at h1
  exact⟨⟨a,o,_,h1,h2,h3⟩,fun fn' hfn'=>by
   rw[e2] at hfn';injection hfn' with eQ;subst eQ
   exact⟨a,o,_,_,slots f,⟨⟨h1,h2,h3⟩,h4,rfl,rfl,rfl,rfl,rfl,q2,hb f fn d e2 e3⟩⟩⟩
 ·exfalso;injection hh
noncomputable def zk0(K:W.Frag):Bool:=bis.all fun p=>W.nsIn K mainGlobals p.1 == some none && bootBuiltins p.1 == some p.2 && p.1 != "__name__"
theorem zav{h:Heap}:∀ {is:List Int} {vs:List Value} {as:List Addr},ReadsAll h vs (is.map .int) as→as=[]
 | [],_,_,.nil=>rfl
 | _::_,_,_,.cons r rs=>by cases r;rw[zav rs];rfl
theorem zeh{h:Heap}{is:List Int}{a:Addr}{rs:List Addr}{m:Str→Option Value}(hm:h.Ns sysModules m)(r:Reads h (.ref a) (.list (is.map .int)) rs):sysModules∉rs:=by
 cases r with
 | list h1 h2 h3 h4=>
   rw[zav h4]
   intro hs
   have e:sysModules=a:=ae.mp hs
   refine fq hm ?_;clear hm;intro o es ep q1 q2 _
   rw[e,h1] at q1;injection q1 with eQ;subst eQ
   rw[h3] at q2;exfalso;injection q2
end Mine
end
section
namespace Mine
open PySem PyProof.Rows PySem.W
noncomputable def lexI:List Int→List Int→Bool
 | [],[]=>false
 | [],_::_=>true
 | _::_,[]=>false
 | x::xs,y::ys=>if x=y then lexI xs ys else decide (x < y)
section
variable{prog:Program}{w:World}{A:Around}{E:Value→Shared→Prop}{s:Shared}
theorem zde{x y:Int}{t u:Tok}{Q:Bool→Shared→Prop}(hu:A.units < cLine)(h:Q (decide (x=y)) s):wpAny (model prog w) A (eqBool (.int x t) (.int y u)) Q E s:=by
 have:=SeqAt.eqBoolOverData prog w A E s (.int x t) (.int y u) (.int x) (.int y) [] [] Q (.int x t) (.int y u) rfl rfl (by show A.units+min 0 0 < cLine;simpa using hu)
 refine this ?_
 exact h
theorem df{a b:Addr}{oa ob:Obj}{xs ys:Array Value}{na nb:Nat}{x y:List Int}{P:PySem.Fin→Shared→Prop}(hu:A.units < cLine)(hoa:s.heap.get? a=some oa)(hca:oa.cls=.type "tuple")(hda:oa.data=.seq xs na)(hia:IntsAre xs.toList x)
 (hob:s.heap.get? b=some ob) (hcb:ob.cls=.type "tuple") (hdb:ob.data=.seq ys nb) (hib:IntsAre ys.toList y) (h:P (.done (.ret (.bool (lexI x y)))) s) :
 wpAny (model prog w) A (Builtin.«tuple.__lt__» ⟨[.ref a,.ref b],[]⟩) P E s:=by
 have hTb:s.TypeIs (.ref b) "tuple":=⟨ob,hob,hcb⟩
 show wpAny _ _ (isInstance (.ref b) (.type "tuple") >>= _) _ _ s
 refine aa (bR hTb cz ?_)
 simp only[bp,aN,bu]
 refine aa (bF hoa hda ?_)
 refine aa (bF hob hdb ?_)
 refine aa ?_
 refine bA _
  (fun rest r s'=>r.1=none∧s'=s∧∃ x' y' xs' ys',rest=List.zip xs' ys'∧IntsAre xs' x'∧IntsAre ys' y'∧lexI x' y'=lexI x y∧(decide (xs'.length < ys'.length))=(decide (xs.size < ys.size)))
  _ ?_ ?_ _ _ ⟨rfl,rfl,x,y,xs.toList,ys.toList,rfl,hia,hib,rfl,by simp⟩
 ·rintro⟨u,v⟩ rest r s' ⟨hr,rfl,x',y',xs',ys',hz,hx',hy',hdec,hlen⟩
  cases hx' with
  | nil=>simp at hz
  | cons k1 t1 hx''=>
    cases hy' with
    | nil=>simp at hz
    | cons k2 t2 hy''=>
      simp only[List.zip_cons_cons,List.cons.injEq,Prod.mk.injEq] at hz
      refine fb hz ?_;clear hz;intro dW dX;refine fb dW ?_;clear dW;intro dW dX;subst dW;subst dX;subst dX
      refine aa (zde hu ?_)
      by_cases hk:k1=k2
      ·subst hk
       rw[aH rfl]
       simp only[bp,aN,bu]
       refine ab ⟨rfl,rfl,_,_,_,_,rfl,hx'',hy'',?_,by simpa using hlen⟩
       rw[← hdec]
       simp[lexI]
      ·rw[aQ hk]
       simp only[Bool.not_false,if_true]
       have hf:lexI x y=decide (k1 < k2):=by rw[← hdec];simp[lexI,hk]
       rw[hf] at h
       refine aa (cI (aa ?_))
       refine wpAny_lt_int (A:=A) ?_
       exact aa (ab (ab (ab h)))
 ·rintro⟨r1,r2⟩ s' ⟨hr,rfl,x',y',xs',ys',hz,hx',hy',hdec,hlen⟩
  simp only at hr
  subst hr
  refine ab ?_
  have hfin:decide (xs.size < ys.size)=lexI x y:=by
   rw[← hdec,← hlen]
   cases hx' with
   | nil=>
     cases hy' with
     | nil=>simp[lexI]
     | cons _ _ _=>simp[lexI]
   | cons _ _ _=>
     cases hy' with
     | nil=>simp[lexI]
     | cons _ _ _=>simp at hz
  show P (.done (.ret (.bool (decide (xs.size < ys.size))))) s'
  rw[hfin];exact h
theorem zg9{a b:Addr}{oa ob:Obj}{xs ys:Array Value}{na nb:Nat}{x y:List Int}{Q:Value→Shared→Prop}(hu:A.units+1 < cLine)(hoa:s.heap.get? a=some oa)(hca:oa.cls=.type "tuple")(hda:oa.data=.seq xs na)(hia:IntsAre xs.toList x)
 (hob:s.heap.get? b=some ob) (hcb:ob.cls=.type "tuple") (hdb:ob.data=.seq ys nb) (hib:IntsAre ys.toList y) (h:Q (.bool (lexI x y)) s):wpAny (model prog w) A (compareOp .Lt (.ref a) (.ref b)) Q E s:=by
 show wpAny _ _ (richCompare .Lt (.ref a) (.ref b)) Q E s
 have hTa:s.TypeIs (.ref a) "tuple":=⟨oa,hoa,hca⟩
 have hTb:s.TypeIs (.ref b) "tuple":=⟨ob,hob,hcb⟩
 exact dE (op:=.Lt) hTa hTb F.slot_tuple_lt (aZ F.slot_tuple_lt hTa F.entry_tuple_lt (df (A:=A.in1) hu hoa hca hda hia hob hcb hdb hib ⟨_,rfl,(fun e=>nomatch e),h⟩) (F.args_tuple_lt_2 _ _)) (by exact Nat.le_of_lt (by assumption))
noncomputable def v9{α:Type}(lt:Nat→Nat→Option Bool):KasT α→Option α
 | .ret a=>some a
 | .ask i j k=>match lt i j with
   | some b=>v9 lt (k b)
   | none=>none
theorem zjk{α:Type}{cmp:Nat→Nat→(Bool→Shared→Prop)→Shared→Prop}{lt:Nat→Nat→Option Bool}{s:Shared}(hc:∀ i j b (C:Bool→Shared→Prop),lt i j=some b→C b s→cmp i j C s){Q:α→Shared→Prop}{a:α}(hq:Q a s) :
 ∀ (t:KasT α),v9 lt t=some a→t.kasWp cmp Q s
 | .ret b,h=>by injection h with eQ;subst eQ;exact hq
 | .ask i j k,h=>by
   unfold v9 at h
   cases hl:lt i j with
   | none=>rw[hl] at h;exfalso;injection h
   | some b=>
     rw[hl] at h
     exact hc i j b _ hl (zjk hc hq (k b) h)
theorem zgv{a:Addr}{vs:List Value}{n:Nat}{κ:SortKind}{lt:Nat→Nat→Option Bool}{out:List Value}{P:PySem.Fin→Shared→Prop}(ho:s.heap.get? a=some (seqObj "list" vs.toArray n))(h64:vs.length < 64)
 (hk:∀ (s':Shared),(∀ b o,b≠a→s.heap.get? b=some o→s'.heap.get? b=some o)→2≤vs.length→∀ (Q:SortKind→Shared→Prop),Q κ s'→wpAny (model prog w) A (keyKind' vs.toArray) Q E s')
 (hc:∀ (s':Shared),(∀ b o,b≠a→s.heap.get? b=some o→s'.heap.get? b=some o)→∀ i j b (C:Bool→Shared→Prop),lt i j=some b→C b s'→wpAny (model prog w) A (keyLt' κ (vs.getD i Value.none) (vs.getD j Value.none)) C (fun uA uA=>False) s')
 (hev:(vs.length < 2∧out=vs)∨(2≤vs.length∧∃ p,v9 lt (kas_sort vs.length)=some p∧out=p.toList.map fun i=>vs.getD i Value.none))
 (h:P (.done (.ret .none)) { s with heap:=sortedHeap s.heap a vs out.toArray }):wpAny (model prog w) A (Builtin.«list.sort» ⟨[.ref a],[]⟩) P E s:=by
 rw[list_sort_plain]
 have ha:a < s.heap.objs.size:=aX ho
 refine aa (listItems_at ho rfl ?_)
 refine aa (listUpdate_at ho rfl ?_ (by rw[List.size_toArray,bO];lia) (be _))
 obtain ⟨e1,ho1⟩ : ∃ e1,(s.heap.update a (Obj.mapSeq fun uA=>#[])).get? a=some (seqObj "list" #[] e1):=⟨_,get?_update_seq ho (fun uA=>#[])⟩
 refine aa (seqEpoch_at ho1 rfl ?_)
 refine aa (wpAny_newTuple ?_ (by show vs.length≤_;rw[bO];lia))
 refine aa (wpAny_newList ?_ (be _))
 refine aR ?_
 have ho6:(((s.heap.update a (Obj.mapSeq fun uA=>#[])).push (seqObj "tuple" vs.toArray 0)).push (seqObj "list" #[] 0)).get? a=some (seqObj "list" #[] e1):=by
  rw[cD _ _ _ (by rw[size_push',dJ];exact a8 (cm ha)),cD _ _ _ (by rw[dJ];exact a8 ha)]
  exact ho1
 show wpAny (model prog w) A _ P E { s with heap:=((s.heap.update a (Obj.mapSeq fun uA=>#[])).push (seqObj "tuple" vs.toArray 0)).push (seqObj "list" #[] 0) }
 have keep:∀ b o,b≠a→s.heap.get? b=some o→(((s.heap.update a (Obj.mapSeq fun uA=>#[])).push (seqObj "tuple" vs.toArray 0)).push (seqObj "list" #[] 0)).get? b=some o:=fun b o hb e=>
  ac _ (ac _ ((dQ _ _ _ _ hb).trans e))
 dsimp only
 have hsz:vs.toArray.size=vs.length:=by simp
 refine eS hev ?_ ?_<;>clear hev
 ·rintro ⟨h2,hout⟩;rw[hout] at h
  have h2':vs.toArray.size < 2:=by rw[hsz];exact h2
  rw[ah h2',ah h2']
  refine aa (ab ?_)
  rw[StateT.run_pure]
  refine aa (ab ?_)
  dsimp only
  refine aa (seqEpoch_at ho6 rfl ?_)
  have hmap:Array.map (fun x=>x.2) (arrOf (SortSt.mk' general' (vs.toArray.zip vs.toArray) #[] 7 none))=vs.toArray:=by
   show Array.map (fun x=>x.2) (vs.toArray.zip vs.toArray)=vs.toArray
   apply Array.toList_inj.mp
   simp[List.map_snd_zip]
  rw[hmap]
  refine aa (listUpdate_at ho6 rfl ?_ (be _) (by rw[List.size_toArray,bO];lia))
  simp only[cE,aN,bu]
  exact ab h
 ·rintro ⟨h2,p,hp,rfl⟩;have h2':¬ vs.toArray.size < 2:=by rw[hsz];lia
  rw[ai h2',ai h2']
  refine aa (hk _ keep h2 _ ?_)
  refine aa (aK (kat_run (ks:=vs) (Q:=fun st' s'=>s' = { s with heap:=((s.heap.update a (Obj.mapSeq fun uA=>#[])).push (seqObj "tuple" vs.toArray 0)).push (seqObj "list" #[] 0) }∧p.size=vs.length∧arrOf st'=p.map (kas_item (vs.toArray.zip vs.toArray))∧failedOf st'=none)
   (G:=fun q s'=>q=p∧s' = { s with heap:=((s.heap.update a (Obj.mapSeq fun uA=>#[])).push (seqObj "tuple" vs.toArray 0)).push (seqObj "list" #[] 0) }) rfl h2 h64 (fun q st' s' a1 a2 a3 a4=>by refine fb a4 ?_;clear a4;intro dW dX;subst dW;subst dX;exact ⟨rfl,a1,a2,a3⟩)
   (zjk (fun i j b C hl hC=>hc _ keep i j b C hl hC) ⟨rfl,rfl⟩ _ hp)) ?_ fun uA uA e=>e)
  rintro⟨⟨⟩,st'⟩ s' ⟨rfl,hps,har,hf⟩
  dsimp only
  refine aa (seqEpoch_at ho6 rfl ?_)
  rw[kat_snds rfl har]
  refine aa (listUpdate_at ho6 rfl ?_ (be _) (by rw[List.size_toArray,aG,av,hps,bO];lia))
  rw[hf]
  simp only[cE,aN,bu]
  exact ab h
theorem w8{h:Heap}{a:Addr}{vs out:List Value}{n:Nat}(ho:h.get? a=some (seqObj "list" vs.toArray n)) :
 (∀ b o,b≠a→h.get? b=some o→(sortedHeap h a vs out.toArray).get? b=some o)∧∃ c,(sortedHeap h a vs out.toArray).get? a=some (seqObj "list" out.toArray c):=by
 have ha:a < h.objs.size:=aX ho
 obtain ⟨e1,ho1⟩ : ∃ e1,(h.update a (Obj.mapSeq fun uA=>#[])).get? a=some (seqObj "list" #[] e1):=⟨_,get?_update_seq ho (fun uA=>#[])⟩
 have ho6:(((h.update a (Obj.mapSeq fun uA=>#[])).push (seqObj "tuple" vs.toArray 0)).push (seqObj "list" #[] 0)).get? a=some (seqObj "list" #[] e1):=by
  rw[cD _ _ _ (by rw[size_push',dJ];exact a8 (cm ha)),cD _ _ _ (by rw[dJ];exact a8 ha)]
  exact ho1
 refine⟨fun b o hb e=>?_,_,get?_update_seq ho6 fun uA=>out.toArray⟩
 unfold sortedHeap
 rw[dQ _ _ _ _ hb]
 exact ac _ (ac _ ((dQ _ _ _ _ hb).trans e))
theorem zcj{l:Addr}{vs:List Value}{κ:SortKind}{lt:Nat→Nat→Option Bool}{out:List Value}{Q:Value→Shared→Prop}(hl:s.heap.IsList l vs.toArray)(h64:vs.length < 64)
 (hk:∀ (s':Shared),(∀ b o,s.heap.get? b=some o→s'.heap.get? b=some o)→2≤vs.length→∀ (Q:SortKind→Shared→Prop),Q κ s'→wpAny (model prog w) A.in1.in1 (keyKind' vs.toArray) Q (fun uA uA=>False) s')
 (hc:∀ (s':Shared),(∀ b o,s.heap.get? b=some o→s'.heap.get? b=some o)→∀ i j b (C:Bool→Shared→Prop),lt i j=some b→C b s'→wpAny (model prog w) A.in1.in1 (keyLt' κ (vs.getD i Value.none) (vs.getD j Value.none)) C (fun uA uA=>False) s')
 (hev:(vs.length < 2∧out=vs)∨(2≤vs.length∧∃ p,v9 lt (kas_sort vs.length)=some p∧out=p.toList.map fun i=>vs.getD i Value.none))
 (h:∀ D h' c,s.heap.get? D=none→(∀ b o,s.heap.get? b=some o→h'.get? b=some o)→h'.get? D=some (seqObj "list" out.toArray c)→Q (.ref D) { s with heap:=h' }) :
 wpAny (model prog w) A (call (.builtin "sorted") [.ref l]) Q E s:=by
 refine Calls.call_function_entry kind_sorted plain_sorted entry_sorted (args_sorted1 _) ?_
 unfold Builtin.«sorted»
 refine aa (m:=checkCount "sorted" 1 1 _) (ab ?_)
 refine aa (collect_list hl ?_ (by rw[bO];lia))
 refine aa (wpAny_newList ?_ (by rw[bO];lia))
 have hsz:((s.heap.push (seqObj "list" #[] 0)).update s.heap.objs.size (Obj.mapSeq (·++vs.toArray))).objs.size=s.heap.objs.size+1:=by
  rw[dJ,size_push']
 have hoL:(((s.heap.push (seqObj "list" #[] 0)).update s.heap.objs.size (Obj.mapSeq (·++vs.toArray))).push (seqObj "list" vs.toArray 0)).get? (s.heap.objs.size+1)=some (seqObj "list" vs.toArray 0):=by
  rw[← hsz];exact ay _ rfl
 have keep:∀ b o,s.heap.get? b=some o→(((s.heap.push (seqObj "list" #[] 0)).update s.heap.objs.size (Obj.mapSeq (·++vs.toArray))).push (seqObj "list" vs.toArray 0)).get? b=some o:=fun b o q=>by
  have hlt:b < s.heap.objs.size:=aX q
  rw[cD _ _ _ (by rw[hsz];exact a8 (cm hlt)),dQ _ _ _ _ (a8 hlt),cD _ _ _ (a8 hlt)]
  exact q
 have ne:∀ b o,s.heap.get? b=some o→b≠s.heap.objs.size+1:=fun b o q=>a8 (cm (aX q))
 show wpAny _ _ _ _ _ { s with heap:=((s.heap.push (seqObj "list" #[] 0)).update s.heap.objs.size (Obj.mapSeq (·++vs.toArray))).push (seqObj "list" vs.toArray 0) }
 rw[hsz]
 obtain⟨k1,c,k2⟩:=w8 (out:=out) hoL
 refine aa (aR (aZ slot_list_sort ⟨_,hoL,rfl⟩ entry_list_sort ?body (args_list_sort _)))
 case body=>
  refine aK (zgv (E:=fun uA uA=>False) (P:=fun r s'=>r=.done (.ret .none)∧s'=_) hoL h64 (fun s' hk' h2 Q q=>hk s' (fun b o e=>hk' b o (ne b o e) (keep b o e)) h2 Q q) (fun s' hk' i j b C hl hC=>hc s' (fun b o e=>hk' b o (ne b o e) (keep b o e)) i j b C hl hC) hev ⟨rfl,rfl⟩) (fun r s' hr=>?_) fun uA uA x=>x.elim
  refine fb hr ?_;clear hr;intro dW dX;subst dW;subst dX
  exact eW _ rfl (ab ⟨_,rfl,h _ _ c (bg (cJ _)) (fun b o e=>k1 b o (ne b o e) (keep b o e)) k2⟩)
end
noncomputable def d8:PyData→Option (List Int)
 | .tuple a=>Mine.intsOf a
 | _=>none
noncomputable def znr:List PyData→Option (List Int×List Int)
 | [x,y]=>(d8 x).bind fun a=>(d8 y).map fun b=>(a,b)
 | _=>none
noncomputable def pairOf:PyData→Option (List Int×List Int)
 | .tuple xs=>znr xs
 | _=>none
noncomputable def ltP(p q:List Int×List Int):Bool:=if p.1=q.1 then (if p.2=q.2 then false else lexI p.2 q.2) else lexI p.1 q.1
noncomputable def ltAt(ps:List (List Int×List Int))(i j:Nat):Option Bool:=match ps[i]?,ps[j]? with
 | some p,some q=>some (ltP p q)
 | _,_=>none
noncomputable def jo:List PyData→Option (List (List Int×List Int))
 | []=>some []
 | x::r=>(pairOf x).bind fun p=>(jo r).map (p::·)
noncomputable def zch(xs:List PyData):Option (List PyData):=(jo xs).bind fun ps=>if xs.length < 2 then some xs else (v9 (ltAt ps) (kas_sort xs.length)).map fun p=>p.toList.map fun i=>xs.getD i .none
theorem lays:∀ is:List Int,PyData.canLayAll0 (is.map .int)=true
 | []=>rfl
 | _::is=>lays is
theorem kw:∀ a b:List Int,PyData.eqvAll (a.map .int) (b.map .int)=decide (a=b)
 | [],[]=>rfl
 | [],_::_=>rfl
 | _::_,[]=>rfl
 | x::a,y::b=>by
   show (decide (x=y) && PyData.eqvAll (a.map .int) (b.map .int))=_
   rw[kw a b]
   by_cases h:x=y <;> by_cases h':a=b <;> simp[h,h']
theorem ky:∀ a:List Int,PyData.depthAll (a.map .int)≤0
 | []=>aI 0
 | _::a=>dG.mpr ⟨aI 0,ky a⟩
theorem zc6{a:List PyData}{x:List Int}(h:Mine.intsOf a=some x):PyData.canLayAll0 a=true:=by rw[ints_length h];exact lays x
theorem zjr{a b:List PyData}{x y:List Int}(h1:Mine.intsOf a=some x)(h2:Mine.intsOf b=some y):PyData.eqvAll a b=decide (x=y):=by rw[ints_length h1,ints_length h2];exact kw x y
theorem ze7{a:List PyData}{x:List Int}(h:Mine.intsOf a=some x):PyData.depthAll a≤0:=by rw[ints_length h];exact ky x
inductive TupI(h:Heap)(b:Addr)(p:List Int):Prop
 | mk (o:Obj) (n:Nat) (vs:Array Value) (g1:h.get? b=some o) (g2:o.cls=.type "tuple") (g3:o.data=.seq vs n) (g4:IntsAre vs.toList p) (xs:List PyData) (as:List Addr) (r:Reads h (.ref b) (.tuple xs) as) (i:Mine.intsOf xs=some p)
inductive PairAt(h:Heap)(v:Value)(p:List Int×List Int):Prop
 | mk (a b c:Addr) (o:Obj) (n:Nat) (e:v=.ref a) (h1:h.get? a=some o) (h2:o.cls=.type "tuple") (h3:o.data=.seq #[.ref b,.ref c] n) (t1:TupI h b p.1) (t2:TupI h c p.2)
theorem zbj{h:Heap}{v:Value}{x:PyData}{as:List Addr}{p:List Int}(r:Reads h v x as)(e:d8 x=some p):∃ b,v=.ref b∧TupI h b p:=by
 cases x <;> first | (cases e;done) | skip
 have r':=r
 cases r with
 | tuple h1 h2 h3 h4=>exact⟨_,rfl,_,_,_,h1,h2,h3,ints_get h4 e,_,_,r',e⟩
theorem zg4{xs:List PyData}{p:List Int×List Int}(e:znr xs=some p):∃ x y,xs=[x,y]∧d8 x=some p.1∧d8 y=some p.2:=by
 cases xs with
 | nil=>exfalso;injection e
 | cons x xs=>cases xs with
   | nil=>exfalso;injection e
   | cons y xs=>cases xs with
     | cons _ _=>exfalso;injection e
     | nil=>
       refine eV (aV.mp e) ?_;intro a h1 e
       refine eV (aE.mp e) ?_;intro b h2 dY;subst dY
       exact fg x y rfl h1 h2
set_option tactic.hygienic true in
theorem zly{h:Heap}{v:Value}{x:PyData}{as:List Addr}{p:List Int×List Int}(r:Reads h v x as)(e:pairOf x=some p):PairAt h v p:=by
 cases x <;> first | (cases e;done) | skip
 refine fh (zg4 e) ?_;intro x y dY hx hy;subst dY
 cases r with
 | tuple h1 h2 h3 h4=>
   rename_i ad o vs n
   refine fi (vz (P:=fun uA=>True) h4 fun uA uA=>trivial) ?_;intro v1 v2 bs cs hvs eg;refine fw eg ?_;clear eg;intro r1 _ r2 _
   refine eV (zbj r1 hx) ?_;intro b dX t1;subst dX
   refine eV (zbj r2 hy) ?_;intro c dX t2;subst dX
   exact⟨_,b,c,o,n,rfl,h1,h2,by rw[h3,Array.toList_inj.mp (show vs.toList = #[Value.ref b,.ref c].toList from hvs)],t1,t2⟩
theorem TupI.keeps{h h':Heap}{b:Addr}{p:List Int}(hk:∀ b o,h.get? b=some o→h'.get? b=some o)(x:TupI h b p):TupI h' b p:=
 let ⟨o,n,vs,g1,g2,g3,g4,xs,as,r,i⟩:=x;⟨o,n,vs,hk _ _ g1,g2,g3,g4,xs,as,zt hk r,i⟩
theorem PairAt.keeps{h h':Heap}{v:Value}{p:List Int×List Int}(hk:∀ b o,h.get? b=some o→h'.get? b=some o)(x:PairAt h v p):PairAt h' v p:=
 let ⟨a,b,c,o,n,e,h1,h2,h3,t1,t2⟩:=x;⟨a,b,c,o,n,e,hk _ _ h1,h2,h3,t1.keeps hk,t2.keeps hk⟩
theorem pairs_at{h:Heap}{vs:List Value}{xs:List PyData}{as:List Addr}(r:ReadsAll h vs xs as):∀ {ps:List (List Int×List Int)},jo xs=some ps→vs.length=ps.length∧∀ (i:Nat) p,ps[i]?=some p→∃ v,vs[i]?=some v∧PairAt h v p:=by
 refine z5 (motive:=fun vs xs uA=>∀ {ps:List (List Int×List Int)},jo xs=some ps→vs.length=ps.length∧∀ (i:Nat) p,ps[i]?=some p→∃ v,vs[i]?=some v∧PairAt h v p) ?_ ?_ r
 ·intro ps e;injection e with eQ;subst eQ;exact⟨rfl,fun i p h=>by rw[List.getElem?_nil] at h;exfalso;injection h⟩
 ·intro v d as vs ds bs r _ ih ps e
  refine eV (aV.mp e) ?_;intro p hx e
  refine eV (aE.mp e) ?_;intro q hr dY;subst dY
  refine fb (ih hr) ?_;intro l k
  refine⟨cA (· + 1) l,fun i p' h=>?_⟩
  cases i with
  | zero=>have h:some p=some p':=h
          injection h with eQ;subst eQ;exact eW v rfl (zly r hx)
  | succ i=>exact k i p' h
section
variable{prog:Program}{w:World}{A:Around}{E:Value→Shared→Prop}{s:Shared}
theorem zge{b b':Addr}{p q:List Int}{C:Bool→Shared→Prop}(hu:A.units+10 < cLine)(t:TupI s.heap b p)(t':TupI s.heap b' q)(h:C (decide (p=q)) s):wpAny (model prog w) A (eqBool (.ref b) (.ref b')) C E s:=by
 obtain⟨_,_,_,_,_,_,_,xs,as,r,i⟩:=t
 obtain⟨_,_,_,_,_,_,_,xs',as',r',i'⟩:=t'
 have d1:(PyData.tuple xs).depth≤1:=cr (ze7 i)
 refine SeqAt.eqBoolOverData prog w A _ s _ _ _ _ _ _ _ r r' (zc6 i) (zc6 i') (by lia) ?_
 have e1:PyData.eqv (.tuple xs) (.tuple xs')=decide (p=q):=zjr i i'
 rw[e1];exact h
theorem zf2{b b':Addr}{p q:List Int}{Q:Value→Shared→Prop}(hu:A.units+1 < cLine)(t:TupI s.heap b p)(t':TupI s.heap b' q)(h:Q (.bool (lexI p q)) s):wpAny (model prog w) A (compareOp .Lt (.ref b) (.ref b')) Q E s:=by
 obtain⟨_,_,_,g1,g2,g3,g4,_,_,_,_⟩:=t
 obtain⟨_,_,_,k1,k2,k3,k4,_,_,_,_⟩:=t'
 exact zg9 hu g1 g2 g3 g4 k1 k2 k3 k4 h
theorem zi7{v u:Value}{p q:List Int×List Int}{C:Bool→Shared→Prop}(hu:A.units+10 < cLine)(hv:PairAt s.heap v p)(hw:PairAt s.heap u q)(h:C (ltP p q) s):wpAny (model prog w) A (keyLt' (tuples' false) v u) C E s:=by
 obtain⟨a,b,c,o,n,rfl,h1,h2,h3,t1,t2⟩:=hv
 obtain⟨a',b',c',o',n',rfl,h1',h2',h3',t1',t2'⟩:=hw
 have hu1:A.units+1 < cLine:=by lia
 refine kat_lt h1 h3 h1' h3' ?_
 show KatLex prog w A false (decide (2 < 2)) C [(.ref b,.ref b'),(.ref c,.ref c')] 0 s
 refine kat_cons (zge hu t1 t1' ?_)
 unfold ltP at h
 by_cases hp:p.1=q.1
 ·rw[ah hp] at h
  rw[aH hp]
  refine kat_yes (kat_cons (zge hu t2 t2' ?_))
  by_cases hq:p.2=q.2
  ·rw[ah hq] at h
   rw[aH hq]
   exact kat_yes (kat_nil h)
  ·rw[ai hq] at h
   rw[aQ hq]
   exact kat_no (kat_one _ _ (zf2 hu1 t2 t2' h))
 ·rw[ai hp] at h
  rw[aQ hp]
  exact kat_no (kat_one _ _ (zf2 hu1 t1 t1' h))
theorem ze3{vs:List Value}{ps:List (List Int×List Int)}{Q:SortKind→Shared→Prop}(hl:vs.length=ps.length)(hp:∀ (i:Nat) p,ps[i]?=some p→∃ v,vs[i]?=some v∧PairAt s.heap v p)(h2:2≤vs.length)(h:Q (tuples' false) s) :
 wpAny (model prog w) A (keyKind' vs.toArray) Q E s:=by
 have key:∀ (vs:List Value) (ps:List (List Int×List Int)),vs.length=ps.length→(∀ (i:Nat) p,ps[i]?=some p→∃ v,vs[i]?=some v∧PairAt s.heap v p)→∃ fs,KatTups s.heap vs fs∧fs.length=vs.length∧∀ f∈fs,∃ b o,f=Value.ref b∧s.heap.get? b=some o∧o.cls=.type "tuple":=by
  intro vs
  induction vs with
  | nil=>intro ps _ _;exact ff [] trivial rfl (fun uA h=>nomatch h)
  | cons v vs ih=>
    intro ps hl hp
    cases ps with
    | nil=>exfalso;injection hl
    | cons p ps=>
      refine fj (ih ps (dC hl) fun i p' h=>hp (i+1) p' h) ?_;intro fs k1 k2 k3
      refine eV (hp 0 p rfl) ?_;intro v' e dY;obtain ⟨a,b,c,o,n,rfl,h1,h2,h3,⟨o1,_,_,g1,g2,_,_,_,_,_,_⟩,_⟩:=dY
      have e:some v=some _:=e
      injection e with eQ;subst eQ
      refine ff (.ref b::fs) (KatTups.cons h1 h2 h3 (by simp) k1) (by simp[k2]) (fun f hf=>?_)
      refine eS (af.mp hf) ?_ ?_
      ·rintro rfl;exact fg b o1 rfl g1 g2
      ·intro hf;exact k3 f hf
 refine fj (key vs ps hl hp) ?_;intro fs k1 k2 k3
 refine kat_kind (T:=.type "tuple") k1 (by rw [k2];exact Nat.le_of_lt (by assumption)) (fun f hf=>?_) (by decide) h
 refine fh (k3 f hf) ?_;intro b o dY h1 h2;subst dY
 rw[← h2]
 exact (Looks.ld h1).andThen .now
end
theorem zcq{h:Heap}{P:Addr→Prop}{vs:List Value}{xs:List PyData}{as:List Addr}(r:ReadsAll h vs xs as)(q:∀ a∈as,P a)(i:Nat)(x:PyData)(e:xs[i]?=some x):∃ v bs,vs[i]?=some v∧Reads h v x bs∧∀ b∈bs,P b:=zo r q e
theorem qx{h:Heap}{P:Addr→Prop}{vs:List Value}{xs:List PyData}{as:List Addr}(r:ReadsAll h vs xs as)(q:∀ a∈as,P a):∀ (l:List Nat),(∀ i∈l,i < xs.length)→∃ bs,ReadsAll h (l.map fun i=>vs.getD i Value.none) (l.map fun i=>xs.getD i .none) bs∧∀ b∈bs,P b
 | [],_=>⟨[],.nil,fun uA h=>nomatch h⟩
 | i::l,hl=>by
   have hi:=hl i am
   refine fh (zcq r q i _ (ao hi)) ?_;intro v bs e1 r1 q1
   refine eV (qx r q l fun j hj=>hl j (ag _ hj)) ?_;intro cs r2 q2
   refine eW (bs++cs) ?_ (fun b hb=>(aj.mp hb).elim (q1 b) (q2 b))
   have ev:vs.getD i Value.none=v:=by simp[List.getD,e1]
   have ex:xs.getD i .none=xs[i]:=by simp[List.getD,hi]
   rw[a9,a9,ev,ex]
   exact .cons r1 r2
noncomputable def zea(xs:List PyData):Bool:=match v9 (ltAt ((jo xs).getD [])) (kas_sort xs.length) with
 | some p=>p.toList.all fun i=>decide (i < xs.length)
 | none=>true
noncomputable def zeb(xs:List PyData):Option (List PyData):=if zea xs=true then zch xs else none
set_option tactic.hygienic true in
theorem zoq{G:Gl}{P:Pg}(hP:P.srt=zeb):zbc G P:=by
 intro A F s β ρ O v d xs ys k ro sr rv hx h64 hs
 refine eV (ya sr rv hx) ?_;intro a dX dY;subst dX;obtain ⟨o,vs,n,h1,h2,h3,as,h4,h5⟩:=dY
 rw[hP] at hs
 unfold zeb at hs
 by_cases hcond:zea xs=true
 ·rw[ah hcond] at hs
  ·have hy:=hs
   unfold zch at hy
   cases hps:jo xs with
   | none=>rw[hps] at hy;exfalso;injection hy
   | some ps=>
     rw[hps] at hy
     simp only[Option.bind_some] at hy
     refine fb (pairs_at h4 hps) ?_;intro hl hat
     have hvl:vs.toList.length=xs.length:=zd h4
     have hu:=ro.c (n:=200)
     have hL:s.heap.IsList a vs.toList.toArray:=⟨o,h1,h2,n,by simpa using h3⟩
     have fin:∀ (out:List Value) (bs:List Addr),(∀ h',(∀ b o,s.heap.get? b=some o→h'.get? b=some o)→ReadsAll h' out ys bs)→(∀ b∈bs,b∉β∧b∉F.B) →
      ((vs.toList.length < 2∧out=vs.toList)∨(2≤vs.toList.length∧∃ p,v9 (ltAt ps) (kas_sort vs.toList.length)=some p∧out=p.toList.map fun i=>vs.toList.getD i Value.none)) →
      LeafD G F s β (tr G A (call (.builtin "sorted") [.ref a])) (V.d (.list ys)) (FRel G F s):=by
      intro out bs hrd hq hev
      refine LeafD.leaf sr fun Q E kk=>zcj (κ:=tuples' false) (lt:=ltAt ps) (out:=out) hL (by rw[hvl];exact h64) (fun s' hk h2' Q q=>ze3 hl (fun i p hi=>let ⟨v,e,pa⟩:=hat i p hi;⟨v,e,pa.keeps hk⟩) h2' q)
       (fun s' hk i j b C hlt hC=>?_) hev fun D h' c hDn hk hD=>?_
      ·unfold ltAt at hlt
       split at hlt
       ·rename_i p q hp hq'
        injection hlt with eQ;subst eQ
        refine eV (hat i p hp) ?_;intro v e pv
        refine eV (hat j q hq') ?_;intro u e' pu
        have ev:vs.toList.getD i Value.none=v:=by simp only[List.getD,e,dK]
        have eu:vs.toList.getD j Value.none=u:=by simp only[List.getD,e',dK]
        rw[ev,eu]
        exact zi7 (by show A.units+1+1+10 < cLine;lia) (pv.keeps hk) (pu.keeps hk) hC
       ·exfalso;injection hlt
      ·have hDβ:D∉β∧D∉F.B:=⟨fun hm=>(by refine eV (sr.br.alive D hm) ?_;intro o e _;rw[hDn] at e;exfalso;injection e),fun hm=>(by refine eV (sr.fm.stor D hm) ?_;intro o e _;rw[hDn] at e;exfalso;injection e)⟩
       exact kk _ _ (yu (tk:=s.toks) hk) ⟨y5 hD rfl rfl (by simpa using hrd h' hk) hq hDβ,fun uA uA=>⟨D,rfl,hDn,_,hD,rfl,rfl⟩⟩
     split at hy
     ·rename_i hlt
      injection hy with eQ;subst eQ
      exact fin vs.toList as (fun h' hk=>zv hk h4) h5 (.inl ⟨by rw[hvl];exact hlt,rfl⟩)
     ·rename_i hge
      cases hev:v9 (ltAt ps) (kas_sort xs.length) with
      | none=>rw[hev] at hy;exfalso;injection hy
      | some p=>
        rw[hev] at hy
        injection hy with eQ;subst eQ
        have hall:∀ i∈p.toList,i < xs.length:=by
         have:=hcond
         unfold zea at this
         rw [hps] at this
         simp only [dK,hev] at this
         intro i hi
         exact bv (aU.mp this i hi)
        refine eV (qx h4 h5 p.toList hall) ?_;intro bs r1 q1
        exact fin _ bs (fun h' hk=>zv hk r1) q1 (.inr ⟨by rw[hvl];lia,p,by rw[hvl];exact hev,rfl⟩)
 ·rw[ai hcond] at hs;exfalso;injection hs
noncomputable def tabOf(L:List Int)(led:Bool):SetTable:={ mask:=7,place:=(L.map Int.toNat).toArray,dummies:=#[],finger:=0,led:=led,moves:=0,plain:=true }
noncomputable def qu(L:List Int)(k:Int)(led:Bool):Bool:=
 decide ((tabOf L led).freeSlot k=some (k.toNat,false)) && decide ((tabOf L led).put k.toNat=(tabOf (addI k L) led,(L.filter fun x=>decide (x < k)).length)) && (tabOf (addI k L) led).fits (L.length+1) && !(tabOf (addI k L) led).tooFull
theorem add0:∀ (led:Bool) (k:_root_.Fin 5),qu [] (k.val:Int) led=true:=by decide +kernel
theorem add1:∀ (led:Bool) (a k:_root_.Fin 5),a≠k→qu [(a.val:Int)] (k.val:Int) led=true:=by decide +kernel
theorem add2:∀ (led:Bool) (a b k:_root_.Fin 5),a < b→a≠k→b≠k→qu [(a.val:Int),(b.val:Int)] (k.val:Int) led=true:=by decide +kernel
theorem add3:∀ (led:Bool) (a b c k:_root_.Fin 5),a < b→b < c→a≠k→b≠k→c≠k→qu [(a.val:Int),(b.val:Int),(c.val:Int)] (k.val:Int) led=true:=by decide +kernel
structure Few(L:List Int)(n:Nat):Prop where
 up:L.Pairwise (· < ·)
 lo:∀ x∈L,0≤x∧x < 5
 len:L.length≤n
theorem yz{x:Int}(h:0≤x∧x < 5):∃ a:_root_.Fin 5,x=(a.val:Int):=⟨⟨x.toNat,by lia⟩,by simp;lia⟩
theorem Few.fact{L:List Int}{k:Int}(f:Few L 3)(hk:0≤k∧k < 5)(hn:k∉L)(led:Bool):qu L k led=true:=by
 refine eZ (yz hk) ?_;intro k dX;subst dX
 match L,f,hn with
 | [],_,_=>exact add0 led k
 | [a],f,hn=>
   refine eZ (yz (f.lo a (by simp))) ?_;intro a dX;subst dX
   exact add1 led a k fun e=>hn (by simp[e])
 | [a,b],f,hn=>
   refine eZ (yz (f.lo a (by simp))) ?_;intro a dX;subst dX
   refine eZ (yz (f.lo b (by simp))) ?_;intro b dX;subst dX
   have hab:=(aA.mp f.up).1 (b.val:Int) (by simp)
   exact add2 led a b k (by exact_mod_cast hab) (fun e=>hn (by simp[e])) fun e=>hn (by simp[e])
 | [a,b,c],f,hn=>
   refine eZ (yz (f.lo a (by simp))) ?_;intro a dX;subst dX
   refine eZ (yz (f.lo b (by simp))) ?_;intro b dX;subst dX
   refine eZ (yz (f.lo c (by simp))) ?_;intro c dX;subst dX
   have hab:=(aA.mp f.up).1 (b.val:Int) (by simp)
   have hbc:=(aA.mp (aA.mp f.up).2).1 (c.val:Int) (by simp)
   exact add3 led a b c k (by exact_mod_cast hab) (by exact_mod_cast hbc) (fun e=>hn (by simp[e])) (fun e=>hn (by simp[e])) fun e=>hn (by simp[e])
 | _::_::_::_::_,f,_=>exact absurd f.len (by simp)
set_option tactic.hygienic true in
theorem g8:∀ (k:Int) (L:List Int) (x:Int),x∈addI k L↔x=k∨x∈L
 | k,[],x=>by simp[addI]
 | k,b::r,x=>by
   unfold addI
   split
   ·simp
   ·split
    ·rename_i h;subst h;simp
    ·simp only[af,g8 k r x]
     constructor
     ·rintro (h | h | h) <;> simp[h]
     ·rintro (h | h | h) <;> simp[h]
set_option tactic.hygienic true in
theorem zgp:∀ (k:Int) (L:List Int),L.Pairwise (· < ·)→(addI k L).Pairwise (· < ·)
 | k,[],_=>by simp[addI]
 | k,b::r,h=>by
   refine fb (aA.mp h) ?_;intro h1 h2
   unfold addI
   split
   ·rename_i hk
    refine aA.mpr ⟨fun x hx=>?_,h⟩
    refine eS (af.mp hx) ?_ ?_
    ·rintro rfl;exact hk
    ·intro hx;exact Int.lt_trans hk (h1 x hx)
   ·split
    ·exact h
    ·rename_i hk hne
     refine aA.mpr ⟨fun x hx=>?_,zgp k r h2⟩
     refine eS ((g8 k r x).mp hx) ?_ ?_
     ·rintro rfl;lia
     ·intro hx;exact h1 x hx
theorem zbb:∀ (k:Int) (L:List Int),L.Pairwise (· < ·)→k∈L→addI k L=L
 | k,b::r,h,hk=>by
   refine fb (aA.mp h) ?_;intro h1 h2
   unfold addI
   refine eS (af.mp hk) ?_ ?_
   ·rintro rfl;simp
   ·intro hk;have:=h1 k hk
    rw[ai (by lia),ai (by lia),zbb k r h2 hk]
theorem zd0:∀ (k:Int) (L:List Int),(addI k L).length≤L.length+1
 | k,[]=>by simp[addI]
 | k,b::r=>by
   unfold addI
   split
   ·simp
   ·split
    ·simp
    ·have:=zd0 k r;simp;assumption
theorem Few.add{L:List Int}{k:Int}{n:Nat}(f:Few L n)(hk:0≤k∧k < 5):Few (addI k L) (n+1):=
 ⟨zgp k L f.up,fun x hx=>by refine eS ((g8 k L x).mp hx) ?_ ?_;rotate_left;intro hx;rotate_right;rintro rfl;exact hk;exact f.lo x hx,aq (zd0 k L) (cr f.len)⟩
noncomputable def SmallSet(h:Heap)(S:Addr)(L:List Int)(led:Bool):Prop:=
 ∃ o es ep,h.get? S=some o∧o.ExactSet∧o.data=.set es ep (tabOf L led)∧es.toList.map (·.1)=L∧∀ e∈es.toList,∃ t,e.2=.int e.1 t
theorem zax:∀ (es:List (Int×Value)) (k:Int) (x:Value),(es.map (·.1)).Pairwise (· < ·)→k∉es.map (·.1) →
 ((es.take ((es.map (·.1)).filter fun y=>decide (y < k)).length)++(k,x)::es.drop ((es.map (·.1)).filter fun y=>decide (y < k)).length).map (·.1)=addI k (es.map (·.1))
 | [],k,x,_,_=>rfl
 | (b,y)::r,k,x,h,hn=>by
   refine fb (aA.mp h) ?_;intro h1 h2
   have hkb:k≠b:=fun e=>hn (by simp[e])
   have hkr:k∉r.map (·.1):=fun hm=>hn (ag _ hm)
   show _=addI k (b::r.map (·.1))
   unfold addI
   by_cases hb:k < b
   ·rw[ah hb]
    have hf:((((b,y)::r).map (·.1)).filter fun y=>decide (y < k))=[]:=by
     rw[List.filter_eq_nil_iff]
     intro z hz
     have:b≤z:=by
      refine eS (af.mp hz) ?_ ?_
      ·rintro rfl;exact Int.le_refl _
      ·intro hz;exact Int.le_of_lt (h1 z hz)
     simp;lia
    rw[hf];simp
   ·rw[ai hb,ai hkb]
    have hf:((((b,y)::r).map (·.1)).filter fun y=>decide (y < k))=b::((r.map (·.1)).filter fun y=>decide (y < k)):=by
     rw[a9,List.filter_cons_of_pos (by simp;lia)]
    rw[hf]
    simp only[a0,List.take_succ_cons,List.drop_succ_cons,List.cons_append,a9]
    rw[zax r k x h2 hkr]
section
variable{prog:Program}{w:World}{A:Around}{E:Value→Shared→Prop}{s:Shared}
theorem gi{k:Int}(hk:0≤k∧k < 5):(intKind prog w).hash k=k:=by
 refine eZ (yz hk) ?_;intro k dX;subst dX
 show hashInt (k.val:Int)=_
 revert k
 decide +kernel
theorem SmallSet.elems{es:List (Int×Value)}{L:List Int}{n:Nat}(f:Few L n)(h1:es.map (·.1)=L)(h2:∀ e∈es,∃ t,e.2=.int e.1 t):ElemsOf (intKind prog w) es:=fun e he=>by
 refine eZ (h2 e he) ?_;intro t ht
 have hm:e.1∈L:=by rw[← h1];exact aC.mpr ⟨e,he,rfl⟩
 refine⟨⟨e.1,?_,(gi (f.lo _ hm)).symm⟩,by rw[ht];rfl⟩
 rw[ht];exact intKind_is _ _ _ _
theorem zh2{a:Addr}{L:List Int}{led:Bool}{k:Int}{t:Tok}{Q:Bool→Shared→Prop}(hS:SmallSet s.heap a L led)(f:Few L 3)(hk:0≤k∧k < 5)
 (h:∀ b h',Heap.SameBut a s.heap h'→SmallSet h' a (addI k L) led→Q b { s with heap:=h' }) :
 wpAny (model prog w) A (setAddHashed a (.int k t) ((intKind prog w).hash k)) Q E s:=by
 have same:k∈L→Q false s:=fun hkL=>h false s.heap (Heap.SameBut.refl a s.heap) (by rw[zbb k L f.up hkL];exact hS)
 refine fC hS ?_;clear hS;intro o es ep ho hex hd h1 h2
 have hel:ElemsOf (intKind prog w) es.toList:=SmallSet.elems f h1 h2
 have hsz:es.size=L.length:=by rw[← av,← h1,aG]
 have hf:(tabOf L led).fits es.size=true:=by
  rw[hsz]
  have:=f.len
  simp[tabOf,SetTable.fits,SetTable.fill];lia
 have hsc:(Value.int k t).scannable=true:=rfl
 have hb:es.size < scanBound:=by rw[hsz];exact bS f.len (by decide)
 have hmemk:(∃ e∈es.toList,(intKind prog w).is k e.2=true)↔k∈L:=by
  constructor
  ·rintro⟨e,he,q⟩
   refine eZ (h2 e he) ?_;intro t' ht'
   rw[ht'] at q
   rw[(intKind prog w).inj _ _ _ q (intKind_is _ _ _ _),← h1];exact aC.mpr ⟨e,he,rfl⟩
  ·intro hm
   rw[← h1] at hm
   refine eV (aC.mp hm) ?_;intro e he dY;subst dY
   refine eZ (h2 e he) ?_;intro t' ht'
   exact eW e he (by rw[ht'];exact intKind_is _ _ _ _)
 have more:k∉L→∃ es',layNew (tabOf L led) es ((intKind prog w).hash k) (.int k t)=(es',tabOf (addI k L) led,false,false)∧es'.size=L.length+1∧(tabOf (addI k L) led).tooFull=false∧SmallSet (s.heap.update a (Obj.putSet es' (tabOf (addI k L) led))) a (addI k L) led:=fun hkL=>by
  have fact:=f.fact hk hkL led
  unfold qu at fact
  simp only[aD,aO,bI] at fact
  refine fb fact ?_;clear fact;intro dW f4;refine fb dW ?_;clear dW;intro dW f3;refine fb dW ?_;clear dW;intro f1 f2
  have hle:(L.filter fun x=>decide (x < k)).length≤L.length:=List.length_filter_le _ _
  have hins:=zax es.toList k (Value.int k t) (by rw[h1];exact f.up) (by rw[h1];exact hkL)
  rw[h1] at hins
  generalize (L.filter fun x=>decide (x < k)).length=p at f2 hle hins
  have hes:(SetTable.insertAt es p (k,Value.int k t)).toList=es.toList.take p++(k,Value.int k t)::es.toList.drop p:=by
   unfold SetTable.insertAt
   rw[Array.toList_append,Array.toList_push,Array.toList_extract,Array.toList_extract]
   rw[List.extract_eq_take_drop,List.extract_eq_take_drop,List.drop_zero,Nat.sub_zero,bf]
   congr 1
   rw[List.take_of_length_le (by rw[List.length_drop,av];exact aI _)]
   rfl
  have hsz':(SetTable.insertAt es p (k,Value.int k t)).size=L.length+1:=by
   rw[← av,hes,bj,a0,List.length_take_of_le (by rw[av,hsz];exact hle),List.length_drop,av,hsz,← cB,Nat.add_sub_of_le hle]
  rw[← hes] at hins
  have hall:∀ e∈(SetTable.insertAt es p (k,Value.int k t)).toList,∃ t,e.2=.int e.1 t:=fun e he=>by
   rw[hes] at he
   refine eS (aj.mp he) ?_ ?_
   ·intro he;exact h2 e (dF he)
   ·intro he;refine eS (af.mp he) ?_ ?_
    ·rintro rfl;exact fe t rfl
    ·intro he;exact h2 e (List.mem_of_mem_drop he)
  clear hes
  have hL:layNew (tabOf L led) es ((intKind prog w).hash k) (.int k t)=(SetTable.insertAt es p (k,Value.int k t),tabOf (addI k L) led,false,false):=by
   rw[gi hk]
   unfold layNew
   rw[f1]
   dsimp only
   rw[f2]
   dsimp only
   rw[hsz']
   unfold SetTable.orStandIn
   rw[f3]
   rfl
  generalize SetTable.insertAt es p (k,Value.int k t)=es' at hsz' hL hins hall
  have hg:=bn (Obj.putSet es' (tabOf (addI k L) led)) ho (by rw[putSet_of _ _ hd];rfl)
  rw[putSet_of _ _ hd] at hg
  exact⟨es',hL,hsz',f4,_,_,ep+1,hg,hex,rfl,hins,hall⟩
 unfold setAddHashed setAddHashedIn
 refine aR (aa (bw ho hd hf (dD (by rw[byScan_of hsc hb hel];rfl) (aa ?_))))
 unfold setAddByScan
 refine aa (cI (aa (wpAny_setScan_of (intKind_is _ _ _ _) ho hd hf hel ?_)))
 cases hr:List.findIdx? (fun e=>(intKind prog w).is k e.2) es.toList with
 | some j=>
   obtain⟨hj,hpj,_⟩:=List.findIdx?_eq_some_iff_getElem.mp hr
   exact ab (ab (same (hmemk.mp ⟨es.toList[j],dH hj,hpj⟩)))
 | none=>
   obtain⟨es',e1,e2,e3,e4⟩:=more fun hm=>by
    refine eV (hmemk.mpr hm) ?_;intro e he q
    have:=List.findIdx?_eq_none_iff.mp hr e he
    rw[q] at this;exfalso;injection this
   dsimp only
   rw[e1]
   refine aa (ab (dD rfl (aa ?_)))
   rw[hashByValue_scannable 8 hsc]
   refine ab ?_
   show wpAny _ _ (storeSet a es' (tabOf (addI k L) led) >>= _) _ _ _
   exact aa (wpAny_storeSet_of ho hd (a5 (by show decide ((!false && (tabOf (addI k L) led).tooFull)=true)=false;rw[e3];rfl) (ab (ab (h _ _ (cp s.heap a _) e4)))) (by rw[e2,bO];have:=f.len;lia))
noncomputable def upTo(is:List Int)(i:Nat):List Int:=(is.take i).foldl (fun acc k=>addI k acc) []
theorem d6{is:List Int}{i:Nat}{k:Int}(h:is[i]?=some k):upTo is (i+1)=addI k (upTo is i):=by
 unfold upTo
 rw[dA,h,List.foldl_append]
 rfl
theorem vp{is:List Int}(hr:∀ x∈is,0≤x∧x < 5):∀ i,Few (upTo is i) i
 | 0=>⟨by simp[upTo],fun x hx=>by simp[upTo] at hx,by simp[upTo]⟩
 | i+1=>by
   cases h:is[i]? with
   | none=>
     have:upTo is (i+1)=upTo is i:=by unfold upTo;rw[dA,h];simp
     rw[this]
     have f:=vp hr i
     exact⟨f.up,f.lo,cZ f.len⟩
   | some k=>rw[d6 h];exact (vp hr i).add (hr k (aw h))
variable{I:Addr}{fp wr:List Addr}{R:Result→Shared→Prop}{P:Nat→Value→Prop}{St:Nat→Heap→Prop}
theorem zfd{is:List Int}{led:Bool}(W:Walks prog w A.in1 I fp wr is.length P St)(S:Addr)(hSf:S∉fp)(hval:∀ (i:Nat) v,i < is.length→P i v→∃ t k,is[i]?=some k∧v=.int k t)(hr:∀ x∈is,0≤x∧x < 5)(h4:is.length≤4) :
 ∀ (k i:Nat) (s:Shared),is.length - i=k→i≤is.length→St i s.heap→SmallSet s.heap S (upTo is i) led →
  (∀ h' tk,(∀ b o,b∉S::wr→s.heap.get? b=some o→h'.get? b=some o)→SmallSet h' S (upTo is is.length) led→R (.ok (.ret .none)) { s with heap:=h',toks:=tk }) →
  codeAny (model prog w) A (.builtin "set.update.loop" ⟨[.ref S,.ref I],[]⟩) R s:=by
 have hSw:S∉wr:=fun h=>hSf (W.sub _ h)
 intro k
 induction k with
 | zero=>
   intro i s hk hi hst hS hR
   have hin:i=is.length:=by lia
   subst hin
   refine cc cR ?_
   rw[cf bG _]
   show wpAny _ A.in1 (pyNext (.ref I) >>= _) _ _ s
   refine aa (W.done s _ _ hst fun h' tk hm=>?_)
   show wpAny _ A.in1 (ret Value.none) _ _ _
   refine ab (hR h' tk (fun b o hb e=>hm b o (fun h=>hb (ag _ h)) e) ?_)
   refine fk hS ?_;clear hS;intro o es ep ho rest
   exact eU o es ep (hm S _ hSw ho) rest
 | succ k ih=>
   intro i s hk hi hst hS hR
   have hlt:i < is.length:=by lia
   refine cc cR ?_
   rw[cf bG _]
   show wpAny _ A.in1 (pyNext (.ref I) >>= _) _ _ s
   refine aa (W.item i s _ _ hlt hst fun v h₁ tk₁ hP hst' hm=>?_)
   refine fu (hval i v hlt hP) ?_;intro t x hx dZ;subst dZ
   have hS':SmallSet h₁ S (upTo is i) led:=by
    refine fk hS ?_;clear hS;intro o es ep ho rest
    exact eU o es ep (hm S _ hSw ho) rest
   have hxr:=hr x (aw hx)
   have hfew:=vp hr i
   show wpAny _ A.in1 (holding [Value.int x t] (setAdd S (.int x t)) >>= _) _ _ _
   refine aa (aR ?_)
   unfold setAdd
   refine aR ?_
   refine aa ((intKind prog w).pyHash (k:=x) (intKind_is _ _ _ _) ?_)
   refine zh2 (s:={ s with heap:=h₁,toks:=tk₁+1 }) hS' ⟨hfew.up,hfew.lo,by have:=hfew.len;lia⟩ hxr fun b h' hsb hS2=>?_
   rw[← d6 hx] at hS2
   refine ab ⟨plainId_quiet bG _,ih (i+1) _ (by lia) hlt (W.frame _ _ _ hst' fun b hb o e=>?_) hS2 fun h'' tk hk'' hS''=>?_⟩
   ·exact (hsb.2 b (fun h:b=S=>hSf (by rw[← h];exact hb))).trans e
   ·refine hR h'' tk (fun b o hb e=>hk'' b o hb ?_) hS''
    exact (hsb.2 b (fun h:b=S=>hb (by rw[h];exact am))).trans (hm b o (fun h=>hb (ag _ h)) e)
end
section
variable{prog:Program}{w:World}{A:Around}{E:Value→Shared→Prop}{s:Shared}
theorem code_set_new(a:Value){Q₁:Value→Shared→Prop}
 (h:Q₁ (.ref s.heap.objs.size) { s with heap:=s.heap.push { cls:=.type "set",dict:=none,data:=.set #[] 0 (.fresh 0 0 (!w.params.followText "set-order")) } }) :
 codeAny (model prog w) A (.call (.builtin "set.__new__") ⟨[.type "set",a],[]⟩) (wants Q₁ E) s:=by
 refine codeAny_of_tree ?_
 show wpAny _ A.in1 (do checkBuiltinCall "set.__new__" ⟨[.type "set",a],[]⟩;again (.builtin "set.__new__" ⟨[.type "set",a],[]⟩)) _ _ s
 refine aa (wpAny_of_eq (PySem.F.newCall_set_1 a) (ab ⟨plainId_quiet PySem.F.plain_set_new _,cc PySem.F.entry_set_new ?_⟩))
 rw[cf PySem.F.plain_set_new _]
 unfold Builtin.«set.__new__» Builtin.Frozenset.newClass
 have hsub:=sub_set_self
 obtain⟨hp,g,d,tk,os⟩:=s
 dsimp only
 wp_walk
 refine dL (ab ?_)
 dsimp only
 simp only[newObj]
 refine aa (wpAny_alloc (ab ?_))
 exact ab h
noncomputable abbrev newSet(w:World):Obj:={ cls:=.type "set",dict:=none,data:=.set #[] 0 (.fresh 0 0 (!w.params.followText "set-order")) }
noncomputable abbrev zi2(c:String)(l:Addr):Obj:={ cls:=.type c,data:=.fields #[.ref l,.int 0 0] }
theorem we{l:Addr}{c ci:String}{ol:Obj}{T:Heap→Prop}{Q:Value→Shared→Prop}(hol:s.heap.get? l=some ol)(hcl:ol.cls=.type c)
 (hsls:isSubtype (.type c) (.type "set")=pure false) (hslf:isSubtype (.type c) (.type "frozenset")=pure false) (hne:(Value.type c == Value.type "dict")=false)
 (hit:∀ {A:Around} {E:Value→Shared→Prop} {s':Shared} {Q':Value→Shared→Prop},s'.heap.get? l=some ol→Q' (.ref s'.heap.objs.size) { s' with heap:=s'.heap.push (zi2 ci l) }→wpAny (model prog w) A (pyIter (.ref l)) Q' E s')
 (fill:∀ (R:Result→Shared→Prop),(∀ h' tk,(∀ b o,s.heap.get? b=some o→h'.get? b=some o)→T h'→R (.ok (.ret .none)) { s with heap:=h',toks:=tk }) →
   codeAny (model prog w) A.in1.in1 (.builtin "set.update.loop" ⟨[.ref s.heap.objs.size,.ref (s.heap.push (newSet w)).objs.size],[]⟩) R { s with heap:=(s.heap.push (newSet w)).push (zi2 ci l) })
 (h:∀ (h':Heap) (tk:Nat),T h'→(∀ b o,s.heap.get? b=some o→h'.get? b=some o)→Q (.ref s.heap.objs.size) { s with heap:=h',toks:=tk }) :
 wpAny (model prog w) A (call (.type "set") [.ref l]) Q E s:=by
 obtain⟨c',tl,hmro⟩:=PySem.F.called_set.mro
 have hmade:=PySem.F.called_set.made
 have hsub:=PySem.F.called_set.sub
 refine wpAny_call (codeAny_of_tree ?_)
 show wpAny _ _ (callAny (.type "set") _) _ _ _
 refine ab ⟨Code.quiet_builtin _ (by decide +kernel),cc PySem.F.entry_type_call ?_⟩
 rw [Around.under_plain (weight_type_call_type "set" [.ref l] []) rfl]
 have h1:=PySem.F.called_set.notType
 have h2:=PySem.F.called_set.canCreate
 have hct:=PySem.F.typeCall_set_1 (.ref l)
 repeat (any_goals (first | assumption | wp_step))
 refine codeAny_mono (code_set_new (.ref l) (E:=E) (Q₁:=fun obj s₁=>obj=.ref s.heap.objs.size∧s₁ = { s with heap:=s.heap.push (newSet w) }) ⟨rfl,rfl⟩) fun r s₁ hr=>?_
 cases r with
 | error e=>exact hr
 | ok fl=>
   cases fl with
   | ret obj=>
     refine fb hr ?_;clear hr;intro dW dX;subst dW;subst dX
     have hS:(s.heap.push (newSet w)).get? s.heap.objs.size=some (newSet w):=ay _ rfl
     have hT:Shared.TypeIs { s with heap:=s.heap.push (newSet w) } (.ref s.heap.objs.size) "set":=⟨_,hS,rfl⟩
     have hli:=PySem.F.called_set.init.lookup
     have hbi:=PySem.F.called_set.init.bind (.ref s.heap.objs.size)
     repeat (any_goals (first | assumption | wp_step))
     refine codeAny_mono (codeAny_call_builtin (R:=wants (fun r s₂=>r=.none∧∃ h' tk,s₂ = { s with heap:=h',toks:=tk }∧T h'∧(∀ b o,s.heap.get? b=some o→h'.get? b=some o)) E) PySem.F.called_set.init.plain PySem.F.entry_set_init (check_set_init_1 hT ?_)) fun r₂ s₂ hr₂=>?_
     ·have hol':(s.heap.push (newSet w)).get? l=some ol:=ac _ hol
      clear hol h
      obtain⟨ocls,odict,odata,oslots⟩:=ol
      have hcl:ocls=_:=hcl
      subst hcl
      unfold Builtin.«set.__init__» noKeywords Builtin.Frozenset.updateFrom
      generalize hPI:pyIter=PI
      wp_walk
      subst hPI
      refine hit hol' (aa (wpAny_runValue (fill _ fun h' tk hk hT=>?_)))
      show wpAny _ _ _ _ _ _
      refine ab ?_
      show wpAny _ _ (ret Value.none) _ _ _
      exact ab ⟨rfl,h',tk,rfl,hT,hk⟩
     ·cases r₂ with
      | error e=>exact hr₂
      | ok fl₂=>
        cases fl₂ with
        | ret r=>
          obtain ⟨rfl,h',tk,rfl,hS',hk'⟩:=hr₂
          repeat (any_goals (first | assumption | wp_step))
          exact h _ _ hS' hk'
        | _=>exact hr₂.elim
   | _=>exact hr.elim
theorem zaf{h h':Heap}{w:World}{c:String}{l:Addr}(hm:∀ b o,b∉h.objs.size::[(h.push (newSet w)).objs.size]→((h.push (newSet w)).push (zi2 c l)).get? b=some o→h'.get? b=some o):∀ b o,h.get? b=some o→h'.get? b=some o:=fun b o e=>by
 have hb:=aX e
 refine hm b o (fun hx=>?_) (ac _ (ac _ e))
 rw[bo] at hx
 refine eS (af.mp hx) ?_ ?_
 ·rintro rfl;exact cS _ hb
 ·intro hx;rw[ae.mp hx] at hb
  exact cS _ (Nat.lt_trans (cL _) hb)
theorem zag{h:Heap}{w:World}{l:Addr}(hl:l < h.objs.size):l≠(h.push (newSet w)).objs.size∧h.objs.size∉[(h.push (newSet w)).objs.size,l]:=by
 rw[bo]
 refine⟨a8 (cm hl),fun hx=>?_⟩
 refine eS (af.mp hx) ?_ ?_
 ·intro hx;exact absurd hx (a8 (cL _))
 ·intro hx;exact absurd (ae.mp hx) (cK hl)
theorem k8{l:Addr}{items:Array Value}{is:List Int}{Q:Value→Shared→Prop}
 (hh:A.handled=none) (hl:s.heap.IsTuple l items) (hi:IntsAre items.toList is) (hr:∀ x∈is,0≤x∧x < 5) (h4:is.length≤4)
 (h:∀ (h':Heap) (tk:Nat),SmallSet h' s.heap.objs.size (upTo is is.length) (!w.params.followText "set-order") →
   (∀ b o,s.heap.get? b=some o→h'.get? b=some o)→Q (.ref s.heap.objs.size) { s with heap:=h',toks:=tk }) :
 wpAny (model prog w) A (call (.type "set") [.ref l]) Q E s:=by
 refine fj hl ?_;clear hl;intro ol hol hcl dZ;refine eZ dZ ?_;clear dZ;intro nl hdl
 refine we (ci:="tuple_iterator") hol hcl PySem.F.sub_tuple_set PySem.F.sub_tuple_frozenset (by decide) (fun e hQ=>wpAny_pyIter_tuple ⟨_,e,hcl,nl,hdl⟩ hQ) (fun R hR=>?_) h
 have hsz:items.size=is.length:=by rw[← av,ko hi]
 refine fb (zag (w:=w) (aX hol)) ?_;intro hneI hSf
 have W:=Walks.tuple (prog:=prog) (w:=w) (A:=A.in1.in1.in1) (by simp[hh]) (s.heap.push (newSet w)).objs.size l hneI items
 rw[hsz] at W
 exact zfd (is:=is) (led:=!w.params.followText "set-order") W s.heap.objs.size hSf (fun i v hi' hv=>by
  refine fu (kq hi i v (by rw[aP];exact hv)) ?_;intro n t e1 e2
  exact fz t n e1 e2) hr h4 is.length 0 _ rfl (be _)
  ⟨⟨_,ay _ rfl,rfl,rfl⟩,ol,ac _ (ac _ hol),hcl,nl,hdl⟩
  ⟨_,#[],0,ac _ (ay _ rfl),⟨rfl,rfl,rfl⟩,rfl,rfl,fun e he=>by simp at he⟩ fun h' tk hm hS'=>hR h' tk (zaf hm) hS'
end
theorem slot_setit_next:Slot "set_iterator" "__next__" "set_iterator.__next__":=
 .of (owner:="set_iterator") (n:="__next__") (by rw [typeLookup_type,builtinLookup_eq_fast];kernel_rfl) (by decide +kernel) (by decide +kernel) (by decide +kernel)
  (by first | exact .inl (by decide +kernel) | exact .inr (by decide +kernel)) (by rw[isSubtype_type];kernel_rfl)
theorem jq:entryFor table "set_iterator.__next__" = some Builtin.«set_iterator.__next__»:=entryFor_of_tree (by kernel_rfl)
theorem kc(a:Value):argsOk "set_iterator.__next__" ⟨[a],[]⟩:=by unfold argsOk;kernel_rfl
theorem j6:Slot "set_iterator" "__iter__" "set_iterator.__iter__":=
 .of (owner:="set_iterator") (n:="__iter__") (by rw [typeLookup_type,builtinLookup_eq_fast];kernel_rfl) (by decide +kernel) (by decide +kernel) (by decide +kernel)
  (by first | exact .inl (by decide +kernel) | exact .inr (by decide +kernel)) (by rw[isSubtype_type];kernel_rfl)
theorem w0:entryFor table "set_iterator.__iter__" = some Builtin.«dict_keyiterator.__iter__»:=
 entryFor_alias (id':="dict_keyiterator.__iter__") (by kernel_rfl) rfl (by decide +kernel) (by kernel_rfl)
theorem pq(a:Value):argsOk "set_iterator.__iter__" ⟨[a],[]⟩:=by unfold argsOk;kernel_rfl
theorem gq:entryFor table "set.__iter__" = some Builtin.«frozenset.__iter__»:=
 entryFor_alias (id':="frozenset.__iter__") (by kernel_rfl) rfl (by decide +kernel) (by kernel_rfl)
noncomputable def slotAt(L:List Int):Nat→Nat
 | 0=>0
 | i+1=>(L.getD i 0).toNat+1
noncomputable def jl(L:List Int)(led:Bool):Bool:=(List.range (L.length+1)).all fun i=>decide (SetTable.below (tabOf L led).place (slotAt L i)=i)
theorem zqy:∀ (led:Bool),jl [] led=true:=by decide +kernel
theorem walk1:∀ (led:Bool) (a:_root_.Fin 5),jl [(a.val:Int)] led=true:=by decide +kernel
theorem walk2:∀ (led:Bool) (a b:_root_.Fin 5),a < b→jl [(a.val:Int),(b.val:Int)] led=true:=by decide +kernel
theorem zqx:∀ (led:Bool) (a b c:_root_.Fin 5),a < b→b < c→jl [(a.val:Int),(b.val:Int),(c.val:Int)] led=true:=by decide +kernel
theorem zqw:∀ (led:Bool) (a b c d:_root_.Fin 5),a < b→b < c→c < d→jl [(a.val:Int),(b.val:Int),(c.val:Int),(d.val:Int)] led=true:=by decide +kernel
theorem Few.walk{L:List Int}(f:Few L 4)(led:Bool):∀ i,i≤L.length→SetTable.below (tabOf L led).place (slotAt L i)=i:=by
 have:jl L led=true:=by
  match L,f with
  | [],_=>exact zqy led
  | [a],f=>
    refine eZ (yz (f.lo a (by simp))) ?_;intro a dX;subst dX
    exact walk1 led a
  | [a,b],f=>
    refine eZ (yz (f.lo a (by simp))) ?_;intro a dX;subst dX
    refine eZ (yz (f.lo b (by simp))) ?_;intro b dX;subst dX
    have hab:=(aA.mp f.up).1 (b.val:Int) (by simp)
    exact walk2 led a b (by exact_mod_cast hab)
  | [a,b,c],f=>
    refine eZ (yz (f.lo a (by simp))) ?_;intro a dX;subst dX
    refine eZ (yz (f.lo b (by simp))) ?_;intro b dX;subst dX
    refine eZ (yz (f.lo c (by simp))) ?_;intro c dX;subst dX
    have hab:=(aA.mp f.up).1 (b.val:Int) (by simp)
    have hbc:=(aA.mp (aA.mp f.up).2).1 (c.val:Int) (by simp)
    exact zqx led a b c (by exact_mod_cast hab) (by exact_mod_cast hbc)
  | [a,b,c,d],f=>
    refine eZ (yz (f.lo a (by simp))) ?_;intro a dX;subst dX
    refine eZ (yz (f.lo b (by simp))) ?_;intro b dX;subst dX
    refine eZ (yz (f.lo c (by simp))) ?_;intro c dX;subst dX
    refine eZ (yz (f.lo d (by simp))) ?_;intro d dX;subst dX
    have hab:=(aA.mp f.up).1 (b.val:Int) (by simp)
    have hbc:=(aA.mp (aA.mp f.up).2).1 (c.val:Int) (by simp)
    have hcd:=(aA.mp (aA.mp (aA.mp f.up).2).2).1 (d.val:Int) (by simp)
    exact zqw led a b c d (by exact_mod_cast hab) (by exact_mod_cast hbc) (by exact_mod_cast hcd)
  | _::_::_::_::_::_,f=>exact absurd f.len (by simp)
 intro i hi
 exact bv (aU.mp this i (a7.mpr (cF hi)))
theorem uz{α:Type}:∀ (l:List α) (i:Nat) (h:i < l.length),([l[i]]++l.eraseIdx i).Perm l
 | a::l,0,_=>by simp
 | a::l,i+1,h=>by
   have:=uz l i (by simpa using h)
   simp only[List.getElem_cons_succ,List.eraseIdx_cons_succ,List.singleton_append]
   simp only[List.singleton_append] at this
   exact (List.Perm.swap _ _ _).trans (this.cons a)
theorem v6{α:Type}(next:Nat→Nat):∀ (fuel k:Nat) (left:List α) (out:Array α),left.length=fuel→(pickOrder.go next fuel k left out).toList.Perm (out.toList++left)
 | 0,k,left,out,h=>by
   have:left=[]:=co h
   subst this
   unfold pickOrder.go
   simp
 | fuel+1,k,left,out,h=>by
   unfold pickOrder.go
   have hlt:next k % left.length < left.length:=Nat.mod_lt _ (by lia)
   rw[ao hlt]
   dsimp only
   refine (v6 next fuel (k+1) _ _ (by rw[List.length_eraseIdx_of_lt hlt];lia)).trans ?_
   rw[Array.toList_push,bf]
   refine List.Perm.append_left _ ?_
   exact uz left _ hlt
theorem uy{α:Type}(next:Nat→Nat)(xs:Array α):(pickOrder next xs).toList.Perm xs.toList:=by
 have:=v6 next xs.size 0 xs.toList #[] (by simp)
 unfold pickOrder
 simpa using this
noncomputable def xu(w:World)(S ep:Nat)(es:Array (Int×Value)):List (Int×Value):=if w.params.followText "set-order" = true then (pickOrder (w.params.setOrder S ep) es).toList else es.toList
theorem ordOf_perm{w:World}{S ep:Nat}{es:Array (Int×Value)}:(xu w S ep es).Perm es.toList:=by
 unfold xu
 split
 ·exact uy _ _
 ·exact List.Perm.refl _
noncomputable def posAt(w:World)(L:List Int)(i:Nat):Nat:=if w.params.followText "set-order" = true then 0 else slotAt L i
structure SetIt(w:World)(S I:Addr)(es:Array (Int×Value))(ep:Nat)(L:List Int)(i:Nat)(h:Heap):Prop where
 set:∃ o,h.get? S=some o∧o.ExactSet∧o.data=.set es ep (tabOf L (!w.params.followText "set-order"))
 it:∃ o,h.get? I=some o∧o.cls=.type "set_iterator"∧o.data=.fields #[.int (posAt w L i) 0,.int i 0,.ref S,.int es.size 0,.int ep 0]
section
variable{prog:Program}{w:World}{A:Around}{E:Value→Shared→Prop}{s:Shared}{S I:Addr}{es:Array (Int×Value)}{ep:Nat}{L:List Int}
theorem uo{i:Nat}{Q:Option (Value×Nat)→Shared→Prop}(f:Few L 4)(h1:es.toList.map (·.1)=L)(hS:∃ o,s.heap.get? S=some o∧o.ExactSet∧o.data=.set es ep (tabOf L (!w.params.followText "set-order")))
 (hi:i≤L.length) (h:Q (((xu w S ep es)[i]?).map fun e=>(e.2,posAt w L (i+1))) s):wpAny (model prog w) A (setNext S (posAt w L i) i ep) Q E s:=by
 refine fj hS ?_;clear hS;intro o ho hex hd
 have hsz:es.size=L.length:=by rw[← av,← h1,aG]
 have hf:(tabOf L (!w.params.followText "set-order")).fits es.size=true:=by
  rw[hsz];have:=f.len;simp[tabOf,SetTable.fits,SetTable.fill];lia
 unfold setNext
 refine aa (bw ho hd hf ?_)
 dsimp only
 unfold setsByText
 refine aa (aa (dL (ab ?_)))
 unfold xu posAt at *
 show wpAny _ _ (if w.params.followText "set-order" = true then _ else _) _ _ _
 by_cases hb:w.params.followText "set-order" = true
 ·rw[ah hb] at h ⊢
  simp only[cE,aN,bu]
  refine aa ?_
  unfold setWalk
  refine aa (bw ho hd hf ?_)
  dsimp only
  unfold setsByText
  refine aa (aa (dL (ab ?_)))
  show wpAny _ _ (if w.params.followText "set-order" = true then _ else _) _ _ _
  rw[ah hb]
  refine aa (dL (ab (ab ?_)))
  rw[ah hb] at h ⊢
  rw[aP] at h
  exact h
 ·rw[ai hb] at h ⊢
  have hb':w.params.followText "set-order" = false:=aW.mpr hb
  rw[hb']
  show wpAny _ _ (if (false:Bool)=true then _ else _) _ _ _
  rw[ai ak]
  refine aa ?_
  show wpAny _ _ (if (false && !es.isEmpty)=true then _ else _) _ _ _
  rw[Bool.false_and,ai ak]
  refine ab (ab ?_)
  have hw:=f.walk true i hi
  show Q (match es[SetTable.below (tabOf L true).place (slotAt L i)]?,(tabOf L true).place[SetTable.below (tabOf L true).place (slotAt L i)]? with
   | some (_,x),some j=>some (x,j+1)
   | _,_=>none) s
  rw[hw]
  have hp:(tabOf L true).place[i]?=(L[i]?).map Int.toNat:=by
   show ((L.map Int.toNat).toArray)[i]?=_
   rw[List.getElem?_toArray,aT]
  rw[hp]
  rw[ai hb,aP] at h
  cases he:es[i]? with
  | none=>rw[he] at h;exact h
  | some e=>
    rw[he] at h
    have hl:L[i]?=some e.1:=by rw[← h1,aT,aP,he];rfl
    rw[hl]
    have:slotAt L (i+1)=e.1.toNat+1:=by show (L.getD i 0).toNat+1=_;rw[List.getD,hl];rfl
    rw[this] at h
    exact h
theorem SetIt.walks(hh:A.handled=none)(f:Few L 4)(h1:es.toList.map (·.1)=L)(hSI:S≠I):Walks prog w A I [I,S] [I] L.length (fun i v=>∃ e,(xu w S ep es)[i]?=some e∧v=e.2) (fun i h=>SetIt w S I es ep L i h) where
 sub:=fun b hb=>by rw[ae.mp hb];exact am
 frame:=fun i h h' st hk=>by
  obtain⟨⟨o,ho,r⟩,o',ho',r'⟩:=st
  exact⟨⟨o,hk S (by simp) o ho,r⟩,o',hk I (by simp) o' ho',r'⟩
 item:=fun i s Q E hi st hQ=>by
  obtain⟨hS,o,ho,hc,hd⟩:=id st
  refine fj (id hS) ?_;intro oS hoS hexS hdS
  have hsz:es.size=L.length:=by rw[← av,← h1,aG]
  have hf:(tabOf L (!w.params.followText "set-order")).fits es.size=true:=by
   rw[hsz];have:=f.len;simp[tabOf,SetTable.fits,SetTable.fill];lia
  have hT:s.TypeIs (.ref I) "set_iterator":=⟨o,ho,hc⟩
  unfold pyNext
  refine aa (wpAny_attempt (bH (name:=Str.ofString "__next__") hT slot_setit_next
   (aZ slot_setit_next hT jq ?_ (kc _))))
  show wpAny _ _ (fieldsOf (.ref I) >>= _) _ _ s
  refine aa (wpAny_fieldsOf ho hd ?_)
  show wpAny _ _ (setEntries S >>= _) _ _ s
  refine aa (wpAny_setEntries_of hoS hdS hf ?_)
  simp only[cE,aN,bu]
  refine aa ?_
  simp only[bK]
  refine uo f h1 hS (cw hi) ?_
  have hlen:(xu w S ep es).length=L.length:=by rw[ordOf_perm.length_eq,← h1,aG]
  have hii:i < (xu w S ep es).length:=by rw[hlen];exact hi
  rw[ao hii]
  dsimp only[Option.map]
  refine aa (wpAny_setField ho hd (by simp) ?_)
  have hd1:=Obj.data_mapFields hd (·.setIfInBounds 0 (rawInt (posAt w L (i+1):Nat)))
  have ho1:=bn (Obj.mapFields (·.setIfInBounds 0 (rawInt (posAt w L (i+1):Nat)))) ho (Obj.isFreed_of_fields hd1)
  refine aa (wpAny_setField ho1 hd1 (by simp) ?_)
  have hd2:=Obj.data_mapFields hd1 (·.setIfInBounds 1 (rawInt ((i:Int)+1)))
  have ho2:=bn (Obj.mapFields (·.setIfInBounds 1 (rawInt ((i:Int)+1)))) ho1 (Obj.isFreed_of_fields hd2)
  have hoth:∀ b o,b≠I→s.heap.get? b=some o→((s.heap.update I (Obj.mapFields (·.setIfInBounds 0 (rawInt (posAt w L (i+1):Nat))))).update I (Obj.mapFields (·.setIfInBounds 1 (rawInt ((i:Int)+1))))).get? b=some o:=fun b o hb e=>
   (cu _ _ (Ne.symm hb)).trans ((cu _ _ (Ne.symm hb)).trans e)
  refine ab ⟨_,rfl,ab (hQ _ _ s.toks ⟨_,ao hii,rfl⟩ ⟨⟨oS,hoth S oS hSI hoS,hexS,hdS⟩,_,ho2,(Obj.cls_mapFields ..).trans ((Obj.cls_mapFields ..).trans hc),?_⟩ fun b o hb e=>hoth b o (fun q=>hb (by simp[q])) e)⟩
  rw[hd2]
  simp[rawInt]
 done:=fun s Q E st hQ=>by
  obtain⟨hS,o,ho,hc,hd⟩:=id st
  refine fj (id hS) ?_;intro oS hoS hexS hdS
  have hsz:es.size=L.length:=by rw[← av,← h1,aG]
  have hf:(tabOf L (!w.params.followText "set-order")).fits es.size=true:=by
   rw[hsz];have:=f.len;simp[tabOf,SetTable.fits,SetTable.fill];lia
  have hT:s.TypeIs (.ref I) "set_iterator":=⟨o,ho,hc⟩
  unfold pyNext
  refine aa (wpAny_attempt (bH (name:=Str.ofString "__next__") hT slot_setit_next
   (aZ slot_setit_next hT jq ?_ (kc _))))
  show wpAny _ _ (fieldsOf (.ref I) >>= _) _ _ s
  refine aa (wpAny_fieldsOf ho hd ?_)
  show wpAny _ _ (setEntries S >>= _) _ _ s
  refine aa (wpAny_setEntries_of hoS hdS hf ?_)
  simp only[cE,aN,bu]
  refine aa ?_
  simp only[bK]
  refine uo f h1 hS (aI _) ?_
  have hlen:(xu w S ep es).length=L.length:=by rw[ordOf_perm.length_eq,← h1,aG]
  rw[a6 (by rw[hlen];exact aI _)]
  dsimp only[Option.map]
  refine aa (wpAny_setField ho hd (by simp) ?_)
  show wpAny _ _ (newExc (.type "StopIteration") [] >>= _) _ _ _
  refine aa ?_
  simp only[newExc,newTuple]
  refine aa (cC ?_ (by size_fits))
  refine aa (m:=firstArgMember _ _) (wpAny_of_eq (a:=Value.none) (by first | rfl | (simp only[firstArgMember];rfl)) ?_)
  refine cC ?_ (by size_fits)
  simp only[raiseNew]
  refine aa (wpAny_handled ?_)
  first | rw[show A.in1.handled=none from hh] | rw[hh]
  refine aa (ab (wpAny_throw ?_))
  refine aa (bR (T:="StopIteration") (b:=true) ⟨_,ay _ rfl,rfl⟩ isSubtype_stop ?_)
  refine ab (hQ _ s.toks fun b o hb e=>?_)
  exact ac _ (ac _ ((cu _ _ (fun q=>hb (by simp[← q]))).trans e))
 self:=fun i s Q E st q=>by
  obtain⟨hS,o,ho,hc,hd⟩:=id st
  have hT:s.TypeIs (.ref I) "set_iterator":=⟨o,ho,hc⟩
  refine wpAny_pyIter_slot hT j6 (aZ j6 hT w0 ?_ (pq _))
  show wpAny _ _ (ret (.ref I)) _ _ s
  exact ab ⟨_,rfl,"set_iterator",_,hT,slot_setit_next.lookup,q⟩
end
section
variable{prog:Program}{w:World}{A:Around}{E:Value→Shared→Prop}{s:Shared}{S I:Addr}{es:Array (Int×Value)}{ep:Nat}{L:List Int}
theorem zjo{Q:Value→Shared→Prop}(f:Few L 4)(h1:es.toList.map (·.1)=L)(hS:∃ o,s.heap.get? S=some o∧o.ExactSet∧o.data=.set es ep (tabOf L (!w.params.followText "set-order")))
 (hQ:Q (.ref s.heap.objs.size) { s with heap:=s.heap.push { cls:=.type "set_iterator",data:=.fields #[.int 0 0,.int 0 0,.ref S,.int es.size 0,.int ep 0] } }):wpAny (model prog w) A (pyIter (.ref S)) Q E s:=by
 refine fj hS ?_;clear hS;intro o ho hex hd
 have hsz:es.size=L.length:=by rw[← av,← h1,aG]
 have hf:(tabOf L (!w.params.followText "set-order")).fits es.size=true:=by
  rw[hsz];have:=f.len;simp[tabOf,SetTable.fits,SetTable.fill];lia
 have hT:s.TypeIs (.ref S) "set":=⟨o,ho,hex.1⟩
 refine wpAny_pyIter_slot hT PySem.F.slot_set_iter (aZ PySem.F.slot_set_iter hT gq ?_ (PySem.F.args_set_iter_1 _))
 show wpAny _ _ (Builtin.Frozenset.sizeOf S >>= _) _ _ s
 unfold Builtin.Frozenset.sizeOf
 refine aa (aa (wpAny_setEntries_of ho hd hf (ab ?_)))
 refine aa ?_
 unfold setDrawn
 refine aa (bw ho hd hf ?_)
 dsimp only
 unfold setsByText
 refine aa (aa (dL (ab (ab ?_))))
 have hdr:∀ b:Bool,(b && false)=false:=fun b=>by cases b <;> rfl
 show wpAny _ _ (if (!(w.params.followText "set-order") && false)=true then _ else _) _ _ _
 rw[hdr,ai ak]
 refine aa (ab ?_)
 refine aa (wpAny_setEpoch_of ho hd hf ?_)
 exact aa (cC (ab ⟨_,rfl,"set_iterator",_,⟨_,ay _ rfl,rfl⟩,slot_setit_next.lookup,hQ⟩))
theorem zjy{Q:Bool→Shared→Prop}{o:Obj}(ho:s.heap.get? S=some o)(hc:o.cls=.type "set")(h:Q false s):wpAny (model prog w) A (Builtin.List.listLengthHint (.ref S)) Q E s:=by
 have hT:s.TypeIs (.ref S) "set":=⟨o,ho,hc⟩
 unfold Builtin.List.listLengthHint
 refine aa (bM hT PySem.F.slot_set_len.lookup ?_)
 generalize hid:("set.__len__" : String)=id0
 wp_delta
 rw [show splitId id0=some ("set","__len__") from by subst hid;decide +kernel]
 subst hid
 refine aa (bR (T:="set") (b:=true) hT (by rw [isSubtype_type];kernel_rfl) ?_)
 refine dU (fun hab=>absurd hab (by decide)) (fun uA=>?_)
 refine dU (fun uA=>?_) (fun hab=>absurd (by decide +kernel) hab)
 refine aa (wpAny_typeOf hT ?_)
 exact ab h
theorem zdq{Q:List Value→Shared→Prop}(hh:A.handled=none)(f:Few L 4)(h1:es.toList.map (·.1)=L)(hS:∃ o,s.heap.get? S=some o∧o.ExactSet∧o.data=.set es ep (tabOf L (!w.params.followText "set-order")))
 (hQ:∀ h' tk,(∀ b o,s.heap.get? b=some o→h'.get? b=some o)→Q ((xu w S ep es).map (·.2)) { s with heap:=h',toks:=tk }):wpAny (model prog w) A (collect (.ref S)) Q E s:=by
 refine fj (id hS) ?_;intro o ho hex hd
 have hSlt:=aX ho
 have hlen:(xu w S ep es).length=L.length:=by rw[ordOf_perm.length_eq,← h1,aG]
 unfold collect
 refine aa (wpAny_runValue (cc entry_proto_collect' ?_))
 show wpAny _ _ (do again (.builtin "list.__iadd__" ⟨[← newList [],.ref S],[]⟩)) _ _ s
 refine aa (wpAny_newList (ab ⟨Code.quiet_builtin _ (by decide +kernel),cc entry_list_iadd' ?_⟩))
 rw[cf (by decide +kernel) _]
 show wpAny _ _ (Builtin.List.listExtendWith (.ref s.heap.objs.size) (.ref S) (.ref s.heap.objs.size)) _ _ { s with heap:=s.heap.push (seqObj "list" #[] 0) }
 unfold Builtin.List.listExtendWith
 have ho':(s.heap.push (seqObj "list" #[] 0)).get? S=some o:=ac _ ho
 refine aa (wpAny_typeOf (T:="set") ⟨o,ho',hex.1⟩ ?_)
 have e1:Builtin.List.listSameRef (.ref s.heap.objs.size) (.ref S)=false:=by
  have:s.heap.objs.size≠S:=cK hSlt
  simp[Builtin.List.listSameRef,this]
 have e2:(Value.type "set" == Value.type "list")=false:=by decide
 have e3:(Value.type "set" == Value.type "tuple")=false:=by decide
 simp only[e1,e2,e3,Bool.or_false,aN,bu]
 refine aa (zjo (s:={ s with heap:=s.heap.push (seqObj "list" #[] 0) }) f h1 ⟨o,ho',hex,hd⟩ ?_)
 have hsz1:(s.heap.push (seqObj "list" #[] 0)).objs.size=s.heap.objs.size+1:=size_push' _ _
 generalize hI:(s.heap.push (seqObj "list" #[] 0)).objs.size=J at *
 have hDJ:s.heap.objs.size≠J:=by rw[hsz1];exact a8 (cL _)
 have hSJ:S≠J:=by rw[hsz1];exact a8 (cm hSlt)
 have hS0:((s.heap.push (seqObj "list" #[] 0)).push { cls:=.type "set_iterator",data:=.fields #[.int 0 0,.int 0 0,.ref S,.int es.size 0,.int ep 0] }).get? S=some o:=ac _ ho'
 have hD0:((s.heap.push (seqObj "list" #[] 0)).push { cls:=.type "set_iterator",data:=.fields #[.int 0 0,.int 0 0,.ref S,.int es.size 0,.int ep 0] }).get? s.heap.objs.size=some { cls:=.type "list",data:=.seq #[] }:=ac _ (ay _ rfl)
 have hJ0:((s.heap.push (seqObj "list" #[] 0)).push { cls:=.type "set_iterator",data:=.fields #[.int 0 0,.int 0 0,.ref S,.int es.size 0,.int ep 0] }).get? J=some { cls:=.type "set_iterator",data:=.fields #[.int 0 0,.int 0 0,.ref S,.int es.size 0,.int ep 0] }:=by
  rw[← hI];exact ay _ rfl
 refine aa (aR (zjy hS0 hex.1 ?_))
 refine dU (fun uA=>?_) (fun hab=>absurd (by decide +kernel) hab)
 refine aa (cI ?_)
 refine aa ?_
 show wpAny _ _ (updateSeq s.heap.objs.size (·.push .none) >>= fun uA=>updateSeq s.heap.objs.size (·.pop)) _ _ _
 refine aa (wpAny_updateSeq hD0 rfl ?_)
 have hD2:=bn (Obj.mapSeq (·.push Value.none)) hD0 rfl
 refine wpAny_updateSeq (hz:=by seq_fits) hD2 rfl ?_
 have hD3:=bn (Obj.mapSeq (·.pop)) hD2 rfl
 have oth:∀ b o',b≠s.heap.objs.size→((s.heap.push (seqObj "list" #[] 0)).push { cls:=.type "set_iterator",data:=.fields #[.int 0 0,.int 0 0,.ref S,.int es.size 0,.int ep 0] }).get? b=some o' →
  ((((s.heap.push (seqObj "list" #[] 0)).push { cls:=.type "set_iterator",data:=.fields #[.int 0 0,.int 0 0,.ref S,.int es.size 0,.int ep 0] }).update s.heap.objs.size (Obj.mapSeq (·.push Value.none))).update s.heap.objs.size (Obj.mapSeq (·.pop))).get? b=some o':=fun b o' hb e=>
  (cu _ _ (Ne.symm hb)).trans ((cu _ _ (Ne.symm hb)).trans e)
 have W:=(SetIt.walks (prog:=prog) (w:=w) (A:=A.in1) (S:=S) (I:=J) (es:=es) (ep:=ep) hh f h1 hSJ).toS
 have hpos:posAt w L 0=0:=by unfold posAt;split <;> rfl
 refine ab ⟨plainId_quiet PySem.F.plain_extend_loop _,codeAny_extend_loopS W (by rw[bO];have:=f.len;lia) s.heap.objs.size (by simp only[af,cM,or_false,not_or];exact⟨hDJ,cK hSlt⟩) _ L.length 0 _ #[] _ rfl (be _)
  ⟨⟨o,oth S o (a8 hSlt) hS0,hex,hd⟩,_,oth J _ (Ne.symm hDJ) hJ0,rfl,by rw[hpos];rfl⟩ hD3 (ItemsOf.nil _) fun s' acc' c' hm hS' hacc=>?_⟩
 show wpAny (model prog w) A (do
  let o ← load s.heap.objs.size
  match o.data with
  | .seq xs _=>pure xs.toList
  | _=>unsupported "internal:collect") Q E s'
 refine aa (wpAny_load hS' ?_)
 refine ab ?_
 rw[Moved.eq_with hm]
 have hout:acc'.toList=(xu w S ep es).map (·.2):=by
  refine List.ext_getElem? fun i=>?_
  rw[aP,aT]
  cases he:acc'[i]? with
  | none=>
    have:(xu w S ep es)[i]?=none:=by
     rw[List.getElem?_eq_none_iff,hlen,← hacc.1]
     exact Array.getElem?_eq_none_iff.mp he
    rw[this];rfl
  | some v=>
    refine eV (hacc.2 i v he) ?_;intro e h2 h3
    rw[h2,h3];rfl
 rw[hout]
 refine hQ s'.heap s'.toks fun b o' e=>?_
 have hb:=aX e
 refine hm.heap b o' (fun hmem=>?_) (oth b o' (a8 hb) (ac _ (ac _ e)))
 refine eS (af.mp hmem) ?_ ?_
 ·intro q;exact a8 hb q
 ·intro hmem;have q:=ae.mp hmem
  rw[q,hsz1] at hb
  exact absurd hb (cT.mpr (cJ _))
end
section
variable{prog:Program}{w:World}{A:Around}{E:Value→Shared→Prop}{s:Shared}{S:Addr}{L:List Int}
theorem j8:∀ (l:List (Int×Value)),(∀ e∈l,∃ t,e.2=.int e.1 t)→IntsAre (l.map (·.2)) (l.map (·.1))
 | [],_=>.nil
 | e::l,h=>by
   refine eZ (h e am) ?_;intro t ht
   rw[a9,a9,ht]
   exact .cons _ _ (j8 l fun e he=>h e (ag _ he))
theorem readsAll_ints{h:Heap}:∀ {vs:List Value} {ns:List Int},IntsAre vs ns→ReadsAll h vs (ns.map .int) []
 | _,_,.nil=>.nil
 | _,_,.cons n t r=>ReadsAll.cons (as:=[]) (bs:=[]) (.int n t) (readsAll_ints r)
theorem zec{Q:Value→Shared→Prop}(hh:A.handled=none)(f:Few L 4)(hS:SmallSet s.heap S L (!w.params.followText "set-order"))
 (h:∀ D h' tk c out,s.heap.get? D=none→(∀ b o,s.heap.get? b=some o→h'.get? b=some o)→h'.get? D=some (seqObj "list" out c)→IntsAre out.toList L→Q (.ref D) { s with heap:=h',toks:=tk }) :
 wpAny (model prog w) A (call (.builtin "sorted") [.ref S]) Q E s:=by
 refine fC hS ?_;clear hS;intro o es ep ho hex hd h1 h2
 have hpl:(xu w S ep es).Perm es.toList:=ordOf_perm
 have hint:=j8 (xu w S ep es) fun e he=>h2 e (hpl.mem_iff.mp he)
 have hlen:((xu w S ep es).map (·.2)).length=L.length:=by rw[aG,hpl.length_eq,← h1,aG]
 have hl4:=f.len
 refine Calls.call_function_entry kind_sorted plain_sorted entry_sorted (args_sorted1 _) ?_
 unfold Builtin.«sorted»
 refine aa (m:=checkCount "sorted" 1 1 _) (ab ?_)
 refine aa (zdq (A:=A.in1) hh f h1 ⟨o,ho,hex,hd⟩ fun h₁ tk₁ hk₁=>?_)
 refine aa (wpAny_newList ?_ (by rw[hlen,bO];lia))
 have hoL:(h₁.push (seqObj "list" ((xu w S ep es).map (·.2)).toArray 0)).get? h₁.objs.size=some (seqObj "list" ((xu w S ep es).map (·.2)).toArray 0):=ay _ rfl
 have hDn:s.heap.get? h₁.objs.size=none:=by
  cases e:s.heap.get? h₁.objs.size with
  | none=>rfl
  | some o'=>exact absurd (aX (hk₁ _ _ e)) (cS _)
 refine aa (aR (aZ slot_list_sort ⟨_,hoL,rfl⟩ entry_list_sort (list_sort_tree hoL hint (by rw[hlen];lia) fun out ns' a1 a2 a3=>⟨_,rfl,?_⟩) (args_list_sort _)))
 obtain⟨k1,c,k2⟩:=w8 (out:=out.toList) hoL
 have e1:out.toList.toArray=out:=by simp
 rw[e1] at k1 k2
 have hup:L.Pairwise (·≤·):=f.up.imp fun h=>Int.le_of_lt h
 have hns:ns'=L:=ksm_same (a2.trans (by rw[← h1];exact hpl.map _)) a3 hup
 subst hns
 refine ab ⟨_,rfl,h _ _ _ c out hDn (fun b o' e=>?_) k2 a1⟩
 have hne:b≠h₁.objs.size:=fun q=>by rw[q,hDn] at e;exfalso;injection e
 exact k1 b o' hne (ac _ (hk₁ b o' e))
end
theorem qz(is:List Int):upTo is is.length=xw is:=by unfold upTo xw;rw[bE]
theorem zor{G:Gl}{P:Pg}:zd1 G P:=by
 intro _ A F s β ρ O v xs is k ro hh sr rv hi hsm
 obtain⟨a,o,vs,n,rfl,h1,h2,h3,as,h4,h5⟩:=rv.tuple_inv
 unfold small at hsm
 simp only[aD,aO,aU] at hsm
 refine fb hsm ?_;clear hsm;intro h4' hr
 have hr':∀ x∈is,0≤x∧x < 5:=fun x hx=>hr x hx
 have hIs:=ints_get h4 hi
 have few:=vp hr' is.length
 have few4:Few (upTo is is.length) 4:=⟨few.up,few.lo,aq few.len h4'⟩
 have hT:s.heap.IsTuple a vs:=⟨o,h1,h2,n,h3⟩
 refine⟨LeafD.leaf sr fun Q E kk=>?_,LeafD.leaf sr fun Q E kk=>?_⟩
 ·refine k8 hh hT hIs hr' h4' fun h' tk hS hk=>?_
  refine fC hS ?_;clear hS;intro o' es ep ho hex hd g1 g2
  have hsz:es.size=(upTo is is.length).length:=by rw[← av,← g1,aG]
  have hf:(tabOf (upTo is is.length) (!G.w.params.followText "set-order")).fits es.size=true:=by
   rw[hsz];have:=few4.len;simp[tabOf,SetTable.fits,SetTable.fill];lia
  refine call_len_set (s:={ s with heap:=h',toks:=tk }) ho hex hd hf (by rw[hsz];have:=few4.len;lia) ?_
  refine kk _ _ (yu hk) ⟨?_,fun uA h=>by injection h with eQ;exfalso;injection eQ⟩
  rw[hsz,qz]
  exact VR.int
 ·refine k8 hh hT hIs hr' h4' fun h' tk hS hk=>?_
  refine zec (s:={ s with heap:=h',toks:=tk }) hh few4 hS fun D h'' tk'' c out hDn hk' hD hout=>?_
  have hkk:∀ b o,s.heap.get? b=some o→h''.get? b=some o:=fun b o e=>hk' b o (hk b o e)
  have hDs:s.heap.get? D=none:=by
   cases e:s.heap.get? D with
   | none=>rfl
   | some o'=>have:=hk D o' e;rw[hDn] at this;exfalso;injection this
  have hDβ:D∉β∧D∉F.B:=⟨fun hm=>(by refine eV (sr.br.alive D hm) ?_;intro o e _;rw[hDs] at e;exfalso;injection e),fun hm=>(by refine eV (sr.fm.stor D hm) ?_;intro o e _;rw[hDs] at e;exfalso;injection e)⟩
  refine kk _ _ (yu hkk) ⟨?_,fun uA uA=>⟨D,rfl,hDs,_,hD,rfl,rfl⟩⟩
  rw[qz] at hout
  exact y5 hD rfl rfl (readsAll_ints hout) (fun uA h=>nomatch h) hDβ
end Mine
end
section
namespace Mine
open PySem
section
variable{prog:Program}{w:World}{K:Type}[DecidableEq K]
structure ItemKind(prog:Program)(w:World)(K:Type)[DecidableEq K] where
 is:Heap→K→Value→Prop
 hash:K→Int
 draws:K→Nat
 room:Around→Prop
 dep:Nat
 inj:∀ {h:Heap} {v:Value} {x y:K},is h x v→is h y v→x=y
 keeps:∀ {h h':Heap} {k:K} {v:Value} {d:Addr} {o:Obj} {es ep},is h k v→h.get? d=some o→o.data=.dict es ep→Heap.SameBut d h h'→is h' k v
 pyHash:∀ {A:Around} {E:Value→Shared→Prop} {s:Shared} {k:K} {v:Value} {Q:Int→Shared→Prop},room A→is s.heap k v→Q (hash k) { s with toks:=s.toks+draws k }→wpAny (model prog w) A (PySem.pyHash v) Q E s
 eqBool:∀ {A:Around} {E:Value→Shared→Prop} {s:Shared} {x y:K} {u v:Value} {Q:Bool→Shared→Prop},room A→is s.heap x u→is s.heap y v→Q (decide (x=y)) s→wpAny (model prog w) A (PySem.eqBool u v) Q E s
 quiet:∀ {A:Around} {E:Value→Shared→Prop} {s:Shared} {k:K} {v:Value} {n:Nat} {Q:Bool→Shared→Prop},dep≤n→is s.heap k v→Q true s→wpAny (model prog w) A (eqIsQuiet n v) Q E s
inductive ItemsK(ik:ItemKind prog w K)(h:Heap):List K→List Value→Prop
 | nil:ItemsK ik h [] []
 | cons {k:K} {v:Value} {ks:List K} {vs:List Value}:ik.is h k v→ItemsK ik h ks vs→ItemsK ik h (k::ks) (v::vs)
noncomputable def IsTupK(ik:ItemKind prog w K)(h:Heap)(ks:List K)(a:Addr):Prop:=∃ o items n,h.get? a=some o∧o.cls=.type "tuple"∧o.data=.seq items n∧ItemsK ik h ks items.toList
variable{ik:ItemKind prog w K}
theorem ItemsK.inj{h:Heap}{x y:List K}{vs:List Value}(hx:ItemsK ik h x vs)(hy:ItemsK ik h y vs):x=y:=by
 induction hx generalizing y with
 | nil=>cases hy;rfl
 | cons h1 _ ih=>
   cases hy with
   | cons h2 t2=>rw[ik.inj h1 h2,ih t2]
theorem ItemsK.length{h:Heap}{x:List K}{vs:List Value}(hx:ItemsK ik h x vs):x.length=vs.length:=by
 induction hx with
 | nil=>rfl
 | cons _ _ ih=>simp[ih]
theorem ItemsK.keeps{h h':Heap}{x:List K}{vs:List Value}{d:Addr}{o:Obj}{es ep}(hx:ItemsK ik h x vs)(ho:h.get? d=some o)(hd:o.data=.dict es ep)(hs:Heap.SameBut d h h'):ItemsK ik h' x vs:=by
 induction hx with
 | nil=>exact .nil
 | cons h1 _ ih=>exact .cons (ik.keeps h1 ho hd hs) ih
theorem IsTupK.typeIs{s:Shared}{ks:List K}{a:Addr}(x:IsTupK ik s.heap ks a):s.TypeIs (.ref a) "tuple":=let ⟨o,_,_,ho,hc,_⟩:=x;⟨o,ho,hc⟩
theorem IsTupK.inj{h:Heap}{a:Addr}{x y:List K}(hx:IsTupK ik h x a)(hy:IsTupK ik h y a):x=y:=by
 refine eX hx ?_;clear hx;intro o items n ho _ hd hi
 refine eX hy ?_;clear hy;intro o' items' n' ho' _ hd' hi'
 obtain rfl:o=o':=aM (ho.symm.trans ho')
 rw[hd] at hd'
 injection hd' with h1 _
 subst h1
 exact hi.inj hi'
theorem IsTupK.keeps{h h':Heap}{ks:List K}{a d:Addr}{o:Obj}{es ep}(x:IsTupK ik h ks a)(ho:h.get? d=some o)(hd:o.data=.dict es ep)(hs:Heap.SameBut d h h'):IsTupK ik h' ks a:=by
 refine eX x ?_;clear x;intro o' items n ho' hc hd' hi
 have hne:a≠d:=by
  rintro rfl
  obtain rfl:o'=o:=aM (ho'.symm.trans ho)
  rw[hd] at hd';exact nomatch hd'
 exact eY o' items n ((hs.2 a hne).trans ho') hc hd' (hi.keeps ho hd hs)
variable(ik) in
noncomputable def zd8(ks:List K):Int:=reduceHash (Builtin.Tuple.tupleHashOf (ks.map ik.hash))
variable(ik) in
noncomputable def zbm(ks:List K):Nat:=(ks.map ik.draws).sum+1
variable{A:Around}{E:Value→Shared→Prop}{s:Shared}
theorem zhi{ks:List K}{a:Addr}{Q:Int→Shared→Prop}(hu:A.units < cLine)(hr:ik.room A.in1)(hk:IsTupK ik s.heap ks a)(h:Q (zd8 ik ks) { s with toks:=s.toks+zbm ik ks }) :
 wpAny (model prog w) A (pyHash (.ref a)) Q E s:=by
 have hT:=hk.typeIs
 refine eX hk ?_;clear hk;intro o items n ho _ hd hi
 unfold pyHash
 unfold pyHashByItsType
 refine aa (wpAny_cRoomFor_or (.inr hu) ?_)
 refine aa (bM hT F.slot_tuple_hash.lookup ?_)
 show wpAny _ _ (if (some (Value.builtin "tuple.__hash__") == some Value.none)=true then _ else _) Q E s
 rw[ai (by rw[beq_builtin_none];exact ak)]
 refine aa (bM hT F.slot_tuple_hash.lookup ?_)
 show wpAny _ _ (callSpecialIfBoundUnlessNone? (.ref a) "__hash__" _ >>= _) Q E s
 refine aa (wpAny_callSpecialIfBoundUnlessNone?_slot hT F.slot_tuple_hash (aZ F.slot_tuple_hash hT F.entry_tuple_hash ?_ (F.args_tuple_hash_1 _)))
 show wpAny _ _ (Builtin.Tuple.tupleItemsOf (.ref a) >>= _) _ _ s
 refine aa (bF ho hd ?_)
 refine aa ?_
 rw[← cy]
 refine bA _
  (fun rest (b:Array Int) s'=>∃ done left,ks=done++left∧ItemsK ik s.heap left rest∧b.toList=done.map ik.hash∧s' = { s with toks:=s.toks+(done.map ik.draws).sum })
  _ ?_ ?_ _ _ ⟨[],ks,rfl,hi,rfl,rfl⟩
 ·rintro x rest b s' ⟨done,left,rfl,hl,hb,rfl⟩
  cases hl with
  | @cons k _ ks' _ h1 hl'=>
    refine aa (ik.pyHash (s:={ s with toks:=s.toks+(done.map ik.draws).sum }) hr h1 ?_)
    first
     | exact ab ⟨done++[k],ks',by simp,hl',by simp[hb],by simp[cB]⟩
     | exact aa (ab (ab ⟨done++[k],ks',by simp,hl',by simp[hb],by simp[cB]⟩))
 ·rintro b s' ⟨done,left,rfl,hl,hb,rfl⟩
  cases hl
  rw[ba] at h
  show wpAny _ _ (retInt (Builtin.Tuple.tupleHashOf b.toList)) _ _ _
  rw[hb]
  refine wpAny_ret_mkInt ?_
  show wpAny _ _ (if (decide (-(2:Int) ^ 63≤Builtin.Tuple.tupleHashOf (done.map ik.hash)) && decide (Builtin.Tuple.tupleHashOf (done.map ik.hash) < 2 ^ 63))=true then _ else _) Q E _
  unfold zd8 reduceHash at h
  unfold zbm at h
  by_cases hr:(decide (-(2:Int) ^ 63≤Builtin.Tuple.tupleHashOf (done.map ik.hash)) && decide (Builtin.Tuple.tupleHashOf (done.map ik.hash) < 2 ^ 63))=true
  ·rw[ah hr]
   rw[ah hr] at h
   exact ab (by simpa [cB] using h)
  ·rw[ai hr]
   rw[ai hr] at h
   exact aa (cI (ab (by simpa [cB] using h)))
theorem zka{x y:List K}{a b:Addr}{P:Fin→Shared→Prop}(hr:ik.room A)(hx:IsTupK ik s.heap x a)(hy:IsTupK ik s.heap y b)(h:P (.done (.ret (.bool (decide (x=y))))) s) :
 wpAny (model prog w) A (Builtin.«tuple.__eq__» ⟨[.ref a,.ref b],[]⟩) P E s:=by
 have hTb:=hy.typeIs
 refine eX hx ?_;clear hx;intro oa xs na hoa _ hda hia
 refine eX hy ?_;clear hy;intro ob ys nb hob _ hdb hib
 show wpAny _ _ (isInstance (.ref b) (.type "tuple") >>= _) _ _ s
 refine aa (bR hTb cz ?_)
 simp only[bp,aN,bu]
 refine aa (bF hoa hda ?_)
 refine aa (bF hob hdb ?_)
 refine aa ?_
 refine bA _
  (fun rest r s'=>r.1=none∧s'=s∧∃ x' y' xs' ys',rest=List.zip xs' ys'∧ItemsK ik s.heap x' xs'∧ItemsK ik s.heap y' ys'∧decide (x'=y')=decide (x=y)∧(xs'.length == ys'.length)=(xs.size == ys.size))
  _ ?_ ?_ _ _ ⟨rfl,rfl,x,y,xs.toList,ys.toList,rfl,hia,hib,rfl,by simp⟩
 ·rintro⟨u,v⟩ rest r s' ⟨hr',rfl,x',y',xs',ys',hz,hx',hy',hdec,hlen⟩
  cases hx' with
  | nil=>simp at hz
  | @cons k1 u' x'' xs'' h1 hx''=>
    cases hy' with
    | nil=>simp at hz
    | @cons k2 v' y'' ys'' h2 hy''=>
      simp only[List.zip_cons_cons,List.cons.injEq,Prod.mk.injEq] at hz
      refine fb hz ?_;clear hz;intro dW dX;refine fb dW ?_;clear dW;intro dW dX;subst dW;subst dX;subst dX
      refine aa (ik.eqBool (x:=k1) (y:=k2) hr h1 h2 ?_)
      by_cases hk:k1=k2
      ·subst hk
       rw[aH rfl]
       simp only[bp,aN,bu]
       refine ab ⟨rfl,rfl,x'',y'',xs'',ys'',rfl,hx'',hy'',?_,by simpa using hlen⟩
       rw[← hdec]
       by_cases hxy:x''=y''
       ·simp[hxy]
       ·simp[hxy]
      ·rw[aQ hk]
       simp only[Bool.not_false,if_true]
       have hf:decide (x=y)=false:=by rw[← hdec];simp[hk]
       rw[hf] at h
       exact aa (ab (ab (ab h)))
 ·rintro⟨r1,r2⟩ s' ⟨hr',rfl,x',y',xs',ys',hz,hx',hy',hdec,hlen⟩
  simp only at hr'
  subst hr'
  refine ab ?_
  have hfin:(xs.size == ys.size)=decide (x=y):=by
   rw[← hdec,← hlen]
   cases hx' with
   | nil=>
     cases hy' with
     | nil=>simp
     | cons _ _=>simp
   | cons _ _=>
     cases hy' with
     | nil=>simp
     | cons _ _=>simp at hz
  show P (.done (.ret (.bool (xs.size == ys.size)))) s'
  rw[hfin];exact h
theorem zms{x y:List K}{a b:Addr}{Q:Bool→Shared→Prop}(hu:A.units < cLine)(hr:ik.room A.in1)(hx:IsTupK ik s.heap x a)(hy:IsTupK ik s.heap y b)(h:Q (decide (x=y)) s) :
 wpAny (model prog w) A (eqBool (.ref a) (.ref b)) Q E s:=by
 unfold eqBool
 try with_reducible refine aR ?_
 show wpAny _ _ (if (Value.ref a == Value.ref b)=true then _ else _) Q E s
 by_cases hab:(Value.ref a == Value.ref b)=true
 ·rw[ah hab]
  have e:a=b:=by have:=eq_of_beq hab;injection this
  subst e
  obtain rfl:=hx.inj hy
  exact aa (cI (ab (by simpa using h)))
 ·rw[ai hab]
  exact aa (dE (op:=.Eq) hx.typeIs hy.typeIs F.slot_tuple_eq
   (aZ F.slot_tuple_eq hx.typeIs F.entry_tuple_eq (zka hr hx hy ⟨_,rfl,(fun e=>nomatch e),bJ h⟩) (F.args_tuple_eq_2 _ _)) hu)
theorem zep{ks:List K}{a:Addr}{n:Nat}{Q:Bool→Shared→Prop}(hn:ik.dep+1≤n)(hk:IsTupK ik s.heap ks a)(h:Q true s):wpAny (model prog w) A (eqIsQuiet n (.ref a)) Q E s:=by
 obtain⟨n,rfl⟩ : ∃ n',n=n' + 1:=⟨n - 1,by lia⟩
 have hT:=hk.typeIs
 refine eX hk ?_;clear hk;intro o items _ ho _ hd hi
 unfold eqIsQuiet
 refine aa (bM hT F.slot_tuple_eq.lookup ?_)
 show wpAny _ _ (isInstance (.ref a) (.type "tuple") >>= _) _ _ s
 refine aa (bR hT cz ?_)
 simp only[bp,aN,bu]
 refine aa (bB ho hd ?_)
 refine aa ?_
 show wpAny _ _ (forIn items _ _) _ _ s
 rw[← cy]
 refine bA _ (fun rest r s'=>r.1=none∧s'=s∧∃ ks',ItemsK ik s.heap ks' rest) _ ?_ ?_ _ _ ⟨rfl,rfl,ks,hi⟩
 ·rintro v rest r s' ⟨hr,rfl,ks',hall⟩
  cases hall with
  | cons h1 h2=>
    refine aa (ik.quiet (by exact Nat.le_of_lt_succ (by assumption)) h1 ?_)
    simp only[bp,aN,bu]
    exact ab ⟨rfl,rfl,_,h2⟩
 ·rintro⟨r1,r2⟩ s' ⟨hr,rfl,_⟩
  simp only at hr
  subst hr
  exact ab h
end
section
variable{prog:Program}{w:World}{K:Type}[DecidableEq K]
noncomputable def pw(ik:ItemKind prog w K):ItemKind prog w (List K) where
 is:=fun h ks v=>∃ a,v=.ref a∧IsTupK ik h ks a
 hash:=zd8 ik
 draws:=zbm ik
 room:=fun A=>A.units < cLine∧ik.room A.in1
 dep:=ik.dep+1
 inj:=fun ⟨a,e,h1⟩ ⟨b,e',h2⟩=>by subst e;injection e' with eQ;subst eQ;exact h1.inj h2
 keeps:=fun ⟨a,e,h1⟩ ho hd hs=>⟨a,e,h1.keeps ho hd hs⟩
 pyHash:=fun ⟨hu,hr⟩ ⟨a,e,h1⟩ h=>by subst e;exact zhi hu hr h1 h
 eqBool:=fun ⟨hu,hr⟩ ⟨a,e,h1⟩ ⟨b,e',h2⟩ h=>by subst e;subst e';exact zms hu hr h1 h2 h
 quiet:=fun hn ⟨a,e,h1⟩ h=>by subst e;exact zep hn h1 h
noncomputable def qo:ItemKind prog w Int where
 is:=fun uA i v=>(intKind prog w).is i v=true
 hash:=(intKind prog w).hash
 draws:=fun uA=>1
 room:=fun uA=>True
 dep:=0
 inj:=fun h1 h2=>(intKind prog w).inj _ _ _ h1 h2
 keeps:=fun h uA uA uA=>h
 pyHash:=fun uA h1 h=>(intKind prog w).pyHash h1 h
 eqBool:=fun uA h1 h2 h=>(intKind prog w).eqBool h1 h2 h
 quiet:=fun uA h1 h=>by rw[eqIsQuiet_byValue _ ((intKind prog w).byValue _ _ h1)];exact ab h
noncomputable def IsPairK{K':Type}[DecidableEq K'](ik:ItemKind prog w K)(jk:ItemKind prog w K')(h:Heap)(k:K×K')(a:Addr):Prop:=∃ o x y n,h.get? a=some o∧o.cls=.type "tuple"∧o.data=.seq #[x,y] n∧ik.is h k.1 x∧jk.is h k.2 y
variable{K':Type}[DecidableEq K']{ik:ItemKind prog w K}{jk:ItemKind prog w K'}{A:Around}{E:Value→Shared→Prop}{s:Shared}
theorem IsPairK.typeIs{k:K×K'}{a:Addr}(x:IsPairK ik jk s.heap k a):s.TypeIs (.ref a) "tuple":=let ⟨o,_,_,_,ho,hc,_⟩:=x;⟨o,ho,hc⟩
theorem IsPairK.inj{h:Heap}{a:Addr}{x y:K×K'}(hx:IsPairK ik jk h x a)(hy:IsPairK ik jk h y a):x=y:=by
 refine fi hx ?_;clear hx;intro o u v n ho eg;refine fw eg ?_;clear eg;intro _ hd h1 h2
 refine fi hy ?_;clear hy;intro o' u' v' n' ho' eg;refine fw eg ?_;clear eg;intro _ hd' h1' h2'
 obtain rfl:o=o':=aM (ho.symm.trans ho')
 rw[hd] at hd'
 injection hd' with eQ eR;injection eQ with eQ;injection eQ with eQ eR;subst eQ;injection eR with eQ eR;subst eQ;cases eR;subst eR
 exact Prod.ext (ik.inj h1 h1') (jk.inj h2 h2')
theorem IsPairK.keeps{h h':Heap}{k:K×K'}{a d:Addr}{o:Obj}{es ep}(x:IsPairK ik jk h k a)(ho:h.get? d=some o)(hd:o.data=.dict es ep)(hs:Heap.SameBut d h h'):IsPairK ik jk h' k a:=by
 refine fi x ?_;clear x;intro o' u v n ho' eg;refine fw eg ?_;clear eg;intro hc hd' h1 h2
 have hne:a≠d:=by
  rintro rfl
  obtain rfl:o'=o:=aM (ho'.symm.trans ho)
  rw[hd] at hd';exact nomatch hd'
 exact⟨o',u,v,n,(hs.2 a hne).trans ho',hc,hd',ik.keeps h1 ho hd hs,jk.keeps h2 ho hd hs⟩
variable(ik jk) in
noncomputable def zer(k:K×K'):Int:=reduceHash (Builtin.Tuple.tupleHashOf [ik.hash k.1,jk.hash k.2])
variable(ik jk) in
noncomputable def zbt(k:K×K'):Nat:=ik.draws k.1+jk.draws k.2+1
theorem ze8{k:K×K'}{a:Addr}{Q:Int→Shared→Prop}(hu:A.units < cLine)(hr:ik.room A.in1)(hr':jk.room A.in1)(hk:IsPairK ik jk s.heap k a)(h:Q (zer ik jk k) { s with toks:=s.toks+zbt ik jk k }) :
 wpAny (model prog w) A (pyHash (.ref a)) Q E s:=by
 have hT:=hk.typeIs
 refine fi hk ?_;clear hk;intro o x y n ho eg;refine fw eg ?_;clear eg;intro _ hd h1 h2
 unfold pyHash
 unfold pyHashByItsType
 refine aa (wpAny_cRoomFor_or (.inr hu) ?_)
 refine aa (bM hT F.slot_tuple_hash.lookup ?_)
 show wpAny _ _ (if (some (Value.builtin "tuple.__hash__") == some Value.none)=true then _ else _) Q E s
 rw[ai (by rw[beq_builtin_none];exact ak)]
 refine aa (bM hT F.slot_tuple_hash.lookup ?_)
 show wpAny _ _ (callSpecialIfBoundUnlessNone? (.ref a) "__hash__" _ >>= _) Q E s
 refine aa (wpAny_callSpecialIfBoundUnlessNone?_slot hT F.slot_tuple_hash (aZ F.slot_tuple_hash hT F.entry_tuple_hash ?_ (F.args_tuple_hash_1 _)))
 show wpAny _ _ (Builtin.Tuple.tupleItemsOf (.ref a) >>= _) _ _ s
 refine aa (bF ho hd ?_)
 refine aa ?_
 rw[← cy]
 refine bA _
  (fun rest (b:Array Int) s'=>(rest=[x,y]∧b = #[]∧s'=s)∨(rest=[y]∧b = #[ik.hash k.1]∧s' = { s with toks:=s.toks+ik.draws k.1 }) ∨
    (rest=[]∧b = #[ik.hash k.1,jk.hash k.2]∧s' = { s with toks:=s.toks+ik.draws k.1+jk.draws k.2 }))
  _ ?_ ?_ _ _ (.inl ⟨rfl,rfl,rfl⟩)
 ·rintro v rest b s' (⟨hr1,rfl,rfl⟩ | ⟨hr1,rfl,rfl⟩ | ⟨hr1,_⟩)
  ·injection hr1 with eQ eR;subst eQ eR
   refine aa (ik.pyHash hr h1 ?_)
   first
    | exact ab (.inr (.inl ⟨rfl,rfl,rfl⟩))
    | exact aa (ab (ab (.inr (.inl ⟨rfl,rfl,rfl⟩))))
  ·injection hr1 with eQ eR;subst eQ eR
   refine aa (jk.pyHash (s:={ s with toks:=s.toks+ik.draws k.1 }) hr' h2 ?_)
   first
    | exact ab (.inr (.inr ⟨rfl,rfl,rfl⟩))
    | exact aa (ab (ab (.inr (.inr ⟨rfl,rfl,rfl⟩))))
  ·exfalso;injection hr1
 ·rintro b s' (⟨hr1,_⟩ | ⟨hr1,_⟩ | ⟨_,rfl,rfl⟩)
  ·exfalso;injection hr1
  ·exfalso;injection hr1
  ·show wpAny _ _ (retInt (Builtin.Tuple.tupleHashOf [ik.hash k.1,jk.hash k.2])) _ _ _
   refine wpAny_ret_mkInt ?_
   show wpAny _ _ (if (decide (-(2:Int) ^ 63≤Builtin.Tuple.tupleHashOf [ik.hash k.1,jk.hash k.2]) && decide (Builtin.Tuple.tupleHashOf [ik.hash k.1,jk.hash k.2] < 2 ^ 63))=true then _ else _) Q E _
   unfold zer reduceHash at h
   unfold zbt at h
   by_cases hr:(decide (-(2:Int) ^ 63≤Builtin.Tuple.tupleHashOf [ik.hash k.1,jk.hash k.2]) && decide (Builtin.Tuple.tupleHashOf [ik.hash k.1,jk.hash k.2] < 2 ^ 63))=true
   ·rw[ah hr]
    rw[ah hr] at h
    exact ab (by simpa [cB] using h)
   ·rw[ai hr]
    rw[ai hr] at h
    exact aa (cI (ab (by simpa [cB] using h)))
theorem zj9{x y:K×K'}{a b:Addr}{P:Fin→Shared→Prop}(hr:ik.room A)(hr':jk.room A)(hx:IsPairK ik jk s.heap x a)(hy:IsPairK ik jk s.heap y b)(h:P (.done (.ret (.bool (decide (x=y))))) s) :
 wpAny (model prog w) A (Builtin.«tuple.__eq__» ⟨[.ref a,.ref b],[]⟩) P E s:=by
 have hTb:=hy.typeIs
 refine fi hx ?_;clear hx;intro oa u v na hoa eg;refine fw eg ?_;clear eg;intro _ hda i1 i2
 refine fi hy ?_;clear hy;intro ob u' v' nb hob eg;refine fw eg ?_;clear eg;intro _ hdb j1 j2
 show wpAny _ _ (isInstance (.ref b) (.type "tuple") >>= _) _ _ s
 refine aa (bR hTb cz ?_)
 simp only[bp,aN,bu]
 refine aa (bF hoa hda ?_)
 refine aa (bF hob hdb ?_)
 refine aa ?_
 refine bA _
  (fun rest r s'=>r.1=none∧s'=s∧(rest=[(u,u'),(v,v')]∨(rest=[(v,v')]∧x.1=y.1)∨(rest=[]∧x=y))) _ ?_ ?_ _ _ ⟨rfl,rfl,.inl rfl⟩
 ·rintro⟨p,q⟩ rest r s' ⟨hr1,rfl,hz | ⟨hz,e1⟩ | ⟨hz,_⟩⟩
  ·injection hz with eQ eR;injection eQ with eQ eR;subst eQ eR;subst eR
   refine aa (ik.eqBool (x:=x.1) (y:=y.1) hr i1 j1 ?_)
   by_cases hk:x.1=y.1
   ·rw[aH hk]
    simp only[bp,aN,bu]
    exact ab ⟨rfl,rfl,by simp[hk]⟩
   ·rw[aQ hk]
    simp only[Bool.not_false,if_true]
    have hf:decide (x=y)=false:=aQ fun e=>hk (by rw[e])
    rw[hf] at h
    exact aa (ab (ab (ab h)))
  ·injection hz with eQ eR;injection eQ with eQ eR;subst eQ eR;subst eR
   refine aa (jk.eqBool (x:=x.2) (y:=y.2) hr' i2 j2 ?_)
   by_cases hk:x.2=y.2
   ·rw[aH hk]
    simp only[bp,aN,bu]
    exact ab ⟨rfl,rfl,by simp[Prod.ext e1 hk]⟩
   ·rw[aQ hk]
    simp only[Bool.not_false,if_true]
    have hf:decide (x=y)=false:=aQ fun e=>hk (by rw[e])
    rw[hf] at h
    exact aa (ab (ab (ab h)))
  ·exfalso;injection hz
 ·rintro⟨r1,r2⟩ s' ⟨hr1,rfl,hz | ⟨hz,_⟩ | ⟨_,e⟩⟩
  ·exfalso;injection hz
  ·exfalso;injection hz
  ·simp only at hr1
   subst hr1
   refine ab ?_
   rw[aH e] at h
   exact h
theorem zkb{x y:K×K'}{a b:Addr}{Q:Bool→Shared→Prop}(hu:A.units < cLine)(hr:ik.room A.in1)(hr':jk.room A.in1)(hx:IsPairK ik jk s.heap x a)(hy:IsPairK ik jk s.heap y b)(h:Q (decide (x=y)) s) :
 wpAny (model prog w) A (eqBool (.ref a) (.ref b)) Q E s:=by
 unfold eqBool
 try with_reducible refine aR ?_
 show wpAny _ _ (if (Value.ref a == Value.ref b)=true then _ else _) Q E s
 by_cases hab:(Value.ref a == Value.ref b)=true
 ·rw[ah hab]
  have e:a=b:=by have:=eq_of_beq hab;injection this
  subst e
  obtain rfl:=hx.inj hy
  exact aa (cI (ab (by simpa using h)))
 ·rw[ai hab]
  exact aa (dE (op:=.Eq) hx.typeIs hy.typeIs F.slot_tuple_eq
   (aZ F.slot_tuple_eq hx.typeIs F.entry_tuple_eq (zj9 hr hr' hx hy ⟨_,rfl,(fun e=>nomatch e),bJ h⟩) (F.args_tuple_eq_2 _ _)) hu)
theorem zcr{k:K×K'}{a:Addr}{n:Nat}{Q:Bool→Shared→Prop}(hn:ik.dep+1≤n)(hn':jk.dep+1≤n)(hk:IsPairK ik jk s.heap k a)(h:Q true s):wpAny (model prog w) A (eqIsQuiet n (.ref a)) Q E s:=by
 obtain⟨n,rfl⟩ : ∃ n',n=n' + 1:=⟨n - 1,by lia⟩
 have hT:=hk.typeIs
 refine fi hk ?_;clear hk;intro o x y _ ho eg;refine fw eg ?_;clear eg;intro _ hd h1 h2
 unfold eqIsQuiet
 refine aa (bM hT F.slot_tuple_eq.lookup ?_)
 show wpAny _ _ (isInstance (.ref a) (.type "tuple") >>= _) _ _ s
 refine aa (bR hT cz ?_)
 simp only[bp,aN,bu]
 refine aa (bB ho hd ?_)
 refine aa ?_
 show wpAny _ _ (forIn #[x,y] _ _) _ _ s
 rw[← cy]
 refine bA _ (fun rest r s'=>r.1=none∧s'=s∧(rest=[x,y]∨rest=[y]∨rest=[])) _ ?_ ?_ _ _ ⟨rfl,rfl,.inl rfl⟩
 ·rintro v rest r s' ⟨hr,rfl,hz | hz | hz⟩
  ·injection hz with eQ eR;subst eQ eR
   refine aa (ik.quiet (by exact Nat.le_of_lt_succ (by assumption)) h1 ?_)
   simp only[bp,aN,bu]
   exact ab ⟨rfl,rfl,by simp⟩
  ·injection hz with eQ eR;subst eQ eR
   refine aa (jk.quiet (by exact Nat.le_of_lt_succ (by assumption)) h2 ?_)
   simp only[bp,aN,bu]
   exact ab ⟨rfl,rfl,by simp⟩
  ·exfalso;injection hz
 ·rintro⟨r1,r2⟩ s' ⟨hr,rfl,_⟩
  simp only at hr
  subst hr
  exact ab h
noncomputable def zi0(ik:ItemKind prog w K)(jk:ItemKind prog w K')(hd:ik.dep≤7)(hd':jk.dep≤7):HeapKind prog w (K×K') where
 is:=IsPairK ik jk
 hash:=zer ik jk
 draws:=zbt ik jk
 room:=fun A=>A.units < cLine∧ik.room A.in1∧jk.room A.in1
 inj:=fun hx hy=>hx.inj hy
 keeps:=fun x ho hd hs=>x.keeps ho hd hs
 pyHash:=fun hu hk h=>ze8 hu.1 hu.2.1 hu.2.2 hk h
 eqBool:=fun hu hx hy h=>zkb hu.1 hu.2.1 hu.2.2 hx hy h
 quiet:=fun hk h=>zcr (by exact Nat.lt_succ_of_le (by assumption)) (by exact Nat.lt_succ_of_le (by assumption)) hk h
noncomputable def yh(prog:Program)(w:World):HeapKind prog w (List (List Int)×Int):=zi0 (pw (pw qo)) qo (show 2≤7 by decide) (show 0≤7 by decide)
end
end Mine
end
section
namespace Mine
open PySem PyProof.Rows
section
variable{prog:Program}{w:World}{h:Heap}
theorem int_is{v:Value}{i:Int}:(intKind prog w).is i v=true↔∃ t,v=.int i t:=by
 constructor
 ·intro e
  cases v with
  | int j t=>exact fe t (by have:=(intKind prog w).inj _ _ _ e (intKind_is _ _ j t);rw[this])
  | _=>exfalso;injection e
 ·rintro⟨t,rfl⟩;exact intKind_is _ _ _ _
theorem zaw:∀ {c:List Int} {vs:List Value} {as:List Addr},ReadsAll h vs (c.map .int) as→ItemsK (qo (prog:=prog) (w:=w)) h c vs
 | [],_,_,.nil=>.nil
 | _::_,_,_,.cons r rs=>by cases r;exact .cons (int_is.mpr ⟨_,rfl⟩) (zaw rs)
theorem items_int:∀ {c:List Int} {vs:List Value},ItemsK (qo (prog:=prog) (w:=w)) h c vs→ReadsAll h vs (c.map .int) []
 | _,_,.nil=>.nil
 | _,_,.cons r rs=>by refine eZ (int_is.mp r) ?_;intro t dX;subst dX;exact ReadsAll.cons (as:=[]) (bs:=[]) (.int _ t) (items_int rs)
theorem d7:∀ {c:List (List Int)} {vs:List Value} {as:List Addr},ReadsAll h vs (c.map fun c=>.tuple (c.map .int)) as→ItemsK (pw (qo (prog:=prog) (w:=w))) h c vs
 | [],_,_,.nil=>.nil
 | _::_,_,_,.cons r rs=>by
   cases r with
   | tuple h1 h2 h3 h4=>exact .cons ⟨_,rfl,_,_,_,h1,h2,h3,zaw h4⟩ (d7 rs)
theorem zau:∀ {c:List (List Int)} {vs:List Value},ItemsK (pw (qo (prog:=prog) (w:=w))) h c vs→ReadsAll h vs (c.map fun c=>.tuple (c.map .int)) []
 | _,_,.nil=>.nil
 | _,_,.cons r rs=>by
   refine eV r ?_;clear r;intro a dX dY;subst dX;refine eX dY ?_;clear dY;intro o its n h1 h2 h3 h4
   exact ReadsAll.cons (as:=[]) (bs:=[]) (.tuple h1 h2 h3 (items_int h4)) (zau rs)
theorem p8{k:MKey}{v:Value}{as:List Addr}(r:Reads h v (w1 k) as):∃ a,v=.ref a∧(yh prog w).is h k a:=by
 cases r with
 | @tuple a o vs n xs bs h1 h2 h3 h4=>
   refine eW a rfl ?_
   obtain⟨l⟩:=vs
   cases h4 with
   | cons r1 r2=>cases r2 with
     | cons r3 r4=>
       cases r4
       cases r1 with
       | tuple g1 g2 g3 g4=>
         cases r3 with
         | int i t=>exact⟨o,_,_,n,h1,h2,h3,⟨_,rfl,_,_,_,g1,g2,g3,d7 g4⟩,int_is.mpr ⟨t,rfl⟩⟩
theorem zev{k:MKey}{a:Addr}(r:(yh prog w).is h k a):Reads h (.ref a) (w1 k) []:=by
 refine fi r ?_;clear r;intro o x y n h1 eg;refine fw eg ?_;clear eg;intro h2 h3 dY h5;refine eV dY ?_;clear dY;intro b dX dY;subst dX;refine eX dY ?_;clear dY;intro o' its n' g1 g2 g3 g4
 refine eZ (int_is.mp h5) ?_;intro t dX;subst dX
 exact .tuple h1 h2 h3 (ReadsAll.cons (as:=[]) (bs:=[]) (.tuple g1 g2 g3 (zau g4)) (ReadsAll.cons (as:=[]) (bs:=[]) (.int _ t) .nil))
theorem zg6(k:MKey):(yh prog w).hash k=zny k:=rfl
noncomputable def wg(h:Heap)(N β:List Addr)(xs:List (MKey×Addr×Value))(kvs:List (MKey×PyData)):Prop:=
 xs.length=kvs.length∧∀ (i:Nat) x kv,xs[i]?=some x→kvs[i]?=some kv→x.1=kv.1∧∃ bs,Reads h x.2.2 kv.2 bs∧∀ b∈bs,b∉β∧b∉N
theorem zb6{N β:List Addr}{d:Addr}{kvs:List (MKey×PyData)}(hp:Plain h d)(hd:DictAt h N β d kvs):∃ xs,h.DictOfH (yh prog w) d xs∧wg h N β xs kvs:=by
 obtain⟨o,es,n,h1,h2,h3,⟨h4,hn⟩,h5⟩:=hd
 refine fj hp ?_;clear hp;intro o' h1' hd' hs'
 rw[h1] at h1';injection h1' with eQ;subst eQ
 have key:∀ (es:List DictEntry) (kvs:List (MKey×PyData)),es.length=kvs.length→(∀ (i:Nat) e kv,es[i]?=some e→kvs[i]?=some kv→zgr h N β e kv) →
  ∃ xs,es=xs.map (entryOfKey (yh prog w))∧(∀ x∈xs,(yh prog w).is h x.1 x.2.1)∧xs.map (·.1)=kvs.map (·.1)∧wg h N β xs kvs:=by
  intro es
  induction es with
  | nil=>
    intro kvs hl _
    cases kvs with
    | nil=>exact⟨[],rfl,fun uA h=>(nomatch h),rfl,rfl,fun i x kv hx=>by simp at hx⟩
    | cons _ _=>exfalso;injection hl
  | cons e es ih=>
    intro kvs hl hE
    cases kvs with
    | nil=>exfalso;injection hl
    | cons kv kvs=>
      refine fj (ih kvs (by simpa using hl) fun i e' kv' he hk=>hE (i+1) e' kv' (by simpa using he) (by simpa using hk)) ?_;intro xs e1 e2 dZ;refine fc dZ ?_;clear dZ;intro e3 e4 e5
      obtain⟨hq,as,bs,r1,r2,q⟩:=hE 0 e kv rfl rfl
      refine eV (p8 (prog:=prog) (w:=w) r1) ?_;intro a ha hk
      refine⟨(kv.1,a,e.val)::xs,?_,fun x hx=>?_,by simp[e3],by simp[e4],fun i x kv' hx hk'=>?_⟩
      ·rw[a9,← e1]
       congr 1
       obtain⟨eh,ek,ev⟩:=e
       dsimp only at ha hq
       subst ha;subst hq
       rfl
      ·refine eS (af.mp hx) ?_ ?_
       ·rintro rfl;exact hk
       ·intro hx;exact e2 x hx
      ·cases i with
       | zero=>
         simp at hx hk'
         subst hx;subst hk'
         exact⟨rfl,bs,r2,fun b hb=>q b (au _ hb)⟩
       | succ i=>exact e5 i x kv' (by simpa using hx) (by simpa using hk')
 refine fj (key es.toList kvs (by simpa using h4) fun i e kv he hk=>h5 i e kv (by simpa using he) hk) ?_;intro xs e1 e2 dZ;refine fb dZ ?_;clear dZ;intro e3 e4
 exact eW xs ⟨o,es,n,h1,⟨h2,hd',hs'⟩,h3,e1,e2,by rw[e3];exact hn⟩ e4
theorem zm3{N β:List Addr}{d:Addr}{xs:List (MKey×Addr×Value)}{kvs:List (MKey×PyData)}(hd:h.DictOfH (yh prog w) d xs)(hv:wg h N β xs kvs):DictAt h N β d kvs∧Plain h d:=by
 refine fC hd ?_;clear hd;intro o es n h1 ed h3 h4 ez;refine fc ed ?_;clear ed;intro h2 g1 g2;refine fb ez ?_;clear ez;intro h5 h6
 have hl:es.size=xs.length:=by rw[← av,h4,aG]
 refine⟨⟨o,es,n,h1,h2,h3,⟨hl.trans hv.1,?_⟩,fun i e kv he hk=>?_⟩,o,h1,g1,g2⟩
 ·have:kvs.map (·.1)=xs.map (·.1):=by
   refine List.ext_getElem? fun i=>?_
   rw[aT,aT]
   cases hx:xs[i]? with
   | none=>
     have:kvs[i]?=none:=by rw[List.getElem?_eq_none_iff] at hx ⊢;rw[← hv.1];exact hx
     rw[this];rfl
   | some x=>
     have hi:=(aL.mp hx).1
     rw[hv.1] at hi
     have hk:kvs[i]?=some kvs[i]:=ao hi
     rw[hk]
     exact cA some ((hv.2 i x _ hx hk).1).symm
  rw[this];exact h6
 ·have he':es.toList[i]?=some e:=by simpa using he
  rw[h4,aT] at he'
  cases hx:xs[i]? with
  | none=>rw[hx] at he';exfalso;injection he'
  | some x=>
    rw[hx] at he'
    injection he' with eQ;subst eQ
    obtain⟨e1,bs,r,q⟩:=hv.2 i x kv hx hk
    obtain⟨kk,dd⟩:=kv
    have e1:x.1=kk:=e1
    subst e1
    exact⟨zg6 _,[],bs,zev (h5 x (aw hx)),r,fun b hb=>q b (by simpa using hb)⟩
theorem qd{N β:List Addr}{k:MKey}:∀ {xs:List (MKey×Addr×Value)} {kvs:List (MKey×PyData)},wg h N β xs kvs→(atKey xs k=none∧zw kvs k=none)∨∃ p d bs,atKey xs k=some p∧zw kvs k=some d∧Reads h p.2 d bs∧∀ b∈bs,b∉β∧b∉N
 | [],[],_=>.inl ⟨rfl,rfl⟩
 | [],_::_,hv=>by cases hv.1
 | _::_,[],hv=>by cases hv.1
 | x::xs,kv::kvs,hv=>by
   obtain⟨e,bs,r,q⟩:=hv.2 0 x kv rfl rfl
   by_cases hk:x.1=k
   ·right
    refine eY x.2 kv.2 bs (by simp[atKey,hk]) (by simp[zw,← e,hk]) r q
   ·have hk':¬ kv.1=k:=by rw[← e];exact hk
    have:=qd (k:=k) (xs:=xs) (kvs:=kvs) ⟨by simpa using hv.1,fun i x' kv' h1 h2=>hv.2 (i+1) x' kv' (by simpa using h1) (by simpa using h2)⟩
    have e1:atKey (x::xs) k=atKey xs k:=by simp[atKey,hk]
    have e2:zw (kv::kvs) k=zw kvs k:=by simp[zw,hk']
    rw[e1,e2]
    exact this
end
set_option tactic.hygienic true in
theorem zf8:∀ {xs:List PyData} {is:List Int},intsOf xs=some is→xs=is.map PyData.int
 | [],_,h=>by injection h with eQ;subst eQ;rfl
 | x::xs,is,h=>by
   cases x <;> first | (cases h;done) | skip
   rename_i i
   unfold intsOf at h
   cases hr:intsOf xs with
   | none=>rw[hr] at h;exfalso;injection h
   | some r=>rw[hr] at h;injection h with eQ;subst eQ;rw[zf8 hr];rfl
theorem zfu:∀ {xs:List PyData} {kss:List (List Int)},jc xs=some kss→xs=kss.map fun c=>PyData.tuple (c.map .int)
 | [],_,h=>by injection h with eQ;subst eQ;rfl
 | x::xs,kss,h=>by
   unfold jc at h
   cases hx:tupI x with
   | none=>rw[hx] at h;exfalso;injection h
   | some c=>
     rw[hx] at h
     cases hr:jc xs with
     | none=>rw[hr] at h;exfalso;injection h
     | some r=>
       rw[hr] at h;injection h with eQ;subst eQ
       rw[zfu hr]
       cases x <;> first | (cases hx;done) | skip
       have hx:intsOf _=some c:=hx
       rw[zf8 hx];rfl
set_option tactic.hygienic true in
theorem h8{x:PyData}{k:MKey}(h:keyOf x=some k):x=w1 k:=by
 unfold keyOf at h
 split at h
 ·rename_i xs n
  cases hr:jc xs with
  | none=>rw[hr] at h;exfalso;injection h
  | some r=>rw[hr] at h;injection h with eQ;subst eQ;rw[zfu hr];rfl
 ·exfalso;injection h
section
variable{G:Gl}{F:Fm}{A:Around}{s:Shared}{β:List Addr}{ρ:Loc}{O:za}
theorem Room.memo{k:Nat}(ro:Room A k):(yh G.prog G.w).room A.in1:=by
 have h:=ro.units
 have hc:cLine=9900:=rfl
 refine⟨?_,⟨?_,?_,trivial⟩,trivial⟩
 ·show A.units+1 < cLine;lia
 ·show A.units+1+1 < cLine;lia
 ·show A.units+1+1+1 < cLine;lia
theorem dq{d a:Addr}{k:MKey}{xs:List (MKey×Addr×Value)}{E:Value→Shared→Prop}{Q:Bool→Shared→Prop}(hu:(yh G.prog G.w).room A.in1)(hkey:(yh G.prog G.w).is s.heap k a)(hd:(d == sysModules)=false)(hm:s.heap.DictOfH (yh G.prog G.w) d xs)
 (h:Q (atKey xs k).isSome { s with toks:=s.toks+(yh G.prog G.w).draws k }):wpAny (model G.prog G.w) A (contains (.ref d) (.ref a)) Q E s:=by
 unfold contains
 try with_reducible refine aR ?_
 refine aa (bM hm.typeIs slot_dict_contains.lookup ?_)
 show wpAny _ _ (if (some (Value.builtin "dict.__contains__") == some Value.none)=true then _ else _) _ E s
 rw[ai (by rw[beq_builtin_none];exact ak)]
 refine aa (wpAny_callSpecialUnlessNone?_slot (name:=Str.ofString "__contains__") hm.typeIs slot_dict_contains
  (aZ slot_dict_contains hm.typeIs entry_dict_contains ?_ (args_dict_contains _ _)))
 show wpAny _ _ (dictGet d (.ref a) >>= _) _ _ s
 refine aa (wpAny_dictGet_heap hu hkey hm ?_)
 cases hf:atKey xs k with
 | some p=>
   rw[hf] at h
   show wpAny _ _ (ret (.bool true)) _ _ _
   exact ab ⟨_,rfl,bJ h⟩
 | none=>
   rw[hf] at h
   show wpAny _ _ (Builtin.Dict.pendingKey? d (.ref a) >>= _) _ _ _
   exact aa (wpAny_pendingKey_other hd (ab ⟨_,rfl,bJ h⟩))
theorem dp{v u:Value}{n:Nat}{x:PyData}{kvs:List (MKey×PyData)}{q:MKey}{k:Nat}(ro:Room A k)(sr:SR G F β ρ O s.heap)(ho:O[n]?=some (.dct kvs))(hk:keyOf x=some q)
 (rv:VR G F.B β s.heap v (.d x)) (ru:VR G F.B β s.heap u (.box n)) :
 Does G F A s β (compareOp .NotIn v u) ((R.ok (V.d (.bool !(zw kvs q).isSome)) O).lift ρ) (VRel G F):=by
 obtain⟨d,hd,rfl⟩:=ru
 obtain⟨as,r,_⟩:=rv
 rw[h8 hk] at r
 refine eV (p8 (prog:=G.prog) (w:=G.w) r) ?_;intro a dX hkey;subst dX
 have hm:=aw hd
 refine eV (zb6 (prog:=G.prog) (w:=G.w) (sr.br.plain d hm) (sr.br.at_ n d _ hd ho)) ?_;intro xs hD hv
 refine Does.leaf sr fun Q E kk=>?_
 show wpAny _ _ (do return Value.bool (!(← contains (.ref d) (.ref a)))) Q E s
 refine aa (dq ro.memo hkey (G.notSys (sr.br.new d hm)) hD (ab ?_))
 have e:(atKey xs q).isSome=(zw kvs q).isSome:=by
  (refine eS (qd (k:=q) hv) ?_ ?_;rotate_left;rintro ⟨p,d',bs,e1,e2,_⟩;rotate_right;rintro ⟨e1,e2⟩) <;> rw[e1,e2] <;> rfl
 rw[e]
 exact kk _ _ (KeepsAll.toks s _) VR.bool
theorem zdg{value slice:Expr}{v u:Value}{n:Nat}{x:PyData}{kvs:List (MKey×PyData)}{q:MKey}{k:Nat}(ro:Room A k)(sr:SR G F β ρ O s.heap)(ho:O[n]?=some (.dct kvs))(hk:keyOf x=some q)
 (rv:VR G F.B β s.heap v (.box n)) (ru:VR G F.B β s.heap u (.d x)) (hs:subscripted slice false v u=operate [v,u] (getItem v u)) :
 Does G F A s β (subscriptTail value slice v u) ((opt ((zw kvs q).map V.d) O).lift ρ) (VRel G F):=by
 obtain⟨d,hd,rfl⟩:=rv
 obtain⟨as,r,_⟩:=ru
 rw[h8 hk] at r
 refine eV (p8 (prog:=G.prog) (w:=G.w) r) ?_;intro a dX hkey;subst dX
 have hm:=aw hd
 refine eV (zb6 (prog:=G.prog) (w:=G.w) (sr.br.plain d hm) (sr.br.at_ n d _ hd ho)) ?_;intro xs hD hv
 refine eS (qd (k:=q) hv) ?_ ?_
 ·rintro ⟨e1,e2⟩;rw[e2];trivial
 ·rintro ⟨p,d',bs,e1,e2,r',hb⟩;rw[e2]
  refine Does.leaf sr fun Q E kk=>?_
  refine tail_any (T:="dict") hD.typeIs slot_dict_getitem.lookup ?_ hs
  exact wpAny_getItem_heap ro.memo hkey hD e1 (kk _ _ (KeepsAll.toks s _) ⟨bs,r',hb⟩)
end
end Mine
end
section
namespace Mine
open PySem PySem.SetTable
noncomputable abbrev Ent:=Nat×Int×Value
noncomputable def places(L:List Ent):Array Nat:=(L.map (·.1)).toArray
noncomputable def elems(L:List Ent):Array (Int×Value):=(L.map (·.2)).toArray
noncomputable def Rise(L:List Ent):Prop:=L.Pairwise fun a b=>a.1 < b.1
theorem zk1{xs:Array Nat}{j c:Nat}(h:∀ i (hi:i < xs.size),xs[i] < j↔i < c):∀ (fuel lo hi:Nat),lo≤c→c≤hi→hi≤xs.size→hi≤fuel+lo→below.go xs j fuel lo hi=c:=by
 intro fuel
 induction fuel with
 | zero=>exact fun lo hi h1 h2 uA h4=>cW h1 (aq h2 (Nat.zero_add lo ▸ h4))
 | succ fuel ih=>
   intro lo hi h1 h2 h3 h4
   show (if lo < hi then (if xs.getD ((lo+hi) / 2) j < j then below.go xs j fuel ((lo+hi) / 2+1) hi else below.go xs j fuel lo ((lo+hi) / 2)) else lo)=c
   by_cases hl:lo < hi
   ·have a1:lo≤(lo+hi) / 2:=by lia
    have a2:(lo+hi) / 2 < hi:=by lia
    generalize (lo+hi) / 2=m at a1 a2
    have hm:m < xs.size:=Nat.lt_of_lt_of_le a2 h3
    have e:xs.getD m j=xs[m]:=by rw[bz,bh hm];rfl
    rw[ah hl,e]
    by_cases hx:xs[m] < j
    ·rw[ah hx]
     exact ih _ hi ((h _ hm).mp hx) h2 h3 (aq h4 (by lia))
    ·rw[ai hx]
     exact ih lo _ h1 (dM fun q=>hx ((h _ hm).mpr q)) (cw hm) (bC (Nat.lt_of_lt_of_le a2 (Nat.succ_add fuel lo ▸ h4)))
   ·rw[ai hl]
    exact cW h1 (aq h2 (dM hl))
theorem zk2{xs:Array Nat}{j c:Nat}(hc:c≤xs.size)(h:∀ i (hi:i < xs.size),xs[i] < j↔i < c):below xs j=c:=
 zk1 h _ _ _ (be _) hc (aI _) (aI _)
theorem jh{A B:List Ent}{j:Nat}(hA:∀ e∈A,e.1 < j)(hB:∀ e∈B,j≤e.1):below (places (A++B)) j=A.length:=by
 refine zk2 (by simp[places]) fun i hi=>?_
 have hs:i < (A++B).length:=by simpa [places] using hi
 have e:(places (A++B))[i]=((A++B)[i]).1:=by
  apply aM
  rw[← bh hi]
  unfold places
  rw[List.getElem?_toArray,aT,ao hs]
  rfl
 rw[e]
 by_cases h:i < A.length
 ·rw[List.getElem_append_left h]
  exact⟨fun uA=>h,fun uA=>hA _ (dH _)⟩
 ·rw[List.getElem_append_right (by lia)]
  have:=hB _ (dH (l:=B) (n:=i - A.length) (by simp at hs;lia))
  constructor
  ·intro q;lia
  ·intro q;lia
theorem vc(j:Nat):∀ (L:List Ent),Rise L→∃ A B,L=A++B∧(∀ e∈A,e.1 < j)∧∀ e∈B,j≤e.1
 | [],_=>⟨[],[],rfl,fun uA h=>(nomatch h),fun uA h=>(nomatch h)⟩
 | x::L,h=>by
   have h':Rise L:=(aA.mp h).2
   by_cases hx:x.1 < j
   ·refine fh (vc j L h') ?_;intro A B dY h1 h2;subst dY
    exact⟨x::A,B,rfl,fun e he=>by
     refine eS (af.mp he) ?_ ?_
     ·rintro rfl;exact hx
     ·intro he;exact h1 e he,h2⟩
   ·refine fg [] (x::L) rfl (fun uA h=>(nomatch h)) (fun e he=>?_)
    refine eS (af.mp he) ?_ ?_
    ·rintro rfl;lia
    ·intro he;have:=(aA.mp h).1 e he;lia
structure ji(t:SetTable)(m:Nat)(ld:Bool)(L:List Ent):Prop where
 mask:t.mask=m
 place:t.place=places L
 dummies:t.dummies = #[]
 led:t.led=ld
 plain:t.plain=true
theorem zad{t:SetTable}{m:Nat}{ld:Bool}{A B:List Ent}{e:Ent}(ht:ji t m ld (A++e::B))(hr:Rise (A++e::B)):t.slot e.1=.live A.length:=by
 have hA:∀ x∈A,x.1 < e.1:=fun x hx=>(cg.mp hr).2.2 x hx e am
 have hB:∀ x∈e::B,e.1≤x.1:=fun x hx=>by
  refine eS (af.mp hx) ?_ ?_
  ·rintro rfl;exact aI _
  ·intro hx;exact cw ((aA.mp (cg.mp hr).2.1).1 x hx)
 unfold slot
 rw[ht.place,jh hA hB]
 dsimp only
 rw[ah]
 simp[places]
theorem zed{t:SetTable}{m:Nat}{ld:Bool}{L:List Ent}{j:Nat}(ht:ji t m ld L)(hr:Rise L)(hj:∀ e∈L,e.1≠j):t.slot j=.empty:=by
 refine fh (vc j L hr) ?_;intro A B dY hA hB;subst dY
 unfold slot
 rw[ht.place,jh hA hB,ht.dummies]
 dsimp only
 have h1:((places (A++B))[A.length]? == some j)=false:=by
  cases B with
  | nil=>simp[places]
  | cons b B=>
    have:(places (A++b::B))[A.length]?=some b.1:=by simp[places]
    rw[this]
    have hb:=hj b (by simp)
    simpa using hb
 rw[ai (by rw[h1];decide)]
 have h2:has #[] j=false:=by simp[has]
 rw[ai (by rw[h2];decide)]
theorem zo3{t:SetTable}{m:Nat}{ld:Bool}{L:List Ent}{j:Nat}(ht:ji t m ld L)(hr:Rise L)(hj:∀ e∈L,e.1≠j)(h:Int)(x:Value):∃ A B,L=A++B∧(t.put j).2=A.length∧ji (t.put j).1 m ld (A++(j,h,x)::B)∧Rise (A++(j,h,x)::B) ∧
 insertAt (elems L) A.length (h,x)=elems (A++(j,h,x)::B):=by
 refine fh (vc j L hr) ?_;intro A B dY hA hB;subst dY
 have hB':∀ e∈B,j < e.1:=fun e he=>Nat.lt_of_le_of_ne (hB e he) (fun q=>hj e (au _ he) q.symm)
 have ins:∀ {α:Type} (f:Ent→α) (z:α),insertAt ((A++B).map f).toArray A.length z=(A.map f++z::B.map f).toArray:=by
  intro α f z
  unfold insertAt
  apply Array.toList_inj.mp
  simp
  exact List.take_of_length_le (by simp)
 refine⟨A,B,rfl,?_,⟨ht.mask,?_,?_,ht.led,ht.plain⟩,?_,?_⟩
 ·unfold put;dsimp only;rw[ht.place,jh hA hB]
 ·unfold put;dsimp only
  rw[ht.place,jh hA hB]
  unfold places
  rw[ins];simp
 ·unfold put;dsimp only
  rw[ht.dummies]
  rfl
 ·refine cg.mpr ⟨(cg.mp hr).1,aA.mpr ⟨hB',(cg.mp hr).2.1⟩,fun a ha b hb=>?_⟩
  refine eS (af.mp hb) ?_ ?_
  ·rintro rfl;exact hA a ha
  ·intro hb;exact (cg.mp hr).2.2 a ha b hb
 ·unfold elems
  rw[ins];simp
noncomputable def advM(m:Nat)(p:Probe):Probe:=
 if p.more > 0 then { p with j:=p.j+1,more:=p.more - 1 } else
 { p with j:=(leap m p.i p.perturb).1,more:=runEnd m (leap m p.i p.perturb).1 - (leap m p.i p.perturb).1,i:=(leap m p.i p.perturb).1,perturb:=(leap m p.i p.perturb).2 }
theorem zfl(t:SetTable)(p:Probe):t.advance p=advM t.mask p:=by unfold advance advM;split <;> rfl
noncomputable def lp(m i pt:Nat):Probe:={ j:=i,more:=runEnd m i - i,i:=i,perturb:=pt,dummy:=none }
noncomputable def advN(m:Nat):Nat→Probe→Probe
 | 0,p=>p
 | n+1,p=>advN m n (advM m p)
theorem xx(m:Nat):∀ (a b:Nat) (p:Probe),advN m (a+b) p=advN m b (advN m a p)
 | 0,b,p=>by rw[Nat.zero_add];rfl
 | a+1,b,p=>by rw[Nat.succ_add];exact xx m a b (advM m p)
theorem g7(m:Nat):∀ (k:Nat) (p:Probe),k≤p.more→advN m k p = { p with j:=p.j+k,more:=p.more - k }
 | 0,p,_=>rfl
 | k+1,p,h=>by
   rw[advN,g7 m k _ (by unfold advM;rw[ah (by lia)];show k≤p.more - 1;lia)]
   unfold advM
   rw[ah (by lia)]
   simp only[Probe.mk.injEq]
   refine⟨by lia,by lia,trivial,trivial,trivial⟩
theorem w4(m:Nat)(p:Probe)(hd:p.dummy=none):advN m (p.more+1) p=lp m (leap m p.i p.perturb).1 (leap m p.i p.perturb).2:=by
 rw[xx,g7 m _ _ (aI _)]
 show advM m _=_
 unfold advM lp
 rw[ai (by show ¬ (p.more - p.more > 0);lia)]
 simp[hd]
theorem more_le{m i:Nat}:runEnd m i - i≤9:=by unfold runEnd;split <;> lia
noncomputable def lpN(m:Nat):Nat→Nat×Nat→Nat×Nat
 | 0,x=>x
 | q+1,x=>lpN m q (leap m x.1 x.2)
theorem zf3(m:Nat):∀ (a b:Nat) (x:Nat×Nat),lpN m (a+b) x=lpN m b (lpN m a x)
 | 0,b,x=>by rw[Nat.zero_add];rfl
 | a+1,b,x=>by rw[Nat.succ_add];exact zf3 m a b _
theorem zns(m:Nat):∀ (q i pt:Nat),∃ n,n≤10 * q∧advN m n (lp m i pt)=lp m (lpN m q (i,pt)).1 (lpN m q (i,pt)).2
 | 0,i,pt=>⟨0,aI _,rfl⟩
 | q+1,i,pt=>by
   refine eV (zns m q (leap m i pt).1 (leap m i pt).2) ?_;intro n h1 h2
   refine eW ((lp m i pt).more+1+n) ?_ ?_
   ·have:(lp m i pt).more≤9:=more_le
    lia
   ·rw[xx,w4 m _ rfl]
    exact h2
theorem zi8(m:Nat):∀ (q i pt:Nat),(lpN m q (i,pt)).2=pt / 32 ^ q
 | 0,i,pt=>by simp[lpN]
 | q+1,i,pt=>by
   show (lpN m q ((leap m i pt).1,(leap m i pt).2)).2=_
   rw[zi8 m q]
   show pt / 32 / 32 ^ q=_
   rw[Nat.div_div_eq_div_mul,Nat.pow_succ,Nat.mul_comm]
theorem zi9(m:Nat):∀ (q i pt:Nat),i≤m→(lpN m q (i,pt)).1≤m
 | 0,i,pt,h=>h
 | q+1,i,pt,h=>zi9 m q _ _ (by show (i * 5+1+pt / 32) % (m+1)≤m;have:=Nat.mod_lt (i * 5+1+pt / 32) (show 0 < m+1 by exact Nat.succ_pos _);exact Nat.le_of_lt_succ (by assumption))
noncomputable def full(m:Nat):Bool:=(List.range (m+1)).all fun i=>(List.range (m+1)).all fun j=>(List.range (m+1)).any fun q=>(lpN m q (i,0)).1 == j
theorem zsh:full 7=true:=by decide +kernel
theorem zj1:full 31=true:=by decide +kernel
theorem u8{m:Nat}(hf:full m=true){i pt j:Nat}(hi:i≤m)(hp:pt < 2 ^ 64)(hj:j≤m):∃ q,q≤13+m∧(lpN m q (i,pt)).1=j:=by
 have h0:(lpN m 13 (i,pt)).2=0:=by rw[zi8];exact Nat.div_eq_of_lt (Nat.lt_of_lt_of_le hp (by decide))
 have h1:=zi9 m 13 i pt hi
 unfold full at hf
 have h2:=aU.mp (aU.mp hf _ (a7.mpr (cF h1))) j (a7.mpr (cF hj))
 refine eV (List.any_eq_true.mp h2) ?_;intro q hq h3
 rw[a7] at hq
 refine eW (13+q) (by lia) ?_
 rw[zf3]
 have:lpN m 13 (i,pt)=((lpN m 13 (i,pt)).1,0):=Prod.ext rfl h0
 rw[this]
 exact aS.mp h3
structure Stand(m:Nat)(p:Probe):Prop where
 d:p.dummy=none
 i:p.i≤m
 pt:p.perturb < 2 ^ 64
 more:p.more≤9
theorem zgn(h:Int):bits h < 2 ^ 64:=by
 unfold bits
 have h1:0≤h % (2 ^ 64:Int):=Int.emod_nonneg _ (by decide)
 have h2:h % (2 ^ 64:Int) < 2 ^ 64:=Int.emod_lt_of_pos _ (by decide)
 lia
theorem Stand.lp{m i pt:Nat}(hi:i≤m)(hp:pt < 2 ^ 64):Stand m (lp m i pt):=⟨rfl,hi,hp,more_le⟩
theorem Stand.adv{m:Nat}{p:Probe}(h:Stand m p):Stand m (advM m p):=by
 unfold advM
 split
 ·exact⟨h.d,h.i,h.pt,by show p.more - 1≤9;have:=h.more;lia⟩
 ·refine⟨h.d,?_,?_,more_le⟩
  ·show (p.i * 5+1+p.perturb / 32) % (m+1)≤m
   have:=Nat.mod_lt (p.i * 5+1+p.perturb / 32) (show 0 < m+1 by exact Nat.succ_pos _);exact Nat.le_of_lt_succ (by assumption)
  ·show p.perturb / 32 < 2 ^ 64
   have:=h.pt;lia
theorem Stand.advN{m:Nat}:∀ (n:Nat) {p:Probe},Stand m p→Stand m (advN m n p)
 | 0,_,h=>h
 | n+1,_,h=>Stand.advN n h.adv
theorem meets{m:Nat}(hf:full m=true){p:Probe}(hp:Stand m p){j:Nat}(hj:j≤m):∃ n,n < 10 * turns m∧(advN m n p).j=j:=by
 have hl:(leap m p.i p.perturb).1≤m:=by
  show (p.i * 5+1+p.perturb / 32) % (m+1)≤m
  have:=Nat.mod_lt (p.i * 5+1+p.perturb / 32) (show 0 < m+1 by exact Nat.succ_pos _);exact Nat.le_of_lt_succ (by assumption)
 have h2:(leap m p.i p.perturb).2 < 2 ^ 64:=by
  show p.perturb / 32 < 2 ^ 64
  have:=hp.pt;lia
 refine eV (u8 hf hl h2 hj) ?_;intro q hq e
 refine eV (zns m q (leap m p.i p.perturb).1 (leap m p.i p.perturb).2) ?_;intro n hn en
 refine eW (p.more+1+n) ?_ ?_
 ·have:=hp.more
  unfold turns
  lia
 ·rw[xx,w4 m p hp.d,en]
  exact e
theorem nodup_le:∀ {l l':List Nat},l.Nodup→(∀ x∈l,x∈l')→l.length≤l'.length
 | [],_,_,_=>be _
 | a::l,l',hn,hs=>by
   refine fb (bk.mp hn) ?_;intro h1 h2
   have:=nodup_le (l':=l'.erase a) h2 fun x hx=>(List.mem_erase_of_ne (fun e=>h1 (by rw[← e];exact hx))).mpr (hs x (ag _ hx))
   rw[List.length_erase_of_mem (hs a am)] at this
   have hp:0 < l'.length:=List.length_pos_of_mem (hs a am)
   rw[a0]
   lia
noncomputable def FirstFree(L:List Ent)(m n:Nat)(p:Probe):Prop:=(∀ e∈L,e.1≠(advN m n p).j)∧∀ k,k < n→∃ e∈L,e.1=(advN m k p).j
theorem zhj{L:List Ent}{m:Nat}(hf:full m=true)(hl:L.length≤m){p:Probe}(hp:Stand m p):∃ n,n < 10 * turns m∧FirstFree L m n p:=by
 have hfree:∃ j,j≤m∧∀ e∈L,e.1≠j:=by
  refine bW fun hn=>?_
  have hall:∀ j,j∈List.range (m+1)→j∈L.map (·.1):=fun j hj=>by
   refine bW fun hc=>hn ⟨j,Nat.lt_succ_iff.mp (a7.mp hj),fun e he q=>hc (aC.mpr ⟨e,he,q⟩)⟩
  have:=nodup_le List.nodup_range hall
  simp at this
  lia
 refine eV hfree ?_;clear hfree;intro j hj hfr
 refine eV (meets hf hp hj) ?_;intro n hn e
 have key:∀ n,(∀ e∈L,e.1≠(advN m n p).j)→∃ k,k≤n∧FirstFree L m k p:=by
  intro n
  induction n using Nat.strongRecOn with
  | ind n ih=>
    intro h
    by_cases hx:∃ k,k < n∧∀ e∈L,e.1≠(advN m k p).j
    ·refine eV hx ?_;clear hx;intro k hk h'
     refine eV (ih k hk h') ?_;intro k' h1 h2
     exact eW k' (by lia) h2
    ·refine ff n (aI _) h (fun k hk=>?_)
     refine bW fun hc=>hx ⟨k,hk,fun e he q=>hc ⟨e,he,q⟩⟩
 refine eV (key n (by rw[e];exact hfr)) ?_;intro k h1 h2
 exact eW k (by exact Nat.lt_of_le_of_lt (by assumption) (by assumption)) h2
noncomputable def yt(m:Nat)(h:Int):Probe:=lp m (bits h % (m+1)) (bits h)
theorem zcg(m:Nat)(h:Int):Stand m (yt m h):=.lp (by have:=Nat.mod_lt (bits h) (show 0 < m+1 by exact Nat.succ_pos _);exact Nat.le_of_lt_succ (by assumption)) (zgn h)
noncomputable def Reach(L:List Ent)(m:Nat):Prop:=∀ e∈L,∃ n,(advN m n (yt m e.2.1)).j=e.1∧∀ k,k < n→∃ e'∈L,e'.1=(advN m k (yt m e.2.1)).j
theorem Reach.before{L:List Ent}{m n:Nat}{e:Ent}(hr:Reach L m)(he:e∈L)(hf:FirstFree L m n (yt m e.2.1)):∃ k,k < n∧(advN m k (yt m e.2.1)).j=e.1:=by
 refine eV (hr e he) ?_;intro k h1 h2
 refine eW k ?_ h1
 rcases Nat.lt_trichotomy k n with h | h | h
 ·exact h
 ·subst h;exact absurd h1.symm (hf.1 e he)
 ·refine eV (h2 n h) ?_;intro e' he' h3
  exact absurd h3 (hf.1 e' he')
theorem Reach.put{A B:List Ent}{m n:Nat}{h:Int}{x:Value}(hr:Reach (A++B) m)(hf:FirstFree (A++B) m n (yt m h)):Reach (A++((advN m n (yt m h)).j,h,x)::B) m:=by
 have sub:∀ e∈A++B,e∈A++((advN m n (yt m h)).j,h,x)::B:=fun e he=>by
  refine eS (aj.mp he) ?_ ?_
  ·intro he;exact az _ he
  ·intro he;exact au _ (ag _ he)
 have old:∀ e∈A++B,∃ n',(advN m n' (yt m e.2.1)).j=e.1∧∀ k,k < n'→∃ e'∈A++((advN m n (yt m h)).j,h,x)::B,e'.1=(advN m k (yt m e.2.1)).j:=fun e he=>by
  refine eV (hr e he) ?_;intro k h1 h2
  exact eW k h1 (fun i hi=>let ⟨e',he',q⟩:=h2 i hi;⟨e',sub e' he',q⟩)
 intro e he
 refine eS (aj.mp he) ?_ ?_
 ·intro he;exact old e (az _ he)
 ·intro he;refine eS (af.mp he) ?_ ?_
  ·rintro rfl;exact eW n rfl (fun k hk=>let ⟨e',he',q⟩:=hf.2 k hk;⟨e',sub e' he',q⟩)
  ·intro he;exact old e (au _ he)
section
variable{m:Nat}{owner:Array (Option Nat)}
noncomputable def Fr(owner:Array (Option Nat))(j:Nat):Prop:=owner[j]?=some none
noncomputable def Oc(owner:Array (Option Nat))(j:Nat):Prop:=∃ i,owner[j]?=some (some i)
theorem zo1{i:Nat}(hi:i≤m):runEnd m i≤m:=by unfold runEnd;split <;> assumption
theorem zit{i:Nat}:i≤runEnd m i:=by unfold runEnd;split <;> lia
theorem wz(hs:owner.size=m+1){j:Nat}(hj:j≤m):((owner.getD j (some 0)).isNone=true∧Fr owner j)∨((owner.getD j (some 0)).isNone=false∧Oc owner j):=by
 have hl:j < owner.size:=by lia
 have e:owner[j]?=some owner[j]:=bh hl
 rw[bz]
 unfold Fr Oc
 rw[e]
 cases owner[j] with
 | none=>exact .inl ⟨rfl,rfl⟩
 | some i=>exact .inr ⟨rfl,i,rfl⟩
theorem zmo(hs:owner.size=m+1):∀ (fuel i pt q:Nat),i≤m→q < fuel→Fr owner (lpN m q (i,pt)).1→∃ n,layClean.free m owner fuel i pt=some (advN m n (lp m i pt)).j∧Fr owner (advN m n (lp m i pt)).j∧∀ k,k < n→Oc owner (advN m k (lp m i pt)).j:=by
 intro fuel
 induction fuel with
 | zero=>exact fun uA uA uA uA h=>absurd h (bq _)
 | succ fuel ih=>
   intro i pt q hi hq hfr
   have hin:∀ k,k < runEnd m i - i+1→i+k≤m:=fun k hk=>aq (Nat.add_le_add_left (bC hk) i) (aq (Nat.le_of_eq (Nat.add_sub_of_le zit)) (zo1 hi))
   have ef:layClean.free m owner (fuel+1) i pt=((List.range (runEnd m i+1 - i)).find? fun k=>(owner.getD (i+k) (some 0)).isNone).elim (layClean.free m owner fuel (leap m i pt).1 (leap m i pt).2) (fun k=>some (i+k)):=by
    show (match (List.range (runEnd m i+1 - i)).find? fun k=>(owner.getD (i+k) (some 0)).isNone with | some k=>some (i+k) | none=>layClean.free m owner fuel (leap m i pt).1 (leap m i pt).2)=_
    cases (List.range (runEnd m i+1 - i)).find? fun k=>(owner.getD (i+k) (some 0)).isNone <;> rfl
   rw[ef,Nat.succ_sub zit]
   clear ef
   have hr:(lp m i pt).more=runEnd m i - i:=rfl
   generalize runEnd m i - i=r at hin hr
   have e:∀ k,k≤r→(advN m k (lp m i pt)).j=i+k:=fun k hk=>by
    rw[g7 m k _ (hr ▸ hk)];rfl
   cases hfind:(List.range (r+1)).find? fun k=>(owner.getD (i+k) (some 0)).isNone with
   | some k=>
     refine fc (List.find?_range_eq_some.mp hfind) ?_;intro h1 h2 h3
     have h2:=a7.mp h2
     refine ff k (cA some (e k (bC h2)).symm) ?_ (fun k' hk'=>?_)
     ·rw[e k (bC h2)]
      refine eS (wz hs (hin k h2)) ?_ ?_
      ·intro h;exact h.2
      ·intro h;exact absurd (h1.symm.trans h.1) nofun
     ·have h4:=Nat.lt_trans hk' h2
      rw[e k' (bC h4)]
      refine eS (wz hs (hin k' h4)) ?_ ?_
      ·intro h;have:=h3 k' hk'
       rw[h.1] at this;exfalso;injection this
      ·intro h;exact h.2
   | none=>
     have hall:∀ k,k < r+1→Oc owner (i+k):=fun k hk=>
      (wz hs (hin k hk)).elim (fun h=>absurd h.1 (List.find?_eq_none.mp hfind k (a7.mpr hk))) (·.2)
     cases q with
     | zero=>
       refine eZ (hall 0 (Nat.succ_pos _)) ?_;intro i' h
       exact absurd ((show owner[i]?=some none from hfr).symm.trans h) nofun
     | succ q=>
       refine fj (ih (leap m i pt).1 (leap m i pt).2 q (bC (Nat.mod_lt _ (Nat.succ_pos m))) (bP hq) hfr) ?_;intro n h1 h2 h3
       have e':∀ k,advN m (r+1+k) (lp m i pt)=advN m k (lp m (leap m i pt).1 (leap m i pt).2):=fun k=>by
        rw[← hr,xx,w4 m _ rfl];rfl
       refine ff (r+1+n) ?_ ?_ (fun k hk=>?_)
       ·rw[e'];exact h1
       ·rw[e'];exact h2
       ·by_cases hk':k < r+1
        ·rw [e k (bC hk')]
         exact hall k hk'
        ·refine eZ (Nat.exists_eq_add_of_le (dM hk')) ?_;intro k' dX;subst dX
         rw [e']
         exact h3 k' (Nat.lt_of_add_lt_add_left hk)
end
structure Own(m:Nat)(owner:Array (Option Nat))(hs:List Int)(js:List Nat):Prop where
 size:owner.size=m+1
 len:js.length=hs.length
 nd:js.Nodup
 at_:∀ (j i:Nat),owner[j]?=some (some i)↔js[i]?=some j
 le:∀ j∈js,j≤m
 way:∀ (i:Nat) (h:Int) (j:Nat),hs[i]?=some h→js[i]?=some j→∃ n,(advN m n (yt m h)).j=j∧∀ k,k < n→Oc owner (advN m k (yt m h)).j
theorem zjd{m:Nat}(hf:full m=true){owner:Array (Option Nat)}{hs:List Int}{js:List Nat}(o:Own m owner hs js)(hl:hs.length≤m)(h:Int) :
 ∃ j,layClean.free m owner (turns m) (bits h % (m+1)) (bits h)=some j∧Own m (owner.setIfInBounds j (some hs.length)) (hs++[h]) (js++[j]):=by
 have hi:bits h % (m+1)≤m:=by have:=Nat.mod_lt (bits h) (show 0 < m+1 by exact Nat.succ_pos _);exact Nat.le_of_lt_succ (by assumption)
 have hfree:∃ j,j≤m∧j∉js:=by
  refine bW fun hn=>?_
  have:=nodup_le (l:=List.range (m+1)) (l':=js) List.nodup_range fun x hx=>by
   refine bW fun hc=>hn ⟨x,by have:=a7.mp hx;exact Nat.le_of_lt_succ (by assumption),hc⟩
  rw[List.length_range,o.len] at this
  lia
 refine eV hfree ?_;clear hfree;intro j0 hj0 hn0
 have hfr0:Fr owner j0:=by
  have hlt:j0 < owner.size:=by rw[o.size];exact Nat.lt_succ_of_le (by assumption)
  have e:owner[j0]?=some owner[j0]:=bh hlt
  unfold Fr
  rw[e]
  cases hx:owner[j0] with
  | none=>rfl
  | some i=>
    rw[hx] at e
    exact absurd (aw ((o.at_ j0 i).mp e)) hn0
 refine eV (u8 hf hi (zgn h) hj0) ?_;intro q hq eq
 refine fj (zmo o.size (turns m) (bits h % (m+1)) (bits h) q hi (by unfold turns;lia) (by rw[eq];exact hfr0)) ?_;intro n h1 h2 h3
 generalize hj:(advN m n (lp m (bits h % (m+1)) (bits h))).j=j at h1 h2
 have hjlt:j < owner.size:=by
  unfold Fr at h2
  exact (Array.getElem?_eq_some_iff.mp h2).1
 have hjn:j∉js:=fun hm=>by
  refine eZ (bX hm) ?_;intro i hi'
  have:=(o.at_ j i).mpr hi'
  unfold Fr at h2
  rw[h2] at this;injection this with eQ;exfalso;injection eQ
 have grow:∀ k,Oc owner k→Oc (owner.setIfInBounds j (some hs.length)) k:=fun k ⟨i,hk⟩=>by
  by_cases e:j=k
  ·subst e;exact fe hs.length (by rw[Array.getElem?_setIfInBounds_self,ah hjlt])
  ·exact fe i (by rw[Array.getElem?_setIfInBounds_ne e];exact hk)
 refine eW j h1 ?_
 constructor
 ·rw[Array.size_setIfInBounds];exact o.size
 ·simp[o.len]
 ·exact cj.mpr ⟨o.nd,by simp,fun a ha b hb=>by rw[ae.mp hb];rintro rfl;exact hjn ha⟩
 ·intro k i
  by_cases e:j=k
  ·subst e
   rw[Array.getElem?_setIfInBounds_self,ah hjlt]
   constructor
   ·intro q;injection q with eQ;injection eQ with eQ;subst eQ;rw[← o.len];simp
   ·intro q
    by_cases hi':i < js.length
    ·rw[aJ hi'] at q
     exact absurd (aw q) hjn
    ·have:i=js.length:=by
      have:=(aL.mp q).1
      simp at this;lia
     subst this;rw[o.len]
  ·rw[Array.getElem?_setIfInBounds_ne e,o.at_]
   constructor
   ·intro q
    have:=(aL.mp q).1
    rw[aJ this];exact q
   ·intro q
    by_cases hi':i < js.length
    ·rw[aJ hi'] at q;exact q
    ·have:i=js.length:=by
      have:=(aL.mp q).1
      simp at this;lia
     subst this
     simp at q
     exact absurd q e
 ·intro k hk
  refine eS (aj.mp hk) ?_ ?_
  ·intro hk;exact o.le k hk
  ·intro hk;rw[ae.mp hk];have:=o.size;lia
 ·intro i h' j' e1 e2
  by_cases hi':i < js.length
  ·rw[aJ hi'] at e2
   rw[aJ (by rw[← o.len];exact hi')] at e1
   refine eV (o.way i h' j' e1 e2) ?_;intro n' q1 q2
   exact eW n' q1 (fun k hk=>grow _ (q2 k hk))
  ·have:i=js.length:=by
    have:=(aL.mp e2).1
    simp at this;lia
   subst this
   rw[aF (aI _),ca] at e2
   rw[o.len,aF (aI _),ca] at e1
   injection e1 with eQ;subst eQ;injection e2 with eQ;subst eQ
   exact eW n hj (fun k hk=>grow _ (h3 k hk))
theorem lay_all{m:Nat}(hf:full m=true):∀ (rest hs:List Int) (owner:Array (Option Nat)) (js:List Nat),Own m owner hs js→hs.length+rest.length≤m →
 ∃ owner' js',rest.foldl (init:=some (owner,hs.length)) (fun acc h=>do
  let (owner,k) ← acc
  let j ← layClean.free m owner (turns m) (bits h % (m+1)) (bits h)
  pure (owner.setIfInBounds j (some k),k+1))=some (owner',hs.length+rest.length)∧Own m owner' (hs++rest) js'
 | [],hs,owner,js,o,_=>⟨owner,js,rfl,by rw[ba];exact o⟩
 | h::rest,hs,owner,js,o,hl=>by
   rw[a0] at hl
   refine eV (zjd hf o (by lia) h) ?_;intro j h1 h2
   refine fu (lay_all hf rest (hs++[h]) _ _ h2 (by simp;lia)) ?_;intro owner' js' e o'
   refine fz owner' js' ?_ (by rw[bf] at o';exact o')
   rw[cU]
   rw[bj,bV] at e
   have:(do
    let (owner,k) ← some (owner,hs.length)
    let j ← layClean.free m owner (turns m) (bits h % (m+1)) (bits h)
    pure (owner.setIfInBounds j (some k),k+1))=some (owner.setIfInBounds j (some hs.length),hs.length+1):=by
    show (layClean.free m owner (turns m) (bits h % (m+1)) (bits h)).bind _=_
    rw[h1];rfl
   rw[this,e,a0]
   congr 2
   lia
theorem own0(m:Nat):Own m (Array.replicate (m+1) none) [] [] where
 size:=by simp
 len:=rfl
 nd:=List.nodup_nil
 at_:=fun j i=>by
  constructor
  ·intro q
   rw[Array.getElem?_replicate] at q
   split at q <;> cases q
  ·intro q;simp at q
 le:=fun uA h=>nomatch h
 way:=fun i h j e=>by simp at e
theorem zgz{ld:Bool}{t:SetTable}{m wanted:Nat}{es:Array (Int×Value)}(hf:full m=true)(hm:sizeAbove wanted - 1=m)(hl:es.size≤m)(hled:t.led=ld)(hplain:t.plain=true) :
 ∃ t' order L,t.relaid (es.map (·.1)) wanted=some (t',order)∧order.filterMap (es[·]?)=elems L∧L.length=es.size∧ji t' m ld L∧Rise L∧Reach L m∧(∀ e∈L,e.1≤m)∧(∀ p,(∃ e∈L,e.2=p)↔p∈es):=by
 refine fu (lay_all hf (es.toList.map (·.1)) [] _ _ (own0 m) (by simp;exact hl)) ?_;intro owner js e1 o
 rw[List.nil_append] at o
 have hn:js.length=es.size:=by rw[o.len];simp
 have elay:layClean m (es.map (·.1))=some owner:=by
  unfold layClean
  have:(es.map (·.1))=(es.toList.map (·.1)).toArray:=by apply Array.toList_inj.mp;simp
  rw[this,← Array.foldl_toList]
  rw[List.toList_toArray]
  rw[show (0:Nat)=([]:List Int).length from rfl,e1]
  rfl
 let live:=(List.range (m+1)).filterMap fun j=>(owner.getD j none).map (j,·)
 have mem_live:∀ j i,(j,i)∈live↔js[i]?=some j:=fun j i=>by
  rw[← o.at_]
  simp only[live,List.mem_filterMap,a7]
  constructor
  ·rintro⟨k,hk,e⟩
   rw[bz,bh (by rw[o.size];exact hk)] at e
   simp only[dK,aE,Prod.mk.injEq] at e
   refine fj e ?_;clear e;intro i' h1 dY dZ;subst dY;subst dZ
   rw[bh (by rw[o.size];exact hk),h1]
  ·intro q
   have hk:=(Array.getElem?_eq_some_iff.mp q).1
   refine eW j (by rw[← o.size];exact hk) ?_
   rw[bz,q];rfl
 have idx_lt:∀ j i,(j,i)∈live→i < es.size:=fun j i h=>by
  have:=(aL.mp ((mem_live j i).mp h)).1
  lia
 let entOf:Nat×Nat→Ent:=fun x=>(x.1,es.getD x.2 (0,.none))
 have get_es:∀ i,i < es.size→es[i]?=some (es.getD i (0,.none)):=fun i hi=>by
  rw[bz,bh hi];rfl
 have rise_live:live.Pairwise fun a b=>a.1 < b.1:=by
  refine List.Pairwise.filterMap _ ?_ List.pairwise_lt_range
  intro a b hab x hx y hy
  simp only[aE] at hx hy
  refine eV hx ?_;clear hx;intro _ _ dY;subst dY
  refine eV hy ?_;clear hy;intro _ _ dY;subst dY
  exact hab
 have len_live:live.length=es.size:=by
  have nd1:(live.map (·.1)).Nodup:=by
   refine List.Pairwise.imp (R:=(· < ·)) (fun h=>a8 h) (List.pairwise_map.mpr rise_live)
  have a1:=nodup_le nd1 (l':=js) fun x hx=>by
   refine eV (aC.mp hx) ?_;intro p hp dY;subst dY
   exact aw ((mem_live p.1 p.2).mp hp)
  have a2:=nodup_le o.nd (l':=live.map (·.1)) fun x hx=>by
   refine eZ (bX hx) ?_;intro i hi
   exact aC.mpr ⟨(x,i),(mem_live x i).mpr hi,rfl⟩
  rw[aG] at a1 a2
  lia
 refine⟨{ mask:=m,place:=(live.map (·.1)).toArray,dummies:=#[],finger:=t.finger,led:=t.led,moves:=t.movedTo m,plain:=t.plain },(live.map (·.2)).toArray,live.map entOf,?_,?_,by rw[aG,len_live],⟨rfl,?_,rfl,hled,hplain⟩,?_,?_,?_,?_⟩
 ·unfold relaid laid
  rw[hm,elay]
  rfl
 ·-- the order
  unfold elems
  show Array.filterMap (fun x=>es[x]?) (live.map (·.2)).toArray=_
  rw[List.filterMap_toArray,cO,List.filterMap_map]
  congr 1
  have:∀ l:List (Nat×Nat),(∀ x∈l,x∈live)→l.filterMap ((fun x=>es[x]?)∘fun x=>x.2)=l.map ((fun x=>x.2)∘entOf):=by
   intro l
   induction l with
   | nil=>intro _;rfl
   | cons x l ih=>
     intro hx
     rw[dP,a9]
     have e9:((fun x=>es[x]?)∘fun x:Nat×Nat=>x.2) x=some (es.getD x.2 (0,.none)):=get_es x.2 (idx_lt x.1 x.2 (hx x am))
     rw[e9]
     dsimp only
     rw[ih fun y hy=>hx y (ag _ hy)]
     rfl
  exact this live fun uA h=>h
 ·unfold places
  rw[cO];rfl
 ·exact List.pairwise_map.mpr rise_live
 ·intro e he
  refine eV (aC.mp he) ?_;intro x hx dY;subst dY
  have hx':=(mem_live x.1 x.2).mp hx
  have hlt:=idx_lt x.1 x.2 hx
  obtain⟨n,h1,h2⟩:=o.way x.2 (es.getD x.2 (0,.none)).1 x.1 (by
   rw[aT,aP,get_es x.2 hlt];rfl) hx'
  refine eW n h1 (fun k hk=>?_)
  refine eZ (h2 k hk) ?_;intro i hi
  exact eW (entOf ((advN m k (yt m (es.getD x.2 (0,.none)).1)).j,i)) (aC.mpr ⟨_,(mem_live _ i).mpr ((o.at_ _ i).mp hi),rfl⟩) rfl
 ·intro e he
  refine eV (aC.mp he) ?_;intro x hx dY;subst dY
  exact o.le x.1 (aw ((mem_live x.1 x.2).mp hx))
 ·intro p
  constructor
  ·rintro⟨e,he,rfl⟩
   refine eV (aC.mp he) ?_;intro x hx dY;subst dY
   exact Array.mem_of_getElem? (get_es x.2 (idx_lt x.1 x.2 hx))
  ·intro hp
   obtain⟨i,hi,e⟩:=Array.getElem_of_mem hp
   have hj:i < js.length:=by lia
   refine eW (entOf (js[i],i)) (aC.mpr ⟨(js[i],i),(mem_live _ _).mpr (ao hj),rfl⟩) ?_
   show es.getD i (0,.none)=p
   rw[bz,bh hi,← e];rfl
theorem Rise.unique{L:List Ent}(h:Rise L):∀ {e e':Ent},e∈L→e'∈L→e.1=e'.1→e=e':=by
 induction L with
 | nil=>intro e e' he;exact absurd he cM
 | cons x L ih=>
   intro e e' he he' q
   refine fb (aA.mp h) ?_;intro h1 h2
   refine eS (af.mp he) ?_ ?_
   ·intro r;refine eS (af.mp he') ?_ ?_
    ·intro r';rw[r,r']
    ·intro r';subst r;have:=h1 e' r';lia
   ·intro r;refine eS (af.mp he') ?_ ?_
    ·intro r';subst r';have:=h1 e r;lia
    ·intro r';exact ih h2 r r' q
theorem FirstFree.next{L:List Ent}{m n:Nat}{p:Probe}(h:FirstFree L m (n+1) p):FirstFree L m n (advM m p):=
 ⟨h.1,fun k hk=>h.2 (k+1) (by exact Nat.lt_succ_of_le (by assumption))⟩
theorem FirstFree.drop{L:List Ent}{m:Nat}:∀ (k:Nat) {n:Nat} {p:Probe},FirstFree L m n p→k≤n→FirstFree L m (n - k) (advN m k p)
 | 0,n,p,h,_=>h
 | k+1,n,p,h,hk=>by
   obtain⟨n,rfl⟩ : ∃ n',n=n' + 1:=⟨n - 1,by lia⟩
   have:=FirstFree.drop k h.next (by exact Nat.le_of_lt_succ (by assumption))
   rw[show n+1 - (k+1)=n - k by lia]
   exact this
theorem advM_dummy{m:Nat}{p:Probe}:(advM m p).dummy=p.dummy:=by unfold advM;split <;> rfl
theorem znz{t:SetTable}{hashAt:Nat→Int}{h:Int}{fuel:Nat}{p:Probe}{x:Slot}(hs:t.slot p.j=x):probe.go t hashAt h (fuel+1) p=match (generalizing:=false) x with
 | .empty=>some (.empty p.j p.dummy)
 | .dummy=>probe.go t hashAt h fuel (t.advance { p with dummy:=some p.j })
 | .live i=>if hashAt i == h then some (.candidate p.j i (t.advance p)) else probe.go t hashAt h fuel (t.advance p):=by subst hs;rfl
theorem zsf{t:SetTable}{m:Nat}{ld:Bool}{L:List Ent}(ht:ji t m ld L)(hr:Rise L){hashAt:Nat→Int}(hh:∀ (i:Nat) (e:Int×Value),(elems L)[i]?=some e→hashAt i=e.1){h:Int} :
 ∀ (fuel n:Nat) (p:Probe),n < fuel→p.dummy=none→FirstFree L m n p →
  (∃ k A e B,k < n∧L=A++e::B∧e.1=(advN m k p).j∧e.2.1=h∧probe.go t hashAt h fuel p=some (.candidate e.1 A.length (advM m (advN m k p)))∧∀ k',k' < k→∀ e'∈L,e'.1=(advN m k' p).j→e'.2.1≠h) ∨
  ((∀ k,k < n→∀ e∈L,e.1=(advN m k p).j→e.2.1≠h)∧probe.go t hashAt h fuel p=some (.empty (advN m n p).j none)):=by
 intro fuel
 induction fuel with
 | zero=>exact fun n uA hn=>absurd hn (bq _)
 | succ fuel ih=>
   intro n p hn hd hf
   cases n with
   | zero=>
     exact .inr ⟨fun k hk=>absurd hk (bq _),(znz (zed ht hr (fun e he=>hf.1 e he))).trans (hd ▸ rfl)⟩
   | succ n=>
     refine eV (hf.2 0 (Nat.succ_pos n)) ?_;intro e he hej
     have hej:e.1=p.j:=hej
     refine fA (List.append_of_mem he) ?_;intro A B hL
     have hs:t.slot p.j=.live A.length:=hej ▸ zad (hL ▸ ht) (hL ▸ hr)
     have hhe:hashAt A.length=e.2.1:=hh A.length e.2 (by rw[hL];simp[elems])
     have ego:=znz (hashAt:=hashAt) (h:=h) (fuel:=fuel) hs
     dsimp only at ego
     rw[zfl,ht.mask] at ego
     by_cases hq:e.2.1=h
     ·have ego:=ego.trans (ah (by rw[hhe,hq];exact cq _))
      exact .inl ⟨0,A,e,B,Nat.succ_pos n,hL,hej,hq,hej ▸ ego,fun k' hk'=>absurd hk' (bq _)⟩
     ·have zero:∀ e'∈L,e'.1=p.j→e'.2.1≠h:=fun e' he' q=>hr.unique he' he (q.trans hej.symm) ▸ hq
      have ego:=ego.trans (ai (by rw[hhe];exact fun q=>hq (aS.mp q)))
      rw[ego]
      refine eS (ih n (advM m p) (bP hn) (advM_dummy.trans hd) hf.next) ?_ ?_
      ·rintro ⟨k,A',e',B',h1,h2,h3,h4,h5,h6⟩;refine .inl ⟨k+1,A',e',B',Nat.succ_lt_succ h1,h2,h3,h4,h5,fun k' hk'=>?_⟩
       cases k' with
       | zero=>exact zero
       | succ k'=>exact h6 k' (bP hk')
      ·rintro ⟨h1,h2⟩;refine .inr ⟨fun k hk=>?_,h2⟩
       cases k with
       | zero=>exact zero
       | succ k=>exact h1 k (bP hk)
section
variable{prog:Program}{w:World}{A:Around}{E:Value→Shared→Prop}{s:Shared}
variable(prog w) in
noncomputable abbrev TK(h:Heap)(ks:List Int)(a:Addr):Prop:=IsTupleKey (intKind prog w) h ks a
variable(prog w) in
noncomputable abbrev tkh(ks:List Int):Int:=tupleKeyHash (intKind prog w) ks
variable(prog w) in
noncomputable def Ents(h:Heap)(L:List Ent):Prop:=∀ e∈L,∃ a ks,e.2.2=.ref a∧TK prog w h ks a∧e.2.1=tkh prog w ks
theorem du(n:Nat){v:Value}(h:carriedByValue v=true):ofAClassStatement n v=pure false:=by
 cases v with
 | ref a=>simp[carriedByValue] at h
 | _=>cases n <;> rfl
theorem pn{d:Nat}{ks:List Int}{a:Addr}{Q:Bool→Shared→Prop}(hk:TK prog w s.heap ks a)(h:Q false s):wpAny (model prog w) A (ofAClassStatement (d+1) (.ref a)) Q E s:=by
 have hT:=IsTupleKey.typeIs hk
 refine eX hk ?_;clear hk;intro o items n ho _ hd hi
 unfold ofAClassStatement
 refine aa (wpAny_typeOf hT ?_)
 refine dD rfl (aa (ab (a5 rfl ?_)))
 refine aa (bB ho hd (aa ?_))
 show wpAny _ _ (forIn items _ _) _ _ s
 rw[← cy]
 refine bA _ (fun rest r s'=>r.1=none∧s'=s∧∀ v∈rest,carriedByValue v=true) _ ?_ ?_ _ _ ⟨rfl,rfl,hi.byValue⟩
 ·rintro v rest r s' ⟨hr,rfl,hall⟩
  rw[du _ (hall v am)]
  refine aa (ab (a5 rfl ?_))
  exact ab ⟨rfl,rfl,fun u hu'=>hall u (ag _ hu')⟩
 ·rintro⟨r1,r2⟩ s' ⟨hr,rfl,_⟩
  simp only at hr
  subst hr
  exact ab h
theorem zlu{ks:List Int}{a:Addr}{l:List Value}{Q:Bool→Shared→Prop}(hk:TK prog w s.heap ks a)(hl:∀ y∈l,∃ b ks',y=.ref b∧TK prog w s.heap ks' b)(h:Q false s) :
 wpAny (model prog w) A (searchCouldBeSeen (.ref a) l) Q E s:=by
 unfold searchCouldBeSeen
 refine aa ?_
 refine bA _ (fun rest r s'=>r.1=none∧s'=s∧∀ y∈rest,∃ b ks',y=.ref b∧TK prog w s.heap ks' b) _ ?_ ?_ _ _ ⟨rfl,rfl,hl⟩
 ·rintro v rest r s' ⟨hr,rfl,hall⟩
  refine fu (hall v am) ?_;intro b ks' dY hb;subst dY
  have next:∀ r:Option Bool×PUnit,r.1=none→∀ y∈rest,∃ b ks',y=Value.ref b∧TK prog w s'.heap ks' b:=fun uA uA y hy=>hall y (ag _ hy)
  dsimp only
  refine dU (fun uA=>ab ⟨rfl,rfl,next (none,()) rfl⟩) fun uA=>?_
  refine aa (wpAny_eqIsQuiet_tuple hk (a5 rfl ?_))
  refine aa (wpAny_eqIsQuiet_tuple hb (a5 rfl ?_))
  refine aa (pn hk (a5 rfl ?_))
  refine aa (pn hb (a5 rfl ?_))
  exact ab ⟨rfl,rfl,next (none,()) rfl⟩
 ·rintro⟨r1,r2⟩ s' ⟨hr,rfl,_⟩
  simp only at hr
  subst hr
  exact ab h
theorem zfm{m:Nat}(n:Nat):∀ (p:Probe),(advN m n p).dummy=p.dummy:=by
 induction n with
 | zero=>exact fun uA=>rfl
 | succ n ih=>exact fun p=>(ih _).trans advM_dummy
theorem zlp{α:Type}{o:Option (Int×Value)}{x:Int}{y:Value}{f:Int→Value→Sem α}{g:Sem α}{Q:α→Shared→Prop}(h:o=some (x,y))(k:wpAny (model prog w) A (f x y) Q E s) :
 wpAny (model prog w) A (match o with | some (x,y)=>f x y | none=>g) Q E s:=by subst h;exact k
theorem zim{α:Type}{o:Option (Int×Value)}{x:Int}{y:Value}{f:Value→Sem α}{g:Sem α}{Q:α→Shared→Prop}(h:o=some (x,y))(k:wpAny (model prog w) A (f y) Q E s) :
 wpAny (model prog w) A (match o with | some (_,y)=>f y | _=>g) Q E s:=by subst h;exact k
theorem zgy{S:Addr}{o:Obj}{ep m:Nat}{t:SetTable}{ld:Bool}{L:List Ent}(ho:s.heap.get? S=some o)(hd:o.data=.set (elems L) ep t)(ht:ji t m ld L)(hr:Rise L)(hL:L.length≤m)(hodd:m % 2=1)
 (he:Ents prog w s.heap L) (hu:A.units < cLine) {a:Addr} {ks:List Int} (hk:TK prog w s.heap ks a) {Q:SetFound→Shared→Prop} (hQ1:(∃ e∈L,∃ b,e.2.2=.ref b∧TK prog w s.heap ks b)→Q (.there none) s) :
 ∀ (fuel n:Nat) (st:Option Probe) (p:Probe),st.getD (t.probeStart (tkh prog w ks))=p→n < fuel→n < 10 * turns m→p.dummy=none→FirstFree L m n p →
  ((∀ k,k < n→∀ e∈L,e.1=(advN m k p).j→∀ b,e.2.2=.ref b→¬ TK prog w s.heap ks b)→Q (.free (advN m n p).j false) s) →
  wpAny (model prog w) A (setSearchFrom S (.ref a) (tkh prog w ks) true fuel st) Q E s:=by
 have hfit:t.fits (elems L).size=true:=by
  simp only[SetTable.fits,SetTable.fill,ht.place,ht.dummies,ht.mask,places,elems,aD,aS,aO]
  simp;exact hL
 have hgw:t.gaveWay=false:=by unfold gaveWay;rw[ht.mask,hodd];decide
 have other:∀ e∈L,e.2.1≠tkh prog w ks→∀ b,e.2.2=.ref b→¬ TK prog w s.heap ks b:=fun e heL hne b hb hkb=>by
  refine fh (he e heL) ?_;intro b' ks' e1 e2 e3
  rw[hb] at e1;injection e1 with eQ;subst eQ
  rw[IsTupleKey.inj e2 hkb] at e3
  exact hne e3
 have hseen:∀ y∈((elems L).filter (·.1 == tkh prog w ks)).toList.map (·.2),∃ b ks',y=.ref b∧TK prog w s.heap ks' b:=fun y hy=>by
  refine eV (aC.mp hy) ?_;intro z hz dY;subst dY
  have hz':z∈elems L:=(Array.mem_filter.mp (Array.mem_toList_iff.mp hz)).1
  unfold elems at hz'
  rw[List.mem_toArray] at hz'
  refine eV (aC.mp hz') ?_;intro e' he' dY;subst dY
  refine fh (he e' he') ?_;intro b' ks'' q1 q2 _
  exact fz b' ks'' q1 q2
 intro fuel
 induction fuel with
 | zero=>exact fun n uA uA uA hn=>absurd hn (bq _)
 | succ fuel ih=>
   intro n st p hst hn hn' hpd hf hQ2
   have hgo:=zsf ht hr (hashAt:=fun i=>((elems L)[i]?.map (·.1)).getD 0) (fun i e he=>by rw[he];rfl) (h:=tkh prog w ks) (10 * turns t.mask) n p (by rw[ht.mask];exact hn') hpd hf
   refine eS hgo ?_ ?_<;>clear hgo
   ·rintro ⟨k,A',e,B',h1,h2,h3,h4,h5,h6⟩;have heL:e∈L:=by rw[h2];simp
    refine fh (he e heL) ?_;intro b ks' e1 e2 e3
    have hget:(elems L)[A'.length]?=some e.2:=by rw[h2];simp[elems]
    have hsl:t.slot e.1=.live A'.length:=zad (h2 ▸ ht) (h2 ▸ hr)
    have hle:=Nat.succ_le_of_lt h1
    have hadv:advM m (advN m k p)=advN m (k+1) p:=by rw[xx];rfl
    have again:ks'≠ks→wpAny (model prog w) A (setSearchFrom S (.ref a) (tkh prog w ks) true fuel (some (advM m (advN m k p)))) Q E s:=fun hkk=>by
     refine ih (n - (k+1)) _ (advN m (k+1) p) hadv (bS (Nat.sub_le_sub_left (Nat.succ_pos k) n) (Nat.sub_lt_left_of_lt_add (bS (be _) h1) (Nat.add_comm _ _ ▸ hn))) (bS (Nat.sub_le _ _) hn') ((zfm _ p).trans hpd) (hf.drop (k+1) hle) fun hno=>?_
     rw[← xx,Nat.add_sub_of_le hle]
     refine hQ2 fun i hi e' he' q=>?_
     rcases Nat.lt_trichotomy i k with hik | rfl | hik
     ·exact other e' he' (h6 i hik e' he' q)
     ·rw[hr.unique he' heL (q.trans h3.symm)]
      intro b' hb' hkb'
      rw[e1] at hb';injection hb' with eQ;subst eQ
      exact hkk (IsTupleKey.inj e2 hkb')
     ·exact hno (i - (k+1)) (Nat.sub_lt_sub_right hik hi) e' he' (by rw[← xx,Nat.add_sub_of_le hik];exact q)
    clear ih hQ2 hf hpd hn hn' h6 h3 h4 hadv
    obtain⟨ej,eh,ev⟩:=e
    have e1:ev=.ref b:=e1
    subst e1
    have hsm:t.sameMemory t.moves t.mask=some true:=by unfold sameMemory;rw[ah (cq _)]
    have hlast:wpAny (model prog w) A (do
     if true && decide (ks'=ks) then return .there none
     let some same:=t.sameMemory t.moves t.mask | unsupported "set.changed-during-lookup:is-the-new-block-at-the-old-address"
     let still ← match (if same then t.slot ej else .empty) with
      | .live i'=>match (elems L)[i']? with
        | some (_,y')=>do pure (if ← isSame y' (.ref b) then some i' else none)
        | none=>pure none
      | _=>pure none
     match still with
     | none=>rule "set.search.anew";setSearchFrom S (.ref a) (tkh prog w ks) true fuel none
     | some i'=>if decide (ks'=ks) then return .there (some i') else setSearchFrom S (.ref a) (tkh prog w ks) true fuel (some (advM m (advN m k p)))) Q E s:=by
     rw[hsm,hsl]
     by_cases hkk:ks'=ks
     ·exact dD (by rw[aH hkk];rfl) (ab (hQ1 ⟨_,heL,b,rfl,hkk ▸ e2⟩))
     ·exact a5 (by rw[aQ hkk];rfl) (zlp hget (aa (wpAny_isSame_ref_self (aa (ab (a5 (by rw[aQ hkk];rfl) (again hkk)))))))
    clear again hsm hsl
    show wpAny _ _ (setState S >>= _) _ _ _
    refine aa (bw ho hd hfit ?_)
    refine a5 (by rw[hgw];rfl) ?_
    dsimp only
    rw[hst]
    unfold probe
    erw [h5]
    refine dU (fun uA=>aa (zlu hk hseen (a5 rfl ?_))) fun uA=>?_ <;> (refine zim hget ?_;exact (aa (aR (wpAny_eqBool_tuple hu e2 hk (aa (bw ho hd hfit hlast))))))
   ·rintro ⟨h1,h2⟩;show wpAny _ _ (setState S >>= _) _ _ _
    refine aa (bw ho hd hfit ?_)
    refine a5 (by rw[hgw];rfl) ?_
    dsimp only
    rw[hst]
    unfold probe
    erw [h2]
    exact ab (hQ2 fun k hk e' he' q=>other e' he' (h1 k hk e' he' q))
end
section
variable{prog:Program}{w:World}{A:Around}{E:Value→Shared→Prop}{s:Shared}
theorem d0{ks:List Int}{a:Addr}{Q:Bool→Shared→Prop}(hk:TK prog w s.heap ks a)(h:Q true s):wpAny (model prog w) A (hashByValue 8 (.ref a)) Q E s:=by
 have hT:=IsTupleKey.typeIs hk
 refine eX hk ?_;clear hk;intro o items n ho _ hd hi
 have hint:∀ v∈items.toList,∃ i t,v=.int i t:=by
  generalize items.toList=l at hi
  induction hi with
  | nil=>intro v hv;simp at hv
  | @cons k v' ks vs h1 _ ih=>
    intro v hv
    refine eS (af.mp hv) ?_ ?_
    ·rintro rfl;cases v with
     | int i t=>exact fD i t rfl
     | _=>exfalso;injection h1
    ·intro hv;exact ih v hv
 unfold hashByValue
 refine aa (bM hT F.slot_tuple_hash.lookup ?_)
 dsimp only
 refine aa (bB ho hd ?_)
 refine aa ?_
 show wpAny _ _ (forIn items _ _) _ _ s
 rw[← cy]
 refine bA _ (fun rest r s'=>r.1=none∧s'=s∧∀ v∈rest,∃ i t,v=Value.int i t) _ ?_ ?_ _ _ ⟨rfl,rfl,hint⟩
 ·rintro v rest r s' ⟨hr,rfl,hall⟩
  refine fA (hall v am) ?_;intro i t dY;subst dY
  have e:hashByValue 7 (.int i t)=pure true:=by first | rfl | simp[hashByValue]
  rw[e]
  exact aa (ab (a5 rfl (ab ⟨rfl,rfl,fun u hu'=>hall u (ag _ hu')⟩)))
 ·rintro⟨r1,r2⟩ s' ⟨hr,rfl,_⟩
  simp only at hr
  subst hr
  exact ab h
variable(prog w) in
inductive TSet(h:Heap)(S:Addr)(ld:Bool)(K:List (List Int)):Prop
 | mk (o:Obj) (ep:Nat) (t:SetTable) (m:Nat) (L:List Ent) (ho:h.get? S=some o) (hex:o.ExactSet) (hd:o.data=.set (elems L) ep t) (ht:ji t m ld L) (hr:Rise L) (hre:Reach L m) (hlen:L.length=K.length) (hnd:K.Nodup) (hent:Ents prog w h L)
   (hmem:∀ ks,ks∈K↔∃ e∈L,∃ b,e.2.2=.ref b∧TK prog w h ks b) (hm:(m=7∧L.length≤4)∨(m=31∧L.length≤18))
theorem zbl{h h':Heap}{S:Addr}{o:Obj}(ho:h.get? S=some o)(hc:o.ExactSet)(hs:Heap.SameBut S h h'){ks:List Int}{b:Addr}(hk:TK prog w h ks b):TK prog w h' ks b:=by
 refine fq hk ?_;clear hk;intro o' items n ho' hc' r
 refine fx o' items n ((hs.2 b fun q=>?_).trans ho') hc' r
 subst q
 rw[ho] at ho';injection ho' with eQ;subst eQ
 rw[hc.1] at hc';exact absurd hc' (by decide)
theorem zlk{h h':Heap}{S:Addr}{o':Obj}(ho:h'.get? S=some o')(hc:o'.ExactSet)(hs:Heap.SameBut S h h'){ks:List Int}{b:Addr}(hk:TK prog w h' ks b):TK prog w h ks b:=by
 refine fq hk ?_;clear hk;intro o items n ho' hc' r
 refine fx o items n ((hs.2 b fun q=>?_).symm.trans ho') hc' r
 subst q
 rw[ho] at ho';injection ho' with eQ;subst eQ
 rw[hc.1] at hc';exact absurd hc' (by decide)
theorem zej(a:Addr)(wanted:Nat):setRelay a wanted=(do
 let (es,_,t) ← setState a
 if SetTable.sizeAbove wanted > sizeLine then unsupported "set:memory"
 let (es,t) ← (do
  let some (t,order):=t.relaid (es.map (·.1)) wanted | unsupported "internal:set-table-without-room"
  let es':=order.filterMap (es[·]?)
  if es'.size != es.size then unsupported "internal:set-table-lost-an-element"
  pure (es',t):Sem (Array (Int×Value)×SetTable))
 storeSet a es t):=rfl
theorem ziu{S:Addr}{o:Obj}{ep:Nat}{t:SetTable}{ld:Bool}{L:List Ent}(ho:s.heap.get? S=some o)(hd:o.data=.set (elems L) ep t)(ht:ji t 7 ld L)(h5:L.length=5){Q:Unit→Shared→Prop}
 (h:∀ t' L',ji t' 31 ld L'→Rise L'→Reach L' 31→L'.length=5→(∀ p,(∃ e∈L',e.2=p)↔∃ e∈L,e.2=p)→Q () { s with heap:=s.heap.update S (Obj.putSet (elems L') t') }) :
 wpAny (model prog w) A (setRelay S (grown 5)) Q E s:=by
 have hsz:(elems L).size=5:=by simp[elems,h5]
 have hfit:t.fits (elems L).size=true:=by
  simp only[SetTable.fits,SetTable.fill,ht.place,ht.dummies,ht.mask,places,elems,aD,aS,aO]
  simp[h5]
 have h32:sizeAbove (grown 5)=32:=by decide
 refine fC (zgz (t:=t) (wanted:=grown 5) (es:=elems L) zj1 (by rw[h32]) (by rw[hsz];decide) ht.led ht.plain) ?_;intro t' order L' e1 e2 e3 e4 ez;refine fw ez ?_;clear ez;intro e5 e6 e7 e8
 have hl':(elems L').size=(elems L).size:=by rw[← e3];simp[elems]
 have fin:=h t' L' e4 e5 e6 (by rw[e3,hsz]) fun p=>by
  rw[e8]
  unfold elems
  rw[List.mem_toArray,aC]
 rw[← e2] at fin hl'
 clear h e2 e3 e4 e5 e6 e7 e8
 rw[zej]
 refine aa (bw ho hd hfit (a5 (by rw[h32,bO];rfl) (aa ?_)))
 dsimp only
 rw[e1]
 exact a5 (by rw[hl',cE];rfl) (ab (wpAny_storeSet_of ho hd fin (by rw[hl',hsz,bO];decide)))
theorem g9(a:Addr)(x:Value)(h:Int)(fuel:Nat):setAddHashedIn a x h (fuel+1)=(do
 let (es₀,_,t₀) ← setState a
 if byScan x es₀ then
  match ← setAddByScan a x h es₀ t₀ with
  | some added=>return added
  | none=>return ← setAddHashedIn a x h fuel
 let .free slot wasDummy ← setSearch a x h (adding:=true) | return false
 let (es,_,t) ← setState a
 let (t,p):=t.put slot
 let byValue ← if t.plain then hashByValue 8 x else pure true
 let t:=if byValue then t else { t with plain:=false }
 storeSet a (SetTable.insertAt es p (h,x)) t
 if !wasDummy && t.tooFull then setRelay a (SetTable.grown (es.size+1))
 return true):=rfl
theorem ziy{t:SetTable}{m n:Nat}{ld:Bool}{L:List Ent}{h:Int}{x:Value}(ht:ji t m ld L)(hr:Rise L)(hre:Reach L m)(hf:FirstFree L m n (yt m h)) :
 ∃ p t₁ L',t.put (advN m n (yt m h)).j=(t₁,p)∧insertAt (elems L) p (h,x)=elems L'∧ji t₁ m ld L'∧Rise L'∧Reach L' m∧L'.length=L.length+1∧∀ y,(∃ e∈L',e.2=y)↔y=(h,x)∨∃ e∈L,e.2=y:=by
 refine fE (zo3 ht hr hf.1 h x) ?_;intro A B dY p1 p2 p3 p4;subst dY
 refine⟨A.length,_,_,Prod.ext rfl p1,p4,p2,p3,hre.put hf,?_,fun y=>?_⟩
 ·rw[bj,bj];rfl
 ·constructor
  ·rintro⟨e,he,rfl⟩
   refine eS (aj.mp he) ?_ ?_
   ·intro he;exact .inr ⟨e,az _ he,rfl⟩
   ·intro he;refine eS (af.mp he) ?_ ?_
    ·rintro rfl;exact .inl rfl
    ·intro he;exact .inr ⟨e,au _ he,rfl⟩
  ·rintro (rfl | ⟨e,he,rfl⟩)
   ·exact eW _ (au _ am) rfl
   ·refine eW e ?_ rfl
    refine eS (aj.mp he) ?_ ?_
    ·intro he;exact az _ he
    ·intro he;exact au _ (ag _ he)
theorem TSet.more{h h':Heap}{S a:Addr}{ld:Bool}{K:List (List Int)}{ks:List Int}{o o':Obj}{ep' m':Nat}{t':SetTable}{L L' L'':List Ent}(ho:h.get? S=some o)(hex:o.ExactSet)(hk:TK prog w h ks a)(hlen:L.length=K.length)(hnd:K.Nodup)(hent:Ents prog w h L)
 (hmem:∀ ks,ks∈K↔∃ e∈L,∃ b,e.2.2=.ref b∧TK prog w h ks b) (hnK:ks∉K) (hnew:∀ y,(∃ e∈L',e.2=y)↔y=(tkh prog w ks,Value.ref a)∨∃ e∈L,e.2=y)
 (hsb:Heap.SameBut S h h') (ho':h'.get? S=some o') (hex':o'.ExactSet) (hd':o'.data=.set (elems L'') ep' t') (ht':ji t' m' ld L'') (hr':Rise L'') (hre':Reach L'' m') (hl':L''.length=L.length+1)
 (hsame:∀ p,(∃ e∈L'',e.2=p)↔∃ e∈L',e.2=p) (hm':(m'=7∧L''.length≤4)∨(m'=31∧L''.length≤18)):TSet prog w h' S ld (K++[ks]):=by
 have hn:∀ y,(∃ e∈L'',e.2=y)↔y=(tkh prog w ks,Value.ref a)∨∃ e∈L,e.2=y:=fun y=>(hsame y).trans (hnew y)
 have tk:=zbl ho hex hsb hk
 refine⟨o',ep',t',m',L'',ho',hex',hd',ht',hr',hre',by rw[hl',hlen,bj];rfl,?_,?_,fun ks'=>?_,hm'⟩
 ·exact cj.mpr ⟨hnd,bk.mpr ⟨cM,List.nodup_nil⟩,fun x hx y hy=>by rw[ae.mp hy];rintro rfl;exact hnK hx⟩
 ·intro e he
  refine eS ((hn e.2).mp ⟨e,he,rfl⟩) ?_ ?_
  ·intro q;rw[q];exact fg a ks rfl tk rfl
  ·rintro ⟨e₁,he₁,q⟩;rw[← q]
   refine fh (hent e₁ he₁) ?_;intro b ks' q1 q2 q3
   exact fg b ks' q1 (zbl ho hex hsb q2) q3
 ·rw[aj,ae,hmem]
  constructor
  ·rintro (⟨e,he,b,hb,hkb⟩ | rfl)
   ·refine eV ((hn e.2).mpr (.inr ⟨e,he,rfl⟩)) ?_;intro e₁ he₁ q
    exact⟨e₁,he₁,b,q ▸ hb,zbl ho hex hsb hkb⟩
   ·refine eV ((hn _).mpr (.inl rfl)) ?_;intro e₁ he₁ q
    exact⟨e₁,he₁,a,q ▸ rfl,tk⟩
  ·rintro⟨e,he,b,hb,hkb⟩
   have hkb':TK prog w h ks' b:=zlk ho' hex' hsb hkb
   refine eS ((hn e.2).mp ⟨e,he,rfl⟩) ?_ ?_
   ·intro q;rw[q] at hb
    injection hb with eQ;subst eQ
    exact .inr (IsTupleKey.inj hkb' hk)
   ·rintro ⟨e₁,he₁,q⟩;exact .inl ⟨e₁,he₁,b,q ▸ hb,hkb'⟩
theorem zd7{t:SetTable}{m:Nat}{ld:Bool}{L:List Ent}(ht:ji t m ld L):t.tooFull=decide (m * 3≤L.length * 5):=by
 unfold tooFull fill
 rw[ht.place,ht.dummies,ht.mask]
 simp[places]
theorem zne{S:Addr}{ld:Bool}{K:List (List Int)}(hS:TSet prog w s.heap S ld K)(hu:A.units < cLine){a:Addr}{ks:List Int}(hk:TK prog w s.heap ks a)(hK:K.length≤17){Q:Bool→Shared→Prop}
 (h:∀ b h',Heap.SameBut S s.heap h'→TSet prog w h' S ld (if ks∈K then K else K++[ks])→Q b { s with heap:=h' }) :
 wpAny (model prog w) A (setAddHashed S (.ref a) (tkh prog w ks)) Q E s:=by
 have old:ks∈K→∀ b,Q b s:=fun hin b=>h b s.heap (Heap.SameBut.refl S s.heap) (by rw[ah hin];exact hS)
 have new:ks∉K→∀ b h',Heap.SameBut S s.heap h'→TSet prog w h' S ld (K++[ks])→Q b { s with heap:=h' }:=fun hin b h' hs hT=>h b h' hs (by rw[ai hin];exact hT)
 clear h
 obtain⟨o,ep,t,m,L,ho,hex,hd,ht,hr,hre,hlen,hnd,hent,hmem,hm⟩:=hS
 have hLm:L.length≤m:=by (refine eS hm ?_ ?_<;>clear hm;rotate_left;rintro ⟨rfl,h⟩;rotate_right;rintro ⟨rfl,h⟩) <;> exact aq h (by decide)
 have hfull:full m=true:=by (refine eS hm ?_ ?_<;>clear hm;rotate_left;rintro ⟨rfl,_⟩;rotate_right;rintro ⟨rfl,_⟩) <;> first | exact zsh | exact zj1
 have hodd:m % 2=1:=by (refine eS hm ?_ ?_<;>clear hm;rotate_left;rintro ⟨rfl,_⟩;rotate_right;rintro ⟨rfl,_⟩) <;> rfl
 have hfit:t.fits (elems L).size=true:=by
  simp only[SetTable.fits,SetTable.fill,ht.place,ht.dummies,ht.mask,places,elems,aD,aS,aO]
  simp;exact hLm
 have hstart:t.probeStart (tkh prog w ks)=yt m (tkh prog w ks):=by
  show lp t.mask (bits (tkh prog w ks) % (t.mask+1)) (bits (tkh prog w ks))=_
  rw[ht.mask];rfl
 refine eV (zhj (L:=L) hfull hLm (zcg m (tkh prog w ks))) ?_;intro n hn hff
 have hturn:n < 100000:=Nat.lt_of_lt_of_le hn (by (refine eS hm ?_ ?_<;>clear hm;rotate_left;rintro ⟨rfl,_⟩;rotate_right;rintro ⟨rfl,_⟩) <;> decide)
 have hnot:(∀ k,k < n→∀ e∈L,e.1=(advN m k (yt m (tkh prog w ks))).j→∀ b,e.2.2=.ref b→¬ TK prog w s.heap ks b)→ks∉K:=fun hno hin=>by
  refine eV ((hmem ks).mp hin) ?_;intro e he dY;refine eV dY ?_;clear dY;intro b hb hkb
  refine fh (hent e he) ?_;intro b' ks' q1 q2 q3
  rw[hb] at q1;injection q1 with eQ;subst eQ
  rw[IsTupleKey.inj q2 hkb] at q3
  refine eV (hre.before he (q3.symm ▸ hff)) ?_;intro k hk1 hk2
  rw[q3] at hk2
  exact hno k hk1 e he hk2.symm b hb hkb
 refine fC (ziy (x:=.ref a) ht hr hre hff) ?_;intro p t₁ L' eput eins p2 p3 ez;refine fc ez ?_;clear ez;intro p4 hlen' hnew
 have hsz':(elems L').size=L.length+1:=by rw[← hlen'];simp[elems]
 have hsb1:=cp s.heap S (Obj.putSet (elems L') t₁)
 have hg1:=bn (Obj.putSet (elems L') t₁) ho (by rw[putSet_of _ _ hd];rfl)
 rw[putSet_of _ _ hd] at hg1
 have last:ks∉K→wpAny (model prog w) A (if (!false && t₁.tooFull)=true then setRelay S (grown ((elems L).size+1)) >>= fun uA=>pure true else pure true) Q E { s with heap:=s.heap.update S (Obj.putSet (elems L') t₁) }:=fun hnK=>by
  have size:(elems L).size=L.length:=by simp[elems]
  rw[zd7 p2,hlen']
  by_cases hfl:m * 3≤(L.length+1) * 5
  ·have h74:m=7∧L.length=4:=by (refine eS hm ?_ ?_<;>clear hm;rotate_left;rintro ⟨rfl,h⟩;rotate_right;rintro ⟨rfl,h⟩) <;> lia
   refine fb h74 ?_;clear h74;intro dW h4;subst dW
   rw[size,h4]
   refine dD (by rw[← h4,aH hfl];rfl) (aa (ziu (s:={ s with heap:=s.heap.update S (Obj.putSet (elems L') t₁) }) hg1 rfl p2 (hlen'.trans (cA (· + 1) h4)) fun t' L'' q1 q2 q3 q4 q5=>ab ?_))
   have hsb2:=cp (s.heap.update S (Obj.putSet (elems L') t₁)) S (Obj.putSet (elems L'') t')
   have hg2:=bn (Obj.putSet (elems L'') t') hg1 (by rw[putSet_of (es:=elems L') (ep:=ep+1) _ _ rfl];rfl)
   rw[putSet_of (es:=elems L') (ep:=ep+1) _ _ rfl] at hg2
   exact new hnK _ _ (hsb1.trans hsb2) (.more ho hex hk hlen hnd hent hmem hnK hnew (hsb1.trans hsb2) hg2 hex rfl q1 q2 q3 (q4.trans (cA (· + 1) h4.symm)) q5 (.inr ⟨rfl,q4 ▸ (by decide)⟩))
  ·exact a5 (by rw[aQ hfl];rfl) (ab (new hnK _ _ hsb1 (.more ho hex hk hlen hnd hent hmem hnK hnew hsb1 hg1 hex rfl p2 p3 p4 hlen' (fun uA=>Iff.rfl) (by rw[hlen'];(refine eS hm ?_ ?_<;>clear hm;rotate_left;rintro ⟨rfl,h⟩;rotate_right;rintro ⟨rfl,h⟩) <;> lia))))
 clear hnew p3 p4 hsb1 hg1 new hfull
 unfold setAddHashed
 rw[g9]
 refine aR (aa (bw ho hd hfit (a5 rfl ?_)))
 refine aa (zgy ho hd ht hr hLm hodd hent hu hk (fun hin=>ab (old ((hmem ks).mpr hin) _)) 100000 n none (yt m (tkh prog w ks)) hstart hturn hn rfl hff fun hno=>?_)
 refine aa (bw ho hd hfit ?_)
 dsimp only
 rw[eput]
 refine dD (by rw[p2.plain];rfl) (aa (d0 hk ?_))
 show wpAny _ _ (storeSet S (insertAt (elems L) p (tkh prog w ks,.ref a)) t₁ >>= _) _ _ _
 rw[eins]
 exact aa (wpAny_storeSet_of ho hd (last (hnot hno)) (by rw[hsz',bO];lia))
end
end Mine
end
section
namespace Mine
open PySem PyProof.Rows PySem.W
noncomputable def addK(K:List (List Int))(ks:List Int):List (List Int):=if ks∈K then K else K++[ks]
noncomputable def yj(kss:List (List Int))(i:Nat):List (List Int):=(kss.take i).foldl addK []
theorem w6{kss:List (List Int)}{i:Nat}{k:List Int}(h:kss[i]?=some k):yj kss (i+1)=addK (yj kss i) k:=by
 unfold yj
 rw[dA,h,List.foldl_append]
 rfl
theorem wi(kss:List (List Int)):∀ i,(yj kss i).length≤i
 | 0=>by simp[yj]
 | i+1=>by
   have ih:=wi kss i
   cases h:kss[i]? with
   | none=>
     have:yj kss (i+1)=yj kss i:=by unfold yj;rw[dA,h];simp
     rw[this];lia
   | some k=>
     rw[w6 h]
     unfold addK
     split
     ·lia
     ·rw[bj,bV];exact Nat.lt_succ_of_le (by assumption)
section
variable{prog:Program}{w:World}{A:Around}{E:Value→Shared→Prop}{s:Shared}
variable{I:Addr}{fp wr:List Addr}{R:Result→Shared→Prop}{P:Nat→Value→Prop}{St:Nat→Heap→Prop}
theorem TK.keep{h h':Heap}{ks:List Int}{b:Addr}(hk:TK prog w h ks b)(hs:∀ b o,h.get? b=some o→h'.get? b=some o):TK prog w h' ks b:=by
 refine fk hk ?_;clear hk;intro o items n ho r
 exact eU o items n (hs b o ho) r
theorem TSet.keep{h h':Heap}{S:Addr}{ld:Bool}{K:List (List Int)}(hS:TSet prog w h S ld K)(z:List Addr)(hz:∀ b∈z,∀ o,h.get? b=some o→o.cls≠.type "tuple")(hSz:S∉z)(hs:∀ b o,b∉z→h.get? b=some o→h'.get? b=some o):TSet prog w h' S ld K:=by
 obtain⟨o,ep,t,m,L,ho,hex,hd,ht,hr,hre,hlen,hnd,hent,hmem,hm⟩:=hS
 have up:∀ {ks:List Int} {b:Addr},TK prog w h ks b→TK prog w h' ks b:=fun {ks b} ⟨o',items,n,ho',hc',r⟩=>⟨o',items,n,hs b o' (fun hb=>hz b hb o' ho' hc') ho',hc',r⟩
 refine⟨o,ep,t,m,L,hs S o hSz ho,hex,hd,ht,hr,hre,hlen,hnd,fun e he=>?_,fun ks=>?_,hm⟩
 ·refine fh (hent e he) ?_;intro a ks q1 q2 q3
  exact fg a ks q1 (up q2) q3
 ·rw[hmem]
  constructor
  ·rintro⟨e,he,b,hb,hk⟩
   exact⟨e,he,b,hb,up hk⟩
  ·rintro⟨e,he,b,hb,hk⟩
   refine fh (hent e he) ?_;intro a ks' q1 q2 q3
   rw[hb] at q1;injection q1 with eQ;subst eQ
   have:=IsTupleKey.inj (up q2) hk
   subst this
   exact⟨e,he,b,hb,q2⟩
theorem zj7{kss:List (List Int)}{ld:Bool}(W:Walks prog w A.in1 I fp wr kss.length P St)(S:Addr)(hSf:S∉fp)(h0:Heap)(hu:A.in1.units < cLine)
 (hval:∀ (i:Nat) v,i < kss.length→P i v→∃ b ks,kss[i]?=some ks∧v=.ref b∧TK prog w h0 ks b) (hwr:∀ i h,St i h→∀ z∈wr,∀ o,h.get? z=some o→o.cls≠.type "tuple") (hS0:h0.get? S=none) (hw0:∀ z∈wr,h0.get? z=none) (h4:kss.length≤17) :
 ∀ (k i:Nat) (s:Shared),kss.length - i=k→i≤kss.length→St i s.heap→TSet prog w s.heap S ld (yj kss i)→(∀ b o,h0.get? b=some o→s.heap.get? b=some o) →
  (∀ h' tk,(∀ b o,b∉S::wr→s.heap.get? b=some o→h'.get? b=some o)→TSet prog w h' S ld (yj kss kss.length)→R (.ok (.ret .none)) { s with heap:=h',toks:=tk }) →
  codeAny (model prog w) A (.builtin "set.update.loop" ⟨[.ref S,.ref I],[]⟩) R s:=by
 have hSw:S∉wr:=fun h=>hSf (W.sub _ h)
 intro k
 induction k with
 | zero=>
   intro i s hk hi hst hS hkp hR
   have hin:i=kss.length:=by lia
   subst hin
   refine cc cR ?_
   rw[cf bG _]
   show wpAny _ A.in1 (pyNext (.ref I) >>= _) _ _ s
   refine aa (W.done s _ _ hst fun h' tk hm=>?_)
   show wpAny _ A.in1 (ret Value.none) _ _ _
   refine ab (hR h' tk (fun b o hb e=>hm b o (fun h=>hb (ag _ h)) e) ?_)
   exact hS.keep wr (hwr _ _ hst) hSw hm
 | succ k ih=>
   intro i s hk hi hst hS hkp hR
   have hlt:i < kss.length:=by lia
   refine cc cR ?_
   rw[cf bG _]
   show wpAny _ A.in1 (pyNext (.ref I) >>= _) _ _ s
   refine aa (W.item i s _ _ hlt hst fun v h₁ tk₁ hP hst' hm=>?_)
   refine fh (hval i v hlt hP) ?_;intro b ks hx dZ hkb;subst dZ
   have hS':TSet prog w h₁ S ld (yj kss i):=hS.keep wr (hwr _ _ hst) hSw hm
   have hkp1:∀ b o,h0.get? b=some o→h₁.get? b=some o:=fun b o e=>hm b o (fun hb=>by rw[hw0 b hb] at e;exfalso;injection e) (hkp b o e)
   have hk1:TK prog w h₁ ks b:=hkb.keep hkp1
   show wpAny _ A.in1 (holding [Value.ref b] (setAdd S (.ref b)) >>= _) _ _ _
   refine aa (aR ?_)
   unfold setAdd
   refine aR ?_
   refine aa (wpAny_pyHash_tuple (s:={ s with heap:=h₁,toks:=tk₁ }) hu hk1 ?_)
   refine zne (s:={ s with heap:=h₁,toks:=tk₁+(ks.length+1) }) hS' hu hk1 (by have:=wi kss i;lia) fun b' h' hsb hS2=>?_
   have hS2:TSet prog w h' S ld (yj kss (i+1)):=by rw[w6 hx];exact hS2
   refine ab ⟨plainId_quiet bG _,ih (i+1) _ (by lia) hlt (W.frame _ _ _ hst' fun b hb o e=>?_) hS2 (fun b o e=>?_) fun h'' tk hk'' hS''=>?_⟩
   ·exact (hsb.2 b (fun h:b=S=>hSf (by rw[← h];exact hb))).trans e
   ·exact (hsb.2 b (fun h:b=S=>by rw[h,hS0] at e;exfalso;injection e)).trans (hkp1 b o e)
   ·refine hR h'' tk (fun b o hb e=>hk'' b o hb ?_) hS''
    exact (hsb.2 b (fun h:b=S=>hb (by rw[h];exact am))).trans (hm b o (fun h=>hb (ag _ h)) e)
theorem dw{l:Addr}{items:Array Value}{kss:List (List Int)}{Q:Value→Shared→Prop}
 (hh:A.handled=none) (hu:A.units+10 < cLine) (hl:s.heap.IsList l items) (hsz:items.size=kss.length) (hi:∀ (i:Nat) v,items[i]?=some v→∃ b ks,kss[i]?=some ks∧v=.ref b∧TK prog w s.heap ks b) (h4:kss.length≤17)
 (h:∀ (h':Heap) (tk:Nat),TSet prog w h' s.heap.objs.size (!w.params.followText "set-order") (yj kss kss.length) →
   (∀ b o,s.heap.get? b=some o→h'.get? b=some o)→Q (.ref s.heap.objs.size) { s with heap:=h',toks:=tk }) :
 wpAny (model prog w) A (call (.type "set") [.ref l]) Q E s:=by
 refine fj hl ?_;clear hl;intro ol hol hcl dZ;refine eZ dZ ?_;clear dZ;intro nl hdl
 refine we (ci:="list_iterator") hol hcl PySem.F.sub_list_set PySem.F.sub_list_frozenset (by decide) (fun e hQ=>ch ⟨_,e,hcl,nl,hdl⟩ hQ) (fun R hR=>?_) h
 refine fb (zag (w:=w) (aX hol)) ?_;intro hneI hSf
 have W:=Walks.list (prog:=prog) (w:=w) (A:=A.in1.in1.in1) (by simp[hh]) (s.heap.push (newSet w)).objs.size l hneI items
 rw[hsz] at W
 have nn:∀ j,s.heap.objs.size≤j→s.heap.get? j=none:=fun j hj=>by
  cases e:s.heap.get? j with
  | none=>rfl
  | some o'=>exact absurd (aX e) (cT.mpr hj)
 refine zj7 (kss:=kss) (ld:=!w.params.followText "set-order") W s.heap.objs.size hSf s.heap (by simp only [Around.in1_units];lia) (fun i v hi' hv=>hi i v hv) (fun i h' st z hz o' e=>?_) (nn _ (aI _)) (fun z hz=>nn z (by rw [ae.mp hz,bo];exact cJ _)) h4 kss.length 0 _ rfl (be _)
  ⟨⟨_,ay _ rfl,rfl,rfl⟩,ol,ac _ (ac _ hol),hcl,nl,hdl⟩ ?_ (fun b o e=>ac _ (ac _ e)) fun h' tk hm hS'=>hR h' tk (zaf hm) hS'
 ·refine fb st ?_;clear st;intro dW _;refine fj dW ?_;clear dW;intro oI hoI hcI _
  rw[ae.mp hz] at e
  rw[e] at hoI;injection hoI with eQ;subst eQ
  rw[hcI];decide
 ·exact⟨_,0,_,7,[],ac _ (ay _ rfl),⟨rfl,rfl,rfl⟩,rfl,⟨rfl,rfl,rfl,rfl,rfl⟩,.nil,fun uA h=>(nomatch h),rfl,by simp[yj],fun uA h=>(nomatch h),fun ks=>by simp[yj],.inl ⟨rfl,be _⟩⟩
end
end Mine
end
section
namespace Mine
open PySem PyProof.Rows
noncomputable def CSs.stuck:CSs:=fun uA uA uA=>.stuck
theorem zij{cx:Cx}{l:List Stmt}:JSs cx l .stuck:=⟨fun uA uA=>trivial⟩
section
variable{G:Gl}{F:Fm}{A:Around}{s:Shared}{β:List Addr}{ρ:Loc}{O:za}{cx:Cx}{gval:Nat→Option PyData}{gname:Nat→Option Str}
theorem znd{α:Type}{x:Str}{fv:Value}{y:Expr}{ps q:Pos}{r:R za V}{k:V→za→R za α}{Rel:List Addr→Heap→Value→α→Prop}(g:GOk G gval gname)(sr:SR G F β ρ O s.heap)(fit:Fits F cx)(hx:cx.isGlob x=true)(hb:(x,fv)∈bis)(hfv:(∃ id,fv=.builtin id)∨∃ T,fv=.type T)
 (he:starEach [y] F.env=(false,eval y F.env)::starEach [] F.env) (h1:Does G F A s β (eval y F.env) (r.lift ρ) (VRel G F))
 (h2:∀ s' β' val v O',SR G F β' ρ O' s'.heap→VR G F.B β' s'.heap val v→Does G F A s' β' (call fv [val]) ((k v O').lift ρ) Rel) :
 Does G F A s β (eval (.Call (.Name x ps) [y] [] q) F.env) ((r.bind k).lift ρ) Rel:=by
 have e1:r.bind k=(r.bind fun v O=>(R.ok ([]:List V) O).bind fun vs O=>R.ok (v::vs) O).bind fun vs O=>(match vs with | [u]=>k u O | _=>.stuck):=by cases r <;> rfl
 rw[e1]
 refine wd g sr fit hx hb hfv he rfl (yi he h1 fun s' β' O' sr'=>xh sr') fun s' β' vals vs O' e' st sr' rvs=>?_
 cases vs with
 | nil=>trivial
 | cons u vs=>cases vs with
   | cons _ _=>trivial
   | nil=>
     obtain⟨v,rfl,ru⟩:=rvs.one
     exact h2 s' β' v u O' sr' ru
theorem znc{α:Type}{x:Str}{fv:Value}{y z:Expr}{ps q:Pos}{ra:R za V}{rb:za→R za V}{k:V→V→za→R za α}{Rel:List Addr→Heap→Value→α→Prop}(g:GOk G gval gname)(sr:SR G F β ρ O s.heap)(fit:Fits F cx)(hx:cx.isGlob x=true)(hb:(x,fv)∈bis)(hfv:(∃ id,fv=.builtin id)∨∃ T,fv=.type T)
 (he:starEach [y,z] F.env=(false,eval y F.env)::starEach [z] F.env) (he':starEach [z] F.env=(false,eval z F.env)::starEach [] F.env)
 (h1:Does G F A s β (eval y F.env) (ra.lift ρ) (VRel G F)) (h2:∀ s' β' O',SR G F β' ρ O' s'.heap→Does G F A s' β' (eval z F.env) ((rb O').lift ρ) (VRel G F))
 (h3:∀ s' β' val wal v w O',SR G F β' ρ O' s'.heap→VR G F.B β' s'.heap val v→VR G F.B β' s'.heap wal w→Does G F A s' β' (call fv [val,wal]) ((k v w O').lift ρ) Rel) :
 Does G F A s β (eval (.Call (.Name x ps) [y,z] [] q) F.env) ((ra.bind fun v O=>(rb O).bind fun u O=>k v u O).lift ρ) Rel:=by
 have d1:Does G F A s β (spliced (backTo q (starEach [y,z] F.env))) ((ra.bind fun v O=>((rb O).bind fun v O=>(R.ok ([]:List V) O).bind fun vs O=>.ok (v::vs) O).bind fun vs O=>.ok (v::vs) O).lift ρ) (VRsl G F):=
  yi he h1 fun s' β' O' sr'=>yi he' (h2 s' β' O' sr') fun s' β' O' sr'=>xh sr'
 have e1:(ra.bind fun v O=>(rb O).bind fun u O=>k v u O)=(ra.bind fun v O=>((rb O).bind fun v O=>(R.ok ([]:List V) O).bind fun vs O=>.ok (v::vs) O).bind fun vs O=>.ok (v::vs) O).bind fun vs O=>(match vs with | [v,u]=>k v u O | _=>.stuck):=by
  cases ra with
  | ok v O=>
    show (rb O).bind (fun u O=>k v u O)=(((rb O).bind fun v O=>(R.ok ([]:List V) O).bind fun vs O=>R.ok (v::vs) O).bind fun vs O=>R.ok (v::vs) O).bind _
    cases rb O <;> rfl
  | stuck=>rfl
 rw[e1]
 refine wd g sr fit hx hb hfv he (by rw[he'];rfl) d1 fun s' β' vals vs O' e' st sr' rvs=>?_
 cases vs with
 | nil=>trivial
 | cons u vs=>cases vs with
   | nil=>trivial
   | cons w vs=>cases vs with
     | cons _ _=>trivial
     | nil=>
       obtain⟨v,v',rfl,rv,ru⟩:=rvs.two
       exact h3 s' β' v v' u w O' sr' rv ru
end
noncomputable def minV(v u:V)(O:za):R za V:=match intV v with
 | some i=>(match intV u with
    | some j=>.ok (.d (.int (min i j))) O
    | none=>.stuck)
 | none=>.stuck
noncomputable def CE.min2(a b:CE):CE:=fun P ρ O=>if P.hd=true then .stuck else (evE P ρ a O).bind fun v O=>(evE P ρ b O).bind fun u O=>minV v u O
section
variable{cx:Cx}{x y:Expr}{a b:CE}{p q ps pz:Pos}
theorem zqa{G:Gl}{F:Fm}{A:Around}{s:Shared}{β:List Addr}{ρ:Loc}{O:za}{v u:Value}{d e:V}(hh:A.handled=none)(sr:SR G F β ρ O s.heap)(rv:VR G F.B β s.heap v d)(ru:VR G F.B β s.heap u e) :
 Does G F A s β (call (.builtin "min") [v,u]) ((minV d e O).lift ρ) (VRel G F):=by
 unfold minV
 cases h1:intV d with
 | none=>trivial
 | some i=>
   cases h2:intV e with
   | none=>trivial
   | some j=>
     refine eZ (rv.intV h1) ?_;intro t dX;subst dX
     refine eZ (ru.intV h2) ?_;intro t' dX;subst dX
     refine Does.leaf sr fun Q E q=>min_two_ints hh fun h' tk hk=>?_
     by_cases hij:j < i
     ·rw[ah hij]
      rw[show min i j=j from Int.min_eq_right (Int.le_of_lt hij)] at q
      exact q _ _ (yu hk) VR.int
     ·rw[ai hij]
      rw[show min i j=i from Int.min_eq_left (Int.not_lt.mp hij)] at q
      exact q _ _ (yu hk) VR.int
theorem zpg(h1:JE cx x a)(h2:JE cx y b)(hg:cx.isGlob "min" = true):JE cx (.Call (.Name "min" ps) [x,y] [] q) (.min2 a b):=
 ⟨rfl,fun {G A P F s β ρ O} hr sr=>by
   show Does G F A s β _ (R.lift ρ (if P.hd=true then .stuck else _:R za V)) _
   by_cases hd:P.hd=true
   ·rw[ah hd];trivial
   rw[ai hd]
   exact znc (rb:=fun O=>evE P ρ b O) (fv:=.builtin "min") hr.run.g sr hr.fit hg (by decide) (.inl ⟨_,rfl⟩) h1.px.star h2.px.star (h1.d hr sr) (fun s' β' O' sr'=>h2.d hr sr') fun s' β' v w d e O' sr' rv rw=>zqa (hr.run.hm (aW.mpr hd)) sr' rv rw⟩
end
section
variable{cx:Cx}{x y:Expr}{a b:CE}{p q ps pz:Pos}
end
section
variable{prog:Program}{w:World}{A:Around}{E:Value→Shared→Prop}{s:Shared}
end
section
variable{G:Gl}{F:Fm}{A:Around}{s:Shared}{β:List Addr}{ρ:Loc}{O:za}
end
noncomputable def CE.memo:CE:=fun uA uA O=>.ok (.box O.length) (O++[.dct []])
noncomputable def kl(w k:V)(O:za):Option (Nat×List (MKey×PyData)×MKey):=match w,k with
 | .box n,.d x=>(match O[n]? with
    | some (.dct kvs)=>(keyOf x).map fun q=>(n,kvs,q)
    | _=>none)
 | _,_=>none
inductive zqs(w k:V)(O:za)(n:Nat)(kvs:List (MKey×PyData))(q:MKey):Prop
 | mk (x:PyData) (e1:w=.box n) (e2:k=.d x) (e3:O[n]?=some (.dct kvs)) (e4:keyOf x=some q)
set_option tactic.hygienic true in
theorem vf{w k:V}{O:za}{n:Nat}{kvs:List (MKey×PyData)}{q:MKey}(h:kl w k O=some (n,kvs,q)):zqs w k O n kvs q:=by
 cases w <;> first | (cases h;done) | skip
 rename_i m
 cases k <;> first | (cases h;done) | skip
 rename_i x
 have h:(match O[m]? with
  | some (.dct kvs)=>(keyOf x).map fun q=>(m,kvs,q)
  | _=>none)=some (n,kvs,q):=h
 cases e:O[m]? with
 | none=>rw[e] at h;exfalso;injection h
 | some b=>
   rw[e] at h
   cases b with
   | lst _=>exfalso;injection h
   | dct kv=>
     have h:(keyOf x).map (fun q=>(m,kv,q))=some (n,kvs,q):=h
     cases e':keyOf x with
     | none=>rw[e'] at h;exfalso;injection h
     | some q'=>rw[e'] at h;injection h with eQ;injection eQ with eQ eR;subst eQ;injection eR with eQ eR;subst eQ eR;exact⟨x,rfl,rfl,e,e'⟩
noncomputable def notinM(k w:V)(O:za):R za V:=match kl w k O with
 | some (_,kvs,q)=>.ok (.d (.bool !(zw kvs q).isSome)) O
 | none=>.stuck
noncomputable def getM(w k:V)(O:za):R za V:=match kl w k O with
 | some (_,kvs,q)=>opt ((zw kvs q).map V.d) O
 | none=>.stuck
noncomputable def setM(w k x:V)(O:za):R za Unit:=match kl w k O,x with
 | some (n,kvs,q),.d y=>if zw kvs q=none∧kvs.length≤line then .ok () (O.set n (.dct (kvs++[(q,y)]))) else .stuck
 | _,_=>.stuck
noncomputable def CE.notinM(a b:CE):CE:=fun P ρ O=>(evE P ρ a O).bind fun v O=>(evE P ρ b O).bind fun u O=>Mine.notinM v u O
noncomputable def CE.getM(a b:CE):CE:=fun P ρ O=>(evE P ρ a O).bind fun v O=>(evE P ρ b O).bind fun u O=>Mine.getM v u O
noncomputable def CS.setM(o i e:CE):CS:=fun P ρ O=>(((evE P ρ e O).bind fun x O=>(evE P ρ o O).bind fun w O=>(evE P ρ i O).bind fun k O=>Mine.setM w k x O).lift ρ).bind fun uA S=>.ok .next S
section
variable{G:Gl}{F:Fm}{A:Around}{s:Shared}{β:List Addr}{ρ:Loc}{O:za}
theorem zqb{p:Pos}(sr:SR G F β ρ O s.heap):Does G F A s β (eval (.Dict [] [] p) F.env) ((R.ok (V.box O.length) (O++[.dct []])).lift ρ) (VRel G F):=by
 intro Q E k
 have hL:s.heap.objs.size≠F.env.locals:=fun e=>by
  obtain⟨m,o,_,_,h,_⟩:=sr.fm.ns
  rw[← e,zz s] at h;exfalso;injection h
 refine wpAny_Dict_empty ?_
 have hg:(s.heap.push { cls:=.type "dict",data:=.dict #[] }).get? s.heap.objs.size=some { cls:=.type "dict",data:=.dict #[] }:=ay _ rfl
 refine fb (SR.keepNB (bx₀:=.dct []) (s':={ s with heap:=s.heap.push { cls:=.type "dict",data:=.dict #[] } }) (KeepsAll.push s _ s.toks).toL sr (zz s) ⟨_,_,_,hg,rfl,rfl,⟨rfl,List.nodup_nil⟩,fun i e kv h1 h2=>by simp at h2⟩ ⟨_,hg,rfl,rfl⟩) ?_;intro st sr'
 exact k _ _ _ st sr' ⟨_,by rw[← sr.br.len];simp,rfl⟩
theorem zks{v u:Value}{x y:V}{k:Nat}(ro:Room A k)(sr:SR G F β ρ O s.heap)(rv:VR G F.B β s.heap v x)(ru:VR G F.B β s.heap u y):Does G F A s β (compareOp .NotIn v u) ((notinM x y O).lift ρ) (VRel G F):=by
 unfold notinM
 cases h:kl y x O with
 | none=>trivial
 | some p=>
   obtain⟨n,kvs,q⟩:=p
   obtain⟨d,rfl,rfl,e3,e4⟩:=vf h
   exact dp ro sr e3 e4 rv ru
theorem zqe{value slice:Expr}{v u:Value}{x y:V}{k:Nat}(ro:Room A k)(hs:∀ l u t p,slice≠.Slice l u t p)(sr:SR G F β ρ O s.heap)(rv:VR G F.B β s.heap v x)(ru:VR G F.B β s.heap u y):Does G F A s β (subscriptTail value slice v u) ((getM x y O).lift ρ) (VRel G F):=by
 unfold getM
 cases h:kl x y O with
 | none=>trivial
 | some p=>
   obtain⟨n,kvs,q⟩:=p
   obtain⟨d,rfl,rfl,e3,e4⟩:=vf h
   exact zdg ro sr e3 e4 rv ru (xi hs _ _)
set_option tactic.hygienic true in
theorem zp9{v u z:Value}{w k x:V}{r:Nat}(ro:Room A r)(sr:SR G F β ρ O s.heap)(rw_:VR G F.B β s.heap v w)(rk:VR G F.B β s.heap u k)(rx:VR G F.B β s.heap z x):Does G F A s β (setItem v u z) ((setM w k x O).lift ρ) (fun uA uA uA uA=>True):=by
 unfold setM
 cases h:kl w k O with
 | none=>trivial
 | some p=>
   obtain⟨n,kvs,q⟩:=p
   obtain⟨d,rfl,rfl,e3,e4⟩:=vf h
   cases x <;> first | trivial | skip
   rename_i y
   dsimp only
   by_cases hj:zw kvs q=none∧kvs.length≤line
   ·rw[ah hj]
    obtain⟨D,hd,rfl⟩:=rw_
    obtain⟨as,rr,_⟩:=rk
    rw[h8 e4] at rr
    refine eV (p8 (prog:=G.prog) (w:=G.w) rr) ?_;intro a dX hkey;subst dX
    have hm:=aw hd
    refine eV (zb6 (prog:=G.prog) (w:=G.w) (sr.br.plain D hm) (sr.br.at_ n D _ hd e3)) ?_;intro xs hD hv
    have hnone:atKey xs q=none:=by
     refine eS (qd (k:=q) hv) ?_ ?_
     ·rintro ⟨e1,e2⟩;exact e1
     ·rintro ⟨p,d',bs,e1,e2,_⟩;rw[hj.1] at e2;exfalso;injection e2
    intro Q E kk
    refine wpAny_setItem_heap ro.memo hkey hD (fun h' hD' hs'=>?_) (by rw[hv.1];exact aq hj.2 (by decide))
    rw[storedH_new hnone] at hD'
    obtain⟨cs,r3,q3⟩:=rx
    have hb:Step F.W β s { s with heap:=h',toks:=s.toks+(yh G.prog G.w).draws q } β→wg h' F.B β (xs++[(q,a,z)]) (kvs++[(q,y)]):=fun st₃=>by
     refine⟨by simp[hv.1],fun i x kv h1 h2=>?_⟩
     refine eS (bm i xs.length) ?_ ?_
     ·intro hi;rw[aJ hi] at h1
      rw[aJ (by rw[← hv.1];exact hi)] at h2
      obtain⟨e,bs,r,qq⟩:=hv.2 i x kv h1 h2
      refine fb (z0 sr.br sr.fm st₃ r qq) ?_;intro p1 p2
      exact⟨e,bs,p1,p2⟩
     ·intro hi;rw[aF hi] at h1
      rw[aF (by rw[← hv.1];exact hi),← hv.1] at h2
      obtain⟨e1,e2⟩ : x=(q,a,z)∧kv=(q,y):=by
       cases e:i - xs.length with
       | zero=>rw[e] at h1 h2;injection h1 with eQ;subst eQ;injection h2 with eQ;subst eQ;exact⟨rfl,rfl⟩
       | succ j=>rw[e] at h1;simp at h1
      subst e1;subst e2
      refine fb (z0 sr.br sr.fm st₃ r3 q3) ?_;intro p1 p2
      exact⟨rfl,cs,p1,p2⟩
    refine fb (SR.setBox (bx:=.dct (kvs++[(q,y)])) (s':={ s with heap:=h',toks:=s.toks+(yh G.prog G.w).draws q }) sr hd hs' rfl rfl (fun st₃=>(zm3 hD' (hb st₃)).1) (by refine fq hD' ?_;clear hD';intro o es n h1 ed _;refine fc ed ?_;clear ed;intro _ g1 g2;exact ff o h1 g1 g2)) ?_;intro st₃ sr₃
    exact kk _ β () st₃ sr₃ trivial
   ·rw[ai hj];trivial
theorem zm6{o i value:Expr}{p spos:Pos}{re:R za V}{ro ri:za→R za V}{r:Nat}(rm:Room A r)(hs:swapsWith value (some (.Subscript o i p)) spos.line F.env=pure false)
 (h1:Does G F A s β (eval value F.env) (re.lift ρ) (VRel G F)) (h2:∀ s' β' O',SR G F β' ρ O' s'.heap→Does G F A s' β' (eval o F.env) ((ro O').lift ρ) (VRel G F)) (h3:∀ s' β' O',SR G F β' ρ O' s'.heap→Does G F A s' β' (eval i F.env) ((ri O').lift ρ) (VRel G F)) :
 Does G F A s β (exec (.Assign [.Subscript o i p] value spos) F.env) (((re.bind fun x O=>(ro O).bind fun w O=>(ri O).bind fun k O=>setM w k x O).lift ρ).bind fun uA S=>.ok .next S) (yr G F):=by
 refine DoesW.seq (T₁:=fun Q E s=>wpAny (model G.prog G.w) A (eval value F.env) (fun v s₁=>wpAny (model G.prog G.w) A (eval o F.env) (fun ov s₂=>wpAny (model G.prog G.w) A (eval i F.env) (fun iv s₃=>wpAny (model G.prog G.w) A (setItem ov iv v) Q E s₃) E s₂) E s₁) E s)
  (T₂:=fun uA Q E s'=>Q .next s') (Rel₁:=fun uA uA uA uA=>True) (fun Q E h=>wpAny_Assign_Subscript h hs) ?_ fun s' β' v d S e st sr rv=>Does.leaf sr fun Q E q=>q .next _ (KeepsAll.refl s') rfl
 refine DoesW.seqE (T₂:=fun v Q E s₁=>wpAny (model G.prog G.w) A (eval o F.env) (fun ov s₂=>wpAny (model G.prog G.w) A (eval i F.env) (fun iv s₃=>wpAny (model G.prog G.w) A (setItem ov iv v) Q E s₃) E s₂) E s₁) (fun Q E h=>h) h1 fun s₁ β₁ v x O₁ uA st₁ sr₁ rx=>?_
 refine DoesW.seqE (T₁:=tr G A (eval o F.env)) (T₂:=fun ov Q E s₂=>wpAny (model G.prog G.w) A (eval i F.env) (fun iv s₃=>wpAny (model G.prog G.w) A (setItem ov iv v) Q E s₃) E s₂) (fun Q E h=>h) (h2 s₁ β₁ O₁ sr₁) fun s₂ β₂ ov w O₂ uA st₂ sr₂ rw_=>?_
 refine DoesW.seqE (T₁:=tr G A (eval i F.env)) (T₂:=fun iv=>tr G A (setItem ov iv v)) (fun Q E h=>h) (h3 s₂ β₂ O₂ sr₂) fun s₃ β₃ iv k O₃ uA st₃ sr₃ rk=>?_
 exact zp9 rm sr₃ (rw_.step sr₂.br sr₂.fm st₃) rk (rx.step sr₁.br sr₁.fm (st₂.trans st₃))
end
section
variable{cx:Cx}{x y z:Expr}{a b c:CE}{p ps:Pos}
theorem zph:JE cx (.Dict [] [] p) .memo:=⟨rfl,fun hr sr=>zqb sr⟩
theorem zpl(h1:JE cx x a)(h2:JE cx y b):JE cx (.Subscript x y p) (.getM a b):=⟨rfl,fun {G A P F s β ρ O} hr sr=>by
 refine DoesW.seqE (T₂:=fun a Q E s₁=>wpAny (model G.prog G.w) A (eval y F.env) (fun b s₂=>wpAny (model G.prog G.w) A (subscriptTail x y a b) Q E s₂) E s₁) (fun Q E h=>Subscript_ h) (h1.d hr sr) fun s' β' v d O' e st sr rv=>?_
 refine DoesW.seqE (T₁:=tr G A (eval y F.env)) (T₂:=fun b=>tr G A (subscriptTail x y v b)) (fun Q E h=>h) (h2.d hr sr) fun s₂ β₂ u d₂ O₂ e₂ st₂ sr₂ ru=>?_
 exact zqe hr.run.ro h2.px.slice sr₂ (rv.step sr.br sr.fm st₂) ru⟩
theorem zot(h1:JE cx x a)(h2:JE cx y b)(h3:JE cx z c)(hx:noCompX z=true):JS cx (.Assign [.Subscript x y ps] z p) (.setM a b c):=
 ⟨fun {G A P F s β ρ O} hr sr=>zm6 (ro:=fun O=>evE P ρ a O) (ri:=fun O=>evE P ρ b O) hr.run.ro (noCompX.swaps hx _ _ _) (h3.d hr.toHere sr) (fun s' β' O' sr'=>h1.d hr.toHere sr') fun s' β' O' sr'=>h2.d hr.toHere sr'⟩
end
noncomputable def kx(xs:List PyData):List PyData:=xs.zipIdx.map fun p=>.tuple [.int p.2,p.1]
theorem zhl{xs:List PyData}{i:Nat}{x:PyData}(h:(kx xs)[i]?=some x):∃ y,xs[i]?=some y∧x=.tuple [.int i,y]:=by
 unfold kx at h
 rw[aT,List.getElem?_zipIdx] at h
 cases e:xs[i]? with
 | none=>rw[e] at h;exfalso;injection h
 | some y=>
   rw[e] at h
   simp only[Option.map_some,Option.some.injEq,Nat.zero_add] at h
   exact eW y rfl h.symm
theorem zb1{xs:List PyData}:(kx xs).length=xs.length:=by simp[kx]
noncomputable def zsi(v:V)(O:za):R za Src:=match v with
 | .d (.list xs)=>.ok (.plain (kx xs)) O
 | _=>.stuck
noncomputable def CI.enum(a:CE):CI:=fun P ρ O=>(evE P ρ a O).bind zsi
section
variable{G:Gl}{F:Fm}{A:Around}{es:List Expr}{kt:Nat}{pt:Pos}(hc:∀ c,∃ C,G.cls c=.ref C)
inductive EnSt(G:Gl)(I it ax:Addr)(xs:List PyData)(i:Nat)(N β:List Addr)(h:Heap):Prop
 | mk (old:Value) (e:IsEnum h I it (i:Int) old) (l:h.IsListIter it ax i) (r:VR G N β h (.ref ax) (.d (.list xs)))
theorem EnSt.itr{I it ax:Addr}{xs:List PyData}{i:Nat}{N β:List Addr}{h:Heap}(st:EnSt G I it ax xs i N β h):∀ z∈[I,it],Itr h z:=fun z hz=>by
 obtain⟨old,e,⟨o,h1,h2,h3⟩,r⟩:=st
 refine eS (af.mp hz) ?_ ?_
 ·rintro rfl;exact fx _ _ _ e rfl rfl
 ·intro hz;rw[ae.mp hz];exact fx o _ _ h1 h2 h3
include hc in
theorem Turns.enum(hh:A.handled=none)(I it ax:Addr)(hne:I≠it)(xs:List PyData):Turns G A (.Tuple es kt pt) I [I,it] (.plain (kx xs)) (EnSt G I it ax xs) where
 itr:=fun i N β h st=>st.itr
 keep:=fun i N N' β β' h h' st k1 k2 uA=>by
  obtain⟨old,e,l,r⟩:=st
  exact⟨old,k1 I (by simp) _ e,l.at fun o e=>k1 it (by simp) o e,k2 _ _ r⟩
 item:=fun i N β O s x Q E hx br has st k=>by
  have hitr:=st.itr
  obtain⟨old,e,l,r⟩:=st
  refine fb (ql r) ?_;intro dW _;obtain ⟨o,vs,n,h1,h2,h3,as,h4,h5⟩:=dW
  refine eV (zhl hx) ?_;intro y hy dY;subst dY
  refine fh (zo h4 h5 (i:=i) hy) ?_;intro v cs e1 e2 e3
  refine wpAny_pyNext_enum_item e l ⟨o,h1,h2,n,h3⟩ (x:=v) (by rw[← aP];exact e1) hne fun h' he' hit' ht' hz' hk'=>?_
  refine k _ _ fun Q' E' k'=>wpAny_letOwnedTupleGo_enum he' fun h₂ he₂ hs₂=>?_
  have hI:s.heap.objs.size≠I:=cK (aX e)
  have kz:KeepsZ [I,it] s { s with heap:=h₂,toks:=s.toks+1 }:=⟨rfl,rfl,fun b o hb hbo=>by
   rw[af,ae,not_or] at hb
   exact (hs₂.2 b hb.1).trans (hk' b o hb.1 hb.2 hbo)⟩
  have rv:VR G N β h₂ v (.d y):=VR.keepZ (x:=.d y) hitr kz.kept hc ⟨cs,e2,e3⟩
  refine k' _ kz ?_ ⟨v,he₂,hit'.extBut hs₂.extBut hne.symm,VR.keepZ hitr kz.kept hc r⟩
  obtain⟨as',r',q'⟩:=rv
  exact⟨_,.tuple ((hs₂.2 _ hI).trans ht') rfl rfl (.cons (.int _ _) (.cons r' .nil)),by simpa using q'⟩
 done:=fun i N β O s Q E hx br has st k=>by
  obtain⟨old,e,l,r⟩:=st
  refine fb (ql r) ?_;intro dW _;obtain ⟨o,vs,n,h1,h2,h3,as,h4,h5⟩:=dW
  refine wpAny_pyNext_enum_end hh e l ⟨o,h1,h2,n,h3⟩ ?_ fun h' he=>k _ ⟨rfl,rfl,fun b o hb hbo=>he b o (fun h=>hb (by simp[h])) hbo⟩
  rw[ct]
  have hx:(kx xs).length=i:=hx
  rw[zb1] at hx
  rw[← av,zd h4];exact Nat.le_of_eq hx
 self:=fun i N β s Q E st q=>by
  obtain⟨old,e,_⟩:=st
  exact wpAny_pyIter_enum e q
end
set_option tactic.hygienic true in
theorem zow{cx:Cx}{x:Expr}{a:CE}{ps q pt p:Pos}{es:List Expr}{kt:Nat}{l:List Stmt}{d:CSs}{t:CT}(h:JE cx x a)(hx:cx.isGlob "enumerate" = true)(h2:JSs cx l d)(hc:chkT cx (ownOf cx.sc) t (.Tuple es kt pt)=true) :
 JS cx (.For (.Tuple es kt pt) (.Call (.Name "enumerate" ps) [x] [] q) l [] p) (.for_ t (.enum a) d):=⟨fun {G A P F s β ρ O} hr sr=>by
 show Does G F A s β _ (if P.hd=true then .stuck else _:R (Loc×za) Fl) _
 by_cases hd:P.hd=true
 ·rw[ah hd];trivial
 rw[ai hd]
 have hh:=hr.run.hm (aW.mpr hd)
 refine fb (hr.run.g.bi ("enumerate",.type "enumerate") (by decide)) ?_;intro b1 b2
 refine zn3 (r:=evI P ρ (.enum a) O) (evb:=fun ρ O=>evSs P d ρ O) hr.run.g hh hr.fit hr.own hc (fun uA uA uA h=>nomatch h) (fun s' β' ρ' O' sr'=>h2.d hr sr') sr ?_ fun src O' e=>?_
 ·refine DoesW.seqE (T₂:=fun v Q E s=>wpAny (model G.prog G.w) A (call (.type "enumerate") [v]) (fun S s₁=>wpAny (model G.prog G.w) A (pyIter S) Q E s₁) E s) (fun Q E h'=>?_) (h.d hr.toHere sr) fun s' β' v d O' e st sr' rv=>?_
  ·exact cV rfl (z8 hr.run.g sr hr.fit hx b1 b2 (callWith_type1 (cb (aK h' (fun v s₁ h₁=>cN h₁) (fun uA uA x=>x)) h.px.star) h.px.star rfl))
  ·clear e
   cases d <;> first | trivial | skip
   rename_i z
   cases z <;> first | trivial | skip
   rename_i xs
   have rv':=rv
   obtain⟨b,rfl,⟨o,vs,n,h1,h2,h3,as,h4,h5⟩,h6⟩:=rv.list_inv
   refine DoesW.weaken (T₁:=fun Q E s=>wpAny (model G.prog G.w) A (call (.type "enumerate") [.ref b]) (fun S s₁=>wpAny (model G.prog G.w) A (pyIter S) Q E s₁) E s) (Does.leaf sr' fun Q E k=>?_) (fun Q E h=>h) fun uA uA uA uA r=>IRel.back (target:=.Tuple es kt pt) st r
   refine call_enumerate_list ⟨o,h1,h2,n,h3⟩ fun h' he hl hz hk=>wpAny_pyIter_enum he (k _ { s' with heap:=h' } ⟨rfl,rfl,hk⟩ ⟨_,_,_,rfl,Turns.enum hr.run.g.clsRef hh _ _ b (Nat.succ_ne_self _) xs,⟨_,he,hl,rv'.keepAll hk⟩,fun z hz=>?_⟩)
   refine bg ?_
   refine eS (af.mp hz) ?_ ?_
   ·rintro rfl;exact cJ _
   ·intro hz;rw[ae.mp hz];exact aI _
 ·refine fu (qb e) ?_;intro v O₁ e' e
  clear e'
  cases v <;> first | (cases e;done) | skip
  rename_i z
  cases z <;> first | (cases e;done) | skip
  injection e with eQ eR;subst eQ eR;trivial⟩
inductive SqK | lst | tup
noncomputable def SqK.cls:SqK→String
 | .lst=>"list"
 | .tup=>"tuple"
noncomputable def SqK.itc:SqK→String
 | .lst=>"list_iterator"
 | .tup=>"tuple_iterator"
noncomputable def IsSq(q:SqK)(h:Heap)(a:Addr)(xs:Array Value):Prop:=∃ o,h.get? a=some o∧o.cls=.type q.cls∧∃ n,o.data=.seq xs n
noncomputable def IsIt(q:SqK)(h:Heap)(i a:Addr)(j:Nat):Prop:=∃ o,h.get? i=some o∧o.cls=.type q.itc∧o.data=.fields #[.ref a,.int j 0]
theorem IsSq.ext{q:SqK}{h h':Heap}{a c:Addr}{xs:Array Value}(x:IsSq q h a xs)(hs:Heap.ExtBut c h h')(hne:a≠c):IsSq q h' a xs:=x.elim fun o r=>⟨o,hs _ _ hne r.1,r.2⟩
theorem IsIt.ext{q:SqK}{h h':Heap}{i a c:Addr}{j:Nat}(x:IsIt q h i a j)(hs:Heap.ExtBut c h h')(hne:i≠c):IsIt q h' i a j:=x.elim fun o r=>⟨o,hs _ _ hne r.1,r.2⟩
structure ZAt(q1 q2:SqK)(h:Heap)(z TI TO i1 i2 t l:Addr)(k:Nat)(f:Value):Prop where
 zip:IsZip h z TI TO f
 ti:IsPair h TI (.ref i1) (.ref i2)
 it1:IsIt q1 h i1 t k
 it2:IsIt q2 h i2 l k
section
variable{prog:Program}{w:World}{A:Around}{E:Value→Shared→Prop}{s:Shared}
theorem zet{it t:Addr}{i:Nat}{items:Array Value}{x:Value}{Q:Value→Shared→Prop}(hit:IsTupIter s.heap it t i)(ht:IsTup s.heap t items)(hx:items[i]?=some x)
 (hQ:∀ h',IsTupIter h' it t (i+1)→Heap.SameBut it s.heap h'→Q x { s with heap:=h' }):wpAny (model prog w) A (Builtin.SmallTypes.nextOf (.ref it)) Q E s:=by
 refine fj (id hit) ?_;intro o ho hc hd
 refine fj ht ?_;clear ht;intro ol hol _ dZ;refine eZ dZ ?_;clear dZ;intro nl hdl
 unfold Builtin.SmallTypes.nextOf
 refine aa (bH (name:=Str.ofString "__next__") hit.typeIs dR (aZ dR hit.typeIs entry_tupleiter_next ?_ (args_tupleiter_next _)))
 show wpAny _ _ (field (.ref it) 0 >>= _) _ _ s
 refine aa (bQ ho hd (x:=.ref t) rfl ?_)
 show wpAny _ _ (if (Value.ref t == Value.none)=true then _ else _) _ _ s
 rw[ai (show ¬ ((Value.ref t == Value.none)=true) from ak)]
 refine aa (bQ ho hd (x:=.int i 0) rfl (aa (bB hol hdl ?_)))
 simp only[bK,hx]
 refine aa (wpAny_setField ho hd (by simp) (ab ⟨x,rfl,ab (hQ _ ?_ (cp ..))⟩))
 exact⟨_,bn _ ho (Obj.isFreed_of_fields (Obj.data_mapFields hd _)),(Obj.cls_mapFields ..).trans hc,by
  rw[Obj.data_mapFields hd];simp[rawInt]⟩
theorem zam{q:SqK}{it t:Addr}{i:Nat}{items:Array Value}{x:Value}{Q:Value→Shared→Prop}(hit:IsIt q s.heap it t i)(ht:IsSq q s.heap t items)(hx:items[i]?=some x)
 (hQ:∀ h',IsIt q h' it t (i+1)→Heap.SameBut it s.heap h'→Q x { s with heap:=h' }):wpAny (model prog w) A (Builtin.SmallTypes.nextOf (.ref it)) Q E s:=by
 cases q with
 | tup=>exact zet hit ht hx hQ
 | lst=>exact wpAny_nextOf_list_item hit ht hx hQ
variable{q1 q2:SqK}{z TI TO i1 i2 t l:Addr}{k:Nat}{xs ys:Array Value}{x y a b:Value}
theorem zh3{Q:Option Value→Shared→Prop}(D:ZipApart z TI TO i1 i2 t l)(Z:ZAt q1 q2 s.heap z TI TO i1 i2 t l k .none)(hTO:IsPair s.heap TO a b)(hl1:IsSq q1 s.heap t xs)(hl2:IsSq q2 s.heap l ys)(hx:xs[k]?=some x)(hy:ys[k]?=some y)
 (hQ:∀ h',ZAt q1 q2 h' z TI TO i1 i2 t l (k+1) (rawInt s.heap.objs.size)→IsPair h' TO x y→IsPair h' s.heap.objs.size x y →
   (∀ c o,c≠z→c≠TO→c≠i1→c≠i2→s.heap.get? c=some o→h'.get? c=some o)→Q (some (.ref s.heap.objs.size)) { s with heap:=h' }) :
 wpAny (model prog w) A (pyNext (.ref z)) Q E s:=by
 obtain⟨hz,hTI,h1,h2⟩:=Z
 have hT:s.TypeIs (.ref z) "zip":=⟨_,hz,rfl⟩
 unfold pyNext
 refine aa (wpAny_attempt (bH (name:=Str.ofString "__next__") hT F.slot_zip_next (aZ F.slot_zip_next hT F.entry_zip_next ?_ (F.args_zip_next_1 _))))
 show wpAny _ _ (field (.ref z) 2 >>= _) _ _ _
 refine aa (bQ hz rfl (x:=.bool false) rfl ?_)
 show wpAny _ _ (field (.ref z) 3 >>= _) _ _ _
 refine aa (bQ hz rfl (x:=.ref TI) rfl (aa (bB hTI rfl ?_)))
 show wpAny _ _ (Builtin.SmallTypes.ownedTupleIsFree (.ref z) >>= _) _ _ _
 refine aa ?_
 unfold Builtin.SmallTypes.ownedTupleIsFree
 refine aa (bQ hz rfl (x:=.none) rfl (ab ?_))
 simp only[if_true]
 refine aa (cI (aa (bQ hz rfl (x:=.ref TO) rfl (aa (cX hz (by simp) fun h₁ hz₁ hs₁=>?_)))))
 replace hz₁:IsZip h₁ z TI TO .ellipsis:=hz₁
 refine aa ?_
 simp only[List.zipIdx_cons,List.zipIdx_nil,dT,dB]
 refine aa (aa (wpAny_onRaise ?_))
 show wpAny _ _ (Builtin.SmallTypes.nextOf (.ref i1) >>= _) _ _ _
 refine aa (zam (h1.ext hs₁.extBut D.i1z) (hl1.ext hs₁.extBut D.l1z) hx fun h₂ h1₂ hs₂=>ab ?_)
 have hTO₂:IsPair h₂ TO a b:=hs₂.extBut _ _ D.TOi1 (hs₁.extBut _ _ D.TOz hTO)
 refine aa (bB hTO₂ rfl (aa (wpAny_updateSeq_pair hTO₂ fun h₃ hTO₃ hs₃=>?_)))
 replace hTO₃:IsPair h₃ TO x b:=hTO₃
 refine aa (wpAny_letGo (ab ?_))
 refine aa (aa (wpAny_onRaise ?_))
 show wpAny _ _ (Builtin.SmallTypes.nextOf (.ref i2) >>= _) _ _ _
 refine aa (zam (((h2.ext hs₁.extBut D.i2z).ext hs₂.extBut D.i12.symm).ext hs₃.extBut D.TOi2.symm)
  (((hl2.ext hs₁.extBut D.l2z).ext hs₂.extBut D.l2i1).ext hs₃.extBut D.l2TO) hy fun h₄ h2₄ hs₄=>ab ?_)
 have hTO₄:IsPair h₄ TO x b:=hs₄.extBut _ _ D.TOi2 hTO₃
 refine aa (bB hTO₄ rfl (aa (wpAny_updateSeq_pair hTO₄ fun h₅ hTO₅ hs₅=>?_)))
 replace hTO₅:IsPair h₅ TO x y:=hTO₅
 refine aa (wpAny_letGo (ab (ab ?_)))
 refine aa (bB hTO₅ rfl (aa (wpAny_newTuple ?_)))
 have hsz:h₅.objs.size=s.heap.objs.size:=by rw[hs₅.1,hs₄.1,hs₃.1,hs₂.1,hs₁.1]
 have hk₅:∀ c o,c≠z→c≠TO→c≠i1→c≠i2→s.heap.get? c=some o→h₅.get? c=some o:=fun c o c1 c2 c3 c4 e=>
  hs₅.extBut _ _ c2 (hs₄.extBut _ _ c4 (hs₃.extBut _ _ c2 (hs₂.extBut _ _ c3 (hs₁.extBut _ _ c1 e))))
 have hz₅:IsZip h₅ z TI TO .ellipsis:=hs₅.extBut _ _ D.TOz.symm (hs₄.extBut _ _ D.i2z.symm (hs₃.extBut _ _ D.TOz.symm (hs₂.extBut _ _ D.i1z.symm hz₁)))
 have h1₅:IsIt q1 h₅ i1 t (k+1):=((h1₂.ext hs₃.extBut D.TOi1.symm).ext hs₄.extBut D.i12).ext hs₅.extBut D.TOi1.symm
 have h2₅:IsIt q2 h₅ i2 l (k+1):=h2₄.ext hs₅.extBut D.TOi2.symm
 have hTI₅:IsPair h₅ TI (.ref i1) (.ref i2):=hk₅ _ _ D.TIz D.TITO D.TIi1 D.TIi2 hTI
 have hzlt:z < h₅.objs.size:=aX hz₅
 show wpAny _ _ (Builtin.SmallTypes.ownedTupleHandOut (.ref z) (.ref h₅.objs.size) >>= _) _ _ _
 refine aa ?_
 unfold Builtin.SmallTypes.ownedTupleHandOut
 have hz₆:IsZip (h₅.push { cls:=.type "tuple",data:=.seq #[x,y] }) z TI TO .ellipsis:=ac _ hz₅
 refine aa (cX hz₆ (by simp) fun h₇ hz₇ hs₇=>?_)
 replace hz₇:IsZip h₇ z TI TO (rawInt h₅.objs.size):=hz₇
 refine cX hz₇ (by simp) fun h₈ hz₈ hs₈=>?_
 replace hz₈:IsZip h₈ z TI TO (rawInt h₅.objs.size):=hz₈
 have up:∀ c o,c≠z→h₅.get? c=some o→h₈.get? c=some o:=fun c o c1 e=>hs₈.extBut _ _ c1 (hs₇.extBut _ _ c1 (ac _ e))
 have hT₈:IsPair h₈ h₅.objs.size x y:=hs₈.extBut _ _ (cK hzlt) (hs₇.extBut _ _ (cK hzlt) (ay _ rfl))
 rw[hsz] at hz₈ hT₈
 refine ab ⟨_,rfl,?_⟩
 rw[hsz]
 exact ab (hQ h₈ ⟨hz₈,up _ _ D.TIz hTI₅,h1₅.elim fun o r=>⟨o,up _ _ D.i1z r.1,r.2⟩,h2₅.elim fun o r=>⟨o,up _ _ D.i2z r.1,r.2⟩⟩ (up _ _ D.TOz hTO₅) hT₈ fun c o c1 c2 c3 c4 e=>up c o c1 (hk₅ c o c1 c2 c3 c4 e))
theorem u4{it t:Addr}{i:Nat}{items:Array Value}{Q:Value→Shared→Prop}(hh:A.handled=none)(hit:IsTupIter s.heap it t i)(ht:IsTup s.heap t items)(hx:items[i]?=none)
 (hE:∀ h' e,Heap.ExtBut it s.heap h'→(∃ o,h'.get? e=some o∧o.cls=.type "StopIteration")→E (.ref e) { s with heap:=h' }):wpAny (model prog w) A (Builtin.SmallTypes.nextOf (.ref it)) Q E s:=by
 refine fj (id hit) ?_;intro o ho hc hd
 refine fj ht ?_;clear ht;intro ol hol _ dZ;refine eZ dZ ?_;clear dZ;intro nl hdl
 unfold Builtin.SmallTypes.nextOf
 refine aa (bH (name:=Str.ofString "__next__") hit.typeIs dR (aZ dR hit.typeIs entry_tupleiter_next ?_ (args_tupleiter_next _)))
 show wpAny _ _ (field (.ref it) 0 >>= _) _ _ s
 refine aa (bQ ho hd (x:=.ref t) rfl ?_)
 show wpAny _ _ (if (Value.ref t == Value.none)=true then _ else _) _ _ s
 rw[ai (show ¬ ((Value.ref t == Value.none)=true) from ak)]
 refine aa (bQ ho hd (x:=.int i 0) rfl (aa (bB hol hdl ?_)))
 simp only[bK,hx]
 refine aa (cI (aa (wpAny_setField ho hd (by simp) ?_)))
 show wpAny _ _ (newExc (.type "StopIteration") [] >>= _) _ _ _
 refine aa ?_
 simp only[newExc,newTuple]
 refine aa (cC ?_ (by size_fits))
 refine aa (m:=firstArgMember _ _) (wpAny_of_eq (a:=Value.none) (by first | rfl | (simp only[firstArgMember];rfl)) ?_)
 refine cC ?_ (by size_fits)
 simp only[raiseNew]
 refine aa (wpAny_handled ?_)
 first | rw[show A.in1.handled=none from hh] | rw[hh]
 refine aa (ab (wpAny_throw ?_))
 exact hE _ _ (((cp ..).extBut.push _).push _) ⟨_,ay _ rfl,rfl⟩
theorem zeu{q:SqK}{it t:Addr}{i:Nat}{items:Array Value}{Q:Value→Shared→Prop}(hh:A.handled=none)(hit:IsIt q s.heap it t i)(ht:IsSq q s.heap t items)(hx:items[i]?=none)
 (hE:∀ h' e,Heap.ExtBut it s.heap h'→(∃ o,h'.get? e=some o∧o.cls=.type "StopIteration")→E (.ref e) { s with heap:=h' }):wpAny (model prog w) A (Builtin.SmallTypes.nextOf (.ref it)) Q E s:=by
 cases q with
 | tup=>exact u4 hh hit ht hx hE
 | lst=>exact wpAny_nextOf_list_end hh hit ht hx hE
theorem zlb{Q:Option Value→Shared→Prop}(hh:A.handled=none)(D:ZipApart z TI TO i1 i2 t l)(Z:ZAt q1 q2 s.heap z TI TO i1 i2 t l k .none)(hl1:IsSq q1 s.heap t xs)(hx:xs[k]?=none)
 (hQ:∀ h',(∀ c o,c≠z→c≠i1→s.heap.get? c=some o→h'.get? c=some o)→Q none { s with heap:=h' }) :
 wpAny (model prog w) A (pyNext (.ref z)) Q E s:=by
 obtain⟨hz,hTI,h1,h2⟩:=Z
 have hT:s.TypeIs (.ref z) "zip":=⟨_,hz,rfl⟩
 unfold pyNext
 refine aa (wpAny_attempt (bH (name:=Str.ofString "__next__") hT F.slot_zip_next (aZ F.slot_zip_next hT F.entry_zip_next ?_ (F.args_zip_next_1 _))))
 show wpAny _ _ (field (.ref z) 2 >>= _) _ _ _
 refine aa (bQ hz rfl (x:=.bool false) rfl ?_)
 show wpAny _ _ (field (.ref z) 3 >>= _) _ _ _
 refine aa (bQ hz rfl (x:=.ref TI) rfl (aa (bB hTI rfl ?_)))
 show wpAny _ _ (Builtin.SmallTypes.ownedTupleIsFree (.ref z) >>= _) _ _ _
 refine aa ?_
 unfold Builtin.SmallTypes.ownedTupleIsFree
 refine aa (bQ hz rfl (x:=.none) rfl (ab ?_))
 simp only[if_true]
 refine aa (cI (aa (bQ hz rfl (x:=.ref TO) rfl (aa (cX hz (by simp) fun h₁ hz₁ hs₁=>?_)))))
 replace hz₁:IsZip h₁ z TI TO .ellipsis:=hz₁
 refine aa ?_
 simp only[List.zipIdx_cons,List.zipIdx_nil,dT,dB]
 refine aa (aa (wpAny_onRaise ?_))
 show wpAny _ _ (Builtin.SmallTypes.nextOf (.ref i1) >>= _) _ _ _
 refine aa (zeu hh (h1.ext hs₁.extBut D.i1z) (hl1.ext hs₁.extBut D.l1z) hx fun h₂ e hs₂ he=>?_)
 refine eV he ?_;clear he;intro oe hoe hce
 have hz₂:IsZip h₂ z TI TO .ellipsis:=hs₂ _ _ D.i1z.symm hz₁
 have hez:e≠z:=fun x=>by subst x;rw[hz₂] at hoe;injection hoe with eQ;subst eQ;simp at hce
 refine cX hz₂ (by simp) fun h₃ uA hs₃=>?_
 refine aa (bR (T:="StopIteration") (b:=true) ⟨oe,hs₃.extBut _ _ hez hoe,hce⟩ isSubtype_stop ?_)
 exact ab (hQ h₃ fun c o c1 c3 x=>hs₃.extBut _ _ c1 (hs₂ _ _ c3 (hs₁.extBut _ _ c1 x)))
theorem zf7{q:SqK}{l:Addr}{xs:Array Value}{Q:Value→Shared→Prop}(hl:IsSq q s.heap l xs)(hQ:Q (.ref s.heap.objs.size) { s with heap:=s.heap.push { cls:=.type q.itc,data:=.fields #[.ref l,.int 0 0] } }):wpAny (model prog w) A (pyIter (.ref l)) Q E s:=by
 cases q with
 | tup=>exact iter_tuple hl hQ
 | lst=>exact ch hl hQ
noncomputable abbrev zH1(q1:SqK)(h:Heap)(l:Addr):Heap:=h.push { cls:=.type q1.itc,data:=.fields #[.ref l,.int 0 0] }
noncomputable abbrev zH2(q1 q2:SqK)(h:Heap)(l t:Addr):Heap:=(zH1 q1 h l).push { cls:=.type q2.itc,data:=.fields #[.ref t,.int 0 0] }
noncomputable abbrev zH3(q1 q2:SqK)(h:Heap)(l t:Addr):Heap:=(zH2 q1 q2 h l t).push { cls:=.type "tuple",data:=.seq #[.ref h.objs.size,.ref (zH1 q1 h l).objs.size] }
noncomputable abbrev zH4(q1 q2:SqK)(h:Heap)(l t:Addr):Heap:=(zH3 q1 q2 h l t).push { cls:=.type "tuple",data:=.seq #[.none,.none] }
noncomputable abbrev zH5(q1 q2:SqK)(h:Heap)(l t:Addr):Heap:=(zH4 q1 q2 h l t).push { cls:=.type "zip",data:=.fields #[.none,.bool false,.bool false,.ref (zH2 q1 q2 h l t).objs.size,.ref (zH3 q1 q2 h l t).objs.size] }
theorem zg7(q1 q2:SqK)(l t:Addr)(xs ys:Array Value) :
 Meets (Builtin.«zip.__new__» ⟨[.type "zip",.ref l,.ref t],[]⟩) (fun uA R s=>IsSq q1 s.heap l xs∧IsSq q2 s.heap t ys ∧
  R (.ok (.ret (.ref (zH4 q1 q2 s.heap l t).objs.size))) { s with heap:=zH5 q1 q2 s.heap l t }):=
 .of_wp fun prog w A R s h=>by
  obtain⟨hp,g,d,tk,os⟩:=s;refine fc h ?_;clear h;intro hl1 hl2 h
  have hsub:=sub_zip
  have hL1:IsSq q1 (Shared.heap ⟨hp,g,d,tk,os⟩) l xs:=hl1
  have hL2:IsSq q2 (Shared.heap ⟨hp.push { cls:=.type q1.itc,data:=.fields #[.ref l,.int 0 0] },g,d,tk,os⟩) t ys:=let ⟨o,e,r⟩:=hl2;⟨o,ac _ e,r⟩
  wp_walk using zf7 hL1,zf7 hL2
  exact eW _ rfl h
theorem zky{l t:Addr}{Q:Value→Shared→Prop}(hl1:IsSq q1 s.heap l xs)(hl2:IsSq q2 s.heap t ys)
 (h:∀ h' z TI TO i1 i2,ZAt q1 q2 h' z TI TO i1 i2 l t 0 .none→IsPair h' TO .none .none→ZipApart z TI TO i1 i2 l t→(∀ c∈[z,TI,TO,i1,i2],s.heap.get? c=none)→(∀ c o,s.heap.get? c=some o→h'.get? c=some o)→Q (.ref z) { s with heap:=h' }) :
 wpAny (model prog w) A (call (.type "zip") [.ref l,.ref t]) Q E s:=by
 refine callType_new F.called_zip (by decide) (F.typeCall_zip_2 _ _) (F.newCall_zip_2 _ _) (fun obj=>F.args_object_init_3 obj _ _) F.entry_zip_new (zg7 q1 q2 l t xs ys) ⟨hl1,hl2,?_⟩
 have hl:l < s.heap.objs.size:=by refine eV hl1 ?_;clear hl1;intro _ e _;exact aX e
 have ht:t < s.heap.objs.size:=by refine eV hl2 ?_;clear hl2;intro _ e _;exact aX e
 have z1:(zH1 q1 s.heap l).objs.size=s.heap.objs.size+1:=bo ..
 have z2:(zH2 q1 q2 s.heap l t).objs.size=s.heap.objs.size+2:=by rw[bo,z1]
 have z3:(zH3 q1 q2 s.heap l t).objs.size=s.heap.objs.size+3:=by rw[bo,z2]
 have z4:(zH4 q1 q2 s.heap l t).objs.size=s.heap.objs.size+4:=by rw[bo,z3]
 have g5:(zH5 q1 q2 s.heap l t).get? (zH4 q1 q2 s.heap l t).objs.size=some _:=ay _ rfl
 have g4:(zH5 q1 q2 s.heap l t).get? (zH3 q1 q2 s.heap l t).objs.size=some _:=ac _ (ay _ rfl)
 have g3:(zH5 q1 q2 s.heap l t).get? (zH2 q1 q2 s.heap l t).objs.size=some _:=ac _ (ac _ (ay _ rfl))
 have g2:(zH5 q1 q2 s.heap l t).get? (zH1 q1 s.heap l).objs.size=some _:=ac _ (ac _ (ac _ (ay _ rfl)))
 have g1:(zH5 q1 q2 s.heap l t).get? s.heap.objs.size=some _:=ac _ (ac _ (ac _ (ac _ (ay _ rfl))))
 refine⟨⟨_,g5,rfl⟩,h _ _ _ _ _ _ ⟨g5,g3,⟨_,g1,rfl,rfl⟩,⟨_,g2,rfl,rfl⟩⟩ g4 ?_ (fun c hc=>bg ?_) fun c o x=>
  ac _ (ac _ (ac _ (ac _ (ac _ x))))⟩
 ·rw[z4,z3,z2,z1];exact zipApart_new hl ht
 ·simp only[af,cM,or_false] at hc
  rcases hc with rfl | rfl | rfl | rfl | rfl
  ·rw[z4];exact dN _ _
  ·rw[z2];exact dN _ _
  ·rw[z3];exact dN _ _
  ·exact aI _
  ·rw[z1];exact dN _ _
end
inductive Shy(Bd:List PyData→Prop):PyData→Prop
 | none:Shy Bd .none
 | bool (b:Bool):Shy Bd (.bool b)
 | int (i:Int):Shy Bd (.int i)
 | str (x:Str):Shy Bd (.str x)
 | list {xs:List PyData} (h:∀ x∈xs,Shy Bd x):Shy Bd (.list xs)
 | tuple {xs:List PyData} (h:∀ x∈xs,Shy Bd x) (hb:¬ Bd xs):Shy Bd (.tuple xs)
variable{Bd:List PyData→Prop}
theorem Shy.of_list{xs:List PyData}(h:Shy Bd (.list xs)):∀ x∈xs,Shy Bd x:=by cases h;assumption
theorem Shy.of_tuple{xs:List PyData}(h:Shy Bd (.tuple xs)):(∀ x∈xs,Shy Bd x)∧¬ Bd xs:=by cases h;exact⟨by assumption,by assumption⟩
noncomputable def ShyV(Bd:List PyData→Prop):V→Prop
 | .d x=>Shy Bd x
 | .box _=>True
 | .tm _=>False
noncomputable def ShyB(Bd:List PyData→Prop):Box→Prop
 | .lst xs=>∀ x∈xs,Shy Bd x
 | .dct kvs=>∀ kv∈kvs,Shy Bd (w1 kv.1)∧Shy Bd kv.2
structure ShyS(Bd:List PyData→Prop)(ρ:Loc)(O:za):Prop where
 loc:∀ v,some v∈ρ→ShyV Bd v
 box:∀ b∈O,ShyB Bd b
theorem Reads.same{h:Heap}{v:Value}{x:PyData}{as:List Addr}(r:Reads h v x as):Shy Bd x→∀ (x':PyData) (as':List Addr),Reads h v x' as'→x'=x:=
 Reads.rec (motive_1:=fun v x as uA=>Shy Bd x→∀ (x':PyData) (as':List Addr),Reads h v x' as'→x'=x) (motive_2:=fun vs xs as uA=>(∀ x∈xs,Shy Bd x)→∀ (xs':List PyData) (as':List Addr),ReadsAll h vs xs' as'→xs'=xs)
  (fun uA x' as' r=>by cases r;rfl) (fun b uA x' as' r=>by cases r;rfl) (fun i t uA x' as' r=>by cases r;rfl) (fun x t uA x' as' r=>by cases r;rfl)
  (fun h1 h2 h3 uA ih s x' as' r=>by
    cases r with
    | list q1 q2 q3 q4=>rw[h1] at q1;injection q1 with eQ;subst eQ;rw[h3] at q3;injection q3 with eQ eR;subst eQ eR;rw[ih s.of_list _ _ q4]
    | tuple q1 q2 q3 q4=>rw[h1] at q1;injection q1 with eQ;subst eQ;rw[h2] at q2;exact absurd q2 (by simp)
    | dict q1 q2 q3 q4=>rw[h1] at q1;injection q1 with eQ;subst eQ;rw[h2] at q2;exact absurd q2 (by simp))
  (fun h1 h2 h3 uA ih s x' as' r=>by
    cases r with
    | list q1 q2 q3 q4=>rw[h1] at q1;injection q1 with eQ;subst eQ;rw[h2] at q2;exact absurd q2 (by simp)
    | tuple q1 q2 q3 q4=>rw[h1] at q1;injection q1 with eQ;subst eQ;rw[h3] at q3;injection q3 with eQ eR;subst eQ eR;rw[ih s.of_tuple.1 _ _ q4]
    | dict q1 q2 q3 q4=>rw[h1] at q1;injection q1 with eQ;subst eQ;rw[h2] at q2;exact absurd q2 (by simp))
  (fun uA uA uA uA uA uA uA s=>nomatch s)
  (fun uA xs' as' r=>by cases r;rfl)
  (fun uA uA i1 i2 s xs' as' r=>by
    cases r with
    | cons r1 r2=>rw[i1 (s _ am) _ _ r1,i2 (fun x hx=>s x (ag _ hx)) _ _ r2]) r
inductive ZOwn(Bd:List PyData→Prop)(h:Heap)(T:Addr):Prop
 | none (e:IsPair h T .none .none):ZOwn Bd h T
 | data (a b:Value) (e:IsPair h T a b) (x y:PyData) (as cs:List Addr) (r1:Reads h a x as) (r2:Reads h b y cs) (s1:Shy Bd x) (s2:Shy Bd y) (hb:Bd [x,y]):ZOwn Bd h T
theorem ZOwn.pair{h:Heap}{T:Addr}(o:ZOwn Bd h T):∃ a b,IsPair h T a b:=by
 cases o with
 | none e=>exact fD _ _ e
 | data a b e=>exact fD a b e
theorem ZOwn.bad{h:Heap}{T:Addr}(hN:Bd [.none,.none])(o:ZOwn Bd h T){ob:Obj}{vs:Array Value}{n:Nat}(e:h.get? T=some ob)(hd:ob.data=.seq vs n){xs:List PyData}{as:List Addr}(r:ReadsAll h vs.toList xs as):Bd xs:=by
 cases o with
 | none e'=>
   have e':h.get? T=_:=e'
   rw[e] at e';injection e' with eQ;subst eQ;injection hd with eQ eR;subst eQ eR
   cases r with
   | cons r1 r=>
     cases r with
     | cons r2 r=>cases r;cases r1;cases r2;exact hN
 | data a b e' x y as cs g1 g2 s1 s2 hb=>
   have e':h.get? T=_:=e'
   rw[e] at e';injection e' with eQ;subst eQ;injection hd with eQ eR;subst eQ eR
   cases r with
   | cons r1 r=>
     cases r with
     | cons r2 r=>
       cases r
       rw[Reads.same g1 s1 _ _ r1,Reads.same g2 s2 _ _ r2];exact hb
section
variable{G:Gl}{F:Fm}{N β Z:List Addr}{T:Addr}{ρ:Loc}{O:za}{h h':Heap}(hz:∀ z∈Z,Itr h z)(hN:Bd [.none,.none])(ho:ZOwn Bd h T)(hk:∀ b o,b∉Z→b≠T→h.get? b=some o→h'.get? b=some o)
include hz hN ho hk
theorem getS{b:Addr}{o:Obj}(e:h.get? b=some o)(hd:∀ fs,o.data≠.fields fs)(hc:∀ vs n,o.data=.seq vs n→o.cls≠.type "tuple"):h'.get? b=some o:=by
 refine hk b o (notZ hz e hd) (fun hb=>?_) e
 obtain⟨x,y,ep⟩:=ho.pair
 have ep:h.get? T=_:=ep
 rw[← hb,e] at ep;injection ep with eQ;subst eQ
 exact hc _ _ rfl rfl
theorem je{v:Value}{x:PyData}{as:List Addr}(r:Reads h v x as):Shy Bd x→Reads h' v x as:=
 Reads.rec (motive_1:=fun v x as uA=>Shy Bd x→Reads h' v x as) (motive_2:=fun vs xs as uA=>(∀ x∈xs,Shy Bd x)→ReadsAll h' vs xs as)
  (fun uA=>.none) (fun b uA=>.bool b) (fun i t uA=>.int i t) (fun x t uA=>.str x t)
  (fun h1 h2 h3 uA ih s=>.list (getS hz hN ho hk h1 (fun fs q=>by rw[h3] at q;exfalso;injection q) fun uA uA uA q=>by rw[h2] at q;exact absurd q (by simp)) h2 h3 (ih s.of_list))
  (fun {a o vs n xs as} h1 h2 h3 r ih s=>.tuple (hk a o (notZ hz h1 fun fs q=>by rw[h3] at q;exfalso;injection q) (fun e=>s.of_tuple.2 (ho.bad hN (e ▸ h1) h3 r)) h1) h2 h3 (ih s.of_tuple.1))
  (fun uA uA uA uA uA uA uA s=>nomatch s)
  (fun uA=>.nil) (fun uA uA i1 i2 s=>.cons (i1 (s _ am)) (i2 fun x hx=>s x (ag _ hx))) r
theorem uu{vs:List Value}{xs:List PyData}{as:List Addr}(r:ReadsAll h vs xs as)(s:∀ x∈xs,Shy Bd x):ReadsAll h' vs xs as:=by
 revert s
 refine z5 (motive:=fun vs xs as=>(∀ x∈xs,Shy Bd x)→ReadsAll h' vs xs as) (fun uA=>.nil) (fun {v d as vs ds bs} r uA ih s=>.cons (je hz hN ho hk r (s _ am)) (ih fun x hx=>s x (ag _ hx))) r
theorem VR.keepS{v:Value}{x:V}(r:VR G N β h v x)(s:ShyV Bd x):VR G N β h' v x:=by
 cases x with
 | d x=>obtain⟨as,r,q⟩:=r;exact⟨as,je hz hN ho hk r s,q⟩
 | box n=>exact r
 | tm its=>cases s
theorem BoxAt.keepS{a:Addr}{bx:Box}(r:BoxAt h N β a bx)(s:ShyB Bd bx):BoxAt h' N β a bx:=by
 cases bx with
 | lst xs=>obtain⟨o,vs,n,h1,h2,h3,as,h4,h5⟩:=r;exact⟨o,vs,n,getS hz hN ho hk h1 (fun fs q=>by rw[h3] at q;exfalso;injection q) (fun uA uA uA q=>by rw[h2] at q;exact absurd q (by simp)),h2,h3,as,uu hz hN ho hk h4 s,h5⟩
 | dct kvs=>
   obtain⟨o,es,n,h1,h2,h3,h4,h5⟩:=r
   refine⟨o,es,n,getS hz hN ho hk h1 (fun fs q=>by rw[h3] at q;exfalso;injection q) (fun uA uA q=>by rw[h3] at q;exfalso;injection q),h2,h3,h4,fun i e kv he hkv=>?_⟩
   obtain⟨hq,as,bs,r1,r2,q⟩:=h5 i e kv he hkv
   exact⟨hq,as,bs,je hz hN ho hk r1 (s _ (aw hkv)).1,je hz hN ho hk r2 (s _ (aw hkv)).2,q⟩
theorem nsS{L:Addr}{m:Str→Option Value}(x:h.Ns L m):h'.Ns L m:=by
 refine fq x ?_;clear x;intro o es ep h1 h2 r
 exact fx o es ep (getS hz hN ho hk h1 (fun fs q=>by rw[h2] at q;exfalso;injection q) (fun uA uA q=>by rw[h2] at q;exfalso;injection q)) h2 r
theorem zn6{c:Addr}{v:Option Value}(x:h.IsCell c v):h'.IsCell c v:=by
 refine eV x ?_;clear x;intro o h1 h2
 exact eW o (getS hz hN ho hk h1 (fun fs q=>by rw[h2] at q;exfalso;injection q) (fun uA uA q=>by rw[h2] at q;exfalso;injection q)) h2
theorem SR.keepS(hz0:∀ z∈Z,G.h₀.get? z=none)(hT0:G.h₀.get? T=none)(hzB:∀ z∈Z,z∉F.B)(hTB:T∉F.B)(r:SR G F β ρ O h)(s:ShyS Bd ρ O):SR G F β ρ O h':=by
 have f:=r.fm
 refine⟨⟨fun c o e=>hk _ _ (fun hb=>by rw[hz0 c hb] at e;exfalso;injection e) (fun hb=>by rw[hb,hT0] at e;exfalso;injection e) (r.br.keep c o e),r.br.len,r.br.nodup,r.br.new,fun i a bx h1 h2=>(r.br.at_ i a bx h1 h2).keepS hz hN ho hk (s.box _ (aw h2)),fun a ha=>(r.br.plain a ha).at fun o e=>?_⟩,
  ⟨f.kind,f.globals,f.builtins,f.once,let ⟨m,e⟩:=f.ns;⟨m,nsS hz hN ho hk e⟩,f.nsW,fun x h1=>let ⟨c,v,h3,h4,h5⟩:=f.cell x h1;⟨c,v,h3,zn6 hz hN ho hk h4,h5⟩,f.apart,f.sub,f.new,f.notBox,
    fun a ha=>let ⟨o,h1,h2⟩:=f.stor a ha;⟨o,hk _ _ (fun hb=>hzB a hb ha) (fun hb=>hTB (hb ▸ ha)) h1,h2⟩,f.frB,fun a ha=>let ⟨m,e⟩:=f.frs a ha;⟨m,nsS hz hN ho hk e⟩,fun m e=>⟨nsS hz hN ho hk (f.pin m e).1,(f.pin m e).2⟩⟩,
  fun i x v h1 h2=>?_⟩
 ·refine hk a o (r.br.notItr hz (fun b o hb e=>e) ha) (fun hT=>?_) e
  refine eV (r.br.alive a ha) ?_;intro o' e' hc
  obtain⟨x,y,ep⟩:=ho.pair
  have ep:h.get? T=_:=ep
  rw[← hT,e'] at ep;injection ep with eQ;subst eQ
  (refine eS hc ?_ ?_<;>clear hc;rotate_left;intro hc;rotate_right;intro hc) <;> exact absurd hc (by simp)
 ·refine eV (r.get i x v h1 h2) ?_;intro val h3 h4
  refine eW val ?_ (h4.keepS hz hN ho hk (s.loc v (aw h2)))
  refine eS h3 ?_ ?_<;>clear h3
  ·rintro ⟨g1,m,g2,g3⟩;exact .inl ⟨g1,m,nsS hz hN ho hk g2,g3⟩
  ·rintro ⟨g1,c,g2,g3⟩;exact .inr ⟨g1,c,g2,zn6 hz hN ho hk g3⟩
end
end Mine
end
section
namespace Mine
open PySem PyProof.Rows
theorem zgu{i n:Nat}(h:i < n):n+1 - (i+1) < n+1 - i:=by lia
theorem in5{α:Type}{z a b c d:α}:∀ x∈[z,c,d],x∈[z,a,b,c,d]:=fun uA h=>List.Sublist.subset (.cons_cons _ (.cons _ (.cons _ (List.Sublist.refl _)))) h
theorem all4{α:Type}{p:α→Prop}{a b c d:α}(h1:p a)(h2:p b)(h3:p c)(h4:p d):∀ x∈[a,b,c,d],p x:=fun x hx=>by
 refine eS (af.mp hx) ?_ ?_;rotate_left;intro hx;rotate_right;rintro rfl
 ·exact h1
 refine eS (af.mp hx) ?_ ?_;rotate_left;intro hx;rotate_right;rintro rfl
 ·exact h2
 refine eS (af.mp hx) ?_ ?_
 ·rintro rfl;exact h3
 ·intro hx;rw[ae.mp hx];exact h4
noncomputable def zipT(xs ys:List PyData):List PyData:=List.zipWith (fun x y=>.tuple [x,y]) xs ys
noncomputable def SqK.mk:SqK→List PyData→PyData
 | .lst,xs=>.list xs
 | .tup,xs=>.tuple xs
noncomputable def sqOf:SqK→PyData→Option (List PyData)
 | .lst,.list xs=>some xs
 | .tup,.tuple xs=>some xs
 | _,_=>none
theorem zci{q:SqK}{x:PyData}{xs:List PyData}(h:sqOf q x=some xs):x=q.mk xs:=by
 cases q <;> cases x <;> first | (cases h;rfl) | (exfalso;injection h)
structure ZOk(Bd:List PyData→Prop)(q1 q2:SqK)(xs ys:List PyData):Prop where
 len:xs.length=ys.length
 sx:Shy Bd (q1.mk xs)
 sy:Shy Bd (q2.mk ys)
 non:Bd [.none,.none]
 bad:∀ (i:Nat) x y,xs[i]?=some x→ys[i]?=some y→Bd [x,y]
theorem Shy.of_sq{Bd:List PyData→Prop}{q:SqK}{xs:List PyData}(h:Shy Bd (q.mk xs)):∀ x∈xs,Shy Bd x:=by
 cases q with
 | lst=>exact Shy.of_list h
 | tup=>exact (Shy.of_tuple h).1
inductive SqV(q:SqK)(h:Heap)(N β:List Addr)(v:Value)(xs:List PyData):Prop
 | mk (a:Addr) (o:Obj) (vs:Array Value) (n:Nat) (hv:v=.ref a) (h1:h.get? a=some o) (h2:o.cls=.type q.cls) (h3:o.data=.seq vs n) (as:List Addr) (h4:ReadsAll h vs.toList xs as) (h5:∀ a∈as,a∉β∧a∉N)
theorem VR.sq_inv{G:Gl}{q:SqK}{h:Heap}{N β:List Addr}{v:Value}{xs:List PyData}(r:VR G N β h v (.d (q.mk xs))):SqV q h N β v xs:=by
 cases q with
 | tup=>obtain⟨a,o,vs,n,e,h1,h2,h3,as,h4,h5⟩:=VR.tuple_inv r;exact⟨a,o,vs,n,e,h1,h2,h3,as,h4,h5⟩
 | lst=>refine fj (VR.list_inv r) ?_;intro a e dY _;obtain ⟨o,vs,n,h1,h2,h3,as,h4,h5⟩:=dY;exact⟨a,o,vs,n,e,h1,h2,h3,as,h4,h5⟩
noncomputable def xq(Bd:List PyData→Prop)(c:CT)(evb:Loc→za→R (Loc×za) Fl)(x:PyData)(ρ:Loc)(O:za):R (Loc×za) Fl:=@ite _ (ShyS Bd ρ O) (Classical.propDecidable _) (jm c evb x ρ O) .stuck
noncomputable def zj3(Bd:List PyData→Prop)(q1 q2:SqK)(c:CT)(evb:Loc→za→R (Loc×za) Fl)(o1 o2:Option (List PyData))(S:Loc×za):R (Loc×za) Fl:=match o1,o2 with
 | some xs,some ys=>@ite _ (ZOk Bd q1 q2 xs ys) (Classical.propDecidable _) (zq (.plain (zipT xs ys)) (xq Bd c evb) (zipT xs ys) S.1 S.2) .stuck
 | _,_=>.stuck
noncomputable def zgb(Bd:List PyData→Prop)(q1 q2:SqK)(c:CT)(evb:Loc→za→R (Loc×za) Fl)(p:V×V)(S:Loc×za):R (Loc×za) Fl:=match p with
 | (.d x,.d y)=>zj3 Bd q1 q2 c evb (sqOf q1 x) (sqOf q2 y) S
 | _=>.stuck
noncomputable def CS.forG(Bd:List PyData→Prop)(q1 q2:SqK)(t:CT)(a b:CE)(c:CSs):CS:=fun P ρ O=>if P.hd=true then .stuck else (((evE P ρ a O).bind fun v O=>(evE P ρ b O).bind fun u O=>.ok (v,u) O).lift ρ).bind (zgb Bd q1 q2 t fun ρ O=>evSs P c ρ O)
variable{Bd:List PyData→Prop}{q1 q2:SqK}
theorem zj2{src:Src}{c:CT}{evb:Loc→za→R (Loc×za) Fl}{x:PyData}{xs:List PyData}{ρ:Loc}{O:za}{fl:Fl}{S:Loc×za}(h:zq src (xq Bd c evb) (x::xs) ρ O=.ok fl S):ShyS Bd ρ O∧zk9 src c evb x (zq src (xq Bd c evb) xs) ρ O fl S:=by
 have h:(match xq Bd c evb x ρ O with
  | .ok (.ret v) S=>.ok (.ret v) S
  | .ok .next S=>if src.still S.2 then zq src (xq Bd c evb) xs S.1 S.2 else .stuck
  | _=>.stuck)=R.ok fl S:=h
 by_cases hs:ShyS Bd ρ O
 ·rw[show xq Bd c evb x ρ O=jm c evb x ρ O from ah hs] at h
  exact⟨hs,zc8 h⟩
 ·rw[show xq Bd c evb x ρ O=.stuck from ai hs] at h
  exfalso;injection h
section
variable{G:Gl}{F:Fm}{A:Around}{cx:Cx}{gval:Nat→Option PyData}{gname:Nat→Option Str}
inductive OwnV(G:Gl)(Bd:List PyData→Prop)(N β:List Addr)(h:Heap)(T:Addr):Prop
 | none (e:IsPair h T .none .none):OwnV G Bd N β h T
 | data (a b:Value) (e:IsPair h T a b) (x y:PyData) (r1:VR G N β h a (.d x)) (r2:VR G N β h b (.d y)) (s1:Shy Bd x) (s2:Shy Bd y) (hb:Bd [x,y]):OwnV G Bd N β h T
theorem OwnV.own{N β:List Addr}{h:Heap}{T:Addr}(o:OwnV G Bd N β h T):ZOwn Bd h T:=by
 cases o with
 | none e=>exact .none e
 | data a b e x y r1 r2 s1 s2 hb=>obtain⟨as,r1,_⟩:=r1;obtain⟨cs,r2,_⟩:=r2;exact .data a b e x y as cs r1 r2 s1 s2 hb
inductive TInv(G:Gl)(Bd:List PyData→Prop)(q1 q2:SqK)(F:Fm)(β₀:List Addr)(s₀:Shared)(z TI TO i1 i2 t l:Addr)(xs ys:List PyData)(go:List PyData→Loc→za→Prop)(k:Nat)(s:Shared):Prop
 | mk (i:Nat) (β:List Addr) (ρ:Loc) (O:za) (hk:k=xs.length+1 - i) (hi:i≤xs.length) (step:Step F.W β₀ s₀ s β) (sr:SR G F β ρ O s.heap) (Z:ZAt q1 q2 s.heap z TI TO i1 i2 t l i .none) (own:OwnV G Bd F.B β s.heap TO)
    (rt:VR G F.B β s.heap (.ref t) (.d (q1.mk xs))) (rl:VR G F.B β s.heap (.ref l) (.d (q2.mk ys))) (hgo:go ((zipT xs ys).drop i) ρ O)
theorem ZAt.at{h h':Heap}{z TI TO i1 i2 t l:Addr}{k:Nat}{f:Value}(Z:ZAt q1 q2 h z TI TO i1 i2 t l k f)(hk:∀ c∈[z,TI,i1,i2],∀ o,(∀ es n,o.data≠.dict es n)→h.get? c=some o→h'.get? c=some o):ZAt q1 q2 h' z TI TO i1 i2 t l k f:=by
 obtain⟨h1,h2,⟨o4,h4,c4,d4⟩,⟨o5,h5,c5,d5⟩⟩:=Z
 exact⟨hk z (.head _) _ (fun uA uA e=>nomatch e) h1,hk TI (.tail _ (.head _)) _ (fun uA uA e=>nomatch e) h2,
  ⟨o4,hk i1 (.tail _ (.tail _ (.head _))) _ (fun uA uA e=>by rw[d4] at e;exfalso;injection e) h4,c4,d4⟩,⟨o5,hk i2 (.tail _ (.tail _ (.tail _ (.head _)))) _ (fun uA uA e=>by rw[d5] at e;exfalso;injection e) h5,c5,d5⟩⟩
theorem ZAt.itr{h:Heap}{z TI TO i1 i2 t l:Addr}{k:Nat}{f:Value}(Z:ZAt q1 q2 h z TI TO i1 i2 t l k f):∀ c∈[z,i1,i2],Itr h c:=fun c hc=>by
 obtain⟨h1,h2,⟨o4,h4,c4,d4⟩,⟨o5,h5,c5,d5⟩⟩:=Z
 refine eS (af.mp hc) ?_ ?_;rotate_left;intro hc;rotate_right;rintro rfl
 ·exact fx _ _ _ h1 rfl rfl
 refine eS (af.mp hc) ?_ ?_
 ·rintro rfl;exact fx o4 _ _ h4 c4 d4
 ·intro hc;rw[ae.mp hc];exact fx o5 _ _ h5 c5 d5
theorem BR.notTup{N β:List Addr}{O:za}{h:Heap}(b:BR G N β O h){c:Addr}{x y:Value}(e:IsPair h c x y):c∉β:=fun hc=>by
 refine eV (b.alive c hc) ?_;intro o e' hd
 have e:h.get? c=_:=e
 rw[e] at e';injection e' with eQ;subst eQ
 (refine eS hd ?_ ?_<;>clear hd;rotate_left;intro hd;rotate_right;intro hd) <;> exact absurd hd (by simp)
theorem zqf{es:List Expr}{kt:Nat}{pt:Pos}{c:CT}{own:Str→Bool}{body:List Stmt}{evb:Loc→za→R (Loc×za) Fl}{xs ys:List PyData}(g:GOk G gval gname)(hh:A.handled=none)(fit:Fits F cx)(hown:∀ x,own x=true→F.own x=true)(hc:chkT cx own c (.Tuple es kt pt)=true)
 (hb:∀ s β ρ O,SR G F β ρ O s.heap→Does G F A s β (execs body F.env) (evb ρ O) (yr G F)) {s:Shared} {β:List Addr} {ρ:Loc} {O:za} {v u:Value} (sr:SR G F β ρ O s.heap) (rv:VR G F.B β s.heap v (.d (q1.mk xs))) (ru:VR G F.B β s.heap u (.d (q2.mk ys))) (ok:ZOk Bd q1 q2 xs ys)
 {fl:Fl} {S:Loc×za} (hgo:zq (.plain (zipT xs ys)) (xq Bd c evb) (zipT xs ys) ρ O=.ok fl S) {Q:Flow→Shared→Prop} {E:Value→Shared→Prop}
 (kk:∀ s' β' f,Step F.W β s s' β'→SR G F β' S.1 S.2 s'.heap→yr G F β' s'.heap f fl→Q f s') :
 wpAny (model G.prog G.w) A (call (.type "zip") [v,u]) (fun z s₁=>wpAny (model G.prog G.w) A (pyIter z) (fun it s₂=>codeAny (model G.prog G.w) A (.forLoop (.Tuple es kt pt) it body [] F.env)
  (fun r s'=>match r with | .ok f=>Q f s' | .error e=>cameBackBy (model G.prog G.w) A F.env E e s') s₂) E s₁) E s:=by
 have rv₀:=rv
 have ru₀:=ru
 obtain⟨t,ot,vt,nt,rfl,t1,t2,t3,at',t4,t5⟩:=rv.sq_inv
 obtain⟨l,ol,vl,nl,rfl,l1,l2,l3,al,l4,l5⟩:=ru.sq_inv
 refine zky (q1:=q1) (q2:=q2) ⟨ot,t1,t2,nt,t3⟩ ⟨ol,l1,l2,nl,l3⟩ fun h₁ z TI TO i1 i2 Z hTO D fresh kept=>wpAny_pyIter_zip Z.zip ?_
 clear t1 t2 t3 t4 t5 l1 l2 l3 l4 l5
 have f0:∀ c∈[z,TI,TO,i1,i2],G.h₀.get? c=none:=fun c hc=>by
  cases e:G.h₀.get? c with
  | none=>rfl
  | some o=>have:=sr.br.keep c o e;rw[fresh c hc] at this;exfalso;injection this
 have fB:∀ c∈[z,TI,TO,i1,i2],c∉F.B:=fun c hc hB=>by
  refine eV (sr.fm.stor c hB) ?_;intro o e _
  rw[fresh c hc] at e;exfalso;injection e
 have m3:∀ c∈[z,i1,i2],c∈[z,TI,TO,i1,i2]:=in5
 have ka:KeepsAll s { s with heap:=h₁ }:=⟨rfl,rfl,kept⟩
 refine codeAny_forLoop_any (TInv G Bd q1 q2 F β s z TI TO i1 i2 t l xs ys fun zs ρ O=>zq (.plain (zipT xs ys)) (xq Bd c evb) zs ρ O=.ok fl S) ?_ (xs.length+1) ⟨0,β,ρ,O,rfl,be _,ka.step _ _,sr.keepAll kept,Z,.none hTO,rv₀.keepAll kept,ru₀.keepAll kept,hgo⟩
 clear hgo Z hTO ka rv₀ ru₀
 intro k s' hI
 obtain⟨i,β',ρ',O',rfl,hi,step,sr',Z,own,rt,rl,hgo⟩:=hI
 have hitr:=Z.itr
 have hlz:(zipT xs ys).length=xs.length:=by unfold zipT;rw[List.length_zipWith,← ok.len,Nat.min_self]
 have rt':=rt
 have rl':=rl
 obtain⟨t',ot,vt,nt,e,t1,t2,t3,at',t4,t5⟩:=rt.sq_inv
 injection e with eQ;subst eQ
 obtain⟨l',ol,vl,nl,e,l1,l2,l3,al,l4,l5⟩:=rl.sq_inv
 injection e with eQ;subst eQ
 by_cases hlt:i < xs.length
 ·have hxi:xs[i]?=some xs[i]:=ao hlt
  have hly:i < ys.length:=by rw[← ok.len];exact hlt
  have hyi:ys[i]?=some ys[i]:=ao hly
  have hzi:(zipT xs ys).drop i=.tuple [xs[i],ys[i]]::(zipT xs ys).drop (i+1):=by
   rw[List.drop_eq_getElem_cons (by rw[hlz];exact hlt)]
   unfold zipT
   rw[List.getElem_zipWith]
  rw[hzi] at hgo
  obtain⟨hshy,ρ'',f,S',hbt,he,hrest⟩:=zj2 hgo
  have sx:Shy Bd xs[i]:=ok.sx.of_sq _ (aw hxi)
  have sy:Shy Bd ys[i]:=ok.sy.of_sq _ (aw hyi)
  have hbd:Bd [xs[i],ys[i]]:=ok.bad i _ _ hxi hyi
  have hN:=ok.non
  generalize xs[i]=x at hxi hbt sx hzi hbd
  generalize ys[i]=y at hyi hbt sy hzi hbd
  refine fh (zo t4 t5 hxi) ?_;intro vx bx x1 x2 x3
  refine fh (zo l4 l5 hyi) ?_;intro vy by' y1 y2 y3
  rw[aP] at x1 y1
  obtain⟨ta,tb,hTO⟩:=own.own.pair
  refine zh3 D Z hTO ⟨ot,t1,t2,nt,t3⟩ ⟨ol,l1,l2,nl,l3⟩ x1 y1 fun h₂ Z₂ hTO₂ hT hk₂=>?_
  have zlt:s'.heap.objs.size≠z:=cK (aX Z.zip)
  refine wpAny_letOwnedTupleGo_zip (s:={ s' with heap:=h₂ }) Z₂.zip fun h₃ hz₃ hs₃=>?_
  have hk₃:∀ b o,b∉[z,i1,i2]→b≠TO→s'.heap.get? b=some o→h₃.get? b=some o:=fun b o hb hbT e=>by
   exact hs₃.extBut _ _ (fun e=>hb (e ▸ .head _)) (hk₂ b o (fun e=>hb (e ▸ .head _)) hbT (fun e=>hb (e ▸ .tail _ (.head _))) (fun e=>hb (e ▸ .tail _ (.tail _ (.head _)))) e)
  have Z₃:ZAt q1 q2 h₃ z TI TO i1 i2 t l (i+1) .none:=by
   obtain⟨_,q2,⟨o4,q4,r4⟩,q5⟩:=Z₂
   exact⟨hz₃,hs₃.extBut _ _ D.TIz q2,⟨o4,hs₃.extBut _ _ D.i1z q4,r4⟩,q5.ext hs₃.extBut D.i2z⟩
  have hTO₃:IsPair h₃ TO vx vy:=hs₃.extBut _ _ D.TOz hTO₂
  have sr₃:SR G F β' ρ' O' h₃:=sr'.keepS hitr hN own.own hk₃ (fun c hc=>f0 c (m3 c hc)) (f0 TO (.tail _ (.tail _ (.head _)))) (fun c hc=>fB c (m3 c hc)) (fB TO (.tail _ (.tail _ (.head _)))) hshy
  have rx:VR G F.B β' h₃ vx (.d x):=VR.keepS hitr hN own.own hk₃ (x:=.d x) ⟨bx,x2,x3⟩ sx
  have ry:VR G F.B β' h₃ vy (.d y):=VR.keepS hitr hN own.own hk₃ (x:=.d y) ⟨by',y2,y3⟩ sy
  have rt₃:=rt'.keepS hitr hN own.own hk₃ ok.sx
  have rl₃:=rl'.keepS hitr hN own.own hk₃ ok.sy
  have rp:VR G F.B β' h₃ (.ref s'.heap.objs.size) (.d (.tuple [x,y])):=by
   obtain⟨as,r1,q1⟩:=id rx
   obtain⟨bs,r2,q2⟩:=id ry
   exact⟨_,.tuple (hs₃.extBut _ _ zlt hT) rfl rfl (.cons r1 (.cons r2 .nil)),fun a ha=>by
    rw[ba] at ha
    exact (aj.mp ha).elim (q1 a) (q2 a)⟩
  have step₃:Step F.W β s { s' with heap:=h₃ } β':=step.thenZ (Z:=[z,TI,TO,i1,i2]) ⟨rfl,rfl,fun b o hb e=>hk₃ b o (fun h=>hb (m3 b h)) (fun h=>hb (h ▸ .tail _ (.tail _ (.head _)))) e⟩ fresh
  have da:=xc (A:=A) (s:={ s' with heap:=h₃ }) hh fit hown c hc sr₃ rp
  unfold bindR at da
  dsimp only at da
  rw[hbt] at da
  dsimp only at da
  refine da _ _ fun s₄ β₄ uA st₄ sr₄ uA=>?_
  have db:=hb s₄ β₄ ρ'' O' sr₄
  rw[he] at db
  refine db _ _ fun s₅ β₅ f' st₅ sr₅ rf=>?_
  have st:=st₄.trans st₅
  have step₅:=step₃.trans st
  cases hrest with
  | ret w e=>
    subst e
    refine eV rf ?_;clear rf;intro val dX rv';subst dX
    exact kk s₅ β₅ (.ret val) step₅ sr₅ ⟨val,rfl,rv'⟩
  | next _ hst hgo=>
    have rf:f'=.next:=rf
    subst rf
    have nW:∀ c∈[z,TI,TO,i1,i2],c∉F.W:=fun c hc hW=>fB c hc (sr.fm.sub c hW)
    refine⟨xs.length+1 - (i+1),zgu hlt,i+1,β₅,S'.1,S'.2,rfl,hlt,step₅,sr₅,Z₃.at (all4 (fun o hd e=>st.keptE e (ue sr₃.br Z₃.itr _ (.head _)) (nW _ (.head _)) hd) (fun o hd e=>st.keptE e (sr₃.br.notTup Z₃.ti) (nW _ (.tail _ (.head _))) hd) (fun o hd e=>st.keptE e (ue sr₃.br Z₃.itr _ (.tail _ (.head _))) (nW _ (.tail _ (.tail _ (.tail _ (.head _))))) hd) fun o hd e=>st.keptE e (ue sr₃.br Z₃.itr _ (.tail _ (.tail _ (.head _)))) (nW _ (.tail _ (.tail _ (.tail _ (.tail _ (.head _)))))) hd),.data vx vy ?_ x y (rx.step sr₃.br sr₃.fm st) (ry.step sr₃.br sr₃.fm st) sx sy hbd,rt₃.step sr₃.br sr₃.fm st,rl₃.step sr₃.br sr₃.fm st,hgo⟩
    exact st.keptE hTO₃ (sr₃.br.notTup hTO₃) (nW TO (.tail _ (.tail _ (.head _)))) fun uA uA e=>nomatch e
 ·have hie:i=xs.length:=by lia
  have hd:(zipT xs ys).drop i=[]:=by rw[List.drop_eq_nil_iff,hlz,hie];exact aI _
  rw[hd] at hgo
  have hgo:Mine.R.ok Fl.next (ρ',O')=Mine.R.ok fl S:=hgo
  injection hgo with eQ eR;subst eQ eR
  have hnone:vt[i]?=none:=by
   rw[← aP,a6]
   rw[zd t4,hie];exact aI _
  refine zlb hh D Z ⟨ot,t1,t2,nt,t3⟩ hnone fun h' hk=>?_
  have kz:KeepsZ [z,i1] s' { s' with heap:=h' }:=⟨rfl,rfl,fun b o hb e=>hk b o (fun e=>hb (e ▸ .head _)) (fun e=>hb (e ▸ .tail _ (.head _))) e⟩
  have m2:∀ c∈[z,i1],c∈[z,i1,i2]:=fun c hc=>az [i2] hc
  exact wpAny_execs_nil (kk _ β' .next (step.thenZ kz fun c hc=>fresh c (m3 c (m2 c hc))) (sr'.keepZ (fun c hc=>hitr c (m2 c hc)) kz.kept g.clsRef (fun c hc=>f0 c (m3 c (m2 c hc))) fun c hc=>fB c (m3 c (m2 c hc))) rfl)
end
set_option tactic.hygienic true in
theorem zov{cx:Cx}{x y:Expr}{a b:CE}{c:CSs}{t:CT}{body:List Stmt}{es:List Expr}{pt ps q pos:Pos}{kt:Nat}(h1:JE cx x a)(h2:JE cx y b)(hb:JSs cx body c)(hx:cx.isGlob "zip" = true)(hc:chkT cx (ownOf cx.sc) t (.Tuple es kt pt)=true) :
 JS cx (.For (.Tuple es kt pt) (.Call (.Name "zip" ps) [x,y] [] q) body [] pos) (.forG Bd q1 q2 t a b c):=⟨fun {G A P F s β ρ O} hr sr=>by
 show Does G F A s β _ (if P.hd=true then .stuck else _:R (Loc×za) Fl) _
 by_cases hd:P.hd=true
 ·rw[ah hd];trivial
 rw[ai hd]
 have hh:=hr.run.hm (aW.mpr hd)
 refine fb (hr.run.g.bi ("zip",.type "zip") (by decide)) ?_;intro b1 b2
 let evb:Loc→za→R (Loc×za) Fl:=fun ρ O=>evSs P c ρ O
 have e1:(((evE P ρ a O).bind fun v O=>(evE P ρ b O).bind fun u O=>R.ok (v,u) O).lift ρ).bind (zgb Bd q1 q2 t evb)=((evE P ρ a O).lift ρ).bind fun v S=>((evE P ρ b S.2).lift ρ).bind fun u S'=>zgb Bd q1 q2 t evb (v,u) (ρ,S'.2):=by
  cases evE P ρ a O with
  | ok v O'=>
    show (((evE P ρ b O').bind fun u O=>R.ok (v,u) O).lift ρ).bind _=((evE P ρ b O').lift ρ).bind _
    cases evE P ρ b O' <;> rfl
  | stuck=>rfl
 rw[e1]
 let tail:Value→Value→WT Flow:=fun v u Q E s=>wpAny (model G.prog G.w) A (call (.type "zip") [v,u]) (fun z s₁=>wpAny (model G.prog G.w) A (pyIter z) (fun it s₂=>codeAny (model G.prog G.w) A (.forLoop (.Tuple es kt pt) it body [] F.env)
  (fun r s'=>match r with | .ok f=>Q f s' | .error e=>cameBackBy (model G.prog G.w) A F.env E e s') s₂) E s₁) E s
 refine DoesW.seq (T₂:=fun v Q E s=>wpAny (model G.prog G.w) A (eval y F.env) (fun u s₁=>tail v u Q E s₁) E s) (fun Q E h=>?_) (h1.d hr.toHere sr) fun s₁ β₁ v d S e st sr₁ rv=>?_
 ·exact wpAny_For (cV rfl (z8 hr.run.g sr hr.fit hx b1 b2 (callWith_type1 (cb (aK h (fun v s₁ h₁=>cb (aK h₁ (fun u s₂ h₂=>cN h₂) fun uA uA x=>x) h2.px.star) fun uA uA x=>x) h1.px.star) h1.px.star (by rw[h2.px.star];rfl)))) fun v=>rfl
 ·have hS:S=(ρ,S.2):=by
   cases hv:evE P ρ a O with
   | ok _ _=>rw[hv] at e;injection e with eQ eR;subst eQ eR;rfl
   | stuck=>rw[hv] at e;exfalso;injection e
  rw[hS] at sr₁
  refine DoesW.seq (T₁:=tr G A (eval y F.env)) (T₂:=fun u=>tail v u) (fun Q E h=>h) (h2.d hr.toHere sr₁) fun s₂ β₂ u d₂ S₂ e₂ st₂ sr₂ ru=>?_
  have hS₂:S₂.1=ρ:=by
   cases hv:evE P ρ b S.2 with
   | ok _ _=>rw[hv] at e₂;injection e₂ with eQ eR;subst eQ eR;rfl
   | stuck=>rw[hv] at e₂;exfalso;injection e₂
  rw[hS₂] at sr₂
  have rv₂:=rv.step sr₁.br sr₁.fm st₂
  clear rv e e₂
  cases d <;> first | trivial | skip
  rename_i dx
  cases d₂ <;> first | trivial | skip
  rename_i dy
  show DoesW G F s₂ β₂ _ (zj3 Bd q1 q2 t evb (sqOf q1 dx) (sqOf q2 dy) (ρ,S₂.2)) _
  cases hx':sqOf q1 dx with
  | none=>trivial
  | some xs=>
    cases hy':sqOf q2 dy with
    | none=>trivial
    | some ys=>
      rw[zci hx'] at rv₂
      rw[zci hy'] at ru
      show DoesW G F s₂ β₂ _ (@ite _ (ZOk Bd q1 q2 xs ys) (Classical.propDecidable _) (zq (.plain (zipT xs ys)) (xq Bd t evb) (zipT xs ys) ρ S₂.2) .stuck) _
      by_cases ok:ZOk Bd q1 q2 xs ys
      ·rw[ah ok]
       cases hgo:zq (.plain (zipT xs ys)) (xq Bd t evb) (zipT xs ys) ρ S₂.2 with
       | stuck=>trivial
       | ok fl S'=>exact fun Q E kk=>zqf hr.run.g hh hr.fit hr.own hc (fun s' β' ρ' O' sr'=>hb.d hr sr') sr₂ rv₂ ru ok hgo kk
      ·rw[ai ok];trivial⟩
end Mine
end
section
namespace Mine
open PySem PyProof.Rows PySem.W
section
variable{prog:Program}{w:World}
theorem zjp{vs:List Value}{is:List Int}(h:IntsAre vs is):ItemsAre (intKind prog w) is vs:=by
 induction h with
 | nil=>exact .nil
 | cons i t _ ih=>exact .cons (by show Value.isInt i (.int i t)=true;unfold Value.isInt;exact aH rfl) ih
theorem zid{h:Heap}{vs:List Value}{xs:List PyData}{as:List Addr}(r:ReadsAll h vs xs as):∀ {kss:List (List Int)},jc xs=some kss→vs.length=kss.length∧∀ (i:Nat) v,vs[i]?=some v→∃ b ks,kss[i]?=some ks∧v=.ref b∧TK (prog:=prog) (w:=w) h ks b:=by
 refine z5 (motive:=fun vs xs uA=>∀ {kss:List (List Int)},jc xs=some kss→vs.length=kss.length∧∀ (i:Nat) v,vs[i]?=some v→∃ b ks,kss[i]?=some ks∧v=.ref b∧TK (prog:=prog) (w:=w) h ks b) ?_ ?_ r
 ·intro kss e;injection e with eQ;subst eQ;exact⟨rfl,fun i v h=>by rw[List.getElem?_nil] at h;exfalso;injection h⟩
 ·intro v d as vs ds bs r _ ih kss e
  refine eV (aV.mp e) ?_;intro p hx e
  refine eV (aE.mp e) ?_;intro q hr dY;subst dY
  refine fb (ih hr) ?_;intro l k
  refine⟨cA (· + 1) l,fun i u h=>?_⟩
  cases i with
  | succ i=>exact k i u h
  | zero=>
    have h:some v=some u:=h
    injection h with eQ;subst eQ
    have hx:d8 d=some p:=hx
    refine eV (zbj r hx) ?_;intro b dX dY;subst dX;obtain ⟨o,n,us,g1,g2,g3,g4,_⟩:=dY
    exact⟨b,p,rfl,rfl,o,us,n,g1,g2,g3,zjp g4⟩
end
noncomputable def u7(x:PyData):Option PyData:=ofList (fun xs=>(jc xs).bind fun kss=>if kss.length≤17 then some (.int (yj kss kss.length).length) else none) x
noncomputable def CE.lenS(a:CE):CE:=fun P ρ O=>if P.hd=true then .stuck else (evE P ρ a O).bind fun v O=>opt (((look O v).bind u7).map .d) O
section
variable{G:Gl}{F:Fm}{A:Around}{s:Shared}{β:List Addr}{ρ:Loc}{O:za}{cx:Cx}{gval:Nat→Option PyData}{gname:Nat→Option Str}
theorem zpb{v:Value}{d:V}{x y:PyData}{k:Nat}(ro:Room A k)(hh:A.handled=none)(sr:SR G F β ρ O s.heap)(rv:VR G F.B β s.heap v d)(hx:look O d=some x)(hy:u7 x=some y) :
 DoesW G F s β (fun Q E s=>wpAny (model G.prog G.w) A (call (.type "set") [v]) (fun S s₁=>wpAny (model G.prog G.w) A (call (.builtin "len") [S]) Q E s₁) E s) (.ok (V.d y) (ρ,O)) (VRel G F):=by
 refine eV (ve (f:=fun xs=>(jc xs).bind fun kss=>if kss.length≤17 then some (.int (yj kss kss.length).length) else none) hy) ?_;intro xs dX h;subst dX
 refine eV (aV.mp h) ?_;intro kss h1 h
 refine fb (yn h) ?_;intro h17 dX;subst dX
 refine eV (ya sr rv hx) ?_;intro a dX dY;subst dX;obtain ⟨o,vs,n,e1,e2,e3,as,r,q⟩:=dY
 refine fb (zid (prog:=G.prog) (w:=G.w) r h1) ?_;intro l hk
 have hu:=ro.c (n:=200)
 refine Does.leaf sr fun Q E kk=>dw hh (by lia) ⟨o,e1,e2,n,e3⟩ (by rw[← av];exact l) (fun i v hv=>hk i v (by rw[← hv];exact aP)) h17 fun h' tk hS hkeep=>?_
 obtain⟨o',ep,t,m,L,ho,hex,hd,ht,hr,hre,hlen,hnd,hent,hmem,hm⟩:=hS
 have hsz:(elems L).size=(yj kss kss.length).length:=by rw[← hlen];unfold elems;rw[List.size_toArray,aG]
 have hle:=wi kss kss.length
 have hfit:t.fits (elems L).size=true:=by
  simp only[SetTable.fits,SetTable.fill,ht.place,ht.dummies,ht.mask,places,elems,aD,aS,aO]
  constructor
  ·simp
  ·simp;lia
 refine call_len_set (s:={ s with heap:=h',toks:=tk }) ho hex hd hfit (by rw[hsz];lia) ?_
 rw[hsz]
 exact kk _ _ ⟨rfl,rfl,hkeep⟩ VR.int
theorem zpj{y:Expr}{a:CE}{ps pz q q':Pos}(h:JE cx y a)(hg:(cx.isGlob "len" && cx.isGlob "set")=true):JE cx (.Call (.Name "len" ps) [.Call (.Name "set" pz) [y] [] q'] [] q) (.lenS a):=
 ⟨rfl,fun {G A P F s β ρ O} hr sr=>by
   refine fb (and2 hg) ?_;intro hx hz
   show Does G F A s β _ (R.lift ρ (if P.hd=true then .stuck else _:R za V)) _
   by_cases hd:P.hd=true
   ·rw[ah hd];trivial
   rw[ai hd]
   have hh:=hr.run.hm (aW.mpr hd)
   refine fb (hr.run.g.bi ("len",.builtin "len") (by decide)) ?_;intro b1 b2
   refine fb (hr.run.g.bi ("set",.type "set") (by decide)) ?_;intro c1 c2
   have hne:starEach [Expr.Call (.Name "set" pz) [y] [] q'] F.env=(false,eval (.Call (.Name "set" pz) [y] [] q') F.env)::starEach [] F.env:=rfl
   refine DoesW.seqE (T₂:=fun v Q E s=>wpAny (model G.prog G.w) A (call (.type "set") [v]) (fun S s₁=>wpAny (model G.prog G.w) A (call (.builtin "len") [S]) Q E s₁) E s)
    (fun Q E h'=>?_) (h.d hr sr) fun s' β' val v O' uA st sr' rv=>?_
   ·exact cV rfl (z8 hr.run.g sr hr.fit hx b1 b2 (callWith_builtin1 (cb (aK (cV rfl (z8 hr.run.g sr hr.fit hz c1 c2 (callWith_type1 (cb (aK h' (fun v s₁ h₁=>cN h₁) (fun uA uA x=>x)) h.px.star) h.px.star rfl))) (fun v s₁ h₁=>cN h₁) (fun uA uA x=>x)) hne) hne rfl))
   ·cases hl:(look O' v).bind u7 with
    | none=>trivial
    | some y=>
      refine eV (aV.mp hl) ?_;intro x h1 h2
      exact zpb hr.run.ro hh sr' rv h1 h2⟩
end
end Mine
end
section
namespace Mine
open PySem PyProof.Rows
theorem zbw:∀ (r:List Int) (a:Int),(r.foldl max a=a∨r.foldl max a∈r)∧a≤r.foldl max a∧∀ b∈r,b≤r.foldl max a
 | [],a=>⟨.inl rfl,Int.le_refl _,fun uA h=>nomatch h⟩
 | c::r,a=>by
   refine fc (zbw r (max a c)) ?_;intro h1 h2 h3
   rw[cU]
   refine⟨?_,Int.le_trans (Int.le_max_left a c) h2,fun b hb=>?_⟩
   ·refine eS h1 ?_ ?_<;>clear h1
    ·intro h1;rw[h1]
     refine eS (Int.le_total a c) ?_ ?_
     ·intro h;rw[Int.max_eq_right h];exact .inr (.head _)
     ·intro h;rw[Int.max_eq_left h];exact .inl rfl
    ·intro h1;exact .inr (.tail _ h1)
   ·refine eS (af.mp hb) ?_ ?_
    ·rintro rfl;exact Int.le_trans (Int.le_max_right a b) h2
    ·intro hb;exact h3 b hb
theorem zi4{is:List Int}{M N:Int}(h:maxI is=some M)(h1:N∈is)(h2:∀ a∈is,a≤N):N=M:=by
 cases is with
 | nil=>exfalso;injection h
 | cons a r=>
   injection h with eQ;subst eQ
   refine fc (zbw r a) ?_;intro g1 g2 g3
   refine Int.le_antisymm ?_ (h2 _ ?_)
   ·refine eS (af.mp h1) ?_ ?_
    ·rintro rfl;exact g2
    ·intro h1;exact g3 _ h1
   ·refine eS g1 ?_ ?_<;>clear g1
    ·intro g1;rw[g1];exact .head _
    ·intro g1;exact .tail _ g1
noncomputable def zi3(xs:List PyData):Option PyData:=(intsOf xs).bind fun is=>(maxI is).map .int
noncomputable def CE.maxL(a:CE):CE:=fun P ρ O=>if P.hd=true then .stuck else (evE P ρ a O).bind fun v O=>opt (((look O v).bind (ofList zi3)).map .d) O
section
variable{G:Gl}{F:Fm}{A:Around}{s:Shared}{β:List Addr}{ρ:Loc}{O:za}
theorem zsr{v:Value}{d:V}(hh:A.handled=none)(sr:SR G F β ρ O s.heap)(rv:VR G F.B β s.heap v d) :
 Does G F A s β (call (.builtin "max") [v]) ((opt (((look O d).bind (ofList zi3)).map V.d) O).lift ρ) (VRel G F):=by
 cases hl:(look O d).bind (ofList zi3) with
 | none=>trivial
 | some y=>
   refine eV (aV.mp hl) ?_;intro x h1 h2
   refine eV (ve h2) ?_;intro xs dX h;subst dX
   refine eV (aV.mp h) ?_;intro is h3 h
   refine eV (aE.mp h) ?_;intro M h4 dY;subst dY
   refine eV (ya sr rv h1) ?_;intro a dX dY;subst dX;obtain ⟨o,vs,n,e1,e2,e3,as,r,q⟩:=dY
   have hi:=ints_get r h3
   refine eZ (AllInts.items (vs:=vs) hi.allInts) ?_;intro ys dX;subst dX
   have hn:ys.toList.map (·.1)=is:=by rw[← nums_intItems,hi.numsOf]
   have hp:0 < ys.size:=by
    rw[← av,← aG (f:=(·.1)),hn]
    cases is with
    | nil=>exfalso;injection h4
    | cons _ _=>exact Nat.succ_pos _
   refine Does.leaf sr fun Q E k=>max_intList hh ⟨o,e1,e2,n,e3⟩ hp fun v h' tk hv hk=>?_
   refine eZ (intItems_at hv) ?_;intro t dX;subst dX
   refine fb (argBest_gt (numAt ys) (ys.size - 1)) ?_;intro g1 g2
   have hl:is.length=ys.size:=by rw[← hn,aG,av]
   have hM:numAt ys (argBest (fun i j=>decide (numAt ys i > numAt ys j)) (ys.size - 1))=M:=zi4 h4 (by rw[numAt_eq,hn];exact getD_mem (by lia)) fun b hb=>by
    refine eV (mem_getD hb) ?_;intro j hj dY;subst dY
    rw[← hn,← numAt_eq];exact g2 j (by lia)
   rw[hM]
   exact k _ _ (yu hk) VR.int
end
theorem zpi{cx:Cx}{x:Expr}{a:CE}{q ps:Pos}(h1:JE cx x a)(hg:cx.isGlob "max" = true):JE cx (.Call (.Name "max" ps) [x] [] q) (.maxL a):=
 ⟨rfl,fun {G A P F s β ρ O} hr sr=>by
   show Does G F A s β _ (R.lift ρ (if P.hd=true then .stuck else _:R za V)) _
   by_cases hd:P.hd=true
   ·rw[ah hd];trivial
   rw[ai hd]
   exact znd (fv:=.builtin "max") hr.run.g sr hr.fit hg (by decide) (.inl ⟨_,rfl⟩) h1.px.star (h1.d hr sr) fun s' β' v d O' sr' rv=>zsr (hr.run.hm (aW.mpr hd)) sr' rv⟩
section
variable{G:Gl}{F:Fm}{A:Around}{s:Shared}{β:List Addr}{ρ:Loc}{O:za}{cx:Cx}
end
noncomputable def zrp(f:List PyData→Option PyData):PyData→Option PyData
 | .tuple xs=>f xs
 | _=>none
noncomputable def zlq(xs:List PyData)(lo hi:PyData):Option PyData:=if xs.length≤line then (clip xs.length 0 lo).bind fun l=>(clip xs.length xs.length hi).map fun h=>.tuple (um xs l h) else none
noncomputable def zs6(v l h:V)(O:za):R za V:=match l with
 | .d l=>(match h with
    | .d h=>opt (((look O v).bind (zrp fun xs=>zlq xs l h)).map .d) O
    | _=>.stuck)
 | _=>.stuck
section
variable{G:Gl}{F:Fm}{A:Around}{s:Shared}{β:List Addr}{ρ:Loc}{O:za}
end
section
variable{cx:Cx}{x y:Expr}{a b c:CE}{p q ps:Pos}
end
noncomputable def zk4(i j k:Nat)(v:V)(S:Loc×za):R (Loc×za) Fl:=match v with
 | .d (.tuple [x,y,z])=>if i < S.1.length∧j < S.1.length∧k < S.1.length then .ok .next (((S.1.set i (some (.d x))).set j (some (.d y))).set k (some (.d z)),S.2) else .stuck
 | _=>.stuck
noncomputable def CS.asg3(i j k:Nat)(e:CE):CS:=fun P ρ O=>if P.hd=true then .stuck else ((evE P ρ e O).lift ρ).bind (zk4 i j k)
theorem zru{α:Type}{l:List α}{a b c:α}(hl:l.length=3)(h0:l[0]?=some a)(h1:l[1]?=some b)(h2:l[2]?=some c):l=[a,b,c]:=by
 cases l with
 | nil=>exfalso;injection h0
 | cons x l=>
   cases l with
   | nil=>exfalso;injection h1
   | cons y l=>
     cases l with
     | nil=>exfalso;injection h2
     | cons z l=>
       rw[co (dC (dC (dC hl))),aM h0,aM h1,aM h2]
inductive R3(h:Heap)(P:Addr→Prop)(vs:List Value)(x y z:PyData):Prop
 | mk (v1 v2 v3:Value) (b1 b2 b3:List Addr) (hv:vs=[v1,v2,v3]) (r1:Reads h v1 x b1) (q1:∀ a∈b1,P a) (r2:Reads h v2 y b2) (q2:∀ a∈b2,P a) (r3:Reads h v3 z b3) (q3:∀ a∈b3,P a)
theorem ur{h:Heap}{P:Addr→Prop}{vs:List Value}{x y z:PyData}{as:List Addr}(r:ReadsAll h vs [x,y,z] as)(q:∀ a∈as,P a):R3 h P vs x y z:=by
 refine fh (zo r q (i:=0) rfl) ?_;intro v1 b1 e1 r1 q1
 refine fh (zo r q (i:=1) rfl) ?_;intro v2 b2 e2 r2 q2
 refine fh (zo r q (i:=2) rfl) ?_;intro v3 b3 e3 r3 q3
 refine⟨v1,v2,v3,b1,b2,b3,?_,r1,q1,r2,q2,r3,q3⟩
 exact zru (zd r) e1 e2 e3
set_option tactic.hygienic true in
theorem zo0{cx:Cx}{x:Expr}{a:CE}{p ps pa pb pc:Pos}{kt i j k:Nat}{na nb nc:Str}(h:JE cx x a)(hx:(chkT cx (ownOf cx.sc) (.name i) (.Name na pa) && chkT cx (ownOf cx.sc) (.name j) (.Name nb pb) && chkT cx (ownOf cx.sc) (.name k) (.Name nc pc) && unpX x)=true) :
 JS cx (.Assign [.Tuple [.Name na pa,.Name nb pb,.Name nc pc] kt ps] x p) (.asg3 i j k a):=⟨fun {G A P F s β ρ O} hr sr=>by
 refine fb (and2 hx) ?_;intro hx h2
 refine fc (and3 hx) ?_;intro ha hb hc
 show Does G F A s β _ (if P.hd=true then .stuck else _:R (Loc×za) Fl) _
 by_cases hd:P.hd=true
 ·rw[ah hd];trivial
 rw[ai hd]
 have e:=uj (l:=[.Name na pa,.Name nb pb,.Name nc pc]) (k:=kt) (n:=p.line) (ps:=ps) (env:=F.env) h2
 have hh:=hr.run.hm (aW.mpr hd)
 refine DoesW.seq (T₂:=fun v Q E s'=>wpAny (model G.prog G.w) A (assign (.Tuple [.Name na pa,.Name nb pb,.Name nc pc] kt ps) F.env v) (fun uA=>Q .next) E s') (fun Q E h=>Assign_Tuple h e.1 e.2) (h.d hr.toHere sr) fun s' β' v d S e st sr rv=>?_
 cases d <;> first | trivial | skip
 rename_i z
 cases z <;> first | trivial | skip
 rename_i l
 match l,rv with
 | [y1,y2,y3],rv=>
   by_cases hl:i < S.1.length∧j < S.1.length∧k < S.1.length
   ·show DoesW G F s' β' _ (if i < S.1.length∧j < S.1.length∧k < S.1.length then _ else _) _
    rw[ah hl]
    intro Q E kk
    obtain⟨a,o,vs,n,rfl,g1,g2,g3,as,r,q⟩:=rv.tuple_inv
    obtain⟨v1,v2,v3,b1,b2,b3,hvs,r1,q1,r2,q2,r3,q3⟩:=ur r q
    have hsz:vs.size=3:=by rw[← av,hvs];rfl
    refine jt (M:=model G.prog G.w) hh g1 (.inl g2) g3 (by rw[hsz];rfl) rfl fun s₁ ka=>?_
    show wpAny _ A (assignInOrder [assign (.Name na pa) F.env,assign (.Name nb pb) F.env,assign (.Name nc pc) F.env] vs.toList) _ _ s₁
    rw[hvs]
    have da:=xc (A:=A) hh hr.fit hr.own (.name i) ha (sr.keepAll ka.kept) (v:=v1) (d:=.d y1) ⟨b1,zt ka.kept r1,q1⟩
    unfold bindR zp at da
    dsimp only at da
    rw[ah hl.1] at da
    refine bT (da _ _ fun s₂ β₂ uA st₂ sr₂ uA=>?_)
    have db:=xc (A:=A) hh hr.fit hr.own (.name j) hb sr₂ (v:=v2) (d:=.d y2) (VR.step (sr.keepAll ka.kept).br (sr.keepAll ka.kept).fm st₂ ⟨b2,zt ka.kept r2,q2⟩)
    unfold bindR zp at db
    dsimp only at db
    rw[ah (by rw[bc];exact hl.2.1)] at db
    refine bT (db _ _ fun s₃ β₃ uA st₃ sr₃ uA=>?_)
    have dc:=xc (A:=A) hh hr.fit hr.own (.name k) hc sr₃ (v:=v3) (d:=.d y3) (VR.step (sr.keepAll ka.kept).br (sr.keepAll ka.kept).fm (st₂.trans st₃) ⟨b3,zt ka.kept r3,q3⟩)
    unfold bindR zp at dc
    dsimp only at dc
    rw[ah (by rw[bc,bc];exact hl.2.2)] at dc
    refine bT (dc _ _ fun s₄ β₄ uA st₄ sr₄ uA=>?_)
    exact assignInOrder_nil (kk s₄ β₄ .next ((ka.step _ _).trans ((st₂.trans st₃).trans st₄)) sr₄ rfl)
   ·show DoesW G F s' β' _ (if i < S.1.length∧j < S.1.length∧k < S.1.length then _ else _) _
    rw[ai hl];trivial
 | [],_=>trivial
 | [_],_=>trivial
 | [_,_],_=>trivial
 | _::_::_::_::_,_=>trivial⟩
section
variable{G:Gl}{F:Fm}{A:Around}{s:Shared}{β:List Addr}{ρ:Loc}{O:za}
end
theorem zgt{cx:Cx}{x y:Expr}{a b:CE}{p:Pos}(h1:JE cx x a)(h2:JE cx y b):JT cx (.Compare x [.NotIn] [y] p) (.notinM a b):=⟨fun {G A P F s β ρ O} hr sr=>by
 have e:tv (evE P ρ (.notinM a b) O)=(evE P ρ a O).bind fun v O=>(evE P ρ b O).bind fun u O=>(Mine.notinM v u O).bind fun c O=>opt (truth c) O:=by
  show tv ((evE P ρ a O).bind fun v O=>(evE P ρ b O).bind fun u O=>Mine.notinM v u O)=_
  cases evE P ρ a O with
  | ok v O=>show R.bind (R.bind (evE P ρ b O) _) _=R.bind (evE P ρ b O) _;cases evE P ρ b O <;> rfl
  | stuck=>rfl
 rw[e]
 refine DoesW.seqE (T₂:=fun a Q E s₁=>wpAny (model G.prog G.w) A (eval y F.env) (fun b s₂=>wpAny (model G.prog G.w) A (compareOp .NotIn a b) (fun c s₃=>wpAny (model G.prog G.w) A (truthy c) Q E s₃) E s₂) E s₁) (fun Q E h=>wpAny_isTrue_Compare1 h (xj h2.px.set .NotIn)) (h1.d hr sr) fun s' β' v d O' e st sr rv=>?_
 refine DoesW.seqE (T₁:=tr G A (eval y F.env)) (T₂:=fun b Q E s₂=>wpAny (model G.prog G.w) A (compareOp .NotIn v b) (fun c s₃=>wpAny (model G.prog G.w) A (truthy c) Q E s₃) E s₂) (fun Q E h=>h) (h2.d hr sr) fun s₂ β₂ u d₂ O₂ e₂ st₂ sr₂ ru=>?_
 refine DoesW.seqE (T₁:=tr G A (compareOp .NotIn v u)) (T₂:=fun c=>tr G A (truthy c)) (fun Q E h=>h) (zks hr.run.ro sr₂ (rv.step sr.br sr.fm st₂) ru) fun s₃ β₃ c d₃ O₃ e₃ st₃ sr₃ rc=>?_
 exact ja sr₃ rc⟩
noncomputable def badP(xs:List PyData):Prop:=xs=[.none,.none]∨∃ a l,xs=[a,.list l]
section
variable{prog:Program}{w:World}{A:Around}{E:Value→Shared→Prop}{s:Shared}{env:Env}
theorem dz{o e:Expr}{ap pos:Pos}{Q:Value→Shared→Prop}(hbase:attributeBase o "pop" env (eval o env)=eval o env)
 (hfew:((backTo pos (starEach [e] env)).all (fun x=>!x.1) && (backToKw pos (keywordEach [] env)).all (fun x=>x.1.isSome) && decide (([e]:List Expr).length+([]:List Keyword).length+(if ([]:List Keyword).isEmpty then 0 else 1) < 30))=true)
 (hline:(ap.endLine == pos.line)=true) (htrees:backTo pos (starEach [e] env)=[(false,eval e env)])
 (h:wpAny (model prog w) A (eval o env) (fun v s₁=>∃ D its n,v=.ref D∧s₁.heap.get? D=some { cls:=.type "list",data:=.seq its n }∧wpAny (model prog w) A (eval e env) (fun y s₂=>wpAny (model prog w) A (call (.builtin "list.pop") [.ref D,y]) Q E s₂) E s₁) E s) :
 wpAny (model prog w) A (eval (.Call (.Attribute o "pop" ap) [e] [] pos) env) Q E s:=by
 rw[arm_eval_Call,hbase]
 refine aa (aK h (fun v s₁ h₁=>?_) fun uA uA x=>x)
 refine fq h₁ ?_;clear h₁;intro D its n dZ ho hc;subst dZ
 refine aa (cn ?_)
 have fin:wpAny (model prog w) A (callWith pos (.builtin "list.pop") [.ref D] (backTo pos (starEach [e] env)) []) Q E s₁:=by
  rw[htrees]
  exact Calls.callWith_builtin rfl (Calls.evalArgs_plain (Calls.spliced_cons (aK hc (fun y s₂ h₂=>Calls.spliced_nil h₂) fun uA uA x=>x)))
 have hform:methodCallForm (([e]:List Expr).length+([]:List Keyword).length) (backTo pos (starEach [e] env)) (backToKw pos (keywordEach [] env))=true:=hfew
 have hpos:methodCallPos true o env ap pos=pure pos:=by unfold methodCallPos;simp[hline]
 unfold methodCall
 rw[hform]
 refine aa (aR (getMethod_builtin ⟨_,ho,rfl⟩ PySem.F.plainAttrs_list PySem.F.slot_list_pop PySem.F.type_list_pop (fun a x=>by injection x with eQ;subst eQ;exact eW _ ho rfl) ?_))
 exact aa (wpAny_of_eq hpos fin)
theorem zg1{l:Addr}{items:Array Value}{k:Int}{t:Tok}{y:Value}{Q:Value→Shared→Prop}(hl:s.heap.PlainList l items)(h0:0≤k)(hfit:k < 2 ^ 63)(hy:items[k.toNat]?=some y)(hsz:items.size≤sizeLine)
 (hQ:∀ h',h'.PlainList l (items.eraseIdxIfInBounds k.toNat)→Heap.SameBut l s.heap h'→Q y { s with heap:=h' }):wpAny (model prog w) A (call (.builtin "list.pop") [.ref l,.int k t]) Q E s:=by
 refine eZ hl ?_;clear hl;intro n ho
 have hlt:k.toNat < items.size:=(Array.getElem?_eq_some_iff.mp hy).1
 have hk:seqIndex? k items.size=some k.toNat:=by
  have e:(if k < 0 then k+(items.size:Int) else k)=k:=ai (by lia)
  unfold seqIndex?
  dsimp only
  rw[e,ah]
  rw[aD,aO,aO];lia
 refine call_meets PySem.F.slot_list_pop ⟨_,ho,rfl⟩ PySem.F.entry_list_pop (PySem.F.args_list_pop_2 _ _) (PySem.MeetsSeq.list_pop_at l _ n k t _ y (fitsIndex_of h0 hfit) hk hy hsz) ⟨ho,hQ _ ⟨_,bn _ ho rfl⟩ (cp ..)⟩
end
theorem uv{h:Heap}{P:Addr→Prop}{vs:List Value}{xs:List PyData}{as:List Addr}(r:ReadsAll h vs xs as):(∀ a∈as,P a)→∀ (j:Nat),∃ bs,ReadsAll h (vs.eraseIdx j) (xs.eraseIdx j) bs∧∀ a∈bs,P a:=by
 refine z5 (motive:=fun vs xs as=>(∀ a∈as,P a)→∀ (j:Nat),∃ bs,ReadsAll h (vs.eraseIdx j) (xs.eraseIdx j) bs∧∀ a∈bs,P a) ?_ ?_ r
 ·intro _ j;exact eW [] .nil (fun uA h=>nomatch h)
 ·intro u d as vs ds bs r rs ih q j
  cases j with
  | zero=>exact eW bs rs (fun a ha=>q a (au _ ha))
  | succ j=>
    refine eV (ih (fun a ha=>q a (au _ ha)) j) ?_;intro b r' q'
    exact eW (as++b) (.cons r r') (fun a ha=>(aj.mp ha).elim (fun h=>q a (az _ h)) (q' a))
noncomputable def znp(n:Nat)(xs:List PyData)(k:V)(O:za):R za V:=match intV k with
 | some j=>if 0≤j∧j < xs.length∧xs.length≤line then .ok (.d (xs[j.toNat]?.getD .none)) (O.set n (.lst (xs.eraseIdx j.toNat))) else .stuck
 | none=>.stuck
noncomputable def ux(w k:V)(O:za):R za V:=match w with
 | .box n=>(match O[n]? with
    | some (.lst xs)=>znp n xs k O
    | _=>.stuck)
 | _=>.stuck
noncomputable def CE.pop(a b:CE):CE:=fun P ρ O=>(evE P ρ a O).bind fun v O=>if recv .append v O=true then (evE P ρ b O).bind fun u O=>ux v u O else .stuck
section
variable{G:Gl}{F:Fm}{A:Around}{s:Shared}{β:List Addr}{ρ:Loc}{O:za}
theorem zm8{n:Nat}{a:Addr}{u:Value}{k:V}(sr:SR G F β ρ O s.heap)(hn:β[n]?=some a)(rk:VR G F.B β s.heap u k) :
 Does G F A s β (call (.builtin "list.pop") [.ref a,u]) ((ux (.box n) k O).lift ρ) (VRel G F):=by
 unfold ux
 dsimp only
 cases hx:O[n]? with
 | none=>trivial
 | some bx=>
   cases bx with
   | dct _=>trivial
   | lst xs=>
     dsimp only
     unfold znp
     cases hk:intV k with
     | none=>trivial
     | some j=>
       dsimp only
       by_cases hj:0≤j∧j < xs.length∧xs.length≤line
       ·rw[ah hj]
        refine eZ (rk.intV hk) ?_;intro t dX;subst dX
        refine fh (xz (sr.br.plain a (aw hn)) (sr.br.at_ n a _ hn hx)) ?_;intro vs as hpl r1 q1
        have hlt:j.toNat < xs.length:=by lia
        have hxj:xs[j.toNat]?=some (xs[j.toNat]'hlt):=ao hlt
        rw[hxj,dK]
        refine fh (zo r1 q1 hxj) ?_;intro y bs y1 y2 y3
        rw[aP] at y1
        have hsz:vs.size=xs.length:=by rw[← av,zd r1]
        intro Q E kk
        have hline:line < 2 ^ 63:=by decide
        have hls:line≤sizeLine:=by decide
        refine zg1 hpl hj.1 (by lia) y1 (by lia) fun h' hl' hs'=>?_
        refine eZ hl' ?_;clear hl';intro k' e'
        have hb:Step F.W β s { s with heap:=h' } β→BoxAt h' F.B β a (.lst (xs.eraseIdx j.toNat)):=fun st₃=>by
         refine eV (uv (zu sr.br sr.fm st₃ r1 q1).1 q1 j.toNat) ?_;intro cs r4 q4
         refine ⟨_,_,k',e',rfl,rfl,cs,?_,q4⟩
         have he:(vs.eraseIdxIfInBounds j.toNat).toList=vs.toList.eraseIdx j.toNat:=by
          unfold Array.eraseIdxIfInBounds
          rw [dif_pos (by lia),Array.toList_eraseIdx]
         rw[he];exact r4
        refine fb (SR.setBox (bx:=.lst (xs.eraseIdx j.toNat)) (s':={ s with heap:=h' }) sr hn hs' rfl rfl hb ⟨_,e',rfl,rfl⟩) ?_;intro st₃ sr₃
        exact kk _ β y st₃ sr₃ ⟨bs,(z0 sr.br sr.fm st₃ y2 y3).1,y3⟩
       ·rw[ai hj];trivial
set_option tactic.hygienic true in
theorem zsp{o e:Expr}{p q:Pos}{ra:R za V}{rb:za→R za V}(hm:qi o p q=true)(hs:starEach [e] F.env=[(false,eval e F.env)])
 (h1:Does G F A s β (eval o F.env) (ra.lift ρ) (VRel G F)) (h2:∀ s' β' O',SR G F β' ρ O' s'.heap→Does G F A s' β' (eval e F.env) ((rb O').lift ρ) (VRel G F)) :
 Does G F A s β (eval (.Call (.Attribute o "pop" p) [e] [] q) F.env) ((ra.bind fun v O=>if recv .append v O=true then (rb O).bind fun u O=>ux v u O else .stuck).lift ρ) (VRel G F):=by
 have hline:(p.endLine == q.line)=true:=(and2 hm).1
 have hbase:attributeBase o "pop" F.env (eval o F.env)=eval o F.env:=by
  unfold qi at hm
  have:=(and2 hm).2
  cases o <;> first | rfl | exact (ak this).elim
 have htrees:backTo q (starEach [e] F.env)=[(false,eval e F.env)]:=by rw[hs];rfl
 refine DoesW.seqE (T₂:=fun ov Q E s₁=>∃ D its n,ov=.ref D∧s₁.heap.get? D=some { cls:=.type "list",data:=.seq its n }∧wpAny (model G.prog G.w) A (eval e F.env) (fun y s₂=>wpAny (model G.prog G.w) A (call (.builtin "list.pop") [.ref D,y]) Q E s₂) E s₁)
  (fun Q E h=>dz hbase (by rw[htrees];rfl) hline htrees h) h1 fun s' β' v d O' uA st sr rv=>?_
 split
 ·rename_i hr
  cases d with
  | box n=>
    have hr:gd O' n=true:=hr
    unfold gd at hr
    cases hx:O'[n]? with
    | none=>rw[hx] at hr;exfalso;injection hr
    | some bx=>
      rw[hx] at hr
      cases bx with
      | dct _=>exfalso;injection hr
      | lst xs=>
        obtain⟨a,hn,rfl⟩:=rv
        refine fh (xz (sr.br.plain a (aw hn)) (sr.br.at_ n a _ hn hx)) ?_;intro vs as hpl r1 q1
        refine eZ hpl ?_;clear hpl;intro k0 e0
        refine DoesW.seqE (T₁:=tr G A (eval e F.env)) (T₂:=fun y Q E s₂=>wpAny (model G.prog G.w) A (call (.builtin "list.pop") [.ref a,y]) Q E s₂) (fun Q E h=>⟨a,vs,k0,rfl,e0,h⟩) (h2 s' β' O' sr) fun s₂ β₂ y u O₂ uA st₂ sr₂ ry=>?_
        exact zm8 sr₂ (xn st₂.pre hn) ry
  | _=>exfalso;injection hr
 ·trivial
end
theorem zr6{cx:Cx}{x y:Expr}{a b:CE}{p q:Pos}(h1:JE cx x a)(h2:JE cx y b)(hm:qi x p q=true):JE cx (.Call (.Attribute x "pop" p) [y] [] q) (.pop a b):=
 ⟨rfl,fun {G A P F s β ρ O} hr sr=>zsp (rb:=fun O=>evE P ρ b O) hm h2.px.star (h1.d hr sr) fun s' β' O' sr'=>h2.d hr sr'⟩
noncomputable def zfj(i j:Nat)(v:V)(S:Loc×za):R (Loc×za) Fl:=match v with
 | .tm its=>(match vn its with
    | some p=>if i < S.1.length∧j < S.1.length then .ok .next ((S.1.set i (some (.box p.1))).set j (some (.d p.2)),S.2) else .stuck
    | none=>.stuck)
 | _=>.stuck
noncomputable def CS.asg2B(i j:Nat)(e:CE):CS:=fun P ρ O=>if P.hd=true then .stuck else ((evE P ρ e O).lift ρ).bind (zfj i j)
set_option tactic.hygienic true in
theorem zlw{cx:Cx}{x:Expr}{a:CE}{p ps pa pb:Pos}{kt i j:Nat}{na nb:Str}(h:JE cx x a)(hx:(chkT cx (ownOf cx.sc) (.name i) (.Name na pa) && chkT cx (ownOf cx.sc) (.name j) (.Name nb pb) && unpX x)=true) :
 JS cx (.Assign [.Tuple [.Name na pa,.Name nb pb] kt ps] x p) (.asg2B i j a):=⟨fun {G A P F s β ρ O} hr sr=>by
 refine fc (and3 hx) ?_;intro ha hb h2
 show Does G F A s β _ (if P.hd=true then .stuck else _:R (Loc×za) Fl) _
 by_cases hd:P.hd=true
 ·rw[ah hd];trivial
 rw[ai hd]
 have e:=uj (l:=[.Name na pa,.Name nb pb]) (k:=kt) (n:=p.line) (ps:=ps) (env:=F.env) h2
 have hh:=hr.run.hm (aW.mpr hd)
 refine DoesW.seq (T₂:=fun v Q E s'=>wpAny (model G.prog G.w) A (assign (.Tuple [.Name na pa,.Name nb pb] kt ps) F.env v) (fun uA=>Q .next) E s') (fun Q E h=>Assign_Tuple h e.1 e.2) (h.d hr.toHere sr) fun s' β' v d S e st sr rv=>?_
 cases d with
 | d _=>trivial
 | box _=>trivial
 | tm its=>
   show DoesW G F s' β' _ (match vn its with
    | some p=>if i < S.1.length∧j < S.1.length then R.ok Fl.next ((S.1.set i (some (.box p.1))).set j (some (.d p.2)),S.2) else .stuck
    | none=>.stuck) _
   cases hz:vn its with
   | none=>trivial
   | some p=>
     dsimp only
     by_cases hl:i < S.1.length∧j < S.1.length
     ·rw[ah hl]
      intro Q E kk
      rw[g0 hz] at rv
      obtain⟨a,o,vs,n,rfl,g1,g2,g3,e4⟩:=rv
      generalize hvs:vs.toList=l at e4
      cases e4 with
      | b hb' r=>
        cases r with
        | x r q r'=>
          cases r'
          rename_i b v2 as
          have hsz:vs.size=2:=by rw [← av,hvs];rfl
          refine jt (M:=model G.prog G.w) hh g1 (.inl g2) g3 (by rw [hsz];rfl) rfl fun s₁ ka=>?_
          show wpAny _ A (assignInOrder [assign (.Name na pa) F.env,assign (.Name nb pb) F.env] vs.toList) _ _ s₁
          rw [hvs]
          have da:=xc (A:=A) hh hr.fit hr.own (.name i) ha (sr.keepAll ka.kept) (v:=.ref b) (d:=.box p.1) ⟨b,hb',rfl⟩
          unfold bindR zp at da
          dsimp only at da
          rw [ah hl.1] at da
          refine bT (da _ _ fun s₂ β₂ uA st₂ sr₂ uA=>?_)
          have db:=xc (A:=A) hh hr.fit hr.own (.name j) hb sr₂ (v:=v2) (d:=.d p.2) (VR.step (sr.keepAll ka.kept).br (sr.keepAll ka.kept).fm st₂ ⟨as,zt ka.kept r,q⟩)
          unfold bindR zp at db
          dsimp only at db
          rw [ah (by rw [bc];exact hl.2)] at db
          refine bT (db _ _ fun s₃ β₃ uA st₃ sr₃ uA=>?_)
          exact assignInOrder_nil (kk s₃ β₃ .next ((ka.step _ _).trans (st₂.trans st₃)) sr₃ rfl)
     ·rw[ai hl];trivial⟩
end Mine
end
section
namespace Mine.L10
open PySem Mine
noncomputable def c0:Fn:=⟨3,3,false,(.cons (.ret (.and_ (.prim (.isinst .int) (.cons (.loc 0) .nil)) (.and_ (.nt (.prim (.isinst .bool) (.cons (.loc 0) .nil))) (.chain .le .le (.loc 1) (.loc 0) (.loc 2))))) .nil)⟩
noncomputable def c1:Fn:=⟨1,1,false,(.cons (.ife (.nt (.call 0 (.cons (.loc 0) (.cons (.glob 0) (.cons (.glob 1) .nil))))) .stuck .nil) .nil)⟩
noncomputable def c2:Fn:=⟨2,3,false,(.cons (.ret (.and_ (.prim (.isinst .tuple) (.cons (.loc 1) .nil)) (.and_ (.cmp .eq (.prim .len (.cons (.loc 1) .nil)) (.loc 0)) (.prim .all (.cons (.comp (.call 0 (.cons (.loc 2) (.cons (.neg (.int 1)) (.cons (.int 1) .nil)))) (.name 2) (.e (.loc 1)) .nil) .nil))))) .nil)⟩
noncomputable def c3:Fn:=⟨2,3,false,(.cons (.expr (.call 1 (.cons (.loc 0) .nil))) (.cons (.ife (.or_ (.nt (.prim (.isinst .list) (.cons (.loc 1) .nil))) (.nt (.chain .le .le (.int 1) (.prim .len (.cons (.loc 1) .nil)) (.glob 2)))) .stuck .nil) (.cons (.ife (.nt (.prim .all (.cons (.comp (.call 2 (.cons (.loc 0) (.cons (.loc 2) .nil))) (.name 2) (.e (.loc 1)) .nil) .nil))) .stuck .nil) (.cons (.ife (.cmp .lt (.lenS (.loc 1)) (.prim .len (.cons (.loc 1) .nil))) .stuck .nil) .nil))))⟩
noncomputable def c4:Fn:=⟨2,4,false,(.cons (.ife (.or_ (.nt (.prim (.isinst .tuple) (.cons (.loc 1) .nil))) (.or_ (.cmp .eq (.prim .len (.cons (.loc 1) .nil)) (.int 0)) (.nt (.prim .all (.cons (.comp (.call 0 (.cons (.loc 2) (.cons (.int 0) (.cons (.bin .sub (.loc 0) (.int 1)) .nil)))) (.name 2) (.e (.loc 1)) .nil) .nil))))) (.cons (.ret (.bool false)) .nil) .nil) (.cons (.ret (.prim .all (.cons (.comp (.cmp .lt (.idx (.loc 1) (.bin .sub (.loc 3) (.int 1))) (.idx (.loc 1) (.loc 3))) (.name 3) (.range (.int 1) (.prim .len (.cons (.loc 1) .nil))) .nil) .nil))) .nil))⟩
noncomputable def c5:Fn:=⟨2,5,false,(.cons (.ife (.or_ (.nt (.prim (.isinst .tuple) (.cons (.loc 1) .nil))) (.cmp .ne (.prim .len (.cons (.loc 1) .nil)) (.int 2))) (.cons (.ret (.bool false)) .nil) .nil) (.cons (.asg (.two (.name 2) (.name 3)) (.loc 1)) (.cons (.ife (.or_ (.nt (.call 4 (.cons (.loc 0) (.cons (.loc 2) .nil)))) (.or_ (.nt (.call 4 (.cons (.loc 0) (.cons (.loc 3) .nil)))) (.cmp .ne (.prim .len (.cons (.loc 2) .nil)) (.prim .len (.cons (.loc 3) .nil))))) (.cons (.ret (.bool false)) .nil) .nil) (.cons (.ret (.nt (.prim .any (.cons (.comp (.cmp .in_ (.loc 4) (.loc 3)) (.name 4) (.e (.loc 2)) .nil) .nil)))) .nil))))⟩
noncomputable def c6:Fn:=⟨1,4,false,(.cons (.asg (.name 1) (.list (.cons (.tup .nil) .nil))) (.cons (.for_ (.name 2) (.e (.loc 0)) (.cons (.asg (.name 1) (.bin .add (.loc 1) (.comp (.bin .add (.loc 3) (.tup (.cons (.loc 2) .nil))) (.name 3) (.e (.loc 1)) .nil))) .nil)) (.cons (.ret (.loc 1)) .nil)))⟩
noncomputable def c7:Fn:=⟨1,5,false,(.cons (.asg (.name 1) (.call 6 (.cons (.listI (.range (.int 0) (.loc 0))) .nil))) (.cons (.asg (.name 2) (.boxed (.list .nil))) (.cons (.for_ (.name 3) (.e (.loc 1)) (.cons (.for_ (.name 4) (.e (.loc 1)) (.cons (.ife (.and_ (.call 5 (.cons (.loc 0) (.cons (.tup (.cons (.loc 3) (.cons (.loc 4) .nil))) .nil))) (.cmp .lt (.idx (.loc 3) (.int 0)) (.idx (.loc 4) (.int 0)))) (.cons (.expr (.meth .append (.loc 2) (.cons (.tup (.cons (.loc 3) (.cons (.loc 4) .nil))) .nil))) .nil) .nil) .nil)) .nil)) (.cons (.ret (.prim .sorted (.cons (.loc 2) .nil))) .nil))))⟩
noncomputable def c8:Fn:=⟨2,7,false,(.cons (.asg (.two (.name 2) (.name 3)) (.loc 0)) (.cons (.asg (.name 4) (.bin .sub (.prim .sum (.cons (.comp (.idx (.loc 1) (.loc 5)) (.name 5) (.e (.loc 2)) .nil) .nil)) (.prim .sum (.cons (.comp (.idx (.loc 1) (.loc 6)) (.name 6) (.e (.loc 3)) .nil) .nil)))) (.cons (.ife (.cmp .gt (.loc 4) (.int 0)) (.cons (.ret (.int 1)) .nil) .nil) (.cons (.ret (.ite (.cmp .lt (.loc 4) (.int 0)) (.neg (.int 1)) (.int 0))) .nil))))⟩
noncomputable def c9:Fn:=⟨2,5,false,(.cons (.asg (.name 2) (.boxed (.list .nil))) (.cons (.for_ (.name 3) (.e (.glob 3)) (.cons (.expr (.meth .append (.loc 2) (.cons (.comp (.loc 4) (.name 4) (.e (.loc 1)) (.cons (.cmp .eq (.call 8 (.cons (.loc 0) (.cons (.loc 4) .nil))) (.loc 3)) .nil)) .nil))) .nil)) (.cons (.ret (.loc 2)) .nil)))⟩
noncomputable def c10:Fn:=⟨1,3,false,(.cons (.asg (.name 1) (.int 1)) (.cons (.for_ (.name 2) (.range (.int 0) (.loc 0)) (.cons (.asg (.name 1) (.bin .mul (.loc 1) (.int 3))) .nil)) (.cons (.ret (.loc 1)) .nil)))⟩
noncomputable def c11:Fn:=⟨2,2,false,(.cons (.ife (.or_ (.nt (.prim (.isinst .tuple) (.cons (.loc 1) .nil))) (.cmp .ne (.prim .len (.cons (.loc 1) .nil)) (.int 2))) (.cons (.ret (.bool false)) .nil) .nil) (.cons (.ret (.and_ (.call 5 (.cons (.loc 0) (.cons (.idx (.loc 1) (.int 0)) .nil))) (.call 0 (.cons (.idx (.loc 1) (.int 1)) (.cons (.neg (.int 1)) (.cons (.int 1) .nil)))))) .nil))⟩
noncomputable def c12:Fn:=⟨3,7,false,(.cons (.expr (.call 3 (.cons (.loc 0) (.cons (.loc 1) .nil)))) (.cons (.ife (.or_ (.nt (.prim (.isinst .list) (.cons (.loc 2) .nil))) (.or_ (.cmp .gt (.prim .len (.cons (.loc 2) .nil)) (.glob 4)) (.nt (.prim .all (.cons (.comp (.call 11 (.cons (.loc 0) (.cons (.loc 3) .nil))) (.name 3) (.e (.loc 2)) .nil) .nil))))) .stuck .nil) (.cons (.ret (.comp (.loc 4) (.name 4) (.e (.loc 1)) (.cons (.prim .all (.cons (.comp (.cmp .eq (.call 8 (.cons (.loc 5) (.cons (.loc 4) .nil))) (.loc 6)) (.two (.name 5) (.name 6)) (.e (.loc 2)) .nil) .nil)) .nil))) .nil)))⟩
noncomputable def c13:Fn:=⟨3,4,false,(.cons (.ret (.prim .all (.cons (.comp (.cmp .eq (.call 8 (.cons (.loc 3) (.cons (.loc 1) .nil))) (.call 8 (.cons (.loc 3) (.cons (.loc 2) .nil)))) (.name 3) (.e (.loc 0)) .nil) .nil))) .nil)⟩
noncomputable def c14:Fn:=⟨2,5,false,(.cons (.for_ (.two (.name 2) (.name 3)) (.enum (.loc 1)) (.cons (.for_ (.name 4) (.e (.slice (.loc 1) (.bin .add (.loc 2) (.int 1)) .none)) (.cons (.ife (.call 13 (.cons (.loc 0) (.cons (.loc 3) (.cons (.loc 4) .nil)))) (.cons (.ret (.tup (.cons (.loc 3) (.cons (.loc 4) .nil)))) .nil) .nil) .nil)) .nil)) (.cons (.ret .none) .nil))⟩
noncomputable def c15:Fn:=⟨5,10,false,(.cons (.asg (.name 5) (.boxed (.list .nil))) (.cons (.forG badP .tup .lst (.two (.name 6) (.name 7)) (.glob 3) (.call 9 (.cons (.loc 1) (.cons (.loc 2) .nil))) (.cons (.ife (.cmp .eq (.loc 7) (.list .nil)) (.cons (.expr (.meth .append (.loc 5) (.cons .none .nil))) .nil) (.cons (.asg (.two (.name 8) (.name 9)) (.call 17 (.cons (.loc 0) (.cons (.loc 7) (.cons (.bin .sub (.loc 3) (.int 1)) (.cons (.loc 4) .nil)))))) (.cons (.ife (.cmp .eq (.loc 8) (.str (Str.ofString "hold"))) (.cons (.ret (.tup (.cons (.str (Str.ofString "hold")) (.cons (.tup (.cons (.loc 6) (.cons (.loc 9) .nil))) .nil)))) .nil) .nil) (.cons (.expr (.meth .append (.loc 5) (.cons (.loc 9) .nil))) .nil)))) .nil)) (.cons (.ret (.tup (.cons (.str (Str.ofString "plan")) (.cons (.tup (.cons (.str (Str.ofString "weigh")) (.cons (.loc 1) (.cons (.prim .tuple (.cons (.loc 5) .nil)) .nil)))) .nil)))) .nil)))⟩
noncomputable def c16:Fn:=⟨4,8,false,(.cons (.asg (.name 4) (.boxed (.list .nil))) (.cons (.for_ (.name 5) (.e (.loc 0)) (.cons (.asg (.two (.name 6) (.name 7)) (.call 15 (.cons (.loc 0) (.cons (.loc 5) (.cons (.loc 1) (.cons (.loc 2) (.cons (.loc 3) .nil))))))) (.cons (.ife (.cmp .eq (.loc 6) (.str (Str.ofString "plan"))) (.cons (.ret (.tup (.cons (.str (Str.ofString "plan")) (.cons (.loc 7) .nil)))) .nil) .nil) (.cons (.expr (.meth .append (.loc 4) (.cons (.loc 7) .nil))) .nil)))) (.cons (.ret (.tup (.cons (.str (Str.ofString "hold")) (.cons (.tup (.cons (.str (Str.ofString "each")) (.cons (.prim .tuple (.cons (.loc 4) .nil)) .nil))) .nil)))) .nil)))⟩
noncomputable def c17:Fn:=⟨4,5,false,(.cons (.ife (.cmp .eq (.prim .len (.cons (.loc 1) .nil)) (.int 1)) (.cons (.ret (.tup (.cons (.str (Str.ofString "plan")) (.cons (.tup (.cons (.str (Str.ofString "told")) (.cons (.idx (.loc 1) (.int 0)) .nil))) .nil)))) .nil) .nil) (.cons (.ife (.cmp .gt (.prim .len (.cons (.loc 1) .nil)) (.call 10 (.cons (.loc 2) .nil))) (.cons (.ret (.tup (.cons (.str (Str.ofString "hold")) (.cons (.tup (.cons (.str (Str.ofString "many")) .nil)) .nil)))) .nil) .nil) (.cons (.asg (.name 4) (.tup (.cons (.prim .tuple (.cons (.loc 1) .nil)) (.cons (.loc 2) .nil)))) (.cons (.ife (.notinM (.loc 4) (.loc 3)) (.cons (.setM (.loc 3) (.loc 4) (.call 16 (.cons (.loc 0) (.cons (.loc 1) (.cons (.loc 2) (.cons (.loc 3) .nil)))))) .nil) .nil) (.cons (.ret (.getM (.loc 3) (.loc 4))) .nil)))))⟩
noncomputable def c18:Fn:=⟨2,7,false,(.cons (.asg (.name 2) .memo) (.cons (.asg (.name 3) .none) (.cons (.asg (.name 4) (.int 0)) (.cons (.asg (.two (.name 5) (.name 6)) (.call 17 (.cons (.loc 0) (.cons (.loc 1) (.cons (.loc 4) (.cons (.loc 2) .nil)))))) (.cons (.while_ (.cmp .eq (.loc 5) (.str (Str.ofString "hold"))) (.cons (.asg (.name 3) (.loc 6)) (.cons (.asg (.name 4) (.bin .add (.loc 4) (.int 1))) (.cons (.asg (.two (.name 5) (.name 6)) (.call 17 (.cons (.loc 0) (.cons (.loc 1) (.cons (.loc 4) (.cons (.loc 2) .nil)))))) .nil)))) (.cons (.ret (.tup (.cons (.loc 6) (.cons (.loc 3) (.cons (.loc 4) .nil))))) .nil))))))⟩
noncomputable def c19:Fn:=⟨3,9,false,(.cons (.asg (.name 3) (.call 12 (.cons (.loc 0) (.cons (.loc 1) (.cons (.loc 2) .nil))))) (.cons (.asg (.name 4) (.call 7 (.cons (.loc 0) .nil))) (.cons (.ife (.cmp .eq (.loc 3) (.list .nil)) (.cons (.ret (.tup (.cons (.str (Str.ofString "none")) .nil))) .nil) .nil) (.cons (.asg (.name 5) (.call 14 (.cons (.loc 4) (.cons (.loc 3) .nil)))) (.cons (.ife (.cmp .isnot (.loc 5) .none) (.cons (.ret (.tup (.cons (.str (Str.ofString "alike")) (.cons (.idx (.loc 5) (.int 0)) (.cons (.idx (.loc 5) (.int 1)) .nil))))) .nil) .nil) (.cons (.asg3 6 7 8 (.call 18 (.cons (.loc 4) (.cons (.loc 3) .nil)))) (.cons (.ret (.tup (.cons (.str (Str.ofString "plan")) (.cons (.loc 6) (.cons (.loc 7) .nil))))) .nil)))))))⟩
noncomputable def c20:Fn:=⟨3,5,false,(.cons (.asg (.name 3) (.call 12 (.cons (.loc 0) (.cons (.loc 1) (.cons (.loc 2) .nil))))) (.cons (.asg (.name 4) (.call 7 (.cons (.loc 0) .nil))) (.cons (.ife (.or_ (.cmp .eq (.loc 3) (.list .nil)) (.cmp .isnot (.call 14 (.cons (.loc 4) (.cons (.loc 3) .nil))) .none)) (.cons (.ret .none) .nil) .nil) (.cons (.ret (.idx (.call 18 (.cons (.loc 4) (.cons (.loc 3) .nil))) (.int 2))) .nil))))⟩
noncomputable def c21:Fn:=⟨2,2,false,(.cons (.ife (.cmp .lt (.loc 1) (.prim .len (.cons (.loc 0) .nil))) (.cons (.ret (.idx (.loc 0) (.loc 1))) .nil) .nil) (.cons (.ret (.int 0)) .nil))⟩
noncomputable def c22:Fn:=⟨2,2,false,(.cons (.ret (.bin .fdiv (.bin .mod (.bin .mul (.bin .add (.bin .add (.call 21 (.cons (.loc 0) (.cons (.loc 1) .nil))) (.bin .mul (.int 7919) (.loc 1))) (.int 13)) (.int 48271)) (.int 2147483647)) (.int 3))) .nil)⟩
noncomputable def c23:Fn:=⟨1,1,false,(.cons (.ret (.and_ (.prim (.isinst .int) (.cons (.loc 0) .nil)) (.nt (.prim (.isinst .bool) (.cons (.loc 0) .nil))))) .nil)⟩
noncomputable def c24:Fn:=⟨2,4,false,(.cons (.asg (.name 2) (.int 0)) (.cons (.for_ (.name 3) (.e (.idx (.loc 0) (.int 0))) (.cons (.asg (.name 2) (.bin .add (.loc 2) (.idx (.loc 1) (.loc 3)))) .nil)) (.cons (.for_ (.name 3) (.e (.idx (.loc 0) (.int 1))) (.cons (.asg (.name 2) (.bin .sub (.loc 2) (.idx (.loc 1) (.loc 3)))) .nil)) (.cons (.ret (.ite (.cmp .gt (.loc 2) (.int 0)) (.int 1) (.ite (.cmp .lt (.loc 2) (.int 0)) (.neg (.int 1)) (.int 0)))) .nil))))⟩
noncomputable def c25:Fn:=⟨1,9,false,(.cons (.asg (.name 1) (.boxed (.list .nil))) (.cons (.for_ (.name 2) (.range (.int 0) (.idx (.list (.cons (.int 9) (.cons (.int 27) (.cons (.int 81) (.cons (.int 243) .nil))))) (.bin .sub (.loc 0) (.int 2)))) (.cons (.asg (.name 3) (.comp (.bin .mod (.bin .fdiv (.loc 2) (.idx (.list (.cons (.int 1) (.cons (.int 3) (.cons (.int 9) (.cons (.int 27) (.cons (.int 81) .nil)))))) (.loc 6))) (.int 3)) (.name 6) (.range (.int 0) (.loc 0)) .nil)) (.cons (.asg (.name 4) (.prim .tuple (.cons (.comp (.loc 7) (.name 7) (.range (.int 0) (.loc 0)) (.cons (.cmp .eq (.idx (.loc 3) (.loc 7)) (.int 1)) .nil)) .nil))) (.cons (.asg (.name 5) (.prim .tuple (.cons (.comp (.loc 8) (.name 8) (.range (.int 0) (.loc 0)) (.cons (.cmp .eq (.idx (.loc 3) (.loc 8)) (.int 2)) .nil)) .nil))) (.cons (.ife (.and_ (.cmp .eq (.prim .len (.cons (.loc 4) .nil)) (.prim .len (.cons (.loc 5) .nil))) (.and_ (.cmp .ne (.loc 4) (.tup .nil)) (.cmp .lt (.idx (.loc 4) (.int 0)) (.idx (.loc 5) (.int 0))))) (.cons (.expr (.meth .append (.loc 1) (.cons (.tup (.cons (.loc 4) (.cons (.loc 5) .nil))) .nil))) .nil) .nil) .nil))))) (.cons (.ret (.prim .sorted (.cons (.loc 1) .nil))) .nil)))⟩
noncomputable def c26:Fn:=⟨2,3,false,(.cons (.ife (.or_ (.nt (.prim (.isinst .tuple) (.cons (.loc 1) .nil))) (.cmp .eq (.loc 1) (.tup .nil))) (.cons (.ret (.bool false)) .nil) .nil) (.cons (.ife (.nt (.prim .all (.cons (.comp (.and_ (.call 23 (.cons (.loc 2) .nil)) (.chain .le .lt (.int 0) (.loc 2) (.loc 0))) (.name 2) (.e (.loc 1)) .nil) .nil))) (.cons (.ret (.bool false)) .nil) .nil) (.cons (.ret (.cmp .eq (.prim .list (.cons (.loc 1) .nil)) (.prim .sortedset (.cons (.loc 1) .nil)))) .nil)))⟩
noncomputable def c27:Fn:=⟨2,2,false,(.cons (.ife (.or_ (.nt (.prim (.isinst .tuple) (.cons (.loc 1) .nil))) (.or_ (.cmp .ne (.prim .len (.cons (.loc 1) .nil)) (.int 2)) (.nt (.call 26 (.cons (.loc 0) (.cons (.idx (.loc 1) (.int 0)) .nil)))))) (.cons (.ret (.bool false)) .nil) .nil) (.cons (.ife (.or_ (.nt (.call 26 (.cons (.loc 0) (.cons (.idx (.loc 1) (.int 1)) .nil)))) (.cmp .ne (.prim .len (.cons (.idx (.loc 1) (.int 0)) .nil)) (.prim .len (.cons (.idx (.loc 1) (.int 1)) .nil)))) (.cons (.ret (.bool false)) .nil) .nil) (.cons (.ret (.cmp .eq (.prim .lenset (.cons (.bin .add (.idx (.loc 1) (.int 0)) (.idx (.loc 1) (.int 1))) .nil)) (.bin .mul (.int 2) (.prim .len (.cons (.idx (.loc 1) (.int 0)) .nil))))) .nil)))⟩
noncomputable def c28:Fn:=⟨2,3,false,(.cons (.ret (.and_ (.prim (.isinst .tuple) (.cons (.loc 0) .nil)) (.and_ (.cmp .eq (.loc 0) (.loc 1)) (.prim .all (.cons (.comp (.call 23 (.cons (.loc 2) .nil)) (.name 2) (.e (.loc 0)) .nil) .nil))))) .nil)⟩
noncomputable def c29:Fn:=⟨3,7,false,(.cons (.ife (.or_ (.nt (.prim (.isinst .tuple) (.cons (.loc 2) .nil))) (.or_ (.cmp .lt (.prim .len (.cons (.loc 2) .nil)) (.int 2)) (.nt (.prim (.isinst .str) (.cons (.idx (.loc 2) (.int 0)) .nil))))) (.cons (.ret (.bool false)) .nil) .nil) (.cons (.ife (.cmp .eq (.idx (.loc 2) (.int 0)) (.str (Str.ofString "told"))) (.cons (.ret (.and_ (.cmp .eq (.prim .len (.cons (.loc 2) .nil)) (.int 2)) (.and_ (.cmp .eq (.prim .len (.cons (.loc 1) .nil)) (.int 1)) (.call 28 (.cons (.idx (.loc 2) (.int 1)) (.cons (.idx (.loc 1) (.int 0)) .nil)))))) .nil) .nil) (.cons (.ife (.or_ (.cmp .ne (.idx (.loc 2) (.int 0)) (.str (Str.ofString "weigh"))) (.or_ (.cmp .ne (.prim .len (.cons (.loc 2) .nil)) (.int 3)) (.nt (.call 27 (.cons (.loc 0) (.cons (.idx (.loc 2) (.int 1)) .nil)))))) (.cons (.ret (.bool false)) .nil) .nil) (.cons (.ife (.or_ (.nt (.prim (.isinst .tuple) (.cons (.idx (.loc 2) (.int 2)) .nil))) (.cmp .ne (.prim .len (.cons (.idx (.loc 2) (.int 2)) .nil)) (.int 3))) (.cons (.ret (.bool false)) .nil) .nil) (.cons (.for_ (.name 3) (.range (.int 0) (.int 3)) (.cons (.asg (.name 4) (.comp (.loc 6) (.name 6) (.e (.loc 1)) (.cons (.cmp .eq (.call 24 (.cons (.idx (.loc 2) (.int 1)) (.cons (.loc 6) .nil))) (.bin .sub (.loc 3) (.int 1))) .nil))) (.cons (.asg (.name 5) (.idx (.idx (.loc 2) (.int 2)) (.loc 3))) (.cons (.ife (.or_ (.and_ (.cmp .eq (.loc 4) (.list .nil)) (.cmp .isnot (.loc 5) .none)) (.and_ (.cmp .ne (.loc 4) (.list .nil)) (.nt (.call 29 (.cons (.loc 0) (.cons (.loc 4) (.cons (.loc 5) .nil))))))) (.cons (.ret (.bool false)) .nil) .nil) .nil)))) (.cons (.ret (.bool true)) .nil))))))⟩
noncomputable def c30:Fn:=⟨1,2,false,(.cons (.ife (.cmp .eq (.idx (.loc 0) (.int 0)) (.str (Str.ofString "told"))) (.cons (.ret (.int 0)) .nil) .nil) (.cons (.ret (.bin .add (.int 1) (.maxL (.comp (.call 30 (.cons (.loc 1) .nil)) (.name 1) (.e (.idx (.loc 0) (.int 2))) (.cons (.cmp .isnot (.loc 1) .none) .nil))))) .nil))⟩
noncomputable def c31:Fn:=⟨1,3,false,(.cons (.asg (.name 1) (.int 1)) (.cons (.for_ (.name 2) (.range (.int 0) (.loc 0)) (.cons (.asg (.name 1) (.bin .mul (.int 3) (.loc 1))) .nil)) (.cons (.ret (.loc 1)) .nil)))⟩
noncomputable def c32:Fn:=⟨4,8,false,(.cons (.ife (.or_ (.nt (.prim (.isinst .tuple) (.cons (.loc 3) .nil))) (.or_ (.cmp .eq (.loc 3) (.tup .nil)) (.nt (.prim (.isinst .str) (.cons (.idx (.loc 3) (.int 0)) .nil))))) (.cons (.ret (.bool false)) .nil) .nil) (.cons (.ife (.cmp .eq (.idx (.loc 3) (.int 0)) (.str (Str.ofString "many"))) (.cons (.ret (.and_ (.cmp .eq (.prim .len (.cons (.loc 3) .nil)) (.int 1)) (.cmp .gt (.prim .len (.cons (.loc 1) .nil)) (.call 31 (.cons (.loc 2) .nil))))) .nil) .nil) (.cons (.ife (.or_ (.cmp .ne (.idx (.loc 3) (.int 0)) (.str (Str.ofString "each"))) (.or_ (.cmp .ne (.prim .len (.cons (.loc 3) .nil)) (.int 2)) (.or_ (.cmp .eq (.loc 2) (.int 0)) (.nt (.prim (.isinst .tuple) (.cons (.idx (.loc 3) (.int 1)) .nil)))))) (.cons (.ret (.bool false)) .nil) .nil) (.cons (.ife (.cmp .ne (.prim .len (.cons (.idx (.loc 3) (.int 1)) .nil)) (.prim .len (.cons (.loc 0) .nil))) (.cons (.ret (.bool false)) .nil) .nil) (.cons (.for_ (.name 4) (.range (.int 0) (.prim .len (.cons (.loc 0) .nil))) (.cons (.asg (.name 5) (.idx (.idx (.loc 3) (.int 1)) (.loc 4))) (.cons (.ife (.or_ (.nt (.prim (.isinst .tuple) (.cons (.loc 5) .nil))) (.or_ (.cmp .ne (.prim .len (.cons (.loc 5) .nil)) (.int 2)) (.or_ (.nt (.call 23 (.cons (.idx (.loc 5) (.int 0)) .nil))) (.nt (.chain .le .le (.neg (.int 1)) (.idx (.loc 5) (.int 0)) (.int 1)))))) (.cons (.ret (.bool false)) .nil) .nil) (.cons (.asg (.name 6) (.comp (.loc 7) (.name 7) (.e (.loc 1)) (.cons (.cmp .eq (.call 24 (.cons (.idx (.loc 0) (.loc 4)) (.cons (.loc 7) .nil))) (.idx (.loc 5) (.int 0))) .nil))) (.cons (.ife (.nt (.call 32 (.cons (.loc 0) (.cons (.loc 6) (.cons (.bin .sub (.loc 2) (.int 1)) (.cons (.idx (.loc 5) (.int 1)) .nil)))))) (.cons (.ret (.bool false)) .nil) .nil) .nil))))) (.cons (.ret (.bool true)) .nil))))))⟩
noncomputable def c33:Fn:=⟨2,6,true,(.cons (.asg (.name 2) (.boxed (.list .nil))) (.cons (.for_ (.name 3) (.range (.int 0) (.loc 0)) (.cons (.for_ (.name 4) (.range (.int 0) (.loc 3)) (.cons (.expr (.meth .append (.loc 2) (.cons (.prim .tuple (.cons (.comp (.bin .mul (.loc 1) (.prim .int (.cons (.cmp .in_ (.loc 5) (.tup (.cons (.loc 3) (.cons (.loc 4) .nil)))) .nil))) (.name 5) (.range (.int 0) (.loc 0)) .nil) .nil)) .nil))) .nil)) .nil)) (.cons (.ret (.loc 2)) .nil)))⟩
noncomputable def c34:Fn:=⟨2,4,true,(.cons (.ret (.boxed (.comp (.prim .tuple (.cons (.comp (.bin .mul (.loc 1) (.prim .int (.cons (.cmp .eq (.loc 3) (.loc 2)) .nil))) (.name 3) (.range (.int 0) (.loc 0)) .nil) .nil)) (.name 2) (.range (.int 0) (.loc 0)) .nil))) .nil)⟩
noncomputable def c35:Fn:=⟨1,5,true,(.cons (.asg (.name 1) (.boxed (.list (.cons (.tup .nil) .nil)))) (.cons (.for_ (.name 2) (.range (.int 0) (.loc 0)) (.cons (.asg (.name 1) (.boxed (.bin .add (.comp (.bin .add (.loc 3) (.tup (.cons (.int 0) .nil))) (.name 3) (.e (.loc 1)) .nil) (.comp (.bin .add (.loc 4) (.tup (.cons (.int 1) .nil))) (.name 4) (.e (.loc 1)) .nil)))) .nil)) (.cons (.ret (.loc 1)) .nil)))⟩
noncomputable def c36:Fn:=⟨2,3,true,(.cons (.asg (.name 2) (.list (.cons (.bin .mul (.tup (.cons (.int 0) .nil)) (.loc 1)) .nil))) (.cons (.ife (.cmp .lt (.loc 0) (.int 2)) (.cons (.ret (.tup (.cons (.call 34 (.cons (.loc 1) (.cons (.idx (.list (.cons (.int 1) (.cons (.neg (.int 1)) .nil))) (.loc 0)) .nil))) (.cons (.idx (.list (.cons (.int 1) (.cons (.int 1) (.cons (.int 2) (.cons (.int 2) .nil))))) (.bin .sub (.loc 1) (.int 2))) .nil)))) .nil) .nil) (.cons (.ife (.cmp .eq (.loc 0) (.int 2)) (.cons (.ret (.tup (.cons (.boxed (.bin .add (.call 34 (.cons (.loc 1) (.cons (.int 1) .nil))) (.call 34 (.cons (.loc 1) (.cons (.neg (.int 1)) .nil))))) (.cons (.idx (.list (.cons .none (.cons (.int 2) (.cons (.int 3) (.cons (.int 3) .nil))))) (.bin .sub (.loc 1) (.int 2))) .nil)))) .nil) .nil) (.cons (.ife (.cmp .eq (.loc 0) (.int 3)) (.cons (.ret (.tup (.cons (.boxed (.bin .add (.bin .add (.call 34 (.cons (.loc 1) (.cons (.int 1) .nil))) (.call 34 (.cons (.loc 1) (.cons (.neg (.int 1)) .nil)))) (.loc 2))) (.cons (.idx (.list (.cons .none (.cons (.int 2) (.cons (.int 3) (.cons (.int 3) .nil))))) (.bin .sub (.loc 1) (.int 2))) .nil)))) .nil) .nil) (.cons (.ife (.cmp .lt (.loc 0) (.int 6)) (.cons (.ret (.tup (.cons (.call 33 (.cons (.loc 1) (.cons (.idx (.list (.cons (.int 1) (.cons (.neg (.int 1)) .nil))) (.bin .sub (.loc 0) (.int 4))) .nil))) (.cons (.idx (.list (.cons (.int 0) (.cons (.int 1) (.cons (.int 2) (.cons (.int 3) .nil))))) (.bin .sub (.loc 1) (.int 2))) .nil)))) .nil) .nil) (.cons (.ret (.tup (.cons (.call 35 (.cons (.min2 (.loc 1) (.int 3)) .nil)) (.cons .none .nil)))) .nil))))))⟩
noncomputable def c37:Fn:=⟨1,9,false,(.cons (.asg (.name 1) (.bin .add (.int 2) (.bin .mod (.call 21 (.cons (.loc 0) (.cons (.int 0) .nil))) (.int 4)))) (.cons (.asg (.name 2) (.bin .mod (.bin .fdiv (.call 21 (.cons (.loc 0) (.cons (.int 0) .nil))) (.int 4)) (.int 7))) (.cons (.ife (.cmp .eq (.loc 2) (.int 6)) (.cons (.asg (.name 1) (.min2 (.loc 1) (.int 3))) .nil) .nil) (.cons (.asg2B 3 4 (.call 36 (.cons (.loc 2) (.cons (.loc 1) .nil)))) (.cons (.asg (.name 5) (.boxed (.list .nil))) (.cons (.asg (.name 6) (.call 22 (.cons (.loc 0) (.cons (.int 1) .nil)))) (.cons (.while_ (.cmp .ne (.loc 3) (.list .nil)) (.cons (.expr (.meth .append (.loc 5) (.cons (.pop (.loc 3) (.bin .mod (.loc 6) (.prim .len (.cons (.loc 3) .nil)))) .nil))) (.cons (.asg (.name 6) (.bin .add (.bin .fdiv (.loc 6) (.int 3)) (.int 5))) .nil))) (.cons (.asg (.name 7) (.call 19 (.cons (.loc 1) (.cons (.prim .list (.cons (.loc 5) .nil)) (.cons (.list .nil) .nil))))) (.cons (.ife (.cmp .ne (.idx (.loc 7) (.int 0)) (.idx (.list (.cons (.str (Str.ofString "plan")) (.cons (.str (Str.ofString "alike")) .nil))) (.prim .int (.cons (.cmp .is (.loc 4) .none) .nil)))) (.cons (.ret (.bool false)) .nil) .nil) (.cons (.asg (.name 8) (.call 20 (.cons (.loc 1) (.cons (.prim .list (.cons (.loc 5) .nil)) (.cons (.list .nil) .nil))))) (.cons (.ife (.cmp .is (.loc 4) .none) (.cons (.ret (.cmp .is (.loc 8) .none)) .nil) .nil) (.cons (.ife (.or_ (.nt (.call 23 (.cons (.loc 8) .nil))) (.or_ (.cmp .ne (.loc 8) (.loc 4)) (.nt (.call 29 (.cons (.loc 1) (.cons (.loc 5) (.cons (.idx (.loc 7) (.int 1)) .nil))))))) (.cons (.ret (.bool false)) .nil) .nil) (.cons (.ife (.or_ (.cmp .ne (.call 30 (.cons (.idx (.loc 7) (.int 1)) .nil)) (.loc 4)) (.cmp .eq (.loc 4) (.int 0))) (.cons (.ret (.and_ (.cmp .eq (.loc 4) (.int 0)) (.and_ (.cmp .eq (.idx (.loc 7) (.int 1)) (.tup (.cons (.str (Str.ofString "told")) (.cons (.idx (.loc 5) (.int 0)) .nil)))) (.cmp .is (.idx (.loc 7) (.int 2)) .none)))) .nil) .nil) (.cons (.ret (.call 32 (.cons (.call 25 (.cons (.loc 1) .nil)) (.cons (.loc 5) (.cons (.bin .sub (.loc 4) (.int 1)) (.cons (.idx (.loc 7) (.int 2)) .nil)))))) .nil))))))))))))))⟩
noncomputable def zpw:List Str:=[("is_among" : Str),("need_count" : Str),("is_case" : Str),("need_cases" : Str),("is_pan" : Str),("is_weighing" : Str),("some_of" : Str),("all_leading" : Str),("came" : Str),("parted" : Str),("threes" : Str),("is_done" : Str),("still_open" : Str),("are_alike" : Str),("alike_of" : Str),("tried" : Str),("by_each" : Str),("looked" : Str),("found_for" : Str),("told" : Str),("least" : Str),("_law_cell_at" : Str),("_law_mixed" : Str),("_law_whole" : Str),("_law_came" : Str),("_law_pans" : Str),("_law_is_pan" : Str),("_law_is_weighing" : Str),("_law_is_case_told" : Str),("_law_is_plan" : Str),("_law_length" : Str),("_law_threes" : Str),("_law_is_hold" : Str),("_law_two" : Str),("_law_one" : Str),("_law_any" : Str),("_law_known" : Str),("law" : Str)]
noncomputable def vj(f:Nat):Option Str:=zpw[f]?
noncomputable def zin:List (List Str):=[[("thing" : Str),("least" : Str),("most" : Str)],[("many" : Str)],[("many" : Str),("thing" : Str)],[("many" : Str),("cases" : Str)],[("many" : Str),("thing" : Str)],[("many" : Str),("thing" : Str),("left" : Str),("right" : Str)],[("things" : Str),("found" : Str),("one" : Str)],[("many" : Str),("pans" : Str),("found" : Str),("left" : Str),("right" : Str)],[("weighing" : Str),("case" : Str),("left" : Str),("right" : Str),("more" : Str)],[("weighing" : Str),("cases" : Str),("found" : Str),("outcome" : Str)],[("number" : Str),("found" : Str),("turn" : Str)],[("many" : Str),("thing" : Str)],[("many" : Str),("cases" : Str),("done" : Str)],[("pans" : Str),("one" : Str),("other" : Str)],[("pans" : Str),("cases" : Str),("k" : Str),("one" : Str),("other" : Str)],[("pans" : Str),("weighing" : Str),("cases" : Str),("number" : Str),("known" : Str),("parts" : Str),("outcome" : Str),("some" : Str),("word" : Str),("found" : Str)],[("pans" : Str),("cases" : Str),("number" : Str),("known" : Str),("rows" : Str),("weighing" : Str),("word" : Str),("found" : Str)],[("pans" : Str),("cases" : Str),("number" : Str),("known" : Str),("key" : Str)],[("pans" : Str),("cases" : Str),("known" : Str),("hold" : Str),("number" : Str),("word" : Str),("found" : Str)],[("many" : Str),("cases" : Str),("done" : Str),("some" : Str),("pans" : Str),("pair" : Str),("plan" : Str),("hold" : Str),("number" : Str)],[("many" : Str),("cases" : Str),("done" : Str),("some" : Str),("pans" : Str)],[("_law_script" : Str),("_law_k" : Str)],[("_law_script" : Str),("_law_k" : Str)],[("_law_found" : Str)],[("_law_weighing" : Str),("_law_case" : Str),("_law_more" : Str),("_law_one_here" : Str)],[("_law_many" : Str),("_law_found" : Str),("_law_number" : Str),("_law_sides" : Str),("_law_left" : Str),("_law_right" : Str)],[("_law_many" : Str),("_law_thing" : Str)],[("_law_many" : Str),("_law_thing" : Str)],[("_law_thing" : Str),("_law_case" : Str)],[("_law_many" : Str),("_law_cases" : Str),("_law_thing" : Str),("_law_place" : Str),("_law_some" : Str),("_law_part" : Str)],[("_law_plan" : Str)],[("_law_number" : Str),("_law_found" : Str),("_law_turn" : Str)],[("_law_pans_here" : Str),("_law_cases" : Str),("_law_number" : Str),("_law_thing" : Str),("_law_k" : Str),("_law_row" : Str),("_law_some" : Str)],[("_law_many" : Str),("_law_worth" : Str),("_law_found" : Str),("_law_one_here" : Str),("_law_other" : Str)],[("_law_many" : Str),("_law_worth" : Str)],[("_law_many" : Str),("_law_found" : Str),("_law_turn" : Str)],[("_law_kind" : Str),("_law_many" : Str),("_law_none" : Str)],[("_law_script" : Str),("_law_many" : Str),("_law_kind" : Str),("_law_left" : Str),("_law_due" : Str),("_law_cases" : Str),("_law_number" : Str),("_law_found" : Str),("_law_size" : Str)]]
noncomputable def jn(f:Nat):List Str:=zin[f]?.getD []
noncomputable def zps:List Str:=[("LEAST_THINGS" : Str),("MOST_THINGS" : Str),("MOST_CASES" : Str),("OUTCOMES" : Str),("MOST_DONE" : Str)]
noncomputable def wy(k:Nat):Option Str:=zps[k]?
noncomputable def zqm:List Str:=[]
noncomputable def gw(k:Nat):Option Str:=zqm[k]?
noncomputable def table:Nat→Option Fn
 | 0=>some c0
 | 1=>some c1
 | 2=>some c2
 | 3=>some c3
 | 4=>some c4
 | 5=>some c5
 | 6=>some c6
 | 7=>some c7
 | 8=>some c8
 | 9=>some c9
 | 10=>some c10
 | 11=>some c11
 | 12=>some c12
 | 13=>some c13
 | 14=>some c14
 | 15=>some c15
 | 16=>some c16
 | 17=>some c17
 | 18=>some c18
 | 19=>some c19
 | 20=>some c20
 | 21=>some c21
 | 22=>some c22
 | 23=>some c23
 | 24=>some c24
 | 25=>some c25
 | 26=>some c26
 | 27=>some c27
 | 28=>some c28
 | 29=>some c29
 | 30=>some c30
 | 31=>some c31
 | 32=>some c32
 | 33=>some c33
 | 34=>some c34
 | 35=>some c35
 | 36=>some c36
 | 37=>some c37
 | _+38=>none
noncomputable def zpq:List PyData:=[.int (2),.int (5),.int (12),.tuple [.int (-1),.int (0),.int (1)],.int (20)]
noncomputable def zse(k:Nat):Option PyData:=zpq[k]?
noncomputable def zje:Nat:=37
noncomputable def zqq:List Nat:=[0,1,2,3,4,5,6,7,8,9,10,11,12,13,14,15,16,17,18,19,20,21,22,23,24,25,26,27,28,29,30,31,32,33,34,35,36,37]
noncomputable def at_(f:Nat):Nat:=zqq[f]?.getD 0
noncomputable def subs(x c:Nat):Option Bool:=match x with
 | _=>none
noncomputable def P:Pg:={ call:=fun uA uA uA uA=>.stuck,hd:=false,gval:=zse,turns:=200,sub:=subs,srt:=zeb,sets:=true,txt:=fun uA=>none }
end Mine.L10
end
section
namespace Mine.L10
open PySem Mine PyProof.Rows
noncomputable def prog:Program:=PySem.Challenge.pw_uf050003_10
noncomputable def fnOf:Option Stmt→List Stmt×Scope
 | some (.FunctionDef _ _ b _ _ _ s _ _ _)=>(b,s)
 | _=>([],⟨.module,[],false,false,[]⟩)
noncomputable def bd(k:Nat):List Stmt:=(fnOf (prog.main.body[k]?)).1
noncomputable def sp(k:Nat):Scope:=(fnOf (prog.main.body[k]?)).2
noncomputable def cxOf(fn:Fn)(f k:Nat):Cx:={ names:=yq fn (jn f),sc:=sp k,fname:=vj,gname:=wy,cname:=gw }
theorem bs:JSs (cxOf c0 0 9) (bd 9) c0.body∧JSs (cxOf c1 1 10) (bd 10) c1.body∧JSs (cxOf c2 2 11) (bd 11) c2.body∧JSs (cxOf c3 3 12) (bd 12) c3.body∧JSs (cxOf c4 4 15) (bd 15) c4.body∧JSs (cxOf c5 5 16) (bd 16) c5.body∧JSs (cxOf c6 6 17) (bd 17) c6.body∧JSs (cxOf c7 7 18) (bd 18) c7.body∧JSs (cxOf c8 8 19) (bd 19) c8.body∧JSs (cxOf c9 9 20) (bd 20) c9.body∧JSs (cxOf c10 10 22) (bd 22) c10.body∧JSs (cxOf c11 11 25) (bd 25) c11.body∧JSs (cxOf c12 12 26) (bd 26) c12.body∧JSs (cxOf c13 13 28) (bd 28) c13.body∧JSs (cxOf c14 14 29) (bd 29) c14.body∧JSs (cxOf c15 15 30) (bd 30) c15.body∧JSs (cxOf c16 16 31) (bd 31) c16.body∧JSs (cxOf c17 17 32) (bd 32) c17.body∧JSs (cxOf c18 18 33) (bd 33) c18.body∧JSs (cxOf c19 19 34) (bd 34) c19.body∧JSs (cxOf c20 20 35) (bd 35) c20.body∧JSs (cxOf c21 21 37) (bd 37) c21.body∧JSs (cxOf c22 22 38) (bd 38) c22.body∧JSs (cxOf c23 23 39) (bd 39) c23.body∧JSs (cxOf c24 24 40) (bd 40) c24.body∧JSs (cxOf c25 25 41) (bd 41) c25.body∧JSs (cxOf c26 26 42) (bd 42) c26.body∧JSs (cxOf c27 27 43) (bd 43) c27.body∧JSs (cxOf c28 28 44) (bd 44) c28.body∧JSs (cxOf c29 29 45) (bd 45) c29.body∧JSs (cxOf c30 30 46) (bd 46) c30.body∧JSs (cxOf c31 31 47) (bd 47) c31.body∧JSs (cxOf c32 32 48) (bd 48) c32.body∧JSs (cxOf c33 33 49) (bd 49) c33.body∧JSs (cxOf c34 34 50) (bd 50) c34.body∧JSs (cxOf c35 35 51) (bd 51) c35.body∧JSs (cxOf c36 36 52) (bd 52) c36.body∧JSs (cxOf c37 37 53) (bd 53) c37.body:=by
 refine⟨?_,?_,?_,?_,?_,?_,?_,?_,?_,?_,?_,?_,?_,?_,?_,?_,?_,?_,?_,?_,?_,?_,?_,?_,?_,?_,?_,?_,?_,?_,?_,?_,?_,?_,?_,?_,?_,?_⟩ <;> apply zfv
 all_goals with_reducible repeat' first
  | apply q_nil | apply q_ret | apply q_if | apply zop | apply zfv | apply zij | apply s_ret0 | apply zq7 | apply zq8 | apply zoz | apply s_asgB | apply zo0 | apply zlw | apply zoy | apply zot | apply s_setI | apply zra | apply s_forZ | apply zov | apply s_forT | apply zow | apply zq9 | apply zlv | apply zox | apply s_raise | apply s_try
  | apply zgt | apply zq2 | apply zli | apply zlh | apply zoj | apply zoi | apply tt_cmpB | apply zok | apply zif | apply tt_ite | apply zlm
  | apply zph | apply j_notinM | apply zpl | apply j_minL | apply zpf | apply zpn | apply zsa | apply zr5 | apply zr8 | apply zpk | apply zr4 | apply j_listB | apply j_dict | apply zr7 | apply j_nt | apply zpp | apply zpo | apply j_or2 | apply j_orN | apply zsc | apply zmf | apply zr9
  | apply j_sliceT | apply j_backT | apply zpi | apply j_lenI | apply zmd | apply j_back | apply j_idxB | apply zsb | apply zjm | apply j_isexc | apply zpj | apply j_str1 | apply zpg | apply zme | apply zr6 | apply j_index | apply zjn | apply j_clear | apply zpm | apply zmg | apply JK.e
  | apply zo9 | apply zrr | apply zi6 | apply zl8 | apply zl7
  | apply zpy | apply zmr | apply zmj | apply zjt | apply zo5 | apply zo4 | apply zmm | apply i_rev | apply i_e | apply zrc | apply zrb
  | exact .inl rfl | exact .inr rfl | kernel_rfl
theorem b0:JSs (cxOf c0 0 9) (bd 9) c0.body:=bs.1
theorem b1:JSs (cxOf c1 1 10) (bd 10) c1.body:=bs.2.1
theorem b2:JSs (cxOf c2 2 11) (bd 11) c2.body:=bs.2.2.1
theorem b3:JSs (cxOf c3 3 12) (bd 12) c3.body:=bs.2.2.2.1
theorem b4:JSs (cxOf c4 4 15) (bd 15) c4.body:=bs.2.2.2.2.1
theorem b5:JSs (cxOf c5 5 16) (bd 16) c5.body:=bs.2.2.2.2.2.1
theorem b6:JSs (cxOf c6 6 17) (bd 17) c6.body:=bs.2.2.2.2.2.2.1
theorem b7:JSs (cxOf c7 7 18) (bd 18) c7.body:=bs.2.2.2.2.2.2.2.1
theorem b8:JSs (cxOf c8 8 19) (bd 19) c8.body:=bs.2.2.2.2.2.2.2.2.1
theorem b9:JSs (cxOf c9 9 20) (bd 20) c9.body:=bs.2.2.2.2.2.2.2.2.2.1
theorem b10:JSs (cxOf c10 10 22) (bd 22) c10.body:=bs.2.2.2.2.2.2.2.2.2.2.1
theorem b11:JSs (cxOf c11 11 25) (bd 25) c11.body:=bs.2.2.2.2.2.2.2.2.2.2.2.1
theorem b12:JSs (cxOf c12 12 26) (bd 26) c12.body:=bs.2.2.2.2.2.2.2.2.2.2.2.2.1
theorem b13:JSs (cxOf c13 13 28) (bd 28) c13.body:=bs.2.2.2.2.2.2.2.2.2.2.2.2.2.1
theorem b14:JSs (cxOf c14 14 29) (bd 29) c14.body:=bs.2.2.2.2.2.2.2.2.2.2.2.2.2.2.1
theorem b15:JSs (cxOf c15 15 30) (bd 30) c15.body:=bs.2.2.2.2.2.2.2.2.2.2.2.2.2.2.2.1
theorem b16:JSs (cxOf c16 16 31) (bd 31) c16.body:=bs.2.2.2.2.2.2.2.2.2.2.2.2.2.2.2.2.1
theorem b17:JSs (cxOf c17 17 32) (bd 32) c17.body:=bs.2.2.2.2.2.2.2.2.2.2.2.2.2.2.2.2.2.1
theorem b18:JSs (cxOf c18 18 33) (bd 33) c18.body:=bs.2.2.2.2.2.2.2.2.2.2.2.2.2.2.2.2.2.2.1
theorem b19:JSs (cxOf c19 19 34) (bd 34) c19.body:=bs.2.2.2.2.2.2.2.2.2.2.2.2.2.2.2.2.2.2.2.1
theorem b20:JSs (cxOf c20 20 35) (bd 35) c20.body:=bs.2.2.2.2.2.2.2.2.2.2.2.2.2.2.2.2.2.2.2.2.1
theorem b21:JSs (cxOf c21 21 37) (bd 37) c21.body:=bs.2.2.2.2.2.2.2.2.2.2.2.2.2.2.2.2.2.2.2.2.2.1
theorem b22:JSs (cxOf c22 22 38) (bd 38) c22.body:=bs.2.2.2.2.2.2.2.2.2.2.2.2.2.2.2.2.2.2.2.2.2.2.1
theorem b23:JSs (cxOf c23 23 39) (bd 39) c23.body:=bs.2.2.2.2.2.2.2.2.2.2.2.2.2.2.2.2.2.2.2.2.2.2.2.1
theorem b24:JSs (cxOf c24 24 40) (bd 40) c24.body:=bs.2.2.2.2.2.2.2.2.2.2.2.2.2.2.2.2.2.2.2.2.2.2.2.2.1
theorem b25:JSs (cxOf c25 25 41) (bd 41) c25.body:=bs.2.2.2.2.2.2.2.2.2.2.2.2.2.2.2.2.2.2.2.2.2.2.2.2.2.1
theorem b26:JSs (cxOf c26 26 42) (bd 42) c26.body:=bs.2.2.2.2.2.2.2.2.2.2.2.2.2.2.2.2.2.2.2.2.2.2.2.2.2.2.1
theorem b27:JSs (cxOf c27 27 43) (bd 43) c27.body:=bs.2.2.2.2.2.2.2.2.2.2.2.2.2.2.2.2.2.2.2.2.2.2.2.2.2.2.2.1
theorem b28:JSs (cxOf c28 28 44) (bd 44) c28.body:=bs.2.2.2.2.2.2.2.2.2.2.2.2.2.2.2.2.2.2.2.2.2.2.2.2.2.2.2.2.1
theorem b29:JSs (cxOf c29 29 45) (bd 45) c29.body:=bs.2.2.2.2.2.2.2.2.2.2.2.2.2.2.2.2.2.2.2.2.2.2.2.2.2.2.2.2.2.1
theorem b30:JSs (cxOf c30 30 46) (bd 46) c30.body:=bs.2.2.2.2.2.2.2.2.2.2.2.2.2.2.2.2.2.2.2.2.2.2.2.2.2.2.2.2.2.2.1
theorem b31:JSs (cxOf c31 31 47) (bd 47) c31.body:=bs.2.2.2.2.2.2.2.2.2.2.2.2.2.2.2.2.2.2.2.2.2.2.2.2.2.2.2.2.2.2.2.1
theorem b32:JSs (cxOf c32 32 48) (bd 48) c32.body:=bs.2.2.2.2.2.2.2.2.2.2.2.2.2.2.2.2.2.2.2.2.2.2.2.2.2.2.2.2.2.2.2.2.1
theorem b33:JSs (cxOf c33 33 49) (bd 49) c33.body:=bs.2.2.2.2.2.2.2.2.2.2.2.2.2.2.2.2.2.2.2.2.2.2.2.2.2.2.2.2.2.2.2.2.2.1
theorem b34:JSs (cxOf c34 34 50) (bd 50) c34.body:=bs.2.2.2.2.2.2.2.2.2.2.2.2.2.2.2.2.2.2.2.2.2.2.2.2.2.2.2.2.2.2.2.2.2.2.1
theorem b35:JSs (cxOf c35 35 51) (bd 51) c35.body:=bs.2.2.2.2.2.2.2.2.2.2.2.2.2.2.2.2.2.2.2.2.2.2.2.2.2.2.2.2.2.2.2.2.2.2.2.1
theorem b36:JSs (cxOf c36 36 52) (bd 52) c36.body:=bs.2.2.2.2.2.2.2.2.2.2.2.2.2.2.2.2.2.2.2.2.2.2.2.2.2.2.2.2.2.2.2.2.2.2.2.2.1
theorem b37:JSs (cxOf c37 37 53) (bd 53) c37.body:=bs.2.2.2.2.2.2.2.2.2.2.2.2.2.2.2.2.2.2.2.2.2.2.2.2.2.2.2.2.2.2.2.2.2.2.2.2.2
theorem zi{f k:Nat}{fn fn':Fn}{d:DefRec}(h:((recsOf prog)[at_ f]?.map fun d=>(d.body,d.scope))=some (bd k,sp k))(hb:JSs (cxOf fn f k) (bd k) fn.body)(hT:some fn=some fn')(hd:(recsOf prog)[at_ f]?=some d) :
 JSs { names:=yq fn' (jn f),sc:=d.scope,fname:=vj,gname:=wy,cname:=gw } d.body fn'.body:=by
 injection hT with eQ;subst eQ
 rw[hd] at h
 injection h with h
 injection h with h1 h2
 rw[h1,h2];exact hb
theorem zqo:de prog vj wy gw table jn at_:=fun f fn d=>match f with
 | 0=>zi (k:=9) (by kernel_rfl) b0
 | 1=>zi (k:=10) (by kernel_rfl) b1
 | 2=>zi (k:=11) (by kernel_rfl) b2
 | 3=>zi (k:=12) (by kernel_rfl) b3
 | 4=>zi (k:=15) (by kernel_rfl) b4
 | 5=>zi (k:=16) (by kernel_rfl) b5
 | 6=>zi (k:=17) (by kernel_rfl) b6
 | 7=>zi (k:=18) (by kernel_rfl) b7
 | 8=>zi (k:=19) (by kernel_rfl) b8
 | 9=>zi (k:=20) (by kernel_rfl) b9
 | 10=>zi (k:=22) (by kernel_rfl) b10
 | 11=>zi (k:=25) (by kernel_rfl) b11
 | 12=>zi (k:=26) (by kernel_rfl) b12
 | 13=>zi (k:=28) (by kernel_rfl) b13
 | 14=>zi (k:=29) (by kernel_rfl) b14
 | 15=>zi (k:=30) (by kernel_rfl) b15
 | 16=>zi (k:=31) (by kernel_rfl) b16
 | 17=>zi (k:=32) (by kernel_rfl) b17
 | 18=>zi (k:=33) (by kernel_rfl) b18
 | 19=>zi (k:=34) (by kernel_rfl) b19
 | 20=>zi (k:=35) (by kernel_rfl) b20
 | 21=>zi (k:=37) (by kernel_rfl) b21
 | 22=>zi (k:=38) (by kernel_rfl) b22
 | 23=>zi (k:=39) (by kernel_rfl) b23
 | 24=>zi (k:=40) (by kernel_rfl) b24
 | 25=>zi (k:=41) (by kernel_rfl) b25
 | 26=>zi (k:=42) (by kernel_rfl) b26
 | 27=>zi (k:=43) (by kernel_rfl) b27
 | 28=>zi (k:=44) (by kernel_rfl) b28
 | 29=>zi (k:=45) (by kernel_rfl) b29
 | 30=>zi (k:=46) (by kernel_rfl) b30
 | 31=>zi (k:=47) (by kernel_rfl) b31
 | 32=>zi (k:=48) (by kernel_rfl) b32
 | 33=>zi (k:=49) (by kernel_rfl) b33
 | 34=>zi (k:=50) (by kernel_rfl) b34
 | 35=>zi (k:=51) (by kernel_rfl) b35
 | 36=>zi (k:=52) (by kernel_rfl) b36
 | 37=>zi (k:=53) (by kernel_rfl) b37
 | _+38=>fun hT uA=>nomatch hT
end Mine.L10
end
section
namespace Mine.L10
open PySem PySem.W PySem.Calls PyProof.Rows Mine
theorem zsg{G:Gl}{p:Program}{loose:List Str}{mean:ExcName→Option Value}{gval:Nat→Option PyData}{gname:Nat→Option Str}{K:W.Frag}(X:K.In G.h₀)(t:Top p loose mean G.mg G.mb G.h₀)(hc:∀ c,∃ C,G.cls c=.ref C)(hb:zk0 K=true)
 (hv:∀ k d x,gval k=some d→gname k=some x→valOf p x=some d∨∃ v,nsIn K mainGlobals x=some (some v)∧∀ h,K.In h→Reads h v d []):GOk G gval gname where
 nolimit:=t.nolimit
 g:=t.g
 b:=t.b
 gl:=fun k d x h1 h2=>by
  refine eS (hv k d x h1 h2) ?_ ?_
  ·intro h;refine eV (t.const x d h) ?_;intro v q1 q2;exact eW v q1 (q2 _)
  ·rintro ⟨v,h,r⟩;exact eW v (W.mg_of X t.g h) (r _ X)
 clsRef:=hc
 bi:=fun q hq=>by
  have:=aU.mp hb q hq
  simp only[aD,aS,bne_iff_ne,ne_eq] at this
  exact⟨W.mg_none_of X t.g this.1.1,by rw[t.builtins _ this.2];exact this.1.2⟩
 digits:=t.nodigits
theorem cl0{G:Gl}:zgs G P gw:=⟨fun c z h=>(nomatch h),fun c z h=>(nomatch h),fun c z A s env x y np cpos pos yp yk Q E h=>(nomatch h)⟩
noncomputable abbrev oOut:Obj:=PySem.Obj.mk (Value.type "tuple") Option.none (PySem.Data.seq #[Value.int (-1) 294,Value.int 0 295,Value.int 1 296]) #[]
theorem h_gv{p:Program}{K:W.Frag}(h0:valOf p "LEAST_THINGS" = some (.int 2))(h1:valOf p "MOST_THINGS" = some (.int 5))(h2:valOf p "MOST_CASES" = some (.int 12))(h5:valOf p "MOST_DONE" = some (.int 20))(h3:nsIn K mainGlobals "OUTCOMES" = some (some (.ref 88)))(h4:K.lookup 88=some oOut):∀ k d x,P.gval k=some d→wy k=some x→valOf p x=some d∨∃ v,nsIn K mainGlobals x=some (some v)∧∀ h,K.In h→Reads h v d []:=fun k d x e1 e2=>by
 match k,e1,e2 with
 | 0,e1,e2=>injection e1 with eQ;subst eQ;injection e2 with eQ;subst eQ;exact .inl h0
 | 1,e1,e2=>injection e1 with eQ;subst eQ;injection e2 with eQ;subst eQ;exact .inl h1
 | 2,e1,e2=>injection e1 with eQ;subst eQ;injection e2 with eQ;subst eQ;exact .inl h2
 | 3,e1,e2=>
   injection e1 with eQ;subst eQ;injection e2 with eQ;subst eQ
   exact .inr ⟨_,h3,fun h X=>.tuple (X 88 _ h4) rfl rfl (.cons (.int _ _) (.cons (.int _ _) (.cons (.int _ _) .nil)))⟩
 | 4,e1,e2=>injection e1 with eQ;subst eQ;injection e2 with eQ;subst eQ;exact .inl h5
 | n+5,e1,_=>exfalso;injection e1
theorem h_no:∀ f,38≤f→vj f=none:=fun f hf=>a6 hf
theorem zma{p:Program}{loose:List Str}{mean:ExcName→Option Value}{K:W.Frag}{prog:Program}{w:World}{s:Shared}{mg mb:Str→Option Value}
 (t:Top p loose mean mg mb s.heap) (X:K.In s.heap) (hf:(List.range 38).all (zfb p vj table jn at_)=true) (hbo:de p vj wy gw table jn at_) (hb:zk0 K=true) (hv:∀ k d x,P.gval k=some d→wy k=some x→valOf p x=some d∨∃ v,nsIn K mainGlobals x=some (some v)∧∀ h,K.In h→Reads h v d [])
 (himp:importsNone p=true) {x:Str} (hfx:vj zje=some x) {script:List Int} {a:Addr} {rs:List Addr} (r0:Reads s.heap (.ref a) (.list (script.map .int)) rs) {d:PyData} {O'':za}
 (hev:zg P table 61 false zje [.d (.list (script.map .int))] []=.ok (.d d) O'') {Q:Value→Shared→Prop} {E:Value→Shared→Prop}
 (kk:∀ s' val as,s'.gens=s.gens→s'.os=s.os→(∀ b o,s.heap.get? b=some o→s'.heap.get? b=some o)→Reads s'.heap val d as→Q val s') {fa:Addr} (hmg:mg x=some (.ref fa)):wpAny (model prog w) callerA (call (.ref fa) [.ref a]) Q E s:=
 go_top (G:={ prog:=prog,w:=w,h₀:=s.heap,mg:=mg,mb:=mb,cls:=fun uA=>.ref 0,sys:=let ⟨m,h,_⟩:=(t.seer himp).mods;⟨m,h⟩ }) (zsg X t (fun uA=>⟨0,rfl⟩) hb hv) (zpv t 38 h_no hf hbo) (zoq rfl) zor cl0 (k:=60) ⟨by decide,by decide,rfl⟩ rfl rfl rfl hfx
  (vals:=[.ref a]) (vs:=[.d (.list (script.map .int))]) (.cons ⟨rs,r0,fun b hb=>⟨fun h=>(nomatch h),fun h=>by rw[ae.mp h] at hb;refine eV (t.seer himp).mods ?_;intro m hm _;exact zeh hm r0 hb⟩⟩ .nil) hev kk fa hmg
set_option tactic.hygienic true in
theorem holds_of(hE:∀ script:List Int,script.length≤63→∃ O,zg P table 61 false zje [.d (.list (script.map .int))] []=.ok (.d (.bool true)) O):PySem.Challenge.rw_uf050003_10.Holds:=by
 w_on
 refine holds_law ws fun said=>?_
 refine holds_open (q:=view) (loose:=[]) (Xt:=fun s=>xlAt view [] s && recOk (RowW.records (OpenRow.toRowW (OpenLaw.row PySem.Challenge.rw_uf050003_10))) s) (XP:=XL view []) (Yf:=Hook.obs hook) (Ya:=Hook.val hook) (YP:=Hook.says hook) (N:=4344) ?hl (Hook.of hook) (Hook.keeps hook) (fun s e=>xl_of s (Bool.and_eq_true_iff.mp e).1) XL.keeps (by rfl) (by rfl) (by rfl) (fun s e=>recFacts_of (Bool.and_eq_true_iff.mp e).2) (by rfl) (by assumption) (by decide +kernel) ⟨rfl,rfl,rfl,rfl,rfl,by decide +kernel⟩ ?hw ?hc
 case hw=>w_witness2
 case hl=>exact zl9
 case hc=>
  intro w s₀ s₁ mg mb G Y fa o pm cd doc dV kV ho hd hcd hD hmg hg args vals as hpre hlay hrd hwl hlo
  have KX:=kIn_of Y
  have X:=(Ground.X G).1
  have V:=(Ground.X G).2
  refine Ground.open G ?_
  intro T B D TE TW
  clear hd hcd hD
  wrow_args hpre hlay hrd hwl hlo
  clear Y G X V B D TE TW ho
  rename_i script _ _ _ _ _ rs _ a vs _ hL ra _ r0 _ _ hlen _
  have hlen':script.length≤63:=by lia
  refine eZ (hE script hlen') ?_;intro O hev
  refine zma T KX (by kernel_rfl) zqo (by kernel_rfl) (h_gv (by kernel_rfl) (by kernel_rfl) (by kernel_rfl) (by kernel_rfl) (by kernel_rfl) (by kernel_rfl)) (by kernel_rfl) rfl r0 hev ?_ hmg
  intro s' val as' hgens hos hkeep hread
  have hread':=readsW_of_reads (R:=Challenge.rw_uf050003_10.row.claim.records) (cl:=classAt s₀.heap) hread
  cases hread
  refine⟨.inl ⟨_,.bool true,[],rfl,fun uA=>rfl,?_,?_,fun uA=>⟨.nil,fun uA h=>(nomatch h)⟩⟩,.of_keep hkeep,hos,.of_eq (hgens.trans hg)⟩
  ·exact hread'
  ·kernel_rfl
end Mine.L10
end
section
namespace Mine
open PySem
theorem gj{α:Type}{ys:List PyData}{turn:PyData→Loc→za→R (Loc×za) Fl}(st:α→Loc×za)(f:α→PyData→α):∀ (xs:List PyData) (a:α),(∀ a,∀ x∈xs,turn x (st a).1 (st a).2=.ok .next (st (f a x))) →
 zq (.plain ys) turn xs (st a).1 (st a).2=.ok .next (st (xs.foldl f a))
 | [],a,_=>rfl
 | x::xs,a,h=>by
   rw[zq,h a x am]
   show (if (Src.plain ys).still _=true then _ else _)=_
   rw[ah (show (Src.plain ys).still _=true from rfl),gj st f xs (f a x) fun a y hy=>h a y (ag _ hy)]
   rfl
section
variable{P:Pg}{ρ:Loc}{O:za}{a b c t:CE}{es:CEs}
theorem zcb{i:Int}:evE P ρ (.int i) O=.ok (.d (.int i)) O:=rfl
theorem j4{i:Nat}:evE P ρ (.loc i) O=opt (ρ[i]?.join) O:=rfl
theorem zh4:evE P ρ (.tup es) O=(evEs P ρ es O).bind fun vs O=>opt (tupV vs) O:=rfl
theorem zlf:evE P ρ (.boxed a) O=(evE P ρ a O).bind boxK:=rfl
theorem x_nt:evE P ρ (.nt a) O=(evE P ρ a O).bind fun v O=>opt ((truth v).map fun b=>.d (.bool !b)) O:=rfl
theorem zqv:evE P ρ (.and_ a b) O=(evE P ρ a O).bind fun v O=>(opt (truth v) O).bind (andK fun O=>evE P ρ b O):=rfl
theorem x_or:evE P ρ (.or_ a b) O=(evE P ρ a O).bind fun v O=>(opt (truth v) O).bind (orK fun O=>evE P ρ b O):=rfl
theorem zh5:evE P ρ (.ite t a b) O=(evE P ρ t O).bind fun v O=>(opt (truth v) O).bind (iteK (fun O=>evE P ρ a O) fun O=>evE P ρ b O):=rfl
theorem znj{op:Bop}:evE P ρ (.bin op a b) O=(evE P ρ a O).bind fun v O=>(evE P ρ b O).bind fun u O=>binK op v u O:=rfl
theorem zh7{op:Cop}:evE P ρ (.cmp op a b) O=(evE P ρ a O).bind fun v O=>(evE P ρ b O).bind fun u O=>cmpV op v u O:=rfl
theorem zle{p q:Cop}:evE P ρ (.chain p q a b c) O=(evE P ρ a O).bind fun v O=>(evE P ρ b O).bind fun u O=>(cmpV p v u O).bind fun t O=>(opt (truth t) O).bind (andK fun O=>(evE P ρ c O).bind fun y O=>cmpV q u y O):=rfl
theorem zh6:evE P ρ (.idx a b) O=(evE P ρ a O).bind fun v O=>(evE P ρ b O).bind fun u O=>idxV v u O:=rfl
theorem zlc:evE P ρ (.slice a b c) O=(evE P ρ a O).bind fun v O=>(evE P ρ b O).bind fun l O=>(evE P ρ c O).bind fun h O=>zee v l h O:=rfl
theorem x_call{f:Nat}:evE P ρ (.call f es) O=(evEs P ρ es O).bind fun vs O=>P.call P.hd f vs O:=rfl
theorem zd4{p:Prim}:evE P ρ (.prim p es) O=if (P.hd && !p.calm)=true then .stuck else (evEs P ρ es O).bind fun vs O=>prim P p vs O:=rfl
theorem zn9{m:Meth}:evE P ρ (.meth m a es) O=(evE P ρ a O).bind fun v O=>if recv m v O then (evEs P ρ es O).bind fun vs O=>meth m v vs O else .stuck:=rfl
theorem zfp:evEs P ρ .nil O=.ok [] O:=rfl
theorem uf:evEs P ρ (.cons a es) O=(evE P ρ a O).bind fun v O=>(evEs P ρ es O).bind fun vs O=>.ok (v::vs) O:=rfl
theorem zni:j9 P ρ (.cons a es) O=(evE P ρ a O).bind fun v O=>(opt (truth v) O).bind fun t O=>(match t with
 | true=>j9 P ρ es O
 | false=>.ok false O):=rfl
theorem x_e:evI P ρ (.e a) O=(evE P ρ a O).bind srcV:=rfl
theorem zlo{n:Nat}{xs:List PyData}(h:O[n]?=some (.lst xs)):srcV (.box n) O=.ok (.box n xs) O:=by unfold srcV;dsimp only;rw[h]
noncomputable def ziw(v u:V)(O:za):R za Src:=(xb v u O).bind fun p O=>.ok (.plain (z6 p.1 p.2)) O
theorem zem{i j:Int}(h : -(10 ^ 9)≤i∧i≤10 ^ 9∧-(10 ^ 9)≤j∧j≤10 ^ 9):ziw (.d (.int i)) (.d (.int j)) O=.ok (.plain (z6 i j)) O:=by
 have:xb (.d (.int i)) (.d (.int j)) O=.ok (i,j) O:=ah h
 unfold ziw;rw[this];rfl
theorem zld:evI P ρ (.range a b) O=((evE P ρ a O).bind fun v O=>(evE P ρ b O).bind fun u O=>xb v u O).bind fun p O=>.ok (.plain (z6 p.1 p.2)) O:=rfl
theorem zfo:evS P (.ret a) ρ O=((evE P ρ a O).lift ρ).bind fun v S=>.ok (.ret v) S:=rfl
theorem zh8{y:CT}:evS P (.asg y a) ρ O=if (P.hd && !y.isName)=true then .stuck else ((evE P ρ a O).lift ρ).bind (asgR y):=rfl
theorem zfq{p q:CSs}:evS P (.ife t p q) ρ O=(((evE P ρ t O).bind fun v O=>opt (truth v) O).lift ρ).bind (ifeK (fun S=>evSs P p S.1 S.2) fun S=>evSs P q S.1 S.2):=rfl
noncomputable def yw(P:Pg)(y:CT)(p:CSs):PyData→Loc→za→R (Loc×za) Fl:=jm y fun ρ O=>evSs P p ρ O
theorem qw{y:CT}{it:CI}{p:CSs}:evS P (.for_ y it p) ρ O=if P.hd=true then .stuck else ((evI P ρ it O).lift ρ).bind fun src S=>zq src (yw P y p) src.xs S.1 S.2:=rfl
theorem zod:evS P (.expr a) ρ O=((evE P ρ a O).lift ρ).bind fun uA S=>.ok .next S:=rfl
theorem zd3:evSs P .nil ρ O=.ok .next (ρ,O):=rfl
theorem vo{s:CS}{ss:CSs}:evSs P (.cons s ss) ρ O=(evS P s ρ O).bind (seqK fun S=>evSs P ss S.1 S.2):=rfl
end
section
variable{P:Pg}{ρ:Loc}{O:za}
theorem yb{σ α β:Type}{a:α}{s:σ}{f:α→σ→R σ β}:(R.ok a s).bind f=f a s:=rfl
theorem zeo{α:Type}{a:α}:(R.ok a O).lift ρ=.ok a (ρ,O):=rfl
theorem zes{α:Type}{a:α}:opt (some a) O=.ok a O:=rfl
theorem zig{b:Bool}:truth (.d (.bool b))=some b:=rfl
theorem zpx{p q:Loc×za→R (Loc×za) Fl}{S:Loc×za}:ifeK p q true S=p S:=rfl
theorem zmq{p q:Loc×za→R (Loc×za) Fl}{S:Loc×za}:ifeK p q false S=q S:=rfl
theorem zei{p:Loc×za→R (Loc×za) Fl}{v:V}{S:Loc×za}:seqK p (.ret v) S=.ok (.ret v) S:=rfl
theorem zou{p:Loc×za→R (Loc×za) Fl}{S:Loc×za}:seqK p .next S=p S:=rfl
theorem zqp{xs:List PyData}:boxK (.d (.list xs)) O=.ok (.box O.length) (O++[.lst xs]):=rfl
theorem zkx:Prim.calm .len=true:=rfl
theorem zf0{p:Prim}{x y:PyData}(h:zaj P p x=some y):prim P p [.d x] O=.ok (.d y) O:=by
 have e:∀ (o:Option PyData),o=some y→(match o with | some y=>R.ok (V.d y) O | none=>.stuck)=R.ok (V.d y) O:=fun o h=>by rw[h]
 cases p with
 | isexc _=>exfalso;injection h
 | _=>exact e _ h
theorem zo6{xs:List PyData}(h:xs.length≤line):prim P .len [.d (.tuple xs)] O=.ok (.d (.int xs.length)) O:=zf0 (ah h)
theorem zi1{xs:List PyData}(h:xs.length≤line):prim P .len [.d (.list xs)] O=.ok (.d (.int xs.length)) O:=zf0 (ah h)
theorem za7{α:Type}(g:α→Bool):∀ xs:List α,q6 (xs.map fun x=>.bool (g x))=some (xs.map g)
 | []=>rfl
 | x::xs=>by rw[a9,q6,za7 g xs];rfl
theorem ints_map{α:Type}(g:α→Int):∀ xs:List α,Mine.intsOf (xs.map fun x=>.int (g x))=some (xs.map g)
 | []=>rfl
 | x::xs=>by rw[a9,Mine.intsOf,ints_map g xs];rfl
theorem ww:∀ xs:List Int,Mine.intsOf (xs.map .int)=some xs
 | []=>rfl
 | x::xs=>by rw[a9,Mine.intsOf,ww xs];rfl
theorem zro{α:Type}{g:α→Bool}{xs:List α}:prim P .all [.d (.list (xs.map fun x=>.bool (g x)))] O=.ok (.d (.bool (xs.all g))) O:=by
 have e:(xs.map g).all id=xs.all g:=by rw[List.all_map];rfl
 rw[← e]
 exact zf0 (show (q6 (xs.map fun x=>.bool (g x))).map (fun bs=>PyData.bool (bs.all id))=_ by rw[za7];rfl)
theorem zrn{α:Type}{g:α→Int}{xs:List α}:prim P .sum [.d (.list (xs.map fun x=>.int (g x)))] O=.ok (.d (.int (xs.map g).sum)) O:=
 zf0 (show (Mine.intsOf (xs.map fun x=>.int (g x))).map (fun is=>PyData.int is.sum)=_ by rw[ints_map];rfl)
theorem v_eq{x y:PyData}:cmpV .eq (.d x) (.d y) O=opt ((kb .eq x y).map fun b=>.d (.bool b)) O:=rfl
theorem v_ne{x y:PyData}:cmpV .ne (.d x) (.d y) O=opt ((kb .ne x y).map fun b=>.d (.bool b)) O:=rfl
theorem v_lt{x y:Int}:cmpV .lt (.d (.int x)) (.d (.int y)) O=.ok (.d (.bool (decide (x < y)))) O:=rfl
theorem v_le{x y:Int}:cmpV .le (.d (.int x)) (.d (.int y)) O=.ok (.d (.bool (decide (x≤y)))) O:=rfl
theorem v_gt{x y:Int}:cmpV .gt (.d (.int x)) (.d (.int y)) O=.ok (.d (.bool (decide (x > y)))) O:=rfl
theorem zcd{x k:PyData}:idxV (.d x) (.d k) O=opt ((idxD x k).map .d) O:=rfl
theorem h9{a b:Int}:binK .add (.d (.int a)) (.d (.int b)) O=.ok (.d (.int (a+b))) O:=rfl
theorem zas{a b:Int}:binK .sub (.d (.int a)) (.d (.int b)) O=.ok (.d (.int (a - b))) O:=rfl
theorem zc5{op:Bop}{x y:PyData}:binK op (.d x) (.d y) O=opt ((za9 op x y).map V.d) O:=rfl
theorem zpe{a b:List PyData}(h:a.length+b.length≤line):binK .add (.d (.list a)) (.d (.list b)) O=.ok (.d (.list (a++b))) O:=by rw[zc5];show opt (Option.map V.d (if _ then _ else _)) O=_;rw[ah h];rfl
theorem zpd{a b:List PyData}(h:a.length+b.length≤line):binK .add (.d (.tuple a)) (.d (.tuple b)) O=.ok (.d (.tuple (a++b))) O:=by rw[zc5];show opt (Option.map V.d (if _ then _ else _)) O=_;rw[ah h];rfl
theorem znw{a b:Int}(h:a.natAbs < 2 ^ 64∨b.natAbs < 2 ^ 64):binK .mul (.d (.int a)) (.d (.int b)) O=.ok (.d (.int (a * b))) O:=by rw[zc5];show opt (Option.map V.d (if _ then _ else _)) O=_;rw[ah h];rfl
theorem zjl{a b:Int}(h:b≠0∧b.natAbs < 1073741824):binK .fdiv (.d (.int a)) (.d (.int b)) O=.ok (.d (.int (Int.fdiv a b))) O:=by rw[zc5];show opt (Option.map V.d (if _ then _ else _)) O=_;rw[ah h];rfl
theorem znx{a b:Int}(h:b≠0):binK .mod (.d (.int a)) (.d (.int b)) O=.ok (.d (.int (Int.fmod a b))) O:=by rw[zc5];show opt (Option.map V.d (if _ then _ else _)) O=_;rw[ai h];rfl
theorem zdd{a b:Int}:eqOk (.int a) (.int b)=true:=by unfold eqOk;rfl
theorem zgd{a b:Int}:PyData.eqv (.int a) (.int b)=decide (a=b):=by first | rfl | simp[PyData.eqv]
theorem eq_int{a b:Int}:cmpV .eq (.d (.int a)) (.d (.int b)) O=.ok (.d (.bool (decide (a=b)))) O:=by rw[v_eq,kb,zdd,zgd];rfl
theorem ne_int{a b:Int}:cmpV .ne (.d (.int a)) (.d (.int b)) O=.ok (.d (.bool (!decide (a=b)))) O:=by rw[v_ne,kb,zdd,zgd];rfl
end
section
variable{P:Pg}{ρ ρ':Loc}{O O' O'':za}{a b c e t:CE}{es:CEs}{v u:V}
theorem q7(h:evE P ρ e O=.ok v O'):evS P (.expr e) ρ O=.ok .next (ρ,O'):=by rw[zod,h];rfl
theorem z7{i:Nat}(h:evE P ρ e O=.ok v O')(hi:Nat.blt i ρ.length=true)(hr:ρ.set i (some v)=ρ'):evS P (.asg (.name i) e) ρ O=.ok .next (ρ',O'):=by
 subst hr
 rw[zh8,h]
 have:(P.hd && !(CT.name i).isName)=false:=by cases P.hd <;> rfl
 rw[this,ai ak]
 show (match (if i < ρ.length then some (ρ.set i (some v)) else none) with | some ρ'=>R.ok Fl.next (ρ',O') | none=>.stuck)=_
 rw[ah (show i < ρ.length from bU hi)]
theorem zy{p:CSs}(h:evE P ρ t O=.ok (.d (.bool false)) O'):evS P (.ife t p .nil) ρ O=.ok .next (ρ,O'):=by rw[zfq,h];rfl
theorem w_if{p q:CSs}{bb:Bool}(h:evE P ρ t O=.ok (.d (.bool bb)) O'):evS P (.ife t p q) ρ O=if bb then evSs P p ρ O' else evSs P q ρ O':=by rw[zfq,h];cases bb <;> rfl
theorem z9(h:evE P ρ e O=.ok v O'):evS P (.ret e) ρ O=.ok (.ret v) (ρ,O'):=by rw[zfo,h];rfl
theorem zc{st:CS}{ss:CSs}(h:evS P st ρ O=.ok .next (ρ',O')):evSs P (.cons st ss) ρ O=evSs P ss ρ' O':=by rw[vo,h];rfl
theorem ze{st:CS}{ss:CSs}{S:Loc×za}(h:evS P st ρ O=.ok (.ret v) S):evSs P (.cons st ss) ρ O=.ok (.ret v) S:=by rw[vo,h];rfl
theorem zm{f:Nat}{vs:List V}{r:R za V}(he:evEs P ρ es O=.ok vs O')(hc:P.call P.hd f vs O'=r):evE P ρ (.call f es) O=r:=by rw[x_call,he];exact hc
theorem zl{vs:List V}(h:evE P ρ a O=.ok v O')(h':evEs P ρ es O'=.ok vs O''):evEs P ρ (.cons a es) O=.ok (v::vs) O'':=by rw[uf,h,yb,h',yb]
theorem w_nt{bb:Bool}(h:evE P ρ a O=.ok (.d (.bool bb)) O'):evE P ρ (.nt a) O=.ok (.d (.bool !bb)) O':=by rw[x_nt,h];rfl
theorem w_or{bb:Bool}(h:evE P ρ a O=.ok (.d (.bool bb)) O'):evE P ρ (.or_ a b) O=if bb then .ok (.d (.bool true)) O' else evE P ρ b O':=by rw[x_or,h];cases bb <;> rfl
theorem w_and{bb:Bool}(h:evE P ρ a O=.ok (.d (.bool bb)) O'):evE P ρ (.and_ a b) O=if bb then evE P ρ b O' else .ok (.d (.bool false)) O':=by rw[zqv,h];cases bb <;> rfl
theorem xe{r:R za V}(h:evE P ρ a O=.ok (.d (.bool false)) O')(h':evE P ρ b O'=r):evE P ρ (.or_ a b) O=r:=(w_or h).trans h'
theorem zq1(h:evE P ρ a O=.ok (.d (.bool true)) O'):evE P ρ (.or_ a b) O=.ok (.d (.bool true)) O':=w_or h
theorem ju{r:R za V}(h:evE P ρ a O=.ok (.d (.bool true)) O')(h':evE P ρ b O'=r):evE P ρ (.and_ a b) O=r:=(w_and h).trans h'
theorem zia(h:evE P ρ a O=.ok (.d (.bool false)) O'):evE P ρ (.and_ a b) O=.ok (.d (.bool false)) O':=w_and h
theorem xa{p:Prim}{r:R za V}(hp:(P.hd && !p.calm)=false)(h:evE P ρ a O=.ok v O')(hr:prim P p [v] O'=r):evE P ρ (.prim p (.cons a .nil)) O=r:=by rw[zd4,hp,ai ak,uf,h,yb,zfp,yb,yb];exact hr
theorem zx{op:Cop}{r:R za V}(h1:evE P ρ a O=.ok v O')(h2:evE P ρ b O'=.ok u O'')(h3:cmpV op v u O''=r):evE P ρ (.cmp op a b) O=r:=by rw[zh7,h1,yb,h2,yb];exact h3
theorem xk{op:Bop}{r:R za V}(h1:evE P ρ a O=.ok v O')(h2:evE P ρ b O'=.ok u O'')(h3:binK op v u O''=r):evE P ρ (.bin op a b) O=r:=by rw[znj,h1,yb,h2,yb];exact h3
theorem y4{r:R za V}(h1:evE P ρ a O=.ok v O')(h2:evE P ρ b O'=.ok u O'')(h3:idxV v u O''=r):evE P ρ (.idx a b) O=r:=by rw[zh6,h1,yb,h2,yb];exact h3
theorem ug{m:Meth}{vs:List V}{r:R za V}(h1:evE P ρ a O=.ok v O')(hr:recv m v O'=true)(h2:evEs P ρ es O'=.ok vs O'')(h3:meth m v vs O''=r):evE P ρ (.meth m a es) O=r:=by rw[zn9,h1,yb,ah hr,h2];exact h3
theorem wp{p:Prim}{x y:PyData}(hv:look O v=some x)(hp:zaj P p x=some y):prim P p [v] O=.ok (.d y) O:=by
 have e:([v].mapM (look O)).bind (qy P p)=some y:=by rw[List.mapM_cons,hv,List.mapM_nil];exact hp
 have e2:∀ (o:Option PyData),o=some y→(match o with | some y=>R.ok (V.d y) O | none=>.stuck)=R.ok (V.d y) O:=fun o h=>by rw[h]
 cases p with
 | isexc _=>exfalso;injection hp
 | _=>exact e2 _ e
theorem zqn{op:Cop}{x y:PyData}{bb:Bool}(hop:op=.eq∨op=.ne)(hv:look O v=some x)(hu:look O u=some y)(h:kb op x y=some bb):cmpV op v u O=.ok (.d (.bool bb)) O:=by
 have:cmpG op v u O=.ok (.d (.bool bb)) O:=by unfold cmpG;rw[hv,hu];show opt ((kb op x y).map _) O=_;rw[h];rfl
 (refine eS hop ?_ ?_<;>clear hop;rotate_left;rintro rfl;rotate_right;rintro rfl) <;> exact this
inductive Seen(O:za):V→List PyData→Prop
 | d (xs:List PyData):Seen O (.d (.list xs)) xs
 | box (n:Nat) (xs:List PyData) (h:O[n]?=some (.lst xs)):Seen O (.box n) xs
theorem Seen.look{xs:List PyData}(h:Seen O v xs):look O v=some (.list xs):=by
 cases h with
 | d xs=>rfl
 | box n xs h=>show j7 O n=_;unfold j7;rw[h]
theorem Seen.src{xs:List PyData}(h:Seen O v xs):∃ src:Src,srcV v O=.ok src O∧src.xs=xs∧src.still O=true:=by
 cases h with
 | d xs=>exact ff _ rfl rfl rfl
 | box n xs h=>exact ff _ (zlo h) rfl (by unfold Src.still;exact @aH _ (Classical.propDecidable _) h)
theorem Seen.more{xs:List PyData}{bx:Box}(h:Seen O v xs):Seen (O++[bx]) v xs:=by
 cases h with
 | d xs=>exact .d xs
 | box n xs h=>exact .box n xs (by rw[aJ (qj h)];exact h)
theorem zjq{xs:List PyData}(h:Seen O v xs):prim P (.isinst .list) [v] O=.ok (.d (.bool true)) O:=wp h.look rfl
theorem zcz{xs:List PyData}(h:Seen O v xs)(hl:xs.length≤line):prim P .len [v] O=.ok (.d (.int xs.length)) O:=wp h.look (ah hl)
theorem za5{src:Src}{turn:PyData→za→R za (Option PyData)}{f:PyData→Option PyData}(hs:src.still O=true):∀ (xs acc:List PyData),(∀ x∈xs,turn x O=.ok (f x) O)→yf src turn xs acc O=.ok (.d (.list (acc++xs.filterMap f))) O
 | [],acc,_=>by rw[yf,List.filterMap_nil,ba]
 | x::xs,acc,h=>by
   rw[yf,h x am]
   show (if src.still O=true then _ else _)=_
   rw[ah hs,za5 hs xs _ fun y hy=>h y (ag _ hy),bf]
   cases hx:f x with
   | none=>rw[List.filterMap_cons_none hx];rfl
   | some y=>rw[List.filterMap_cons_some hx];rfl
theorem zbf{elt:CE}{tgt:CT}{it:CI}{ifs:CEs}{src:Src}(hd:P.hd=false)(hit:evI P ρ it O=.ok src O)(hs:src.still O=true)(hl:src.xs.length≤line)(f:PyData→Option PyData)
 (h:∀ x∈src.xs,xr tgt (fun ρ O=>j9 P ρ ifs O) (fun ρ O=>evE P ρ elt O) ρ x O=.ok (f x) O):evE P ρ (.comp elt tgt it ifs) O=.ok (.d (.list (src.xs.filterMap f))) O:=by
 show (if P.hd=true then .stuck else _:R za V)=_
 rw[ai (by rw[hd];decide),hit]
 show (if src.xs.length≤line then _ else _)=_
 rw[ah hl]
 exact za5 hs src.xs [] h
theorem zbe{elt:CE}{tgt:CT}{it:CI}{src:Src}(hd:P.hd=false)(hit:evI P ρ it O=.ok src O)(hs:src.still O=true)(hl:src.xs.length≤line)(f:PyData→PyData)
 (h:∀ x∈src.xs,∃ ρ',zp tgt (.d x) ρ=some ρ'∧evE P ρ' elt O=.ok (.d (f x)) O):evE P ρ (.comp elt tgt it .nil) O=.ok (.d (.list (src.xs.map f))) O:=by
 rw[← List.filterMap_eq_map]
 refine zbf hd hit hs hl _ fun x hx=>?_
 refine eV (h x hx) ?_;intro ρ' h1 h2
 unfold xr
 rw[h1]
 show R.bind (evE P ρ' elt O) _=_
 rw[h2];rfl
theorem zbg{elt:CE}{tgt:CT}{it:CI}{src:Src}{xs:List PyData}(g:PyData→Bool)(hd:P.hd=false)(hit:evI P ρ it O=.ok src O)(hx:src.xs=xs)(hs:src.still O=true)(hl:xs.length≤line)
 (h:∀ x∈xs,∃ ρ',zp tgt (.d x) ρ=some ρ'∧evE P ρ' elt O=.ok (.d (.bool (g x))) O):evE P ρ (.prim .all (.cons (.comp elt tgt it .nil) .nil)) O=.ok (.d (.bool (xs.all g))) O:=by
 subst hx
 refine xa (by rw[hd];rfl) (zbe hd hit hs hl (fun x=>.bool (g x)) h) ?_
 exact zro
end
end Mine
end
section
namespace Mine.L10
open PySem Mine
section
variable{P:Pg}{ρ:Loc}{O:za}{a b c:CE}
theorem zn8:evE P ρ (.min2 a b) O=if P.hd=true then .stuck else (evE P ρ a O).bind fun v O=>(evE P ρ b O).bind fun u O=>minV v u O:=rfl
theorem zob:evE P ρ (.lenS a) O=if P.hd=true then .stuck else (evE P ρ a O).bind fun v O=>opt (((look O v).bind u7).map .d) O:=rfl
end
noncomputable abbrev PG(k:Nat)(hd:Bool):Pg:={ P with call:=zg P table k,hd:=hd }
theorem jr{k:Nat}{hd:Bool}{f:Nat}{fn:Fn}{args:List V}{O:za}(h:table f=some fn)(hl:args.length=fn.arity∧fn.arity≤fn.slots):zg P table (k+1) hd f args O=evFn (PG k hd) fn args O:=by
 rw[zg,h];exact ah hl
section
variable{k:Nat}{hd:Bool}{f:Nat}{fn:Fn}{args:List V}{O:za}{ρ ρ':Loc}{x:PyData}(h:table f=some fn)(hl:args.length=fn.arity∧fn.arity≤fn.slots)(hρ:args.map some++List.replicate (fn.slots - fn.arity) none=ρ)
include h hl hρ
theorem wf{O':za}(hb:evSs (PG k hd) fn.body ρ O=.ok (.ret (.d x)) (ρ',O++O')):zg P table (k+1) hd f args O=.ok (.d x) O:=by
 rw[jr h hl,evFn,hρ,hb]
 show R.ok (V.d x) ((O++O').take O.length)=_
 rw[List.take_left']
 rfl
theorem zj(hb:evSs (PG k hd) fn.body ρ O=.ok (.ret (.d x)) (ρ',O)):zg P table (k+1) hd f args O=.ok (.d x) O:=
 wf (O':=[]) h hl hρ (by rw[ba];exact hb)
theorem zhu(hb:evSs (PG k hd) fn.body ρ O=.ok .next (ρ',O)):zg P table (k+1) hd f args O=.ok (.d .none) O:=by
 rw[jr h hl,evFn,hρ,hb]
 show R.ok (V.d .none) (O.take O.length)=_
 rw[bE]
end
noncomputable def good(m:Nat)(c:List Int):Prop:=c.length=m∧∀ i∈c,-1≤i∧i≤1
noncomputable def m4(m:Nat):Prop:=2≤m∧m≤5
theorem jf{m:Nat}(h:m4 m):m=2∨m=3∨m=4∨m=5:=by have:=h.1;have:=h.2;lia
structure Found(m:Nat)(cs:List (List Int)):Prop where
 good:∀ c∈cs,good m c
 nodup:cs.Nodup
 pos:1≤cs.length
 le:cs.length≤12
noncomputable def caseD(c:List Int):PyData:=.tuple (c.map .int)
noncomputable def zb(cs:List (List Int)):List PyData:=cs.map caseD
theorem zr{cs:List (List Int)}:(zb cs).length=cs.length:=aG _
theorem gn:∀ (kss K:List (List Int)),(K++kss).Nodup→kss.foldl addK K=K++kss
 | [],K,_=>(ba K).symm
 | k::kss,K,h=>by
   have hk:k∉K:=fun hm=>(cj.mp h).2.2 k hm k am rfl
   rw[cU]
   have:addK K k=K++[k]:=by unfold addK;rw[ai hk]
   rw[this,gn kss (K++[k]) (by rw[bf];exact h),bf];rfl
theorem q9:∀ cs:List (List Int),jc (zb cs)=some cs
 | []=>rfl
 | c::cs=>by
   show ((intsOf (c.map .int)).bind fun a=>(jc (zb cs)).map (a::·))=_
   rw[ww,q9 cs];rfl
theorem zey{cs:List (List Int)}(h:cs.length≤17)(hn:cs.Nodup):u7 (.list (zb cs))=some (.int cs.length):=by
 show ((jc (zb cs)).bind fun kss=>if kss.length≤17 then some (PyData.int (yj kss kss.length).length) else none)=_
 rw[q9]
 show (if cs.length≤17 then _ else _)=_
 rw[ah h,show yj cs cs.length=cs by unfold yj;rw[bE];exact gn cs [] hn]
noncomputable def allC:Nat→List (List Int)
 | 0=>[[]]
 | n+1=>(allC n).flatMap fun c=>[-1::c,0::c,1::c]
theorem zcu:∀ {m:Nat} {c:List Int},good m c→c∈allC m
 | 0,c,h=>by
   have:=List.length_eq_zero_iff.mp h.1
   subst this;exact ae.mpr rfl
 | m+1,c,h=>by
   cases c with
   | nil=>cases h.1
   | cons i c=>
     refine dO.mpr ⟨c,zcu ⟨dC h.1,fun j hj=>h.2 j (ag _ hj)⟩,?_⟩
     have hi:=h.2 i am
     have:i = -1∨i=0∨i=1:=by lia
     rcases this with rfl | rfl | rfl <;> simp
theorem kj{α β:Type}{f g:α→β}{l:List α}(h:l.map f=l.map g){x:α}(hx:x∈l):f x=g x:=List.map_inj_left.mp h x hx
noncomputable def Tk:Nat→za→za
 | 0,O=>O
 | n+1,O=>Tk n (O.take O.length)
theorem zn7:∀ (n:Nat) (O:za),Tk n O=O
 | 0,_=>rfl
 | n+1,O=>by rw[Tk,bE];exact zn7 n O
noncomputable abbrev zds(m k:Nat)(O:za):Prop:=(allC m).map (fun c=>zg P table (k+2) false 2 [.d (.int m),.d (caseD c)] O)=(allC m).map fun uA=>.ok (.d (.bool true)) ((Tk m O).take O.length)
theorem zs1{k:Nat}{O:za}:zds 2 k O:=by kernel_rfl
theorem zs0{k:Nat}{O:za}:zds 3 k O:=by kernel_rfl
theorem zsz{k:Nat}{O:za}:zds 4 k O:=by kernel_rfl
theorem zsy{k:Nat}{O:za}:zds 5 k O:=by kernel_rfl
theorem zkk{k m:Nat}{c:List Int}{O:za}(hm:m4 m)(h:good m c):zg P table (k+2) false 2 [.d (.int m),.d (caseD c)] O=.ok (.d (.bool true)) O:=by
 have hc:=zcu h
 have hq:zds m k O:=by
  rcases jf hm with rfl | rfl | rfl | rfl
  ·exact zs1
  ·exact zs0
  ·exact zsz
  ·exact zsy
 refine (kj hq hc).trans ?_
 rw[zn7,bE]
theorem zm0{k m:Nat}{O:za}(hm:m4 m):zg P table (k+2) false 1 [.d (.int m)] O=.ok (.d .none) O:=by
 have:zg P table (k+2) false 1 [.d (.int m)] O=.ok (.d .none) ((O.take O.length).take O.length):=by rcases jf hm with rfl | rfl | rfl | rfl <;> kernel_rfl
 rw[this,bE,bE]
theorem zp4{k m:Nat}{cs:List (List Int)}{v:V}{O:za}(hm:m4 m)(f:Found m cs)(h:Seen O v (zb cs)):zg P table (k+3) false 3 [.d (.int m),v] O=.ok (.d .none) O:=by
 have f1:=f.pos
 have f2:=f.le
 have hl:(zb cs).length≤line:=by rw[zr];exact aq f.le (by decide)
 obtain⟨src,s1,s2,s3⟩:=h.src
 have pl:prim (PG (k+2) false) .len [v] O=.ok (.d (.int cs.length)) O:=by rw[zcz h hl,zr]
 have le:evE (PG (k+2) false) [some (.d (.int m)),some v,none] (.prim .len (.cons (.loc 1) .nil)) O=.ok (.d (.int cs.length)) O:=xa rfl rfl pl
 have d1:decide ((1:Int)≤(cs.length:Int))=true:=aH (by lia)
 have d2:decide ((cs.length:Int)≤12)=true:=aH (by lia)
 have d3:decide ((cs.length:Int) < (cs.length:Int))=false:=aQ (by lia)
 have t1:evE (PG (k+2) false) [some (.d (.int m)),some v,none] (.chain .le .le (.int 1) (.prim .len (.cons (.loc 1) .nil)) (.glob 2)) O=.ok (.d (.bool true)) O:=by
  rw[zle,zcb,yb,le,yb,v_le,d1]
  show cmpV .le (.d (.int cs.length)) (.d (.int 12)) O=_
  rw[v_le,d2]
 have t2:evE (PG (k+2) false) [some (.d (.int m)),some v,none] (.prim .all (.cons (.comp (.call 2 (.cons (.loc 0) (.cons (.loc 2) .nil))) (.name 2) (.e (.loc 1)) .nil) .nil)) O=.ok (.d (.bool true)) O:=by
  have:=zbg (P:=PG (k+2) false) (ρ:=[some (.d (.int m)),some v,none]) (elt:=.call 2 (.cons (.loc 0) (.cons (.loc 2) .nil))) (tgt:=.name 2) (it:=.e (.loc 1)) (O:=O) (fun uA=>true) rfl s1 s2 s3 hl fun x hx=>⟨[some (.d (.int m)),some v,some (.d x)],rfl,by
   refine eV (aC.mp hx) ?_;intro c hc dY;subst dY
   exact zm rfl (zkk hm (f.good c hc))⟩
  rw[this]
  congr 4
  exact aU.mpr fun uA uA=>rfl
 have t3:evE (PG (k+2) false) [some (.d (.int m)),some v,none] (.lenS (.loc 1)) O=.ok (.d (.int cs.length)) O:=by
  rw[zob,ai ak]
  show opt (((look O v).bind u7).map V.d) O=_
  rw[h.look]
  show opt ((u7 (.list (zb cs))).map V.d) O=_
  rw[zey (by lia) f.nodup];rfl
 refine zhu (fn:=c3) (ρ':=[some (.d (.int m)),some v,none]) rfl ⟨rfl,by decide⟩ rfl ?_
 refine (zc (q7 (zm rfl (zm0 hm)))).trans ?_
 refine (zc (zy (xe (w_nt (xa rfl rfl (zjq h))) (w_nt t1)))).trans ?_
 refine (zc (zy (w_nt t2))).trans ?_
 refine (zc (zy (zx t3 le ?_))).trans rfl
 rw[v_lt,d3]
theorem zjw{is:List Int}{j:Nat}(hl:is.length≤line)(hj:j < is.length):idxD (.list (is.map .int)) (.int j)=some (.int (is.getD j 0)):=by
 have e:(is.map PyData.int)[j]?=some (.int (is.getD j 0)):=by
  rw[aT,List.getD_eq_getElem?_getD,ao hj];rfl
 unfold idxD items
 dsimp only
 rw[aG,ah hl,ah (by lia)]
 exact e
theorem zj4{a:Int}{n:Nat}(hn:0 < n):∃ j:Nat,j < n∧Int.fmod a (n:Int)=(j:Int):=by
 have h1:Int.fmod a (n:Int)=a % (n:Int):=Int.fmod_eq_emod_of_nonneg _ (by lia)
 have h2:=Int.emod_nonneg a (show (n:Int)≠0 by lia)
 have h3:=Int.emod_lt_of_pos a (show (0:Int) < n by lia)
 exact eW (a % (n:Int)).toNat (by lia) (by rw[h1];lia)
theorem zo8{a:Int}{n:Nat}{O:za}(hn:0 < n):∃ j:Nat,j < n∧Int.fmod a (n:Int)=(j:Int)∧binK .mod (.d (.int a)) (.d (.int (n:Int))) O=.ok (.d (.int (j:Int))) O:=by
 refine eV (zj4 (a:=a) hn) ?_;intro j hj e
 exact ff j hj e (by rw[znx (by lia),e])
theorem zkm{k:Nat}{s:List Int}{j:Nat}{O:za}(hs:s.length≤63):zg P table (k+1) false 21 [.d (.list (s.map .int)),.d (.int j)] O=.ok (.d (.int (s.getD j 0))) O:=by
 refine zj (fn:=c21) (ρ:=[some (.d (.list (s.map .int))),some (.d (.int j))]) (ρ':=[some (.d (.list (s.map .int))),some (.d (.int j))]) rfl ⟨rfl,by decide⟩ rfl ?_
 have hlen:(s.map PyData.int).length≤line:=by rw[aG];exact aq hs (by decide)
 by_cases h:j < s.length
 ·have hd:decide ((j:Int) < ((s.map PyData.int).length:Int))=true:=aH (by rw[aG];lia)
  simp only[c21,zcb,j4,zh7,zh6,zd4,zfp,uf,zfo,zfq,zd3,vo,yb,zeo,zes,zig,zpx,zei,v_lt,zcd,Option.map_some,Option.join_some,List.getElem?_cons_zero,List.getElem?_cons_succ,bp,Bool.and_false,aN,bu,zkx,zi1 hlen,hd,zjw (aq hs (by decide)) h]
 ·have hd:decide ((j:Int) < ((s.map PyData.int).length:Int))=false:=aQ (by rw[aG];lia)
  have e:s.getD j 0=0:=by rw[List.getD_eq_getElem?_getD,a6 (by lia)];rfl
  simp only[c21,zcb,j4,zh7,zh6,zd4,zfp,uf,zfo,zfq,zd3,vo,yb,zeo,zes,zig,zmq,zei,zou,v_lt,Option.join_some,List.getElem?_cons_zero,List.getElem?_cons_succ,bp,Bool.and_false,aN,bu,zkx,zi1 hlen,hd,e]
noncomputable def mixI(s:List Int)(j:Nat):Int:=Int.fdiv (Int.fmod ((s.getD j 0+7919 * (j:Int)+13) * 48271) 2147483647) 3
theorem zmw{k:Nat}{s:List Int}{j:Nat}{O:za}(hs:s.length≤63):zg P table (k+2) false 22 [.d (.list (s.map .int)),.d (.int j)] O=.ok (.d (.int (mixI s j))) O:=by
 refine zj (fn:=c22) (ρ:=[some (.d (.list (s.map .int))),some (.d (.int j))]) (ρ':=[some (.d (.list (s.map .int))),some (.d (.int j))]) rfl ⟨rfl,by decide⟩ rfl ?_
 have e1:∀ n:Int,binK .mul (.d (.int 7919)) (.d (.int n)) O=.ok (.d (.int (7919 * n))) O:=fun n=>znw (.inl (by decide))
 have e2:∀ n:Int,binK .mul (.d (.int n)) (.d (.int 48271)) O=.ok (.d (.int (n * 48271))) O:=fun n=>znw (.inr (by decide))
 have e3:∀ n:Int,binK .mod (.d (.int n)) (.d (.int 2147483647)) O=.ok (.d (.int (Int.fmod n 2147483647))) O:=fun n=>znx (by decide)
 have e4:∀ n:Int,binK .fdiv (.d (.int n)) (.d (.int 3)) O=.ok (.d (.int (Int.fdiv n 3))) O:=fun n=>zjl ⟨by decide,by decide⟩
 simp only[c22,zcb,j4,znj,x_call,zfp,uf,zfo,zd3,vo,yb,zeo,zes,zei,h9,Option.join_some,List.getElem?_cons_zero,List.getElem?_cons_succ,zkm hs,e1,e2,e3,e4,mixI]
noncomputable def zj0(m:Nat)(c:List Int):Bool:=c.length == m && c.all fun i=>decide (-1≤i) && decide (i≤1)
theorem ze9{m:Nat}{c:List Int}(h:zj0 m c=true):good m c:=by
 unfold zj0 at h
 rw[aD,aS] at h
 refine⟨h.1,fun i hi=>?_⟩
 have:=aU.mp h.2 i hi
 rw[aD,aO,aO] at this
 exact this
noncomputable def toI:PyData→Int
 | .int n=>n
 | _=>0
theorem dv{c b:Int}{O:za}(h:b≠0∧b.natAbs < 1073741824):binK .fdiv (.d (.int c)) (.d (.int b)) O=.ok (.d (.int (Int.fdiv c b))) O:=zjl h
theorem md(a:Int)(n:Nat)(O:za)(hn:0 < n):∃ j:Nat,j < n∧binK .mod (.d (.int a)) (.d (.int (n:Int))) O=.ok (.d (.int (j:Int))) O:=let ⟨j,hj,_,e⟩:=zo8 (a:=a) (O:=O) hn;⟨j,hj,e⟩
theorem zdc{a c:List Int}:PyData.eqv (caseD a) (caseD c)=decide (a=c):=kw a c
theorem zc2{c:List Int}:(caseD c).canLay0=true:=lays c
theorem qn:∀ cs:List (List Int),PyData.canLayAll0 (zb cs)=true
 | []=>rfl
 | c::cs=>by
   show ((caseD c).canLay0 && PyData.canLayAll0 (zb cs))=true
   rw[zc2,qn cs];rfl
theorem zfg(c:List Int):(caseD c).depth≤1:=cr (ky c)
theorem x9{k:Nat}{v:V}{xs:List PyData}{O:za}(h:look O v=some (.list xs))(hl:xs.length≤line):prim (PG k false) .len [v] O=.ok (.d (.int xs.length)) O:=wp h (ah hl)
theorem zju{v:V}{k x:PyData}{O:za}(h:look O v=some x):idxV v (.d k) O=opt ((idxD x k).map .d) O:=by
 show opt (((look O v).bind fun x=>idxD x k).map V.d) O=_
 rw[h];rfl
noncomputable def sgn(d:Int):Int:=if d > 0 then 1 else if d < 0 then -1 else 0
noncomputable def j5(cs is:List Int):Int:=(is.map fun i=>cs.getD i.toNat 0).sum
noncomputable def wOf(is js:List Int):PyData:=.tuple [.tuple (is.map .int),.tuple (js.map .int)]
structure InR(m:Nat)(is:List Int):Prop where
 len:is.length≤2
 at_:∀ i∈is,0≤i∧i < (m:Int)
theorem zgo{m:Nat}{cs is:List Int}{i:Int}(hm:m4 m)(hc:good m cs)(h:InR m is)(hi:i∈is):idxD (caseD cs) (.int i)=some (.int (cs.getD i.toNat 0)):=by
 have hb:=h.at_ i hi
 have hl:=hc.1
 have hj:i.toNat < cs.length:=by lia
 have h5:cs.length≤line:=by rw[hl];exact aq hm.2 (by decide)
 unfold caseD idxD items
 dsimp only
 rw[aG,ah h5,ah hb.1,aT,List.getD_eq_getElem?_getD,ao hj];rfl
theorem zn1{k:Nat}{m:Nat}{cs ls:List Int}{a b:Nat}{ρ:Loc}{O:za}(hm:m4 m)(hc:good m cs)(hr:InR m ls)(ha:Nat.blt a ρ.length=true)(ha1:a≠1)(h1:ρ[1]?=some (some (.d (caseD cs))))(hb:ρ[b]?=some (some (.d (.tuple (ls.map .int))))) :
 evE (PG k false) ρ (.prim .sum (.cons (.comp (.idx (.loc 1) (.loc a)) (.name a) (.e (.loc b)) .nil) .nil)) O=.ok (.d (.int (j5 cs ls))) O:=by
 have ha:a < ρ.length:=bU ha
 have hl:(ls.map PyData.int).length≤line:=by rw[aG];exact aq hr.len (by decide)
 have hI:evI (PG k false) ρ (.e (.loc b)) O=.ok (.plain (ls.map .int)) O:=by rw[x_e,j4,hb];rfl
 refine xa rfl (zbe rfl hI rfl hl (fun x=>.int (cs.getD (toI x).toNat 0)) fun x hx=>⟨ρ.set a (some (.d x)),ah ha,?_⟩) ?_
 ·refine eV (aC.mp hx) ?_;intro i hi dY;subst dY
  have e1:evE (PG k false) (ρ.set a (some (.d (.int i)))) (.loc 1) O=.ok (.d (caseD cs)) O:=by rw[j4,cG ha1,h1];rfl
  have e2:evE (PG k false) (ρ.set a (some (.d (.int i)))) (.loc a) O=.ok (.d (.int i)) O:=by rw[j4,bN ha];rfl
  refine y4 e1 e2 ?_
  rw[zcd,zgo hm hc hr hi];rfl
 ·refine (zrn (g:=fun x=>cs.getD (toI x).toNat 0)).trans ?_
  rw[show ((Src.plain (ls.map PyData.int)).xs.map fun x=>cs.getD (toI x).toNat 0).sum=j5 cs ls by show ((ls.map PyData.int).map _).sum=_;rw[cO];rfl]
theorem zof{P:Pg}{ρ ρ':Loc}{O O':za}{e:CE}{t:CT}{v:V}(hd:P.hd=false)(h:evE P ρ e O=.ok v O')(hb:zp t v ρ=some ρ'):evS P (.asg t e) ρ O=.ok .next (ρ',O'):=by
 rw[zh8,hd,Bool.false_and,ai ak,h]
 show asgR t v (ρ,O')=_
 unfold asgR
 rw[hb]
theorem zp1{k:Nat}{a b c e f g:Option V}{O:za}{d:Int}:evSs (PG k false) (.cons (.ife (.cmp .gt (.loc 4) (.int 0)) (.cons (.ret (.int 1)) .nil) .nil) (.cons (.ret (.ite (.cmp .lt (.loc 4) (.int 0)) (.neg (.int 1)) (.int 0))) .nil)) [a,b,c,e,some (.d (.int d)),f,g] O=.ok (.ret (.d (.int (sgn d)))) ([a,b,c,e,some (.d (.int d)),f,g],O):=by
 have h1:evE (PG k false) [a,b,c,e,some (.d (.int d)),f,g] (.cmp .gt (.loc 4) (.int 0)) O=.ok (.d (.bool (decide (d > 0)))) O:=rfl
 have h2:evE (PG k false) [a,b,c,e,some (.d (.int d)),f,g] (.cmp .lt (.loc 4) (.int 0)) O=.ok (.d (.bool (decide (d < 0)))) O:=rfl
 unfold sgn
 by_cases hg:d > 0
 ·rw[ah hg]
  rw[aH hg] at h1
  exact ze ((w_if h1).trans rfl)
 ·rw[ai hg]
  rw[aQ hg] at h1
  refine (zc (zy h1)).trans (ze (z9 ?_))
  rw[zh5,h2]
  by_cases hl:d < 0
  ·rw[ah hl,aH hl];rfl
  ·rw[ai hl,aQ hl];rfl
theorem zp8{k m:Nat}{cs is js:List Int}{O:za}(hm:m4 m)(hc:good m cs)(hi:InR m is)(hj:InR m js):zg P table (k+1) false 8 [.d (wOf is js),.d (caseD cs)] O=.ok (.d (.int (sgn (j5 cs is - j5 cs js)))) O:=by
 have k1:=zn1 (k:=k) (a:=5) (b:=2) (O:=O) (ρ:=[some (.d (wOf is js)),some (.d (caseD cs)),some (.d (.tuple (is.map .int))),some (.d (.tuple (js.map .int))),none,none,none]) hm hc hi rfl (by decide) rfl rfl
 have k2:=zn1 (k:=k) (a:=6) (b:=3) (O:=O) (ρ:=[some (.d (wOf is js)),some (.d (caseD cs)),some (.d (.tuple (is.map .int))),some (.d (.tuple (js.map .int))),none,none,none]) hm hc hj rfl (by decide) rfl rfl
 refine zj (fn:=c8) rfl ⟨rfl,by decide⟩ rfl ((zc (zof rfl rfl rfl)).trans ((zc (z7 (xk k1 k2 zas) rfl rfl)).trans zp1))
noncomputable def zii(g:Int→Int→Int)(cs:List Int)(a:Int×Option V)(x:PyData):Int×Option V:=(g a.1 (cs.getD (toI x).toNat 0),some (V.d x))
theorem l_sum{k m:Nat}{op:Bop}{g:Int→Int→Int}{cs ls:List Int}{w:V}{i:CE}{O:za}{n:Int}{z:Option V}(hg:∀ a b,binK op (.d (.int a)) (.d (.int b)) O=.ok (.d (.int (g a b))) O)(hm:m4 m)(hc:good m cs)(hr:InR m ls)
 (hi:∀ n z,evE (PG k false) [some w,some (.d (caseD cs)),some (.d (.int n)),z] i O=.ok (.d (.tuple (ls.map .int))) O) :
 ∃ z',evS (PG k false) (.for_ (.name 3) (.e i) (.cons (.asg (.name 2) (.bin op (.loc 2) (.idx (.loc 1) (.loc 3)))) .nil)) [some w,some (.d (caseD cs)),some (.d (.int n)),z] O=.ok .next ([some w,some (.d (caseD cs)),some (.d (.int ((ls.map fun i=>cs.getD i.toNat 0).foldl g n))),z'],O):=by
 refine fe ((ls.map PyData.int).foldl (zii g cs) (n,z)).2 ?_
 have e1:∀ (ls:List Int) (a:Int×Option V),((ls.map PyData.int).foldl (zii g cs) a).1=(ls.map fun i=>cs.getD i.toNat 0).foldl g a.1:=fun ls=>by
  induction ls with
  | nil=>exact fun a=>rfl
  | cons x ls ih=>exact fun a=>ih _
 have:=gj (ys:=ls.map PyData.int) (turn:=yw (PG k false) (.name 3) (.cons (.asg (.name 2) (.bin op (.loc 2) (.idx (.loc 1) (.loc 3)))) .nil)) (fun a:Int×Option V=>([some w,some (.d (caseD cs)),some (.d (.int a.1)),a.2],O)) (zii g cs) (ls.map PyData.int) (n,z) fun a x hx=>by
  refine eV (aC.mp hx) ?_;intro i hi dY;subst dY
  refine (zc (z7 (ρ:=[some w,some (.d (caseD cs)),some (.d (.int a.1)),some (.d (.int i))]) (xk rfl (y4 rfl rfl ?_) (hg _ _)) rfl rfl)).trans rfl
  rw[zcd,zgo hm hc hr hi];rfl
 rw[e1] at this
 rw[qw,ai ak,x_e,hi]
 exact this
theorem zmv{k:Nat}{a b c:Option V}{O:za}{d:Int}:evSs (PG k false) (.cons (.ret (.ite (.cmp .gt (.loc 2) (.int 0)) (.int 1) (.ite (.cmp .lt (.loc 2) (.int 0)) (.neg (.int 1)) (.int 0)))) .nil) [a,b,some (.d (.int d)),c] O=.ok (.ret (.d (.int (sgn d)))) ([a,b,some (.d (.int d)),c],O):=by
 have h1:evE (PG k false) [a,b,some (.d (.int d)),c] (.cmp .gt (.loc 2) (.int 0)) O=.ok (.d (.bool (decide (d > 0)))) O:=rfl
 have h2:evE (PG k false) [a,b,some (.d (.int d)),c] (.cmp .lt (.loc 2) (.int 0)) O=.ok (.d (.bool (decide (d < 0)))) O:=rfl
 refine ze (z9 ?_)
 unfold sgn
 rw[zh5,h1]
 by_cases hg:d > 0
 ·rw[ah hg,aH hg];rfl
 ·rw[ai hg,aQ hg]
  show evE (PG k false) [a,b,some (.d (.int d)),c] (.ite (.cmp .lt (.loc 2) (.int 0)) (.neg (.int 1)) (.int 0)) O=_
  rw[zh5,h2]
  by_cases hl:d < 0
  ·rw[ah hl,aH hl];rfl
  ·rw[ai hl,aQ hl];rfl
theorem fold_add:∀ (l:List Int) (a:Int),l.foldl (· + ·) a=a+l.sum
 | [],a=>by simp
 | x::l,a=>by rw[cU,fold_add l,List.sum_cons];lia
theorem zc9:∀ (l:List Int) (a:Int),l.foldl (· - ·) a=a - l.sum
 | [],a=>by simp
 | x::l,a=>by rw[cU,zc9 l,List.sum_cons];lia
theorem zmy{k m:Nat}{cs is js:List Int}{O:za}(hm:m4 m)(hc:good m cs)(hi:InR m is)(hj:InR m js):zg P table (k+1) false 24 [.d (wOf is js),.d (caseD cs)] O=.ok (.d (.int (sgn (j5 cs is - j5 cs js)))) O:=by
 refine eZ (l_sum (k:=k) (op:=.add) (g:=(· + ·)) (w:=.d (wOf is js)) (i:=.idx (.loc 0) (.int 0)) (O:=O) (n:=0) (z:=none) (fun uA uA=>h9) hm hc hi fun uA uA=>rfl) ?_;intro z1 e1
 rw[fold_add,Int.zero_add] at e1
 refine eZ (l_sum (k:=k) (op:=.sub) (g:=(· - ·)) (w:=.d (wOf is js)) (i:=.idx (.loc 0) (.int 1)) (O:=O) (n:=(is.map fun i=>cs.getD i.toNat 0).sum) (z:=z1) (fun uA uA=>zas) hm hc hj fun uA uA=>rfl) ?_;intro z2 e2
 rw[zc9] at e2
 exact zj (fn:=c24) rfl ⟨rfl,by decide⟩ rfl ((zc (z7 rfl rfl rfl)).trans ((zc e1).trans ((zc e2).trans zmv)))
noncomputable def dueI:Nat→List (List Int×List Int)
 | 2=>[([0],[1])]
 | 3=>[([0],[1]),([0],[2]),([1],[2])]
 | 4=>[([0],[1]),([0],[2]),([0],[3]),([0,1],[2,3]),([0,2],[1,3]),([0,3],[1,2]),([1],[2]),([1],[3]),([2],[3])]
 | 5=>[([0],[1]),([0],[2]),([0],[3]),([0],[4]),([0,1],[2,3]),([0,1],[2,4]),([0,1],[3,4]),([0,2],[1,3]),([0,2],[1,4]),([0,2],[3,4]),([0,3],[1,2]),([0,3],[1,4]),([0,3],[2,4]),([0,4],[1,2]),([0,4],[1,3]),([0,4],[2,3]),([1],[2]),([1],[3]),([1],[4]),([1,2],[3,4]),([1,3],[2,4]),([1,4],[2,3]),([2],[3]),([2],[4]),([3],[4])]
 | _=>[]
noncomputable def due(m:Nat):List PyData:=(dueI m).map fun p=>wOf p.1 p.2
noncomputable def wsI(m:Nat):List (List Int×List Int):=(dueI m).flatMap fun p=>[(p.1,p.2),(p.2,p.1)]
noncomputable def panB(m:Nat)(is:List Int):Bool:=decide (is.length≤2) && is.all fun i=>decide (0≤i) && decide (i < (m:Int))
theorem zfz{m:Nat}{is:List Int}(h:panB m is=true):InR m is:=by
 unfold panB at h
 rw[aD,aO] at h
 refine⟨h.1,fun i hi=>?_⟩
 have:=aU.mp h.2 i hi
 rwa [aD,aO,aO] at this
theorem zoe{m:Nat}(hm:m4 m):((wsI m).all fun p=>panB m p.1 && panB m p.2 && (wsI m).contains (p.2,p.1))=true:=by
 rcases jf hm with rfl | rfl | rfl | rfl <;> decide +kernel
structure OkW(m:Nat)(p:List Int×List Int):Prop where
 l:InR m p.1
 r:InR m p.2
 t:(p.2,p.1)∈wsI m
theorem zfr{m:Nat}{p:List Int×List Int}(hm:m4 m)(h:p∈wsI m):OkW m p:=by
 have:=aU.mp (zoe hm) p h
 rw[aD,aD] at this
 exact⟨zfz this.1.1,zfz this.1.2,List.contains_iff_mem.mp this.2⟩
noncomputable def unC:PyData→List Int
 | .tuple xs=>xs.map toI
 | _=>[]
theorem zbk(l:List Int):(l.map PyData.int).map toI=l:=by
 rw[cO]
 exact (cP fun uA uA=>rfl).trans (List.map_id l)
theorem kf(c:List Int):unC (caseD c)=c:=zbk c
noncomputable def unW:PyData→List Int×List Int
 | .tuple [l,r]=>(unC l,unC r)
 | _=>([],[])
noncomputable abbrev R8(m:Nat)(v u:V)(a b c e:Option V):Loc:=[some (.d (.int m)),some v,some u,a,b,c,e]
theorem za0{α:Type}:∀ l:List α,l.filterMap some=l
 | []=>rfl
 | a::l=>cA (a::·) (za0 l)
theorem zkf{k m:Nat}{cs:List (List Int)}{O:za}(hm:m4 m)(f:Found m cs):zg P table (k+5) false 12 [.d (.int m),.d (.list (zb cs)),.d (.list [])] O=.ok (.d (.list (zb cs))) O:=by
 have hl:(zb cs).length≤line:=by rw[zr];exact aq f.le (by decide)
 have hc:=zbf (P:=PG (k+4) false) (ρ:=R8 m (.d (.list (zb cs))) (.d (.list [])) none none none none) (elt:=.loc 4) (tgt:=.name 4) (it:=.e (.loc 1)) (ifs:=.cons (.prim .all (.cons (.comp (.cmp .eq (.call 8 (.cons (.loc 5) (.cons (.loc 4) .nil))) (.loc 6)) (.two (.name 5) (.name 6)) (.e (.loc 2)) .nil) .nil)) .nil) (O:=O) (src:=.plain (zb cs)) rfl rfl rfl hl some fun x uA=>rfl
 rw[show (Src.plain (zb cs)).xs.filterMap some=zb cs from za0 _] at hc
 exact zj (fn:=c12) (ρ':=R8 m (.d (.list (zb cs))) (.d (.list [])) none none none none) rfl ⟨rfl,by decide⟩ rfl ((zc (q7 (zm rfl (zp4 (k:=k+1) hm f (.d _))))).trans ((zc (zy rfl)).trans (ze (z9 hc))))
theorem zrm{b₀ b₁:Box}{k:Nat}:zg P table (k+1) false 25 [.d (.int 2)] [b₀,b₁]=.ok (.d (.list (due 2))) [b₀,b₁]:=by kernel_rfl
theorem zrl{b₀ b₁:Box}{k:Nat}:zg P table (k+1) false 25 [.d (.int 3)] [b₀,b₁]=.ok (.d (.list (due 3))) [b₀,b₁]:=by kernel_rfl
theorem zrk{b₀ b₁:Box}{k:Nat}:zg P table (k+1) false 25 [.d (.int 4)] [b₀,b₁]=.ok (.d (.list (due 4))) [b₀,b₁]:=by kernel_rfl
theorem zrj{b₀ b₁:Box}{k:Nat}:zg P table (k+1) false 25 [.d (.int 5)] [b₀,b₁]=.ok (.d (.list (due 5))) [b₀,b₁]:=by kernel_rfl
theorem zp3{b₀ b₁:Box}{k m:Nat}(hm:m4 m):zg P table (k+1) false 25 [.d (.int m)] [b₀,b₁]=.ok (.d (.list (due m))) [b₀,b₁]:=by
 rcases jf hm with rfl | rfl | rfl | rfl
 ·exact zrm
 ·exact zrl
 ·exact zrk
 ·exact zrj
section
variable{k:Nat}{s:List Int}{m:Nat}{cs:List (List Int)}{n0 n:Int}{a b c d e f:Option V}{O:za}
end
structure Lay(n:Nat)(x:PyData):Prop where
 lay:x.canLay0=true
 depth:x.depth≤n
theorem lay_all{n:Nat}:∀ (xs:List PyData),(∀ x∈xs,Lay n x)→PyData.canLayAll0 xs=true∧PyData.depthAll xs≤n
 | [],_=>⟨rfl,be _⟩
 | x::xs,h=>by
   refine fb (lay_all xs fun y hy=>h y (ag _ hy)) ?_;intro h1 h2
   have hx:=h x am
   refine⟨?_,dG.mpr ⟨hx.depth,h2⟩⟩
   show (x.canLay0 && PyData.canLayAll0 xs)=true
   rw[hx.lay,h1];rfl
theorem Lay.list{n:Nat}{xs:List PyData}(h:∀ x∈xs,Lay n x):Lay (n+1) (.list xs):=⟨(lay_all xs h).1,cr (lay_all xs h).2⟩
theorem Lay.eq{n:Nat}{x:PyData}(h:Lay n x)(hn:n≤100):kb .eq x x=some true∧kb .ne x x=some false:=by
 have h3:eqOk x x=true:=by
  unfold eqOk
  rw[h.lay,aH (by rw[Nat.min_self];exact aq h.depth hn)];rfl
 refine⟨?_,?_⟩
 ·show (if eqOk x x=true then some (PyData.eqv x x) else none)=_
  rw[ah h3,PySem.SeqAt.eqv_refl x h.lay]
 ·show (if eqOk x x=true then some (!PyData.eqv x x) else none)=_
  rw[ah h3,PySem.SeqAt.eqv_refl x h.lay];rfl
theorem xl(cs:List (List Int)):∀ x∈zb cs,Lay 10 x:=fun x hx=>by
 refine eV (aC.mp hx) ?_;intro c _ dY;subst dY
 exact⟨zc2,aq (zfg c) (by decide)⟩
theorem qp{xs ys:List PyData}(h1:PyData.canLayAll0 xs=true)(h2:PyData.canLayAll0 ys=true)(h3:(PyData.list ys).depth≤100):eqOk (.list xs) (.list ys)=true:=by
 unfold eqOk
 rw[show (PyData.list xs).canLay0=true from h1,show (PyData.list ys).canLay0=true from h2,aH (aq (Nat.min_le_right _ _) h3)];rfl
theorem zgf{xs:List PyData}{O:za}(h:∀ x∈xs,Lay 10 x):cmpV .eq (.d (.list xs)) (.d (.list [])) O=.ok (.d (.bool xs.isEmpty)) O:=by
 rw[v_eq]
 show opt (Option.map _ (if eqOk (.list xs) (.list [])=true then some (PyData.eqv (.list xs) (.list [])) else none)) O=_
 rw[ah (qp (Lay.list h).lay rfl (by decide))]
 cases xs <;> rfl
theorem zb2{k:Nat}{i:Int}{O:za}:zg P table (k+1) false 23 [.d (.int i)] O=.ok (.d (.bool true)) O:=zj (fn:=c23) (ρ':=[some (.d (.int i))]) rfl ⟨rfl,by decide⟩ rfl rfl
noncomputable abbrev Cs:=List (List Int)
noncomputable abbrev Wg:=List Int×List Int
noncomputable def yy(w:Wg)(c:List Int):Int:=sgn (j5 c w.1 - j5 c w.2)
noncomputable def zf(w:Wg)(o:Int)(cs:Cs):Cs:=cs.filter fun c=>decide (yy w c=o)
theorem zae(d:Int):sgn d = -1∨sgn d=0∨sgn d=1:=by
 unfold sgn
 by_cases h:d > 0
 ·rw[ah h];exact .inr (.inr rfl)
 ·rw[ai h]
  by_cases h:d < 0
  ·rw[ah h];exact .inl rfl
  ·rw[ai h];exact .inr (.inl rfl)
theorem zcs(w:Wg):∀ cs:Cs,(zf w (-1) cs).length+(zf w 0 cs).length+(zf w 1 cs).length=cs.length
 | []=>rfl
 | c::cs=>by
   have ih:=zcs w cs
   unfold zf at ih ⊢
   rw[List.filter_cons,List.filter_cons,List.filter_cons]
   rcases zae (j5 c w.1 - j5 c w.2) with h | h | h
   ·have h:yy w c = -1:=h
    rw[h,ah (by decide),ai (by decide),ai (by decide)]
    simp only[a0];lia
   ·have h:yy w c=0:=h
    rw[h,ai (by decide),ah (by decide),ai (by decide)]
    simp only[a0];lia
   ·have h:yy w c=1:=h
    rw[h,ai (by decide),ai (by decide),ah (by decide)]
    simp only[a0];lia
noncomputable def outs:List Int:=[-1,0,1]
noncomputable def solv(ws:List Wg):Nat→Cs→Bool
 | 0,cs=>cs.length == 1
 | n+1,cs=>cs.length == 1 || (decide (cs.length≤3 ^ (n+1)) && ws.any fun w=>outs.all fun o=>(zf w o cs).isEmpty || solv ws n (zf w o cs))
variable{ws:List Wg}
theorem xt{n:Nat}{cs:Cs}(h:cs.length=1):solv ws n cs=true:=by
 cases n with
 | zero=>exact aS.mpr h
 | succ n=>unfold solv;rw[h];rfl
theorem solv_succ{n:Nat}{cs:Cs}:solv ws (n+1) cs=true↔cs.length=1∨cs.length≤3 ^ (n+1)∧∃ w∈ws,∀ o∈outs,zf w o cs=[]∨solv ws n (zf w o cs)=true:=by
 show (cs.length == 1 || (decide (cs.length≤3 ^ (n+1)) && ws.any fun w=>outs.all fun o=>(zf w o cs).isEmpty || solv ws n (zf w o cs)))=true↔_
 rw[bY,aD,aS,aO,List.any_eq_true]
 simp only[aU,bY,dI]
theorem zcl{cs:Cs}:∀ {n:Nat},solv ws n cs=true→cs.length≤3 ^ n
 | 0,h=>Nat.le_of_eq (aS.mp h)
 | n+1,h=>by
   refine eS (solv_succ.mp h) ?_ ?_
   ·intro h;rw[h];exact Nat.one_le_pow _ _ (by decide)
   ·intro h;exact h.1
theorem zac:∀ {n:Nat} {cs:Cs},solv ws n cs=true→solv ws (n+1) cs=true
 | 0,cs,h=>xt (aS.mp h)
 | n+1,cs,h=>by
   refine eS (solv_succ.mp h) ?_ ?_
   ·intro h;exact xt h
   ·rintro ⟨h1,w,hw,h⟩;refine solv_succ.mpr (.inr ⟨aq h1 (Nat.pow_le_pow_right (by decide) (cJ _)),w,hw,fun o ho=>(h o ho).imp id zac⟩)
theorem zbn{n m:Nat}{cs:Cs}(h:solv ws n cs=true)(hm:n≤m):solv ws m cs=true:=by
 refine eZ (Nat.exists_eq_add_of_le hm) ?_;intro k dX;subst dX
 induction k with
 | zero=>exact h
 | succ k ih=>exact zac (ih (dN _ _))
theorem zck:∀ {n:Nat} {cs cs':Cs},solv ws n cs=true→cs'.Sublist cs→cs'≠[]→solv ws n cs'=true
 | 0,cs,cs',h,hs,hn=>by
   have h:cs.length=1:=aS.mp h
   have:=hs.length_le
   have:0 < cs'.length:=dS.mpr hn
   exact aS.mpr (by lia)
 | n+1,cs,cs',h,hs,hn=>by
   have hp:0 < cs'.length:=dS.mpr hn
   have hl:=hs.length_le
   refine eS (solv_succ.mp h) ?_ ?_
   ·intro h;exact xt (by lia)
   ·rintro ⟨h1,w,hw,h⟩;refine solv_succ.mpr (.inr ⟨aq hl h1,w,hw,fun o ho=>?_⟩)
    by_cases he:zf w o cs'=[]
    ·exact .inl he
    ·refine eS (h o ho) ?_ ?_
     ·intro h;have:=(hs.filter fun c=>decide (yy w c=o))
      unfold zf at h he
      rw[h] at this
      exact absurd (List.sublist_nil.mp this) he
     ·intro h;exact .inr (zck h (hs.filter _) he)
theorem vv{n:Nat}{w:Wg}{cs:Cs}(hw:w∈ws)(h:∀ o∈outs,zf w o cs=[]∨solv ws n (zf w o cs)=true):solv ws (n+1) cs=true:=by
 have le:∀ o∈outs,(zf w o cs).length≤3 ^ n:=fun o ho=>by
  refine eS (h o ho) ?_ ?_
  ·intro h;rw[h];exact be _
  ·intro h;exact zcl h
 have h1:=le (-1) (by decide)
 have h2:=le 0 (by decide)
 have h3:=le 1 (by decide)
 have:=zcs w cs
 exact solv_succ.mpr (.inr ⟨by rw[Nat.pow_succ];lia,w,hw,h⟩)
noncomputable def ym(ws:List Wg)(a b:List Int):Bool:=ws.all fun w=>decide (yy w a=yy w b)
noncomputable def Pw(ws:List Wg)(cs:Cs):Prop:=cs.Pairwise fun a b=>ym ws a b=false
theorem Pw.solv{cs:Cs}:∀ {vs:List Wg},(∀ v∈vs,v∈ws)→∀ {cs:Cs},Pw vs cs→cs≠[]→solv ws vs.length cs=true
 | [],_,cs,hp,hn=>by
   cases cs with
   | nil=>exact absurd rfl hn
   | cons a l=>cases l with
     | nil=>exact xt rfl
     | cons b l=>exact absurd ((aA.mp hp).1 b (.head _)) (by intro h;exfalso;injection h)
 | w::vs,hv,cs,hp,hn=>by
   refine vv (hv w (.head _)) fun o uA=>?_
   by_cases he:zf w o cs=[]
   ·exact .inl he
   ·refine .inr (Pw.solv (cs:=cs) (fun v h=>hv v (.tail _ h)) ?_ he)
    have h1:Pw (w::vs) (zf w o cs):=hp.sublist cQ
    refine List.Pairwise.imp_of_mem (R:=fun a b=>ym (w::vs) a b=false) (fun {a b} ha hb h=>?_) h1
    have ha:yy w a=o:=bv (bL.mp ha).2
    have hb:yy w b=o:=bv (bL.mp hb).2
    unfold ym at h
    rw[List.all_cons,ha,hb,aH rfl,Bool.true_and] at h
    exact h
structure Least(ws:List Wg)(n:Nat)(cs:Cs):Prop where
 yes:solv ws n cs=true
 no:∀ k,k < n→solv ws k cs=false
theorem Least.le{n k:Nat}{cs:Cs}(h:Least ws n cs)(hk:solv ws k cs=true):n≤k:=by
 refine eS (bm k n) ?_ ?_
 ·intro hl;rw[h.no k hl] at hk;exfalso;injection hk
 ·intro hl;exact hl
theorem Least.one{n:Nat}{cs:Cs}(h:Least ws n cs)(hl:cs.length=1):n=0:=Nat.le_zero.mp (h.le (xt hl))
theorem Least.part{n k:Nat}{w:Wg}{o:Int}{cs:Cs}(h:Least ws n cs)(hk:Least ws k (zf w o cs))(he:zf w o cs≠[]):k≤n:=hk.le (zck h.yes cQ he)
theorem Least.step{n:Nat}{cs:Cs}{M:Wg→Nat}(h:Least ws n cs)(hl:cs.length≠1)(hM:∀ w∈ws,(∀ o∈outs,zf w o cs=[]∨solv ws (M w) (zf w o cs)=true)∧∀ k,(∀ o∈outs,zf w o cs=[]∨solv ws k (zf w o cs)=true)→M w≤k) :
 ∃ w∈ws,n=M w+1∧∀ v∈ws,M w≤M v:=by
 cases n with
 | zero=>exact absurd (aS.mp h.yes) hl
 | succ n=>
   refine eS (solv_succ.mp h.yes) ?_ ?_
   ·intro h';exact absurd h' hl
   ·rintro ⟨_,w,hw,h'⟩;have low:∀ v∈ws,n≤M v:=fun v hv=>Nat.le_of_succ_le_succ (h.le (vv hv (hM v hv).1))
    have e:n=M w:=cW (low w hw) ((hM w hw).2 n h')
    exact ff w hw (by rw[e]) (fun v hv=>e ▸ low v hv)
theorem zeq{ws:List Wg}:∀ (n:Nat) {cs:Cs},Pw ws cs→cs≠[]→cs.length≤n+1→solv ws n cs=true
 | n,cs,hp,hn,hl=>by
   cases cs with
   | nil=>exact absurd rfl hn
   | cons a l=>
     cases l with
     | nil=>exact xt rfl
     | cons b l=>
       cases n with
       | zero=>exact absurd hl (by simp)
       | succ n=>
         have hab:ym ws a b=false:=(aA.mp hp).1 b (.head _)
         refine eV (List.all_eq_false.mp hab) ?_;intro w hw hd
         rw [aO] at hd
         refine vv hw fun o uA=>?_
         by_cases he:zf w o (a::b::l)=[]
         ·exact .inl he
         ·refine .inr (zeq n (hp.sublist cQ) he ?_)
          have hs:(zf w o (a::b::l)).Sublist (a::b::l):=cQ
          refine eS (bm (zf w o (a::b::l)).length (a::b::l).length) ?_ ?_
          ·intro h;lia
          ·intro h;have e:=hs.eq_of_length (cW hs.length_le h)
           have ha:a∈zf w o (a::b::l):=by rw [e];exact am
           have hb:b∈zf w o (a::b::l):=by rw [e];exact ag _ am
           exact absurd ((bv (bL.mp ha).2).trans (bv (bL.mp hb).2).symm) hd
end Mine.L10
end
section
namespace Mine.L10
open PySem Mine
theorem mem_part{w:Wg}{o:Int}{cs:Cs}{c:List Int}:c∈zf w o cs↔c∈cs∧yy w c=o:=by unfold zf;rw[bL,aO]
noncomputable abbrev wD(w:Wg):PyData:=wOf w.1 w.2
noncomputable def pj(w:Wg)(o:Int)(x:PyData):Option PyData:=if decide (yy w (unC x)=o) then some x else none
theorem ku(w:Wg)(o:Int):∀ cs:Cs,(zb cs).filterMap (pj w o)=zb (zf w o cs)
 | []=>rfl
 | c::cs=>by
   show (caseD c::zb cs).filterMap (pj w o)=_
   unfold zf
   cases h:decide (yy w c=o) with
   | true=>rw[List.filterMap_cons_some (show pj w o (caseD c)=some (caseD c) by unfold pj;rw[kf,h];rfl),ku w o cs,List.filter_cons_of_pos (p:=fun c=>decide (yy w c=o)) h];rfl
   | false=>rw[List.filterMap_cons_none (show pj w o (caseD c)=none by unfold pj;rw[kf,h];rfl),ku w o cs,List.filter_cons_of_neg (p:=fun c=>decide (yy w c=o)) (by rw[h];decide)];rfl
structure Ok12(m:Nat)(cs:Cs):Prop where
 good:∀ c∈cs,good m c
 le:cs.length≤12
theorem Ok12.part{m:Nat}{cs:Cs}(h:Ok12 m cs)(w:Wg)(o:Int):Ok12 m (zf w o cs):=⟨fun c hc=>h.good c (mem_part.mp hc).1,aq (List.length_filter_le _ _) h.le⟩
theorem Ok12.line{m:Nat}{cs:Cs}(h:Ok12 m cs):(zb cs).length≤line:=by rw[zr];exact aq h.le (by decide)
theorem zb4{v:V}{k f m a b:Nat}{w:Wg}{o:Int}{cs:Cs}{wx ox:CE}{ρ:Loc}{O:za}(h:Ok12 m cs)(hf:∀ c,good m c→zg P table k false f [.d (wD w),.d (caseD c)] O=.ok (.d (.int (yy w c))) O)(ha:Nat.blt a ρ.length=true)
 (hb:ρ[b]?=some (some v)) (hv:Seen O v (zb cs)) (hw:∀ x,evE (PG k false) (ρ.set a (some (.d x))) wx O=.ok (.d (wD w)) O) (ho:∀ x,evE (PG k false) (ρ.set a (some (.d x))) ox O=.ok (.d (.int o)) O) :
 evE (PG k false) ρ (.comp (.loc a) (.name a) (.e (.loc b)) (.cons (.cmp .eq (.call f (.cons wx (.cons (.loc a) .nil))) ox) .nil)) O=.ok (.d (.list (zb (zf w o cs)))) O:=by
 have ha:a < ρ.length:=bU ha
 obtain⟨src,s1,s2,s3⟩:=hv.src
 have hI:evI (PG k false) ρ (.e (.loc b)) O=.ok src O:=by rw[x_e,j4,hb];exact s1
 have:=zbf (P:=PG k false) (ρ:=ρ) (elt:=.loc a) (tgt:=.name a) (it:=.e (.loc b)) (ifs:=.cons (.cmp .eq (.call f (.cons wx (.cons (.loc a) .nil))) ox) .nil) (O:=O) rfl hI s3 (by rw[s2];exact h.line) (pj w o) fun x hx=>by
  rw[s2] at hx
  refine eV (aC.mp hx) ?_;intro c hc dY;subst dY
  have ea:evE (PG k false) (ρ.set a (some (.d (caseD c)))) (.loc a) O=.ok (.d (caseD c)) O:=by rw[j4,bN ha];rfl
  have et:evE (PG k false) (ρ.set a (some (.d (caseD c)))) (.cmp .eq (.call f (.cons wx (.cons (.loc a) .nil))) ox) O=.ok (.d (.bool (decide (yy w c=o)))) O:=zx (zm (zl (hw _) (zl ea rfl)) (hf c (h.good c hc))) (ho _) eq_int
  unfold xr zp
  rw[ah ha]
  show R.bind (j9 (PG k false) (ρ.set a (some (.d (caseD c)))) _ O) _=_
  rw[zni,et]
  unfold pj
  rw[kf]
  cases decide (yy w c=o) with
  | true=>
    show R.bind (evE (PG k false) (ρ.set a (some (.d (caseD c)))) (.loc a) O) _=_
    rw[ea];rfl
  | false=>rfl
 rw[this,s2,ku]
theorem zp2{k f m a b:Nat}{w:Wg}{o:Int}{cs:Cs}{wx ox:CE}{ρ:Loc}{O:za}(h:Ok12 m cs)(hf:∀ c,good m c→zg P table k false f [.d (wD w),.d (caseD c)] O=.ok (.d (.int (yy w c))) O)(ha:Nat.blt a ρ.length=true)
 (hb:ρ[b]?=some (some (.d (.list (zb cs))))) (hw:∀ x,evE (PG k false) (ρ.set a (some (.d x))) wx O=.ok (.d (wD w)) O) (ho:∀ x,evE (PG k false) (ρ.set a (some (.d x))) ox O=.ok (.d (.int o)) O) :
 evE (PG k false) ρ (.comp (.loc a) (.name a) (.e (.loc b)) (.cons (.cmp .eq (.call f (.cons wx (.cons (.loc a) .nil))) ox) .nil)) O=.ok (.d (.list (zb (zf w o cs)))) O:=zb4 h hf ha hb (.d _) hw ho
theorem zfe{k m:Nat}{w:Wg}{O:za}(hm:m4 m)(hw:w∈wsI m)(c:List Int)(hc:good m c):zg P table (k+1) false 8 [.d (wD w),.d (caseD c)] O=.ok (.d (.int (yy w c))) O:=zp8 hm hc (zfr hm hw).l (zfr hm hw).r
theorem zgc{k m:Nat}{w:Wg}{O:za}(hm:m4 m)(hw:w∈wsI m)(c:List Int)(hc:good m c):zg P table (k+1) false 24 [.d (wD w),.d (caseD c)] O=.ok (.d (.int (yy w c))) O:=zmy hm hc (zfr hm hw).l (zfr hm hw).r
theorem yo{ys:List PyData}{turn:PyData→Loc→za→R (Loc×za) Fl}{x:PyData}{xs:List PyData}{ρ ρ':Loc}{O O':za}(h:turn x ρ O=.ok .next (ρ',O')):zq (.plain ys) turn (x::xs) ρ O=zq (.plain ys) turn xs ρ' O':=by
 rw[zq,h];exact ah rfl
theorem zhv{k:Nat}{f:Nat}{fn:Fn}{args:List V}{O:za}{ρ ρ':Loc}{xs:List PyData}(h:table f=some fn)(hl:args.length=fn.arity∧fn.arity≤fn.slots)(hρ:args.map some++List.replicate (fn.slots - fn.arity) none=ρ)(hk:fn.keep=false)
 (hb:evSs (PG k false) fn.body ρ O=.ok (.ret (.box O.length)) (ρ',O++[.lst xs])):zg P table (k+1) false f args O=.ok (.d (.list xs)) O:=by
 rw[jr h hl,evFn,hρ,hb]
 show vm O.length fn.keep O.length (O++[.lst xs])=_
 unfold vm
 rw[ai (cS _),hk,aF (aI _),ca]
 show R.ok (V.d (.list xs)) ((O++[Box.lst xs]).take O.length)=_
 rw[List.take_left']
 rfl
theorem zeg{O:za}{a b:Box}:(O++[a]).set O.length b=O++[b]:=by rw[List.set_append_right _ _ (aI _),ca];rfl
theorem appN{O:za}{xs:List PyData}{x:PyData}(h:xs.length < line):meth .append (.box O.length) [.d x] (O++[Box.lst xs])=.ok (.d .none) (O++[Box.lst (xs++[x])]):=by
 show (match (O++[Box.lst xs])[O.length]? with | some (.lst xs)=>_ | _=>_)=_
 rw[aF (aI _),ca]
 show (if xs.length < line then R.ok (V.d .none) ((O++[Box.lst xs]).set O.length (.lst (xs++[x]))) else _)=_
 rw[ah h,zeg]
theorem recN{O:za}{xs:List PyData}:recv .append (.box O.length) (O++[Box.lst xs])=true:=by
 show gd (O++[Box.lst xs]) O.length=true
 unfold gd
 rw[aF (aI _),ca]
 rfl
noncomputable def zri:CSs:=.cons (.expr (.meth .append (.loc 2) (.cons (.comp (.loc 4) (.name 4) (.e (.loc 1)) (.cons (.cmp .eq (.call 8 (.cons (.loc 0) (.cons (.loc 4) .nil))) (.loc 3)) .nil)) .nil))) .nil
theorem uh{k m:Nat}{w:Wg}{o:Int}{cs:Cs}{z:Option V}{xs:List PyData}{O:za}(hm:m4 m)(hw:w∈wsI m)(h:Ok12 m cs)(hx:xs.length < line) :
 yw (PG (k+1) false) (.name 3) zri (.int o) [some (.d (wD w)),some (.d (.list (zb cs))),some (.box O.length),z,none] (O++[Box.lst xs])=.ok .next ([some (.d (wD w)),some (.d (.list (zb cs))),some (.box O.length),some (.d (.int o)),none],O++[Box.lst (xs++[.list (zb (zf w o cs))])]):=by
 have ep:=zp2 (k:=k+1) (a:=4) (b:=1) (w:=w) (o:=o) (wx:=.loc 0) (ox:=.loc 3) (ρ:=[some (.d (wD w)),some (.d (.list (zb cs))),some (.box O.length),some (.d (.int o)),none]) (O:=O++[Box.lst xs]) h (zfe hm hw) rfl rfl (fun uA=>rfl) fun uA=>rfl
 exact (zc (ρ:=[some (.d (wD w)),some (.d (.list (zb cs))),some (.box O.length),some (.d (.int o)),none]) (q7 (ug rfl recN (zl ep rfl) (appN hx)))).trans rfl
noncomputable def u0(w:Wg)(cs:Cs):List PyData:=[.list (zb (zf w (-1) cs)),.list (zb (zf w 0 cs)),.list (zb (zf w 1 cs))]
theorem zke{k m:Nat}{w:Wg}{cs:Cs}{O:za}(hm:m4 m)(hw:w∈wsI m)(h:Ok12 m cs):zg P table (k+2) false 9 [.d (wD w),.d (.list (zb cs))] O=.ok (.d (.list (u0 w cs))) O:=by
 refine zhv (fn:=c9) rfl ⟨rfl,by decide⟩ rfl rfl ((zc (z7 (v:=.box O.length) (O':=O++[Box.lst []]) rfl rfl rfl)).trans ((zc (ρ':=[some (.d (wD w)),some (.d (.list (zb cs))),some (.box O.length),some (.d (.int 1)),none]) (O':=O++[Box.lst (u0 w cs)]) ?_).trans (ze (z9 rfl))))
 rw[qw,ai ak]
 exact (yo (uh hm hw h (by show 0 < 1000000;decide))).trans ((yo (uh hm hw h (by show 1 < 1000000;decide))).trans ((yo (uh hm hw h (by show 2 < 1000000;decide))).trans rfl))
theorem zkd{k n:Nat}{O:za}(hn:n≤11):zg P table (k+1) false 10 [.d (.int n)] O=.ok (.d (.int ((3 ^ n:Nat):Int))) O:=by
 have key:(List.range 12).map (fun n:Nat=>zg P table (k+1) false 10 [.d (.int n)] O)=(List.range 12).map fun n:Nat=>.ok (.d (.int ((3 ^ n:Nat):Int))) (O.take O.length):=by kernel_rfl
 rw[kj key (a7.mpr (cF hn)),bE]
theorem zry{k:Nat}{b₀ b₁:Box}:zg P table (k+4) false 7 [.d (.int (2:Nat))] [b₀,b₁]=.ok (.d (.list (due 2))) [b₀,b₁]:=by kernel_rfl
theorem zrx{k:Nat}{b₀ b₁:Box}:zg P table (k+4) false 7 [.d (.int (3:Nat))] [b₀,b₁]=.ok (.d (.list (due 3))) [b₀,b₁]:=by kernel_rfl
theorem zrw{k:Nat}{b₀ b₁:Box}:zg P table (k+4) false 7 [.d (.int (4:Nat))] [b₀,b₁]=.ok (.d (.list (due 4))) [b₀,b₁]:=by kernel_rfl
noncomputable def p5:List (List Int):=[0,1,2,3,4].foldl (fun f o=>f++f.map (·++[o])) [[]]
noncomputable def ok5(l r:List Int):Bool:=l.length == r.length && l.all (fun i=>!r.contains i) && (match l,r with
 | i::_,j::_=>decide (i < j)
 | _,_=>false)
noncomputable def acc5(a:Nat):List PyData:=(p5.take a).flatMap fun l=>(p5.filter (ok5 l)).map fun r=>wOf l r
noncomputable def st5:Nat→Loc
 | 0=>[some (.d (.int (5:Nat))),some (.d (.list (zb p5))),some (.box 2),none,none]
 | a+1=>[some (.d (.int (5:Nat))),some (.d (.list (zb p5))),some (.box 2),some (.d (caseD ((p5[a]?).getD []))),some (.d (caseD [0,1,2,3,4]))]
noncomputable def zap:CSs:=(.cons (.for_ (.name 4) (.e (.loc 1)) (.cons (.ife (.and_ (.call 5 (.cons (.loc 0) (.cons (.tup (.cons (.loc 3) (.cons (.loc 4) .nil))) .nil))) (.cmp .lt (.idx (.loc 3) (.int 0)) (.idx (.loc 4) (.int 0)))) (.cons (.expr (.meth .append (.loc 2) (.cons (.tup (.cons (.loc 3) (.cons (.loc 4) .nil))) .nil))) .nil) .nil) .nil)) .nil)
noncomputable abbrev Q5(b₀ b₁:Box)(k a:Nat):Prop:=zq (.plain (zb p5)) (yw (PG (k+3) false) (.name 3) zap) (zb ((p5.drop a).take 4)) (st5 a) [b₀,b₁,Box.lst (acc5 a)]=.ok .next (st5 (a+4),[b₀,b₁,Box.lst (acc5 (a+4))])
theorem q5_0{b₀ b₁:Box}{k:Nat}:Q5 b₀ b₁ k 0:=by kernel_rfl
theorem q5_4{b₀ b₁:Box}{k:Nat}:Q5 b₀ b₁ k 4:=by kernel_rfl
theorem q5_8{b₀ b₁:Box}{k:Nat}:Q5 b₀ b₁ k 8:=by kernel_rfl
theorem zrh{b₀ b₁:Box}{k:Nat}:Q5 b₀ b₁ k 12:=by kernel_rfl
theorem zrg{b₀ b₁:Box}{k:Nat}:Q5 b₀ b₁ k 16:=by kernel_rfl
theorem zrf{b₀ b₁:Box}{k:Nat}:Q5 b₀ b₁ k 20:=by kernel_rfl
theorem zre{b₀ b₁:Box}{k:Nat}:Q5 b₀ b₁ k 24:=by kernel_rfl
theorem zrd{b₀ b₁:Box}{k:Nat}:Q5 b₀ b₁ k 28:=by kernel_rfl
theorem xg{zs:List PyData}{turn:PyData→Loc→za→R (Loc×za) Fl}{ys:List PyData}{ρ':Loc}{O':za}:∀ {xs:List PyData} {ρ:Loc} {O:za},zq (.plain zs) turn xs ρ O=.ok .next (ρ',O')→zq (.plain zs) turn (xs++ys) ρ O=zq (.plain zs) turn ys ρ' O'
 | [],ρ,O,h=>by injection h with eQ eR;cases eQ;injection eR with eQ eR;subst eQ eR;rfl
 | x::xs,ρ,O,h=>by
   rw[List.cons_append,zq]
   rw[zq] at h
   cases ht:turn x ρ O with
   | stuck=>rw[ht] at h;exfalso;injection h
   | ok f S=>
     rw[ht] at h
     cases f with
     | ret v=>cases h
     | next=>exact xg (xs:=xs) h
theorem zpu{k:Nat}{B:CSs}{ρ:Loc}{O:za}{i j:Nat}{xs:List PyData}(h:evI (PG k false) ρ (.e (.loc i)) O=.ok (.plain xs) O):evS (PG k false) (.for_ (.name j) (.e (.loc i)) B) ρ O=zq (.plain xs) (yw (PG k false) (.name j) B) xs ρ O:=by
 rw[qw,ai ak,h];rfl
noncomputable def znt:CSs:=(.cons (.asg (.name 1) (.call 6 (.cons (.listI (.range (.int 0) (.loc 0))) .nil))) (.cons (.asg (.name 2) (.boxed (.list .nil))) (.cons (.for_ (.name 3) (.e (.loc 1)) zap) (.cons (.ret (.prim .sorted (.cons (.loc 2) .nil))) .nil))))
theorem zjc{b₀ b₁:Box}{k:Nat}{xs ys zs:List PyData}{ρ':Loc}(e1:evE (PG (k+3) false) [some (.d (.int (5:Nat))),none,none,none,none] (.call 6 (.cons (.listI (.range (.int 0) (.loc 0))) .nil)) [b₀,b₁]=.ok (.d (.list xs)) [b₀,b₁])(h:zq (.plain xs) (yw (PG (k+3) false) (.name 3) zap) xs [some (.d (.int (5:Nat))),some (.d (.list xs)),some (.box 2),none,none] [b₀,b₁,Box.lst []]=.ok .next (ρ',[b₀,b₁,Box.lst ys]))(h2:evE (PG (k+3) false) ρ' (.loc 2) [b₀,b₁,Box.lst ys]=.ok (.box 2) [b₀,b₁,Box.lst ys])(er:prim (PG (k+3) false) .sorted [.box 2] [b₀,b₁,Box.lst ys]=.ok (.d (.list zs)) [b₀,b₁,Box.lst ys]):zg P table (k+4) false 7 [.d (.int (5:Nat))] [b₀,b₁]=.ok (.d (.list zs)) [b₀,b₁]:=by
 have s1:evS (PG (k+3) false) (.asg (.name 1) (.call 6 (.cons (.listI (.range (.int 0) (.loc 0))) .nil))) [some (.d (.int (5:Nat))),none,none,none,none] [b₀,b₁]=.ok .next ([some (.d (.int (5:Nat))),some (.d (.list xs)),none,none,none],[b₀,b₁]):=z7 e1 rfl rfl
 have s2:evS (PG (k+3) false) (.asg (.name 2) (.boxed (.list .nil))) [some (.d (.int (5:Nat))),some (.d (.list xs)),none,none,none] [b₀,b₁]=.ok .next ([some (.d (.int (5:Nat))),some (.d (.list xs)),some (.box 2),none,none],[b₀,b₁,Box.lst []]):=z7 (v:=.box 2) (O':=[b₀,b₁,Box.lst []]) rfl rfl rfl
 have s3:evS (PG (k+3) false) (.for_ (.name 3) (.e (.loc 1)) zap) [some (.d (.int (5:Nat))),some (.d (.list xs)),some (.box 2),none,none] [b₀,b₁,Box.lst []]=.ok .next (ρ',[b₀,b₁,Box.lst ys]):=(zpu rfl).trans h
 have s4:evSs (PG (k+3) false) (.cons (.ret (.prim .sorted (.cons (.loc 2) .nil))) .nil) ρ' [b₀,b₁,Box.lst ys]=.ok (.ret (.d (.list zs))) (ρ',[b₀,b₁,Box.lst ys]):=ze (z9 (xa rfl h2 er))
 have eb:c7.body=znt:=by kernel_rfl
 have hb:evSs (PG (k+3) false) znt [some (.d (.int (5:Nat))),none,none,none,none] [b₀,b₁]=.ok (.ret (.d (.list zs))) (ρ',[b₀,b₁,Box.lst ys]):=(zc s1).trans ((zc s2).trans ((zc s3).trans s4))
 exact wf (fn:=c7) (O':=[Box.lst ys]) rfl ⟨rfl,by decide⟩ rfl (by rw[eb];exact hb)
theorem zrv{k:Nat}{b₀ b₁:Box}:zg P table (k+4) false 7 [.d (.int (5:Nat))] [b₀,b₁]=.ok (.d (.list (due 5))) [b₀,b₁]:=by
 have e1:evE (PG (k+3) false) [some (.d (.int (5:Nat))),none,none,none,none] (.call 6 (.cons (.listI (.range (.int 0) (.loc 0))) .nil)) [b₀,b₁]=.ok (.d (.list (zb p5))) [b₀,b₁]:=by kernel_rfl
 have h:zq (.plain (zb p5)) (yw (PG (k+3) false) (.name 3) zap) (zb p5) (st5 0) [b₀,b₁,Box.lst []]=.ok .next (st5 32,[b₀,b₁,Box.lst (acc5 32)]):=by
  show zq (.plain (zb p5)) (yw (PG (k+3) false) (.name 3) zap) (zb ((p5.drop 0).take 4)++(zb ((p5.drop 4).take 4)++(zb ((p5.drop 8).take 4)++(zb ((p5.drop 12).take 4)++(zb ((p5.drop 16).take 4)++(zb ((p5.drop 20).take 4)++(zb ((p5.drop 24).take 4)++zb ((p5.drop 28).take 4)))))))) (st5 0) [b₀,b₁,Box.lst (acc5 0)]=_
  rw[xg q5_0,xg q5_4,xg q5_8,xg zrh,xg zrg,xg zrf,xg zre,zrd]
 have er:prim (PG (k+3) false) .sorted [.box 2] [b₀,b₁,Box.lst (acc5 32)]=.ok (.d (.list (due 5))) [b₀,b₁,Box.lst (acc5 32)]:=by kernel_rfl
 exact zjc e1 h rfl er
theorem zki{b₀ b₁:Box}{k m:Nat}(hm:m4 m):zg P table (k+4) false 7 [.d (.int m)] [b₀,b₁]=.ok (.d (.list (due m))) [b₀,b₁]:=by
 rcases jf hm with rfl | rfl | rfl | rfl
 ·exact zry
 ·exact zrx
 ·exact zrw
 ·exact zrv
theorem znk(w:Wg):unW (wD w)=w:=Prod.ext (zbk w.1) (zbk w.2)
theorem zm1{k m:Nat}{a b:List Int}{O:za}(hm:m4 m)(ha:good m a)(hb:good m b):zg P table (k+2) false 13 [.d (.list (due m)),.d (caseD a),.d (caseD b)] O=.ok (.d (.bool (ym (dueI m) a b))) O:=by
 have hl:(due m).length≤line:=by rcases jf hm with rfl | rfl | rfl | rfl <;> decide
 have hc:=zbg (P:=PG (k+1) false) (ρ:=[some (.d (.list (due m))),some (.d (caseD a)),some (.d (caseD b)),none]) (elt:=.cmp .eq (.call 8 (.cons (.loc 3) (.cons (.loc 1) .nil))) (.call 8 (.cons (.loc 3) (.cons (.loc 2) .nil)))) (tgt:=.name 3) (it:=.e (.loc 0)) (O:=O) (src:=.plain (due m)) (fun x=>decide (yy (unW x) a=yy (unW x) b)) rfl rfl rfl rfl hl fun x hx=>⟨[some (.d (.list (due m))),some (.d (caseD a)),some (.d (caseD b)),some (.d x)],rfl,by
  refine eV (aC.mp hx) ?_;intro w hw dY;subst dY
  have hw':w∈wsI m:=dO.mpr ⟨w,hw,.head _⟩
  rw[znk]
  exact zx (zm rfl (zfe hm hw' a ha)) (zm rfl (zfe hm hw' b hb)) eq_int⟩
 refine zj (fn:=c13) rfl ⟨rfl,by decide⟩ rfl (ze (z9 (hc.trans ?_)))
 congr 3
 show ((dueI m).map fun p=>wOf p.1 p.2).all _=_
 unfold ym
 rw[List.all_map]
 congr 1
 funext w
 show decide (yy (unW (wD w)) a=yy (unW (wD w)) b)=_
 rw[znk]
inductive Pl where
 | no
 | told (c:List Int)
 | weigh (w:Wg) (a b c:Pl)
noncomputable abbrev sT:Str:=Str.ofString "told"
noncomputable abbrev sW:Str:=Str.ofString "weigh"
noncomputable def Pl.toD:Pl→PyData
 | .no=>.none
 | .told c=>.tuple [.str sT,caseD c]
 | .weigh w a b c=>.tuple [.str sW,wD w,.tuple [a.toD,b.toD,c.toD]]
noncomputable def Pl.fits(m:Nat):Pl→Cs→Prop
 | .no,cs=>cs=[]
 | .told c,cs=>cs=[c]
 | .weigh w a b c,cs=>w∈dueI m∧cs≠[]∧a.fits m (zf w (-1) cs)∧b.fits m (zf w 0 cs)∧c.fits m (zf w 1 cs)
noncomputable def Pl.hgt:Pl→Nat
 | .weigh _ a b c=>max a.hgt (max b.hgt c.hgt)+1
 | _=>0
inductive PlR(m n:Nat)(cs:Cs)(y:PyData):Prop
 | mk (p:Pl) (e:y=p.toD) (fit:p.fits m cs) (le:p.hgt≤n)
noncomputable def po{α:Type}(Q:α→PyData→Prop):List α→List PyData→Prop
 | [],ys=>ys=[]
 | w::ws,ys=>∃ y zs,ys=y::zs∧Q w y∧po Q ws zs
noncomputable abbrev zan:PyData:=.tuple [.str (Str.ofString "many")]
noncomputable abbrev y0(ys:List PyData):PyData:=.tuple [.str (Str.ofString "each"),.tuple ys]
noncomputable abbrev rowD(o:Int)(y:PyData):PyData:=.tuple [.int o,y]
noncomputable def Hd(m:Nat):Nat→Cs→PyData→Prop
 | 0,cs,y=>3 ^ 0 < cs.length∧y=zan
 | n+1,cs,y=>(3 ^ (n+1) < cs.length∧y=zan)∨∃ ys,y=y0 ys∧po (fun w y=>∃ o z,y=rowD o z∧o∈outs∧Hd m n (zf w o cs) z) (dueI m) ys
theorem Hd.many{m:Nat}{cs:Cs}:∀ {n:Nat},3 ^ n < cs.length→Hd m n cs zan
 | 0,h=>⟨h,rfl⟩
 | n+1,h=>.inl ⟨h,rfl⟩
noncomputable def Row(m n:Nat)(cs:Cs)(w:Wg)(y:PyData):Prop:=∃ o z,y=rowD o z∧o∈outs∧Hd m n (zf w o cs) z
theorem Hd.tup{m:Nat}{cs:Cs}{y:PyData}:∀ {n:Nat},Hd m n cs y→∃ xs,y=.tuple xs
 | 0,h=>⟨_,h.2⟩
 | n+1,h=>by
   refine eS h ?_ ?_<;>clear h
   ·intro h;exact fe _ h.2
   ·rintro ⟨ys,h,_⟩;exact fe _ h
noncomputable def Rs(m n:Nat)(cs:Cs):Bool→PyData→Prop
 | true,y=>PlR m n cs y
 | false,y=>Hd m n cs y
theorem Rs.nl{m n:Nat}{cs:Cs}{b:Bool}{y:PyData}(h:Rs m n cs b y)(l:List PyData):y≠.list l:=by
 cases b with
 | true=>obtain⟨p,rfl,_,_⟩:=h;cases p <;> exact fun h=>nomatch h
 | false=>refine eZ (Hd.tup h) ?_;intro xs dX;subst dX;exact fun h=>nomatch h
structure Mild(Bd:List PyData→Prop):Prop where
 one:∀ x,¬ Bd [x]
 nil:¬ Bd []
 more:∀ x y z l,¬ Bd (x::y::z::l)
 str:∀ s y,(∀ l,y≠.list l)→¬ Bd [.str s,y]
 int:∀ i j,¬ Bd [.int i,.int j]
 row:∀ i xs,¬ Bd [.int i,.tuple xs]
 key:∀ xs i,¬ Bd [.tuple xs,.int i]
 pans:∀ (a b:List Int),¬ Bd [.tuple (a.map .int),.tuple (b.map .int)]
 rows:∀ i xs j ys,¬ Bd [rowD i xs,rowD j ys]
set_option tactic.hygienic true in
theorem mildP:Mild badP:=by
 constructor <;> intros <;> rintro (h | ⟨_,_,h⟩) <;> cases h
 rename_i h;exact h _ rfl
section
variable{Bd:List PyData→Prop}
theorem jv{x y:PyData}(hx:Shy Bd x)(hy:Shy Bd y)(h:¬ Bd [x,y]):Shy Bd (.tuple [x,y]):=.tuple (fun z hz=>by
 refine eS (af.mp hz) ?_ ?_
 ·rintro rfl;exact hx
 ·intro hz;rw[ae.mp hz];exact hy) h
variable(M:Mild Bd)
include M
theorem wk{x y z:PyData}(hx:Shy Bd x)(hy:Shy Bd y)(hz:Shy Bd z):Shy Bd (.tuple [x,y,z]):=.tuple (fun u hu=>by
 refine eS (af.mp hu) ?_ ?_
 ·rintro rfl;exact hx
 ·intro hu;refine eS (af.mp hu) ?_ ?_
  ·rintro rfl;exact hy
  ·intro hu;rw[ae.mp hu];exact hz) (M.more _ _ _ _)
theorem x6(l:List Int):Shy Bd (.tuple (l.map .int)):=by
 refine .tuple (fun x hx=>?_) ?_
 ·refine eV (aC.mp hx) ?_;intro i _ dY;subst dY;exact .int i
 ·match l with
  | []=>exact M.nil
  | [_]=>exact M.one _
  | [i,j]=>exact M.int i j
  | _::_::_::_=>exact M.more _ _ _ _
theorem x0(cs:Cs):Shy Bd (.list (zb cs)):=.list fun x hx=>by
 refine eV (aC.mp hx) ?_;intro c _ dY;subst dY;exact x6 M c
theorem zio(w:Wg):Shy Bd (wD w):=jv (x6 M w.1) (x6 M w.2) (M.pans _ _)
theorem zls(m:Nat):Shy Bd (.list (due m)):=.list fun x hx=>by
 refine eV (aC.mp hx) ?_;intro w _ dY;subst dY;exact zio M w
theorem kh:∀ p:Pl,Shy Bd p.toD
 | .no=>.none
 | .told c=>jv (.str _) (x6 M c) (M.str _ _ fun uA h=>nomatch h)
 | .weigh w a b c=>wk M (.str _) (zio M w) (wk M (kh a) (kh b) (kh c))
theorem zco{m n:Nat}{cs:Cs}(ih:∀ {cs:Cs} {y:PyData},Hd m n cs y→Shy Bd y):∀ {ws:List Wg} {ys:List PyData},po (Row m n cs) ws ys→(∀ y∈ys,Shy Bd y)∧¬ Bd ys
 | [],ys,h=>by subst h;exact⟨fun uA h=>(nomatch h),M.nil⟩
 | w::ws,ys,h=>by
   refine fh h ?_;clear h;intro y zs dY hr h;subst dY
   refine fh hr ?_;clear hr;intro o z dY _ hz;subst dY
   obtain⟨xs,rfl⟩:=hz.tup
   refine⟨fun x hx=>?_,?_⟩
   ·refine eS (af.mp hx) ?_ ?_
    ·rintro rfl;exact jv (.int o) (ih hz) (M.row _ _)
    ·intro hx;exact (zco ih h).1 x hx
   ·match ws,zs,h with
    | [],zs,h=>have h:zs=[]:=h;subst h;exact M.one _
    | _::_,zs,h=>
      refine fh h ?_;clear h;intro _ zs' dY hr _;subst dY
      refine fh hr ?_;clear hr;intro o' z' dY _ hz';subst dY
      cases zs' with
      | nil=>exact M.rows _ _ _ _
      | cons _ _=>exact M.more _ _ _ _
theorem un{m:Nat}:∀ {n:Nat} {cs:Cs} {y:PyData},Hd m n cs y→Shy Bd y
 | 0,cs,y,h=>by rw[h.2];exact .tuple (fun x hx=>by rw[ae.mp hx];exact .str _) (M.one _)
 | n+1,cs,y,h=>by
   refine eS h ?_ ?_<;>clear h
   ·intro h;rw[h.2];exact .tuple (fun x hx=>by rw[ae.mp hx];exact .str _) (M.one _)
   ·rintro ⟨ys,rfl,h⟩;refine fb (zco M (fun h=>un h) h) ?_;intro h1 h2
    exact jv (.str _) (.tuple h1 h2) (M.str _ _ fun uA h=>nomatch h)
theorem Rs.shy{m n:Nat}{cs:Cs}{b:Bool}{y:PyData}(h:Rs m n cs b y):Shy Bd y:=by
 cases b with
 | true=>obtain⟨p,rfl,_,_⟩:=h;exact kh M p
 | false=>exact un M h
end
noncomputable def word(b:Bool):PyData:=.str (if b then Str.ofString "plan" else Str.ofString "hold")
noncomputable def resD(b:Bool)(y:PyData):PyData:=.tuple [word b,y]
theorem zix(b:Bool)(O:za):cmpV .eq (.d (word b)) (.d (.str (Str.ofString "hold"))) O=.ok (.d (.bool !b)) O:=by cases b <;> kernel_rfl
theorem zo2(b:Bool)(O:za):cmpV .eq (.d (word b)) (.d (.str (Str.ofString "plan"))) O=.ok (.d (.bool b)) O:=by cases b <;> kernel_rfl
theorem zcn(b:Bool):Shy badP (word b):=.str _
theorem zlr(q:MKey):Shy badP (w1 q):=jv (.tuple (fun x hx=>by
 refine eV (aC.mp hx) ?_;intro c _ dY;subst dY;exact x6 mildP c) fun h=>by
 refine eS h ?_ ?_<;>clear h
 ·intro h;rcases q with ⟨q,_⟩
  cases q with
  | nil=>exfalso;injection h
  | cons _ _=>injection h with h _;exfalso;injection h
 ·rintro ⟨a,l,h⟩;rcases q with ⟨q,_⟩
  cases q with
  | nil=>exfalso;injection h
  | cons _ q=>cases q with
    | nil=>injection h with _ h;exfalso;injection h
    | cons _ _=>injection h with _ h;injection h with h _;exfalso;injection h) (.int _) (mildP.key _ _)
noncomputable def allK:Cs→List MKey
 | []=>(List.range 12).map fun n:Nat=>([],(n:Int))
 | c::l=>allK l++(allK l).map fun q=>(c::q.1,q.2)
theorem zdz:∀ C:Cs,(allK C).length=12 * 2 ^ C.length
 | []=>rfl
 | c::l=>by
   show (allK l++(allK l).map _).length=_
   rw[bj,aG,zdz l,a0,Nat.pow_succ];lia
theorem zk5{s C:Cs}{n:Nat}(h:s.Sublist C)(hn:n≤11):(s,(n:Int))∈allK C:=by
 induction h with
 | slnil=>exact aC.mpr ⟨n,a7.mpr (cF hn),rfl⟩
 | cons c _ ih=>exact az _ ih
 | cons_cons c _ ih=>exact au _ (aC.mpr ⟨_,ih,rfl⟩)
theorem nodup_le{α:Type}[DecidableEq α]:∀ {l L:List α},l.Nodup→(∀ a∈l,a∈L)→l.length≤L.length
 | [],L,_,_=>be _
 | a::l,L,hn,hs=>by
   have ha:=hs a (.head _)
   have ih:=nodup_le (L:=L.erase a) (bk.mp hn).2 fun b hb=>(List.mem_erase_of_ne (fun e:b=a=>(bk.mp hn).1 (e ▸ hb))).mpr (hs b (.tail _ hb))
   rw[List.length_erase_of_mem ha] at ih
   have:=List.length_pos_of_mem ha
   rw[a0];lia
structure InC(m:Nat)(C cs:Cs):Prop extends Ok12 m cs where
 sub:cs.Sublist C
theorem InC.part{m:Nat}{C cs:Cs}(h:InC m C cs)(w:Wg)(o:Int):InC m C (zf w o cs):=⟨h.toOk12.part w o,cQ.trans h.sub⟩
structure Mem(m:Nat)(C:Cs)(kvs:List (MKey×PyData)):Prop where
 ok:∀ kv∈kvs,∃ n:Nat,kv.1.2=n∧∃ y,kv.2=resD (solv (dueI m) n kv.1.1) y∧Rs m n kv.1.1 (solv (dueI m) n kv.1.1) y
 keys:∀ kv∈kvs,kv.1∈allK C
 nodup:(kvs.map (·.1)).Nodup
 small:C.length≤12
theorem Mem.len{m:Nat}{C:Cs}{kvs:List (MKey×PyData)}(h:Mem m C kvs):kvs.length≤line:=by
 have:=nodup_le h.nodup fun q hq=>by refine eV (aC.mp hq) ?_;intro kv hkv dY;subst dY;exact h.keys kv hkv
 rw[aG,zdz] at this
 have hp:2 ^ C.length≤2 ^ 12:=Nat.pow_le_pow_right (by decide) h.small
 exact aq this (aq (Nat.mul_le_mul_left 12 hp) (by decide))
theorem Mem.find{m n:Nat}{C cs:Cs}{kvs:List (MKey×PyData)}{x:PyData}(h:Mem m C kvs)(e:zw kvs (cs,(n:Int))=some x):∃ y,x=resD (solv (dueI m) n cs) y∧Rs m n cs (solv (dueI m) n cs) y:=by
 refine eV (aE.mp e) ?_;intro kv h1 dY;subst dY
 have h2:kv.1=(cs,(n:Int)):=bv (List.find?_some (p:=fun kv:MKey×PyData=>decide (kv.1=(cs,(n:Int)))) h1)
 refine eV (h.ok kv (List.mem_of_find?_eq_some h1)) ?_;intro n' e1 dY;refine eV dY ?_;clear dY;intro y e2 hy
 rw[h2] at e1 e2 hy
 have:n'=n:=(Int.ofNat.inj e1).symm
 subst this
 exact eW y e2 hy
theorem Mem.add{m n:Nat}{C cs:Cs}{kvs:List (MKey×PyData)}{y:PyData}(h:Mem m C kvs)(hy:Rs m n cs (solv (dueI m) n cs) y)(hc:cs.Sublist C)(hn:n≤11)(hd:zw kvs (cs,(n:Int))=none):Mem m C (kvs++[((cs,(n:Int)),resD (solv (dueI m) n cs) y)]):=⟨fun kv hkv=>by
 refine eS (aj.mp hkv) ?_ ?_
 ·intro hkv;exact h.ok kv hkv
 ·intro hkv;rw[ae.mp hkv];exact⟨n,rfl,y,rfl,hy⟩,fun kv hkv=>by
 refine eS (aj.mp hkv) ?_ ?_
 ·intro hkv;exact h.keys kv hkv
 ·intro hkv;rw[ae.mp hkv];exact zk5 hc hn,by
 rw[cY]
 refine cj.mpr ⟨h.nodup,List.pairwise_singleton _ _,fun a ha b hb e=>?_⟩
 refine eV (aC.mp ha) ?_;intro kv hkv dY;subst dY
 rw[ae.mp hb] at e
 have:=List.find?_eq_none.mp (Option.map_eq_none_iff.mp hd) kv hkv
 exact this (aH e),h.small⟩
theorem zhn{kvs:List (MKey×PyData)}{q:MKey}{x:PyData}(h:zw kvs q=none):zw (kvs++[(q,x)]) q=some x:=by
 unfold zw at h ⊢
 rw[Option.map_eq_none_iff] at h
 rw[List.find?_append,h,Option.none_or]
 rw[List.find?_cons,aH rfl];rfl
theorem zdh{kvs:List (MKey×PyData)}{q q':MKey}{x:PyData}(h:q≠q'):zw (kvs++[(q,x)]) q'=zw kvs q':=by
 unfold zw
 rw[List.find?_append]
 have:List.find? (fun kv:MKey×PyData=>decide (kv.1=q')) [(q,x)]=none:=by rw[List.find?_cons,aQ h];rfl
 rw[this,Option.or_none]
structure Ok(m:Nat)(C:Cs)(d:Nat)(O:za)(kvs:List (MKey×PyData)):Prop where
 at_:O[d]?=some (.dct kvs)
 mem:Mem m C kvs
 shy:∀ b∈O,ShyB badP b
theorem set_same{O:za}{d:Nat}{b:Box}(h:O[d]?=some b):O.set d b=O:=by
 obtain⟨hlt,e⟩:=aL.mp h
 rw[← e];exact List.set_getElem_self hlt
section
variable{m d n:Nat}{C:Cs}{O:za}{kvs kvs':List (MKey×PyData)}
theorem Ok.lt(h:Ok m C d O kvs):d < O.length:=(aL.mp h.at_).1
theorem Ok.push{b:Box}(h:Ok m C d O kvs)(hb:ShyB badP b):Ok m C d (O++[b]) kvs:=⟨by rw[aJ h.lt];exact h.at_,h.mem,fun x hx=>by
 refine eS (aj.mp hx) ?_ ?_
 ·intro hx;exact h.shy x hx
 ·intro hx;rw[ae.mp hx];exact hb⟩
theorem Ok.set_push{b x:Box}(h:Ok m C d O kvs):(O++[b]).set d x=O.set d x++[b]:=List.set_append_left _ _ h.lt
theorem Mem.shy(h:Mem m C kvs):ShyB badP (.dct kvs):=fun kv hkv=>by
 refine eV (h.ok kv hkv) ?_;intro _ _ dY;refine eV dY ?_;clear dY;intro y e hy
 rw[e];exact⟨zlr _,jv (zcn _) (hy.shy mildP) (mildP.str _ _ hy.nl)⟩
theorem Ok.set(h:Ok m C d O kvs)(hm:Mem m C kvs'):Ok m C d (O.set d (.dct kvs')) kvs':=⟨bN h.lt,hm,fun x hx=>by
 refine eS (List.mem_or_eq_of_mem_set hx) ?_ ?_
 ·intro hx;exact h.shy x hx
 ·rintro rfl;exact hm.shy⟩
inductive Gives(m:Nat)(C:Cs)(n d:Nat)(O:za)(kvs:List (MKey×PyData))(b:Bool)(Q:PyData→Prop)(r:R za V):Prop
 | mk (y:PyData) (kvs':List (MKey×PyData)) (e:r=.ok (.d (resD b y)) (O.set d (.dct kvs'))) (ny:Q y) (mem:Mem m C kvs') (old:∀ q:MKey,(n:Int) < q.2→zw kvs' q=zw kvs q)
end
theorem k9{k:Nat}{f:Nat}{fn:Fn}{args:List V}{O O₁ O':za}{ρ ρ':Loc}{x:PyData}(h:table f=some fn)(hl:args.length=fn.arity∧fn.arity≤fn.slots)(hρ:args.map some++List.replicate (fn.slots - fn.arity) none=ρ)
 (hn:O₁.length=O.length) (hb:evSs (PG k false) fn.body ρ O=.ok (.ret (.d x)) (ρ',O₁++O')):zg P table (k+1) false f args O=.ok (.d x) O₁:=by
 rw[jr h hl,evFn,hρ,hb]
 show R.ok (V.d x) ((O₁++O').take O.length)=_
 rw[← hn,List.take_left']
 rfl
theorem zbh{P:Pg}{ρ ρ':Loc}{O O':za}{e:CE}{t:CT}{v:V}(hd:P.hd=false)(h:evE P ρ e O=.ok v O')(hb:zp t v ρ=some ρ'):evS P (.asg t e) ρ O=.ok .next (ρ',O'):=by
 rw[zh8,ai (by rw[hd,Bool.false_and];decide),h]
 show asgR t v (ρ,O')=_
 unfold asgR
 rw[show (ρ,O').1=ρ from rfl,hb]
noncomputable def LookS(m:Nat)(C:Cs)(n lev:Nat):Prop:=∀ (k:Nat) (cs:Cs) (O:za) (d:Nat) (kvs:List (MKey×PyData)),InC m C cs→cs≠[]→Ok m C d O kvs →
 Gives m C n d O kvs (solv (dueI m) n cs) (Rs m n cs (solv (dueI m) n cs)) (zg P table (k+lev) false 17 [.d (.list (due m)),.d (.list (zb cs)),.d (.int (n:Int)),.box d] O)
noncomputable def ShyO(a:Option V):Prop:=∀ v,a=some v→ShyV badP v
theorem qf:ShyO none:=fun uA h=>nomatch h
theorem wm{x:PyData}(h:Shy badP x):ShyO (some (.d x)):=fun v e=>by injection e with eQ;subst eQ;exact h
noncomputable abbrev RT(m n:Nat)(w:Wg)(cs:Cs)(d L:Nat)(a b c e:Option V):Loc:=[some (.d (.list (due m))),some (.d (wD w)),some (.d (.list (zb cs))),some (.d (.int ((n+1:Nat):Int))),some (.box d),some (.box L),a,b,c,e]
noncomputable def tryB:CSs:=(.cons (.ife (.cmp .eq (.loc 7) (.list .nil)) (.cons (.expr (.meth .append (.loc 5) (.cons .none .nil))) .nil) (.cons (.asg (.two (.name 8) (.name 9)) (.call 17 (.cons (.loc 0) (.cons (.loc 7) (.cons (.bin .sub (.loc 3) (.int 1)) (.cons (.loc 4) .nil)))))) (.cons (.ife (.cmp .eq (.loc 8) (.str (Str.ofString "hold"))) (.cons (.ret (.tup (.cons (.str (Str.ofString "hold")) (.cons (.tup (.cons (.loc 6) (.cons (.loc 9) .nil))) .nil)))) .nil) .nil) (.cons (.expr (.meth .append (.loc 5) (.cons (.loc 9) .nil))) .nil)))) .nil)
noncomputable def okP(m n:Nat)(w:Wg)(cs:Cs)(o:Int):Bool:=(zf w o cs).isEmpty || solv (dueI m) n (zf w o cs)
section
variable{m n lev k d:Nat}{w:Wg}{C cs:Cs}{O:za}{kvs:List (MKey×PyData)}
theorem ziq{Bd:List PyData→Prop}(h:∀ b∈O,ShyB Bd b):ShyS Bd [] O:=⟨fun uA h=>(nomatch h),h⟩
theorem wl{Bd:List PyData→Prop}{ρ:Loc}{a:Option V}(h:∀ v,a=some v→ShyV Bd v)(hr:ShyS Bd ρ O):ShyS Bd (a::ρ) O:=⟨fun v hv=>(af.mp hv).elim (fun e=>h v e.symm) (hr.loc v),hr.box⟩
theorem zbo{Bd:List PyData→Prop}{ρ:Loc}{x:PyData}(h:Shy Bd x)(hr:ShyS Bd ρ O):ShyS Bd (some (.d x)::ρ) O:=wl (fun v e=>by injection e with eQ;subst eQ;exact h) hr
theorem zir{Bd:List PyData→Prop}{ρ:Loc}{i:Nat}(hr:ShyS Bd ρ O):ShyS Bd (some (.box i)::ρ) O:=wl (fun v e=>by injection e with eQ;subst eQ;trivial) hr
theorem zq6{L:Nat}{a b c e:Option V}(ha:ShyO a)(hb:ShyO b)(hc:ShyO c)(he:ShyO e)(hO:∀ b∈O,ShyB badP b):ShyS badP (RT m n w cs d L a b c e) O:=
 zbo (zls mildP m) (zbo (zio mildP w) (zbo (x0 mildP cs) (zbo (.int _) (zir (zir (wl ha (wl hb (wl hc (wl he (ziq hO))))))))))
inductive zs3(m:Nat)(C:Cs)(n:Nat)(w:Wg)(cs:Cs)(d:Nat)(O:za)(kvs:List (MKey×PyData))(xs:List PyData)(o:Int)(r:R (Loc×za) Fl):Prop
 | next (kvs':List (MKey×PyData)) (mem:Mem m C kvs') (old:∀ q:MKey,(n:Int) < q.2→zw kvs' q=zw kvs q) (hb:okP m n w cs o=true) (x:PyData) (hx:PlR m n (zf w o cs) x) (a b c e:Option V) (ha:ShyO a) (hbb:ShyO b) (hc:ShyO c) (he:ShyO e)
    (h:r=.ok .next (RT m n w cs d O.length a b c e,O.set d (.dct kvs')++[Box.lst (xs++[x])]))
 | ret (kvs':List (MKey×PyData)) (mem:Mem m C kvs') (old:∀ q:MKey,(n:Int) < q.2→zw kvs' q=zw kvs q) (hb:okP m n w cs o=false) (y:PyData) (hy:Row m n cs w y) (ρ':Loc)
    (h:r=.ok (.ret (.d (resD false y))) (ρ',O.set d (.dct kvs')++[Box.lst xs]))
theorem zq3(L1:LookS m C n lev){o:Int}{xs:List PyData}{a b c e:Option V}(ho:o∈outs)(h:InC m C cs)(ok:Ok m C d O kvs)(hxs:∀ x∈xs,Shy badP x)(hl:xs.length < line)(ha:ShyO a)(hb:ShyO b)(hc:ShyO c)(he:ShyO e) :
 zs3 m C n w cs d O kvs xs o (xq badP (.two (.name 6) (.name 7)) (fun ρ O=>evSs (PG (k+lev) false) tryB ρ O) (.tuple [.int o,.list (zb (zf w o cs))]) (RT m n w cs d O.length a b c e) (O++[Box.lst xs])):=by
 have ok1:Ok m C d (O++[Box.lst xs]) kvs:=ok.push hxs
 have hp:=h.part w o
 have e0:xq badP (.two (.name 6) (.name 7)) (fun ρ O=>evSs (PG (k+lev) false) tryB ρ O) (.tuple [.int o,.list (zb (zf w o cs))]) (RT m n w cs d O.length a b c e) (O++[Box.lst xs])=evSs (PG (k+lev) false) tryB (RT m n w cs d O.length (some (.d (.int o))) (some (.d (.list (zb (zf w o cs))))) c e) (O++[Box.lst xs]):=by
  unfold xq
  rw[ah (zq6 ha hb hc he ok1.shy)]
  rfl
 rw[e0]
 have et:evE (PG (k+lev) false) (RT m n w cs d O.length (some (.d (.int o))) (some (.d (.list (zb (zf w o cs))))) c e) (.cmp .eq (.loc 7) (.list .nil)) (O++[Box.lst xs])=.ok (.d (.bool (zf w o cs).isEmpty)) (O++[Box.lst xs]):=by
  refine zx rfl rfl ((zgf (xl _)).trans ?_)
  congr 3
  unfold zb;rw[List.isEmpty_map]
 cases hem:(zf w o cs).isEmpty with
 | true=>
   rw[hem] at et
   refine .next kvs ok.mem (fun uA uA=>rfl) (by unfold okP;rw[hem];rfl) .none ⟨.no,rfl,dI.mp hem,be _⟩ _ _ c e (wm (.int o)) (wm (x0 mildP (zf w o cs))) hc he ?_
   rw[set_same ok.at_]
   exact (zc ((w_if et).trans ((ah rfl).trans ((zc (q7 (ug rfl recN (zl rfl rfl) (appN hl)))).trans rfl)))).trans rfl
 | false=>
   rw[hem] at et
   have hne:zf w o cs≠[]:=fun e=>by rw[e] at hem;exfalso;injection hem
   obtain⟨y,kvs',e1,ny,mem,old⟩:=L1 k (zf w o cs) _ d kvs hp hne ok1
   have hnum:((n+1:Nat):Int) - 1=(n:Int):=by lia
   have es:evS (PG (k+lev) false) (.asg (.two (.name 8) (.name 9)) (.call 17 (.cons (.loc 0) (.cons (.loc 7) (.cons (.bin .sub (.loc 3) (.int 1)) (.cons (.loc 4) .nil)))))) (RT m n w cs d O.length (some (.d (.int o))) (some (.d (.list (zb (zf w o cs))))) c e) (O++[Box.lst xs]) =
    .ok .next (RT m n w cs d O.length (some (.d (.int o))) (some (.d (.list (zb (zf w o cs))))) (some (.d (word (solv (dueI m) n (zf w o cs))))) (some (.d y)),O.set d (.dct kvs')++[Box.lst xs]):=by
    refine zbh rfl (zm (zl rfl (zl rfl (zl (xk rfl rfl zas) (zl rfl rfl)))) ?_) (v:=.d (resD (solv (dueI m) n (zf w o cs)) y)) rfl
    rw[hnum,← ok.set_push]
    exact e1
   have eq:=zix (solv (dueI m) n (zf w o cs)) (O.set d (.dct kvs')++[Box.lst xs])
   have hlen:(O.set d (.dct kvs')).length=O.length:=bc
   cases hb':solv (dueI m) n (zf w o cs) with
   | true=>
     rw[hb'] at eq es ny
     refine .next kvs' mem old (by unfold okP;rw[hb',Bool.or_true]) y ny _ _ _ _ (wm (.int o)) (wm (x0 mildP (zf w o cs))) (wm (zcn true)) (wm (Rs.shy mildP ny)) ?_
     have er:recv .append (.box O.length) (O.set d (.dct kvs')++[Box.lst xs])=true:=by rw[← hlen];exact recN
     have ea:meth .append (.box O.length) [.d y] (O.set d (.dct kvs')++[Box.lst xs])=.ok (.d .none) (O.set d (.dct kvs')++[Box.lst (xs++[y])]):=by rw[← hlen];exact appN hl
     exact (zc ((w_if et).trans ((ai ak).trans ((zc es).trans ((zc (zy (zx rfl rfl eq))).trans ((zc (q7 (ug rfl er (zl rfl rfl) ea))).trans rfl)))))).trans rfl
   | false=>
     rw[hb'] at eq es ny
     refine .ret kvs' mem old (by unfold okP;rw[hb',hem];rfl) (.tuple [.int o,y]) ⟨o,y,rfl,ho,ny⟩ (RT m n w cs d O.length (some (.d (.int o))) (some (.d (.list (zb (zf w o cs))))) (some (.d (word false))) (some (.d y))) ?_
     exact ze ((w_if et).trans ((ai ak).trans ((zc es).trans (ze ((w_if (zx rfl rfl eq)).trans ((ah rfl).trans (ze (z9 rfl))))))))
inductive TryR(m:Nat)(C:Cs)(n:Nat)(w:Wg)(cs:Cs)(d:Nat)(O:za)(kvs:List (MKey×PyData))(xs:List PyData)(os:List Int)(r:R (Loc×za) Fl):Prop
 | next (kvs':List (MKey×PyData)) (mem:Mem m C kvs') (old:∀ q:MKey,(n:Int) < q.2→zw kvs' q=zw kvs q) (hb:os.all (okP m n w cs)=true) (ys:List PyData) (hy:po (fun o=>PlR m n (zf w o cs)) os ys) (a b c e:Option V)
    (h:r=.ok .next (RT m n w cs d O.length a b c e,O.set d (.dct kvs')++[Box.lst (xs++ys)]))
 | ret (kvs':List (MKey×PyData)) (mem:Mem m C kvs') (old:∀ q:MKey,(n:Int) < q.2→zw kvs' q=zw kvs q) (hb:os.all (okP m n w cs)=false) (y:PyData) (hy:Row m n cs w y) (ρ':Loc) (xs':List PyData)
    (h:r=.ok (.ret (.d (resD false y))) (ρ',O.set d (.dct kvs')++[Box.lst xs']))
theorem ub{ys:List PyData}{turn:PyData→Loc→za→R (Loc×za) Fl}{x:PyData}{xs:List PyData}{ρ:Loc}{O:za}{v:V}{S:Loc×za}(h:turn x ρ O=.ok (.ret v) S):zq (.plain ys) turn (x::xs) ρ O=.ok (.ret v) S:=by
 rw[zq,h]
theorem znu(L1:LookS m C n lev)(h:InC m C cs){zs:List PyData}:∀ (os:List Int) (O:za) (kvs:List (MKey×PyData)) (xs:List PyData) (a b c e:Option V),(∀ o∈os,o∈outs)→Ok m C d O kvs→(∀ x∈xs,Shy badP x)→xs.length+os.length < line→ShyO a→ShyO b→ShyO c→ShyO e →
 TryR m C n w cs d O kvs xs os (zq (.plain zs) (xq badP (.two (.name 6) (.name 7)) (fun ρ O=>evSs (PG (k+lev) false) tryB ρ O)) (os.map fun o=>.tuple [.int o,.list (zb (zf w o cs))]) (RT m n w cs d O.length a b c e) (O++[Box.lst xs]))
 | [],O,kvs,xs,a,b,c,e,_,ok,_,_,_,_,_,_=>.next kvs ok.mem (fun uA uA=>rfl) rfl [] rfl a b c e (by rw[ba,set_same ok.at_];rfl)
 | o::os,O,kvs,xs,a,b,c,e,ho,ok,hxs,hl,ha,hb,hc,he=>by
   rw[a0] at hl
   rcases zq3 (k:=k) (w:=w) (o:=o) L1 (ho o (.head _)) h ok hxs (by lia) ha hb hc he with ⟨kvs₁,mem₁,old₁,hb₁,x,hx,a',b',c',e',ha',hb',hc',he',h₁⟩ | ⟨kvs₁,mem₁,old₁,hb₁,y,hy,ρ',h₁⟩
   ·have ok₁:=ok.set mem₁
    have hlen:(O.set d (.dct kvs₁)).length=O.length:=bc
    have ih:=znu (zs:=zs) L1 h os (O.set d (.dct kvs₁)) kvs₁ (xs++[x]) a' b' c' e' (fun z hz=>ho z (.tail _ hz)) ok₁ (fun z hz=>by
     refine eS (aj.mp hz) ?_ ?_
     ·intro hz;exact hxs z hz
     ·intro hz;rw[ae.mp hz];obtain⟨p,e,_,_⟩:=hx;rw[e];exact kh mildP p) (by rw[bj,bV];lia) ha' hb' hc' he'
    rw[hlen] at ih
    rw[a9,yo h₁]
    rcases ih with ⟨kvs',mem,old,hb₂,ys,hy,a₂,b₂,c₂,e₂,h₂⟩ | ⟨kvs',mem,old,hb₂,y,hy,ρ',xs',h₂⟩
    ·refine .next kvs' mem (fun q hq=>(old q hq).trans (old₁ q hq)) (by rw[List.all_cons,hb₁,hb₂];rfl) (x::ys) ⟨x,ys,rfl,hx,hy⟩ a₂ b₂ c₂ e₂ ?_
     rw[h₂,hlen,List.set_set,bf];rfl
    ·refine .ret kvs' mem (fun q hq=>(old q hq).trans (old₁ q hq)) (by rw[List.all_cons,hb₁,hb₂];rfl) y hy ρ' xs' ?_
     rw[h₂,List.set_set]
   ·refine .ret kvs₁ mem₁ old₁ (by rw[List.all_cons,hb₁];rfl) y hy ρ' xs ?_
    rw[a9,ub h₁]
theorem zoc{Bd:List PyData→Prop}{q1 q2:SqK}{P:Pg}{ρ:Loc}{O O₁ O₂:za}{t:CT}{a b:CE}{c:CSs}{xs ys:List PyData}(hd:P.hd=false)(h1:evE P ρ a O=.ok (.d (q1.mk xs)) O₁)(h2:evE P ρ b O₁=.ok (.d (q2.mk ys)) O₂)(ok:ZOk Bd q1 q2 xs ys):evS P (.forG Bd q1 q2 t a b c) ρ O=zq (.plain (zipT xs ys)) (xq Bd t fun ρ O=>evSs P c ρ O) (zipT xs ys) ρ O₂:=by
 show (if P.hd=true then .stuck else (((evE P ρ a O).bind fun v O=>(evE P ρ b O).bind fun u O=>.ok (v,u) O).lift ρ).bind (zgb Bd q1 q2 t fun ρ O=>evSs P c ρ O))=_
 rw[ai (by rw[hd];exact ak),h1,yb,h2]
 show zj3 Bd q1 q2 t (fun ρ O=>evSs P c ρ O) (sqOf q1 (q1.mk xs)) (sqOf q2 (q2.mk ys)) (ρ,O₂)=_
 have e1:∀ {q:SqK} {xs:List PyData},sqOf q (q.mk xs)=some xs:=fun {q xs}=>by cases q <;> rfl
 rw[e1,e1]
 exact ah ok
theorem gr{P:Pg}{ρ:Loc}{a b:CE}{x y:PyData}{O O' O'':za}(h1:evE P ρ a O=.ok (.d x) O')(h2:evE P ρ b O'=.ok (.d y) O''):evE P ρ (.tup (.cons a (.cons b .nil))) O=.ok (.d (.tuple [x,y])) O'':=by
 rw[zh4,zl h1 (zl h2 rfl)];rfl
theorem zpz{P:Pg}{ρ:Loc}{a b c:CE}{x y z:PyData}{O O' O'' O₃:za}(h1:evE P ρ a O=.ok (.d x) O')(h2:evE P ρ b O'=.ok (.d y) O'')(h3:evE P ρ c O''=.ok (.d z) O₃):evE P ρ (.tup (.cons a (.cons b (.cons c .nil)))) O=.ok (.d (.tuple [x,y,z])) O₃:=by
 rw[zh4,zl h1 (zl h2 (zl h3 rfl))];rfl
theorem zie{k:Nat}{O:za}{xs:List PyData}(hl:xs.length≤line):prim (PG k false) .tuple [.box O.length] (O++[Box.lst xs])=.ok (.d (.tuple xs)) (O++[Box.lst xs]):=by
 refine wp (x:=.list xs) ?_ (ah hl)
 show j7 (O++[Box.lst xs]) O.length=_
 unfold j7
 rw[aF (aI _),ca];rfl
theorem zg3{Bd:List PyData→Prop}(M:Mild Bd){w:Wg}{cs:Cs}:Shy Bd (.list (u0 w cs)):=.list fun x hx=>by
 refine eS (af.mp hx) ?_ ?_;rotate_left;intro hx;rotate_right;rintro rfl
 ·exact x0 M _
 refine eS (af.mp hx) ?_ ?_
 ·rintro rfl;exact x0 M _
 ·intro hx;rw[ae.mp hx];exact x0 M _
theorem zg2{w:Wg}{cs:Cs}{i:Nat}{x:PyData}(h:(u0 w cs)[i]?=some x):∃ cs,x=.list (zb cs):=by
 have hx:=aw h
 refine eS (af.mp hx) ?_ ?_;rotate_left;intro hx;rotate_right;rintro rfl
 ·exact fe _ rfl
 refine eS (af.mp hx) ?_ ?_
 ·rintro rfl;exact fe _ rfl
 ·intro hx;exact fe _ (ae.mp hx)
noncomputable def TQ(m n:Nat)(w:Wg)(cs:Cs):Bool→PyData→Prop
 | true,y=>PlR m (n+1) cs y
 | false,y=>Row m n cs w y
theorem zmu(L1:LookS m C n lev)(hm:m4 m)(hw:w∈dueI m)(h:InC m C cs)(hne:cs≠[])(hlev:2≤lev)(ok:Ok m C d O kvs) :
 Gives m C n d O kvs (outs.all (okP m n w cs)) (TQ m n w cs (outs.all (okP m n w cs))) (zg P table (k+lev+1) false 15 [.d (.list (due m)),.d (wD w),.d (.list (zb cs)),.d (.int ((n+1:Nat):Int)),.box d] O):=by
 refine eZ (Nat.exists_eq_add_of_le' hlev) ?_;intro l' dX;subst dX
 have hw':w∈wsI m:=dO.mpr ⟨w,hw,.head _⟩
 have hz:ZOk badP .tup .lst [.int (-1),.int 0,.int 1] (u0 w cs):=⟨rfl,wk mildP (.int (-1)) (.int 0) (.int 1),zg3 mildP,.inl rfl,fun i x y uA hy=>by
  refine eZ (zg2 hy) ?_;intro c dX;subst dX;exact .inr ⟨_,_,rfl⟩⟩
 have lp:=znu (k:=k) (d:=d) (w:=w) (zs:=outs.map fun o=>.tuple [.int o,.list (zb (zf w o cs))]) L1 h outs O kvs [] none none none none (fun uA h=>h) ok (fun uA h=>nomatch h) (by show 3 < 1000000;decide) qf qf qf qf
 have ef:evS (PG (k+(l' + 2)) false) (.forG badP .tup .lst (.two (.name 6) (.name 7)) (.glob 3) (.call 9 (.cons (.loc 1) (.cons (.loc 2) .nil))) tryB) (RT m n w cs d O.length none none none none) (O++[Box.lst []])=zq (.plain (outs.map fun o=>.tuple [.int o,.list (zb (zf w o cs))])) (xq badP (.two (.name 6) (.name 7)) (fun ρ O=>evSs (PG (k+(l' + 2)) false) tryB ρ O)) (outs.map fun o=>.tuple [.int o,.list (zb (zf w o cs))]) (RT m n w cs d O.length none none none none) (O++[Box.lst []]):=
  zoc (q1:=.tup) (q2:=.lst) rfl rfl (zm rfl (zke (k:=k+l') hm hw' h.toOk12)) hz
 have hlen:∀ kvs',(O.set d (.dct kvs')).length=O.length:=fun uA=>bc
 rcases lp with ⟨kvs',mem,old,hb,ys,hy,a,b,c,e,h₁⟩ | ⟨kvs',mem,old,hb,y,hy,ρ',xs',h₁⟩
 ·rw[hb]
  refine fh hy ?_;clear hy;intro y1 ys dY dZ hy;subst dY;obtain ⟨p1,rfl,f1,l1⟩:=dZ
  refine fh hy ?_;clear hy;intro y2 ys dY dZ hy;subst dY;obtain ⟨p2,rfl,f2,l2⟩:=dZ
  refine fh hy ?_;clear hy;intro y3 ys dY dZ hy;subst dY;obtain ⟨p3,rfl,f3,l3⟩:=dZ
  have hy:ys=[]:=hy
  subst hy
  refine⟨(Pl.weigh w p1 p2 p3).toD,kvs',?_,⟨.weigh w p1 p2 p3,rfl,⟨hw,hne,f1,f2,f3⟩,cr (dG.mpr ⟨l1,dG.mpr ⟨l2,l3⟩⟩)⟩,mem,old⟩
  refine k9 (fn:=c15) (O':=[Box.lst ([]++[p1.toD,p2.toD,p3.toD])]) rfl ⟨rfl,by decide⟩ rfl (hlen kvs') ((zc (z7 (v:=.box O.length) (O':=O++[Box.lst []]) rfl rfl rfl)).trans ((zc (ef.trans h₁)).trans (ze (z9 ?_))))
  have et:evE (PG (k+(l' + 2)) false) (RT m n w cs d O.length a b c e) (.prim .tuple (.cons (.loc 5) .nil)) (O.set d (.dct kvs')++[Box.lst ([]++[p1.toD,p2.toD,p3.toD])])=.ok (.d (.tuple [p1.toD,p2.toD,p3.toD])) (O.set d (.dct kvs')++[Box.lst ([]++[p1.toD,p2.toD,p3.toD])]):=xa rfl rfl (by rw[← hlen kvs'];exact zie (by show 3≤1000000;decide))
  exact gr rfl (zpz rfl rfl et)
 ·rw[hb]
  exact⟨y,kvs',k9 (fn:=c15) rfl ⟨rfl,by decide⟩ rfl (hlen kvs') ((zc (z7 (v:=.box O.length) (O':=O++[Box.lst []]) rfl rfl rfl)).trans (ze (ef.trans h₁))),hy,mem,old⟩
end
noncomputable abbrev RE(m n:Nat)(cs:Cs)(d L:Nat)(a b c:Option V):Loc:=[some (.d (.list (due m))),some (.d (.list (zb cs))),some (.d (.int ((n+1:Nat):Int))),some (.box d),some (.box L),a,b,c]
noncomputable def zgg:CSs:=(.cons (.asg (.two (.name 6) (.name 7)) (.call 15 (.cons (.loc 0) (.cons (.loc 5) (.cons (.loc 1) (.cons (.loc 2) (.cons (.loc 3) .nil))))))) (.cons (.ife (.cmp .eq (.loc 6) (.str (Str.ofString "plan"))) (.cons (.ret (.tup (.cons (.str (Str.ofString "plan")) (.cons (.loc 7) .nil)))) .nil) .nil) (.cons (.expr (.meth .append (.loc 4) (.cons (.loc 7) .nil))) .nil)))
noncomputable def trB(m n:Nat)(cs:Cs)(w:Wg):Bool:=outs.all (okP m n w cs)
section
variable{m n lev k d:Nat}{C cs:Cs}{O:za}{kvs:List (MKey×PyData)}
inductive zs5(m:Nat)(C:Cs)(n:Nat)(w:Wg)(cs:Cs)(d:Nat)(O:za)(kvs:List (MKey×PyData))(xs:List PyData)(r:R (Loc×za) Fl):Prop
 | next (kvs':List (MKey×PyData)) (mem:Mem m C kvs') (old:∀ q:MKey,(n:Int) < q.2→zw kvs' q=zw kvs q) (hb:trB m n cs w=false) (y:PyData) (hy:Row m n cs w y) (a b c:Option V)
    (h:r=.ok .next (RE m n cs d O.length a b c,O.set d (.dct kvs')++[Box.lst (xs++[y])]))
 | ret (kvs':List (MKey×PyData)) (mem:Mem m C kvs') (old:∀ q:MKey,(n:Int) < q.2→zw kvs' q=zw kvs q) (hb:trB m n cs w=true) (y:PyData) (hy:PlR m (n+1) cs y) (ρ':Loc)
    (h:r=.ok (.ret (.d (resD true y))) (ρ',O.set d (.dct kvs')++[Box.lst xs]))
theorem zoo(L1:LookS m C n lev)(hm:m4 m){w:Wg}(hw:w∈dueI m)(h:InC m C cs)(hne:cs≠[])(hlev:2≤lev){xs:List PyData}{a b c:Option V}(ok:Ok m C d O kvs)(hxs:∀ x∈xs,Shy badP x)(hl:xs.length < line) :
 zs5 m C n w cs d O kvs xs (yw (PG (k+lev+1) false) (.name 5) zgg (wD w) (RE m n cs d O.length a b c) (O++[Box.lst xs])):=by
 have ok1:Ok m C d (O++[Box.lst xs]) kvs:=ok.push hxs
 obtain⟨y,kvs',e1,ny,mem,old⟩:=zmu (k:=k) L1 hm hw h hne hlev ok1
 have es:evS (PG (k+lev+1) false) (.asg (.two (.name 6) (.name 7)) (.call 15 (.cons (.loc 0) (.cons (.loc 5) (.cons (.loc 1) (.cons (.loc 2) (.cons (.loc 3) .nil))))))) (RE m n cs d O.length (some (.d (wD w))) b c) (O++[Box.lst xs])=.ok .next (RE m n cs d O.length (some (.d (wD w))) (some (.d (word (trB m n cs w)))) (some (.d y)),O.set d (.dct kvs')++[Box.lst xs]):=by
  refine zbh rfl (zm (zl rfl (zl rfl (zl rfl (zl rfl (zl rfl rfl))))) ?_) (v:=.d (resD (trB m n cs w) y)) rfl
  rw[← ok.set_push]
  exact e1
 have eq:=zo2 (trB m n cs w) (O.set d (.dct kvs')++[Box.lst xs])
 have hlen:(O.set d (.dct kvs')).length=O.length:=bc
 have ny:TQ m n w cs (trB m n cs w) y:=ny
 cases hb:trB m n cs w with
 | true=>
   rw[hb] at es eq ny
   refine .ret kvs' mem old hb y ny (RE m n cs d O.length (some (.d (wD w))) (some (.d (word true))) (some (.d y))) ?_
   exact (zc es).trans (ze ((w_if (zx rfl rfl eq)).trans ((ah rfl).trans (ze (z9 rfl)))))
 | false=>
   rw[hb] at es eq ny
   have er:recv .append (.box O.length) (O.set d (.dct kvs')++[Box.lst xs])=true:=by rw[← hlen];exact recN
   have ea:meth .append (.box O.length) [.d y] (O.set d (.dct kvs')++[Box.lst xs])=.ok (.d .none) (O.set d (.dct kvs')++[Box.lst (xs++[y])]):=by rw[← hlen];exact appN hl
   refine .next kvs' mem old hb y ny (some (.d (wD w))) (some (.d (word false))) (some (.d y)) ?_
   exact (zc es).trans ((zc (zy (zx rfl rfl eq))).trans ((zc (q7 (ug rfl er (zl rfl rfl) ea))).trans rfl))
inductive EachL(m:Nat)(C:Cs)(n:Nat)(cs:Cs)(d:Nat)(O:za)(kvs:List (MKey×PyData))(xs:List PyData)(ws:List Wg)(r:R (Loc×za) Fl):Prop
 | next (kvs':List (MKey×PyData)) (mem:Mem m C kvs') (old:∀ q:MKey,(n:Int) < q.2→zw kvs' q=zw kvs q) (hb:ws.any (trB m n cs)=false) (ys:List PyData) (hl:ys.length=ws.length) (hy:po (Row m n cs) ws ys) (a b c:Option V)
    (h:r=.ok .next (RE m n cs d O.length a b c,O.set d (.dct kvs')++[Box.lst (xs++ys)]))
 | ret (kvs':List (MKey×PyData)) (mem:Mem m C kvs') (old:∀ q:MKey,(n:Int) < q.2→zw kvs' q=zw kvs q) (hb:ws.any (trB m n cs)=true) (y:PyData) (hy:PlR m (n+1) cs y) (ρ':Loc) (xs':List PyData)
    (h:r=.ok (.ret (.d (resD true y))) (ρ',O.set d (.dct kvs')++[Box.lst xs']))
theorem zji(L1:LookS m C n lev)(hm:m4 m)(h:InC m C cs)(hne:cs≠[])(hlev:2≤lev){zs:List PyData}:∀ (ws:List Wg) (O:za) (kvs:List (MKey×PyData)) (xs:List PyData) (a b c:Option V),(∀ w∈ws,w∈dueI m)→Ok m C d O kvs→(∀ x∈xs,Shy badP x)→xs.length+ws.length < line →
 EachL m C n cs d O kvs xs ws (zq (.plain zs) (yw (PG (k+lev+1) false) (.name 5) zgg) (ws.map fun p=>wOf p.1 p.2) (RE m n cs d O.length a b c) (O++[Box.lst xs]))
 | [],O,kvs,xs,a,b,c,_,ok,_,_=>.next kvs ok.mem (fun uA uA=>rfl) rfl [] rfl rfl a b c (by rw[ba,set_same ok.at_];rfl)
 | w::ws,O,kvs,xs,a,b,c,hw,ok,hxs,hl=>by
   rw[a0] at hl
   rcases zoo (k:=k) (a:=a) (b:=b) (c:=c) L1 hm (hw w (.head _)) h hne hlev ok hxs (by lia) with ⟨kvs₁,mem₁,old₁,hb₁,y,hy₁,a',b',c',h₁⟩ | ⟨kvs₁,mem₁,old₁,hb₁,y,hy,ρ',h₁⟩
   ·have ok₁:=ok.set mem₁
    have hlen:(O.set d (.dct kvs₁)).length=O.length:=bc
    have ih:=zji (zs:=zs) L1 hm h hne hlev ws (O.set d (.dct kvs₁)) kvs₁ (xs++[y]) a' b' c' (fun v hv=>hw v (.tail _ hv)) ok₁ (fun z hz=>by
     refine eS (aj.mp hz) ?_ ?_
     ·intro hz;exact hxs z hz
     ·intro hz;rw[ae.mp hz];refine fh hy₁ ?_;clear hy₁;intro o z e _ hz;obtain⟨xs,e2⟩:=hz.tup;rw[e];exact jv (.int o) (un mildP hz) (by rw[e2];exact mildP.row _ _)) (by rw[bj,bV];lia)
    rw[hlen] at ih
    rw[a9,yo h₁]
    rcases ih with ⟨kvs',mem,old,hb₂,ys,hl',hy,a₂,b₂,c₂,h₂⟩ | ⟨kvs',mem,old,hb₂,y',hy,ρ',xs',h₂⟩
    ·refine .next kvs' mem (fun q hq=>(old q hq).trans (old₁ q hq)) (by rw[List.any_cons,hb₁,hb₂];rfl) (y::ys) (by rw[a0,a0,hl']) ⟨y,ys,rfl,hy₁,hy⟩ a₂ b₂ c₂ ?_
     rw[h₂,hlen,List.set_set,bf];rfl
    ·refine .ret kvs' mem (fun q hq=>(old q hq).trans (old₁ q hq)) (by rw[List.any_cons,hb₁,hb₂];rfl) y' hy ρ' xs' ?_
     rw[h₂,List.set_set]
   ·refine .ret kvs₁ mem₁ old₁ (by rw[List.any_cons,hb₁];rfl) y hy ρ' xs ?_
    rw[a9,ub h₁]
theorem zp7(L1:LookS m C n lev)(hm:m4 m)(hw3:(dueI m).length≤25)(h:InC m C cs)(hne:cs≠[])(hlev:2≤lev)(ok:Ok m C d O kvs) :
 Gives m C n d O kvs ((dueI m).any (trB m n cs)) (Rs m (n+1) cs ((dueI m).any (trB m n cs))) (zg P table (k+lev+2) false 16 [.d (.list (due m)),.d (.list (zb cs)),.d (.int ((n+1:Nat):Int)),.box d] O):=by
 have lp:=zji (k:=k) (d:=d) (zs:=due m) L1 hm h hne hlev (dueI m) O kvs [] none none none (fun uA h=>h) ok (fun uA h=>nomatch h) (bS (by rw[List.length_nil,Nat.zero_add];exact hw3) (by show 25 < 1000000;decide))
 have ef:evS (PG (k+lev+1) false) (.for_ (.name 5) (.e (.loc 0)) zgg) (RE m n cs d O.length none none none) (O++[Box.lst []])=zq (.plain (due m)) (yw (PG (k+lev+1) false) (.name 5) zgg) ((dueI m).map fun p=>wOf p.1 p.2) (RE m n cs d O.length none none none) (O++[Box.lst []]):=by
  rw[qw,ai ak]
  rfl
 have hlen:∀ kvs',(O.set d (.dct kvs')).length=O.length:=fun uA=>bc
 rcases lp with ⟨kvs',mem,old,hb,ys,hl,hy,a,b,c,h₁⟩ | ⟨kvs',mem,old,hb,y,hy,ρ',xs',h₁⟩
 ·rw[hb]
  refine ⟨.tuple [.str (Str.ofString "each"),.tuple ys],kvs',?_,.inr ⟨ys,rfl,hy⟩,mem,old⟩
  have et:evE (PG (k+lev+1) false) (RE m n cs d O.length a b c) (.prim .tuple (.cons (.loc 4) .nil)) (O.set d (.dct kvs')++[Box.lst ([]++ys)])=.ok (.d (.tuple ys)) (O.set d (.dct kvs')++[Box.lst ([]++ys)]):=xa rfl rfl (by rw[← hlen kvs'];exact zie (by show ys.length≤_;rw[hl];exact aq hw3 (by decide)))
  exact k9 (fn:=c16) (O':=[Box.lst ([]++ys)]) rfl ⟨rfl,by decide⟩ rfl (hlen kvs') ((zc (z7 (v:=.box O.length) (O':=O++[Box.lst []]) rfl rfl rfl)).trans ((zc (ef.trans h₁)).trans (ze (z9 (gr rfl (gr rfl et))))))
 ·rw[hb]
  exact⟨y,kvs',k9 (fn:=c16) rfl ⟨rfl,by decide⟩ rfl (hlen kvs') ((zc (z7 (v:=.box O.length) (O':=O++[Box.lst []]) rfl rfl rfl)).trans (ze (ef.trans h₁))),hy,mem,old⟩
end
noncomputable abbrev RL(m n:Nat)(cs:Cs)(d:Nat)(a:Option V):Loc:=[some (.d (.list (due m))),some (.d (.list (zb cs))),some (.d (.int (n:Int))),some (.box d),a]
noncomputable def keyD(n:Nat)(cs:Cs):PyData:=.tuple [.tuple (zb cs),.int (n:Int)]
section
variable{m n lev k d:Nat}{C cs:Cs}{O:za}{kvs:List (MKey×PyData)}
theorem p9(h:O[d]?=some (.dct kvs)):kl (.box d) (.d (keyD n cs)) O=some (d,kvs,(cs,(n:Int))):=by
 show (match O[d]? with
  | some (.dct kvs)=>(keyOf (keyD n cs)).map fun q=>(d,kvs,q)
  | _=>none)=_
 rw[h]
 show (keyOf (keyD n cs)).map (fun q=>(d,kvs,q))=_
 have:keyOf (keyD n cs)=some (cs,(n:Int)):=by
  show (jc (zb cs)).map (fun kss=>(kss,(n:Int)))=_
  rw[q9];rfl
 rw[this];rfl
theorem zb5(h:InC m C cs){a:Option V}:evE (PG k false) (RL m n cs d a) (.cmp .eq (.prim .len (.cons (.loc 1) .nil)) (.int 1)) O=.ok (.d (.bool (decide ((cs.length:Int)=1)))) O:=by
 refine zx (xa rfl rfl (x9 rfl h.line)) rfl (eq_int.trans ?_)
 rw[zr]
theorem zkh(h:InC m C cs)(hn:n≤11){a:Option V}:evE (PG (k+1) false) (RL m n cs d a) (.cmp .gt (.prim .len (.cons (.loc 1) .nil)) (.call 10 (.cons (.loc 2) .nil))) O=.ok (.d (.bool (decide ((cs.length:Int) > ((3 ^ n:Nat):Int))))) O:=by
 refine zx (xa rfl rfl (x9 rfl h.line)) (zm rfl (zkd hn)) (v_gt.trans ?_)
 rw[zr]
theorem zcv(h:InC m C cs)(hl:cs.length=1)(ok:Ok m C d O kvs):Gives m C n d O kvs (solv (dueI m) n cs) (Rs m n cs (solv (dueI m) n cs)) (zg P table (k+1) false 17 [.d (.list (due m)),.d (.list (zb cs)),.d (.int (n:Int)),.box d] O):=by
 refine eZ (List.length_eq_one_iff.mp hl) ?_;intro c dX;subst dX
 rw[xt rfl]
 refine ⟨.tuple [.str (Str.ofString "told"),caseD c],kvs,?_,⟨.told c,rfl,rfl,be _⟩,ok.mem,fun uA uA=>rfl⟩
 rw[set_same ok.at_]
 exact zj (fn:=c17) (ρ':=RL m n [c] d none) rfl ⟨rfl,by decide⟩ rfl (ze ((w_if (zb5 h)).trans ((ah rfl).trans (ze (z9 rfl)))))
theorem zao(h:InC m C cs)(hn:n≤11)(hl:3 ^ n < cs.length)(ok:Ok m C d O kvs):Gives m C n d O kvs (solv (dueI m) n cs) (Rs m n cs (solv (dueI m) n cs)) (zg P table (k+2) false 17 [.d (.list (due m)),.d (.list (zb cs)),.d (.int (n:Int)),.box d] O):=by
 have h1:1 < cs.length:=bS (Nat.one_le_pow _ _ (by decide)) hl
 have hs:solv (dueI m) n cs=false:=aW.mpr fun e=>cT.mpr (zcl e) hl
 rw[hs]
 refine ⟨.tuple [.str (Str.ofString "many")],kvs,?_,Hd.many hl,ok.mem,fun uA uA=>rfl⟩
 rw[set_same ok.at_]
 have e1:=zb5 (k:=k+1) (n:=n) (d:=d) (O:=O) h (a:=none)
 rw[aQ (by lia)] at e1
 have e2:=zkh (k:=k) (d:=d) (O:=O) h hn (a:=none)
 rw[aH (show (cs.length:Int) > ((3 ^ n:Nat):Int) from Int.ofNat_lt.mpr hl)] at e2
 exact zj (fn:=c17) (ρ':=RL m n cs d none) rfl ⟨rfl,by decide⟩ rfl ((zc (zy e1)).trans (ze ((w_if e2).trans ((ah rfl).trans (ze (z9 rfl))))))
theorem zrt:LookS m C 0 2:=fun k cs O d kvs h hne ok=>by
 by_cases hl:cs.length=1
 ·exact zcv (k:=k+1) h hl ok
 ·exact zao h (by decide) (by have:0 < cs.length:=dS.mpr hne;show 1 < cs.length;lia) ok
theorem zrs(L1:LookS m C n lev)(hm:m4 m)(hw3:(dueI m).length≤25)(hlev:2≤lev)(hn:n+1≤11):LookS m C (n+1) (lev+3):=fun k cs O d kvs h hne ok=>by
 by_cases hl:cs.length=1
 ·exact zcv (k:=k+lev+2) h hl ok
 by_cases h3:3 ^ (n+1) < cs.length
 ·exact zao (k:=k+lev+1) h hn h3 ok
 have hs:solv (dueI m) (n+1) cs=(dueI m).any (trB m n cs):=by
  show (cs.length == 1 || (decide (cs.length≤3 ^ (n+1)) && (dueI m).any (trB m n cs)))=_
  rw[beq_false_of_ne hl,aH (dM h3)];rfl
 have e1:=zb5 (k:=k+lev+2) (n:=n+1) (d:=d) (O:=O) h (a:=none)
 rw[aQ (by lia)] at e1
 have e2:=zkh (k:=k+lev+1) (d:=d) (O:=O) h hn (a:=none)
 rw[aQ (show ¬ (cs.length:Int) > ((3 ^ (n+1):Nat):Int) from fun q=>h3 (Int.ofNat_lt.mp q))] at e2
 have ek:evS (PG (k+lev+2) false) (.asg (.name 4) (.tup (.cons (.prim .tuple (.cons (.loc 1) .nil)) (.cons (.loc 2) .nil)))) (RL m (n+1) cs d none) O=.ok .next (RL m (n+1) cs d (some (.d (keyD (n+1) cs))),O):=
  z7 (gr (xa rfl rfl (wp (x:=.list (zb cs)) rfl (ah h.line))) rfl) rfl rfl
 have en:evE (PG (k+lev+2) false) (RL m (n+1) cs d (some (.d (keyD (n+1) cs)))) (.notinM (.loc 4) (.loc 3)) O=.ok (.d (.bool !(zw kvs (cs,((n+1:Nat):Int))).isSome)) O:=by
  show Mine.notinM (.d (keyD (n+1) cs)) (.box d) O=_
  unfold Mine.notinM
  rw[p9 ok.at_]
 have pre:∀ {r:R (Loc×za) Fl} {ss:CSs},evSs (PG (k+lev+2) false) ss (RL m (n+1) cs d (some (.d (keyD (n+1) cs)))) O=r→evSs (PG (k+lev+2) false) (.cons (.ife (.cmp .eq (.prim .len (.cons (.loc 1) .nil)) (.int 1)) (.cons (.ret (.tup (.cons (.str (Str.ofString "plan")) (.cons (.tup (.cons (.str (Str.ofString "told")) (.cons (.idx (.loc 1) (.int 0)) .nil))) .nil)))) .nil) .nil) (.cons (.ife (.cmp .gt (.prim .len (.cons (.loc 1) .nil)) (.call 10 (.cons (.loc 2) .nil))) (.cons (.ret (.tup (.cons (.str (Str.ofString "hold")) (.cons (.tup (.cons (.str (Str.ofString "many")) .nil)) .nil)))) .nil) .nil) (.cons (.asg (.name 4) (.tup (.cons (.prim .tuple (.cons (.loc 1) .nil)) (.cons (.loc 2) .nil)))) ss))) (RL m (n+1) cs d none) O=r:=
  fun h=>(zc (zy e1)).trans ((zc (zy e2)).trans ((zc ek).trans h))
 rw[hs]
 cases hd:zw kvs (cs,((n+1:Nat):Int)) with
 | some x=>
   rw[hd] at en
   refine eV (ok.mem.find hd) ?_;intro y dX hy;subst dX
   rw[hs] at hd hy
   refine⟨y,kvs,?_,hy,ok.mem,fun uA uA=>rfl⟩
   rw[set_same ok.at_]
   refine zj (fn:=c17) (ρ':=RL m (n+1) cs d (some (.d (keyD (n+1) cs)))) rfl ⟨rfl,by decide⟩ rfl (pre ((zc (zy en)).trans (ze (z9 ?_))))
   show Mine.getM (.box d) (.d (keyD (n+1) cs)) O=_
   unfold Mine.getM
   rw[p9 ok.at_]
   show opt ((zw kvs (cs,((n+1:Nat):Int))).map V.d) O=_
   rw[hd];rfl
 | none=>
   rw[hd] at en
   obtain⟨y,kvs₁,ee,hy,mem₁,old₁⟩:=zp7 (k:=k) L1 hm hw3 h hne hlev ok
   have ok₁:=ok.set mem₁
   have hd₁:zw kvs₁ (cs,((n+1:Nat):Int))=none:=(old₁ _ (by show (n:Int) < ((n+1:Nat):Int);lia)).trans hd
   have mem₂:Mem m C (kvs₁++[((cs,((n+1:Nat):Int)),resD (solv (dueI m) (n+1) cs) y)]):=mem₁.add (by rw[hs];exact hy) h.sub hn hd₁
   rw[hs] at mem₂
   have eset:evS (PG (k+lev+2) false) (.setM (.loc 3) (.loc 4) (.call 16 (.cons (.loc 0) (.cons (.loc 1) (.cons (.loc 2) (.cons (.loc 3) .nil)))))) (RL m (n+1) cs d (some (.d (keyD (n+1) cs)))) O=.ok .next (RL m (n+1) cs d (some (.d (keyD (n+1) cs))),O.set d (.dct (kvs₁++[((cs,((n+1:Nat):Int)),resD ((dueI m).any (trB m n cs)) y)]))):=by
    have ec:evE (PG (k+lev+2) false) (RL m (n+1) cs d (some (.d (keyD (n+1) cs)))) (.call 16 (.cons (.loc 0) (.cons (.loc 1) (.cons (.loc 2) (.cons (.loc 3) .nil))))) O=.ok (.d (resD ((dueI m).any (trB m n cs)) y)) (O.set d (.dct kvs₁)):=zm rfl ee
    show R.bind (R.lift _ (R.bind (evE (PG (k+lev+2) false) (RL m (n+1) cs d (some (.d (keyD (n+1) cs)))) (.call 16 (.cons (.loc 0) (.cons (.loc 1) (.cons (.loc 2) (.cons (.loc 3) .nil))))) O) _)) _=_
    rw[ec]
    show R.bind (R.lift _ (Mine.setM (.box d) (.d (keyD (n+1) cs)) (.d (resD ((dueI m).any (trB m n cs)) y)) (O.set d (.dct kvs₁)))) _=_
    unfold Mine.setM
    rw[p9 ok₁.at_]
    show R.bind (R.lift _ (if zw kvs₁ (cs,((n+1:Nat):Int))=none∧kvs₁.length≤line then _ else _)) _=_
    rw[ah ⟨hd₁,mem₁.len⟩]
    show R.ok _ (_,(O.set d (.dct kvs₁)).set d _)=_
    rw[List.set_set]
   have hlen:(O.set d (.dct (kvs₁++[((cs,((n+1:Nat):Int)),resD ((dueI m).any (trB m n cs)) y)]))).length=O.length:=bc
   refine⟨y,_,?_,hy,mem₂,fun q hq=>?_⟩
   ·refine k9 (fn:=c17) (O':=[]) (ρ':=RL m (n+1) cs d (some (.d (keyD (n+1) cs)))) rfl ⟨rfl,by decide⟩ rfl hlen (pre ((zc ((w_if en).trans ((ah rfl).trans ((zc eset).trans rfl)))).trans (ze (z9 ?_))))
    show Mine.getM (.box d) (.d (keyD (n+1) cs)) (O.set d _)=_
    unfold Mine.getM
    rw[p9 (ok.set mem₂).at_,ba]
    show opt ((zw _ (cs,((n+1:Nat):Int))).map V.d) _=_
    rw[zhn hd₁];rfl
   ·rw[zdh (fun e=>by rw[← e] at hq;exact absurd hq (Int.lt_irrefl _))]
    exact old₁ q (by have:((n+1:Nat):Int) < q.2:=hq;lia)
end
noncomputable abbrev R14(m:Nat)(cs:Cs)(a b c:Option V):Loc:=[some (.d (.list (due m))),some (.d (.list (zb cs))),a,b,c]
noncomputable def vi:CSs:=.cons (.ife (.call 13 (.cons (.loc 0) (.cons (.loc 3) (.cons (.loc 4) .nil)))) (.cons (.ret (.tup (.cons (.loc 3) (.cons (.loc 4) .nil)))) .nil) .nil) .nil
noncomputable def wq:CSs:=.cons (.for_ (.name 4) (.e (.slice (.loc 1) (.bin .add (.loc 2) (.int 1)) .none)) vi) .nil
section
variable{m k:Nat}{cs:Cs}{O:za}
inductive PairR(m:Nat)(cs:Cs)(x y:PyData):Prop
 | mk (a b:List Int) (ex:x=caseD a) (ey:y=caseD b) (ha:a∈cs) (hb:b∈cs) (al:ym (dueI m) a b=true) (ne:a≠b)
theorem PairR.more{c:List Int}{x y:PyData}(h:PairR m cs x y):PairR m (c::cs) x y:=by
 obtain⟨a,b,ex,ey,ha,hb,al,ne⟩:=h
 exact⟨a,b,ex,ey,.tail _ ha,.tail _ hb,al,ne⟩
theorem zf6(hm:m4 m){a:List Int}(ha:good m a){i:Option V}{zs:List PyData}:∀ (l:Cs),(∀ c∈l,good m c)→∀ e:Option V,
 (l.any (ym (dueI m) a)=false∧∃ e',zq (.plain zs) (yw (PG (k+2) false) (.name 4) vi) (zb l) (R14 m cs i (some (.d (caseD a))) e) O=.ok .next (R14 m cs i (some (.d (caseD a))) e',O)) ∨
 (l.any (ym (dueI m) a)=true∧∃ b ρ',b∈l∧ym (dueI m) a b=true∧zq (.plain zs) (yw (PG (k+2) false) (.name 4) vi) (zb l) (R14 m cs i (some (.d (caseD a))) e) O=.ok (.ret (.d (.tuple [caseD a,caseD b]))) (ρ',O))
 | [],_,e=>.inl ⟨rfl,e,rfl⟩
 | c::l,hl,e=>by
   have et:evE (PG (k+2) false) (R14 m cs i (some (.d (caseD a))) (some (.d (caseD c)))) (.call 13 (.cons (.loc 0) (.cons (.loc 3) (.cons (.loc 4) .nil)))) O=.ok (.d (.bool (ym (dueI m) a c))) O:=zm rfl (zm1 hm ha (hl c (.head _)))
   cases hb:ym (dueI m) a c with
   | true=>
     rw[hb] at et
     have h1:yw (PG (k+2) false) (.name 4) vi (caseD c) (R14 m cs i (some (.d (caseD a))) e) O=.ok (.ret (.d (.tuple [caseD a,caseD c]))) (R14 m cs i (some (.d (caseD a))) (some (.d (caseD c))),O):=
      ze (P:=PG (k+2) false) (ρ:=R14 m cs i (some (.d (caseD a))) (some (.d (caseD c)))) ((w_if et).trans ((ah rfl).trans (ze (z9 rfl))))
     exact .inr ⟨by rw[List.any_cons,hb];rfl,c,_,.head _,hb,ub h1⟩
   | false=>
     rw[hb] at et
     have h1:yw (PG (k+2) false) (.name 4) vi (caseD c) (R14 m cs i (some (.d (caseD a))) e) O=.ok .next (R14 m cs i (some (.d (caseD a))) (some (.d (caseD c))),O):=
      (zc (P:=PG (k+2) false) (ρ:=R14 m cs i (some (.d (caseD a))) (some (.d (caseD c)))) (zy et)).trans rfl
     have hany:(c::l).any (ym (dueI m) a)=l.any (ym (dueI m) a):=by rw[List.any_cons,hb];rfl
     rw[hany,show zb (c::l)=caseD c::zb l from rfl,yo h1]
     exact (zf6 hm ha l (fun c hc=>hl c (.tail _ hc)) _).imp id fun ⟨h1,b,ρ',h2,h3⟩=>⟨h1,b,ρ',.tail _ h2,h3⟩
theorem zp6(h:Ok12 m cs){i:Nat}(hi:i < cs.length){b c:Option V}:evE (PG k false) (R14 m cs (some (.d (.int (i:Int)))) b c) (.slice (.loc 1) (.bin .add (.loc 2) (.int 1)) .none) O=.ok (.d (.list (zb (cs.drop (i+1))))) O:=by
 have hc:clipAt (zb cs).length ((i:Int)+1)=i+1:=by
  have:=clipAt_cast (zb cs).length ((i:Int)+1)
  rw[ai (by lia),zr] at this
  rw[zr];lia
 have ea:evE (PG k false) (R14 m cs (some (.d (.int (i:Int)))) b c) (.bin .add (.loc 2) (.int 1)) O=.ok (.d (.int ((i:Int)+1))) O:=xk rfl rfl h9
 rw[zlc,show evE (PG k false) (R14 m cs (some (.d (.int (i:Int)))) b c) (.loc 1) O=.ok (.d (.list (zb cs))) O from rfl,yb,ea,yb]
 show opt ((qe (zb cs) (.int ((i:Int)+1)) .none).map V.d) O=_
 unfold qe
 rw[ah h.line]
 show R.ok (V.d (.list (um (zb cs) (clipAt (zb cs).length ((i:Int)+1)) (zb cs).length))) O=_
 rw[hc]
 unfold um
 rw[List.take_of_length_le (by rw[List.length_drop];exact aI _)]
 unfold zb
 rw[List.map_drop]
theorem any_alike{a:List Int}{l:Cs}:l.any (ym (dueI m) a)=false↔∀ b∈l,ym (dueI m) a b=false:=by
 rw[List.any_eq_false]
 exact⟨fun h b hb=>aW.mpr (h b hb),fun h b hb=>aW.mp (h b hb)⟩
theorem zf5(hm:m4 m)(h:Ok12 m cs){zs:List PyData}:∀ (l:Cs) (i:Nat) (a b e:Option V),l.Nodup→cs.drop i=l →
 (Pw (dueI m) l∧∃ a' b' e',zq (.plain zs) (yw (PG (k+2) false) (.two (.name 2) (.name 3)) wq) ((l.zipIdx i).map fun p=>.tuple [.int (p.2:Int),caseD p.1]) (R14 m cs a b e) O=.ok .next (R14 m cs a' b' e',O)) ∨
 (¬ Pw (dueI m) l∧∃ x y ρ',PairR m l x y∧zq (.plain zs) (yw (PG (k+2) false) (.two (.name 2) (.name 3)) wq) ((l.zipIdx i).map fun p=>.tuple [.int (p.2:Int),caseD p.1]) (R14 m cs a b e) O=.ok (.ret (.d (.tuple [x,y]))) (ρ',O))
 | [],i,a,b,e,_,_=>.inl ⟨List.Pairwise.nil,a,b,e,rfl⟩
 | c::l,i,a,b,e,hn,hd=>by
   have hi:i < cs.length:=Nat.lt_of_not_le fun q=>by rw[List.drop_eq_nil_of_le q] at hd;exfalso;injection hd
   have hd':cs.drop (i+1)=l:=by rw[← List.drop_drop,hd];rfl
   have hmem:∀ x∈c::l,x∈cs:=fun x hx=>List.mem_of_mem_drop (hd ▸ hx)
   have hg:∀ x∈l,good m x:=fun x hx=>h.good x (hmem x (.tail _ hx))
   have ef:evS (PG (k+2) false) (.for_ (.name 4) (.e (.slice (.loc 1) (.bin .add (.loc 2) (.int 1)) .none)) vi) (R14 m cs (some (.d (.int (i:Int)))) (some (.d (caseD c))) e) O=zq (.plain (zb l)) (yw (PG (k+2) false) (.name 4) vi) (zb l) (R14 m cs (some (.d (.int (i:Int)))) (some (.d (caseD c))) e) O:=by
    rw[qw,ai ak,x_e,zp6 h hi,hd']
    rfl
   rw[List.zipIdx_cons,a9]
   refine eS (zf6 (k:=k) (cs:=cs) (O:=O) (i:=some (.d (.int (i:Int)))) (zs:=zb l) hm (h.good c (hmem c (.head _))) l hg e) ?_ ?_
   ·rintro ⟨hb,e',h1⟩;have ht:yw (PG (k+2) false) (.two (.name 2) (.name 3)) wq (.tuple [.int (i:Int),caseD c]) (R14 m cs a b e) O=.ok .next (R14 m cs (some (.d (.int (i:Int)))) (some (.d (caseD c))) e',O):=
     (zc (P:=PG (k+2) false) (ρ:=R14 m cs (some (.d (.int (i:Int)))) (some (.d (caseD c))) e) (ef.trans h1)).trans rfl
    rw[yo ht]
    have hp:Pw (dueI m) (c::l)↔Pw (dueI m) l:=by
     unfold Pw
     rw[aA]
     exact⟨fun h=>h.2,fun h=>⟨any_alike.mp hb,h⟩⟩
    rw[hp]
    exact (zf5 hm h l (i+1) _ _ _ (bk.mp hn).2 hd').imp id fun ⟨h1,x,y,ρ',h2,h3⟩=>⟨h1,x,y,ρ',h2.more,h3⟩
   ·rintro ⟨hb,x,ρ',hx,hal,h1⟩;have ht:yw (PG (k+2) false) (.two (.name 2) (.name 3)) wq (.tuple [.int (i:Int),caseD c]) (R14 m cs a b e) O=.ok (.ret (.d (.tuple [caseD c,caseD x]))) (ρ',O):=
     ze (P:=PG (k+2) false) (ρ:=R14 m cs (some (.d (.int (i:Int)))) (some (.d (caseD c))) e) (ef.trans h1)
    refine .inr ⟨fun hp=>?_,_,_,_,⟨c,x,rfl,rfl,.head _,.tail _ hx,hal,fun e=>(bk.mp hn).1 (e ▸ hx)⟩,ub ht⟩
    rw[any_alike.mpr (aA.mp hp).1] at hb;exfalso;injection hb
theorem za3(hm:m4 m)(h:Ok12 m cs)(hn:cs.Nodup):(Pw (dueI m) cs∧zg P table (k+3) false 14 [.d (.list (due m)),.d (.list (zb cs))] O=.ok (.d .none) O)∨(¬ Pw (dueI m) cs∧∃ x y,PairR m cs x y∧zg P table (k+3) false 14 [.d (.list (due m)),.d (.list (zb cs))] O=.ok (.d (.tuple [x,y])) O):=by
 have ee:kx (zb cs)=(cs.zipIdx 0).map fun p=>.tuple [.int (p.2:Int),caseD p.1]:=by
  unfold kx zb
  rw[List.zipIdx_map,cO]
  rfl
 have ef:evS (PG (k+2) false) (.for_ (.two (.name 2) (.name 3)) (.enum (.loc 1)) wq) (R14 m cs none none none) O=zq (.plain (kx (zb cs))) (yw (PG (k+2) false) (.two (.name 2) (.name 3)) wq) ((cs.zipIdx 0).map fun p=>.tuple [.int (p.2:Int),caseD p.1]) (R14 m cs none none none) O:=by
  rw[qw,ai ak,← ee]
  rfl
 refine eS (zf5 (k:=k) (O:=O) (zs:=kx (zb cs)) hm h cs 0 none none none hn rfl) ?_ ?_
 ·rintro ⟨hp,a',b',e',h1⟩;exact .inl ⟨hp,zj (fn:=c14) rfl ⟨rfl,by decide⟩ rfl ((zc (ef.trans h1)).trans (ze (z9 rfl)))⟩
 ·rintro ⟨hp,x,y,ρ',pr,h1⟩;exact .inr ⟨hp,x,y,pr,zj (fn:=c14) rfl ⟨rfl,by decide⟩ rfl (ze (ef.trans h1))⟩
end
section
variable{m n lev k d:Nat}{C cs:Cs}{O:za}{kvs:List (MKey×PyData)}
theorem LookS.more{lev':Nat}(h:LookS m C n lev)(hl:lev≤lev'):LookS m C n lev':=fun k cs O d kvs h1 h2 h3=>by
 refine eZ (Nat.exists_eq_add_of_le' hl) ?_;intro j dX;subst dX
 obtain⟨y,kvs',e,ny,mem,old⟩:=h (k+j) cs O d kvs h1 h2 h3
 exact⟨y,kvs',by rw[← cB];exact e,ny,mem,old⟩
theorem zja(hm:m4 m)(hw3:(dueI m).length≤25):∀ n,n≤11→LookS m C n (3 * n+2)
 | 0,_=>zrt
 | n+1,hn=>zrs (zja hm hw3 n (Nat.le_of_succ_le hn)) hm hw3 (by lia) hn
theorem zcx(hm:m4 m)(hw3:(dueI m).length≤25){n:Nat}(hn:n≤11):LookS m C n 35:=(zja hm hw3 n hn).more (by lia)
noncomputable def Held(m:Nat)(cs:Cs):Nat→PyData→Prop
 | 0,h=>h=.none
 | n+1,h=>Hd m n cs h
inductive WhR(m:Nat)(cs:Cs)(N:Nat)(O:za)(r:R (Loc×za) Fl):Prop
 | mk (kvs':List (MKey×PyData)) (h y:PyData) (hh:Held m cs N h) (hy:PlR m N cs y) (e:r=.ok .next ([some (.d (.list (due m))),some (.d (.list (zb cs))),some (.box O.length),some (.d h),some (.d (.int (N:Int))),some (.d (word true)),some (.d y)],O++[.dct kvs']))
noncomputable abbrev RF(m:Nat)(cs:Cs)(d:Nat)(h a b c:Option V):Loc:=[some (.d (.list (due m))),some (.d (.list (zb cs))),some (.box d),h,a,b,c]
noncomputable def zd5:CSs:=(.cons (.asg (.name 3) (.loc 6)) (.cons (.asg (.name 4) (.bin .add (.loc 4) (.int 1))) (.cons (.asg (.two (.name 5) (.name 6)) (.call 17 (.cons (.loc 0) (.cons (.loc 1) (.cons (.loc 4) (.cons (.loc 2) .nil)))))) .nil)))
noncomputable def whT(k:Nat)(ρ:Loc)(O:za):R (Loc×za) Bool:=((evE (PG k false) ρ (.cmp .eq (.loc 5) (.str (Str.ofString "hold"))) O).bind fun v O=>opt (truth v) O).lift ρ
theorem zfs{b:Bool}{h a c:Option V}:whT k (RF m cs d h a (some (.d (word b))) c) O=.ok (!b) (RF m cs d h a (some (.d (word b))) c,O):=by
 have e:evE (PG k false) (RF m cs d h a (some (.d (word b))) c) (.cmp .eq (.loc 5) (.str (Str.ofString "hold"))) O=.ok (.d (.bool !b)) O:=zx rfl rfl (zix b O)
 unfold whT
 rw[e];rfl
theorem zft{turn:Loc→za→R (Loc×za) Fl}{test:Loc→za→R (Loc×za) Bool}{t:Nat}{ρ ρ':Loc}{O O':za}(h:turn ρ O=.ok .next (ρ',O')) :
 (match (R.ok (!false) (ρ,O):R (Loc×za) Bool) with
   | .ok false S=>R.ok Fl.next S
   | .ok true S=>(match turn S.1 S.2 with
      | .ok (.ret v) S=>R.ok (Fl.ret v) S
      | .ok .next S=>yg test turn t S.1 S.2
      | _=>.stuck)
   | _=>.stuck)=yg test turn t ρ' O':=by
 show (match turn ρ O with
        | .ok (.ret v) S=>R.ok (Fl.ret v) S
        | .ok .next S=>yg test turn t S.1 S.2
        | _=>.stuck)=_
 rw[h]
theorem zf4(LA:∀ n,n≤11→LookS m C n 35)(h:InC m C cs)(hne:cs≠[]){N:Nat}(hN:N≤11)(hL:Least (dueI m) N cs):∀ (r t j:Nat) (kvs:List (MKey×PyData)) (hh:PyData) (y:PyData),N=j+r→r < t→Ok m C O.length (O++[.dct kvs]) kvs→Held m cs j hh→Rs m j cs (solv (dueI m) j cs) y →
 WhR m cs N O (yg (whT (k+35)) (fun ρ O=>evSs (PG (k+35) false) zd5 ρ O) t (RF m cs O.length (some (.d hh)) (some (.d (.int (j:Int)))) (some (.d (word (solv (dueI m) j cs)))) (some (.d y))) (O++[.dct kvs]))
 | 0,0,_,_,_,_,_,h,_,_,_=>absurd h (cS _)
 | 0,t+1,j,kvs,hh,y,e,_,_,g1,g2=>by
   have e:N=j:=e
   subst e
   rw[hL.yes] at g2
   refine⟨kvs,hh,y,g1,g2,?_⟩
   rw[yg,zfs,hL.yes]
   rfl
 | r+1,0,_,_,_,_,_,h,_,_,_=>absurd h (bq _)
 | r+1,t+1,j,kvs,hh,y,e,ht,ok,g1,g2=>by
   have hs:solv (dueI m) j cs=false:=hL.no j (by lia)
   obtain⟨y₁,kvs₁,e₁,ny,mem,old⟩:=LA (j+1) (by lia) k cs _ O.length kvs h hne ok
   have hset:(O++[Box.dct kvs]).set O.length (.dct kvs₁)=O++[.dct kvs₁]:=zeg
   rw[hset] at e₁
   have ok₁:Ok m C O.length (O++[.dct kvs₁]) kvs₁:=hset ▸ ok.set mem
   rw[hs] at g2
   obtain⟨kvs',h',y',q1,q2,ih⟩:=zf4 LA h hne hN hL r t (j+1) kvs₁ y y₁ (by lia) (by exact Nat.le_of_lt_succ (by assumption)) ok₁ g2 ny
   refine⟨kvs',h',y',q1,q2,?_⟩
   have hb:evSs (PG (k+35) false) zd5 (RF m cs O.length (some (.d hh)) (some (.d (.int (j:Int)))) (some (.d (word (solv (dueI m) j cs)))) (some (.d y))) (O++[.dct kvs])=.ok .next (RF m cs O.length (some (.d y)) (some (.d (.int ((j+1:Nat):Int)))) (some (.d (word (solv (dueI m) (j+1) cs)))) (some (.d y₁)),O++[.dct kvs₁]):=by
    refine (zc (z7 rfl rfl rfl)).trans ((zc (z7 (xk rfl rfl h9) rfl rfl)).trans ((zc (zbh rfl (zm rfl e₁) (v:=.d (resD (solv (dueI m) (j+1) cs) y₁)) rfl)).trans rfl))
   rw[yg,zfs,hs]
   rw[hs] at hb
   exact (zft hb).trans ih
theorem jx{ws:List Wg}{cs:Cs}:∀ N,solv ws N cs=true→∃ n,n≤N∧Least ws n cs
 | 0,h=>⟨0,aI _,h,fun k hk=>absurd hk (bq _)⟩
 | N+1,h=>by
   cases hb:solv ws N cs with
   | true=>refine eV (jx N hb) ?_;intro n h1 h2;exact eW n (cZ h1) h2
   | false=>exact⟨N+1,aI _,h,fun k hk=>aW.mpr fun e=>by rw[zbn e (bC hk)] at hb;cases hb⟩
inductive zqu(m:Nat)(cs:Cs)(N:Nat)(O:za)(r:R za V):Prop
 | mk (y h:PyData) (hy:PlR m N cs y) (hh:Held m cs N h) (e:r=.ok (.d (.tuple [y,h,.int (N:Int)])) O)
theorem gs(LA:∀ n,n≤11→LookS m C n 35)(h:InC m C cs)(hne:cs≠[]){N:Nat}(hN:N≤11)(hL:Least (dueI m) N cs)(hC:C.length≤12)(hO:∀ b∈O,ShyB badP b):zqu m cs N O (zg P table (k+36) false 18 [.d (.list (due m)),.d (.list (zb cs))] O):=by
 have ok0:Ok m C O.length (O++[.dct []]) []:=⟨by rw[aF (aI _),ca];rfl,⟨fun uA h=>(nomatch h),fun uA h=>(nomatch h),.nil,hC⟩,fun b hb=>by
  refine eS (aj.mp hb) ?_ ?_
  ·intro hb;exact hO b hb
  ·intro hb;rw[ae.mp hb];exact fun uA h=>nomatch h⟩
 obtain⟨y₁,kvs₁,e₁,ny,mem,old⟩:=LA 0 (by decide) k cs _ O.length [] h hne ok0
 have hset:(O++[Box.dct []]).set O.length (.dct kvs₁)=O++[.dct kvs₁]:=zeg
 rw[hset] at e₁
 have ok₁:Ok m C O.length (O++[.dct kvs₁]) kvs₁:=hset ▸ ok0.set mem
 obtain⟨kvs',h',y',q1,q2,hw⟩:=zf4 (k:=k) (O:=O) LA h hne hN hL N 200 0 kvs₁ .none y₁ (by lia) (by lia) ok₁ rfl ny
 refine⟨y',h',q2,q1,?_⟩
 refine wf (fn:=c18) (ρ':=RF m cs O.length (some (.d h')) (some (.d (.int (N:Int)))) (some (.d (word true))) (some (.d y'))) (O':=[.dct kvs']) rfl ⟨rfl,by decide⟩ rfl ?_
 refine (zc (z7 (v:=.box O.length) (O':=O++[.dct []]) rfl rfl rfl)).trans ((zc (z7 rfl rfl rfl)).trans ((zc (z7 rfl rfl rfl)).trans ?_))
 refine (zc (zbh rfl (zm rfl e₁) (v:=.d (resD (solv (dueI m) 0 cs) y₁)) rfl)).trans ?_
 have hw:evS (PG (k+35) false) (.while_ (.cmp .eq (.loc 5) (.str (Str.ofString "hold"))) zd5) (RF m cs O.length (some (.d .none)) (some (.d (.int ((0:Nat):Int)))) (some (.d (word (solv (dueI m) 0 cs)))) (some (.d y₁))) (O++[.dct kvs₁])=_:=hw
 exact (zc hw).trans (ze (z9 rfl))
inductive zqt(m:Nat)(so:Cs)(x:PyData):Prop
 | none (h:so=[]∨¬ Pw (dueI m) so) (e:x=.none)
 | some (n:Nat) (hne:so≠[]) (hp:Pw (dueI m) so) (hl:Least (dueI m) n so) (e:x=.int (n:Int))
inductive zs4(m:Nat)(so:Cs)(x:PyData):Prop
 | none (h:so=[]) (e:x=.tuple [.str (Str.ofString "none")])
 | alike (hne:so≠[]) (hp:¬ Pw (dueI m) so) (a b:PyData) (pr:PairR m so a b) (e:x=.tuple [.str (Str.ofString "alike"),a,b])
 | plan (n:Nat) (hne:so≠[]) (hN:n≤11) (hp:Pw (dueI m) so) (hl:Least (dueI m) n so) (y h:PyData) (hy:PlR m n so y) (hh:Held m so n h) (e:x=.tuple [.str (Str.ofString "plan"),y,h])
theorem zkn{m:Nat}(hm:m4 m):(dueI m).length≤25:=by
 rcases jf hm with rfl | rfl | rfl | rfl <;> decide
theorem zgi{so:Cs}{P:Pg}{ρ:Loc}{a:CE}(h:evE P ρ a O=.ok (.d (.list (zb so))) O):evE P ρ (.cmp .eq a (.list .nil)) O=.ok (.d (.bool so.isEmpty)) O:=by
 refine zx h rfl ((zgf (xl _)).trans ?_)
 congr 3
 unfold zb;rw[List.isEmpty_map]
theorem zmx{b₀ b₁:Box}(hm:m4 m){cs:Cs}(f:Found m cs)(hO:∀ b∈[b₀,b₁],ShyB badP b):∃ x,zg P table (k+37) false 20 [.d (.int m),.d (.list (zb cs)),.d (.list [])] [b₀,b₁]=.ok (.d x) [b₀,b₁]∧zqt m cs x:=by
 have hso:Ok12 m cs:=⟨f.good,f.le⟩
 have e1:=zkf (k:=k+31) (O:=[b₀,b₁]) hm f
 have e2:=zki (b₀:=b₀) (b₁:=b₁) (k:=k+32) hm
 have e3:evE (PG (k+36) false) [some (.d (.int m)),some (.d (.list (zb cs))),some (.d (.list [])),some (.d (.list (zb cs))),some (.d (.list (due m)))] (.cmp .eq (.loc 3) (.list .nil)) [b₀,b₁]=.ok (.d (.bool cs.isEmpty)) [b₀,b₁]:=zgi rfl
 have pre:∀ {r:R (Loc×za) Fl} {ss:CSs},evSs (PG (k+36) false) ss [some (.d (.int m)),some (.d (.list (zb cs))),some (.d (.list [])),some (.d (.list (zb cs))),some (.d (.list (due m)))] [b₀,b₁]=r→evSs (PG (k+36) false) (.cons (.asg (.name 3) (.call 12 (.cons (.loc 0) (.cons (.loc 1) (.cons (.loc 2) .nil))))) (.cons (.asg (.name 4) (.call 7 (.cons (.loc 0) .nil))) ss)) [some (.d (.int m)),some (.d (.list (zb cs))),some (.d (.list [])),none,none] [b₀,b₁]=r:=
  fun h=>(zc (z7 (zm rfl e1) rfl rfl)).trans ((zc (z7 (zm rfl e2) rfl rfl)).trans h)
 cases hem:cs.isEmpty with
 | true=>
   rw[hem] at e3
   exact eW .none (zj (fn:=c20) rfl ⟨rfl,by decide⟩ rfl (pre (ze ((w_if (zq1 e3)).trans ((ah rfl).trans (ze (z9 rfl))))))) (.none (.inl (dI.mp hem)) rfl)
 | false=>
   rw[hem] at e3
   have hne:cs≠[]:=fun e=>by rw[e] at hem;exfalso;injection hem
   refine eS (za3 (k:=k+33) (O:=[b₀,b₁]) hm hso f.nodup) ?_ ?_
   ·rintro ⟨hp,e4⟩;refine eV (jx _ (zeq 11 hp hne (aq hso.le (by decide)))) ?_;intro N hN hL
    obtain⟨y,h',_,_,e5⟩:=gs (k:=k) (O:=[b₀,b₁]) (fun n hn=>zcx hm (zkn hm) hn) ⟨hso,List.Sublist.refl _⟩ hne hN hL hso.le hO
    refine eW (.int (N:Int)) (zj (fn:=c20) rfl ⟨rfl,by decide⟩ rfl (pre ((zc (zy (xe e3 (zx (zm rfl e4) rfl rfl)))).trans (ze (z9 (y4 (zm rfl e5) rfl rfl)))))) (.some N hne hp hL rfl)
   ·rintro ⟨hp,x,y,pr,e4⟩;exact eW .none (zj (fn:=c20) rfl ⟨rfl,by decide⟩ rfl (pre (ze ((w_if (xe e3 (zx (zm rfl e4) rfl rfl))).trans ((ah rfl).trans (ze (z9 rfl))))))) (.none (.inr hp) rfl)
theorem zog{P:Pg}{ρ ρ':Loc}{O O':za}{e:CE}{i j k:Nat}{v:V}(hd:P.hd=false)(h:evE P ρ e O=.ok v O')(hb:zk4 i j k v (ρ,O')=.ok .next (ρ',O')):evS P (.asg3 i j k e) ρ O=.ok .next (ρ',O'):=by
 show (if P.hd=true then .stuck else ((evE P ρ e O).lift ρ).bind (zk4 i j k))=_
 rw[ai (by rw[hd];exact ak),h];exact hb
theorem zp0{b₀ b₁:Box}(hm:m4 m){cs:Cs}(f:Found m cs)(hO:∀ b∈[b₀,b₁],ShyB badP b):∃ x,zg P table (k+37) false 19 [.d (.int m),.d (.list (zb cs)),.d (.list [])] [b₀,b₁]=.ok (.d x) [b₀,b₁]∧zs4 m cs x:=by
 have hso:Ok12 m cs:=⟨f.good,f.le⟩
 have e1:=zkf (k:=k+31) (O:=[b₀,b₁]) hm f
 have e2:=zki (b₀:=b₀) (b₁:=b₁) (k:=k+32) hm
 have e3:evE (PG (k+36) false) [some (.d (.int m)),some (.d (.list (zb cs))),some (.d (.list [])),some (.d (.list (zb cs))),some (.d (.list (due m))),none,none,none,none] (.cmp .eq (.loc 3) (.list .nil)) [b₀,b₁]=.ok (.d (.bool cs.isEmpty)) [b₀,b₁]:=zgi rfl
 have pre:∀ {r:R (Loc×za) Fl} {ss:CSs},evSs (PG (k+36) false) ss [some (.d (.int m)),some (.d (.list (zb cs))),some (.d (.list [])),some (.d (.list (zb cs))),some (.d (.list (due m))),none,none,none,none] [b₀,b₁]=r→evSs (PG (k+36) false) (.cons (.asg (.name 3) (.call 12 (.cons (.loc 0) (.cons (.loc 1) (.cons (.loc 2) .nil))))) (.cons (.asg (.name 4) (.call 7 (.cons (.loc 0) .nil))) ss)) [some (.d (.int m)),some (.d (.list (zb cs))),some (.d (.list [])),none,none,none,none,none,none] [b₀,b₁]=r:=
  fun h=>(zc (z7 (zm rfl e1) rfl rfl)).trans ((zc (z7 (zm rfl e2) rfl rfl)).trans h)
 cases hem:cs.isEmpty with
 | true=>
   rw[hem] at e3
   exact eW _ (zj (fn:=c19) rfl ⟨rfl,by decide⟩ rfl (pre (ze ((w_if e3).trans ((ah rfl).trans (ze (z9 rfl))))))) (.none (dI.mp hem) rfl)
 | false=>
   rw[hem] at e3
   have hne:cs≠[]:=fun e=>by rw[e] at hem;exfalso;injection hem
   refine eS (za3 (k:=k+33) (O:=[b₀,b₁]) hm hso f.nodup) ?_ ?_
   ·rintro ⟨hp,e4⟩;refine eV (jx _ (zeq 11 hp hne (aq hso.le (by decide)))) ?_;intro N hN hL
    obtain⟨y,h',q1,q2,e5⟩:=gs (k:=k) (O:=[b₀,b₁]) (fun n hn=>zcx hm (zkn hm) hn) ⟨hso,List.Sublist.refl _⟩ hne hN hL hso.le hO
    refine eW _ (zj (fn:=c19) rfl ⟨rfl,by decide⟩ rfl (pre ((zc (zy e3)).trans ((zc (z7 (zm rfl e4) rfl rfl)).trans ((zc (zy (zx rfl rfl rfl))).trans ((zc (zog rfl (zm rfl e5) rfl)).trans (ze (z9 rfl)))))))) (.plan N hne hN hp hL y h' q1 q2 rfl)
   ·rintro ⟨hp,x,y,pr,e4⟩;exact eW _ (zj (fn:=c19) rfl ⟨rfl,by decide⟩ rfl (pre ((zc (zy e3)).trans ((zc (z7 (zm rfl e4) rfl rfl)).trans (ze ((w_if (zx rfl rfl rfl)).trans ((ah rfl).trans (ze (z9 rfl))))))))) (.alike hne hp x y pr rfl)
end
theorem jy:∀ a b:Cs,PyData.eqvAll (zb a) (zb b)=decide (a=b)
 | [],[]=>rfl
 | [],_::_=>rfl
 | _::_,[]=>rfl
 | c::a,e::b=>by
   show (PyData.eqv (caseD c) (caseD e) && PyData.eqvAll (zb a) (zb b))=_
   rw[zdc,jy a b,← Bool.decide_and]
   exact decide_eq_decide.mpr List.cons_eq_cons.symm
theorem zhs{a b:Cs}{O:za}:cmpV .eq (.d (.list (zb a))) (.d (.list (zb b))) O=.ok (.d (.bool (decide (a=b)))) O:=by
 rw[v_eq]
 show opt (Option.map _ (if eqOk (.list (zb a)) (.list (zb b))=true then some (PyData.eqvAll (zb a) (zb b)) else none)) O=_
 rw[ah (qp (qn a) (qn b) (aq (Lay.list (xl b)).depth (by decide))),jy];rfl
theorem zl3{cs:Cs}{O:za}:cmpV .ne (.d (.list (zb cs))) (.d (.list [])) O=.ok (.d (.bool (!decide (cs=[])))) O:=by
 rw[v_ne]
 show opt (Option.map _ (if eqOk (.list (zb cs)) (.list [])=true then some (!PyData.eqvAll (zb cs) (zb [])) else none)) O=_
 rw[ah (qp (qn cs) rfl (by decide)),jy];rfl
theorem q_TT{O:za}:cmpV .eq (.d (.str sT)) (.d (.str sT)) O=.ok (.d (.bool true)) O:=by kernel_rfl
theorem q_WT{O:za}:cmpV .eq (.d (.str sW)) (.d (.str sT)) O=.ok (.d (.bool false)) O:=by kernel_rfl
theorem n_WW{O:za}:cmpV .ne (.d (.str sW)) (.d (.str sW)) O=.ok (.d (.bool false)) O:=by kernel_rfl
section
variable{m k:Nat}{cs ps:Cs}{p q:Pl}{a b:Option V}{b₀ b₁:Box}
theorem Pl.fits_nil(h:p.fits m []):p=.no:=by
 cases p with
 | no=>rfl
 | told c=>exact nomatch h
 | weigh w a b c=>exact absurd rfl h.2.1
noncomputable def Pl.isNo:Pl→Bool
 | .no=>true
 | _=>false
theorem Pl.fits_ne(h:p.fits m cs)(hc:cs≠[]):p.isNo=false:=by
 cases p with
 | no=>exact absurd h hc
 | told c=>rfl
 | weigh w a b c=>rfl
noncomputable def optI(p:Pl):List Int:=if p.isNo then [] else [(p.hgt:Int)]
theorem u6{i:Int}(h:i∈optI p):i=p.hgt:=by
 unfold optI at h
 cases hn:p.isNo with
 | true=>rw[hn] at h;cases h
 | false=>rw[hn] at h;exact ae.mp h
theorem zbu{M:Int}(h0:0≤M)(h:∀ i∈optI p,i≤M):(p.hgt:Int)≤M:=by
 cases p with
 | no=>exact h0
 | told c=>exact h0
 | weigh w a b c=>exact h _ (.head _)
theorem zg8:∀ {l:List Int},l≠[]→∃ M,maxI l=some M∧M∈l∧∀ a∈l,a≤M
 | [],h=>absurd rfl h
 | a::r,_=>by
   refine fc (zbw r a) ?_;intro h1 h2 h3
   refine ff _ rfl ?_ (fun b hb=>?_)
   ·refine eS h1 ?_ ?_<;>clear h1
    ·intro h1;rw[h1];exact .head _
    ·intro h1;exact .tail _ h1
   ·refine eS (af.mp hb) ?_ ?_
    ·rintro rfl;exact h2
    ·intro hb;exact h3 b hb
theorem zl6{w:Wg}{a b c:Pl}(h:(Pl.weigh w a b c).fits m cs)(hne:cs≠[]):maxI (optI a++(optI b++optI c))=some ((max a.hgt (max b.hgt c.hgt):Nat):Int):=by
 refine fF h ?_;clear h;intro hw _ ha hb hd
 have hL:optI a++(optI b++optI c)≠[]:=fun e=>by
  refine eZ (List.exists_mem_of_ne_nil _ hne) ?_;intro k hk
  refine fb (List.append_eq_nil_iff.mp e) ?_;intro e1 e2
  refine fb (List.append_eq_nil_iff.mp e2) ?_;intro e2 e3
  have no:∀ {p:Pl} {o:Int},p.fits m (zf w o cs)→optI p=[]→yy w k≠o:=fun {p o} hp hn ho=>by
   have:p.isNo=false:=Pl.fits_ne hp fun e=>by have:=mem_part.mpr ⟨hk,ho⟩;rw[e] at this;cases this
   unfold optI at hn
   rw[this] at hn;exfalso;injection hn
  rcases zae (j5 k w.1 - j5 k w.2) with h | h | h
  ·exact no ha e1 h
  ·exact no hb e2 h
  ·exact no hd e3 h
 refine fj (zg8 hL) ?_;intro M hM hin hle
 rw[hM]
 have hm:M=(a.hgt:Int)∨M=b.hgt∨M=c.hgt:=by
  refine eS (aj.mp hin) ?_ ?_;rotate_left;intro h;rotate_right;intro h
  ·exact .inl (u6 h)
  refine eS (aj.mp h) ?_ ?_
  ·intro h;exact .inr (.inl (u6 h))
  ·intro h;exact .inr (.inr (u6 h))
 have h0:0≤M:=by rcases hm with rfl | rfl | rfl <;> exact Int.natCast_nonneg _
 have l1:=zbu h0 fun i hi=>hle i (az (bs:=optI b++optI c) (as:=optI a) hi)
 have l2:=zbu h0 fun i hi=>hle i (au (optI a) (az (optI c) hi))
 have l3:=zbu h0 fun i hi=>hle i (au (optI a) (au (optI b) hi))
 refine eZ (Int.eq_ofNat_of_zero_le h0) ?_;intro N dX;subst dX
 refine cA (fun n:Nat=>some (n:Int)) (cW ?_ (dG.mpr ⟨Int.ofNat_le.mp l1,dG.mpr ⟨Int.ofNat_le.mp l2,Int.ofNat_le.mp l3⟩⟩))
 rcases hm with h | h | h
 ·exact Int.ofNat.inj h ▸ bl _ _
 ·exact Int.ofNat.inj h ▸ aq (bl _ _) (aY _ _)
 ·exact Int.ofNat.inj h ▸ aq (aY _ _) (aY _ _)
noncomputable def optP(p:Pl):Option PyData:=if p.isNo then none else some (.int p.hgt)
theorem wt:(optP p).toList=(optI p).map .int:=by
 unfold optP optI
 cases p.isNo <;> rfl
theorem t_len(h:p.isNo=false→zg P table k false 30 [.d p.toD] [b₀,b₁]=.ok (.d (.int p.hgt)) [b₀,b₁]) :
 xr (.name 1) (fun ρ O=>j9 (PG k false) ρ (.cons (.cmp .isnot (.loc 1) .none) .nil) O) (fun ρ O=>evE (PG k false) ρ (.call 30 (.cons (.loc 1) .nil)) O) [a,none] p.toD [b₀,b₁]=.ok (optP p) [b₀,b₁]:=by
 have hi:evE (PG k false) [a,some (.d p.toD)] (.cmp .isnot (.loc 1) .none) [b₀,b₁]=.ok (.d (.bool (!p.isNo))) [b₀,b₁]:=by
  cases p <;> rfl
 show R.bind (j9 (PG k false) [a,some (.d p.toD)] (.cons (.cmp .isnot (.loc 1) .none) .nil) [b₀,b₁]) _=_
 rw[zni,hi]
 unfold optP
 cases hn:p.isNo with
 | true=>rfl
 | false=>
   show R.bind (evE (PG k false) [a,some (.d p.toD)] (.call 30 (.cons (.loc 1) .nil)) [b₀,b₁]) _=_
   rw[zm rfl (h hn)];rfl
theorem zoa{P:Pg}{ρ:Loc}{O O':za}{a:CE}{is:List Int}{M:Int}(hd:P.hd=false)(h:evE P ρ a O=.ok (.d (.list (is.map .int))) O')(hM:maxI is=some M):evE P ρ (.maxL a) O=.ok (.d (.int M)) O':=by
 show (if P.hd=true then .stuck else _:R za V)=_
 rw[ai (by rw[hd];decide),h]
 show opt (((intsOf (is.map .int)).bind fun is=>(maxI is).map PyData.int).map V.d) O'=_
 rw[ww]
 show opt (((maxI is).map PyData.int).map V.d) O'=_
 rw[hM];rfl
theorem zsx{src:Src}{turn:PyData→za→R za (Option PyData)}{x1 x2 x3:PyData}{y1 y2 y3:Option PyData}{O:za}(hs:src.still O=true)(h1:turn x1 O=.ok y1 O)(h2:turn x2 O=.ok y2 O)(h3:turn x3 O=.ok y3 O) :
 yf src turn [x1,x2,x3] [] O=.ok (.d (.list (y1.toList++(y2.toList++y3.toList)))) O:=by
 have st:∀ {x:PyData} {y:Option PyData} {xs acc:List PyData},turn x O=.ok y O→yf src turn (x::xs) acc O=yf src turn xs (acc++y.toList) O:=fun h=>by rw[yf,h];exact ah hs
 rw[st h1,st h2,st h3,bf,bf,List.nil_append];rfl
theorem Pl.ne_of(h:p.fits m cs)(hn:p.isNo=false):cs≠[]:=fun e=>by
 subst e;rw[Pl.fits_nil h] at hn;exfalso;injection hn
theorem zgh:∀ (p:Pl) (cs:Cs),p.fits m cs→cs≠[]→∀ k,zg P table (k+p.hgt+1) false 30 [.d p.toD] [b₀,b₁]=.ok (.d (.int p.hgt)) [b₀,b₁]
 | .no,cs,h,hne,_=>absurd h hne
 | .told c,cs,h,_,k=>zj (fn:=c30) rfl ⟨rfl,by decide⟩ rfl (ze ((w_if (bb:=true) (zx rfl rfl q_TT)).trans rfl))
 | .weigh w a b c,cs,h,hne,k=>by
   have hM:=zl6 h hne
   refine fF h ?_;clear h;intro hw _ ha hb hd
   have up:∀ {p:Pl} {l:Cs},p.fits m l→p.hgt≤max a.hgt (max b.hgt c.hgt)→(l≠[]→∀ k,zg P table (k+p.hgt+1) false 30 [.d p.toD] [b₀,b₁]=.ok (.d (.int p.hgt)) [b₀,b₁])→p.isNo=false→zg P table (k+max a.hgt (max b.hgt c.hgt)+1) false 30 [.d p.toD] [b₀,b₁]=.ok (.d (.int p.hgt)) [b₀,b₁]:=fun {p l} hp hle ih hn=>by
    have:=ih (Pl.ne_of hp hn) (k+(max a.hgt (max b.hgt c.hgt) - p.hgt))
    rwa [show k+(max a.hgt (max b.hgt c.hgt) - p.hgt)+p.hgt+1=k+max a.hgt (max b.hgt c.hgt)+1 by lia] at this
   have t1:=t_len (a:=some (.d (Pl.weigh w a b c).toD)) (up ha (bl _ _) (zgh a _ ha))
   have t2:=t_len (a:=some (.d (Pl.weigh w a b c).toD)) (up hb (aq (bl _ _) (aY _ _)) (zgh b _ hb))
   have t3:=t_len (a:=some (.d (Pl.weigh w a b c).toD)) (up hd (aq (aY _ _) (aY _ _)) (zgh c _ hd))
   have hc:=zsx (src:=.plain [a.toD,b.toD,c.toD]) rfl t1 t2 t3
   rw[wt,wt,wt,← cY,← cY] at hc
   have hk:((Pl.weigh w a b c).hgt:Int)=1+((max a.hgt (max b.hgt c.hgt):Nat):Int):=by show ((_+1:Nat):Int)=_;lia
   rw[hk]
   refine zj (fn:=c30) rfl ⟨rfl,by decide⟩ rfl ((zc (zy (zx rfl rfl q_WT))).trans (ze (z9 (xk rfl (zoa rfl ?_ hM) h9))))
   exact hc
theorem Pl.solv:∀ (p:Pl) (cs:Cs),p.fits m cs→cs≠[]→solv (dueI m) p.hgt cs=true
 | .no,cs,h,hne=>absurd h hne
 | .told c,cs,h,_=>by have h:cs=[c]:=h;subst h;exact xt rfl
 | .weigh w a b c,cs,h,hne=>by
   refine fF h ?_;clear h;intro hw _ ha hb hd
   have up:∀ {p:Pl} {l:Cs},(l≠[]→Mine.L10.solv (dueI m) p.hgt l=true)→p.hgt≤max a.hgt (max b.hgt c.hgt)→l=[]∨Mine.L10.solv (dueI m) (max a.hgt (max b.hgt c.hgt)) l=true:=fun {p l} ih hle=>by
    by_cases hl:l=[]
    ·exact .inl hl
    ·exact .inr (zbn (ih hl) hle)
   refine vv hw fun o ho=>?_
   refine eS (af.mp ho) ?_ ?_;rotate_left;intro ho;rotate_right;rintro rfl
   ·exact up (Pl.solv a _ ha) (bl _ _)
   refine eS (af.mp ho) ?_ ?_
   ·rintro rfl;exact up (Pl.solv b _ hb) (aq (bl _ _) (aY _ _))
   ·intro ho;rw[ae.mp ho]
    exact up (Pl.solv c _ hd) (aq (aY _ _) (aY _ _))
end
theorem zhm{k n:Nat}{b₀ b₁:Box}(hn:n≤11):zg P table (k+1) false 31 [.d (.int n)] [b₀,b₁]=.ok (.d (.int ((3 ^ n:Nat):Int))) [b₀,b₁]:=by
 have key:(List.range 12).map (fun n:Nat=>zg P table (k+1) false 31 [.d (.int n)] [b₀,b₁])=(List.range 12).map fun n:Nat=>.ok (.d (.int ((3 ^ n:Nat):Int))) [b₀,b₁]:=by kernel_rfl
 exact kj key (a7.mpr (cF hn))
noncomputable abbrev wQ(b₀ b₁:Box)(m k:Nat):Prop:=(dueI m).map (fun w=>zg P table (k+3) false 27 [.d (.int m),.d (wD w)] [b₀,b₁])=(dueI m).map fun w=>.ok (.d (.bool true)) [b₀,b₁]
theorem wq2{b₀ b₁:Box}{k:Nat}:wQ b₀ b₁ 2 k:=by kernel_rfl
theorem wq3{b₀ b₁:Box}{k:Nat}:wQ b₀ b₁ 3 k:=by kernel_rfl
theorem wq4{b₀ b₁:Box}{k:Nat}:wQ b₀ b₁ 4 k:=by kernel_rfl
theorem wq5{b₀ b₁:Box}{k:Nat}:wQ b₀ b₁ 5 k:=by kernel_rfl
theorem zsk{b₀ b₁:Box}{k:Nat}{w:Wg}(hm:m4 m)(hw:w∈dueI m):zg P table (k+3) false 27 [.d (.int m),.d (wD w)] [b₀,b₁]=.ok (.d (.bool true)) [b₀,b₁]:=by
 rcases jf hm with rfl | rfl | rfl | rfl
 ·exact kj wq2 hw
 ·exact kj wq3 hw
 ·exact kj wq4 hw
 ·exact kj wq5 hw
theorem zmt{a b:List Int}{O:za}:cmpV .eq (.d (caseD a)) (.d (caseD b)) O=.ok (.d (.bool (decide (a=b)))) O:=by
 rw[v_eq]
 show opt (Option.map _ (if eqOk (caseD a) (caseD b)=true then some (PyData.eqv (caseD a) (caseD b)) else none)) O=_
 have hb:∀ c,Lay 10 (caseD c):=fun c=>xl [c] _ (.head _)
 rw[ah (by unfold eqOk;rw[(hb a).lay,(hb b).lay,aH (aq (Nat.min_le_right _ _) (aq (hb b).depth (by decide)))];rfl),zdc];rfl
theorem zh1{b₀ b₁:Box}{P':Nat}{ρ:Loc}{c:List Int}{a b:Nat}(ha:Nat.blt b ρ.length=true)(hb:ρ[a]?=some (some (.d (caseD c))))(hl:c.length≤5):evE (PG (P' + 1) false) ρ (.prim .all (.cons (.comp (.call 23 (.cons (.loc b) .nil)) (.name b) (.e (.loc a)) .nil) .nil)) [b₀,b₁]=.ok (.d (.bool true)) [b₀,b₁]:=by
 have ha:b < ρ.length:=bU ha
 have hI:evI (PG (P' + 1) false) ρ (.e (.loc a)) [b₀,b₁]=.ok (.plain (c.map .int)) [b₀,b₁]:=by rw[x_e,j4,hb];rfl
 have:=zbg (P:=PG (P' + 1) false) (ρ:=ρ) (elt:=.call 23 (.cons (.loc b) .nil)) (tgt:=.name b) (it:=.e (.loc a)) (O:=[b₀,b₁]) (fun uA=>true) rfl hI rfl rfl (by show (c.map PyData.int).length≤line;rw[aG];exact aq hl (by decide)) fun x hx=>by
  refine eV (aC.mp hx) ?_;intro i _ dY;subst dY
  have ea:evE (PG (P' + 1) false) (ρ.set b (some (.d (.int i)))) (.loc b) [b₀,b₁]=.ok (.d (.int i)) [b₀,b₁]:=by rw[j4,bN ha];rfl
  exact eW (ρ.set b (some (.d (.int i)))) (ah ha) (zm (zl ea rfl) (zb2 (k:=P')))
 rw[this]
 congr 3
 exact aU.mpr fun uA uA=>rfl
theorem zjz{m:Nat}{c:List Int}(hm:m4 m)(h:good m c):c.length≤5:=by have:=hm.2;have:=h.1;lia
theorem zff{b₀ b₁:Box}{k:Nat}{c:List Int}(hm:m4 m)(h:good m c):zg P table (k+2) false 28 [.d (caseD c),.d (caseD c)] [b₀,b₁]=.ok (.d (.bool true)) [b₀,b₁]:=
 zj (fn:=c28) (ρ':=[some (.d (caseD c)),some (.d (caseD c)),none]) rfl ⟨rfl,by decide⟩ rfl (ze (z9 (ju rfl (ju ((zx rfl rfl zmt).trans (by rw[aH rfl])) (zh1 (c:=c) rfl rfl (zjz hm h))))))
noncomputable abbrev RP(m:Nat)(v:V)(d:PyData)(a b c:Option V):Loc:=[some (.d (.int m)),some v,some (.d d),a,b,c,none]
noncomputable def znq:CSs:=(.cons (.asg (.name 4) (.comp (.loc 6) (.name 6) (.e (.loc 1)) (.cons (.cmp .eq (.call 24 (.cons (.idx (.loc 2) (.int 1)) (.cons (.loc 6) .nil))) (.bin .sub (.loc 3) (.int 1))) .nil))) (.cons (.asg (.name 5) (.idx (.idx (.loc 2) (.int 2)) (.loc 3))) (.cons (.ife (.or_ (.and_ (.cmp .eq (.loc 4) (.list .nil)) (.cmp .isnot (.loc 5) .none)) (.and_ (.cmp .ne (.loc 4) (.list .nil)) (.nt (.call 29 (.cons (.loc 0) (.cons (.loc 4) (.cons (.loc 5) .nil))))))) (.cons (.ret (.bool false)) .nil) .nil) .nil)))
section
variable{m k:Nat}{cs ps:Cs}{p q:Pl}{b₀ b₁:Box}{v:V}
theorem zd9(hm:m4 m)(h:Ok12 m cs)(hv:Seen [b₀,b₁] v (zb cs)){w:Wg}(hw:w∈dueI m){a b c p:Pl}{i o:Int}(hi:i - 1=o)(hx:idxV (.d (.tuple [a.toD,b.toD,c.toD])) (.d (.int i)) [b₀,b₁]=.ok (.d p.toD) [b₀,b₁])(hf:p.fits m (zf w o cs))(hc:zf w o cs≠[]→zg P table (k+1) false 29 [.d (.int m),.d (.list (zb (zf w o cs))),.d p.toD] [b₀,b₁]=.ok (.d (.bool true)) [b₀,b₁]){x y z:Option V} :
 yw (PG (k+1) false) (.name 3) znq (.int i) (RP m v (Pl.weigh w a b c).toD x y z) [b₀,b₁]=.ok .next (RP m v (Pl.weigh w a b c).toD (some (.d (.int i))) (some (.d (.list (zb (zf w o cs))))) (some (.d p.toD)),[b₀,b₁]):=by
 have hw':w∈wsI m:=dO.mpr ⟨w,hw,.head _⟩
 have ep:=zb4 (v:=v) (k:=k+1) (f:=24) (a:=6) (b:=1) (w:=w) (o:=o) (wx:=.idx (.loc 2) (.int 1)) (ox:=.bin .sub (.loc 3) (.int 1)) (ρ:=RP m v (Pl.weigh w a b c).toD (some (.d (.int i))) y z) (O:=[b₀,b₁]) h (zgc hm hw') rfl rfl hv (fun uA=>y4 rfl rfl rfl) fun uA=>(xk rfl rfl zas).trans (by rw[hi])
 have e1:evE (PG (k+1) false) (RP m v (Pl.weigh w a b c).toD (some (.d (.int i))) (some (.d (.list (zb (zf w o cs))))) (some (.d p.toD))) (.cmp .eq (.loc 4) (.list .nil)) [b₀,b₁]=.ok (.d (.bool (decide (zf w o cs=[])))) [b₀,b₁]:=zx rfl rfl (zhs (b:=[]))
 have e2:evE (PG (k+1) false) (RP m v (Pl.weigh w a b c).toD (some (.d (.int i))) (some (.d (.list (zb (zf w o cs))))) (some (.d p.toD))) (.cmp .ne (.loc 4) (.list .nil)) [b₀,b₁]=.ok (.d (.bool (!decide (zf w o cs=[])))) [b₀,b₁]:=zx rfl rfl zl3
 refine (zc (P:=PG (k+1) false) (ρ:=RP m v (Pl.weigh w a b c).toD (some (.d (.int i))) y z) (z7 ep rfl rfl)).trans ((zc (z7 (y4 (y4 rfl rfl rfl) rfl hx) rfl rfl)).trans ?_)
 by_cases he:zf w o cs=[]
 ·rw[he] at hf e1 e2 ⊢
  rw[aH rfl] at e1 e2
  have hp:=Pl.fits_nil hf
  subst hp
  exact (zc (zy (xe (ju e1 rfl) (zia e2)))).trans rfl
 ·rw[aQ he] at e1 e2
  exact (zc (zy (xe (zia e1) (ju e2 (w_nt (bb:=true) (zm rfl (hc he))))))).trans rfl
theorem zb3(hm:m4 m):∀ (p:Pl) (cs:Cs) (v:V),Seen [b₀,b₁] v (zb cs)→p.fits m cs→Ok12 m cs→cs≠[]→∀ k,zg P table (k+p.hgt+4) false 29 [.d (.int m),v,.d p.toD] [b₀,b₁]=.ok (.d (.bool true)) [b₀,b₁]
 | .no,cs,v,_,h,_,hne,_=>absurd h hne
 | .told c,cs,v,hv,h,hc,_,k=>by
   have h:cs=[c]:=h
   subst h
   have hg:good m c:=hc.good c (.head _)
   exact zj (fn:=c29) (ρ':=RP m v (Pl.told c).toD none none none) rfl ⟨rfl,by decide⟩ rfl ((zc (zy rfl)).trans (ze ((w_if (bb:=true) (zx rfl rfl q_TT)).trans (ze (z9 (ju rfl (ju (zx (xa rfl rfl (zcz hv (by show 1≤line;decide))) rfl rfl) (zm (zl (y4 rfl rfl rfl) (zl (y4 rfl rfl (zju hv.look)) rfl)) (zff (k:=k+1) hm hg)))))))))
 | .weigh w a b c,cs,v,hv,h,hc,hne,k=>by
   refine fF h ?_;clear h;intro hw _ ha hb hd
   have up:∀ {p:Pl} {o:Int},p.fits m (zf w o cs)→p.hgt≤max a.hgt (max b.hgt c.hgt)→(Ok12 m (zf w o cs)→zf w o cs≠[]→∀ k,zg P table (k+p.hgt+4) false 29 [.d (.int m),.d (.list (zb (zf w o cs))),.d p.toD] [b₀,b₁]=.ok (.d (.bool true)) [b₀,b₁])→zf w o cs≠[]→zg P table (k+max a.hgt (max b.hgt c.hgt)+3+1) false 29 [.d (.int m),.d (.list (zb (zf w o cs))),.d p.toD] [b₀,b₁]=.ok (.d (.bool true)) [b₀,b₁]:=fun {p o} hp hle ih hn=>by
    have:=ih (hc.part w o) hn (k+(max a.hgt (max b.hgt c.hgt) - p.hgt))
    rwa [show k+(max a.hgt (max b.hgt c.hgt) - p.hgt)+p.hgt+4=k+max a.hgt (max b.hgt c.hgt)+3+1 by lia] at this
   have u1:=up ha (bl _ _) (zb3 hm a _ _ (.d _) ha)
   have u2:=up hb (aq (bl _ _) (aY _ _)) (zb3 hm b _ _ (.d _) hb)
   have u3:=up hd (aq (aY _ _) (aY _ _)) (zb3 hm c _ _ (.d _) hd)
   have ef:evS (PG (k+max a.hgt (max b.hgt c.hgt)+4) false) (.for_ (.name 3) (.range (.int 0) (.int 3)) znq) (RP m v (Pl.weigh w a b c).toD none none none) [b₀,b₁]=.ok .next (RP m v (Pl.weigh w a b c).toD (some (.d (.int 2))) (some (.d (.list (zb (zf w 1 cs))))) (some (.d c.toD)),[b₀,b₁]):=by
    rw[qw,ai ak]
    exact (yo (ys:=[.int 0,.int 1,.int 2]) (xs:=[.int 1,.int 2]) (zd9 (i:=0) (k:=k+max a.hgt (max b.hgt c.hgt)+3) hm hc hv hw (by decide) rfl ha u1)).trans ((yo (xs:=[.int 2]) (zd9 (i:=1) (k:=k+max a.hgt (max b.hgt c.hgt)+3) hm hc hv hw (by decide) rfl hb u2)).trans ((yo (zd9 (i:=2) (k:=k+max a.hgt (max b.hgt c.hgt)+3) hm hc hv hw (by decide) rfl hd u3)).trans rfl))
   exact zj (fn:=c29) rfl ⟨rfl,by decide⟩ rfl ((zc (zy rfl)).trans ((zc (zy (zx rfl rfl q_WT))).trans ((zc (zy (xe (zx rfl rfl n_WW) (xe rfl (w_nt (bb:=true) (zm rfl (zsk (k:=k+max a.hgt (max b.hgt c.hgt)+1) hm hw))))))).trans ((zc (zy rfl)).trans ((zc ef).trans (ze (z9 rfl)))))))
end
noncomputable abbrev sM:Str:=Str.ofString "many"
noncomputable abbrev sE:Str:=Str.ofString "each"
theorem q_MM{O:za}:cmpV .eq (.d (.str sM)) (.d (.str sM)) O=.ok (.d (.bool true)) O:=by kernel_rfl
theorem q_EM{O:za}:cmpV .eq (.d (.str sE)) (.d (.str sM)) O=.ok (.d (.bool false)) O:=by kernel_rfl
theorem n_EE{O:za}:cmpV .ne (.d (.str sE)) (.d (.str sE)) O=.ok (.d (.bool false)) O:=by kernel_rfl
theorem zc0{m n:Nat}{cs:Cs}(ih:∀ {cs:Cs} {y:PyData},Hd m n cs y→y.canLay0=true):∀ {ws:List Wg} {ys:List PyData},po (Row m n cs) ws ys→PyData.canLayAll0 ys=true
 | [],ys,h=>by subst h;rfl
 | w::ws,ys,h=>by
   refine fh h ?_;clear h;intro y zs dY hr h;subst dY
   refine fh hr ?_;clear hr;intro o z dY _ hz;subst dY
   show ((true && (z.canLay0 && true)) && PyData.canLayAll0 zs)=true
   rw[zc0 ih h,ih hz];rfl
theorem zc1{m:Nat}:∀ {n:Nat} {cs:Cs} {y:PyData},Hd m n cs y→y.canLay0=true
 | 0,cs,y,h=>by rw[h.2];decide +kernel
 | n+1,cs,y,h=>by
   refine eS h ?_ ?_<;>clear h
   ·intro h;rw[h.2];decide +kernel
   ·rintro ⟨ys,rfl,h⟩;show ((PyData.str (Str.ofString "each")).canLay0 && (PyData.canLayAll0 ys && true))=true
    rw[zc0 (fun h=>zc1 h) h];decide +kernel
theorem each_nil{ys:List PyData}{O:za}(h:(y0 ys).canLay0=true):cmpV .eq (.d (y0 ys)) (.d (.tuple [])) O=.ok (.d (.bool false)) O:=by
 have hk:eqOk (y0 ys) (.tuple [])=true:=by
  unfold eqOk
  rw[h,aH (aq (Nat.min_le_right _ _) (by decide))];decide +kernel
 rw[v_eq]
 show opt (Option.map _ (if eqOk (y0 ys) (.tuple [])=true then some (PyData.eqv (y0 ys) (.tuple [])) else none)) O=_
 rw[ah hk];rfl
noncomputable abbrev RH(m n:Nat)(v:V)(y:PyData)(a b c:Option V):Loc:=[some (.d (.list (due m))),some v,some (.d (.int (n:Int))),some (.d y),a,b,c,none]
noncomputable def zjx:CSs:=(.cons (.asg (.name 5) (.idx (.idx (.loc 3) (.int 1)) (.loc 4))) (.cons (.ife (.or_ (.nt (.prim (.isinst .tuple) (.cons (.loc 5) .nil))) (.or_ (.cmp .ne (.prim .len (.cons (.loc 5) .nil)) (.int 2)) (.or_ (.nt (.call 23 (.cons (.idx (.loc 5) (.int 0)) .nil))) (.nt (.chain .le .le (.neg (.int 1)) (.idx (.loc 5) (.int 0)) (.int 1)))))) (.cons (.ret (.bool false)) .nil) .nil) (.cons (.asg (.name 6) (.comp (.loc 7) (.name 7) (.e (.loc 1)) (.cons (.cmp .eq (.call 24 (.cons (.idx (.loc 0) (.loc 4)) (.cons (.loc 7) .nil))) (.idx (.loc 5) (.int 0))) .nil))) (.cons (.ife (.nt (.call 32 (.cons (.loc 0) (.cons (.loc 6) (.cons (.bin .sub (.loc 2) (.int 1)) (.cons (.idx (.loc 5) (.int 1)) .nil)))))) (.cons (.ret (.bool false)) .nil) .nil) .nil))))
theorem zjv{xs:List PyData}{x:PyData}{i:Nat}{O:za}(hl:xs.length≤line)(h:xs[i]?=some x):idxV (.d (.list xs)) (.d (.int (i:Int))) O=.ok (.d x) O:=by
 rw[zcd]
 have e2:idxD (.list xs) (.int (i:Int))=some x:=by
  unfold idxD items
  dsimp only
  rw[ah hl,ah (Int.natCast_nonneg i),bK]
  exact h
 rw[e2];rfl
theorem zmk{xs:List PyData}{x:PyData}{i:Nat}{O:za}(hl:xs.length≤line)(h:xs[i]?=some x):idxV (.d (.tuple xs)) (.d (.int (i:Int))) O=.ok (.d x) O:=by
 rw[zcd]
 have e2:idxD (.tuple xs) (.int (i:Int))=some x:=by
  unfold idxD items
  dsimp only
  rw[ah hl,ah (Int.natCast_nonneg i),bK]
  exact h
 rw[e2];rfl
section
variable{m k n:Nat}{cs:Cs}{y:PyData}{b₀ b₁:Box}{v:V}
theorem zcp{α:Type}{Q:α→PyData→Prop}:∀ {ws:List α} {ys:List PyData},po Q ws ys→ys.length=ws.length
 | [],ys,h=>by have h:ys=[]:=h;subst h;rfl
 | w::ws,ys,h=>by
   refine fh h ?_;clear h;intro y zs dY _ h;subst dY
   rw[a0,a0,zcp h]
theorem zi5{O:za}:cmpV .eq (.d zan) (.d (.tuple [])) O=.ok (.d (.bool false)) O:=by kernel_rfl
theorem zay(h:Ok12 m cs)(hv:Seen [b₀,b₁] v (zb cs))(hn:n≤11)(hl:3 ^ n < cs.length):zg P table (k+2) false 32 [.d (.list (due m)),v,.d (.int (n:Int)),.d zan] [b₀,b₁]=.ok (.d (.bool true)) [b₀,b₁]:=by
 have e:evE (PG (k+1) false) (RH m n v zan none none none) (.cmp .gt (.prim .len (.cons (.loc 1) .nil)) (.call 31 (.cons (.loc 2) .nil))) [b₀,b₁]=.ok (.d (.bool true)) [b₀,b₁]:=by
  refine (zx (xa rfl rfl (x9 hv.look h.line)) (zm rfl (zhm hn)) v_gt).trans ?_
  rw[zr,aH (Int.ofNat_lt.mpr hl)]
 exact zj (fn:=c32) rfl ⟨rfl,by decide⟩ rfl ((zc (zy (xe (w_nt (bb:=true) rfl) (xe (zx rfl rfl zi5) (w_nt (bb:=true) rfl))))).trans (ze ((w_if (bb:=true) (zx rfl rfl q_MM)).trans (ze (z9 (ju rfl e))))))
theorem zon(hm:m4 m)(h:Ok12 m cs)(hv:Seen [b₀,b₁] v (zb cs)){ys:List PyData}(hyl:ys.length≤line)(hdl:(due m).length≤line){i:Nat}{w:Wg}{row:PyData}(hw:w∈dueI m)(hwi:(due m)[i]?=some (wD w))(hri:ys[i]?=some row)(hr:Row m n cs w row)
 (ih:∀ {cs:Cs} {y:PyData},Hd m n cs y→Ok12 m cs→zg P table (k+1) false 32 [.d (.list (due m)),.d (.list (zb cs)),.d (.int (n:Int)),.d y] [b₀,b₁]=.ok (.d (.bool true)) [b₀,b₁]) {a b c:Option V} :
 ∃ b' c',yw (PG (k+1) false) (.name 4) zjx (.int (i:Int)) (RH m (n+1) v (y0 ys) a b c) [b₀,b₁]=.ok .next (RH m (n+1) v (y0 ys) (some (.d (.int (i:Int)))) b' c',[b₀,b₁]):=by
 refine fh hr ?_;clear hr;intro o z dY ho hz;subst dY
 have hw':w∈wsI m:=dO.mpr ⟨w,hw,.head _⟩
 have hnum:((n+1:Nat):Int) - 1=(n:Int):=by lia
 refine fD (some (.d (rowD o z))) (some (.d (.list (zb (zf w o cs))))) ?_
 have ep:=zb4 (v:=v) (k:=k+1) (f:=24) (a:=7) (b:=1) (w:=w) (o:=o) (wx:=.idx (.loc 0) (.loc 4)) (ox:=.idx (.loc 5) (.int 0)) (ρ:=RH m (n+1) v (y0 ys) (some (.d (.int (i:Int)))) (some (.d (rowD o z))) c) (O:=[b₀,b₁]) h (zgc hm hw') rfl rfl hv (fun uA=>y4 rfl rfl (zjv hdl hwi)) fun uA=>y4 rfl rfl rfl
 have ech:evE (PG (k+1) false) (RH m (n+1) v (y0 ys) (some (.d (.int (i:Int)))) (some (.d (rowD o z))) c) (.chain .le .le (.neg (.int 1)) (.idx (.loc 5) (.int 0)) (.int 1)) [b₀,b₁]=.ok (.d (.bool true)) [b₀,b₁]:=by
  refine eS (af.mp ho) ?_ ?_;rotate_left;intro ho;rotate_right;rintro rfl
  ·rfl
  refine eS (af.mp ho) ?_ ?_
  ·rintro rfl;rfl
  ·intro ho;rw[ae.mp ho];rfl
 have ew:evE (PG (k+1) false) (RH m (n+1) v (y0 ys) (some (.d (.int (i:Int)))) (some (.d (rowD o z))) c) (.call 23 (.cons (.idx (.loc 5) (.int 0)) .nil)) [b₀,b₁]=.ok (.d (.bool true)) [b₀,b₁]:=zm (zl (y4 rfl rfl rfl) rfl) (zb2 (k:=k))
 have ec:evE (PG (k+1) false) (RH m (n+1) v (y0 ys) (some (.d (.int (i:Int)))) (some (.d (rowD o z))) (some (.d (.list (zb (zf w o cs)))))) (.call 32 (.cons (.loc 0) (.cons (.loc 6) (.cons (.bin .sub (.loc 2) (.int 1)) (.cons (.idx (.loc 5) (.int 1)) .nil))))) [b₀,b₁]=.ok (.d (.bool true)) [b₀,b₁]:=by
  refine zm (zl rfl (zl rfl (zl (xk rfl rfl zas) (zl (y4 rfl rfl rfl) rfl)))) ?_
  rw[hnum];exact ih hz (h.part w o)
 exact (zc (P:=PG (k+1) false) (ρ:=RH m (n+1) v (y0 ys) (some (.d (.int (i:Int)))) b c) (z7 (y4 (y4 rfl rfl rfl) rfl (zmk hyl hri)) rfl rfl)).trans ((zc (zy (xe (w_nt (bb:=true) rfl) (xe rfl (xe (w_nt (bb:=true) ew) (w_nt (bb:=true) ech)))))).trans ((zc (z7 ep rfl rfl)).trans ((zc (zy (w_nt (bb:=true) ec))).trans rfl)))
theorem zjh(hm:m4 m)(h:Ok12 m cs)(hv:Seen [b₀,b₁] v (zb cs)){ys:List PyData}(hyl:ys.length≤line)(hdl:(due m).length≤line){us:List PyData}
 (ih:∀ {cs:Cs} {y:PyData},Hd m n cs y→Ok12 m cs→zg P table (k+1) false 32 [.d (.list (due m)),.d (.list (zb cs)),.d (.int (n:Int)),.d y] [b₀,b₁]=.ok (.d (.bool true)) [b₀,b₁]):∀ (ws:List Wg) (zs:List PyData) (i:Nat) (a b c:Option V),(dueI m).drop i=ws→ys.drop i=zs→po (Row m n cs) ws zs →
 ∃ a' b' c',zq (.plain us) (yw (PG (k+1) false) (.name 4) zjx) ((ws.zipIdx i).map fun p=>.int (p.2:Int)) (RH m (n+1) v (y0 ys) a b c) [b₀,b₁]=.ok .next (RH m (n+1) v (y0 ys) a' b' c',[b₀,b₁])
 | [],zs,i,a,b,c,_,_,_=>⟨a,b,c,rfl⟩
 | w::ws,zs,i,a,b,c,hd,hz,hr=>by
   refine fh hr ?_;clear hr;intro row zs dY hrow hr;subst dY
   have hwi:(dueI m)[i]?=some w:=by
    have:((dueI m).drop i)[0]?=some w:=by rw[hd];rfl
    rwa [List.getElem?_drop,Nat.add_zero] at this
   have hri:ys[i]?=some row:=by
    have:(ys.drop i)[0]?=some row:=by rw[hz];rfl
    rwa [List.getElem?_drop,Nat.add_zero] at this
   have hdi:(due m)[i]?=some (wD w):=by
    show ((dueI m).map wD)[i]?=_
    rw[aT,hwi];rfl
   refine fA (zon (k:=k) (a:=a) (b:=b) (c:=c) hm h hv hyl hdl (aw hwi) hdi hri hrow ih) ?_;intro b' c' e
   refine fA (zjh hm h hv hyl hdl (us:=us) ih ws zs (i+1) (some (.d (.int (i:Int)))) b' c' (by rw[← List.drop_drop,hd];rfl) (by rw[← List.drop_drop,hz];rfl) hr) ?_;intro a₂ b₂ dY;refine eZ dY ?_;clear dY;intro c₂ e₂
   rw[List.zipIdx_cons,a9]
   exact⟨a₂,b₂,c₂,(yo e).trans e₂⟩
theorem ziv{α:Type}{l:List α}:z6 0 (l.length:Int)=(l.zipIdx 0).map fun p=>.int (p.2:Int):=by
 rw[show (fun p:α×Nat=>PyData.int (p.2:Int))=(fun i:Nat=>PyData.int (i:Int))∘Prod.snd from rfl,← cO,List.zipIdx_map_snd,← List.range_eq_range']
 unfold z6
 rw[Int.sub_zero,bK]
 exact cP fun i uA=>by rw[Int.zero_add]
theorem zkl(hm:m4 m):∀ {n:Nat} {cs:Cs} {y:PyData} {v:V},Seen [b₀,b₁] v (zb cs)→n≤11→Hd m n cs y→Ok12 m cs→zg P table (k+n+2) false 32 [.d (.list (due m)),v,.d (.int (n:Int)),.d y] [b₀,b₁]=.ok (.d (.bool true)) [b₀,b₁]
 | 0,cs,y,v,hv,hn,hy,h=>by rw[hy.2];exact zay h hv hn hy.1
 | n+1,cs,y,v,hv,hn,hy,h=>by
   refine eS hy ?_ ?_<;>clear hy
   ·rintro ⟨hl,rfl⟩;exact zay (k:=k+n+1) h hv hn hl
   ·rintro ⟨ys,rfl,hy⟩;have hlen:ys.length=(dueI m).length:=zcp hy
    have h25:=zkn hm
    have hdm:(due m).length=(dueI m).length:=aG _
    have hyl:ys.length≤line:=by rw[hlen];exact aq h25 (by decide)
    have hdl:(due m).length≤line:=by rw[hdm];exact aq h25 (by decide)
    have el:∀ {q:Nat},evE (PG q false) (RH m (n+1) v (y0 ys) none none none) (.prim .len (.cons (.loc 0) .nil)) [b₀,b₁]=.ok (.d (.int ((dueI m).length:Int))) [b₀,b₁]:=by
     intro q
     refine (xa rfl rfl (x9 rfl hdl)).trans ?_
     rw[hdm]
    have ey:evE (PG (k+n+2) false) (RH m (n+1) v (y0 ys) none none none) (.prim .len (.cons (.idx (.loc 3) (.int 1)) .nil)) [b₀,b₁]=.ok (.d (.int ((dueI m).length:Int))) [b₀,b₁]:=by
     refine (xa rfl (y4 rfl rfl rfl) (zo6 hyl)).trans ?_
     rw[hlen]
    have e4:evE (PG (k+n+2) false) (RH m (n+1) v (y0 ys) none none none) (.cmp .ne (.prim .len (.cons (.idx (.loc 3) (.int 1)) .nil)) (.prim .len (.cons (.loc 0) .nil))) [b₀,b₁]=.ok (.d (.bool false)) [b₀,b₁]:=(zx ey el ne_int).trans (by rw[aH rfl];rfl)
    have e0:evE (PG (k+n+2) false) (RH m (n+1) v (y0 ys) none none none) (.cmp .eq (.loc 2) (.int 0)) [b₀,b₁]=.ok (.d (.bool false)) [b₀,b₁]:=(zx rfl rfl eq_int).trans (by rw[aQ (by lia)])
    have hly:(y0 ys).canLay0=true:=zc1 (m:=m) (n:=n+1) (cs:=cs) (.inr ⟨ys,rfl,hy⟩)
    have eT:evE (PG (k+n+2) false) (RH m (n+1) v (y0 ys) none none none) (.cmp .eq (.loc 3) (.tup .nil)) [b₀,b₁]=.ok (.d (.bool false)) [b₀,b₁]:=zx rfl rfl (each_nil hly)
    have hI:evI (PG (k+n+2) false) (RH m (n+1) v (y0 ys) none none none) (.range (.int 0) (.prim .len (.cons (.loc 0) .nil))) [b₀,b₁]=.ok (.plain (z6 0 ((dueI m).length:Int))) [b₀,b₁]:=by
     rw[zld,zcb,yb,el,yb]
     exact zem (by lia)
    refine fA (zjh (k:=k+n+1) (us:=z6 0 ((dueI m).length:Int)) hm h hv hyl hdl (fun h1 h2=>zkl hm (.d _) (by exact Nat.le_of_lt (by assumption)) h1 h2) (dueI m) ys 0 none none none rfl rfl hy) ?_;intro a b dY;refine eZ dY ?_;clear dY;intro c e
    have ef:evS (PG (k+n+2) false) (.for_ (.name 4) (.range (.int 0) (.prim .len (.cons (.loc 0) .nil))) zjx) (RH m (n+1) v (y0 ys) none none none) [b₀,b₁]=.ok .next (RH m (n+1) v (y0 ys) a b c,[b₀,b₁]):=by
     rw[qw,ai ak,hI,← e,← ziv]
     rfl
    exact zj (fn:=c32) rfl ⟨rfl,by decide⟩ rfl ((zc (zy (xe (w_nt (bb:=true) rfl) (xe eT (w_nt (bb:=true) rfl))))).trans ((zc (zy (zx rfl rfl q_EM))).trans ((zc (zy (xe (zx rfl rfl n_EE) (xe rfl (xe e0 (w_nt (bb:=true) rfl)))))).trans ((zc (zy e4)).trans ((zc ef).trans (ze (z9 rfl)))))))
end
section
variable{ws:List Wg}
theorem vb:∀ {n:Nat} {cs cs':Cs},cs.Perm cs'→solv ws n cs=true→solv ws n cs'=true
 | 0,cs,cs',hp,h=>by
   have h:(cs.length == 1)=true:=h
   show (cs'.length == 1)=true
   rw[← hp.length_eq];exact h
 | n+1,cs,cs',hp,h=>by
   rw[solv_succ] at h ⊢
   rw[← hp.length_eq]
   refine h.imp id fun ⟨hl,w,hw,h⟩=>⟨hl,w,hw,fun o ho=>?_⟩
   have hq:(zf w o cs).Perm (zf w o cs'):=hp.filter _
   refine (h o ho).imp (fun e=>?_) fun h=>vb hq h
   rw[e] at hq
   exact hq.nil_eq.symm
theorem zab{n:Nat}{cs cs':Cs}(hp:cs.Perm cs'):solv ws n cs=solv ws n cs':=Bool.eq_iff_iff.mpr ⟨vb hp,vb hp.symm⟩
theorem zfk{a b:List Int}:ym ws a b=ym ws b a:=by
 unfold ym
 congr 1
 funext w
 exact decide_eq_decide.mpr ⟨Eq.symm,Eq.symm⟩
theorem zfx{cs cs':Cs}(hp:cs.Perm cs'):Pw ws cs↔Pw ws cs':=hp.pairwise_iff fun h=>by rw[zfk];exact h
noncomputable def pwB(ws:List Wg):Cs→Bool
 | []=>true
 | c::cs=>cs.all (fun b=>!ym ws c b) && pwB ws cs
theorem p0:∀ cs:Cs,Pw ws cs↔pwB ws cs=true
 | []=>⟨fun uA=>rfl,fun uA=>.nil⟩
 | c::cs=>by
   show List.Pairwise _ _↔(cs.all (fun b=>!ym ws c b) && pwB ws cs)=true
   rw[aA,aD,aU,← p0 cs]
   exact and_congr (forall_congr' fun b=>forall_congr' fun uA=>by rw[bI]) Iff.rfl
end
noncomputable def oneI(m:Nat)(w:Int):Cs:=(List.range m).map fun i=>(List.range m).map fun k=>if k=i then w else 0
noncomputable def twoI(m:Nat)(w:Int):Cs:=(List.range m).flatMap fun i=>(List.range i).map fun j=>(List.range m).map fun k=>if k=i∨k=j then w else 0
noncomputable def anyI:Nat→Cs
 | 0=>[[]]
 | m+1=>(anyI m).map (·++[0])++(anyI m).map (·++[1])
noncomputable def y7(kd m:Nat):Cs×Option Nat:=match kd with
 | 0=>(oneI m 1,[1,1,2,2][m - 2]?)
 | 1=>(oneI m (-1),[1,1,2,2][m - 2]?)
 | 2=>(oneI m 1++oneI m (-1),[none,some 2,some 3,some 3][m - 2]?.join)
 | 3=>(oneI m 1++oneI m (-1)++[List.replicate m 0],[none,some 2,some 3,some 3][m - 2]?.join)
 | 4=>(twoI m 1,[0,1,2,3][m - 2]?)
 | 5=>(twoI m (-1),[0,1,2,3][m - 2]?)
 | _=>(anyI (min m 3),none)
noncomputable def dueD:Option Nat→PyData
 | none=>.none
 | some n=>.int (n:Int)
noncomputable def kms:List (Nat×Nat):=[(0,2),(0,3),(0,4),(0,5),(1,2),(1,3),(1,4),(1,5),(2,2),(2,3),(2,4),(2,5),(3,2),(3,3),(3,4),(3,5),(4,2),(4,3),(4,4),(4,5),(5,2),(5,3),(5,4),(5,5),(6,2),(6,3)]
theorem zl5{kd m:Nat}(hk:kd < 7)(hm:m4 m)(h6:kd=6→m≤3):(kd,m)∈kms:=by
 have:kd=0∨kd=1∨kd=2∨kd=3∨kd=4∨kd=5∨kd=6:=by lia
 rcases this with rfl | rfl | rfl | rfl | rfl | rfl | rfl
 ·rcases jf hm with rfl | rfl | rfl | rfl <;> decide
 ·rcases jf hm with rfl | rfl | rfl | rfl <;> decide
 ·rcases jf hm with rfl | rfl | rfl | rfl <;> decide
 ·rcases jf hm with rfl | rfl | rfl | rfl <;> decide
 ·rcases jf hm with rfl | rfl | rfl | rfl <;> decide
 ·rcases jf hm with rfl | rfl | rfl | rfl <;> decide
 ·have:m=2∨m=3:=by have:=hm.1;have:=h6 rfl;lia
  (refine eS this ?_ ?_<;>clear this;rotate_left;rintro rfl;rotate_right;rintro rfl) <;> decide
noncomputable def kms5:List (Nat×Nat):=kms.take 24
noncomputable abbrev zpc(k:Nat)(l:List (Nat×Nat)):Prop:=l.map (fun p=>zg P table (k+2) false 36 [.d (.int p.1),.d (.int p.2)] [])=l.map fun p=>.ok (.tm [.b 0,.x (dueD (y7 p.1 p.2).2)]) [.lst (zb (y7 p.1 p.2).1)]
theorem zjj{k:Nat}:zpc k kms5:=by kernel_rfl
noncomputable def anyB:CSs:=.cons (.asg (.name 1) (.boxed (.bin .add (.comp (.bin .add (.loc 3) (.tup (.cons (.int 0) .nil))) (.name 3) (.e (.loc 1)) .nil) (.comp (.bin .add (.loc 4) (.tup (.cons (.int 1) .nil))) (.name 4) (.e (.loc 1)) .nil)))) .nil
theorem zkg{k a:Nat}{i:Int}{cs:Cs}{ρ:Loc}{O:za}{v:V}(ha:Nat.blt a ρ.length=true)(h1:ρ[1]?=some (some v))(hv:Seen O v (zb cs))(hl:cs.length≤12)(hc:∀ c∈cs,c.length≤5):evE (PG k false) ρ (.comp (.bin .add (.loc a) (.tup (.cons (.int i) .nil))) (.name a) (.e (.loc 1)) .nil) O=.ok (.d (.list (zb (cs.map (·++[i]))))) O:=by
 have hL:line=1000000:=rfl
 have ha:a < ρ.length:=bU ha
 obtain⟨src,s1,s2,s3⟩:=hv.src
 have hI:evI (PG k false) ρ (.e (.loc 1)) O=.ok src O:=by rw[x_e,j4,h1];exact s1
 have e:=zbe (P:=PG k false) (ρ:=ρ) (elt:=.bin .add (.loc a) (.tup (.cons (.int i) .nil))) (tgt:=.name a) (it:=.e (.loc 1)) (O:=O) rfl hI s3 (by rw[s2,zr];lia) (fun x=>caseD (unC x++[i])) fun x hx=>by
  rw[s2] at hx
  refine eV (aC.mp hx) ?_;intro c hcm dY;subst dY
  have ea:evE (PG k false) (ρ.set a (some (.d (caseD c)))) (.loc a) O=.ok (.d (caseD c)) O:=by rw[j4,bN ha];rfl
  have:=hc c hcm
  refine eW (ρ.set a (some (.d (caseD c)))) (ah ha) (xk ea rfl ((zpd (a:=c.map .int) (b:=[.int i]) ?_).trans ?_))
  ·rw[aG,bV];lia
  ·rw[kf]
   show _=R.ok (V.d (.tuple ((c++[i]).map .int))) O
   rw[cY];rfl
 rw[e,s2]
 congr 3
 unfold zb
 rw[cO,cO]
 exact cP fun c uA=>by show caseD (unC (caseD c)++[i])=_;rw[kf];rfl
theorem zh0{cs cs':Cs}:zb cs++zb cs'=zb (cs++cs'):=by unfold zb;rw[cY]
theorem zih{k n:Nat}{i m:Int}{cs:Cs}{O:za}{z:Option V}(hv:O[n]?=some (.lst (zb cs)))(hl:cs.length≤12)(hc:∀ c∈cs,c.length≤5):yw (PG k false) (.name 2) anyB (.int i) [some (.d (.int m)),some (.box n),z,none,none] O=.ok .next ([some (.d (.int m)),some (.box O.length),some (.d (.int i)),none,none],O++[.lst (zb (cs.map (·++[0])++cs.map (·++[1])))]):=by
 have hL:line=1000000:=rfl
 have e1:=zkg (k:=k) (a:=3) (i:=0) (ρ:=[some (.d (.int m)),some (.box n),some (.d (.int i)),none,none]) rfl rfl (.box n _ hv) hl hc
 have e2:=zkg (k:=k) (a:=4) (i:=1) (ρ:=[some (.d (.int m)),some (.box n),some (.d (.int i)),none,none]) rfl rfl (.box n _ hv) hl hc
 have e3:evE (PG k false) [some (.d (.int m)),some (.box n),some (.d (.int i)),none,none] (.boxed (.bin .add (.comp (.bin .add (.loc 3) (.tup (.cons (.int 0) .nil))) (.name 3) (.e (.loc 1)) .nil) (.comp (.bin .add (.loc 4) (.tup (.cons (.int 1) .nil))) (.name 4) (.e (.loc 1)) .nil))) O=.ok (.box O.length) (O++[.lst (zb (cs.map (·++[0])++cs.map (·++[1])))]):=by
  rw[zlf,xk e1 e2 (zpe (by rw[zr,zr,aG,aG];lia)),yb,zqp,zh0]
 exact (zc (P:=PG k false) (ρ:=[some (.d (.int m)),some (.box n),some (.d (.int i)),none,none]) (z7 e3 rfl rfl)).trans rfl
theorem x5:∀ m,m≤3→(anyI m).length≤12∧∀ c∈anyI m,c.length≤5:=by decide
theorem zsm{k m:Nat}(h:m=2∨m=3):zg P table (k+1) false 35 [.d (.int m)] []=.ok (.box 0) [.lst (zb (anyI m))]:=by
 have t0:=fun (z:Option V)=>zih (k:=k) (n:=0) (i:=0) (m:=(m:Int)) (cs:=anyI 0) (O:=[.lst (zb (anyI 0))]) (z:=z) rfl (x5 0 (by decide)).1 (x5 0 (by decide)).2
 have t1:=fun (z:Option V)=>zih (k:=k) (n:=1) (i:=1) (m:=(m:Int)) (cs:=anyI 1) (O:=[.lst (zb (anyI 0)),.lst (zb (anyI 1))]) (z:=z) rfl (x5 1 (by decide)).1 (x5 1 (by decide)).2
 have t2:=fun (z:Option V)=>zih (k:=k) (n:=2) (i:=2) (m:=(m:Int)) (cs:=anyI 2) (O:=[.lst (zb (anyI 0)),.lst (zb (anyI 1)),.lst (zb (anyI 2))]) (z:=z) rfl (x5 2 (by decide)).1 (x5 2 (by decide)).2
 have fin1:∀ {n:Nat} {ρ':Loc} {O':za} {xs:List PyData},evSs (PG k false) c35.body [some (.d (.int m)),none,none,none,none] []=.ok (.ret (.box n)) (ρ',O')→O'[n]?=some (.lst xs)→zg P table (k+1) false 35 [.d (.int m)] []=.ok (.box 0) [.lst xs]:=fun {n ρ' O' xs} h hx=>by
  rw[jr (fn:=c35) rfl ⟨rfl,by decide⟩,evFn]
  show (match evSs (PG k false) c35.body [some (.d (.int m)),none,none,none,none] [] with
   | .ok (.ret v) S=>fin 0 true v S.2
   | .ok .next S=>.ok (.d .none) (S.2.take 0)
   | .stuck=>.stuck)=_
  rw[h]
  show vm 0 true n O'=_
  unfold vm
  rw[ai (bq _),hx];rfl
 refine eS h ?_ ?_<;>clear h
 ·rintro rfl;refine fin1 (n:=2) ((zc (z7 (v:=.box 0) (O':=[.lst (zb (anyI 0))]) rfl rfl rfl)).trans ((zc (ρ':=[some (.d (.int (2:Nat))),some (.box 2),some (.d (.int 1)),none,none]) (O':=[.lst (zb (anyI 0)),.lst (zb (anyI 1)),.lst (zb (anyI 2))]) ?_).trans (ze (z9 rfl)))) rfl
  rw[qw,ai ak]
  exact (yo (ys:=[.int 0,.int 1]) (xs:=[.int 1]) (t0 none)).trans ((yo (t1 _)).trans rfl)
 ·rintro rfl;refine fin1 (n:=3) ((zc (z7 (v:=.box 0) (O':=[.lst (zb (anyI 0))]) rfl rfl rfl)).trans ((zc (ρ':=[some (.d (.int (3:Nat))),some (.box 3),some (.d (.int 2)),none,none]) (O':=[.lst (zb (anyI 0)),.lst (zb (anyI 1)),.lst (zb (anyI 2)),.lst (zb (anyI 3))]) ?_).trans (ze (z9 rfl)))) rfl
  rw[qw,ai ak]
  exact (yo (ys:=[.int 0,.int 1,.int 2]) (xs:=[.int 1,.int 2]) (t0 none)).trans ((yo (xs:=[.int 2]) (t1 _)).trans ((yo (t2 _)).trans rfl))
theorem zqz{P:Pg}{ρ:Loc}{es:CEs}{vs:List V}{v:V}{O O':za}(h:evEs P ρ es O=.ok vs O')(h':tupV vs=some v):evE P ρ (.tup es) O=.ok v O':=by rw[zh4,h,yb,h'];rfl
theorem zdf{k m:Nat}(h:m=2∨m=3):zg P table (k+2) false 36 [.d (.int (6:Nat)),.d (.int m)] []=.ok (.tm [.b 0,.x .none]) [.lst (zb (anyI m))]:=by
 have ea:=zsm (k:=k) h
 have hb:evSs (PG (k+1) false) c36.body [some (.d (.int (6:Nat))),some (.d (.int m)),none] []=.ok (.ret (.tm [.b 0,.x .none])) ([some (.d (.int (6:Nat))),some (.d (.int m)),some (.d (.list [.tuple (List.replicate m (.int 0))]))],[.lst (zb (anyI m))]):=by
  have e0:evE (PG (k+1) false) [some (.d (.int (6:Nat))),some (.d (.int m)),none] (.list (.cons (.bin .mul (.tup (.cons (.int 0) .nil)) (.loc 1)) .nil)) []=.ok (.d (.list [.tuple (List.replicate m (.int 0))])) []:=by (refine eS h ?_ ?_<;>clear h;rotate_left;rintro rfl;rotate_right;rintro rfl) <;> rfl
  have em:evE (PG (k+1) false) [some (.d (.int (6:Nat))),some (.d (.int m)),some (.d (.list [.tuple (List.replicate m (.int 0))]))] (.min2 (.loc 1) (.int 3)) []=.ok (.d (.int m)) []:=by (refine eS h ?_ ?_<;>clear h;rotate_left;rintro rfl;rotate_right;rintro rfl) <;> rfl
  exact (zc (z7 e0 rfl rfl)).trans ((zc (zy rfl)).trans ((zc (zy rfl)).trans ((zc (zy rfl)).trans ((zc (zy rfl)).trans (ze (z9 (zqz (zl (zm (zl em rfl) ea) (zl rfl rfl)) rfl)))))))
 rw[jr (fn:=c36) rfl ⟨rfl,by decide⟩,evFn]
 show (match evSs (PG (k+1) false) c36.body [some (.d (.int (6:Nat))),some (.d (.int m)),none] [] with
  | .ok (.ret v) S=>fin 0 true v S.2
  | .ok .next S=>.ok (.d .none) (S.2.take 0)
  | .stuck=>.stuck)=_
 rw[hb];rfl
theorem zkj{k:Nat}{p:Nat×Nat}(h:p∈kms5):zg P table (k+2) false 36 [.d (.int p.1),.d (.int p.2)] []=.ok (.tm [.b 0,.x (dueD (y7 p.1 p.2).2)]) [.lst (zb (y7 p.1 p.2).1)]:=kj (zjj (k:=k)) h
theorem zmz{k kd m:Nat}(h:(kd,m)∈kms):zg P table (k+2) false 36 [.d (.int kd),.d (.int m)] []=.ok (.tm [.b 0,.x (dueD (y7 kd m).2)]) [.lst (zb (y7 kd m).1)]:=by
 have:(kd,m)∈kms5++[(6,2),(6,3)]:=h
 refine eS (aj.mp this) ?_ ?_;rotate_left;intro h;rotate_right;intro h
 ·exact zkj (k:=k) (p:=(kd,m)) h
 refine eS (af.mp h) ?_ ?_
 ·intro h;injection h with eQ eR;subst eQ eR;exact zdf (.inl rfl)
 ·intro h;cases ae.mp h;exact zdf (.inr rfl)
noncomputable def zrz(ws:List Wg)(cs:Cs):Option Nat→Bool
 | none=>!pwB ws cs
 | some 0=>pwB ws cs && solv ws 0 cs
 | some (n+1)=>pwB ws cs && solv ws (n+1) cs && !solv ws n cs
noncomputable def zbv:Cs→Bool
 | []=>true
 | c::cs=>!cs.contains c && zbv cs
theorem zal:∀ {cs:Cs},zbv cs=true→cs.Nodup
 | [],_=>.nil
 | c::cs,h=>by
   have h:(!cs.contains c && zbv cs)=true:=h
   rw[aD,bI] at h
   exact bk.mpr ⟨fun hm=>by rw[List.contains_iff_mem.mpr hm] at h;exact Bool.noConfusion h.1,zal h.2⟩
noncomputable def zn0(p:Nat×Nat):Bool:=(y7 p.1 p.2).1.all (zj0 p.2) && zbv (y7 p.1 p.2).1 && decide (1≤(y7 p.1 p.2).1.length) && decide ((y7 p.1 p.2).1.length≤12) && zrz (dueI p.2) (y7 p.1 p.2).1 (y7 p.1 p.2).2
theorem zj8:kms.all zn0=true:=by decide +kernel
inductive LastR(m:Nat)(cs:Cs):Option Nat→Prop
 | none (h:¬ Pw (dueI m) cs):LastR m cs none
 | some (n:Nat) (hp:Pw (dueI m) cs) (hl:Least (dueI m) n cs):LastR m cs (some n)
theorem Least.perm{ws:List Wg}{n:Nat}{cs cs':Cs}(h:Least ws n cs)(hp:cs.Perm cs'):Least ws n cs':=⟨by rw[← zab hp];exact h.yes,fun k hk=>by rw[← zab hp];exact h.no k hk⟩
theorem LastR.perm{m:Nat}{cs cs':Cs}{o:Option Nat}(h:LastR m cs o)(hp:cs.Perm cs'):LastR m cs' o:=by
 cases h with
 | none h=>exact .none fun q=>h ((zfx hp).mpr q)
 | some n h hl=>exact .some n ((zfx hp).mp h) (hl.perm hp)
theorem Found.perm{m:Nat}{cs cs':Cs}(f:Found m cs)(hp:cs.Perm cs'):Found m cs':=⟨fun c hc=>f.1 c (hp.mem_iff.mpr hc),hp.nodup_iff.mp f.nodup,by rw[← hp.length_eq];exact f.pos,by rw[← hp.length_eq];exact f.le⟩
theorem zc4{kd m:Nat}(h:(kd,m)∈kms):Found m (y7 kd m).1∧LastR m (y7 kd m).1 (y7 kd m).2:=by
 have:=aU.mp zj8 _ h
 unfold zn0 at this
 dsimp only at this
 generalize y7 kd m=q at this
 obtain⟨cs,o⟩:=q
 dsimp only at this ⊢
 rw[aD,aD,aD,aD,aU,aO,aO] at this
 refine fb this ?_;clear this;intro dW h5;refine fb dW ?_;clear dW;intro dW h4;refine fb dW ?_;clear dW;intro dW h3;refine fb dW ?_;clear dW;intro h1 h2
 refine⟨⟨fun c hc=>ze9 (h1 c hc),zal h2,h3,h4⟩,?_⟩
 match o,h5 with
 | none,h5=>
   have h5:(!pwB (dueI m) cs)=true:=h5
   exact .none fun q=>by rw[(p0 cs).mp q] at h5;exfalso;injection h5
 | some 0,h5=>
   have h5:(pwB (dueI m) cs && solv (dueI m) 0 cs)=true:=h5
   rw[aD] at h5
   exact .some 0 ((p0 cs).mpr h5.1) ⟨h5.2,fun k hk=>absurd hk (bq _)⟩
 | some (n+1),h5=>
   have h5:(pwB (dueI m) cs && solv (dueI m) (n+1) cs && !solv (dueI m) n cs)=true:=h5
   rw[aD,aD,bI] at h5
   refine .some (n+1) ((p0 cs).mpr h5.1.1) ⟨h5.1.2,fun k hk=>?_⟩
   cases hs:solv (dueI m) k cs with
   | false=>rfl
   | true=>rw[zbn hs (bC hk)] at h5;exact Bool.noConfusion h5.2
theorem zl4{cs:Cs}{O:za}{n:Nat}(h:O[n]?=some (.lst (zb cs))):cmpV .ne (.box n) (.d (.list [])) O=.ok (.d (.bool !cs.isEmpty)) O:=by
 refine zqn (.inr rfl) (Seen.box n _ h).look rfl ?_
 show (if eqOk (.list (zb cs)) (.list [])=true then some (!PyData.eqv (.list (zb cs)) (.list [])) else none)=_
 rw[ah (qp (Lay.list (xl cs)).lay rfl (by decide))]
 cases cs <;> rfl
theorem za2{α β:Type}{f:α→β}:∀ (l:List α) (j:Nat),(l.map f).eraseIdx j=(l.eraseIdx j).map f
 | [],_=>rfl
 | _::_,0=>rfl
 | a::l,j+1=>cA (f a::·) (za2 l j)
theorem gp{α:Type}:∀ (l:List α) (j:Nat) (hj:j < l.length),([l[j]'hj]++l.eraseIdx j).Perm l
 | [],_,h=>absurd h (bq _)
 | _::_,0,_=>List.Perm.refl _
 | a::l,j+1,h=>(List.Perm.swap a (l[j]'(bP h)) (l.eraseIdx j)).trans ((gp l j (bP h)).cons a)
noncomputable abbrev RO(s:List Int)(m kd:Nat)(d:PyData)(n:Int)(a b:Option V):Loc:=[some (.d (.list (s.map .int))),some (.d (.int m)),some (.d (.int kd)),some (.box 0),some (.d d),some (.box 1),some (.d (.int n)),a,b]
noncomputable abbrev OO(l f:Cs):za:=[.lst (zb l),.lst (zb f)]
noncomputable def ordB:CSs:=(.cons (.expr (.meth .append (.loc 5) (.cons (.pop (.loc 3) (.bin .mod (.loc 6) (.prim .len (.cons (.loc 3) .nil)))) .nil))) (.cons (.asg (.name 6) (.bin .add (.bin .fdiv (.loc 6) (.int 3)) (.int 5))) .nil))
noncomputable def odT(k:Nat)(ρ:Loc)(O:za):R (Loc×za) Bool:=((evE (PG k false) ρ (.cmp .ne (.loc 3) (.list .nil)) O).bind fun v O=>opt (truth v) O).lift ρ
section
variable{k m kd:Nat}{s:List Int}{d:PyData}{n:Int}{l f:Cs}{j:Nat}
theorem zf1:odT k (RO s m kd d n none none) (OO l f)=.ok (!l.isEmpty) (RO s m kd d n none none,OO l f):=by
 have e:evE (PG k false) (RO s m kd d n none none) (.cmp .ne (.loc 3) (.list .nil)) (OO l f)=.ok (.d (.bool !l.isEmpty)) (OO l f):=zx rfl rfl (zl4 rfl)
 unfold odT
 rw[e];rfl
theorem zq0{P:Pg}{ρ:Loc}{a b:CE}{O:za}{r:R za V}{n:Nat}{u:V}(h1:evE P ρ a O=.ok (.box n) O)(hr:recv .append (.box n) O=true)(h2:evE P ρ b O=.ok u O)(h3:ux (.box n) u O=r):evE P ρ (.pop a b) O=r:=by
 show (evE P ρ a O).bind (fun v O=>if recv .append v O=true then (evE P ρ b O).bind fun u O=>ux v u O else .stuck)=r
 rw[h1,yb,ah hr,h2];exact h3
theorem pop_at(hj:j < l.length)(hl:l.length≤100):ux (.box 0) (.d (.int (j:Int))) (OO l f)=.ok (.d (caseD (l[j]'hj))) (OO (l.eraseIdx j) f):=by
 have hL:line=1000000:=rfl
 show (if 0≤(j:Int)∧(j:Int) < (zb l).length∧(zb l).length≤line then R.ok (V.d (((zb l)[(j:Int).toNat]?).getD .none)) [Box.lst ((zb l).eraseIdx (j:Int).toNat),Box.lst (zb f)] else .stuck)=_
 rw[zr,ah ⟨by lia,by lia,by lia⟩,bK]
 unfold zb
 rw[aT,ao hj,za2]
 rfl
theorem zqr{c:List Int}(h:f.length≤100):meth .append (.box 1) [.d (caseD c)] (OO l f)=.ok (.d .none) (OO l (f++[c])):=by
 have hL:line=1000000:=rfl
 show (if (zb f).length < line then R.ok (V.d .none) [Box.lst (zb l),Box.lst (zb f++[caseD c])] else .stuck)=_
 rw[ah (by rw[zr];lia)]
 show _=R.ok (V.d .none) [Box.lst (zb l),Box.lst (zb (f++[c]))]
 unfold zb
 rw[cY];rfl
theorem zl1(hj:j < l.length)(hl:l.length≤100)(hf:f.length≤100)(ej:binK .mod (.d (.int n)) (.d (.int (l.length:Int))) (OO l f)=.ok (.d (.int (j:Int))) (OO l f)):evSs (PG k false) ordB (RO s m kd d n none none) (OO l f)=.ok .next (RO s m kd d (Int.fdiv n 3+5) none none,OO (l.eraseIdx j) (f++[l[j]'hj])):=by
 have hL:line=1000000:=rfl
 have el:evE (PG k false) (RO s m kd d n none none) (.prim .len (.cons (.loc 3) .nil)) (OO l f)=.ok (.d (.int (l.length:Int))) (OO l f):=(xa rfl rfl (x9 (xs:=zb l) rfl (by rw[zr];lia))).trans (by rw[zr])
 exact (zc (q7 (ug (v:=.box 1) rfl rfl (zl (zq0 rfl rfl (xk rfl el ej) (pop_at hj hl)) rfl) (zqr hf)))).trans ((zc (z7 (xk (xk rfl rfl (dv (by decide))) rfl h9) rfl rfl)).trans rfl)
theorem zh9{turn:Loc→za→R (Loc×za) Fl}{test:Loc→za→R (Loc×za) Bool}{t:Nat}{ρ ρ':Loc}{O O':za}(h:turn ρ O=.ok .next (ρ',O')) :
 (match (R.ok (!false) (ρ,O):R (Loc×za) Bool) with
   | .ok false S=>R.ok Fl.next S
   | .ok true S=>(match turn S.1 S.2 with
      | .ok (.ret v) S=>R.ok (Fl.ret v) S
      | .ok .next S=>yg test turn t S.1 S.2
      | _=>.stuck)
   | _=>.stuck)=yg test turn t ρ' O':=zft h
theorem znv:∀ (r t:Nat) (l f:Cs) (n:Int),l.length=r→r < t→r+f.length≤50→∃ (p:Cs) (n':Int),p.Perm (f++l)∧yg (odT k) (fun ρ O=>evSs (PG k false) ordB ρ O) t (RO s m kd d n none none) (OO l f)=.ok .next (RO s m kd d n' none none,OO [] p)
 | 0,0,_,_,_,_,h,_=>absurd h (bq _)
 | r+1,0,_,_,_,_,h,_=>absurd h (bq _)
 | 0,t+1,l,f,n,hl,_,_=>by
   have hl:=List.length_eq_zero_iff.mp hl
   subst hl
   exact fz f n (by rw[ba]) (by rw[yg,zf1];rfl)
 | r+1,t+1,l,f,n,hl,ht,hb=>by
   refine eV (md n l.length (OO l f) (by lia)) ?_;intro j hj ej
   have hlen:(l.eraseIdx j).length=r:=by rw[List.length_eraseIdx,ah hj];lia
   refine fu (znv r t (l.eraseIdx j) (f++[l[j]'hj]) (Int.fdiv n 3+5) hlen (by omega) (by rw[bj,bV];omega)) ?_;intro p n' hp e
   refine fz p n' (hp.trans ?_) ?_
   ·rw[bf]
    exact List.Perm.append_left f (gp l j hj)
   have he:l.isEmpty=false:=by
    cases l with
    | nil=>exfalso;injection hl
    | cons _ _=>rfl
   rw[yg,zf1,he]
   exact (zh9 (zl1 hj (by lia) (by lia) ej)).trans e
end
noncomputable abbrev sA:Str:=Str.ofString "alike"
noncomputable abbrev sP:Str:=Str.ofString "plan"
theorem n_AA{O:za}:cmpV .ne (.d (.str sA)) (.d (.str sA)) O=.ok (.d (.bool false)) O:=by kernel_rfl
theorem n_PP{O:za}:cmpV .ne (.d (.str sP)) (.d (.str sP)) O=.ok (.d (.bool false)) O:=by kernel_rfl
theorem Least.eq{ws:List Wg}{so:Cs}{a b:Nat}(h1:Least ws a so)(h2:Least ws b so):a=b:=by
 rcases Nat.lt_trichotomy a b with h | h | h
 ·have:=h2.no a h;rw[h1.yes] at this;exfalso;injection this
 ·exact h
 ·have:=h1.no b h;rw[h2.yes] at this;exfalso;injection this
theorem PlR.plan{m n:Nat}{cs:Cs}{y:PyData}(h:PlR m n cs y)(hl:Least (dueI m) n cs)(hne:cs≠[]):∃ p:Pl,y=p.toD∧p.fits m cs∧p.hgt=n:=by
 obtain⟨p,rfl,fit,le⟩:=h
 exact ff p rfl fit (cW le (dM fun hlt=>by have:=hl.no _ hlt;rw[Pl.solv p cs fit hne] at this;exfalso;injection this))
noncomputable def endB:CSs:=(.cons (.asg (.name 7) (.call 19 (.cons (.loc 1) (.cons (.prim .list (.cons (.loc 5) .nil)) (.cons (.list .nil) .nil))))) (.cons (.ife (.cmp .ne (.idx (.loc 7) (.int 0)) (.idx (.list (.cons (.str (Str.ofString "plan")) (.cons (.str (Str.ofString "alike")) .nil))) (.prim .int (.cons (.cmp .is (.loc 4) .none) .nil)))) (.cons (.ret (.bool false)) .nil) .nil) (.cons (.asg (.name 8) (.call 20 (.cons (.loc 1) (.cons (.prim .list (.cons (.loc 5) .nil)) (.cons (.list .nil) .nil))))) (.cons (.ife (.cmp .is (.loc 4) .none) (.cons (.ret (.cmp .is (.loc 8) .none)) .nil) .nil) (.cons (.ife (.or_ (.nt (.call 23 (.cons (.loc 8) .nil))) (.or_ (.cmp .ne (.loc 8) (.loc 4)) (.nt (.call 29 (.cons (.loc 1) (.cons (.loc 5) (.cons (.idx (.loc 7) (.int 1)) .nil))))))) (.cons (.ret (.bool false)) .nil) .nil) (.cons (.ife (.or_ (.cmp .ne (.call 30 (.cons (.idx (.loc 7) (.int 1)) .nil)) (.loc 4)) (.cmp .eq (.loc 4) (.int 0))) (.cons (.ret (.and_ (.cmp .eq (.loc 4) (.int 0)) (.and_ (.cmp .eq (.idx (.loc 7) (.int 1)) (.tup (.cons (.str (Str.ofString "told")) (.cons (.idx (.loc 5) (.int 0)) .nil)))) (.cmp .is (.idx (.loc 7) (.int 2)) .none)))) .nil) .nil) (.cons (.ret (.call 32 (.cons (.call 25 (.cons (.loc 1) .nil)) (.cons (.loc 5) (.cons (.bin .sub (.loc 4) (.int 1)) (.cons (.idx (.loc 7) (.int 2)) .nil)))))) .nil)))))))
section
variable{k m kd:Nat}{s:List Int}{n:Int}{cs:Cs}{o:Option Nat}
theorem zcw{q:Nat}{ρ:Loc}{l:Cs}(h:cs.length≤12)(ha:evE (PG q false) ρ (.loc 5) (OO l cs)=.ok (.box 1) (OO l cs)):evE (PG q false) ρ (.prim .list (.cons (.loc 5) .nil)) (OO l cs)=.ok (.d (.list (zb cs))) (OO l cs):=
 xa rfl ha (wp (x:=.list (zb cs)) rfl (ah (by rw[zr];exact aq h (by decide))))
theorem zno{l:Cs}:∀ b∈OO l cs,ShyB badP b:=fun b hb=>by
 refine eS (af.mp hb) ?_ ?_
 ·rintro rfl;intro x hx;refine eV (aC.mp hx) ?_;intro c _ dY;subst dY;exact x6 mildP c
 ·intro hb;rw[ae.mp hb]
  intro x hx;refine eV (aC.mp hx) ?_;intro c _ dY;subst dY;exact x6 mildP c
theorem lay_told{c:List Int}:Lay 12 (.tuple [.str sT,caseD c]):=by
 have h:∀ z∈[PyData.str sT,caseD c],Lay 10 z:=fun z hz=>by
  refine eS (af.mp hz) ?_ ?_
  ·rintro rfl;exact⟨by decide +kernel,be _⟩
  ·intro hz;rw[ae.mp hz];exact xl [c] _ (.head _)
 exact⟨(lay_all _ h).1,aq (cr (lay_all _ h).2) (by decide)⟩
theorem zsl(hm:m4 m)(f:Found m cs)(hL:LastR m cs o):∃ ρ',evSs (PG (k+37) false) endB (RO s m kd (dueD o) n none none) (OO [] cs)=.ok (.ret (.d (.bool true))) (ρ',OO [] cs):=by
 refine eV (zp0 (k:=k) (b₀:=.lst []) (b₁:=.lst (zb cs)) hm f (zno (l:=[]))) ?_;intro t et ht
 refine eV (zmx (k:=k) (b₀:=.lst []) (b₁:=.lst (zb cs)) hm f (zno (l:=[]))) ?_;intro x ex hx
 have hne:cs≠[]:=dS.mp f.pos
 have hv:Seen (OO [] cs) (.box 1) (zb cs):=.box 1 _ rfl
 have ok:Ok12 m cs:=⟨f.good,f.le⟩
 have s1:evS (PG (k+37) false) (.asg (.name 7) (.call 19 (.cons (.loc 1) (.cons (.prim .list (.cons (.loc 5) .nil)) (.cons (.list .nil) .nil))))) (RO s m kd (dueD o) n none none) (OO [] cs)=.ok .next (RO s m kd (dueD o) n (some (.d t)) none,OO [] cs):=z7 (zm (zl rfl (zl (zcw f.le rfl) rfl)) et) rfl rfl
 have s3:evS (PG (k+37) false) (.asg (.name 8) (.call 20 (.cons (.loc 1) (.cons (.prim .list (.cons (.loc 5) .nil)) (.cons (.list .nil) .nil))))) (RO s m kd (dueD o) n (some (.d t)) none) (OO [] cs)=.ok .next (RO s m kd (dueD o) n (some (.d t)) (some (.d x)),OO [] cs):=z7 (zm (zl rfl (zl (zcw f.le rfl) rfl)) ex) rfl rfl
 refine Exists.imp (fun ρ' h=>(zc s1).trans h) ?_
 cases hL with
 | none hp=>
   cases ht with
   | none h _=>exact absurd h hne
   | plan _ _ _ hp' _ _ _ _ _ _=>exact absurd hp' hp
   | alike _ _ a b _ e=>
     subst e
     cases hx with
     | some _ _ hp' _ _=>exact absurd hp' hp
     | none _ e=>
       subst e
       exact fe _ ((zc (zy (zx (y4 rfl rfl rfl) rfl n_AA))).trans ((zc s3).trans (ze ((w_if (bb:=true) rfl).trans (ze (z9 rfl))))))
 | some N hp hl=>
   cases ht with
   | none h _=>exact absurd h hne
   | alike _ hp' _ _ _ _=>exact absurd hp hp'
   | plan N' _ hN _ hl' y h hy hh e=>
     subst e
     obtain rfl:=hl.eq hl'
     cases hx with
     | none hb _=>exact (hb.elim hne fun q=>q hp).elim
     | some N' _ _ hl' e=>
       subst e
       obtain rfl:=hl.eq hl'
       refine fj (hy.plan hl hne) ?_;intro p dX fit hpn;subst dX
       have ep:=zb3 (b₀:=.lst []) (b₁:=.lst (zb cs)) hm p cs (.box 1) hv fit ok hne (k+33 - p.hgt)
       rw[show k+33 - p.hgt+p.hgt+4=k+37 by lia] at ep
       have el:=zgh (b₀:=.lst []) (b₁:=.lst (zb cs)) p cs fit hne (k+36 - p.hgt)
       rw[show k+36 - p.hgt+p.hgt+1=k+37 by lia,hpn] at el
       have s5:evE (PG (k+37) false) (RO s m kd (.int (N:Int)) n (some (.d (.tuple [.str sP,p.toD,h]))) (some (.d (.int (N:Int))))) (.or_ (.nt (.call 23 (.cons (.loc 8) .nil))) (.or_ (.cmp .ne (.loc 8) (.loc 4)) (.nt (.call 29 (.cons (.loc 1) (.cons (.loc 5) (.cons (.idx (.loc 7) (.int 1)) .nil))))))) (OO [] cs)=.ok (.d (.bool false)) (OO [] cs):=
        xe (w_nt (bb:=true) (zm rfl (zb2 (k:=k+36)))) (xe ((zx rfl rfl ne_int).trans (by rw[aH rfl];rfl)) (w_nt (bb:=true) (zm (zl rfl (zl rfl (zl (y4 rfl rfl rfl) rfl))) ep)))
       have s6:evE (PG (k+37) false) (RO s m kd (.int (N:Int)) n (some (.d (.tuple [.str sP,p.toD,h]))) (some (.d (.int (N:Int))))) (.or_ (.cmp .ne (.call 30 (.cons (.idx (.loc 7) (.int 1)) .nil)) (.loc 4)) (.cmp .eq (.loc 4) (.int 0))) (OO [] cs)=.ok (.d (.bool (decide ((N:Int)=0)))) (OO [] cs):=
        xe ((zx (zm (zl (y4 rfl rfl rfl) rfl) el) rfl ne_int).trans (by rw[aH rfl];rfl)) (zx rfl rfl eq_int)
       suffices hr:∃ ρ',evSs (PG (k+37) false) (.cons (.ife (.or_ (.cmp .ne (.call 30 (.cons (.idx (.loc 7) (.int 1)) .nil)) (.loc 4)) (.cmp .eq (.loc 4) (.int 0))) (.cons (.ret (.and_ (.cmp .eq (.loc 4) (.int 0)) (.and_ (.cmp .eq (.idx (.loc 7) (.int 1)) (.tup (.cons (.str (Str.ofString "told")) (.cons (.idx (.loc 5) (.int 0)) .nil)))) (.cmp .is (.idx (.loc 7) (.int 2)) .none)))) .nil) .nil) (.cons (.ret (.call 32 (.cons (.call 25 (.cons (.loc 1) .nil)) (.cons (.loc 5) (.cons (.bin .sub (.loc 4) (.int 1)) (.cons (.idx (.loc 7) (.int 2)) .nil)))))) .nil)) (RO s m kd (.int (N:Int)) n (some (.d (.tuple [.str sP,p.toD,h]))) (some (.d (.int (N:Int))))) (OO [] cs)=.ok (.ret (.d (.bool true))) (ρ',OO [] cs) by
        refine eZ hr ?_;clear hr;intro ρ' hr
        exact fe ρ' ((zc (zy (zx (y4 rfl rfl rfl) rfl n_PP))).trans ((zc s3).trans ((zc (zy rfl)).trans ((zc (zy s5)).trans hr))))
       cases N with
       | zero=>
         have hh:h=.none:=hh
         subst hh
         have hpt:∃ c,p=.told c∧cs=[c]:=by
          cases p with
          | no=>exact absurd fit hne
          | told c=>exact eW c rfl fit
          | weigh w a b c=>exact absurd hpn (Nat.succ_ne_zero _)
         refine eV hpt ?_;clear hpt;intro c dX dY;subst dX;subst dY
         have ee:cmpV .eq (.d (.tuple [.str sT,caseD c])) (.d (.tuple [.str sT,caseD c])) (OO [] [c])=.ok (.d (.bool true)) (OO [] [c]):=by rw [v_eq,(lay_told.eq (by decide)).1];rfl
         exact fe _ (ze ((w_if s6).trans ((ah rfl).trans (ze (z9 (ju rfl (ju (zx (y4 rfl rfl rfl) (gr rfl (y4 rfl rfl rfl)) ee) (zx (y4 rfl rfl rfl) rfl rfl))))))))
       | succ N=>
         rw [aQ (by lia)] at s6
         have hnum:((N+1:Nat):Int) - 1=(N:Int):=by lia
         have eh:=zkl (k:=k+35 - N) (b₀:=.lst []) (b₁:=.lst (zb cs)) hm hv (n:=N) (by exact Nat.le_of_lt (by assumption)) (show Hd m N cs h from hh) ok
         rw [show k+35 - N+N+2=k+37 by lia] at eh
         have epn:=zp3 (b₀:=.lst []) (b₁:=.lst (zb cs)) (k:=k+36) hm
         refine fe _ ((zc (zy s6)).trans (ze (z9 (zm (zl (zm rfl epn) (zl rfl (zl (xk rfl rfl zas) (zl (y4 rfl rfl rfl) rfl)))) ?_))))
         rw[hnum];exact eh
theorem zlg{P:Pg}{ρ ρ':Loc}{O O':za}{e:CE}{i j:Nat}{v:V}(hd:P.hd=false)(h:evE P ρ e O=.ok v O')(hb:zfj i j v (ρ,O')=.ok .next (ρ',O')):evS P (.asg2B i j e) ρ O=.ok .next (ρ',O'):=by
 show (if P.hd=true then .stuck else ((evE P ρ e O).lift ρ).bind (zfj i j))=_
 rw[ai (by rw[hd];exact ak),h];exact hb
noncomputable abbrev RA(s:List Int)(a b c d e f:Option V):Loc:=[some (.d (.list (s.map .int))),a,b,c,d,e,f,none,none]
theorem zp5(hs:s.length≤63):∃ m kd:Nat,m4 m∧kd < 7∧(kd=6→m≤3)∧∀ {ss:CSs},evSs (PG (k+37) false) (.cons (.asg (.name 1) (.bin .add (.int 2) (.bin .mod (.call 21 (.cons (.loc 0) (.cons (.int 0) .nil))) (.int 4)))) (.cons (.asg (.name 2) (.bin .mod (.bin .fdiv (.call 21 (.cons (.loc 0) (.cons (.int 0) .nil))) (.int 4)) (.int 7))) (.cons (.ife (.cmp .eq (.loc 2) (.int 6)) (.cons (.asg (.name 1) (.min2 (.loc 1) (.int 3))) .nil) .nil) ss))) (RA s none none none none none none) []=evSs (PG (k+37) false) ss (RA s (some (.d (.int m))) (some (.d (.int kd))) none none none none) []:=by
 have n0:=zkm (k:=k+36) (j:=0) (O:=[]) hs
 refine eV (md (s.getD 0 0) 4 [] (by decide)) ?_;intro i hi ei
 refine eV (md (Int.fdiv (s.getD 0 0) 4) 7 [] (by decide)) ?_;intro kd hk ek
 have s1:evS (PG (k+37) false) (.asg (.name 1) (.bin .add (.int 2) (.bin .mod (.call 21 (.cons (.loc 0) (.cons (.int 0) .nil))) (.int 4)))) (RA s none none none none none none) []=.ok .next (RA s (some (.d (.int (2+(i:Int))))) none none none none none,[]):=z7 (xk rfl (xk (zm rfl n0) rfl ei) h9) rfl rfl
 have s2:evS (PG (k+37) false) (.asg (.name 2) (.bin .mod (.bin .fdiv (.call 21 (.cons (.loc 0) (.cons (.int 0) .nil))) (.int 4)) (.int 7))) (RA s (some (.d (.int (2+(i:Int))))) none none none none none) []=.ok .next (RA s (some (.d (.int (2+(i:Int))))) (some (.d (.int (kd:Int)))) none none none none,[]):=z7 (xk (xk (zm rfl n0) rfl (dv (by decide))) rfl ek) rfl rfl
 have et:evE (PG (k+37) false) (RA s (some (.d (.int (2+(i:Int))))) (some (.d (.int (kd:Int)))) none none none none) (.cmp .eq (.loc 2) (.int 6)) []=.ok (.d (.bool (decide ((kd:Int)=6)))) []:=zx rfl rfl eq_int
 have hc:(2+(i:Int))=((2+i:Nat):Int):=by lia
 rw[hc] at s1 s2 et
 by_cases h6:kd=6
 ·subst h6
  have hmin:minV (.d (.int ((2+i:Nat):Int))) (.d (.int 3)) []=.ok (.d (.int ((min (2+i) 3:Nat):Int))) []:=by
   have:i=0∨i=1∨i=2∨i=3:=by lia
   rcases this with rfl | rfl | rfl | rfl <;> rfl
  refine fy (min (2+i) 3) 6 ⟨by lia,by lia⟩ (by decide) (fun uA=>Nat.min_le_right _ _) (fun {ss}=>(zc s1).trans ((zc s2).trans ((zc ((w_if et).trans ((ah rfl).trans ((zc (z7 (v:=.d (.int ((min (2+i) 3:Nat):Int))) ?_ rfl rfl)).trans rfl)))).trans rfl)))
  rw[zn8,ai ak]
  exact hmin
 ·rw[aQ (by lia)] at et
  exact fy (2+i) kd ⟨by lia,by lia⟩ hk (fun h=>absurd h h6) (fun {ss}=>(zc s1).trans ((zc s2).trans (zc (zy et))))
theorem zsj(hs:s.length≤63):zg P table (k+38) false 37 [.d (.list (s.map .int))] []=.ok (.d (.bool true)) []:=by
 refine ft (zp5 (k:=k) hs) ?_;intro m kd hm hk h6 e1
 have hkm:=zl5 hk hm h6
 have e2:=zmz (k:=k+35) hkm
 refine fb (zc4 hkm) ?_;intro f hL
 generalize y7 kd m=q at e2 f hL
 obtain⟨cs,o⟩:=q
 dsimp only at e2 f hL
 have n1:=zmw (k:=k+35) (j:=1) (O:=OO cs []) hs
 generalize mixI s 1=n at n1
 have hle:=f.le
 refine fu (znv (k:=k+37) (s:=s) (m:=m) (kd:=kd) (d:=dueD o) cs.length 200 cs [] n rfl (by lia) (by rw[List.length_nil];lia)) ?_;intro p n' hp e3
 rw[List.nil_append] at hp
 have ew:evS (PG (k+37) false) (.while_ (.cmp .ne (.loc 3) (.list .nil)) ordB) (RO s m kd (dueD o) n none none) (OO cs [])=.ok .next (RO s m kd (dueD o) n' none none,OO [] p):=e3
 refine eZ (zsl (k:=k) (s:=s) (kd:=kd) (n:=n') hm (f.perm hp.symm) (hL.perm hp.symm)) ?_;intro ρ' er
 suffices hb:evSs (PG (k+37) false) c37.body (RA s none none none none none none) []=.ok (.ret (.d (.bool true))) (ρ',OO [] p) from wf (fn:=c37) (O:=[]) (O':=OO [] p) rfl ⟨rfl,by decide⟩ rfl hb
 refine e1.trans ?_
 refine (zc (zlg rfl (zm rfl e2) rfl)).trans ?_
 refine (zc (z7 (v:=.box 1) (O':=OO cs []) rfl rfl rfl)).trans ?_
 refine (zc (z7 (zm rfl n1) rfl rfl)).trans ?_
 exact (zc ew).trans er
end
theorem holds:PySem.Challenge.rw_uf050003_10.Holds:=holds_of fun script h=>⟨_,zsj (k:=23) h⟩
end Mine.L10
end
end
theorem PySem.Challenge.cw_uf050003_10_holds : PySem.Challenge.rw_uf050003_10.Holds :=
  Mine.L10.holds
