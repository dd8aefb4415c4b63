import PyProof.Rows.All
import PySem.SetOps
import PyProof.WalkLemmas
import PyProof.Raises
import PyProof.Calls
import PyProof.EvalArms
import PyProof.Rules2
import PyProof.Claim2
import PyProof.Lay0
import PyProof.Rows.Frame
import PyProof.FactsAll.tuple_2
import PyProof.FactsAll.subtypes_4
import PyProof.Rules3
import PyProof.ListIndex
import PyProof.CallStr
import PyProof.Cells
import PyProof.Claim2Refuses
import PyProof.ConsumeWalk
import PyProof.CollectWalk
import PyProof.CompFree
import PyProof.PureInt
import PyProof.Conv_int_bool
import PyProof.DefCall
import PyProof.Dict
import PyProof.DictKind
import PyProof.DictKinds
import PyProof.DictStraight
import PyProof.TupleKey
import PyProof.DictRoadsH
import PyProof.EnumFor
import PyProof.EnumStmt
import PyProof.EnumMake
import PyProof.IsRules
import PyProof.P3Statements
import PyProof.EqLayable
import PyProof.FactsAll.set_1
import PyProof.FactsAll.set_2
import PyProof.ForAppend
import PyProof.WalksMore
import PyProof.RangeFor
import PyProof.IsiHeapPairs
import PyProof.IsiNone
import PyProof.IsiPairs
import PyProof.ListCopy
import PyProof.ListIndexNeg
import PyProof.ListRange
import PyProof.WalkInts
import PyProof.P3In
import PyProof.ReprRoads
import PyProof.Rows.Globals
import PyProof.Rows.News
import PyProof.Rows.Tup
import PyProof.Rows.TupIter
import PyProof.Rows.TupAssign
import PyProof.Rows.TupSub
import PyProof.Rows.SeqJoint
import PyProof.Rows.IntRules
import PyProof.Rows.ZipGen
import PyProof.WalksPairs
import PyProof.TupleCall
import PyProof.Rows.ListMade
import PyProof.Rows.Exc
import PyProof.Rows.RuleB_mul
import PyProof.Rows.RuleB_sub
import PyProof.Rows.RuleB_pow
import PyProof.Rows.RuleB_floordiv
import PyProof.Rows.RuleB_mod
import PyProof.StrBlock2
import PyProof.Rows.StrMul
import PyProof.Rows.StrTemp
import PyProof.Rows.RuleC_int
import PyProof.TupleOps
import PyProof.SeqI3
import PyProof.Rows.TupMore
import PyProof.SliceMore
import PyProof.Rows.StrRules
import PyProof.RulesDelMore
import PyProof.SumWalkG
import PyProof.Rows.TupAdd
import PyProof.TupleOfSeq
import PyProof.SetRoads
import PyProof.Rows.SetFrom
import PyProof.Rows.RotEnd
import KE.KUnpack
import KE.KMulAny
import KE.KRevSl
import KE.KSortTup
import KE.KSortedM
import Wide.FinOn
import OpenK.AllK
import Wide.All
import Lean
import PySem.Challenge.RW_uf050003_06
set_option Elab.async false
set_option genInjectivity false
set_option genSizeOf false
set_option linter.all false
set_option maxRecDepth 100000
set_option maxHeartbeats 8000000
namespace Mine
theorem fx{a b X:Prop}(h:a\/b)(k:a->X)(l:b->X):X:=h.elim k l
theorem ex1{A:Type _}{P:A->Prop}{X:Prop}(h:∃ x, P x)(k:∀ x, P x->X):X:=h.elim fun x h => k x h
theorem ex2{A B:Type _}{P:A->B->Prop}{X:Prop}(h:∃ x y, P x y)(k:∀ x y, P x y->X):X:=h.elim fun x h => ex1 h (k x)
theorem ex3{A B C:Type _}{P:A->B->C->Prop}{X:Prop}(h:∃ x y z, P x y z)(k:∀ x y z, P x y z->X):X:=h.elim fun x h => ex2 h (k x)
theorem ex4{A B C D:Type _}{P:A->B->C->D->Prop}{X:Prop}(h:∃ x y z u, P x y z u)(k:∀ x y z u, P x y z u->X):X:=h.elim fun x h => ex3 h (k x)
theorem fH{P0 P1:Prop}{X:Prop}(h:P0/\P1)(k:P0->P1->X):X:=k h.1 h.2
theorem fI{P0 P1 P2:Prop}{X:Prop}(h:P0/\P1/\P2)(k:P0->P1->P2->X):X:=k h.1 h.2.1 h.2.2
theorem fS{P0 P1 P2 P3:Prop}{X:Prop}(h:P0/\P1/\P2/\P3)(k:P0->P1->P2->P3->X):X:=k h.1 h.2.1 h.2.2.1 h.2.2.2
theorem f5{P0 P1 P2 P3 P4:Prop}{X:Prop}(h:P0/\P1/\P2/\P3/\P4)(k:P0->P1->P2->P3->P4->X):X:=k h.1 h.2.1 h.2.2.1 h.2.2.2.1 h.2.2.2.2
theorem fG{A:Type _}{P0:A->Prop}{X:Prop}(h:∃ x, P0 x)(k:∀ x, P0 x->X):X:=ex1 h k
theorem fC{A:Type _}{P0 P1:A->Prop}{X:Prop}(h:∃ x, P0 x/\P1 x)(k:∀ x, P0 x->P1 x->X):X:=ex1 h fun x h => fH h (k x)
theorem fN{A:Type _}{P0 P1 P2:A->Prop}{X:Prop}(h:∃ x, P0 x/\P1 x/\P2 x)(k:∀ x, P0 x->P1 x->P2 x->X):X:=ex1 h fun x h => fI h (k x)
theorem fW{A B:Type _}{P0:A->B->Prop}{X:Prop}(h:∃ x y, P0 x y)(k:∀ x y, P0 x y->X):X:=ex2 h k
theorem fR{A B:Type _}{P0 P1:A->B->Prop}{X:Prop}(h:∃ x y, P0 x y/\P1 x y)(k:∀ x y, P0 x y->P1 x y->X):X:=ex2 h fun x y h => fH h (k x y)
theorem fL{A B:Type _}{P0 P1 P2:A->B->Prop}{X:Prop}(h:∃ x y, P0 x y/\P1 x y/\P2 x y)(k:∀ x y, P0 x y->P1 x y->P2 x y->X):X:=ex2 h fun x y h => fI h (k x y)
theorem fQ{A B:Type _}{P0 P1 P2 P3:A->B->Prop}{X:Prop}(h:∃ x y, P0 x y/\P1 x y/\P2 x y/\P3 x y)(k:∀ x y, P0 x y->P1 x y->P2 x y->P3 x y->X):X:=ex2 h fun x y h => fS h (k x y)
theorem fZ{A B:Type _}{P0 P1 P2 P3 P4:A->B->Prop}{X:Prop}(h:∃ x y, P0 x y/\P1 x y/\P2 x y/\P3 x y/\P4 x y)(k:∀ x y, P0 x y->P1 x y->P2 x y->P3 x y->P4 x y->X):X:=ex2 h fun x y h => f5 h (k x y)
theorem fO{A B C:Type _}{P0 P1:A->B->C->Prop}{X:Prop}(h:∃ x y z, P0 x y z/\P1 x y z)(k:∀ x y z, P0 x y z->P1 x y z->X):X:=ex3 h fun x y z h => fH h (k x y z)
theorem fP{A B C:Type _}{P0 P1 P2:A->B->C->Prop}{X:Prop}(h:∃ x y z, P0 x y z/\P1 x y z/\P2 x y z)(k:∀ x y z, P0 x y z->P1 x y z->P2 x y z->X):X:=ex3 h fun x y z h => fI h (k x y z)
theorem fE{A B C:Type _}{P0 P1 P2 P3:A->B->C->Prop}{X:Prop}(h:∃ x y z, P0 x y z/\P1 x y z/\P2 x y z/\P3 x y z)(k:∀ x y z, P0 x y z->P1 x y z->P2 x y z->P3 x y z->X):X:=ex3 h fun x y z h => fS h (k x y z)
theorem fX{A B C:Type _}{P0 P1 P2 P3 P4:A->B->C->Prop}{X:Prop}(h:∃ x y z, P0 x y z/\P1 x y z/\P2 x y z/\P3 x y z/\P4 x y z)(k:∀ x y z, P0 x y z->P1 x y z->P2 x y z->P3 x y z->P4 x y z->X):X:=ex3 h fun x y z h => f5 h (k x y z)
theorem fM{A B C D:Type _}{P0 P1:A->B->C->D->Prop}{X:Prop}(h:∃ x y z u, P0 x y z u/\P1 x y z u)(k:∀ x y z u, P0 x y z u->P1 x y z u->X):X:=ex4 h fun x y z u h => fH h (k x y z u)
theorem fz{A:Type _}{P0:A->Prop}(x:A)(h0:P0 x):∃ x, P0 x:=⟨x, h0⟩
theorem fD{A:Type _}{P0 P1:A->Prop}(x:A)(h0:P0 x)(h1:P1 x):∃ x, P0 x/\P1 x:=⟨x, h0, h1⟩
theorem fJ{A:Type _}{P0 P1 P2:A->Prop}(x:A)(h0:P0 x)(h1:P1 x)(h2:P2 x):∃ x, P0 x/\P1 x/\P2 x:=⟨x, h0, h1, h2⟩
theorem fY{A B:Type _}{P0:A->B->Prop}(x:A)(y:B)(h0:P0 x y):∃ x y, P0 x y:=⟨x, y, h0⟩
theorem fV{A B:Type _}{P0 P1:A->B->Prop}(x:A)(y:B)(h0:P0 x y)(h1:P1 x y):∃ x y, P0 x y/\P1 x y:=⟨x, y, h0, h1⟩
theorem fK{A B:Type _}{P0 P1 P2:A->B->Prop}(x:A)(y:B)(h0:P0 x y)(h1:P1 x y)(h2:P2 x y):∃ x y, P0 x y/\P1 x y/\P2 x y:=⟨x, y, h0, h1, h2⟩
theorem fU{A B:Type _}{P0 P1 P2 P3:A->B->Prop}(x:A)(y:B)(h0:P0 x y)(h1:P1 x y)(h2:P2 x y)(h3:P3 x y):∃ x y, P0 x y/\P1 x y/\P2 x y/\P3 x y:=⟨x, y, h0, h1, h2, h3⟩
theorem fA{A B C:Type _}{P0 P1:A->B->C->Prop}(x:A)(y:B)(z:C)(h0:P0 x y z)(h1:P1 x y z):∃ x y z, P0 x y z/\P1 x y z:=⟨x, y, z, h0, h1⟩
theorem fT{A B C:Type _}{P0 P1 P2:A->B->C->Prop}(x:A)(y:B)(z:C)(h0:P0 x y z)(h1:P1 x y z)(h2:P2 x y z):∃ x y z, P0 x y z/\P1 x y z/\P2 x y z:=⟨x, y, z, h0, h1, h2⟩
theorem fF{A B C:Type _}{P0 P1 P2 P3:A->B->C->Prop}(x:A)(y:B)(z:C)(h0:P0 x y z)(h1:P1 x y z)(h2:P2 x y z)(h3:P3 x y z):∃ x y z, P0 x y z/\P1 x y z/\P2 x y z/\P3 x y z:=⟨x, y, z, h0, h1, h2, h3⟩
abbrev aa:=@PySem.wpAny_bind
abbrev ab:=@PySem.wpAny_pure
abbrev ac:=@PySem.Heap.get?_push_of_some
abbrev ae:=@List.mem_singleton
abbrev af:=@if_pos
abbrev ag:=@List.mem_cons
abbrev ah:=@List.mem_cons_of_mem
abbrev ai:=@Nat.le_trans
abbrev aj:=@List.mem_append
abbrev ak:=@if_neg
abbrev am:=@List.mem_cons_self
abbrev ao:=@Bool.false_ne_true
abbrev aq:=@List.mem_append_right
abbrev au:=@List.getElem?_eq_getElem
abbrev av:=@Array.length_toList
abbrev aw:=@PySem.Heap.get?_push_size
abbrev ay:=@List.mem_of_getElem?
abbrev az:=@List.mem_map
abbrev aA:=@decide_eq_true
abbrev aC:=@List.mem_append_left
abbrev aD:=@Option.map_eq_some_iff
abbrev aE:=@List.getElem?_eq_some_iff
abbrev aF:=@decide_eq_false
abbrev aG:=@List.pairwise_cons
abbrev aH:=@Nat.le_refl
abbrev aI:=@List.getElem?_append_right
abbrev aJ:=@List.getElem?_append_left
abbrev aK:=@PySem.wpAny_mono
abbrev aL:=@List.length_map
abbrev aM:=@Bool.and_eq_true
abbrev aN:=@Option.some.inj
abbrev aO:=@PySem.wpAny_ite_false
abbrev aP:=@decide_eq_true_eq
abbrev aQ:=@beq_iff_eq
abbrev aR:=@List.length_cons
abbrev aS:=@PySem.wpAny_holding
abbrev aT:=@Array.getElem?_toList
abbrev aU:=@List.getElem?_map
abbrev aV:=@List.all_eq_true
abbrev aW:=@Option.bind_eq_some_iff
abbrev aX:=@Bool.eq_false_iff
abbrev aY:=@PySem.Heap.lt_size
abbrev aZ:=@List.mem_range
abbrev a0:=@PySem.wpAny_call_entry
abbrev a5:=@Nat.le_max_right
abbrev a6:=@List.map_cons
abbrev a7:=@List.getElem?_eq_none
abbrev a8:=@Nat.ne_of_lt
abbrev a9:=@Bool.false_eq_true
abbrev ba:=@List.length_append
abbrev bc:=@List.append_nil
abbrev be:=@Nat.zero_le
abbrev bf:=@Array.getElem?_eq_getElem
abbrev bg:=@List.length_set
abbrev bh:=@List.take_length
abbrev bj:=@List.append_assoc
abbrev bk:=@PySem.Heap.get?_none_of_le
abbrev bm:=@Nat.le_max_left
abbrev bn:=@Nat.lt_or_ge
abbrev bo:=@PySem.Heap.get?_update_self
abbrev bp:=@of_decide_eq_true
abbrev bq:=@PySem.wpAny_callSpecial?_slot
abbrev bt:=@List.getElem?_cons_zero
abbrev bu:=@List.getElem?_cons_succ
abbrev bv:=@PySem.Heap.size_push
abbrev bw:=@List.nodup_cons
abbrev bz:=@List.prefix_refl
abbrev bB:=@PySem.wpAny_setState_of
abbrev bC:=@Nat.zero_add
abbrev bD:=@PySem.wpAny_field
abbrev bE:=@Array.getD_eq_getD_getElem?
abbrev bF:=@List.pairwise_append
abbrev bG:=@List.mem_flatMap
abbrev bH:=@PySem.wpAny_ite_true
abbrev bI:=@List.forIn_cons
abbrev bJ:=@List.mem_filter
abbrev bK:=@Nat.lt_of_le_of_lt
abbrev bL:=@List.lookup_cons
abbrev bM:=@Nat.succ_le_succ
abbrev bN:=@List.forIn_nil
abbrev bO:=@PySem.wpAny_seqItems
abbrev bQ:=@PyProof.Rows.F.plain_set_update_loop
abbrev bR:=@congrArg
abbrev bS:=@PySem.wpAny_truthy_bool
abbrev bT:=@List.nodup_append
abbrev bU:=@Nat.le_of_lt_succ
abbrev bV:=@PySem.Heap.SameBut.update
abbrev bW:=@List.filter_sublist
abbrev bX:=@Nat.le_of_eq
abbrev bY:=@List.getElem?_set_self
abbrev bZ:=@PySem.sizeLine_eq
abbrev ca:=@Option.join_some
abbrev cb:=@Bool.and_false
abbrev cf:=@Nat.lt_of_lt_of_le
abbrev cg:=@Classical.byContradiction
abbrev ch:=@List.getElem?_of_mem
abbrev cj:=@Bool.or_eq_true
abbrev cm:=@Option.isSome_iff_exists
abbrev cn:=@List.getElem?_set_ne
abbrev co:=@PyProof.Rows.spliced_more
abbrev cp:=@PySem.codeAny_builtin
abbrev cq:=@PySem.Around.under_plainId
abbrev cr:=@PySem.wpAny_newObj_type
abbrev ct:=@PySem.wpAny_pyIter_list
abbrev cu:=@Nat.lt_succ_of_lt
abbrev cw:=@Int.toNat_natCast
abbrev cy:=@List.eq_nil_of_length_eq_zero
abbrev cz:=@List.map_congr_left
abbrev cA:=@beq_self_eq_true
abbrev cB:=@if_false
abbrev cC:=@List.isEmpty_iff
abbrev cD:=@Array.getElem?_eq_none
abbrev cE:=@List.take_of_length_le
abbrev cF:=@PySem.Heap.get?_update_other
abbrev cG:=@Nat.le_of_lt
abbrev cH:=@Nat.sub_self
abbrev cI:=@List.map_map
abbrev cJ:=@Option.map_some
abbrev cK:=@Nat.le_of_ble_eq_true
abbrev cL:=@Nat.not_lt_zero
abbrev cM:=@Nat.lt_irrefl
abbrev cN:=@PySem.wpAny_standAt
abbrev cO:=@Bool.not_true
abbrev cP:=@Nat.le_succ_of_le
abbrev cQ:=@PySem.Heap.get?_push_ne
abbrev cR:=@bne_self_eq_false
abbrev cS:=@Nat.lt_succ_of_le
abbrev cT:=@PySem.wpAny_rule
abbrev cU:=@List.mem_of_mem_take
abbrev cV:=@PySem.Around.frames_deeper
abbrev cW:=@Nat.le_succ
abbrev cX:=@Nat.ne_of_gt
abbrev cY:=@Nat.succ.inj
abbrev cZ:=@Nat.lt_succ_self
abbrev dA:=@List.getElem_mem
abbrev dB:=@List.not_mem_nil
abbrev dC:=@PyProof.Rows.spliced_none
abbrev dD:=@PySem.wpAny_isInstance
abbrev dE:=@List.filterMap_cons_none
abbrev dF:=@List.filterMap_cons_some
abbrev dG:=@PyProof.Rows.F.entry_set_update_loop
abbrev dH:=@List.any_cons
abbrev dI:=@List.foldl_cons
abbrev dJ:=@PySem.wpAny_ite_split
abbrev dK:=@PyProof.Rows.Call_Name
abbrev dL:=@PyProof.Rows.assignInOrder_cons
abbrev dM:=@PySem.wpAny_tupleItemsOf
abbrev dN:=@PySem.wpAny_specialOf
abbrev dO:=@Nat.le_antisymm
abbrev dP:=@PySem.wpAny_setField_rec
abbrev dQ:=@List.set_cons_zero
abbrev dR:=@List.set_cons_succ
abbrev dS:=@List.length_nil
abbrev dT:=@Nat.le_of_succ_le_succ
abbrev dU:=@Nat.lt_of_succ_lt_succ
abbrev dW:=@Bool.not_eq_true'
abbrev dX:=@List.size_toArray
abbrev dY:=@Array.toList_push
abbrev dZ:=@List.take_add_one
abbrev eg:=@Nat.succ_pos
abbrev eo:=@List.length_singleton
abbrev ez:=@PySem.wpAny_richCompare_same_room
abbrev eA:=@Nat.not_lt
abbrev eB:=@Nat.max_le
abbrev eC:=@PySem.Heap.size_update
abbrev eD:=@PySem.wpAny_askSetting
abbrev eE:=@Nat.le_of_not_lt
abbrev eF:=@List.zipIdx_cons
abbrev eG:=@Nat.le_add_right
abbrev eH:=@List.all_cons
abbrev eI:=@List.filterMap_cons
abbrev eJ:=@PySem.Heap.get?_update_ne
abbrev eK:=@PyProof.Rows.slot_tupleiter_next
abbrev eL:=@List.map_append
end Mine
set_option bootstrap.genMatcherCode false
set_option tactic.hygienic false
section
section
namespace Mine.L06
open PySem PySem.W PySem.Calls PyProof.Rows
noncomputable def en(P:Params)(x:String)(n:Nat)(v:Value):DictEntry:=DictEntry.mk (PyData.keyHash P (Str.ofString x)) (Value.str (Str.ofString x) n) v
noncomputable def zuu:Params->Frag:=fun P=>[
 (3,PySem.Obj.mk (Value.type "dict") Option.none (PySem.Data.dict #[en P "__name__" 165 (Value.str (Str.ofString "law_uf050003_06") 467),en P "__doc__" 166 Value.none,en P "__package__" 167 Value.none,en P "__loader__" 168 (Value.builtin "__main__.__loader__#opaque"),en P "__spec__" 169 Value.none,en P "__annotations__" 170 (Value.ref 6),en P "__builtins__" 171 (Value.ref 4),en P "__file__" 173 (Value.str (Str.ofString "/claim/cut.py") 172),en P "__cached__" 174 Value.none,en P "PanError" 206 (Value.ref 24),en P "BadCount" 222 (Value.ref 37),en P "BadCases" 238 (Value.ref 49),en P "BadDone" 254 (Value.ref 61),en P "LEAST_THINGS" 258 (Value.int 2 257),en P "MOST_THINGS" 260 (Value.int 5 259),en P "MOST_CASES" 262 (Value.int 12 261),en P "is_among" 271 (Value.ref 70),en P "need_count" 278 (Value.ref 77),en P "is_case" 284 (Value.ref 82),en P "need_cases" 290 (Value.ref 87),en P "OUTCOMES" 297 (Value.ref 88),en P "is_pan" 303 (Value.ref 93),en P "is_weighing" 309 (Value.ref 98),en P "some_of" 315 (Value.ref 103),en P "all_leading" 326 (Value.ref 110),en P "came" 332 (Value.ref 115),en P "parted" 338 (Value.ref 120),en P "threes" 349 (Value.ref 127),en P "MOST_DONE" 353 (Value.int 20 352),en P "is_done" 361 (Value.ref 134),en P "still_open" 367 (Value.ref 139),en P "are_alike" 375 (Value.ref 144),en P "alike_of" 386 (Value.ref 151),en P "tried" 402 (Value.ref 158),en P "by_each" 416 (Value.ref 165),en P "looked" 427 (Value.ref 172),en P "found_for" 440 (Value.ref 179),en P "told" 455 (Value.ref 186),en P "least" 466 (Value.ref 193),en P "_law_cell_at" 476 (Value.ref 200),en P "_law_mixed" 484 (Value.ref 207),en P "_law_whole" 491 (Value.ref 214),en P "_law_came" 501 (Value.ref 221),en P "_law_pans" 507 (Value.ref 226),en P "_law_pool" 519 (Value.ref 233),en P "_law_puzzle" 525 (Value.ref 238),en P "_law_done" 544 (Value.ref 245),en P "_law_open" 550 (Value.ref 250),en P "_law_alike" 556 (Value.ref 255),en P "_law_has_alike" 566 (Value.ref 262),en P "_law_is_pan" 572 (Value.ref 267),en P "_law_is_weighing" 580 (Value.ref 274),en P "_law_is_case_told" 586 (Value.ref 279),en P "_law_is_plan" 592 (Value.ref 284),en P "_law_length" 598 (Value.ref 289),en P "_law_threes" 607 (Value.ref 296),en P "_law_is_hold" 613 (Value.ref 301),en P "_law_pair_right" 619 (Value.ref 306),en P "_law_right" 630 (Value.ref 313),en P "law" 647 (Value.ref 320)] 60) #[]),
 (88,PySem.Obj.mk (Value.type "tuple") Option.none (PySem.Data.seq #[Value.int (-1) 294,Value.int 0 295,Value.int 1 296]) #[])]
noncomputable def zuv:List Addr:=[3,88]
noncomputable def view:Program:={ PySem.Challenge.pw_uf050003_06 with main:={ PySem.Challenge.pw_uf050003_06.main with body:=(List.range 58).filterMap fun i=>if [0,5,13,21,23,27,36].contains i then none else PySem.Challenge.pw_uf050003_06.main.body[i]? } }
noncomputable abbrev hook:=kHook zuu zuv (fun uA=>by kernel_rfl)
theorem ws:OpenLaw.wellSaid PySem.Challenge.rw_uf050003_06=true:=by kernel_rfl
theorem zov:LeftO (OpenLaw.row PySem.Challenge.rw_uf050003_06).prog view [] (fun s=>xlAt view [] s && recOk (RowW.records (OpenRow.toRowW (OpenLaw.row PySem.Challenge.rw_uf050003_06))) s) (Hook.obs hook) (Hook.val hook) 4700:=by
 intro w;kernel_rfl
end Mine.L06
end
section
namespace Mine
open PySem
section
variable{h:Heap}
inductive TupR(h:Heap)(v:Value)(xs:List PyData):Prop
 | mk (a:Addr) (o:Obj) (vs:Array Value) (n:Nat) (bs:List Addr) (e:v=.ref a) (h1:h.get? a=some o) (h2:o.cls=.type "tuple") (h3:o.data=.seq vs n) (h4:ReadsAll h vs.toList xs bs)
theorem qf{v:Value}{xs:List PyData}{as:List Addr}(r:Reads h v (.tuple xs) as):TupR h v xs:=by
 cases r with
 | tuple h1 h2 h3 h4=>exact⟨_,_,_,_,_,rfl,h1,h2,h3,h4⟩
theorem vc{v:Value}{i:Int}{as:List Addr}(r:Reads h v (.int i) as):∃ t,v=.int i t:=by
 cases r;exact fz _ rfl
inductive zvz(h:Heap)(vs:List Value)(x:PyData)(xs:List PyData):Prop
 | mk (v:Value) (us:List Value) (bs cs:List Addr) (e:vs=v::us) (r:Reads h v x bs) (rs:ReadsAll h us xs cs)
theorem ki{vs:List Value}{x:PyData}{xs:List PyData}{as:List Addr}(r:ReadsAll h vs (x::xs) as):zvz h vs x xs:=by
 cases r with
 | cons r rs=>exact⟨_,_,_,_,rfl,r,rs⟩
theorem uk{vs:List Value}{as:List Addr}(r:ReadsAll h vs [] as):vs=[]:=by
 cases r;rfl
theorem zgn{v:Value}{as:List Addr}(r:Reads h v .none as):v=.none:=by
 cases r;rfl
theorem d8{v:Value}{b:Bool}{as:List Addr}(r:Reads h v (.bool b) as):v=.bool b:=by
 cases r;rfl
theorem kh{x:PyData}{as:List Addr}(r:Reads h .none x as):x=.none:=by
 cases r;rfl
theorem wh{xs:List PyData}{as:List Addr}(r:ReadsAll h [] xs as):xs=[]:=by
 cases r;rfl
inductive ztm(h:Heap)(v:Value)(vs:List Value)(xs:List PyData):Prop
 | mk (x:PyData) (ys:List PyData) (bs cs:List Addr) (e:xs=x::ys) (r:Reads h v x bs) (rs:ReadsAll h vs ys cs)
theorem xy{v:Value}{vs:List Value}{xs:List PyData}{as:List Addr}(r:ReadsAll h (v::vs) xs as):ztm h v vs xs:=by
 cases r with
 | cons r rs=>exact⟨_,_,_,_,rfl,r,rs⟩
end
inductive It where
 | b (n:Nat)
 | x (d:PyData)
inductive V where
 | d (x:PyData)
 | box (n:Nat)
 | tm (its:List It)
noncomputable abbrev MKey:=List (List Int)×Int
noncomputable def wo(k:MKey):PyData:=.tuple [.tuple (k.1.map fun c=>.tuple (c.map .int)),.int k.2]
noncomputable def zqi(k:MKey):Int:=reduceHash (Builtin.Tuple.tupleHashOf [reduceHash (Builtin.Tuple.tupleHashOf (k.1.map fun c=>reduceHash (Builtin.Tuple.tupleHashOf (c.map hashInt)))),hashInt k.2])
inductive Box where
 | lst (xs:List PyData)
 | dct (kvs:List (MKey×PyData))
noncomputable abbrev za:=List Box
noncomputable abbrev Loc:=List (Option V)
inductive R(σ α:Type) where
 | ok (a:α) (s:σ)
 | stuck
noncomputable def R.bind{σ α β:Type}:R σ α->(α->σ->R σ β)->R σ β
 | .ok a s,f=>f a s
 | .stuck,_=>.stuck
noncomputable def R.lift{α:Type}(ρ:Loc):R za α->R (Loc×za) α
 | .ok a O=>.ok a (ρ,O)
 | .stuck=>.stuck
theorem R.lift_bind{α β:Type}(ρ:Loc)(r:R za α)(g:α->za->R za β) :
 (r.bind g).lift ρ=(r.lift ρ).bind fun a S=>(g a S.2).lift ρ:=by cases r <;> rfl
inductive Fl where
 | next
 | ret (v:V)
structure Gl where
 prog:Program
 w:World
 h₀:Heap
 mg:Str->Option Value
 mb:Str->Option Value
 cls:Nat->Value
 sys:∃ m,h₀.Ns sysModules m
noncomputable abbrev Gl.m(G:Gl):=model G.prog G.w
theorem Gl.notSys(G:Gl){d:Addr}(h:G.h₀.get? d=none):(d == sysModules)=false:=beq_eq_false_iff_ne.mpr fun e=>by
 obtain⟨m,o,es,ep,h1,_⟩:=G.sys;rw[e,h1] at h;contradiction
inductive ItsR(N β:List Addr)(h:Heap):List Value->List It->Prop
 | nil:ItsR N β h [] []
 | b {n:Nat} {a:Addr} {vs:List Value} {its:List It}:β[n]?=some a->ItsR N β h vs its->ItsR N β h (.ref a::vs) (.b n::its)
 | x {v:Value} {d:PyData} {as:List Addr} {vs:List Value} {its:List It}:Reads h v d as->(∀ a∈as,a∉β/\a∉N)->ItsR N β h vs its->ItsR N β h (v::vs) (.x d::its)
inductive VRd(N β:List Addr)(h:Heap)(v:Value)(x:PyData):Prop
 | mk (as:List Addr) (r:Reads h v x as) (q:∀ a∈as,a∉β/\a∉N)
inductive zvw(β:List Addr)(v:Value)(n:Nat):Prop
 | mk (a:Addr) (h1:β[n]?=some a) (h2:v=.ref a)
inductive VRtm(N β:List Addr)(h:Heap)(v:Value)(its:List It):Prop
 | mk (a:Addr) (o:Obj) (vs:Array Value) (k:Nat) (e:v=.ref a) (h1:h.get? a=some o) (h2:o.cls=.type "tuple") (h3:o.data=.seq vs k) (h4:ItsR N β h vs.toList its)
noncomputable def VR(G:Gl)(N β:List Addr)(h:Heap)(v:Value):V->Prop
 | .d x=>VRd N β h v x
 | .box n=>zvw β v n
 | .tm its=>VRtm N β h v its
inductive ListAt(h:Heap)(N β:List Addr)(a:Addr)(xs:List PyData):Prop
 | mk (o:Obj) (vs:Array Value) (n:Nat) (h1:h.get? a=some o) (h2:o.cls=.type "list") (h3:o.data=.seq vs n) (as:List Addr) (h4:ReadsAll h vs.toList xs as) (h5:∀ b∈as,b∉β/\b∉N)
inductive zi4(h:Heap)(N β:List Addr)(e:DictEntry)(kv:MKey×PyData):Prop
 | mk (hq:e.hash=zqi kv.1) (as bs:List Addr) (r1:Reads h e.key (wo kv.1) as) (r2:Reads h e.val kv.2 bs) (q:∀ b∈as++bs,b∉β/\b∉N)
inductive DictAt(h:Heap)(N β:List Addr)(a:Addr)(kvs:List (MKey×PyData)):Prop
 | mk (o:Obj) (es:Array DictEntry) (n:Nat) (h1:h.get? a=some o) (h2:o.cls=.type "dict") (h3:o.data=.dict es n) (h4:es.size=kvs.length/\(kvs.map (·.1)).Nodup)
    (h5:∀ (i:Nat) e kv,es[i]?=some e->kvs[i]?=some kv->zi4 h N β e kv)
noncomputable def BoxAt(h:Heap)(N β:List Addr)(a:Addr):Box->Prop
 | .lst xs=>ListAt h N β a xs
 | .dct kvs=>DictAt h N β a kvs
def Plain(h:Heap)(a:Addr):Prop:=∃ o,h.get? a=some o/\o.dict=none/\o.slots = #[]
theorem Plain.at{h h':Heap}{a:Addr}(x:Plain h a)(hk:∀ o,h.get? a=some o->h'.get? a=some o):Plain h' a:=let ⟨o,e,r⟩:=x;⟨o,hk o e,r⟩
structure BR(G:Gl)(N β:List Addr)(O:za)(h:Heap):Prop where
 keep:∀ b o,G.h₀.get? b=some o->h.get? b=some o
 len:β.length=O.length
 nodup:β.Nodup
 new:∀ a∈β,G.h₀.get? a=none
 at_:∀ (i:Nat) a bx,β[i]?=some a->O[i]?=some bx->BoxAt h N β a bx
 plain:∀ a∈β,Plain h a
def Get(h:Heap)(env:Env)(x:Str)(v:Value):Prop:=
 (env.kindOf x=some .local/\∃ m,h.Ns env.locals m/\m x=some v) \/
 (env.kindOf x=some .cell/\∃ c,env.cells.lookup x=some c/\h.IsCell c (some v))
structure Fm where
 env:Env
 names:List (Option Str)
 own:Str->Bool
 W:List Addr
 B:List Addr
 fr:List Addr
 pin:Option (Str->Option Value):=none
structure FmOk(G:Gl)(F:Fm)(β:List Addr)(h:Heap):Prop where
 kind:F.env.scope.kind=.function
 globals:F.env.globals=mainGlobals
 builtins:F.env.builtins=builtinsNs
 once:∀ (i j:Nat) x,F.names[i]?=some (some x)->F.names[j]?=some (some x)->i=j
 ns:∃ m,h.Ns F.env.locals m
 nsW:F.env.locals∈F.W
 cell:∀ x,F.env.kindOf x=some .cell->∃ c v,F.env.cells.lookup x=some c/\h.IsCell c v/\c∈F.B/\(F.own x=true->c∈F.W)
 apart:∀ x y c,F.env.cells.lookup x=some c->F.env.cells.lookup y=some c->x=y
 sub:∀ a∈F.W,a∈F.B
 new:(∀ a∈F.B,a≠sysModules->G.h₀.get? a=none)/\sysModules∈F.B/\sysModules∉F.W/\sysModules∉F.fr
 notBox:∀ a∈F.B,a∉β
 stor:∀ a∈F.B,∃ o,h.get? a=some o/\∀ vs n,o.data=.seq vs n->o.cls≠.type "tuple"
 frB:∀ a∈F.fr,a∈F.B
 frs:∀ a∈F.fr,∃ m,h.Ns a m
 pin:∀ m,F.pin=some m->h.Ns F.env.locals m/\∀ x,F.own x=false
theorem FmOk.newB{G:Gl}{F:Fm}{β:List Addr}{h:Heap}(f:FmOk G F β h){a:Addr}(ha:a∈F.B)(hs:a≠sysModules):G.h₀.get? a=none:=f.new.1 a ha hs
theorem FmOk.newW{G:Gl}{F:Fm}{β:List Addr}{h:Heap}(f:FmOk G F β h){a:Addr}(ha:a∈F.W):G.h₀.get? a=none:=f.new.1 a (f.sub a ha) fun e=>f.new.2.2.1 (e ▸ ha)
structure SR(G:Gl)(F:Fm)(β:List Addr)(ρ:Loc)(O:za)(h:Heap):Prop where
 br:BR G F.B β O h
 fm:FmOk G F β h
 get:∀ (i:Nat) x v,F.names[i]?=some (some x)->ρ[i]?=some (some v)->∃ val,Get h F.env x val/\VR G F.B β h val v
theorem BR.sysAlive{G:Gl}{N β:List Addr}{O:za}{h:Heap}(b:BR G N β O h):∃ o es n,h.get? sysModules=some o/\o.data=.dict es n:=by
 obtain⟨m,o,es,ep,h1,h2,_⟩:=G.sys;exact fA o es ep (b.keep _ _ h1) h2
theorem BR.notSys{G:Gl}{N β:List Addr}{O:za}{h:Heap}(b:BR G N β O h){a:Addr}(ha:h.get? a=none):a≠sysModules:=fun e=>by
 obtain⟨o,es,n,h1,_⟩:=b.sysAlive;rw[e,h1] at ha;contradiction
theorem BR.notSysD{G:Gl}{N β:List Addr}{O:za}{h:Heap}(b:BR G N β O h){a:Addr}{o:Obj}(ha:h.get? a=some o)(hd:∀ es n,o.data≠.dict es n):a≠sysModules:=fun e=>by
 obtain⟨o',es,n,h1,h2⟩:=b.sysAlive;rw[e,h1] at ha;injection ha with fu;subst fu;exact hd _ _ h2
theorem zer{G:Gl}{F:Fm}{N β M fr:List Addr}{O:za}{h:Heap}(b:BR G N β O h)(hM:∀ a∈M,h.get? a=none)(f:(∀ a∈F.B,a≠sysModules->G.h₀.get? a=none)/\sysModules∈F.B) :
 (∀ a∈M++F.B,a≠sysModules->G.h₀.get? a=none)/\sysModules∈M++F.B/\sysModules∉M:=by
 refine⟨fun a ha hs=>?_,aq _ f.2,fun hm=>b.notSys (hM _ hm) rfl⟩;refine fx (aj.mp ha) ?_ ?_
 ·intro ha;cases e:G.h₀.get? a with
  | none=>rfl
  | some o=>have:=b.keep a o e;rw[hM a ha] at this;contradiction
 ·intro ha;exact f.1 a ha hs
def Kin(o o':Obj):Prop:=∃ sl,o' = { o with slots:=sl }/\((∀ es n,o.data≠.dict es n)->sl=o.slots)
theorem Kin.refl(o:Obj):Kin o o:=⟨o.slots,rfl,fun uA=>rfl⟩
theorem Kin.trans{o o' o'':Obj}(x:Kin o o')(y:Kin o' o''):Kin o o'':=by
 refine fC x ?_;clear x;intro a eN h1;subst eN;refine fC y ?_;clear y;intro b eN h2;subst eN;exact fD b rfl (fun h=>(h2 h).trans (h1 h))
theorem Kin.cls{o o':Obj}(x:Kin o o'):o'.cls=o.cls:=by refine fC x ?_;clear x;intro a eN _;subst eN;rfl
theorem Kin.data{o o':Obj}(x:Kin o o'):o'.data=o.data:=by refine fC x ?_;clear x;intro a eN _;subst eN;rfl
theorem Kin.same{o o':Obj}(x:Kin o o')(h:∀ es n,o.data≠.dict es n):o'=o:=by refine fC x ?_;clear x;intro a eN h1;subst eN;rw[h1 h]
theorem Kin.ns{h h':Heap}{a:Addr}{m:Str->Option Value}(x:h.Ns a m)(k:∀ o,h.get? a=some o->∃ o',h'.get? a=some o'/\Kin o o'):h'.Ns a m:=by
 refine fE x fun o es ep h1 h2 h3 h4=>?_;refine fC (k o h1) fun o' e' kn=>?_;exact fF o' es ep e' (kn.data.trans h2) h3 h4
theorem Kin.cell{h h':Heap}{a:Addr}{v:Option Value}(x:h.IsCell a v)(k:∀ o,h.get? a=some o->∃ o',h'.get? a=some o'/\Kin o o'):h'.IsCell a v:=by
 refine fC x fun o h1 h2=>?_;refine fC (k o h1) fun o' e' kn=>?_;exact fD o' e' (kn.data.trans h2)
structure Step(W:List Addr)(β:List Addr)(s s':Shared)(β':List Addr):Prop where
 gens:s'.gens=s.gens
 os:s'.os=s.os
 pre:β <+: β'
 fresh:∀ a∈β',a∈β\/s.heap.get? a=none
 alive:∀ b o,s.heap.get? b=some o->∃ o',s'.heap.get? b=some o'
 kept:∀ b o,s.heap.get? b=some o->b∉β->b∉W->∃ o',s'.heap.get? b=some o'/\Kin o o'
theorem Step.refl(W β s):Step W β s s β:=⟨rfl,rfl,bz _,fun uA h=>.inl h,fun uA o h=>⟨o,h⟩,fun uA o h uA uA=>⟨o,h,Kin.refl o⟩⟩
theorem Step.keptE{W β s s' β'}(x:Step W β s s' β'){b:Addr}{o:Obj}(e:s.heap.get? b=some o)(hb:b∉β)(hW:b∉W)(hd:∀ es n,o.data≠.dict es n):s'.heap.get? b=some o:=by
 refine fC (x.kept b o e hb hW) fun o' e' k=>?_;rw[e',k.same hd]
theorem Step.trans{W β β' β'' s s' s''}(x:Step W β s s' β')(y:Step W β' s' s'' β''):Step W β s s'' β'' where
 gens:=y.gens.trans x.gens
 os:=y.os.trans x.os
 pre:=x.pre.trans y.pre
 fresh:=fun a ha=>by
  refine fx (y.fresh a ha) ?_ ?_
  ·intro h;exact x.fresh a h
  ·intro h;right
   cases e:s.heap.get? a with
   | none=>rfl
   | some o=>refine fG (x.alive a o e) fun o' e'=>?_;rw[e'] at h;contradiction
 alive:=fun b o e=>let ⟨o',e'⟩:=x.alive b o e;y.alive b o' e'
 kept:=fun b o e hb hW=>by
  refine fC (x.kept b o e hb hW) fun o' e' k=>?_;obtain⟨o'',e'',k'⟩:=y.kept b o' e' (fun hb'=>by
   refine fx (x.fresh b hb') ?_ ?_
   ·intro h;exact hb h
   ·intro h;rw[e] at h;contradiction) hW
  exact fD o'' e'' (k.trans k')
theorem x9{β β':List Addr}(h:β <+: β'){i:Nat}{a:Addr}(ha:β[i]?=some a):β'[i]?=some a:=by
 refine fG h ?_;clear h;intro t eN;subst eN;have hi:i < β.length:=by
  refine fx (bn i β.length) ?_ ?_
  ·intro h;exact h
  ·intro h;rw[a7 h] at ha;contradiction
 rw[aJ hi];exact ha
theorem vb{h h':Heap}{P:Addr->Prop}(hk:∀ b o,h.get? b=some o->P b->∃ o',h'.get? b=some o'/\Kin o o')
 (hP:∀ b o vs n,h.get? b=some o->o.cls=.type "tuple"->o.data=.seq vs n->P b) {v:Value} {x:PyData} {as:List Addr} (r:Reads h v x as):(∀ a∈as,P a)->Reads h' v x as:=
 Reads.rec (motive_1:=fun v x as uA=>(∀ a∈as,P a)->Reads h' v x as) (motive_2:=fun vs xs as uA=>(∀ a∈as,P a)->ReadsAll h' vs xs as)
  (fun uA=>.none) (fun b uA=>.bool b) (fun i t uA=>.int i t) (fun x t uA=>.str x t)
  (fun h1 h2 h3 uA ih q=>let ⟨_,e,k⟩:=hk _ _ h1 (q _ (.head _));.list e (k.cls.trans h2) (k.data.trans h3) (ih fun a ha=>q a (.tail _ ha)))
  (fun h1 h2 h3 uA ih q=>let ⟨_,e,k⟩:=hk _ _ h1 (hP _ _ _ _ h1 h2 h3);.tuple e (k.cls.trans h2) (k.data.trans h3) (ih q))
  (fun h1 h2 h3 uA uA ih ih' q=>let ⟨_,e,k⟩:=hk _ _ h1 (q _ (.head _));.dict e (k.cls.trans h2) (k.data.trans h3) (ih fun a ha=>q a (aC _ (ah _ ha))) (ih' fun a ha=>q a (aq _ ha)))
  (fun uA=>.nil) (fun uA uA i1 i2 q=>.cons (i1 fun a ha=>q a (aC _ ha)) (i2 fun a ha=>q a (aq _ ha))) r
theorem w5{h h':Heap}{P:Addr->Prop}(hk:∀ b o,h.get? b=some o->P b->∃ o',h'.get? b=some o'/\Kin o o')
 (hP:∀ b o vs n,h.get? b=some o->o.cls=.type "tuple"->o.data=.seq vs n->P b) {vs:List Value} {xs:List PyData} {as:List Addr} (r:ReadsAll h vs xs as):(∀ a∈as,P a)->ReadsAll h' vs xs as:=
 ReadsAll.rec (motive_1:=fun uA uA uA uA=>True) (motive_2:=fun vs xs as uA=>(∀ a∈as,P a)->ReadsAll h' vs xs as)
  trivial (fun uA=>trivial) (fun uA uA=>trivial) (fun uA uA=>trivial) (fun uA uA uA uA uA=>trivial) (fun uA uA uA uA uA=>trivial) (fun uA uA uA uA uA uA uA=>trivial)
  (fun uA=>.nil) (fun r uA uA i2 q=>.cons (vb hk hP r fun a ha=>q a (aC _ ha)) (i2 fun a ha=>q a (aq _ ha))) r
theorem jg{h h':Heap}{P:Addr->Prop}(hk:∀ b o,h.get? b=some o->P b->h'.get? b=some o)
 (hP:∀ b o vs n,h.get? b=some o->o.cls=.type "tuple"->o.data=.seq vs n->P b) {v:Value} {x:PyData} {as:List Addr} (r:Reads h v x as) (q:∀ a∈as,P a):Reads h' v x as:=
 vb (fun b o e p=>⟨o,hk b o e p,Kin.refl o⟩) hP r q
theorem xq{h h':Heap}{P:Addr->Prop}(hk:∀ b o,h.get? b=some o->P b->h'.get? b=some o)
 (hP:∀ b o vs n,h.get? b=some o->o.cls=.type "tuple"->o.data=.seq vs n->P b) {vs:List Value} {xs:List PyData} {as:List Addr} (r:ReadsAll h vs xs as) (q:∀ a∈as,P a):ReadsAll h' vs xs as:=
 w5 (fun b o e p=>⟨o,hk b o e p,Kin.refl o⟩) hP r q
theorem y7{h:Heap}{v:Value}{x:PyData}{as:List Addr}(r:Reads h v x as):∀ a∈as,∃ o,h.get? a=some o:=
 Reads.rec (motive_1:=fun uA uA as uA=>∀ a∈as,∃ o,h.get? a=some o) (motive_2:=fun uA uA as uA=>∀ a∈as,∃ o,h.get? a=some o)
  (fun uA h=>nomatch h) (fun uA uA h=>nomatch h) (fun uA uA uA h=>nomatch h) (fun uA uA uA h=>nomatch h)
  (fun h1 uA uA uA ih a ha=>(ag.mp ha).elim (fun e=>⟨_,e ▸ h1⟩) (ih a))
  (fun uA uA uA uA ih=>ih)
  (fun h1 uA uA uA uA ih ih' a ha=>(aj.mp ha).elim (fun ha=>(ag.mp ha).elim (fun e=>⟨_,e ▸ h1⟩) (ih a)) (ih' a))
  (fun uA h=>nomatch h) (fun uA uA i1 i2 a ha=>(aj.mp ha).elim (i1 a) (i2 a)) r
theorem qg{h:Heap}{vs:List Value}{xs:List PyData}{as:List Addr}(r:ReadsAll h vs xs as):∀ a∈as,∃ o,h.get? a=some o:=
 ReadsAll.rec (motive_1:=fun uA uA uA uA=>True) (motive_2:=fun uA uA as uA=>∀ a∈as,∃ o,h.get? a=some o)
  trivial (fun uA=>trivial) (fun uA uA=>trivial) (fun uA uA=>trivial) (fun uA uA uA uA uA=>trivial) (fun uA uA uA uA uA=>trivial) (fun uA uA uA uA uA uA uA=>trivial)
  (fun uA h=>nomatch h) (fun r uA uA i2 a ha=>(aj.mp ha).elim (y7 r a) (i2 a)) r
theorem BR.alive{G:Gl}{N β:List Addr}{O:za}{h:Heap}(b:BR G N β O h):∀ a∈β,∃ o,h.get? a=some o/\(o.cls=.type "list"\/o.cls=.type "dict"):=by
 intro a ha;refine fG (ch ha) fun i hi=>?_;have hl:i < O.length:=by
  rw[<- b.len];refine fx (bn i β.length) ?_ ?_
  ·intro h;exact h
  ·intro h;rw[a7 h] at hi;contradiction
 have hx:=b.at_ i a _ hi (au hl)
 cases hb:O[i] with
 | lst xs=>rw[hb] at hx;obtain⟨o,_,_,h1,h2,_⟩:=hx;exact fD o h1 (.inl h2)
 | dct kvs=>rw[hb] at hx;obtain⟨o,_,_,h1,h2,_⟩:=hx;exact fD o h1 (.inr h2)
theorem qb{G:Gl}{F:Fm}{β:List Addr}{O:za}{h:Heap}(b:BR G F.B β O h)(f:FmOk G F β h){a:Addr}{o:Obj}{vs:Array Value}{n:Nat}(e:h.get? a=some o)(hc:o.cls=.type "tuple")(hd:o.data=.seq vs n) :
 a∉β/\a∉F.B:=by
 refine⟨fun hb=>?_,fun hB=>?_⟩
 ·refine fC (b.alive a hb) fun o' e' h'=>?_;rw[e] at e';injection e' with fu;subst fu
  rw[hc] at h';refine fx h' (fun h'=>?_) fun h'=>?_ <;> exact absurd h' (by decide)
 ·refine fC (f.stor a hB) fun o' e' h'=>?_;rw[e] at e';injection e' with fu;subst fu
  exact h' _ _ hd hc
theorem gn{W β β':List Addr}{s s':Shared}(st:Step W β s s' β'){as:List Addr}{N:List Addr}(al:∀ a∈as,∃ o,s.heap.get? a=some o)(q:∀ a∈as,a∉β/\a∉N):∀ a∈as,a∉β'/\a∉N:=
 fun a ha=>by
  refine⟨fun hb=>?_,(q a ha).2⟩;refine fx (st.fresh a hb) ?_ ?_
  ·intro h;exact (q a ha).1 h
  ·intro h;refine fG (al a ha) fun o e=>?_;rw[e] at h;contradiction
section
variable{G:Gl}{F:Fm}{β β':List Addr}{O:za}{s s':Shared}(b:BR G F.B β O s.heap)(f:FmOk G F β s.heap)(st:Step F.W β s s' β')
include b f st
theorem ya{v:Value}{x:PyData}{as:List Addr}(r:Reads s.heap v x as)(q:∀ a∈as,a∉β/\a∉F.B):Reads s'.heap v x as/\∀ a∈as,a∉β'/\a∉F.B:=
 ⟨vb (P:=fun a=>a∉β/\a∉F.B) (fun a o e p=>st.kept a o e p.1 fun hw=>p.2 (f.sub a hw)) (fun uA uA uA uA e hc hd=>qb b f e hc hd) r q,gn st (y7 r) q⟩
theorem z0{vs:List Value}{xs:List PyData}{as:List Addr}(r:ReadsAll s.heap vs xs as)(q:∀ a∈as,a∉β/\a∉F.B):ReadsAll s'.heap vs xs as/\∀ a∈as,a∉β'/\a∉F.B:=
 ⟨w5 (P:=fun a=>a∉β/\a∉F.B) (fun a o e p=>st.kept a o e p.1 fun hw=>p.2 (f.sub a hw)) (fun uA uA uA uA e hc hd=>qb b f e hc hd) r q,gn st (qg r) q⟩
theorem ItsR.step{vs:List Value}{its:List It}(r:ItsR F.B β s.heap vs its):ItsR F.B β' s'.heap vs its:=by
 induction r with
 | nil=>exact .nil
 | b h1 _ ih=>exact .b (x9 st.pre h1) ih
 | x h1 h2 _ ih=>refine fH (ya b f st h1 h2) fun r' q'=>?_;exact .x r' q' ih
theorem VR.step{v:Value}{x:V}(r:VR G F.B β s.heap v x):VR G F.B β' s'.heap v x:=by
 cases x with
 | d x=>obtain⟨as,r,q⟩:=r;refine fH (ya b f st r q) fun r' q'=>?_;exact⟨as,r',q'⟩
 | box n=>obtain⟨a,h1,h2⟩:=r;exact⟨a,x9 st.pre h1,h2⟩
 | tm its=>
   obtain⟨a,o,vs,k,rfl,h1,h2,h3,h4⟩:=r;refine fH (qb b f h1 h2 h3) fun p1 p2=>?_;exact⟨a,o,vs,k,rfl,st.keptE h1 p1 (fun hw=>p2 (f.sub a hw)) (fun es n q=>by rw[h3] at q;contradiction),h2,h3,ItsR.step b f st h4⟩
end
noncomputable abbrev WT(α:Type):=(α->Shared->Prop)->(Value->Shared->Prop)->Shared->Prop
noncomputable abbrev tr(G:Gl)(A:Around){α:Type}(t:Sem α):WT α:=fun Q E s=>wpAny G.m A t Q E s
def DoesW{α δ:Type}(G:Gl)(F:Fm)(s:Shared)(β:List Addr)(T:WT α)(r:R (Loc×za) δ)(Rel:List Addr->Heap->α->δ->Prop):Prop:=
 match r with
 | .ok d S=>∀ (Q:α->Shared->Prop) (E:Value->Shared->Prop),
    (∀ s' β' a,Step F.W β s s' β'->SR G F β' S.1 S.2 s'.heap->Rel β' s'.heap a d->Q a s')->T Q E s
 | .stuck=>True
abbrev Does{α δ:Type}(G:Gl)(F:Fm)(A:Around)(s:Shared)(β:List Addr)(t:Sem α)(r:R (Loc×za) δ)(Rel:List Addr->Heap->α->δ->Prop):Prop:=
 DoesW G F s β (tr G A t) r Rel
theorem DoesW.seq{α γ δ ε:Type}{G:Gl}{F:Fm}{s:Shared}{β:List Addr}{T:WT γ}{T1A:WT α}{T2A:α->WT γ}{r:R (Loc×za) δ}{g:δ->Loc×za->R (Loc×za) ε}
 {Rel₁:List Addr->Heap->α->δ->Prop} {Rel:List Addr->Heap->γ->ε->Prop}
 (hw:∀ (Q:γ->Shared->Prop) (E:Value->Shared->Prop),T1A (fun a s'=>T2A a Q E s') E s->T Q E s)
 (h1:DoesW G F s β T1A r Rel₁)
 (h2:∀ s' β' a d S,r=.ok d S->Step F.W β s s' β'->SR G F β' S.1 S.2 s'.heap->Rel₁ β' s'.heap a d->DoesW G F s' β' (T2A a) (g d S) Rel) :
 DoesW G F s β T (r.bind g) Rel:=by
 cases r with
 | stuck=>trivial
 | ok d S=>
   show DoesW G F s β T (g d S) Rel
   cases hg:g d S with
   | stuck=>trivial
   | ok e S'=>
     intro Q E k;refine hw Q E (h1 _ _ fun s' β' a st sr rel=>?_);have:=h2 s' β' a d S rfl st sr rel;rw[hg] at this;exact this Q E fun s'' β'' c st' sr' rel'=>k s'' β'' c (st.trans st') sr' rel'
theorem DoesW.seqE{α γ δ ε:Type}{G:Gl}{F:Fm}{s:Shared}{β:List Addr}{ρ:Loc}{T:WT γ}{T1A:WT α}{T2A:α->WT γ}{r:R za δ}{g:δ->za->R za ε}
 {Rel₁:List Addr->Heap->α->δ->Prop} {Rel:List Addr->Heap->γ->ε->Prop}
 (hw:∀ (Q:γ->Shared->Prop) (E:Value->Shared->Prop),T1A (fun a s'=>T2A a Q E s') E s->T Q E s)
 (h1:DoesW G F s β T1A (r.lift ρ) Rel₁)
 (h2:∀ s' β' a d O,r=.ok d O->Step F.W β s s' β'->SR G F β' ρ O s'.heap->Rel₁ β' s'.heap a d->DoesW G F s' β' (T2A a) ((g d O).lift ρ) Rel) :
 DoesW G F s β T ((r.bind g).lift ρ) Rel:=by
 rw[R.lift_bind];refine DoesW.seq hw h1 fun s' β' a d S e st sr rel=>?_
 cases r with
 | ok d' O=>cases (e);exact h2 s' β' a d O rfl st sr rel
 | stuck=>contradiction
theorem DoesW.by{α γ δ ε:Type}{G:Gl}{F:Fm}{s:Shared}{β:List Addr}{T:WT γ}{T1A:WT α}{r:R (Loc×za) δ}{r':R (Loc×za) ε}
 {Rel₁:List Addr->Heap->α->δ->Prop} {Rel:List Addr->Heap->γ->ε->Prop} (f:α->γ) (q:δ->ε)
 (hw:∀ (Q:γ->Shared->Prop) (E:Value->Shared->Prop),T1A (fun a s'=>Q (f a) s') E s->T Q E s)
 (h1:DoesW G F s β T1A r Rel₁) (hr:∀ β h a d,Rel₁ β h a d->Rel β h (f a) (q d))
 (hq:r'=r.bind fun d S=>.ok (q d) S:=by rfl):DoesW G F s β T r' Rel:=by
 subst hq
 cases r with
 | stuck=>trivial
 | ok d S=>exact fun Q E k=>hw Q E (h1 _ _ fun s' β' a st sr rel=>k s' β' _ st sr (hr _ _ _ _ rel))
theorem DoesW.weaken{α δ:Type}{G:Gl}{F:Fm}{s:Shared}{β:List Addr}{T T1A:WT α}{r:R (Loc×za) δ}
 {Rel₁ Rel:List Addr->Heap->α->δ->Prop} (h1:DoesW G F s β T1A r Rel₁) (hw:∀ (Q:α->Shared->Prop) (E:Value->Shared->Prop),T1A Q E s->T Q E s)
 (hr:∀ β h a d,Rel₁ β h a d->Rel β h a d):DoesW G F s β T r Rel:=by
 cases r with
 | stuck=>trivial
 | ok d S=>exact fun Q E k=>hw Q E (h1 _ _ fun s' β' a st sr rel=>k s' β' _ st sr (hr _ _ _ _ rel))
inductive Ty where
 | int | bool | tuple | list | str
 deriving DecidableEq
inductive Bop where
 | add | sub | mul | fdiv | mod | pow
 deriving DecidableEq
inductive Cop where
 | eq | ne | lt | le | gt | ge | is | isnot | in_ | notin
 deriving DecidableEq
inductive Prim where
 | isinst (t:Ty) | isexc (c:Nat)
 | len | all | any | sum | sorted | list | tuple | min2 | min | max | int | str | lenset | sortedset
 deriving DecidableEq
inductive Meth where
 | append | pop | clear | index
 deriving DecidableEq
inductive CT where
 | name (i:Nat)
 | two (a b:CT)
structure Pg where
 call:Bool->Nat->List V->za->R za V
 hd:Bool
 gval:Nat->Option PyData
 turns:Nat
 sub:Nat->Nat->Option Bool
 srt:List PyData->Option (List PyData)
 sets:Bool
 txt:PyData->Option Str
noncomputable def v7(O:za)(n:Nat):Option PyData:=match O[n]? with
 | some (.lst xs)=>some (.list xs)
 | _=>none
noncomputable def look(O:za):V->Option PyData
 | .d x=>some x
 | .box n=>v7 O n
 | _=>none
noncomputable def allD:List V->Option (List PyData)
 | []=>some []
 | .d x::r=>(allD r).map (x::·)
 | _::_=>none
noncomputable def allI:List V->Option (List It)
 | []=>some []
 | .d x::r=>(allI r).map (.x x::·)
 | .box n::r=>(allI r).map (.b n::·)
 | _::_=>none
noncomputable def tupV(vs:List V):Option V:=match allD vs with
 | some xs=>some (.d (.tuple xs))
 | none=>(allI vs).map .tm
noncomputable def repL{α:Type}(xs:List α)(n:Int):List α:=(List.replicate n.toNat xs).flatten
noncomputable def line:Nat:=1000000
noncomputable def addD:PyData->PyData->Option PyData
 | .int a,y=>(match y with
    | .int b=>some (.int (a+b))
    | _=>none)
 | .list a,y=>(match y with
    | .list b=>if a.length+b.length<=line then some (.list (a++b)) else none
    | _=>none)
 | .tuple a,y=>(match y with
    | .tuple b=>if a.length+b.length<=line then some (.tuple (a++b)) else none
    | _=>none)
 | _,_=>none
noncomputable def mulD:PyData->Int->Option PyData
 | .int a,b=>if a.natAbs < 2 ^ 64\/b.natAbs < 2 ^ 64 then some (.int (a * b)) else none
 | .list a,n=>if a.length * n.toNat<=256/\0<=n/\n<=256 then some (.list (repL a n)) else none
 | .tuple a,n=>if a≠[]/\a.length * n.toNat<=256/\2<=n/\n<=256 then some (.tuple (repL a n)) else none
 | _,_=>none
noncomputable def arith(op:Bop)(a b:Int):Option PyData:=match op with
 | .sub=>some (.int (a - b))
 | .fdiv=>if b≠0/\b.natAbs < 1073741824 then some (.int (Int.fdiv a b)) else none
 | .mod=>if b=0 then none else some (.int (Int.fmod a b))
 | .pow=>if a=10/\b=20 then some (.int 100000000000000000000) else none
 | _=>none
noncomputable def intD(f:Int->Option PyData):PyData->Option PyData
 | .int i=>f i
 | _=>none
noncomputable def zcw(op:Bop)(x y:PyData):Option PyData:=match op with
 | .add=>addD x y
 | .mul=>intD (mulD x) y
 | op=>intD (fun a=>intD (arith op a) y) x
noncomputable def eqOk(a b:PyData):Bool:=a.canLay0 && b.canLay0 && decide (min a.depth b.depth<=100)
noncomputable def inD(a:PyData)(xs:List PyData):Option Bool:=if a.canLay0 && PyData.canLayAll0 xs && decide (a.depth<=100) then some (xs.any fun y=>PyData.eqv y a) else none
noncomputable def seqD:PyData->Option (List PyData)
 | .list xs=>some xs
 | .tuple xs=>some xs
 | _=>none
noncomputable def ordD(f:Int->Int->Bool):PyData->PyData->Option Bool
 | .int a,y=>(match y with
    | .int b=>some (f a b)
    | _=>none)
 | _,_=>none
noncomputable def gq(op:Cop)(a b:PyData):Option Bool:=match op with
 | .eq=>if eqOk a b then some (PyData.eqv a b) else none
 | .ne=>if eqOk a b then some (!PyData.eqv a b) else none
 | .lt=>ordD (fun a b=>decide (a < b)) a b
 | .le=>ordD (fun a b=>decide (a<=b)) a b
 | .gt=>ordD (fun a b=>decide (a > b)) a b
 | .ge=>ordD (fun a b=>decide (a ≥ b)) a b
 | .in_=>(seqD b).bind (inD a)
 | .notin=>((seqD b).bind (inD a)).map (!·)
 | _=>none
noncomputable def isNone:PyData->Bool
 | .none=>true
 | _=>false
noncomputable def isBool(b:Bool):PyData->Bool
 | .bool a=>a == b
 | _=>false
noncomputable def isop(x:PyData):PyData->Option Bool
 | .none=>some (isNone x)
 | .bool b=>some (isBool b x)
 | _=>none
noncomputable def truth:V->Option Bool
 | .d (.bool b)=>some b
 | _=>none
noncomputable def items:PyData->Option (List PyData)
 | .list xs=>some xs
 | .tuple xs=>some xs
 | _=>none
noncomputable def idxD(x:PyData)(i:PyData):Option PyData:=match items x,i with
 | some xs,.int k=>if xs.length<=line then (if 0<=k then xs[k.toNat]? else if 0<=k+xs.length then xs[(k+xs.length).toNat]? else none) else none
 | _,_=>none
noncomputable def clip(n:Nat)(dflt:Nat):PyData->Option Nat
 | .none=>some dflt
 | .int k=>some (clipAt n k)
 | _=>none
noncomputable def qc{α:Type}(xs:List α)(lo hi:Nat):List α:=(xs.drop lo).take (hi - lo)
noncomputable def jq(xs:List PyData)(lo hi:PyData):Option PyData:=if xs.length<=line then (clip xs.length 0 lo).bind fun l=>(clip xs.length xs.length hi).map fun h=>.list (qc xs l h) else none
noncomputable def ofList(f:List PyData->Option PyData):PyData->Option PyData
 | .list xs=>f xs
 | _=>none
noncomputable def zgg(x lo hi:PyData):Option PyData:=ofList (fun xs=>jq xs lo hi) x
noncomputable def isTy:Ty->PyData->Bool
 | .int,.int _=>true
 | .int,.bool _=>true
 | .bool,.bool _=>true
 | .tuple,.tuple _=>true
 | .list,.list _=>true
 | .str,.str _=>true
 | _,_=>false
noncomputable def intsOf:List PyData->Option (List Int)
 | []=>some []
 | .int i::r=>(intsOf r).map (i::·)
 | _::_=>none
noncomputable def wb:List PyData->Option (List Bool)
 | []=>some []
 | .bool i::r=>(wb r).map (i::·)
 | _::_=>none
noncomputable def isInt:PyData->Bool
 | .int _=>true
 | _=>false
noncomputable def addI(a:Int):List Int->List Int
 | []=>[a]
 | b::r=>if a < b then a::b::r else if a=b then b::r else b::addI a r
noncomputable def x5(is:List Int):List Int:=is.foldl (fun acc i=>addI i acc) []
noncomputable def small(is:List Int):Bool:=decide (is.length<=4) && is.all fun i=>decide (0<=i) && decide (i < 5)
noncomputable def maxI:List Int->Option Int
 | []=>none
 | a::r=>some (r.foldl max a)
noncomputable def tupI:PyData->Option (List Int)
 | .tuple xs=>intsOf xs
 | _=>none
noncomputable def jo:List PyData->Option (List (List Int))
 | []=>some []
 | x::r=>(tupI x).bind fun a=>(jo r).map (a::·)
noncomputable def Prim.calm:Prim->Bool
 | .isinst _ | .isexc _ | .len | .int=>true
 | _=>false
noncomputable def lenD:PyData->Option PyData
 | .list xs=>if xs.length<=line then some (.int xs.length) else none
 | .tuple xs=>if xs.length<=line then some (.int xs.length) else none
 | _=>none
noncomputable def zev(f:List PyData->Option PyData):PyData->Option PyData
 | .list xs=>f xs
 | _=>none
noncomputable def zn9:PyData->Option PyData
 | .list xs=>if xs.length<=line then some (.list xs) else none
 | .tuple xs=>if xs.length<=line then some (.list xs) else none
 | _=>none
noncomputable def zq5:PyData->Option PyData
 | .list xs=>if xs.length<=line then some (.tuple xs) else none
 | .tuple xs=>some (.tuple xs)
 | _=>none
noncomputable def zq6:PyData->Option PyData
 | .bool b=>some (.int (if b then 1 else 0))
 | _=>none
noncomputable def setT(f:List Int->PyData)(xs:List PyData):Option PyData:=(intsOf xs).bind fun is=>if small is then some (f is) else none
noncomputable def zdi:PyData->Option PyData
 | .tuple xs=>setT (fun is=>.int (x5 is).length) xs
 | _=>none
noncomputable def we:PyData->Option PyData
 | .tuple xs=>setT (fun is=>.list ((x5 is).map .int)) xs
 | _=>none
noncomputable def zcc(P:Pg):Prim->PyData->Option PyData
 | .isinst t,x=>some (.bool (isTy t x))
 | .isexc _,_=>none
 | .len,x=>lenD x
 | .all,x=>zev (fun xs=>(wb xs).map fun bs=>.bool (bs.all id)) x
 | .any,x=>zev (fun xs=>(wb xs).map fun bs=>.bool (bs.any id)) x
 | .sum,x=>zev (fun xs=>(intsOf xs).map fun is=>.int is.sum) x
 | .sorted,x=>zev (fun xs=>if xs.length < 64 then (P.srt xs).map .list else none) x
 | .list,x=>zn9 x
 | .tuple,x=>zq5 x
 | .min2,_=>none
 | .min,_=>none
 | .max,_=>none
 | .int,x=>zq6 x
 | .str,_=>none
 | .lenset,x=>(match P.sets with
    | true=>zdi x
    | false=>none)
 | .sortedset,x=>(match P.sets with
    | true=>we x
    | false=>none)
noncomputable def zuj:PyData->PyData->Option PyData
 | .int a,.int b=>some (.int (min a b))
 | _,_=>none
noncomputable def v5(P:Pg)(p:Prim)(xs:List PyData):Option PyData:=match xs with
 | [x]=>zcc P p x
 | [x,y]=>(match p with
     | .min2=>zuj x y
     | _=>none)
 | _=>none
noncomputable def opt{α:Type}(o:Option α)(O:za):R za α:=match o with
 | some a=>.ok a O
 | none=>.stuck
noncomputable def prim(P:Pg)(p:Prim)(vs:List V)(O:za):R za V:=
 match (vs.mapM (look O)).bind (v5 P p) with
 | some y=>.ok (.d y) O
 | none=>.stuck
noncomputable def z5(kvs:List (MKey×PyData))(k:MKey):Option PyData:=(kvs.find? fun kv=>decide (kv.1=k)).map (·.2)
noncomputable def keyN(xs:List PyData):PyData->Option MKey
 | .int n=>(jo xs).map fun kss=>(kss,n)
 | _=>none
noncomputable def keyT(y:PyData):PyData->Option MKey
 | .tuple xs=>keyN xs y
 | _=>none
noncomputable def keyL:List PyData->Option MKey
 | []=>none
 | x::l=>(match l with
    | []=>none
    | y::r=>(match r with
       | []=>keyT y x
       | _::_=>none))
noncomputable def keyOf:PyData->Option MKey
 | .tuple l=>keyL l
 | _=>none
noncomputable def boxL(o:V)(O:za)(f:Nat->List PyData->R za V):R za V:=match o with
 | .box n=>(match O[n]? with
    | some (.lst xs)=>f n xs
    | _=>.stuck)
 | _=>.stuck
noncomputable def oneD(f:PyData->R za V)(vs:List V):R za V:=match vs with
 | [.d x]=>f x
 | _=>.stuck
noncomputable def meth(m:Meth)(o:V)(vs:List V)(O:za):R za V:=match m with
 | .append=>boxL o O fun n xs=>oneD (fun x=>if xs.length < line then .ok (.d .none) (O.set n (.lst (xs++[x]))) else .stuck) vs
 | _=>.stuck
noncomputable def ze0(O:za)(n:Nat):Bool:=match O[n]? with
 | some (.lst _)=>true
 | _=>false
noncomputable def recv(m:Meth)(v:V)(O:za):Bool:=match m,v with
 | .append,.box n=>ze0 O n
 | _,_=>false
inductive Src where
 | plain (xs:List PyData)
 | box (n:Nat) (xs:List PyData)
noncomputable def Src.xs:Src->List PyData
 | .plain xs=>xs
 | .box _ xs=>xs
noncomputable def Src.still(s:Src)(O:za):Bool:=match s with
 | .plain _=>true
 | .box n xs=>@decide (O[n]?=some (.lst xs)) (Classical.propDecidable _)
noncomputable def It.v:It->V
 | .b n=>.box n
 | .x d=>.d d
noncomputable def zu:CT->V->Loc->Option Loc
 | .name i,v,ρ=>if i < ρ.length then some (ρ.set i (some v)) else none
 | .two a b,.d x,ρ=>(match items x with
    | some [y,z]=>(zu a (.d y) ρ).bind (zu b (.d z))
    | _=>none)
 | _,_,_=>none
noncomputable def zl(a b:Int):List PyData:=(List.range (b - a).toNat).map fun (i:Nat)=>.int (a+i)
noncomputable def yl(src:Src)(turn:PyData->za->R za (Option PyData)):List PyData->List PyData->za->R za V
 | [],acc,O=>.ok (.d (.list acc)) O
 | x::xs,acc,O=>(match turn x O with
    | .ok y O'=>if src.still O' then yl src turn xs (acc++y.toList) O' else .stuck
    | _=>.stuck)
theorem pw{src:Src}{turn:PyData->za->R za (Option PyData)}{x:PyData}{xs acc:List PyData}{O:za}:yl src turn (x::xs) acc O=(match turn x O with
 | .ok y O'=>if src.still O' then yl src turn xs (acc++y.toList) O' else .stuck
 | _=>.stuck):=rfl
noncomputable def isV(f:Bool->Bool)(x y:V)(O:za):R za V:=match x with
 | .d a=>(match y with
    | .d b=>opt ((isop a b).map fun c=>.d (.bool (f c))) O
    | _=>.stuck)
 | _=>.stuck
noncomputable def cmpG(op:Cop)(x y:V)(O:za):R za V:=opt (((look O x).bind fun x=>(look O y).bind fun y=>gq op x y).map fun b=>.d (.bool b)) O
noncomputable def cmpV(op:Cop)(x y:V)(O:za):R za V:=match op with
 | .is=>isV id x y O
 | .isnot=>isV not x y O
 | op=>cmpG op x y O
noncomputable def idxV(v u:V)(O:za):R za V:=match u with
 | .d k=>opt (((look O v).bind fun x=>idxD x k).map .d) O
 | _=>.stuck
def CE:Type:=Pg->Loc->za->R za V
noncomputable def evE(P:Pg)(ρ:Loc)(c:CE)(O:za):R za V:=c P ρ O
def CI:Type:=Pg->Loc->za->R za Src
noncomputable def evI(P:Pg)(ρ:Loc)(c:CI)(O:za):R za Src:=c P ρ O
inductive CEs where
 | nil
 | cons (e:CE) (es:CEs)
noncomputable def evEs(P:Pg)(ρ:Loc):CEs->za->R za (List V)
 | .nil,O=>.ok [] O
 | .cons e es,O=>(evE P ρ e O).bind fun v O=>(evEs P ρ es O).bind fun vs O=>.ok (v::vs) O
noncomputable def xl(P:Pg)(ρ:Loc):CEs->za->R za Bool
 | .nil,O=>.ok true O
 | .cons e es,O=>(evE P ρ e O).bind fun v O=>(opt (truth v) O).bind fun t O=>(match t with
    | true=>xl P ρ es O
    | false=>.ok false O)
noncomputable def boxK(v:V)(O:za):R za V:=match v with
 | .d (.list xs)=>.ok (.box O.length) (O++[.lst xs])
 | _=>.stuck
noncomputable def xk(tgt:CT)(evT:Loc->za->R za Bool)(evX:Loc->za->R za V)(ρ:Loc)(x:PyData)(O:za):R za (Option PyData):=match zu tgt (.d x) ρ with
 | none=>.stuck
 | some ρ'=>(evT ρ' O).bind fun t O=>(match t with
    | false=>.ok none O
    | true=>(evX ρ' O).bind fun v O=>(match v with
       | .d y=>.ok (some y) O
       | _=>.stuck))
noncomputable def negV(v:V)(O:za):R za V:=match v with
 | .d (.int i)=>.ok (.d (.int (-i))) O
 | _=>.stuck
noncomputable def CE.none:CE:=fun uA uA O=>.ok (.d .none) O
noncomputable def CE.bool(b:Bool):CE:=fun uA uA O=>.ok (.d (.bool b)) O
noncomputable def CE.int(i:Int):CE:=fun uA uA O=>.ok (.d (.int i)) O
noncomputable def CE.str(x:Str):CE:=fun uA uA O=>.ok (.d (.str x)) O
noncomputable def CE.loc(i:Nat):CE:=fun uA ρ O=>opt (ρ[i]?.join) O
noncomputable def CE.glob(k:Nat):CE:=fun P uA O=>opt ((P.gval k).map .d) O
noncomputable def CE.tup(es:CEs):CE:=fun P ρ O=>(evEs P ρ es O).bind fun vs O=>opt (tupV vs) O
noncomputable def CE.list(es:CEs):CE:=fun P ρ O=>(evEs P ρ es O).bind fun vs O=>opt ((allD vs).map fun xs=>.d (.list xs)) O
noncomputable def CE.dict:CE:=fun uA uA O=>.ok (.d (.dict [])) O
noncomputable def CE.boxed(e:CE):CE:=fun P ρ O=>(evE P ρ e O).bind boxK
noncomputable def CE.neg(e:CE):CE:=fun P ρ O=>(evE P ρ e O).bind negV
noncomputable def CE.nt(e:CE):CE:=fun P ρ O=>(evE P ρ e O).bind fun v O=>opt ((truth v).map fun b=>.d (.bool !b)) O
noncomputable def andK(r:za->R za V):Bool->za->R za V
 | true,O=>r O
 | false,O=>.ok (.d (.bool false)) O
noncomputable def orK(r:za->R za V):Bool->za->R za V
 | true,O=>.ok (.d (.bool true)) O
 | false,O=>r O
noncomputable def iteK(r q:za->R za V):Bool->za->R za V
 | true,O=>r O
 | false,O=>q O
noncomputable def binK(op:Bop)(v u:V)(O:za):R za V:=opt (((look O v).bind fun x=>(look O u).bind fun y=>zcw op x y).map V.d) O
noncomputable def CE.and_(a b:CE):CE:=fun P ρ O=>(evE P ρ a O).bind fun v O=>(opt (truth v) O).bind (andK fun O=>evE P ρ b O)
noncomputable def CE.or_(a b:CE):CE:=fun P ρ O=>(evE P ρ a O).bind fun v O=>(opt (truth v) O).bind (orK fun O=>evE P ρ b O)
noncomputable def CE.bin(op:Bop)(a b:CE):CE:=fun P ρ O=>(evE P ρ a O).bind fun v O=>(evE P ρ b O).bind fun u O=>binK op v u O
noncomputable def CE.cmp(op:Cop)(a b:CE):CE:=fun P ρ O=>(evE P ρ a O).bind fun v O=>(evE P ρ b O).bind fun u O=>cmpV op v u O
noncomputable def CE.chain(p q:Cop)(a b c:CE):CE:=fun P ρ O=>(evE P ρ a O).bind fun v O=>(evE P ρ b O).bind fun u O=>(cmpV p v u O).bind fun t O=>(opt (truth t) O).bind (andK fun O=>(evE P ρ c O).bind fun y O=>cmpV q u y O)
noncomputable def CE.ite(t a b:CE):CE:=fun P ρ O=>(evE P ρ t O).bind fun v O=>(opt (truth v) O).bind (iteK (fun O=>evE P ρ a O) fun O=>evE P ρ b O)
noncomputable def CE.idx(a i:CE):CE:=fun P ρ O=>(evE P ρ a O).bind fun v O=>(evE P ρ i O).bind fun u O=>idxV v u O
noncomputable def zgf(v l h:V)(O:za):R za V:=match l with
 | .d l=>(match h with
    | .d h=>opt (((look O v).bind fun x=>zgg x l h).map .d) O
    | _=>.stuck)
 | _=>.stuck
noncomputable def CE.slice(a lo hi:CE):CE:=fun P ρ O=>(evE P ρ a O).bind fun v O=>(evE P ρ lo O).bind fun l O=>(evE P ρ hi O).bind fun h O=>zgf v l h O
noncomputable def CE.comp(elt:CE)(tgt:CT)(it:CI)(ifs:CEs):CE:=fun P ρ O=>if P.hd=true then .stuck else (evI P ρ it O).bind fun src O=>if src.xs.length<=line then yl src (xk tgt (fun ρ O=>xl P ρ ifs O) (fun ρ O=>evE P ρ elt O) ρ) src.xs [] O else .stuck
noncomputable def CE.listI(it:CI):CE:=fun P ρ O=>if P.hd=true then .stuck else (evI P ρ it O).bind fun src O=>if src.xs.length<=line then .ok (.d (.list src.xs)) O else .stuck
noncomputable def CE.call(f:Nat)(args:CEs):CE:=fun P ρ O=>(evEs P ρ args O).bind fun vs O=>P.call P.hd f vs O
noncomputable def CE.prim(p:Prim)(args:CEs):CE:=fun P ρ O=>if (P.hd && !p.calm)=true then .stuck else (evEs P ρ args O).bind fun vs O=>Mine.prim P p vs O
noncomputable def CE.meth(m:Meth)(o:CE)(args:CEs):CE:=fun P ρ O=>(evE P ρ o O).bind fun v O=>if recv m v O then (evEs P ρ args O).bind fun vs O=>Mine.meth m v vs O else .stuck
noncomputable def srcV(v:V)(O:za):R za Src:=match v with
 | .d x=>opt ((items x).map .plain) O
 | .box n=>(match O[n]? with
    | some (.lst xs)=>.ok (.box n xs) O
    | _=>.stuck)
 | _=>.stuck
noncomputable def zu4:PyData->Option Int
 | .int i=>some i
 | _=>none
noncomputable def intV:V->Option Int
 | .d x=>zu4 x
 | _=>none
noncomputable def xb(v u:V)(O:za):R za (Int×Int):=match intV v with
 | some i=>(match intV u with
    | some j=>if -(10 ^ 9)<=i/\i<=10 ^ 9/\-(10 ^ 9)<=j/\j<=10 ^ 9 then .ok (i,j) O else .stuck
    | none=>.stuck)
 | none=>.stuck
noncomputable def rng(a b:CE)(P:Pg)(ρ:Loc)(O:za):R za (Int×Int):=(evE P ρ a O).bind fun v O=>(evE P ρ b O).bind fun u O=>xb v u O
noncomputable def CI.e(a:CE):CI:=fun P ρ O=>(evE P ρ a O).bind srcV
noncomputable def CI.range(a b:CE):CI:=fun P ρ O=>(rng a b P ρ O).bind fun p O=>.ok (.plain (zl p.1 p.2)) O
noncomputable def zv(src:Src)(turn:PyData->Loc->za->R (Loc×za) Fl):List PyData->Loc->za->R (Loc×za) Fl
 | [],ρ,O=>.ok .next (ρ,O)
 | x::xs,ρ,O=>(match turn x ρ O with
    | .ok (.ret v) S=>.ok (.ret v) S
    | .ok .next S=>if src.still S.2 then zv src turn xs S.1 S.2 else .stuck
    | _=>.stuck)
noncomputable def xh(test:Loc->za->R (Loc×za) Bool)(turn:Loc->za->R (Loc×za) Fl):Nat->Loc->za->R (Loc×za) Fl
 | 0,_,_=>.stuck
 | n+1,ρ,O=>(match test ρ O with
    | .ok false S=>.ok .next S
    | .ok true S=>(match turn S.1 S.2 with
       | .ok (.ret v) S=>.ok (.ret v) S
       | .ok .next S=>xh test turn n S.1 S.2
       | _=>.stuck)
    | _=>.stuck)
theorem vn{src:Src}{turn:PyData->Loc->za->R (Loc×za) Fl}{x:PyData}{xs:List PyData}{ρ:Loc}{O:za}:zv src turn (x::xs) ρ O=(match turn x ρ O with
 | .ok (.ret v) S=>.ok (.ret v) S
 | .ok .next S=>if src.still S.2 then zv src turn xs S.1 S.2 else .stuck
 | _=>.stuck):=rfl
theorem ub{test:Loc->za->R (Loc×za) Bool}{turn:Loc->za->R (Loc×za) Fl}{n:Nat}{ρ:Loc}{O:za}:xh test turn (n+1) ρ O=(match test ρ O with
 | .ok false S=>.ok .next S
 | .ok true S=>(match turn S.1 S.2 with
    | .ok (.ret v) S=>.ok (.ret v) S
    | .ok .next S=>xh test turn n S.1 S.2
    | _=>.stuck)
 | _=>.stuck):=rfl
noncomputable def CT.isName:CT->Bool
 | .name _=>true
 | _=>false
def CS:Type:=Pg->Loc->za->R (Loc×za) Fl
def CSs:Type:=Pg->Loc->za->R (Loc×za) Fl
noncomputable def evS(P:Pg)(c:CS)(ρ:Loc)(O:za):R (Loc×za) Fl:=c P ρ O
noncomputable def evSs(P:Pg)(c:CSs)(ρ:Loc)(O:za):R (Loc×za) Fl:=c P ρ O
structure Fn where
 arity:Nat
 slots:Nat
 keep:Bool
 body:CSs
noncomputable def asgR(t:CT)(v:V)(S:Loc×za):R (Loc×za) Fl:=match zu t v S.1 with
 | some ρ'=>.ok .next (ρ',S.2)
 | none=>.stuck
noncomputable def j5(t:CT)(evb:Loc->za->R (Loc×za) Fl)(x:PyData)(ρ:Loc)(O:za):R (Loc×za) Fl:=match zu t (.d x) ρ with
 | none=>.stuck
 | some ρ'=>evb ρ' O
noncomputable def seqK(p:Loc×za->R (Loc×za) Fl):Fl->Loc×za->R (Loc×za) Fl
 | .ret v,S=>.ok (.ret v) S
 | .next,S=>p S
noncomputable def ifeK(p q:Loc×za->R (Loc×za) Fl):Bool->Loc×za->R (Loc×za) Fl
 | true,S=>p S
 | false,S=>q S
noncomputable def CS.ret(e:CE):CS:=fun P ρ O=>((evE P ρ e O).lift ρ).bind fun v S=>.ok (.ret v) S
noncomputable def CS.asg(t:CT)(e:CE):CS:=fun P ρ O=>if (P.hd && !t.isName)=true then .stuck else ((evE P ρ e O).lift ρ).bind (asgR t)
noncomputable def CS.ife(t:CE)(a b:CSs):CS:=fun P ρ O=>(((evE P ρ t O).bind fun v O=>opt (truth v) O).lift ρ).bind (ifeK (fun S=>evSs P a S.1 S.2) fun S=>evSs P b S.1 S.2)
noncomputable def CS.for_(t:CT)(it:CI)(body:CSs):CS:=fun P ρ O=>if P.hd=true then .stuck else ((evI P ρ it O).lift ρ).bind fun src S=>zv src (j5 t fun ρ O=>evSs P body ρ O) src.xs S.1 S.2
noncomputable def CS.while_(t:CE)(body:CSs):CS:=fun P ρ O=>xh (fun ρ O=>((evE P ρ t O).bind fun v O=>opt (truth v) O).lift ρ) (fun ρ O=>evSs P body ρ O) P.turns ρ O
noncomputable def CS.expr(e:CE):CS:=fun P ρ O=>((evE P ρ e O).lift ρ).bind fun uA S=>.ok .next S
noncomputable def CSs.nil:CSs:=fun uA ρ O=>.ok .next (ρ,O)
noncomputable def CSs.cons(s:CS)(ss:CSs):CSs:=fun P ρ O=>(evS P s ρ O).bind (seqK fun S=>evSs P ss S.1 S.2)
noncomputable def zay(base:Nat)(keep:Bool)(n:Nat)(O:za):R za V:=if n < base then .ok (.box n) (O.take base) else (match O[n]? with
 | some (.lst xs)=>(match keep with
    | true=>.ok (.box base) (O.take base++[.lst xs])
    | false=>.ok (.d (.list xs)) (O.take base))
 | _=>.stuck)
noncomputable def frz(O:za)(base:Nat):List It->Option (List PyData)
 | []=>some []
 | .x d::r=>(frz O base r).map (d::·)
 | .b n::r=>if base<=n then (v7 O n).bind fun x=>(frz O base r).map (x::·) else none
noncomputable def fin(base:Nat)(keep:Bool)(v:V)(O:za):R za V:=match v with
 | .d x=>.ok (.d x) (O.take base)
 | .box n=>zay base keep n O
 | .tm its=>(match frz O base its with
    | some ds=>.ok (.d (.tuple ds)) (O.take base)
    | none=>.stuck)
noncomputable def evFn(P:Pg)(fn:Fn)(args:List V)(O:za):R za V:=
 match evSs P fn.body (args.map some++List.replicate (fn.slots - fn.arity) none) O with
 | .ok (.ret v) S=>fin O.length fn.keep v S.2
 | .ok .next S=>.ok (.d .none) (S.2.take O.length)
 | .stuck=>.stuck
noncomputable def zf(P:Pg)(T:Nat->Option Fn):Nat->Bool->Nat->List V->za->R za V
 | 0,_,_,_,_=>.stuck
 | k+1,hd,f,args,O=>match T f with
   | some fn=>if args.length=fn.arity/\fn.arity<=fn.slots then evFn { P with call:=zf P T k,hd:=hd } fn args O else .stuck
   | none=>.stuck
theorem zix{P:Pg}{T:Nat->Option Fn}{k:Nat}{hd:Bool}{f:Nat}{args:List V}{O:za}:zf P T (k+1) hd f args O=(match T f with
 | some fn=>if args.length=fn.arity/\fn.arity<=fn.slots then evFn { P with call:=zf P T k,hd:=hd } fn args O else .stuck
 | none=>.stuck):=rfl
structure KeepsAll(s s':Shared):Prop where
 gens:s'.gens=s.gens
 os:s'.os=s.os
 kept:∀ b o,s.heap.get? b=some o->s'.heap.get? b=some o
theorem KeepsAll.refl(s:Shared):KeepsAll s s:=⟨rfl,rfl,fun uA uA h=>h⟩
theorem KeepsAll.toks(s:Shared)(n:Nat):KeepsAll s { s with toks:=n }:=⟨rfl,rfl,fun uA uA h=>h⟩
theorem KeepsAll.trans{s s' s'':Shared}(x:KeepsAll s s')(y:KeepsAll s' s''):KeepsAll s s'':=⟨y.gens.trans x.gens,y.os.trans x.os,fun b o e=>y.kept b o (x.kept b o e)⟩
theorem KeepsAll.push(s:Shared)(o:Obj)(n:Nat):KeepsAll s { s with heap:=s.heap.push o,toks:=n }:=⟨rfl,rfl,fun uA uA e=>ac o e⟩
theorem KeepsAll.step{s s':Shared}(x:KeepsAll s s')(W β:List Addr):Step W β s s' β:=
 ⟨x.gens,x.os,bz _,fun uA h=>.inl h,fun b o e=>⟨o,x.kept b o e⟩,fun b o e uA uA=>⟨o,x.kept b o e,Kin.refl o⟩⟩
section
variable{G:Gl}{F:Fm}{N β:List Addr}{ρ:Loc}{O:za}{h h':Heap}
theorem z7(hk:∀ b o,h.get? b=some o->h'.get? b=some o){v:Value}{x:PyData}{as:List Addr}(r:Reads h v x as):Reads h' v x as:=
 jg (P:=fun uA=>True) (fun b o e uA=>hk b o e) (fun uA uA uA uA uA uA uA=>trivial) r fun uA uA=>trivial
theorem zt(hk:∀ b o,h.get? b=some o->h'.get? b=some o){v:List Value}{x:List PyData}{as:List Addr}(r:ReadsAll h v x as):ReadsAll h' v x as:=
 xq (P:=fun uA=>True) (fun b o e uA=>hk b o e) (fun uA uA uA uA uA uA uA=>trivial) r fun uA uA=>trivial
theorem ph(hk:∀ b o,h.get? b=some o->h'.get? b=some o){vs:List Value}{its:List It}(r:ItsR N β h vs its):ItsR N β h' vs its:=by
 induction r with
 | nil=>exact .nil
 | b h1 _ ih=>exact .b h1 ih
 | x h1 h2 _ ih=>exact .x (z7 hk h1) h2 ih
theorem VR.keepAll(hk:∀ b o,h.get? b=some o->h'.get? b=some o){v:Value}{x:V}(r:VR G N β h v x):VR G N β h' v x:=by
 cases x with
 | d x=>obtain⟨as,r,q⟩:=r;exact⟨as,z7 hk r,q⟩
 | box n=>exact r
 | tm its=>obtain⟨a,o,vs,k,e,h1,h2,h3,h4⟩:=r;exact⟨a,o,vs,k,e,hk _ _ h1,h2,h3,ph hk h4⟩
theorem BoxAt.keepAll(hk:∀ b o,h.get? b=some o->h'.get? b=some o){a:Addr}{bx:Box}(r:BoxAt h N β a bx):BoxAt h' N β a bx:=by
 cases bx with
 | lst xs=>obtain⟨o,vs,n,h1,h2,h3,as,h4,h5⟩:=r;exact⟨o,vs,n,hk _ _ h1,h2,h3,as,zt hk h4,h5⟩
 | dct kvs=>
   obtain⟨o,es,n,h1,h2,h3,h4,h5⟩:=r;refine⟨o,es,n,hk _ _ h1,h2,h3,h4,fun i e kv he hkv=>?_⟩;obtain⟨hq,as,bs,r1,r2,q⟩:=h5 i e kv he hkv;exact⟨hq,as,bs,z7 hk r1,z7 hk r2,q⟩
theorem BR.keepAll(hk:∀ b o,h.get? b=some o->h'.get? b=some o)(b:BR G N β O h):BR G N β O h':=
 ⟨fun c o e=>hk _ _ (b.keep c o e),b.len,b.nodup,b.new,fun i a bx h1 h2=>(b.at_ i a bx h1 h2).keepAll hk,fun a ha=>(b.plain a ha).at fun o e=>hk a o e⟩
theorem Get.keepAll(hk:∀ b o,h.get? b=some o->h'.get? b=some o){env:Env}{x:Str}{v:Value}(g:Get h env x v):Get h' env x v:=by
 refine fx g ?_ ?_
 ·rintro ⟨h1,m,h2,h3⟩;exact .inl ⟨h1,m,h2.keeps hk,h3⟩
 ·rintro ⟨h1,c,h2,h3⟩;exact .inr ⟨h1,c,h2,h3.keeps hk⟩
theorem FmOk.keepAll(hk:∀ b o,h.get? b=some o->h'.get? b=some o)(f:FmOk G F β h):FmOk G F β h' where
 kind:=f.kind
 globals:=f.globals
 builtins:=f.builtins
 once:=f.once
 ns:=let ⟨m,e⟩:=f.ns;⟨m,e.keeps hk⟩
 nsW:=f.nsW
 cell:=fun x h1=>let ⟨c,v,h3,h4,h5⟩:=f.cell x h1;⟨c,v,h3,h4.keeps hk,h5⟩
 apart:=f.apart
 sub:=f.sub
 new:=f.new
 notBox:=f.notBox
 stor:=fun a ha=>let ⟨o,h1,h2⟩:=f.stor a ha;⟨o,hk _ _ h1,h2⟩
 frB:=f.frB
 frs:=fun a ha=>let ⟨m,e⟩:=f.frs a ha;⟨m,e.keeps hk⟩
 pin:=fun m e=>⟨(f.pin m e).1.keeps hk,(f.pin m e).2⟩
theorem SR.keepAll(hk:∀ b o,h.get? b=some o->h'.get? b=some o)(r:SR G F β ρ O h):SR G F β ρ O h':=
 ⟨r.br.keepAll hk,r.fm.keepAll hk,fun i x v h1 h2=>let ⟨val,h3,h4⟩:=r.get i x v h1 h2;⟨val,h3.keepAll hk,h4.keepAll hk⟩⟩
end
section
variable{G:Gl}{F:Fm}{s:Shared}{β:List Addr}{ρ:Loc}{O:za}
theorem Does.leaf{α δ:Type}{T:WT α}{d:δ}{Rel:List Addr->Heap->α->δ->Prop}(sr:SR G F β ρ O s.heap)
 (hw:∀ (Q:α->Shared->Prop) (E:Value->Shared->Prop),(∀ v s',KeepsAll s s'->Rel β s'.heap v d->Q v s')->T Q E s) :
 DoesW G F s β T (.ok d (ρ,O)) Rel:=
 fun Q E k=>hw Q E fun v s' ka r=>k s' β v (ka.step _ _) (sr.keepAll ka.kept) r
theorem VR.none{N:List Addr}{h:Heap}:VR G N β h .none (.d .none):=⟨[],.none,fun uA h=>nomatch h⟩
theorem VR.bool{N:List Addr}{h:Heap}{b:Bool}:VR G N β h (.bool b) (.d (.bool b)):=⟨[],.bool b,fun uA h=>nomatch h⟩
theorem VR.int{N:List Addr}{h:Heap}{i:Int}{t:Tok}:VR G N β h (.int i t) (.d (.int i)):=⟨[],.int i t,fun uA h=>nomatch h⟩
theorem VR.str{N:List Addr}{h:Heap}{x:Str}{t:Tok}:VR G N β h (.str x t) (.d (.str x)):=⟨[],.str x t,fun uA h=>nomatch h⟩
end
structure Cx where
 names:List (Option Str)
 sc:Scope
 fname:Nat->Option Str
 gname:Nat->Option Str
 cname:Nat->Option Str
noncomputable def Cx.kind(cx:Cx)(x:Str):Option NameKind:=cx.sc.names.lookup x
noncomputable def pd(x:Str):Bool:=!(x == ("__debug__" : Str))
noncomputable def Cx.isLoc(cx:Cx)(i:Nat)(x:Str):Bool:=(cx.names[i]? == some (some x)) && (cx.kind x == some .local || cx.kind x == some .cell) && pd x
noncomputable def Cx.isGlob(cx:Cx)(x:Str):Bool:=cx.kind x == some .globalImplicit && pd x
noncomputable def zfu:Bop->Operator->Bool
 | .add,.Add=>true
 | .sub,.Sub=>true
 | .mul,.Mult=>true
 | .fdiv,.FloorDiv=>true
 | .mod,.Mod=>true
 | .pow,.Pow=>true
 | _,_=>false
noncomputable def x8:Cop->CmpOp->Bool
 | .eq,.Eq=>true
 | .ne,.NotEq=>true
 | .lt,.Lt=>true
 | .le,.LtE=>true
 | .gt,.Gt=>true
 | .ge,.GtE=>true
 | .is,.Is=>true
 | .isnot,.IsNot=>true
 | .in_,.In=>true
 | .notin,.NotIn=>true
 | _,_=>false
noncomputable def wc:Ty->Str
 | .int=>"int"
 | .bool=>"bool"
 | .tuple=>"tuple"
 | .list=>"list"
 | .str=>"str"
noncomputable def jh:Prim->Str
 | .isinst _=>"isinstance"
 | .isexc _=>"isinstance"
 | .len=>"len"
 | .all=>"all"
 | .any=>"any"
 | .sum=>"sum"
 | .sorted=>"sorted"
 | .list=>"list"
 | .tuple=>"tuple"
 | .min2=>"min"
 | .min=>"min"
 | .max=>"max"
 | .int=>"int"
 | .str=>"str"
 | .lenset=>"len"
 | .sortedset=>"sorted"
noncomputable def Prim.plain:Prim->Bool
 | .len | .all | .any | .sum | .sorted | .list | .tuple | .min | .max | .int | .str=>true
 | _=>false
noncomputable def addT:CT->Expr->List (Option Str)->List (Option Str)
 | .name i,.Name x _,l=>if l[i]? == some none then l.set i (some x) else l
 | .two a b,.Tuple [x,y] _ _,l=>addT b y (addT a x l)
 | _,_,l=>l
noncomputable def xe(l:List (Option Str)):Bool:=decide (l.filterMap id).Nodup
noncomputable def chkT(cx:Cx)(own:Str->Bool):CT->Expr->Bool
 | .name i,.Name x _=>cx.isLoc i x && own x
 | .two a b,.Tuple [x,y] _ _=>chkT cx own a x && chkT cx own b y
 | _,_=>false
noncomputable def ownOf(sc:Scope)(x:Str):Bool:=sc.names.lookup x == some .local || sc.names.lookup x == some .cell
noncomputable def zca(scope sc:Scope):Scope:=
 { scope with names:=scope.names.map fun (n,k)=>if (k == .free && sc.kind == .function && sc.names.lookup n == some .cell) then (n,.cell) else (n,k) }
noncomputable def y9(scope sc:Scope):Bool:=
 scope.kind == .function && decide ((scope.names.map (·.1)).Nodup) && scope.names.all fun (n,k)=>k == .local || k == .cell || k == .globalImplicit || (k == .free && sc.names.lookup n == some .cell)
noncomputable def Cx.inner(cx:Cx)(tgt:CT)(t:Expr)(scope:Scope):Cx:=
 { cx with names:=addT tgt t (cx.names.map fun o=>o.filter fun x=>scope.names.lookup x == some .free),sc:=zca scope cx.sc }
noncomputable def zdg(x:Expr)(ap q:Pos):Bool:=(ap.endLine == q.line) && (match x with
 | .Name _ _=>true
 | .Subscript _ _ _=>true
 | _=>false)
noncomputable def yr(fn:Fn)(names:List Str):List (Option Str):=names.map some++List.replicate (fn.slots - names.length) none
noncomputable def u9(a:Arguments)(names:List Str)(ar:Nat):Bool:=
 a.posonlyargs.isEmpty && a.vararg.isNone && a.kwonlyargs.isEmpty && a.kw_defaults.isEmpty && a.kwarg.isNone && a.defaults.isEmpty && (a.args.map (·.arg) == names.take ar) && a.args.length == ar
noncomputable def zco(sc:Scope):Bool:=sc.kind == .function && !sc.isGenerator && !sc.isCoroutine && decide ((sc.names.map (·.1)).Nodup) && sc.names.all fun (_,k)=>k == .local || k == .cell || k == .globalImplicit
noncomputable def ziv(fn:Fn)(names:List Str)(a:Arguments)(sc:Scope):Bool:=
 u9 a names fn.arity && zco sc && decide (names.Nodup) && decide (names.length<=fn.slots) && decide (fn.arity<=names.length) && names.all (ownOf sc)
end Mine
end
section
namespace Mine
open PySem PyProof.Rows
structure Room(A:Around)(k:Nat):Prop where
 depth:A.depth+k < 690
 units:A.units+8 * k < 7000
 guards:A.guards=some []
theorem Room.deeper{A:Around}{k:Nat}(r:Room A (k+1))(env:Env):Room (A.deeper env) k:=
 ⟨by have:=r.depth;show A.depth+1+k < 690;lia,by have:=r.units;show A.units+3+8 * k < 7000;lia,r.guards⟩
theorem Room.room{A:Around}{k:Nat}(r:Room A k):A.depth < recursionLimit:=by have:=r.depth;show A.depth < 1000;lia
theorem Room.c{A:Around}{k n:Nat}(r:Room A k)(hn:n<=2000:=by decide):A.units+n < cLine:=by have:=r.units;show A.units+n < 9900;lia
structure Fits(F:Fm)(cx:Cx):Prop where
 names:F.names=cx.names
 kind:∀ x,F.env.kindOf x=cx.kind x
 sck:cx.sc.kind=.function
noncomputable def bis:List (Str×Value):=[("isinstance",.builtin "isinstance"),("len",.builtin "len"),("all",.builtin "all"),("any",.builtin "any"),("sum",.builtin "sum"),("sorted",.builtin "sorted"),("min",.builtin "min"),("max",.builtin "max"),
 ("list",.type "list"),("tuple",.type "tuple"),("int",.type "int"),("str",.type "str"),("set",.type "set"),("bool",.type "bool"),("range",.type "range"),("zip",.type "zip"),("enumerate",.type "enumerate"),("reversed",.type "reversed")]
structure GOk(G:Gl)(gval:Nat->Option PyData)(gname:Nat->Option Str):Prop where
 nolimit:G.h₀.NoLimit
 g:G.h₀.Ns mainGlobals G.mg
 b:G.h₀.Ns builtinsNs G.mb
 gl:∀ k d x,gval k=some d->gname k=some x->∃ v,G.mg x=some v/\Reads G.h₀ v d []
 clsRef:∀ c,∃ C,G.cls c=.ref C
 bi:∀ p∈bis,G.mg p.1=none/\G.mb p.1=some p.2
 digits:∃ mc,G.h₀.Ns cStatics mc/\mc "sys.int_max_str_digits" = none
section
variable{G:Gl}{F:Fm}{A:Around}{s:Shared}{β:List Addr}{ρ:Loc}{O:za}{cx:Cx}{gval:Nat->Option PyData}{gname:Nat->Option Str}
noncomputable abbrev VRel(G:Gl)(F:Fm):List Addr->Heap->Value->V->Prop:=fun β h v d=>VR G F.B β h v d
theorem gh{i:Nat}{x:Str}(h:cx.isLoc i x=true):cx.names[i]?=some (some x)/\(cx.kind x=some .local\/cx.kind x=some .cell)/\(x == ("__debug__" : Str))=false:=by
 simp only[Cx.isLoc,pd,aM,cj,aQ,dW] at h;exact⟨h.1.1,h.1.2,h.2⟩
theorem pi{x:Str}(h:cx.isGlob x=true):cx.kind x=some .globalImplicit/\(x == ("__debug__" : Str))=false:=by
 simp only[Cx.isGlob,pd,aM,aQ,dW] at h;exact h
theorem zvl{i:Nat}{x:Str}{p:Pos}(sr:SR G F β ρ O s.heap)(fit:Fits F cx)(h:cx.isLoc i x=true) :
 Does G F A s β (eval (.Name x p) F.env) ((opt (ρ[i]?.join) O).lift ρ) (VRel G F):=by
 refine fI (gh h) fun h1 h2 h3=>?_
 cases hv:ρ[i]?.join with
 | none=>trivial
 | some v=>
   have hv':ρ[i]?=some (some v):=by
    cases e:ρ[i]? with
    | none=>rw[e] at hv;contradiction
    | some o=>rw[e] at hv;cases o with
      | none=>contradiction
      | some u=>injection hv with fu;subst fu;rfl
   refine fC (sr.get i x v (by rw[fit.names];exact h1) hv') fun val g r=>?_;refine Does.leaf sr fun Q E k=>?_;have hq:Q val s:=k val s (KeepsAll.refl s) r;refine fx g ?_ ?_
   ·rintro ⟨gk,m,gm,gx⟩;exact wpAny_Name (wpAny_loadName_local sr.fm.kind gk gm gx hq) h3
   ·rintro ⟨gk,c,gc,gx⟩;exact wpAny_Name (wpAny_loadName_cell sr.fm.kind gk gc gx hq) h3
theorem zcp{x:Str}{p:Pos}{v:Value}{Q:Value->Shared->Prop}{E:Value->Shared->Prop}(g:GOk G gval gname)(sr:SR G F β ρ O s.heap)(fit:Fits F cx)(h:cx.isGlob x=true)(hv:G.mg x=some v)(q:Q v s) :
 wpAny G.m A (eval (.Name x p) F.env) Q E s:=by
 refine fH (pi h) fun h1 h2=>?_;exact Calls.Name_function_global sr.fm.kind ((fit.kind x).trans h1) (Calls.loadGlobal_global (mg:=G.mg) (by rw[sr.fm.globals];exact g.g.keeps sr.br.keep) hv q) h2
theorem ye{x:Str}{p:Pos}{v:Value}{Q:Value->Shared->Prop}{E:Value->Shared->Prop}(g:GOk G gval gname)(sr:SR G F β ρ O s.heap)(fit:Fits F cx)(h:cx.isGlob x=true)(hm:G.mg x=none)(hv:G.mb x=some v)(q:Q v s) :
 wpAny G.m A (eval (.Name x p) F.env) Q E s:=by
 refine fH (pi h) fun h1 h2=>?_;exact Calls.Name_function_global sr.fm.kind ((fit.kind x).trans h1) (Calls.loadGlobal_builtin (mg:=G.mg) (mb:=G.mb) (by rw[sr.fm.globals];exact g.g.keeps sr.br.keep) hm (by rw[sr.fm.builtins];exact g.b.keeps sr.br.keep) hv q) h2
theorem zs9{k:Nat}{x:Str}{p:Pos}(g:GOk G gval gname)(sr:SR G F β ρ O s.heap)(fit:Fits F cx)(hk:gname k=some x)(h:cx.isGlob x=true) :
 Does G F A s β (eval (.Name x p) F.env) ((opt ((gval k).map V.d) O).lift ρ) (VRel G F):=by
 cases hd:gval k with
 | none=>trivial
 | some d=>
   refine fC (g.gl k d x hd hk) fun v hv r=>?_;refine Does.leaf sr fun Q E q=>zcp g sr fit h hv (q v s (KeepsAll.refl s) ⟨[],z7 sr.br.keep r,fun uA h=>nomatch h⟩)
end
end Mine
end
section
namespace Mine
open PySem
theorem and2{a b:Bool}(h:(a && b)=true):a=true/\b=true:=Bool.and_eq_true_iff.mp h
theorem and3{a b c:Bool}(h:(a && b && c)=true):a=true/\b=true/\c=true:=by
 refine fH (and2 h) fun h1 h2=>?_;refine fH (and2 h1) fun h3 h4=>?_;exact⟨h3,h4,h2⟩
end Mine
end
section
namespace Mine
open PySem PyProof.Rows
section
variable{G:Gl}{N β:List Addr}{h:Heap}{v:Value}
theorem VR.none_inv(r:VR G N β h v (.d .none)):v=.none:=by obtain⟨_,r,_⟩:=r;exact zgn r
theorem VR.bool_inv{b:Bool}(r:VR G N β h v (.d (.bool b))):v=.bool b:=by obtain⟨_,r,_⟩:=r;exact d8 r
theorem VR.int_inv{i:Int}(r:VR G N β h v (.d (.int i))):∃ t,v=.int i t:=by obtain⟨_,r,_⟩:=r;exact vc r
inductive TupV(h:Heap)(N β:List Addr)(v:Value)(xs:List PyData):Prop
 | mk (a:Addr) (o:Obj) (vs:Array Value) (n:Nat) (hv:v=.ref a) (h1:h.get? a=some o) (h2:o.cls=.type "tuple") (h3:o.data=.seq vs n) (as:List Addr) (h4:ReadsAll h vs.toList xs as) (h5:∀ a∈as,a∉β/\a∉N)
theorem VR.tuple_inv{xs:List PyData}(r:VR G N β h v (.d (.tuple xs))):TupV h N β v xs:=by
 obtain⟨_,r,q⟩:=r
 cases r with
 | tuple h1 h2 h3 h4=>exact⟨_,_,_,_,rfl,h1,h2,h3,_,h4,q⟩
theorem VR.list_inv{xs:List PyData}(r:VR G N β h v (.d (.list xs))):∃ a,v=.ref a/\ListAt h N β a xs/\a∉β/\a∉N:=by
 obtain⟨_,r,q⟩:=r
 cases r with
 | list h1 h2 h3 h4=>exact fJ _ rfl ⟨_,_,_,h1,h2,h3,_,h4,fun a ha=>q a (.tail _ ha)⟩ (q _ (.head _))
end
inductive VRs(G:Gl)(N β:List Addr)(h:Heap):List Value->List V->Prop
 | nil:VRs G N β h [] []
 | cons {v:Value} {d:V} {vs:List Value} {ds:List V}:VR G N β h v d->VRs G N β h vs ds->VRs G N β h (v::vs) (d::ds)
section
variable{G:Gl}{N β:List Addr}{h:Heap}
theorem VRs.length{vs:List Value}{ds:List V}(r:VRs G N β h vs ds):vs.length=ds.length:=by
 induction r with
 | nil=>rfl
 | cons _ _ ih=>simp[ih]
set_option tactic.hygienic true in
theorem VRs.data{vs:List Value}{ds:List V}(r:VRs G N β h vs ds):∀ {xs:List PyData},allD ds=some xs->∃ as,ReadsAll h vs xs as/\∀ a∈as,a∉β/\a∉N:=by
 induction r with
 | nil=>intro xs e;injection e with fu;subst fu;exact fD [] .nil (fun uA h=>nomatch h)
 | cons r _ ih=>
   rename_i v d vs ds _;intro xs e
   cases d with
   | d x=>
     simp only[allD,aD] at e;refine fC e ?_;clear e;intro ys e1 eO;subst eO;obtain⟨as,r1,q1⟩:=r;refine fC (ih e1) fun bs r2 q2=>?_;exact fD (as++bs) (.cons r1 r2) (fun a ha=>(aj.mp ha).elim (q1 a) (q2 a))
   | box n=>contradiction
   | tm n=>contradiction
set_option tactic.hygienic true in
theorem VRs.its{vs:List Value}{ds:List V}(r:VRs G N β h vs ds):∀ {is:List It},allI ds=some is->ItsR N β h vs is:=by
 induction r with
 | nil=>intro xs e;injection e with fu;subst fu;exact .nil
 | cons r _ ih=>
   rename_i v d vs ds _;intro xs e
   cases d with
   | d x=>
     simp only[allI,aD] at e;refine fC e ?_;clear e;intro ys e1 eO;subst eO;obtain⟨as,r1,q1⟩:=r;exact .x r1 q1 (ih e1)
   | box n=>
     simp only[allI,aD] at e;refine fC e ?_;clear e;intro ys e1 eO;subst eO;obtain⟨a,h1,rfl⟩:=r;exact .b h1 (ih e1)
   | tm n=>contradiction
end
section
variable{G:Gl}{F:Fm}{β β':List Addr}{O:za}{s s':Shared}
theorem VRs.step(b:BR G F.B β O s.heap)(f:FmOk G F β s.heap)(st:Step F.W β s s' β'){vs:List Value}{ds:List V}(r:VRs G F.B β s.heap vs ds):VRs G F.B β' s'.heap vs ds:=by
 induction r with
 | nil=>exact .nil
 | cons r _ ih=>exact .cons (r.step b f st) ih
end
theorem xj{e:Expr}(h:∀ l k p,e≠.Set l k p)(op:CmpOp):behindInMarks op e=false:=by
 cases e <;> first | rfl | exact absurd rfl (h _ _ _)
theorem qj{e:Expr}(h:∀ l k p,e≠.Set l k p)(env:Env)(x:Value):foldedSetIterable e env x=pure x:=by
 cases e <;> first | rfl | exact absurd rfl (h _ _ _)
section
variable{G:Gl}{F:Fm}{A:Around}{s:Shared}{β:List Addr}{ρ:Loc}{O:za}
noncomputable abbrev VRsl(G:Gl)(F:Fm):List Addr->Heap->List Value->List V->Prop:=fun β h v d=>VRs G F.B β h v d
theorem xg{pos:Pos}(sr:SR G F β ρ O s.heap):Does G F A s β (spliced (backTo pos (starEach [] F.env))) ((R.ok ([]:List V) O).lift ρ) (VRsl G F):=
 Does.leaf sr fun Q E k=>wpAny_items_nil (k _ _ (KeepsAll.refl s) .nil)
theorem yn{pos:Pos}{e:Expr}{rest:List Expr}{r:R za V}{g:za->R za (List V)}
 (he:starEach (e::rest) F.env=(false,eval e F.env)::starEach rest F.env)
 (h1:Does G F A s β (eval e F.env) (r.lift ρ) (VRel G F))
 (h2:∀ s' β' O',SR G F β' ρ O' s'.heap->Does G F A s' β' (spliced (backTo pos (starEach rest F.env))) ((g O').lift ρ) (VRsl G F)) :
 Does G F A s β (spliced (backTo pos (starEach (e::rest) F.env))) ((r.bind fun v O=>(g O).bind fun vs O=>.ok (v::vs) O).lift ρ) (VRsl G F):=by
 refine DoesW.seqE (T2A:=fun v Q E s'=>wpAny G.m A (spliced (backTo pos (starEach rest F.env))) (fun vs s2A=>Q (v::vs) s2A) E s') (fun Q E h=>wpAny_items_cons h he) h1 fun s' β' v d O' uA st sr' rv=>?_;refine DoesW.seqE (T1A:=tr G A (spliced (backTo pos (starEach rest F.env)))) (T2A:=fun vs Q E s'=>Q (v::vs) s') (fun Q E h=>h) (h2 s' β' O' sr') fun s2A β2 vs ds O2 uA st2 sr2 rvs=>?_;exact Does.leaf sr2 fun Q E k=>k _ _ (KeepsAll.refl s2A) (.cons (rv.step sr'.br sr'.fm st2) rvs)
theorem SR.push{h:Heap}(sr:SR G F β ρ O h)(o:Obj):SR G F β ρ O (h.push o):=sr.keepAll fun uA uA e=>ac o e
theorem w9{h:Heap}{l:List Addr}(al:∀ a∈l,∃ o,h.get? a=some o):h.objs.size∉l:=fun hm=>by
 refine fG (al _ hm) fun o e=>?_;exact cM _ (aY e)
theorem SR.size_new{h:Heap}(sr:SR G F β ρ O h):h.objs.size∉β/\h.objs.size∉F.B:=
 ⟨w9 fun a ha=>let ⟨o,e,_⟩:=sr.br.alive a ha;⟨o,e⟩,w9 fun a ha=>let ⟨o,e,_⟩:=sr.fm.stor a ha;⟨o,e⟩⟩
theorem zc3{vs:List Value}{ds:List V}{d:V}(r:VRs G F.B β s.heap vs ds)(e:tupV ds=some d) :
 VR G F.B β (s.heap.push { cls:=.type "tuple",data:=.seq vs.toArray }) (.ref s.heap.objs.size) d:=by
 have hk:∀ b o,s.heap.get? b=some o->(s.heap.push { cls:=.type "tuple",data:=.seq vs.toArray }).get? b=some o:=fun uA uA e=>ac _ e;unfold tupV at e
 cases hd:allD ds with
 | some xs=>
   rw[hd] at e;injection e with fu;subst fu
   refine fC (r.data hd) fun as r1 q=>?_;exact⟨as,.tuple (aw _ rfl) rfl rfl (zt hk r1),q⟩
 | none=>
   rw[hd] at e;simp only[aD] at e;refine fC e ?_;clear e;intro is e1 eO;subst eO;exact⟨_,_,_,_,rfl,aw _ rfl,rfl,rfl,ph hk (r.its e1)⟩
theorem zd5{vs:List Value}{ds:List V}{xs:List PyData}{ρ:Loc}{O:za}(sr:SR G F β ρ O s.heap)(r:VRs G F.B β s.heap vs ds)(e:allD ds=some xs) :
 VR G F.B β (s.heap.push { cls:=.type "list",data:=.seq vs.toArray }) (.ref s.heap.objs.size) (.d (.list xs)):=by
 refine fC (r.data e) fun as r1 q=>?_;refine⟨_::as,.list (aw _ rfl) rfl rfl (zt (fun uA uA e=>ac _ e) r1),fun a ha=>?_⟩;refine fx (ag.mp ha) ?_ ?_
 ·rintro rfl;exact sr.size_new
 ·intro ha;exact q a ha
theorem zvh{elts:List Expr}{k:Nat}{pos:Pos}{r:R za (List V)}(hl:∀ vs O,r=.ok vs O->vs.length<=line)
 (h1:Does G F A s β (spliced (backTo pos (starEach elts F.env))) (r.lift ρ) (VRsl G F)) :
 Does G F A s β (eval (.Tuple elts k pos) F.env) ((r.bind fun vs O=>opt (tupV vs) O).lift ρ) (VRel G F):=by
 refine DoesW.seqE (T2A:=fun vs Q E s1A=>vs.length<=sizeLine/\Q (.ref s1A.heap.objs.size) { s1A with heap:=s1A.heap.push { cls:=.type "tuple",data:=.seq vs.toArray } }) (fun Q E h=>wpAny_Tuple h) h1 fun s' β' vs ds O' e st sr rv=>?_
 cases hd:tupV ds with
 | none=>trivial
 | some d=>
   have hz:vs.length<=sizeLine:=by rw[rv.length];exact ai (hl _ _ e) (by decide)
   exact Does.leaf sr fun Q E q=>⟨hz,q _ _ (KeepsAll.push s' _ _) (zc3 rv hd)⟩
end
section
variable{G:Gl}{F:Fm}{A:Around}{s:Shared}{β:List Addr}{ρ:Loc}{O:za}
theorem gd{N:List Addr}{h:Heap}(b:BR G N β O h){n:Nat}{a:Addr}{x:PyData}(ha:β[n]?=some a)(e:v7 O n=some x):∃ xs,x=.list xs/\ListAt h N β a xs:=by
 unfold v7 at e
 cases ho:O[n]? with
 | none=>rw[ho] at e;contradiction
 | some bx=>
   rw[ho] at e
   cases bx with
   | lst xs=>injection e with fu;subst fu;exact fD xs rfl (b.at_ n a _ ha ho)
   | dct kvs=>contradiction
theorem ListAt.reads{N:List Addr}{h:Heap}{a:Addr}{xs:List PyData}(l:ListAt h N β a xs):∃ as,Reads h (.ref a) (.list xs) (a::as)/\∀ b∈as,b∉β/\b∉N:=by
 obtain⟨o,vs,n,h1,h2,h3,as,h4,h5⟩:=l;exact fD as (.list h1 h2 h3 h4) h5
theorem wl(sr:SR G F β ρ O s.heap){v:Value}{d:V}(r:VR G F.B β s.heap v d){x:PyData}(e:look O d=some x):∃ as,Reads s.heap v x as:=by
 cases d with
 | d y=>injection e with fu;subst fu;obtain⟨as,r,_⟩:=r;exact fz as r
 | box n=>
   obtain⟨a,ha,rfl⟩:=r;refine fC (gd sr.br ha e) fun xs eN l=>?_;subst eN;obtain⟨as,r,_⟩:=l.reads;exact fz _ r
 | tm n=>contradiction
theorem look_list(sr:SR G F β ρ O s.heap){v:Value}{d:V}(r:VR G F.B β s.heap v d){xs:List PyData}(e:look O d=some (.list xs)):∃ a,v=.ref a/\ListAt s.heap F.B β a xs:=by
 cases d with
 | d y=>injection e with fu;subst fu;obtain⟨a,h1,h2,_⟩:=r.list_inv;exact fD a h1 h2
 | box n=>
   obtain⟨a,ha,rfl⟩:=r;refine fC (gd sr.br ha e) fun ys e' l=>?_;injection e' with fu;subst fu;exact fD a rfl l
 | tm n=>contradiction
theorem yt{d:V}{x:PyData}(e:look O d=some x)(hx:∀ xs,x≠.list xs):d=.d x:=by
 cases d with
 | d y=>injection e with fu;subst fu;rfl
 | box n=>
   exfalso;simp only[look,v7] at e
   cases ho:O[n]? with
   | none=>rw[ho] at e;contradiction
   | some bx=>
     rw[ho] at e
     cases bx with
     | lst xs=>injection e with fu;subst fu;exact hx _ rfl
     | dct kvs=>contradiction
 | tm n=>contradiction
set_option tactic.hygienic true in
theorem zjv{v:Value}{x:PyData}{b:Bool}{as:List Addr}(r:Reads s.heap v x as):isSame v (.bool b)=pure (isBool b x):=by
 cases r <;> first | rfl | (rename_i c;cases b <;> cases c <;> rfl)
theorem zg7{v:Value}{x:PyData}{as:List Addr}(r:Reads s.heap v x as):isSame v .none=pure (isNone x):=by cases r <;> rfl
theorem zo4(sr:SR G F β ρ O s.heap){v u:Value}{x y:PyData}{b:Bool}(rv:VR G F.B β s.heap v (.d x))(ru:VR G F.B β s.heap u (.d y))(e:isop x y=some b):isSame v u=pure b:=by
 obtain⟨as,r,_⟩:=rv
 cases y <;> first | (cases e;done) | skip
 ·have:=ru.none_inv;subst this;rw[<- aN e];exact zg7 r
 ·have:=ru.bool_inv;subst this;rw[<- aN e];exact zjv r
theorem zoo{f:Int->Int->Bool}{x y:PyData}{b:Bool}(e:ordD f x y=some b):∃ i j,x=.int i/\y=.int j/\f i j=b:=by
 cases x <;> first | (cases e;done) | skip
 cases y <;> first | (cases e;done) | skip
 exact fK _ _ rfl rfl (aN e)
theorem zmy{x y:PyData}{c b:Bool}(e:(if eqOk x y then some c else none)=some b):(x.canLay0=true/\y.canLay0=true)/\min x.depth y.depth<=100/\c=b:=by
 by_cases h:eqOk x y=true
 ·rw[af h] at e;have h':=h;simp only[eqOk,aM,aP] at h';exact⟨h'.1,h'.2,aN e⟩
 ·rw[ak h] at e;contradiction
theorem zo5{x:PyData}{xs:List PyData}{b:Bool}(e:inD x xs=some b):(x.canLay0=true/\PyData.canLayAll0 xs=true)/\x.depth<=100/\(xs.any fun y=>PyData.eqv y x)=b:=by
 unfold inD at e;by_cases h:(x.canLay0 && PyData.canLayAll0 xs && decide (x.depth<=100))=true
 ·rw[af h] at e;have h':=h;simp only[aM,aP] at h';exact⟨h'.1,h'.2,aN e⟩
 ·rw[ak h] at e;contradiction
theorem zlb{y:PyData}{xs:List PyData}(e:seqD y=some xs):y=.list xs\/y=.tuple xs:=by
 cases y <;> first | (cases e;done) | skip
 ·injection e with fu;subst fu;exact .inl rfl
 ·injection e with fu;subst fu;exact .inr rfl
theorem zmg{x y:PyData}{b:Bool}(e:(seqD y).bind (inD x)=some b):∃ xs,(y=.list xs\/y=.tuple xs)/\(x.canLay0=true/\PyData.canLayAll0 xs=true)/\x.depth<=100/\(xs.any fun y=>PyData.eqv y x)=b:=by
 cases h:seqD y with
 | none=>rw[h] at e;contradiction
 | some xs=>rw[h] at e;exact fD xs (zlb h) (zo5 e)
noncomputable def Cop.op:Cop->CmpOp
 | .eq=>.Eq
 | .ne=>.NotEq
 | .lt=>.Lt
 | .le=>.LtE
 | .gt=>.Gt
 | .ge=>.GtE
 | .is=>.Is
 | .isnot=>.IsNot
 | .in_=>.In
 | .notin=>.NotIn
theorem zth{op:Cop}{o:CmpOp}(h:x8 op o=true):o=op.op:=by cases op <;> cases o <;> first | rfl | exact (ao h).elim
theorem vd{f:Int->Int->Bool}{v u:Value}{x y:PyData}{as bs:List Addr}{b:Bool}(rv:Reads s.heap v x as)(ru:Reads s.heap u y bs)(e:ordD f x y=some b):∃ i j t t',v=.int i t/\u=.int j t'/\f i j=b:=by
 refine fL (zoo e) fun i j eO eP eQ=>?_;subst eO;subst eP;subst eQ
 cases rv;cases ru;exact⟨_,_,_,_,rfl,rfl,rfl⟩
theorem znm{op:Cop}{o:CmpOp}{v u:Value}{x y:PyData}{as bs:List Addr}{b:Bool}{Q:Value->Shared->Prop}{E:Value->Shared->Prop}{k:Nat}(ro:Room A k)(ho:x8 op o=true)
 (rv:Reads s.heap v x as) (ru:Reads s.heap u y bs) (e:gq op x y=some b) (q:Q (.bool b) s):wpAny G.m A (compareOp o v u) Q E s:=by
 have hu:=ro.c (n:=200);rw[zth ho];clear ho ro;have hle:∀ {a:Nat},a<=100->A.units+a < cLine:=fun h=>bK (Nat.add_le_add_left (ai h (by decide)) _) hu
 cases op with
 | eq=>
   refine fI (zmy e) fun eM h3 eO=>?_;refine fH eM fun h1 h2=>?_;subst eO;exact SeqAt.compareEq_reads rv ru h1 h2 (hle h3) q
 | ne=>
   refine fI (zmy e) fun eM h3 eO=>?_;refine fH eM fun h1 h2=>?_;subst eO;exact SeqAt.compareNe_reads rv ru h1 h2 (hle h3) q
 | lt=>
   refine fM (vd rv ru e) fun i j t t' eQ eR=>?_;subst eQ;refine fH eR ?_;clear eR;intro eM eN;subst eM;subst eN;exact wpAny_lt_int q
 | le=>
   refine fM (vd rv ru e) fun i j t t' eQ eR=>?_;subst eQ;refine fH eR ?_;clear eR;intro eM eN;subst eM;subst eN;exact le_int q
 | gt=>
   refine fM (vd rv ru e) fun i j t t' eQ eR=>?_;subst eQ;refine fH eR ?_;clear eR;intro eM eN;subst eM;subst eN;exact PySem.P.gt_int q
 | ge=>
   refine fM (vd rv ru e) fun i j t t' eQ eR=>?_;subst eQ;refine fH eR ?_;clear eR;intro eM eN;subst eM;subst eN;exact PySem.P.ge_int q
 | is=>contradiction
 | isnot=>contradiction
 | in_=>
   refine fN (zmg e) fun xs hy eO eP=>?_;refine fH eO fun h1 h2=>?_;refine fH eP ?_;clear eP;intro h3 eN;subst eN;refine fx hy ?_ ?_<;>clear hy
   ·rintro rfl;exact SeqAt.in_list_reads ru rv h2 h1 (by lia) q
   ·rintro rfl;exact SeqAt.in_tuple_reads ru rv h2 h1 (by lia) q
 | notin=>
   refine fC (aD.mp e) fun c e1 eO=>?_;subst eO;refine fN (zmg e1) fun xs hy eO eP=>?_;refine fH eO fun h1 h2=>?_;refine fH eP ?_;clear eP;intro h3 eN;subst eN;refine fx hy ?_ ?_<;>clear hy
   ·rintro rfl;exact SeqAt.notIn_list_reads ru rv h2 h1 (by lia) q
   ·rintro rfl;exact SeqAt.notIn_tuple_reads ru rv h2 h1 (by lia) q
end
structure KeepsL(L:Addr)(s s':Shared):Prop where
 gens:s'.gens=s.gens
 os:s'.os=s.os
 kept:∀ b o,b≠L->s.heap.get? b=some o->s'.heap.get? b=some o
 ns:∀ m,s.heap.Ns L m->s'.heap.Ns L m
section
variable{G:Gl}{F:Fm}{β:List Addr}{ρ:Loc}{O:za}{s s':Shared}
theorem KeepsL.step(x:KeepsL F.env.locals s s')(f:FmOk G F β s.heap):Step F.W β s s' β where
 gens:=x.gens
 os:=x.os
 pre:=bz _
 fresh:=fun uA h=>.inl h
 alive:=fun b o e=>by
  by_cases hb:b=F.env.locals
  ·subst hb;obtain⟨m,hm⟩:=f.ns;refine fO (x.ns m hm) fun o' fy fy h fy=>?_;exact fz o' h
  ·exact fz o (x.kept b o hb e)
 kept:=fun b o e uA hW=>⟨o,x.kept b o (fun h=>hW (h ▸ f.nsW)) e,Kin.refl o⟩
theorem SR.keepL(x:KeepsL F.env.locals s s')(r:SR G F β ρ O s.heap):SR G F β ρ O s'.heap:=by
 have st:=x.step r.fm;have nL:F.env.locals∈F.B:=r.fm.sub _ r.fm.nsW;have ne:∀ {a:Addr},a∈β->a≠F.env.locals:=fun ha e=>r.fm.notBox _ nL (e ▸ ha);refine⟨⟨fun c o e=>x.kept c o (fun h=>?_) (r.br.keep c o e),r.br.len,r.br.nodup,r.br.new,fun i a bx h1 h2=>?_,fun a ha=>(r.br.plain a ha).at fun o e=>x.kept a o (ne ha) e⟩,⟨r.fm.kind,r.fm.globals,r.fm.builtins,r.fm.once,?_,r.fm.nsW,?_,r.fm.apart,r.fm.sub,r.fm.new,r.fm.notBox,?_,r.fm.frB,fun a ha=>?_,fun m e=>⟨x.ns m (r.fm.pin m e).1,(r.fm.pin m e).2⟩⟩,fun i y v h1 h2=>?_⟩
 ·have:=r.fm.newW r.fm.nsW;rw[<- h,e] at this;contradiction
 ·have hb:=r.br.at_ i a bx h1 h2;have hne:=ne (ay h1)
  cases bx with
  | lst xs=>
    obtain⟨o,vs,n,e1,e2,e3,as,e4,e5⟩:=hb;exact⟨o,vs,n,x.kept _ _ hne e1,e2,e3,as,(z0 r.br r.fm st e4 e5).1,e5⟩
  | dct kvs=>
    obtain⟨o,es,n,e1,e2,e3,e4,e5⟩:=hb;refine⟨o,es,n,x.kept _ _ hne e1,e2,e3,e4,fun i e kv he hkv=>?_⟩;obtain⟨hq,as,bs,r1,r2,q⟩:=e5 i e kv he hkv;exact⟨hq,as,bs,(ya r.br r.fm st r1 fun a ha=>q a (aC _ ha)).1,(ya r.br r.fm st r2 fun a ha=>q a (aq _ ha)).1,q⟩
 ·obtain⟨m,hm⟩:=r.fm.ns;exact fz m (x.ns m hm)
 ·intro y h1;refine fL (r.fm.cell y h1) fun c v h3 eP h5=>?_;refine fC eP fun o h4 h4'=>?_;refine fK c v h3 ⟨o,x.kept _ _ (fun h=>?_) h4,h4'⟩ h5;obtain⟨m,o',es,ep,q1,q2,_⟩:=r.fm.ns;rw[h] at h4;rw[h4] at q1;injection q1 with fu;subst fu;rw[h4'] at q2;contradiction
 ·intro a ha;refine fC (r.fm.stor a ha) fun o h1 h2=>?_;by_cases hb:a=F.env.locals
  ·subst hb;obtain⟨m,hm⟩:=r.fm.ns;refine fP (x.ns m hm) fun o' es ep h hd fy=>?_;exact fD o' h (fun vs n hv=>by rw[hd] at hv;contradiction)
  ·exact fD o (x.kept _ _ hb h1) h2
 ·refine fG (r.fm.frs a ha) fun m hm=>?_;by_cases hb:a=F.env.locals
  ·subst hb;exact fz m (x.ns m hm)
  ·refine fO hm fun o es ep h1 h2=>?_;exact⟨m,o,es,ep,x.kept _ _ hb h1,h2⟩
 ·refine fC (r.get i y v h1 h2) fun val g rv=>?_;refine fD val ?_ (rv.step r.br r.fm st);refine fx g ?_ ?_
  ·rintro ⟨g1,m,g2,g3⟩;exact .inl ⟨g1,m,x.ns m g2,g3⟩
  ·rintro ⟨g1,c,g2,o,g3,g4⟩;refine .inr ⟨g1,c,g2,o,x.kept _ _ (fun h=>?_) g3,g4⟩;obtain⟨m,o',es,ep,q1,q2,_⟩:=r.fm.ns;rw[h] at g3;rw[g3] at q1;injection q1 with fu;subst fu;rw[g4] at q2;contradiction
theorem Does.leafL{α δ:Type}{T:WT α}{d:δ}{Rel:List Addr->Heap->α->δ->Prop}(sr:SR G F β ρ O s.heap)
 (hw:∀ (Q:α->Shared->Prop) (E:Value->Shared->Prop),(∀ v s',KeepsL F.env.locals s s'->Rel β s'.heap v d->Q v s')->T Q E s) :
 DoesW G F s β T (.ok d (ρ,O)) Rel:=
 fun Q E k=>hw Q E fun v s' ka r=>k s' β v (ka.step sr.fm) (sr.keepL ka) r
end
noncomputable def vo(h:Heap)(L:Addr):Heap:={ objs:=h.objs.extract 0 L,life:=h.life }
theorem dg{h:Heap}{L a:Addr}:(vo h L).get? a=if a < L then h.get? a else none:=by
 have e:(h.objs.extract 0 L)[a]?=if a < L then h.objs[a]? else none:=by
  rw[Array.getElem?_extract];generalize h.objs=x;have key:∀ (n L a:Nat),(a < min L n - 0)↔(a < L/\a < n):=fun n L a=>by rw[Nat.sub_zero];exact Nat.lt_min
  by_cases h1:a < L
  ·by_cases h2:a < x.size
   ·rw[af ((key _ _ _).mpr ⟨h1,h2⟩),af h1,bC]
   ·rw[ak (fun q=>h2 ((key _ _ _).mp q).2),af h1,cD (eA.mp h2)]
  ·rw[ak (fun q=>h1 ((key _ _ _).mp q).1),ak h1]
 unfold Heap.get? vo;dsimp only;rw[e];by_cases h1:a < L
 ·rw[af h1,af h1]
 ·rw[ak h1,ak h1]
noncomputable def newsOf(h:Heap)(L:Addr):List (Addr×Obj):=(List.range h.objs.size).filterMap fun a=>if L < a then (h.get? a).map fun o=>(a,o) else none
set_option tactic.hygienic true in
theorem mem_newsOf{h:Heap}{L:Addr}{p:Addr×Obj}:p∈newsOf h L↔L < p.1/\h.get? p.1=some p.2:=by
 unfold newsOf;rw[List.mem_filterMap];constructor
 ·rintro⟨a,_,e⟩;split at e
  ·rename_i hl;rw[aD] at e;refine fC e ?_;clear e;intro o e1 eO;subst eO;exact⟨hl,e1⟩
  ·contradiction
 ·rintro⟨h1,h2⟩;exact fD p.1 (aZ.mpr (aY h2)) (by rw[af h1,h2];rfl)
theorem zhl{h:Heap}{L:Addr}{m:Str->Option Value}(hn:h.Ns L m):Fr (vo h L) L h m/\News (vo h L) L h (newsOf h L):=by
 refine⟨⟨hn,fun b o e=>?_,?_⟩,fun p hp=>?_⟩
 ·rw[dg] at e;split at e
  ·exact e
  ·contradiction
 ·show (h.objs.extract 0 L).size<=L;rw[Array.size_extract];lia
 ·refine fH (mem_newsOf.mp hp) fun h1 h2=>?_;exact⟨h2,cX h1,by rw[dg,ak (eA.mpr (cG h1))]⟩
theorem zcd{h:Heap}{L:Addr}{m m':Str->Option Value}(x:h.Ns L m)(y:h.Ns L m'):m=m':=by
 refine fE x fun o es ep h1 h2 fy h3=>?_;refine fE y fun o' es' ep' h1' h2' fy h3'=>?_;rw[h1] at h1';injection h1' with fu;subst fu
 rw[h2] at h2';injection h2' with fu fw;subst fu fw
 funext z;rw[<- h3,<- h3']
theorem qx{s:Shared}{L:Addr}{m:Str->Option Value}{h':Heap}{news':List (Addr×Obj)}{tk:Nat}{dr:Drawn}(hn:s.heap.Ns L m)(f:Fr (vo s.heap L) L h' m)(n:News (vo s.heap L) L h' news')(hs:∀ p∈newsOf s.heap L,p∈news') :
 KeepsL L s { s with heap:=h',toks:=tk,drawn:=dr } where
 gens:=rfl
 os:=rfl
 kept:=fun b o hb e=>by
  refine fx (bn b L) ?_ ?_
  ·intro h;exact f.keep b o (by rw[dg,af h];exact e)
  ·intro h;exact (n (b,o) (hs _ (mem_newsOf.mpr ⟨Nat.lt_of_le_of_ne h (Ne.symm hb),e⟩))).1
 ns:=fun m' hm=>by rw[zcd hm hn];exact f.ns
theorem d7(items:Array Value)(k:Nat):(List.replicate k items).foldl (fun x1 x2=>x1++x2) #[]=(List.replicate k items.toList).flatten.toArray:=by
 have:∀ (acc:Array Value),(List.replicate k items).foldl (fun x1 x2=>x1++x2) acc=(acc.toList++(List.replicate k items.toList).flatten).toArray:=by
  induction k with
  | zero=>intro acc;simp
  | succ k ih=>intro acc;rw[List.replicate_succ,dI,ih];simp[List.replicate_succ]
 rw[this];simp
theorem gy(l:Addr)(items:Array Value)(n:Nat)(d:Option Addr)(sl:Array (Option Value))(x:Int)(u:Tok)(h0:items.isEmpty=false)(h2:2<=x)(hx:x<=256)(hz:items.size * x.toNat<=256) :
 Meets (Builtin.«tuple.__mul__» ⟨[.ref l,.int x u],[]⟩) (fun uA R s=>s.heap.get? l=some { cls:=.type "tuple",dict:=d,data:=.seq items n,slots:=sl }/\R (.ok (.ret (Value.ref s.heap.objs.size))) { s with heap:=s.heap.push { cls:=Value.type "tuple",data:=Data.seq (List.foldl (fun x1 x2=>x1++x2) #[] (List.replicate x.toNat items)) },toks:=s.toks }):=
 .of_wp fun prog w A R s h=>by
  obtain⟨hp,g,d,tk,os⟩:=s;refine fH h fun hl h=>?_;have c1:¬ (decide (x < -(2 ^ 63)) || decide (x ≥ 2 ^ 63))=true:=by simp;lia
  have c2:¬ (items.isEmpty || x == 1)=true:=by simp[h0];lia
  have c3:¬ (decide (x<=0) || items.isEmpty)=true:=by simp[h0];lia
  have hz':(items.size:Int) * x<=256:=by
   have:(items.size:Int) * x=((items.size * x.toNat:Nat):Int):=by rw[Int.natCast_mul];congr 1;lia
   rw[this];lia
  generalize hy:(items.size:Int) * x=y at hz';have c4:¬ (y > (2 ^ 63 - 1) / 8):=by lia
  have c5:¬ Builtin.Tuple.tupleTooMany y=true:=by
   simp only[Builtin.Tuple.tupleTooMany,aP];show ¬ y > ((2 ^ 24:Nat):Int);lia
  subst hy;have c6:¬ ((List.replicate x.toNat items).foldl (fun x1 x2=>x1++x2) #[]).size > sizeLine:=by
   rw[d7];simp[sizeLine];rw[Nat.mul_comm];lia
  wp_walk;rw[ak c1];wp_walk;rw[ak c2];wp_walk;rw[ak c3];wp_walk;rw[ak c4];wp_walk;exact fD _ rfl h
theorem uo:fillsNumberSlot (.type "tuple") "mul" = pure false:=
 PySem.fillsNumberSlot_seq (id:="tuple.__mul__") (r:=some (.builtin "tuple.__rmul__")) F.slot_tuple_mul.lookup (by decide +kernel) F.slot_tuple_rmul.lookup (by decide +kernel)
theorem zc9:seqRepeat? (.type "tuple")=pure (some (.builtin "tuple.__mul__")):=by
 unfold seqRepeat?;rw [PySem.seqSlot_of (T:="tuple") (name:="__mul__") (id:="tuple.__mul__") F.slot_tuple_mul.lookup (by decide +kernel),PySem.seqSlot_of (T:="tuple") (name:="__rmul__") (id:="tuple.__rmul__") F.slot_tuple_rmul.lookup (by decide +kernel)];rfl
theorem ui(a:Int)(t:Tok)(l:Addr)(items:Array Value)(n:Nat)(d:Option Addr)(sl:Array (Option Value)) :
 Meets (Builtin.«int.__rmul__» ⟨[.int a t,.ref l],[]⟩) (fun uA R s=>s.heap.get? l=some { cls:=.type "tuple",dict:=d,data:=.seq items n,slots:=sl }/\R (.ok (.ret Value.notImplemented)) s):=
 .of_wp fun prog w A R s h=>by obtain⟨hp,g,d,tk,os⟩:=s;refine fH h fun hl h=>?_;wp_walk;exact fD _ rfl h
theorem zjk{prog:Program}{w:World}{A:Around}{E:Value->Shared->Prop}{s:Shared}{l:Addr}{o:Obj}{items:Array Value}{k:Nat}{x:Int}{u:Tok}{Q:Value->Shared->Prop}(ho:s.heap.get? l=some o)(hc:o.cls=.type "tuple")(hd:o.data=.seq items k)
 (h0:items.isEmpty=false) (h2:2<=x) (hx:x<=256) (hz:items.size * x.toNat<=256)
 (h:Q (.ref s.heap.objs.size) { s with heap:=s.heap.push { cls:=Value.type "tuple",data:=Data.seq (List.replicate x.toNat items.toList).flatten.toArray } }):wpAny (model prog w) A (binaryOp .Mult (.ref l) (.int x u)) Q E s:=by
 obtain⟨cls,d,data,sl⟩:=o;simp only at hc hd;subst hc hd;refine wpAny_binaryOp_repeat_ref (T:="tuple") (U:="int") (by decide) ⟨_,ho,rfl⟩ (fun s'=>typeIs_int s' x u) uo F.fills_int_mul F.slot_int_rmul zc9 F.slot_int_index.lookup
  (call_meets F.slot_int_rmul (typeIs_int s x u) F.entry_int_rmul (F.args_int_rmul_2 _ _) (ui x u l items k d sl)
    ⟨ho,rfl,⟨_,ho,rfl⟩,call_meets F.slot_tuple_mul ⟨_,ho,rfl⟩ F.entry_tuple_mul (F.args_tuple_mul_2 _ _) (gy l items k d sl x u h0 h2 hx hz) ⟨ho,?_⟩⟩)
 rw[d7];exact h
theorem yb{h:Heap}{motive:List Value->List PyData->List Addr->Prop}(nil:motive [] [] [])(cons:∀ {v:Value} {d:PyData} {as:List Addr} {vs:List Value} {ds:List PyData} {bs:List Addr},Reads h v d as->ReadsAll h vs ds bs->motive vs ds bs->motive (v::vs) (d::ds) (as++bs))
 {vs:List Value} {xs:List PyData} {as:List Addr} (r:ReadsAll h vs xs as):motive vs xs as:=
 ReadsAll.rec (motive_1:=fun uA uA uA uA=>True) (motive_2:=fun vs xs as uA=>motive vs xs as)
  trivial (fun uA=>trivial) (fun uA uA=>trivial) (fun uA uA=>trivial) (fun uA uA uA uA uA=>trivial) (fun uA uA uA uA uA=>trivial) (fun uA uA uA uA uA uA uA=>trivial) nil (fun r rs uA ih=>cons r rs ih) r
theorem yz{h:Heap}{vs ws:List Value}{xs ys:List PyData}{as bs:List Addr}(r:ReadsAll h vs xs as)(r':ReadsAll h ws ys bs):ReadsAll h (vs++ws) (xs++ys) (as++bs):=
 yb (motive:=fun vs xs as=>ReadsAll h (vs++ws) (xs++ys) (as++bs)) r' (fun r uA ih=>by rw[bj];exact .cons r ih) r
theorem w4{h:Heap}{vs:List Value}{xs:List PyData}{as:List Addr}{P:Addr->Prop}(r:ReadsAll h vs xs as)(q:∀ a∈as,P a)(k:Nat):∃ bs,ReadsAll h (List.replicate k vs).flatten (List.replicate k xs).flatten bs/\∀ a∈bs,P a:=by
 induction k with
 | zero=>exact fD [] .nil (fun uA h=>nomatch h)
 | succ k ih=>
   refine fC ih ?_;clear ih;intro bs r' q';refine fD (as++bs) ?_ (fun a ha=>(aj.mp ha).elim (q a) (q' a));simpa [List.replicate_succ] using yz r r'
theorem zd{h:Heap}{vs:List Value}{xs:List PyData}{as:List Addr}(r:ReadsAll h vs xs as):vs.length=xs.length:=
 yb (motive:=fun vs xs uA=>vs.length=xs.length) rfl (fun uA uA ih=>bR (· + 1) ih) r
section
variable{G:Gl}{F:Fm}{A:Around}{s:Shared}{β:List Addr}{ρ:Loc}{O:za}
theorem KeepsAll.toL{L:Addr}{s s':Shared}(x:KeepsAll s s'):KeepsL L s s':=⟨x.gens,x.os,fun b o uA e=>x.kept b o e,fun m h=>h.keeps x.kept⟩
theorem y6{h:Heap}{N:List Addr}{D:Addr}{o:Obj}{vs:Array Value}{n:Nat}{xs:List PyData}{as:List Addr}(e1:h.get? D=some o)(e2:o.cls=.type "list")(e3:o.data=.seq vs n)(r:ReadsAll h vs.toList xs as)(q:∀ a∈as,a∉β/\a∉N)(hD:D∉β/\D∉N):VR G N β h (.ref D) (.d (.list xs)):=
 ⟨D::as,.list e1 e2 e3 r,fun a ha=>(ag.mp ha).elim (fun e=>e ▸ hD) (q a)⟩
theorem qa{h:Heap}{N:List Addr}{D:Addr}{o:Obj}{vs:Array Value}{n:Nat}{xs:List PyData}{as:List Addr}(e1:h.get? D=some o)(e2:o.cls=.type "tuple")(e3:o.data=.seq vs n)(r:ReadsAll h vs.toList xs as)(q:∀ a∈as,a∉β/\a∉N):VR G N β h (.ref D) (.d (.tuple xs)):=
 ⟨as,.tuple e1 e2 e3 r,q⟩
def NewL(s:Shared)(h:Heap)(v:Value):Prop:=∃ a,v=.ref a/\s.heap.get? a=none/\Plain h a
noncomputable abbrev FRel(G:Gl)(F:Fm)(s:Shared):List Addr->Heap->Value->V->Prop:=fun β h v d=>VR G F.B β h v d/\(∀ xs,d=.d (.list xs)->NewL s h v)
def LeafD{α δ:Type}(G:Gl)(F:Fm)(s:Shared)(β:List Addr)(T:WT α)(d:δ)(Rel:List Addr->Heap->α->δ->Prop):Prop:=
 ∀ (Q:α->Shared->Prop) (E:Value->Shared->Prop),(∀ v s',KeepsL F.env.locals s s'->Rel β s'.heap v d->Q v s')->T Q E s
theorem LeafD.leaf{α δ:Type}{T:WT α}{d:δ}{Rel:List Addr->Heap->α->δ->Prop}(sr:SR G F β ρ O s.heap)
 (hw:∀ (Q:α->Shared->Prop) (E:Value->Shared->Prop),(∀ v s',KeepsAll s s'->Rel β s'.heap v d->Q v s')->T Q E s):LeafD G F s β T d Rel:=fun Q E k=>hw Q E fun v s' ka r=>k v s' ka.toL r
theorem LeafD.leafL{α δ:Type}{T:WT α}{d:δ}{Rel:List Addr->Heap->α->δ->Prop}(sr:SR G F β ρ O s.heap)
 (hw:∀ (Q:α->Shared->Prop) (E:Value->Shared->Prop),(∀ v s',KeepsL F.env.locals s s'->Rel β s'.heap v d->Q v s')->T Q E s):LeafD G F s β T d Rel:=hw
theorem LeafD.does{α δ:Type}{T:WT α}{d:δ}{Rel:List Addr->Heap->α->δ->Prop}(sr:SR G F β ρ O s.heap)(h:LeafD G F s β T d Rel):DoesW G F s β T (.ok d (ρ,O)) Rel:=Does.leafL sr h
theorem zak{a b:Int}(h:a.natAbs < 2 ^ 64\/b.natAbs < 2 ^ 64):IntMulOk a b:=by
 refine fx h ?_ ?_
 ·intro h;exact IntMulOk.of_left (intBits_le_64 (by lia) (by lia))
 ·intro h;exact IntMulOk.of_right (intBits_le_64 (by lia) (by lia))
theorem zar{f:Int->Option PyData}{y c:PyData}(h:intD f y=some c):∃ n,y=.int n/\f n=some c:=by
 cases y <;> first | (cases h;done) | skip
 exact fD _ rfl h
theorem y4{p:Prop}[Decidable p]{a c:PyData}(h:(if p then some a else none)=some c):p/\a=c:=by
 by_cases hp:p
 ·rw[af hp] at h;exact⟨hp,aN h⟩
 ·rw[ak hp] at h;contradiction
inductive AddR:PyData->PyData->PyData->Prop
 | int (a b:Int):AddR (.int a) (.int b) (.int (a+b))
 | list (a b:List PyData) (h:a.length+b.length<=line):AddR (.list a) (.list b) (.list (a++b))
 | tuple (a b:List PyData) (h:a.length+b.length<=line):AddR (.tuple a) (.tuple b) (.tuple (a++b))
theorem zp3{x y c:PyData}(h:addD x y=some c):AddR x y c:=by
 cases x with
 | int a=>
   cases y with
   | int b=>injection h with fu;subst fu;exact .int a b
   | _=>contradiction
 | list a=>
   cases y with
   | list b=>refine fH (y4 h) fun h1 eN=>?_;subst eN;exact .list a b h1
   | _=>contradiction
 | tuple a=>
   cases y with
   | tuple b=>refine fH (y4 h) fun h1 eN=>?_;subst eN;exact .tuple a b h1
   | _=>contradiction
 | _=>contradiction
theorem VR.ints{v:Value}{x:V}{i:Int}(rv:VR G F.B β s.heap v x)(h:look O x=some (.int i)):∃ t,v=.int i t:=by
 have:=yt h (fun uA h=>by contradiction);subst this;exact rv.int_inv
theorem zci{T:WT Value}{i:Int}(sr:SR G F β ρ O s.heap)(h:∀ (Q:Value->Shared->Prop) (E:Value->Shared->Prop),(∀ t,Q (.int i t) { s with toks:=s.toks+1 })->T Q E s):LeafD G F s β T (V.d (.int i)) (FRel G F s):=
 LeafD.leaf sr fun Q E q=>h Q E fun t=>q _ _ (KeepsAll.toks _ _) ⟨VR.int,fun uA h=>by injection h with fu;contradiction⟩
theorem zg3{v u:Value}{x y:V}{a b:List PyData}(sr:SR G F β ρ O s.heap)(rv:VR G F.B β s.heap v x)(ru:VR G F.B β s.heap u y)(h1:look O x=some (.list a))(h2:look O y=some (.list b))(hz:a.length+b.length<=line) :
 LeafD G F s β (tr G A (binaryOp .Add v u)) (V.d (.list (a++b))) (FRel G F s):=by
 have new:s.heap.get? s.heap.objs.size=none:=bk (aH _);refine fC (look_list sr rv h1) fun D1 eN eO=>?_;subst eN;obtain ⟨o1,vs1,n1,e1,e2,e3,as1,r1,q1⟩:=eO;refine fC (look_list sr ru h2) fun D2 eN eO=>?_;subst eN;obtain ⟨o2,vs2,n2,f1,f2,f3,as2,r2,q2⟩:=eO;obtain⟨m,hm⟩:=sr.fm.ns;refine fH (zhl hm) fun fr nw=>?_;refine LeafD.leafL sr fun Q E q=>?_;refine add_arrays fr nw ⟨o1,e1,e2,n1,e3⟩ ⟨o2,f1,f2,n2,f3⟩ (fun h' fr' nw'=>?_) (by have:=zd r1;have:=zd r2;simp at *;exact ai (by lia) (ai hz (by decide)));have kp:KeepsL F.env.locals s { s with heap:=h' }:=qx (tk:=s.toks) (dr:=s.drawn) hm fr' nw' fun p hp=>ah _ hp;have st:=kp.step sr.fm;refine fH (z0 sr.br sr.fm st r1 q1) fun r1' q1'=>?_;refine fH (z0 sr.br sr.fm st r2 q2) fun r2' q2'=>?_;refine q _ _ kp ⟨y6 (nw' _ (.head _)).1 rfl rfl (by simpa using yz r1' r2') (fun a ha=>(aj.mp ha).elim (q1 a) (q2 a)) sr.size_new,fun uA uA=>⟨_,rfl,new,_,(nw' _ (.head _)).1,rfl,rfl⟩⟩
theorem zjs{v u:Value}{x y:V}{a b:List PyData}(sr:SR G F β ρ O s.heap)(rv:VR G F.B β s.heap v x)(ru:VR G F.B β s.heap u y)(h1:look O x=some (.tuple a))(h2:look O y=some (.tuple b))(hz:a.length+b.length<=line) :
 LeafD G F s β (tr G A (binaryOp .Add v u)) (V.d (.tuple (a++b))) (FRel G F s):=by
 have:=yt h1 (fun uA h=>by contradiction);subst this;have:=yt h2 (fun uA h=>by contradiction);subst this;obtain⟨D1,o1,vs1,n1,rfl,e1,e2,e3,as1,r1,q1⟩:=rv.tuple_inv;obtain⟨D2,o2,vs2,n2,rfl,f1,f2,f3,as2,r2,q2⟩:=ru.tuple_inv;obtain⟨m,hm⟩:=sr.fm.ns;refine fH (zhl hm) fun fr nw=>?_;refine LeafD.leafL sr fun Q E q=>?_;refine add_tuples (vs:=vs1.toList) (ws:=vs2.toList) fr nw ⟨o1,e1,e2,n1,by simpa using e3⟩ ⟨o2,f1,f2,n2,by simpa using f3⟩ (fun hv=>?_) (fun uA hv=>?_) (fun uA uA h' fr' nw'=>?_) (by have:=zd r1;have:=zd r2;simp at *;exact ai (by lia) (ai hz (by decide)))
 ·have hv':vs1.toList=[]:=hv;rw[hv'] at r1;cases r1;exact q _ _ (KeepsAll.refl s).toL ⟨ru,fun uA h=>by injection h with fu;contradiction⟩
 ·have hv':vs2.toList=[]:=hv;rw[hv'] at r2;cases r2;rw[bc] at q;exact q _ _ (KeepsAll.refl s).toL ⟨rv,fun uA h=>by injection h with fu;contradiction⟩
 ·have kp:KeepsL F.env.locals s { s with heap:=h' }:=qx (tk:=s.toks) (dr:=s.drawn) hm fr' nw' fun p hp=>ah _ hp;have st:=kp.step sr.fm;refine fH (z0 sr.br sr.fm st r1 q1) fun r1' q1'=>?_;refine fH (z0 sr.br sr.fm st r2 q2) fun r2' q2'=>?_;exact q _ _ kp ⟨qa (nw' _ (.head _)).1 rfl rfl (by simpa using yz r1' r2') (fun a ha=>(aj.mp ha).elim (q1 a) (q2 a)),fun uA h=>by injection h with fu;contradiction⟩
theorem zg0{v:Value}{x:V}{a:List PyData}{n:Int}{t':Tok}(sr:SR G F β ρ O s.heap)(rv:VR G F.B β s.heap v x)(h1:look O x=some (.list a))(hz:a.length * n.toNat<=256/\0<=n/\n<=256) :
 LeafD G F s β (tr G A (binaryOp .Mult v (.int n t'))) (V.d (.list (repL a n))) (FRel G F s):=by
 refine fC (look_list sr rv h1) fun D1 eN eO=>?_;subst eN;obtain ⟨o1,vs1,n1,e1,e2,e3,as1,r1,q1⟩:=eO;obtain⟨m,hm⟩:=sr.fm.ns;refine fH (zhl hm) fun fr nw=>?_;refine LeafD.leafL sr fun Q E q=>?_;have hl:=zd r1;refine PySem.W.KMa.mul (vs:=vs1.toList) fr nw ⟨o1,e1,e2,n1,by simpa using e3⟩ (by lia) (by lia) (by rw[hl];exact hz.1) rfl fun D h' fr' nw' hlt=>?_;have kp:KeepsL F.env.locals s { s with heap:=h' }:=qx (tk:=s.toks) (dr:=s.drawn) hm fr' nw' fun p hp=>ah _ hp;have st:=kp.step sr.fm;refine fH (z0 sr.br sr.fm st r1 q1) fun r1' q1'=>?_;refine fC (w4 r1' q1' n.toNat) fun bs r2 q2=>?_;have hD:=nw' _ (.head _);have nD:s.heap.get? D=none:=by
  cases e:s.heap.get? D with
  | none=>rfl
  | some o=>
    exfalso;refine fx (bn F.env.locals D) ?_ ?_
    ·intro h;exact cM _ (hlt (D,o) (mem_newsOf.mpr ⟨h,e⟩))
    ·intro h;have h':D < F.env.locals:=Nat.lt_of_le_of_ne h hD.2.1;have:=hD.2.2;rw[dg,af h'] at this;rw[e] at this;contradiction
 refine q _ _ kp ⟨y6 hD.1 rfl rfl (by simpa [repL] using r2) q2 ⟨fun hb=>?_,fun hb=>?_⟩,fun uA uA=>⟨D,rfl,nD,_,hD.1,rfl,rfl⟩⟩
 ·refine fC (sr.br.alive D hb) fun o e fy=>?_;rw[e] at nD;contradiction
 ·refine fC (sr.fm.stor D hb) fun o e fy=>?_;rw[e] at nD;contradiction
theorem zjr{v:Value}{x:V}{a:List PyData}{n:Int}{t':Tok}(sr:SR G F β ρ O s.heap)(rv:VR G F.B β s.heap v x)(h1:look O x=some (.tuple a))(hz:a≠[]/\a.length * n.toNat<=256/\2<=n/\n<=256) :
 LeafD G F s β (tr G A (binaryOp .Mult v (.int n t'))) (V.d (.tuple (repL a n))) (FRel G F s):=by
 have:=yt h1 (fun uA h=>by contradiction);subst this;obtain⟨D1,o1,vs1,n1,rfl,e1,e2,e3,as1,r1,q1⟩:=rv.tuple_inv;have hl:=zd r1;refine LeafD.leaf sr fun Q E q=>?_;refine zjk e1 e2 e3 (by cases hv:vs1.isEmpty with
  | false=>rfl
  | true=>rw[Array.isEmpty_iff] at hv;subst hv;simp at hl;exact absurd (cy hl.symm) hz.1) hz.2.2.1 hz.2.2.2 (by rw[<- av,hl];exact hz.2.1) ?_
 have kp:=KeepsAll.push s { cls:=Value.type "tuple",data:=Data.seq (List.replicate n.toNat vs1.toList).flatten.toArray } s.toks;refine fC (w4 (zt kp.kept r1) q1 n.toNat) fun bs r2 q2=>?_;exact q _ _ kp ⟨qa (aw _ rfl) rfl rfl (by simpa [repL] using r2) q2,fun uA h=>by injection h with fu;contradiction⟩
theorem zoy{op:Bop}{o:Operator}{i j:Int}{t t':Tok}{c:PyData}(ho:zfu op o=true)(sr:SR G F β ρ O s.heap)(h:arith op i j=some c) :
 LeafD G F s β (tr G A (binaryOp o (.int i t) (.int j t'))) (V.d c) (FRel G F s):=by
 cases op with
 | sub=>
   cases o <;> first | exact (ao ho).elim | skip
   injection h with fu;subst fu;exact zci sr fun Q E q=>sub_int (q _)
 | fdiv=>
   cases o <;> first | exact (ao ho).elim | skip
   refine fH (y4 h) fun hz eN=>?_;subst eN;exact zci sr fun Q E q=>floordiv_int hz.1 (q _) (.inl (PyProof.noPylong_small hz.2))
 | mod=>
   cases o <;> first | exact (ao ho).elim | skip
   by_cases hz:j=0
   ·unfold arith at h;dsimp only at h;rw[af hz] at h;contradiction
   ·unfold arith at h;dsimp only at h;rw[ak hz] at h;injection h with fu;subst fu
    exact zci sr fun Q E q=>mod_int' hz (q _)
 | pow=>
   cases o <;> first | exact (ao ho).elim | skip
   refine fH (y4 h) fun eM eN=>?_;refine fH eM ?_;clear eM;intro eM eN;subst eM;subst eN;subst eN;refine zci sr fun Q E q=>pow_int (by decide) (by decide +kernel) ?_;have e:(10:Int) ^ (20:Int).toNat=100000000000000000000:=by decide
   rw[e];exact q _
 | _=>contradiction
theorem zox{op:Bop}{o:Operator}{v u:Value}{x y:V}{c:PyData}(ho:zfu op o=true)(sr:SR G F β ρ O s.heap)(rv:VR G F.B β s.heap v x)(ru:VR G F.B β s.heap u y)
 (hc:((look O x).bind fun x=>(look O y).bind fun y=>zcw op x y)=some c):LeafD G F s β (tr G A (binaryOp o v u)) (V.d c) (FRel G F s):=by
 refine fC (aW.mp hc) fun a h1 hc=>?_;refine fC (aW.mp hc) fun b h2 h3=>?_;have rest:∀ op,zcw op a b=intD (fun i=>intD (arith op i) b) a->zfu op o=true->zcw op a b=some c->LeafD G F s β (tr G A (binaryOp o v u)) (V.d c) (FRel G F s):=fun op e ho h3=>by
  rw[e] at h3;refine fC (zar h3) fun i eN h3=>?_;subst eN;have h3:intD (arith op i) b=some c:=h3;refine fC (zar h3) fun j eN h3=>?_;subst eN;refine fG (rv.ints h1) fun t eN=>?_;subst eN;refine fG (ru.ints h2) fun t' eN=>?_;subst eN;exact zoy ho sr h3
 cases op with
 | add=>
   cases o <;> first | exact (ao ho).elim | skip
   cases zp3 h3 with
   | int i j=>
     refine fG (rv.ints h1) fun t eN=>?_;subst eN;refine fG (ru.ints h2) fun t' eN=>?_;subst eN;exact zci sr fun Q E q=>wpAny_add_int (q _)
   | list a b hz=>exact zg3 sr rv ru h1 h2 hz
   | tuple a b hz=>exact zjs sr rv ru h1 h2 hz
 | mul=>
   cases o <;> first | exact (ao ho).elim | skip
   refine fC (zar h3) fun n eN h3=>?_;subst eN;refine fG (ru.ints h2) fun t' eN=>?_;subst eN
   cases a with
   | int i=>
     refine fH (y4 h3) fun hz eN=>?_;subst eN;refine fG (rv.ints h1) fun t eN=>?_;subst eN;exact zci sr fun Q E q=>mul_int (q _) (zak hz)
   | list a=>refine fH (y4 h3) fun hz eN=>?_;subst eN;exact zg0 sr rv h1 hz
   | tuple a=>refine fH (y4 h3) fun hz eN=>?_;subst eN;exact zjr sr rv h1 hz
   | _=>contradiction
 | sub=>exact rest .sub rfl ho h3
 | fdiv=>exact rest .fdiv rfl ho h3
 | mod=>exact rest .mod rfl ho h3
 | pow=>exact rest .pow rfl ho h3
end
section
variable{G:Gl}{F:Fm}{A:Around}{s:Shared}{β:List Addr}{ρ:Loc}{O:za}
theorem zte{op:Cop}{o:CmpOp}{v u:Value}{x y:V}{k:Nat}(ro:Room A k)(ho:x8 op o=true)(sr:SR G F β ρ O s.heap)(rv:VR G F.B β s.heap v x)(ru:VR G F.B β s.heap u y) :
 Does G F A s β (compareOp o v u) ((cmpG op x y O).lift ρ) (VRel G F):=by
 unfold cmpG
 cases h1:look O x with
 | none=>trivial
 | some a=>
   cases h2:look O y with
   | none=>trivial
   | some b=>
     show DoesW G F s β _ ((opt ((gq op a b).map fun b=>V.d (.bool b)) O).lift ρ) _
     cases h3:gq op a b with
     | none=>trivial
     | some c=>
       refine fG (wl sr rv h1) fun as r1=>?_;refine fG (wl sr ru h2) fun bs r2=>?_;exact Does.leaf sr fun Q E q=>znm ro ho r1 r2 h3 (q _ _ (KeepsAll.refl s) VR.bool)
set_option tactic.hygienic true in
theorem zql{o:CmpOp}{v u:Value}{x y:V}{f:Bool->Bool}(ho:compareOp o v u=(do return Value.bool (f (<- isSame v u))))(sr:SR G F β ρ O s.heap)(rv:VR G F.B β s.heap v x)(ru:VR G F.B β s.heap u y) :
 Does G F A s β (compareOp o v u) ((isV f x y O).lift ρ) (VRel G F):=by
 cases x <;> first | trivial | skip
 cases y <;> first | trivial | skip
 rename_i a b;show DoesW G F s β _ ((opt ((isop a b).map fun c=>V.d (.bool (f c))) O).lift ρ) _
 cases h:isop a b with
 | none=>trivial
 | some c=>
   refine Does.leaf sr fun Q E q=>?_;rw[ho,zo4 sr rv ru h];exact aa (ab (ab (q _ _ (KeepsAll.refl s) VR.bool)))
theorem ux{op:Cop}{o:CmpOp}{v u:Value}{x y:V}{k:Nat}(ro:Room A k)(ho:x8 op o=true)(sr:SR G F β ρ O s.heap)(rv:VR G F.B β s.heap v x)(ru:VR G F.B β s.heap u y) :
 Does G F A s β (compareOp o v u) ((cmpV op x y O).lift ρ) (VRel G F):=by
 have dflt:=zte ro ho sr rv ru
 cases op with
 | is=>cases o <;> first | exact (ao ho).elim | exact zql rfl sr rv ru
 | isnot=>cases o <;> first | exact (ao ho).elim | exact zql rfl sr rv ru
 | _=>exact dflt
theorem wv{v:Value}{d:V}{b:Bool}(r:VR G F.B β s.heap v d)(e:truth d=some b):v=.bool b:=by
 cases d with
 | d x=>cases x with
   | bool c=>injection e with fu;subst fu;exact r.bool_inv
   | _=>contradiction
 | _=>contradiction
noncomputable abbrev BRel:List Addr->Heap->Bool->Bool->Prop:=fun uA uA a b=>a=b
theorem jj{v:Value}{d:V}(sr:SR G F β ρ O s.heap)(r:VR G F.B β s.heap v d):Does G F A s β (truthy v) ((opt (truth d) O).lift ρ) BRel:=by
 cases h:truth d with
 | none=>trivial
 | some b=>
   have:=wv r h;subst this;exact Does.leaf sr fun Q E q=>bS (q _ _ (KeepsAll.refl s) rfl)
theorem d_ok{T:WT Value}{v:Value}{d:V}(sr:SR G F β ρ O s.heap)(r:VR G F.B β s.heap v d)(h:∀ Q E,Q v s->T Q E s):DoesW G F s β T ((R.ok d O).lift ρ) (VRel G F):=
 Does.leaf sr fun Q E q=>h Q E (q _ _ (KeepsAll.refl s) r)
theorem zvj{x:Expr}{p:Pos}{r:R za V}(h1:Does G F A s β (eval x F.env) (r.lift ρ) (VRel G F)) :
 Does G F A s β (eval (.UnaryOp .USub x p) F.env) ((r.bind fun v O=>(match v with
  | .d (.int i)=>R.ok (V.d (.int (-i))) O
  | _=>.stuck)).lift ρ) (VRel G F):=by
 refine DoesW.seqE (T2A:=fun v=>tr G A (unaryOp .USub v)) (fun Q E h=>wpAny_UnaryOp h) h1 fun s' β' v d O' e st sr rv=>?_
 cases d with
 | d x=>cases x with
   | int i=>obtain⟨t,rfl⟩:=rv.int_inv;exact Does.leaf sr fun Q E q=>PySem.P.neg_int (q _ _ (KeepsAll.toks _ _) VR.int)
   | _=>trivial
 | _=>trivial
theorem d_nt{x:Expr}{p:Pos}{r:R za V}(h1:Does G F A s β (eval x F.env) (r.lift ρ) (VRel G F)) :
 Does G F A s β (eval (.UnaryOp .Not x p) F.env) ((r.bind fun v O=>opt ((truth v).map fun b=>V.d (.bool !b)) O).lift ρ) (VRel G F):=by
 refine DoesW.seqE (T2A:=fun v=>tr G A (unaryOp .Not v)) (fun Q E h=>wpAny_UnaryOp h) h1 fun s' β' v d O' e st sr rv=>?_
 cases h:truth d with
 | none=>trivial
 | some b=>
   have:=wv rv h;subst this;exact Does.leaf sr fun Q E q=>not_value (bS (q _ _ (KeepsAll.refl _) VR.bool))
end
theorem zr{h:Heap}{P:Addr->Prop}{vs:List Value}{xs:List PyData}{as:List Addr}(r:ReadsAll h vs xs as):(∀ a∈as,P a)->∀ {i:Nat} {x:PyData},xs[i]?=some x->∃ v bs,vs[i]?=some v/\Reads h v x bs/\∀ a∈bs,P a:=by
 refine yb (motive:=fun vs xs as=>(∀ a∈as,P a)->∀ {i:Nat} {x:PyData},xs[i]?=some x->∃ v bs,vs[i]?=some v/\Reads h v x bs/\∀ a∈bs,P a) ?_ ?_ r
 ·intro _ i x e;rw[List.getElem?_nil] at e;contradiction
 ·intro v d as vs ds bs r _ ih q i x e
  cases i with
  | zero=>have e:some d=some x:=e
          injection e with fu;subst fu;exact fK v as rfl r (fun a ha=>q a (aC _ ha))
  | succ i=>exact ih (fun a ha=>q a (aq _ ha)) (i:=i) e
theorem v4{h:Heap}{P:Addr->Prop}{vs:List Value}{xs:List PyData}{as:List Addr}(r:ReadsAll h vs xs as):(∀ a∈as,P a)->∀ (k:Nat),∃ bs,ReadsAll h (vs.drop k) (xs.drop k) bs/\∀ a∈bs,P a:=by
 refine yb (motive:=fun vs xs as=>(∀ a∈as,P a)->∀ (k:Nat),∃ bs,ReadsAll h (vs.drop k) (xs.drop k) bs/\∀ a∈bs,P a) ?_ ?_ r
 ·intro _ k;exact fD [] (by rw[List.drop_nil,List.drop_nil];exact .nil) (fun uA h=>nomatch h)
 ·intro v d as vs ds bs r rs ih q k
  cases k with
  | zero=>exact fD _ (.cons r rs) q
  | succ k=>exact ih (fun a ha=>q a (aq _ ha)) k
theorem vz{h:Heap}{P:Addr->Prop}{vs:List Value}{xs:List PyData}{as:List Addr}(r:ReadsAll h vs xs as):(∀ a∈as,P a)->∀ (k:Nat),∃ bs,ReadsAll h (vs.take k) (xs.take k) bs/\∀ a∈bs,P a:=by
 refine yb (motive:=fun vs xs as=>(∀ a∈as,P a)->∀ (k:Nat),∃ bs,ReadsAll h (vs.take k) (xs.take k) bs/\∀ a∈bs,P a) ?_ ?_ r
 ·intro _ k;exact fD [] (by rw[List.take_nil,List.take_nil];exact .nil) (fun uA h=>nomatch h)
 ·intro v d as vs ds bs r rs ih q k
  cases k with
  | zero=>exact fD [] .nil (fun uA h=>nomatch h)
  | succ k=>
    refine fC (ih (fun a ha=>q a (aq _ ha)) k) fun b r' q'=>?_;exact fD (as++b) (.cons r r') (fun a ha=>(aj.mp ha).elim (fun h=>q a (aC _ h)) (q' a))
section
variable{G:Gl}{F:Fm}{A:Around}{s:Shared}{β:List Addr}{ρ:Loc}{O:za}
set_option tactic.hygienic true in
theorem zih{xs:List PyData}{k:Int}{z:PyData}{x:PyData}(hx:items x=some xs)(e:idxD x (.int k)=some z):xs.length<=line/\((0<=k/\xs[k.toNat]?=some z)\/(k < 0/\0<=k+xs.length/\xs[(k+xs.length).toNat]?=some z)):=by
 unfold idxD at e;rw[hx] at e;dsimp only at e;split at e
 ·rename_i h1;refine⟨h1,?_⟩;split at e
  ·rename_i h2;exact .inl ⟨h2,e⟩
  ·rename_i h2;split at e
   ·rename_i h3;exact .inr ⟨by lia,h3,e⟩
   ·contradiction
 ·contradiction
theorem ve{α:Type}{xs:List α}{i:Nat}{z:α}(e:xs[i]?=some z):i < xs.length:=by
 refine fx (bn i xs.length) ?_ ?_
 ·intro h;exact h
 ·intro h;rw[a7 h] at e;contradiction
theorem zjq{value slice:Expr}{a:Addr}{xs:List PyData}{k:Int}{t:Tok}{z:PyData}{Q:Value->Shared->Prop}{E:Value->Shared->Prop}(l:ListAt s.heap F.B β a xs)(e:idxD (.list xs) (.int k)=some z)
 (hs:subscripted slice false (.ref a) (.int k t)=operate [.ref a,.int k t] (getItem (.ref a) (.int k t)))
 (q:∀ v,VR G F.B β s.heap v (.d z)->Q v s):wpAny G.m A (subscriptTail value slice (.ref a) (.int k t)) Q E s:=by
 obtain⟨o,vs,n,e1,e2,e3,as,r,q1⟩:=l;have hl:=zd r;have hsz:vs.size=xs.length:=by rw[<- hl,av]
 obtain⟨h0,h | h⟩:=zih (xs:=xs) rfl e
 ·refine fL (zr r q1 h.2) fun v bs g1 g2 g3=>?_;have:=ve h.2;refine tail_any (T:="list") ⟨o,e1,e2⟩ slot_list_getitem.lookup (wpAny_getItem_list ⟨o,e1,e2,n,e3⟩ h.1 (by simp only [line] at h0;lia) (by simpa using g1) (q v ⟨bs,g2,g3⟩)) hs
 ·refine fL (zr r q1 h.2.2) fun v bs g1 g2 g3=>?_;refine tail_any (T:="list") ⟨o,e1,e2⟩ slot_list_getitem.lookup (wpAny_getItem_list_neg ⟨o,e1,e2,n,e3⟩ h.1 (by rw [hsz];lia) (by simp only [line] at h0;lia) (by rw [hsz];simpa using g1) (q v ⟨bs,g2,g3⟩)) hs
theorem zf7{value slice:Expr}{v:Value}{xs:List PyData}{k:Int}{t:Tok}{z:PyData}{Q:Value->Shared->Prop}{E:Value->Shared->Prop}(rv:VR G F.B β s.heap v (.d (.tuple xs)))(e:idxD (.tuple xs) (.int k)=some z)
 (hs:subscripted slice false v (.int k t)=operate [v,.int k t] (getItem v (.int k t)))
 (q:∀ v,VR G F.B β s.heap v (.d z)->Q v s):wpAny G.m A (subscriptTail value slice v (.int k t)) Q E s:=by
 obtain⟨a,o,vs,n,rfl,e1,e2,e3,as,r,q1⟩:=rv.tuple_inv;have hl:=zd r;have hsz:vs.size=xs.length:=by rw[<- hl,av]
 have ht:IsTup s.heap a vs:=⟨o,e1,e2,n,e3⟩;obtain⟨h0,h | h⟩:=zih (xs:=xs) rfl e
 ·refine fL (zr r q1 h.2) fun v bs g1 g2 g3=>?_;have:=ve h.2;exact tail_any (T:="tuple") ht.typeIs slot_tuple_getitem.lookup (getItem_tuple ht (by lia) (by simp only [line] at h0;lia) (j:=k.toNat) (by unfold seqIndex?;rw [hsz];simp;lia) (by simpa using g1) (q v ⟨bs,g2,g3⟩)) hs
 ·refine fL (zr r q1 h.2.2) fun v bs g1 g2 g3=>?_;have:=ve h.2.2;exact tail_any (T:="tuple") ht.typeIs slot_tuple_getitem.lookup (getItem_tuple ht (by simp only [line] at h0;lia) (by lia) (j:=(k+xs.length).toNat) (by unfold seqIndex?;rw [hsz];simp;lia) (by simpa using g1) (q v ⟨bs,g2,g3⟩)) hs
end
section
variable{prog:Program}{w:World}{A:Around}{E:Value->Shared->Prop}{s:Shared}
theorem wf{v:Value}{k:Option Int}{Q:Option Int->Shared->Prop}(p:IsPart v k)(h:Q k s):wpAny (model prog w) A (Builtin.Slice.slicePartIndex v) Q E s:=by
 cases p with
 | none=>exact slicePart_none h
 | int i t=>exact slicePart_int h
theorem ziu(n:Nat)(v:Int):(if v < 0 then max (v+n) 0 else min v n)=((clipAt n v:Nat):Int):=by
 rw[clipAt_cast];split <;> lia
theorem zho(lo hi:Option Int)(n:Nat):Builtin.Slice.sliceAdjust lo hi 1 (n:Int)=(((lo.elim 0 (clipAt n):Nat):Int),((hi.elim n (clipAt n):Nat):Int)):=by
 refine Prod.ext ?_ ?_
 ·cases lo with
  | none=>rfl
  | some v=>exact ziu n v
 ·cases hi with
  | none=>rfl
  | some v=>exact ziu n v
theorem zgs(a b:Nat):Builtin.Slice.slicePlaces (a:Int) (b:Int) 1=b - a:=by
 unfold Builtin.Slice.slicePlaces;have h1:(1:Int) > 0:=by lia
 simp only[h1,if_true,Int.ediv_one];split <;> lia
theorem zll(xs:Array Value)(a k:Nat):((List.range k).filterMap fun (j:Nat)=>xs[((a:Int)+(j:Int) * 1).toNat]?).toArray=((xs.toList.drop a).take k).toArray:=by
 have e:(fun (k:Nat)=>xs[((a:Int)+(k:Int) * 1).toNat]?)=fun k=>xs[a+k]?:=by
  funext k;have:((a:Int)+(k:Int) * 1).toNat=a+k:=by rw[Int.mul_one];rfl
  rw[this]
 rw[e];have:=pick_run xs a k;rw[List.filterMap_map] at this;have e2:((fun x=>xs[x]?)∘fun x=>a+x)=fun k=>xs[a+k]?:=rfl;rw[e2] at this;rw[this]
theorem xp{α β:Type}{f g:α->Option β}:∀ {l:List α},(∀ x∈l,f x=g x)->l.filterMap f=l.filterMap g
 | [],_=>rfl
 | x::r,h=>by
   rw[eI,eI,h x (.head _),xp fun y hy=>h y (.tail _ hy)]
theorem zbm{sl:Addr}{vl vu vs:Value}{lo hi st:Option Int}{n:Int}{x:Int×Int×Nat}{Q:Int×Int×Nat->Shared->Prop}(hs:s.heap.IsSliceOf sl vl vu vs)(pl:IsPart vl lo)(pu:IsPart vu hi)(ps:IsPart vs st)(h0:¬ ((st.getD 1 == 0)=true))
 (hx:((Builtin.Slice.sliceAdjust lo hi (st.getD 1) n).1,st.getD 1,Builtin.Slice.slicePlaces (Builtin.Slice.sliceAdjust lo hi (st.getD 1) n).1 (Builtin.Slice.sliceAdjust lo hi (st.getD 1) n).2 (st.getD 1))=x) (hq:Q x s) :
 wpAny (model prog w) A (Builtin.Slice.sliceApplied (.ref sl) (pure n)) Q E s:=by
 subst hx;refine fN hs fun os hos hcs hds=>?_;unfold Builtin.Slice.sliceApplied Builtin.Slice.sliceFields;refine aa (aa (bD hos hds (x:=vl) rfl (aa (bD hos hds (x:=vu) rfl (aa (bD hos hds (x:=vs) rfl (ab ?_)))))));refine aa (wf ps (aO (aF h0) ?_));exact aa (wf pl (aa (wf pu (aa (ab (ab hq))))))
theorem zkn(items:Array Value):((List.range items.size).filterMap fun (j:Nat)=>items[((items.size:Int) - 1+(j:Int) * (-1)).toNat]?).toArray=items.toList.reverse.toArray:=by
 have e:∀ j∈List.range items.size,items[((items.size:Int) - 1+(j:Int) * (-1)).toNat]?=items[items.size - 1 - j]?:=fun j hj=>by
  have:=aZ.mp hj;congr 1;lia
 rw[xp e];have e2:=bR List.reverse (PySem.W.krv_all items);rw[<- List.filterMap_reverse,<- PySem.W.krv_range,List.filterMap_map] at e2;rw[<- e2];rfl
theorem vw{t sl:Addr}{items:Array Value}{vl vu vs:Value}{lo hi st:Option Int}{ys:List Value}{Q:Value->Shared->Prop}(ht:IsTup s.heap t items)(hs:s.heap.IsSliceOf sl vl vu vs)
 (pl:IsPart vl lo) (pu:IsPart vu hi) (ps:IsPart vs st)
 (hy:(st=none/\ys=(items.toList.drop (lo.elim 0 (clipAt items.size))).take (hi.elim items.size (clipAt items.size) - lo.elim 0 (clipAt items.size)))\/(st=some (-1)/\lo=none/\hi=none/\ys=items.toList.reverse))
 (h1:ys=items.toList->Q (.ref t) s)
 (h:Q (.ref s.heap.objs.size) { s with heap:=s.heap.push { cls:=.type "tuple",data:=.seq ys.toArray } })
 (hsz:items.size<=sizeLine):wpAny (model prog w) A (getItem (.ref t) (.ref sl)) Q E s:=by
 have h0:¬ ((st.getD 1 == 0)=true):=by (refine fx hy ?_ ?_<;>clear hy;rotate_left;rintro ⟨rfl,_⟩;rotate_right;rintro ⟨rfl,_⟩) <;> decide
 have facts:∃ (a c:Int) (p:Nat),((Builtin.Slice.sliceAdjust lo hi (st.getD 1) (items.size:Int)).1,st.getD 1,Builtin.Slice.slicePlaces (Builtin.Slice.sliceAdjust lo hi (st.getD 1) (items.size:Int)).1 (Builtin.Slice.sliceAdjust lo hi (st.getD 1) (items.size:Int)).2 (st.getD 1))=(a,c,p) /\
  ((a == 0 && c == 1 && p == items.size)=true->ys=items.toList)/\((List.range p).filterMap fun (j:Nat)=>items[(a+(j:Int) * c).toNat]?).toArray=ys.toArray/\ys.length<=items.size:=by
  refine fx hy ?_ ?_<;>clear hy
  ·rintro ⟨rfl,rfl⟩;generalize hl:lo.elim 0 (clipAt items.size)=l;generalize hh:hi.elim items.size (clipAt items.size)=k;refine fF l 1 (k - l) ?_ (fun hw=>?_) (zll items l (k - l)) ?_
   ·show ((Builtin.Slice.sliceAdjust lo hi 1 (items.size:Int)).1,(1:Int),Builtin.Slice.slicePlaces (Builtin.Slice.sliceAdjust lo hi 1 (items.size:Int)).1 (Builtin.Slice.sliceAdjust lo hi 1 (items.size:Int)).2 1)=_;rw[zho,hl,hh,zgs]
   ·simp only[aM,aQ] at hw;have e0:=Int.ofNat_eq_zero.mp hw.1.1;subst e0;rw[hw.2,List.drop_zero,cE (bX av)]
   ·exact ai (List.length_take_le' _ _) (ai (bX List.length_drop) (ai (Nat.sub_le _ _) (bX av)))
  ·rintro ⟨rfl,rfl,rfl,rfl⟩;refine fF ((items.size:Int) - 1) (-1) items.size ?_ (fun hw=>?_) (zkn items) (bX (by rw[List.length_reverse,av]))
   ·show ((items.size:Int) - 1,(-1:Int),Builtin.Slice.slicePlaces ((items.size:Int) - 1) (-1) (-1))=_;have ep:Builtin.Slice.slicePlaces ((items.size:Int) - 1) (-1) (-1)=items.size:=by
     unfold Builtin.Slice.slicePlaces;rw[ak (by decide)];split
     ·simp
     ·lia
    rw[ep]
   ·rw[show ((-1:Int) == 1)=false from rfl,cb,Bool.false_and] at hw;contradiction
 refine fE facts fun a c p e1 e2 e3 e4=>?_;clear hy;have hok:sizeOk (.seq ys.toArray):=ai (bX dX) (ai e4 hsz);have hT:=ht.typeIs;have hTs:s.TypeIs (.ref sl) "slice":=let ⟨os,hos,hcs,_⟩:=hs;⟨os,hos,hcs⟩;unfold getItem;try with_reducible refine aS ?_
 first | refine aa (ab ?_) | skip
 refine aa (wpAny_sequenceKey hT (by decide) ?_);refine aa (bq (name:=Str.ofString "__getitem__") hT slot_tuple_getitem
  (a0 slot_tuple_getitem hT entry_tuple_getitem ?_ (args_tuple_getitem _ _)))
 show wpAny _ _ (Builtin.Tuple.tupleItemsOf (.ref t) >>= _) _ _ s;refine aa (tupleItemsOf_ ht (aa (wpAny_typeOf hTs (bH rfl (aa (zbm hs pl pu ps h0 e1 ?_))))));refine dJ (fun hw=>?_) fun uA=>?_
 ·refine aa (m:=Builtin.Tuple.tupleIsExact (.ref t)) (aa (wpAny_typeOf hT (ab (bH rfl (aa (cT ?_))))));exact ab ⟨_,rfl,ab (h1 (e2 hw))⟩
 ·dsimp only;rw[e3];exact aa (m:=Builtin.Tuple.tupleExact _) (cr (ab ⟨_,rfl,ab h⟩) hok)
end
theorem xi{e:Expr}(h:∀ l u t p,e≠.Slice l u t p)(o i:Value):subscripted e false o i=operate [o,i] (getItem o i):=by
 cases e <;> first | rfl | exact absurd rfl (h _ _ _ _)
section
variable{G:Gl}{F:Fm}{A:Around}{s:Shared}{β:List Addr}{ρ:Loc}{O:za}
theorem zo7{a k z:PyData}(h:idxD a k=some z):(∃ i,k=.int i)/\((∃ xs,a=.list xs)\/∃ xs,a=.tuple xs):=by
 cases a <;> first | (cases h;done) | skip
 ·cases k <;> first | (cases h;done) | exact⟨⟨_,rfl⟩,.inl ⟨_,rfl⟩⟩
 ·cases k <;> first | (cases h;done) | exact⟨⟨_,rfl⟩,.inr ⟨_,rfl⟩⟩
set_option tactic.hygienic true in
theorem zs8{value slice:Expr}{v u:Value}{x y:V}{k:Nat}(ro:Room A k)(hs:∀ l u t p,slice≠.Slice l u t p)(sr:SR G F β ρ O s.heap)(rv:VR G F.B β s.heap v x)(ru:VR G F.B β s.heap u y) :
 Does G F A s β (subscriptTail value slice v u) ((idxV x y O).lift ρ) (VRel G F):=by
 cases y <;> first | trivial | skip
 rename_i k';unfold idxV
 cases h1:look O x with
 | none=>trivial
 | some a=>
   show DoesW G F s β _ ((opt ((idxD a k').map V.d) O).lift ρ) _
   cases h3:idxD a k' with
   | none=>trivial
   | some z=>
     refine fH (zo7 h3) fun eM hx=>?_;refine fG eM ?_;clear eM;intro i eN;subst eN;obtain⟨t,rfl⟩:=ru.int_inv;refine fx hx ?_ ?_<;>clear hx
     ·rintro ⟨xs,rfl⟩;refine fC (look_list sr rv h1) fun b eN l=>?_;subst eN;exact Does.leaf sr fun Q E q=>zjq l h3 (xi hs _ _) fun v rv=>q _ _ (KeepsAll.refl s) rv
     ·rintro ⟨xs,rfl⟩;rw[yt h1 fun uA e=>nomatch e] at rv;exact Does.leaf sr fun Q E q=>zf7 rv h3 (xi hs _ _) fun v rv=>q _ _ (KeepsAll.refl s) rv
theorem zvo{x y:Expr}{p:Pos}{ra:R za V}{rb:za->R za V}{k:Nat}(ro:Room A k)(hs:∀ l u t p,y≠.Slice l u t p)
 (h1:Does G F A s β (eval x F.env) (ra.lift ρ) (VRel G F)) (h2:∀ s' β' O',SR G F β' ρ O' s'.heap->Does G F A s' β' (eval y F.env) ((rb O').lift ρ) (VRel G F)) :
 Does G F A s β (eval (.Subscript x y p) F.env) ((ra.bind fun v O=>(rb O).bind fun u O=>idxV v u O).lift ρ) (VRel G F):=by
 refine DoesW.seqE (T2A:=fun a Q E s1A=>wpAny G.m A (eval y F.env) (fun b s2A=>wpAny G.m A (subscriptTail x y a b) Q E s2A) E s1A) (fun Q E h=>Subscript_ h) h1 fun s' β' v d O' e st sr rv=>?_;refine DoesW.seqE (T1A:=tr G A (eval y F.env)) (T2A:=fun b=>tr G A (subscriptTail x y v b)) (fun Q E h=>h) (h2 s' β' O' sr) fun s2A β2 u d2A O2 e2A st2 sr2 ru=>?_;exact zs8 ro hs sr2 (rv.step sr.br sr.fm st2) ru
theorem part_of{N:List Addr}{h:Heap}{v:Value}{l:PyData}{n dflt c:Nat}(r:VR G N β h v (.d l))(e:clip n dflt l=some c):∃ k,IsPart v k/\c=k.elim dflt (clipAt n):=by
 cases l with
 | none=>have:=r.none_inv;subst this;injection e with fu;subst fu;exact fD none .none rfl
 | int i=>obtain⟨t,rfl⟩:=r.int_inv;injection e with fu;subst fu;exact fD (some i) (.int i t) rfl
 | _=>contradiction
theorem zi9{value:Expr}{lo hi st:Option Expr}{ps:Pos}{vl vu vk:Value}{D:Addr}{o:Obj}{vs:Array Value}{n:Nat}{klo khi kst:Option Int}{ys:List PyData}{bs:List Addr}{ops:List Value}(sr:SR G F β ρ O s.heap)
 (e1:s.heap.get? D=some o) (e2:o.cls=.type "list") (e3:o.data=.seq vs n) (hops:subscripted (.Slice lo hi st ps) false (.ref D) (.ref s.heap.objs.size)=operate ops (getItem (.ref D) (.ref s.heap.objs.size)))
 (hl:vs.size<=sizeLine) (pl:IsPart vl klo) (pu:IsPart vu khi) (pk:IsPart vk kst) (h0:kst≠some 0) (r2:ReadsAll s.heap (slicePick vs klo khi kst).toList ys bs) (q2:∀ a∈bs,a∉β/\a∉F.B) :
 DoesW G F s β (fun Q E s=>wpAny G.m A (subscriptTail value (.Slice lo hi st ps) (.ref D) (.ref s.heap.objs.size)) Q E { s with heap:=s.heap.push { cls:=.type "slice",data:=.fields #[vl,vu,vk] } }) (.ok (V.d (.list ys)) (ρ,O)) (VRel G F):=by
 refine Does.leaf sr fun Q E q=>?_;refine tail_any (T:="list") ⟨o,ac _ e1,e2⟩ slot_list_getitem.lookup ?_ hops;refine wpAny_getItem_list_slice (lo:=klo) (hi:=khi) (st:=kst) ⟨o,ac _ e1,e2,n,e3⟩ (Heap.IsSliceOf.new ..) pl pu pk h0 ?_ hl;generalize ho1:({ cls:=.type "slice",data:=.fields #[vl,vu,vk] }:Obj)=o1;have kp2:KeepsAll s { s with heap:=(s.heap.push o1).push { cls:=.type "list",data:=.seq (slicePick vs klo khi kst) } }:=⟨rfl,rfl,fun b o e=>ac _ (ac _ e)⟩;have nD:s.heap.get? (s.heap.push o1).objs.size=none:=by
  cases e:s.heap.get? (s.heap.push o1).objs.size with
  | none=>rfl
  | some o=>exact absurd (aY e) (by rw[bv];exact eA.mpr (cW _))
 refine q _ _ kp2 (y6 (aw _ rfl) rfl rfl (zt kp2.kept r2) q2 ⟨fun hb=>?_,fun hb=>?_⟩)
 ·refine fC (sr.br.alive _ hb) fun o e fy=>?_;rw[e] at nD;contradiction
 ·refine fC (sr.fm.stor _ hb) fun o e fy=>?_;rw[e] at nD;contradiction
theorem wj{f:List PyData->Option PyData}{x y:PyData}(h:ofList f x=some y):∃ xs,x=.list xs/\f xs=some y:=by
 cases x <;> first | (cases h;done) | exact fD _ rfl h
inductive zp4(xs:List PyData)(l h y:PyData):Prop
 | mk (a b:Nat) (hl:xs.length<=line) (h1:clip xs.length 0 l=some a) (h2:clip xs.length xs.length h=some b) (e:y=.list (qc xs a b))
theorem zeg{xs:List PyData}{l h y:PyData}(e:jq xs l h=some y):zp4 xs l h y:=by
 unfold jq at e;by_cases hl:xs.length<=line
 ·rw[af hl] at e;refine fC (aW.mp e) fun a h1 e=>?_;refine fC (aD.mp e) fun b h2 e=>?_;exact⟨a,b,hl,h1,h2,e.symm⟩
 ·rw[ak hl] at e;contradiction
theorem zne{value:Expr}{lo hi:Option Expr}{ps:Pos}{v vl vu:Value}{x:V}{l h:PyData}(sr:SR G F β ρ O s.heap)(rv:VR G F.B β s.heap v x)(rl:VR G F.B β s.heap vl (.d l))(rh:VR G F.B β s.heap vu (.d h)) :
 DoesW G F s β (fun Q E s=>wpAny G.m A (subscriptTail value (.Slice lo hi none ps) v (.ref s.heap.objs.size)) Q E { s with heap:=s.heap.push { cls:=.type "slice",data:=.fields #[vl,vu,.none] } })
  ((opt (((look O x).bind fun x=>zgg x l h).map V.d) O).lift ρ) (VRel G F):=by
 cases h3:(look O x).bind fun x=>zgg x l h with
 | none=>trivial
 | some c=>
   refine fC (aW.mp h3) fun a h1 h3=>?_;refine fC (wj (f:=fun xs=>jq xs l h) h3) fun xs eN h4=>?_;subst eN;obtain⟨a,b,hl,hc1,hc2,rfl⟩:=zeg h4;refine fC (look_list sr rv h1) fun D eN eO=>?_;subst eN;obtain ⟨o,vs,n,e1,e2,e3,as,r1,q1⟩:=eO;have hsz:vs.size=xs.length:=by rw[<- zd r1,av]
   refine fC (part_of rl hc1) fun klo pl eO=>?_;subst eO;refine fC (part_of rh hc2) fun khi pu eO=>?_;subst eO;refine fC (v4 r1 q1 (klo.elim 0 (clipAt xs.length))) fun b1 s1 t1=>?_;refine fC (vz s1 t1 (khi.elim xs.length (clipAt xs.length) - klo.elim 0 (clipAt xs.length))) fun b2 s2 t2=>?_;exact zi9 sr e1 e2 e3 rfl (by rw[hsz];exact ai hl (by decide)) pl pu .none (by decide) (by rw[slicePick_plain,hsz];exact s2) t2
end
theorem zgx{names:List Str}:∀ {vals:List Value},vals.length=names.length->∀ n∈names,((names.zip vals).lookup n).isSome=true:=by
 induction names with
 | nil=>intro _ _ n hn;cases hn
 | cons x names ih=>
   intro vals hl n hn
   cases vals with
   | nil=>simp at hl
   | cons v vals=>
     rw[List.zip_cons_cons,bL]
     cases h:n == x with
     | true=>rfl
     | false=>
       refine fx (ag.mp hn) ?_ ?_
       ·rintro rfl;rw[cA] at h;contradiction
       ·intro hn;exact ih (by simpa using hl) n hn
theorem zbq{names:List Str}:∀ {vals:List Value},vals.length=names.length->names.Nodup->names.filterMap (fun n=>((names.zip vals).lookup n).map fun v=>(n,v))=names.zip vals:=by
 induction names with
 | nil=>intro _ _ _;rfl
 | cons x names ih=>
   intro vals hl hn
   cases vals with
   | nil=>simp at hl
   | cons v vals=>
     refine fH (bw.mp hn) fun h1 h2=>?_;rw[List.zip_cons_cons,eI];have e:((x,v)::names.zip vals).lookup x=some v:=by rw[bL,cA]
     have tl:names.filterMap (fun n=>(((x,v)::names.zip vals).lookup n).map fun v=>(n,v))=names.zip vals:=by
      have e':=ih (vals:=vals) (by simpa using hl) h2;refine Eq.trans (xp fun n hn'=>?_) e';have:(n == x)=false:=by rw[beq_eq_false_iff_ne];rintro rfl;exact h1 hn'
      rw[bL,this]
     rw[e,tl];rfl
theorem znp{fd:FuncData}{as:List Arg}{kd:List (Option Expr)}{ds:List Expr}{vals:List Value}(hp:fd.params=⟨[],as,none,[],kd,none,ds⟩)(hd:fd.defaults=.none) :
 ∃ (T1 T2:Sem (List (Str×Value))) (f:Str×Value->List (Str×Value)->Sem (ForInStep (List (Str×Value)))) (K:List (Str×Value)->Sem (List (Str×Value))),
  bindArgs fd ⟨vals,[]⟩=(if (decide (vals.length > (as.map Arg.arg).length) && true)=true then T1 else
   if (!(((as.map Arg.arg).take ((as.map Arg.arg).length - (([]:List Value).drop (0 - (as.map Arg.arg).length)).length)).filter fun n=>(((as.map Arg.arg).zip vals).lookup n).isNone).isEmpty)=true then T2 else
    (forIn (((as.map Arg.arg).drop ((as.map Arg.arg).length - (([]:List Value).drop (0 - (as.map Arg.arg).length)).length)).zip (([]:List Value).drop (0 - (as.map Arg.arg).length))) ((as.map Arg.arg).zip vals) f >>= K)) /\
  K ((as.map Arg.arg).zip vals)=pure (((as.map Arg.arg)++[]).filterMap fun n=>(((as.map Arg.arg).zip vals).lookup n).map fun v=>(n,v)):=by
 unfold bindArgs;rw[hp,hd];exact⟨_,_,_,_,rfl,rfl⟩
theorem qz{fd:FuncData}{names:List Str}{vals:List Value}(h1:fd.params.posonlyargs=[])(h2:fd.params.vararg=none)(h3:fd.params.kwonlyargs=[])(h4:fd.params.kwarg=none)
 (ha:fd.params.args.map (·.arg)=names) (hl:vals.length=names.length) (hn:names.Nodup) (hd:fd.defaults=.none):bindArgs fd ⟨vals,[]⟩=pure (names.zip vals):=by
 have hm:∀ k,((names.take k).filter fun n=>((names.zip vals).lookup n).isNone)=[]:=fun k=>by
  rw[List.filter_eq_nil_iff];intro n hn h;rw[Option.isNone_iff_eq_none] at h;have:=zgx hl n (cU hn);rw[h] at this;contradiction
 cases hp:fd.params with
 | mk p1 p2 p3 p4 p5 p6 p7=>
   rw[hp] at h1 h2 h3 h4 ha;subst h1;subst h2;subst h3;subst h4;subst ha;refine fM (znp (vals:=vals) hp hd) fun T1 T2 f K e k=>?_;rw[e,ak (by rw[hl];simp),hm,ak (by decide),List.drop_nil,List.zip_nil_right,bN,pure_bind,k,bc,zbq hl hn]
section
variable{G:Gl}{F:Fm}{A:Around}{s:Shared}{β:List Addr}{ρ:Loc}{O:za}{cx:Cx}{gval:Nat->Option PyData}{gname:Nat->Option Str}
theorem zfk(sr:SR G F β ρ O s.heap):Does G F A s β (evalPart none F.env) ((R.ok (V.d .none) O).lift ρ) (VRel G F):=
 Does.leaf sr fun Q E q=>ab (q _ _ (KeepsAll.refl s) VR.none)
theorem zpt{x:Expr}{lo hi:Option Expr}{ps p:Pos}{ra:R za V}{rl rh:za->R za V}
 (h1:Does G F A s β (eval x F.env) (ra.lift ρ) (VRel G F)) (h2:∀ s' β' O',SR G F β' ρ O' s'.heap->Does G F A s' β' (evalPart lo F.env) ((rl O').lift ρ) (VRel G F))
 (h3:∀ s' β' O',SR G F β' ρ O' s'.heap->Does G F A s' β' (evalPart hi F.env) ((rh O').lift ρ) (VRel G F)) :
 Does G F A s β (eval (.Subscript x (.Slice lo hi none ps) p) F.env) ((ra.bind fun v O=>(rl O).bind fun l O=>(rh O).bind fun h O=>zgf v l h O).lift ρ) (VRel G F):=by
 refine DoesW.seqE (T2A:=fun a Q E s1A=>wpAny G.m A (evalPart lo F.env) (fun l s2A=>wpAny G.m A (evalPart hi F.env) (fun u s3A=>
  wpAny G.m A (subscriptTail x (.Slice lo hi none ps) a (.ref s3A.heap.objs.size)) Q E { s3A with heap:=s3A.heap.push { cls:=.type "slice",data:=.fields #[l,u,.none] } }) E s2A) E s1A)
  (fun Q E h=>Subscript_ (aK h (fun a s1A h=>wpAny_Slice (aK h (fun l s2A h=>aK h (fun u s3A h=>ab h) fun uA uA x=>x) fun uA uA x=>x)) fun uA uA x=>x)) h1 fun s' β' v d O' e st' sr rv=>?_
 refine DoesW.seqE (T1A:=tr G A (evalPart lo F.env)) (T2A:=fun l Q E s2A=>wpAny G.m A (evalPart hi F.env) (fun u s3A=>
  wpAny G.m A (subscriptTail x (.Slice lo hi none ps) v (.ref s3A.heap.objs.size)) Q E { s3A with heap:=s3A.heap.push { cls:=.type "slice",data:=.fields #[l,u,.none] } }) E s2A) (fun Q E h=>h) (h2 s' β' O' sr) fun s2A β2 vl dl O2 e2A st2 sr2 rvl=>?_
 refine DoesW.seqE (T1A:=tr G A (evalPart hi F.env)) (T2A:=fun u Q E s3A=>
  wpAny G.m A (subscriptTail x (.Slice lo hi none ps) v (.ref s3A.heap.objs.size)) Q E { s3A with heap:=s3A.heap.push { cls:=.type "slice",data:=.fields #[vl,u,.none] } }) (fun Q E h=>h) (h3 s2A β2 O2 sr2) fun s3A β3 vh dh O3 e3A st3 sr3 rvh=>?_
 cases dl <;> first | trivial | skip
 cases dh <;> first | trivial | skip
 exact zne sr3 (rv.step sr.br sr.fm (st2.trans st3)) (rvl.step sr2.br sr2.fm st3) rvh
structure FnAt(G:Gl)(x:Str)(a:Addr)(o:Obj)(fd:FuncData):Prop where
 name:G.mg x=some (.ref a)
 get:G.h₀.get? a=some o
 data:o.data=.func fd
def FrA(A:Around)(F:Fm):Prop:=∃ l,A.frames=some l/\∀ env∈l,env.scope.kind≠.module/\∃ L,env.frame=some L/\L∈F.fr
def u0(G:Gl)(A:Around)(fname:Nat->Option Str)(call:Nat->List V->za->R za V):Prop:=
 ∀ (F:Fm) (s:Shared) (β:List Addr) (ρ:Loc) (O:za) (f:Nat) (x:Str) (vals:List Value) (vs:List V),SR G F β ρ O s.heap->FrA A F->fname f=some x->VRs G F.B β s.heap vals vs ->
  ∃ a o fd,FnAt G x a o fd/\Does G F A s β (PySem.call (.ref a) vals) ((call f vs O).lift ρ) (VRel G F)
theorem ztf{f:Nat}{x:Str}{e:Expr}{rest:List Expr}{p q:Pos}{r:R za (List V)}{call:Nat->List V->za->R za V}{fname:Nat->Option Str}(g:GOk G gval gname)(ck:u0 G A fname call)(fr:FrA A F)(sr:SR G F β ρ O s.heap)(fit:Fits F cx)
 (hf:fname f=some x) (hx:cx.isGlob x=true) (he:starEach (e::rest) F.env=(false,eval e F.env)::starEach rest F.env)
 (h1:Does G F A s β (spliced (backTo q (starEach (e::rest) F.env))) (r.lift ρ) (VRsl G F)) :
 Does G F A s β (eval (.Call (.Name x p) (e::rest) [] q) F.env) ((r.bind fun vs O=>call f vs O).lift ρ) (VRel G F):=by
 refine fO (ck F s β ρ O f x [] [] sr fr hf .nil) fun a o fd fa fy=>?_;refine DoesW.seqE (T2A:=fun vs Q E s1A=>s1A.heap.get? a=some o/\wpAny G.m A (PySem.call (.ref a) vs) Q E s1A) (fun Q E h=>dK rfl (zcp g sr fit hx fa.name (callWith_def fa.data h he))) h1 fun s' β' vals vs O' uA st sr' rvs=>?_;refine fO (ck F s' β' ρ O' f x vals vs sr' fr hf rvs) fun a' o' fd' fa' dd=>?_;have:a'=a:=by have h1:=fa.name;have h2:=fa'.name;rw[h1] at h2;injection h2 with fu;injection fu with fu;subst fu;rfl
 subst this;exact dd.weaken (fun Q E h=>⟨sr'.br.keep _ _ fa.get,h⟩) fun uA uA uA uA h=>h
end
section
variable{G:Gl}{F:Fm}{A:Around}{s:Shared}{β:List Addr}{ρ:Loc}{O:za}
theorem du{a:Addr}{s':Shared}{o':Obj}(sr:SR G F β ρ O s.heap)(ha:a∈F.W)(hg:s'.gens=s.gens)(ho:s'.os=s.os)(hs:Heap.SameBut a s.heap s'.heap)(hn:s'.heap.get? a=some o'):Step F.W β s s' β where
 gens:=hg
 os:=ho
 pre:=bz _
 fresh:=fun uA h=>.inl h
 alive:=fun b o e=>by
  by_cases hb:b=a
  ·subst hb;exact fz o' hn
  ·exact fz o ((hs.2 b hb).trans e)
 kept:=fun b o e uA hW=>⟨o,(hs.2 b (fun h=>hW (h ▸ ha))).trans e,Kin.refl o⟩
theorem BR.write{a:Addr}{s':Shared}(sr:SR G F β ρ O s.heap)(ha:a∈F.W)(hs:Heap.SameBut a s.heap s'.heap)(st:Step F.W β s s' β):BR G F.B β O s'.heap:=by
 have aB:a∈F.B:=sr.fm.sub _ ha;refine⟨fun c o e=>?_,sr.br.len,sr.br.nodup,sr.br.new,fun i b bx h1 h2=>?_,fun b hb=>(sr.br.plain b hb).at fun o e=>(hs.2 b fun h=>sr.fm.notBox _ aB (h ▸ hb)).trans e⟩
 ·refine (hs.2 c fun h=>?_).trans (sr.br.keep c o e);have:=sr.fm.newW ha;rw[<- h,e] at this;contradiction
 ·have hb:=sr.br.at_ i b bx h1 h2;have hne:b≠a:=fun h=>sr.fm.notBox _ aB (h ▸ ay h1)
  cases bx with
  | lst xs=>
    obtain⟨o,vs,n,e1,e2,e3,as,e4,e5⟩:=hb;exact⟨o,vs,n,(hs.2 b hne).trans e1,e2,e3,as,(z0 sr.br sr.fm st e4 e5).1,e5⟩
  | dct kvs=>
    obtain⟨o,es,n,e1,e2,e3,e4,e5⟩:=hb;refine⟨o,es,n,(hs.2 b hne).trans e1,e2,e3,e4,fun i e kv he hkv=>?_⟩;obtain⟨hq,as,bs,r1,r2,q⟩:=e5 i e kv he hkv;exact⟨hq,as,bs,(ya sr.br sr.fm st r1 fun a ha=>q a (aC _ ha)).1,(ya sr.br sr.fm st r2 fun a ha=>q a (aq _ ha)).1,q⟩
theorem zh2{ρ:Loc}{i j:Nat}{d u:V}(h:(ρ.set i (some d))[j]?=some (some u)):(j=i/\u=d)\/(j≠i/\ρ[j]?=some (some u)):=by
 rw[List.getElem?_set] at h;by_cases hij:i=j
 ·subst hij;rw[af rfl] at h;split at h
  ·injection h with fu;injection fu with fu;subst fu;exact .inl ⟨rfl,rfl⟩
  ·contradiction
 ·rw[ak hij] at h;exact .inr ⟨fun e=>hij e.symm,h⟩
theorem zit{i:Nat}{x:Str}{v:Value}{d:V}(sr:SR G F β ρ O s.heap)(hx:F.names[i]?=some (some x))(hk:F.env.kindOf x=some .local\/F.env.kindOf x=some .cell)(own:F.own x=true)(rv:VR G F.B β s.heap v d) :
 Does G F A s β (storeName F.env x v) (.ok () (ρ.set i (some d),O)) (fun uA uA uA uA=>True):=by
 intro Q E k;obtain⟨m,hm⟩:=sr.fm.ns;refine fx hk ?_ ?_
 ·intro hk;refine wpAny_storeName_local hk hm (fun h' hn hs=>?_) (by show (F.env.scope.kind == .class || _)=false;rw[sr.fm.kind];rfl);refine fP (id hn) fun o' es' ep' ho' hd' fy=>?_;have st:Step F.W β s { s with heap:=h',toks:=s.toks+1 } β:=du sr sr.fm.nsW rfl rfl hs ho';refine k _ β () st ⟨BR.write (s':={ s with heap:=h',toks:=s.toks+1 }) sr sr.fm.nsW hs st,⟨sr.fm.kind,sr.fm.globals,sr.fm.builtins,sr.fm.once,⟨_,hn⟩,sr.fm.nsW,fun y h1=>?_,sr.fm.apart,sr.fm.sub,sr.fm.new,sr.fm.notBox,fun a ha=>?_,sr.fm.frB,fun a ha=>?_,fun m e=>absurd own (by rw[(sr.fm.pin m e).2 x];exact ao)⟩,fun j y u h1 h2=>?_⟩ trivial
  ·refine fL (sr.fm.cell y h1) fun c w h3 eP h5=>?_;refine fC eP fun o h4 h4'=>?_;refine fK c w h3 ⟨o,(hs.2 c fun h=>?_).trans h4,h4'⟩ h5;refine fP hm fun o2 es ep q1 q2 fy=>?_;rw[h] at h4;rw[h4] at q1;injection q1 with fu;subst fu;rw[h4'] at q2;contradiction
  ·refine fC (sr.fm.stor a ha) fun o h1 h2=>?_;by_cases hb:a=F.env.locals
   ·subst hb;exact fD o' ho' (fun vs n hv=>by rw[hd'] at hv;contradiction)
   ·exact fD o ((hs.2 a hb).trans h1) h2
  ·refine fG (sr.fm.frs a ha) fun m' hm'=>?_;by_cases hb:a=F.env.locals
   ·subst hb;exact fz _ hn
   ·exact fz m' (hm'.sameBut hs hb)
  ·refine fx (zh2 h2) ?_ ?_
   ·rintro ⟨rfl,rfl⟩;rw[hx] at h1;injection h1 with fu;injection fu with fu;subst fu
    exact fD v (.inl ⟨hk,_,hn,by simp⟩) (rv.step sr.br sr.fm st)
   ·rintro ⟨hj,h2⟩;refine fC (sr.get j y u h1 h2) fun val g r=>?_;have hyx:y≠x:=fun e=>hj (sr.fm.once j i x (e ▸ h1) hx);refine fD val ?_ (r.step sr.br sr.fm st);refine fx g ?_ ?_
    ·rintro ⟨g1,m',g2,g3⟩;rw[zcd g2 hm] at g3;exact .inl ⟨g1,_,hn,by simp[hyx,g3]⟩
    ·rintro ⟨g1,c,g2,o,g3,g4⟩;refine .inr ⟨g1,c,g2,o,(hs.2 c fun h=>?_).trans g3,g4⟩;refine fP hm fun o2 es ep q1 q2 fy=>?_;rw[h] at g3;rw[g3] at q1;injection q1 with fu;subst fu;rw[g4] at q2;contradiction
 ·intro hk;refine fQ (sr.fm.cell x hk) fun c w hc hcell hcB hcW=>?_;have hcW:=hcW own;refine wpAny_storeName_cell sr.fm.kind hk hc hcell fun h' hcell' hs=>?_;refine fC (id hcell') fun o' ho' hd'=>?_;have st:Step F.W β s { s with heap:=h' } β:=du sr hcW rfl rfl hs ho';have hcL:F.env.locals≠c:=fun h=>by
   refine fP hm fun o2 es ep q1 q2 fy=>?_;refine fC hcell fun o3 q3 q4=>?_;rw[<- h,q1] at q3;injection q3 with fu;subst fu;rw[q2] at q4;contradiction
  have hn':h'.Ns F.env.locals m:=hm.sameBut hs hcL;refine k _ β () st ⟨BR.write (s':={ s with heap:=h' }) sr hcW hs st,⟨sr.fm.kind,sr.fm.globals,sr.fm.builtins,sr.fm.once,⟨m,hn'⟩,sr.fm.nsW,fun y h1=>?_,sr.fm.apart,sr.fm.sub,sr.fm.new,sr.fm.notBox,fun a ha=>?_,sr.fm.frB,fun a ha=>?_,fun m e=>absurd own (by rw[(sr.fm.pin m e).2 x];exact ao)⟩,fun j y u h1 h2=>?_⟩ trivial
  ·refine fL (sr.fm.cell y h1) fun c' w' h3 h4 h5=>?_;by_cases hcc:c'=c
   ·subst hcc;exact fK c' _ h3 hcell' h5
   ·exact fK c' w' h3 (h4.sameBut hs hcc) h5
  ·refine fC (sr.fm.stor a ha) fun o h1 h2=>?_;by_cases hb:a=c
   ·subst hb;exact fD o' ho' (fun vs n hv=>by rw[hd'] at hv;contradiction)
   ·exact fD o ((hs.2 a hb).trans h1) h2
  ·refine fG (sr.fm.frs a ha) fun m' hm'=>?_;refine fz m' (hm'.sameBut hs fun h=>?_);subst h;refine fP hm' fun o2 es ep q1 q2 fy=>?_;refine fC hcell fun o3 q3 q4=>?_;rw[q1] at q3;injection q3 with fu;subst fu;rw[q2] at q4;contradiction
  ·refine fx (zh2 h2) ?_ ?_
   ·rintro ⟨rfl,rfl⟩;rw[hx] at h1;injection h1 with fu;injection fu with fu;subst fu
    exact fD v (.inr ⟨hk,c,hc,hcell'⟩) (rv.step sr.br sr.fm st)
   ·rintro ⟨hj,h2⟩;refine fC (sr.get j y u h1 h2) fun val g r=>?_;have hyx:y≠x:=fun e=>hj (sr.fm.once j i x (e ▸ h1) hx);refine fD val ?_ (r.step sr.br sr.fm st);refine fx g ?_ ?_
    ·rintro ⟨g1,m',g2,g3⟩;exact .inl ⟨g1,m',g2.sameBut hs hcL,g3⟩
    ·rintro ⟨g1,c',g2,g3⟩;refine .inr ⟨g1,c',g2,g3.sameBut hs fun h=>?_⟩;subst h;exact hyx (sr.fm.apart _ _ _ g2 hc)
end
theorem zcj{s:Shared}{h':Heap}(he:Heap.ExtBut s.heap.objs.size s.heap h'):KeepsAll s { s with heap:=h' }:=
 ⟨rfl,rfl,fun b o e=>he b o (a8 (aY e)) e⟩
noncomputable def bindR(c:CT)(d:V)(S:Loc×za):R (Loc×za) Unit:=match zu c d S.1 with
 | some ρ'=>.ok () (ρ',S.2)
 | none=>.stuck
section
variable{G:Gl}{F:Fm}{A:Around}{cx:Cx}{own:Str->Bool}
theorem gf(fit:Fits F cx){i:Nat}{x:Str}(h:cx.isLoc i x=true):F.names[i]?=some (some x)/\(F.env.kindOf x=some .local\/F.env.kindOf x=some .cell):=by
 refine fI (gh h) fun h1 h2 fy=>?_;exact⟨by rw[fit.names];exact h1,by rw[fit.kind];exact h2⟩
theorem uy{i:Nat}{e:Expr}(h:chkT cx own (.name i) e=true):∃ x p,e=.Name x p/\cx.isLoc i x=true/\own x=true:=by
 cases e with
 | Name x p=>refine fH (and2 h) fun h1 h2=>?_;exact fK x p rfl h1 h2
 | _=>exact (ao h).elim
theorem zfr{a b:CT}{e:Expr}(h:chkT cx own (.two a b) e=true):∃ x y k p,e=.Tuple [x,y] k p/\chkT cx own a x=true/\chkT cx own b y=true:=by
 cases e with
 | Tuple l k p=>
   match l,h with
   | [x,y],h=>refine fH (and2 h) fun h1 h2=>?_;exact⟨x,y,k,p,rfl,h1,h2⟩
   | [],h=>exact (ao h).elim
   | [_],h=>exact (ao h).elim
   | _::_::_::_,h=>exact (ao h).elim
 | _=>exact (ao h).elim
theorem jb{c:CT}{e:Expr}(h:chkT cx own c e=true)(env:Env)(rest:List Expr):assignEach (e::rest) env=(false,assign e env)::assignEach rest env:=by
 cases c with
 | name i=>refine fR (uy h) fun fy fy eO fy=>?_;subst eO;rfl
 | two a b=>refine fM (zfr h) fun fy fy fy fy eQ fy=>?_;subst eQ;rfl
theorem zgy{x:PyData}{xs:List PyData}{N β:List Addr}{h:Heap}{v:Value}(r:VR G N β h v (.d x))(e:items x=some xs) :
 ∃ a o vs n,v=.ref a/\h.get? a=some o/\(o.cls=.type "tuple"\/o.cls=.type "list")/\o.data=.seq vs n/\∃ as,ReadsAll h vs.toList xs as/\∀ a∈as,a∉β/\a∉N:=by
 cases x with
 | list ys=>injection e with fu;subst fu;obtain⟨a,rfl,⟨o,vs,n,h1,h2,h3,as,h4,h5⟩,_⟩:=r.list_inv;exact⟨a,o,vs,n,rfl,h1,.inr h2,h3,as,h4,h5⟩
 | tuple ys=>injection e with fu;subst fu;obtain⟨a,o,vs,n,rfl,h1,h2,h3,as,h4,h5⟩:=r.tuple_inv;exact⟨a,o,vs,n,rfl,h1,.inl h2,h3,as,h4,h5⟩
 | _=>contradiction
theorem wt{M:Model}{prog:Program}{w:World}{E:Value->Shared->Prop}{s:Shared}{env:Env}{elts:List Expr}{k:Nat}{pos:Pos}{a:Addr}{o:Obj}{vs:Array Value}{n:Nat}{Q:Unit->Shared->Prop}(hh:A.handled=none)
 (h1:s.heap.get? a=some o) (h2:o.cls=.type "tuple"\/o.cls=.type "list") (h3:o.data=.seq vs n) (hn:(assignEach elts env).length=vs.size) (hstar:(assignEach elts env).findIdx? (·.1)=none)
 (h:∀ s',KeepsAll s s'->wpAny (model prog w) A (assignInOrder ((assignEach elts env).map (·.2)) vs.toList) Q E s'):wpAny (model prog w) A (assign (.Tuple elts k pos) env (.ref a)) Q E s:=by
 rw[assign_Tuple];refine aa (cN ?_);unfold unpack;rw[hn,hstar];refine fx h2 ?_ ?_
 ·intro h2;exact aa (aS (unpackItems_tuple hh ⟨o,h1,h2,n,h3⟩ fun h' he=>h _ (zcj he)))
 ·intro h2;exact aa (aS (PySem.W.kun_itemsOf hh ⟨o,h1,h2,n,h3⟩ fun h' he=>h _ (zcj he)))
theorem w3{h:Heap}{P:Addr->Prop}{vs:List Value}{y z:PyData}{as:List Addr}(r:ReadsAll h vs [y,z] as)(q:∀ a∈as,P a):∃ v u bs cs,vs=[v,u]/\Reads h v y bs/\(∀ a∈bs,P a)/\Reads h u z cs/\∀ a∈cs,P a:=by
 refine fL (zr r q (i:=0) rfl) fun v1 b1 e1 r1 q1=>?_;refine fL (zr r q (i:=1) rfl) fun v2 b2 e2 r2 q2=>?_;refine⟨v1,v2,b1,b2,?_,r1,q1,r2,q2⟩;have hl:vs.length=2:=zd r;clear r r1 r2
 cases vs with
 | nil=>contradiction
 | cons x l=>
   cases l with
   | nil=>contradiction
   | cons y l=>rw[cy (cY (cY hl)),aN e1,aN e2]
noncomputable abbrev URel:List Addr->Heap->Unit->Unit->Prop:=fun uA uA uA uA=>True
set_option tactic.hygienic true in
theorem x6(hh:A.handled=none)(fit:Fits F cx)(hown:∀ x,own x=true->F.own x=true):∀ (c:CT) {e:Expr} {s:Shared} {β:List Addr} {ρ:Loc} {O:za} {v:Value} {d:V},chkT cx own c e=true->SR G F β ρ O s.heap->VR G F.B β s.heap v d ->
 Does G F A s β (assign e F.env v) (bindR c d (ρ,O)) URel:=by
 intro c
 induction c with
 | name i=>
   intro e s β ρ O v d h sr rv;refine fL (uy h) fun x p eO h1 h2=>?_;subst eO;refine fH (gf fit h1) fun g1 g2=>?_;unfold bindR zu;dsimp only;split
   ·rename_i ρ' heq;split at heq
    ·injection heq with fu;subst fu;exact (zit sr g1 g2 (hown x h2) rv).weaken (fun Q E h=>wpAny_assign_Name h) fun uA uA uA uA h=>h
    ·contradiction
   ·trivial
 | two a b iha ihb=>
   intro e s β ρ O v d h sr rv;refine fM (zfr h) fun x y k p eQ eR=>?_;subst eQ;refine fH eR ?_;clear eR;intro h1 h2;have hn:∀ (vs:Array Value),vs.size=2->(assignEach [x,y] F.env).length=vs.size:=fun vs hv=>by rw[jb h1,jb h2,hv];rfl
   have hstar:(assignEach [x,y] F.env).findIdx? (·.1)=none:=by rw[jb h1,jb h2];rfl
   have hmap:(assignEach [x,y] F.env).map (·.2)=[assign x F.env,assign y F.env]:=by rw[jb h1,jb h2];rfl
   have both:∀ (s:Shared) (v1 v2:Value) (d1 d2:V),SR G F β ρ O s.heap->VR G F.B β s.heap v1 d1->VR G F.B β s.heap v2 d2 ->
    DoesW G F s β (tr G A (assignInOrder [assign x F.env,assign y F.env] [v1,v2])) (match (zu a d1 ρ).bind (zu b d2) with | some ρ'=>.ok () (ρ',O) | none=>.stuck) URel:=by
    intro s v1 v2 d1 d2 sr r1 r2;have da:=iha h1 sr r1;have e1:(match (zu a d1 ρ).bind (zu b d2) with | some ρ'=>R.ok () (ρ',O) | none=>.stuck)=(bindR a d1 (ρ,O)).bind fun uA S=>bindR b d2 S:=by
     unfold bindR
     cases zu a d1 ρ <;> rfl
    rw[e1];refine DoesW.seq (T2A:=fun uA Q E s=>wpAny G.m A (assign y F.env v2) (fun uA s=>Q () s) E s) (fun Q E h=>dL (aK h (fun uA s1A h=>dL (aK h (fun uA s2A h=>assignInOrder_nil h) fun uA uA x=>x)) fun uA uA x=>x)) da fun s' β' uA uA S e st sr' uA=>?_;exact ihb h2 sr' (r2.step sr.br sr.fm st)
   cases d with
   | d z=>
     show DoesW G F s β _ (match (match items z with | some [y',z']=>(zu a (.d y') ρ).bind (zu b (.d z')) | _=>none) with | some ρ'=>R.ok () (ρ',O) | none=>.stuck) _
     cases hi:items z with
     | none=>trivial
     | some l=>
       match l,hi with
       | [y',z'],hi=>
         refine fM (zgy rv hi) fun ad o vs n eQ eR=>?_;subst eQ;refine fS eR ?_;clear eR;intro g1 g2 g3 eP;refine fC eP ?_;clear eP;intro as r q;refine fM (w3 r q) fun v1 v2 bs cs hvs eR=>?_;refine fS eR ?_;clear eR;intro r1 q1 r2 q2;have hsz:vs.size=2:=by rw [<- av,hvs];rfl
         have kall:∀ s',KeepsAll s s'->DoesW G F s' β (tr G A (assignInOrder [assign x F.env,assign y F.env] [v1,v2])) (match (zu a (.d y') ρ).bind (zu b (.d z')) with | some ρ'=>.ok () (ρ',O) | none=>.stuck) URel:=fun s' ka=>
          both s' v1 v2 (.d y') (.d z') (sr.keepAll ka.kept) ⟨bs,z7 ka.kept r1,q1⟩ ⟨cs,z7 ka.kept r2,q2⟩
         dsimp only
         cases hb:(zu a (.d y') ρ).bind (zu b (.d z')) with
         | none=>trivial
         | some ρ'=>
           intro Q E kk;refine wt (M:=model G.prog G.w) hh g1 g2 g3 (hn vs hsz) hstar fun s' ka=>?_;rw [hmap,hvs];have dd:=kall s' ka;rw [hb] at dd;exact dd Q E fun s'' β' u st sr'' r=>kk s'' β' u ((ka.step _ _).trans st) sr'' r
       | [],_=>trivial
       | [_],_=>trivial
       | _::_::_::_,_=>trivial
   | tm its=>trivial
   | box n=>trivial
end
def Itr(h:Heap)(z:Addr):Prop:=∃ o T fs,h.get? z=some o/\o.cls=.type T/\o.data=.fields fs
structure KeepsZ(Z:List Addr)(s s':Shared):Prop where
 gens:s'.gens=s.gens
 os:s'.os=s.os
 kept:∀ b o,b∉Z->s.heap.get? b=some o->s'.heap.get? b=some o
theorem KeepsZ.refl(Z:List Addr)(s:Shared):KeepsZ Z s s:=⟨rfl,rfl,fun uA uA uA e=>e⟩
theorem KeepsZ.trans{Z:List Addr}{s s' s'':Shared}(x:KeepsZ Z s s')(y:KeepsZ Z s' s''):KeepsZ Z s s'':=⟨y.gens.trans x.gens,y.os.trans x.os,fun b o hb e=>y.kept b o hb (x.kept b o hb e)⟩
theorem KeepsAll.z{s s':Shared}(x:KeepsAll s s')(Z:List Addr):KeepsZ Z s s':=⟨x.gens,x.os,fun b o uA e=>x.kept b o e⟩
theorem Step.thenZ{W β0 β Z:List Addr}{s0 s s':Shared}(st:Step W β0 s0 s β)(k:KeepsZ Z s s')(hz:∀ z∈Z,s0.heap.get? z=none):Step W β0 s0 s' β where
 gens:=k.gens.trans st.gens
 os:=k.os.trans st.os
 pre:=st.pre
 fresh:=st.fresh
 alive:=fun b o e=>by
  refine fG (st.alive b o e) fun o' e'=>?_;exact fz o' (k.kept b o' (fun h=>by rw[hz b h] at e;contradiction) e')
 kept:=fun b o e hb hW=>let ⟨o',e',kn⟩:=st.kept b o e hb hW;⟨o',k.kept b o' (fun h=>by rw[hz b h] at e;contradiction) e',kn⟩
inductive zf3(h:Heap)(a:Addr):Prop
 | mk (o:Obj) (e:h.get? a=some o) (hd:∀ fs,o.data≠.fields fs)
theorem zri{d:Data}{vs:Array Value}{n:Nat}(h:d=.seq vs n):∀ fs,d≠.fields fs:=fun fs e=>by rw[h] at e;contradiction
theorem zpq{d:Data}{vs:Array DictEntry}{n:Nat}(h:d=.dict vs n):∀ fs,d≠.fields fs:=fun fs e=>by rw[h] at e;contradiction
theorem uj{h:Heap}{v:Value}{x:PyData}{as:List Addr}(r:Reads h v x as):∀ a∈as,zf3 h a:=
 Reads.rec (motive_1:=fun uA uA as uA=>∀ a∈as,zf3 h a) (motive_2:=fun uA uA as uA=>∀ a∈as,zf3 h a)
  (fun uA h=>nomatch h) (fun uA uA h=>nomatch h) (fun uA uA uA h=>nomatch h) (fun uA uA uA h=>nomatch h)
  (fun h1 uA h3 uA ih a ha=>(ag.mp ha).elim (fun e=>e ▸ ⟨_,h1,zri h3⟩) (ih a))
  (fun uA uA uA uA ih=>ih)
  (fun h1 uA h3 uA uA ih ih' a ha=>(aj.mp ha).elim (fun ha=>(ag.mp ha).elim (fun e=>e ▸ ⟨_,h1,zpq h3⟩) (ih a)) (ih' a))
  (fun uA h=>nomatch h) (fun uA uA i1 i2 a ha=>(aj.mp ha).elim (i1 a) (i2 a)) r
theorem zdc{h:Heap}{vs:List Value}{xs:List PyData}{as:List Addr}(r:ReadsAll h vs xs as):∀ a∈as,zf3 h a:=
 ReadsAll.rec (motive_1:=fun uA uA uA uA=>True) (motive_2:=fun uA uA as uA=>∀ a∈as,zf3 h a)
  trivial (fun uA=>trivial) (fun uA uA=>trivial) (fun uA uA=>trivial) (fun uA uA uA uA uA=>trivial) (fun uA uA uA uA uA=>trivial) (fun uA uA uA uA uA uA uA=>trivial)
  (fun uA h=>nomatch h) (fun r uA uA i2 a ha=>(aj.mp ha).elim (uj r a) (i2 a)) r
section
variable{G:Gl}{F:Fm}{N β Z:List Addr}{ρ:Loc}{O:za}{h h':Heap}
theorem notZ(hz:∀ z∈Z,Itr h z){b:Addr}{o:Obj}(e:h.get? b=some o)(hd:∀ fs,o.data≠.fields fs):b∉Z:=fun hb=>by
 refine fP (hz b hb) fun o' T fs e' fy hf=>?_;rw[e] at e';injection e' with fu;subst fu;exact hd fs hf
section
variable(hz:∀ z∈Z,Itr h z)(hk:∀ b o,b∉Z->h.get? b=some o->h'.get? b=some o)
include hz hk
theorem getZ{b:Addr}{o:Obj}(e:h.get? b=some o)(hd:∀ fs,o.data≠.fields fs):h'.get? b=some o:=hk b o (notZ hz e hd) e
theorem jr{v:Value}{x:PyData}{as:List Addr}(r:Reads h v x as):Reads h' v x as:=
 jg (P:=fun b=>b∉Z) (fun b o e hb=>hk b o hb e) (fun b o vs n e uA hd=>notZ hz e fun fs q=>by rw[hd] at q;contradiction) r fun a ha=>let ⟨o,e,hd⟩:=uj r a ha;notZ hz e hd
theorem zaa{vs:List Value}{xs:List PyData}{as:List Addr}(r:ReadsAll h vs xs as):ReadsAll h' vs xs as:=
 xq (P:=fun b=>b∉Z) (fun b o e hb=>hk b o hb e) (fun b o vs n e uA hd=>notZ hz e fun fs q=>by rw[hd] at q;contradiction) r fun a ha=>let ⟨o,e,hd⟩:=zdc r a ha;notZ hz e hd
theorem zg6{vs:List Value}{its:List It}(r:ItsR N β h vs its):ItsR N β h' vs its:=by
 induction r with
 | nil=>exact .nil
 | b h1 _ ih=>exact .b h1 ih
 | x h1 h2 _ ih=>exact .x (jr hz hk h1) h2 ih
theorem VR.keepZ(hc:∀ c,∃ C,G.cls c=.ref C){v:Value}{x:V}(r:VR G N β h v x):VR G N β h' v x:=by
 cases x with
 | d x=>obtain⟨as,r,q⟩:=r;exact⟨as,jr hz hk r,q⟩
 | box n=>exact r
 | tm its=>obtain⟨a,o,vs,k,e,h1,h2,h3,h4⟩:=r;exact⟨a,o,vs,k,e,getZ hz hk h1 (fun fs q=>by rw[h3] at q;contradiction),h2,h3,zg6 hz hk h4⟩
theorem BoxAt.keepZ{a:Addr}{bx:Box}(r:BoxAt h N β a bx):BoxAt h' N β a bx:=by
 cases bx with
 | lst xs=>obtain⟨o,vs,n,h1,h2,h3,as,h4,h5⟩:=r;exact⟨o,vs,n,getZ hz hk h1 (fun fs q=>by rw[h3] at q;contradiction),h2,h3,as,zaa hz hk h4,h5⟩
 | dct kvs=>
   obtain⟨o,es,n,h1,h2,h3,h4,h5⟩:=r;refine⟨o,es,n,getZ hz hk h1 (fun fs q=>by rw[h3] at q;contradiction),h2,h3,h4,fun i e kv he hkv=>?_⟩;obtain⟨hq,as,bs,r1,r2,q⟩:=h5 i e kv he hkv;exact⟨hq,as,bs,jr hz hk r1,jr hz hk r2,q⟩
theorem BR.notItr{O:za}(b:BR G N β O h){a:Addr}(ha:a∈β):a∉Z:=by
 refine fG (ch ha) fun i hi=>?_;have hl:i < O.length:=by rw[<- b.len];exact (aE.mp hi).1
 have hx:=b.at_ i a _ hi (au hl)
 cases hb:O[i] with
 | lst xs=>rw[hb] at hx;obtain⟨o',vs,n,h1,h2,h3,_⟩:=hx;exact notZ hz h1 fun fs q=>by rw[h3] at q;contradiction
 | dct kvs=>rw[hb] at hx;obtain⟨o',vs,n,h1,h2,h3,_⟩:=hx;exact notZ hz h1 fun fs q=>by rw[h3] at q;contradiction
theorem BR.keepZ(hz0:∀ z∈Z,G.h₀.get? z=none)(b:BR G N β O h):BR G N β O h':=
 ⟨fun c o e=>hk _ _ (fun hb=>by rw[hz0 c hb] at e;contradiction) (b.keep c o e),b.len,b.nodup,b.new,fun i a bx h1 h2=>(b.at_ i a bx h1 h2).keepZ hz hk,fun a ha=>(b.plain a ha).at fun o e=>hk a o (BR.notItr hz hk b ha) e⟩
theorem nsZ{L:Addr}{m:Str->Option Value}(x:h.Ns L m):h'.Ns L m:=by
 refine fP x fun o es ep h1 h2 r=>?_;exact fT o es ep (getZ hz hk h1 (fun fs q=>by rw[h2] at q;contradiction)) h2 r
theorem zqo{c:Addr}{v:Option Value}(x:h.IsCell c v):h'.IsCell c v:=by
 refine fC x fun o h1 h2=>?_;exact fD o (getZ hz hk h1 (fun fs q=>by rw[h2] at q;contradiction)) h2
theorem Get.keepZ{env:Env}{x:Str}{v:Value}(g:Get h env x v):Get h' env x v:=by
 refine fx g ?_ ?_
 ·rintro ⟨h1,m,h2,h3⟩;exact .inl ⟨h1,m,nsZ hz hk h2,h3⟩
 ·rintro ⟨h1,c,h2,h3⟩;exact .inr ⟨h1,c,h2,zqo hz hk h3⟩
theorem FmOk.keepZ(hzB:∀ z∈Z,z∉F.B)(f:FmOk G F β h):FmOk G F β h' where
 kind:=f.kind
 globals:=f.globals
 builtins:=f.builtins
 once:=f.once
 ns:=let ⟨m,e⟩:=f.ns;⟨m,nsZ hz hk e⟩
 nsW:=f.nsW
 cell:=fun x h1=>let ⟨c,v,h3,h4,h5⟩:=f.cell x h1;⟨c,v,h3,zqo hz hk h4,h5⟩
 apart:=f.apart
 sub:=f.sub
 new:=f.new
 notBox:=f.notBox
 stor:=fun a ha=>let ⟨o,h1,h2⟩:=f.stor a ha;⟨o,hk _ _ (fun hb=>hzB a hb ha) h1,h2⟩
 frB:=f.frB
 frs:=fun a ha=>let ⟨m,e⟩:=f.frs a ha;⟨m,nsZ hz hk e⟩
 pin:=fun m e=>⟨nsZ hz hk (f.pin m e).1,(f.pin m e).2⟩
theorem SR.keepZ(hc:∀ c,∃ C,G.cls c=.ref C)(hz0:∀ z∈Z,G.h₀.get? z=none)(hzB:∀ z∈Z,z∉F.B)(r:SR G F β ρ O h):SR G F β ρ O h':=
 ⟨r.br.keepZ hz hk hz0,r.fm.keepZ hz hk hzB,fun i x v h1 h2=>let ⟨val,h3,h4⟩:=r.get i x v h1 h2;⟨val,h3.keepZ hz hk,h4.keepZ hz hk hc⟩⟩
end
end
def Src.Has(s:Src)(O:za):Prop:=match s with
 | .plain _=>True
 | .box n xs=>O[n]?=some (.lst xs)
theorem Src.has_of{s:Src}{O:za}(h:s.still O=true):s.Has O:=by
 cases s with
 | plain xs=>trivial
 | box n xs=>exact @bp _ (Classical.propDecidable _) h
structure Turns(G:Gl)(A:Around)(target:Expr)(I:Addr)(Z:List Addr)(src:Src)(St:Nat->List Addr->List Addr->Heap->Prop):Prop where
 itr:∀ i N β h,St i N β h->∀ z∈Z,Itr h z
 keep:∀ i N N' β β' h h',St i N β h->(∀ z∈Z,∀ o,h.get? z=some o->h'.get? z=some o)->(∀ v x,VR G N β h v (.d x)->VR G N' β' h' v (.d x))->β <+: β'->St i N' β' h'
 item:∀ i N β O s x (Q:Option Value->Shared->Prop) (E:Value->Shared->Prop),src.xs[i]?=some x->BR G N β O s.heap->src.Has O->St i N β s.heap ->
  (∀ v s',(∀ (Q':Unit->Shared->Prop) (E':Value->Shared->Prop),(∀ s'',KeepsZ Z s s''->VR G N β s''.heap v (.d x)->St (i+1) N β s''.heap->Q' () s'')->wpAny G.m A (letOwnedTupleGo target (.ref I) v) Q' E' s')->Q (some v) s') ->
  wpAny G.m A (pyNext (.ref I)) Q E s
 done:∀ i N β O s (Q:Option Value->Shared->Prop) (E:Value->Shared->Prop),src.xs.length=i->BR G N β O s.heap->src.Has O->St i N β s.heap ->
  (∀ s',KeepsZ Z s s'->Q none s')->wpAny G.m A (pyNext (.ref I)) Q E s
 self:∀ i N β s (Q:Value->Shared->Prop) (E:Value->Shared->Prop),St i N β s.heap->Q (.ref I) s->wpAny G.m A (pyIter (.ref I)) Q E s
set_option tactic.hygienic true in
theorem pj{prog:Program}{w:World}{A:Around}{E:Value->Shared->Prop}{s:Shared}{target:Expr}{I:Addr}{v:Value}{o:Obj}{T:String}{Q:Unit->Shared->Prop}(ho:s.heap.get? I=some o)(hc:o.cls=.type T)
 (hT:["enumerate","zip","dict_itemiterator","dict_reverseitemiterator","odict_iterator","itertools.zip_longest","itertools.pairwise"].contains T=false) (hQ:Q () s) :
 wpAny (model prog w) A (letOwnedTupleGo target (.ref I) v) Q E s:=by
 have main:∀ a:Addr,wpAny (model prog w) A (do
  let o <- load I
  match o.cls,o.data with
  | .type n,.fields vs=>
    if ["enumerate","zip","dict_itemiterator","dict_reverseitemiterator","odict_iterator","itertools.zip_longest","itertools.pairwise"].contains n && vs[0]? == some (rawInt a) then
     rule "for.unpacks-the-owned-tuple"
     updateField I 0 .none
  | _,_=>pure ():Sem Unit) Q E s:=by
  intro a;refine aa (wpAny_load ho ?_);rw[hc]
  cases o.data <;> first | exact ab hQ | skip
  rename_i vs;dsimp only;rw[ak (by rw[hT,Bool.false_and];exact ao)];exact ab hQ
 unfold letOwnedTupleGo
 cases target <;> first | exact ab hQ | skip
 all_goals
  cases v <;> first | exact ab hQ | exact main _
theorem ju{s:Shared}{I:Addr}{h':Heap}{tk:Nat}(hs:Heap.SameBut I s.heap h'):KeepsZ [I] s { s with heap:=h',toks:=tk }:=
 ⟨rfl,rfl,fun b o hb e=>(hs.2 b fun h=>hb (by simp[h])).trans e⟩
theorem ko{s:Shared}{I:Addr}{h':Heap}(hs:Heap.ExtBut I s.heap h'):KeepsZ [I] s { s with heap:=h' }:=
 ⟨rfl,rfl,fun b o hb e=>hs b o (fun h=>hb (by simp[h])) e⟩
section
variable{G:Gl}{A:Around}{target:Expr}(hc:∀ c,∃ C,G.cls c=.ref C)
theorem qi{h:Heap}{I l:Addr}{i:Nat}(x:h.IsListIter I l i):∀ z∈[I],Itr h z:=fun z hz=>by
 refine fN x fun o h1 h2 h3=>?_;rw[ae.mp hz];exact fT o _ _ h1 h2 h3
theorem vg{h:Heap}{N β:List Addr}{a:Addr}{xs:List PyData}(r:VR G N β h (.ref a) (.d (.list xs))):ListAt h N β a xs/\a∉β/\a∉N:=by
 obtain⟨a',e,h1,h2⟩:=r.list_inv;injection e with fu;subst fu;exact⟨h1,h2⟩
include hc in
theorem Turns.list(hh:A.handled=none)(I ax:Addr)(xs:List PyData):Turns G A target I [I] (.plain xs) (fun i N β h=>h.IsListIter I ax i/\VR G N β h (.ref ax) (.d (.list xs))) where
 itr:=fun i N β h st=>qi st.1
 keep:=fun i N N' β β' h h' st k1 k2 uA=>⟨st.1.at fun o e=>k1 I (by simp) o e,k2 _ _ st.2⟩
 item:=fun i N β O s x Q E hx br has st k=>by
  refine fH (vg st.2) fun eM fy=>?_;obtain ⟨o,vs,n,h1,h2,h3,as,h4,h5⟩:=eM;refine fL (zr h4 h5 (i:=i) hx) fun v cs e1 e2 e3=>?_;refine wpAny_pyNext_list_item st.1 ⟨o,h1,h2,n,h3⟩ (x:=v) (by rw[<- aT];exact e1) fun h' hit' hs'=>?_;refine fN (id hit') fun o' q1 q2 q3=>?_;have kz:KeepsZ [I] s { s with heap:=h' }:=ju hs';have rv:VR G N β h' v (.d x):=VR.keepZ (qi st.1) kz.kept hc ⟨cs,e2,e3⟩;exact k v _ fun Q' E' k'=>pj q1 q2 (by decide) (k' _ kz rv ⟨hit',VR.keepZ (qi st.1) kz.kept hc st.2⟩)
 done:=fun i N β O s Q E hx br has st k=>by
  refine fH (vg st.2) fun eM fy=>?_;obtain ⟨o,vs,n,h1,h2,h3,as,h4,h5⟩:=eM;refine wpAny_pyNext_list_end hh st.1 ⟨o,h1,h2,n,h3⟩ ?_ fun h' he=>k _ (ko he);rw[cD];rw[<- av,zd h4];exact bX hx
 self:=fun i N β s Q E st q=>wpAny_pyIter_listiter st.1 q
include hc in
theorem Turns.box(hh:A.handled=none)(I ax:Addr)(n:Nat)(xs:List PyData):Turns G A target I [I] (.box n xs) (fun i N β h=>h.IsListIter I ax i/\β[n]?=some ax) where
 itr:=fun i N β h st=>qi st.1
 keep:=fun i N N' β β' h h' st k1 k2 p=>⟨st.1.at fun o e=>k1 I (by simp) o e,x9 p st.2⟩
 item:=fun i N β O s x Q E hx br has st k=>by
  obtain⟨o,vs,n,h1,h2,h3,as,h4,h5⟩:=br.at_ n ax (.lst xs) st.2 has;refine fL (zr h4 h5 (i:=i) hx) fun v cs e1 e2 e3=>?_;refine wpAny_pyNext_list_item st.1 ⟨o,h1,h2,n,h3⟩ (x:=v) (by rw[<- aT];exact e1) fun h' hit' hs'=>?_;refine fN (id hit') fun o' q1 q2 q3=>?_;have kz:KeepsZ [I] s { s with heap:=h' }:=ju hs';have rv:VR G N β h' v (.d x):=VR.keepZ (qi st.1) kz.kept hc ⟨cs,e2,e3⟩;exact k v _ fun Q' E' k'=>pj q1 q2 (by decide) (k' _ kz rv ⟨hit',st.2⟩)
 done:=fun i N β O s Q E hx br has st k=>by
  obtain⟨o,vs,n,h1,h2,h3,as,h4,h5⟩:=br.at_ n ax (.lst xs) st.2 has;refine wpAny_pyNext_list_end hh st.1 ⟨o,h1,h2,n,h3⟩ ?_ fun h' he=>k _ (ko he);rw[cD];rw[<- av,zd h4];exact bX hx
 self:=fun i N β s Q E st q=>wpAny_pyIter_listiter st.1 q
theorem zdl{h:Heap}{I l:Addr}{i:Nat}(x:IsTupIter h I l i):∀ z∈[I],Itr h z:=fun z hz=>by
 refine fN x fun o h1 h2 h3=>?_;rw[ae.mp hz];exact fT o _ _ h1 h2 h3
include hc in
theorem Turns.tuple(hh:A.handled=none)(I ax:Addr)(xs:List PyData):Turns G A target I [I] (.plain xs) (fun i N β h=>IsTupIter h I ax i/\VR G N β h (.ref ax) (.d (.tuple xs))) where
 itr:=fun i N β h st=>zdl st.1
 keep:=fun i N N' β β' h h' st k1 k2 uA=>⟨by refine fC st.1 fun o e r=>?_;exact fD o (k1 I (by simp) o e) r,k2 _ _ st.2⟩
 item:=fun i N β O s x Q E hx br has st k=>by
  obtain⟨a',o,vs,n,e,h1,h2,h3,as,h4,h5⟩:=st.2.tuple_inv;injection e with fu;subst fu;refine fL (zr h4 h5 (i:=i) hx) fun v cs e1 e2 e3=>?_;refine next_tuple_item st.1 ⟨o,h1,h2,n,h3⟩ (x:=v) (by rw[<- aT];exact e1) fun h' hit' hs'=>?_;refine fN (id hit') fun o' q1 q2 q3=>?_;have kz:KeepsZ [I] s { s with heap:=h' }:=ju hs';have rv:VR G N β h' v (.d x):=VR.keepZ (zdl st.1) kz.kept hc ⟨cs,e2,e3⟩;exact k v _ fun Q' E' k'=>pj q1 q2 (by decide) (k' _ kz rv ⟨hit',VR.keepZ (zdl st.1) kz.kept hc st.2⟩)
 done:=fun i N β O s Q E hx br has st k=>by
  obtain⟨a',o,vs,n,e,h1,h2,h3,as,h4,h5⟩:=st.2.tuple_inv;injection e with fu;subst fu;refine next_tuple_end hh st.1 ⟨o,h1,h2,n,h3⟩ ?_ fun h' he=>k _ (ko he);rw[cD];rw[<- av,zd h4];exact bX hx
 self:=fun i N β s Q E st q=>wpAny_pyIter_tupleiter st.1 q
theorem zgp{a b:Int}{i:Nat}{x:PyData}(h:(zl a b)[i]?=some x):x=.int (a+i)/\i < (b - a).toNat:=by
 unfold zl at h;rw[aU] at h
 cases e:(List.range (b - a).toNat)[i]? with
 | none=>rw[e] at h;contradiction
 | some j=>
   rw[e] at h;have hi:i < (List.range (b - a).toNat).length:=by
    refine fx (bn i (List.range (b - a).toNat).length) ?_ ?_
    ·intro h;exact h
    ·intro h;rw[a7 h] at e;contradiction
   rw[au hi,List.getElem_range] at e;injection e with fu;subst fu;injection h with fu;subst fu
   exact⟨rfl,by simpa using hi⟩
theorem zbo{a b:Int}:(zl a b).length=(b - a).toNat:=by simp[zl]
theorem zjt{h:Heap}{I:Addr}{x l st:Int}(q:IsRangeIter h I x l st):∀ z∈[I],Itr h z:=fun z hz=>by
 rw[ae.mp hz];exact fT _ _ _ q rfl rfl
include hc in
theorem Turns.range(hh:A.handled=none)(I:Addr)(a b:Int):Turns G A target I [I] (.plain (zl a b)) (fun i N β h=>IsRangeIter h I (a+(i:Nat)) (((b - a).toNat:Int) - (i:Nat)) 1) where
 itr:=fun i N β h st=>zjt st
 keep:=fun i N N' β β' h h' st k1 k2 uA=>k1 I (by simp) _ st
 item:=fun i N β O s x Q E hx br has st k=>by
  refine fH (zgp hx) fun eM hi=>?_;subst eM;refine wpAny_pyNext_range_item st (by lia) fun h' hit' hs'=>?_;have kz:KeepsZ [I] s { s with heap:=h',toks:=s.toks+1 }:=ju hs';refine k _ _ fun Q' E' k'=>pj hit' rfl (by decide) (k' _ kz VR.int ?_);have e1:a+((i+1:Nat):Int)=a+(i:Int)+1:=by push_cast;lia
  have e2:((b - a).toNat:Int) - ((i+1:Nat):Int)=((b - a).toNat:Int) - (i:Int) - 1:=by push_cast;lia
  rw[e1,e2];exact hit'
 done:=fun i N β O s Q E hx br has st k=>wpAny_pyNext_range_end hh st (by have:(zl a b).length=i:=hx;rw[zbo] at this;lia) fun h' he=>k _ (ko he)
 self:=fun i N β s Q E st q=>wpAny_pyIter_rangeiter st q
end
section
variable{G:Gl}{F:Fm}{A:Around}{s:Shared}{β:List Addr}{ρ:Loc}{O:za}{cx:Cx}{gval:Nat->Option PyData}{gname:Nat->Option Str}
theorem pq{α:Type}{x:Str}{fv:Value}{e:Expr}{rest:List Expr}{p q:Pos}{r:R za (List V)}{k:List V->za->R za α}{Rel:List Addr->Heap->Value->α->Prop}(g:GOk G gval gname)(sr:SR G F β ρ O s.heap)(fit:Fits F cx)
 (hx:cx.isGlob x=true) (hb:(x,fv)∈bis) (hfv:(∃ id,fv=.builtin id)\/∃ T,fv=.type T)
 (he:starEach (e::rest) F.env=(false,eval e F.env)::starEach rest F.env) (hplain:(backTo q (starEach rest F.env)).any (·.1)=false)
 (h1:Does G F A s β (spliced (backTo q (starEach (e::rest) F.env))) (r.lift ρ) (VRsl G F))
 (h2:∀ s' β' vals vs O',r=.ok vs O'->Step F.W β s s' β'->SR G F β' ρ O' s'.heap->VRs G F.B β' s'.heap vals vs->Does G F A s' β' (call fv vals) ((k vs O').lift ρ) Rel) :
 Does G F A s β (eval (.Call (.Name x p) (e::rest) [] q) F.env) ((r.bind k).lift ρ) Rel:=by
 refine fH (g.bi _ hb) fun b1 b2=>?_;refine DoesW.seqE (T2A:=fun vs=>tr G A (call fv vs)) (fun Q E h=>dK rfl (ye g sr fit hx b1 b2 ?_)) h1 fun s' β' vals vs O' e' st sr' rvs=>h2 s' β' vals vs O' e' st sr' rvs;refine fx hfv ?_ ?_<;>clear hfv
 ·rintro ⟨id,rfl⟩;exact callWith_builtin1 h he hplain
 ·rintro ⟨T,rfl⟩;exact callWith_type1 h he hplain
noncomputable def IRel(G:Gl)(F:Fm)(A:Around)(target:Expr)(s:Shared):List Addr->Heap->Value->Src->Prop:=fun β h v src=>
 ∃ I Z St,v=.ref I/\Turns G A target I Z src St/\St 0 F.B β h/\∀ z∈Z,s.heap.get? z=none
theorem IRel.back{target:Expr}{s':Shared}{β':List Addr}{h:Heap}{v:Value}{src:Src}{β1:List Addr}{W:List Addr}(st:Step W β s s' β')(r:IRel G F A target s' β1 h v src):IRel G F A target s β1 h v src:=by
 refine fE r fun I Z St e t h0 hz=>?_;refine fF I Z St e t h0 (fun z hz'=>?_)
 cases e:s.heap.get? z with
 | none=>rfl
 | some o=>refine fG (st.alive z o e) fun o' e'=>?_;rw[hz z hz'] at e';contradiction
noncomputable abbrev zck(G:Gl)(A:Around)(x:Expr)(env:Env):WT Value:=fun Q E s=>wpAny G.m A (eval x env) (fun xv s1A=>wpAny G.m A (pyIter xv) Q E s1A) E s
theorem z9(s:Shared):s.heap.get? s.heap.objs.size=none:=bk (aH _)
theorem znh{target:Expr}{v:Value}{d:V}(g:GOk G gval gname)(hh:A.handled=none)(sr:SR G F β ρ O s.heap)(rv:VR G F.B β s.heap v d) :
 Does G F A s β (pyIter v) ((match d with
  | .d x=>opt ((items x).map Src.plain) O
  | .box n=>(match O[n]? with
     | some (.lst xs)=>R.ok (Src.box n xs) O
     | _=>.stuck)
  | _=>.stuck).lift ρ) (IRel G F A target s):=by
 cases d with
 | d x=>
   cases x with
   | list xs=>
     obtain⟨a,rfl,⟨o,vs,n,h1,h2,h3,as,h4,h5⟩,h6⟩:=rv.list_inv;refine Does.leaf sr fun Q E k=>ct ⟨o,h1,h2,n,h3⟩ (k _ _ (KeepsAll.push s _ _) ?_);exact fF _ _ _ rfl (Turns.list g.clsRef hh _ a xs) ⟨⟨_,aw _ rfl,rfl,rfl⟩,rv.keepAll (fun uA uA e=>ac _ e)⟩ (fun z hz=>by rw[ae.mp hz];exact z9 s)
   | tuple xs=>
     obtain⟨a,o,vs,n,rfl,h1,h2,h3,as,h4,h5⟩:=rv.tuple_inv;refine Does.leaf sr fun Q E k=>iter_tuple ⟨o,h1,h2,n,h3⟩ (k _ _ (KeepsAll.push s _ _) ?_);exact fF _ _ _ rfl (Turns.tuple g.clsRef hh _ a xs) ⟨⟨_,aw _ rfl,rfl,rfl⟩,rv.keepAll (fun uA uA e=>ac _ e)⟩ (fun z hz=>by rw[ae.mp hz];exact z9 s)
   | _=>trivial
 | box n=>
   obtain⟨a,ha,rfl⟩:=rv;dsimp only
   cases hO:O[n]? with
   | none=>trivial
   | some bx=>cases bx with
     | dct kvs=>trivial
     | lst xs=>
       obtain⟨o,vs,k',h1,h2,h3,as,h4,h5⟩:=sr.br.at_ n a (.lst xs) ha hO;refine Does.leaf sr fun Q E k=>ct ⟨o,h1,h2,k',h3⟩ (k _ _ (KeepsAll.push s _ _) ?_);exact fF _ _ _ rfl (Turns.box g.clsRef hh _ a n xs) ⟨⟨_,aw _ rfl,rfl,rfl⟩,ha⟩ (fun z hz=>by rw[ae.mp hz];exact z9 s)
 | _=>trivial
theorem znj{target x:Expr}{ra:R za V}(g:GOk G gval gname)(hh:A.handled=none)(h1:Does G F A s β (eval x F.env) (ra.lift ρ) (VRel G F)) :
 DoesW G F s β (zck G A x F.env) ((ra.bind fun v O=>(match v with
  | .d x=>opt ((items x).map Src.plain) O
  | .box n=>(match O[n]? with
     | some (.lst xs)=>R.ok (Src.box n xs) O
     | _=>.stuck)
  | _=>.stuck)).lift ρ) (IRel G F A target s):=by
 refine DoesW.seqE (T2A:=fun v=>tr G A (pyIter v)) (fun Q E h=>h) h1 fun s' β' v d O' e st sr rv=>?_;exact (znh (target:=target) g hh sr rv).weaken (fun Q E h=>h) fun uA uA uA uA r=>r.back st
theorem w6{a b:Int}:Builtin.Range.rangeSize a b 1=((b - a).toNat:Int):=by rw[rangeSize_one];split <;> lia
noncomputable def RRel(s:Shared):List Addr->Heap->Value->Int×Int->Prop:=fun β h v d=>∃ r t u w,v=.ref r/\IsRange h r d.1 d.2 1 t u w
def zc0(p:Int×Int):Prop:=-(10 ^ 9)<=p.1/\p.1<=10 ^ 9/\-(10 ^ 9)<=p.2/\p.2<=10 ^ 9
inductive zp5(v u:V)(O:za)(p:Int×Int)(O':za):Prop
 | mk (i j:Int) (h1:intV v=some i) (h2:intV u=some j) (hs:zc0 (i,j)) (e:p=(i,j)) (e':O'=O)
theorem zad{v u:V}{O O':za}{p:Int×Int}(h:xb v u O=.ok p O'):zp5 v u O p O':=by
 unfold xb at h
 cases h1:intV v with
 | none=>rw[h1] at h;contradiction
 | some i=>
   cases h2:intV u with
   | none=>rw[h1,h2] at h;contradiction
   | some j=>
     rw[h1,h2] at h;dsimp only at h;by_cases hs : -(10 ^ 9)<=i/\i<=10 ^ 9/\-(10 ^ 9)<=j/\j<=10 ^ 9
     ·rw[af hs] at h;injection h with fu fw;subst fu fw;exact⟨i,j,h1,h2,hs,rfl,rfl⟩
     ·rw[ak hs] at h;contradiction
theorem zdd{v u:V}{O O':za}{p:Int×Int}(h:xb v u O=.ok p O'):zc0 p/\O'=O:=by
 obtain⟨i,j,_,_,hs,rfl,rfl⟩:=zad h;exact⟨hs,rfl⟩
set_option tactic.hygienic true in
theorem VR.intV{N:List Addr}{h:Heap}{v:Value}{d:V}{i:Int}(r:VR G N β h v d)(e:intV d=some i):∃ t,v=.int i t:=by
 cases d <;> first | (cases e;done) | skip
 rename_i x
 cases x <;> first | (cases e;done) | skip
 injection e with fu;subst fu;exact r.int_inv
theorem VRs.one{N:List Addr}{h:Heap}{vals:List Value}{d:V}(r:VRs G N β h vals [d]):∃ v,vals=[v]/\VR G N β h v d:=by
 cases r with
 | cons r rs=>cases rs;exact fD _ rfl r
theorem VRs.two{N:List Addr}{h:Heap}{vals:List Value}{d e:V}(r:VRs G N β h vals [d,e]):∃ v u,vals=[v,u]/\VR G N β h v d/\VR G N β h u e:=by
 cases r with
 | cons r rs=>obtain⟨u,rfl,q⟩:=rs.one;exact fK _ u rfl r q
theorem zfj{T:WT Value}{v u:V}(h:∀ i j,intV v=some i->intV u=some j->DoesW G F s β T (.ok (i,j) (ρ,O)) (RRel s)):DoesW G F s β T ((xb v u O).lift ρ) (RRel s):=by
 cases e:xb v u O with
 | stuck=>trivial
 | ok p O'=>
   obtain⟨i,j,h1,h2,hs,rfl,rfl⟩:=zad e;exact h i j h1 h2
theorem za5{target:Expr}{v:Value}{p:Int×Int}(g:GOk G gval gname)(hh:A.handled=none)(sr:SR G F β ρ O s.heap)(rv:RRel s β s.heap v p)(hp:zc0 p) :
 Does G F A s β (pyIter v) ((R.ok (Src.plain (zl p.1 p.2)) O).lift ρ) (IRel G F A target s):=by
 refine fM rv ?_;clear rv;intro r t u w eQ hr;subst eQ;refine fS hp fun p1 p2 p3 p4=>?_;refine Does.leaf sr fun Q E k=>wpAny_pyIter_range hr (small_one (by lia) (by lia) (by lia) (by lia)) (k _ _ (KeepsAll.push s _ _) ?_);refine fF _ _ _ rfl (Turns.range g.clsRef hh _ p.1 p.2) ?_ (fun z hz=>by rw[ae.mp hz];exact z9 s);rw[w6];simpa using aw _ rfl
theorem zng{y:Expr}{p q:Pos}{x:Str}{rb:R za V}(g:GOk G gval gname)(sr:SR G F β ρ O s.heap)(fit:Fits F cx)(hx:cx.isGlob x=true)(hb:x = "range")(he:starEach [y] F.env=(false,eval y F.env)::starEach [] F.env)
 (h1:Does G F A s β (eval y F.env) (rb.lift ρ) (VRel G F)) :
 Does G F A s β (eval (.Call (.Name x p) [y] [] q) F.env) ((rb.bind fun u O=>xb (.d (.int 0)) u O).lift ρ) (RRel s):=by
 subst hb;have d1:Does G F A s β (spliced (backTo q (starEach [y] F.env))) ((rb.bind fun v O=>(R.ok ([]:List V) O).bind fun vs O=>.ok (v::vs) O).lift ρ) (VRsl G F):=
  yn he h1 fun s' β' O' sr'=>xg sr'
 have e1:(rb.bind fun u O=>xb (.d (.int 0)) u O)=(rb.bind fun v O=>(R.ok ([]:List V) O).bind fun vs O=>R.ok (v::vs) O).bind fun vs O=>(match vs with | [u]=>xb (.d (.int 0)) u O | _=>.stuck):=by cases rb <;> rfl
 rw[e1];refine pq g sr fit hx (fv:=.type "range") (by decide) (.inr ⟨_,rfl⟩) he rfl d1 fun s' β' vals vs O' e' st sr' rvs=>?_
 cases vs with
 | nil=>trivial
 | cons u vs=>
   cases vs with
   | cons _ _=>trivial
   | nil=>
     obtain⟨v,rfl,ru⟩:=rvs.one;refine zfj fun i j h1 h2=>?_;injection h1 with fu;subst fu;refine fG (ru.intV h2) fun t eN=>?_;subst eN;exact Does.leaf sr' fun Q E k=>call_range_1 (k _ _ (KeepsAll.push s' _ _) ⟨_,_,_,_,rfl,IsRange.new _ _ _ _ _ _ _⟩)
theorem znf{y z:Expr}{p q:Pos}{x:Str}{ra:R za V}{rb:za->R za V}(g:GOk G gval gname)(sr:SR G F β ρ O s.heap)(fit:Fits F cx)(hx:cx.isGlob x=true)(hb:x = "range")
 (he:starEach [y,z] F.env=(false,eval y F.env)::starEach [z] F.env) (he':starEach [z] F.env=(false,eval z F.env)::starEach [] F.env)
 (h1:Does G F A s β (eval y F.env) (ra.lift ρ) (VRel G F)) (h2:∀ s' β' O',SR G F β' ρ O' s'.heap->Does G F A s' β' (eval z F.env) ((rb O').lift ρ) (VRel G F)) :
 Does G F A s β (eval (.Call (.Name x p) [y,z] [] q) F.env) ((ra.bind fun v O=>(rb O).bind fun u O=>xb v u O).lift ρ) (RRel s):=by
 subst hb;have d1:Does G F A s β (spliced (backTo q (starEach [y,z] F.env))) ((ra.bind fun v O=>((rb O).bind fun v O=>(R.ok ([]:List V) O).bind fun vs O=>.ok (v::vs) O).bind fun vs O=>.ok (v::vs) O).lift ρ) (VRsl G F):=
  yn he h1 fun s' β' O' sr'=>yn he' (h2 s' β' O' sr') fun s' β' O' sr'=>xg sr'
 have e1:(ra.bind fun v O=>(rb O).bind fun u O=>xb v u O)=(ra.bind fun v O=>((rb O).bind fun v O=>(R.ok ([]:List V) O).bind fun vs O=>.ok (v::vs) O).bind fun vs O=>.ok (v::vs) O).bind fun vs O=>(match vs with | [v,u]=>xb v u O | _=>.stuck):=by
  cases ra with
  | ok v O=>
    show (rb O).bind (fun u O=>xb v u O)=(((rb O).bind fun v O=>(R.ok ([]:List V) O).bind fun vs O=>R.ok (v::vs) O).bind fun vs O=>R.ok (v::vs) O).bind _
    cases rb O <;> rfl
  | stuck=>rfl
 rw[e1];refine pq g sr fit hx (fv:=.type "range") (by decide) (.inr ⟨_,rfl⟩) he (by rw [he'];rfl) d1 fun s' β' vals vs O' e' st sr' rvs=>?_
 cases vs with
 | nil=>trivial
 | cons u vs=>
   cases vs with
   | nil=>trivial
   | cons w vs=>
     cases vs with
     | cons _ _=>trivial
     | nil=>
       obtain⟨v,v',rfl,rv,ru⟩:=rvs.two;refine zfj fun i j h1 h2=>?_;refine fG (rv.intV h1) fun t eN=>?_;subst eN;refine fG (ru.intV h2) fun t' eN=>?_;subst eN;exact Does.leaf sr' fun Q E k=>call_range_2 (k _ _ (KeepsAll.push s' _ _) ⟨_,_,_,_,rfl,IsRange.new _ _ _ _ _ _ _⟩)
theorem zdy{target x:Expr}{r:R za (Int×Int)}(g:GOk G gval gname)(hh:A.handled=none)(hs:∀ p O',r=.ok p O'->zc0 p)(h1:Does G F A s β (eval x F.env) (r.lift ρ) (RRel s)) :
 DoesW G F s β (zck G A x F.env) ((r.bind fun p O=>R.ok (Src.plain (zl p.1 p.2)) O).lift ρ) (IRel G F A target s):=by
 refine DoesW.seqE (T2A:=fun v=>tr G A (pyIter v)) (fun Q E h=>h) h1 fun s' β' v d O' e st sr rv=>?_;exact (za5 (target:=target) g hh sr rv (hs _ _ e)).weaken (fun Q E h=>h) fun uA uA uA uA r=>r.back st
end
noncomputable def yu(G:Gl)(F:Fm):List Addr->Heap->Flow->Fl->Prop:=fun β h f d=>match d with
 | .next=>f=.next
 | .ret v=>∃ val,f=.ret val/\VR G F.B β h val v
section
variable{G:Gl}{F:Fm}{A:Around}{cx:Cx}{gval:Nat->Option PyData}{gname:Nat->Option Str}
theorem dj{N β Z:List Addr}{O:za}{h:Heap}(br:BR G N β O h)(hz:∀ z∈Z,Itr h z):∀ z∈Z,z∉β:=fun z hz' hb=>by
 refine fG (ch hb) fun i hi=>?_;have hl:i < O.length:=by
  rw[<- br.len];refine fx (bn i β.length) ?_ ?_
  ·intro h;exact h
  ·intro h;rw[a7 h] at hi;contradiction
 have hx:=br.at_ i z _ hi (au hl);refine fP (hz z hz') fun o T fs e fy hf=>?_
 cases hb:O[i] with
 | lst xs=>rw[hb] at hx;obtain⟨o',vs,n,h1,h2,h3,_⟩:=hx;rw[e] at h1;injection h1 with fu;subst fu;rw[hf] at h3;contradiction
 | dct kvs=>rw[hb] at hx;obtain⟨o',vs,n,h1,h2,h3,_⟩:=hx;rw[e] at h1;injection h1 with fu;subst fu;rw[hf] at h3;contradiction
theorem Turns.over{target:Expr}{I:Addr}{Z:List Addr}{src:Src}{St:Nat->List Addr->List Addr->Heap->Prop}(W:Turns G A target I Z src St){i:Nat}{β β':List Addr}{ρ:Loc}{O:za}{s s':Shared}
 (sr:SR G F β ρ O s.heap) (hzB:∀ z∈Z,z∉F.B) (st:St i F.B β s.heap) (step:Step F.W β s s' β'):St i F.B β' s'.heap:=
 W.keep i F.B F.B β β' s.heap s'.heap st (fun z hz o e=>step.keptE e (dj sr.br (W.itr _ _ _ _ st) z hz) (fun hw=>hzB z hz (sr.fm.sub z hw)) fun es n q=>by
  refine fP (W.itr _ _ _ _ st z hz) fun o' fy fy e' fy hf=>?_;rw[e] at e';injection e' with fu;subst fu;rw[hf] at q;contradiction) (fun v x r=>r.step sr.br sr.fm step) step.pre
inductive FInv(G:Gl)(F:Fm)(src:Src)(β0:List Addr)(s0:Shared)(St:Nat->List Addr->List Addr->Heap->Prop)(go:List PyData->Loc->za->Prop)(k:Nat)(s:Shared):Prop
 | mk (i:Nat) (β:List Addr) (ρ:Loc) (O:za) (hk:k=src.xs.length+1 - i) (hi:i<=src.xs.length) (step:Step F.W β0 s0 s β) (sr:SR G F β ρ O s.heap) (has:src.Has O) (st:St i F.B β s.heap) (hgo:go (src.xs.drop i) ρ O)
inductive zd3(src:Src)(go:Loc->za->R (Loc×za) Fl)(fl:Fl)(S:Loc×za):Fl->Loc×za->Prop
 | ret (v:V) (h:fl=.ret v):zd3 src go fl S (.ret v) S
 | next (S':Loc×za) (hs:src.still S'.2=true) (hg:go S'.1 S'.2=.ok fl S):zd3 src go fl S .next S'
inductive zn2(src:Src)(c:CT)(evb:Loc->za->R (Loc×za) Fl)(x:PyData)(go:Loc->za->R (Loc×za) Fl)(ρ:Loc)(O:za)(fl:Fl)(S:Loc×za):Prop
 | mk (ρ':Loc) (f:Fl) (S':Loc×za) (hb:zu c (.d x) ρ=some ρ') (he:evb ρ' O=.ok f S') (hr:zd3 src go fl S f S')
theorem ze7{src:Src}{c:CT}{evb:Loc->za->R (Loc×za) Fl}{x:PyData}{go:Loc->za->R (Loc×za) Fl}{ρ:Loc}{O:za}{fl:Fl}{S:Loc×za} (h:(match j5 c evb x ρ O with
 | .ok (.ret v) S=>.ok (.ret v) S
 | .ok .next S=>if src.still S.2 then go S.1 S.2 else .stuck
 | _=>.stuck)=R.ok fl S):zn2 src c evb x go ρ O fl S:=by
 unfold j5 at h
 cases hb:zu c (.d x) ρ with
 | none=>rw[hb] at h;contradiction
 | some ρ'=>
   rw[hb] at h;dsimp only at h
   cases he:evb ρ' O with
   | ok f S'=>
     rw[he] at h
     cases f with
     | ret v=>injection h with fu fw;subst fu fw;exact⟨ρ',_,_,hb,he,.ret v rfl⟩
     | next=>
       dsimp only at h;by_cases hs:src.still S'.2=true
       ·rw[af hs] at h;exact⟨ρ',_,_,hb,he,.next S' hs h⟩
       ·rw[ak hs] at h;contradiction
   | _=>rw[he] at h;contradiction
theorem zpc{src:Src}{c:CT}{evb:Loc->za->R (Loc×za) Fl}{x:PyData}{xs:List PyData}{ρ:Loc}{O:za}{fl:Fl}{S:Loc×za}(h:zv src (j5 c evb) (x::xs) ρ O=.ok fl S):zn2 src c evb x (zv src (j5 c evb) xs) ρ O fl S:=ze7 h
theorem zj8{target:Expr}{c:CT}{own:Str->Bool}{body:List Stmt}{src:Src}{I:Addr}{Z:List Addr}{St:Nat->List Addr->List Addr->Heap->Prop}{evb:Loc->za->R (Loc×za) Fl}
 (g:GOk G gval gname) (hh:A.handled=none) (fit:Fits F cx) (hown:∀ x,own x=true->F.own x=true) (hc:chkT cx own c target=true)
 (hb:∀ s β ρ O,SR G F β ρ O s.heap->Does G F A s β (execs body F.env) (evb ρ O) (yu G F))
 (W:Turns G A target I Z src St) {s0 s:Shared} {β0 β:List Addr} {ρ0 ρ:Loc} {O0 O:za} (sr0:SR G F β0 ρ0 O0 s0.heap) (hz:∀ z∈Z,s0.heap.get? z=none)
 (step:Step F.W β0 s0 s β) (sr:SR G F β ρ O s.heap) (has:src.Has O) (st:St 0 F.B β s.heap) {fl:Fl} {S:Loc×za}
 (hgo:zv src (j5 c evb) src.xs ρ O=.ok fl S) {R:Result->Shared->Prop}
 (hR:∀ s' β' f,Step F.W β0 s0 s' β'->SR G F β' S.1 S.2 s'.heap->yu G F β' s'.heap f fl->R (.ok f) s') :
 codeAny G.m A (.forLoop target (.ref I) body [] F.env) R s:=by
 have hz0:∀ z∈Z,G.h₀.get? z=none:=fun z hz'=>by
  cases e:G.h₀.get? z with
  | none=>rfl
  | some o=>have:=sr0.br.keep z o e;rw[hz z hz'] at this;contradiction
 have hzB:∀ z∈Z,z∉F.B:=fun z hz' hB=>by
  refine fC (sr0.fm.stor z hB) fun o e fy=>?_;rw[hz z hz'] at e;contradiction
 refine codeAny_forLoop_any (FInv G F src β0 s0 St fun xs ρ O=>zv src (j5 c evb) xs ρ O=.ok fl S) ?_ (src.xs.length+1) ⟨0,β,ρ,O,rfl,be _,step,sr,has,st,hgo⟩;clear hgo st has sr step;intro k s hI;obtain⟨i,β,ρ,O,rfl,hi,step,sr,has,st,hgo⟩:=hI;have hitr:=W.itr _ _ _ _ st;by_cases hlt:i < src.xs.length
 ·rw[List.drop_eq_getElem_cons hlt] at hgo;have hx:src.xs[i]?=some src.xs[i]:=au hlt;generalize src.xs[i]=x at hgo hx;obtain⟨ρ',f,S',hbt,he,hrest⟩:=zpc hgo;refine W.item i F.B β O s x _ _ hx sr.br has st fun v s1A kk=>?_;refine kk _ _ fun s' kz rv st'=>?_;have sr':=sr.keepZ hitr kz.kept g.clsRef hz0 hzB;have step':=step.thenZ kz hz;have da:=x6 (A:=A) hh fit hown c hc sr' rv;unfold bindR at da;dsimp only at da;rw[hbt] at da;dsimp only at da;refine da _ _ fun s2A β2 uA st2 sr2 uA=>?_;have db:=hb s2A β2 ρ' O sr2;have stZ:=W.over sr' hzB st' st2;rw[he] at db;refine db _ _ fun s3A β3 f' st3 sr3 rf=>?_;have step3:=step'.trans (st2.trans st3)
  cases hrest with
  | ret u e=>
    subst e;refine fC rf ?_;clear rf;intro val eN rv';subst eN;exact hR s3A β3 (.ret val) step3 sr3 ⟨val,rfl,rv'⟩
  | next _ hst hgo=>
    have rf:f'=.next:=rf;subst rf;exact⟨src.xs.length+1 - (i+1),by lia,i+1,β3,S'.1,S'.2,rfl,hlt,step3,sr3,Src.has_of hst,W.over sr2 hzB stZ st3,hgo⟩
 ·have hie:i=src.xs.length:=by lia
  rw[hie,List.drop_length] at hgo;have hgo:Mine.R.ok Fl.next (ρ,O)=Mine.R.ok fl S:=hgo;injection hgo with fu fw;subst fu fw
  refine W.done i F.B β O s _ _ hie.symm sr.br has st fun s' kz=>?_;refine wpAny_execs_nil (hR s' β .next (step.thenZ kz hz) (sr.keepZ hitr kz.kept g.clsRef hz0 hzB) rfl)
theorem zqm{target x:Expr}{c:CT}{own:Str->Bool}{body:List Stmt}{pos:Pos}{r:R za Src}{evb:Loc->za->R (Loc×za) Fl}{s:Shared}{β:List Addr}{ρ:Loc}{O:za}
 (g:GOk G gval gname) (hh:A.handled=none) (fit:Fits F cx) (hown:∀ x,own x=true->F.own x=true) (hc:chkT cx own c target=true) (hset:∀ l k p,x≠.Set l k p)
 (hb:∀ s β ρ O,SR G F β ρ O s.heap->Does G F A s β (execs body F.env) (evb ρ O) (yu G F))
 (sr:SR G F β ρ O s.heap) (hI:DoesW G F s β (zck G A x F.env) (r.lift ρ) (IRel G F A target s)) (has:∀ src O',r=.ok src O'->src.Has O') :
 Does G F A s β (exec (.For target x body [] pos) F.env) ((r.lift ρ).bind fun src S=>zv src (j5 c evb) src.xs S.1 S.2) (yu G F):=by
 cases r with
 | stuck=>trivial
 | ok src O'=>
   show DoesW G F s β _ (zv src (j5 c evb) src.xs ρ O') _
   cases hgo:zv src (j5 c evb) src.xs ρ O' with
   | stuck=>trivial
   | ok fl S=>
     intro Q E k;refine wpAny_For (hI _ _ fun s' β' it st sr' ⟨I,Z,St,e,W,h0,hz⟩=>?_) fun v=>qj hset _ _;subst e;exact zj8 g hh fit hown hc hb W sr hz st sr' (has _ _ rfl) h0 hgo fun s' β' f st' sr'' rf=>k s' β' f st' sr'' rf
end
theorem dkv1:∀ l:List (PyData×PyData),PyData.depthAll (l.map (·.1))<=PyData.depthKv l
 | []=>aH _
 | (_,_)::r=>eB.mpr ⟨ai (bm _ _) (bm _ _),ai (dkv1 r) (a5 _ _)⟩
theorem dkv2:∀ l:List (PyData×PyData),PyData.depthAll (l.map (·.2))<=PyData.depthKv l
 | []=>aH _
 | (_,_)::r=>eB.mpr ⟨ai (a5 _ _) (bm _ _),ai (dkv2 r) (a5 _ _)⟩
inductive Sub(h:Heap)(b:Addr)(n:Nat):Prop
 | mk (x:PyData) (as:List Addr) (r:Reads h (.ref b) x as) (hs:x.depth<=n)
theorem Sub.le{h:Heap}{b:Addr}{n m:Nat}(s:Sub h b n)(hm:n<=m):Sub h b m:=let ⟨x,as,r,hs⟩:=s;⟨x,as,r,ai hs hm⟩
theorem zjd{h:Heap}{v:Value}{x:PyData}{as:List Addr}(r:Reads h v x as):∀ b∈as,Sub h b x.depth:=
 Reads.rec (motive_1:=fun uA x as uA=>∀ b∈as,Sub h b x.depth) (motive_2:=fun uA xs as uA=>∀ b∈as,Sub h b (PyData.depthAll xs))
  (fun uA h=>nomatch h) (fun uA uA h=>nomatch h) (fun uA uA uA h=>nomatch h) (fun uA uA uA h=>nomatch h)
  (fun h1 h2 h3 r ih b hb=>(ag.mp hb).elim (fun e=>e ▸ ⟨_,_,.list h1 h2 h3 r,aH _⟩) fun hb=>(ih b hb).le (cW _))
  (fun uA uA uA uA ih b hb=>(ih b hb).le (cW _))
  (fun h1 h2 h3 r1 r2 i1 i2 b hb=>(aj.mp hb).elim (fun hb=>(ag.mp hb).elim (fun e=>e ▸ ⟨_,_,.dict h1 h2 h3 r1 r2,aH _⟩) fun hb=>(i1 b hb).le (cP (dkv1 _))) fun hb=>(i2 b hb).le (cP (dkv2 _)))
  (fun uA h=>nomatch h) (fun uA uA i1 i2 b hb=>(aj.mp hb).elim (fun hb=>(i1 b hb).le (bm _ _)) fun hb=>(i2 b hb).le (a5 _ _)) r
theorem zda{h:Heap}{vs:List Value}{xs:List PyData}{as:List Addr}(r:ReadsAll h vs xs as):∀ b∈as,Sub h b (PyData.depthAll xs):=
 ReadsAll.rec (motive_1:=fun uA uA uA uA=>True) (motive_2:=fun uA xs as uA=>∀ b∈as,Sub h b (PyData.depthAll xs))
  trivial (fun uA=>trivial) (fun uA uA=>trivial) (fun uA uA=>trivial) (fun uA uA uA uA uA=>trivial) (fun uA uA uA uA uA=>trivial) (fun uA uA uA uA uA uA uA=>trivial)
  (fun uA h=>nomatch h) (fun r uA uA i2 b hb=>(aj.mp hb).elim (fun hb=>(zjd r b hb).le (bm _ _)) fun hb=>(i2 b hb).le (a5 _ _)) r
theorem zgo{h:Heap}{a:Addr}{o:Obj}{vs:Array Value}{n:Nat}{xs:List PyData}{as:List Addr}(h1:h.get? a=some o)(h2:o.cls=.type "list")(h3:o.data=.seq vs n)(r:ReadsAll h vs.toList xs as):a∉as:=fun ha=>by
 obtain⟨x',as',r',hs⟩:=zda r a ha;have:=(Reads.unique (Reads.list h1 h2 h3 r) _ _ r').1;subst this;exact Nat.not_succ_le_self _ hs
section
variable{G:Gl}{F:Fm}{A:Around}{β β':List Addr}{ρ:Loc}{O O':za}{s s':Shared}
theorem SR.outer(sr:SR G F β ρ O s.heap)(st:Step [] β s s' β')(br:BR G F.B β' O' s'.heap)(nb:∀ a∈F.B,a∉β'):SR G F β' ρ O' s'.heap:=by
 have st':Step F.W β s s' β':=⟨st.gens,st.os,st.pre,st.fresh,st.alive,fun b o e hb uA=>st.kept b o e hb (by simp)⟩;have hB:∀ a∈F.B,∀ o,s.heap.get? a=some o->∃ o',s'.heap.get? a=some o'/\Kin o o':=fun a ha o e=>st.kept a o e (sr.fm.notBox a ha) (by simp);have hL:F.env.locals∈F.B:=sr.fm.sub _ sr.fm.nsW;have hns:∀ m,s.heap.Ns F.env.locals m->s'.heap.Ns F.env.locals m:=fun m hm=>Kin.ns hm (hB _ hL);refine⟨br,⟨sr.fm.kind,sr.fm.globals,sr.fm.builtins,sr.fm.once,?_,sr.fm.nsW,?_,sr.fm.apart,sr.fm.sub,sr.fm.new,nb,?_,sr.fm.frB,fun a ha=>let ⟨m,hm⟩:=sr.fm.frs a ha;⟨m,Kin.ns hm (hB a (sr.fm.frB a ha))⟩,fun m e=>⟨hns m (sr.fm.pin m e).1,(sr.fm.pin m e).2⟩⟩,fun i x v h1 h2=>?_⟩
 ·obtain⟨m,hm⟩:=sr.fm.ns;exact fz m (hns m hm)
 ·intro x hx;refine fQ (sr.fm.cell x hx) fun c v h3 h4 h6 h7=>?_;exact fU c v h3 (Kin.cell h4 (hB c h6)) h6 h7
 ·intro a ha;refine fC (sr.fm.stor a ha) fun o h1 h2=>?_;refine fC (hB a ha o h1) fun o' e' kn=>?_;exact fD o' e' (fun vs n hv=>by rw[kn.cls];exact h2 vs n (kn.data.symm.trans hv))
 ·refine fC (sr.get i x v h1 h2) fun val g r=>?_;refine fD val ?_ (r.step sr.br sr.fm st');refine fx g ?_ ?_
  ·rintro ⟨g1,m,g2,g3⟩;exact .inl ⟨g1,m,hns m g2,g3⟩
  ·rintro ⟨g1,c,g2,g3⟩;refine fQ (sr.fm.cell x g1) fun c' v' h3 h4 h6 h7=>?_;rw[g2] at h3;injection h3 with fu;subst fu
   exact .inr ⟨g1,c,g2,Kin.cell g3 (hB c h6)⟩
theorem SR.keepNB{a:Addr}{bx₀:Box}(x:KeepsL F.env.locals s s')(r:SR G F β ρ O s.heap)(hn:s.heap.get? a=none)(hl:BoxAt s'.heap F.B (β++[a]) a bx₀)(hpl:Plain s'.heap a):Step F.W β s s' (β++[a])/\SR G F (β++[a]) ρ (O++[bx₀]) s'.heap:=by
 have sr':=r.keepL x;have st0:=x.step r.fm;have st:Step F.W β s s' (β++[a]):=⟨st0.gens,st0.os,List.prefix_append _ _,fun b hb=>by
  refine fx (aj.mp hb) ?_ ?_
  ·intro h;exact .inl h
  ·intro h;rw[ae.mp h];exact .inr hn,st0.alive,st0.kept⟩
 have aB:a∉F.B:=fun h=>by refine fC (r.fm.stor a h) fun o e fy=>?_;rw[hn] at e;contradiction
 have aβ:a∉β:=fun h=>by refine fC (r.br.alive a h) fun o e fy=>?_;rw[hn] at e;contradiction
 have nL:F.env.locals∈F.B:=r.fm.sub _ r.fm.nsW;have ne:∀ {b:Addr},b∈β->b≠F.env.locals:=fun hb e=>r.fm.notBox _ nL (e ▸ hb);refine⟨st,⟨⟨sr'.br.keep,by simp[r.br.len],?_,fun b hb=>?_,fun i b bx h1 h2=>?_,fun b hb=>(aj.mp hb).elim (sr'.br.plain b) fun h=>by rw[ae.mp h];exact hpl⟩,⟨sr'.fm.kind,sr'.fm.globals,sr'.fm.builtins,sr'.fm.once,sr'.fm.ns,sr'.fm.nsW,sr'.fm.cell,sr'.fm.apart,sr'.fm.sub,sr'.fm.new,fun b hb h=>?_,sr'.fm.stor,sr'.fm.frB,sr'.fm.frs,sr'.fm.pin⟩,fun i y v h1 h2=>?_⟩⟩
 ·rw[bT];exact⟨r.br.nodup,by simp,fun b hb c hc=>by rw[ae.mp hc];exact fun e=>aβ (e ▸ hb)⟩
 ·refine fx (aj.mp hb) ?_ ?_
  ·intro h;exact r.br.new b h
  ·intro h;rw[ae.mp h]
   cases e:G.h₀.get? a with
   | none=>rfl
   | some o=>have:=r.br.keep a o e;rw[hn] at this;contradiction
 ·refine fx (bn i β.length) ?_ ?_
  ·intro hi;rw[aJ hi] at h1;rw[aJ (by rw[<- r.br.len];exact hi)] at h2;have hb:=r.br.at_ i b bx h1 h2;have hne:=ne (ay h1)
   cases bx with
   | lst ys=>
     obtain⟨o,vs,n,e1,e2,e3,as,e4,e5⟩:=hb;refine fH (z0 r.br r.fm st e4 e5) fun q1 q2=>?_;exact⟨o,vs,n,x.kept _ _ hne e1,e2,e3,as,q1,q2⟩
   | dct kvs=>
     obtain⟨o,es,n,e1,e2,e3,e4,e5⟩:=hb;refine⟨o,es,n,x.kept _ _ hne e1,e2,e3,e4,fun i e kv he hkv=>?_⟩;obtain⟨hq,as,bs,r1,r2,q⟩:=e5 i e kv he hkv;refine fH (ya r.br r.fm st r1 fun a ha=>q a (aC _ ha)) fun p1 p2=>?_;refine fH (ya r.br r.fm st r2 fun a ha=>q a (aq _ ha)) fun p3 p4=>?_;exact⟨hq,as,bs,p1,p3,fun b hb=>(aj.mp hb).elim (p2 b) (p4 b)⟩
  ·intro hi;rw[aI hi] at h1;rw[aI (by rw[<- r.br.len];exact hi)] at h2;have hi0:i - β.length=0:=by
    refine fx (Nat.eq_zero_or_pos (i - β.length)) ?_ ?_
    ·intro h;exact h
    ·intro h;rw[a7 (show [a].length<=i - β.length from h)] at h1;contradiction
   rw[hi0] at h1;rw[<- r.br.len,hi0] at h2;injection h1 with fu;subst fu;injection h2 with fu;subst fu
   exact hl
 ·refine fx (aj.mp h) ?_ ?_
  ·intro h;exact r.fm.notBox b hb h
  ·intro h;rw[ae.mp h] at hb;exact aB hb
 ·refine fC (r.get i y v h1 h2) fun val g rv=>?_;refine fD val ?_ (rv.step r.br r.fm st);refine fx g ?_ ?_
  ·rintro ⟨g1,m,g2,g3⟩;exact .inl ⟨g1,m,x.ns m g2,g3⟩
  ·rintro ⟨g1,c,g2,o,g3,g4⟩;refine .inr ⟨g1,c,g2,o,x.kept _ _ (fun h=>?_) g3,g4⟩;obtain⟨m,o',es,ep,q1,q2,_⟩:=r.fm.ns;rw[h] at g3;rw[g3] at q1;injection q1 with fu;subst fu;rw[g4] at q2;contradiction
theorem SR.keepLB{a:Addr}{xs:List PyData}(x:KeepsL F.env.locals s s')(r:SR G F β ρ O s.heap)(hn:s.heap.get? a=none)(hl:ListAt s'.heap F.B β a xs)(hpl:Plain s'.heap a):Step F.W β s s' (β++[a])/\SR G F (β++[a]) ρ (O++[.lst xs]) s'.heap:=by
 obtain⟨o,vs,n,e1,e2,e3,as,e4,e5⟩:=hl;have hac:=zgo e1 e2 e3 e4;refine SR.keepNB x r hn (bx₀:=.lst xs) ⟨o,vs,n,e1,e2,e3,as,e4,fun b hb=>⟨fun h=>?_,(e5 b hb).2⟩⟩ hpl;refine fx (aj.mp h) ?_ ?_
 ·intro h;exact (e5 b hb).1 h
 ·intro h;rw[ae.mp h] at hb;exact hac hb
theorem R.bind_assoc{σ α β γ:Type}(r:R σ α)(f:α->σ->R σ β)(g:β->σ->R σ γ):(r.bind f).bind g=r.bind fun a s=>(f a s).bind g:=by cases r <;> rfl
theorem LeafD.box{T:WT Value}{c:PyData}(sr:SR G F β ρ O s.heap)(h:LeafD G F s β T (V.d c) (FRel G F s)):DoesW G F s β T ((boxK (.d c) O).lift ρ) (VRel G F):=by
 cases c with
 | list xs=>
   intro Q E k;refine h Q E fun v s' ka r=>?_;refine fN r.1.list_inv fun a eN hl fy=>?_;subst eN;refine fN (r.2 xs rfl) fun a' e hn hpl=>?_;injection e with fu;subst fu
   refine fH (SR.keepLB ka sr hn hl hpl) fun st sr'=>?_;exact k s' _ _ st sr' ⟨a,by rw[<- sr.br.len];simp,rfl⟩
 | _=>trivial
end
noncomputable def jl(env:Env):List (Str×NameKind)->List (Str×Addr)->List (Str×Addr)
 | [],cs=>cs
 | (n,k)::r,cs=>if k == .free then jl env r ((n,(env.cells.lookup n).getD 0)::cs) else jl env r cs
theorem kw(env:Env)(f:Str×NameKind->List (Str×Addr)->Sem (ForInStep (List (Str×Addr))))
 (hf:∀ name kind cs,f (name,kind) cs=if kind == .free then (do let a <- cellOf env name;pure (.yield ((name,a)::cs))) else pure (.yield cs)) :
 ∀ (names:List (Str×NameKind)) (acc:List (Str×Addr)),(∀ p∈names,p.2=.free->(env.cells.lookup p.1).isSome=true)->forIn names acc f=pure (jl env names acc)
 | [],acc,_=>by rw[bN];rfl
 | (n,k)::r,acc,h=>by
   rw[bI,hf];have hr:∀ p∈r,p.2=.free->(env.cells.lookup p.1).isSome=true:=fun p hp=>h p (ah _ hp);unfold jl
   cases hk:k == NameKind.free with
   | true=>
     have hk':k=.free:=by cases k <;> first | rfl | (exact absurd hk (by decide))
     refine fG (cm.mp (h (n,k) am hk')) fun c hc=>?_;have e:cellOf env n=pure c:=by unfold cellOf;rw[hc]
     simp only[if_true,e,pure_bind];rw[kw env f hf r _ hr,hc];rfl
   | false=>
     simp only[a9,cB,pure_bind];exact kw env f hf r _ hr
theorem wa{scope:Scope}{env:Env}(h:∀ p∈scope.names,p.2=.free->(env.cells.lookup p.1).isSome=true):closureFor scope env=pure (jl env scope.names []):=by
 unfold closureFor;dsimp only;rw[kw env _ (fun name kind cs=>rfl) scope.names [] h];rfl
theorem jz{env:Env}{x:Str}:∀ (names:List (Str×NameKind)) (acc:List (Str×Addr)),(jl env names acc).lookup x=if (x,NameKind.free)∈names then some ((env.cells.lookup x).getD 0) else acc.lookup x
 | [],acc=>by simp[jl]
 | (n,k)::r,acc=>by
   unfold jl
   cases hk:k == NameKind.free with
   | true=>
     have hk':k=.free:=by cases k <;> first | rfl | (exact absurd hk (by decide))
     subst hk';rw[af rfl,jz r];by_cases h:(x,NameKind.free)∈r
     ·rw[af h,af (ah _ h)]
     ·rw[ak h,bL]
      cases hx:x == n with
      | true=>
        have:x=n:=aQ.mp hx;subst this;rw[af am]
      | false=>
        rw[ak];intro hm;refine fx (ag.mp hm) ?_ ?_
        ·intro e;injection e with fu fw;subst fu;cases fw;rw[cA] at hx;contradiction
        ·intro hm;exact h hm
   | false=>
     rw[ak (by decide),jz r];by_cases h:(x,NameKind.free)∈r
     ·rw[af h,af (ah _ h)]
     ·rw[ak h,ak];intro hm;refine fx (ag.mp hm) ?_ ?_
      ·intro e;injection e with fu fw;subst fu fw;exact absurd hk (by decide)
      ·intro hm;exact h hm
theorem xt:∀ (names:List (Str×NameKind)) (n:Nat) (acc:List (Str×Addr)),cellsFrom n names acc=cellsFrom n names []++acc
 | [],n,acc=>rfl
 | (x,k)::r,n,acc=>by
   unfold cellsFrom;split
   ·rw[xt r (n+1) ((x,n)::acc),xt r (n+1) [(x,n)]];simp
   ·exact xt r n acc
set_option tactic.hygienic true in
theorem xr:∀ (names:List (Str×NameKind)) (n:Nat) (acc:List (Str×Addr)) {x:Str} {c:Addr},(x,c)∈cellsFrom n names acc->(x,NameKind.cell)∈names\/(x,c)∈acc
 | [],n,acc,x,c,h=>.inr h
 | (y,k)::r,n,acc,x,c,h=>by
   unfold cellsFrom at h;split at h
   ·rename_i hk;have hk':k=.cell:=by cases k <;> first | rfl | (exact absurd hk (by decide))
    subst hk';refine fx (xr r _ _ h) ?_ ?_
    ·intro h;exact .inl (ah _ h)
    ·intro h;refine fx (ag.mp h) ?_ ?_
     ·intro e;injection e with fu fw;subst fu fw;exact .inl am
     ·intro h;exact .inr h
   ·refine fx (xr r _ _ h) ?_ ?_
    ·intro h;exact .inl (ah _ h)
    ·intro h;exact .inr h
set_option tactic.hygienic true in
theorem yi:∀ (names:List (Str×NameKind)) (n:Nat) (acc:List (Str×Addr)) {x:Str},((x,NameKind.cell)∈names\/(acc.lookup x).isSome=true)->((cellsFrom n names acc).lookup x).isSome=true
 | [],n,acc,x,h=>by
   refine fx h ?_ ?_
   ·intro h;cases h
   ·intro h;exact h
 | (y,k)::r,n,acc,x,h=>by
   unfold cellsFrom;split
   ·rename_i hk;refine yi r _ _ ?_;refine fx h ?_ ?_
    ·intro h;refine fx (ag.mp h) ?_ ?_
     ·intro e;injection e with fu fw;subst fu fw;right;rw[bL,cA];rfl
     ·intro h;exact .inl h
    ·intro h;right;rw[bL]
     cases x == y with
     | true=>rfl
     | false=>exact h
   ·rename_i hk;refine yi r _ _ ?_;refine fx h ?_ ?_
    ·intro h;refine fx (ag.mp h) ?_ ?_
     ·intro e;injection e with fu fw;subst fu fw;exact absurd rfl hk
     ·intro h;exact .inl h
    ·intro h;exact .inr h
theorem lookup_mem{α:Type}:∀ {l:List (Str×α)} {x:Str} {k:α},(l.map (·.1)).Nodup->((x,k)∈l↔l.lookup x=some k)
 | [],x,k,_=>by simp
 | (y,j)::r,x,k,h=>by
   refine fH (bw.mp h) fun h1 h2=>?_;rw[bL]
   cases hx:x == y with
   | true=>
     have:x=y:=aQ.mp hx;subst this;constructor
     ·intro hm;refine fx (ag.mp hm) ?_ ?_
      ·intro e;injection e with fu fw;cases fu;subst fw;rfl
      ·intro hm;exact absurd (az.mpr ⟨(x,k),hm,rfl⟩) h1
     ·intro e;injection e with fu;subst fu;exact am
   | false=>
     rw[<- lookup_mem (l:=r) h2];constructor
     ·intro hm;refine fx (ag.mp hm) ?_ ?_
      ·intro e;injection e with fu fw;subst fu fw;rw[cA] at hx;contradiction
      ·intro hm;exact hm
     ·exact ah _
noncomputable def zfp(scope:Scope)(env:Env)(C:Addr)(cl:List (Str×Addr)):Env:=
 { scope:=scope,locals:=C,globals:=env.globals,cells:=cellsFrom (C+1) scope.names cl,qual:=env.qual,func:=none,code:=env.code,frame:=env.frame,builtins:=env.builtins }
theorem zfo{M:Model}{A:Around}{E:Value->Shared->Prop}{s:Shared}{scope:Scope}{env:Env}{cl:List (Str×Addr)}{Q:Env->Shared->Prop}
 (h:∀ s',KeepsAll s s'->s'.heap.Ns s.heap.objs.size (fun uA=>none)->CellsOk s'.heap (s.heap.objs.size+1) (cellsFrom (s.heap.objs.size+1) scope.names [])->Q (zfp scope env s.heap.objs.size cl) s') :
 wpAny M A (newFunctionEnv scope env.globals cl [] env.qual none .none (some env)) Q E s:=by
 simp only[newFunctionEnv,Option.isSome_some,if_true];refine aa (wpAny_alloc ?_);refine aa (wpAny_layCells _ (fun name kind cells=>by cases hkc:kind == NameKind.cell <;> simp[hkc]) _ _ _ _ ?_);have ok:=cellsFrom_ok scope.names (s.heap.push { cls:=.type "dict",data:=.dict #[] }) (s.heap.objs.size+1) [] ⟨fun uA uA hm=>(nomatch hm),List.Pairwise.nil⟩ (by rw [bv];exact aH _);rw[bv] at ok;rw [show ({ s with heap:=s.heap.push { cls:=.type "dict",data:=.dict #[] } }:Shared).heap.objs.size=s.heap.objs.size+1 from bv ..];simp only[bN];refine aa (ab (ab (h _ ⟨rfl,rfl,fun b o e=>pushCells_keeps _ _ b o (ac _ e)⟩ ?_ ok)));exact (Heap.Ns.new s.heap (.type "dict")).keeps (pushCells_keeps _ _)
noncomputable def yh:CT->List Nat
 | .name i=>[i]
 | .two a b=>yh a++yh b
noncomputable def clr:List Nat->Loc->Loc
 | [],ρ=>ρ
 | i::S,ρ=>(clr S ρ).set i none
theorem zba:∀ (S:List Nat) (ρ:Loc),(clr S ρ).length=ρ.length
 | [],_=>rfl
 | i::S,ρ=>by unfold clr;rw[bg,zba S ρ]
theorem vp:∀ (S:List Nat) (ρ:Loc) (i:Nat),i∉S->(clr S ρ)[i]?=ρ[i]?
 | [],_,_,_=>rfl
 | j::S,ρ,i,h=>by
   unfold clr;rw[cn (fun e=>h (by simp[e]))];exact vp S ρ i fun hm=>h (ah _ hm)
theorem za9:∀ (S:List Nat) (ρ:Loc) (i:Nat) (v:V),i∈S->(clr S ρ)[i]?≠some (some v)
 | j::S,ρ,i,v,h,e=>by
   unfold clr at e;rw[List.getElem?_set] at e;by_cases hj:j=i
   ·rw[af hj] at e;split at e <;> cases e
   ·rw[ak hj] at e;refine fx (ag.mp h) ?_ ?_
    ·rintro rfl;exact hj rfl
    ·intro h;exact za9 S ρ i v h e
def Agree(S:List Nat)(ρ ρ':Loc):Prop:=ρ.length=ρ'.length/\∀ i,i∉S->ρ[i]?=ρ'[i]?
theorem Agree.nil{ρ ρ':Loc}(h:Agree [] ρ ρ'):ρ=ρ':=List.ext_getElem? fun i=>h.2 i (by simp)
theorem zke(S:List Nat)(ρ:Loc):Agree S (clr S ρ) ρ:=⟨zba S ρ,fun i hi=>vp S ρ i hi⟩
theorem zja{S:List Nat}{ρ ρ':Loc}{i:Nat}{v:Option V}(h:Agree S ρ ρ'):Agree (S.filter fun j=>j != i) (ρ.set i v) (ρ'.set i v):=by
 refine⟨by rw[bg,bg];exact h.1,fun j hj=>?_⟩;rw[List.getElem?_set,List.getElem?_set];by_cases e:i=j
 ·rw[af e,af e,h.1]
 ·rw[ak e,ak e];refine h.2 j fun hm=>hj (bJ.mpr ⟨hm,?_⟩);simpa using fun e'=>e e'.symm
noncomputable def Both(S:List Nat):Option Loc->Option Loc->Prop
 | some r,some r'=>Agree S r r'
 | none,none=>True
 | _,_=>False
noncomputable def subL(S T:List Nat):List Nat:=S.filter fun j=>!T.contains j
theorem Agree.mono{S T:List Nat}{ρ ρ':Loc}(h:Agree S ρ ρ')(hs:∀ i∈S,i∈T):Agree T ρ ρ':=⟨h.1,fun i hi=>h.2 i fun hm=>hi (hs i hm)⟩
theorem zkh{S T U:List Nat}{f g:Loc->Option Loc}{a b:Option Loc}(h:Both S a b)(hf:∀ r r',Agree S r r'->Both T (f r) (g r')):Both T (a.bind f) (b.bind g):=by
 cases a <;> cases b <;> first | exact h | exact hf _ _ h | exact (show False from h).elim
theorem zfx:∀ (c:CT) (d:V) (S:List Nat) (ρ ρ':Loc),Agree S ρ ρ'->Both (subL S (yh c)) (zu c d ρ) (zu c d ρ'):=by
 intro c
 induction c with
 | name i=>
   intro d S ρ ρ' h;unfold zu;rw[h.1];by_cases hi:i < ρ'.length
   ·rw[af hi,af hi];refine (zja h).mono fun j hj=>?_;refine fH (bJ.mp hj) fun h1 h2=>?_;refine bJ.mpr ⟨h1,?_⟩;simp only[yh,List.contains_cons,List.contains_nil,Bool.or_false] at h2 ⊢
    simpa using h2
   ·rw[ak hi,ak hi];trivial
 | two a b iha ihb=>
   intro d S ρ ρ' h;have key:∀ (d1 d2:V),Both (subL S (yh (.two a b))) ((zu a d1 ρ).bind (zu b d2)) ((zu a d1 ρ').bind (zu b d2)):=fun d1 d2=>by
    refine zkh (U:=[]) (iha d1 S ρ ρ' h) fun r r' h'=>?_;have:=ihb d2 _ r r' h';revert this
    cases zu b d2 r <;> cases zu b d2 r' <;> intro this <;> first | exact this | skip
    refine Agree.mono this fun i hi=>?_;simp only[subL,bJ,yh,List.contains_eq_mem,aj,dW,decide_eq_false_iff_not] at hi ⊢
    exact⟨hi.1.1,fun hm=>hm.elim hi.1.2 hi.2⟩
   cases d with
   | d x=>
     unfold zu
     cases items x with
     | none=>trivial
     | some l=>
       match l with
       | [y,z]=>exact key _ _
       | []=>trivial
       | [_]=>trivial
       | _::_::_::_=>trivial
   | _=>trivial
theorem zki(c:CT)(d:V)(ρ:Loc):zu c d (clr (yh c) ρ)=zu c d ρ:=by
 have:=zfx c d _ _ _ (zke (yh c) ρ);have e:subL (yh c) (yh c)=[]:=by
  unfold subL;rw[List.filter_eq_nil_iff];intro a ha;simpa using ha
 rw[e] at this;revert this
 cases zu c d (clr (yh c) ρ) <;> cases zu c d ρ <;> intro this <;> first | rfl | exact this.elim | exact bR some this.nil
theorem zfw:∀ (c:CT) (d:V) (ρ ρ':Loc),zu c d ρ=some ρ'->∀ i,i∉yh c->ρ'[i]?=ρ[i]?:=by
 intro c
 induction c with
 | name j=>
   intro d ρ ρ' h i hi;unfold zu at h;split at h
   ·injection h with fu;subst fu;exact cn fun e=>hi (by simp[yh,e])
   ·contradiction
 | two a b iha ihb=>
   intro d ρ ρ' h i hi;simp only[yh,aj,not_or] at hi;have key:∀ (d1 d2:V),(zu a d1 ρ).bind (zu b d2)=some ρ'->ρ'[i]?=ρ[i]?:=fun d1 d2 h=>by
    cases h1:zu a d1 ρ with
    | none=>rw[h1] at h;contradiction
    | some r=>rw[h1] at h;exact (ihb d2 r ρ' h i hi.2).trans (iha d1 ρ r h1 i hi.1)
   cases d with
   | d x=>
     unfold zu at h
     cases hx:items x with
     | none=>rw[hx] at h;contradiction
     | some l=>
       rw[hx] at h
       match l,h with
       | [y,z],h=>exact key _ _ h
       | [],h=>contradiction
       | [_],h=>contradiction
       | _::_::_::_,h=>contradiction
   | _=>contradiction
theorem zhp:∀ (c:CT) (e:Expr) (l:List (Option Str)) (i:Nat) (x:Str),(addT c e l)[i]?=some (some x)->l[i]?=some (some x)\/i∈yh c:=by
 intro c
 induction c with
 | name j=>
   intro e l i x h
   cases e with
   | Name y p=>
     change (if l[j]? == some none then l.set j (some y) else l)[i]?=_ at h;split at h
     ·by_cases hj:j=i
      ·exact .inr (by simp[yh,hj])
      ·rw[cn hj] at h;exact .inl h
     ·exact .inl h
   | _=>exact .inl h
 | two a b iha ihb=>
   intro e l i x h
   cases e with
   | Tuple es k p=>
     match es,h with
     | [y,z],h=>
       refine fx (ihb _ _ _ _ h) ?_ ?_
       ·intro h;refine fx (iha _ _ _ _ h) ?_ ?_
        ·intro h;exact .inl h
        ·intro h;exact .inr (aC _ h)
       ·intro h;exact .inr (aq _ h)
     | [],h=>exact .inl h
     | [_],h=>exact .inl h
     | _::_::_::_,h=>exact .inl h
   | _=>exact .inl h
theorem zop{l:List (Option Str)}(h:xe l=true):∀ (i j:Nat) x,l[i]?=some (some x)->l[j]?=some (some x)->i=j:=by
 have h:(l.filterMap id).Nodup:=bp h
 induction l with
 | nil=>intro i j x h1;simp at h1
 | cons o l ih=>
   have hl:(l.filterMap id).Nodup:=by
    cases o with
    | none=>simpa using h
    | some y=>simp at h;exact h.2
   intro i j x h1 h2;have nin:∀ k,l[k]?=some (some x)->o≠some x:=fun k hk e=>by
    subst e;simp at h;have:some x∈l:=ay hk;exact h.1 this
   match i,j,h1,h2 with
   | 0,0,_,_=>rfl
   | 0,j+1,h1,h2=>simp at h1 h2;exact absurd h1 (nin j h2)
   | i+1,0,h1,h2=>simp at h1 h2;exact absurd h2 (nin i h1)
   | i+1,j+1,h1,h2=>simp at h1 h2;exact bR (· + 1) (ih (aA hl) hl i j x h1 h2)
section
variable{G:Gl}{N M β:List Addr}{O:za}{h:Heap}
theorem g8{as:List Addr}(al:∀ a∈as,∃ o,h.get? a=some o)(hM:∀ a∈M,h.get? a=none)(q:∀ a∈as,a∉β/\a∉N):∀ a∈as,a∉β/\a∉M++N:=fun a ha=>by
 refine⟨(q a ha).1,fun hm=>?_⟩;refine fx (aj.mp hm) ?_ ?_
 ·intro hm;refine fG (al a ha) fun o e=>?_;rw[hM a hm] at e;contradiction
 ·intro hm;exact (q a ha).2 hm
theorem ItsR.grow(hM:∀ a∈M,h.get? a=none){vs:List Value}{its:List It}(r:ItsR N β h vs its):ItsR (M++N) β h vs its:=by
 induction r with
 | nil=>exact .nil
 | b h1 _ ih=>exact .b h1 ih
 | x h1 h2 _ ih=>exact .x h1 (g8 (y7 h1) hM h2) ih
theorem VR.grow(hM:∀ a∈M,h.get? a=Option.none){v:Value}{x:V}(r:VR G N β h v x):VR G (M++N) β h v x:=by
 cases x with
 | d x=>obtain⟨as,r,q⟩:=r;exact⟨as,r,g8 (y7 r) hM q⟩
 | box n=>exact r
 | tm its=>obtain⟨a,o,vs,k,e,h1,h2,h3,h4⟩:=r;exact⟨a,o,vs,k,e,h1,h2,h3,h4.grow hM⟩
theorem BoxAt.grow(hM:∀ a∈M,h.get? a=none){a:Addr}{bx:Box}(r:BoxAt h N β a bx):BoxAt h (M++N) β a bx:=by
 cases bx with
 | lst xs=>obtain⟨o,vs,n,h1,h2,h3,as,h4,h5⟩:=r;exact⟨o,vs,n,h1,h2,h3,as,h4,g8 (qg h4) hM h5⟩
 | dct kvs=>
   obtain⟨o,es,n,h1,h2,h3,h4,h5⟩:=r;refine⟨o,es,n,h1,h2,h3,h4,fun i e kv he hkv=>?_⟩;obtain⟨hq,as,bs,r1,r2,q⟩:=h5 i e kv he hkv;exact⟨hq,as,bs,r1,r2,g8 (fun a ha=>(aj.mp ha).elim (y7 r1 a) (y7 r2 a)) hM q⟩
theorem BR.grow(hM:∀ a∈M,h.get? a=none)(b:BR G N β O h):BR G (M++N) β O h:=
 ⟨b.keep,b.len,b.nodup,b.new,fun i a bx h1 h2=>(b.at_ i a bx h1 h2).grow hM,b.plain⟩
theorem BoxAt.less{N':List Addr}(hs:∀ a∈N,a∈N'){a:Addr}{bx:Box}(r:BoxAt h N' β a bx):BoxAt h N β a bx:=by
 cases bx with
 | lst xs=>obtain⟨o,vs,n,h1,h2,h3,as,h4,h5⟩:=r;exact⟨o,vs,n,h1,h2,h3,as,h4,fun b hb=>⟨(h5 b hb).1,fun hn=>(h5 b hb).2 (hs b hn)⟩⟩
 | dct kvs=>
   obtain⟨o,es,n,h1,h2,h3,h4,h5⟩:=r;refine⟨o,es,n,h1,h2,h3,h4,fun i e kv he hkv=>?_⟩;obtain⟨hq,as,bs,r1,r2,q⟩:=h5 i e kv he hkv;exact⟨hq,as,bs,r1,r2,fun b hb=>⟨(q b hb).1,fun hn=>(q b hb).2 (hs b hn)⟩⟩
theorem BR.less{N':List Addr}(hs:∀ a∈N,a∈N')(b:BR G N' β O h):BR G N β O h:=
 ⟨b.keep,b.len,b.nodup,b.new,fun i a bx h1 h2=>(b.at_ i a bx h1 h2).less hs,b.plain⟩
theorem BR.but{D:Addr}{h':Heap}(hs:∀ b o,b≠D->h.get? b=some o->h'.get? b=some o)(hN:D∈N)(hb:D∉β)(h0:G.h₀.get? D=none)(ht:∀ o vs n,h.get? D=some o->o.data=.seq vs n->o.cls≠.type "tuple")(b:BR G N β O h):BR G N β O h':=by
 have rd:∀ {v:Value} {x:PyData} {as:List Addr},Reads h v x as->(∀ a∈as,a∉β/\a∉N)->Reads h' v x as:=fun r q=>
  jg (P:=fun a=>a≠D) (fun a o e p=>hs a o p e) (fun a o vs n e hc hd=>fun e'=>by subst e';exact ht o vs n e hd hc) r fun a ha e'=>(q a ha).2 (e' ▸ hN)
 have rda:∀ {v:List Value} {x:List PyData} {as:List Addr},ReadsAll h v x as->(∀ a∈as,a∉β/\a∉N)->ReadsAll h' v x as:=fun r q=>
  xq (P:=fun a=>a≠D) (fun a o e p=>hs a o p e) (fun a o vs n e hc hd=>fun e'=>by subst e';exact ht o vs n e hd hc) r fun a ha e'=>(q a ha).2 (e' ▸ hN)
 refine⟨fun c o e=>hs c o (fun e'=>by rw[e',h0] at e;contradiction) (b.keep c o e),b.len,b.nodup,b.new,fun i a bx h1 h2=>?_,fun a ha=>(b.plain a ha).at fun o e=>hs a o (fun e'=>hb (e' ▸ ha)) e⟩;have hx:=b.at_ i a bx h1 h2;have hne:a≠D:=fun e=>hb (e ▸ ay h1)
 cases bx with
 | lst xs=>obtain⟨o,vs,n,e1,e2,e3,as,e4,e5⟩:=hx;exact⟨o,vs,n,hs _ _ hne e1,e2,e3,as,rda e4 e5,e5⟩
 | dct kvs=>
   obtain⟨o,es,n,e1,e2,e3,e4,e5⟩:=hx;refine⟨o,es,n,hs _ _ hne e1,e2,e3,e4,fun i e kv he hkv=>?_⟩;obtain⟨hq,as,bs,r1,r2,q⟩:=e5 i e kv he hkv;exact⟨hq,as,bs,rd r1 fun a ha=>q a (aC _ ha),rd r2 fun a ha=>q a (aq _ ha),q⟩
theorem ItsR.but{D:Addr}{h':Heap}(hs:∀ b o,b≠D->h.get? b=some o->h'.get? b=some o)(hN:D∈N)(ht:∀ o vs n,h.get? D=some o->o.data=.seq vs n->o.cls≠.type "tuple"){vs:List Value}{its:List It}(r:ItsR N β h vs its):ItsR N β h' vs its:=by
 induction r with
 | nil=>exact .nil
 | b h1 _ ih=>exact .b h1 ih
 | x h1 h2 _ ih=>
   refine .x (jg (P:=fun a=>a≠D) (fun a o e p=>hs a o p e) (fun a o vs n e hc hd=>fun e'=>?_) h1 fun a ha e'=>(h2 a ha).2 (e' ▸ hN)) h2 ih;subst e';exact ht o vs n e hd hc
theorem VR.but{D:Addr}{h':Heap}(hs:∀ b o,b≠D->h.get? b=some o->h'.get? b=some o)(hN:D∈N)(ht:∀ o vs n,h.get? D=some o->o.data=.seq vs n->o.cls≠.type "tuple"){v:Value}{x:V}(r:VR G N β h v x):VR G N β h' v x:=by
 cases x with
 | d x=>
   obtain⟨as,r,q⟩:=r;refine⟨as,jg (P:=fun a=>a≠D) (fun a o e p=>hs a o p e) (fun a o vs n e hc hd=>fun e'=>?_) r fun a ha e'=>(q a ha).2 (e' ▸ hN),q⟩;subst e';exact ht o vs n e hd hc
 | box n=>exact r
 | tm its=>obtain⟨a,o,vs,k,e,h1,h2,h3,h4⟩:=r;exact⟨a,o,vs,k,e,hs _ _ (fun e'=>by subst e';exact ht o vs k h1 h3 h2) h1,h2,h3,h4.but hs hN ht⟩
end
theorem SR.but{G:Gl}{F:Fm}{β:List Addr}{ρ:Loc}{O:za}{h h':Heap}{D:Addr}{vs vs':Array Value}{n n':Nat}{o o':Obj}(hs:∀ b o,b≠D->h.get? b=some o->h'.get? b=some o)(hD:D∈F.B)(e:h.get? D=some o)(hc:o.cls=.type "list")(hd:o.data=.seq vs n)
 (e':h'.get? D=some o') (hc':o'.cls=.type "list") (sr:SR G F β ρ O h):SR G F β ρ O h':=by
 have ht:∀ o vs n,h.get? D=some o->o.data=.seq vs n->o.cls≠.type "tuple":=fun o2A vs2A n2A e2A uA=>by rw [e] at e2A;injection e2A with fu;subst fu;rw [hc];decide
 have notD:∀ {b:Addr} {o2A:Obj},h.get? b=some o2A->(∀ vs n,o2A.data≠.seq vs n)->b≠D:=fun e2A hn e3A=>by subst e3A;rw[e] at e2A;injection e2A with fu;subst fu;exact hn _ _ hd
 have hns:∀ {L m},h.Ns L m->h'.Ns L m:=fun ⟨o,es,ep,h1,h2,r⟩=>⟨o,es,ep,hs _ _ (notD h1 fun vs n q=>by rw[h2] at q;contradiction) h1,h2,r⟩;have hcell:∀ {c v},h.IsCell c v->h'.IsCell c v:=fun ⟨o,h1,h2⟩=>⟨o,hs _ _ (notD h1 fun vs n q=>by rw[h2] at q;contradiction) h1,h2⟩;refine⟨sr.br.but hs hD (sr.fm.notBox D hD) (sr.fm.newB hD (sr.br.notSysD e fun es n q=>by rw[hd] at q;contradiction)) ht,⟨sr.fm.kind,sr.fm.globals,sr.fm.builtins,sr.fm.once,let ⟨m,hm⟩:=sr.fm.ns;⟨m,hns hm⟩,sr.fm.nsW,fun x hx=>?_,sr.fm.apart,sr.fm.sub,sr.fm.new,sr.fm.notBox,fun a ha=>?_,sr.fm.frB,fun a ha=>let ⟨m,hm⟩:=sr.fm.frs a ha;⟨m,hns hm⟩,fun m e=>⟨hns (sr.fm.pin m e).1,(sr.fm.pin m e).2⟩⟩,fun i x v h1 h2=>?_⟩
 ·refine fL (sr.fm.cell x hx) fun c v h3 h4 h5=>?_;exact fK c v h3 (hcell h4) h5
 ·by_cases ha':a=D
  ·subst ha';exact fD o' e' (fun uA uA uA=>by rw[hc'];decide)
  ·refine fC (sr.fm.stor a ha) fun o2A h1 h2=>?_;exact fD o2A (hs _ _ ha' h1) h2
 ·refine fC (sr.get i x v h1 h2) fun val g r=>?_;refine fD val ?_ (r.but hs hD ht);refine fx g ?_ ?_
  ·rintro ⟨g1,m,g2,g3⟩;exact .inl ⟨g1,m,hns g2,g3⟩
  ·rintro ⟨g1,c,g2,g3⟩;exact .inr ⟨g1,c,g2,hcell g3⟩
theorem SR.fewer{G:Gl}{F:Fm}{β:List Addr}{ρ ρ':Loc}{O:za}{h:Heap}(sr:SR G F β ρ O h)(hs:∀ (i:Nat) v,ρ'[i]?=some (some v)->ρ[i]?=some (some v)):SR G F β ρ' O h:=
 ⟨sr.br,sr.fm,fun i x v h1 h2=>sr.get i x v h1 (hs i v h2)⟩
theorem Step.thenW{W0 W β0 β β':List Addr}{s0 s s':Shared}(st:Step W0 β0 s0 s β)(st':Step W β s s' β')(hW:∀ a∈W,s0.heap.get? a=none):Step W0 β0 s0 s' β' where
 gens:=st'.gens.trans st.gens
 os:=st'.os.trans st.os
 pre:=st.pre.trans st'.pre
 fresh:=fun a ha=>by
  refine fx (st'.fresh a ha) ?_ ?_
  ·intro h;exact st.fresh a h
  ·intro h;right
   cases e:s0.heap.get? a with
   | none=>rfl
   | some o=>refine fG (st.alive a o e) fun o' e'=>?_;rw[e'] at h;contradiction
 alive:=fun b o e=>let ⟨o',e'⟩:=st.alive b o e;st'.alive b o' e'
 kept:=fun b o e hb hW'=>by
  refine fC (st.kept b o e hb hW') fun o' e' kn=>?_;obtain⟨o'',e'',kn'⟩:=st'.kept b o' e' (fun hb'=>by
   refine fx (st.fresh b hb') ?_ ?_
   ·intro h;exact hb h
   ·intro h;rw[e] at h;contradiction) fun hw=>by rw[hW b hw] at e;contradiction
  exact fD o'' e'' (kn.trans kn')
noncomputable def zm(cx:Cx)(F:Fm)(tgt:CT)(t:Expr)(scope:Scope)(C D:Addr):Fm:=
 { env:={ zfp scope F.env C (jl F.env scope.names []) with scope:=relabel scope F.env }
   names:=(cx.inner tgt t scope).names
   own:=ownOf scope
   W:=C::(cellsFrom (C+1) scope.names []).map (·.2)
   B:=(D::C::(cellsFrom (C+1) scope.names []).map (·.2))++F.B
   fr:=F.fr }
theorem yq{scope sc:Scope}(h:y9 scope sc=true):scope.kind=.function/\(scope.names.map (·.1)).Nodup/\∀ x k,(x,k)∈scope.names->k=.local\/k=.cell\/k=.globalImplicit\/(k=.free/\sc.names.lookup x=some .cell):=by
 refine fI (and3 h) fun h1 h2 h3=>?_;refine⟨aQ.mp h1,bp h2,fun x k hm=>?_⟩;have:=aV.mp h3 (x,k) hm;simpa [cj,aM,aQ,or_assoc] using this
theorem w0(f:Str->NameKind->NameKind):∀ (l:List (Str×NameKind)) (x:Str),(l.map fun (n,k)=>(n,f n k)).lookup x=(l.lookup x).map (f x)
 | [],x=>rfl
 | (n,k)::r,x=>by
   rw[a6,bL,bL]
   cases hx:x == n with
   | true=>rw[aQ.mp hx];rfl
   | false=>exact w0 f r x
section
variable{G:Gl}{F:Fm}{A:Around}{cx:Cx}{tgt:CT}{t:Expr}{scope:Scope}
theorem zgm(fit:Fits F cx)(hk:F.env.scope.kind=.function):relabel scope F.env=zca scope cx.sc:=by
 unfold relabel zca;congr 1;refine cz fun p uA=>?_;obtain⟨n,k⟩:=p;have h1:F.env.kindOf n=cx.sc.names.lookup n:=fit.kind n;dsimp only;rw[h1,hk,fit.sck]
theorem zas(fit:Fits F cx)(hk:F.env.scope.kind=.function)(C D:Addr)(x:Str):(zm cx F tgt t scope C D).env.kindOf x=(cx.inner tgt t scope).kind x:=by
 show (relabel scope F.env).names.lookup x=(zca scope cx.sc).names.lookup x;rw[zgm fit hk]
theorem ze2(hsc:y9 scope cx.sc=true)(fit:Fits F cx)(x:Str):(cx.inner tgt t scope).kind x=(match scope.names.lookup x with | some .free=>some .cell | o=>o):=by
 refine fI (yq hsc) fun h1 h2 h3=>?_;show (zca scope cx.sc).names.lookup x=_;unfold zca;have e:(scope.names.map fun (n,k)=>if (k == NameKind.free && cx.sc.kind == ScopeKind.function && cx.sc.names.lookup n == some NameKind.cell) then (n,NameKind.cell) else (n,k)) =
  scope.names.map fun (n,k)=>(n,if (k == NameKind.free && cx.sc.kind == ScopeKind.function && cx.sc.names.lookup n == some NameKind.cell) then NameKind.cell else k):=by
  refine cz fun p uA=>?_;obtain⟨n,k⟩:=p;dsimp only;split <;> rfl
 dsimp only;rw[e,w0 (fun n k=>if (k == NameKind.free && cx.sc.kind == ScopeKind.function && cx.sc.names.lookup n == some NameKind.cell) then NameKind.cell else k)]
 cases hl:scope.names.lookup x with
 | none=>rfl
 | some k=>
   have hm:=(lookup_mem h2).mpr hl;dsimp only[Option.map];rcases h3 x k hm with rfl | rfl | rfl | ⟨rfl,hc⟩
   ·rfl
   ·rfl
   ·rfl
   ·rw[hc,fit.sck];rfl
theorem zat(fit:Fits F cx)(hk:F.env.scope.kind=.function)(hsc:y9 scope cx.sc=true)(C D:Addr):Fits (zm cx F tgt t scope C D) (cx.inner tgt t scope) where
 names:=rfl
 kind:=zas fit hk C D
 sck:=(yq hsc).1
end
section
variable{prog:Program}{w:World}{A:Around}{R:Result->Shared->Prop}{s:Shared}
noncomputable def y8(ifs:List Expr)(env:Env):Sem Bool:=forIn ifs true fun c r=>if r=true then do let ok <- isTrue c env (eval c env);pure (ForInStep.yield ok) else pure (ForInStep.yield r)
theorem qr{elt target iter:Expr}{ifs:List Expr}{scope:Scope}{pos:Pos}{it acc:Value}{env:Env}(I:Nat->Shared->Prop)
 (turn:∀ n s,I n s->wpAny (model prog w) A (pyNext it) (fun r s1A=>match r with
   | none=>R (.ok .next) s1A
   | some v=>wpAny (model prog w) A (letOwnedTupleGo target it v) (fun uA s1'=>wpAny (model prog w) A (assign target env v) (fun uA s2A=>
      wpAny (model prog w) A (y8 ifs env) (fun ok s3A=>
       if ok=true then wpAny (model prog w) A (eval elt env) (fun x s4A=>
        wpAny (model prog w) A (call (.builtin "list.append") [acc,x]) (fun uA s5=>∃ m,m < n/\I m s5) (notedBy (model prog w) A env fun e s'=>R (.error e) s') s4A) (notedBy (model prog w) A env fun e s'=>R (.error e) s') s3A
       else ∃ m,m < n/\I m s3A) (notedBy (model prog w) A env fun e s'=>R (.error e) s') s2A) (notedBy (model prog w) A env fun e s'=>R (.error e) s') s1') (notedBy (model prog w) A env fun e s'=>R (.error e) s') s1A)
   (notedBy (model prog w) A env fun e s'=>R (.error e) s') s)
 (n:Nat) (h:I n s):codeAny (model prog w) A (.compLoop (.ListComp elt [⟨target,iter,ifs,0⟩] scope pos) 0 it acc env) R s:=by
 refine codeAny_loop rfl I (fun n s hI=>?_) n h;show wpAny _ A ((compTurn (.ListComp elt [⟨target,iter,ifs,0⟩] scope pos) 0 it acc env).onRaise (fun x=>do noteFrame x env;theTreesLotGoes x)) _ _ s;refine wpAny_noted ?_;rw[compTurn_list];refine aa (cN (aa (aK (turn n s hI) (fun r s1A h₁=>?_) fun uA uA h'=>h')))
 cases r with
 | none=>exact ab h₁
 | some v=>
   refine aa (aK h₁ (fun uA s1' h1'A=>?_) fun uA uA h'=>h');refine aa (aK h1'A (fun uA s2A h2A=>aa (aK h2A (fun ok s3A h3A=>?_) fun uA uA h'=>h')) fun uA uA h'=>h')
   cases ok with
   | false=>exact ab ⟨rfl,h3A⟩
   | true=>
     exact aa (aa (aK h3A (fun x s4A h4A=>aa (aK h4A (fun uA s5 h5A=>ab (ab ⟨rfl,h5A⟩)) fun uA uA h'=>h')) fun uA uA h'=>h'))
end
section
variable{G:Gl}{F:Fm}{A:Around}{cx:Cx}{tgt:CT}{t:Expr}{scope:Scope}{gval:Nat->Option PyData}{gname:Nat->Option Str}
set_option tactic.hygienic true in
theorem zk2{β:List Addr}{ρ:Loc}{O:za}{s s':Shared}{C D:Addr}{m:Str->Option Value}{oD:Obj}(fit:Fits F cx)(sr:SR G F β ρ O s.heap)(hsc:y9 scope cx.sc=true)(honce:xe (cx.inner tgt t scope).names=true)
 (kept:∀ b o,s.heap.get? b=some o->s'.heap.get? b=some o) (hns:s'.heap.Ns C m) (ok:CellsOk s'.heap (C+1) (cellsFrom (C+1) scope.names [])) (hlo:∀ a,C<=a->s.heap.get? a=none)
 (hDn:s.heap.get? D=none) (hD:s'.heap.get? D=some oD) (hDc:oD.cls=.type "list"):SR G (zm cx F tgt t scope C D) β (clr (yh tgt) ρ) O s'.heap:=by
 refine fI (yq hsc) fun k1 k2 k3=>?_;have hkind:=zas (tgt:=tgt) (t:=t) (scope:=scope) fit sr.fm.kind C D;have hkind':=ze2 (tgt:=tgt) (t:=t) hsc fit;have hCn:s.heap.get? C=none:=hlo C (aH _);have hcn:∀ x c,(x,c)∈cellsFrom (C+1) scope.names []->s.heap.get? c=none:=fun x c hm=>hlo c (Nat.le_of_succ_le (ok.empty x c hm).2);have hM:∀ a∈D::C::(cellsFrom (C+1) scope.names []).map (·.2),s.heap.get? a=none:=fun a ha=>by
  refine fx (ag.mp ha) ?_ ?_
  ·rintro rfl;exact hDn
  ·intro ha;refine fx (ag.mp ha) ?_ ?_
   ·rintro rfl;exact hCn
   ·intro ha;refine fC (az.mp ha) fun p hp eO=>?_;subst eO;exact hcn p.1 p.2 hp
 have h0:∀ a,s.heap.get? a=none->G.h₀.get? a=none:=fun a ha=>by
  cases e:G.h₀.get? a with
  | none=>rfl
  | some o=>have:=sr.br.keep a o e;rw[ha] at this;contradiction
 have lkup:∀ x,(zm cx F tgt t scope C D).env.cells.lookup x=((cellsFrom (C+1) scope.names []).lookup x).or (if (x,NameKind.free)∈scope.names then some ((F.env.cells.lookup x).getD 0) else none):=fun x=>by
  show (cellsFrom (C+1) scope.names (jl F.env scope.names [])).lookup x=_;rw[xt,List.lookup_append,jz];rfl
 have newNone:∀ x,(x,NameKind.free)∈scope.names->(cellsFrom (C+1) scope.names []).lookup x=none:=fun x hx=>by
  cases e:(cellsFrom (C+1) scope.names []).lookup x with
  | none=>rfl
  | some c=>
    refine fx (xr _ _ _ (mem_of_lookup e)) ?_ ?_
    ·intro h;have e1:=(lookup_mem k2).mp hx;have e2:=(lookup_mem k2).mp h;rw[e1] at e2;injection e2 with fu;contradiction
    ·intro h;cases h
 have outer:∀ x,(x,NameKind.free)∈scope.names->∃ c v,F.env.cells.lookup x=some c/\s.heap.IsCell c v/\c∈F.B/\(zm cx F tgt t scope C D).env.cells.lookup x=some c:=fun x hx=>by
  have hc:cx.sc.names.lookup x=some .cell:=by
   rcases k3 x _ hx with h | h | h | ⟨_,h⟩
   ·contradiction
   ·contradiction
   ·contradiction
   ·exact h
  refine fQ (sr.fm.cell x ((fit.kind x).trans hc)) fun c v h1 h2 h3 fy=>?_;refine fU c v h1 h2 h3 ?_;rw[lkup,newNone x hx,af hx,h1];rfl
 refine⟨(sr.br.grow hM).keepAll kept,⟨k1,sr.fm.globals,sr.fm.builtins,zop honce,⟨m,hns⟩,am,fun x hx=>?_,fun x y c hx hy=>?_,fun a ha=>aC _ (ah _ ha),?_,fun a ha hb=>?_,fun a ha=>?_,fun a ha=>aq _ (sr.fm.frB a ha),fun a ha=>let ⟨m,hm⟩:=sr.fm.frs a ha;⟨m,hm.keeps kept⟩,fun m e=>nomatch e⟩,fun i x v h1 h2=>?_⟩
 ·rw[hkind,hkind'] at hx
  cases hl:scope.names.lookup x with
  | none=>rw[hl] at hx;contradiction
  | some k=>
    have hm:=(lookup_mem k2).mpr hl;rw[hl] at hx
    cases k with
    | cell=>
      refine fG (cm.mp (yi scope.names (C+1) [] (.inl hm))) fun c hc=>?_;have hmem:=mem_of_lookup hc;have hW:c∈C::(cellsFrom (C+1) scope.names []).map (·.2):=ah _ (az.mpr ⟨(x,c),hmem,rfl⟩);exact fU c none (by rw[lkup,hc];rfl) (ok.empty x c hmem).1 (aC _ (ah _ hW)) (fun uA=>hW)
    | free=>
      refine fQ (outer x hm) fun c v h1 h2 h3 h4=>?_;refine fU c v h4 (h2.keeps kept) (aq _ h3) (fun ho=>?_);have ho:ownOf scope x=true:=ho;unfold ownOf at ho;rw[hl] at ho;exact absurd ho (by decide)
    | _=>injection hx with fu;contradiction
 ·rw[lkup] at hx hy
  cases e1:(cellsFrom (C+1) scope.names []).lookup x with
  | some c1=>
    rw[e1] at hx;have:c1=c:=aN hx;subst this
    cases e2:(cellsFrom (C+1) scope.names []).lookup y with
    | some c2=>
      rw[e2] at hy;have:c2=c1:=aN hy;subst this;exact name_of_addr ok.apart (mem_of_lookup e1) (mem_of_lookup e2)
    | none=>
      rw[e2] at hy;by_cases hf:(y,NameKind.free)∈scope.names
      ·refine fQ (outer y hf) fun c' v q1 eP fy fy=>?_;refine fC eP fun o q2 fy=>?_;rw[af hf,q1] at hy;have:c'=c1:=aN hy;subst this;have:=hcn x c' (mem_of_lookup e1);rw[q2] at this;contradiction
      ·rw[ak hf] at hy;contradiction
  | none=>
    rw[e1] at hx;by_cases hf:(x,NameKind.free)∈scope.names
    ·refine fQ (outer x hf) fun c' v q1 eP fy fy=>?_;refine fC eP fun o q2 fy=>?_;rw[af hf,q1] at hx;have:c'=c:=aN hx;subst this
     cases e2:(cellsFrom (C+1) scope.names []).lookup y with
     | some c2=>
       rw[e2] at hy;have:c2=c':=aN hy;subst this;have:=hcn y c2 (mem_of_lookup e2);rw[q2] at this;contradiction
     | none=>
       rw[e2] at hy;by_cases hf':(y,NameKind.free)∈scope.names
       ·refine fR (outer y hf') fun c'' v' q1' fy=>?_;rw[af hf',q1'] at hy;have:c''=c':=aN hy;subst this;exact sr.fm.apart x y c'' q1 q1'
       ·rw[ak hf'] at hy;contradiction
    ·rw[ak hf] at hx;contradiction
 ·have:=zer (F:=F) (fr:=[]) sr.br hM ⟨sr.fm.new.1,sr.fm.new.2.1⟩;exact⟨this.1,this.2.1,fun hm=>this.2.2 (ah _ hm),sr.fm.new.2.2.2⟩
 ·refine fx (aj.mp ha) ?_ ?_
  ·intro ha;refine fC (sr.br.alive a hb) fun o e fy=>?_;rw[hM a ha] at e;contradiction
  ·intro ha;exact sr.fm.notBox a ha hb
 ·refine fx (aj.mp ha) ?_ ?_
  ·intro ha;refine fx (ag.mp ha) ?_ ?_
   ·rintro rfl;exact fD oD hD (fun uA uA uA=>by rw[hDc];decide)
   ·intro ha;refine fx (ag.mp ha) ?_ ?_
    ·rintro rfl;refine fP hns fun o es ep q1 q2 fy=>?_;exact fD o q1 (fun vs n q=>by rw[q2] at q;contradiction)
    ·intro ha;refine fC (az.mp ha) fun p hp eO=>?_;subst eO;refine fC (ok.empty p.1 p.2 hp).1 fun o q1 q2=>?_;exact fD o q1 (fun vs n q=>by rw[q2] at q;contradiction)
  ·intro ha;refine fC (sr.fm.stor a ha) fun o q1 q2=>?_;exact fD o (kept _ _ q1) q2
 ·have hi:i∉yh tgt:=fun hm=>za9 _ _ _ _ hm h2;rw[vp _ _ _ hi] at h2;refine fx (zhp tgt t _ i x h1) ?_ ?_
  ·intro h1;rw[aU] at h1
   cases hn:cx.names[i]? with
   | none=>rw[hn] at h1;contradiction
   | some o=>
     rw[hn] at h1
     cases o with
     | none=>injection h1 with fu;contradiction
     | some y=>
       simp only[cJ,Option.filter,Option.some.injEq] at h1;split at h1
       ·rename_i hfree
        cases (h1);have hfree:scope.names.lookup x=some .free:=aQ.mp hfree;have hm:=(lookup_mem k2).mpr hfree;refine fC (sr.get i x v (by rw[fit.names];exact hn) h2) fun val g r=>?_;refine fQ (outer x hm) fun c v' q1 q2 q3 q4=>?_;refine fD val ?_ ((r.grow hM).keepAll kept);have hcl:F.env.kindOf x=some .cell:=by
         rcases k3 x _ hm with h | h | h | ⟨_,h⟩
         ·contradiction
         ·contradiction
         ·contradiction
         ·exact (fit.kind x).trans h
        refine fx g ?_ ?_
        ·rintro ⟨g1,_⟩;rw[hcl] at g1;injection g1 with fu;contradiction
        ·rintro ⟨g1,c',g2,g3⟩;rw [q1] at g2;injection g2 with fu;subst fu
         refine .inr ⟨?_,c,q4,g3.keeps kept⟩;rw[hkind,hkind',hfree]
       ·contradiction
  ·intro h1;exact absurd h1 hi
structure StepZ(Z β:List Addr)(s s':Shared)(β':List Addr):Prop where
 gens:s'.gens=s.gens
 os:s'.os=s.os
 pre:β <+: β'
 fresh:∀ a∈β',a∈β\/s.heap.get? a=none
 alive:∀ b o,b∉Z->s.heap.get? b=some o->∃ o',s'.heap.get? b=some o'
 kept:∀ b o,b∉Z->s.heap.get? b=some o->b∉β->∃ o',s'.heap.get? b=some o'/\Kin o o'
theorem StepZ.keptE{Z β:List Addr}{s s':Shared}{β':List Addr}(x:StepZ Z β s s' β'){b:Addr}{o:Obj}(hz:b∉Z)(e:s.heap.get? b=some o)(hb:b∉β)(hd:∀ es n,o.data≠.dict es n):s'.heap.get? b=some o:=by
 refine fC (x.kept b o hz e hb) fun o' e' k=>?_;rw[e',k.same hd]
theorem Step.z{Z β β':List Addr}{s s' s'':Shared}(st:Step Z β s s' β')(kz:KeepsZ Z s' s''):StepZ Z β s s'' β':=
 ⟨kz.gens.trans st.gens,kz.os.trans st.os,st.pre,st.fresh,fun b o hz e=>let ⟨o',e'⟩:=st.alive b o e;⟨o',kz.kept b o' hz e'⟩,fun b o hz e hb=>let ⟨o',e',kn⟩:=st.kept b o e hb hz;⟨o',kz.kept b o' hz e',kn⟩⟩
theorem Step.thenStepZ{W Z β0 β β':List Addr}{s0 s s':Shared}(st:Step W β0 s0 s β)(sz:StepZ Z β s s' β')(hz:∀ z∈Z,s0.heap.get? z=none):Step W β0 s0 s' β' where
 gens:=sz.gens.trans st.gens
 os:=sz.os.trans st.os
 pre:=st.pre.trans sz.pre
 fresh:=fun a ha=>by
  refine fx (sz.fresh a ha) ?_ ?_
  ·intro h;exact st.fresh a h
  ·intro h;right
   cases e:s0.heap.get? a with
   | none=>rfl
   | some o=>refine fG (st.alive a o e) fun o' e'=>?_;rw[e'] at h;contradiction
 alive:=fun b o e=>by
  refine fG (st.alive b o e) fun o' e'=>?_;exact sz.alive b o' (fun h=>by rw[hz b h] at e;contradiction) e'
 kept:=fun b o e hb hW=>by
  refine fC (st.kept b o e hb hW) fun o' e' kn=>?_;obtain⟨o'',e'',kn'⟩:=sz.kept b o' (fun h=>by rw[hz b h] at e;contradiction) e' fun hb'=>by
   refine fx (st.fresh b hb') ?_ ?_
   ·intro h;exact hb h
   ·intro h;rw[e] at h;contradiction
  exact fD o'' e'' (kn.trans kn')
structure CompEnd(G:Gl)(F:Fm)(scope:Scope)(Z β1:List Addr)(s1A:Shared)(C D:Addr)(acc:List PyData)(O':za)(s':Shared)(β':List Addr):Prop where
 step:StepZ Z β1 s1A s' β'
 br:BR G (D::(C::(cellsFrom (C+1) scope.names []).map (·.2))++F.B) β' O' s'.heap
 list:ListAt s'.heap (D::(C::(cellsFrom (C+1) scope.names []).map (·.2))++F.B) β' D acc
 ns:∃ m,s'.heap.Ns C m
 stor:∀ a∈C::(cellsFrom (C+1) scope.names []).map (·.2),∃ o,s'.heap.get? a=some o/\∀ vs n,o.data=.seq vs n->o.cls≠.type "tuple"
 notBox:∀ a∈D::(C::(cellsFrom (C+1) scope.names []).map (·.2))++F.B,a∉β'
 new:∀ a∈D::C::(cellsFrom (C+1) scope.names []).map (·.2),s1A.heap.get? a=none
 notCell:D∉(cellsFrom (C+1) scope.names []).map (·.2)
 plain:Plain s'.heap D
inductive CInv(G:Gl)(F':Fm)(src:Src)(Z β1:List Addr)(s1A:Shared)(D:Addr)(ρc:Loc)(St:Nat->List Addr->List Addr->Heap->Prop)(go:List PyData->List PyData->za->Prop)(k:Nat)(s:Shared):Prop
 | mk (i:Nat) (β:List Addr) (O:za) (acc:List PyData) (hk:k=src.xs.length+1 - i) (hi:i<=src.xs.length) (step:Step Z β1 s1A s β) (sr:SR G F' β ρc O s.heap) (has:src.Has O) (st:St i F'.B β s.heap)
   (hl:ListAt s.heap F'.B β D acc) (hpl:Plain s.heap D) (hal:acc.length<=i) (hgo:go (src.xs.drop i) acc O)
inductive znz(evX:za->R za V)(O2:za):Bool->Option PyData->za->Prop
 | skip:znz evX O2 false none O2
 | put (d:PyData) (O':za) (h:evX O2=.ok (.d d) O'):znz evX O2 true (some d) O'
inductive TurnOk(tgt:CT)(evT:Loc->za->R za Bool)(evX:Loc->za->R za V)(ρ:Loc)(x:PyData)(O:za)(y:Option PyData)(O':za):Prop
 | mk (ρ':Loc) (b:Bool) (O2:za) (hb:zu tgt (.d x) ρ=some ρ') (ht:evT ρ' O=.ok b O2) (hp:znz (evX ρ') O2 b y O')
theorem zol{r:R za V}{y:Option PyData}{O':za}(h:(r.bind fun v O=>(match v with | .d y=>R.ok (some y) O | _=>.stuck))=.ok y O'):∃ d,r=.ok (.d d) O'/\y=some d:=by
 cases r with
 | ok v O=>cases v <;> first | (cases h;done) | skip
           exact fD _ (by injection h with fu fw;subst fu fw;rfl) (by injection h with fu fw;subst fu fw;rfl)
 | _=>contradiction
theorem zkt{tgt:CT}{evT:Loc->za->R za Bool}{evX:Loc->za->R za V}{ρ:Loc}{x:PyData}{O:za}{y:Option PyData}{O':za}(h:xk tgt evT evX ρ x O=.ok y O'):TurnOk tgt evT evX ρ x O y O':=by
 unfold xk at h
 cases hb:zu tgt (.d x) ρ with
 | none=>rw[hb] at h;contradiction
 | some ρ'=>
   rw[hb] at h;dsimp only at h
   cases ht:evT ρ' O with
   | ok b O2=>
     rw[ht] at h
     cases b with
     | false=>injection h with fu fw;subst fu fw;exact⟨ρ',false,_,hb,ht,.skip⟩
     | true=>refine fC (zol h) fun d e eO=>?_;subst eO;exact⟨ρ',true,O2,hb,ht,.put d O' e⟩
   | _=>rw[ht] at h;contradiction
inductive GoOk(src:Src)(turn:PyData->za->R za (Option PyData))(x:PyData)(xs acc:List PyData)(O:za)(v:V)(O':za):Prop
 | mk (y:Option PyData) (O2:za) (ht:turn x O=.ok y O2) (hs:src.still O2=true) (hg:yl src turn xs (acc++y.toList) O2=.ok v O')
theorem zsk{src:Src}{turn:PyData->za->R za (Option PyData)}{x:PyData}{xs acc:List PyData}{O:za}{v:V}{O':za}(h:yl src turn (x::xs) acc O=.ok v O'):GoOk src turn x xs acc O v O':=by
 have h:(match turn x O with
  | .ok y O'=>if src.still O' then yl src turn xs (acc++y.toList) O' else .stuck
  | _=>.stuck)=R.ok v O':=h
 cases ht:turn x O with
 | ok y O2=>
   rw[ht] at h;dsimp only at h;by_cases hs:src.still O2=true
   ·rw[af hs] at h;exact⟨y,O2,ht,hs,h⟩
   ·rw[ak hs] at h;contradiction
 | _=>rw[ht] at h;contradiction
theorem uq{F':Fm}{D:Addr}{acc:List PyData}{s s':Shared}{β β':List Addr}{ρ:Loc}{O:za}(hDB:D∈F'.B)(hDW:D∉F'.W)(sr:SR G F' β ρ O s.heap)(st:Step F'.W β s s' β')(h:ListAt s.heap F'.B β D acc):ListAt s'.heap F'.B β' D acc:=by
 obtain⟨o,vs,n,e1,e2,e3,as,e4,e5⟩:=h;refine fH (z0 sr.br sr.fm st e4 e5) fun q1 q2=>?_;exact⟨o,vs,n,st.keptE e1 (sr.fm.notBox D hDB) hDW (fun es n q=>by rw[e3] at q;contradiction),e2,e3,as,q1,q2⟩
theorem wi{F':Fm}{D:Addr}{acc:List PyData}{s s':Shared}{β β':List Addr}{ρ:Loc}{O:za}(hDB:D∈F'.B)(hDW:D∉F'.W)(sr:SR G F' β ρ O s.heap)(st:Step F'.W β s s' β')(p:Plain s.heap D)(h:ListAt s.heap F'.B β D acc):Plain s'.heap D:=by
 obtain⟨o,vs,n,e1,e2,e3,as,e4,e5⟩:=h;exact p.at fun o e=>st.keptE e (sr.fm.notBox D hDB) hDW (fun es n q=>by rw[e1] at e;injection e with fu;subst fu;rw[e3] at q;contradiction)
theorem zka{F':Fm}{D:Addr}{acc:List PyData}{s:Shared}{β:List Addr}{ρ:Loc}{O:za}{v:Value}{y:PyData}{Q:Value->Shared->Prop}{E:Value->Shared->Prop}(hDB:D∈F'.B)(sr:SR G F' β ρ O s.heap)(rv:VR G F'.B β s.heap v (.d y))(hl:ListAt s.heap F'.B β D acc)(hpl:Plain s.heap D)(hn:acc.length<=line)
 (k:∀ h',(∀ b o,b≠D->s.heap.get? b=some o->h'.get? b=some o)->(∃ o,h'.get? D=some o)->SR G F' β ρ O h'->(∀ v x,VR G F'.B β s.heap v (.d x)->VR G F'.B β h' v (.d x))->ListAt h' F'.B β D (acc++[y])->Plain h' D->Q .none { s with heap:=h' }) :
 wpAny G.m A (call (.builtin "list.append") [.ref D,v]) Q E s:=by
 obtain⟨o,vs,n,e1,e2,e3,as,e4,e5⟩:=hl;have hvl:=zd e4;have hvs:vs.size<=sizeLine:=by
  rw[<- av,hvl];exact ai hn (by decide)
 have hPL:s.heap.PlainList D vs:=by
  refine fN hpl fun o9 g1 g2 g3=>?_;rw[e1] at g1;injection g1 with fu;subst fu
  obtain⟨cl,di,da,sl⟩:=o;simp only at e2 e3 g2 g3;subst e2 e3 g2 g3;exact fz n e1
 refine wpAny_list_append_plain hPL (fun h' hl6 hs6=>?_) hvs;refine fG hl6 fun n' f1=>?_;have hs':∀ b o,b≠D->s.heap.get? b=some o->h'.get? b=some o:=fun b o hb e=>(hs6.2 b hb).trans e;have tup:∀ o2A vs2A n2A,s.heap.get? D=some o2A->o2A.data=.seq vs2A n2A->o2A.cls≠.type "tuple":=fun o2A vs2A n2A e2A uA=>by rw [e1] at e2A;injection e2A with fu;subst fu;rw [e2];decide
 have vr:∀ v x,VR G F'.B β s.heap v (.d x)->VR G F'.B β h' v (.d x):=fun v x r=>r.but hs' hDB tup;obtain⟨bs,r5,q5⟩:=vr _ _ rv;have r4:ReadsAll h' vs.toList acc as:=xq (P:=fun a=>a≠D) (fun a o e p=>hs' a o p e) (fun a o vs n e hc hd=>fun e'=>by subst e';exact tup o vs n e hd hc) e4 fun a ha e'=>(e5 a ha).2 (e' ▸ hDB);refine k h' hs' ⟨_,f1⟩ (sr.but (n':=n') (vs':=vs) hs' hDB e1 e2 e3 f1 rfl) vr ⟨_,_,n',f1,rfl,rfl,as++(bs++[]),?_,fun a ha=>?_⟩ ⟨_,f1,rfl,rfl⟩
 ·rw[dY];exact yz r4 (.cons r5 .nil)
 ·rw[bc] at ha;exact (aj.mp ha).elim (e5 a) (q5 a)
theorem zkb{elt iter:Expr}{ifs:List Expr}{pos:Pos}{src:Src}{I D:Addr}{Z:List Addr}{St:Nat->List Addr->List Addr->Heap->Prop}{evT:Loc->za->R za Bool}{evX:Loc->za->R za V}{F':Fm}{cx':Cx}{own:Str->Bool}
 (g:GOk G gval gname) (hh:A.handled=none) (fit':Fits F' cx') (hown:∀ x,own x=true->F'.own x=true) (hc:chkT cx' own tgt t=true)
 (ht:∀ s β ρ O,SR G F' β ρ O s.heap->Does G F' A s β (y8 ifs F'.env) ((evT ρ O).lift ρ) BRel)
 (he:∀ s β ρ O,SR G F' β ρ O s.heap->Does G F' A s β (eval elt F'.env) ((evX ρ O).lift ρ) (VRel G F'))
 (W:Turns G A t I Z src St) {s1A s:Shared} {β1:List Addr} {ρ:Loc} {O1:za} (hz0:∀ z∈Z,G.h₀.get? z=none) (hzF:∀ z∈Z,z∉F'.B) (hDn:s1A.heap.get? D=none) (hWn:∀ a∈F'.W,s1A.heap.get? a=none) (hDW:D∉F'.W) (hDB:D∈F'.B)
 (hlen:src.xs.length<=line) (step:Step Z β1 s1A s β1) (sr:SR G F' β1 (clr (yh tgt) ρ) O1 s.heap) (has:src.Has O1) (st:St 0 F'.B β1 s.heap) (hlist:s.heap.PlainList D #[])
 {v:V} {O':za} (hgo:yl src (xk tgt evT evX ρ) src.xs [] O1=.ok v O') {R:Result->Shared->Prop}
 (hR:∀ s' β' res,v=.d (.list res)->StepZ Z β1 s1A s' β'->SR G F' β' (clr (yh tgt) ρ) O' s'.heap->ListAt s'.heap F'.B β' D res->Plain s'.heap D->R (.ok .next) s') :
 codeAny G.m A (.compLoop (.ListComp elt [⟨t,iter,ifs,0⟩] scope pos) 0 (.ref I) (.ref D) F'.env) R s:=by
 refine fG hlist fun n e1=>?_;refine qr (CInv G F' src Z β1 s1A D (clr (yh tgt) ρ) St fun xs acc O=>yl src (xk tgt evT evX ρ) xs acc O=.ok v O') ?_ (src.xs.length+1) ⟨0,β1,O1,[],rfl,be _,step,sr,has,st,⟨_,_,n,e1,rfl,rfl,[],.nil,fun uA h=>nomatch h⟩,⟨_,e1,rfl,rfl⟩,aH _,hgo⟩;clear hgo st has sr step e1;intro k s hI;obtain⟨i,β,O,acc,rfl,hi,step,sr,has,st,hl,hpl,hal,hgo⟩:=hI;have hitr:=W.itr _ _ _ _ st;by_cases hlt:i < src.xs.length
 ·rw[List.drop_eq_getElem_cons hlt] at hgo;have hx:src.xs[i]?=some src.xs[i]:=au hlt;generalize src.xs[i]=x at hgo hx;obtain⟨y,O3,ht',hst,hgo⟩:=zsk hgo;obtain⟨ρ',b,O2,hbt,het,hput⟩:=zkt ht';refine W.item i _ β O s x _ _ hx sr.br has st fun v s2A kk=>?_;refine kk _ _ fun s' kz rv st'=>?_;have sr':=sr.keepZ hitr kz.kept g.clsRef hz0 hzF;have step':Step Z β1 s1A s' β:=⟨kz.gens.trans step.gens,kz.os.trans step.os,step.pre,step.fresh,fun b o e=>by
   by_cases hb:b∈Z
   ·refine fO (W.itr _ _ _ _ st' b hb) fun o' fy fy e' fy=>?_;exact fz o' e'
   ·refine fG (step.alive b o e) fun o' e'=>?_;exact fz o' (kz.kept b o' hb e'),fun b o e hb hz=>let ⟨o',e',kn⟩:=step.kept b o e hb hz;⟨o',kz.kept b o' hz e',kn⟩⟩
  have hl':ListAt s'.heap F'.B β D acc:=BoxAt.keepZ (bx:=.lst acc) hitr kz.kept hl;have hpl':Plain s'.heap D:=hpl.at fun o e=>kz.kept D o (fun h=>hzF D h hDB) e;have da:=x6 (A:=A) hh fit' hown tgt hc sr' rv;unfold bindR at da;dsimp only at da;rw[zki,hbt] at da;dsimp only at da;refine da _ _ fun s3A β3 uA st3 sr3 uA=>?_;have step3:=step'.thenW st3 hWn;have stZ3:=W.over sr' hzF st' st3;have hl3:=uq hDB hDW sr' st3 hl';have hpl3:=wi hDB hDW sr' st3 hpl' hl';have clear':∀ {s β O},SR G F' β ρ' O s->SR G F' β (clr (yh tgt) ρ) O s:=fun sr=>sr.fewer fun j v hv=>by
   have hj:j∉yh tgt:=fun hm=>za9 _ _ _ _ hm hv;rw[vp _ _ _ hj] at hv;rw[zfw tgt _ ρ ρ' hbt j hj];exact hv
  have dt:=ht s3A β3 ρ' O sr3;rw[het] at dt;refine dt _ _ fun s4A β4 b' st4 sr4 hb=>?_;have hb:b'=b:=hb;subst hb;have step4:=step3.thenW st4 hWn;have stZ4:=W.over sr3 hzF stZ3 st4;have hl4A:=uq hDB hDW sr3 st4 hl3;have hpl4:=wi hDB hDW sr3 st4 hpl3 hl3;have hk:src.xs.length+1 - (i+1) < src.xs.length+1 - i:=by lia
  cases hput with
  | skip=>
    rw[ak (by decide)];rw[Option.toList_none,bc] at hgo;exact⟨_,hk,i+1,β4,_,acc,rfl,hlt,step4,clear' sr4,Src.has_of hst,stZ4,hl4A,hpl4,cP hal,hgo⟩
  | put y _ hex=>
    rw[af rfl];have dx:=he s4A β4 ρ' O2 sr4;rw[hex] at dx;refine dx _ _ fun s5 β5 v5A st5A sr5 rv5=>?_;have step5:=step4.thenW st5A hWn;have stZ5:=W.over sr4 hzF stZ4 st5A;refine zka hDB sr5 rv5 (uq hDB hDW sr4 st5A hl4A) (wi hDB hDW sr4 st5A hpl4 hl4A) (ai hal (ai (cG hlt) hlen)) fun h' hs' hD sr6 vr6 hl6 hpl6=>?_;refine⟨_,hk,i+1,β5,O3,acc++[y],rfl,hlt,?_,clear' sr6,Src.has_of hst,W.keep _ _ _ _ _ _ _ stZ5 (fun z hz o e=>hs' z o (fun e'=>hzF z hz (e' ▸ hDB)) e) vr6 (bz _),hl6,hpl6,by rw[ba];exact bM hal,hgo⟩;exact⟨step5.gens,step5.os,step5.pre,step5.fresh,fun b o e=>by
     by_cases hb:b=D
     ·subst hb;exact hD
     ·refine fG (step5.alive b o e) fun o2A e2A=>?_;exact fz o2A (hs' b o2A hb e2A),fun b o e hb hz=>let ⟨o',e',kn⟩:=step5.kept b o e hb hz;⟨o',hs' b o' (fun e2A=>by subst e2A;rw[hDn] at e;contradiction) e',kn⟩⟩
 ·have hie:i=src.xs.length:=by lia
  rw[hie,List.drop_length] at hgo;have hgo:Mine.R.ok (V.d (.list acc)) O=Mine.R.ok v O':=hgo;injection hgo with fu fw;subst fu fw
  refine W.done i _ β _ s _ _ hie.symm sr.br has st fun s' kz=>?_;exact hR s' β acc rfl (step.z kz) (sr.keepZ hitr kz.kept g.clsRef hz0 hzF) (BoxAt.keepZ (bx:=.lst _) hitr kz.kept hl) (hpl.at fun o e=>kz.kept D o (fun h=>hzF D h hDB) e)
theorem zhk{elt iter:Expr}{ifs:List Expr}{pos:Pos}{src:Src}{I C D:Addr}{Z:List Addr}{St:Nat->List Addr->List Addr->Heap->Prop}{evT:Loc->za->R za Bool}{evX:Loc->za->R za V}
 (g:GOk G gval gname) (hh:A.handled=none) (fit':Fits (zm cx F tgt t scope C D) (cx.inner tgt t scope)) (hc:chkT (cx.inner tgt t scope) (ownOf scope) tgt t=true)
 (ht:∀ s β ρ O,SR G (zm cx F tgt t scope C D) β ρ O s.heap->Does G (zm cx F tgt t scope C D) A s β (y8 ifs (zm cx F tgt t scope C D).env) ((evT ρ O).lift ρ) BRel)
 (he:∀ s β ρ O,SR G (zm cx F tgt t scope C D) β ρ O s.heap->Does G (zm cx F tgt t scope C D) A s β (eval elt (zm cx F tgt t scope C D).env) ((evX ρ O).lift ρ) (VRel G (zm cx F tgt t scope C D)))
 (W:Turns G A t I Z src St) {s1A s:Shared} {β1:List Addr} {ρ:Loc} {O1:za} (hz1:∀ z∈Z,Itr s1A.heap z) (hz0:∀ z∈Z,G.h₀.get? z=none) (hzB:∀ z∈Z,z∉F.B)
 (hM:∀ a∈D::C::(cellsFrom (C+1) scope.names []).map (·.2),s1A.heap.get? a=none) (hDC:D≠C) (hDcell:∀ x,(x,D)∉cellsFrom (C+1) scope.names [])
 (hlen:src.xs.length<=line)
 (step:Step Z β1 s1A s β1) (sr:SR G (zm cx F tgt t scope C D) β1 (clr (yh tgt) ρ) O1 s.heap) (has:src.Has O1) (st:St 0 (zm cx F tgt t scope C D).B β1 s.heap) (hlist:s.heap.PlainList D #[])
 {res:List PyData} {O':za}
 (hgo:yl src (xk tgt evT evX ρ) src.xs [] O1=.ok (.d (.list res)) O') {R:Result->Shared->Prop}
 (hR:∀ s' β',CompEnd G F scope Z β1 s1A C D res O' s' β'->R (.ok .next) s') :
 codeAny G.m A (.compLoop (.ListComp elt [⟨t,iter,ifs,0⟩] scope pos) 0 (.ref I) (.ref D) (zm cx F tgt t scope C D).env) R s:=by
 have hzF:∀ z∈Z,z∉(zm cx F tgt t scope C D).B:=fun z hz hm=>by
  refine fx (aj.mp hm) ?_ ?_
  ·intro hm;refine fO (hz1 z hz) fun o fy fy e fy=>?_;rw[hM z hm] at e;contradiction
  ·intro hm;exact hzB z hz hm
 have hDW:D∉(zm cx F tgt t scope C D).W:=fun hm=>by
  refine fx (ag.mp hm) ?_ ?_
  ·intro e;exact hDC e
  ·intro hm;refine fC (az.mp hm) fun p hp e=>?_;exact hDcell p.1 (by rw[<- e];exact hp)
 refine zkb g hh fit' (fun x h=>h) hc ht he W hz0 hzF (hM D am) (fun a ha=>hM a (ah _ ha)) hDW am hlen step sr has st hlist hgo fun s' β res' e sz sr' hl hpl=>?_;injection e with fu;injection fu with fu;subst fu
 exact hR s' β ⟨sz,sr'.br,hl,sr'.fm.ns,fun a ha=>sr'.fm.stor a (aC _ (ah _ ha)),sr'.fm.notBox,hM,fun hm=>hDW (ah _ hm),hpl⟩
end
noncomputable def Fm.plus(F:Fm)(M:List Addr):Fm:={ F with B:=M++F.B }
section
variable{G:Gl}{F:Fm}{A:Around}{Z β β' N M:List Addr}{O O':za}{ρ:Loc}{s s':Shared}(hz:∀ z∈Z,Itr s.heap z)(hc:∀ c,∃ C,G.cls c=.ref C)(sz:StepZ Z β s s' β')
include hz sz
theorem zdo{as:List Addr}(al:∀ a∈as,∃ o,s.heap.get? a=some o)(q:∀ a∈as,a∉β/\a∉N):∀ a∈as,a∉β'/\a∉N:=fun a ha=>by
 refine⟨fun hb=>?_,(q a ha).2⟩;refine fx (sz.fresh a hb) ?_ ?_
 ·intro h;exact (q a ha).1 h
 ·intro h;refine fG (al a ha) fun o e=>?_;rw[e] at h;contradiction
theorem u8(br:BR G N β O s.heap){v:Value}{x:PyData}{as:List Addr}(r:Reads s.heap v x as)(q:∀ a∈as,a∉β/\a∉N):Reads s'.heap v x as/\∀ a∈as,a∉β'/\a∉N:=by
 refine⟨vb (P:=fun a=>a∉β/\a∉Z) (fun a o e p=>sz.kept a o p.2 e p.1) (fun a o vs n e hcl hd=>⟨fun hb=>?_,notZ hz e fun fs h=>by rw[hd] at h;contradiction⟩) r fun a ha=>⟨(q a ha).1,let ⟨o,e,hd⟩:=uj r a ha;notZ hz e hd⟩,zdo hz sz (y7 r) q⟩;refine fC (br.alive a hb) fun o' e' h'=>?_;rw[e] at e';injection e' with fu;subst fu
 rw[hcl] at h';refine fx h' (fun h'=>?_) fun h'=>?_ <;> exact absurd h' (by decide)
theorem ItsR.stepZ(br:BR G N β O s.heap){vs:List Value}{its:List It}(r:ItsR N β s.heap vs its):ItsR N β' s'.heap vs its:=by
 induction r with
 | nil=>exact .nil
 | b h1 _ ih=>exact .b (x9 sz.pre h1) ih
 | x h1 h2 _ ih=>refine fH (u8 hz sz br h1 h2) fun r' q'=>?_;exact .x r' q' ih
include hc in
theorem VR.stepZ(br:BR G N β O s.heap){v:Value}{x:V}(r:VR G N β s.heap v x):VR G N β' s'.heap v x:=by
 have nb:∀ {a:Addr} {o:Obj},s.heap.get? a=some o->a∉β->a∉β':=fun e h hb=>by
  refine fx (sz.fresh _ hb) ?_ ?_
  ·intro h';exact h h'
  ·intro h';rw[e] at h';contradiction
 cases x with
 | d x=>obtain⟨as,r,q⟩:=r;refine fH (u8 hz sz br r q) fun r' q'=>?_;exact⟨as,r',q'⟩
 | box n=>obtain⟨a,h1,h2⟩:=r;exact⟨a,x9 sz.pre h1,h2⟩
 | tm its=>
   obtain⟨a,o,vs,k,rfl,h1,h2,h3,h4⟩:=r;refine⟨a,o,vs,k,rfl,sz.keptE (notZ hz h1 fun fs h=>by rw[h3] at h;contradiction) h1 (fun hb=>?_) (fun es n q=>by rw[h3] at q;contradiction),h2,h3,ItsR.stepZ hz sz br h4⟩;refine fC (br.alive a hb) fun o' e' h'=>?_;rw[h1] at e';injection e' with fu;subst fu;rw[h2] at h';refine fx h' (fun h'=>?_) fun h'=>?_ <;> exact absurd h' (by decide)
include hc in
theorem SR.outerZ(sr:SR G F β ρ O s.heap)(hzB:∀ z∈Z,z∉F.B)(hM:∀ a∈M,s.heap.get? a=none)(br:BR G (M++F.B) β' O' s'.heap)(nb:∀ a∈M++F.B,a∉β')
 (hst:∀ a∈M,∃ o,s'.heap.get? a=some o/\∀ vs n,o.data=.seq vs n->o.cls≠.type "tuple"):SR G (F.plus M) β' ρ O' s'.heap:=by
 have hB:∀ a∈F.B,∀ o,s.heap.get? a=some o->∃ o',s'.heap.get? a=some o'/\Kin o o':=fun a ha o e=>sz.kept a o (fun h=>hzB a h ha) e (sr.fm.notBox a ha);have hL:F.env.locals∈F.B:=sr.fm.sub _ sr.fm.nsW;have hns:∀ m,s.heap.Ns F.env.locals m->s'.heap.Ns F.env.locals m:=fun m hm=>Kin.ns hm (hB _ hL);refine⟨br,⟨sr.fm.kind,sr.fm.globals,sr.fm.builtins,sr.fm.once,?_,sr.fm.nsW,?_,sr.fm.apart,fun a ha=>aq _ (sr.fm.sub a ha),?_,nb,fun a ha=>?_,fun a ha=>aq _ (sr.fm.frB a ha),fun a ha=>let ⟨m,hm⟩:=sr.fm.frs a ha;⟨m,Kin.ns hm (hB a (sr.fm.frB a ha))⟩,fun m e=>⟨hns m (sr.fm.pin m e).1,(sr.fm.pin m e).2⟩⟩,fun i x v h1 h2=>?_⟩
 ·obtain⟨m,hm⟩:=sr.fm.ns;exact fz m (hns m hm)
 ·intro x hx;refine fQ (sr.fm.cell x hx) fun c v h3 h4 h6 h7=>?_;exact fU c v h3 (Kin.cell h4 (hB c h6)) (aq _ h6) h7
 ·have:=zer (F:=F) (fr:=[]) sr.br hM ⟨sr.fm.new.1,sr.fm.new.2.1⟩;exact⟨this.1,this.2.1,sr.fm.new.2.2⟩
 ·refine fx (aj.mp ha) ?_ ?_
  ·intro ha;exact hst a ha
  ·intro ha;refine fC (sr.fm.stor a ha) fun o h1 h2=>?_;refine fC (hB a ha o h1) fun o' e' kn=>?_;exact fD o' e' (fun vs n hv=>by rw[kn.cls];exact h2 vs n (kn.data.symm.trans hv))
 ·refine fC (sr.get i x v h1 h2) fun val g r=>?_;refine fD val ?_ ((r.grow hM).stepZ hz hc sz (sr.br.grow hM));refine fx g ?_ ?_
  ·rintro ⟨g1,m,g2,g3⟩;exact .inl ⟨g1,m,hns m g2,g3⟩
  ·rintro ⟨g1,c,g2,g3⟩;refine fQ (sr.fm.cell x g1) fun c' v' h3 h4 h6 h7=>?_;rw[g2] at h3;injection h3 with fu;subst fu
   exact .inr ⟨g1,c,g2,Kin.cell g3 (hB c h6)⟩
end
section
variable{G:Gl}{F:Fm}{A:Around}{β β1 N M:List Addr}{O:za}{ρ:Loc}{h h' h₁:Heap}
theorem ItsR.less{N':List Addr}(hs:∀ a∈N,a∈N'){vs:List Value}{its:List It}(r:ItsR N' β h vs its):ItsR N β h vs its:=by
 induction r with
 | nil=>exact .nil
 | b h1 _ ih=>exact .b h1 ih
 | x h1 h2 _ ih=>exact .x h1 (fun a ha=>⟨(h2 a ha).1,fun hn=>(h2 a ha).2 (hs a hn)⟩) ih
theorem VR.less{N':List Addr}(hs:∀ a∈N,a∈N'){v:Value}{x:V}(r:VR G N' β h v x):VR G N β h v x:=by
 cases x with
 | d x=>obtain⟨as,r,q⟩:=r;exact⟨as,r,fun a ha=>⟨(q a ha).1,fun hn=>(q a ha).2 (hs a hn)⟩⟩
 | box n=>exact r
 | tm its=>obtain⟨a,o,vs,k,e,h1,h2,h3,h4⟩:=r;exact⟨a,o,vs,k,e,h1,h2,h3,h4.less hs⟩
theorem SR.drop{C:Addr}(fm:FmOk G F β1 h₁)(sr:SR G (F.plus M) β ρ O h)(hC:C∈M)(hCB:C∉F.B)(hs:∀ b o,b≠C->h.get? b=some o->h'.get? b=some o):SR G F β ρ O h':=by
 have hCM:C∈(F.plus M).B:=aC _ hC;have ht:∀ o vs n,h.get? C=some o->o.data=.seq vs n->o.cls≠.type "tuple":=fun o vs n e hd=>by
  refine fC (sr.fm.stor C hCM) fun o' e' q=>?_;rw[e] at e';injection e' with fu;subst fu
  exact q vs n hd
 have sub:∀ a∈F.B,a∈(F.plus M).B:=fun a ha=>aq _ ha;have hL:F.env.locals∈F.B:=fm.sub _ fm.nsW;have hB:∀ a∈F.B,∀ o,h.get? a=some o->h'.get? a=some o:=fun a ha o e=>hs a o (fun e'=>hCB (e' ▸ ha)) e;have hns:∀ m,h.Ns F.env.locals m->h'.Ns F.env.locals m:=fun m ⟨o,es,ep,h1,r⟩=>⟨o,es,ep,hB _ hL o h1,r⟩;refine⟨(sr.br.but hs hCM (sr.fm.notBox C hCM) (sr.fm.newB hCM fun e=>hCB (e ▸ fm.new.2.1)) ht).less sub,⟨sr.fm.kind,sr.fm.globals,sr.fm.builtins,sr.fm.once,?_,sr.fm.nsW,?_,sr.fm.apart,fm.sub,fm.new,fun a ha=>sr.fm.notBox a (sub a ha),fun a ha=>?_,fm.frB,fun a ha=>?_,fun m e=>⟨hns m (sr.fm.pin m e).1,(sr.fm.pin m e).2⟩⟩,fun i x v h1 h2=>?_⟩
 ·obtain⟨m,hm⟩:=sr.fm.ns;exact fz m (hns m hm)
 ·intro x hx;refine fQ (sr.fm.cell x hx) fun c v h3 eP fy h7=>?_;refine fC eP fun o h4 h5=>?_;refine fQ (fm.cell x hx) fun c' fy q1 fy q2 q3=>?_;have:F.env.cells.lookup x=some c:=h3;rw[this] at q1;injection q1 with fu;subst fu
  exact fU c v h3 ⟨o,hB c q2 o h4,h5⟩ q2 q3
 ·refine fC (sr.fm.stor a (sub a ha)) fun o h1 h2=>?_;exact fD o (hB a ha o h1) h2
 ·refine fM (sr.fm.frs a ha) fun m o es ep h1 h2=>?_;exact⟨m,o,es,ep,hB a (fm.frB a ha) o h1,h2⟩
 ·refine fC (sr.get i x v h1 h2) fun val g r=>?_;refine fD val ?_ ((r.but hs hCM ht).less sub);refine fx g ?_ ?_
  ·rintro ⟨g1,m,g2,g3⟩;exact .inl ⟨g1,m,hns m g2,g3⟩
  ·rintro ⟨g1,c,g2,o,g3,g4⟩;refine fQ (fm.cell x g1) fun c' fy q1 fy q2 q3=>?_;have g2':F.env.cells.lookup x=some c:=g2;rw[g2'] at q1;injection q1 with fu;subst fu
   exact .inr ⟨g1,c,g2,o,hB c q2 o g3,g4⟩
end
section
variable{G:Gl}{F:Fm}{A:Around}{cx:Cx}{tgt:CT}{t:Expr}{scope:Scope}{gval:Nat->Option PyData}{gname:Nat->Option Str}
theorem zcr{elt iter:Expr}{ifs:List Expr}{pos:Pos}{src:Src}{I:Addr}{Z:List Addr}{St:Nat->List Addr->List Addr->Heap->Prop}{evT:Loc->za->R za Bool}{evX:Loc->za->R za V}{E:Value->Shared->Prop}
 (g:GOk G gval gname) (hh:A.handled=none) (fit:Fits F cx) (hsc:y9 scope cx.sc=true) (honce:xe (cx.inner tgt t scope).names=true) (hc:chkT (cx.inner tgt t scope) (ownOf scope) tgt t=true)
 (ht:∀ C D s β ρ O,SR G (zm cx F tgt t scope C D) β ρ O s.heap->Does G (zm cx F tgt t scope C D) A s β (y8 ifs (zm cx F tgt t scope C D).env) ((evT ρ O).lift ρ) BRel)
 (he:∀ C D s β ρ O,SR G (zm cx F tgt t scope C D) β ρ O s.heap->Does G (zm cx F tgt t scope C D) A s β (eval elt (zm cx F tgt t scope C D).env) ((evX ρ O).lift ρ) (VRel G (zm cx F tgt t scope C D)))
 (W:Turns G A t I Z src St) {s1A:Shared} {β1:List Addr} {ρ:Loc} {O1:za} (sr1:SR G F β1 ρ O1 s1A.heap) (hz0:∀ z∈Z,G.h₀.get? z=none) (hzB:∀ z∈Z,z∉F.B)
 (hlen:src.xs.length<=line) (has:src.Has O1) (st:St 0 F.B β1 s1A.heap) {res:List PyData} {O':za} (hgo:yl src (xk tgt evT evX ρ) src.xs [] O1=.ok (.d (.list res)) O') {RR:Value->Addr->Result->Shared->Prop}
 (hR:∀ C D s' β',CompEnd G F scope Z β1 s1A C D res O' s' β'->RR (.ref D) C (.ok .next) s') :
 wpAny G.m A (newList []) (fun acc s3A=>wpAny G.m A (newFunctionEnv scope F.env.globals (jl F.env scope.names []) [] F.env.qual none .none (some F.env)) (fun cenv s4A=>
  codeAny G.m A (.compStart (.ListComp elt [⟨t,iter,ifs,0⟩] scope pos) 0 (.ref I) acc { cenv with scope:=relabel scope F.env }) (RR acc cenv.locals) s4A) E s3A) E s1A:=by
 refine cr ?_;refine zfo fun s4A ka hns ok=>?_;have kp:=KeepsAll.push s1A { cls:=.type "list",data:=.seq ([]:List Value).toArray } s1A.toks;have ka1:KeepsAll s1A s4A:=kp.trans ka;generalize hD:s1A.heap.objs.size=D at *
 have hCe:(s1A.heap.push { cls:=.type "list",data:=.seq ([]:List Value).toArray }).objs.size=D+1:=by rw [bv,hD]
 dsimp only at hns ok ⊢
 rw[hCe] at hns ok ⊢
 have hlo:∀ a,D<=a->s1A.heap.get? a=none:=fun a ha=>bk (by rw[hD];exact ha);have hDo:s4A.heap.get? D=some { cls:=.type "list",data:=.seq ([]:List Value).toArray }:=ka.kept _ _ (by rw [<- hD];exact aw _ rfl);have hM:∀ a∈D::(D+1)::(cellsFrom (D+1+1) scope.names []).map (·.2),s1A.heap.get? a=none:=fun a ha=>by
  refine fx (ag.mp ha) ?_ ?_
  ·rintro rfl;exact hlo _ (aH _)
  ·intro ha;refine fx (ag.mp ha) ?_ ?_
   ·rintro rfl;exact hlo _ (cW _)
   ·intro ha;refine fC (az.mp ha) fun p hp eO=>?_;subst eO;exact hlo _ (by have:=(ok.empty p.1 p.2 hp).2;lia)
 have sr4:=zk2 (C:=D+1) (D:=D) (tgt:=tgt) (t:=t) fit sr1 hsc honce ka1.kept hns ok (fun a ha=>hlo a (Nat.le_of_succ_le ha)) (hlo _ (aH _)) hDo rfl;have fit':=zat (tgt:=tgt) (t:=t) (scope:=scope) fit sr1.fm.kind hsc (D+1) D;have hz1:=W.itr _ _ _ _ st;have st4:St 0 (zm cx F tgt t scope (D+1) D).B β1 s4A.heap:=W.keep 0 F.B _ β1 β1 s1A.heap s4A.heap st (fun z hz o e=>ka1.kept z o e) (fun v x r=>(r.grow hM).keepAll ka1.kept) (bz _);have loop:codeAny G.m A (.compLoop (.ListComp elt [⟨t,iter,ifs,0⟩] scope pos) 0 (.ref I) (.ref D) (zm cx F tgt t scope (D+1) D).env) (RR (.ref D) (D+1)) s4A:=
  zhk g hh fit' hc (ht _ _) (he _ _) W hz1 hz0 hzB hM (a8 (cZ D)) (fun x hm=>by have:=(ok.empty x D hm).2;lia) hlen (ka1.step _ _) sr4 has st4 ⟨_,hDo⟩ hgo (hR _ _)
 exact codeAny_compStart_list loop (W.self 0 _ _ _ _ _ st4 loop)
end
theorem BR.addBox{G:Gl}{N β:List Addr}{O:za}{h:Heap}{D:Addr}{xs:List PyData}(b:BR G (D::N) β O h)(l:ListAt h (D::N) β D xs)(hb:D∉β)(h0:G.h₀.get? D=none)(hpl:Plain h D):BR G N (β++[D]) (O++[.lst xs]) h:=by
 have ap:∀ {as:List Addr},(∀ a∈as,a∉β/\a∉D::N)->∀ a∈as,a∉β++[D]/\a∉N:=fun q a ha=>by
  refine fH (q a ha) fun q1 q2=>?_;refine⟨fun hm=>?_,fun hm=>q2 (ah _ hm)⟩;refine fx (aj.mp hm) ?_ ?_
  ·intro hm;exact q1 hm
  ·intro hm;rw[ae.mp hm] at q2;exact q2 am
 refine⟨b.keep,by simp[b.len],?_,fun a ha=>?_,fun i a bx h1 h2=>?_,fun a ha=>(aj.mp ha).elim (b.plain a) fun h=>by rw[ae.mp h];exact hpl⟩
 ·rw[bT];exact⟨b.nodup,by simp,fun a ha c hc=>by rw[ae.mp hc];exact fun e=>hb (e ▸ ha)⟩
 ·refine fx (aj.mp ha) ?_ ?_
  ·intro h;exact b.new a h
  ·intro h;rw[ae.mp h];exact h0
 ·refine fx (bn i β.length) ?_ ?_
  ·intro hi;rw[aJ hi] at h1;rw[aJ (by rw[<- b.len];exact hi)] at h2;have hx:=b.at_ i a bx h1 h2
   cases bx with
   | lst ys=>obtain⟨o,vs,n,e1,e2,e3,as,e4,e5⟩:=hx;exact⟨o,vs,n,e1,e2,e3,as,e4,ap e5⟩
   | dct kvs=>
     obtain⟨o,es,n,e1,e2,e3,e4,e5⟩:=hx;refine⟨o,es,n,e1,e2,e3,e4,fun i e kv he hkv=>?_⟩;obtain⟨hq,as,bs,r1,r2,q⟩:=e5 i e kv he hkv;exact⟨hq,as,bs,r1,r2,ap q⟩
  ·intro hi;rw[aI hi] at h1;rw[aI (by rw[<- b.len];exact hi)] at h2;have hi0:i - β.length=0:=by
    refine fx (Nat.eq_zero_or_pos (i - β.length)) ?_ ?_
    ·intro h;exact h
    ·intro h;rw[a7 (show [D].length<=i - β.length from h)] at h1;contradiction
   rw[hi0] at h1;rw[<- b.len,hi0] at h2;injection h1 with fu;subst fu;injection h2 with fu;subst fu
   obtain⟨o,vs,n,e1,e2,e3,as,e4,e5⟩:=l;exact⟨o,vs,n,e1,e2,e3,as,e4,ap e5⟩
section
variable{G:Gl}{F:Fm}{A:Around}{cx:Cx}{tgt:CT}{t:Expr}{scope:Scope}{gval:Nat->Option PyData}{gname:Nat->Option Str}
variable{Z β1 β':List Addr}{s1A s':Shared}{C D:Addr}{res:List PyData}{O1 O':za}{ρ:Loc}
noncomputable abbrev yy(scope:Scope)(C:Addr):List Addr:=C::(cellsFrom (C+1) scope.names []).map (·.2)
theorem CompEnd.sr(e:CompEnd G F scope Z β1 s1A C D res O' s' β')(sr1:SR G F β1 ρ O1 s1A.heap)(hz:∀ z∈Z,Itr s1A.heap z)(hzB:∀ z∈Z,z∉F.B)(hc:∀ c,∃ C,G.cls c=.ref C)(hDM:D∉yy scope C) :
 SR G (F.plus (yy scope C)) β' ρ O' s'.heap/\VR G (F.plus (yy scope C)).B β' s'.heap (.ref D) (.d (.list res)):=by
 refine⟨SR.outerZ hz hc e.step sr1 hzB (fun a ha=>e.new a (ah _ ha)) (e.br.less fun a ha=>ah _ ha) (fun a ha=>e.notBox a (ah _ ha)) e.stor,?_⟩;obtain⟨o,vs,n,e1,e2,e3,as,e4,e5⟩:=e.list;refine y6 e1 e2 e3 e4 (fun a ha=>⟨(e5 a ha).1,fun hm=>(e5 a ha).2 (ah _ hm)⟩) ⟨e.notBox D am,fun hm=>?_⟩;refine fx (aj.mp hm) ?_ ?_
 ·intro hm;exact hDM hm
 ·intro hm;refine fC (sr1.fm.stor D hm) fun o' q fy=>?_;rw[e.new D am] at q;contradiction
theorem CompEnd.srB(e:CompEnd G F scope Z β1 s1A C D res O' s' β')(sr1:SR G F β1 ρ O1 s1A.heap)(hz:∀ z∈Z,Itr s1A.heap z)(hzB:∀ z∈Z,z∉F.B)(hc:∀ c,∃ C,G.cls c=.ref C)(hDM:D∉yy scope C) :
 StepZ Z β1 s1A s' (β'++[D])/\SR G (F.plus (yy scope C)) (β'++[D]) ρ (O'++[.lst res]) s'.heap/\VR G (F.plus (yy scope C)).B (β'++[D]) s'.heap (.ref D) (.box O'.length):=by
 have hDn:=e.new D am;have hDb:=e.notBox D am;have sz:StepZ Z β1 s1A s' (β'++[D]):=⟨e.step.gens,e.step.os,e.step.pre.trans (List.prefix_append _ _),fun a ha=>by
  refine fx (aj.mp ha) ?_ ?_
  ·intro h;exact e.step.fresh a h
  ·intro h;rw[ae.mp h];exact .inr hDn,e.step.alive,e.step.kept⟩
 have h0:G.h₀.get? D=none:=by
  cases q:G.h₀.get? D with
  | none=>rfl
  | some o=>have:=sr1.br.keep D o q;rw[hDn] at this;contradiction
 have br:=e.br.addBox (N:=yy scope C++F.B) e.list hDb h0 e.plain;refine⟨sz,SR.outerZ hz hc sz sr1 hzB (fun a ha=>e.new a (ah _ ha)) br (fun a ha hm=>?_) e.stor,⟨D,by rw[<- e.br.len];simp,rfl⟩⟩;refine fx (aj.mp hm) ?_ ?_
 ·intro hm;exact e.notBox a (ah _ ha) hm
 ·intro hm;rw[ae.mp hm] at ha;refine fx (aj.mp ha) ?_ ?_
  ·intro ha;exact hDM ha
  ·intro ha;refine fC (sr1.fm.stor D ha) fun o' q fy=>?_;rw[hDn] at q;contradiction
theorem h9{sc:Scope}(hsc:y9 scope sc=true):∀ x∈scope.names,x.2=.local->scope.names.lookup x.1=some .local:=fun x hx h=>by
 refine fI (yq hsc) fun fy k2 fy=>?_;obtain⟨n,k⟩:=x
 cases h;exact (lookup_mem k2).mp hx
theorem zct{β:List Addr}{h:Heap}{sc:Scope}(fit:Fits F cx)(fm:FmOk G F β h)(hsc:y9 scope cx.sc=true):∀ p∈scope.names,p.2=.free->(F.env.cells.lookup p.1).isSome=true:=fun p hp hf=>by
 obtain⟨n,k⟩:=p;refine fI (yq hsc) fun fy fy k3=>?_
 cases hf;rcases k3 n _ hp with h | h | h | ⟨_,h⟩
 ·contradiction
 ·contradiction
 ·contradiction
 ·refine fR (fm.cell n ((fit.kind n).trans h)) fun c v q fy=>?_;rw[q];rfl
inductive Fin2:(V->za->R za V)->Prop
 | plain:Fin2 fun v O=>.ok v O
 | box:Fin2 boxK
theorem ku{src:Src}{turn:PyData->za->R za (Option PyData)}:∀ (xs acc:List PyData) (O:za),(∃ ys O',yl src turn xs acc O=.ok (.d (.list ys)) O')\/yl src turn xs acc O=.stuck
 | [],acc,O=>.inl ⟨acc,O,rfl⟩
 | x::xs,acc,O=>by
   rw[pw];split
   ·split
    ·exact ku xs _ _
    ·exact .inr rfl
   ·exact .inr rfl
set_option tactic.hygienic true in
theorem ztd{elt iter:Expr}{ifs:List Expr}{pos:Pos}{r:R za Src}{evT:Loc->za->R za Bool}{evX:Loc->za->R za V}{K:V->za->R za V}{s:Shared}{β:List Addr}{O:za}
 (g:GOk G gval gname) (hh:A.handled=none) (fit:Fits F cx) (hsc:y9 scope cx.sc=true) (honce:xe (cx.inner tgt t scope).names=true) (hc:chkT (cx.inner tgt t scope) (ownOf scope) tgt t=true) (hset:∀ l k p,iter≠.Set l k p)
 (ht:∀ C D s β ρ O,SR G (zm cx F tgt t scope C D) β ρ O s.heap->Does G (zm cx F tgt t scope C D) A s β (y8 ifs (zm cx F tgt t scope C D).env) ((evT ρ O).lift ρ) BRel)
 (he:∀ C D s β ρ O,SR G (zm cx F tgt t scope C D) β ρ O s.heap->Does G (zm cx F tgt t scope C D) A s β (eval elt (zm cx F tgt t scope C D).env) ((evX ρ O).lift ρ) (VRel G (zm cx F tgt t scope C D)))
 (sr:SR G F β ρ O s.heap) (hI:DoesW G F s β (zck G A iter F.env) (r.lift ρ) (IRel G F A t s)) (has:∀ src O',r=.ok src O'->src.Has O') (hK:Fin2 K) :
 Does G F A s β (eval (.ListComp elt [⟨t,iter,ifs,0⟩] scope pos) F.env) (((r.bind fun src O=>if src.xs.length<=line then yl src (xk tgt evT evX ρ) src.xs [] O else .stuck).bind K).lift ρ) (VRel G F):=by
 refine fI (yq hsc) fun k1 k2 k3=>?_;have hclos:=wa (zct (sc:=cx.sc) fit sr.fm hsc);have hfold:∀ x,foldedSetIterable iter F.env x=pure x:=fun x=>qj hset _ _
 cases r with
 | stuck=>trivial
 | ok src O1=>
   show DoesW G F s β _ (R.lift ρ (R.bind (if src.xs.length<=line then yl src (xk tgt evT evX ρ) src.xs [] O1 else .stuck) K)) _;split
   ·rename_i hlen;refine fx (ku (src:=src) (turn:=xk tgt evT evX ρ) src.xs [] O1) ?_ ?_
    ·rintro ⟨res,O',hgo⟩;rw[hgo];show DoesW G F s β _ (R.lift ρ (K (.d (.list res)) O')) _;have run:∀ (Q:Value->Shared->Prop) (E:Value->Shared->Prop),(∀ s1A β1 Z C D s' β' h',Step F.W β s s1A β1->SR G F β1 ρ O1 s1A.heap->(∀ z∈Z,Itr s1A.heap z)->(∀ z∈Z,z∉F.B)->(∀ z∈Z,s.heap.get? z=none) ->
      CompEnd G F scope Z β1 s1A C D res O' s' β'->D∉yy scope C->Heap.SameBut C s'.heap h'->Q (.ref D) { s' with heap:=h' })->wpAny G.m A (eval (.ListComp elt [⟨t,iter,ifs,0⟩] scope pos) F.env) Q E s:=by
      intro Q E k;rw[eval_ListComp];refine wpAny_comprehension_free (use:=none) rfl hfold hclos k1 (h9 hsc) (hI _ _ fun s1A β1 it st sr1 ⟨I,Z,St,e,W,h0,hz⟩=>?_);subst e;have hz0:∀ z∈Z,G.h₀.get? z=none:=fun z hz'=>by
       cases e:G.h₀.get? z with
       | none=>rfl
       | some o=>have:=sr.br.keep z o e;rw[hz z hz'] at this;contradiction
      have hzB:∀ z∈Z,z∉F.B:=fun z hz' hB=>by
       refine fC (sr.fm.stor z hB) fun o e fy=>?_;rw[hz z hz'] at e;contradiction
      refine zcr (RR:=fun acc C=>compPost G.m A E none Q acc C) g hh fit hsc honce hc ht he W sr1 hz0 hzB hlen (has _ _ rfl) h0 hgo fun C D s' β' ce=>?_;obtain⟨m,hm⟩:=ce.ns;have hDM:D∉yy scope C:=fun hm'=>by
       obtain⟨o,vs,n,q1,q2,q3,_⟩:=ce.list;refine fx (ag.mp hm') ?_ ?_
       ·intro e;subst e;refine fP hm fun o' es ep p1 p2 fy=>?_;rw[q1] at p1;injection p1 with fu;subst fu;rw[q3] at p2;contradiction
       ·intro hm';exact ce.notCell hm'
      exact fD m hm (fun h' hs=>k s1A β1 Z C D s' β' h' st sr1 (W.itr _ _ _ _ h0) hzB hz ce hDM hs)
     cases hK with
     | plain=>
       intro Q E k;refine run Q E fun s1A β1 Z C D s' β' h' st sr1 hz1 hzB hz ce hDM hs=>?_;refine fH (ce.sr sr1 hz1 hzB g.clsRef hDM) fun srp vr=>?_;have hCM:C∈yy scope C:=am;have hCB:C∉F.B:=fun hB=>by
        refine fC (sr1.fm.stor C hB) fun o e fy=>?_;rw[ce.new C (ah _ am)] at e;contradiction
       have hs':∀ b o,b≠C->s'.heap.get? b=some o->h'.get? b=some o:=fun b o hb e=>(hs.2 b hb).trans e;have srF:=SR.drop sr1.fm srp hCM hCB hs';have stF:Step F.W β s { s' with heap:=h' } β':=by
        have s1:=st.thenStepZ ce.step hz;exact s1.thenZ (Z:=[C]) ⟨rfl,rfl,fun b o hb e=>hs' b o (fun e'=>hb (by simp [e'])) e⟩ fun z hz'=>by
         rw [ae.mp hz']
         cases e:s.heap.get? C with
         | none=>rfl
         | some o=>refine fG (st.alive _ _ e) fun o' e'=>?_;rw[ce.new C (ah _ am)] at e';contradiction
       refine k _ β' _ stF srF ?_;have hCMp:C∈(F.plus (yy scope C)).B:=aC _ hCM;exact (vr.but hs' hCMp (fun o vs n e hd=>by
        refine fC (srp.fm.stor C hCMp) fun o' e' q=>?_;rw[e] at e';injection e' with fu;subst fu;exact q vs n hd)).less fun a ha=>aq _ ha
     | box=>
       intro Q E k;refine run Q E fun s1A β1 Z C D s' β' h' st sr1 hz1 hzB hz ce hDM hs=>?_;refine fI (ce.srB sr1 hz1 hzB g.clsRef hDM) fun sz srp vr=>?_;have hCM:C∈yy scope C:=am;have hCB:C∉F.B:=fun hB=>by
        refine fC (sr1.fm.stor C hB) fun o e fy=>?_;rw[ce.new C (ah _ am)] at e;contradiction
       have hs':∀ b o,b≠C->s'.heap.get? b=some o->h'.get? b=some o:=fun b o hb e=>(hs.2 b hb).trans e;have srF:=SR.drop sr1.fm srp hCM hCB hs';have stF:Step F.W β s { s' with heap:=h' } (β'++[D]):=by
        have s1:=st.thenStepZ sz hz;exact s1.thenZ (Z:=[C]) ⟨rfl,rfl,fun b o hb e=>hs' b o (fun e'=>hb (by simp [e'])) e⟩ fun z hz'=>by
         rw [ae.mp hz']
         cases e:s.heap.get? C with
         | none=>rfl
         | some o=>refine fG (st.alive _ _ e) fun o' e'=>?_;rw[ce.new C (ah _ am)] at e';contradiction
       exact k _ _ _ stF srF vr
    ·intro hgo;rw[hgo];trivial
   ·trivial
end
theorem zfv{M:Model}{A:Around}{E:Value->Shared->Prop}{s:Shared}{op:BoolOp}{x y:Expr}{r:List Expr}{pos:Pos}{env:Env}{Q:Value->Shared->Prop}
 (h:wpAny M A (eval x env) (fun v s1A=>wpAny M A (truthy v) (fun t s2A=>if t=(op == .Or) then Q v s2A else wpAny M A (boolOp pos op (evalEach (y::r) env)) Q E s2A) E s1A) E s) :
 wpAny M A (eval (.BoolOp op (x::y::r) pos) env) Q E s:=by
 show wpAny M A (do
  let v <- eval x env
  standAt pos
  let t <- holding [v] (truthy v)
  match op,t with
  | .And,false | .Or,true=>pure v
  | _,_=>boolOp pos op (evalEach (y::r) env)) Q E s
 refine aa (aK h (fun v s1A h₁=>aa (cN (aa (aS (aK h₁ (fun t s2A h2A=>?_) fun uA uA x=>x))))) fun uA uA x=>x)
 cases op <;> cases t
 ·rw[af (by decide)] at h2A;exact ab h2A
 ·rw[ak (by decide)] at h2A;exact h2A
 ·rw[ak (by decide)] at h2A;exact h2A
 ·rw[af (by decide)] at h2A;exact ab h2A
section
variable{G:Gl}{F:Fm}{A:Around}{s:Shared}{β:List Addr}{ρ:Loc}{O:za}
theorem zqn{x y:Expr}{r:List Expr}{p:Pos}{ra:R za V}{rb:za->R za V}(h1:Does G F A s β (eval x F.env) (ra.lift ρ) (VRel G F))
 (h2:∀ s' β' O',SR G F β' ρ O' s'.heap->Does G F A s' β' (boolOp p .And (evalEach (y::r) F.env)) ((rb O').lift ρ) (VRel G F)) :
 Does G F A s β (eval (.BoolOp .And (x::y::r) p) F.env) ((ra.bind fun v O=>(opt (truth v) O).bind (andK rb)).lift ρ) (VRel G F):=by
 refine DoesW.seqE (T2A:=fun v Q E s'=>wpAny G.m A (truthy v) (fun t s2A=>if t=(BoolOp.And == .Or) then Q v s2A else wpAny G.m A (boolOp p .And (evalEach (y::r) F.env)) Q E s2A) E s') (fun Q E h=>zfv h) h1 fun s' β' v d O' e st sr rv=>?_;refine DoesW.seqE (T2A:=fun t Q E s2A=>if t=(BoolOp.And == .Or) then Q v s2A else wpAny G.m A (boolOp p .And (evalEach (y::r) F.env)) Q E s2A) (fun Q E h=>h) (jj sr rv) fun s2A β2 b b' O2 e2A st2 sr2 hb=>?_;have hb:b=b':=hb;subst hb;have hd:truth d=some b:=by cases h:truth d with
  | none=>rw[h] at e2A;contradiction
  | some c=>rw[h] at e2A;injection e2A with fu fw;subst fu fw;rfl
 have:=wv rv hd;subst this
 cases b with
 | true=>exact (h2 s2A β2 O2 sr2).weaken (fun Q E h=>by show if _ then _ else _;rw[ak (by decide)];exact h) fun uA uA uA uA h=>h
 | false=>exact d_ok sr2 VR.bool fun Q E h=>by show if _ then _ else _;rw[af (by decide)];exact h
theorem zvp{op:Cop}{o:CmpOp}{x y:Expr}{p:Pos}{ra:R za V}{rb:za->R za V}{k:Nat}(ro:Room A k)(ho:x8 op o=true)(hs:∀ l k p,y≠.Set l k p)
 (h1:Does G F A s β (eval x F.env) (ra.lift ρ) (VRel G F)) (h2:∀ s' β' O',SR G F β' ρ O' s'.heap->Does G F A s' β' (eval y F.env) ((rb O').lift ρ) (VRel G F)) :
 Does G F A s β (eval (.Compare x [o] [y] p) F.env) ((ra.bind fun v O=>(rb O).bind fun u O=>cmpV op v u O).lift ρ) (VRel G F):=by
 refine DoesW.seqE (T2A:=fun a Q E s1A=>wpAny G.m A (eval y F.env) (fun b s2A=>wpAny G.m A (compareOp o a b) Q E s2A) E s1A) (fun Q E h=>wpAny_Compare1 h (xj hs o)) h1 fun s' β' v d O' e st sr rv=>?_;refine DoesW.seqE (T1A:=tr G A (eval y F.env)) (T2A:=fun b=>tr G A (compareOp o v b)) (fun Q E h=>h) (h2 s' β' O' sr) fun s2A β2 u d2A O2 e2A st2 sr2 ru=>?_;exact ux ro ho sr2 (rv.step sr.br sr.fm st2) ru
theorem vv{M:Model}{E:Value->Shared->Prop}{x y z:Expr}{o1 o2:CmpOp}{pos:Pos}{env:Env}{Q:Value->Shared->Prop}
 (h:wpAny M A (eval x env) (fun a s1A=>wpAny M A (eval y env) (fun b s2A=>wpAny M A (compareOp o1 a b) (fun c s3A=>wpAny M A (truthy c) (fun t s4A=>if t=true then wpAny M A (eval z env) (fun d s5=>wpAny M A (compareOp o2 b d) Q E s5) E s4A else Q c s4A) E s3A) E s2A) E s1A) E s)
 (hy:∀ l k p,y≠.Set l k p) (hz:∀ l k p,z≠.Set l k p):wpAny M A (eval (.Compare x [o1,o2] [y,z] pos) env) Q E s:=by
 show wpAny M A (do compareChain pos (<- eval x env) [o1,o2] (markedEach [o1,o2] [y,z] (evalEach [y,z] env))) Q E s;have hm:markedEach [o1,o2] [y,z] (evalEach [y,z] env)=[eval y env,eval z env]:=by
  show [eval y env,markedBehindIn o2 z (eval z env)]=_;rw[markedBehindIn_of_false (xj hz o2)]
 rw[hm];refine aa (aK h (fun a s1A h₁=>?_) fun uA uA x=>x);show wpAny M A (do
  let rv <- holding [a] (eval y env)
  standAt pos
  let c <- holding [a,rv] (compareOp o1 a rv)
  release [a,rv] [c]
  if <- holding [c,rv] (truthy c) then compareChain pos rv [o2] [eval z env] else pure c) Q E s1A
 refine aa (aS (aK h₁ (fun b s2A h2A=>aa (cN (aa (aS (aK h2A (fun c s3A h3A=>?_) fun uA uA x=>x))))) fun uA uA x=>x));refine aa (wpAny_release (aa (aS (aK h3A (fun t s4A h4A=>?_) fun uA uA x=>x))))
 cases t with
 | false=>rw[ak (by decide)] at h4A;exact ab h4A
 | true=>
   rw[af rfl] at h4A;show wpAny M A (do
    let rv <- holding [b] (eval z env)
    standAt pos
    operate [b,rv] (compareOp o2 b rv)) Q E s4A
   exact aa (aS (aK h4A (fun d s5 h5A=>aa (cN (wpAny_operating h5A))) fun uA uA x=>x))
end
noncomputable def tv(r:R za V):R za Bool:=r.bind fun v O=>opt (truth v) O
section
variable{G:Gl}{F:Fm}{A:Around}{s:Shared}{β:List Addr}{ρ:Loc}{O:za}
theorem zpz{p q:Cop}{o1 o2:CmpOp}{x y z:Expr}{ps:Pos}{ra:R za V}{rb rc:za->R za V}{k:Nat}(ro:Room A k)(h1o:x8 p o1=true)(h2o:x8 q o2=true)
 (hy:∀ l k p,y≠.Set l k p) (hz:∀ l k p,z≠.Set l k p)
 (h1:Does G F A s β (eval x F.env) (ra.lift ρ) (VRel G F)) (h2:∀ s' β' O',SR G F β' ρ O' s'.heap->Does G F A s' β' (eval y F.env) ((rb O').lift ρ) (VRel G F))
 (h3:∀ s' β' O',SR G F β' ρ O' s'.heap->Does G F A s' β' (eval z F.env) ((rc O').lift ρ) (VRel G F)) :
 Does G F A s β (eval (.Compare x [o1,o2] [y,z] ps) F.env) ((ra.bind fun v O=>(rb O).bind fun u O=>(cmpV p v u O).bind fun t O=>(opt (truth t) O).bind (andK fun O=>(rc O).bind fun y O=>cmpV q u y O)).lift ρ) (VRel G F):=by
 refine DoesW.seqE (T2A:=fun a Q E s1A=>wpAny G.m A (eval y F.env) (fun b s2A=>wpAny G.m A (compareOp o1 a b) (fun c s3A=>wpAny G.m A (truthy c) (fun t s4A=>if t=true then wpAny G.m A (eval z F.env) (fun d s5=>wpAny G.m A (compareOp o2 b d) Q E s5) E s4A else Q c s4A) E s3A) E s2A) E s1A)
  (fun Q E h=>vv h hy hz) h1 fun s' β' v d O' e st sr rv=>?_
 refine DoesW.seqE (T1A:=tr G A (eval y F.env)) (T2A:=fun b Q E s2A=>wpAny G.m A (compareOp o1 v b) (fun c s3A=>wpAny G.m A (truthy c) (fun t s4A=>if t=true then wpAny G.m A (eval z F.env) (fun d s5=>wpAny G.m A (compareOp o2 b d) Q E s5) E s4A else Q c s4A) E s3A) E s2A) (fun Q E h=>h) (h2 s' β' O' sr) fun s2A β2 u d2A O2 e2A st2 sr2 ru=>?_;refine DoesW.seqE (T1A:=tr G A (compareOp o1 v u)) (T2A:=fun c Q E s3A=>wpAny G.m A (truthy c) (fun t s4A=>if t=true then wpAny G.m A (eval z F.env) (fun d s5=>wpAny G.m A (compareOp o2 u d) Q E s5) E s4A else Q c s4A) E s3A) (fun Q E h=>h) (ux ro h1o sr2 (rv.step sr.br sr.fm st2) ru) fun s3A β3 c d3A O3 e3A st3 sr3 rc'=>?_;refine DoesW.seqE (T1A:=tr G A (truthy c)) (T2A:=fun t Q E s4A=>if t=true then wpAny G.m A (eval z F.env) (fun d s5=>wpAny G.m A (compareOp o2 u d) Q E s5) E s4A else Q c s4A) (fun Q E h=>h) (jj sr3 rc') fun s4A β4 b b' O4 e4A st4 sr4 hb=>?_;have hb:b=b':=hb;subst hb;have hd:truth d3A=some b:=by cases h:truth d3A with
  | none=>rw[h] at e4A;contradiction
  | some c=>rw[h] at e4A;injection e4A with fu fw;subst fu fw;rfl
 have:=wv rc' hd;subst this;have ru':=(ru.step sr2.br sr2.fm (st3.trans st4))
 cases b with
 | false=>exact d_ok sr4 VR.bool fun Q E h=>by show if _ then _ else _;rw[ak (by decide)];exact h
 | true=>
   refine DoesW.seqE (T1A:=tr G A (eval z F.env)) (T2A:=fun d=>tr G A (compareOp o2 u d)) (fun Q E h=>by show if _ then _ else _;rw[af rfl];exact h) (h3 s4A β4 O4 sr4) fun s5 β5 w d5A O5 e5A st5A sr5 rw'=>?_;exact ux ro h2o sr5 (ru'.step sr4.br sr4.fm st5A) rw'
theorem zvm{x y z:Expr}{p:Pos}{rt:R za V}{ra rb:za->R za V}(h1:Does G F A s β (isTrue x F.env (eval x F.env)) ((tv rt).lift ρ) BRel)
 (h2:∀ s' β' O',SR G F β' ρ O' s'.heap->Does G F A s' β' (eval y F.env) ((ra O').lift ρ) (VRel G F))
 (h3:∀ s' β' O',SR G F β' ρ O' s'.heap->Does G F A s' β' (eval z F.env) ((rb O').lift ρ) (VRel G F)) :
 Does G F A s β (eval (.IfExp x y z p) F.env) ((rt.bind fun v O=>(opt (truth v) O).bind (iteK ra rb)).lift ρ) (VRel G F):=by
 have e:(rt.bind fun v O=>(opt (truth v) O).bind (iteK ra rb))=(tv rt).bind (iteK ra rb):=by cases rt <;> rfl
 rw[e];refine DoesW.seqE (T2A:=fun b Q E s1A=>if b=true then wpAny G.m A (eval y F.env) Q E s1A else wpAny G.m A (eval z F.env) Q E s1A) (fun Q E h=>?_) h1 fun s' β' b b' O' e st sr rb'=>?_
 ·show wpAny G.m A (do if <- isTrue x F.env (eval x F.env) then eval y F.env else eval z F.env) Q E s;refine aa (aK h (fun b s1A h₁=>?_) fun uA uA x=>x)
  cases b with
  | true=>rw[af rfl] at h₁;exact h₁
  | false=>rw[ak (by decide)] at h₁;exact h₁
 have hb:b=b':=rb';subst hb
 cases b with
 | true=>exact (h2 s' β' O' sr).weaken (fun Q E h=>by show if _ then _ else _;rw[af rfl];exact h) fun uA uA uA uA h=>h
 | false=>exact (h3 s' β' O' sr).weaken (fun Q E h=>by show if _ then _ else _;rw[ak (by decide)];exact h) fun uA uA uA uA h=>h
theorem zob{e:Expr}{r:R za V}(he:isTrue e F.env (eval e F.env)=(do let v <- eval e F.env;standAt e.pos;holding [v] (truthy v)))
 (h1:Does G F A s β (eval e F.env) (r.lift ρ) (VRel G F)):Does G F A s β (isTrue e F.env (eval e F.env)) ((tv r).lift ρ) BRel:=
 DoesW.seqE (T2A:=fun v=>tr G A (truthy v)) (fun Q E h=>wpAny_isTrue_value h he) h1 fun s' β' v d O' e st sr rv=>jj sr rv
theorem zty{x:Expr}{p:Pos}{r:R za V}(h1:Does G F A s β (isTrue x F.env (eval x F.env)) ((tv r).lift ρ) BRel) :
 Does G F A s β (isTrue (.UnaryOp .Not x p) F.env (eval (.UnaryOp .Not x p) F.env)) ((tv (r.bind fun v O=>opt ((truth v).map fun b=>V.d (.bool !b)) O)).lift ρ) BRel:=by
 have e:tv (r.bind fun v O=>opt ((truth v).map fun b=>V.d (.bool !b)) O)=(tv r).bind fun b O=>.ok (!b) O:=by
  cases r with
  | ok v O=>show R.bind (opt ((truth v).map fun b=>V.d (.bool !b)) O) _=R.bind (opt (truth v) O) _;cases truth v <;> rfl
  | stuck=>rfl
 rw[e];refine DoesW.seqE (T2A:=fun b Q E s1A=>Q (!b) s1A) (fun Q E h=>wpAny_isTrue_Not h) h1 fun s' β' b b' O' e st sr hb=>?_;have hb:b=b':=hb;subst hb;exact Does.leaf sr fun Q E q=>q _ _ (KeepsAll.refl s') rfl
theorem zb2{op:BoolOp}(sr:SR G F β ρ O s.heap):Does G F A s β (allTrue op [] F.env) ((R.ok (op == .And) O).lift ρ) BRel:=
 Does.leaf sr fun Q E q=>ab (q _ _ (KeepsAll.refl s) rfl)
theorem ue{x:Expr}{rest:List Expr}{ra:R za V}{rb:za->R za Bool}(h1:Does G F A s β (isTrue x F.env (eval x F.env)) ((tv ra).lift ρ) BRel)
 (h2:∀ s' β' O',SR G F β' ρ O' s'.heap->Does G F A s' β' (allTrue .And rest F.env) ((rb O').lift ρ) BRel) :
 Does G F A s β (allTrue .And (x::rest) F.env) (((tv ra).bind fun t O=>(match t with | true=>rb O | false=>.ok false O)).lift ρ) BRel:=by
 refine DoesW.seqE (T2A:=fun t Q E s1A=>if t=true then wpAny G.m A (allTrue .And rest F.env) Q E s1A else Q false s1A) (fun Q E h=>?_) h1 fun s' β' b b' O' e st sr hb=>?_
 ·show wpAny G.m A (do
   match BoolOp.And,<- isTrue x F.env (eval x F.env) with
   | .And,false=>pure false
   | .Or,true=>pure true
   | _,_=>allTrue .And rest F.env) Q E s
  refine aa (aK h (fun t s1A h₁=>?_) fun uA uA x=>x)
  cases t with
  | true=>rw[af rfl] at h₁;exact h₁
  | false=>rw[ak (by decide)] at h₁;exact ab h₁
 have hb:b=b':=hb;subst hb
 cases b with
 | true=>exact (h2 s' β' O' sr).weaken (fun Q E h=>by show if _ then _ else _;rw[af rfl];exact h) fun uA uA uA uA h=>h
 | false=>exact Does.leaf sr fun Q E q=>by show if _ then _ else _;rw[ak (by decide)];exact q _ _ (KeepsAll.refl s') rfl
theorem dq{x:Expr}{rest:List Expr}{ra:R za V}{rb:za->R za Bool}(h1:Does G F A s β (isTrue x F.env (eval x F.env)) ((tv ra).lift ρ) BRel)
 (h2:∀ s' β' O',SR G F β' ρ O' s'.heap->Does G F A s' β' (allTrue .Or rest F.env) ((rb O').lift ρ) BRel) :
 Does G F A s β (allTrue .Or (x::rest) F.env) (((tv ra).bind fun t O=>(match t with | true=>.ok true O | false=>rb O)).lift ρ) BRel:=by
 refine DoesW.seqE (T2A:=fun t Q E s1A=>if t=true then Q true s1A else wpAny G.m A (allTrue .Or rest F.env) Q E s1A) (fun Q E h=>?_) h1 fun s' β' b b' O' e st sr hb=>?_
 ·show wpAny G.m A (do
   match BoolOp.Or,<- isTrue x F.env (eval x F.env) with
   | .And,false=>pure false
   | .Or,true=>pure true
   | _,_=>allTrue .Or rest F.env) Q E s
  refine aa (aK h (fun t s1A h₁=>?_) fun uA uA x=>x)
  cases t with
  | true=>rw[af rfl] at h₁;exact ab h₁
  | false=>rw[ak (by decide)] at h₁;exact h₁
 have hb:b=b':=hb;subst hb
 cases b with
 | false=>exact (h2 s' β' O' sr).weaken (fun Q E h=>by show if _ then _ else _;rw[ak (by decide)];exact h) fun uA uA uA uA h=>h
 | true=>exact Does.leaf sr fun Q E q=>by show if _ then _ else _;rw[af rfl];exact q _ _ (KeepsAll.refl s') rfl
theorem ztz{op:Cop}{o:CmpOp}{x y:Expr}{p:Pos}{ra:R za V}{rb:za->R za V}{k:Nat}(ro:Room A k)(ho:x8 op o=true)(hs:∀ l k p,y≠.Set l k p)
 (h1:Does G F A s β (eval x F.env) (ra.lift ρ) (VRel G F)) (h2:∀ s' β' O',SR G F β' ρ O' s'.heap->Does G F A s' β' (eval y F.env) ((rb O').lift ρ) (VRel G F)) :
 Does G F A s β (isTrue (.Compare x [o] [y] p) F.env (eval (.Compare x [o] [y] p) F.env)) ((tv (ra.bind fun v O=>(rb O).bind fun u O=>cmpV op v u O)).lift ρ) BRel:=by
 have e:tv (ra.bind fun v O=>(rb O).bind fun u O=>cmpV op v u O)=ra.bind fun v O=>(rb O).bind fun u O=>(cmpV op v u O).bind fun c O=>opt (truth c) O:=by
  cases ra with
  | ok v O=>show R.bind (R.bind (rb O) _) _=R.bind (rb O) _;cases rb O <;> rfl
  | stuck=>rfl
 rw[e];refine DoesW.seqE (T2A:=fun a Q E s1A=>wpAny G.m A (eval y F.env) (fun b s2A=>wpAny G.m A (compareOp o a b) (fun c s3A=>wpAny G.m A (truthy c) Q E s3A) E s2A) E s1A) (fun Q E h=>wpAny_isTrue_Compare1 h (xj hs o)) h1 fun s' β' v d O' e st sr rv=>?_;refine DoesW.seqE (T1A:=tr G A (eval y F.env)) (T2A:=fun b Q E s2A=>wpAny G.m A (compareOp o v b) (fun c s3A=>wpAny G.m A (truthy c) Q E s3A) E s2A) (fun Q E h=>h) (h2 s' β' O' sr) fun s2A β2 u d2A O2 e2A st2 sr2 ru=>?_;refine DoesW.seqE (T1A:=tr G A (compareOp o v u)) (T2A:=fun c=>tr G A (truthy c)) (fun Q E h=>h) (ux ro ho sr2 (rv.step sr.br sr.fm st2) ru) fun s3A β3 c d3A O3 e3A st3 sr3 rc=>?_;exact jj sr3 rc
end
section
variable{G:Gl}{F:Fm}{A:Around}{s:Shared}{β:List Addr}{ρ:Loc}{O:za}
theorem ua{M:Model}{E:Value->Shared->Prop}{x y z:Expr}{o1 o2:CmpOp}{pos:Pos}{env:Env}{whole:Sem Value}{Q:Bool->Shared->Prop}
 (h:wpAny M A (eval x env) (fun a s1A=>wpAny M A (eval y env) (fun b s2A=>wpAny M A (compareOp o1 a b) (fun c s3A=>wpAny M A (truthy c) (fun t s4A=>if t=true then wpAny M A (eval z env) (fun d s5=>wpAny M A (compareOp o2 b d) (fun e s6=>wpAny M A (truthy e) Q E s6) E s5) E s4A else Q false s4A) E s3A) E s2A) E s1A) E s)
 (hy:∀ l k p,y≠.Set l k p) (hz:∀ l k p,z≠.Set l k p):wpAny M A (isTrue (.Compare x [o1,o2] [y,z] pos) env whole) Q E s:=by
 show wpAny M A (do testChain pos (<- eval x env) [o1,o2] (markedEach [o1,o2] [y,z] (evalEach [y,z] env))) Q E s;have hm:markedEach [o1,o2] [y,z] (evalEach [y,z] env)=[eval y env,eval z env]:=by
  show [eval y env,markedBehindIn o2 z (eval z env)]=_;rw[markedBehindIn_of_false (xj hz o2)]
 rw[hm];refine aa (aK h (fun a s1A h₁=>?_) fun uA uA x=>x);show wpAny M A (do
  let rv <- holding [a] (eval y env)
  standAt pos
  let c <- holding [a,rv] (compareOp o1 a rv)
  release [a,rv] [c]
  if <- holding [c,rv] (truthy c) then testChain pos rv [o2] [eval z env] else pure false) Q E s1A
 refine aa (aS (aK h₁ (fun b s2A h2A=>aa (cN (aa (aS (aK h2A (fun c s3A h3A=>?_) fun uA uA x=>x))))) fun uA uA x=>x));refine aa (wpAny_release (aa (aS (aK h3A (fun t s4A h4A=>?_) fun uA uA x=>x))))
 cases t with
 | false=>rw[ak (by decide)] at h4A;exact ab h4A
 | true=>
   rw[af rfl] at h4A;show wpAny M A (do
    let rv <- holding [b] (eval z env)
    standAt pos
    let c <- operate [b,rv] (compareOp o2 b rv)
    holding [c] (truthy c)) Q E s4A
   exact aa (aS (aK h4A (fun d s5 h5A=>aa (cN (aa (wpAny_operating (aK h5A (fun e s6 h6A=>aS h6A) fun uA uA x=>x))))) fun uA uA x=>x))
theorem zod{p q:Cop}{o1 o2:CmpOp}{x y z:Expr}{ps:Pos}{ra:R za V}{rb rc:za->R za V}{k:Nat}(ro:Room A k)(h1o:x8 p o1=true)(h2o:x8 q o2=true)
 (hy:∀ l k p,y≠.Set l k p) (hz:∀ l k p,z≠.Set l k p)
 (h1:Does G F A s β (eval x F.env) (ra.lift ρ) (VRel G F)) (h2:∀ s' β' O',SR G F β' ρ O' s'.heap->Does G F A s' β' (eval y F.env) ((rb O').lift ρ) (VRel G F))
 (h3:∀ s' β' O',SR G F β' ρ O' s'.heap->Does G F A s' β' (eval z F.env) ((rc O').lift ρ) (VRel G F)) :
 Does G F A s β (isTrue (.Compare x [o1,o2] [y,z] ps) F.env (eval (.Compare x [o1,o2] [y,z] ps) F.env)) ((tv (ra.bind fun v O=>(rb O).bind fun u O=>(cmpV p v u O).bind fun t O=>(opt (truth t) O).bind (andK fun O=>(rc O).bind fun y O=>cmpV q u y O))).lift ρ) BRel:=by
 have e:tv (ra.bind fun v O=>(rb O).bind fun u O=>(cmpV p v u O).bind fun t O=>(opt (truth t) O).bind (andK fun O=>(rc O).bind fun y O=>cmpV q u y O))=ra.bind fun v O=>(rb O).bind fun u O=>(cmpV p v u O).bind fun t O=>(opt (truth t) O).bind fun z O=>(match z with
  | false=>R.ok false O
  | true=>(rc O).bind fun y O=>(cmpV q u y O).bind fun c O=>opt (truth c) O):=by
  cases ra with
  | ok v O=>
    show R.bind (R.bind (rb O) _) _=R.bind (rb O) _
    cases rb O with
    | ok u O=>
      show R.bind (R.bind (cmpV p v u O) _) _=R.bind (cmpV p v u O) _
      cases cmpV p v u O with
      | ok t O=>
        show R.bind (R.bind (opt (truth t) O) _) _=R.bind (opt (truth t) O) _
        cases truth t with
        | none=>rfl
        | some b=>cases b with
          | false=>rfl
          | true=>show R.bind (R.bind (rc O) _) _=R.bind (rc O) _;cases rc O <;> rfl
      | stuck=>rfl
    | stuck=>rfl
  | stuck=>rfl
 rw[e];refine DoesW.seqE (T2A:=fun a Q E s1A=>wpAny G.m A (eval y F.env) (fun b s2A=>wpAny G.m A (compareOp o1 a b) (fun c s3A=>wpAny G.m A (truthy c) (fun t s4A=>if t=true then wpAny G.m A (eval z F.env) (fun d s5=>wpAny G.m A (compareOp o2 b d) (fun e s6=>wpAny G.m A (truthy e) Q E s6) E s5) E s4A else Q false s4A) E s3A) E s2A) E s1A)
  (fun Q E h=>ua h hy hz) h1 fun s' β' v d O' e st sr rv=>?_
 refine DoesW.seqE (T1A:=tr G A (eval y F.env)) (T2A:=fun b Q E s2A=>wpAny G.m A (compareOp o1 v b) (fun c s3A=>wpAny G.m A (truthy c) (fun t s4A=>if t=true then wpAny G.m A (eval z F.env) (fun d s5=>wpAny G.m A (compareOp o2 b d) (fun e s6=>wpAny G.m A (truthy e) Q E s6) E s5) E s4A else Q false s4A) E s3A) E s2A) (fun Q E h=>h) (h2 s' β' O' sr) fun s2A β2 u d2A O2 e2A st2 sr2 ru=>?_;refine DoesW.seqE (T1A:=tr G A (compareOp o1 v u)) (T2A:=fun c Q E s3A=>wpAny G.m A (truthy c) (fun t s4A=>if t=true then wpAny G.m A (eval z F.env) (fun d s5=>wpAny G.m A (compareOp o2 u d) (fun e s6=>wpAny G.m A (truthy e) Q E s6) E s5) E s4A else Q false s4A) E s3A) (fun Q E h=>h) (ux ro h1o sr2 (rv.step sr.br sr.fm st2) ru) fun s3A β3 c d3A O3 e3A st3 sr3 rc'=>?_;refine DoesW.seqE (T1A:=tr G A (truthy c)) (T2A:=fun t Q E s4A=>if t=true then wpAny G.m A (eval z F.env) (fun d s5=>wpAny G.m A (compareOp o2 u d) (fun e s6=>wpAny G.m A (truthy e) Q E s6) E s5) E s4A else Q false s4A) (fun Q E h=>h) (jj sr3 rc') fun s4A β4 b b' O4 e4A st4 sr4 hb=>?_;have hb:b=b':=hb;subst hb;have ru':=(ru.step sr2.br sr2.fm (st3.trans st4))
 cases b with
 | false=>exact Does.leaf sr4 fun Q E q=>by show if _ then _ else _;rw[ak (by decide)];exact q _ _ (KeepsAll.refl _) rfl
 | true=>
   refine DoesW.seqE (T1A:=tr G A (eval z F.env)) (T2A:=fun d Q E s5=>wpAny G.m A (compareOp o2 u d) (fun e s6=>wpAny G.m A (truthy e) Q E s6) E s5) (fun Q E h=>by show if _ then _ else _;rw[af rfl];exact h) (h3 s4A β4 O4 sr4) fun s5 β5 w d5A O5 e5A st5A sr5 rw'=>?_;refine DoesW.seqE (T1A:=tr G A (compareOp o2 u w)) (T2A:=fun e=>tr G A (truthy e)) (fun Q E h=>h) (ux ro h2o sr5 (ru'.step sr4.br sr4.fm st5A) rw') fun s6 β6 c' d6A O6 e6A st6 sr6 rc''=>?_;exact jj sr6 rc''
end
section
variable{G:Gl}{F:Fm}{A:Around}{cx:Cx}{tgt:CT}{t:Expr}{scope:Scope}{gval:Nat->Option PyData}{gname:Nat->Option Str}{s:Shared}{β:List Addr}{ρ:Loc}{O:za}
theorem u6(env:Env):∀ (ifs:List Expr),(forIn ifs false fun c r=>if r=true then do let ok <- isTrue c env (eval c env);pure (ForInStep.yield ok) else pure (ForInStep.yield r):Sem Bool)=pure false
 | []=>by rw[bN]
 | c::rest=>by
   rw[bI];simp only[a9,cB,pure_bind];exact u6 env rest
theorem zfi(sr:SR G F β ρ O s.heap):Does G F A s β (y8 [] F.env) ((R.ok true O).lift ρ) BRel:=
 Does.leaf sr fun Q E q=>ab (q _ _ (KeepsAll.refl s) rfl)
theorem zdx{x:Expr}{rest:List Expr}{ra:R za V}{rb:za->R za Bool}(h1:Does G F A s β (isTrue x F.env (eval x F.env)) ((tv ra).lift ρ) BRel)
 (h2:∀ s' β' O',SR G F β' ρ O' s'.heap->Does G F A s' β' (y8 rest F.env) ((rb O').lift ρ) BRel) :
 Does G F A s β (y8 (x::rest) F.env) (((tv ra).bind fun t O=>(match t with | true=>rb O | false=>.ok false O)).lift ρ) BRel:=by
 refine DoesW.seqE (T2A:=fun t Q E s1A=>if t=true then wpAny G.m A (y8 rest F.env) Q E s1A else Q false s1A) (fun Q E h=>?_) h1 fun s' β' b b' O' e st sr hb=>?_
 ·show wpAny G.m A (y8 (x::rest) F.env) Q E s;unfold y8;rw[bI];simp only[if_true];refine aa (aa (aK h (fun t s1A h₁=>?_) fun uA uA x=>x))
  cases t with
  | true=>rw[af rfl] at h₁;exact ab h₁
  | false=>
    rw[ak (by decide)] at h₁;refine ab ?_;show wpAny _ _ (forIn rest false _) Q E s1A;rw[u6];exact ab h₁
 have hb:b=b':=hb;subst hb
 cases b with
 | true=>exact (h2 s' β' O' sr).weaken (fun Q E h=>by show if _ then _ else _;rw[af rfl];exact h) fun uA uA uA uA h=>h
 | false=>exact Does.leaf sr fun Q E q=>by show if _ then _ else _;rw[ak (by decide)];exact q _ _ (KeepsAll.refl s') rfl
theorem Fits.plus(fit:Fits F cx)(M:List Addr):Fits (F.plus M) cx:=⟨fit.names,fit.kind,fit.sck⟩
set_option tactic.hygienic true in
theorem zj9{elt iter:Expr}{ifs:List Expr}{pos spos px:Pos}{x:Str}{i:Nat}{own:Str->Bool}{r:R za Src}{evT:Loc->za->R za Bool}{evX:Loc->za->R za V}{K:V->za->R za V}
 (g:GOk G gval gname) (hh:A.handled=none) (fit:Fits F cx) (hown:∀ x,own x=true->F.own x=true) (hx:chkT cx own (.name i) (.Name x px)=true) (hsc:y9 scope cx.sc=true) (honce:xe (cx.inner tgt t scope).names=true) (hc:chkT (cx.inner tgt t scope) (ownOf scope) tgt t=true) (hset:∀ l k p,iter≠.Set l k p)
 (ht:∀ C D s β ρ O,SR G (zm cx F tgt t scope C D) β ρ O s.heap->Does G (zm cx F tgt t scope C D) A s β (y8 ifs (zm cx F tgt t scope C D).env) ((evT ρ O).lift ρ) BRel)
 (he:∀ C D s β ρ O,SR G (zm cx F tgt t scope C D) β ρ O s.heap->Does G (zm cx F tgt t scope C D) A s β (eval elt (zm cx F tgt t scope C D).env) ((evX ρ O).lift ρ) (VRel G (zm cx F tgt t scope C D)))
 (sr:SR G F β ρ O s.heap) (hI:DoesW G F s β (zck G A iter F.env) (r.lift ρ) (IRel G F A t s)) (has:∀ src O',r=.ok src O'->src.Has O') (hK:Fin2 K)
 (hsw:swapsWith (.ListComp elt [⟨t,iter,ifs,0⟩] scope pos) (some (.Name x px)) spos.line F.env=pure true) :
 Does G F A s β (exec (.Assign [.Name x px] (.ListComp elt [⟨t,iter,ifs,0⟩] scope pos) spos) F.env) ((((r.bind fun src O=>if src.xs.length<=line then yl src (xk tgt evT evX ρ) src.xs [] O else .stuck).bind K).lift ρ).bind (asgR (.name i))) (yu G F):=by
 refine fI (yq hsc) fun k1 k2 k3=>?_;have hclos:=wa (zct (sc:=cx.sc) fit sr.fm hsc);have hfold:∀ x,foldedSetIterable iter F.env x=pure x:=fun x=>qj hset _ _;have open_:∀ (Q:Flow->Shared->Prop) (E:Value->Shared->Prop),
  wpAny G.m A (comprehension (.ListComp elt [⟨t,iter,ifs,0⟩] scope pos) scope F.env iter.pos (newList []) false (eval iter F.env) (some (assign (.Name x px) F.env))) (fun uA s'=>Q .next s') E s ->
  wpAny G.m A (exec (.Assign [.Name x px] (.ListComp elt [⟨t,iter,ifs,0⟩] scope pos) spos) F.env) Q E s:=fun Q E h=>by
  rw[exec_Assign_Name_used _ _ _ _ hsw];refine aa (cN (aa ?_));show wpAny _ A (do let _ <- comprehension (.ListComp elt [⟨t,iter,ifs,0⟩] scope pos) scope F.env _ (newList []) false (eval iter F.env) (some (assign (.Name x px) F.env))) _ _ s;exact aa (aK h (fun uA s' hq=>ab (ab hq)) fun uA uA e=>e)
 cases r with
 | stuck=>trivial
 | ok src O1=>
   show DoesW G F s β _ ((R.lift ρ (R.bind (if src.xs.length<=line then yl src (xk tgt evT evX ρ) src.xs [] O1 else .stuck) K)).bind (asgR (.name i))) _;split
   ·rename_i hlen;refine fx (ku (src:=src) (turn:=xk tgt evT evX ρ) src.xs [] O1) ?_ ?_
    ·rintro ⟨res,O',hgo⟩;rw[hgo];show DoesW G F s β _ ((R.lift ρ (K (.d (.list res)) O')).bind (asgR (.name i))) _;have run:∀ (Q:Flow->Shared->Prop) (E:Value->Shared->Prop),(∀ s1A β1 Z C D s' β',Step F.W β s s1A β1->SR G F β1 ρ O1 s1A.heap->(∀ z∈Z,Itr s1A.heap z)->(∀ z∈Z,z∉F.B)->(∀ z∈Z,s.heap.get? z=none) ->
      CompEnd G F scope Z β1 s1A C D res O' s' β'->D∉yy scope C->wpAny G.m A (assign (.Name x px) F.env (.ref D)) (fun uA s''=>∃ m,s''.heap.Ns C m/\∀ h',Heap.SameBut C s''.heap h'->Q .next { s'' with heap:=h' }) E s') ->
      wpAny G.m A (exec (.Assign [.Name x px] (.ListComp elt [⟨t,iter,ifs,0⟩] scope pos) spos) F.env) Q E s:=by
      intro Q E k;refine open_ Q E ?_;refine wpAny_comprehension_free (use:=some _) rfl hfold hclos k1 (h9 hsc) (hI _ _ fun s1A β1 it st sr1 ⟨I,Z,St,e,W,h0,hz⟩=>?_);subst e;have hz0:∀ z∈Z,G.h₀.get? z=none:=fun z hz'=>by
       cases e:G.h₀.get? z with
       | none=>rfl
       | some o=>have:=sr.br.keep z o e;rw[hz z hz'] at this;contradiction
      have hzB:∀ z∈Z,z∉F.B:=fun z hz' hB=>by
       refine fC (sr.fm.stor z hB) fun o e fy=>?_;rw[hz z hz'] at e;contradiction
      refine zcr (RR:=fun acc C=>compPost G.m A E (some (assign (.Name x px) F.env)) (fun uA s'=>Q .next s') acc C) g hh fit hsc honce hc ht he W sr1 hz0 hzB hlen (has _ _ rfl) h0 hgo fun C D s' β' ce=>?_;obtain⟨m,hm⟩:=ce.ns;have hDM:D∉yy scope C:=fun hm'=>by
       obtain⟨o,vs,n,q1,q2,q3,_⟩:=ce.list;refine fx (ag.mp hm') ?_ ?_
       ·intro e;subst e;refine fP hm fun o' es ep p1 p2 fy=>?_;rw[q1] at p1;injection p1 with fu;subst fu;rw[q3] at p2;contradiction
       ·intro hm';exact ce.notCell hm'
      exact k s1A β1 Z C D s' β' st sr1 (W.itr _ _ _ _ h0) hzB hz ce hDM
     have fin:∀ (Q:Flow->Shared->Prop) (E:Value->Shared->Prop) (s1A:Shared) (β1 Z:List Addr) (C D:Addr) (s':Shared) (β' β2:List Addr) (v:V) (O2:za) (S:Loc×za),Step F.W β s s1A β1->SR G F β1 ρ O1 s1A.heap->(∀ z∈Z,s.heap.get? z=none) ->
      CompEnd G F scope Z β1 s1A C D res O' s' β'->StepZ Z β1 s1A s' β2->SR G (F.plus (yy scope C)) β2 ρ O2 s'.heap->VR G (F.plus (yy scope C)).B β2 s'.heap (.ref D) v->asgR (.name i) v (ρ,O2)=.ok .next S ->
      (∀ s' β' a,Step F.W β s s' β'->SR G F β' S.1 S.2 s'.heap->yu G F β' s'.heap a .next->Q a s') ->
      wpAny G.m A (assign (.Name x px) F.env (.ref D)) (fun uA s''=>∃ m,s''.heap.Ns C m/\∀ h',Heap.SameBut C s''.heap h'->Q .next { s'' with heap:=h' }) E s':=by
      intro Q E s1A β1 Z C D s' β' β2 v O2 S st sr1 hz ce sz srp vr hasg k;have hCM:C∈yy scope C:=am;have hCn:=ce.new C (ah _ am);have hCB:C∉F.B:=fun hB=>by
       refine fC (sr1.fm.stor C hB) fun o e fy=>?_;rw[hCn] at e;contradiction
      have hCMp:C∈(F.plus (yy scope C)).B:=aC _ hCM;have da:=x6 (A:=A) hh (fit.plus (yy scope C)) hown (.name i) hx srp vr;unfold asgR at hasg;unfold bindR at da;dsimp only at hasg da
      cases hbt:zu (.name i) v ρ with
      | none=>rw[hbt] at hasg;contradiction
      | some ρ'=>
        rw[hbt] at hasg da;injection hasg with fu fw;cases fu;subst fw
        refine da _ _ fun s3A β3 uA st3 sr3 uA=>?_;obtain⟨m,hm⟩:=ce.ns;refine fD m (Kin.ns hm fun o p1=>st3.kept C o p1 (srp.fm.notBox C hCMp) fun hw=>hCB (sr1.fm.sub C hw)) (fun h' hs=>?_);have hs':∀ b o,b≠C->s3A.heap.get? b=some o->h'.get? b=some o:=fun b o hb e=>(hs.2 b hb).trans e;have srF:=SR.drop sr1.fm sr3 hCM hCB hs';refine k _ β3 _ ?_ srF rfl;have s1:Step F.W β s s3A β3:=(st.thenStepZ sz hz).trans st3;exact s1.thenZ (Z:=[C]) ⟨rfl,rfl,fun b o hb e=>hs' b o (fun e'=>hb (by simp [e'])) e⟩ fun z hz'=>by
         rw [ae.mp hz']
         cases e:s.heap.get? C with
         | none=>rfl
         | some o=>refine fG (st.alive _ _ e) fun o' e'=>?_;rw[hCn] at e';contradiction
     cases hK with
     | plain=>
       show DoesW G F s β _ (asgR (.name i) (.d (.list res)) (ρ,O')) _
       cases hasg:asgR (.name i) (.d (.list res)) (ρ,O') with
       | stuck=>trivial
       | ok fl S=>
         have hfl:fl=.next:=by unfold asgR at hasg;split at hasg <;> cases hasg;rfl
         subst hfl;intro Q E k;refine run Q E fun s1A β1 Z C D s' β' st sr1 hz1 hzB hz ce hDM=>?_;refine fH (ce.sr sr1 hz1 hzB g.clsRef hDM) fun srp vr=>?_;exact fin Q E s1A β1 Z C D s' β' β' _ O' S st sr1 hz ce ce.step srp vr hasg k
     | box=>
       show DoesW G F s β _ (asgR (.name i) (.box O'.length) (ρ,O'++[.lst res])) _
       cases hasg:asgR (.name i) (.box O'.length) (ρ,O'++[.lst res]) with
       | stuck=>trivial
       | ok fl S=>
         have hfl:fl=.next:=by unfold asgR at hasg;split at hasg <;> cases hasg;rfl
         subst hfl;intro Q E k;refine run Q E fun s1A β1 Z C D s' β' st sr1 hz1 hzB hz ce hDM=>?_;refine fI (ce.srB sr1 hz1 hzB g.clsRef hDM) fun sz srp vr=>?_;exact fin Q E s1A β1 Z C D s' β' _ _ _ S st sr1 hz ce sz srp vr hasg k
    ·intro hgo;rw[hgo];trivial
   ·trivial
end
section
variable{G:Gl}{F:Fm}{A:Around}{s:Shared}{β:List Addr}{ρ:Loc}{O:za}
theorem yw{s:Shared}{h':Heap}{tk:Nat}(hk:∀ b o,s.heap.get? b=some o->h'.get? b=some o):KeepsAll s { s with heap:=h',toks:=tk }:=⟨rfl,rfl,hk⟩
noncomputable def zkr:Ty->String
 | .int=>"int"
 | .bool=>"bool"
 | .tuple=>"tuple"
 | .list=>"list"
 | .str=>"str"
theorem zq1(t:Ty):(wc t,Value.type (zkr t))∈bis:=by cases t <;> decide
theorem zdm{t:Ty}{v:Value}{x:PyData}{as:List Addr}{Q:Value->Shared->Prop}{E:Value->Shared->Prop}(r:Reads s.heap v x as)(k1:Q (.bool (isTy t x)) s)(k2:Q (.bool (isTy t x)) { s with toks:=s.toks+1 }):wpAny G.m A (call (.builtin "isinstance") [v,.type (zkr t)]) Q E s:=by
 cases r with
 | none=>cases t <;> first | exact IsiPair.NoneType_int k2 | exact IsiPair.NoneType_bool k2 | exact IsiPair.NoneType_tuple k2 | exact IsiPair.NoneType_list k2 | exact IsiPair.NoneType_str k2
 | bool b=>cases t <;> first | exact IsiPair.bool_int k1 | exact IsiPair.bool_bool k1 | exact IsiPair.bool_tuple k2 | exact IsiPair.bool_list k2 | exact IsiPair.bool_str k2
 | int i u=>cases t <;> first | exact IsiPair.int_int k1 | exact IsiPair.int_bool k2 | exact IsiPair.int_tuple k2 | exact IsiPair.int_list k2 | exact IsiPair.int_str k2
 | str x u=>cases t <;> first | exact IsiPair.str_int k2 | exact IsiPair.str_bool k2 | exact IsiPair.str_tuple k2 | exact IsiPair.str_list k2 | exact IsiPair.str_str k1
 | list h1 h2 h3 h4=>cases t <;> first | exact IsiPair.list_int h1 h2 k2 | exact IsiPair.list_bool h1 h2 k2 | exact IsiPair.list_tuple h1 h2 k2 | exact IsiPair.list_list h1 h2 k1 | exact IsiPair.list_str h1 h2 k2
 | tuple h1 h2 h3 h4=>cases t <;> first | exact IsiPair.tuple_int h1 h2 k2 | exact IsiPair.tuple_bool h1 h2 k2 | exact IsiPair.tuple_tuple h1 h2 k1 | exact IsiPair.tuple_list h1 h2 k2 | exact IsiPair.tuple_str h1 h2 k2
 | dict h1 h2 h3 h4 h5=>cases t <;> first | exact IsiPair.dict_int h1 h2 k2 | exact IsiPair.dict_bool h1 h2 k2 | exact IsiPair.dict_tuple h1 h2 k2 | exact IsiPair.dict_list h1 h2 k2 | exact IsiPair.dict_str h1 h2 k2
theorem zl3{t:Ty}{v:Value}{d:V}{x:PyData}(sr:SR G F β ρ O s.heap)(rv:VR G F.B β s.heap v d)(hx:look O d=some x) :
 LeafD G F s β (tr G A (call (.builtin "isinstance") [v,.type (zkr t)])) (V.d (.bool (isTy t x))) (FRel G F s):=by
 refine fG (wl sr rv hx) fun as r=>?_;exact LeafD.leaf sr fun Q E k=>zdm r (k _ _ (KeepsAll.refl s) ⟨VR.bool,fun uA h=>by injection h with fu;contradiction⟩) (k _ _ (KeepsAll.toks s _) ⟨VR.bool,fun uA h=>by injection h with fu;contradiction⟩)
theorem zg1{v:Value}{d:V}{xs:List PyData}(sr:SR G F β ρ O s.heap)(rv:VR G F.B β s.heap v d)(hx:look O d=some (.list xs))(hl:xs.length<=line) :
 LeafD G F s β (tr G A (call (.builtin "len") [v])) (V.d (.int xs.length)) (FRel G F s):=by
 refine fC (look_list sr rv hx) fun a eN eO=>?_;subst eN;obtain ⟨o,vs,n,h1,h2,h3,as,h4,h5⟩:=eO;have hsz:vs.size=xs.length:=by rw[<- av,zd h4]
 refine LeafD.leaf sr fun Q E k=>Calls.call_len_list ⟨o,h1,h2,n,h3⟩ (by rw[hsz];have:line=1000000:=rfl;lia) ?_;rw[hsz];exact k _ _ (KeepsAll.toks s _) ⟨VR.int,fun uA h=>by injection h with fu;contradiction⟩
theorem zey{v:Value}{xs:List PyData}(sr:SR G F β ρ O s.heap)(rv:VR G F.B β s.heap v (.d (.tuple xs)))(hl:xs.length<=line) :
 LeafD G F s β (tr G A (call (.builtin "len") [v])) (V.d (.int xs.length)) (FRel G F s):=by
 obtain⟨a,o,vs,n,rfl,h1,h2,h3,as,h4,h5⟩:=rv.tuple_inv;have hsz:vs.size=xs.length:=by rw[<- av,zd h4]
 refine LeafD.leaf sr fun Q E k=>PyProof.Rows.len_tuple ⟨o,h1,h2,n,h3⟩ (by rw[hsz];have:line=1000000:=rfl;lia) ?_;rw[hsz];exact k _ _ (KeepsAll.toks s _) ⟨VR.int,fun uA h=>by injection h with fu;contradiction⟩
theorem zcv{h:Heap}{vs:List Value}{xs:List PyData}{as:List Addr}(r:ReadsAll h vs xs as):∀ {bs:List Bool},wb xs=some bs->vs=bs.map Value.bool:=by
 refine yb (motive:=fun vs xs uA=>∀ {bs:List Bool},wb xs=some bs->vs=bs.map Value.bool) (fun e=>by injection e with fu;subst fu;rfl) ?_ r;intro v d as vs ds bs r _ ih is e
 cases d with
 | bool i=>
   refine fC (aD.mp e) fun bs e1 eO=>?_;subst eO;rw[d8 r,ih e1];rfl
 | _=>contradiction
theorem ints_get{h:Heap}{vs:List Value}{xs:List PyData}{as:List Addr}(r:ReadsAll h vs xs as):∀ {is:List Int},Mine.intsOf xs=some is->IntsAre vs is:=by
 refine yb (motive:=fun vs xs uA=>∀ {is:List Int},Mine.intsOf xs=some is->IntsAre vs is) (fun e=>by injection e with fu;subst fu;exact .nil) ?_ r;intro v d as vs ds bs r _ ih is e
 cases d with
 | int i=>
   refine fC (aD.mp e) fun bs e1 eO=>?_;subst eO;refine fG (vc r) fun t eN=>?_;subst eN;exact .cons _ _ (ih e1)
 | _=>contradiction
theorem ints_length:∀ {xs:List PyData} {is:List Int},Mine.intsOf xs=some is->xs=is.map PyData.int
 | [],_,e=>by injection e with fu;subst fu;rfl
 | x::xs,is,e=>by
   cases x with
   | int i=>
     refine fC (aD.mp e) fun bs e1 eO=>?_;subst eO;rw[ints_length e1];rfl
   | _=>contradiction
theorem range_all(bs:List Bool):(List.range bs.length).all (fun i=>bs[i]?.getD false)=bs.all id:=by
 rw[Bool.eq_iff_iff,aV,aV];constructor
 ·intro h b hb;obtain⟨i,hi,rfl⟩:=List.getElem_of_mem hb;have:=h i (aZ.mpr hi);rwa [au hi] at this
 ·intro h i hi;have hi:=aZ.mp hi;rw[au hi];exact h _ (dA hi)
theorem range_any(bs:List Bool):(List.range bs.length).any (fun i=>bs[i]?.getD false)=bs.any id:=by
 rw[Bool.eq_iff_iff,List.any_eq_true,List.any_eq_true];constructor
 ·rintro⟨i,hi,h⟩;have hi:=aZ.mp hi;rw[au hi] at h;exact fD _ (dA hi) h
 ·rintro⟨b,hb,h⟩;obtain⟨i,hi,rfl⟩:=List.getElem_of_mem hb;exact fD i (aZ.mpr hi) (by rw[au hi];exact h)
theorem zg5{s:Shared}{h':Heap}{tk:Nat}{o:Obj}(hk:∀ b o',b∉[s.heap.objs.size]->(s.heap.push o).get? b=some o'->h'.get? b=some o'):KeepsAll s { ({ s with heap:=s.heap.push o }:Shared) with heap:=h',toks:=tk }:=
 ⟨rfl,rfl,fun b o' e=>hk b o' (fun hm=>by rw[ae.mp hm,bk (aH _)] at e;contradiction) (ac _ e)⟩
theorem zut{v:Value}{d:V}{xs:List PyData}{bs:List Bool}(hh:A.handled=none)(sr:SR G F β ρ O s.heap)(rv:VR G F.B β s.heap v d)(hx:look O d=some (.list xs))(hb:wb xs=some bs) :
 LeafD G F s β (tr G A (call (.builtin "all") [v])) (V.d (.bool (bs.all id))) (FRel G F s):=by
 refine fC (look_list sr rv hx) fun a eN eO=>?_;subst eN;obtain ⟨o,vs,n,h1,h2,h3,as,h4,h5⟩:=eO;have hvs:=zcv h4 hb;have hsz:vs.size=bs.length:=by rw[<- av,hvs];simp
 refine LeafD.leaf sr fun Q E k=>call_all_walk (ct ⟨o,h1,h2,n,h3⟩ ?_);refine⟨_,_,_,_,_,_,fun i=>bs[i]?.getD false,rfl,Walks.list (A:=A.in1) hh s.heap.objs.size a (a8 (aY h1)) vs,⟨⟨_,aw _ rfl,rfl,rfl⟩,⟨o,ac _ h1,h2,n,h3⟩⟩,?_,fun h' tk hk=>?_⟩
 ·intro i v s' Q E hv q;rw[<- aT,hvs,aU] at hv
  cases hi:bs[i]? with
  | none=>rw[hi] at hv;contradiction
  | some b=>rw[hi] at hv;injection hv with fu;subst fu;dsimp only at q;rw[hi] at q;exact bS q
 ·rw[hsz,range_all];exact k _ _ (zg5 hk) ⟨VR.bool,fun uA h=>by injection h with fu;contradiction⟩
theorem zus{v:Value}{d:V}{xs:List PyData}{bs:List Bool}(hh:A.handled=none)(sr:SR G F β ρ O s.heap)(rv:VR G F.B β s.heap v d)(hx:look O d=some (.list xs))(hb:wb xs=some bs) :
 LeafD G F s β (tr G A (call (.builtin "any") [v])) (V.d (.bool (bs.any id))) (FRel G F s):=by
 refine fC (look_list sr rv hx) fun a eN eO=>?_;subst eN;obtain ⟨o,vs,n,h1,h2,h3,as,h4,h5⟩:=eO;have hvs:=zcv h4 hb;have hsz:vs.size=bs.length:=by rw[<- av,hvs];simp
 refine LeafD.leaf sr fun Q E k=>call_any_walk (ct ⟨o,h1,h2,n,h3⟩ ?_);refine⟨_,_,_,_,_,_,fun i=>bs[i]?.getD false,rfl,Walks.list (A:=A.in1) hh s.heap.objs.size a (a8 (aY h1)) vs,⟨⟨_,aw _ rfl,rfl,rfl⟩,⟨o,ac _ h1,h2,n,h3⟩⟩,?_,fun h' tk hk=>?_⟩
 ·intro i v s' Q E hv q;rw[<- aT,hvs,aU] at hv
  cases hi:bs[i]? with
  | none=>rw[hi] at hv;contradiction
  | some b=>rw[hi] at hv;injection hv with fu;subst fu;dsimp only at q;rw[hi] at q;exact bS q
 ·rw[hsz,range_any];exact k _ _ (zg5 hk) ⟨VR.bool,fun uA h=>by injection h with fu;contradiction⟩
theorem gj{vs:List Value}{is:List Int}(r:IntsAre vs is):∀ (i:Nat) v,vs[i]?=some v->∃ n t,is[i]?=some n/\v=.int n t:=by
 induction r with
 | nil=>intro i v e;contradiction
 | cons n t _ ih=>
   intro i v e
   cases i with
   | zero=>exact fV n t rfl (aN e).symm
   | succ i=>exact ih i v e
theorem preSum_eq(is:List Int):preSum (fun i=>is[i]?.getD 0) is.length=is.sum:=by
 have:∀ k,k<=is.length->preSum (fun i=>is[i]?.getD 0) k=(is.take k).sum:=by
  intro k
  induction k with
  | zero=>intro _;simp[preSum]
  | succ k ih=>
    intro hk;have hk':k < is.length:=hk;show preSum _ k+_=_;rw[ih (cG hk'),dZ,List.sum_append,au hk'];simp[au hk']
 rw[this _ (aH _),bh]
theorem gi{vs:List Value}{is:List Int}(r:IntsAre vs is):vs.length=is.length:=by
 induction r with
 | nil=>rfl
 | cons _ _ _ ih=>exact bR Nat.succ ih
theorem l_sum{v:Value}{d:V}{xs:List PyData}{is:List Int}(hh:A.handled=none)(sr:SR G F β ρ O s.heap)(rv:VR G F.B β s.heap v d)(hx:look O d=some (.list xs))(hb:Mine.intsOf xs=some is) :
 LeafD G F s β (tr G A (call (.builtin "sum") [v])) (V.d (.int is.sum)) (FRel G F s):=by
 refine fC (look_list sr rv hx) fun a eN eO=>?_;subst eN;obtain ⟨o,vs,n,h1,h2,h3,as,h4,h5⟩:=eO;have hvs:=ints_get h4 hb;have hsz:vs.size=is.length:=by rw[<- av,gi hvs]
 refine LeafD.leaf sr fun Q E k=>call_sum_walkG (ct ⟨o,h1,h2,n,h3⟩ ?_);refine⟨_,_,_,_,_,_,fun i=>is[i]?.getD 0,rfl,Walks.list (A:=A.in1) hh s.heap.objs.size a (a8 (aY h1)) vs,⟨⟨_,aw _ rfl,rfl,rfl⟩,⟨o,ac _ h1,h2,n,h3⟩⟩,fun b hb=>?_,fun i v hv=>?_,fun h' tk t' hk=>?_⟩
 ·show b < (s.heap.push _).objs.size;rw[bv];refine fx (ag.mp hb) ?_ ?_
  ·rintro rfl;exact cZ _
  ·intro hb;rw[ae.mp hb];exact cu (aY h1)
 ·rw[<- aT] at hv;refine fR (gj hvs i v hv) fun n t e1 e2=>?_;exact fz t (by dsimp only;rw[e1];exact e2)
 ·rw[hsz,preSum_eq];exact k _ _ (zg5 hk) ⟨VR.int,fun uA h=>by injection h with fu;contradiction⟩
theorem zl2{v:Value}{d:V}{x:PyData}{xs:List PyData}(sr:SR G F β ρ O s.heap)(rv:VR G F.B β s.heap v d)(hx:look O d=some x)(hi:items x=some xs)(hl:xs.length<=line) :
 LeafD G F s β (tr G A (call (.type "list") [v])) (V.d (.list xs)) (FRel G F s):=by
 have key:∀ (a:Addr) (o:Obj) (vs:Array Value) (n:Nat) (T:String) (as:List Addr),T = "list"\/T = "tuple"->s.heap.get? a=some o->o.cls=.type T->o.data=.seq vs n->ReadsAll s.heap vs.toList xs as->(∀ b∈as,b∉β/\b∉F.B) ->
  LeafD G F s β (tr G A (call (.type "list") [.ref a])) (V.d (.list xs)) (FRel G F s):=by
  intro a o vs n T as hT h1 h2 h3 h4 h5;have hsz:vs.size<=sizeLine:=by rw[<- av,zd h4];exact ai hl (by decide)
  refine LeafD.leaf sr fun Q E k=>call_list_seq (hsz:=hsz) a hT h1 h2 h3 fun h' c' hk hS=>?_;exact k _ _ (yw (tk:=s.toks) hk) ⟨y6 hS rfl rfl (zt hk h4) h5 sr.size_new,fun uA uA=>⟨_,rfl,bk (aH _),_,hS,rfl,rfl⟩⟩
 cases x with
 | list ys=>
   injection hi with fu;subst fu;refine fC (look_list sr rv hx) fun a eN eO=>?_;subst eN;obtain ⟨o,vs,n,h1,h2,h3,as,h4,h5⟩:=eO;exact key a o vs n _ as (.inl rfl) h1 h2 h3 h4 h5
 | tuple ys=>
   injection hi with fu;subst fu;have:=yt hx (fun uA h=>by contradiction);subst this;obtain⟨a,o,vs,n,rfl,h1,h2,h3,as,h4,h5⟩:=rv.tuple_inv;exact key a o vs n _ as (.inr rfl) h1 h2 h3 h4 h5
 | _=>contradiction
theorem zdj{v:Value}{d:V}{xs:List PyData}(sr:SR G F β ρ O s.heap)(rv:VR G F.B β s.heap v d)(hx:look O d=some (.list xs))(hl:xs.length<=line) :
 LeafD G F s β (tr G A (call (.type "tuple") [v])) (V.d (.tuple xs)) (FRel G F s):=by
 refine fC (look_list sr rv hx) fun a eN eO=>?_;subst eN;obtain ⟨o,vs,n,h1,h2,h3,as,h4,h5⟩:=eO;have hsz:vs.size<=sizeLine:=by rw[<- av,zd h4];exact ai hl (by decide)
 refine LeafD.leaf sr fun Q E k=>call_tuple_list (hsz:=hsz) ⟨o,h1,h2,n,h3⟩ fun h' hk=>?_;have hk':∀ b o,s.heap.get? b=some o->(h'.push { cls:=.type "tuple",data:=.seq vs }).get? b=some o:=fun b o e=>ac _ (hk b o e);exact k _ _ (yw (tk:=s.toks) hk') ⟨qa (aw _ rfl) rfl rfl (zt hk' h4) h5,fun uA h=>by injection h with fu;contradiction⟩
theorem zbp{v:Value}{xs:List PyData}(sr:SR G F β ρ O s.heap)(rv:VR G F.B β s.heap v (.d (.tuple xs))) :
 LeafD G F s β (tr G A (call (.type "tuple") [v])) (V.d (.tuple xs)) (FRel G F s):=by
 obtain⟨a,o,vs,n,rfl,h1,h2,h3,as,h4,h5⟩:=id rv.tuple_inv;refine LeafD.leaf sr fun Q E k=>call_tuple_tup ⟨o,h1,h2,n,h3⟩ (k _ _ (KeepsAll.refl s) ⟨rv,fun uA h=>by injection h with fu;contradiction⟩)
end
section
variable{G:Gl}{F:Fm}{A:Around}{cx:Cx}{s:Shared}{β:List Addr}{ρ:Loc}{O:za}{gval:Nat->Option PyData}{gname:Nat->Option Str}
theorem zfm(sr:SR G F β ρ O s.heap):Does G F A s β (execs [] F.env) (.ok .next (ρ,O)) (yu G F):=
 Does.leaf sr fun Q E q=>wpAny_execs_nil (q _ _ (KeepsAll.refl s) rfl)
theorem zdz{x:Stmt}{xs:List Stmt}{r:R (Loc×za) Fl}{g:Loc->za->R (Loc×za) Fl}(h1:Does G F A s β (exec x F.env) r (yu G F))
 (h2:∀ s' β' ρ' O',SR G F β' ρ' O' s'.heap->Does G F A s' β' (execs xs F.env) (g ρ' O') (yu G F)) :
 Does G F A s β (execs (x::xs) F.env) (r.bind (seqK fun S=>g S.1 S.2)) (yu G F):=by
 refine DoesW.seq (T2A:=fun f Q E s'=>match f with | .next=>wpAny G.m A (execs xs F.env) Q E s' | f=>Q f s') (fun Q E h=>wpAny_execs_cons h) h1 fun s' β' f d S e st sr rf=>?_
 cases d with
 | next=>
   have:f=.next:=rf;subst this;exact h2 s' β' S.1 S.2 sr
 | ret v=>
   refine fC rf ?_;clear rf;intro val eN rv;subst eN;exact Does.leaf sr fun Q E q=>q _ _ (KeepsAll.refl s') ⟨val,rfl,rv⟩
theorem zvi{e:Expr}{p:Pos}{r:R za V}(h1:Does G F A s β (eval e F.env) (r.lift ρ) (VRel G F)) :
 Does G F A s β (exec (.Return (some e) p) F.env) ((r.lift ρ).bind fun v S=>.ok (.ret v) S) (yu G F):=
 DoesW.by (f:=Flow.ret) (q:=Fl.ret) (fun Q E h=>wpAny_Return_some h) h1 fun β h a d rv=>⟨a,rfl,rv⟩
theorem zvn{t:Expr}{a b:List Stmt}{p:Pos}{r:R za V}{ga gb:Loc->za->R (Loc×za) Fl}(h1:Does G F A s β (isTrue t F.env (eval t F.env)) ((tv r).lift ρ) BRel)
 (h2:∀ s' β' ρ' O',SR G F β' ρ' O' s'.heap->Does G F A s' β' (execs a F.env) (ga ρ' O') (yu G F)) (h3:∀ s' β' ρ' O',SR G F β' ρ' O' s'.heap->Does G F A s' β' (execs b F.env) (gb ρ' O') (yu G F)) :
 Does G F A s β (exec (.If t a b p) F.env) (((tv r).lift ρ).bind (ifeK (fun S=>ga S.1 S.2) fun S=>gb S.1 S.2)) (yu G F):=by
 refine DoesW.seq (T2A:=fun z Q E s2A=>if z then wpAny G.m A (execs a F.env) Q E s2A else wpAny G.m A (execs b F.env) Q E s2A) (fun Q E h=>wpAny_If h) h1 fun s' β' z d S e st sr hz=>?_;have hz:z=d:=hz;subst hz
 cases z with
 | true=>exact (h2 s' β' S.1 S.2 sr).weaken (fun Q E h=>by show if _ then _ else _;rw[af rfl];exact h) fun uA uA uA uA h=>h
 | false=>exact (h3 s' β' S.1 S.2 sr).weaken (fun Q E h=>by show if _ then _ else _;rw[ak (by decide)];exact h) fun uA uA uA uA h=>h
theorem zd8{e:Expr}(h:∀ a b c d,e≠.ListComp a b c d)(h2:∀ a b c d,e≠.SetComp a b c d)(h3:∀ a b c d f,e≠.DictComp a b c d f)(t:Option Expr)(n:Nat)(env:Env):swapsWith e t n env=pure false:=by
 cases e <;> first | rfl | exact absurd rfl (h _ _ _ _) | exact absurd rfl (h2 _ _ _ _) | exact absurd rfl (h3 _ _ _ _ _)
theorem ztc{e:Expr}{p:Pos}{r:R za V}(hk:F.env.scope.kind=.function)(hi:interactive F.env=false)(hs:swapsWith e none p.line F.env=pure false)(h1:Does G F A s β (eval e F.env) (r.lift ρ) (VRel G F)) :
 Does G F A s β (exec (.Expr e p) F.env) ((r.lift ρ).bind fun uA S=>.ok .next S) (yu G F):=by
 refine DoesW.seq (T2A:=fun uA Q E s'=>Q .next s') (fun Q E h=>wpAny_Expr_any h hi hs) h1 fun s' β' v d S e st sr rv=>?_;exact Does.leaf sr fun Q E q=>q _ _ (KeepsAll.refl s') rfl
set_option tactic.hygienic true in
theorem za6{x:Str}{px spos:Pos}{i:Nat}{own:Str->Bool}{value:Expr}{r:R za V}(fit:Fits F cx)(hown:∀ x,own x=true->F.own x=true)(hx:chkT cx own (.name i) (.Name x px)=true)
 (hs:swapsWith value (some (.Name x px)) spos.line F.env=pure false) (h1:Does G F A s β (eval value F.env) (r.lift ρ) (VRel G F)) :
 Does G F A s β (exec (.Assign [.Name x px] value spos) F.env) ((r.lift ρ).bind (asgR (.name i))) (yu G F):=by
 refine fL (uy hx) fun y p e h2 h3=>?_;injection e with fu fw;subst fu fw
 refine fH (gf fit h2) fun g1 g2=>?_;refine DoesW.seq (T2A:=fun v Q E s'=>wpAny G.m A (storeName F.env x v) (fun uA=>Q .next) E s') (fun Q E h=>wpAny_Assign_Name h hs) h1 fun s' β' v d S e st sr rv=>?_;have ds:=zit (A:=A) sr g1 g2 (hown x h3) rv;unfold asgR zu;split
 ·rename_i ρ' heq;split at heq
  ·injection heq with fu;subst fu;intro Q E k;exact ds _ _ fun s'' β'' uA st' sr' uA=>k s'' β'' .next st' sr' rfl
  ·contradiction
 ·trivial
theorem zfn{elts:List Expr}{k:Nat}{tpos spos:Pos}{c:CT}{own:Str->Bool}{value:Expr}{r:R za V}(hh:A.handled=none)(fit:Fits F cx)(hown:∀ x,own x=true->F.own x=true)(hx:chkT cx own c (.Tuple elts k tpos)=true)
 (hs:swapsWithSole [.Tuple elts k tpos] value spos.line F.env=pure false) (hw:swappedStores [.Tuple elts k tpos] value F.env=pure none) (h1:Does G F A s β (eval value F.env) (r.lift ρ) (VRel G F)) :
 Does G F A s β (exec (.Assign [.Tuple elts k tpos] value spos) F.env) ((r.lift ρ).bind (asgR c)) (yu G F):=by
 refine DoesW.seq (T2A:=fun v Q E s'=>wpAny G.m A (assign (.Tuple elts k tpos) F.env v) (fun uA=>Q .next) E s') (fun Q E h=>Assign_Tuple h hs hw) h1 fun s' β' v d S e st sr rv=>?_;have da:=x6 (A:=A) hh fit hown c hx sr rv;unfold bindR at da;unfold asgR
 cases hb:zu c d S.1 with
 | none=>trivial
 | some ρ'=>
   rw[hb] at da;intro Q E k;exact da _ _ fun s'' β'' uA st' sr' uA=>k s'' β'' .next st' sr' rfl
theorem zps{t:Expr}{body:List Stmt}{p:Pos}{ev:Loc->za->R za V}{evb:Loc->za->R (Loc×za) Fl}{N:Nat}
 (ht:∀ s β ρ O,SR G F β ρ O s.heap->Does G F A s β (isTrue t F.env (eval t F.env)) ((tv (ev ρ O)).lift ρ) BRel)
 (hb:∀ s β ρ O,SR G F β ρ O s.heap->Does G F A s β (execs body F.env) (evb ρ O) (yu G F)) (sr:SR G F β ρ O s.heap) :
 Does G F A s β (exec (.While t body [] p) F.env) (xh (fun ρ O=>(tv (ev ρ O)).lift ρ) evb N ρ O) (yu G F):=by
 cases hgo:xh (fun ρ O=>(tv (ev ρ O)).lift ρ) evb N ρ O with
 | stuck=>trivial
 | ok fl S=>
   intro Q E k;refine wpAny_While (codeAny_whileLoop (fun n s'=>∃ β' ρ' O',Step F.W β s s' β'/\SR G F β' ρ' O' s'.heap/\xh (fun ρ O=>(tv (ev ρ O)).lift ρ) evb n ρ' O'=.ok fl S) ?_ N ⟨β,ρ,O,Step.refl _ _ _,sr,hgo⟩);rintro n s' ⟨β',ρ',O',st,sr',hgo'⟩
   cases n with
   | zero=>contradiction
   | succ n=>
     rw[ub] at hgo';have dt:=ht s' β' ρ' O' sr'
     cases he:(tv (ev ρ' O')).lift ρ' with
     | stuck=>rw[he] at hgo';contradiction
     | ok b S'=>
       rw[he] at hgo' dt;refine dt _ _ fun s2A β2 b' st2 sr2 hb'=>?_;have hb':b'=b:=hb';subst hb'
       cases b' with
       | false=>
         injection hgo' with fu fw;subst fu fw;rw [ak (by decide)];exact wpAny_execs_nil (k s2A β2 .next (st.trans st2) sr2 rfl)
       | true=>
         rw [af rfl];dsimp only at hgo';have db:=hb s2A β2 S'.1 S'.2 sr2
         cases he2:evb S'.1 S'.2 with
         | stuck=>rw [he2] at hgo';contradiction
         | ok f S''=>
           rw [he2] at hgo' db;refine db _ _ fun s3A β3 f' st3 sr3 rf=>?_
           cases f with
           | ret u=>
             injection hgo' with fu fw;subst fu fw;refine fC rf ?_;clear rf;intro val eN rv;subst eN;exact k s3A β3 (.ret val) (st.trans (st2.trans st3)) sr3 ⟨val,rfl,rv⟩
           | next=>
             have rf:f'=.next:=rf;subst rf;exact⟨n,cZ n,β3,S''.1,S''.2,st.trans (st2.trans st3),sr3,hgo'⟩
end
theorem zkk{kindOf:Str->Option NameKind}{x:Str}:∀ (r:List (Str×Value)) (m:Str->Option Value),x∉r.map (·.1)->bindL kindOf r m x=m x:=by
 intro r
 induction r with
 | nil=>intro m _;rfl
 | cons p r ih=>
   intro m hx;have hx:x∉p.1::r.map (·.1):=hx;rw[ag,not_or] at hx;refine (ih _ hx.2).trans ?_;show (if kindOf p.1=some .local then fun y=>if y=p.1 then some p.2 else m y else m) x=m x;split
   ·exact ak hx.1
   ·rfl
theorem zkj{kindOf:Str->Option NameKind}{x:Str}{v:Value}(hk:kindOf x=some .local):∀ (binds:List (Str×Value)) (m:Str->Option Value),(binds.map (·.1)).Nodup->(x,v)∈binds->bindL kindOf binds m x=some v:=by
 intro binds
 induction binds with
 | nil=>intro m _ hm;cases hm
 | cons p r ih=>
   intro m hn hm;have hn:(p.1::r.map (·.1)).Nodup:=hn;refine fH (bw.mp hn) fun h1 h2=>?_;refine fx (ag.mp hm) ?_ ?_
   ·intro e;subst e;refine (zkk r _ h1).trans ?_;show (if kindOf x=some .local then fun y=>if y=x then some v else m y else m) x=some v;rw[af hk,af rfl]
   ·intro hm;exact ih _ h2 hm
theorem zkm{kindOf:Str->Option NameKind}{x:Str}(r:List (Str×Value)):∀ (m:Str->Option Value),x∉r.map (·.1)->bindC kindOf r m x=m x:=by
 induction r with
 | nil=>exact fun m uA=>rfl
 | cons p r ih=>
   intro m hx;obtain⟨n',u'⟩:=p;have hx':x≠n'/\x∉r.map (·.1):=by simpa using hx
   unfold bindC;rw[ih _ hx'.2];split
   ·rfl
   ·exact ak hx'.1
theorem zkl{kindOf:Str->Option NameKind}{binds:List (Str×Value)}{x:Str}{v:Value}(hk:kindOf x=some .cell):∀ {m:Str->Option Value},(binds.map (·.1)).Nodup->(x,v)∈binds->bindC kindOf binds m x=some v:=by
 induction binds with
 | nil=>exact fun uA hm=>absurd hm dB
 | cons p r ih=>
   intro m hn hm;obtain⟨n,u⟩:=p;refine fH (bw.mp hn) fun h1 h2=>?_;unfold bindC;refine fx (ag.mp hm) ?_ ?_
   ·intro e;refine fH (Prod.mk.inj e) fun hx hv=>?_;subst hx;subst hv;rw[ak (by rw[hk];decide),zkm r _ h1];exact af rfl
   ·intro hm;exact ih h2 hm
theorem VRs.get{G:Gl}{N β:List Addr}{h:Heap}{vs:List Value}{ds:List V}(r:VRs G N β h vs ds):∀ (i:Nat) (h1:i < vs.length) (h2:i < ds.length),VR G N β h vs[i] ds[i]:=by
 induction r with
 | nil=>intro i h1;simp at h1
 | cons r rs ih=>
   intro i h1 h2
   cases i with
   | zero=>exact r
   | succ i=>exact ih i (by simpa using h1) (by simpa using h2)
theorem BoxAt.less2{N N' β β':List Addr}{h:Heap}(hs:∀ a∈N,a∈N')(hb:∀ a∈β,a∈β'){a:Addr}{bx:Box}(r:BoxAt h N' β' a bx):BoxAt h N β a bx:=by
 cases bx with
 | lst xs=>obtain⟨o,vs,n,h1,h2,h3,as,h4,h5⟩:=r;exact⟨o,vs,n,h1,h2,h3,as,h4,fun b hb'=>⟨fun hm=>(h5 b hb').1 (hb b hm),fun hn=>(h5 b hb').2 (hs b hn)⟩⟩
 | dct kvs=>
   obtain⟨o,es,n,h1,h2,h3,h4,h5⟩:=r;refine⟨o,es,n,h1,h2,h3,h4,fun i e kv he hkv=>?_⟩;obtain⟨hq,as,bs,r1,r2,q⟩:=h5 i e kv he hkv;exact⟨hq,as,bs,r1,r2,fun b hb'=>⟨fun hm=>(q b hb').1 (hb b hm),fun hn=>(q b hb').2 (hs b hn)⟩⟩
noncomputable def xc(fd:FuncData)(L a:Addr)(names:List (Option Str))(B fr:List Addr):Fm:=
 { env:=callEnvC fd L a,names:=names,own:=ownOf fd.scope,W:=L::(cellsFrom (L+1) fd.scope.names []).map (·.2),B:=(L::(cellsFrom (L+1) fd.scope.names []).map (·.2))++B,fr:=L::fr }
structure FnOk(G:Gl)(J:Cx->List Stmt->CSs->Prop)(fname gname cname:Nat->Option Str)(x:Str)(fn:Fn)(a:Addr)(o:Obj)(fd:FuncData)(body:List Stmt)(names:List Str):Prop where
 at_:FnAt G x a o fd
 code:G.h₀.CodeRec fd.code fd.qualname
 body_:fd.body=.stmts body
 clos:fd.closure=[]
 globals:fd.globals=mainGlobals
 builtins:fd.builtins=builtinsNs
 defaults:fd.defaults=.none
 chk:ziv fn names fd.params fd.scope=true
 js:J { names:=yr fn names,sc:=fd.scope,fname,gname,cname } body fn.body
def zi3(G:Gl)(J:Cx->List Stmt->CSs->Prop)(fname gname cname:Nat->Option Str)(T:Nat->Option Fn):Prop:=
 ∀ f x,fname f=some x->(∃ a o fd,FnAt G x a o fd)/\∀ fn,T f=some fn->∃ a o fd body names,FnOk G J fname gname cname x fn a o fd body names
structure HdOk(fn:Fn)(names:List Str)(a:Arguments)(sc:Scope):Prop where
 p1:a.posonlyargs=[]
 p2:a.vararg=none
 p3:a.kwonlyargs=[]
 p4:a.kwarg=none
 p5:a.args.map (·.arg)=names.take fn.arity
 k1:sc.kind=.function
 k2:sc.isGenerator=false
 k3:sc.isCoroutine=false
 k4:(sc.names.map (·.1)).Nodup
 k5:∀ x k,(x,k)∈sc.names->k=.local\/k=.cell\/k=.globalImplicit
 n1:names.Nodup
 n2:names.length<=fn.slots
 n3:fn.arity<=names.length
 n4:∀ x∈names,ownOf sc x=true
theorem qt{fn:Fn}{names:List Str}{a:Arguments}{sc:Scope}(h:ziv fn names a sc=true):HdOk fn names a sc:=by
 unfold ziv at h;simp only[aM,aP] at h;refine fH h fun eM h6=>?_;refine fH eM fun eM h5=>?_;refine fH eM fun eM h4=>?_;refine fH eM fun eM h3=>?_;refine fH eM fun h1 h2=>?_;unfold u9 at h1;simp only[aM,cC,Option.isNone_iff_eq_none,aQ] at h1;unfold zco at h2;simp only[aM,dW,aP,aQ] at h2;refine⟨h1.1.1.1.1.1.1.1,h1.1.1.1.1.1.1.2,h1.1.1.1.1.1.2,h1.1.1.1.2,h1.1.2,h2.1.1.1.1,h2.1.1.1.2,h2.1.1.2,h2.1.2,fun x k hm=>?_,h3,h4,h5,aV.mp h6⟩;have:=aV.mp h2.2 (x,k) hm;simpa [cj,aQ,or_assoc] using this
section
variable{G:Gl}{J:Cx->List Stmt->CSs->Prop}{F:Fm}{A:Around}{gval:Nat->Option PyData}{fname gname cname:Nat->Option Str}{T:Nat->Option Fn}{P:Pg}
structure Out(G:Gl)(B fr β:List Addr)(h:Heap):Prop where
 new:(∀ a∈B,a≠sysModules->G.h₀.get? a=none)/\sysModules∈B/\sysModules∉fr
 notBox:∀ a∈B,a∉β
 stor:∀ a∈B,∃ o,h.get? a=some o/\∀ vs n,o.data=.seq vs n->o.cls≠.type "tuple"
 frB:∀ a∈fr,a∈B
 frs:∀ a∈fr,∃ m,h.Ns a m
theorem FmOk.out{β:List Addr}{h:Heap}(fm:FmOk G F β h):Out G F.B F.fr β h:=⟨⟨fm.new.1,fm.new.2.1,fm.new.2.2.2⟩,fm.notBox,fm.stor,fm.frB,fm.frs⟩
theorem zb3{fn:Fn}{x:Str}{a:Addr}{o:Obj}{fd:FuncData}{body:List Stmt}{names:List Str}(fo:FnOk G J fname gname cname x fn a o fd body names){s s1A:Shared}{β B fr:List Addr}{O:za}{vals:List Value}{vs:List V}(br:BR G B β O s.heap)(fm:Out G B fr β s.heap)
 (rvs:VRs G B β s.heap vals vs) (hlen:vs.length=fn.arity)
 (ic:InCallC s (callEnvC fd s.heap.objs.size a).locals (bindL (callEnvC fd s.heap.objs.size a).kindOf ((names.take fn.arity).zip vals) fun uA=>none) (callEnvC fd s.heap.objs.size a).cells
   (bindC (callEnvC fd s.heap.objs.size a).kindOf ((names.take fn.arity).zip vals) fun uA=>none) s1A) :
 SR G (xc fd s.heap.objs.size a (yr fn names) B fr) β (vs.map some++List.replicate (fn.slots - fn.arity) none) O s1A.heap/\KeepsAll s s1A:=by
 obtain⟨_,_,_,_,_,k1,k2,k3,k4,k5,n1,n2,n3,n4⟩:=qt fo.chk;have kept:∀ b o,s.heap.get? b=some o->s1A.heap.get? b=some o:=ic.toInCall.keep;obtain⟨h₁,tk,e1A⟩:=ic.toInCall.same;have ka:KeepsAll s s1A:=⟨by rw[e1A],by rw[e1A],kept⟩;refine⟨?_,ka⟩;have hns:=ic.toInCall.ns;have hLn:s.heap.get? s.heap.objs.size=none:=z9 s;have hcn:∀ y c,(y,c)∈cellsFrom (s.heap.objs.size+1) fd.scope.names []->s.heap.get? c=none:=fun y c hm=>bk (cG (ic.above y c hm));have hM:∀ b∈s.heap.objs.size::(cellsFrom (s.heap.objs.size+1) fd.scope.names []).map (·.2),s.heap.get? b=none:=fun b hb=>by
  refine fx (ag.mp hb) ?_ ?_
  ·rintro rfl;exact hLn
  ·intro hb;refine fC (az.mp hb) fun p hp eO=>?_;subst eO;exact hcn p.1 p.2 hp
 have h0:∀ b,s.heap.get? b=none->G.h₀.get? b=none:=fun b hb=>by
  cases e:G.h₀.get? b with
  | none=>rfl
  | some o=>have:=br.keep b o e;rw[hb] at this;contradiction
 have hnames:(yr fn names)=names.map some++List.replicate (fn.slots - names.length) none:=rfl;have nget:∀ (i:Nat) y,(yr fn names)[i]?=some (some y)->names[i]?=some y:=fun i y h=>by
  rw[hnames] at h;refine fx (bn i names.length) ?_ ?_
  ·intro hi;rw[aJ (by simpa using hi),aU] at h
   cases hn:names[i]? with
   | none=>rw[hn] at h;contradiction
   | some z=>rw[hn] at h;cases h;rfl
  ·intro hi;rw[aI (by simpa using hi),List.getElem?_replicate] at h;split at h <;> cases h
 have cellok:∀ y c,(y,c)∈cellsFrom (s.heap.objs.size+1) fd.scope.names []->(cellsFrom (s.heap.objs.size+1) fd.scope.names []).lookup y=some c->∃ v,s1A.heap.IsCell c v:=fun y c uA hl=>⟨_,ic.cell y c hl⟩;refine⟨(br.grow hM).keepAll kept,⟨k1,fo.globals,fo.builtins,fun i j y h1 h2=>?_,⟨_,hns⟩,am,fun y hy=>?_,fun y z c hy hz=>?_,fun b hb=>aC _ hb,?_,fun b hb hb'=>?_,fun b hb=>?_,fun b hb=>?_,fun b hb=>?_,fun m e=>nomatch e⟩,fun i y v h1 h2=>?_⟩
 ·have e1:=nget i y h1;have e2:=nget j y h2;have hi:i < names.length:=(aE.mp e1).1;have hj:j < names.length:=(aE.mp e2).1;rw[au hi] at e1;rw[au hj] at e2;exact (List.getElem_inj (h₀:=hi) (h₁:=hj) n1).mp ((aN e1).trans (aN e2).symm)
 ·have hy':fd.scope.names.lookup y=some .cell:=hy;refine fG (cm.mp (yi fd.scope.names (s.heap.objs.size+1) [] (.inl ((lookup_mem k4).mpr hy')))) fun c hc=>?_;have hW:c∈s.heap.objs.size::(cellsFrom (s.heap.objs.size+1) fd.scope.names []).map (·.2):=ah _ (az.mpr ⟨(y,c),mem_of_lookup hc,rfl⟩);exact fU c _ hc (ic.cell y c hc) (aC _ hW) (fun uA=>hW)
 ·exact name_of_addr ic.apart (mem_of_lookup hy) (mem_of_lookup hz)
 ·refine⟨fun b hb hs=>?_,aq _ fm.new.2.1,fun hm=>br.notSys (hM _ hm) rfl,fun hm=>?_⟩
  ·refine fx (aj.mp hb) ?_ ?_
   ·intro hb;exact h0 b (hM b hb)
   ·intro hb;exact fm.new.1 b hb hs
  ·refine fx (ag.mp hm) ?_ ?_
   ·intro q;exact br.notSys hLn q.symm
   ·intro hm;exact fm.new.2.2 hm
 ·refine fx (aj.mp hb) ?_ ?_
  ·intro hb;refine fC (br.alive b hb') fun o e fy=>?_;rw[hM b hb] at e;contradiction
  ·intro hb;exact fm.notBox b hb hb'
 ·refine fx (aj.mp hb) ?_ ?_
  ·intro hb;refine fx (ag.mp hb) ?_ ?_
   ·rintro rfl;refine fP hns ?_;clear hns;intro o es ep q1 q2 _;exact fD o q1 (fun vs n q=>by rw[q2] at q;contradiction)
   ·intro hb;refine fC (az.mp hb) fun p hp eO=>?_;subst eO;obtain⟨c,hc⟩:=cm.mp (yi fd.scope.names (s.heap.objs.size+1) [] (x:=p.1) (by
     refine fx (xr _ _ _ (show (p.1,p.2)∈_ from hp)) ?_ ?_
     ·intro h;exact .inl h
     ·intro h;cases h))
    have hpc:c=p.2:=by
     have hkeys:∀ (names:List (Str×NameKind)) (n:Nat) (acc:List (Str×Addr)),(names.map (·.1)).Nodup->(∀ q∈acc,q.1∉names.map (·.1))->(acc.map (·.1)).Nodup->((cellsFrom n names acc).map (·.1)).Nodup:=by
      intro names
      induction names with
      | nil=>intro n acc _ _ h;exact h
      | cons z r ih=>
        intro n acc hn ha hacc;obtain⟨zn,zk⟩:=z;refine fH (bw.mp hn) fun hz1 hz2=>?_;unfold cellsFrom;split
        ·refine ih _ _ hz2 (fun q hq=>?_) ?_
         ·refine fx (ag.mp hq) ?_ ?_
          ·rintro rfl;exact hz1
          ·intro hq;exact fun hm=>ha q hq (ah _ hm)
         ·rw [a6,bw];exact⟨fun hm=>by refine fC (az.mp hm) fun q hq e=>?_;exact ha q hq (by rw[e];exact am),hacc⟩
        ·exact ih _ _ hz2 (fun q hq hm=>ha q hq (ah _ hm)) hacc
     have hk:=hkeys fd.scope.names (s.heap.objs.size+1) [] k4 (fun uA h=>nomatch h) (by simp);have e1:=(lookup_mem hk (x:=p.1) (k:=p.2)).mp hp;rw[hc] at e1;cases e1;rfl
    subst hpc;refine fC (ic.cell p.1 p.2 hc) fun o q1 q2=>?_;exact fD o q1 (fun vs n q=>by rw[q2] at q;contradiction)
  ·intro hb;refine fC (fm.stor b hb) fun o q1 q2=>?_;exact fD o (kept _ _ q1) q2
 ·refine fx (ag.mp hb) ?_ ?_
  ·rintro rfl;exact aC _ am
  ·intro hb;exact aq _ (fm.frB b hb)
 ·refine fx (ag.mp hb) ?_ ?_
  ·rintro rfl;exact fz _ hns
  ·intro hb;refine fG (fm.frs b hb) fun m hm=>?_;exact fz m (hm.keeps kept)
 ·have hvl:vals.length=vs.length:=rvs.length;have hi:i < vs.length:=by
   refine fx (bn i vs.length) ?_ ?_
   ·intro h;exact h
   ·intro h;rw[aI (by simpa using h),List.getElem?_replicate] at h2;split at h2 <;> cases h2
  rw[aJ (by simpa using hi),aU,au hi] at h2;injection h2 with fu;injection fu with fu;subst fu
  have hiv:i < vals.length:=by rw[hvl];exact hi
  have hy:=nget i y h1;have hz:(y,vals[i])∈(names.take fn.arity).zip vals:=by
   have:((names.take fn.arity).zip vals)[i]?=some (y,vals[i]):=by
    rw[List.getElem?_zip_eq_some];refine⟨?_,au hiv⟩;rw[List.getElem?_take_of_lt (by rw[<- hlen];exact hi)];exact hy
   exact ay this
  have hnd:(((names.take fn.arity).zip vals).map (·.1)).Nodup:=by
   have:((names.take fn.arity).zip vals).map (·.1)=names.take fn.arity:=by
    rw[List.map_fst_zip];rw[List.length_take,hvl,hlen];exact Nat.min_le_left _ _
   rw[this];exact n1.sublist (List.take_sublist _ _)
  refine fD (vals[i]) ?_ (((rvs.get i hiv hi).grow hM).keepAll kept);have how:=n4 y (ay hy);unfold ownOf at how;simp only[cj,aQ] at how;refine fx how ?_ ?_<;>clear how
  ·intro how;exact .inl ⟨how,_,hns,zkj how _ _ hnd hz⟩
  ·intro how;refine fG (cm.mp (yi fd.scope.names (s.heap.objs.size+1) [] (.inl ((lookup_mem k4).mpr how)))) fun c hc=>?_;refine .inr ⟨how,c,hc,?_⟩;have:=ic.cell y c hc;rwa [zkl how hnd hz] at this
end
section
variable{G:Gl}{N N' β β':List Addr}{O':za}{h:Heap}{base:Nat}
theorem pre_take{β β':List Addr}(hp:β <+: β'):β=β'.take β.length:=by refine fG hp ?_;clear hp;intro t eN;subst eN;simp
theorem BR.short(br:BR G N' β' O' h)(hN:∀ a∈N,a∈N')(hp:β <+: β')(hl:β.length=base):BR G N β (O'.take base) h:=by
 have hle:β.length<=β'.length:=hp.length_le;have hget:∀ {i:Nat} {a:Addr},β[i]?=some a->β'[i]?=some a:=fun e=>x9 hp e;refine⟨br.keep,by rw[List.length_take,<- br.len,hl];lia,br.nodup.sublist hp.sublist,fun a ha=>br.new a (hp.subset ha),fun i a bx h1 h2=>?_,fun a ha=>br.plain a (hp.subset ha)⟩;have h2':O'[i]?=some bx:=by
  rw[List.getElem?_take] at h2;split at h2
  ·exact h2
  ·contradiction
 exact (br.at_ i a bx (hget h1) h2').less2 hN fun a ha=>hp.subset ha
theorem zfy{n:Nat}{b:Addr}(br:BR G N' β' O' h)(hp:β <+: β')(hn:β.length<=n)(hb:β'[n]?=some b):b∉β:=fun hm=>by
 refine fG (ch hm) fun i hi=>?_;have hi':=x9 hp hi;have hil:i < β.length:=(aE.mp hi).1;have h1:i < β'.length:=(aE.mp hi').1;have h2:n < β'.length:=(aE.mp hb).1;rw[au h1] at hi';rw[au h2] at hb;have:=(List.getElem_inj (h₀:=h1) (h₁:=h2) br.nodup).mp ((aN hi').trans (aN hb).symm);lia
theorem BR.shortB{n:Nat}{b:Addr}{xs:List PyData}(br:BR G N' β' O' h)(hN:∀ a∈N,a∈N')(hp:β <+: β')(hl:β.length=base)(hn:base<=n)(hb:β'[n]?=some b)(hx:O'[n]?=some (.lst xs)) :
 BR G N (β++[b]) (O'.take base++[.lst xs]) h/\(∀ a∈β++[b],a∈β'):=by
 have s:=br.short (base:=base) hN hp hl;have hbm:b∈β':=ay hb;have sub:∀ a∈β++[b],a∈β':=fun a ha=>(aj.mp ha).elim (fun h=>hp.subset h) fun h=>by rw[ae.mp h];exact hbm
 have hbβ:b∉β:=zfy br hp (by rw[hl];exact hn) hb;refine⟨⟨br.keep,by simp[s.len],?_,fun a ha=>br.new a (sub a ha),fun i a bx h1 h2=>?_,fun a ha=>br.plain a (sub a ha)⟩,sub⟩
 ·rw[bT];exact⟨s.nodup,by simp,fun a ha c hc=>by rw[ae.mp hc];exact fun e=>hbβ (e ▸ ha)⟩
 ·refine fx (bn i β.length) ?_ ?_
  ·intro hi;rw[aJ hi] at h1;rw[aJ (by rw[<- s.len];exact hi),List.getElem?_take] at h2;split at h2
   ·exact (br.at_ i a bx (x9 hp h1) h2).less2 hN sub
   ·contradiction
  ·intro hi;rw[aI hi] at h1;rw[aI (by rw[<- s.len];exact hi)] at h2;have hi0:i - β.length=0:=by
    refine fx (Nat.eq_zero_or_pos (i - β.length)) ?_ ?_
    ·intro h;exact h
    ·intro h;rw[a7 (show [b].length<=i - β.length from h)] at h1;contradiction
   rw[hi0] at h1;rw[<- s.len,hi0] at h2;injection h1 with fu;subst fu;injection h2 with fu;subst fu
   exact (br.at_ n b (.lst xs) hb hx).less2 hN sub
theorem zbd{n:Nat}{b:Addr}{xs:List PyData}(br:BR G N' β' O' h)(hN:∀ a∈N,a∈N')(nb:∀ a∈N',a∉β')(hp:β <+: β')(hn:β.length<=n)(hb:β'[n]?=some b)(hx:O'[n]?=some (.lst xs)):VR G N β h (.ref b) (.d (.list xs)):=by
 obtain⟨o,vs,k,e1,e2,e3,as,e4,e5⟩:=br.at_ n b (.lst xs) hb hx;exact⟨b::as,.list e1 e2 e3 e4,fun a ha=>(ag.mp ha).elim (fun e=>e ▸ ⟨zfy br hp hn hb,fun hm=>nb b (hN b hm) (ay hb)⟩) fun ha=>⟨fun hm=>(e5 a ha).1 (hp.subset hm),fun hm=>(e5 a ha).2 (hN a hm)⟩⟩
theorem zjp{O:za}{n:Nat}{x:PyData}(e:v7 O n=some x):∃ xs,x=.list xs/\O[n]?=some (.lst xs):=by
 unfold v7 at e
 cases ho:O[n]? with
 | none=>rw[ho] at e;contradiction
 | some bx=>
   rw[ho] at e
   cases bx with
   | lst xs=>injection e with fu;subst fu;exact fD xs rfl rfl
   | dct kvs=>contradiction
set_option tactic.hygienic true in
theorem zsm(br:BR G N' β' O' h)(hN:∀ a∈N,a∈N')(nb:∀ a∈N',a∉β')(hp:β <+: β')(hl:β.length=base){vs:List Value}{its:List It}(r:ItsR N' β' h vs its):∀ {ds:List PyData},frz O' base its=some ds->∃ as,ReadsAll h vs ds as/\∀ a∈as,a∉β/\a∉N:=by
 induction r with
 | nil=>intro ds e;injection e with fu;subst fu;exact fD [] .nil (fun uA h=>nomatch h)
 | b hb _ ih=>
   rename_i n a vs its _;intro ds e;have e:(if base<=n then (v7 O' n).bind fun x=>(frz O' base its).map (x::·) else none)=some ds:=e;by_cases hn:base<=n
   ·rw[af hn] at e;refine fC (aW.mp e) fun x h1 e=>?_;refine fC (aD.mp e) fun ds' h2 eO=>?_;subst eO;refine fC (zjp h1) fun xs eN hx=>?_;subst eN;obtain⟨as,r,q⟩:=zbd br hN nb hp (by rw[hl];exact hn) hb hx;refine fC (ih h2) fun bs rs qs=>?_;exact fD (as++bs) (.cons r rs) (fun a ha=>(aj.mp ha).elim (q a) (qs a))
   ·rw[ak hn] at e;contradiction
 | x r q _ ih=>
   intro ds e;refine fC (aD.mp e) fun ds' h2 eO=>?_;subst eO;refine fC (ih h2) fun bs rs qs=>?_;exact fD (_++bs) (.cons r rs) (fun a ha=>(aj.mp ha).elim (fun ha=>⟨fun hm=>(q a ha).1 (hp.subset hm),fun hm=>(q a ha).2 (hN a hm)⟩) (qs a))
inductive zqq(G:Gl)(N β β':List Addr)(O'':za)(h:Heap)(val:Value)(v':V):Prop
 | mk (β'':List Addr) (q1:β <+: β'') (q2:∀ a∈β'',a∈β') (q3:BR G N β'' O'' h) (q4:VR G N β'' h val v')
theorem zj0{keep:Bool}{n:Nat}{b:Addr}{v':V}{O'':za}(br:BR G N' β' O' h)(hN:∀ a∈N,a∈N')(nb:∀ a∈N',a∉β')(hp:β <+: β')(hl:β.length=base)(hb:β'[n]?=some b)(hf:zay base keep n O'=.ok v' O''):zqq G N β β' O'' h (.ref b) v':=by
 unfold zay at hf;by_cases hn:n < base
 ·rw[af hn] at hf;injection hf with fu fw;subst fu fw
  refine⟨β,bz _,fun a ha=>hp.subset ha,br.short hN hp hl,b,?_,rfl⟩;rw[pre_take hp,List.getElem?_take,af (by rw[hl];exact hn)];exact hb
 ·rw[ak hn] at hf
  cases hx:O'[n]? with
  | none=>rw[hx] at hf;contradiction
  | some bx=>
    rw[hx] at hf
    cases bx with
    | dct kvs=>contradiction
    | lst xs=>
      cases keep with
      | true=>
        injection hf with fu fw;subst fu fw;refine fH (br.shortB hN hp hl (eA.mp hn) hb hx) fun b1 b2=>?_;exact⟨β++[b],List.prefix_append _ _,b2,b1,b,by rw[<- hl,aI (aH _),cH];rfl,rfl⟩
      | false=>
        injection hf with fu fw;subst fu fw;exact⟨β,bz _,fun a ha=>hp.subset ha,br.short hN hp hl,zbd br hN nb hp (by rw[hl];exact eA.mp hn) hb hx⟩
theorem zmr{keep:Bool}{val:Value}{v v':V}{O'':za}(br:BR G N' β' O' h)(hN:∀ a∈N,a∈N')(nb:∀ a∈N',a∉β')(hp:β <+: β')(hl:β.length=base)(rv:VR G N' β' h val v)(hf:fin base keep v O'=.ok v' O'') :
 zqq G N β β' O'' h val v':=by
 cases v with
 | d x=>
   injection hf with fu fw;subst fu fw;obtain⟨as,r,q⟩:=rv;exact⟨β,bz _,fun a ha=>hp.subset ha,br.short hN hp hl,as,r,fun a ha=>⟨fun hm=>(q a ha).1 (hp.subset hm),fun hm=>(q a ha).2 (hN a hm)⟩⟩
 | box n=>
   obtain⟨b,hb,rfl⟩:=rv;exact zj0 br hN nb hp hl hb hf
 | tm its=>
   obtain⟨a,o,vs,k,rfl,e1,e2,e3,e4⟩:=rv;have hf:(match frz O' base its with
    | some ds=>.ok (.d (.tuple ds)) (O'.take base)
    | none=>.stuck)=R.ok v' O'':=hf
   cases hz:frz O' base its with
   | none=>rw[hz] at hf;contradiction
   | some ds=>
     rw[hz] at hf;injection hf with fu fw;subst fu fw
     refine fC (zsm br hN nb hp hl e4 hz) fun as r q=>?_;exact⟨β,bz _,fun a ha=>hp.subset ha,br.short hN hp hl,as,.tuple e1 e2 e3 r,q⟩
end
section
variable{G:Gl}{J:Cx->List Stmt->CSs->Prop}{gval:Nat->Option PyData}{fname gname cname:Nat->Option Str}{T:Nat->Option Fn}{P:Pg}
theorem FrA.deeper{A:Around}{F:Fm}{fd:FuncData}{L a:Addr}{names:List (Option Str)}(fr:FrA A F)(k1:fd.scope.kind=.function):FrA (A.deeper (callEnvC fd L a)) (xc fd L a names F.B F.fr):=by
 refine fC fr fun l h1 h2=>?_;refine fD _ (cV h1) (fun env he=>?_);refine fx (ag.mp he) ?_ ?_
 ·rintro rfl;exact⟨by show fd.scope.kind≠.module;rw[k1];decide,L,rfl,am⟩
 ·intro he;obtain⟨h3,L',h4,h5⟩:=h2 env he;exact⟨h3,L',h4,ah _ h5⟩
def TopA(A:Around)(F:Fm):Prop:=(∃ outer,A.frames=some (F.env::outer))/\∃ L,F.env.frame=some L
def BodyOk(G:Gl)(J:Cx->List Stmt->CSs->Prop)(A:Around)(fname gname cname:Nat->Option Str)(P:Pg):Prop:=
 ∀ (F:Fm) (cx:Cx) (c:CSs) (body:List Stmt) (s:Shared) (β:List Addr) (ρ:Loc) (O:za),cx.fname=fname->cx.gname=gname->cx.cname=cname->Fits F cx->FrA A F->TopA A F->(∀ x,ownOf cx.sc x=true->F.own x=true)->J cx body c->SR G F β ρ O s.heap ->
  Does G F A s β (execs body F.env) (evSs P c ρ O) (yu G F)
theorem zms{base:Nat}{keep:Bool}{O:za}:fin base keep (.d .none) O=.ok (.d .none) (O.take base):=rfl
theorem zd6{A:Around}{F:Fm}{fd:FuncData}{L a:Addr}{names:List (Option Str)}{B fr:List Addr}(frA:FrA A F):TopA (A.deeper (callEnvC fd L a)) (xc fd L a names B fr):=by
 refine fC frA fun l h1 fy=>?_;exact⟨⟨l,cV h1⟩,L,rfl⟩
theorem zfa{Fc F:Fm}{β β':List Addr}{ρ:Loc}{O O'':za}{S:Loc×za}{s s1A s':Shared}{keep:Bool}{val:Value}{v res:V}(sr:SR G F β ρ O s.heap)(hWn:∀ b∈Fc.W,s.heap.get? b=none)(subB:∀ b∈F.B,b∈Fc.B)(ka:KeepsAll s s1A)
 (st:Step Fc.W β s1A s' β') (srE:SR G Fc β' S.1 S.2 s'.heap) (rv:VR G Fc.B β' s'.heap val v) (hf:Mine.fin O.length keep v S.2=.ok res O''):∃ β'',Step F.W β s s' β''/\SR G F β'' ρ O'' s'.heap/\VR G F.B β'' s'.heap val res:=by
 obtain⟨β'',q1,q2,q3,q4⟩:=zmr srE.br subB srE.fm.notBox st.pre sr.br.len rv hf;have st0:Step [] β s s' β':=((ka.step [] β).thenW st hWn);have st1:Step [] β s s' β'':=⟨st0.gens,st0.os,q1,fun b hb'=>st0.fresh b (q2 b hb'),st0.alive,st0.kept⟩;exact fJ β'' ⟨st1.gens,st1.os,st1.pre,st1.fresh,st1.alive,fun b o e hb' uA=>st1.kept b o e hb' dB⟩ (sr.outer st1 q3 fun b hb' hm=>srE.fm.notBox b (subB b hb') (q2 b hm)) q4
inductive Callee(G:Gl)(F:Fm)(A':Around)(cx:Cx)(β:List Addr)(ρ:Loc)(O:za)(env:Env)(s s1A:Shared):Prop
 | mk (Fc:Fm) (hE:Fc.env=env) (ka:KeepsAll s s1A) (srC:SR G Fc β ρ O s1A.heap) (fit:Fits Fc cx) (fr:FrA A' Fc) (top:TopA A' Fc) (own:∀ x,ownOf cx.sc x=true->Fc.own x=true) (hWn:∀ b∈Fc.W,s.heap.get? b=none) (subB:∀ b∈F.B,b∈Fc.B)
set_option tactic.hygienic true in
theorem call_one(g:GOk G gval gname)(fns:zi3 G J fname gname cname T){A:Around}{k:Nat}(ro:Room A (k+1)){call:Bool->Nat->List V->za->R za V}{hd:Bool}
 (hb:∀ env,BodyOk G J (A.deeper env) fname gname cname { P with call:=call,hd:=hd }):u0 G A fname (fun f args O=>match T f with
   | some fn=>if args.length=fn.arity/\fn.arity<=fn.slots then evFn { P with call:=call,hd:=hd } fn args O else .stuck
   | none=>.stuck):=by
 intro F s β ρ O f x vals vs sr frA hf rvs;refine fH (fns f x hf) fun eM hfn=>?_;refine fW eM fun a o eO=>?_;refine fG eO fun fd fa=>?_
 cases hT:T f with
 | none=>exact fA a o fd fa (by dsimp only;rw[hT];trivial)
 | some fn=>
   refine fW (hfn fn hT) fun a o eO=>?_;refine fW eO fun fd body eO=>?_;refine fG eO fun names fo=>?_;refine fA a o fd fo.at_ ?_;dsimp only;rw[hT];dsimp only;split
   ·rename_i hlen;obtain⟨p1,p2,p3,p4,p5,k1,k2,k3,k4,k5,n1,n2,n3,n4⟩:=qt fo.chk;have hget:s.heap.get? a=some o:=sr.br.keep _ _ fo.at_.get;have hnt:(names.take fn.arity).length=fn.arity:=by rw[List.length_take];lia
    have hbind:bindArgs fd ⟨vals,[]⟩=pure ((names.take fn.arity).zip vals):=qz p1 p2 p3 p4 p5 (by rw[rvs.length,hnt];exact hlen.1) (n1.sublist (List.take_sublist _ _)) fo.defaults;have hkind:∀ y∈(names.take fn.arity).zip vals,fd.scope.names.lookup y.1=some .local\/(fd.scope.names.lookup y.1=some .cell/\((cellsFrom (s.heap.objs.size+1) fd.scope.names []).lookup y.1).isSome=true):=fun y hy=>by
     have hy':y.1∈names:=cU (List.of_mem_zip hy).1;have how:=n4 y.1 hy';unfold ownOf at how;simp only[cj,aQ] at how;refine fx how ?_ ?_
     ·intro how;exact .inl how
     ·intro how;exact .inr ⟨how,yi _ _ _ (.inl ((lookup_mem k4).mpr how))⟩
    have enter:∀ (Q:Value->Shared->Prop) (E:Value->Shared->Prop),_->wpAny G.m A (PySem.call (.ref a) vals) Q E s:=fun Q E h=>wpAny_call (codeAny_call_cells ro.room hget fo.at_.data (g.nolimit.keeps sr.br.keep) (Heap.CodeRec.keeps fo.code sr.br.keep) fo.body_ hbind fo.clos hkind h k3 k2 k1);have facts:∀ s1A,InCallC s (callEnvC fd s.heap.objs.size a).locals (bindL (callEnvC fd s.heap.objs.size a).kindOf ((names.take fn.arity).zip vals) fun uA=>none) (callEnvC fd s.heap.objs.size a).cells (bindC (callEnvC fd s.heap.objs.size a).kindOf ((names.take fn.arity).zip vals) fun uA=>none) s1A->Callee G F (A.deeper (callEnvC fd s.heap.objs.size a)) { names:=yr fn names,sc:=fd.scope,fname:=fname,gname:=gname,cname:=cname } β (vs.map some++List.replicate (fn.slots - fn.arity) none) O (callEnvC fd s.heap.objs.size a) s s1A:=fun s1A ic=>by
     refine fH (zb3 fo sr.br sr.fm.out rvs hlen.1 ic) fun srC ka=>?_;refine⟨xc fd s.heap.objs.size a (yr fn names) F.B F.fr,rfl,ka,srC,⟨rfl,fun uA=>rfl,k1⟩,frA.deeper k1,zd6 frA,fun uA h=>h,fun b hb'=>?_,fun b hb'=>aq _ hb'⟩;refine fx (ag.mp hb') ?_ ?_
     ·rintro rfl;exact z9 s
     ·intro hb';refine fC (az.mp hb') fun p hp eO=>?_;subst eO;exact bk (cG (ic.above p.1 p.2 hp))
    refine fC (id frA) fun l0 hfr0A fy=>?_;have hfr':(A.deeper (callEnvC fd s.heap.objs.size a)).frames=some (callEnvC fd s.heap.objs.size a::l0):=cV hfr0A;have hrun:=hb (callEnvC fd s.heap.objs.size a);unfold evFn
    cases he:evSs { P with call:=call,hd:=hd } fn.body (vs.map some++List.replicate (fn.slots - fn.arity) none) O with
    | stuck=>trivial
    | ok fl S=>
      cases fl with
      | ret v=>
        show DoesW G F s β _ ((Mine.fin O.length fn.keep v S.2).lift ρ) _
        cases hev:Mine.fin O.length fn.keep v S.2 with
        | stuck=>trivial
        | ok res O''=>
          intro Q E kk;refine enter Q E fun s1A ic=>?_;obtain ⟨Fc,hE,ka,srC,fitC,frC,topC,own,hWn,subB⟩:=facts s1A ic;have db:=hrun Fc _ fn.body body s1A β _ O rfl rfl rfl fitC frC topC own fo.js srC;rw [he,hE] at db;refine db _ _ fun s' β' fl' st srE rf=>?_;refine fC rf ?_;clear rf;intro val eN rv;subst eN;refine fN (zfa sr hWn subB ka st srE rv hev) fun β'' a1 a2 a3=>?_;exact kk s' β'' val a1 a2 a3
      | next=>
        intro Q E kk;refine enter Q E fun s1A ic=>?_;obtain⟨Fc,hE,ka,srC,fitC,frC,topC,own,hWn,subB⟩:=facts s1A ic;have db:=hrun Fc _ fn.body body s1A β _ O rfl rfl rfl fitC frC topC own fo.js srC;rw[he,hE] at db;refine db _ _ fun s' β' fl' st srE rf=>?_;have rf:fl'=.next:=rf;subst rf;refine fN (zfa (keep:=fn.keep) sr hWn subB ka st srE VR.none zms) fun β'' a1 a2 a3=>?_;exact kk s' β'' .none a1 a2 a3
   ·trivial
structure Like(A A':Around):Prop where
 depth:A'.depth=A.depth
 units:A'.units=A.units
 frames:A'.frames=A.frames
 guards:A'.guards=A.guards
theorem Like.refl(A:Around):Like A A:=⟨rfl,rfl,rfl,rfl⟩
theorem Room.like{A A':Around}{k:Nat}(r:Room A k)(l:Like A A'):Room A' k:=⟨by rw[l.depth];exact r.depth,by rw[l.units];exact r.units,by rw[l.guards];exact r.guards⟩
theorem zft(g:GOk G gval gname)(fns:zi3 G J fname gname cname T)
 (body:∀ (A:Around) (call:Bool->Nat->List V->za->R za V) (hd:Bool),Room A 0->(hd=false->A.handled=none) ->
   (∀ A' hd',Like A A'->(hd'=false->A'.handled=none)->u0 G A' fname (call hd'))->BodyOk G J A fname gname cname { P with call:=call,hd:=hd }) :
 ∀ (k:Nat) (A:Around) (hd:Bool),Room A k->(hd=false->A.handled=none)->u0 G A fname (zf P T k hd)
 | 0,A,hd,ro,hm=>fun F s β ρ O f x vals vs sr fr hf rvs=>let ⟨⟨a,o,fd,fa⟩,_⟩:=fns f x hf;⟨a,o,fd,fa,trivial⟩
 | k+1,A,hd,ro,hm=>by
   have:=call_one (P:=P) g fns ro (call:=zf P T k) (hd:=hd) fun env=>body _ _ _ ⟨by have:=(ro.deeper env).depth;lia,by have:=(ro.deeper env).units;lia,(ro.deeper env).guards⟩ hm
    fun A' hd' lk hm'=>zft g fns body k A' hd' ((ro.deeper env).like lk) hm'
   exact this
end
section
variable{G:Gl}{F:Fm}{A:Around}{s:Shared}{β:List Addr}{ρ:Loc}{O:za}{cx:Cx}{gval:Nat->Option PyData}{gname:Nat->Option Str}
theorem SR.setBox{n:Nat}{a:Addr}{bx:Box}{s':Shared}(sr:SR G F β ρ O s.heap)(hn:β[n]?=some a)(hs:Heap.SameBut a s.heap s'.heap)(hg:s'.gens=s.gens)(hos:s'.os=s.os)
 (hx:Step F.W β s s' β->BoxAt s'.heap F.B β a bx) (hp:Plain s'.heap a):Step F.W β s s' β/\SR G F β ρ (O.set n bx) s'.heap:=by
 have ha:a∈β:=ay hn;have kp:∀ b o,b≠a->s.heap.get? b=some o->s'.heap.get? b=some o:=fun b o hb e=>(hs.2 b hb).trans e;have st0:Step [] β s s' β:=⟨hg,hos,bz _,fun uA h=>.inl h,fun b o e=>by
  by_cases hb:b=a
  ·subst hb;refine fC hp fun o' e' fy=>?_;exact fz o' e'
  ·exact fz o (kp b o hb e),fun b o e hb uA=>⟨o,kp b o (fun h=>hb (h ▸ ha)) e,Kin.refl o⟩⟩
 have st:Step F.W β s s' β:=⟨st0.gens,st0.os,st0.pre,st0.fresh,st0.alive,fun b o e hb uA=>st0.kept b o e hb (by simp)⟩;refine⟨st,sr.outer st0 ⟨fun c o e=>kp c o (fun h=>?_) (sr.br.keep c o e),by rw[bg];exact sr.br.len,sr.br.nodup,sr.br.new,fun i b bx' h1 h2=>?_,fun b hb=>?_⟩ sr.fm.notBox⟩
 ·subst h;have:=sr.br.new c ha;rw[e] at this;contradiction
 ·by_cases hi:n=i
  ·subst hi;have hl:n < O.length:=by rw[<- sr.br.len];exact (aE.mp hn).1
   rw[bY hl] at h2;injection h2 with fu;subst fu
   rw[hn] at h1;injection h1 with fu;subst fu
   exact hx st
  ·rw[cn hi] at h2;have hne:b≠a:=fun e=>by
    subst e;have e1:=(aE.mp hn);have e2:=(aE.mp h1);exact hi ((List.getElem_inj (h₀:=e1.1) (h₁:=e2.1) sr.br.nodup).mp (e1.2.trans e2.2.symm))
   have hb:=sr.br.at_ i b bx' h1 h2
   cases bx' with
   | lst xs=>
     obtain⟨o,vs,n,e1,e2,e3,as,e4,e5⟩:=hb;exact⟨o,vs,n,kp _ _ hne e1,e2,e3,as,(z0 sr.br sr.fm st e4 e5).1,e5⟩
   | dct kvs=>
     obtain⟨o,es,n,e1,e2,e3,e4,e5⟩:=hb;refine⟨o,es,n,kp _ _ hne e1,e2,e3,e4,fun i e kv he hkv=>?_⟩;obtain⟨hq,as,bs,r1,r2,q⟩:=e5 i e kv he hkv;exact⟨hq,as,bs,(ya sr.br sr.fm st r1 fun a ha=>q a (aC _ ha)).1,(ya sr.br sr.fm st r2 fun a ha=>q a (aq _ ha)).1,q⟩
 ·by_cases hba:b=a
  ·subst hba;exact hp
  ·exact (sr.br.plain b hb).at fun o e=>kp b o hba e
theorem kl{h:Heap}{N:List Addr}{a:Addr}{xs:List PyData}(hp:Plain h a)(hl:ListAt h N β a xs):∃ vs as,h.PlainList a vs/\ReadsAll h vs.toList xs as/\∀ b∈as,b∉β/\b∉N:=by
 obtain⟨o,vs,n,e1,e2,e3,as,e4,e5⟩:=hl;refine fN hp fun o9 g1 g2 g3=>?_;rw[e1] at g1;injection g1 with fu;subst fu;obtain⟨cl,di,da,sl⟩:=o;simp only at e2 e3 g2 g3;subst e2 e3 g2 g3;exact fK vs as ⟨n,e1⟩ e4 e5
set_option tactic.hygienic true in
theorem znl{o e:Expr}{p q:Pos}{ra:R za V}{rb:za->R za V}(hm:zdg o p q=true)(hs:starEach [e] F.env=[(false,eval e F.env)])
 (h1:Does G F A s β (eval o F.env) (ra.lift ρ) (VRel G F)) (h2:∀ s' β' O',SR G F β' ρ O' s'.heap->Does G F A s' β' (eval e F.env) ((rb O').lift ρ) (VRel G F)) :
 Does G F A s β (eval (.Call (.Attribute o "append" p) [e] [] q) F.env) ((ra.bind fun v O=>if recv .append v O=true then (rb O).bind fun u O=>meth .append v [u] O else .stuck).lift ρ) (VRel G F):=by
 have hline:(p.endLine == q.line)=true:=(and2 hm).1;have hbase:attributeBase o "append" F.env (eval o F.env)=eval o F.env:=by
  unfold zdg at hm;have:=(and2 hm).2
  cases o <;> first | rfl | exact (ao this).elim
 have htrees:backTo q (starEach [e] F.env)=[(false,eval e F.env)]:=by rw[hs];rfl
 refine DoesW.seqE (T2A:=fun ov Q E s1A=>∃ D its,ov=.ref D/\PlainL s1A.heap D its/\wpAny G.m A (eval e F.env) (fun y s2A=>wpAny G.m A (call (.builtin "list.append") [.ref D,y]) Q E s2A) E s1A)
  (fun Q E h=>wpAny_Call_append hbase (by rw[htrees];rfl) hline htrees h) h1 fun s' β' v d O' uA st sr rv=>?_
 split
 ·rename_i hr
  cases d with
  | box n=>
    have hr:ze0 O' n=true:=hr;unfold ze0 at hr
    cases hx:O'[n]? with
    | none=>rw[hx] at hr;contradiction
    | some bx=>
      rw[hx] at hr
      cases bx with
      | dct _=>contradiction
      | lst xs=>
        obtain⟨a,hn,rfl⟩:=rv;refine fL (kl (sr.br.plain a (ay hn)) (sr.br.at_ n a _ hn hx)) fun vs as hpl r1 q1=>?_;refine fG hpl fun k0 e0=>?_;refine DoesW.seqE (T1A:=tr G A (eval e F.env)) (T2A:=fun y Q E s2A=>wpAny G.m A (call (.builtin "list.append") [.ref a,y]) Q E s2A) (fun Q E h=>⟨a,vs,rfl,⟨_,_,e0,rfl,rfl,rfl⟩,h⟩) (h2 s' β' O' sr) fun s2A β2 y u O2 uA st2 sr2 ry=>?_;have hn2:=x9 st2.pre hn;show DoesW _ _ _ _ _ (R.lift ρ (boxL (.box n) O2 fun n xs=>oneD (fun x=>if xs.length < line then .ok (.d .none) (O2.set n (.lst (xs++[x]))) else .stuck) [u])) _;unfold boxL;dsimp only
        cases hy:O2[n]? with
        | none=>trivial
        | some bx2=>
          cases bx2 with
          | dct _=>trivial
          | lst ys=>
            cases u with
            | d x'=>
              show DoesW _ _ _ _ _ (R.lift ρ (if ys.length < line then R.ok (V.d .none) (O2.set n (.lst (ys++[x']))) else .stuck)) _;by_cases hlen:ys.length < line
              ·rw [af hlen];refine fL (kl (sr2.br.plain a (ay hn2)) (sr2.br.at_ n a _ hn2 hy)) fun ws bs hpl2 r2 q2=>?_;intro Q E k;have hsz:ws.size<=sizeLine:=by rw [<- av,zd r2];exact ai (cG hlen) (by decide)
               refine wpAny_list_append_plain hpl2 (fun h' hl' hs'=>?_) hsz;refine fG hl' fun k' e'=>?_;obtain ⟨cs,r3,q3⟩:=ry;have hb:Step F.W β2 s2A { s2A with heap:=h' } β2->BoxAt h' F.B β2 a (.lst (ys++[x'])):=fun st3=>by
                refine ⟨_,_,k',e',rfl,rfl,bs++(cs++[]),?_,fun b hb=>?_⟩
                ·rw [dY];exact yz (z0 sr2.br sr2.fm st3 r2 q2).1 (.cons (ya sr2.br sr2.fm st3 r3 q3).1 .nil)
                ·rw [bc] at hb;exact (aj.mp hb).elim (q2 b) (q3 b)
               refine fH (SR.setBox (bx:=.lst (ys++[x'])) (s':={ s2A with heap:=h' }) sr2 hn2 hs' rfl rfl hb ⟨_,e',rfl,rfl⟩) fun st3 sr3=>?_;exact k _ β2 .none st3 sr3 VR.none
              ·rw [ak hlen];trivial
            | _=>trivial
  | _=>contradiction
 ·trivial
theorem zg2{v:Value}{b:Bool}(sr:SR G F β ρ O s.heap)(rv:VR G F.B β s.heap v (.d (.bool b))) :
 LeafD G F s β (tr G A (call (.type "int") [v])) (V.d (.int (if b then 1 else 0))) (FRel G F s):=by
 obtain⟨as,r,_⟩:=rv
 cases r;exact LeafD.leaf sr fun Q E k=>call_int_bool (k _ _ (KeepsAll.toks s _) ⟨VR.int,fun uA h=>by injection h with fu;contradiction⟩)
end
theorem R.bind_ok{σ α:Type}(r:R σ α):(r.bind fun v O=>R.ok v O)=r:=by cases r <;> rfl
section
variable{G:Gl}{F:Fm}{A:Around}{s:Shared}{β:List Addr}{ρ:Loc}{O:za}{cx:Cx}{gval:Nat->Option PyData}{gname:Nat->Option Str}{P:Pg}{K:V->za->R za V}
theorem LeafD.fin2{T:WT Value}{c:PyData}(hK:Fin2 K)(sr:SR G F β ρ O s.heap)(h:LeafD G F s β T (V.d c) (FRel G F s)):DoesW G F s β T ((K (.d c) O).lift ρ) (VRel G F):=by
 cases hK with
 | plain=>exact (h.does sr).weaken (fun uA uA h=>h) fun uA uA uA uA r=>r.1
 | box=>exact h.box sr
theorem zao{T:WT Value}{o:Option PyData}(hK:Fin2 K)(sr:SR G F β ρ O s.heap)(h:∀ c,o=some c->LeafD G F s β T (V.d c) (FRel G F s)):DoesW G F s β T (((opt (o.map V.d) O).bind K).lift ρ) (VRel G F):=by
 cases o with
 | none=>trivial
 | some c=>exact (h c rfl).fin2 hK sr
theorem zpy{elts:List Expr}{pos:Pos}{r:R za (List V)}(hK:Fin2 K)(hl:∀ vs O,r=.ok vs O->vs.length<=line)
 (h1:Does G F A s β (spliced (backTo pos (starEach elts F.env))) (r.lift ρ) (VRsl G F)) :
 Does G F A s β (eval (.List elts pos) F.env) (((r.bind fun vs O=>opt ((allD vs).map fun xs=>V.d (.list xs)) O).bind K).lift ρ) (VRel G F):=by
 rw[R.bind_assoc];refine DoesW.seqE (T2A:=fun vs Q E s1A=>vs.length<=sizeLine/\Q (.ref s1A.heap.objs.size) { s1A with heap:=s1A.heap.push { cls:=.type "list",data:=.seq vs.toArray } }) (fun Q E h=>wpAny_List h) h1 fun s' β' vs ds O' e st sr rv=>?_;have hz:vs.length<=sizeLine:=by rw[rv.length];exact ai (hl _ _ e) (by decide)
 have:((allD ds).map fun xs=>V.d (.list xs))=((allD ds).map PyData.list).map V.d:=by rw[Option.map_map];rfl
 rw[this];refine zao hK sr fun c hc=>?_
 cases hd:allD ds with
 | none=>rw[hd] at hc;contradiction
 | some xs=>
   rw[hd] at hc;injection hc with fu;subst fu
   exact LeafD.leaf sr fun Q E q=>⟨hz,q _ _ (KeepsAll.push s' _ s'.toks) ⟨zd5 sr rv hd,fun uA uA=>⟨_,rfl,z9 s',_,aw _ rfl,rfl,rfl⟩⟩⟩
theorem ztg{op:Bop}{o:Operator}{x y:Expr}{p:Pos}{ra:R za V}{rb:za->R za V}(hK:Fin2 K)(ho:zfu op o=true)
 (h1:Does G F A s β (eval x F.env) (ra.lift ρ) (VRel G F)) (h2:∀ s' β' O',SR G F β' ρ O' s'.heap->Does G F A s' β' (eval y F.env) ((rb O').lift ρ) (VRel G F)) :
 Does G F A s β (eval (.BinOp x o y p) F.env) (((ra.bind fun v O=>(rb O).bind fun u O=>opt (((look O v).bind fun x=>(look O u).bind fun y=>zcw op x y).map V.d) O).bind K).lift ρ) (VRel G F):=by
 rw[R.bind_assoc];refine DoesW.seqE (T2A:=fun v Q E s1A=>wpAny G.m A (eval y F.env) (fun u s2A=>wpAny G.m A (binaryOp o v u) Q E s2A) E s1A) (fun Q E h=>wpAny_BinOp h) h1 fun s' β' v d O' uA st sr rv=>?_;rw[R.bind_assoc];refine DoesW.seqE (T2A:=fun u=>tr G A (binaryOp o v u)) (fun Q E h=>h) (h2 s' β' O' sr) fun s2A β2 u d2A O2 uA st2 sr2 ru=>?_;exact zao hK sr2 fun c hc=>zox ho sr2 (rv.step sr.br sr.fm st2) ru hc
noncomputable def fvOf:Prim->Value
 | .isinst _ | .isexc _=>.builtin "isinstance"
 | .len | .lenset=>.builtin "len"
 | .all=>.builtin "all"
 | .any=>.builtin "any"
 | .sum=>.builtin "sum"
 | .sorted | .sortedset=>.builtin "sorted"
 | .list=>.type "list"
 | .tuple=>.type "tuple"
 | .min2 | .min=>.builtin "min"
 | .max=>.builtin "max"
 | .int=>.type "int"
 | .str=>.type "str"
theorem zhb(p:Prim):(jh p,fvOf p)∈bis:=by cases p <;> first | decide | exact (by decide:(("isinstance" : Str),Value.builtin "isinstance")∈bis)
theorem zpa(p:Prim):(∃ id,fvOf p=.builtin id)\/∃ T,fvOf p=.type T:=by cases p <;> first | exact .inl ⟨_,rfl⟩ | exact .inr ⟨_,rfl⟩
end
section
variable{G:Gl}{F:Fm}{A:Around}{s:Shared}{β:List Addr}{ρ:Loc}{O:za}{cx:Cx}{gval:Nat->Option PyData}{gname:Nat->Option Str}{P:Pg}{K:V->za->R za V}
theorem zh4{p:Prim}{v:V}(hp:∀ c,p≠.isexc c):prim P p [v] O=opt (((look O v).bind fun x=>v5 P p [x]).map V.d) O:=by
 have:prim P p [v] O=(match ([v].mapM (look O)).bind (v5 P p) with | some y=>R.ok (V.d y) O | none=>.stuck):=by
  cases p <;> first | rfl | exact absurd rfl (hp _)
 rw[this]
 cases hl:look O v with
 | none=>simp[List.mapM_cons,hl,opt]
 | some x=>
   simp only[List.mapM_cons,List.mapM_nil,hl];show (match v5 P p [x] with | some y=>R.ok (V.d y) O | none=>.stuck)=opt ((v5 P p [x]).map V.d) O
   cases v5 P p [x] <;> rfl
def zcz(G:Gl)(P:Pg):Prop:=∀ (A:Around) (F:Fm) (s:Shared) (β:List Addr) (ρ:Loc) (O:za) (v:Value) (d:V) (xs ys:List PyData) (k:Nat),Room A k->SR G F β ρ O s.heap->VR G F.B β s.heap v d->look O d=some (.list xs)->xs.length < 64->P.srt xs=some ys ->
 LeafD G F s β (tr G A (call (.builtin "sorted") [v])) (V.d (.list ys)) (FRel G F s)
def zf2(G:Gl)(P:Pg):Prop:=P.sets=true->∀ (A:Around) (F:Fm) (s:Shared) (β:List Addr) (ρ:Loc) (O:za) (v:Value) (xs:List PyData) (is:List Int) (k:Nat),Room A k->A.handled=none->SR G F β ρ O s.heap->VR G F.B β s.heap v (.d (.tuple xs))->Mine.intsOf xs=some is->small is=true ->
 LeafD G F s β (fun Q E s=>wpAny G.m A (call (.type "set") [v]) (fun S s1A=>wpAny G.m A (call (.builtin "len") [S]) Q E s1A) E s) (V.d (.int (x5 is).length)) (FRel G F s) /\
 LeafD G F s β (fun Q E s=>wpAny G.m A (call (.type "set") [v]) (fun S s1A=>wpAny G.m A (call (.builtin "sorted") [S]) Q E s1A) E s) (V.d (.list ((x5 is).map .int))) (FRel G F s)
def zn0(G:Gl)(z:Str)(v:Value):Prop:=G.mg z=some v\/(G.mg z=none/\G.mb z=some v)
structure zi5(G:Gl)(P:Pg)(cname:Nat->Option Str):Prop where
 inst:∀ c z,cname c=some z->∃ cv,zn0 G z cv/\∀ (A:Around) (s:Shared) (x:Nat) (b:Bool) (e:Addr) (oe:Obj) (Q:Value->Shared->Prop) (E:Value->Shared->Prop),P.sub x c=some b->(∀ b o,G.h₀.get? b=some o->s.heap.get? b=some o) ->
  s.heap.get? e=some oe->oe.cls=G.cls x->oe.dict=none->(∃ fs,oe.data=.fields fs)->(∀ s',KeepsAll s s'->Q (.bool b) s')->wpAny G.m A (call (.builtin "isinstance") [.ref e,cv]) Q E s
 matches_:∀ c z,cname c=some z->∃ cv,zn0 G z cv/\∀ (A:Around) (s:Shared) (x:Nat) (b:Bool) (e:Addr) (oe:Obj) (Q:Bool->Shared->Prop) (E:Value->Shared->Prop),P.sub x c=some b->(∀ b o,G.h₀.get? b=some o->s.heap.get? b=some o) ->
  s.heap.get? e=some oe->oe.cls=G.cls x->Q b s->wpAny G.m A (excMatches (.ref e) cv) Q E s
 raise:∀ (c:Nat) (z:Str) (A:Around) (s:Shared) (env:Env) (x:Str) (y:Str) (np cpos pos yp:Pos) (yk:Nat) (Q:Flow->Shared->Prop) (E:Value->Shared->Prop),cname c=some z->c≠0->A.handled=none->(∀ b o,G.h₀.get? b=some o->s.heap.get? b=some o) ->
  env.scope.kind=.function->env.globals=mainGlobals->env.kindOf z=some .globalImplicit->(z == ("__debug__" : Str))=false ->
  (∀ h' tk e t oe,(∀ b o,s.heap.get? b=some o->h'.get? b=some o)->s.heap.get? e=none->h'.get? e=some oe->oe.cls=G.cls c->oe.dict=none->oe.data=.fields t->t[1]?=some .none->E (.ref e) { s with heap:=h',toks:=tk }) ->
  wpAny G.m A (exec (.Raise (some (.Call (.Name z np) [.Constant (.str y) yk yp] [] cpos)) none pos) env) Q E s
theorem vf{f:List PyData->Option PyData}{x y:PyData}(h:zev f x=some y):∃ xs,x=.list xs/\f xs=some y:=by
 cases x <;> first | (cases h;done) | skip
 exact fD _ rfl h
theorem zr2{p:Prim}{v:Value}{d:V}{x y:PyData}{k:Nat}(hp:p.plain=true)(hh:p.calm=true\/A.handled=none)(so:zcz G P)(ro:Room A k)(sr:SR G F β ρ O s.heap)(rv:VR G F.B β s.heap v d)(hx:look O d=some x)(e:zcc P p x=some y) :
 LeafD G F s β (tr G A (call (fvOf p) [v])) (V.d y) (FRel G F s):=by
 have hh':p.calm=false->A.handled=none:=fun h=>by
  refine fx hh ?_ ?_
  ·intro hh;rw[h] at hh;contradiction
  ·intro hh;exact hh
 cases p with
 | len=>
   cases x with
   | list xs=>refine fH (y4 e) fun h1 eN=>?_;subst eN;exact zg1 sr rv hx h1
   | tuple xs=>
     refine fH (y4 e) fun h1 eN=>?_;subst eN;have:=yt hx (fun uA h=>by contradiction);subst this;exact zey sr rv h1
   | _=>contradiction
 | all=>
   refine fC (vf e) fun xs eN e=>?_;subst eN;refine fC (aD.mp e) fun bs hb eO=>?_;subst eO;exact zut (hh' rfl) sr rv hx hb
 | any=>
   refine fC (vf e) fun xs eN e=>?_;subst eN;refine fC (aD.mp e) fun bs hb eO=>?_;subst eO;exact zus (hh' rfl) sr rv hx hb
 | sum=>
   refine fC (vf e) fun xs eN e=>?_;subst eN;refine fC (aD.mp e) fun bs hb eO=>?_;subst eO;exact l_sum (hh' rfl) sr rv hx hb
 | sorted=>
   refine fC (vf e) fun xs eN e=>?_;subst eN;have e:(if xs.length < 64 then (P.srt xs).map PyData.list else none)=some y:=e;by_cases hl:xs.length < 64
   ·rw[af hl] at e;refine fC (aD.mp e) fun ys hs eO=>?_;subst eO;exact so A F s β ρ O v d xs ys k ro sr rv hx hl hs
   ·rw[ak hl] at e;contradiction
 | list=>
   cases x with
   | list xs=>refine fH (y4 e) fun h1 eN=>?_;subst eN;exact zl2 sr rv hx rfl h1
   | tuple xs=>refine fH (y4 e) fun h1 eN=>?_;subst eN;exact zl2 sr rv hx rfl h1
   | _=>contradiction
 | tuple=>
   cases x with
   | list xs=>refine fH (y4 e) fun h1 eN=>?_;subst eN;exact zdj sr rv hx h1
   | tuple xs=>
     injection e with fu;subst fu;have:=yt hx (fun uA h=>by contradiction);subst this;exact zbp sr rv
   | _=>contradiction
 | int=>
   cases x with
   | bool b=>
     injection e with fu;subst fu;have:=yt hx (fun uA h=>by contradiction);subst this;exact zg2 sr rv
   | _=>contradiction
 | min=>contradiction
 | max=>contradiction
 | str=>contradiction
 | isinst _=>contradiction
 | isexc _=>contradiction
 | min2=>contradiction
 | lenset=>contradiction
 | sortedset=>contradiction
set_option tactic.hygienic true in
theorem zpw{p:Prim}{y:Expr}{ps q:Pos}{r:R za V}{k:Nat}(hK:Fin2 K)(hp:p.plain=true)(hh:p.calm=true\/A.handled=none)(so:zcz G P)(ro:Room A k)(g:GOk G gval gname)(sr:SR G F β ρ O s.heap)(fit:Fits F cx)(hx:cx.isGlob (jh p)=true)
 (he:starEach [y] F.env=(false,eval y F.env)::starEach [] F.env) (h1:Does G F A s β (eval y F.env) (r.lift ρ) (VRel G F)) :
 Does G F A s β (eval (.Call (.Name (jh p) ps) [y] [] q) F.env) ((((r.bind fun v O=>R.ok [v] O).bind fun vs O=>prim P p vs O).bind K).lift ρ) (VRel G F):=by
 rw[R.bind_assoc];refine pq (r:=r.bind fun v O=>R.ok [v] O) g sr fit hx (zhb p) (zpa p) he rfl (yn he h1 fun s' β' O' sr'=>xg sr') fun s' β' vals vs O' e st sr' rvs=>?_
 cases r with
 | stuck=>contradiction
 | ok v O1=>
   cases (e)
   cases rvs with
   | cons rv rs=>cases rs with
     | nil=>
       rename_i val;have hpr:=zh4 (P:=P) (v:=v) (O:=O') (p:=p) (fun c e=>by subst e;contradiction);rw[hpr];refine zao hK sr' fun c hc=>?_
       cases hl:look O' v with
       | none=>rw[hl] at hc;contradiction
       | some x=>rw[hl] at hc;exact zr2 hp hh so ro sr' rv hl (show zcc P p x=some c from hc)
theorem znk{t:Ty}{y:Expr}{ps pz q:Pos}{r:R za V}(g:GOk G gval gname)(sr:SR G F β ρ O s.heap)(fit:Fits F cx)(hx:cx.isGlob "isinstance" = true)(hz:cx.isGlob (wc t)=true)
 (he:∀ rest,starEach (y::rest) F.env=(false,eval y F.env)::starEach rest F.env) (h1:Does G F A s β (eval y F.env) (r.lift ρ) (VRel G F)) :
 Does G F A s β (eval (.Call (.Name "isinstance" ps) [y,.Name (wc t) pz] [] q) F.env) (((r.bind fun v O=>R.ok [v] O).bind fun vs O=>prim P (.isinst t) vs O).lift ρ) (VRel G F):=by
 refine fH (g.bi _ (zhb (.isinst t))) fun b1 b2=>?_;have e1:((r.bind fun v O=>R.ok [v] O).bind fun vs O=>prim P (.isinst t) vs O)=r.bind fun v O=>opt (((look O v).map fun x=>V.d (.bool (isTy t x)))) O:=by
  rw[R.bind_assoc]
  cases r with
  | ok v O1=>
    show prim P (.isinst t) [v] O1=opt (((look O1 v).map fun x=>V.d (.bool (isTy t x)))) O1;unfold prim
    cases hl:look O1 v with
    | none=>simp[List.mapM_cons,hl,opt]
    | some x=>simp[List.mapM_cons,hl,opt,v5,zcc]
  | _=>rfl
 rw[e1];have hne:starEach [Expr.Name (wc t) pz] F.env=(false,eval (.Name (wc t) pz) F.env)::starEach [] F.env:=rfl;refine fH (g.bi _ (zq1 t)) fun c1 c2=>?_;refine DoesW.seqE (T2A:=fun v Q E s1A=>wpAny G.m A (eval (.Name (wc t) pz) F.env) (fun c s2A=>wpAny G.m A (call (.builtin "isinstance") [v,c]) Q E s2A) E s1A)
  (fun Q E h=>dK rfl (ye g sr fit hx b1 b2 (callWith_builtin1 (co (aK h (fun v s1A h₁=>co (aK h₁ (fun c s2A h2A=>dC h2A) (fun uA uA x=>x)) hne) (fun uA uA x=>x)) (he _)) (he _) rfl))) h1 fun s' β' val v O' uA st sr' rv=>?_
 cases hl:look O' v with
 | none=>trivial
 | some x=>exact ((zl3 sr' rv hl).does sr').weaken (fun Q E h=>ye g sr' fit hz c1 c2 h) fun uA uA uA uA r=>r.1
theorem zpx{p:Prim}{y:Expr}{ps pz q q':Pos}{r:R za V}{k:Nat}(hp:p=.lenset\/p=.sortedset)(se:zf2 G P)(ro:Room A k)(hh:A.handled=none)(g:GOk G gval gname)(sr:SR G F β ρ O s.heap)(fit:Fits F cx)(hx:cx.isGlob (jh p)=true)(hz:cx.isGlob "set" = true)
 (he:starEach [y] F.env=(false,eval y F.env)::starEach [] F.env) (h1:Does G F A s β (eval y F.env) (r.lift ρ) (VRel G F)) :
 Does G F A s β (eval (.Call (.Name (jh p) ps) [.Call (.Name "set" pz) [y] [] q'] [] q) F.env) (((r.bind fun v O=>R.ok [v] O).bind fun vs O=>prim P p vs O).lift ρ) (VRel G F):=by
 refine fH (g.bi _ (zhb p)) fun b1 b2=>?_;refine fH (g.bi ("set",.type "set") (by decide)) fun c1 c2=>?_;obtain⟨id,hid⟩ : ∃ id,fvOf p=.builtin id:=by (refine fx hp ?_ ?_<;>clear hp;rotate_left;rintro rfl;rotate_right;rintro rfl) <;> exact fz _ rfl
 have hne:starEach [Expr.Call (.Name "set" pz) [y] [] q'] F.env=(false,eval (.Call (.Name "set" pz) [y] [] q') F.env)::starEach [] F.env:=rfl;have e1:((r.bind fun v O=>R.ok [v] O).bind fun vs O=>prim P p vs O)=r.bind fun v O=>prim P p [v] O:=by rw[R.bind_assoc];cases r <;> rfl
 rw[e1];refine DoesW.seqE (T2A:=fun v Q E s=>wpAny G.m A (call (.type "set") [v]) (fun S s1A=>wpAny G.m A (call (.builtin id) [S]) Q E s1A) E s)
  (fun Q E h=>?_) h1 fun s' β' val v O' uA st sr' rv=>?_
 ·rw[hid] at b2;refine dK rfl (ye g sr fit hx b1 b2 (callWith_builtin1 (co (aK (dK rfl (ye g sr fit hz c1 c2 (callWith_type1 (co (aK h (fun v s1A h₁=>dC h₁) (fun uA uA x=>x)) he) he rfl))) (fun v s1A h₁=>dC h₁) (fun uA uA x=>x)) hne) hne rfl))
 ·have hpr:=zh4 (P:=P) (v:=v) (O:=O') (p:=p) (fun c e=>by refine fx hp (fun hp=>?_) fun hp=>?_ <;> (rw[hp] at e;contradiction));rw[hpr]
  cases hl:look O' v with
  | none=>trivial
  | some x=>
    show DoesW _ _ _ _ _ ((opt ((v5 P p [x]).map V.d) O').lift ρ) _
    cases hd:v5 P p [x] with
    | none=>trivial
    | some c=>
      have hset:P.sets=true:=by
       refine fx hp ?_ ?_<;>clear hp
       ·rintro rfl;have hd:(match P.sets with | true=>zdi x | false=>none)=some c:=hd
        cases h:P.sets with
        | true=>rfl
        | false=>rw[h] at hd;contradiction
       ·rintro rfl;have hd:(match P.sets with | true=>we x | false=>none)=some c:=hd
        cases h:P.sets with
        | true=>rfl
        | false=>rw[h] at hd;contradiction
      have inv:∀ (f:List Int->PyData) (xs:List PyData),setT f xs=some c->∃ is,Mine.intsOf xs=some is/\small is=true/\f is=c:=fun f xs h=>by
       refine fC (aW.mp h) fun is h1 h2=>?_;refine fH (y4 h2) fun h3 h4=>?_;exact fJ is h1 h3 h4
      have key:∃ xs is,x=.tuple xs/\Mine.intsOf xs=some is/\small is=true/\((p=.lenset/\c=.int (x5 is).length)\/(p=.sortedset/\c=.list ((x5 is).map .int))):=by
       refine fx hp ?_ ?_<;>clear hp
       ·rintro rfl;have hd:(match P.sets with | true=>zdi x | false=>none)=some c:=hd;rw[hset] at hd
        cases x <;> first | (cases hd;done) | skip
        refine fN (inv _ _ hd) fun is h1 h2 eP=>?_;subst eP;exact fU _ is rfl h1 h2 (.inl ⟨rfl,rfl⟩)
       ·rintro rfl;have hd:(match P.sets with | true=>we x | false=>none)=some c:=hd;rw[hset] at hd
        cases x <;> first | (cases hd;done) | skip
        refine fN (inv _ _ hd) fun is h1 h2 eP=>?_;subst eP;exact fU _ is rfl h1 h2 (.inr ⟨rfl,rfl⟩)
      refine fQ key ?_;clear key;intro xs is eO hi hsm hc;subst eO;have:=yt hl (fun uA h=>by contradiction);subst this;refine fH (se hset A F s' β' ρ O' val xs is k ro hh sr' rv hi hsm) fun s1 s2=>?_;refine fx hc ?_ ?_<;>clear hc
      ·rintro ⟨rfl,rfl⟩;injection hid with fu;subst fu
       exact (s1.does sr').weaken (fun uA uA h=>h) fun uA uA uA uA r=>r.1
      ·rintro ⟨rfl,rfl⟩;injection hid with fu;subst fu
       exact (s2.does sr').weaken (fun uA uA h=>h) fun uA uA uA uA r=>r.1
end
structure Run(G:Gl)(A:Around)(P:Pg)(fname gname cname:Nat->Option Str):Prop where
 g:GOk G P.gval gname
 ro:Room A 0
 hm:P.hd=false->A.handled=none
 ck:∀ A' hd,Like A A'->(hd=false->A'.handled=none)->u0 G A' fname (P.call hd)
 so:zcz G P
 se:zf2 G P
 cl:zi5 G P cname
noncomputable def zlj:Expr->Bool
 | .Set _ _ _=>false
 | .Starred _ _=>false
 | .Slice _ _ _ _=>false
 | _=>true
def PX(e:Expr):Prop:=zlj e=true
theorem PX.star{e:Expr}(h:PX e){env:Env}{rest:List Expr}:starEach (e::rest) env=(false,eval e env)::starEach rest env:=by
 cases e <;> first | rfl | contradiction
theorem PX.set{e:Expr}(h:PX e):∀ l k p,e≠.Set l k p:=fun uA uA uA q=>by subst q;contradiction
theorem PX.slice{e:Expr}(h:PX e):∀ l u t p,e≠.Slice l u t p:=fun uA uA uA uA q=>by subst q;contradiction
theorem zks(ra:R za V)(rb:za->R za V):tv (ra.bind fun v O=>(opt (truth v) O).bind (andK rb))=(tv ra).bind fun t O=>(match t with | true=>tv (rb O) | false=>R.ok false O):=by
 cases ra with
 | ok v O=>
   show tv ((opt (truth v) O).bind (andK rb))=(opt (truth v) O).bind _
   cases truth v with
   | none=>rfl
   | some b=>cases b <;> rfl
 | _=>rfl
theorem zp7(ra:R za V)(rb:za->R za V):tv (ra.bind fun v O=>(opt (truth v) O).bind (orK rb))=(tv ra).bind fun t O=>(match t with | true=>R.ok true O | false=>tv (rb O)):=by
 cases ra with
 | ok v O=>
   show tv ((opt (truth v) O).bind (orK rb))=(opt (truth v) O).bind _
   cases truth v with
   | none=>rfl
   | some b=>cases b <;> rfl
 | _=>rfl
theorem ziy(r:R za Bool):(r.bind fun t O=>(match t with | true=>R.ok true O | false=>R.ok false O))=r:=by
 cases r with
 | ok t O=>cases t <;> rfl
 | _=>rfl
section
variable{G:Gl}{F:Fm}{A:Around}{s:Shared}{β:List Addr}{ρ:Loc}{O:za}
end
noncomputable def CEs.len:CEs->Nat
 | .nil=>0
 | .cons _ es=>es.len+1
theorem zfb{P:Pg}{ρ:Loc}:∀ (es:CEs) (O:za) (vs:List V) (O':za),evEs P ρ es O=.ok vs O'->vs.length=es.len
 | .nil,O,vs,O',h=>by injection h with fu fw;subst fu fw;rfl
 | .cons e es,O,vs,O',h=>by
   unfold evEs at h
   cases he:evE P ρ e O with
   | stuck=>rw[he] at h;contradiction
   | ok v O1=>
     rw[he] at h
     cases hes:evEs P ρ es O1 with
     | stuck=>simp only[R.bind,hes] at h;contradiction
     | ok ws O2=>
       simp only[R.bind,hes] at h;injection h with fu fw;subst fu fw;exact bR (· + 1) (zfb es O1 ws _ hes)
set_option tactic.hygienic true in
theorem zk1{v:V}{O O':za}{src:Src}(h:srcV v O=.ok src O'):src.Has O':=by
 unfold srcV at h;split at h
 ·rename_i x
  cases hi:items x with
  | none=>rw[hi] at h;contradiction
  | some xs=>rw[hi] at h;injection h with fu fw;subst fu fw;trivial
 ·split at h
  ·injection h with fu fw;subst fu fw;assumption
  ·contradiction
 ·contradiction
theorem qy{α β:Type}{r:R za α}{f:α->za->R za β}{b:β}{O:za}(h:r.bind f=.ok b O):∃ a O1,r=.ok a O1/\f a O1=.ok b O:=by
 cases r with
 | ok a O1=>exact fV a O1 rfl h
 | _=>contradiction
section
variable{G:Gl}{F:Fm}{A:Around}{s:Shared}{β:List Addr}{ρ:Loc}{O:za}{cx:Cx}{gval:Nat->Option PyData}{gname:Nat->Option Str}{K:V->za->R za V}
set_option tactic.hygienic true in
theorem zfl{y:Expr}{p q:Pos}{r:R za (Int×Int)}(hK:Fin2 K)(g:GOk G gval gname)(hh:A.handled=none)(sr:SR G F β ρ O s.heap)(fit:Fits F cx)(hx:cx.isGlob "list" = true)(he:starEach [y] F.env=(false,eval y F.env)::starEach [] F.env)
 (hs:∀ p O',r=.ok p O'->zc0 p) (h1:Does G F A s β (eval y F.env) (r.lift ρ) (RRel s)) :
 Does G F A s β (eval (.Call (.Name "list" p) [y] [] q) F.env) (((r.bind fun p O=>if (zl p.1 p.2).length<=line then R.ok (V.d (.list (zl p.1 p.2))) O else .stuck).bind K).lift ρ) (VRel G F):=by
 refine fH (g.bi ("list",.type "list") (by decide)) fun b1 b2=>?_;rw[R.bind_assoc];refine DoesW.seqE (T2A:=fun v=>tr G A (call (.type "list") [v])) (fun Q E h=>dK rfl (ye g sr fit hx b1 b2 (callWith_type1 (co (aK h (fun v s1A h₁=>dC h₁) (fun uA uA x=>x)) he) he rfl))) h1 fun s' β' v d O' e st sr' rv=>?_;refine fM rv ?_;clear rv;intro rr t u w eQ hr;subst eQ;refine fS (hs _ _ e) fun p1 p2 p3 p4=>?_;split
 ·rename_i hlen;refine LeafD.fin2 (c:=.list (zl d.1 d.2)) hK sr' (LeafD.leaf sr' fun Q E k=>call_list_range (n:=(d.2 - d.1).toNat) hh hr (small_one (by lia) (by lia) (by lia) (by lia)) w6 ?_ fun h' tk acc' c' hk hS hacc=>?_)
  ·have:(zl d.1 d.2).length=(d.2 - d.1).toNat:=by unfold zl;simp
   rw[this] at hlen;exact ai hlen (by decide)
  ·have hra:∃ as,ReadsAll h' acc'.toList (zl d.1 d.2) as/\∀ a∈as,a∉β'/\a∉F.B:=by
    refine fD [] ?_ (fun uA h=>nomatch h);refine fH hacc ?_;clear hacc;intro hsz hit;have key:∀ (l:List Value) (xs:List PyData),l.length=xs.length->(∀ (i:Nat) (h:i < l.length) (h2:i < xs.length),∃ t n,l[i]=.int n t/\xs[i]=.int n)->ReadsAll h' l xs []:=by
     intro l
     induction l with
     | nil=>intro xs hl _;cases xs with
       | nil=>exact .nil
       | cons _ _=>contradiction
     | cons v l ih=>
       intro xs hl hx
       cases xs with
       | nil=>contradiction
       | cons x xs=>
         refine fR (hx 0 (by simp) (by simp)) fun t n e1 e2=>?_;have e1:v=.int n t:=e1;have e2:x=.int n:=e2;subst e1;subst e2;refine ReadsAll.cons (as:=[]) (bs:=[]) (.int n t) (ih xs (by simpa using hl) fun i h h2=>?_);exact hx (i+1) (by simpa using h) (by simpa using h2)
    refine key _ _ ?_ fun i h h2=>?_
    ·rw[av,hsz];unfold zl;simp
    ·refine fG (hit i acc'.toList[i] (by rw[<- aT];exact au h)) fun t ht=>?_;refine fV t _ ht ?_;have hlen':(zl d.1 d.2).length=(d.2 - d.1).toNat:=by unfold zl;simp
     have e9:(zl d.1 d.2)[i]?=some (.int (d.1+i)):=by
      unfold zl;rw[aU,List.getElem?_range (by rw[<- hlen'];exact h2)];rfl
     rw[au h2] at e9;rw[aN e9,Int.mul_one]
   refine fC hra ?_;clear hra;intro as r1 q1;exact k _ _ (yw hk) ⟨y6 hS rfl rfl r1 q1 sr'.size_new,fun uA uA=>⟨_,rfl,z9 s',_,hS,rfl,rfl⟩⟩
 ·trivial
end
structure Here(G:Gl)(A:Around)(P:Pg)(F:Fm)(cx:Cx):Prop where
 run:Run G A P cx.fname cx.gname cx.cname
 fit:Fits F cx
 fr:FrA A F
structure zn1(G:Gl)(A:Around)(P:Pg)(F:Fm)(cx:Cx):Prop extends Here G A P F cx where
 top:TopA A F
 own:∀ x,ownOf cx.sc x=true->F.own x=true
structure JK(cx:Cx)(x:Expr)(c:CE):Prop where
 px:PX x
 d:∀ {G:Gl} {A:Around} {P:Pg} {F:Fm} {s:Shared} {β:List Addr} {ρ:Loc} {O:za} {K:V->za->R za V},Here G A P F cx->SR G F β ρ O s.heap->Fin2 K->Does G F A s β (eval x F.env) (((evE P ρ c O).bind K).lift ρ) (VRel G F)
structure JE(cx:Cx)(x:Expr)(c:CE):Prop where
 px:PX x
 d:∀ {G:Gl} {A:Around} {P:Pg} {F:Fm} {s:Shared} {β:List Addr} {ρ:Loc} {O:za},Here G A P F cx->SR G F β ρ O s.heap->Does G F A s β (eval x F.env) ((evE P ρ c O).lift ρ) (VRel G F)
structure JT(cx:Cx)(x:Expr)(c:CE):Prop where
 d:∀ {G:Gl} {A:Around} {P:Pg} {F:Fm} {s:Shared} {β:List Addr} {ρ:Loc} {O:za},Here G A P F cx->SR G F β ρ O s.heap->Does G F A s β (isTrue x F.env (eval x F.env)) ((tv (evE P ρ c O)).lift ρ) BRel
structure JEs(cx:Cx)(l:List Expr)(es:CEs):Prop where
 d:∀ {G:Gl} {A:Around} {P:Pg} {F:Fm} {s:Shared} {β:List Addr} {ρ:Loc} {O:za} {pos:Pos},Here G A P F cx->SR G F β ρ O s.heap->Does G F A s β (spliced (backTo pos (starEach l F.env))) ((evEs P ρ es O).lift ρ) (VRsl G F)
structure JIfs(cx:Cx)(l:List Expr)(es:CEs):Prop where
 d:∀ {G:Gl} {A:Around} {P:Pg} {F:Fm} {s:Shared} {β:List Addr} {ρ:Loc} {O:za},Here G A P F cx->SR G F β ρ O s.heap->Does G F A s β (y8 l F.env) ((xl P ρ es O).lift ρ) BRel
structure JI(cx:Cx)(x:Expr)(it:CI):Prop where
 px:PX x
 d:∀ {G:Gl} {A:Around} {P:Pg} {F:Fm} {s:Shared} {β:List Addr} {ρ:Loc} {O:za} {target:Expr},A.handled=none->Here G A P F cx->SR G F β ρ O s.heap->DoesW G F s β (zck G A x F.env) ((evI P ρ it O).lift ρ) (IRel G F A target s)
 has:∀ {P:Pg} {ρ:Loc} {O O':za} {src:Src},evI P ρ it O=.ok src O'->src.Has O'
structure JR(cx:Cx)(x:Expr)(a b:CE):Prop where
 px:PX x
 d:∀ {G:Gl} {A:Around} {P:Pg} {F:Fm} {s:Shared} {β:List Addr} {ρ:Loc} {O:za},Here G A P F cx->SR G F β ρ O s.heap->Does G F A s β (eval x F.env) ((rng a b P ρ O).lift ρ) (RRel s)
structure JS(cx:Cx)(st:Stmt)(c:CS):Prop where
 d:∀ {G:Gl} {A:Around} {P:Pg} {F:Fm} {s:Shared} {β:List Addr} {ρ:Loc} {O:za},zn1 G A P F cx->SR G F β ρ O s.heap->Does G F A s β (exec st F.env) (evS P c ρ O) (yu G F)
structure JSs(cx:Cx)(l:List Stmt)(c:CSs):Prop where
 d:∀ {G:Gl} {A:Around} {P:Pg} {F:Fm} {s:Shared} {β:List Addr} {ρ:Loc} {O:za},zn1 G A P F cx->SR G F β ρ O s.heap->Does G F A s β (execs l F.env) (evSs P c ρ O) (yu G F)
section
variable{cx:Cx}{x y z u:Expr}{a b c:CE}{p q ps pz:Pos}
theorem JK.e(h:JK cx x c):JE cx x c:=⟨h.px,fun hr sr=>by have:=h.d hr sr .plain;rwa [R.bind_ok] at this⟩
theorem zo3(h:JK cx x c):JE cx x (.boxed c):=⟨h.px,fun hr sr=>h.d hr sr .box⟩
theorem zr7{k:Nat}:JE cx (.Constant .none k p) .none:=⟨rfl,fun {G A P F s β ρ O} hr sr=>Does.leaf sr fun Q E q=>wpAny_Constant_none (q _ _ (KeepsAll.refl s) VR.none)⟩
theorem zsf{k:Nat}{v:Bool}:JE cx (.Constant (.bool v) k p) (.bool v):=⟨rfl,fun {G A P F s β ρ O} hr sr=>Does.leaf sr fun Q E q=>wpAny_Constant_bool (q _ _ (KeepsAll.refl s) VR.bool)⟩
theorem zu1{k:Nat}{v:Int}:JE cx (.Constant (.int v) k p) (.int v):=⟨rfl,fun {G A P F s β ρ O} hr sr=>Does.leaf sr fun Q E q=>wpAny_Constant_int (q _ _ (KeepsAll.toks s _) VR.int)⟩
theorem zux{k:Nat}{v:Str}:JE cx (.Constant (.str v) k p) (.str v):=⟨rfl,fun {G A P F s β ρ O} hr sr=>Does.leaf sr fun Q E q=>wpAny_Constant_str (q _ _ (KeepsAll.toks s _) VR.str)⟩
theorem zuz{i:Nat}{n:Str}(h:cx.isLoc i n=true):JE cx (.Name n p) (.loc i):=⟨rfl,fun hr sr=>zvl sr hr.fit h⟩
theorem zsc{k:Nat}{n:Str}(h:(cx.gname k == some n && cx.isGlob n)=true):JE cx (.Name n p) (.glob k):=⟨rfl,fun hr sr=>zs9 hr.run.g sr hr.fit (aQ.mp (and2 h).1) (and2 h).2⟩
theorem zly{es:CEs}(hl:Nat.ble es.len 1000=true){P:Pg}{ρ:Loc}{O:za}(vs:List V)(O':za)(e:evEs P ρ es O=.ok vs O'):vs.length<=line:=by
 rw[zfb es O vs O' e];exact ai (cK hl) (by decide)
theorem zuw{l:List Expr}{es:CEs}{k:Nat}(h:JEs cx l es)(hl:Nat.ble es.len 1000=true):JE cx (.Tuple l k p) (.tup es):=⟨rfl,fun hr sr=>zvh (zly hl) (h.d hr sr)⟩
theorem zr0{l:List Expr}{es:CEs}(h:JEs cx l es)(hl:Nat.ble es.len 1000=true):JK cx (.List l p) (.list es):=⟨rfl,fun hr sr k=>zpy k (zly hl) (h.d hr sr)⟩
theorem zuy(h:JE cx x a):JE cx (.UnaryOp .USub x p) (.neg a):=⟨rfl,fun hr sr=>zvj (h.d hr sr)⟩
theorem j_nt(h:JE cx x a):JE cx (.UnaryOp .Not x p) (.nt a):=⟨rfl,fun hr sr=>d_nt (h.d hr sr)⟩
theorem zsh(h1:JE cx x a)(h2:JE cx y b):JE cx (.BoolOp .And [x,y] p) (.and_ a b):=⟨rfl,fun {G A P F s β ρ O} hr sr=>zqn (rb:=fun O=>evE P ρ b O) (h1.d hr sr) fun s' β' O' sr'=>h2.d hr sr'⟩
theorem zsg{r:List Expr}(h1:JE cx x a)(h2:JE cx (.BoolOp .And (y::z::r) p) b):JE cx (.BoolOp .And (x::y::z::r) p) (.and_ a b):=⟨rfl,fun {G A P F s β ρ O} hr sr=>zqn (rb:=fun O=>evE P ρ b O) (h1.d hr sr) fun s' β' O' sr'=>h2.d hr sr'⟩
theorem zuk{op:Bop}{o:Operator}(h1:JE cx x a)(h2:JE cx y b)(ho:zfu op o=true):JK cx (.BinOp x o y p) (.bin op a b):=⟨rfl,fun {G A P F s β ρ O K} hr sr k=>ztg (rb:=fun O=>evE P ρ b O) k ho (h1.d hr sr) fun s' β' O' sr'=>h2.d hr sr'⟩
theorem zu3{op:Cop}{o:CmpOp}(h1:JE cx x a)(h2:JE cx y b)(ho:x8 op o=true):JE cx (.Compare x [o] [y] p) (.cmp op a b):=⟨rfl,fun {G A P F s β ρ O} hr sr=>zvp (rb:=fun O=>evE P ρ b O) hr.run.ro ho h2.px.set (h1.d hr sr) fun s' β' O' sr'=>h2.d hr sr'⟩
theorem zo2{op1 op2:Cop}{o1 o2:CmpOp}(h1:JE cx x a)(h2:JE cx y b)(h3:JE cx z c)(ho:x8 op1 o1=true)(ho2:x8 op2 o2=true):JE cx (.Compare x [o1,o2] [y,z] p) (.chain op1 op2 a b c):=
 ⟨rfl,fun {G A P F s β ρ O} hr sr=>zpz (rb:=fun O=>evE P ρ b O) (rc:=fun O=>evE P ρ c O) hr.run.ro ho ho2 h2.px.set h3.px.set (h1.d hr sr) (fun s' β' O' sr'=>h2.d hr sr') fun s' β' O' sr'=>h3.d hr sr'⟩
theorem zu0(h1:JT cx x a)(h2:JE cx y b)(h3:JE cx z c):JE cx (.IfExp x y z p) (.ite a b c):=
 ⟨rfl,fun {G A P F s β ρ O} hr sr=>zvm (ra:=fun O=>evE P ρ b O) (rb:=fun O=>evE P ρ c O) (h1.d hr sr) (fun s' β' O' sr'=>h2.d hr sr') fun s' β' O' sr'=>h3.d hr sr'⟩
theorem zu2(h1:JE cx x a)(h2:JE cx y b):JE cx (.Subscript x y p) (.idx a b):=⟨rfl,fun {G A P F s β ρ O} hr sr=>zvo (rb:=fun O=>evE P ρ b O) hr.run.ro h2.px.slice (h1.d hr sr) fun s' β' O' sr'=>h2.d hr sr'⟩
structure JP(cx:Cx)(o:Option Expr)(c:CE):Prop where
 d:∀ {G:Gl} {A:Around} {P:Pg} {F:Fm} {s:Shared} {β:List Addr} {ρ:Loc} {O:za},Here G A P F cx->SR G F β ρ O s.heap->Does G F A s β (evalPart o F.env) ((evE P ρ c O).lift ρ) (VRel G F)
theorem zrw:JP cx none .none:=⟨fun hr sr=>zfk sr⟩
theorem zrv(h:JE cx x c):JP cx (some x) c:=⟨fun hr sr=>h.d hr sr⟩
theorem zo0{lo hi:Option Expr}(h1:JE cx x a)(h2:JP cx lo b)(h3:JP cx hi c):JE cx (.Subscript x (.Slice lo hi none ps) p) (.slice a b c):=
 ⟨rfl,fun {G A P F s β ρ O} hr sr=>zpt (rl:=fun O=>evE P ρ b O) (rh:=fun O=>evE P ρ c O) (h1.d hr sr) (fun s' β' O' sr'=>h2.d hr sr') fun s' β' O' sr'=>h3.d hr sr'⟩
theorem Here.inner{G:Gl}{A:Around}{P:Pg}{F:Fm}{tgt:CT}{t:Expr}{scope:Scope}(hr:Here G A P F cx)(hk:F.env.scope.kind=.function)(h1:y9 scope cx.sc=true)(C D:Addr):Here G A P (zm cx F tgt t scope C D) (cx.inner tgt t scope):=
 ⟨hr.run,zat hr.fit hk h1 C D,hr.fr⟩
theorem zls{t:Expr}{fs:List Expr}{scope:Scope}{tgt:CT}{it:CI}{ifs:CEs}(hi:JI cx y it)(hf:JIfs (cx.inner tgt t scope) fs ifs)(hx:JE (cx.inner tgt t scope) x c)
 (hc:(y9 scope cx.sc && xe (cx.inner tgt t scope).names && chkT (cx.inner tgt t scope) (ownOf scope) tgt t)=true):JK cx (.ListComp x [⟨t,y,fs,0⟩] scope p) (.comp c tgt it ifs):=
 ⟨rfl,fun {G A P F s β ρ O K} hr sr k=>by
   refine fI (and3 hc) fun h1 h2 h3=>?_;show Does G F A s β _ (R.lift ρ ((if P.hd=true then .stuck else _:R za V).bind K)) _;by_cases hd:P.hd=true
   ·rw[af hd];trivial
   rw[ak hd];have hh:=hr.run.hm (aX.mpr hd);exact ztd (r:=evI P ρ it O) (evT:=fun ρ O=>xl P ρ ifs O) (evX:=fun ρ O=>evE P ρ c O) hr.run.g hh hr.fit h1 h2 h3 hi.px.set (fun C D s' β' ρ' O' sr'=>hf.d (hr.inner sr.fm.kind h1 C D) sr') (fun C D s' β' ρ' O' sr'=>hx.d (hr.inner sr.fm.kind h1 C D) sr') sr (hi.d hh hr sr) (fun uA uA e=>hi.has e) k⟩
theorem zb9{P:Pg}{ρ:Loc}{O O':za}{pr:Int×Int}(h:rng a b P ρ O=.ok pr O'):zc0 pr:=by
 refine fR (qy h) fun v O1 fy h=>?_;refine fR (qy h) fun w O2 fy h=>?_;exact (zdd h).1
theorem zt6(h:JE cx y b)(hg:cx.isGlob "range" = true):JR cx (.Call (.Name "range" ps) [y] [] q) (.int 0) b:=⟨rfl,fun hr sr=>zng hr.run.g sr hr.fit hg rfl h.px.star (h.d hr sr)⟩
theorem zt5(h1:JE cx x a)(h2:JE cx y b)(hg:cx.isGlob "range" = true):JR cx (.Call (.Name "range" ps) [x,y] [] q) a b:=⟨rfl,fun {G A P F s β ρ O} hr sr=>znf (rb:=fun O=>evE P ρ b O) hr.run.g sr hr.fit hg rfl h1.px.star h2.px.star (h1.d hr sr) fun s' β' O' sr'=>h2.d hr sr'⟩
theorem zo8(h:JR cx x a b):JI cx x (.range a b):=⟨h.px,fun hh hr sr=>zdy hr.run.g hh (fun uA uA e=>zb9 e) (h.d hr sr),fun e=>by refine fR (qy e) fun fy fy fy e=>?_;injection e with fu fw;subst fu fw;trivial⟩
theorem i_e(h:JE cx x a):JI cx x (.e a):=⟨h.px,fun hh hr sr=>znj hr.run.g hh (h.d hr sr),fun e=>by refine fR (qy e) fun fy fy fy e=>?_;exact zk1 e⟩
theorem zot(h:JR cx y a b)(hg:cx.isGlob "list" = true):JK cx (.Call (.Name "list" ps) [y] [] q) (.listI (.range a b)):=
 ⟨rfl,fun {G A P F s β ρ O K} hr sr k=>by
   show Does G F A s β _ (R.lift ρ ((if P.hd=true then .stuck else _:R za V).bind K)) _;by_cases hd:P.hd=true
   ·rw[af hd];trivial
   rw[ak hd];have e1:((evI P ρ (.range a b) O).bind fun src O=>if src.xs.length<=line then R.ok (V.d (.list src.xs)) O else .stuck)=(rng a b P ρ O).bind fun p O=>if (zl p.1 p.2).length<=line then R.ok (V.d (.list (zl p.1 p.2))) O else .stuck:=R.bind_assoc _ _ _
   rw[e1];exact zfl k hr.run.g (hr.run.hm (aX.mpr hd)) sr hr.fit hg h.px.star (fun uA uA e=>zb9 e) (h.d hr sr)⟩
theorem zse{f:Nat}{n:Str}{l:List Expr}{es:CEs}(h:JEs cx (x::l) es)(hx:zlj x=true)(hf:(cx.fname f == some n && cx.isGlob n)=true):JE cx (.Call (.Name n p) (x::l) [] q) (.call f es):=
 ⟨rfl,fun {G A P F s β ρ O} hr sr=>ztf (fname:=cx.fname) hr.run.g (hr.run.ck A P.hd (Like.refl A) hr.run.hm) hr.fr sr hr.fit (aQ.mp (and2 hf).1) (and2 hf).2 (PX.star hx) (h.d hr sr)⟩
theorem zry{P:Pg}{ρ:Loc}{O:za}:evEs P ρ (.cons a .nil) O=(evE P ρ a O).bind fun v O=>R.ok [v] O:=rfl
theorem ziw{G:Gl}{A:Around}{P:Pg}{f g h:Nat->Option Str}{pr:Prim}(run:Run G A P f g h)(hd:¬(P.hd && !pr.calm)=true):pr.calm=true\/A.handled=none:=by
 cases hc:pr.calm with
 | true=>exact .inl rfl
 | false=>
   rw[hc] at hd;exact .inr (run.hm (by cases hh:P.hd with | false=>rfl | true=>rw[hh] at hd;exact absurd rfl hd))
theorem zos{pr:Prim}{n:Str}(h:JE cx y a)(hp:(n == jh pr && pr.plain && cx.isGlob n)=true):JK cx (.Call (.Name n ps) [y] [] q) (.prim pr (.cons a .nil)):=
 ⟨rfl,fun {G A P F s β ρ O K} hr sr k=>by
   refine fI (and3 hp) fun h1 h2 h3=>?_;have:=aQ.mp h1;subst this;show Does G F A s β _ (R.lift ρ ((if (P.hd && !pr.calm)=true then .stuck else _:R za V).bind K)) _;by_cases hd:(P.hd && !pr.calm)=true
   ·rw[af hd];trivial
   rw[ak hd];exact zpw k h2 (ziw hr.run hd) hr.run.so hr.run.ro hr.run.g sr hr.fit h3 h.px.star (h.d hr sr)⟩
theorem zmb{t:Ty}{n:Str}(h:JE cx y a)(hp:(n == wc t && cx.isGlob "isinstance" && cx.isGlob n)=true):JE cx (.Call (.Name "isinstance" ps) [y,.Name n pz] [] q) (.prim (.isinst t) (.cons a .nil)):=
 ⟨rfl,fun {G A P F s β ρ O} hr sr=>by
   refine fI (and3 hp) fun h1 h2 h3=>?_;have:=aQ.mp h1;subst this;have hd:(P.hd && !(Prim.isinst t).calm)=false:=by cases P.hd <;> rfl
   show Does G F A s β _ (R.lift ρ (if (P.hd && !(Prim.isinst t).calm)=true then .stuck else _:R za V)) _;rw[hd,ak (by decide)];exact znk hr.run.g sr hr.fit h2 h3 (fun rest=>h.px.star) (h.d hr sr)⟩
theorem zo1{pr:Prim}{n:Str}{q':Pos}(h:JE cx y a)(hp:pr=.lenset\/pr=.sortedset)(hg:(n == jh pr && cx.isGlob n && cx.isGlob "set")=true):JE cx (.Call (.Name n ps) [.Call (.Name "set" pz) [y] [] q'] [] q) (.prim pr (.cons a .nil)):=
 ⟨rfl,fun {G A P F s β ρ O} hr sr=>by
   refine fI (and3 hg) fun h1 h2 h3=>?_;have:=aQ.mp h1;subst this;show Does G F A s β _ (R.lift ρ (if (P.hd && !pr.calm)=true then .stuck else _:R za V)) _;by_cases hd:(P.hd && !pr.calm)=true
   ·rw[af hd];trivial
   rw[ak hd];have hc:pr.calm=false:=by (refine fx hp ?_ ?_<;>clear hp;rotate_left;rintro rfl;rotate_right;rintro rfl) <;> rfl
   exact zpx hp hr.run.se hr.run.ro ((ziw hr.run hd).resolve_left (by rw[hc];decide)) hr.run.g sr hr.fit h2 h3 h.px.star (h.d hr sr)⟩
theorem zmc(h1:JE cx x a)(h2:JE cx y b)(hm:zdg x p q=true):JE cx (.Call (.Attribute x "append" p) [y] [] q) (.meth .append a (.cons b .nil)):=
 ⟨rfl,fun {G A P F s β ρ O} hr sr=>by
   have e1:∀ (v:V) (O:za),((evEs P ρ (.cons b .nil) O).bind fun vs O=>meth .append v vs O)=(evE P ρ b O).bind fun u O=>meth .append v [u] O:=fun v O=>by
    rw[zry,R.bind_assoc];cases evE P ρ b O <;> rfl
   have e2:evE P ρ (.meth .append a (.cons b .nil)) O=(evE P ρ a O).bind fun v O=>if recv .append v O=true then (evE P ρ b O).bind fun u O=>meth .append v [u] O else .stuck:=by
    show ((evE P ρ a O).bind fun v O=>if recv .append v O=true then (evEs P ρ (.cons b .nil) O).bind fun vs O=>meth .append v vs O else .stuck)=_;simp only[e1]
   rw[e2];exact znl (rb:=fun O=>evE P ρ b O) hm h2.px.star (h1.d hr sr) fun s' β' O' sr'=>h2.d hr sr'⟩
theorem zsr:JEs cx [] .nil:=⟨fun hr sr=>xg sr⟩
theorem zpd{l:List Expr}{es:CEs}(h1:JE cx x a)(h2:JEs cx l es):JEs cx (x::l) (.cons a es):=⟨fun {G A P F s β ρ O pos} hr sr=>yn (g:=fun O=>evEs P ρ es O) h1.px.star (h1.d hr sr) fun s' β' O' sr'=>h2.d hr sr'⟩
theorem zo6:JIfs cx [] .nil:=⟨fun hr sr=>zfi sr⟩
theorem zmh{l:List Expr}{es:CEs}(h1:JT cx x a)(h2:JIfs cx l es):JIfs cx (x::l) (.cons a es):=⟨fun {G A P F s β ρ O} hr sr=>by
 have:=zdx (rb:=fun O=>xl P ρ es O) (h1.d hr sr) fun s' β' O' sr'=>h2.d hr sr';unfold tv at this;rw[R.bind_assoc] at this;exact this⟩
noncomputable def zp8:Expr->Bool
 | .UnaryOp o _ _=>(match o with
    | .Not=>true
    | _=>false)
 | .BoolOp _ _ _=>true
 | .IfExp _ _ _ _=>true
 | .Compare _ _ _ _=>true
 | _=>false
theorem isTrue_plain{e:Expr}{env:Env}(h:zp8 e=false):isTrue e env (eval e env)=(do let v <- eval e env;standAt e.pos;holding [v] (truthy v)):=by
 cases e with
 | UnaryOp o x p=>cases o <;> first | rfl | contradiction
 | BoolOp o l p=>contradiction
 | IfExp a b c p=>contradiction
 | Compare a b c p=>contradiction
 | _=>rfl
theorem zoc(h:JE cx x c)(ht:zp8 x=false):JT cx x c:=⟨fun hr sr=>zob (isTrue_plain ht) (h.d hr sr)⟩
theorem ztw(h:JT cx x a):JT cx (.UnaryOp .Not x p) (.nt a):=⟨fun hr sr=>zty (h.d hr sr)⟩
theorem vi{G:Gl}{F:Fm}{A:Around}{s:Shared}{β:List Addr}{ρ:Loc}{t:Sem Bool}{r r':R za Bool}(e:r=r')(h:Does G F A s β t (r'.lift ρ) BRel):Does G F A s β t (r.lift ρ) BRel:=e ▸ h
theorem zn8(h1:JT cx x a)(h2:JT cx y b):JT cx (.BoolOp .And [x,y] p) (.and_ a b):=⟨fun {G A P F s β ρ O} hr sr=>
 vi (zks (evE P ρ a O) fun O=>evE P ρ b O) (ue (rb:=fun O=>tv (evE P ρ b O)) (h1.d hr sr) fun s' β' O' sr'=>
  vi (ziy (tv (evE P ρ b O'))).symm (ue (rb:=fun O=>R.ok true O) (h2.d hr sr') fun s'' β'' O'' sr''=>zb2 (op:=.And) sr''))⟩
theorem zn7{r:List Expr}(h1:JT cx x a)(h2:JT cx (.BoolOp .And (y::z::r) p) b):JT cx (.BoolOp .And (x::y::z::r) p) (.and_ a b):=⟨fun {G A P F s β ρ O} hr sr=>
 vi (zks (evE P ρ a O) fun O=>evE P ρ b O) (ue (rb:=fun O=>tv (evE P ρ b O)) (h1.d hr sr) fun s' β' O' sr'=>h2.d hr sr')⟩
theorem zq3(h1:JT cx x a)(h2:JT cx y b):JT cx (.BoolOp .Or [x,y] p) (.or_ a b):=⟨fun {G A P F s β ρ O} hr sr=>
 vi (zp7 (evE P ρ a O) fun O=>evE P ρ b O) (dq (rb:=fun O=>tv (evE P ρ b O)) (h1.d hr sr) fun s' β' O' sr'=>
  vi (ziy (tv (evE P ρ b O'))).symm (dq (rb:=fun O=>R.ok false O) (h2.d hr sr') fun s'' β'' O'' sr''=>zb2 (op:=.Or) sr''))⟩
theorem zq2{r:List Expr}(h1:JT cx x a)(h2:JT cx (.BoolOp .Or (y::z::r) p) b):JT cx (.BoolOp .Or (x::y::z::r) p) (.or_ a b):=⟨fun {G A P F s β ρ O} hr sr=>
 vi (zp7 (evE P ρ a O) fun O=>evE P ρ b O) (dq (rb:=fun O=>tv (evE P ρ b O)) (h1.d hr sr) fun s' β' O' sr'=>h2.d hr sr')⟩
theorem zq4{op:Cop}{o:CmpOp}(h1:JE cx x a)(h2:JE cx y b)(ho:x8 op o=true):JT cx (.Compare x [o] [y] p) (.cmp op a b):=⟨fun {G A P F s β ρ O} hr sr=>ztz (rb:=fun O=>evE P ρ b O) hr.run.ro ho h2.px.set (h1.d hr sr) fun s' β' O' sr'=>h2.d hr sr'⟩
theorem zkw{op1 op2:Cop}{o1 o2:CmpOp}(h1:JE cx x a)(h2:JE cx y b)(h3:JE cx z c)(ho:x8 op1 o1=true)(ho2:x8 op2 o2=true):JT cx (.Compare x [o1,o2] [y,z] p) (.chain op1 op2 a b c):=⟨fun {G A P F s β ρ O} hr sr=>
 zod (rb:=fun O=>evE P ρ b O) (rc:=fun O=>evE P ρ c O) hr.run.ro ho ho2 h2.px.set h3.px.set (h1.d hr sr) (fun s' β' O' sr'=>h2.d hr sr') fun s' β' O' sr'=>h3.d hr sr'⟩
end
section
variable{cx:Cx}{x y z u:Expr}{a b c:CE}{p q ps pz:Pos}
theorem zt1(h:JE cx x a):JS cx (.Return (some x) p) (.ret a):=⟨fun hr sr=>zvi (h.d hr.toHere sr)⟩
noncomputable def noCompX:Expr->Bool
 | .ListComp _ _ _ _=>false
 | .SetComp _ _ _ _=>false
 | .DictComp _ _ _ _ _=>false
 | _=>true
theorem noCompX.swaps{e:Expr}(h:noCompX e=true)(t:Option Expr)(n:Nat)(env:Env):swapsWith e t n env=pure false:=
 zd8 (fun uA uA uA uA q=>by subst q;contradiction) (fun uA uA uA uA q=>by subst q;contradiction) (fun uA uA uA uA uA q=>by subst q;contradiction) t n env
theorem zrn(h:JE cx x a)(hx:noCompX x=true):JS cx (.Expr x p) (.expr a):=⟨fun hr sr=>ztc sr.fm.kind (by unfold interactive;rw[sr.fm.kind];rfl) (noCompX.swaps hx _ _ _) (h.d hr.toHere sr)⟩
theorem zii{h:Bool}{i:Nat}:(h && !(CT.name i).isName)=false:=by cases h <;> rfl
theorem zt4{n:Str}{i:Nat}(h:JE cx x a)(hx:(chkT cx (ownOf cx.sc) (.name i) (.Name n ps) && noCompX x)=true):JS cx (.Assign [.Name n ps] x p) (.asg (.name i) a):=⟨fun {G A P F s β ρ O} hr sr=>by
 refine fH (and2 hx) fun h1 h2=>?_;show Does G F A s β _ (if (P.hd && !(CT.name i).isName)=true then .stuck else _:R (Loc×za) Fl) _;rw[zii,ak ao];exact za6 hr.fit hr.own h1 (noCompX.swaps h2 _ _ _) (h.d hr.toHere sr)⟩
noncomputable def unpX:Expr->Bool
 | .Name _ _=>true
 | .Subscript _ _ _=>true
 | .Call _ _ _ _=>true
 | _=>false
theorem zd7{l:List Expr}{k n:Nat}{ps:Pos}{x:Expr}{env:Env}(h:unpX x=true):swapsWithSole [.Tuple l k ps] x n env=pure false/\swappedStores [.Tuple l k ps] x env=pure none:=by
 cases x <;> first | exact⟨rfl,rfl⟩ | contradiction
theorem zro{l:List Expr}{k:Nat}{t:CT}(h:JE cx x a)(hx:(chkT cx (ownOf cx.sc) t (.Tuple l k ps) && unpX x && !t.isName)=true):JS cx (.Assign [.Tuple l k ps] x p) (.asg t a):=⟨fun {G A P F s β ρ O} hr sr=>by
 refine fI (and3 hx) fun h1 h2 h3=>?_;show Does G F A s β _ (if (P.hd && !t.isName)=true then .stuck else _:R (Loc×za) Fl) _;rw[h3,Bool.and_true];by_cases hd:P.hd=true
 ·rw[af hd];trivial
 rw[ak hd];have e:=zd7 (l:=l) (k:=k) (n:=p.line) (ps:=ps) (env:=F.env) h2;exact zfn (hr.run.hm (aX.mpr hd)) hr.fit hr.own h1 e.1 e.2 (h.d hr.toHere sr)⟩
theorem znt{n:Str}{i:Nat}{t:Expr}{fs:List Expr}{scope:Scope}{tgt:CT}{it:CI}{ifs:CEs}(hi:JI cx y it)(hf:JIfs (cx.inner tgt t scope) fs ifs)(hx:JE (cx.inner tgt t scope) x c)
 (hc:(y9 scope cx.sc && xe (cx.inner tgt t scope).names && chkT (cx.inner tgt t scope) (ownOf scope) tgt t)=true) (hn:chkT cx (ownOf cx.sc) (.name i) (.Name n ps)=true)
 {G:Gl} {A:Around} {P:Pg} {F:Fm} {s:Shared} {β:List Addr} {ρ:Loc} {O:za} {K:V->za->R za V} (hr:zn1 G A P F cx) (sr:SR G F β ρ O s.heap) (hK:Fin2 K) :
 Does G F A s β (exec (.Assign [.Name n ps] (.ListComp x [⟨t,y,fs,0⟩] scope q) p) F.env) ((((evE P ρ (.comp c tgt it ifs) O).bind K).lift ρ).bind (asgR (.name i))) (yu G F):=by
 obtain⟨b,hb⟩ : ∃ b,swapsWith (.ListComp x [⟨t,y,fs,0⟩] scope q) (some (.Name n ps)) p.line F.env=pure b:=⟨_,rfl⟩
 cases b with
 | false=>exact za6 hr.fit hr.own hn hb ((zls hi hf hx hc).d hr.toHere sr hK)
 | true=>
   refine fI (and3 hc) fun h1 h2 h3=>?_;show Does G F A s β _ ((R.lift ρ ((if P.hd=true then .stuck else _:R za V).bind K)).bind _) _;by_cases hd:P.hd=true
   ·rw[af hd];trivial
   rw[ak hd];have hh:=hr.run.hm (aX.mpr hd);exact zj9 (evT:=fun ρ O=>xl P ρ ifs O) (evX:=fun ρ O=>evE P ρ c O) hr.run.g hh hr.fit hr.own hn h1 h2 h3 hi.px.set (fun C D s' β' ρ' O' sr'=>hf.d (hr.toHere.inner sr.fm.kind h1 C D) sr') (fun C D s' β' ρ' O' sr'=>hx.d (hr.toHere.inner sr.fm.kind h1 C D) sr') sr (hi.d hh hr.toHere sr) (fun uA uA e=>hi.has e) hK hb
theorem zrp{n:Str}{i:Nat}{t:Expr}{fs:List Expr}{scope:Scope}{tgt:CT}{it:CI}{ifs:CEs}(hi:JI cx y it)(hf:JIfs (cx.inner tgt t scope) fs ifs)(hx:JE (cx.inner tgt t scope) x c)
 (hc:(y9 scope cx.sc && xe (cx.inner tgt t scope).names && chkT (cx.inner tgt t scope) (ownOf scope) tgt t)=true) (hn:chkT cx (ownOf cx.sc) (.name i) (.Name n ps)=true) :
 JS cx (.Assign [.Name n ps] (.ListComp x [⟨t,y,fs,0⟩] scope q) p) (.asg (.name i) (.comp c tgt it ifs)):=⟨fun {G A P F s β ρ O} hr sr=>by
 have:=znt hi hf hx hc hn (p:=p) (q:=q) hr sr .plain;rw[R.bind_ok] at this;show Does G F A s β _ (if (P.hd && !(CT.name i).isName)=true then .stuck else _:R (Loc×za) Fl) _;rw[zii,ak ao];exact this⟩
theorem zt2{l m:List Stmt}{d e:CSs}(h1:JT cx x a)(h2:JSs cx l d)(h3:JSs cx m e):JS cx (.If x l m p) (.ife a d e):=⟨fun {G A P F s β ρ O} hr sr=>
 zvn (ga:=fun ρ O=>evSs P d ρ O) (gb:=fun ρ O=>evSs P e ρ O) (h1.d hr.toHere sr) (fun s' β' ρ' O' sr'=>h2.d hr sr') fun s' β' ρ' O' sr'=>h3.d hr sr'⟩
theorem zt3{l:List Stmt}{d:CSs}{t:CT}{it:CI}(h1:JI cx x it)(h2:JSs cx l d)(hc:chkT cx (ownOf cx.sc) t y=true):JS cx (.For y x l [] p) (.for_ t it d):=⟨fun {G A P F s β ρ O} hr sr=>by
 show Does G F A s β _ (if P.hd=true then .stuck else _:R (Loc×za) Fl) _;by_cases hd:P.hd=true
 ·rw[af hd];trivial
 rw[ak hd];have hh:=hr.run.hm (aX.mpr hd);exact zqm (evb:=fun ρ O=>evSs P d ρ O) hr.run.g hh hr.fit hr.own hc h1.px.set (fun s' β' ρ' O' sr'=>h2.d hr sr') sr (h1.d hh hr.toHere sr) fun uA uA e=>h1.has e⟩
theorem zok{l:List Stmt}{d:CSs}(h1:JT cx x a)(h2:JSs cx l d):JS cx (.While x l [] p) (.while_ a d):=⟨fun {G A P F s β ρ O} hr sr=>
 zps (ev:=fun ρ O=>evE P ρ a O) (evb:=fun ρ O=>evSs P d ρ O) (fun s' β' ρ' O' sr'=>h1.d hr.toHere sr') (fun s' β' ρ' O' sr'=>h2.d hr sr') sr⟩
theorem zre:JSs cx [] .nil:=⟨fun hr sr=>zfm sr⟩
theorem zh0{st:Stmt}{l:List Stmt}{d:CS}{e:CSs}(h1:JS cx st d)(h2:JSs cx l e):JSs cx (st::l) (.cons d e):=⟨fun {G A P F s β ρ O} hr sr=>
 zdz (g:=fun ρ O=>evSs P e ρ O) (h1.d hr sr) fun s' β' ρ' O' sr'=>h2.d hr sr'⟩
end
theorem dw{G:Gl}{P:Pg}{fname gname cname:Nat->Option Str}(g:GOk G P.gval gname)(so:zcz G P)(se:zf2 G P)(cl:zi5 G P cname)(A:Around)(call:Bool->Nat->List V->za->R za V)(hd:Bool)(ro:Room A 0)(hm:hd=false->A.handled=none)
 (ck:∀ A' hd',Like A A'->(hd'=false->A'.handled=none)->u0 G A' fname (call hd')):BodyOk G JSs A fname gname cname { P with call:=call,hd:=hd }:=by
 intro F cx c body s β ρ O e1 e2 e3 fit fr top own hc sr;subst e1;subst e2;subst e3;exact hc.d ⟨⟨⟨g,ro,hm,ck,so,se,⟨cl.inst,cl.matches_,cl.raise⟩⟩,fit,fr⟩,top,own⟩ sr
section
variable{G:Gl}{fname gname cname:Nat->Option Str}{T:Nat->Option Fn}{P:Pg}
set_option tactic.hygienic true in
theorem go_top(g:GOk G P.gval gname)(fns:zi3 G JSs fname gname cname T)(so:zcz G P)(se:zf2 G P)(cl:zi5 G P cname){k:Nat}{A:Around}(ro:Room A (k+1))(hm:A.handled=none)(hfr:A.frames=some []){s:Shared}(hs:s.heap=G.h₀)
 {f:Nat} {x:Str} (hf:fname f=some x) {vals:List Value} {vs:List V} (rvs:VRs G [sysModules] [] s.heap vals vs) {d:PyData} {O'':za} (hev:zf P T (k+1) false f vs []=.ok (.d d) O'') {Q:Value->Shared->Prop} {E:Value->Shared->Prop}
 (kk:∀ s' val as,s'.gens=s.gens->s'.os=s.os->(∀ b o,s.heap.get? b=some o->s'.heap.get? b=some o)->Reads s'.heap val d as->Q val s') :
 ∀ a,G.mg x=some (.ref a)->wpAny G.m A (call (.ref a) vals) Q E s:=by
 intro a0A ha0;rw[zix] at hev
 cases hT:T f with
 | none=>rw[hT] at hev;contradiction
 | some fn=>
   refine fW ((fns f x hf).2 fn hT) fun a o eO=>?_;refine fW eO fun fd body eO=>?_;refine fG eO fun names fo=>?_;have haa:a=a0A:=by have:=fo.at_.name.symm.trans ha0;cases this;rfl
   subst haa;rw[hT] at hev;dsimp only at hev;split at hev
   ·rename_i hlen;obtain⟨p1,p2,p3,p4,p5,k1,k2,k3,k4,k5,n1,n2,n3,n4⟩:=qt fo.chk;have kp:∀ b o,G.h₀.get? b=some o->s.heap.get? b=some o:=by rw[hs];exact fun uA uA h=>h
    have br:BR G [sysModules] [] [] s.heap:=⟨kp,rfl,.nil,fun uA h=>(nomatch h),fun i a bx h=>by simp at h,fun uA h=>(nomatch h)⟩;have ou:Out G [sysModules] [] [] s.heap:=⟨⟨fun a ha hs=>absurd (ae.mp ha) hs,ae.mpr rfl,fun h=>(nomatch h)⟩,fun uA uA h=>(nomatch h),fun a ha=>by
     obtain⟨o',es,n,e1,e2⟩:=br.sysAlive;exact fD o' (by rw[ae.mp ha];exact e1) (fun vs n q=>by rw[e2] at q;contradiction),fun uA h=>(nomatch h),fun uA h=>(nomatch h)⟩
    have hget:s.heap.get? a=some o:=kp _ _ fo.at_.get;have hnt:(names.take fn.arity).length=fn.arity:=by rw[List.length_take];lia
    have hbind:bindArgs fd ⟨vals,[]⟩=pure ((names.take fn.arity).zip vals):=qz p1 p2 p3 p4 p5 (by rw[rvs.length,hnt];exact hlen.1) (n1.sublist (List.take_sublist _ _)) fo.defaults;have hkind:∀ y∈(names.take fn.arity).zip vals,fd.scope.names.lookup y.1=some .local\/(fd.scope.names.lookup y.1=some .cell/\((cellsFrom (s.heap.objs.size+1) fd.scope.names []).lookup y.1).isSome=true):=fun y hy=>by
     have hy':y.1∈names:=cU (List.of_mem_zip hy).1;have how:=n4 y.1 hy';unfold ownOf at how;simp only[cj,aQ] at how;refine fx how ?_ ?_
     ·intro how;exact .inl how
     ·intro how;exact .inr ⟨how,yi _ _ _ (.inl ((lookup_mem k4).mpr how))⟩
    refine wpAny_call (codeAny_call_cells ro.room hget fo.at_.data (g.nolimit.keeps kp) (Heap.CodeRec.keeps fo.code kp) fo.body_ hbind fo.clos hkind (fun s1A ic=>?_) k3 k2 k1);refine fH (zb3 fo br ou rvs hlen.1 ic) fun srC ka=>?_;have fitC:Fits (xc fd s.heap.objs.size a (yr fn names) [sysModules] []) { names:=yr fn names,sc:=fd.scope,fname:=fname,gname:=gname,cname:=cname }:=⟨rfl,fun uA=>rfl,k1⟩;have frC:FrA (A.deeper (callEnvC fd s.heap.objs.size a)) (xc fd s.heap.objs.size a (yr fn names) [sysModules] []):=⟨_,cV hfr,fun env he=>by
     have he':=ae.mp he;subst he';exact⟨by show fd.scope.kind≠.module;rw[k1];decide,_,rfl,am⟩⟩
    have topC:TopA (A.deeper (callEnvC fd s.heap.objs.size a)) (xc fd s.heap.objs.size a (yr fn names) [sysModules] []):=⟨⟨[],cV hfr⟩,_,rfl⟩;have roD:=ro.deeper (callEnvC fd s.heap.objs.size a);have db:=dw g so se cl (A.deeper (callEnvC fd s.heap.objs.size a)) (zf P T k) false ⟨by have:=roD.depth;lia,by have:=roD.units;lia,roD.guards⟩ (fun uA=>hm) (fun A' hd' lk hm'=>zft g fns (dw g so se cl) k A' hd' (roD.like lk) hm')
     _ _ fn.body body s1A [] _ [] rfl rfl rfl fitC frC topC (fun uA h=>h) fo.js srC
    unfold evFn at hev
    cases he:evSs { P with call:=zf P T k,hd:=false } fn.body (vs.map some++List.replicate (fn.slots - fn.arity) none) [] with
    | stuck=>rw[he] at hev;contradiction
    | ok fl S=>
      rw[he] at hev db;have fin:∀ (s':Shared) (β':List Addr) (val:Value) (v:V),Step (xc fd s.heap.objs.size a (yr fn names) [sysModules] []).W [] s1A s' β'->SR G (xc fd s.heap.objs.size a (yr fn names) [sysModules] []) β' S.1 S.2 s'.heap ->
       VR G (xc fd s.heap.objs.size a (yr fn names) [sysModules] []).B β' s'.heap val v->Mine.fin 0 fn.keep v S.2=.ok (.d d) O''->Q val s':=by
       intro s' β' val v st srE rv hf;obtain⟨β'',q1,q2,q3,as,q4,q5⟩:=zmr srE.br (N:=[sysModules]) (fun a ha=>aq _ ha) srE.fm.notBox st.pre rfl rv hf;exact kk s' val as (st.gens.trans ka.gens) (st.os.trans ka.os) (by rw[hs];exact srE.br.keep) q4
      refine db _ _ fun s' β' fl' st srE rf=>?_
      cases fl with
      | ret v=>
        refine fC rf ?_;clear rf;intro val eN rv;subst eN;exact fin s' β' val v st srE rv hev
      | next=>
        have rf:fl'=.next:=rf;subst rf;exact fin s' β' .none (.d .none) st srE VR.none hev
   ·contradiction
end
noncomputable def zhc(p:Program)(fname:Nat->Option Str)(T:Nat->Option Fn)(slots:Nat->List Str)(at_:Nat->Nat)(f:Nat):Bool:=match fname f,T f,(recsOf p)[at_ f]? with
 | some x,some fn,some d=>d.name == x && ziv fn (slots f) d.params d.scope
 | _,_,_=>false
def zbk(p:Program)(fname gname cname:Nat->Option Str)(T:Nat->Option Fn)(slots:Nat->List Str)(at_:Nat->Nat):Prop:=
 ∀ f fn d,T f=some fn->(recsOf p)[at_ f]?=some d->JSs { names:=yr fn (slots f),sc:=d.scope,fname,gname,cname } d.body fn.body
set_option tactic.hygienic true in
theorem zso{G:Gl}{p:Program}{loose:List Str}{mean:ExcName->Option Value}{fname gname cname:Nat->Option Str}{T:Nat->Option Fn}{slots:Nat->List Str}{at_:Nat->Nat}(t:Top p loose mean G.mg G.mb G.h₀)(n:Nat)(h0:∀ f,n<=f->fname f=none)
 (h:(List.range n).all (zhc p fname T slots at_)=true) (hb:zbk p fname gname cname T slots at_):zi3 G JSs fname gname cname T:=by
 intro f x hf;have hn:f < n:=by
  refine fx (bn f n) ?_ ?_
  ·intro h;exact h
  ·intro h;rw[h0 f h] at hf;contradiction
 have hh:=aV.mp h f (aZ.mpr hn);unfold zhc at hh;rw[hf] at hh;split at hh
 ·rename_i x' fn d e1 e2 e3;injection e1 with fu;subst fu
  refine fH (and2 hh) fun q1 q2=>?_;have hx:d.name=x:=aQ.mp q1;refine fW (t.fn d (ay e3)) fun a o eO=>?_;refine fE eO fun pm code doc h1 h2 h3 h4=>?_;rw[hx] at h1;exact⟨⟨a,o,_,h1,h2,h3⟩,fun fn' hfn'=>by
   rw[e2] at hfn';injection hfn' with fu;subst fu
   exact⟨a,o,_,_,slots f,⟨⟨h1,h2,h3⟩,h4,rfl,rfl,rfl,rfl,rfl,q2,hb f fn d e2 e3⟩⟩⟩
 ·contradiction
noncomputable def znq(K:W.Frag):Bool:=bis.all fun p=>W.nsIn K mainGlobals p.1 == some none && bootBuiltins p.1 == some p.2 && p.1 != "__name__"
theorem zjw{h:Heap}:∀ {is:List Int} {vs:List Value} {as:List Addr},ReadsAll h vs (is.map .int) as->as=[]:=by
 intro is
 induction is with
 | nil=>intro vs as r;cases r;rfl
 | cons i is ih=>intro vs as r;cases r with | cons r rs=>cases r;rw[ih rs];rfl
theorem zgi{h:Heap}{is:List Int}{a:Addr}{rs:List Addr}{m:Str->Option Value}(hm:h.Ns sysModules m)(r:Reads h (.ref a) (.list (is.map .int)) rs):sysModules∉rs:=by
 cases r with
 | list h1 h2 h3 h4=>
   rw[zjw h4];intro hs;have e:sysModules=a:=ae.mp hs;refine fP hm fun o es ep q1 q2 fy=>?_;rw[e,h1] at q1;injection q1 with fu;subst fu
   rw[h3] at q2;contradiction
end Mine
end
section
namespace Mine
open PySem PyProof.Rows PySem.W
noncomputable def lexI:List Int->List Int->Bool
 | [],[]=>false
 | [],_::_=>true
 | _::_,[]=>false
 | x::xs,y::ys=>if x=y then lexI xs ys else decide (x < y)
section
variable{prog:Program}{w:World}{A:Around}{E:Value->Shared->Prop}{s:Shared}
theorem zfd{x y:Int}{t u:Tok}{Q:Bool->Shared->Prop}(hu:A.units < cLine)(h:Q (decide (x=y)) s):wpAny (model prog w) A (eqBool (.int x t) (.int y u)) Q E s:=by
 have:=SeqAt.eqBoolOverData prog w A E s (.int x t) (.int y u) (.int x) (.int y) [] [] Q (.int x t) (.int y u) rfl rfl (by show A.units+min 0 0 < cLine;simpa using hu);refine this ?_;exact h
theorem zou{β:Type}{f:Value×Value->β->Sem (ForInStep β)}{b:β}{D:Bool->β}{Q:β->Shared->Prop}(turn:∀ (k1 k2:Int) (t1 t2:Tok) (Z:ForInStep β->Shared->Prop),Z (if k1=k2 then .yield b else .done (D (decide (k1 < k2)))) s->wpAny (model prog w) A (f (.int k1 t1,.int k2 t2) b) Z E s)
 {x:List Int} {xs:List Value} (hx:IntsAre xs x):∀ {y:List Int} {ys:List Value},IntsAre ys y->Q (D (lexI x y)) s->(decide (xs.length < ys.length)=lexI x y->Q b s)->wpAny (model prog w) A (forIn (List.zip xs ys) b f) Q E s:=by
 induction hx with
 | nil=>
   intro y ys hy _ hb;rw[List.zip_nil_left,bN];refine ab (hb ?_)
   cases hy with
   | nil=>rfl
   | cons _ _ _=>rfl
 | cons k1 t1 _ ih=>
   intro y ys hy hd hb
   cases hy with
   | nil=>exact ab (hb rfl)
   | cons k2 t2 hy=>
     rw[List.zip_cons_cons,bI];refine aa (turn k1 k2 t1 t2 _ ?_);by_cases e:k1=k2
     ·subst e;rw[af rfl];have el:∀ {x y:List Int},lexI (k1::x) (k1::y)=lexI x y:=af rfl;rw[el] at hd hb;exact ih hy hd fun q=>hb (by rw[<- q];exact decide_eq_decide.mpr Nat.succ_lt_succ_iff)
     ·rw[ak e];have el:∀ {x y:List Int},lexI (k1::x) (k2::y)=decide (k1 < k2):=ak e;rw[el] at hd;exact ab hd
theorem zbl{a b:Addr}{oa ob:Obj}{xs ys:Array Value}{na nb:Nat}{x y:List Int}{P:PySem.Fin->Shared->Prop}(hu:A.units < cLine)(hoa:s.heap.get? a=some oa)(hca:oa.cls=.type "tuple")(hda:oa.data=.seq xs na)(hia:IntsAre xs.toList x)
 (hob:s.heap.get? b=some ob) (hcb:ob.cls=.type "tuple") (hdb:ob.data=.seq ys nb) (hib:IntsAre ys.toList y) (h:P (.done (.ret (.bool (lexI x y)))) s) :
 wpAny (model prog w) A (Builtin.«tuple.__lt__» ⟨[.ref a,.ref b],[]⟩) P E s:=by
 have hTb:s.TypeIs (.ref b) "tuple":=⟨ob,hob,hcb⟩;show wpAny _ _ (isInstance (.ref b) (.type "tuple") >>= _) _ _ s;refine aa (dD hTb isSubtype_tuple_tuple (aO rfl (aa (dM hoa hda (aa (dM hob hdb (aa (zou (D:=fun c=>(some (PySem.Fin.done (.ret (.bool c))),())) (fun k1 k2 t1 t2 Z hZ=>aa (zfd hu ?_)) hia hib (ab h) fun q=>?_))))))))
 ·by_cases e:k1=k2
  ·rw[af e] at hZ;rw[aA e];exact aO rfl (ab hZ)
  ·rw[ak e] at hZ;rw[aF e];exact bH rfl (aa (cT (aa (wpAny_lt_int (A:=A) (aa (ab (ab hZ)))))))
 ·rw[<- q] at h;exact ab h
theorem zjo{a b:Addr}{oa ob:Obj}{xs ys:Array Value}{na nb:Nat}{x y:List Int}{Q:Value->Shared->Prop}(hu:A.units+1 < cLine)(hoa:s.heap.get? a=some oa)(hca:oa.cls=.type "tuple")(hda:oa.data=.seq xs na)(hia:IntsAre xs.toList x)
 (hob:s.heap.get? b=some ob) (hcb:ob.cls=.type "tuple") (hdb:ob.data=.seq ys nb) (hib:IntsAre ys.toList y) (h:Q (.bool (lexI x y)) s):wpAny (model prog w) A (compareOp .Lt (.ref a) (.ref b)) Q E s:=by
 show wpAny _ _ (richCompare .Lt (.ref a) (.ref b)) Q E s;have hTa:s.TypeIs (.ref a) "tuple":=⟨oa,hoa,hca⟩;have hTb:s.TypeIs (.ref b) "tuple":=⟨ob,hob,hcb⟩;exact ez (op:=.Lt) hTa hTb F.slot_tuple_lt (a0 F.slot_tuple_lt hTa F.entry_tuple_lt (zbl (A:=A.in1) hu hoa hca hda hia hob hcb hdb hib ⟨_,rfl,(fun e=>nomatch e),h⟩) (F.args_tuple_lt_2 _ _)) (by exact Nat.le_of_lt (by assumption))
noncomputable def pf{α:Type}(lt:Nat->Nat->Option Bool):KasT α->Option α
 | .ret a=>some a
 | .ask i j k=>match lt i j with
   | some b=>pf lt (k b)
   | none=>none
theorem zl6{α:Type}{cmp:Nat->Nat->(Bool->Shared->Prop)->Shared->Prop}{lt:Nat->Nat->Option Bool}{s:Shared}(hc:∀ i j b (C:Bool->Shared->Prop),lt i j=some b->C b s->cmp i j C s){Q:α->Shared->Prop}{a:α}(hq:Q a s) :
 ∀ (t:KasT α),pf lt t=some a->t.kasWp cmp Q s
 | .ret b,h=>by injection h with fu;subst fu;exact hq
 | .ask i j k,h=>by
   unfold pf at h
   cases hl:lt i j with
   | none=>rw[hl] at h;contradiction
   | some b=>
     rw[hl] at h;exact hc i j b _ hl (zl6 hc hq (k b) h)
theorem zi8{a:Addr}{vs:List Value}{n:Nat}{κ:SortKind}{lt:Nat->Nat->Option Bool}{out:List Value}{P:PySem.Fin->Shared->Prop}(ho:s.heap.get? a=some (seqObj "list" vs.toArray n))(h64:vs.length < 64)
 (hk:∀ (s':Shared),(∀ b o,b≠a->s.heap.get? b=some o->s'.heap.get? b=some o)->2<=vs.length->∀ (Q:SortKind->Shared->Prop),Q κ s'->wpAny (model prog w) A (keyKind' vs.toArray) Q E s')
 (hc:∀ (s':Shared),(∀ b o,b≠a->s.heap.get? b=some o->s'.heap.get? b=some o)->∀ i j b (C:Bool->Shared->Prop),lt i j=some b->C b s'->wpAny (model prog w) A (keyLt' κ (vs.getD i Value.none) (vs.getD j Value.none)) C (fun uA uA=>False) s')
 (hev:(vs.length < 2/\out=vs)\/(2<=vs.length/\∃ p,pf lt (kas_sort vs.length)=some p/\out=p.toList.map fun i=>vs.getD i Value.none))
 (h:P (.done (.ret .none)) { s with heap:=sortedHeap s.heap a vs out.toArray }):wpAny (model prog w) A (Builtin.«list.sort» ⟨[.ref a],[]⟩) P E s:=by
 rw[list_sort_plain];have ha:a < s.heap.objs.size:=aY ho;refine aa (listItems_at ho rfl ?_);refine aa (listUpdate_at ho rfl ?_ (by rw[dX,bZ];lia) (be _));obtain ⟨e1,ho1⟩ : ∃ e1,(s.heap.update a (Obj.mapSeq fun uA=>#[])).get? a=some (seqObj "list" #[] e1):=⟨_,get?_update_seq ho (fun uA=>#[])⟩;refine aa (seqEpoch_at ho1 rfl ?_);refine aa (wpAny_newTuple ?_ (by show vs.length<=_;rw[bZ];lia));refine aa (wpAny_newList ?_ (be _));refine aS ?_;have ho6:(((s.heap.update a (Obj.mapSeq fun uA=>#[])).push (seqObj "tuple" vs.toArray 0)).push (seqObj "list" #[] 0)).get? a=some (seqObj "list" #[] e1):=by
  rw[cQ _ _ _ (by rw[size_push',eC];exact a8 (cu ha)),cQ _ _ _ (by rw[eC];exact a8 ha)];exact ho1
 show wpAny (model prog w) A _ P E { s with heap:=((s.heap.update a (Obj.mapSeq fun uA=>#[])).push (seqObj "tuple" vs.toArray 0)).push (seqObj "list" #[] 0) };have keep:∀ b o,b≠a->s.heap.get? b=some o->(((s.heap.update a (Obj.mapSeq fun uA=>#[])).push (seqObj "tuple" vs.toArray 0)).push (seqObj "list" #[] 0)).get? b=some o:=fun b o hb e=>
  ac _ (ac _ ((eJ _ _ _ _ hb).trans e))
 dsimp only;have hsz:vs.toArray.size=vs.length:=by simp
 refine fx hev ?_ ?_<;>clear hev
 ·rintro ⟨h2,hout⟩;rw[hout] at h;have h2':vs.toArray.size < 2:=by rw[hsz];exact h2
  rw[af h2',af h2'];refine aa (ab ?_);rw[StateT.run_pure];refine aa (ab ?_);dsimp only;refine aa (seqEpoch_at ho6 rfl ?_);have hmap:Array.map (fun x=>x.2) (arrOf (SortSt.mk' general' (vs.toArray.zip vs.toArray) #[] 7 none))=vs.toArray:=by
   show Array.map (fun x=>x.2) (vs.toArray.zip vs.toArray)=vs.toArray;apply Array.toList_inj.mp;simp[List.map_snd_zip]
  rw[hmap];refine aa (listUpdate_at ho6 rfl ?_ (be _) (by rw[dX,bZ];lia));simp only[cR,a9,cB];exact ab h
 ·rintro ⟨h2,p,hp,rfl⟩;have h2':¬ vs.toArray.size < 2:=by rw[hsz];lia
  rw[ak h2',ak h2'];refine aa (hk _ keep h2 _ ?_);refine aa (aK (kat_run (ks:=vs) (Q:=fun st' s'=>s' = { s with heap:=((s.heap.update a (Obj.mapSeq fun uA=>#[])).push (seqObj "tuple" vs.toArray 0)).push (seqObj "list" #[] 0) }/\p.size=vs.length/\arrOf st'=p.map (kas_item (vs.toArray.zip vs.toArray))/\failedOf st'=none)
   (G:=fun q s'=>q=p/\s' = { s with heap:=((s.heap.update a (Obj.mapSeq fun uA=>#[])).push (seqObj "tuple" vs.toArray 0)).push (seqObj "list" #[] 0) }) rfl h2 h64 (fun q st' s' a1 a2 a3 a4=>by refine fH a4 ?_;clear a4;intro eM eN;subst eM;subst eN;exact ⟨rfl,a1,a2,a3⟩)
   (zl6 (fun i j b C hl hC=>hc _ keep i j b C hl hC) ⟨rfl,rfl⟩ _ hp)) ?_ fun uA uA e=>e)
  rintro⟨⟨⟩,st'⟩ s' ⟨rfl,hps,har,hf⟩;dsimp only;refine aa (seqEpoch_at ho6 rfl ?_);rw[kat_snds rfl har];refine aa (listUpdate_at ho6 rfl ?_ (be _) (by rw[dX,aL,av,hps,bZ];lia));rw[hf];simp only[cR,a9,cB];exact ab h
theorem u7{h:Heap}{a:Addr}{vs out:List Value}{n:Nat}(ho:h.get? a=some (seqObj "list" vs.toArray n)) :
 (∀ b o,b≠a->h.get? b=some o->(sortedHeap h a vs out.toArray).get? b=some o)/\∃ c,(sortedHeap h a vs out.toArray).get? a=some (seqObj "list" out.toArray c):=by
 have ha:a < h.objs.size:=aY ho;obtain ⟨e1,ho1⟩ : ∃ e1,(h.update a (Obj.mapSeq fun uA=>#[])).get? a=some (seqObj "list" #[] e1):=⟨_,get?_update_seq ho (fun uA=>#[])⟩;have ho6:(((h.update a (Obj.mapSeq fun uA=>#[])).push (seqObj "tuple" vs.toArray 0)).push (seqObj "list" #[] 0)).get? a=some (seqObj "list" #[] e1):=by
  rw[cQ _ _ _ (by rw[size_push',eC];exact a8 (cu ha)),cQ _ _ _ (by rw[eC];exact a8 ha)];exact ho1
 refine⟨fun b o hb e=>?_,_,get?_update_seq ho6 fun uA=>out.toArray⟩;unfold sortedHeap;rw[eJ _ _ _ _ hb];exact ac _ (ac _ ((eJ _ _ _ _ hb).trans e))
theorem zec{l:Addr}{vs:List Value}{κ:SortKind}{lt:Nat->Nat->Option Bool}{out:List Value}{Q:Value->Shared->Prop}(hl:s.heap.IsList l vs.toArray)(h64:vs.length < 64)
 (hk:∀ (s':Shared),(∀ b o,s.heap.get? b=some o->s'.heap.get? b=some o)->2<=vs.length->∀ (Q:SortKind->Shared->Prop),Q κ s'->wpAny (model prog w) A.in1.in1 (keyKind' vs.toArray) Q (fun uA uA=>False) s')
 (hc:∀ (s':Shared),(∀ b o,s.heap.get? b=some o->s'.heap.get? b=some o)->∀ i j b (C:Bool->Shared->Prop),lt i j=some b->C b s'->wpAny (model prog w) A.in1.in1 (keyLt' κ (vs.getD i Value.none) (vs.getD j Value.none)) C (fun uA uA=>False) s')
 (hev:(vs.length < 2/\out=vs)\/(2<=vs.length/\∃ p,pf lt (kas_sort vs.length)=some p/\out=p.toList.map fun i=>vs.getD i Value.none))
 (h:∀ D h' c,s.heap.get? D=none->(∀ b o,s.heap.get? b=some o->h'.get? b=some o)->h'.get? D=some (seqObj "list" out.toArray c)->Q (.ref D) { s with heap:=h' }) :
 wpAny (model prog w) A (call (.builtin "sorted") [.ref l]) Q E s:=by
 refine Calls.call_function_entry kind_sorted plain_sorted entry_sorted (args_sorted1 _) ?_;unfold Builtin.«sorted»
 refine aa (m:=checkCount "sorted" 1 1 _) (ab ?_);refine aa (collect_list hl ?_ (by rw[bZ];lia));refine aa (wpAny_newList ?_ (by rw[bZ];lia));have hsz:((s.heap.push (seqObj "list" #[] 0)).update s.heap.objs.size (Obj.mapSeq (·++vs.toArray))).objs.size=s.heap.objs.size+1:=by
  rw[eC,size_push']
 have hoL:(((s.heap.push (seqObj "list" #[] 0)).update s.heap.objs.size (Obj.mapSeq (·++vs.toArray))).push (seqObj "list" vs.toArray 0)).get? (s.heap.objs.size+1)=some (seqObj "list" vs.toArray 0):=by
  rw[<- hsz];exact aw _ rfl
 have keep:∀ b o,s.heap.get? b=some o->(((s.heap.push (seqObj "list" #[] 0)).update s.heap.objs.size (Obj.mapSeq (·++vs.toArray))).push (seqObj "list" vs.toArray 0)).get? b=some o:=fun b o q=>by
  have hlt:b < s.heap.objs.size:=aY q;rw[cQ _ _ _ (by rw[hsz];exact a8 (cu hlt)),eJ _ _ _ _ (a8 hlt),cQ _ _ _ (a8 hlt)];exact q
 have ne:∀ b o,s.heap.get? b=some o->b≠s.heap.objs.size+1:=fun b o q=>a8 (cu (aY q));show wpAny _ _ _ _ _ { s with heap:=((s.heap.push (seqObj "list" #[] 0)).update s.heap.objs.size (Obj.mapSeq (·++vs.toArray))).push (seqObj "list" vs.toArray 0) };rw[hsz];obtain⟨k1,c,k2⟩:=u7 (out:=out) hoL;refine aa (aS (a0 slot_list_sort ⟨_,hoL,rfl⟩ entry_list_sort ?body (args_list_sort _)))
 case body=>
  refine aK (zi8 (E:=fun uA uA=>False) (P:=fun r s'=>r=.done (.ret .none)/\s'=_) hoL h64 (fun s' hk' h2 Q q=>hk s' (fun b o e=>hk' b o (ne b o e) (keep b o e)) h2 Q q) (fun s' hk' i j b C hl hC=>hc s' (fun b o e=>hk' b o (ne b o e) (keep b o e)) i j b C hl hC) hev ⟨rfl,rfl⟩) (fun r s' hr=>?_) fun uA uA x=>x.elim;refine fH hr ?_;clear hr;intro eM eN;subst eM;subst eN;exact fD _ rfl (ab ⟨_,rfl,h _ _ c (bk (cW _)) (fun b o e=>k1 b o (ne b o e) (keep b o e)) k2⟩)
end
noncomputable def zb1:PyData->Option (List Int)
 | .tuple a=>Mine.intsOf a
 | _=>none
noncomputable def zqb:List PyData->Option (List Int×List Int)
 | [x,y]=>(zb1 x).bind fun a=>(zb1 y).map fun b=>(a,b)
 | _=>none
noncomputable def pairOf:PyData->Option (List Int×List Int)
 | .tuple xs=>zqb xs
 | _=>none
noncomputable def ltP(p q:List Int×List Int):Bool:=if p.1=q.1 then (if p.2=q.2 then false else lexI p.2 q.2) else lexI p.1 q.1
noncomputable def ltAt(ps:List (List Int×List Int))(i j:Nat):Option Bool:=match ps[i]?,ps[j]? with
 | some p,some q=>some (ltP p q)
 | _,_=>none
noncomputable def j8:List PyData->Option (List (List Int×List Int))
 | []=>some []
 | x::r=>(pairOf x).bind fun p=>(j8 r).map (p::·)
noncomputable def zea(xs:List PyData):Option (List PyData):=(j8 xs).bind fun ps=>if xs.length < 2 then some xs else (pf (ltAt ps) (kas_sort xs.length)).map fun p=>p.toList.map fun i=>xs.getD i .none
theorem lays:∀ is:List Int,PyData.canLayAll0 (is.map .int)=true
 | []=>rfl
 | _::is=>lays is
theorem qn:∀ a b:List Int,PyData.eqvAll (a.map .int) (b.map .int)=decide (a=b)
 | [],[]=>rfl
 | [],_::_=>rfl
 | _::_,[]=>rfl
 | x::a,y::b=>by
   show (decide (x=y) && PyData.eqvAll (a.map .int) (b.map .int))=_;rw[qn a b];by_cases h:x=y <;> by_cases h':a=b <;> simp[h,h']
theorem qp:∀ a:List Int,PyData.depthAll (a.map .int)<=0
 | []=>aH 0
 | _::a=>eB.mpr ⟨aH 0,qp a⟩
theorem ze1{a:List PyData}{x:List Int}(h:Mine.intsOf a=some x):PyData.canLayAll0 a=true:=by rw[ints_length h];exact lays x
theorem zmf{a b:List PyData}{x y:List Int}(h1:Mine.intsOf a=some x)(h2:Mine.intsOf b=some y):PyData.eqvAll a b=decide (x=y):=by rw[ints_length h1,ints_length h2];exact qn x y
theorem zg8{a:List PyData}{x:List Int}(h:Mine.intsOf a=some x):PyData.depthAll a<=0:=by rw[ints_length h];exact qp x
inductive TupI(h:Heap)(b:Addr)(p:List Int):Prop
 | mk (o:Obj) (n:Nat) (vs:Array Value) (g1:h.get? b=some o) (g2:o.cls=.type "tuple") (g3:o.data=.seq vs n) (g4:IntsAre vs.toList p) (xs:List PyData) (as:List Addr) (r:Reads h (.ref b) (.tuple xs) as) (i:Mine.intsOf xs=some p)
inductive PairAt(h:Heap)(v:Value)(p:List Int×List Int):Prop
 | mk (a b c:Addr) (o:Obj) (n:Nat) (e:v=.ref a) (h1:h.get? a=some o) (h2:o.cls=.type "tuple") (h3:o.data=.seq #[.ref b,.ref c] n) (t1:TupI h b p.1) (t2:TupI h c p.2)
theorem zc5{h:Heap}{v:Value}{x:PyData}{as:List Addr}{p:List Int}(r:Reads h v x as)(e:zb1 x=some p):∃ b,v=.ref b/\TupI h b p:=by
 cases x <;> first | (cases e;done) | skip
 have r':=r
 cases r with
 | tuple h1 h2 h3 h4=>exact⟨_,rfl,_,_,_,h1,h2,h3,ints_get h4 e,_,_,r',e⟩
theorem zji{xs:List PyData}{p:List Int×List Int}(e:zqb xs=some p):∃ x y,xs=[x,y]/\zb1 x=some p.1/\zb1 y=some p.2:=by
 cases xs with
 | nil=>contradiction
 | cons x xs=>cases xs with
   | nil=>contradiction
   | cons y xs=>cases xs with
     | cons _ _=>contradiction
     | nil=>
       refine fC (aW.mp e) fun a h1 e=>?_;refine fC (aD.mp e) fun b h2 eO=>?_;subst eO;exact fK x y rfl h1 h2
set_option tactic.hygienic true in
theorem zon{h:Heap}{v:Value}{x:PyData}{as:List Addr}{p:List Int×List Int}(r:Reads h v x as)(e:pairOf x=some p):PairAt h v p:=by
 cases x <;> first | (cases e;done) | skip
 refine fL (zji e) fun x y eO hx hy=>?_;subst eO
 cases r with
 | tuple h1 h2 h3 h4=>
   rename_i ad o vs n;refine fM (w3 (P:=fun uA=>True) h4 fun uA uA=>trivial) fun v1 v2 bs cs hvs eR=>?_;refine fS eR fun r1 fy r2 fy=>?_;refine fC (zc5 r1 hx) fun b eN t1=>?_;subst eN;refine fC (zc5 r2 hy) fun c eN t2=>?_;subst eN;exact⟨_,b,c,o,n,rfl,h1,h2,by rw[h3,Array.toList_inj.mp (show vs.toList = #[Value.ref b,.ref c].toList from hvs)],t1,t2⟩
theorem TupI.keeps{h h':Heap}{b:Addr}{p:List Int}(hk:∀ b o,h.get? b=some o->h'.get? b=some o)(x:TupI h b p):TupI h' b p:=
 let ⟨o,n,vs,g1,g2,g3,g4,xs,as,r,i⟩:=x;⟨o,n,vs,hk _ _ g1,g2,g3,g4,xs,as,z7 hk r,i⟩
theorem PairAt.keeps{h h':Heap}{v:Value}{p:List Int×List Int}(hk:∀ b o,h.get? b=some o->h'.get? b=some o)(x:PairAt h v p):PairAt h' v p:=
 let ⟨a,b,c,o,n,e,h1,h2,h3,t1,t2⟩:=x;⟨a,b,c,o,n,e,hk _ _ h1,h2,h3,t1.keeps hk,t2.keeps hk⟩
theorem pairs_at{h:Heap}{vs:List Value}{xs:List PyData}{as:List Addr}(r:ReadsAll h vs xs as):∀ {ps:List (List Int×List Int)},j8 xs=some ps->vs.length=ps.length/\∀ (i:Nat) p,ps[i]?=some p->∃ v,vs[i]?=some v/\PairAt h v p:=by
 refine yb (motive:=fun vs xs uA=>∀ {ps:List (List Int×List Int)},j8 xs=some ps->vs.length=ps.length/\∀ (i:Nat) p,ps[i]?=some p->∃ v,vs[i]?=some v/\PairAt h v p) ?_ ?_ r
 ·intro ps e;injection e with fu;subst fu;exact⟨rfl,fun i p h=>by rw[List.getElem?_nil] at h;contradiction⟩
 ·intro v d as vs ds bs r _ ih ps e;refine fC (aW.mp e) fun p hx e=>?_;refine fC (aD.mp e) fun q hr eO=>?_;subst eO;refine fH (ih hr) fun l k=>?_;refine⟨bR (· + 1) l,fun i p' h=>?_⟩
  cases i with
  | zero=>have h:some p=some p':=h
          injection h with fu;subst fu;exact fD v rfl (zon r hx)
  | succ i=>exact k i p' h
section
variable{prog:Program}{w:World}{A:Around}{E:Value->Shared->Prop}{s:Shared}
theorem zim{b b':Addr}{p q:List Int}{C:Bool->Shared->Prop}(hu:A.units+10 < cLine)(t:TupI s.heap b p)(t':TupI s.heap b' q)(h:C (decide (p=q)) s):wpAny (model prog w) A (eqBool (.ref b) (.ref b')) C E s:=by
 obtain⟨_,_,_,_,_,_,_,xs,as,r,i⟩:=t;obtain⟨_,_,_,_,_,_,_,xs',as',r',i'⟩:=t';have d1:(PyData.tuple xs).depth<=1:=bM (zg8 i);refine SeqAt.eqBoolOverData prog w A _ s _ _ _ _ _ _ _ r r' (ze1 i) (ze1 i') (by lia) ?_;have e1:PyData.eqv (.tuple xs) (.tuple xs')=decide (p=q):=zmf i i';rw[e1];exact h
theorem zia{b b':Addr}{p q:List Int}{Q:Value->Shared->Prop}(hu:A.units+1 < cLine)(t:TupI s.heap b p)(t':TupI s.heap b' q)(h:Q (.bool (lexI p q)) s):wpAny (model prog w) A (compareOp .Lt (.ref b) (.ref b')) Q E s:=by
 obtain⟨_,_,_,g1,g2,g3,g4,_,_,_,_⟩:=t;obtain⟨_,_,_,k1,k2,k3,k4,_,_,_,_⟩:=t';exact zjo hu g1 g2 g3 g4 k1 k2 k3 k4 h
theorem zlu{v u:Value}{p q:List Int×List Int}{C:Bool->Shared->Prop}(hu:A.units+10 < cLine)(hv:PairAt s.heap v p)(hw:PairAt s.heap u q)(h:C (ltP p q) s):wpAny (model prog w) A (keyLt' (tuples' false) v u) C E s:=by
 obtain⟨a,b,c,o,n,rfl,h1,h2,h3,t1,t2⟩:=hv;obtain⟨a',b',c',o',n',rfl,h1',h2',h3',t1',t2'⟩:=hw;have hu1:A.units+1 < cLine:=by lia
 refine kat_lt h1 h3 h1' h3' ?_;show KatLex prog w A false (decide (2 < 2)) C [(.ref b,.ref b'),(.ref c,.ref c')] 0 s;refine kat_cons (zim hu t1 t1' ?_);unfold ltP at h;by_cases hp:p.1=q.1
 ·rw[af hp] at h;rw[aA hp];refine kat_yes (kat_cons (zim hu t2 t2' ?_));by_cases hq:p.2=q.2
  ·rw[af hq] at h;rw[aA hq];exact kat_yes (kat_nil h)
  ·rw[ak hq] at h;rw[aF hq];exact kat_no (kat_one _ _ (zia hu1 t2 t2' h))
 ·rw[ak hp] at h;rw[aF hp];exact kat_no (kat_one _ _ (zia hu1 t1 t1' h))
theorem zg4{vs:List Value}{ps:List (List Int×List Int)}{Q:SortKind->Shared->Prop}(hl:vs.length=ps.length)(hp:∀ (i:Nat) p,ps[i]?=some p->∃ v,vs[i]?=some v/\PairAt s.heap v p)(h2:2<=vs.length)(h:Q (tuples' false) s) :
 wpAny (model prog w) A (keyKind' vs.toArray) Q E s:=by
 have key:∀ (vs:List Value) (ps:List (List Int×List Int)),vs.length=ps.length->(∀ (i:Nat) p,ps[i]?=some p->∃ v,vs[i]?=some v/\PairAt s.heap v p)->∃ fs,KatTups s.heap vs fs/\fs.length=vs.length/\∀ f∈fs,∃ b o,f=Value.ref b/\s.heap.get? b=some o/\o.cls=.type "tuple":=by
  intro vs
  induction vs with
  | nil=>intro ps _ _;exact fJ [] trivial rfl (fun uA h=>nomatch h)
  | cons v vs ih=>
    intro ps hl hp
    cases ps with
    | nil=>contradiction
    | cons p ps=>
      refine fN (ih ps (cY hl) fun i p' h=>hp (i+1) p' h) fun fs k1 k2 k3=>?_;refine fC (hp 0 p rfl) fun v' e eO=>?_;obtain ⟨a,b,c,o,n,rfl,h1,h2,h3,⟨o1,_,_,g1,g2,_,_,_,_,_,_⟩,_⟩:=eO;have e:some v=some _:=e;injection e with fu;subst fu
      refine fJ (.ref b::fs) (KatTups.cons h1 h2 h3 (by simp) k1) (by simp[k2]) (fun f hf=>?_);refine fx (ag.mp hf) ?_ ?_
      ·rintro rfl;exact fK b o1 rfl g1 g2
      ·intro hf;exact k3 f hf
 refine fN (key vs ps hl hp) fun fs k1 k2 k3=>?_;refine kat_kind (T:=.type "tuple") k1 (by rw [k2];exact Nat.le_of_lt (by assumption)) (fun f hf=>?_) (by decide) h;refine fL (k3 f hf) fun b o eO h1 h2=>?_;subst eO;rw[<- h2];exact (Looks.ld h1).andThen .now
end
theorem zen{h:Heap}{P:Addr->Prop}{vs:List Value}{xs:List PyData}{as:List Addr}(r:ReadsAll h vs xs as)(q:∀ a∈as,P a)(i:Nat)(x:PyData)(e:xs[i]?=some x):∃ v bs,vs[i]?=some v/\Reads h v x bs/\∀ b∈bs,P b:=zr r q e
theorem v0{h:Heap}{P:Addr->Prop}{vs:List Value}{xs:List PyData}{as:List Addr}(r:ReadsAll h vs xs as)(q:∀ a∈as,P a):∀ (l:List Nat),(∀ i∈l,i < xs.length)->∃ bs,ReadsAll h (l.map fun i=>vs.getD i Value.none) (l.map fun i=>xs.getD i .none) bs/\∀ b∈bs,P b
 | [],_=>⟨[],.nil,fun uA h=>nomatch h⟩
 | i::l,hl=>by
   have hi:=hl i am;refine fL (zen r q i _ (au hi)) fun v bs e1 r1 q1=>?_;refine fC (v0 r q l fun j hj=>hl j (ah _ hj)) fun cs r2 q2=>?_;refine fD (bs++cs) ?_ (fun b hb=>(aj.mp hb).elim (q1 b) (q2 b));have ev:vs.getD i Value.none=v:=by simp[List.getD,e1]
   have ex:xs.getD i .none=xs[i]:=by simp[List.getD,hi]
   rw[a6,a6,ev,ex];exact .cons r1 r2
noncomputable def zga(xs:List PyData):Bool:=match pf (ltAt ((j8 xs).getD [])) (kas_sort xs.length) with
 | some p=>p.toList.all fun i=>decide (i < xs.length)
 | none=>true
noncomputable def zgb(xs:List PyData):Option (List PyData):=if zga xs=true then zea xs else none
set_option tactic.hygienic true in
theorem zrf{G:Gl}{P:Pg}(hP:P.srt=zgb):zcz G P:=by
 intro A F s β ρ O v d xs ys k ro sr rv hx h64 hs;refine fC (look_list sr rv hx) fun a eN eO=>?_;subst eN;obtain ⟨o,vs,n,h1,h2,h3,as,h4,h5⟩:=eO;rw[hP] at hs;unfold zgb at hs;by_cases hcond:zga xs=true
 ·rw[af hcond] at hs
  ·have hy:=hs;unfold zea at hy
   cases hps:j8 xs with
   | none=>rw[hps] at hy;contradiction
   | some ps=>
     rw[hps] at hy;simp only[Option.bind_some] at hy;refine fH (pairs_at h4 hps) fun hl hat=>?_;have hvl:vs.toList.length=xs.length:=zd h4;have hu:=ro.c (n:=200);have hL:s.heap.IsList a vs.toList.toArray:=⟨o,h1,h2,n,by simpa using h3⟩;have fin:∀ (out:List Value) (bs:List Addr),(∀ h',(∀ b o,s.heap.get? b=some o->h'.get? b=some o)->ReadsAll h' out ys bs)->(∀ b∈bs,b∉β/\b∉F.B) ->
      ((vs.toList.length < 2/\out=vs.toList)\/(2<=vs.toList.length/\∃ p,pf (ltAt ps) (kas_sort vs.toList.length)=some p/\out=p.toList.map fun i=>vs.toList.getD i Value.none)) ->
      LeafD G F s β (tr G A (call (.builtin "sorted") [.ref a])) (V.d (.list ys)) (FRel G F s):=by
      intro out bs hrd hq hev;refine LeafD.leaf sr fun Q E kk=>zec (κ:=tuples' false) (lt:=ltAt ps) (out:=out) hL (by rw[hvl];exact h64) (fun s' hk h2' Q q=>zg4 hl (fun i p hi=>let ⟨v,e,pa⟩:=hat i p hi;⟨v,e,pa.keeps hk⟩) h2' q)
       (fun s' hk i j b C hlt hC=>?_) hev fun D h' c hDn hk hD=>?_
      ·unfold ltAt at hlt;split at hlt
       ·rename_i p q hp hq';injection hlt with fu;subst fu
        refine fC (hat i p hp) fun v e pv=>?_;refine fC (hat j q hq') fun u e' pu=>?_;have ev:vs.toList.getD i Value.none=v:=by simp only[List.getD,e,Option.getD_some]
        have eu:vs.toList.getD j Value.none=u:=by simp only[List.getD,e',Option.getD_some]
        rw[ev,eu];exact zlu (by show A.units+1+1+10 < cLine;lia) (pv.keeps hk) (pu.keeps hk) hC
       ·contradiction
      ·have hDβ:D∉β/\D∉F.B:=⟨fun hm=>(by refine fC (sr.br.alive D hm) fun o e fy=>?_;rw[hDn] at e;contradiction),fun hm=>(by refine fC (sr.fm.stor D hm) fun o e fy=>?_;rw[hDn] at e;contradiction)⟩;exact kk _ _ (yw (tk:=s.toks) hk) ⟨y6 hD rfl rfl (by simpa using hrd h' hk) hq hDβ,fun uA uA=>⟨D,rfl,hDn,_,hD,rfl,rfl⟩⟩
     split at hy
     ·rename_i hlt;injection hy with fu;subst fu
      exact fin vs.toList as (fun h' hk=>zt hk h4) h5 (.inl ⟨by rw[hvl];exact hlt,rfl⟩)
     ·rename_i hge
      cases hev:pf (ltAt ps) (kas_sort xs.length) with
      | none=>rw[hev] at hy;contradiction
      | some p=>
        rw[hev] at hy;injection hy with fu;subst fu
        have hall:∀ i∈p.toList,i < xs.length:=by
         have:=hcond;unfold zga at this;rw [hps] at this;simp only [Option.getD_some,hev] at this;intro i hi;exact bp (aV.mp this i hi)
        refine fC (v0 h4 h5 p.toList hall) fun bs r1 q1=>?_;exact fin _ bs (fun h' hk=>zt hk r1) q1 (.inr ⟨by rw[hvl];lia,p,by rw[hvl];exact hev,rfl⟩)
 ·rw[ak hcond] at hs;contradiction
noncomputable def tabOf(L:List Int)(led:Bool):SetTable:={ mask:=7,place:=(L.map Int.toNat).toArray,dummies:=#[],finger:=0,led:=led,moves:=0,plain:=true }
noncomputable def vq(L:List Int)(k:Int)(led:Bool):Bool:=
 decide ((tabOf L led).freeSlot k=some (k.toNat,false)) && decide ((tabOf L led).put k.toNat=(tabOf (addI k L) led,(L.filter fun x=>decide (x < k)).length)) && (tabOf (addI k L) led).fits (L.length+1) && !(tabOf (addI k L) led).tooFull
theorem add0:∀ (led:Bool) (k:_root_.Fin 5),vq [] (k.val:Int) led=true:=by decide +kernel
theorem add1:∀ (led:Bool) (a k:_root_.Fin 5),a≠k->vq [(a.val:Int)] (k.val:Int) led=true:=by decide +kernel
theorem add2:∀ (led:Bool) (a b k:_root_.Fin 5),a < b->a≠k->b≠k->vq [(a.val:Int),(b.val:Int)] (k.val:Int) led=true:=by decide +kernel
theorem add3:∀ (led:Bool) (a b c k:_root_.Fin 5),a < b->b < c->a≠k->b≠k->c≠k->vq [(a.val:Int),(b.val:Int),(c.val:Int)] (k.val:Int) led=true:=by decide +kernel
structure Few(L:List Int)(n:Nat):Prop where
 up:L.Pairwise (· < ·)
 lo:∀ x∈L,0<=x/\x < 5
 len:L.length<=n
theorem y0{x:Int}(h:0<=x/\x < 5):∃ a:_root_.Fin 5,x=(a.val:Int):=⟨⟨x.toNat,by lia⟩,by simp;lia⟩
theorem Few.fact{L:List Int}{k:Int}(f:Few L 3)(hk:0<=k/\k < 5)(hn:k∉L)(led:Bool):vq L k led=true:=by
 refine fG (y0 hk) fun k eN=>?_;subst eN
 match L,f,hn with
 | [],_,_=>exact add0 led k
 | [a],f,hn=>
   refine fG (y0 (f.lo a (by simp))) fun a eN=>?_;subst eN;exact add1 led a k fun e=>hn (by simp[e])
 | [a,b],f,hn=>
   refine fG (y0 (f.lo a (by simp))) fun a eN=>?_;subst eN;refine fG (y0 (f.lo b (by simp))) fun b eN=>?_;subst eN;have hab:=(aG.mp f.up).1 (b.val:Int) (by simp);exact add2 led a b k (by exact_mod_cast hab) (fun e=>hn (by simp[e])) fun e=>hn (by simp[e])
 | [a,b,c],f,hn=>
   refine fG (y0 (f.lo a (by simp))) fun a eN=>?_;subst eN;refine fG (y0 (f.lo b (by simp))) fun b eN=>?_;subst eN;refine fG (y0 (f.lo c (by simp))) fun c eN=>?_;subst eN;have hab:=(aG.mp f.up).1 (b.val:Int) (by simp);have hbc:=(aG.mp (aG.mp f.up).2).1 (c.val:Int) (by simp);exact add3 led a b c k (by exact_mod_cast hab) (by exact_mod_cast hbc) (fun e=>hn (by simp[e])) (fun e=>hn (by simp[e])) fun e=>hn (by simp[e])
 | _::_::_::_::_,f,_=>exact absurd f.len (by simp)
set_option tactic.hygienic true in
theorem zbh:∀ (k:Int) (L:List Int) (x:Int),x∈addI k L↔x=k\/x∈L
 | k,[],x=>by simp[addI]
 | k,b::r,x=>by
   unfold addI;split
   ·simp
   ·split
    ·rename_i h;subst h;simp
    ·simp only[ag,zbh k r x];constructor
     ·rintro (h | h | h) <;> simp[h]
     ·rintro (h | h | h) <;> simp[h]
set_option tactic.hygienic true in
theorem zi1:∀ (k:Int) (L:List Int),L.Pairwise (· < ·)->(addI k L).Pairwise (· < ·)
 | k,[],_=>by simp[addI]
 | k,b::r,h=>by
   refine fH (aG.mp h) fun h1 h2=>?_;unfold addI;split
   ·rename_i hk;refine aG.mpr ⟨fun x hx=>?_,h⟩;refine fx (ag.mp hx) ?_ ?_
    ·rintro rfl;exact hk
    ·intro hx;exact Int.lt_trans hk (h1 x hx)
   ·split
    ·exact h
    ·rename_i hk hne;refine aG.mpr ⟨fun x hx=>?_,zi1 k r h2⟩;refine fx ((zbh k r x).mp hx) ?_ ?_
     ·rintro rfl;lia
     ·intro hx;exact h1 x hx
theorem zcy:∀ (k:Int) (L:List Int),L.Pairwise (· < ·)->k∈L->addI k L=L
 | k,b::r,h,hk=>by
   refine fH (aG.mp h) fun h1 h2=>?_;unfold addI;refine fx (ag.mp hk) ?_ ?_
   ·rintro rfl;simp
   ·intro hk;have:=h1 k hk;rw[ak (by lia),ak (by lia),zcy k r h2 hk]
theorem zf1:∀ (k:Int) (L:List Int),(addI k L).length<=L.length+1
 | k,[]=>by simp[addI]
 | k,b::r=>by
   unfold addI;split
   ·simp
   ·split
    ·simp
    ·have:=zf1 k r;simp;assumption
theorem Few.add{L:List Int}{k:Int}{n:Nat}(f:Few L n)(hk:0<=k/\k < 5):Few (addI k L) (n+1):=
 ⟨zi1 k L f.up,fun x hx=>by refine fx ((zbh k L x).mp hx) ?_ ?_;rotate_left;intro hx;rotate_right;rintro rfl;exact hk;exact f.lo x hx,ai (zf1 k L) (bM f.len)⟩
def SmallSet(h:Heap)(S:Addr)(L:List Int)(led:Bool):Prop:=
 ∃ o es ep,h.get? S=some o/\o.ExactSet/\o.data=.set es ep (tabOf L led)/\es.toList.map (·.1)=L/\∀ e∈es.toList,∃ t,e.2=.int e.1 t
theorem zcm:∀ (es:List (Int×Value)) (k:Int) (x:Value),(es.map (·.1)).Pairwise (· < ·)->k∉es.map (·.1) ->
 ((es.take ((es.map (·.1)).filter fun y=>decide (y < k)).length)++(k,x)::es.drop ((es.map (·.1)).filter fun y=>decide (y < k)).length).map (·.1)=addI k (es.map (·.1))
 | [],k,x,_,_=>rfl
 | (b,y)::r,k,x,h,hn=>by
   refine fH (aG.mp h) fun h1 h2=>?_;have hkb:k≠b:=fun e=>hn (by simp[e]);have hkr:k∉r.map (·.1):=fun hm=>hn (ah _ hm);show _=addI k (b::r.map (·.1));unfold addI;by_cases hb:k < b
   ·rw[af hb];have hf:((((b,y)::r).map (·.1)).filter fun y=>decide (y < k))=[]:=by
     rw[List.filter_eq_nil_iff];intro z hz;have:b<=z:=by
      refine fx (ag.mp hz) ?_ ?_
      ·rintro rfl;exact Int.le_refl _
      ·intro hz;exact Int.le_of_lt (h1 z hz)
     simp;lia
    rw[hf];simp
   ·rw[ak hb,ak hkb];have hf:((((b,y)::r).map (·.1)).filter fun y=>decide (y < k))=b::((r.map (·.1)).filter fun y=>decide (y < k)):=by
     rw[a6,List.filter_cons_of_pos (by simp;lia)]
    rw[hf];simp only[aR,List.take_succ_cons,List.drop_succ_cons,List.cons_append,a6];rw[zcm r k x h2 hkr]
section
variable{prog:Program}{w:World}{A:Around}{E:Value->Shared->Prop}{s:Shared}
theorem zau{k:Int}(hk:0<=k/\k < 5):(intKind prog w).hash k=k:=by
 refine fG (y0 hk) fun k eN=>?_;subst eN;show hashInt (k.val:Int)=_;revert k;decide +kernel
theorem SmallSet.elems{es:List (Int×Value)}{L:List Int}{n:Nat}(f:Few L n)(h1:es.map (·.1)=L)(h2:∀ e∈es,∃ t,e.2=.int e.1 t):ElemsOf (intKind prog w) es:=fun e he=>by
 refine fG (h2 e he) fun t ht=>?_;have hm:e.1∈L:=by rw[<- h1];exact az.mpr ⟨e,he,rfl⟩
 refine⟨⟨e.1,?_,(zau (f.lo _ hm)).symm⟩,by rw[ht];rfl⟩;rw[ht];exact intKind_is _ _ _ _
theorem zko{a:Addr}{L:List Int}{led:Bool}{k:Int}{t:Tok}{Q:Bool->Shared->Prop}(hS:SmallSet s.heap a L led)(f:Few L 3)(hk:0<=k/\k < 5)
 (h:∀ b h',Heap.SameBut a s.heap h'->SmallSet h' a (addI k L) led->Q b { s with heap:=h' }) :
 wpAny (model prog w) A (setAddHashed a (.int k t) ((intKind prog w).hash k)) Q E s:=by
 have same:k∈L->Q false s:=fun hkL=>h false s.heap (Heap.SameBut.refl a s.heap) (by rw[zcy k L f.up hkL];exact hS);refine fX hS fun o es ep ho hex hd h1 h2=>?_;have hel:ElemsOf (intKind prog w) es.toList:=SmallSet.elems f h1 h2;have hsz:es.size=L.length:=by rw[<- av,<- h1,aL]
 have hf:(tabOf L led).fits es.size=true:=by
  rw[hsz];have:=f.len;simp[tabOf,SetTable.fits,SetTable.fill];lia
 have hsc:(Value.int k t).scannable=true:=rfl;have hb:es.size < scanBound:=by rw[hsz];exact bK f.len (by decide)
 have hmemk:(∃ e∈es.toList,(intKind prog w).is k e.2=true)↔k∈L:=by
  constructor
  ·rintro⟨e,he,q⟩;refine fG (h2 e he) fun t' ht'=>?_;rw[ht'] at q;rw[(intKind prog w).inj _ _ _ q (intKind_is _ _ _ _),<- h1];exact az.mpr ⟨e,he,rfl⟩
  ·intro hm;rw[<- h1] at hm;refine fC (az.mp hm) fun e he eO=>?_;subst eO;refine fG (h2 e he) fun t' ht'=>?_;exact fD e he (by rw[ht'];exact intKind_is _ _ _ _)
 have more:k∉L->∃ es',layNew (tabOf L led) es ((intKind prog w).hash k) (.int k t)=(es',tabOf (addI k L) led,false,false)/\es'.size=L.length+1/\(tabOf (addI k L) led).tooFull=false/\SmallSet (s.heap.update a (Obj.putSet es' (tabOf (addI k L) led))) a (addI k L) led:=fun hkL=>by
  have fact:=f.fact hk hkL led;unfold vq at fact;simp only[aM,aP,dW] at fact;refine fH fact fun eM f4=>?_;refine fH eM fun eM f3=>?_;refine fH eM fun f1 f2=>?_;have hle:(L.filter fun x=>decide (x < k)).length<=L.length:=List.length_filter_le _ _;have hins:=zcm es.toList k (Value.int k t) (by rw[h1];exact f.up) (by rw[h1];exact hkL);rw[h1] at hins;generalize (L.filter fun x=>decide (x < k)).length=p at f2 hle hins;have hes:(SetTable.insertAt es p (k,Value.int k t)).toList=es.toList.take p++(k,Value.int k t)::es.toList.drop p:=by
   unfold SetTable.insertAt;rw[Array.toList_append,dY,Array.toList_extract,Array.toList_extract];rw[List.extract_eq_take_drop,List.extract_eq_take_drop,List.drop_zero,Nat.sub_zero,bj];congr 1;rw[cE (by rw[List.length_drop,av];exact aH _)];rfl
  have hsz':(SetTable.insertAt es p (k,Value.int k t)).size=L.length+1:=by
   rw[<- av,hes,ba,aR,List.length_take_of_le (by rw[av,hsz];exact hle),List.length_drop,av,hsz,<- Nat.add_assoc,Nat.add_sub_of_le hle]
  rw[<- hes] at hins;have hall:∀ e∈(SetTable.insertAt es p (k,Value.int k t)).toList,∃ t,e.2=.int e.1 t:=fun e he=>by
   rw[hes] at he;refine fx (aj.mp he) ?_ ?_
   ·intro he;exact h2 e (cU he)
   ·intro he;refine fx (ag.mp he) ?_ ?_
    ·rintro rfl;exact fz t rfl
    ·intro he;exact h2 e (List.mem_of_mem_drop he)
  clear hes;have hL:layNew (tabOf L led) es ((intKind prog w).hash k) (.int k t)=(SetTable.insertAt es p (k,Value.int k t),tabOf (addI k L) led,false,false):=by
   rw[zau hk];unfold layNew;rw[f1];dsimp only;rw[f2];dsimp only;rw[hsz'];unfold SetTable.orStandIn;rw[f3];rfl
  generalize SetTable.insertAt es p (k,Value.int k t)=es' at hsz' hL hins hall;have hg:=bo (Obj.putSet es' (tabOf (addI k L) led)) ho (by rw[putSet_of _ _ hd];rfl);rw[putSet_of _ _ hd] at hg;exact⟨es',hL,hsz',f4,_,_,ep+1,hg,hex,rfl,hins,hall⟩
 unfold setAddHashed setAddHashedIn;refine aS (aa (bB ho hd hf (bH (by rw[byScan_of hsc hb hel];rfl) (aa ?_))));unfold setAddByScan;refine aa (cT (aa (wpAny_setScan_of (intKind_is _ _ _ _) ho hd hf hel ?_)))
 cases hr:List.findIdx? (fun e=>(intKind prog w).is k e.2) es.toList with
 | some j=>
   obtain⟨hj,hpj,_⟩:=List.findIdx?_eq_some_iff_getElem.mp hr;exact ab (ab (same (hmemk.mp ⟨es.toList[j],dA hj,hpj⟩)))
 | none=>
   obtain⟨es',e1,e2,e3,e4⟩:=more fun hm=>by
    refine fC (hmemk.mpr hm) fun e he q=>?_;have:=List.findIdx?_eq_none_iff.mp hr e he;rw[q] at this;contradiction
   dsimp only;rw[e1];refine aa (ab (bH rfl (aa ?_)));rw[hashByValue_scannable 8 hsc];refine ab ?_;show wpAny _ _ (storeSet a es' (tabOf (addI k L) led) >>= _) _ _ _;exact aa (wpAny_storeSet_of ho hd (aO (by show decide ((!false && (tabOf (addI k L) led).tooFull)=true)=false;rw[e3];rfl) (ab (ab (h _ _ (bV s.heap a _) e4)))) (by rw[e2,bZ];have:=f.len;lia))
noncomputable def upTo(is:List Int)(i:Nat):List Int:=(is.take i).foldl (fun acc k=>addI k acc) []
theorem zbz{is:List Int}{i:Nat}{k:Int}(h:is[i]?=some k):upTo is (i+1)=addI k (upTo is i):=by
 unfold upTo;rw[dZ,h,List.foldl_append];rfl
theorem wu{is:List Int}(hr:∀ x∈is,0<=x/\x < 5):∀ i,Few (upTo is i) i
 | 0=>⟨by simp[upTo],fun x hx=>by simp[upTo] at hx,by simp[upTo]⟩
 | i+1=>by
   cases h:is[i]? with
   | none=>
     have:upTo is (i+1)=upTo is i:=by unfold upTo;rw[dZ,h];simp
     rw[this];have f:=wu hr i;exact⟨f.up,f.lo,cP f.len⟩
   | some k=>rw[zbz h];exact (wu hr i).add (hr k (ay h))
variable{I:Addr}{fp wr:List Addr}{R:Result->Shared->Prop}{P:Nat->Value->Prop}{St:Nat->Heap->Prop}
theorem zhd{is:List Int}{led:Bool}(W:Walks prog w A.in1 I fp wr is.length P St)(S:Addr)(hSf:S∉fp)(hval:∀ (i:Nat) v,i < is.length->P i v->∃ t k,is[i]?=some k/\v=.int k t)(hr:∀ x∈is,0<=x/\x < 5)(h4:is.length<=4) :
 ∀ (k i:Nat) (s:Shared),is.length - i=k->i<=is.length->St i s.heap->SmallSet s.heap S (upTo is i) led ->
  (∀ h' tk,(∀ b o,b∉S::wr->s.heap.get? b=some o->h'.get? b=some o)->SmallSet h' S (upTo is is.length) led->R (.ok (.ret .none)) { s with heap:=h',toks:=tk }) ->
  codeAny (model prog w) A (.builtin "set.update.loop" ⟨[.ref S,.ref I],[]⟩) R s:=by
 have hSw:S∉wr:=fun h=>hSf (W.sub _ h);intro k
 induction k with
 | zero=>
   intro i s hk hi hst hS hR;have hin:i=is.length:=by lia
   subst hin;refine cp dG ?_;rw[cq bQ _];show wpAny _ A.in1 (pyNext (.ref I) >>= _) _ _ s;refine aa (W.done s _ _ hst fun h' tk hm=>?_);show wpAny _ A.in1 (ret Value.none) _ _ _;refine ab (hR h' tk (fun b o hb e=>hm b o (fun h=>hb (ah _ h)) e) ?_);refine fO hS ?_;clear hS;intro o es ep ho rest;exact fA o es ep (hm S _ hSw ho) rest
 | succ k ih=>
   intro i s hk hi hst hS hR;have hlt:i < is.length:=by lia
   refine cp dG ?_;rw[cq bQ _];show wpAny _ A.in1 (pyNext (.ref I) >>= _) _ _ s;refine aa (W.item i s _ _ hlt hst fun v h₁ tk1 hP hst' hm=>?_);refine fR (hval i v hlt hP) fun t x hx eP=>?_;subst eP;have hS':SmallSet h₁ S (upTo is i) led:=by
    refine fO hS ?_;clear hS;intro o es ep ho rest;exact fA o es ep (hm S _ hSw ho) rest
   have hxr:=hr x (ay hx);have hfew:=wu hr i;show wpAny _ A.in1 (holding [Value.int x t] (setAdd S (.int x t)) >>= _) _ _ _;refine aa (aS ?_);unfold setAdd;refine aS ?_;refine aa ((intKind prog w).pyHash (k:=x) (intKind_is _ _ _ _) ?_);refine zko (s:={ s with heap:=h₁,toks:=tk1+1 }) hS' ⟨hfew.up,hfew.lo,by have:=hfew.len;lia⟩ hxr fun b h' hsb hS2=>?_;rw[<- zbz hx] at hS2;refine ab ⟨plainId_quiet bQ _,ih (i+1) _ (by lia) hlt (W.frame _ _ _ hst' fun b hb o e=>?_) hS2 fun h'' tk hk'' hS''=>?_⟩
   ·exact (hsb.2 b (fun h:b=S=>hSf (by rw[<- h];exact hb))).trans e
   ·refine hR h'' tk (fun b o hb e=>hk'' b o hb ?_) hS'';exact (hsb.2 b (fun h:b=S=>hb (by rw[h];exact am))).trans (hm b o (fun h=>hb (ah _ h)) e)
end
section
variable{prog:Program}{w:World}{A:Around}{E:Value->Shared->Prop}{s:Shared}
theorem code_set_new(a:Value){Q₁:Value->Shared->Prop}
 (h:Q₁ (.ref s.heap.objs.size) { s with heap:=s.heap.push { cls:=.type "set",dict:=none,data:=.set #[] 0 (.fresh 0 0 (!w.params.followText "set-order")) } }) :
 codeAny (model prog w) A (.call (.builtin "set.__new__") ⟨[.type "set",a],[]⟩) (wants Q₁ E) s:=by
 refine codeAny_of_tree ?_;show wpAny _ A.in1 (do checkBuiltinCall "set.__new__" ⟨[.type "set",a],[]⟩;again (.builtin "set.__new__" ⟨[.type "set",a],[]⟩)) _ _ s;refine aa (wpAny_of_eq (PySem.F.newCall_set_1 a) (ab ⟨plainId_quiet PySem.F.plain_set_new _,cp PySem.F.entry_set_new ?_⟩));rw[cq PySem.F.plain_set_new _];unfold Builtin.«set.__new__» Builtin.Frozenset.newClass;have hsub:=sub_set_self;obtain⟨hp,g,d,tk,os⟩:=s;dsimp only;wp_walk;refine eD (ab ?_);dsimp only;simp only[newObj];refine aa (wpAny_alloc (ab ?_));exact ab h
noncomputable abbrev newSet(w:World):Obj:={ cls:=.type "set",dict:=none,data:=.set #[] 0 (.fresh 0 0 (!w.params.followText "set-order")) }
noncomputable abbrev zlo(c:String)(l:Addr):Obj:={ cls:=.type c,data:=.fields #[.ref l,.int 0 0] }
theorem p0{l:Addr}{c ci:String}{ol:Obj}{T:Heap->Prop}{Q:Value->Shared->Prop}(hol:s.heap.get? l=some ol)(hcl:ol.cls=.type c)
 (hsls:isSubtype (.type c) (.type "set")=pure false) (hslf:isSubtype (.type c) (.type "frozenset")=pure false) (hne:(Value.type c == Value.type "dict")=false)
 (hit:∀ {A:Around} {E:Value->Shared->Prop} {s':Shared} {Q':Value->Shared->Prop},s'.heap.get? l=some ol->Q' (.ref s'.heap.objs.size) { s' with heap:=s'.heap.push (zlo ci l) }->wpAny (model prog w) A (pyIter (.ref l)) Q' E s')
 (fill:∀ (R:Result->Shared->Prop),(∀ h' tk,(∀ b o,s.heap.get? b=some o->h'.get? b=some o)->T h'->R (.ok (.ret .none)) { s with heap:=h',toks:=tk }) ->
   codeAny (model prog w) A.in1.in1 (.builtin "set.update.loop" ⟨[.ref s.heap.objs.size,.ref (s.heap.push (newSet w)).objs.size],[]⟩) R { s with heap:=(s.heap.push (newSet w)).push (zlo ci l) })
 (h:∀ (h':Heap) (tk:Nat),T h'->(∀ b o,s.heap.get? b=some o->h'.get? b=some o)->Q (.ref s.heap.objs.size) { s with heap:=h',toks:=tk }) :
 wpAny (model prog w) A (call (.type "set") [.ref l]) Q E s:=by
 obtain⟨c',tl,hmro⟩:=PySem.F.called_set.mro;have hmade:=PySem.F.called_set.made;have hsub:=PySem.F.called_set.sub;refine wpAny_call (codeAny_of_tree ?_);show wpAny _ _ (callAny (.type "set") _) _ _ _;refine ab ⟨Code.quiet_builtin _ (by decide +kernel),cp PySem.F.entry_type_call ?_⟩;rw [Around.under_plain (weight_type_call_type "set" [.ref l] []) rfl];have h1:=PySem.F.called_set.notType;have h2:=PySem.F.called_set.canCreate;have hct:=PySem.F.typeCall_set_1 (.ref l);repeat (any_goals (first | assumption | wp_step))
 refine codeAny_mono (code_set_new (.ref l) (E:=E) (Q₁:=fun obj s1A=>obj=.ref s.heap.objs.size/\s1A = { s with heap:=s.heap.push (newSet w) }) ⟨rfl,rfl⟩) fun r s1A hr=>?_
 cases r with
 | error e=>exact hr
 | ok fl=>
   cases fl with
   | ret obj=>
     refine fH hr ?_;clear hr;intro eM eN;subst eM;subst eN;have hS:(s.heap.push (newSet w)).get? s.heap.objs.size=some (newSet w):=aw _ rfl;have hT:Shared.TypeIs { s with heap:=s.heap.push (newSet w) } (.ref s.heap.objs.size) "set":=⟨_,hS,rfl⟩;have hli:=PySem.F.called_set.init.lookup;have hbi:=PySem.F.called_set.init.bind (.ref s.heap.objs.size);repeat (any_goals (first | assumption | wp_step))
     refine codeAny_mono (codeAny_call_builtin (R:=wants (fun r s2A=>r=.none/\∃ h' tk,s2A = { s with heap:=h',toks:=tk }/\T h'/\(∀ b o,s.heap.get? b=some o->h'.get? b=some o)) E) PySem.F.called_set.init.plain PySem.F.entry_set_init (check_set_init_1 hT ?_)) fun r2A s2A hr2=>?_
     ·have hol':(s.heap.push (newSet w)).get? l=some ol:=ac _ hol;clear hol h;obtain⟨ocls,odict,odata,oslots⟩:=ol;have hcl:ocls=_:=hcl;subst hcl;unfold Builtin.«set.__init__» noKeywords Builtin.Frozenset.updateFrom;generalize hPI:pyIter=PI;wp_walk;subst hPI;refine hit hol' (aa (wpAny_runValue (fill _ fun h' tk hk hT=>?_)));show wpAny _ _ _ _ _ _;refine ab ?_;show wpAny _ _ (ret Value.none) _ _ _;exact ab ⟨rfl,h',tk,rfl,hT,hk⟩
     ·cases r2A with
      | error e=>exact hr2
      | ok fl2=>
        cases fl2 with
        | ret r=>
          obtain ⟨rfl,h',tk,rfl,hS',hk'⟩:=hr2;repeat (any_goals (first | assumption | wp_step))
          exact h _ _ hS' hk'
        | _=>exact hr2.elim
   | _=>exact hr.elim
theorem zb7{h h':Heap}{w:World}{c:String}{l:Addr}(hm:∀ b o,b∉h.objs.size::[(h.push (newSet w)).objs.size]->((h.push (newSet w)).push (zlo c l)).get? b=some o->h'.get? b=some o):∀ b o,h.get? b=some o->h'.get? b=some o:=fun b o e=>by
 have hb:=aY e;refine hm b o (fun hx=>?_) (ac _ (ac _ e));rw[bv] at hx;refine fx (ag.mp hx) ?_ ?_
 ·rintro rfl;exact cM _ hb
 ·intro hx;rw[ae.mp hx] at hb;exact cM _ (Nat.lt_trans (cZ _) hb)
theorem zb8{h:Heap}{w:World}{l:Addr}(hl:l < h.objs.size):l≠(h.push (newSet w)).objs.size/\h.objs.size∉[(h.push (newSet w)).objs.size,l]:=by
 rw[bv];refine⟨a8 (cu hl),fun hx=>?_⟩;refine fx (ag.mp hx) ?_ ?_
 ·intro hx;exact absurd hx (a8 (cZ _))
 ·intro hx;exact absurd (ae.mp hx) (cX hl)
theorem qu{l:Addr}{items:Array Value}{is:List Int}{Q:Value->Shared->Prop}
 (hh:A.handled=none) (hl:s.heap.IsTuple l items) (hi:IntsAre items.toList is) (hr:∀ x∈is,0<=x/\x < 5) (h4:is.length<=4)
 (h:∀ (h':Heap) (tk:Nat),SmallSet h' s.heap.objs.size (upTo is is.length) (!w.params.followText "set-order") ->
   (∀ b o,s.heap.get? b=some o->h'.get? b=some o)->Q (.ref s.heap.objs.size) { s with heap:=h',toks:=tk }) :
 wpAny (model prog w) A (call (.type "set") [.ref l]) Q E s:=by
 refine fN hl fun ol hol hcl eP=>?_;refine fG eP fun nl hdl=>?_;refine p0 (ci:="tuple_iterator") hol hcl PySem.F.sub_tuple_set PySem.F.sub_tuple_frozenset (by decide) (fun e hQ=>wpAny_pyIter_tuple ⟨_,e,hcl,nl,hdl⟩ hQ) (fun R hR=>?_) h;have hsz:items.size=is.length:=by rw[<- av,gi hi]
 refine fH (zb8 (w:=w) (aY hol)) fun hneI hSf=>?_;have W:=Walks.tuple (prog:=prog) (w:=w) (A:=A.in1.in1.in1) (by simp[hh]) (s.heap.push (newSet w)).objs.size l hneI items;rw[hsz] at W;exact zhd (is:=is) (led:=!w.params.followText "set-order") W s.heap.objs.size hSf (fun i v hi' hv=>by
  refine fR (gj hi i v (by rw[aT];exact hv)) fun n t e1 e2=>?_;exact fV t n e1 e2) hr h4 is.length 0 _ rfl (be _)
  ⟨⟨_,aw _ rfl,rfl,rfl⟩,ol,ac _ (ac _ hol),hcl,nl,hdl⟩
  ⟨_,#[],0,ac _ (aw _ rfl),⟨rfl,rfl,rfl⟩,rfl,rfl,fun e he=>by simp at he⟩ fun h' tk hm hS'=>hR h' tk (zb7 hm) hS'
end
theorem slot_setit_next:Slot "set_iterator" "__next__" "set_iterator.__next__":=
 .of (owner:="set_iterator") (n:="__next__") (by rw [typeLookup_type,builtinLookup_eq_fast];kernel_rfl) (by decide +kernel) (by decide +kernel) (by decide +kernel)
  (by first | exact .inl (by decide +kernel) | exact .inr (by decide +kernel)) (by rw[isSubtype_type];kernel_rfl)
theorem kb:entryFor table "set_iterator.__next__" = some Builtin.«set_iterator.__next__»:=entryFor_of_tree (by kernel_rfl)
theorem k8(a:Value):argsOk "set_iterator.__next__" ⟨[a],[]⟩:=by unfold argsOk;kernel_rfl
theorem ky:Slot "set_iterator" "__iter__" "set_iterator.__iter__":=
 .of (owner:="set_iterator") (n:="__iter__") (by rw [typeLookup_type,builtinLookup_eq_fast];kernel_rfl) (by decide +kernel) (by decide +kernel) (by decide +kernel)
  (by first | exact .inl (by decide +kernel) | exact .inr (by decide +kernel)) (by rw[isSubtype_type];kernel_rfl)
theorem uw:entryFor table "set_iterator.__iter__" = some Builtin.«dict_keyiterator.__iter__»:=
 entryFor_alias (id':="dict_keyiterator.__iter__") (by kernel_rfl) rfl (by decide +kernel) (by kernel_rfl)
theorem gz(a:Value):argsOk "set_iterator.__iter__" ⟨[a],[]⟩:=by unfold argsOk;kernel_rfl
theorem za1:entryFor table "set.__iter__" = some Builtin.«frozenset.__iter__»:=
 entryFor_alias (id':="frozenset.__iter__") (by kernel_rfl) rfl (by decide +kernel) (by kernel_rfl)
theorem qk{L:List Int}{es:Array (Int×Value)}{b:Bool}(f:Few L 4)(h1:es.toList.map (·.1)=L):(tabOf L b).fits es.size=true:=by
 have hsz:es.size=L.length:=by rw[<- av,<- h1,aL]
 rw[hsz];have:=f.len;simp[tabOf,SetTable.fits,SetTable.fill];lia
noncomputable def slotAt(L:List Int):Nat->Nat
 | 0=>0
 | i+1=>(L.getD i 0).toNat+1
noncomputable def j3(L:List Int)(led:Bool):Bool:=(List.range (L.length+1)).all fun i=>decide (SetTable.below (tabOf L led).place (slotAt L i)=i)
theorem ztt:∀ (led:Bool),j3 [] led=true:=by decide +kernel
theorem walk1:∀ (led:Bool) (a:_root_.Fin 5),j3 [(a.val:Int)] led=true:=by decide +kernel
theorem walk2:∀ (led:Bool) (a b:_root_.Fin 5),a < b->j3 [(a.val:Int),(b.val:Int)] led=true:=by decide +kernel
theorem zts:∀ (led:Bool) (a b c:_root_.Fin 5),a < b->b < c->j3 [(a.val:Int),(b.val:Int),(c.val:Int)] led=true:=by decide +kernel
theorem ztr:∀ (led:Bool) (a b c d:_root_.Fin 5),a < b->b < c->c < d->j3 [(a.val:Int),(b.val:Int),(c.val:Int),(d.val:Int)] led=true:=by decide +kernel
theorem Few.walk{L:List Int}(f:Few L 4)(led:Bool):∀ i,i<=L.length->SetTable.below (tabOf L led).place (slotAt L i)=i:=by
 have:j3 L led=true:=by
  match L,f with
  | [],_=>exact ztt led
  | [a],f=>
    refine fG (y0 (f.lo a (by simp))) fun a eN=>?_;subst eN;exact walk1 led a
  | [a,b],f=>
    refine fG (y0 (f.lo a (by simp))) fun a eN=>?_;subst eN;refine fG (y0 (f.lo b (by simp))) fun b eN=>?_;subst eN;have hab:=(aG.mp f.up).1 (b.val:Int) (by simp);exact walk2 led a b (by exact_mod_cast hab)
  | [a,b,c],f=>
    refine fG (y0 (f.lo a (by simp))) fun a eN=>?_;subst eN;refine fG (y0 (f.lo b (by simp))) fun b eN=>?_;subst eN;refine fG (y0 (f.lo c (by simp))) fun c eN=>?_;subst eN;have hab:=(aG.mp f.up).1 (b.val:Int) (by simp);have hbc:=(aG.mp (aG.mp f.up).2).1 (c.val:Int) (by simp);exact zts led a b c (by exact_mod_cast hab) (by exact_mod_cast hbc)
  | [a,b,c,d],f=>
    refine fG (y0 (f.lo a (by simp))) fun a eN=>?_;subst eN;refine fG (y0 (f.lo b (by simp))) fun b eN=>?_;subst eN;refine fG (y0 (f.lo c (by simp))) fun c eN=>?_;subst eN;refine fG (y0 (f.lo d (by simp))) fun d eN=>?_;subst eN;have hab:=(aG.mp f.up).1 (b.val:Int) (by simp);have hbc:=(aG.mp (aG.mp f.up).2).1 (c.val:Int) (by simp);have hcd:=(aG.mp (aG.mp (aG.mp f.up).2).2).1 (d.val:Int) (by simp);exact ztr led a b c d (by exact_mod_cast hab) (by exact_mod_cast hbc) (by exact_mod_cast hcd)
  | _::_::_::_::_::_,f=>exact absurd f.len (by simp)
 intro i hi;exact bp (aV.mp this i (aZ.mpr (cS hi)))
theorem zah{α:Type}:∀ (l:List α) (i:Nat) (h:i < l.length),([l[i]]++l.eraseIdx i).Perm l
 | a::l,0,_=>by simp
 | a::l,i+1,h=>by
   have:=zah l i (by simpa using h);simp only[List.getElem_cons_succ,List.eraseIdx_cons_succ,List.singleton_append];simp only[List.singleton_append] at this;exact (List.Perm.swap _ _ _).trans (this.cons a)
theorem w8{α:Type}(next:Nat->Nat):∀ (fuel k:Nat) (left:List α) (out:Array α),left.length=fuel->(pickOrder.go next fuel k left out).toList.Perm (out.toList++left)
 | 0,k,left,out,h=>by
   rw[cy h,bc];exact List.Perm.refl _
 | fuel+1,k,left,out,h=>by
   have hlt:next k % left.length < left.length:=Nat.mod_lt _ (h ▸ eg _)
   have e:pickOrder.go next (fuel+1) k left out=pickOrder.go next fuel (k+1) (left.eraseIdx (next k % left.length)) (out.push left[next k % left.length]):=by
    show (match left[next k % left.length]? with
     | some x=>pickOrder.go next fuel (k+1) (left.eraseIdx (next k % left.length)) (out.push x)
     | none=>out)=_
    rw[au hlt]
   rw[e];refine (w8 next fuel (k+1) _ _ (by rw[List.length_eraseIdx_of_lt hlt,h];rfl)).trans ?_;rw[dY,bj];exact List.Perm.append_left _ (zah left _ hlt)
theorem zag{α:Type}(next:Nat->Nat)(xs:Array α):(pickOrder next xs).toList.Perm xs.toList:=by
 have:=w8 next xs.size 0 xs.toList #[] (by simp)
 unfold pickOrder;simpa using this
noncomputable def xz(w:World)(S ep:Nat)(es:Array (Int×Value)):List (Int×Value):=if w.params.followText "set-order" = true then (pickOrder (w.params.setOrder S ep) es).toList else es.toList
theorem ordOf_perm{w:World}{S ep:Nat}{es:Array (Int×Value)}:(xz w S ep es).Perm es.toList:=by
 unfold xz;split
 ·exact zag _ _
 ·exact List.Perm.refl _
noncomputable def posAt(w:World)(L:List Int)(i:Nat):Nat:=if w.params.followText "set-order" = true then 0 else slotAt L i
structure SetIt(w:World)(S I:Addr)(es:Array (Int×Value))(ep:Nat)(L:List Int)(i:Nat)(h:Heap):Prop where
 set:∃ o,h.get? S=some o/\o.ExactSet/\o.data=.set es ep (tabOf L (!w.params.followText "set-order"))
 it:∃ o,h.get? I=some o/\o.cls=.type "set_iterator"/\o.data=.fields #[.int (posAt w L i) 0,.int i 0,.ref S,.int es.size 0,.int ep 0]
section
variable{prog:Program}{w:World}{A:Around}{E:Value->Shared->Prop}{s:Shared}{S I:Addr}{es:Array (Int×Value)}{ep:Nat}{L:List Int}
theorem d0{i:Nat}{Q:Option (Value×Nat)->Shared->Prop}(f:Few L 4)(h1:es.toList.map (·.1)=L)(hS:∃ o,s.heap.get? S=some o/\o.ExactSet/\o.data=.set es ep (tabOf L (!w.params.followText "set-order")))
 (hi:i<=L.length) (h:Q (((xz w S ep es)[i]?).map fun e=>(e.2,posAt w L (i+1))) s):wpAny (model prog w) A (setNext S (posAt w L i) i ep) Q E s:=by
 refine fN hS fun o ho hex hd=>?_;have hf:=qk (b:=!w.params.followText "set-order") f h1;unfold setNext;refine aa (bB ho hd hf ?_);dsimp only;unfold setsByText;refine aa (aa (eD (ab ?_)));unfold xz posAt at *
 show wpAny _ _ (if w.params.followText "set-order" = true then _ else _) _ _ _;by_cases hb:w.params.followText "set-order" = true
 ·rw[af hb] at h ⊢
  simp only[cR,a9,cB];refine aa ?_;unfold setWalk;refine aa (bB ho hd hf ?_);dsimp only;unfold setsByText;refine aa (aa (eD (ab ?_)));show wpAny _ _ (if w.params.followText "set-order" = true then _ else _) _ _ _;rw[af hb];refine aa (eD (ab (ab ?_)));rw[af hb] at h ⊢
  rw[aT] at h;exact h
 ·rw[ak hb] at h ⊢
  have hb':w.params.followText "set-order" = false:=aX.mpr hb;rw[hb'];show wpAny _ _ (if (false:Bool)=true then _ else _) _ _ _;rw[ak ao];refine aa ?_;show wpAny _ _ (if (false && !es.isEmpty)=true then _ else _) _ _ _;rw[Bool.false_and,ak ao];refine ab (ab ?_);have hw:=f.walk true i hi;show Q (match es[SetTable.below (tabOf L true).place (slotAt L i)]?,(tabOf L true).place[SetTable.below (tabOf L true).place (slotAt L i)]? with
   | some (_,x),some j=>some (x,j+1)
   | _,_=>none) s
  rw[hw];have hp:(tabOf L true).place[i]?=(L[i]?).map Int.toNat:=by
   show ((L.map Int.toNat).toArray)[i]?=_;rw[List.getElem?_toArray,aU]
  rw[hp];rw[ak hb,aT] at h
  cases he:es[i]? with
  | none=>rw[he] at h;exact h
  | some e=>
    rw[he] at h;have hl:L[i]?=some e.1:=by rw[<- h1,aU,aT,he];rfl
    rw[hl];have:slotAt L (i+1)=e.1.toNat+1:=by show (L.getD i 0).toNat+1=_;rw[List.getD,hl];rfl
    rw[this] at h;exact h
theorem SetIt.walks(hh:A.handled=none)(f:Few L 4)(h1:es.toList.map (·.1)=L)(hSI:S≠I):Walks prog w A I [I,S] [I] L.length (fun i v=>∃ e,(xz w S ep es)[i]?=some e/\v=e.2) (fun i h=>SetIt w S I es ep L i h) where
 sub:=fun b hb=>by rw[ae.mp hb];exact am
 frame:=fun i h h' st hk=>by
  obtain⟨⟨o,ho,r⟩,o',ho',r'⟩:=st;exact⟨⟨o,hk S (by simp) o ho,r⟩,o',hk I (by simp) o' ho',r'⟩
 item:=fun i s Q E hi st hQ=>by
  obtain⟨hS,o,ho,hc,hd⟩:=id st;refine fN (id hS) fun oS hoS hexS hdS=>?_;have hf:=qk (b:=!w.params.followText "set-order") f h1;have hT:s.TypeIs (.ref I) "set_iterator":=⟨o,ho,hc⟩;unfold pyNext;refine aa (wpAny_attempt (bq (name:=Str.ofString "__next__") hT slot_setit_next
   (a0 slot_setit_next hT kb ?_ (k8 _))))
  show wpAny _ _ (fieldsOf (.ref I) >>= _) _ _ s;refine aa (wpAny_fieldsOf ho hd ?_);show wpAny _ _ (setEntries S >>= _) _ _ s;refine aa (wpAny_setEntries_of hoS hdS hf (aO (by rw[cR];rfl) (aa ?_)));refine d0 (ep:=ep) (i:=i) f h1 hS (cG hi) ?_;have hlen:(xz w S ep es).length=L.length:=by rw[ordOf_perm.length_eq,<- h1,aL]
  have hii:i < (xz w S ep es).length:=by rw[hlen];exact hi
  rw[au hii];dsimp only[Option.map];refine aa (wpAny_setField ho hd (by simp) ?_);have hd1:=Obj.data_mapFields hd (·.setIfInBounds 0 (rawInt (posAt w L (i+1):Nat)));have ho1:=bo (Obj.mapFields (·.setIfInBounds 0 (rawInt (posAt w L (i+1):Nat)))) ho (Obj.isFreed_of_fields hd1);refine aa (wpAny_setField ho1 hd1 (by simp) ?_);have hd2:=Obj.data_mapFields hd1 (·.setIfInBounds 1 (rawInt ((i:Int)+1)));have ho2:=bo (Obj.mapFields (·.setIfInBounds 1 (rawInt ((i:Int)+1)))) ho1 (Obj.isFreed_of_fields hd2);have hoth:∀ b o,b≠I->s.heap.get? b=some o->((s.heap.update I (Obj.mapFields (·.setIfInBounds 0 (rawInt (posAt w L (i+1):Nat))))).update I (Obj.mapFields (·.setIfInBounds 1 (rawInt ((i:Int)+1))))).get? b=some o:=fun b o hb e=>
   (cF _ _ (Ne.symm hb)).trans ((cF _ _ (Ne.symm hb)).trans e)
  refine ab ⟨_,rfl,ab (hQ _ _ s.toks ⟨_,au hii,rfl⟩ ⟨⟨oS,hoth S oS hSI hoS,hexS,hdS⟩,_,ho2,(Obj.cls_mapFields ..).trans ((Obj.cls_mapFields ..).trans hc),?_⟩ fun b o hb e=>hoth b o (fun q=>hb (by simp[q])) e)⟩;rw[hd2];simp[rawInt]
 done:=fun s Q E st hQ=>by
  obtain⟨hS,o,ho,hc,hd⟩:=id st;refine fN (id hS) fun oS hoS hexS hdS=>?_;have hf:=qk (b:=!w.params.followText "set-order") f h1;have hT:s.TypeIs (.ref I) "set_iterator":=⟨o,ho,hc⟩;unfold pyNext;refine aa (wpAny_attempt (bq (name:=Str.ofString "__next__") hT slot_setit_next
   (a0 slot_setit_next hT kb ?_ (k8 _))))
  show wpAny _ _ (fieldsOf (.ref I) >>= _) _ _ s;refine aa (wpAny_fieldsOf ho hd ?_);show wpAny _ _ (setEntries S >>= _) _ _ s;refine aa (wpAny_setEntries_of hoS hdS hf (aO (by rw[cR];rfl) (aa ?_)));refine d0 (ep:=ep) (i:=L.length) f h1 hS (aH _) ?_;have hlen:(xz w S ep es).length=L.length:=by rw[ordOf_perm.length_eq,<- h1,aL]
  rw[a7 (by rw[hlen];exact aH _)];dsimp only[Option.map];refine aa (wpAny_setField ho hd (by simp) ?_);show wpAny _ _ (newExc (.type "StopIteration") [] >>= _) _ _ _;refine aa ?_;simp only[newExc,newTuple];refine aa (cr ?_ (by size_fits));refine aa (m:=firstArgMember _ _) (wpAny_of_eq (a:=Value.none) (by first | rfl | (simp only[firstArgMember];rfl)) ?_);refine cr ?_ (by size_fits);simp only[raiseNew];refine aa (wpAny_handled ?_)
  first | rw[show A.in1.handled=none from hh] | rw[hh]
  refine aa (ab (wpAny_throw ?_));refine aa (dD (T:="StopIteration") (b:=true) ⟨_,aw _ rfl,rfl⟩ isSubtype_stop ?_);refine ab (hQ _ s.toks fun b o hb e=>?_);exact ac _ (ac _ ((cF _ _ (fun q=>hb (by simp[<- q]))).trans e))
 self:=fun i s Q E st q=>by
  obtain⟨hS,o,ho,hc,hd⟩:=id st;have hT:s.TypeIs (.ref I) "set_iterator":=⟨o,ho,hc⟩;refine wpAny_pyIter_slot hT ky (a0 ky hT uw ?_ (gz _));show wpAny _ _ (ret (.ref I)) _ _ s;exact ab ⟨_,rfl,"set_iterator",_,hT,slot_setit_next.lookup,q⟩
end
section
variable{prog:Program}{w:World}{A:Around}{E:Value->Shared->Prop}{s:Shared}{S I:Addr}{es:Array (Int×Value)}{ep:Nat}{L:List Int}
theorem zmd{Q:Value->Shared->Prop}(f:Few L 4)(h1:es.toList.map (·.1)=L)(hS:∃ o,s.heap.get? S=some o/\o.ExactSet/\o.data=.set es ep (tabOf L (!w.params.followText "set-order")))
 (hQ:Q (.ref s.heap.objs.size) { s with heap:=s.heap.push { cls:=.type "set_iterator",data:=.fields #[.int 0 0,.int 0 0,.ref S,.int es.size 0,.int ep 0] } }):wpAny (model prog w) A (pyIter (.ref S)) Q E s:=by
 refine fN hS fun o ho hex hd=>?_;have hf:=qk (b:=!w.params.followText "set-order") f h1;have hT:s.TypeIs (.ref S) "set":=⟨o,ho,hex.1⟩;refine wpAny_pyIter_slot hT PySem.F.slot_set_iter (a0 PySem.F.slot_set_iter hT za1 ?_ (PySem.F.args_set_iter_1 _));show wpAny _ _ (Builtin.Frozenset.sizeOf S >>= _) _ _ s;unfold Builtin.Frozenset.sizeOf;refine aa (aa (wpAny_setEntries_of ho hd hf (ab ?_)));refine aa ?_;unfold setDrawn;refine aa (bB ho hd hf ?_);dsimp only;unfold setsByText;refine aa (aa (eD (ab (ab ?_))));have hdr:∀ b:Bool,(b && false)=false:=fun b=>by cases b <;> rfl
 show wpAny _ _ (if (!(w.params.followText "set-order") && false)=true then _ else _) _ _ _;rw[hdr,ak ao];refine aa (ab ?_);refine aa (wpAny_setEpoch_of ho hd hf ?_);exact aa (cr (ab ⟨_,rfl,"set_iterator",_,⟨_,aw _ rfl,rfl⟩,slot_setit_next.lookup,hQ⟩))
theorem zml{Q:Bool->Shared->Prop}{o:Obj}(ho:s.heap.get? S=some o)(hc:o.cls=.type "set")(h:Q false s):wpAny (model prog w) A (Builtin.List.listLengthHint (.ref S)) Q E s:=by
 have hT:s.TypeIs (.ref S) "set":=⟨o,ho,hc⟩;unfold Builtin.List.listLengthHint;refine aa (dN hT PySem.F.slot_set_len.lookup ?_);generalize hid:("set.__len__" : String)=id0;wp_delta;rw [show splitId id0=some ("set","__len__") from by subst hid;decide +kernel];subst hid;refine aa (dD (T:="set") (b:=true) hT (by rw [isSubtype_type];kernel_rfl) ?_);refine dJ (fun hab=>absurd hab (by decide)) (fun uA=>?_);refine dJ (fun uA=>?_) (fun hab=>absurd (by decide +kernel) hab);refine aa (wpAny_typeOf hT ?_);exact ab h
theorem zfq{Q:List Value->Shared->Prop}(hh:A.handled=none)(f:Few L 4)(h1:es.toList.map (·.1)=L)(hS:∃ o,s.heap.get? S=some o/\o.ExactSet/\o.data=.set es ep (tabOf L (!w.params.followText "set-order")))
 (hQ:∀ h' tk,(∀ b o,s.heap.get? b=some o->h'.get? b=some o)->Q ((xz w S ep es).map (·.2)) { s with heap:=h',toks:=tk }):wpAny (model prog w) A (collect (.ref S)) Q E s:=by
 refine fN (id hS) fun o ho hex hd=>?_;have hSlt:=aY ho;have hlen:(xz w S ep es).length=L.length:=by rw[ordOf_perm.length_eq,<- h1,aL]
 unfold collect;refine aa (wpAny_runValue (cp entry_proto_collect' ?_));show wpAny _ _ (do again (.builtin "list.__iadd__" ⟨[<- newList [],.ref S],[]⟩)) _ _ s;refine aa (wpAny_newList (ab ⟨Code.quiet_builtin _ (by decide +kernel),cp entry_list_iadd' ?_⟩));rw[cq (by decide +kernel) _];show wpAny _ _ (Builtin.List.listExtendWith (.ref s.heap.objs.size) (.ref S) (.ref s.heap.objs.size)) _ _ { s with heap:=s.heap.push (seqObj "list" #[] 0) };unfold Builtin.List.listExtendWith;have ho':(s.heap.push (seqObj "list" #[] 0)).get? S=some o:=ac _ ho;refine aa (wpAny_typeOf (T:="set") ⟨o,ho',hex.1⟩ ?_);have e1:Builtin.List.listSameRef (.ref s.heap.objs.size) (.ref S)=false:=by
  have:s.heap.objs.size≠S:=cX hSlt;simp[Builtin.List.listSameRef,this]
 have e2:(Value.type "set" == Value.type "list")=false:=by decide
 have e3:(Value.type "set" == Value.type "tuple")=false:=by decide
 simp only[e1,e2,e3,Bool.or_false,a9,cB];refine aa (zmd (s:={ s with heap:=s.heap.push (seqObj "list" #[] 0) }) f h1 ⟨o,ho',hex,hd⟩ ?_);have hsz1:(s.heap.push (seqObj "list" #[] 0)).objs.size=s.heap.objs.size+1:=size_push' _ _;generalize hI:(s.heap.push (seqObj "list" #[] 0)).objs.size=J at *
 have hDJ:s.heap.objs.size≠J:=by rw[hsz1];exact a8 (cZ _)
 have hSJ:S≠J:=by rw[hsz1];exact a8 (cu hSlt)
 have hS0:((s.heap.push (seqObj "list" #[] 0)).push { cls:=.type "set_iterator",data:=.fields #[.int 0 0,.int 0 0,.ref S,.int es.size 0,.int ep 0] }).get? S=some o:=ac _ ho';have hD0:((s.heap.push (seqObj "list" #[] 0)).push { cls:=.type "set_iterator",data:=.fields #[.int 0 0,.int 0 0,.ref S,.int es.size 0,.int ep 0] }).get? s.heap.objs.size=some { cls:=.type "list",data:=.seq #[] }:=ac _ (aw _ rfl);have hJ0:((s.heap.push (seqObj "list" #[] 0)).push { cls:=.type "set_iterator",data:=.fields #[.int 0 0,.int 0 0,.ref S,.int es.size 0,.int ep 0] }).get? J=some { cls:=.type "set_iterator",data:=.fields #[.int 0 0,.int 0 0,.ref S,.int es.size 0,.int ep 0] }:=by
  rw[<- hI];exact aw _ rfl
 refine aa (aS (zml hS0 hex.1 ?_));refine dJ (fun uA=>?_) (fun hab=>absurd (by decide +kernel) hab);refine aa (cT ?_);refine aa ?_;show wpAny _ _ (updateSeq s.heap.objs.size (·.push .none) >>= fun uA=>updateSeq s.heap.objs.size (·.pop)) _ _ _;refine aa (wpAny_updateSeq hD0 rfl ?_);have hD2:=bo (Obj.mapSeq (·.push Value.none)) hD0 rfl;refine wpAny_updateSeq (hz:=by seq_fits) hD2 rfl ?_;have hD3:=bo (Obj.mapSeq (·.pop)) hD2 rfl;have oth:∀ b o',b≠s.heap.objs.size->((s.heap.push (seqObj "list" #[] 0)).push { cls:=.type "set_iterator",data:=.fields #[.int 0 0,.int 0 0,.ref S,.int es.size 0,.int ep 0] }).get? b=some o' ->
  ((((s.heap.push (seqObj "list" #[] 0)).push { cls:=.type "set_iterator",data:=.fields #[.int 0 0,.int 0 0,.ref S,.int es.size 0,.int ep 0] }).update s.heap.objs.size (Obj.mapSeq (·.push Value.none))).update s.heap.objs.size (Obj.mapSeq (·.pop))).get? b=some o':=fun b o' hb e=>
  (cF _ _ (Ne.symm hb)).trans ((cF _ _ (Ne.symm hb)).trans e)
 have W:=(SetIt.walks (prog:=prog) (w:=w) (A:=A.in1) (S:=S) (I:=J) (es:=es) (ep:=ep) hh f h1 hSJ).toS;have hpos:posAt w L 0=0:=by unfold posAt;split <;> rfl
 refine ab ⟨plainId_quiet PySem.F.plain_extend_loop _,codeAny_extend_loopS W (by rw[bZ];have:=f.len;lia) s.heap.objs.size (by simp only[ag,dB,or_false,not_or];exact⟨hDJ,cX hSlt⟩) _ L.length 0 _ #[] _ rfl (be _)
  ⟨⟨o,oth S o (a8 hSlt) hS0,hex,hd⟩,_,oth J _ (Ne.symm hDJ) hJ0,rfl,by rw[hpos];rfl⟩ hD3 (ItemsOf.nil _) fun s' acc' c' hm hS' hacc=>?_⟩
 show wpAny (model prog w) A (do
  let o <- load s.heap.objs.size
  match o.data with
  | .seq xs _=>pure xs.toList
  | _=>unsupported "internal:collect") Q E s'
 refine aa (wpAny_load hS' ?_);refine ab ?_;rw[Moved.eq_with hm];have hout:acc'.toList=(xz w S ep es).map (·.2):=by
  refine List.ext_getElem? fun i=>?_;rw[aT,aU]
  cases he:acc'[i]? with
  | none=>
    have:(xz w S ep es)[i]?=none:=by
     rw[List.getElem?_eq_none_iff,hlen,<- hacc.1];exact Array.getElem?_eq_none_iff.mp he
    rw[this];rfl
  | some v=>
    refine fC (hacc.2 i v he) fun e h2 h3=>?_;rw[h2,h3];rfl
 rw[hout];refine hQ s'.heap s'.toks fun b o' e=>?_;have hb:=aY e;refine hm.heap b o' (fun hmem=>?_) (oth b o' (a8 hb) (ac _ (ac _ e)));refine fx (ag.mp hmem) ?_ ?_
 ·intro q;exact a8 hb q
 ·intro hmem;have q:=ae.mp hmem;rw[q,hsz1] at hb;exact absurd hb (eA.mpr (cW _))
end
section
variable{prog:Program}{w:World}{A:Around}{E:Value->Shared->Prop}{s:Shared}{S:Addr}{L:List Int}
theorem k7:∀ (l:List (Int×Value)),(∀ e∈l,∃ t,e.2=.int e.1 t)->IntsAre (l.map (·.2)) (l.map (·.1))
 | [],_=>.nil
 | e::l,h=>by
   refine fG (h e am) fun t ht=>?_;rw[a6,a6,ht];exact .cons _ _ (k7 l fun e he=>h e (ah _ he))
theorem readsAll_ints{h:Heap}{vs:List Value}{ns:List Int}(r:IntsAre vs ns):ReadsAll h vs (ns.map .int) []:=by
 induction r with
 | nil=>exact .nil
 | cons n t _ ih=>exact ReadsAll.cons (as:=[]) (bs:=[]) (.int n t) ih
theorem zgc{Q:Value->Shared->Prop}(hh:A.handled=none)(f:Few L 4)(hS:SmallSet s.heap S L (!w.params.followText "set-order"))
 (h:∀ D h' tk c out,s.heap.get? D=none->(∀ b o,s.heap.get? b=some o->h'.get? b=some o)->h'.get? D=some (seqObj "list" out c)->IntsAre out.toList L->Q (.ref D) { s with heap:=h',toks:=tk }) :
 wpAny (model prog w) A (call (.builtin "sorted") [.ref S]) Q E s:=by
 refine fX hS fun o es ep ho hex hd h1 h2=>?_;have hpl:(xz w S ep es).Perm es.toList:=ordOf_perm;have hint:=k7 (xz w S ep es) fun e he=>h2 e (hpl.mem_iff.mp he);have hlen:((xz w S ep es).map (·.2)).length=L.length:=by rw[aL,hpl.length_eq,<- h1,aL]
 have hl4:=f.len;refine Calls.call_function_entry kind_sorted plain_sorted entry_sorted (args_sorted1 _) ?_;unfold Builtin.«sorted»
 refine aa (m:=checkCount "sorted" 1 1 _) (ab ?_);refine aa (zfq (A:=A.in1) hh f h1 ⟨o,ho,hex,hd⟩ fun h₁ tk1 hk1A=>?_);refine aa (wpAny_newList ?_ (by rw[hlen,bZ];lia));have hoL:(h₁.push (seqObj "list" ((xz w S ep es).map (·.2)).toArray 0)).get? h₁.objs.size=some (seqObj "list" ((xz w S ep es).map (·.2)).toArray 0):=aw _ rfl;have hDn:s.heap.get? h₁.objs.size=none:=by
  cases e:s.heap.get? h₁.objs.size with
  | none=>rfl
  | some o'=>exact absurd (aY (hk1A _ _ e)) (cM _)
 refine aa (aS (a0 slot_list_sort ⟨_,hoL,rfl⟩ entry_list_sort (list_sort_tree hoL hint (by rw[hlen];lia) fun out ns' a1 a2 a3=>⟨_,rfl,?_⟩) (args_list_sort _)));obtain⟨k1,c,k2⟩:=u7 (out:=out.toList) hoL;have e1:out.toList.toArray=out:=by simp
 rw[e1] at k1 k2;have hup:L.Pairwise (·<=·):=f.up.imp fun h=>Int.le_of_lt h;have hns:ns'=L:=ksm_same (a2.trans (by rw[<- h1];exact hpl.map _)) a3 hup;subst hns;refine ab ⟨_,rfl,h _ _ _ c out hDn (fun b o' e=>?_) k2 a1⟩;have hne:b≠h₁.objs.size:=fun q=>by rw[q,hDn] at e;contradiction
 exact k1 b o' hne (ac _ (hk1A b o' e))
end
theorem v9(is:List Int):upTo is is.length=x5 is:=by unfold upTo x5;rw[bh]
theorem zrh{G:Gl}{P:Pg}:zf2 G P:=by
 intro _ A F s β ρ O v xs is k ro hh sr rv hi hsm;obtain⟨a,o,vs,n,rfl,h1,h2,h3,as,h4,h5⟩:=rv.tuple_inv;unfold small at hsm;simp only[aM,aP,aV] at hsm;refine fH hsm fun h4' hr=>?_;have hr':∀ x∈is,0<=x/\x < 5:=fun x hx=>hr x hx;have hIs:=ints_get h4 hi;have few:=wu hr' is.length;have few4:Few (upTo is is.length) 4:=⟨few.up,few.lo,ai few.len h4'⟩;have hT:s.heap.IsTuple a vs:=⟨o,h1,h2,n,h3⟩;refine⟨LeafD.leaf sr fun Q E kk=>?_,LeafD.leaf sr fun Q E kk=>?_⟩
 ·refine qu hh hT hIs hr' h4' fun h' tk hS hk=>?_;refine fX hS fun o' es ep ho hex hd g1 g2=>?_;have hsz:es.size=(upTo is is.length).length:=by rw[<- av,<- g1,aL]
  have hf:=qk (b:=!G.w.params.followText "set-order") few4 g1;refine call_len_set (s:={ s with heap:=h',toks:=tk }) ho hex hd hf (by rw[hsz];have:=few4.len;lia) ?_;refine kk _ _ (yw hk) ⟨?_,fun uA h=>by injection h with fu;contradiction⟩;rw[hsz,v9];exact VR.int
 ·refine qu hh hT hIs hr' h4' fun h' tk hS hk=>?_;refine zgc (s:={ s with heap:=h',toks:=tk }) hh few4 hS fun D h'' tk'' c out hDn hk' hD hout=>?_;have hkk:∀ b o,s.heap.get? b=some o->h''.get? b=some o:=fun b o e=>hk' b o (hk b o e);have hDs:s.heap.get? D=none:=by
   cases e:s.heap.get? D with
   | none=>rfl
   | some o'=>have:=hk D o' e;rw[hDn] at this;contradiction
  have hDβ:D∉β/\D∉F.B:=⟨fun hm=>(by refine fC (sr.br.alive D hm) fun o e fy=>?_;rw[hDs] at e;contradiction),fun hm=>(by refine fC (sr.fm.stor D hm) fun o e fy=>?_;rw[hDs] at e;contradiction)⟩;refine kk _ _ (yw hkk) ⟨?_,fun uA uA=>⟨D,rfl,hDs,_,hD,rfl,rfl⟩⟩;rw[v9] at hout;exact y6 hD rfl rfl (readsAll_ints hout) (fun uA h=>nomatch h) hDβ
end Mine
end
section
namespace Mine
open PySem
section
variable{prog:Program}{w:World}{A:Around}{E:Value->Shared->Prop}{s:Shared}
inductive zc1(prog:Program)(w:World)(A:Around)(E:Value->Shared->Prop)(hp:Heap):List Value->List Int->Nat->Prop
 | nil:zc1 prog w A E hp [] [] 0
 | cons {v:Value} {h:Int} {n m:Nat} {vs:List Value} {hs:List Int} (h1:∀ (s:Shared) (Q:Int->Shared->Prop),s.heap=hp->Q h { s with toks:=s.toks+n }->wpAny (model prog w) A (pyHash v) Q E s) (h2:zc1 prog w A E hp vs hs m):zc1 prog w A E hp (v::vs) (h::hs) (n+m)
theorem zjy{f:Value->Array Int->Sem (ForInStep (Array Int))}{Q:Array Int->Shared->Prop}{hp:Heap}(hf:∀ v b,f v b=pyHash v >>= fun h=>pure (.yield (b.push h)))
 {vs:List Value} {hs:List Int} {n:Nat} (H:zc1 prog w A E hp vs hs n):∀ (b:Array Int) (s:Shared),s.heap=hp->(∀ b':Array Int,b'.toList=b.toList++hs->Q b' { s with toks:=s.toks+n })->wpAny (model prog w) A (forIn vs b f) Q E s:=by
 induction H with
 | nil=>intro b s _ h;rw[bN];exact ab (h b (bc _).symm)
 | @cons v h n m vs hs h1 _ ih=>
   intro b s e hq;rw[bI,hf];refine aa (aa (h1 s _ e (ab (ih (b.push h) _ e fun b' e'=>?_))));have:=hq b' (by rw[e',dY,bj];rfl);rwa [<- Nat.add_assoc] at this
theorem ze5{a:Addr}{o:Obj}{items:Array Value}{n m:Nat}{hs:List Int}{Q:Int->Shared->Prop}(hu:A.units < cLine)(hT:s.TypeIs (.ref a) "tuple")(ho:s.heap.get? a=some o)(hd:o.data=.seq items n)(H:zc1 prog w A.in1 (fun e s=>E e s) s.heap items.toList hs m)(h:Q (reduceHash (Builtin.Tuple.tupleHashOf hs)) { s with toks:=s.toks+(m+1) }) :
 wpAny (model prog w) A (pyHash (.ref a)) Q E s:=by
 unfold pyHash;unfold pyHashByItsType;refine aa (wpAny_cRoomFor_or (.inr hu) ?_);refine aa (dN hT F.slot_tuple_hash.lookup ?_);show wpAny _ _ (if (some (Value.builtin "tuple.__hash__") == some Value.none)=true then _ else _) Q E s;refine aO (by rw[beq_builtin_none];rfl) ?_;refine aa (dN hT F.slot_tuple_hash.lookup ?_);show wpAny _ _ (callSpecialIfBoundUnlessNone? (.ref a) "__hash__" _ >>= _) Q E s;refine aa (wpAny_callSpecialIfBoundUnlessNone?_slot hT F.slot_tuple_hash (a0 F.slot_tuple_hash hT F.entry_tuple_hash ?_ (F.args_tuple_hash_1 _)));show wpAny _ _ (Builtin.Tuple.tupleItemsOf (.ref a) >>= _) _ _ s;refine aa (dM ho hd ?_);refine aa ?_;rw[<- Array.forIn_toList];refine zjy (fun uA uA=>rfl) H #[] s rfl fun b hb=>?_;have hb:b.toList=hs:=hb;show wpAny _ _ (retInt (Builtin.Tuple.tupleHashOf b.toList)) _ _ _;rw[hb];refine wpAny_ret_mkInt ?_;show wpAny _ _ (if (decide (-(2:Int) ^ 63<=Builtin.Tuple.tupleHashOf hs) && decide (Builtin.Tuple.tupleHashOf hs < 2 ^ 63))=true then _ else _) Q E _;unfold reduceHash at h;by_cases hr:(decide (-(2:Int) ^ 63<=Builtin.Tuple.tupleHashOf hs) && decide (Builtin.Tuple.tupleHashOf hs < 2 ^ 63))=true
 ·rw[af hr] at h;exact bH (aA hr) (ab h)
 ·rw[ak hr] at h;exact aO (aF hr) (aa (cT (ab h)))
theorem zae{β:Type}{f:Value->β->Sem (ForInStep β)}{b:β}{n:Nat}{Q:β->Shared->Prop}(hf:∀ v (Z:ForInStep β->Shared->Prop),wpAny (model prog w) A (eqIsQuiet n v) (fun q s'=>q=true/\s'=s) E s->Z (.yield b) s->wpAny (model prog w) A (f v b) Z E s) :
 ∀ {vs:List Value},(∀ v∈vs,wpAny (model prog w) A (eqIsQuiet n v) (fun q s'=>q=true/\s'=s) E s)->Q b s->wpAny (model prog w) A (forIn vs b f) Q E s
 | [],_,h=>by rw[bN];exact ab h
 | v::vs,hv,h=>by
   rw[bI];exact aa (hf v _ (hv v (.head _)) (zae hf (fun u hu=>hv u (.tail _ hu)) h))
theorem zcb{a:Addr}{o:Obj}{items:Array Value}{n k:Nat}{Q:Bool->Shared->Prop}(hT:s.TypeIs (.ref a) "tuple")(ho:s.heap.get? a=some o)(hd:o.data=.seq items k)(H:∀ v∈items.toList,wpAny (model prog w) A (eqIsQuiet n v) (fun q s'=>q=true/\s'=s) E s)(h:Q true s):wpAny (model prog w) A (eqIsQuiet (n+1) (.ref a)) Q E s:=by
 unfold eqIsQuiet;refine aa (dN hT F.slot_tuple_eq.lookup ?_);show wpAny _ _ (isInstance (.ref a) (.type "tuple") >>= _) _ _ s;refine aa (dD hT isSubtype_tuple_tuple (aO rfl (aa (bO ho hd (aa ?_)))));rw[<- Array.forIn_toList];refine zae (fun v Z hq hz=>aa (aK hq (fun q s' e=>?_) fun uA uA x=>x)) H (ab h);refine fH e ?_;clear e;intro eM eN;subst eM;subst eN;exact aO rfl (ab hz)
inductive zbj(prog:Program)(w:World)(A:Around)(E:Value->Shared->Prop)(s:Shared):List (Value×Value)->Bool->Prop
 | nil:zbj prog w A E s [] true
 | ne {u v:Value} {l:List (Value×Value)} (h:∀ Q:Bool->Shared->Prop,Q false s->wpAny (model prog w) A (eqBool u v) Q E s):zbj prog w A E s ((u,v)::l) false
 | eq {u v:Value} {l:List (Value×Value)} {b:Bool} (h:∀ Q:Bool->Shared->Prop,Q true s->wpAny (model prog w) A (eqBool u v) Q E s) (t:zbj prog w A E s l b):zbj prog w A E s ((u,v)::l) b
theorem eq_loop{β:Type}{f:Value×Value->β->Sem (ForInStep β)}{b d:β}{Q:β->Shared->Prop}(turn:∀ (u v:Value) (c:Bool) (Z:ForInStep β->Shared->Prop),(∀ Q:Bool->Shared->Prop,Q c s->wpAny (model prog w) A (eqBool u v) Q E s)->Z (if c=true then .yield b else .done d) s->wpAny (model prog w) A (f (u,v) b) Z E s)
 {l:List (Value×Value)} {c:Bool} (H:zbj prog w A E s l c):(c=false->Q d s)->(c=true->Q b s)->wpAny (model prog w) A (forIn l b f) Q E s:=by
 induction H with
 | nil=>intro _ h;rw[bN];exact ab (h rfl)
 | ne h=>intro hd _;rw[bI];exact aa (turn _ _ false _ h (ab (hd rfl)))
 | eq h _ ih=>intro hd hb;rw[bI];exact aa (turn _ _ true _ h (ih hd hb))
theorem zhf{a b:Addr}{oa ob:Obj}{xs ys:Array Value}{na nb:Nat}{c:Bool}{P:Fin->Shared->Prop}(hT:s.TypeIs (.ref b) "tuple")(hoa:s.heap.get? a=some oa)(hda:oa.data=.seq xs na)(hob:s.heap.get? b=some ob)(hdb:ob.data=.seq ys nb)(H:zbj prog w A E s (List.zip xs.toList ys.toList) c)
 (h:P (.done (.ret (.bool (c && xs.size == ys.size)))) s):wpAny (model prog w) A (Builtin.«tuple.__eq__» ⟨[.ref a,.ref b],[]⟩) P E s:=by
 show wpAny _ _ (isInstance (.ref b) (.type "tuple") >>= _) _ _ s;refine aa (dD hT isSubtype_tuple_tuple (aO rfl (aa (dM hoa hda (aa (dM hob hdb (aa (eq_loop (d:=(some (PySem.Fin.done (.ret (.bool false))),())) (fun u v c Z hc hZ=>aa (hc _ ?_)) H (fun q=>?_) fun q=>?_))))))))
 ·cases c with
  | true=>exact aO rfl (ab hZ)
  | false=>exact bH rfl (aa (ab (ab hZ)))
 ·subst q;exact ab h
 ·subst q;exact ab h
end
section
variable{prog:Program}{w:World}{K:Type}[DecidableEq K]
structure ItemKind(prog:Program)(w:World)(K:Type)[DecidableEq K] where
 is:Heap->K->Value->Prop
 hash:K->Int
 draws:K->Nat
 room:Around->Prop
 dep:Nat
 inj:∀ {h:Heap} {v:Value} {x y:K},is h x v->is h y v->x=y
 keeps:∀ {h h':Heap} {k:K} {v:Value} {d:Addr} {o:Obj} {es ep},is h k v->h.get? d=some o->o.data=.dict es ep->Heap.SameBut d h h'->is h' k v
 pyHash:∀ {A:Around} {E:Value->Shared->Prop} {s:Shared} {k:K} {v:Value} {Q:Int->Shared->Prop},room A->is s.heap k v->Q (hash k) { s with toks:=s.toks+draws k }->wpAny (model prog w) A (PySem.pyHash v) Q E s
 eqBool:∀ {A:Around} {E:Value->Shared->Prop} {s:Shared} {x y:K} {u v:Value} {Q:Bool->Shared->Prop},room A->is s.heap x u->is s.heap y v->Q (decide (x=y)) s->wpAny (model prog w) A (PySem.eqBool u v) Q E s
 quiet:∀ {A:Around} {E:Value->Shared->Prop} {s:Shared} {k:K} {v:Value} {n:Nat} {Q:Bool->Shared->Prop},dep<=n->is s.heap k v->Q true s->wpAny (model prog w) A (eqIsQuiet n v) Q E s
inductive ItemsK(ik:ItemKind prog w K)(h:Heap):List K->List Value->Prop
 | nil:ItemsK ik h [] []
 | cons {k:K} {v:Value} {ks:List K} {vs:List Value}:ik.is h k v->ItemsK ik h ks vs->ItemsK ik h (k::ks) (v::vs)
def IsTupK(ik:ItemKind prog w K)(h:Heap)(ks:List K)(a:Addr):Prop:=∃ o items n,h.get? a=some o/\o.cls=.type "tuple"/\o.data=.seq items n/\ItemsK ik h ks items.toList
variable{ik:ItemKind prog w K}
theorem ItemsK.inj{h:Heap}{x y:List K}{vs:List Value}(hx:ItemsK ik h x vs)(hy:ItemsK ik h y vs):x=y:=by
 induction hx generalizing y with
 | nil=>cases hy;rfl
 | cons h1 _ ih=>
   cases hy with
   | cons h2 t2=>rw[ik.inj h1 h2,ih t2]
theorem ItemsK.length{h:Heap}{x:List K}{vs:List Value}(hx:ItemsK ik h x vs):x.length=vs.length:=by
 induction hx with
 | nil=>rfl
 | cons _ _ ih=>simp[ih]
theorem ItemsK.keeps{h h':Heap}{x:List K}{vs:List Value}{d:Addr}{o:Obj}{es ep}(hx:ItemsK ik h x vs)(ho:h.get? d=some o)(hd:o.data=.dict es ep)(hs:Heap.SameBut d h h'):ItemsK ik h' x vs:=by
 induction hx with
 | nil=>exact .nil
 | cons h1 _ ih=>exact .cons (ik.keeps h1 ho hd hs) ih
theorem IsTupK.typeIs{s:Shared}{ks:List K}{a:Addr}(x:IsTupK ik s.heap ks a):s.TypeIs (.ref a) "tuple":=by refine fP x fun o fy fy ho hc fy=>?_;exact fD o ho hc
theorem IsTupK.inj{h:Heap}{a:Addr}{x y:List K}(hx:IsTupK ik h x a)(hy:IsTupK ik h y a):x=y:=by
 refine fE hx fun o items n ho fy hd hi=>?_;refine fE hy fun o' items' n' ho' fy hd' hi'=>?_;obtain rfl:o=o':=aN (ho.symm.trans ho');rw[hd] at hd';injection hd' with h1 _
 subst h1;exact hi.inj hi'
theorem IsTupK.keeps{h h':Heap}{ks:List K}{a d:Addr}{o:Obj}{es ep}(x:IsTupK ik h ks a)(ho:h.get? d=some o)(hd:o.data=.dict es ep)(hs:Heap.SameBut d h h'):IsTupK ik h' ks a:=by
 refine fE x fun o' items n ho' hc hd' hi=>?_;have hne:a≠d:=by
  rintro rfl;obtain rfl:o'=o:=aN (ho'.symm.trans ho);rw[hd] at hd';exact nomatch hd'
 exact fF o' items n ((hs.2 a hne).trans ho') hc hd' (hi.keeps ho hd hs)
variable(ik) in
noncomputable def zkx(ks:List K):Int:=reduceHash (Builtin.Tuple.tupleHashOf (ks.map ik.hash))
variable(ik) in
noncomputable def zhz(ks:List K):Nat:=(ks.map ik.draws).sum+1
variable{A:Around}{E:Value->Shared->Prop}{s:Shared}
theorem zmm{A:Around}{hp:Heap}(hr:ik.room A){ks:List K}{vs:List Value}(h:ItemsK ik hp ks vs):zc1 prog w A E hp vs (ks.map ik.hash) (ks.map ik.draws).sum:=by
 induction h with
 | nil=>exact .nil
 | cons h1 _ ih=>exact .cons (fun s Q e q=>ik.pyHash hr (e ▸ h1) q) ih
theorem zjx{ks:List K}{a:Addr}{Q:Int->Shared->Prop}(hu:A.units < cLine)(hr:ik.room A.in1)(hk:IsTupK ik s.heap ks a)(h:Q (zkx ik ks) { s with toks:=s.toks+zhz ik ks }) :
 wpAny (model prog w) A (pyHash (.ref a)) Q E s:=by
 have hT:=hk.typeIs;refine fE hk fun o items n ho fy hd hi=>?_;exact ze5 hu hT ho hd (zmm hr hi) h
theorem zss(hr:ik.room A){x:List K}{xs:List Value}(hx:ItemsK ik s.heap x xs):∀ {y:List K} {ys:List Value},ItemsK ik s.heap y ys->∃ c,zbj prog w A E s (List.zip xs ys) c/\((c=true/\xs.length=ys.length)↔x=y):=by
 induction hx with
 | nil=>
   intro y ys hy;refine fD true (by rw[List.zip_nil_left];exact .nil) ?_
   cases hy with
   | nil=>exact⟨fun uA=>rfl,fun uA=>⟨rfl,rfl⟩⟩
   | cons _ _=>exact⟨fun e=>(nomatch e.2),fun e=>(nomatch e)⟩
 | @cons k1 u x xs h1 _ ih=>
   intro y ys hy
   cases hy with
   | nil=>exact⟨true,.nil,fun e=>(nomatch e.2),fun e=>(nomatch e)⟩
   | @cons k2 v y ys h2 hy=>
     by_cases e:k1=k2
     ·subst e;refine fC (ih hy) fun c q1 q2=>?_;exact⟨c,.eq (fun Q q=>ik.eqBool hr h1 h2 (by rwa [aA rfl])) q1,fun r=>bR _ (q2.mp ⟨r.1,cY r.2⟩),fun r=>⟨(q2.mpr (List.cons.inj r).2).1,bR Nat.succ (q2.mpr (List.cons.inj r).2).2⟩⟩
     ·exact⟨false,.ne (fun Q q=>ik.eqBool hr h1 h2 (by rwa [aF e])),fun r=>(nomatch r.1),fun r=>(e (List.cons.inj r).1).elim⟩
theorem zmw{x y:List K}{a b:Addr}{P:Fin->Shared->Prop}(hr:ik.room A)(hx:IsTupK ik s.heap x a)(hy:IsTupK ik s.heap y b)(h:P (.done (.ret (.bool (decide (x=y))))) s) :
 wpAny (model prog w) A (Builtin.«tuple.__eq__» ⟨[.ref a,.ref b],[]⟩) P E s:=by
 have hTb:=hy.typeIs;refine fE hx fun oa xs na hoa fy hda hia=>?_;refine fE hy fun ob ys nb hob fy hdb hib=>?_;refine fC (zss (E:=E) hr hia hib) fun c q1 q2=>?_;refine zhf hTb hoa hda hob hdb q1 ?_;have e:(c && xs.size == ys.size)=decide (x=y):=Bool.eq_iff_iff.mpr (by rw[aM,aQ,aP];exact q2);rw[e];exact h
theorem zpe{x y:List K}{a b:Addr}{Q:Bool->Shared->Prop}(hu:A.units < cLine)(hr:ik.room A.in1)(hx:IsTupK ik s.heap x a)(hy:IsTupK ik s.heap y b)(h:Q (decide (x=y)) s) :
 wpAny (model prog w) A (eqBool (.ref a) (.ref b)) Q E s:=by
 unfold eqBool;try with_reducible refine aS ?_
 show wpAny _ _ (if (Value.ref a == Value.ref b)=true then _ else _) Q E s;by_cases hab:(Value.ref a == Value.ref b)=true
 ·rw[af hab];have e:a=b:=by have:=eq_of_beq hab;injection this
  subst e;obtain rfl:=hx.inj hy;exact aa (cT (ab (by simpa using h)))
 ·rw[ak hab];exact aa (ez (op:=.Eq) hx.typeIs hy.typeIs F.slot_tuple_eq
   (a0 F.slot_tuple_eq hx.typeIs F.entry_tuple_eq (zmw hr hx hy ⟨_,rfl,(fun e=>nomatch e),bS h⟩) (F.args_tuple_eq_2 _ _)) hu)
theorem zje{n:Nat}(hn:ik.dep<=n){ks:List K}{vs:List Value}(h:ItemsK ik s.heap ks vs):∀ v∈vs,wpAny (model prog w) A (eqIsQuiet n v) (fun q s'=>q=true/\s'=s) E s:=by
 induction h with
 | nil=>intro v hv;cases hv
 | cons h1 _ ih=>
   intro v hv;refine fx (ag.mp hv) ?_ ?_
   ·rintro rfl;exact ik.quiet hn h1 ⟨rfl,rfl⟩
   ·intro hv;exact ih v hv
theorem zgq{ks:List K}{a:Addr}{n:Nat}{Q:Bool->Shared->Prop}(hn:ik.dep+1<=n)(hk:IsTupK ik s.heap ks a)(h:Q true s):wpAny (model prog w) A (eqIsQuiet n (.ref a)) Q E s:=by
 have hT:=hk.typeIs;refine fE hk fun o items fy ho fy hd hi=>?_
 cases n with
 | zero=>exact absurd hn (Nat.not_succ_le_zero _)
 | succ n=>exact zcb hT ho hd (zje (dT hn) hi) h
end
section
variable{prog:Program}{w:World}{K:Type}[DecidableEq K]
noncomputable def g0(ik:ItemKind prog w K):ItemKind prog w (List K) where
 is:=fun h ks v=>∃ a,v=.ref a/\IsTupK ik h ks a
 hash:=zkx ik
 draws:=zhz ik
 room:=fun A=>A.units < cLine/\ik.room A.in1
 dep:=ik.dep+1
 inj:=fun ⟨a,e,h1⟩ ⟨b,e',h2⟩=>by subst e;injection e' with fu;subst fu;exact h1.inj h2
 keeps:=fun ⟨a,e,h1⟩ ho hd hs=>⟨a,e,h1.keeps ho hd hs⟩
 pyHash:=fun ⟨hu,hr⟩ ⟨a,e,h1⟩ h=>by subst e;exact zjx hu hr h1 h
 eqBool:=fun ⟨hu,hr⟩ ⟨a,e,h1⟩ ⟨b,e',h2⟩ h=>by subst e;subst e';exact zpe hu hr h1 h2 h
 quiet:=fun hn ⟨a,e,h1⟩ h=>by subst e;exact zgq hn h1 h
noncomputable def vj:ItemKind prog w Int where
 is:=fun uA i v=>(intKind prog w).is i v=true
 hash:=(intKind prog w).hash
 draws:=fun uA=>1
 room:=fun uA=>True
 dep:=0
 inj:=fun h1 h2=>(intKind prog w).inj _ _ _ h1 h2
 keeps:=fun h uA uA uA=>h
 pyHash:=fun uA h1 h=>(intKind prog w).pyHash h1 h
 eqBool:=fun uA h1 h2 h=>(intKind prog w).eqBool h1 h2 h
 quiet:=fun uA h1 h=>by rw[eqIsQuiet_byValue _ ((intKind prog w).byValue _ _ h1)];exact ab h
def IsPairK{K':Type}[DecidableEq K'](ik:ItemKind prog w K)(jk:ItemKind prog w K')(h:Heap)(k:K×K')(a:Addr):Prop:=∃ o x y n,h.get? a=some o/\o.cls=.type "tuple"/\o.data=.seq #[x,y] n/\ik.is h k.1 x/\jk.is h k.2 y
variable{K':Type}[DecidableEq K']{ik:ItemKind prog w K}{jk:ItemKind prog w K'}{A:Around}{E:Value->Shared->Prop}{s:Shared}
theorem IsPairK.typeIs{k:K×K'}{a:Addr}(x:IsPairK ik jk s.heap k a):s.TypeIs (.ref a) "tuple":=by refine fM x fun o fy fy fy ho eR=>?_;refine fH eR fun hc fy=>?_;exact fD o ho hc
theorem IsPairK.inj{h:Heap}{a:Addr}{x y:K×K'}(hx:IsPairK ik jk h x a)(hy:IsPairK ik jk h y a):x=y:=by
 refine fM hx fun o u v n ho eR=>?_;refine fS eR fun fy hd h1 h2=>?_;refine fM hy fun o' u' v' n' ho' eR=>?_;refine fS eR fun fy hd' h1' h2'=>?_;obtain rfl:o=o':=aN (ho.symm.trans ho');have e:[u,v]=[u',v']:=by
  have e:=hd.symm.trans hd';injection e with e _
  exact bR Array.toList e
 injection e with e1 e;injection e with e2 _;exact Prod.ext (ik.inj h1 (e1 ▸ h1')) (jk.inj h2 (e2 ▸ h2'))
theorem IsPairK.keeps{h h':Heap}{k:K×K'}{a d:Addr}{o:Obj}{es ep}(x:IsPairK ik jk h k a)(ho:h.get? d=some o)(hd:o.data=.dict es ep)(hs:Heap.SameBut d h h'):IsPairK ik jk h' k a:=by
 refine fM x fun o' u v n ho' eR=>?_;refine fS eR fun hc hd' h1 h2=>?_;have hne:a≠d:=by
  rintro rfl;obtain rfl:o'=o:=aN (ho'.symm.trans ho);rw[hd] at hd';exact nomatch hd'
 exact⟨o',u,v,n,(hs.2 a hne).trans ho',hc,hd',ik.keeps h1 ho hd hs,jk.keeps h2 ho hd hs⟩
variable(ik jk) in
noncomputable def zlk(k:K×K'):Int:=reduceHash (Builtin.Tuple.tupleHashOf [ik.hash k.1,jk.hash k.2])
variable(ik jk) in
noncomputable def zh5(k:K×K'):Nat:=ik.draws k.1+jk.draws k.2+1
theorem zg9{k:K×K'}{a:Addr}{Q:Int->Shared->Prop}(hu:A.units < cLine)(hr:ik.room A.in1)(hr':jk.room A.in1)(hk:IsPairK ik jk s.heap k a)(h:Q (zlk ik jk k) { s with toks:=s.toks+zh5 ik jk k }) :
 wpAny (model prog w) A (pyHash (.ref a)) Q E s:=by
 have hT:=hk.typeIs;refine fM hk fun o x y n ho eR=>?_;refine fS eR fun fy hd h1 h2=>?_;exact ze5 hu hT ho hd (.cons (fun s Q e q=>ik.pyHash hr (e ▸ h1) q) (.cons (fun s Q e q=>jk.pyHash hr' (e ▸ h2) q) .nil)) h
theorem zmv{x y:K×K'}{a b:Addr}{P:Fin->Shared->Prop}(hr:ik.room A)(hr':jk.room A)(hx:IsPairK ik jk s.heap x a)(hy:IsPairK ik jk s.heap y b)(h:P (.done (.ret (.bool (decide (x=y))))) s) :
 wpAny (model prog w) A (Builtin.«tuple.__eq__» ⟨[.ref a,.ref b],[]⟩) P E s:=by
 have hTb:=hy.typeIs;refine fM hx fun oa u v na hoa eR=>?_;refine fS eR fun fy hda i1 i2=>?_;refine fM hy fun ob u' v' nb hob eR=>?_;refine fS eR fun fy hdb j1 j2=>?_;by_cases e1:x.1=y.1
 ·refine zhf (c:=decide (x.2=y.2)) hTb hoa hda hob hdb (.eq (fun Q q=>ik.eqBool hr i1 j1 (by rwa [aA e1])) ?_) ?_
  ·by_cases e2:x.2=y.2
   ·rw[aA e2];exact .eq (fun Q q=>jk.eqBool hr' i2 j2 (by rwa [aA e2])) .nil
   ·rw[aF e2];exact .ne fun Q q=>jk.eqBool hr' i2 j2 (by rwa [aF e2])
  ·have e:(decide (x.2=y.2) && true)=decide (x=y):=by rw[Bool.and_true];exact decide_eq_decide.mpr ⟨fun e=>Prod.ext e1 e,fun e=>e ▸ rfl⟩
   exact e ▸ h
 ·rw[aF fun e:x=y=>e1 (bR Prod.fst e)] at h;exact zhf (c:=false) hTb hoa hda hob hdb (.ne fun Q q=>ik.eqBool hr i1 j1 (by rwa [aF e1])) h
theorem zmx{x y:K×K'}{a b:Addr}{Q:Bool->Shared->Prop}(hu:A.units < cLine)(hr:ik.room A.in1)(hr':jk.room A.in1)(hx:IsPairK ik jk s.heap x a)(hy:IsPairK ik jk s.heap y b)(h:Q (decide (x=y)) s) :
 wpAny (model prog w) A (eqBool (.ref a) (.ref b)) Q E s:=by
 unfold eqBool;try with_reducible refine aS ?_
 show wpAny _ _ (if (Value.ref a == Value.ref b)=true then _ else _) Q E s;by_cases hab:(Value.ref a == Value.ref b)=true
 ·rw[af hab];have e:a=b:=by have:=eq_of_beq hab;injection this
  subst e;obtain rfl:=hx.inj hy;exact aa (cT (ab (by simpa using h)))
 ·rw[ak hab];exact aa (ez (op:=.Eq) hx.typeIs hy.typeIs F.slot_tuple_eq
   (a0 F.slot_tuple_eq hx.typeIs F.entry_tuple_eq (zmv hr hr' hx hy ⟨_,rfl,(fun e=>nomatch e),bS h⟩) (F.args_tuple_eq_2 _ _)) hu)
theorem zeo{k:K×K'}{a:Addr}{n:Nat}{Q:Bool->Shared->Prop}(hn:ik.dep+1<=n)(hn':jk.dep+1<=n)(hk:IsPairK ik jk s.heap k a)(h:Q true s):wpAny (model prog w) A (eqIsQuiet n (.ref a)) Q E s:=by
 have hT:=hk.typeIs;refine fM hk fun o x y fy ho eR=>?_;refine fS eR fun fy hd h1 h2=>?_
 cases n with
 | zero=>exact absurd hn (Nat.not_succ_le_zero _)
 | succ n=>
   refine zcb hT ho hd (fun v hv=>?_) h;refine fx (ag.mp hv) ?_ ?_
   ·rintro rfl;exact ik.quiet (dT hn) h1 ⟨rfl,rfl⟩
   ·intro hv;rw[ae.mp hv];exact jk.quiet (dT hn') h2 ⟨rfl,rfl⟩
noncomputable def zlm(ik:ItemKind prog w K)(jk:ItemKind prog w K')(hd:ik.dep<=7)(hd':jk.dep<=7):HeapKind prog w (K×K') where
 is:=IsPairK ik jk
 hash:=zlk ik jk
 draws:=zh5 ik jk
 room:=fun A=>A.units < cLine/\ik.room A.in1/\jk.room A.in1
 inj:=fun hx hy=>hx.inj hy
 keeps:=fun x ho hd hs=>x.keeps ho hd hs
 pyHash:=fun hu hk h=>zg9 hu.1 hu.2.1 hu.2.2 hk h
 eqBool:=fun hu hx hy h=>zmx hu.1 hu.2.1 hu.2.2 hx hy h
 quiet:=fun hk h=>zeo (by exact Nat.lt_succ_of_le (by assumption)) (by exact Nat.lt_succ_of_le (by assumption)) hk h
noncomputable def ym(prog:Program)(w:World):HeapKind prog w (List (List Int)×Int):=zlm (g0 (g0 vj)) vj (show 2<=7 by decide) (show 0<=7 by decide)
end
end Mine
end
section
namespace Mine
open PySem PyProof.Rows
section
variable{prog:Program}{w:World}{h:Heap}
theorem int_is{v:Value}{i:Int}:(intKind prog w).is i v=true↔∃ t,v=.int i t:=by
 constructor
 ·intro e
  cases v with
  | int j t=>exact fz t (by have:=(intKind prog w).inj _ _ _ e (intKind_is _ _ j t);rw[this])
  | _=>contradiction
 ·rintro⟨t,rfl⟩;exact intKind_is _ _ _ _
theorem zcl:∀ {c:List Int} {vs:List Value} {as:List Addr},ReadsAll h vs (c.map .int) as->ItemsK (vj (prog:=prog) (w:=w)) h c vs
 | [],_,_,r=>by rw[uk r];exact .nil
 | i::c,_,_,r=>by
   obtain⟨v,us,_,_,rfl,r1,rs⟩:=ki r;exact .cons (int_is.mpr (vc r1)) (zcl rs)
theorem items_int{c:List Int}{vs:List Value}(r:ItemsK (vj (prog:=prog) (w:=w)) h c vs):ReadsAll h vs (c.map .int) []:=by
 induction r with
 | nil=>exact .nil
 | cons r _ ih=>refine fG (int_is.mp r) fun t eN=>?_;subst eN;exact ReadsAll.cons (as:=[]) (bs:=[]) (.int _ t) ih
theorem zb0:∀ {c:List (List Int)} {vs:List Value} {as:List Addr},ReadsAll h vs (c.map fun c=>.tuple (c.map .int)) as->ItemsK (g0 (vj (prog:=prog) (w:=w))) h c vs
 | [],_,_,r=>by rw[uk r];exact .nil
 | _::_,_,_,r=>by
   obtain⟨v,us,_,_,rfl,r1,rs⟩:=ki r;obtain⟨a,o,vs,n,_,rfl,h1,h2,h3,h4⟩:=qf r1;exact .cons ⟨_,rfl,_,_,_,h1,h2,h3,zcl h4⟩ (zb0 rs)
theorem zju{c:List (List Int)}{vs:List Value}(r:ItemsK (g0 (vj (prog:=prog) (w:=w))) h c vs):ReadsAll h vs (c.map fun c=>.tuple (c.map .int)) []:=by
 induction r with
 | nil=>exact .nil
 | cons r _ ih=>
   refine fC r ?_;clear r;intro a eN eO;subst eN;refine fE eO ?_;clear eO;intro o its n h1 h2 h3 h4;exact ReadsAll.cons (as:=[]) (bs:=[]) (.tuple h1 h2 h3 (items_int h4)) ih
theorem g6{k:MKey}{v:Value}{as:List Addr}(r:Reads h v (wo k) as):∃ a,v=.ref a/\(ym prog w).is h k a:=by
 obtain⟨a,o,vs,n,_,rfl,h1,h2,h3,h4⟩:=qf r;obtain⟨v1,us,_,_,e,r1,h5⟩:=ki h4;obtain⟨v2,us',_,_,rfl,r2,h6⟩:=ki h5;rw[uk h6] at e;have e:vs = #[v1,v2]:=Array.ext' e;rw[e] at h3;obtain⟨b,o',_,n',_,rfl,g1,g2,g3,g4⟩:=qf r1;exact⟨a,rfl,o,_,_,n,h1,h2,h3,⟨b,rfl,_,_,_,g1,g2,g3,zb0 g4⟩,int_is.mpr (vc r2)⟩
theorem zgw{k:MKey}{a:Addr}(r:(ym prog w).is h k a):Reads h (.ref a) (wo k) []:=by
 refine fM r ?_;clear r;intro o x y n h1 eR;refine fS eR ?_;clear eR;intro h2 h3 eO h5;refine fC eO ?_;clear eO;intro b eN eO;subst eN;refine fE eO fun o' its n' g1 g2 g3 g4=>?_;refine fG (int_is.mp h5) fun t eN=>?_;subst eN;exact .tuple h1 h2 h3 (ReadsAll.cons (as:=[]) (bs:=[]) (.tuple g1 g2 g3 (zju g4)) (ReadsAll.cons (as:=[]) (bs:=[]) (.int _ t) .nil))
theorem zjl(k:MKey):(ym prog w).hash k=zqi k:=rfl
def p8(h:Heap)(N β:List Addr)(xs:List (MKey×Addr×Value))(kvs:List (MKey×PyData)):Prop:=
 xs.length=kvs.length/\∀ (i:Nat) x kv,xs[i]?=some x->kvs[i]?=some kv->x.1=kv.1/\∃ bs,Reads h x.2.2 kv.2 bs/\∀ b∈bs,b∉β/\b∉N
theorem zdw{N β:List Addr}{d:Addr}{kvs:List (MKey×PyData)}(hp:Plain h d)(hd:DictAt h N β d kvs):∃ xs,h.DictOfH (ym prog w) d xs/\p8 h N β xs kvs:=by
 obtain⟨o,es,n,h1,h2,h3,⟨h4,hn⟩,h5⟩:=hd;refine fN hp ?_;clear hp;intro o' h1' hd' hs';rw[h1] at h1';injection h1' with fu;subst fu;have key:∀ (es:List DictEntry) (kvs:List (MKey×PyData)),es.length=kvs.length->(∀ (i:Nat) e kv,es[i]?=some e->kvs[i]?=some kv->zi4 h N β e kv) ->
  ∃ xs,es=xs.map (entryOfKey (ym prog w))/\(∀ x∈xs,(ym prog w).is h x.1 x.2.1)/\xs.map (·.1)=kvs.map (·.1)/\p8 h N β xs kvs:=by
  intro es
  induction es with
  | nil=>
    intro kvs hl _
    cases kvs with
    | nil=>exact⟨[],rfl,fun uA h=>(nomatch h),rfl,rfl,fun i x kv hx=>by simp at hx⟩
    | cons _ _=>contradiction
  | cons e es ih=>
    intro kvs hl hE
    cases kvs with
    | nil=>contradiction
    | cons kv kvs=>
      refine fN (ih kvs (by simpa using hl) fun i e' kv' he hk=>hE (i+1) e' kv' (by simpa using he) (by simpa using hk)) fun xs e1 e2 eP=>?_;refine fI eP ?_;clear eP;intro e3 e4 e5;obtain⟨hq,as,bs,r1,r2,q⟩:=hE 0 e kv rfl rfl;refine fC (g6 (prog:=prog) (w:=w) r1) fun a ha hk=>?_;refine⟨(kv.1,a,e.val)::xs,?_,fun x hx=>?_,by simp[e3],by simp[e4],fun i x kv' hx hk'=>?_⟩
      ·rw[a6,<- e1];congr 1;obtain⟨eh,ek,ev⟩:=e;dsimp only at ha hq;subst ha;subst hq;rfl
      ·refine fx (ag.mp hx) ?_ ?_
       ·rintro rfl;exact hk
       ·intro hx;exact e2 x hx
      ·cases i with
       | zero=>
         simp at hx hk';subst hx;subst hk';exact⟨rfl,bs,r2,fun b hb=>q b (aq _ hb)⟩
       | succ i=>exact e5 i x kv' (by simpa using hx) (by simpa using hk')
 refine fN (key es.toList kvs (by simpa using h4) fun i e kv he hk=>h5 i e kv (by simpa using he) hk) fun xs e1 e2 eP=>?_;refine fH eP ?_;clear eP;intro e3 e4;exact fD xs ⟨o,es,n,h1,⟨h2,hd',hs'⟩,h3,e1,e2,by rw[e3];exact hn⟩ e4
theorem zpr{N β:List Addr}{d:Addr}{xs:List (MKey×Addr×Value)}{kvs:List (MKey×PyData)}(hd:h.DictOfH (ym prog w) d xs)(hv:p8 h N β xs kvs):DictAt h N β d kvs/\Plain h d:=by
 refine fX hd fun o es n h1 eQ h3 h4 eU=>?_;refine fI eQ fun h2 g1 g2=>?_;refine fH eU fun h5 h6=>?_;have hl:es.size=xs.length:=by rw[<- av,h4,aL]
 refine⟨⟨o,es,n,h1,h2,h3,⟨hl.trans hv.1,?_⟩,fun i e kv he hk=>?_⟩,o,h1,g1,g2⟩
 ·have:kvs.map (·.1)=xs.map (·.1):=by
   refine List.ext_getElem? fun i=>?_;rw[aU,aU]
   cases hx:xs[i]? with
   | none=>
     have:kvs[i]?=none:=by rw[List.getElem?_eq_none_iff] at hx ⊢;rw[<- hv.1];exact hx
     rw[this];rfl
   | some x=>
     have hi:=(aE.mp hx).1;rw[hv.1] at hi;have hk:kvs[i]?=some kvs[i]:=au hi;rw[hk];exact bR some ((hv.2 i x _ hx hk).1).symm
  rw[this];exact h6
 ·have he':es.toList[i]?=some e:=by simpa using he
  rw[h4,aU] at he'
  cases hx:xs[i]? with
  | none=>rw[hx] at he';contradiction
  | some x=>
    rw[hx] at he';injection he' with fu;subst fu
    obtain⟨e1,bs,r,q⟩:=hv.2 i x kv hx hk;obtain⟨kk,dd⟩:=kv;have e1:x.1=kk:=e1;subst e1;exact⟨zjl _,[],bs,zgw (h5 x (ay hx)),r,fun b hb=>q b (by simpa using hb)⟩
theorem q9{N β:List Addr}{k:MKey}:∀ {xs:List (MKey×Addr×Value)} {kvs:List (MKey×PyData)},p8 h N β xs kvs->(atKey xs k=none/\z5 kvs k=none)\/∃ p d bs,atKey xs k=some p/\z5 kvs k=some d/\Reads h p.2 d bs/\∀ b∈bs,b∉β/\b∉N
 | [],[],_=>.inl ⟨rfl,rfl⟩
 | [],_::_,hv=>by cases hv.1
 | _::_,[],hv=>by cases hv.1
 | x::xs,kv::kvs,hv=>by
   obtain⟨e,bs,r,q⟩:=hv.2 0 x kv rfl rfl;by_cases hk:x.1=k
   ·right;refine fF x.2 kv.2 bs (by simp[atKey,hk]) (by simp[z5,<- e,hk]) r q
   ·have hk':¬ kv.1=k:=by rw[<- e];exact hk
    have:=q9 (k:=k) (xs:=xs) (kvs:=kvs) ⟨by simpa using hv.1,fun i x' kv' h1 h2=>hv.2 (i+1) x' kv' (by simpa using h1) (by simpa using h2)⟩;have e1:atKey (x::xs) k=atKey xs k:=by simp[atKey,hk]
    have e2:z5 (kv::kvs) k=z5 kvs k:=by simp[z5,hk']
    rw[e1,e2];exact this
end
theorem zhx:∀ {xs:List PyData} {kss:List (List Int)},jo xs=some kss->xs=kss.map fun c=>PyData.tuple (c.map .int)
 | [],_,h=>by injection h with fu;subst fu;rfl
 | x::xs,kss,h=>by
   unfold jo at h
   cases hx:tupI x with
   | none=>rw[hx] at h;contradiction
   | some c=>
     rw[hx] at h
     cases hr:jo xs with
     | none=>rw[hr] at h;contradiction
     | some r=>
       rw[hr] at h;injection h with fu;subst fu
       rw[zhx hr]
       cases x <;> first | (cases hx;done) | skip
       have hx:intsOf _=some c:=hx;rw[ints_length hx];rfl
theorem zoz{xs:List PyData}{y:PyData}{k:MKey}(h:keyN xs y=some k):PyData.tuple [.tuple xs,y]=wo k:=by
 cases y with
 | int n=>
   refine fC (aD.mp h) fun r hr e=>?_;subst e;rw[zhx hr];rfl
 | _=>contradiction
theorem zaq{x:PyData}{k:MKey}(h:keyOf x=some k):x=wo k:=by
 cases x with
 | tuple l=>
   cases l with
   | nil=>contradiction
   | cons x l=>
     cases l with
     | nil=>contradiction
     | cons y l=>
       cases l with
       | cons _ _=>contradiction
       | nil=>
         cases x with
         | tuple xs=>exact zoz h
         | _=>contradiction
 | _=>contradiction
section
variable{G:Gl}{F:Fm}{A:Around}{s:Shared}{β:List Addr}{ρ:Loc}{O:za}
theorem Room.memo{k:Nat}(ro:Room A k):(ym G.prog G.w).room A.in1:=by
 have h:=ro.units;have hc:cLine=9900:=rfl;refine⟨?_,⟨?_,?_,trivial⟩,trivial⟩
 ·show A.units+1 < cLine;lia
 ·show A.units+1+1 < cLine;lia
 ·show A.units+1+1+1 < cLine;lia
theorem zbs{d a:Addr}{k:MKey}{xs:List (MKey×Addr×Value)}{E:Value->Shared->Prop}{Q:Bool->Shared->Prop}(hu:(ym G.prog G.w).room A.in1)(hkey:(ym G.prog G.w).is s.heap k a)(hd:(d == sysModules)=false)(hm:s.heap.DictOfH (ym G.prog G.w) d xs)
 (h:Q (atKey xs k).isSome { s with toks:=s.toks+(ym G.prog G.w).draws k }):wpAny G.m A (contains (.ref d) (.ref a)) Q E s:=by
 unfold contains;try with_reducible refine aS ?_
 refine aa (dN hm.typeIs slot_dict_contains.lookup ?_);show wpAny _ _ (if (some (Value.builtin "dict.__contains__") == some Value.none)=true then _ else _) _ E s;rw[ak (by rw[beq_builtin_none];exact ao)];refine aa (wpAny_callSpecialUnlessNone?_slot (name:=Str.ofString "__contains__") hm.typeIs slot_dict_contains
  (a0 slot_dict_contains hm.typeIs entry_dict_contains ?_ (args_dict_contains _ _)))
 show wpAny _ _ (dictGet d (.ref a) >>= _) _ _ s;refine aa (wpAny_dictGet_heap hu hkey hm ?_)
 cases hf:atKey xs k with
 | some p=>
   rw[hf] at h;show wpAny _ _ (ret (.bool true)) _ _ _;exact ab ⟨_,rfl,bS h⟩
 | none=>
   rw[hf] at h;show wpAny _ _ (Builtin.Dict.pendingKey? d (.ref a) >>= _) _ _ _;exact aa (wpAny_pendingKey_other hd (ab ⟨_,rfl,bS h⟩))
theorem zbr{v u:Value}{n:Nat}{x:PyData}{kvs:List (MKey×PyData)}{q:MKey}{k:Nat}(ro:Room A k)(sr:SR G F β ρ O s.heap)(ho:O[n]?=some (.dct kvs))(hk:keyOf x=some q)
 (rv:VR G F.B β s.heap v (.d x)) (ru:VR G F.B β s.heap u (.box n)) :
 Does G F A s β (compareOp .NotIn v u) ((R.ok (V.d (.bool !(z5 kvs q).isSome)) O).lift ρ) (VRel G F):=by
 obtain⟨d,hd,rfl⟩:=ru;obtain⟨as,r,_⟩:=rv;rw[zaq hk] at r;refine fC (g6 (prog:=G.prog) (w:=G.w) r) fun a eN hkey=>?_;subst eN;have hm:=ay hd;refine fC (zdw (prog:=G.prog) (w:=G.w) (sr.br.plain d hm) (sr.br.at_ n d _ hd ho)) fun xs hD hv=>?_;refine Does.leaf sr fun Q E kk=>?_;show wpAny _ _ (do return Value.bool (!(<- contains (.ref d) (.ref a)))) Q E s;refine aa (zbs ro.memo hkey (G.notSys (sr.br.new d hm)) hD (ab ?_));have e:(atKey xs q).isSome=(z5 kvs q).isSome:=by
  (refine fx (q9 (k:=q) hv) ?_ ?_;rotate_left;rintro ⟨p,d',bs,e1,e2,_⟩;rotate_right;rintro ⟨e1,e2⟩) <;> rw[e1,e2] <;> rfl
 rw[e];exact kk _ _ (KeepsAll.toks s _) VR.bool
theorem zfg{value slice:Expr}{v u:Value}{n:Nat}{x:PyData}{kvs:List (MKey×PyData)}{q:MKey}{k:Nat}(ro:Room A k)(sr:SR G F β ρ O s.heap)(ho:O[n]?=some (.dct kvs))(hk:keyOf x=some q)
 (rv:VR G F.B β s.heap v (.box n)) (ru:VR G F.B β s.heap u (.d x)) (hs:subscripted slice false v u=operate [v,u] (getItem v u)) :
 Does G F A s β (subscriptTail value slice v u) ((opt ((z5 kvs q).map V.d) O).lift ρ) (VRel G F):=by
 obtain⟨d,hd,rfl⟩:=rv;obtain⟨as,r,_⟩:=ru;rw[zaq hk] at r;refine fC (g6 (prog:=G.prog) (w:=G.w) r) fun a eN hkey=>?_;subst eN;have hm:=ay hd;refine fC (zdw (prog:=G.prog) (w:=G.w) (sr.br.plain d hm) (sr.br.at_ n d _ hd ho)) fun xs hD hv=>?_;refine fx (q9 (k:=q) hv) ?_ ?_
 ·rintro ⟨e1,e2⟩;rw[e2];trivial
 ·rintro ⟨p,d',bs,e1,e2,r',hb⟩;rw[e2];refine Does.leaf sr fun Q E kk=>?_;refine tail_any (T:="dict") hD.typeIs slot_dict_getitem.lookup ?_ hs;exact wpAny_getItem_heap ro.memo hkey hD e1 (kk _ _ (KeepsAll.toks s _) ⟨bs,r',hb⟩)
end
end Mine
end
section
namespace Mine
open PySem PySem.SetTable
noncomputable abbrev Ent:=Nat×Int×Value
noncomputable def places(L:List Ent):Array Nat:=(L.map (·.1)).toArray
noncomputable def elems(L:List Ent):Array (Int×Value):=(L.map (·.2)).toArray
def Rise(L:List Ent):Prop:=L.Pairwise fun a b=>a.1 < b.1
theorem znr{xs:Array Nat}{j c:Nat}(h:∀ i (hi:i < xs.size),xs[i] < j↔i < c):∀ (fuel lo hi:Nat),lo<=c->c<=hi->hi<=xs.size->hi<=fuel+lo->below.go xs j fuel lo hi=c:=by
 intro fuel
 induction fuel with
 | zero=>exact fun lo hi h1 h2 uA h4=>dO h1 (ai h2 (bC lo ▸ h4))
 | succ fuel ih=>
   intro lo hi h1 h2 h3 h4;show (if lo < hi then (if xs.getD ((lo+hi) / 2) j < j then below.go xs j fuel ((lo+hi) / 2+1) hi else below.go xs j fuel lo ((lo+hi) / 2)) else lo)=c;by_cases hl:lo < hi
   ·have a1:lo<=(lo+hi) / 2:=by lia
    have a2:(lo+hi) / 2 < hi:=by lia
    generalize (lo+hi) / 2=m at a1 a2;have hm:m < xs.size:=cf a2 h3;have e:xs.getD m j=xs[m]:=by rw[bE,bf hm];rfl
    rw[af hl,e];by_cases hx:xs[m] < j
    ·rw[af hx];exact ih _ hi ((h _ hm).mp hx) h2 h3 (ai h4 (by lia))
    ·rw[ak hx];exact ih lo _ h1 (eE fun q=>hx ((h _ hm).mpr q)) (cG hm) (bU (cf a2 (Nat.succ_add fuel lo ▸ h4)))
   ·rw[ak hl];exact dO h1 (ai h2 (eE hl))
theorem zns{xs:Array Nat}{j c:Nat}(hc:c<=xs.size)(h:∀ i (hi:i < xs.size),xs[i] < j↔i < c):below xs j=c:=
 znr h _ _ _ (be _) hc (aH _) (aH _)
theorem jw{A B:List Ent}{j:Nat}(hA:∀ e∈A,e.1 < j)(hB:∀ e∈B,j<=e.1):below (places (A++B)) j=A.length:=by
 refine zns (by simp[places]) fun i hi=>?_;have hs:i < (A++B).length:=by simpa [places] using hi
 have e:(places (A++B))[i]=((A++B)[i]).1:=by
  apply aN;rw[<- bf hi];unfold places;rw[List.getElem?_toArray,aU,au hs];rfl
 rw[e];by_cases h:i < A.length
 ·rw[List.getElem_append_left h];exact⟨fun uA=>h,fun uA=>hA _ (dA _)⟩
 ·rw[List.getElem_append_right (by lia)];have:=hB _ (dA (l:=B) (n:=i - A.length) (by simp at hs;lia));constructor
  ·intro q;lia
  ·intro q;lia
theorem wg(j:Nat):∀ (L:List Ent),Rise L->∃ A B,L=A++B/\(∀ e∈A,e.1 < j)/\∀ e∈B,j<=e.1
 | [],_=>⟨[],[],rfl,fun uA h=>(nomatch h),fun uA h=>(nomatch h)⟩
 | x::L,h=>by
   have h':Rise L:=(aG.mp h).2;by_cases hx:x.1 < j
   ·refine fL (wg j L h') fun A B eO h1 h2=>?_;subst eO;exact⟨x::A,B,rfl,fun e he=>by
     refine fx (ag.mp he) ?_ ?_
     ·rintro rfl;exact hx
     ·intro he;exact h1 e he,h2⟩
   ·refine fK [] (x::L) rfl (fun uA h=>(nomatch h)) (fun e he=>?_);refine fx (ag.mp he) ?_ ?_
    ·rintro rfl;lia
    ·intro he;have:=(aG.mp h).1 e he;lia
structure jx(t:SetTable)(m:Nat)(ld:Bool)(L:List Ent):Prop where
 mask:t.mask=m
 place:t.place=places L
 dummies:t.dummies = #[]
 led:t.led=ld
 plain:t.plain=true
theorem zb5{t:SetTable}{m:Nat}{ld:Bool}{A B:List Ent}{e:Ent}(ht:jx t m ld (A++e::B))(hr:Rise (A++e::B)):t.slot e.1=.live A.length:=by
 have hA:∀ x∈A,x.1 < e.1:=fun x hx=>(bF.mp hr).2.2 x hx e am;have hB:∀ x∈e::B,e.1<=x.1:=fun x hx=>by
  refine fx (ag.mp hx) ?_ ?_
  ·rintro rfl;exact aH _
  ·intro hx;exact cG ((aG.mp (bF.mp hr).2.1).1 x hx)
 unfold slot;rw[ht.place,jw hA hB];dsimp only;rw[af];simp[places]
theorem zgd{t:SetTable}{m:Nat}{ld:Bool}{L:List Ent}{j:Nat}(ht:jx t m ld L)(hr:Rise L)(hj:∀ e∈L,e.1≠j):t.slot j=.empty:=by
 refine fL (wg j L hr) fun A B eO hA hB=>?_;subst eO;unfold slot;rw[ht.place,jw hA hB,ht.dummies];dsimp only;have h1:((places (A++B))[A.length]? == some j)=false:=by
  cases B with
  | nil=>simp[places]
  | cons b B=>
    have:(places (A++b::B))[A.length]?=some b.1:=by simp[places]
    rw[this];have hb:=hj b (by simp);simpa using hb
 rw[ak (by rw[h1];decide)];have h2:has #[] j=false:=by simp[has]
 rw[ak (by rw[h2];decide)]
theorem zrt{t:SetTable}{m:Nat}{ld:Bool}{L:List Ent}{j:Nat}(ht:jx t m ld L)(hr:Rise L)(hj:∀ e∈L,e.1≠j)(h:Int)(x:Value):∃ A B,L=A++B/\(t.put j).2=A.length/\jx (t.put j).1 m ld (A++(j,h,x)::B)/\Rise (A++(j,h,x)::B) /\
 insertAt (elems L) A.length (h,x)=elems (A++(j,h,x)::B):=by
 refine fL (wg j L hr) fun A B eO hA hB=>?_;subst eO;have hB':∀ e∈B,j < e.1:=fun e he=>Nat.lt_of_le_of_ne (hB e he) (fun q=>hj e (aq _ he) q.symm);have ins:∀ {α:Type} (f:Ent->α) (z:α),insertAt ((A++B).map f).toArray A.length z=(A.map f++z::B.map f).toArray:=by
  intro α f z;unfold insertAt;apply Array.toList_inj.mp;simp;exact cE (by simp)
 refine⟨A,B,rfl,?_,⟨ht.mask,?_,?_,ht.led,ht.plain⟩,?_,?_⟩
 ·unfold put;dsimp only;rw[ht.place,jw hA hB]
 ·unfold put;dsimp only;rw[ht.place,jw hA hB];unfold places;rw[ins];simp
 ·unfold put;dsimp only;rw[ht.dummies];rfl
 ·refine bF.mpr ⟨(bF.mp hr).1,aG.mpr ⟨hB',(bF.mp hr).2.1⟩,fun a ha b hb=>?_⟩;refine fx (ag.mp hb) ?_ ?_
  ·rintro rfl;exact hA a ha
  ·intro hb;exact (bF.mp hr).2.2 a ha b hb
 ·unfold elems;rw[ins];simp
noncomputable def advM(m:Nat)(p:Probe):Probe:=
 if p.more > 0 then { p with j:=p.j+1,more:=p.more - 1 } else
 { p with j:=(leap m p.i p.perturb).1,more:=runEnd m (leap m p.i p.perturb).1 - (leap m p.i p.perturb).1,i:=(leap m p.i p.perturb).1,perturb:=(leap m p.i p.perturb).2 }
theorem zhm(t:SetTable)(p:Probe):t.advance p=advM t.mask p:=by unfold advance advM;split <;> rfl
noncomputable def lp(m i pt:Nat):Probe:={ j:=i,more:=runEnd m i - i,i:=i,perturb:=pt,dummy:=none }
noncomputable def advN(m:Nat):Nat->Probe->Probe
 | 0,p=>p
 | n+1,p=>advN m n (advM m p)
theorem x7(m:Nat):∀ (a b:Nat) (p:Probe),advN m (a+b) p=advN m b (advN m a p)
 | 0,b,p=>by rw[bC];rfl
 | a+1,b,p=>by rw[Nat.succ_add];exact x7 m a b (advM m p)
theorem zbg(m:Nat):∀ (k:Nat) (p:Probe),k<=p.more->advN m k p = { p with j:=p.j+k,more:=p.more - k }
 | 0,p,_=>rfl
 | k+1,p,h=>by
   rw[advN,zbg m k _ (by unfold advM;rw[af (by lia)];show k<=p.more - 1;lia)];unfold advM;rw[af (by lia)];simp only[Probe.mk.injEq];refine⟨by lia,by lia,trivial,trivial,trivial⟩
theorem uz(m:Nat)(p:Probe)(hd:p.dummy=none):advN m (p.more+1) p=lp m (leap m p.i p.perturb).1 (leap m p.i p.perturb).2:=by
 rw[x7,zbg m _ _ (aH _)];show advM m _=_;unfold advM lp;rw[ak (by show ¬ (p.more - p.more > 0);lia)];simp[hd]
theorem more_le{m i:Nat}:runEnd m i - i<=9:=by unfold runEnd;split <;> lia
noncomputable def lpN(m:Nat):Nat->Nat×Nat->Nat×Nat
 | 0,x=>x
 | q+1,x=>lpN m q (leap m x.1 x.2)
theorem zib(m:Nat):∀ (a b:Nat) (x:Nat×Nat),lpN m (a+b) x=lpN m b (lpN m a x)
 | 0,b,x=>by rw[bC];rfl
 | a+1,b,x=>by rw[Nat.succ_add];exact zib m a b _
theorem zqe(m:Nat):∀ (q i pt:Nat),∃ n,n<=10 * q/\advN m n (lp m i pt)=lp m (lpN m q (i,pt)).1 (lpN m q (i,pt)).2
 | 0,i,pt=>⟨0,aH _,rfl⟩
 | q+1,i,pt=>by
   refine fC (zqe m q (leap m i pt).1 (leap m i pt).2) fun n h1 h2=>?_;refine fD ((lp m i pt).more+1+n) ?_ ?_
   ·have:(lp m i pt).more<=9:=more_le;lia
   ·rw[x7,uz m _ rfl];exact h2
theorem zlv(m:Nat):∀ (q i pt:Nat),(lpN m q (i,pt)).2=pt / 32 ^ q
 | 0,i,pt=>by simp[lpN]
 | q+1,i,pt=>by
   show (lpN m q ((leap m i pt).1,(leap m i pt).2)).2=_;rw[zlv m q];show pt / 32 / 32 ^ q=_;rw[Nat.div_div_eq_div_mul,Nat.pow_succ,Nat.mul_comm]
theorem zlw(m:Nat):∀ (q i pt:Nat),i<=m->(lpN m q (i,pt)).1<=m
 | 0,i,pt,h=>h
 | q+1,i,pt,h=>zlw m q _ _ (by show (i * 5+1+pt / 32) % (m+1)<=m;have:=Nat.mod_lt (i * 5+1+pt / 32) (show 0 < m+1 by exact Nat.succ_pos _);exact Nat.le_of_lt_succ (by assumption))
noncomputable def full(m:Nat):Bool:=(List.range (m+1)).all fun i=>(List.range (m+1)).all fun j=>(List.range (m+1)).any fun q=>(lpN m q (i,0)).1 == j
theorem zu8:full 7=true:=by decide +kernel
theorem zmo:full 31=true:=by decide +kernel
theorem zan{m:Nat}(hf:full m=true){i pt j:Nat}(hi:i<=m)(hp:pt < 2 ^ 64)(hj:j<=m):∃ q,q<=13+m/\(lpN m q (i,pt)).1=j:=by
 have h0:(lpN m 13 (i,pt)).2=0:=by rw[zlv];exact Nat.div_eq_of_lt (cf hp (by decide))
 have h1:=zlw m 13 i pt hi;unfold full at hf;have h2:=aV.mp (aV.mp hf _ (aZ.mpr (cS h1))) j (aZ.mpr (cS hj));refine fC (List.any_eq_true.mp h2) fun q hq h3=>?_;rw[aZ] at hq;refine fD (13+q) (by lia) ?_;rw[zib];have:lpN m 13 (i,pt)=((lpN m 13 (i,pt)).1,0):=Prod.ext rfl h0;rw[this];exact aQ.mp h3
structure Stand(m:Nat)(p:Probe):Prop where
 d:p.dummy=none
 i:p.i<=m
 pt:p.perturb < 2 ^ 64
 more:p.more<=9
theorem ziz(h:Int):bits h < 2 ^ 64:=by
 unfold bits;have h1:0<=h % (2 ^ 64:Int):=Int.emod_nonneg _ (by decide);have h2:h % (2 ^ 64:Int) < 2 ^ 64:=Int.emod_lt_of_pos _ (by decide);lia
theorem Stand.lp{m i pt:Nat}(hi:i<=m)(hp:pt < 2 ^ 64):Stand m (lp m i pt):=⟨rfl,hi,hp,more_le⟩
theorem Stand.adv{m:Nat}{p:Probe}(h:Stand m p):Stand m (advM m p):=by
 unfold advM;split
 ·exact⟨h.d,h.i,h.pt,by show p.more - 1<=9;have:=h.more;lia⟩
 ·refine⟨h.d,?_,?_,more_le⟩
  ·show (p.i * 5+1+p.perturb / 32) % (m+1)<=m;have:=Nat.mod_lt (p.i * 5+1+p.perturb / 32) (show 0 < m+1 by exact Nat.succ_pos _);exact Nat.le_of_lt_succ (by assumption)
  ·show p.perturb / 32 < 2 ^ 64;have:=h.pt;lia
theorem Stand.advN{m:Nat}:∀ (n:Nat) {p:Probe},Stand m p->Stand m (advN m n p)
 | 0,_,h=>h
 | n+1,_,h=>Stand.advN n h.adv
theorem meets{m:Nat}(hf:full m=true){p:Probe}(hp:Stand m p){j:Nat}(hj:j<=m):∃ n,n < 10 * turns m/\(advN m n p).j=j:=by
 have hl:(leap m p.i p.perturb).1<=m:=by
  show (p.i * 5+1+p.perturb / 32) % (m+1)<=m;have:=Nat.mod_lt (p.i * 5+1+p.perturb / 32) (show 0 < m+1 by exact Nat.succ_pos _);exact Nat.le_of_lt_succ (by assumption)
 have h2:(leap m p.i p.perturb).2 < 2 ^ 64:=by
  show p.perturb / 32 < 2 ^ 64;have:=hp.pt;lia
 refine fC (zan hf hl h2 hj) fun q hq e=>?_;refine fC (zqe m q (leap m p.i p.perturb).1 (leap m p.i p.perturb).2) fun n hn en=>?_;refine fD (p.more+1+n) ?_ ?_
 ·have:=hp.more;unfold turns;lia
 ·rw[x7,uz m p hp.d,en];exact e
theorem nodup_le:∀ {l l':List Nat},l.Nodup->(∀ x∈l,x∈l')->l.length<=l'.length
 | [],_,_,_=>be _
 | a::l,l',hn,hs=>by
   refine fH (bw.mp hn) fun h1 h2=>?_;have:=nodup_le (l':=l'.erase a) h2 fun x hx=>(List.mem_erase_of_ne (fun e=>h1 (by rw[<- e];exact hx))).mpr (hs x (ah _ hx));rw[List.length_erase_of_mem (hs a am)] at this;have hp:0 < l'.length:=List.length_pos_of_mem (hs a am);rw[aR];lia
def FirstFree(L:List Ent)(m n:Nat)(p:Probe):Prop:=(∀ e∈L,e.1≠(advN m n p).j)/\∀ k,k < n->∃ e∈L,e.1=(advN m k p).j
theorem zjz{L:List Ent}{m:Nat}(hf:full m=true)(hl:L.length<=m){p:Probe}(hp:Stand m p):∃ n,n < 10 * turns m/\FirstFree L m n p:=by
 have hfree:∃ j,j<=m/\∀ e∈L,e.1≠j:=by
  refine cg fun hn=>?_;have hall:∀ j,j∈List.range (m+1)->j∈L.map (·.1):=fun j hj=>by
   refine cg fun hc=>hn ⟨j,Nat.lt_succ_iff.mp (aZ.mp hj),fun e he q=>hc (az.mpr ⟨e,he,q⟩)⟩
  have:=nodup_le List.nodup_range hall;simp at this;lia
 refine fC hfree ?_;clear hfree;intro j hj hfr;refine fC (meets hf hp hj) fun n hn e=>?_;have key:∀ n,(∀ e∈L,e.1≠(advN m n p).j)->∃ k,k<=n/\FirstFree L m k p:=by
  intro n
  induction n using Nat.strongRecOn with
  | ind n ih=>
    intro h;by_cases hx:∃ k,k < n/\∀ e∈L,e.1≠(advN m k p).j
    ·refine fC hx ?_;clear hx;intro k hk h';refine fC (ih k hk h') fun k' h1 h2=>?_;exact fD k' (by lia) h2
    ·refine fJ n (aH _) h (fun k hk=>?_);refine cg fun hc=>hx ⟨k,hk,fun e he q=>hc ⟨e,he,q⟩⟩
 refine fC (key n (by rw[e];exact hfr)) fun k h1 h2=>?_;exact fD k (by exact Nat.lt_of_le_of_lt (by assumption) (by assumption)) h2
noncomputable def yv(m:Nat)(h:Int):Probe:=lp m (bits h % (m+1)) (bits h)
theorem zd9(m:Nat)(h:Int):Stand m (yv m h):=.lp (by have:=Nat.mod_lt (bits h) (show 0 < m+1 by exact Nat.succ_pos _);exact Nat.le_of_lt_succ (by assumption)) (ziz h)
def Reach(L:List Ent)(m:Nat):Prop:=∀ e∈L,∃ n,(advN m n (yv m e.2.1)).j=e.1/\∀ k,k < n->∃ e'∈L,e'.1=(advN m k (yv m e.2.1)).j
theorem Reach.before{L:List Ent}{m n:Nat}{e:Ent}(hr:Reach L m)(he:e∈L)(hf:FirstFree L m n (yv m e.2.1)):∃ k,k < n/\(advN m k (yv m e.2.1)).j=e.1:=by
 refine fC (hr e he) fun k h1 h2=>?_;refine fD k ?_ h1;rcases Nat.lt_trichotomy k n with h | h | h
 ·exact h
 ·subst h;exact absurd h1.symm (hf.1 e he)
 ·refine fC (h2 n h) fun e' he' h3=>?_;exact absurd h3 (hf.1 e' he')
theorem Reach.put{A B:List Ent}{m n:Nat}{h:Int}{x:Value}(hr:Reach (A++B) m)(hf:FirstFree (A++B) m n (yv m h)):Reach (A++((advN m n (yv m h)).j,h,x)::B) m:=by
 have sub:∀ e∈A++B,e∈A++((advN m n (yv m h)).j,h,x)::B:=fun e he=>by
  refine fx (aj.mp he) ?_ ?_
  ·intro he;exact aC _ he
  ·intro he;exact aq _ (ah _ he)
 have old:∀ e∈A++B,∃ n',(advN m n' (yv m e.2.1)).j=e.1/\∀ k,k < n'->∃ e'∈A++((advN m n (yv m h)).j,h,x)::B,e'.1=(advN m k (yv m e.2.1)).j:=fun e he=>by
  refine fC (hr e he) fun k h1 h2=>?_;exact fD k h1 (fun i hi=>let ⟨e',he',q⟩:=h2 i hi;⟨e',sub e' he',q⟩)
 intro e he;refine fx (aj.mp he) ?_ ?_
 ·intro he;exact old e (aC _ he)
 ·intro he;refine fx (ag.mp he) ?_ ?_
  ·rintro rfl;exact fD n rfl (fun k hk=>let ⟨e',he',q⟩:=hf.2 k hk;⟨e',sub e' he',q⟩)
  ·intro he;exact old e (aq _ he)
section
variable{m:Nat}{owner:Array (Option Nat)}
def Fr(owner:Array (Option Nat))(j:Nat):Prop:=owner[j]?=some none
def Oc(owner:Array (Option Nat))(j:Nat):Prop:=∃ i,owner[j]?=some (some i)
theorem zrr{i:Nat}(hi:i<=m):runEnd m i<=m:=by unfold runEnd;split <;> assumption
theorem zlc{i:Nat}:i<=runEnd m i:=by unfold runEnd;split <;> lia
theorem uu(hs:owner.size=m+1){j:Nat}(hj:j<=m):((owner.getD j (some 0)).isNone=true/\Fr owner j)\/((owner.getD j (some 0)).isNone=false/\Oc owner j):=by
 have hl:j < owner.size:=by lia
 have e:owner[j]?=some owner[j]:=bf hl;rw[bE];unfold Fr Oc;rw[e]
 cases owner[j] with
 | none=>exact .inl ⟨rfl,rfl⟩
 | some i=>exact .inr ⟨rfl,i,rfl⟩
theorem zpb(hs:owner.size=m+1):∀ (fuel i pt q:Nat),i<=m->q < fuel->Fr owner (lpN m q (i,pt)).1->∃ n,layClean.free m owner fuel i pt=some (advN m n (lp m i pt)).j/\Fr owner (advN m n (lp m i pt)).j/\∀ k,k < n->Oc owner (advN m k (lp m i pt)).j:=by
 intro fuel
 induction fuel with
 | zero=>exact fun uA uA uA uA h=>absurd h (cL _)
 | succ fuel ih=>
   intro i pt q hi hq hfr;have hin:∀ k,k < runEnd m i - i+1->i+k<=m:=fun k hk=>ai (Nat.add_le_add_left (bU hk) i) (ai (bX (Nat.add_sub_of_le zlc)) (zrr hi));have ef:layClean.free m owner (fuel+1) i pt=((List.range (runEnd m i+1 - i)).find? fun k=>(owner.getD (i+k) (some 0)).isNone).elim (layClean.free m owner fuel (leap m i pt).1 (leap m i pt).2) (fun k=>some (i+k)):=by
    show (match (List.range (runEnd m i+1 - i)).find? fun k=>(owner.getD (i+k) (some 0)).isNone with | some k=>some (i+k) | none=>layClean.free m owner fuel (leap m i pt).1 (leap m i pt).2)=_
    cases (List.range (runEnd m i+1 - i)).find? fun k=>(owner.getD (i+k) (some 0)).isNone <;> rfl
   rw[ef,Nat.succ_sub zlc];clear ef;have hr:(lp m i pt).more=runEnd m i - i:=rfl;generalize runEnd m i - i=r at hin hr;have e:∀ k,k<=r->(advN m k (lp m i pt)).j=i+k:=fun k hk=>by
    rw[zbg m k _ (hr ▸ hk)];rfl
   cases hfind:(List.range (r+1)).find? fun k=>(owner.getD (i+k) (some 0)).isNone with
   | some k=>
     refine fI (List.find?_range_eq_some.mp hfind) fun h1 h2 h3=>?_;have h2:=aZ.mp h2;refine fJ k (bR some (e k (bU h2)).symm) ?_ (fun k' hk'=>?_)
     ·rw[e k (bU h2)];refine fx (uu hs (hin k h2)) ?_ ?_
      ·intro h;exact h.2
      ·intro h;exact absurd (h1.symm.trans h.1) nofun
     ·have h4:=Nat.lt_trans hk' h2;rw[e k' (bU h4)];refine fx (uu hs (hin k' h4)) ?_ ?_
      ·intro h;have:=h3 k' hk';rw[h.1] at this;contradiction
      ·intro h;exact h.2
   | none=>
     have hall:∀ k,k < r+1->Oc owner (i+k):=fun k hk=>
      (uu hs (hin k hk)).elim (fun h=>absurd h.1 (List.find?_eq_none.mp hfind k (aZ.mpr hk))) (·.2)
     cases q with
     | zero=>
       refine fG (hall 0 (eg _)) fun i' h=>?_;exact absurd ((show owner[i]?=some none from hfr).symm.trans h) nofun
     | succ q=>
       refine fN (ih (leap m i pt).1 (leap m i pt).2 q (bU (Nat.mod_lt _ (eg m))) (dU hq) hfr) fun n h1 h2 h3=>?_;have e':∀ k,advN m (r+1+k) (lp m i pt)=advN m k (lp m (leap m i pt).1 (leap m i pt).2):=fun k=>by
        rw[<- hr,x7,uz m _ rfl];rfl
       refine fJ (r+1+n) ?_ ?_ (fun k hk=>?_)
       ·rw[e'];exact h1
       ·rw[e'];exact h2
       ·by_cases hk':k < r+1
        ·rw [e k (bU hk')];exact hall k hk'
        ·refine fG (Nat.exists_eq_add_of_le (eE hk')) fun k' eN=>?_;subst eN;rw [e'];exact h3 k' (Nat.lt_of_add_lt_add_left hk)
end
structure Own(m:Nat)(owner:Array (Option Nat))(hs:List Int)(js:List Nat):Prop where
 size:owner.size=m+1
 len:js.length=hs.length
 nd:js.Nodup
 at_:∀ (j i:Nat),owner[j]?=some (some i)↔js[i]?=some j
 le:∀ j∈js,j<=m
 way:∀ (i:Nat) (h:Int) (j:Nat),hs[i]?=some h->js[i]?=some j->∃ n,(advN m n (yv m h)).j=j/\∀ k,k < n->Oc owner (advN m k (yv m h)).j
theorem zl0{m:Nat}(hf:full m=true){owner:Array (Option Nat)}{hs:List Int}{js:List Nat}(o:Own m owner hs js)(hl:hs.length<=m)(h:Int) :
 ∃ j,layClean.free m owner (turns m) (bits h % (m+1)) (bits h)=some j/\Own m (owner.setIfInBounds j (some hs.length)) (hs++[h]) (js++[j]):=by
 have hi:bits h % (m+1)<=m:=by have:=Nat.mod_lt (bits h) (show 0 < m+1 by exact Nat.succ_pos _);exact Nat.le_of_lt_succ (by assumption)
 have hfree:∃ j,j<=m/\j∉js:=by
  refine cg fun hn=>?_;have:=nodup_le (l:=List.range (m+1)) (l':=js) List.nodup_range fun x hx=>by
   refine cg fun hc=>hn ⟨x,by have:=aZ.mp hx;exact Nat.le_of_lt_succ (by assumption),hc⟩
  rw[List.length_range,o.len] at this;lia
 refine fC hfree fun j0 hj0 hn0=>?_;have hfr0:Fr owner j0:=by
  have hlt:j0 < owner.size:=by rw[o.size];exact Nat.lt_succ_of_le (by assumption)
  have e:owner[j0]?=some owner[j0]:=bf hlt;unfold Fr;rw[e]
  cases hx:owner[j0] with
  | none=>rfl
  | some i=>
    rw[hx] at e;exact absurd (ay ((o.at_ j0 i).mp e)) hn0
 refine fC (zan hf hi (ziz h) hj0) fun q hq eq=>?_;refine fN (zpb o.size (turns m) (bits h % (m+1)) (bits h) q hi (by unfold turns;lia) (by rw[eq];exact hfr0)) fun n h1 h2 h3=>?_;generalize hj:(advN m n (lp m (bits h % (m+1)) (bits h))).j=j at h1 h2;have hjlt:j < owner.size:=by
  unfold Fr at h2;exact (Array.getElem?_eq_some_iff.mp h2).1
 have hjn:j∉js:=fun hm=>by
  refine fG (ch hm) fun i hi'=>?_;have:=(o.at_ j i).mpr hi';unfold Fr at h2;rw[h2] at this;injection this with fu;contradiction
 have grow:∀ k,Oc owner k->Oc (owner.setIfInBounds j (some hs.length)) k:=fun k ⟨i,hk⟩=>by
  by_cases e:j=k
  ·subst e;exact fz hs.length (by rw[Array.getElem?_setIfInBounds_self,af hjlt])
  ·exact fz i (by rw[Array.getElem?_setIfInBounds_ne e];exact hk)
 refine fD j h1 ?_;constructor
 ·rw[Array.size_setIfInBounds];exact o.size
 ·simp[o.len]
 ·exact bT.mpr ⟨o.nd,by simp,fun a ha b hb=>by rw[ae.mp hb];rintro rfl;exact hjn ha⟩
 ·intro k i;by_cases e:j=k
  ·subst e;rw[Array.getElem?_setIfInBounds_self,af hjlt];constructor
   ·intro q;injection q with fu;injection fu with fu;subst fu;rw[<- o.len];simp
   ·intro q;by_cases hi':i < js.length
    ·rw[aJ hi'] at q;exact absurd (ay q) hjn
    ·have:i=js.length:=by
      have:=(aE.mp q).1;simp at this;lia
     subst this;rw[o.len]
  ·rw[Array.getElem?_setIfInBounds_ne e,o.at_];constructor
   ·intro q;have:=(aE.mp q).1;rw[aJ this];exact q
   ·intro q;by_cases hi':i < js.length
    ·rw[aJ hi'] at q;exact q
    ·have:i=js.length:=by
      have:=(aE.mp q).1;simp at this;lia
     subst this;simp at q;exact absurd q e
 ·intro k hk;refine fx (aj.mp hk) ?_ ?_
  ·intro hk;exact o.le k hk
  ·intro hk;rw[ae.mp hk];have:=o.size;lia
 ·intro i h' j' e1 e2;by_cases hi':i < js.length
  ·rw[aJ hi'] at e2;rw[aJ (by rw[<- o.len];exact hi')] at e1;refine fC (o.way i h' j' e1 e2) fun n' q1 q2=>?_;exact fD n' q1 (fun k hk=>grow _ (q2 k hk))
  ·have:i=js.length:=by
    have:=(aE.mp e2).1;simp at this;lia
   subst this;rw[aI (aH _),cH] at e2;rw[o.len,aI (aH _),cH] at e1;injection e1 with fu;subst fu;injection e2 with fu;subst fu
   exact fD n hj (fun k hk=>grow _ (h3 k hk))
theorem lay_all{m:Nat}(hf:full m=true):∀ (rest hs:List Int) (owner:Array (Option Nat)) (js:List Nat),Own m owner hs js->hs.length+rest.length<=m ->
 ∃ owner' js',rest.foldl (init:=some (owner,hs.length)) (fun acc h=>do
  let (owner,k) <- acc
  let j <- layClean.free m owner (turns m) (bits h % (m+1)) (bits h)
  pure (owner.setIfInBounds j (some k),k+1))=some (owner',hs.length+rest.length)/\Own m owner' (hs++rest) js'
 | [],hs,owner,js,o,_=>⟨owner,js,rfl,by rw[bc];exact o⟩
 | h::rest,hs,owner,js,o,hl=>by
   rw[aR] at hl;refine fC (zl0 hf o (by lia) h) fun j h1 h2=>?_;refine fR (lay_all hf rest (hs++[h]) _ _ h2 (by simp;lia)) fun owner' js' e o'=>?_;refine fV owner' js' ?_ (by rw[bj] at o';exact o');rw[dI];rw[ba,eo] at e;have:(do
    let (owner,k) <- some (owner,hs.length)
    let j <- layClean.free m owner (turns m) (bits h % (m+1)) (bits h)
    pure (owner.setIfInBounds j (some k),k+1))=some (owner.setIfInBounds j (some hs.length),hs.length+1):=by
    show (layClean.free m owner (turns m) (bits h % (m+1)) (bits h)).bind _=_;rw[h1];rfl
   rw[this,e,aR];congr 2;lia
theorem own0(m:Nat):Own m (Array.replicate (m+1) none) [] [] where
 size:=by simp
 len:=rfl
 nd:=List.nodup_nil
 at_:=fun j i=>by
  constructor
  ·intro q;rw[Array.getElem?_replicate] at q;split at q <;> cases q
  ·intro q;simp at q
 le:=fun uA h=>nomatch h
 way:=fun i h j e=>by simp at e
theorem zjc{ld:Bool}{t:SetTable}{m wanted:Nat}{es:Array (Int×Value)}(hf:full m=true)(hm:sizeAbove wanted - 1=m)(hl:es.size<=m)(hled:t.led=ld)(hplain:t.plain=true) :
 ∃ t' order L,t.relaid (es.map (·.1)) wanted=some (t',order)/\order.filterMap (es[·]?)=elems L/\L.length=es.size/\jx t' m ld L/\Rise L/\Reach L m/\(∀ e∈L,e.1<=m)/\(∀ p,(∃ e∈L,e.2=p)↔p∈es):=by
 refine fR (lay_all hf (es.toList.map (·.1)) [] _ _ (own0 m) (by simp;exact hl)) fun owner js e1 o=>?_;rw[List.nil_append] at o;have hn:js.length=es.size:=by rw[o.len];simp
 have elay:layClean m (es.map (·.1))=some owner:=by
  unfold layClean;have:(es.map (·.1))=(es.toList.map (·.1)).toArray:=by apply Array.toList_inj.mp;simp
  rw[this,<- Array.foldl_toList];rw[List.toList_toArray];rw[show (0:Nat)=([]:List Int).length from rfl,e1];rfl
 let live:=(List.range (m+1)).filterMap fun j=>(owner.getD j none).map (j,·)
 have mem_live:∀ j i,(j,i)∈live↔js[i]?=some j:=fun j i=>by
  rw[<- o.at_];simp only[live,List.mem_filterMap,aZ];constructor
  ·rintro⟨k,hk,e⟩;rw[bE,bf (by rw[o.size];exact hk)] at e;simp only[Option.getD_some,aD,Prod.mk.injEq] at e;refine fN e ?_;clear e;intro i' h1 eO eP;subst eO;subst eP;rw[bf (by rw[o.size];exact hk),h1]
  ·intro q;have hk:=(Array.getElem?_eq_some_iff.mp q).1;refine fD j (by rw[<- o.size];exact hk) ?_;rw[bE,q];rfl
 have idx_lt:∀ j i,(j,i)∈live->i < es.size:=fun j i h=>by
  have:=(aE.mp ((mem_live j i).mp h)).1;lia
 let entOf:Nat×Nat->Ent:=fun x=>(x.1,es.getD x.2 (0,.none))
 have get_es:∀ i,i < es.size->es[i]?=some (es.getD i (0,.none)):=fun i hi=>by
  rw[bE,bf hi];rfl
 have rise_live:live.Pairwise fun a b=>a.1 < b.1:=by
  refine List.Pairwise.filterMap _ ?_ List.pairwise_lt_range;intro a b hab x hx y hy;simp only[aD] at hx hy;refine fC hx ?_;clear hx;intro _ _ eO;subst eO;refine fC hy ?_;clear hy;intro _ _ eO;subst eO;exact hab
 have len_live:live.length=es.size:=by
  have nd1:(live.map (·.1)).Nodup:=by
   refine List.Pairwise.imp (R:=(· < ·)) (fun h=>a8 h) (List.pairwise_map.mpr rise_live)
  have a1:=nodup_le nd1 (l':=js) fun x hx=>by
   refine fC (az.mp hx) fun p hp eO=>?_;subst eO;exact ay ((mem_live p.1 p.2).mp hp)
  have a2:=nodup_le o.nd (l':=live.map (·.1)) fun x hx=>by
   refine fG (ch hx) fun i hi=>?_;exact az.mpr ⟨(x,i),(mem_live x i).mpr hi,rfl⟩
  rw[aL] at a1 a2;lia
 refine⟨{ mask:=m,place:=(live.map (·.1)).toArray,dummies:=#[],finger:=t.finger,led:=t.led,moves:=t.movedTo m,plain:=t.plain },(live.map (·.2)).toArray,live.map entOf,?_,?_,by rw[aL,len_live],⟨rfl,?_,rfl,hled,hplain⟩,?_,?_,?_,?_⟩
 ·unfold relaid laid;rw[hm,elay];rfl
 ·-- the order
  unfold elems;show Array.filterMap (fun x=>es[x]?) (live.map (·.2)).toArray=_;rw[List.filterMap_toArray,cI,List.filterMap_map];congr 1;have:∀ l:List (Nat×Nat),(∀ x∈l,x∈live)->l.filterMap ((fun x=>es[x]?)∘fun x=>x.2)=l.map ((fun x=>x.2)∘entOf):=by
   intro l
   induction l with
   | nil=>intro _;rfl
   | cons x l ih=>
     intro hx;rw[eI,a6];have e9:((fun x=>es[x]?)∘fun x:Nat×Nat=>x.2) x=some (es.getD x.2 (0,.none)):=get_es x.2 (idx_lt x.1 x.2 (hx x am));rw[e9];dsimp only;rw[ih fun y hy=>hx y (ah _ hy)];rfl
  exact this live fun uA h=>h
 ·unfold places;rw[cI];rfl
 ·exact List.pairwise_map.mpr rise_live
 ·intro e he;refine fC (az.mp he) fun x hx eO=>?_;subst eO;have hx':=(mem_live x.1 x.2).mp hx;have hlt:=idx_lt x.1 x.2 hx;obtain⟨n,h1,h2⟩:=o.way x.2 (es.getD x.2 (0,.none)).1 x.1 (by
   rw[aU,aT,get_es x.2 hlt];rfl) hx'
  refine fD n h1 (fun k hk=>?_);refine fG (h2 k hk) fun i hi=>?_;exact fD (entOf ((advN m k (yv m (es.getD x.2 (0,.none)).1)).j,i)) (az.mpr ⟨_,(mem_live _ i).mpr ((o.at_ _ i).mp hi),rfl⟩) rfl
 ·intro e he;refine fC (az.mp he) fun x hx eO=>?_;subst eO;exact o.le x.1 (ay ((mem_live x.1 x.2).mp hx))
 ·intro p;constructor
  ·rintro⟨e,he,rfl⟩;refine fC (az.mp he) fun x hx eO=>?_;subst eO;exact Array.mem_of_getElem? (get_es x.2 (idx_lt x.1 x.2 hx))
  ·intro hp;obtain⟨i,hi,e⟩:=Array.getElem_of_mem hp;have hj:i < js.length:=by lia
   refine fD (entOf (js[i],i)) (az.mpr ⟨(js[i],i),(mem_live _ _).mpr (au hj),rfl⟩) ?_;show es.getD i (0,.none)=p;rw[bE,bf hi,<- e];rfl
theorem Rise.unique{L:List Ent}(h:Rise L):∀ {e e':Ent},e∈L->e'∈L->e.1=e'.1->e=e':=by
 induction L with
 | nil=>intro e e' he;exact absurd he dB
 | cons x L ih=>
   intro e e' he he' q;refine fH (aG.mp h) fun h1 h2=>?_;refine fx (ag.mp he) ?_ ?_
   ·intro r;refine fx (ag.mp he') ?_ ?_
    ·intro r';rw[r,r']
    ·intro r';subst r;have:=h1 e' r';lia
   ·intro r;refine fx (ag.mp he') ?_ ?_
    ·intro r';subst r';have:=h1 e r;lia
    ·intro r';exact ih h2 r r' q
theorem FirstFree.next{L:List Ent}{m n:Nat}{p:Probe}(h:FirstFree L m (n+1) p):FirstFree L m n (advM m p):=
 ⟨h.1,fun k hk=>h.2 (k+1) (by exact Nat.lt_succ_of_le (by assumption))⟩
theorem FirstFree.drop{L:List Ent}{m:Nat}:∀ (k:Nat) {n:Nat} {p:Probe},FirstFree L m n p->k<=n->FirstFree L m (n - k) (advN m k p)
 | 0,n,p,h,_=>h
 | k+1,n,p,h,hk=>by
   obtain⟨n,rfl⟩ : ∃ n',n=n' + 1:=⟨n - 1,by lia⟩;have:=FirstFree.drop k h.next (by exact Nat.le_of_lt_succ (by assumption));rw[show n+1 - (k+1)=n - k by lia];exact this
theorem advM_dummy{m:Nat}{p:Probe}:(advM m p).dummy=p.dummy:=by unfold advM;split <;> rfl
theorem zqj{t:SetTable}{hashAt:Nat->Int}{h:Int}{fuel:Nat}{p:Probe}{x:Slot}(hs:t.slot p.j=x):probe.go t hashAt h (fuel+1) p=match (generalizing:=false) x with
 | .empty=>some (.empty p.j p.dummy)
 | .dummy=>probe.go t hashAt h fuel (t.advance { p with dummy:=some p.j })
 | .live i=>if hashAt i == h then some (.candidate p.j i (t.advance p)) else probe.go t hashAt h fuel (t.advance p):=by subst hs;rfl
theorem zu6{t:SetTable}{m:Nat}{ld:Bool}{L:List Ent}(ht:jx t m ld L)(hr:Rise L){hashAt:Nat->Int}(hh:∀ (i:Nat) (e:Int×Value),(elems L)[i]?=some e->hashAt i=e.1){h:Int} :
 ∀ (fuel n:Nat) (p:Probe),n < fuel->p.dummy=none->FirstFree L m n p ->
  (∃ k A e B,k < n/\L=A++e::B/\e.1=(advN m k p).j/\e.2.1=h/\probe.go t hashAt h fuel p=some (.candidate e.1 A.length (advM m (advN m k p)))/\∀ k',k' < k->∀ e'∈L,e'.1=(advN m k' p).j->e'.2.1≠h) \/
  ((∀ k,k < n->∀ e∈L,e.1=(advN m k p).j->e.2.1≠h)/\probe.go t hashAt h fuel p=some (.empty (advN m n p).j none)):=by
 intro fuel
 induction fuel with
 | zero=>exact fun n uA hn=>absurd hn (cL _)
 | succ fuel ih=>
   intro n p hn hd hf
   cases n with
   | zero=>
     exact .inr ⟨fun k hk=>absurd hk (cL _),(zqj (zgd ht hr (fun e he=>hf.1 e he))).trans (hd ▸ rfl)⟩
   | succ n=>
     refine fC (hf.2 0 (eg n)) fun e he hej=>?_;have hej:e.1=p.j:=hej;refine fW (List.append_of_mem he) fun A B hL=>?_;have hs:t.slot p.j=.live A.length:=hej ▸ zb5 (hL ▸ ht) (hL ▸ hr);have hhe:hashAt A.length=e.2.1:=hh A.length e.2 (by rw[hL];simp[elems]);have ego:=zqj (hashAt:=hashAt) (h:=h) (fuel:=fuel) hs;dsimp only at ego;rw[zhm,ht.mask] at ego;by_cases hq:e.2.1=h
     ·have ego:=ego.trans (af (by rw[hhe,hq];exact cA _));exact .inl ⟨0,A,e,B,eg n,hL,hej,hq,hej ▸ ego,fun k' hk'=>absurd hk' (cL _)⟩
     ·have zero:∀ e'∈L,e'.1=p.j->e'.2.1≠h:=fun e' he' q=>hr.unique he' he (q.trans hej.symm) ▸ hq;have ego:=ego.trans (ak (by rw[hhe];exact fun q=>hq (aQ.mp q)));rw[ego];refine fx (ih n (advM m p) (dU hn) (advM_dummy.trans hd) hf.next) ?_ ?_
      ·rintro ⟨k,A',e',B',h1,h2,h3,h4,h5,h6⟩;refine .inl ⟨k+1,A',e',B',Nat.succ_lt_succ h1,h2,h3,h4,h5,fun k' hk'=>?_⟩
       cases k' with
       | zero=>exact zero
       | succ k'=>exact h6 k' (dU hk')
      ·rintro ⟨h1,h2⟩;refine .inr ⟨fun k hk=>?_,h2⟩
       cases k with
       | zero=>exact zero
       | succ k=>exact h1 k (dU hk)
section
variable{prog:Program}{w:World}{A:Around}{E:Value->Shared->Prop}{s:Shared}
variable(prog w) in
abbrev TK(h:Heap)(ks:List Int)(a:Addr):Prop:=IsTupleKey (intKind prog w) h ks a
variable(prog w) in
noncomputable abbrev tkh(ks:List Int):Int:=tupleKeyHash (intKind prog w) ks
variable(prog w) in
def Ents(h:Heap)(L:List Ent):Prop:=∀ e∈L,∃ a ks,e.2.2=.ref a/\TK prog w h ks a/\e.2.1=tkh prog w ks
theorem zbt(n:Nat){v:Value}(h:carriedByValue v=true):ofAClassStatement n v=pure false:=by
 cases v with
 | ref a=>simp[carriedByValue] at h
 | _=>cases n <;> rfl
theorem gr{d:Nat}{ks:List Int}{a:Addr}{Q:Bool->Shared->Prop}(hk:TK prog w s.heap ks a)(h:Q false s):wpAny (model prog w) A (ofAClassStatement (d+1) (.ref a)) Q E s:=by
 have hT:=IsTupleKey.typeIs hk;refine fE hk fun o items n ho fy hd hi=>?_;unfold ofAClassStatement;refine aa (wpAny_typeOf hT ?_);refine bH rfl (aa (ab (aO rfl ?_)));refine aa (bO ho hd (aa ?_));show wpAny _ _ (forIn items _ _) _ _ s;rw[<- Array.forIn_toList];refine wpAny_forIn_list _ (fun rest r s'=>r.1=none/\s'=s/\∀ v∈rest,carriedByValue v=true) _ ?_ ?_ _ _ ⟨rfl,rfl,hi.byValue⟩
 ·rintro v rest r s' ⟨hr,rfl,hall⟩;rw[zbt _ (hall v am)];refine aa (ab (aO rfl ?_));exact ab ⟨rfl,rfl,fun u hu'=>hall u (ah _ hu')⟩
 ·rintro⟨r1,r2⟩ s' ⟨hr,rfl,_⟩;simp only at hr;subst hr;exact ab h
theorem zoj{ks:List Int}{a:Addr}{l:List Value}{Q:Bool->Shared->Prop}(hk:TK prog w s.heap ks a)(hl:∀ y∈l,∃ b ks',y=.ref b/\TK prog w s.heap ks' b)(h:Q false s) :
 wpAny (model prog w) A (searchCouldBeSeen (.ref a) l) Q E s:=by
 unfold searchCouldBeSeen;refine aa ?_;refine wpAny_forIn_list _ (fun rest r s'=>r.1=none/\s'=s/\∀ y∈rest,∃ b ks',y=.ref b/\TK prog w s.heap ks' b) _ ?_ ?_ _ _ ⟨rfl,rfl,hl⟩
 ·rintro v rest r s' ⟨hr,rfl,hall⟩;refine fR (hall v am) fun b ks' eO hb=>?_;subst eO;have next:∀ r:Option Bool×PUnit,r.1=none->∀ y∈rest,∃ b ks',y=Value.ref b/\TK prog w s'.heap ks' b:=fun uA uA y hy=>hall y (ah _ hy)
  dsimp only;refine dJ (fun uA=>ab ⟨rfl,rfl,next (none,()) rfl⟩) fun uA=>?_;refine aa (wpAny_eqIsQuiet_tuple hk (aO rfl ?_));refine aa (wpAny_eqIsQuiet_tuple hb (aO rfl ?_));refine aa (gr hk (aO rfl ?_));refine aa (gr hb (aO rfl ?_));exact ab ⟨rfl,rfl,next (none,()) rfl⟩
 ·rintro⟨r1,r2⟩ s' ⟨hr,rfl,_⟩;simp only at hr;subst hr;exact ab h
theorem zhn{m:Nat}(n:Nat):∀ (p:Probe),(advN m n p).dummy=p.dummy:=by
 induction n with
 | zero=>exact fun uA=>rfl
 | succ n ih=>exact fun p=>(ih _).trans advM_dummy
theorem zof{α:Type}{o:Option (Int×Value)}{x:Int}{y:Value}{f:Int->Value->Sem α}{g:Sem α}{Q:α->Shared->Prop}(h:o=some (x,y))(k:wpAny (model prog w) A (f x y) Q E s) :
 wpAny (model prog w) A (match o with | some (x,y)=>f x y | none=>g) Q E s:=by subst h;exact k
theorem zk3{α:Type}{o:Option (Int×Value)}{x:Int}{y:Value}{f:Value->Sem α}{g:Sem α}{Q:α->Shared->Prop}(h:o=some (x,y))(k:wpAny (model prog w) A (f y) Q E s) :
 wpAny (model prog w) A (match o with | some (_,y)=>f y | _=>g) Q E s:=by subst h;exact k
theorem zjb{S:Addr}{o:Obj}{ep m:Nat}{t:SetTable}{ld:Bool}{L:List Ent}(ho:s.heap.get? S=some o)(hd:o.data=.set (elems L) ep t)(ht:jx t m ld L)(hr:Rise L)(hL:L.length<=m)(hodd:m % 2=1)
 (he:Ents prog w s.heap L) (hu:A.units < cLine) {a:Addr} {ks:List Int} (hk:TK prog w s.heap ks a) {Q:SetFound->Shared->Prop} (hQ1:(∃ e∈L,∃ b,e.2.2=.ref b/\TK prog w s.heap ks b)->Q (.there none) s) :
 ∀ (fuel n:Nat) (st:Option Probe) (p:Probe),st.getD (t.probeStart (tkh prog w ks))=p->n < fuel->n < 10 * turns m->p.dummy=none->FirstFree L m n p ->
  ((∀ k,k < n->∀ e∈L,e.1=(advN m k p).j->∀ b,e.2.2=.ref b->¬ TK prog w s.heap ks b)->Q (.free (advN m n p).j false) s) ->
  wpAny (model prog w) A (setSearchFrom S (.ref a) (tkh prog w ks) true fuel st) Q E s:=by
 have hfit:t.fits (elems L).size=true:=by
  simp only[SetTable.fits,SetTable.fill,ht.place,ht.dummies,ht.mask,places,elems,aM,aQ,aP];simp;exact hL
 have hgw:t.gaveWay=false:=by unfold gaveWay;rw[ht.mask,hodd];decide
 have other:∀ e∈L,e.2.1≠tkh prog w ks->∀ b,e.2.2=.ref b->¬ TK prog w s.heap ks b:=fun e heL hne b hb hkb=>by
  refine fL (he e heL) fun b' ks' e1 e2 e3=>?_;rw[hb] at e1;injection e1 with fu;subst fu
  rw[IsTupleKey.inj e2 hkb] at e3;exact hne e3
 have hseen:∀ y∈((elems L).filter (·.1 == tkh prog w ks)).toList.map (·.2),∃ b ks',y=.ref b/\TK prog w s.heap ks' b:=fun y hy=>by
  refine fC (az.mp hy) fun z hz eO=>?_;subst eO;have hz':z∈elems L:=(Array.mem_filter.mp (Array.mem_toList_iff.mp hz)).1;unfold elems at hz';rw[List.mem_toArray] at hz';refine fC (az.mp hz') fun e' he' eO=>?_;subst eO;refine fL (he e' he') fun b' ks'' q1 q2 fy=>?_;exact fV b' ks'' q1 q2
 intro fuel
 induction fuel with
 | zero=>exact fun n uA uA uA hn=>absurd hn (cL _)
 | succ fuel ih=>
   intro n st p hst hn hn' hpd hf hQ2;have hgo:=zu6 ht hr (hashAt:=fun i=>((elems L)[i]?.map (·.1)).getD 0) (fun i e he=>by rw[he];rfl) (h:=tkh prog w ks) (10 * turns t.mask) n p (by rw[ht.mask];exact hn') hpd hf;refine fx hgo ?_ ?_<;>clear hgo
   ·rintro ⟨k,A',e,B',h1,h2,h3,h4,h5,h6⟩;have heL:e∈L:=by rw[h2];simp
    refine fL (he e heL) fun b ks' e1 e2 e3=>?_;have hget:(elems L)[A'.length]?=some e.2:=by rw[h2];simp[elems]
    have hsl:t.slot e.1=.live A'.length:=zb5 (h2 ▸ ht) (h2 ▸ hr);have hle:=Nat.succ_le_of_lt h1;have hadv:advM m (advN m k p)=advN m (k+1) p:=by rw[x7];rfl
    have again:ks'≠ks->wpAny (model prog w) A (setSearchFrom S (.ref a) (tkh prog w ks) true fuel (some (advM m (advN m k p)))) Q E s:=fun hkk=>by
     refine ih (n - (k+1)) _ (advN m (k+1) p) hadv (bK (Nat.sub_le_sub_left (eg k) n) (Nat.sub_lt_left_of_lt_add (bK (be _) h1) (Nat.add_comm _ _ ▸ hn))) (bK (Nat.sub_le _ _) hn') ((zhn _ p).trans hpd) (hf.drop (k+1) hle) fun hno=>?_;rw[<- x7,Nat.add_sub_of_le hle];refine hQ2 fun i hi e' he' q=>?_;rcases Nat.lt_trichotomy i k with hik | rfl | hik
     ·exact other e' he' (h6 i hik e' he' q)
     ·rw[hr.unique he' heL (q.trans h3.symm)];intro b' hb' hkb';rw[e1] at hb';injection hb' with fu;subst fu
      exact hkk (IsTupleKey.inj e2 hkb')
     ·exact hno (i - (k+1)) (Nat.sub_lt_sub_right hik hi) e' he' (by rw[<- x7,Nat.add_sub_of_le hik];exact q)
    clear ih hQ2 hf hpd hn hn' h6 h3 h4 hadv;obtain⟨ej,eh,ev⟩:=e;have e1:ev=.ref b:=e1;subst e1;have hsm:t.sameMemory t.moves t.mask=some true:=by unfold sameMemory;rw[af (cA _)]
    have hlast:wpAny (model prog w) A (do
     if true && decide (ks'=ks) then return .there none
     let some same:=t.sameMemory t.moves t.mask | unsupported "set.changed-during-lookup:is-the-new-block-at-the-old-address"
     let still <- match (if same then t.slot ej else .empty) with
      | .live i'=>match (elems L)[i']? with
        | some (_,y')=>do pure (if <- isSame y' (.ref b) then some i' else none)
        | none=>pure none
      | _=>pure none
     match still with
     | none=>rule "set.search.anew";setSearchFrom S (.ref a) (tkh prog w ks) true fuel none
     | some i'=>if decide (ks'=ks) then return .there (some i') else setSearchFrom S (.ref a) (tkh prog w ks) true fuel (some (advM m (advN m k p)))) Q E s:=by
     rw[hsm,hsl];by_cases hkk:ks'=ks
     ·exact bH (by rw[aA hkk];rfl) (ab (hQ1 ⟨_,heL,b,rfl,hkk ▸ e2⟩))
     ·exact aO (by rw[aF hkk];rfl) (zof hget (aa (wpAny_isSame_ref_self (aa (ab (aO (by rw[aF hkk];rfl) (again hkk)))))))
    clear again hsm hsl;show wpAny _ _ (setState S >>= _) _ _ _;refine aa (bB ho hd hfit ?_);refine aO (by rw[hgw];rfl) ?_;dsimp only;rw[hst];unfold probe
    erw [h5]
    refine dJ (fun uA=>aa (zoj hk hseen (aO rfl ?_))) fun uA=>?_ <;> (refine zk3 hget ?_;exact (aa (aS (wpAny_eqBool_tuple hu e2 hk (aa (bB ho hd hfit hlast))))))
   ·rintro ⟨h1,h2⟩;show wpAny _ _ (setState S >>= _) _ _ _;refine aa (bB ho hd hfit ?_);refine aO (by rw[hgw];rfl) ?_;dsimp only;rw[hst];unfold probe
    erw [h2]
    exact ab (hQ2 fun k hk e' he' q=>other e' he' (h1 k hk e' he' q))
end
section
variable{prog:Program}{w:World}{A:Around}{E:Value->Shared->Prop}{s:Shared}
theorem zbv{ks:List Int}{a:Addr}{Q:Bool->Shared->Prop}(hk:TK prog w s.heap ks a)(h:Q true s):wpAny (model prog w) A (hashByValue 8 (.ref a)) Q E s:=by
 have hT:=IsTupleKey.typeIs hk;refine fE hk ?_;clear hk;intro o items n ho _ hd hi;have hint:∀ v∈items.toList,∃ i t,v=.int i t:=by
  generalize items.toList=l at hi
  induction hi with
  | nil=>intro v hv;simp at hv
  | @cons k v' ks vs h1 _ ih=>
    intro v hv;refine fx (ag.mp hv) ?_ ?_
    ·rintro rfl;cases v with
     | int i t=>exact fY i t rfl
     | _=>contradiction
    ·intro hv;exact ih v hv
 unfold hashByValue;refine aa (dN hT F.slot_tuple_hash.lookup ?_);dsimp only;refine aa (bO ho hd ?_);refine aa ?_;show wpAny _ _ (forIn items _ _) _ _ s;rw[<- Array.forIn_toList];refine wpAny_forIn_list _ (fun rest r s'=>r.1=none/\s'=s/\∀ v∈rest,∃ i t,v=Value.int i t) _ ?_ ?_ _ _ ⟨rfl,rfl,hint⟩
 ·rintro v rest r s' ⟨hr,rfl,hall⟩;refine fW (hall v am) fun i t eO=>?_;subst eO;have e:hashByValue 7 (.int i t)=pure true:=by first | rfl | simp[hashByValue]
  rw[e];exact aa (ab (aO rfl (ab ⟨rfl,rfl,fun u hu'=>hall u (ah _ hu')⟩)))
 ·rintro⟨r1,r2⟩ s' ⟨hr,rfl,_⟩;simp only at hr;subst hr;exact ab h
variable(prog w) in
inductive TSet(h:Heap)(S:Addr)(ld:Bool)(K:List (List Int)):Prop
 | mk (o:Obj) (ep:Nat) (t:SetTable) (m:Nat) (L:List Ent) (ho:h.get? S=some o) (hex:o.ExactSet) (hd:o.data=.set (elems L) ep t) (ht:jx t m ld L) (hr:Rise L) (hre:Reach L m) (hlen:L.length=K.length) (hnd:K.Nodup) (hent:Ents prog w h L)
   (hmem:∀ ks,ks∈K↔∃ e∈L,∃ b,e.2.2=.ref b/\TK prog w h ks b) (hm:(m=7/\L.length<=4)\/(m=31/\L.length<=18))
theorem zc6{h h':Heap}{S:Addr}{o:Obj}(ho:h.get? S=some o)(hc:o.ExactSet)(hs:Heap.SameBut S h h'){ks:List Int}{b:Addr}(hk:TK prog w h ks b):TK prog w h' ks b:=by
 refine fP hk fun o' items n ho' hc' r=>?_;refine fT o' items n ((hs.2 b fun q=>?_).trans ho') hc' r;subst q;rw[ho] at ho';injection ho' with fu;subst fu
 rw[hc.1] at hc';exact absurd hc' (by decide)
theorem zoa{h h':Heap}{S:Addr}{o':Obj}(ho:h'.get? S=some o')(hc:o'.ExactSet)(hs:Heap.SameBut S h h'){ks:List Int}{b:Addr}(hk:TK prog w h' ks b):TK prog w h ks b:=by
 refine fP hk fun o items n ho' hc' r=>?_;refine fT o items n ((hs.2 b fun q=>?_).symm.trans ho') hc' r;subst q;rw[ho] at ho';injection ho' with fu;subst fu
 rw[hc.1] at hc';exact absurd hc' (by decide)
theorem zgl(a:Addr)(wanted:Nat):setRelay a wanted=(do
 let (es,_,t) <- setState a
 if SetTable.sizeAbove wanted > sizeLine then unsupported "set:memory"
 let (es,t) <- (do
  let some (t,order):=t.relaid (es.map (·.1)) wanted | unsupported "internal:set-table-without-room"
  let es':=order.filterMap (es[·]?)
  if es'.size != es.size then unsupported "internal:set-table-lost-an-element"
  pure (es',t):Sem (Array (Int×Value)×SetTable))
 storeSet a es t):=rfl
theorem zld{S:Addr}{o:Obj}{ep:Nat}{t:SetTable}{ld:Bool}{L:List Ent}(ho:s.heap.get? S=some o)(hd:o.data=.set (elems L) ep t)(ht:jx t 7 ld L)(h5:L.length=5){Q:Unit->Shared->Prop}
 (h:∀ t' L',jx t' 31 ld L'->Rise L'->Reach L' 31->L'.length=5->(∀ p,(∃ e∈L',e.2=p)↔∃ e∈L,e.2=p)->Q () { s with heap:=s.heap.update S (Obj.putSet (elems L') t') }) :
 wpAny (model prog w) A (setRelay S (grown 5)) Q E s:=by
 have hsz:(elems L).size=5:=by simp[elems,h5]
 have hfit:t.fits (elems L).size=true:=by
  simp only[SetTable.fits,SetTable.fill,ht.place,ht.dummies,ht.mask,places,elems,aM,aQ,aP];simp[h5]
 have h32:sizeAbove (grown 5)=32:=by decide
 refine fX (zjc (t:=t) (wanted:=grown 5) (es:=elems L) zmo (by rw[h32]) (by rw[hsz];decide) ht.led ht.plain) fun t' order L' e1 e2 e3 e4 eU=>?_;refine fS eU fun e5 e6 e7 e8=>?_;have hl':(elems L').size=(elems L).size:=by rw[<- e3];simp[elems]
 have fin:=h t' L' e4 e5 e6 (by rw[e3,hsz]) fun p=>by
  rw[e8];unfold elems;rw[List.mem_toArray,az]
 rw[<- e2] at fin hl';clear h e2 e3 e4 e5 e6 e7 e8;rw[zgl];refine aa (bB ho hd hfit (aO (by rw[h32,bZ];rfl) (aa ?_)));dsimp only;rw[e1];exact aO (by rw[hl',cR];rfl) (ab (wpAny_storeSet_of ho hd fin (by rw[hl',hsz,bZ];decide)))
theorem zbi(a:Addr)(x:Value)(h:Int)(fuel:Nat):setAddHashedIn a x h (fuel+1)=(do
 let (es0,_,t0) <- setState a
 if byScan x es0 then
  match <- setAddByScan a x h es0 t0 with
  | some added=>return added
  | none=>return <- setAddHashedIn a x h fuel
 let .free slot wasDummy <- setSearch a x h (adding:=true) | return false
 let (es,_,t) <- setState a
 let (t,p):=t.put slot
 let byValue <- if t.plain then hashByValue 8 x else pure true
 let t:=if byValue then t else { t with plain:=false }
 storeSet a (SetTable.insertAt es p (h,x)) t
 if !wasDummy && t.tooFull then setRelay a (SetTable.grown (es.size+1))
 return true):=rfl
theorem zlh{t:SetTable}{m n:Nat}{ld:Bool}{L:List Ent}{h:Int}{x:Value}(ht:jx t m ld L)(hr:Rise L)(hre:Reach L m)(hf:FirstFree L m n (yv m h)) :
 ∃ p t1A L',t.put (advN m n (yv m h)).j=(t1A,p)/\insertAt (elems L) p (h,x)=elems L'/\jx t1A m ld L'/\Rise L'/\Reach L' m/\L'.length=L.length+1/\∀ y,(∃ e∈L',e.2=y)↔y=(h,x)\/∃ e∈L,e.2=y:=by
 refine fZ (zrt ht hr hf.1 h x) fun A B eO p1 p2 p3 p4=>?_;subst eO;refine⟨A.length,_,_,Prod.ext rfl p1,p4,p2,p3,hre.put hf,?_,fun y=>?_⟩
 ·rw[ba,ba];rfl
 ·constructor
  ·rintro⟨e,he,rfl⟩;refine fx (aj.mp he) ?_ ?_
   ·intro he;exact .inr ⟨e,aC _ he,rfl⟩
   ·intro he;refine fx (ag.mp he) ?_ ?_
    ·rintro rfl;exact .inl rfl
    ·intro he;exact .inr ⟨e,aq _ he,rfl⟩
  ·rintro (rfl | ⟨e,he,rfl⟩)
   ·exact fD _ (aq _ am) rfl
   ·refine fD e ?_ rfl;refine fx (aj.mp he) ?_ ?_
    ·intro he;exact aC _ he
    ·intro he;exact aq _ (ah _ he)
theorem TSet.more{h h':Heap}{S a:Addr}{ld:Bool}{K:List (List Int)}{ks:List Int}{o o':Obj}{ep' m':Nat}{t':SetTable}{L L' L'':List Ent}(ho:h.get? S=some o)(hex:o.ExactSet)(hk:TK prog w h ks a)(hlen:L.length=K.length)(hnd:K.Nodup)(hent:Ents prog w h L)
 (hmem:∀ ks,ks∈K↔∃ e∈L,∃ b,e.2.2=.ref b/\TK prog w h ks b) (hnK:ks∉K) (hnew:∀ y,(∃ e∈L',e.2=y)↔y=(tkh prog w ks,Value.ref a)\/∃ e∈L,e.2=y)
 (hsb:Heap.SameBut S h h') (ho':h'.get? S=some o') (hex':o'.ExactSet) (hd':o'.data=.set (elems L'') ep' t') (ht':jx t' m' ld L'') (hr':Rise L'') (hre':Reach L'' m') (hl':L''.length=L.length+1)
 (hsame:∀ p,(∃ e∈L'',e.2=p)↔∃ e∈L',e.2=p) (hm':(m'=7/\L''.length<=4)\/(m'=31/\L''.length<=18)):TSet prog w h' S ld (K++[ks]):=by
 have hn:∀ y,(∃ e∈L'',e.2=y)↔y=(tkh prog w ks,Value.ref a)\/∃ e∈L,e.2=y:=fun y=>(hsame y).trans (hnew y);have tk:=zc6 ho hex hsb hk;refine⟨o',ep',t',m',L'',ho',hex',hd',ht',hr',hre',by rw[hl',hlen,ba];rfl,?_,?_,fun ks'=>?_,hm'⟩
 ·exact bT.mpr ⟨hnd,bw.mpr ⟨dB,List.nodup_nil⟩,fun x hx y hy=>by rw[ae.mp hy];rintro rfl;exact hnK hx⟩
 ·intro e he;refine fx ((hn e.2).mp ⟨e,he,rfl⟩) ?_ ?_
  ·intro q;rw[q];exact fK a ks rfl tk rfl
  ·rintro ⟨e1A,he1,q⟩;rw[<- q];refine fL (hent e1A he1) fun b ks' q1 q2 q3=>?_;exact fK b ks' q1 (zc6 ho hex hsb q2) q3
 ·rw[aj,ae,hmem];constructor
  ·rintro (⟨e,he,b,hb,hkb⟩ | rfl)
   ·refine fC ((hn e.2).mpr (.inr ⟨e,he,rfl⟩)) fun e1A he1 q=>?_;exact⟨e1A,he1,b,q ▸ hb,zc6 ho hex hsb hkb⟩
   ·refine fC ((hn _).mpr (.inl rfl)) fun e1A he1 q=>?_;exact⟨e1A,he1,a,q ▸ rfl,tk⟩
  ·rintro⟨e,he,b,hb,hkb⟩;have hkb':TK prog w h ks' b:=zoa ho' hex' hsb hkb;refine fx ((hn e.2).mp ⟨e,he,rfl⟩) ?_ ?_
   ·intro q;rw[q] at hb;injection hb with fu;subst fu
    exact .inr (IsTupleKey.inj hkb' hk)
   ·rintro ⟨e1A,he1,q⟩;exact .inl ⟨e1A,he1,b,q ▸ hb,hkb'⟩
theorem zf8{t:SetTable}{m:Nat}{ld:Bool}{L:List Ent}(ht:jx t m ld L):t.tooFull=decide (m * 3<=L.length * 5):=by
 unfold tooFull fill;rw[ht.place,ht.dummies,ht.mask];simp[places]
theorem zp2{S:Addr}{ld:Bool}{K:List (List Int)}(hS:TSet prog w s.heap S ld K)(hu:A.units < cLine){a:Addr}{ks:List Int}(hk:TK prog w s.heap ks a)(hK:K.length<=17){Q:Bool->Shared->Prop}
 (h:∀ b h',Heap.SameBut S s.heap h'->TSet prog w h' S ld (if ks∈K then K else K++[ks])->Q b { s with heap:=h' }) :
 wpAny (model prog w) A (setAddHashed S (.ref a) (tkh prog w ks)) Q E s:=by
 have old:ks∈K->∀ b,Q b s:=fun hin b=>h b s.heap (Heap.SameBut.refl S s.heap) (by rw[af hin];exact hS);have new:ks∉K->∀ b h',Heap.SameBut S s.heap h'->TSet prog w h' S ld (K++[ks])->Q b { s with heap:=h' }:=fun hin b h' hs hT=>h b h' hs (by rw[ak hin];exact hT);clear h;obtain⟨o,ep,t,m,L,ho,hex,hd,ht,hr,hre,hlen,hnd,hent,hmem,hm⟩:=hS;have hLm:L.length<=m:=by (refine fx hm ?_ ?_<;>clear hm;rotate_left;rintro ⟨rfl,h⟩;rotate_right;rintro ⟨rfl,h⟩) <;> exact ai h (by decide)
 have hfull:full m=true:=by (refine fx hm ?_ ?_<;>clear hm;rotate_left;rintro ⟨rfl,_⟩;rotate_right;rintro ⟨rfl,_⟩) <;> first | exact zu8 | exact zmo
 have hodd:m % 2=1:=by (refine fx hm ?_ ?_<;>clear hm;rotate_left;rintro ⟨rfl,_⟩;rotate_right;rintro ⟨rfl,_⟩) <;> rfl
 have hfit:t.fits (elems L).size=true:=by
  simp only[SetTable.fits,SetTable.fill,ht.place,ht.dummies,ht.mask,places,elems,aM,aQ,aP];simp;exact hLm
 have hstart:t.probeStart (tkh prog w ks)=yv m (tkh prog w ks):=by
  show lp t.mask (bits (tkh prog w ks) % (t.mask+1)) (bits (tkh prog w ks))=_;rw[ht.mask];rfl
 refine fC (zjz (L:=L) hfull hLm (zd9 m (tkh prog w ks))) fun n hn hff=>?_;have hturn:n < 100000:=cf hn (by (refine fx hm ?_ ?_<;>clear hm;rotate_left;rintro ⟨rfl,_⟩;rotate_right;rintro ⟨rfl,_⟩) <;> decide);have hnot:(∀ k,k < n->∀ e∈L,e.1=(advN m k (yv m (tkh prog w ks))).j->∀ b,e.2.2=.ref b->¬ TK prog w s.heap ks b)->ks∉K:=fun hno hin=>by
  refine fC ((hmem ks).mp hin) fun e he eO=>?_;refine fC eO fun b hb hkb=>?_;refine fL (hent e he) fun b' ks' q1 q2 q3=>?_;rw[hb] at q1;injection q1 with fu;subst fu
  rw[IsTupleKey.inj q2 hkb] at q3;refine fC (hre.before he (q3.symm ▸ hff)) fun k hk1 hk2=>?_;rw[q3] at hk2;exact hno k hk1 e he hk2.symm b hb hkb
 refine fX (zlh (x:=.ref a) ht hr hre hff) fun p t1A L' eput eins p2 p3 eU=>?_;refine fI eU fun p4 hlen' hnew=>?_;have hsz':(elems L').size=L.length+1:=by rw[<- hlen'];simp[elems]
 have hsb1:=bV s.heap S (Obj.putSet (elems L') t1A);have hg1:=bo (Obj.putSet (elems L') t1A) ho (by rw[putSet_of _ _ hd];rfl);rw[putSet_of _ _ hd] at hg1;have last:ks∉K->wpAny (model prog w) A (if (!false && t1A.tooFull)=true then setRelay S (grown ((elems L).size+1)) >>= fun uA=>pure true else pure true) Q E { s with heap:=s.heap.update S (Obj.putSet (elems L') t1A) }:=fun hnK=>by
  have size:(elems L).size=L.length:=by simp[elems]
  rw[zf8 p2,hlen'];by_cases hfl:m * 3<=(L.length+1) * 5
  ·have h74:m=7/\L.length=4:=by (refine fx hm ?_ ?_<;>clear hm;rotate_left;rintro ⟨rfl,h⟩;rotate_right;rintro ⟨rfl,h⟩) <;> lia
   refine fH h74 ?_;clear h74;intro eM h4;subst eM;rw[size,h4];refine bH (by rw[<- h4,aA hfl];rfl) (aa (zld (s:={ s with heap:=s.heap.update S (Obj.putSet (elems L') t1A) }) hg1 rfl p2 (hlen'.trans (bR (· + 1) h4)) fun t' L'' q1 q2 q3 q4 q5=>ab ?_));have hsb2:=bV (s.heap.update S (Obj.putSet (elems L') t1A)) S (Obj.putSet (elems L'') t');have hg2:=bo (Obj.putSet (elems L'') t') hg1 (by rw[putSet_of (es:=elems L') (ep:=ep+1) _ _ rfl];rfl);rw[putSet_of (es:=elems L') (ep:=ep+1) _ _ rfl] at hg2;exact new hnK _ _ (hsb1.trans hsb2) (.more ho hex hk hlen hnd hent hmem hnK hnew (hsb1.trans hsb2) hg2 hex rfl q1 q2 q3 (q4.trans (bR (· + 1) h4.symm)) q5 (.inr ⟨rfl,q4 ▸ (by decide)⟩))
  ·exact aO (by rw[aF hfl];rfl) (ab (new hnK _ _ hsb1 (.more ho hex hk hlen hnd hent hmem hnK hnew hsb1 hg1 hex rfl p2 p3 p4 hlen' (fun uA=>Iff.rfl) (by rw[hlen'];(refine fx hm ?_ ?_<;>clear hm;rotate_left;rintro ⟨rfl,h⟩;rotate_right;rintro ⟨rfl,h⟩) <;> lia))))
 clear hnew p3 p4 hsb1 hg1 new hfull;unfold setAddHashed;rw[zbi];refine aS (aa (bB ho hd hfit (aO rfl ?_)));refine aa (zjb ho hd ht hr hLm hodd hent hu hk (fun hin=>ab (old ((hmem ks).mpr hin) _)) 100000 n none (yv m (tkh prog w ks)) hstart hturn hn rfl hff fun hno=>?_);refine aa (bB ho hd hfit ?_);dsimp only;rw[eput];refine bH (by rw[p2.plain];rfl) (aa (zbv hk ?_));show wpAny _ _ (storeSet S (insertAt (elems L) p (tkh prog w ks,.ref a)) t1A >>= _) _ _ _;rw[eins];exact aa (wpAny_storeSet_of ho hd (last (hnot hno)) (by rw[hsz',bZ];lia))
end
end Mine
end
section
namespace Mine
open PySem PyProof.Rows PySem.W
noncomputable def addK(K:List (List Int))(ks:List Int):List (List Int):=if ks∈K then K else K++[ks]
noncomputable def yo(kss:List (List Int))(i:Nat):List (List Int):=(kss.take i).foldl addK []
theorem u5{kss:List (List Int)}{i:Nat}{k:List Int}(h:kss[i]?=some k):yo kss (i+1)=addK (yo kss i) k:=by
 unfold yo;rw[dZ,h,List.foldl_append];rfl
theorem ud(kss:List (List Int)):∀ i,(yo kss i).length<=i
 | 0=>by simp[yo]
 | i+1=>by
   have ih:=ud kss i
   cases h:kss[i]? with
   | none=>
     have:yo kss (i+1)=yo kss i:=by unfold yo;rw[dZ,h];simp
     rw[this];lia
   | some k=>
     rw[u5 h];unfold addK;split
     ·lia
     ·rw[ba,eo];exact Nat.lt_succ_of_le (by assumption)
section
variable{prog:Program}{w:World}{A:Around}{E:Value->Shared->Prop}{s:Shared}
variable{I:Addr}{fp wr:List Addr}{R:Result->Shared->Prop}{P:Nat->Value->Prop}{St:Nat->Heap->Prop}
theorem TK.keep{h h':Heap}{ks:List Int}{b:Addr}(hk:TK prog w h ks b)(hs:∀ b o,h.get? b=some o->h'.get? b=some o):TK prog w h' ks b:=by
 refine fO hk fun o items n ho r=>?_;exact fA o items n (hs b o ho) r
theorem TSet.keep{h h':Heap}{S:Addr}{ld:Bool}{K:List (List Int)}(hS:TSet prog w h S ld K)(z:List Addr)(hz:∀ b∈z,∀ o,h.get? b=some o->o.cls≠.type "tuple")(hSz:S∉z)(hs:∀ b o,b∉z->h.get? b=some o->h'.get? b=some o):TSet prog w h' S ld K:=by
 obtain⟨o,ep,t,m,L,ho,hex,hd,ht,hr,hre,hlen,hnd,hent,hmem,hm⟩:=hS;have up:∀ {ks:List Int} {b:Addr},TK prog w h ks b->TK prog w h' ks b:=fun {ks b} ⟨o',items,n,ho',hc',r⟩=>⟨o',items,n,hs b o' (fun hb=>hz b hb o' ho' hc') ho',hc',r⟩;refine⟨o,ep,t,m,L,hs S o hSz ho,hex,hd,ht,hr,hre,hlen,hnd,fun e he=>?_,fun ks=>?_,hm⟩
 ·refine fL (hent e he) fun a ks q1 q2 q3=>?_;exact fK a ks q1 (up q2) q3
 ·rw[hmem];constructor
  ·rintro⟨e,he,b,hb,hk⟩;exact⟨e,he,b,hb,up hk⟩
  ·rintro⟨e,he,b,hb,hk⟩;refine fL (hent e he) fun a ks' q1 q2 q3=>?_;rw[hb] at q1;injection q1 with fu;subst fu
   have:=IsTupleKey.inj (up q2) hk;subst this;exact⟨e,he,b,hb,q2⟩
theorem zmt{kss:List (List Int)}{ld:Bool}(W:Walks prog w A.in1 I fp wr kss.length P St)(S:Addr)(hSf:S∉fp)(h0:Heap)(hu:A.in1.units < cLine)
 (hval:∀ (i:Nat) v,i < kss.length->P i v->∃ b ks,kss[i]?=some ks/\v=.ref b/\TK prog w h0 ks b) (hwr:∀ i h,St i h->∀ z∈wr,∀ o,h.get? z=some o->o.cls≠.type "tuple") (hS0:h0.get? S=none) (hw0:∀ z∈wr,h0.get? z=none) (h4:kss.length<=17) :
 ∀ (k i:Nat) (s:Shared),kss.length - i=k->i<=kss.length->St i s.heap->TSet prog w s.heap S ld (yo kss i)->(∀ b o,h0.get? b=some o->s.heap.get? b=some o) ->
  (∀ h' tk,(∀ b o,b∉S::wr->s.heap.get? b=some o->h'.get? b=some o)->TSet prog w h' S ld (yo kss kss.length)->R (.ok (.ret .none)) { s with heap:=h',toks:=tk }) ->
  codeAny (model prog w) A (.builtin "set.update.loop" ⟨[.ref S,.ref I],[]⟩) R s:=by
 have hSw:S∉wr:=fun h=>hSf (W.sub _ h);intro k
 induction k with
 | zero=>
   intro i s hk hi hst hS hkp hR;have hin:i=kss.length:=by lia
   subst hin;refine cp dG ?_;rw[cq bQ _];show wpAny _ A.in1 (pyNext (.ref I) >>= _) _ _ s;refine aa (W.done s _ _ hst fun h' tk hm=>?_);show wpAny _ A.in1 (ret Value.none) _ _ _;refine ab (hR h' tk (fun b o hb e=>hm b o (fun h=>hb (ah _ h)) e) ?_);exact hS.keep wr (hwr _ _ hst) hSw hm
 | succ k ih=>
   intro i s hk hi hst hS hkp hR;have hlt:i < kss.length:=by lia
   refine cp dG ?_;rw[cq bQ _];show wpAny _ A.in1 (pyNext (.ref I) >>= _) _ _ s;refine aa (W.item i s _ _ hlt hst fun v h₁ tk1 hP hst' hm=>?_);refine fL (hval i v hlt hP) fun b ks hx eP hkb=>?_;subst eP;have hS':TSet prog w h₁ S ld (yo kss i):=hS.keep wr (hwr _ _ hst) hSw hm;have hkp1:∀ b o,h0.get? b=some o->h₁.get? b=some o:=fun b o e=>hm b o (fun hb=>by rw[hw0 b hb] at e;contradiction) (hkp b o e);have hk1:TK prog w h₁ ks b:=hkb.keep hkp1;show wpAny _ A.in1 (holding [Value.ref b] (setAdd S (.ref b)) >>= _) _ _ _;refine aa (aS ?_);unfold setAdd;refine aS ?_;refine aa (wpAny_pyHash_tuple (s:={ s with heap:=h₁,toks:=tk1 }) hu hk1 ?_);refine zp2 (s:={ s with heap:=h₁,toks:=tk1+(ks.length+1) }) hS' hu hk1 (by have:=ud kss i;lia) fun b' h' hsb hS2=>?_;have hS2:TSet prog w h' S ld (yo kss (i+1)):=by rw[u5 hx];exact hS2
   refine ab ⟨plainId_quiet bQ _,ih (i+1) _ (by lia) hlt (W.frame _ _ _ hst' fun b hb o e=>?_) hS2 (fun b o e=>?_) fun h'' tk hk'' hS''=>?_⟩
   ·exact (hsb.2 b (fun h:b=S=>hSf (by rw[<- h];exact hb))).trans e
   ·exact (hsb.2 b (fun h:b=S=>by rw[h,hS0] at e;contradiction)).trans (hkp1 b o e)
   ·refine hR h'' tk (fun b o hb e=>hk'' b o hb ?_) hS'';exact (hsb.2 b (fun h:b=S=>hb (by rw[h];exact am))).trans (hm b o (fun h=>hb (ah _ h)) e)
theorem zbu{l:Addr}{items:Array Value}{kss:List (List Int)}{Q:Value->Shared->Prop}
 (hh:A.handled=none) (hu:A.units+10 < cLine) (hl:s.heap.IsList l items) (hsz:items.size=kss.length) (hi:∀ (i:Nat) v,items[i]?=some v->∃ b ks,kss[i]?=some ks/\v=.ref b/\TK prog w s.heap ks b) (h4:kss.length<=17)
 (h:∀ (h':Heap) (tk:Nat),TSet prog w h' s.heap.objs.size (!w.params.followText "set-order") (yo kss kss.length) ->
   (∀ b o,s.heap.get? b=some o->h'.get? b=some o)->Q (.ref s.heap.objs.size) { s with heap:=h',toks:=tk }) :
 wpAny (model prog w) A (call (.type "set") [.ref l]) Q E s:=by
 refine fN hl fun ol hol hcl eP=>?_;refine fG eP fun nl hdl=>?_;refine p0 (ci:="list_iterator") hol hcl PySem.F.sub_list_set PySem.F.sub_list_frozenset (by decide) (fun e hQ=>ct ⟨_,e,hcl,nl,hdl⟩ hQ) (fun R hR=>?_) h;refine fH (zb8 (w:=w) (aY hol)) fun hneI hSf=>?_;have W:=Walks.list (prog:=prog) (w:=w) (A:=A.in1.in1.in1) (by simp[hh]) (s.heap.push (newSet w)).objs.size l hneI items;rw[hsz] at W;have nn:∀ j,s.heap.objs.size<=j->s.heap.get? j=none:=fun j hj=>by
  cases e:s.heap.get? j with
  | none=>rfl
  | some o'=>exact absurd (aY e) (eA.mpr hj)
 refine zmt (kss:=kss) (ld:=!w.params.followText "set-order") W s.heap.objs.size hSf s.heap (by simp only [Around.in1_units];lia) (fun i v hi' hv=>hi i v hv) (fun i h' st z hz o' e=>?_) (nn _ (aH _)) (fun z hz=>nn z (by rw [ae.mp hz,bv];exact cW _)) h4 kss.length 0 _ rfl (be _)
  ⟨⟨_,aw _ rfl,rfl,rfl⟩,ol,ac _ (ac _ hol),hcl,nl,hdl⟩ ?_ (fun b o e=>ac _ (ac _ e)) fun h' tk hm hS'=>hR h' tk (zb7 hm) hS'
 ·refine fH st fun eM fy=>?_;refine fN eM fun oI hoI hcI fy=>?_;rw[ae.mp hz] at e;rw[e] at hoI;injection hoI with fu;subst fu
  rw[hcI];decide
 ·exact⟨_,0,_,7,[],ac _ (aw _ rfl),⟨rfl,rfl,rfl⟩,rfl,⟨rfl,rfl,rfl,rfl,rfl⟩,.nil,fun uA h=>(nomatch h),rfl,by simp[yo],fun uA h=>(nomatch h),fun ks=>by simp[yo],.inl ⟨rfl,be _⟩⟩
end
end Mine
end
section
namespace Mine
open PySem PyProof.Rows
noncomputable def CSs.stuck:CSs:=fun uA uA uA=>.stuck
theorem zk0{cx:Cx}{l:List Stmt}:JSs cx l .stuck:=⟨fun uA uA=>trivial⟩
section
variable{G:Gl}{F:Fm}{A:Around}{s:Shared}{β:List Addr}{ρ:Loc}{O:za}{cx:Cx}{gval:Nat->Option PyData}{gname:Nat->Option Str}
theorem zp1{α:Type}{x:Str}{fv:Value}{y:Expr}{ps q:Pos}{r:R za V}{k:V->za->R za α}{Rel:List Addr->Heap->Value->α->Prop}(g:GOk G gval gname)(sr:SR G F β ρ O s.heap)(fit:Fits F cx)(hx:cx.isGlob x=true)(hb:(x,fv)∈bis)(hfv:(∃ id,fv=.builtin id)\/∃ T,fv=.type T)
 (he:starEach [y] F.env=(false,eval y F.env)::starEach [] F.env) (h1:Does G F A s β (eval y F.env) (r.lift ρ) (VRel G F))
 (h2:∀ s' β' val v O',SR G F β' ρ O' s'.heap->VR G F.B β' s'.heap val v->Does G F A s' β' (call fv [val]) ((k v O').lift ρ) Rel) :
 Does G F A s β (eval (.Call (.Name x ps) [y] [] q) F.env) ((r.bind k).lift ρ) Rel:=by
 have e1:r.bind k=(r.bind fun v O=>(R.ok ([]:List V) O).bind fun vs O=>R.ok (v::vs) O).bind fun vs O=>(match vs with | [u]=>k u O | _=>.stuck):=by cases r <;> rfl
 rw[e1];refine pq g sr fit hx hb hfv he rfl (yn he h1 fun s' β' O' sr'=>xg sr') fun s' β' vals vs O' e' st sr' rvs=>?_
 cases vs with
 | nil=>trivial
 | cons u vs=>cases vs with
   | cons _ _=>trivial
   | nil=>
     obtain⟨v,rfl,ru⟩:=rvs.one;exact h2 s' β' v u O' sr' ru
theorem zp0{α:Type}{x:Str}{fv:Value}{y z:Expr}{ps q:Pos}{ra:R za V}{rb:za->R za V}{k:V->V->za->R za α}{Rel:List Addr->Heap->Value->α->Prop}(g:GOk G gval gname)(sr:SR G F β ρ O s.heap)(fit:Fits F cx)(hx:cx.isGlob x=true)(hb:(x,fv)∈bis)(hfv:(∃ id,fv=.builtin id)\/∃ T,fv=.type T)
 (he:starEach [y,z] F.env=(false,eval y F.env)::starEach [z] F.env) (he':starEach [z] F.env=(false,eval z F.env)::starEach [] F.env)
 (h1:Does G F A s β (eval y F.env) (ra.lift ρ) (VRel G F)) (h2:∀ s' β' O',SR G F β' ρ O' s'.heap->Does G F A s' β' (eval z F.env) ((rb O').lift ρ) (VRel G F))
 (h3:∀ s' β' val wal v w O',SR G F β' ρ O' s'.heap->VR G F.B β' s'.heap val v->VR G F.B β' s'.heap wal w->Does G F A s' β' (call fv [val,wal]) ((k v w O').lift ρ) Rel) :
 Does G F A s β (eval (.Call (.Name x ps) [y,z] [] q) F.env) ((ra.bind fun v O=>(rb O).bind fun u O=>k v u O).lift ρ) Rel:=by
 have d1:Does G F A s β (spliced (backTo q (starEach [y,z] F.env))) ((ra.bind fun v O=>((rb O).bind fun v O=>(R.ok ([]:List V) O).bind fun vs O=>.ok (v::vs) O).bind fun vs O=>.ok (v::vs) O).lift ρ) (VRsl G F):=
  yn he h1 fun s' β' O' sr'=>yn he' (h2 s' β' O' sr') fun s' β' O' sr'=>xg sr'
 have e1:(ra.bind fun v O=>(rb O).bind fun u O=>k v u O)=(ra.bind fun v O=>((rb O).bind fun v O=>(R.ok ([]:List V) O).bind fun vs O=>.ok (v::vs) O).bind fun vs O=>.ok (v::vs) O).bind fun vs O=>(match vs with | [v,u]=>k v u O | _=>.stuck):=by
  cases ra with
  | ok v O=>
    show (rb O).bind (fun u O=>k v u O)=(((rb O).bind fun v O=>(R.ok ([]:List V) O).bind fun vs O=>R.ok (v::vs) O).bind fun vs O=>R.ok (v::vs) O).bind _
    cases rb O <;> rfl
  | stuck=>rfl
 rw[e1];refine pq g sr fit hx hb hfv he (by rw[he'];rfl) d1 fun s' β' vals vs O' e' st sr' rvs=>?_
 cases vs with
 | nil=>trivial
 | cons u vs=>cases vs with
   | nil=>trivial
   | cons w vs=>cases vs with
     | cons _ _=>trivial
     | nil=>
       obtain⟨v,v',rfl,rv,ru⟩:=rvs.two;exact h3 s' β' v v' u w O' sr' rv ru
end
noncomputable def minV(v u:V)(O:za):R za V:=match intV v with
 | some i=>(match intV u with
    | some j=>.ok (.d (.int (min i j))) O
    | none=>.stuck)
 | none=>.stuck
noncomputable def CE.min2(a b:CE):CE:=fun P ρ O=>if P.hd=true then .stuck else (evE P ρ a O).bind fun v O=>(evE P ρ b O).bind fun u O=>minV v u O
section
variable{cx:Cx}{x y:Expr}{a b:CE}{p q ps pz:Pos}
theorem zs6{G:Gl}{F:Fm}{A:Around}{s:Shared}{β:List Addr}{ρ:Loc}{O:za}{v u:Value}{d e:V}(hh:A.handled=none)(sr:SR G F β ρ O s.heap)(rv:VR G F.B β s.heap v d)(ru:VR G F.B β s.heap u e) :
 Does G F A s β (call (.builtin "min") [v,u]) ((minV d e O).lift ρ) (VRel G F):=by
 unfold minV
 cases h1:intV d with
 | none=>trivial
 | some i=>
   cases h2:intV e with
   | none=>trivial
   | some j=>
     refine fG (rv.intV h1) fun t eN=>?_;subst eN;refine fG (ru.intV h2) fun t' eN=>?_;subst eN;refine Does.leaf sr fun Q E q=>min_two_ints hh fun h' tk hk=>?_;by_cases hij:j < i
     ·rw[af hij];rw[show min i j=j from Int.min_eq_right (Int.le_of_lt hij)] at q;exact q _ _ (yw hk) VR.int
     ·rw[ak hij];rw[show min i j=i from Int.min_eq_left (Int.not_lt.mp hij)] at q;exact q _ _ (yw hk) VR.int
theorem zr8(h1:JE cx x a)(h2:JE cx y b)(hg:cx.isGlob "min" = true):JE cx (.Call (.Name "min" ps) [x,y] [] q) (.min2 a b):=
 ⟨rfl,fun {G A P F s β ρ O} hr sr=>by
   show Does G F A s β _ (R.lift ρ (if P.hd=true then .stuck else _:R za V)) _;by_cases hd:P.hd=true
   ·rw[af hd];trivial
   rw[ak hd];exact zp0 (rb:=fun O=>evE P ρ b O) (fv:=.builtin "min") hr.run.g sr hr.fit hg (by decide) (.inl ⟨_,rfl⟩) h1.px.star h2.px.star (h1.d hr sr) (fun s' β' O' sr'=>h2.d hr sr') fun s' β' v w d e O' sr' rv rw=>zs6 (hr.run.hm (aX.mpr hd)) sr' rv rw⟩
end
section
variable{cx:Cx}{x y:Expr}{a b:CE}{p q ps pz:Pos}
end
section
variable{prog:Program}{w:World}{A:Around}{E:Value->Shared->Prop}{s:Shared}
theorem zbn{l:Addr}{items:Array Value}{k:Int}{t:Tok}{v:Value}{Q:Unit->Shared->Prop}(hl:s.heap.PlainList l items)(h0:0<=k)(hfit:k < 2 ^ 63)(hn:k < items.size)
 (hQ:∀ h',h'.PlainList l (items.setIfInBounds k.toNat v)->Heap.SameBut l s.heap h'->Q () { s with heap:=h' }):wpAny (model prog w) A (setItem (.ref l) (.int k t) v) Q E s:=by
 refine fG hl fun n ho=>?_;have hT:s.TypeIs (.ref l) "list":=⟨_,ho,rfl⟩;unfold setItem;try with_reducible refine aS ?_
 first | refine aa (ab ?_) | skip
 refine aa (wpAny_sequenceKey hT (by decide) ?_);refine aa (bq (name:=Str.ofString "__setitem__") hT slot_list_setitem (a0 slot_list_setitem hT entry_list_setitem ?_ (args_list_setitem _ _ _)));show wpAny _ _ (Builtin.List.listSubscript? (.int k t) >>= _) _ _ s;refine aa (wpAny_listSubscript_int (fitsIndex_of h0 hfit) ?_);clear hfit;refine fG (Int.eq_ofNat_of_zero_le h0) fun j eN=>?_;subst eN;have hj:j < items.size:=by lia
 show wpAny _ _ ((seqItemAt l j >>= fun r=>pure (r.map (j,·))) >>= _) _ _ s;refine aa (aa (wpAny_seqItemAt ho rfl (ab ?_)));rw[bf hj];show wpAny _ _ (setSeqItemAt l j v >>= _) _ _ s;have hfin:(s.heap.update l (Obj.mapSeq (·.setIfInBounds j v))).PlainList l (items.setIfInBounds j v):=⟨_,bo _ ho rfl⟩;refine aa (wpAny_setSeqItemAt ho rfl ?_)
 first
  | exact aa (ab (ab ⟨.none,rfl,ab (hQ _ hfin (bV ..))⟩))
  | exact ab ⟨.none,rfl,ab (hQ _ hfin (bV ..))⟩
end
theorem zdb{h:Heap}{P:Addr->Prop}{v:Value}{y:PyData}{cs:List Addr}(rv:Reads h v y cs)(qv:∀ a∈cs,P a){vs:List Value}{xs:List PyData}{as:List Addr}(r:ReadsAll h vs xs as):(∀ a∈as,P a)->∀ (j:Nat),∃ bs,ReadsAll h (vs.set j v) (xs.set j y) bs/\∀ a∈bs,P a:=by
 refine yb (motive:=fun vs xs as=>(∀ a∈as,P a)->∀ (j:Nat),∃ bs,ReadsAll h (vs.set j v) (xs.set j y) bs/\∀ a∈bs,P a) ?_ ?_ r
 ·intro _ j;exact fD [] .nil (fun uA h=>nomatch h)
 ·intro u d as vs ds bs r rs ih q j
  cases j with
  | zero=>exact fD (cs++bs) (.cons rv rs) (fun a ha=>(aj.mp ha).elim (qv a) fun h=>q a (aq _ h))
  | succ j=>
    refine fC (ih (fun a ha=>q a (aq _ ha)) j) fun b r' q'=>?_;exact fD (as++b) (.cons r r') (fun a ha=>(aj.mp ha).elim (fun h=>q a (aC _ h)) (q' a))
noncomputable def zp9(n:Nat)(xs:List PyData)(k x:V)(O:za):R za Unit:=match intV k with
 | some j=>(match x with
    | .d y=>if 0<=j/\j < xs.length/\xs.length<=line then .ok () (O.set n (.lst (xs.set j.toNat y))) else .stuck
    | _=>.stuck)
 | none=>.stuck
noncomputable def zh3(w k x:V)(O:za):R za Unit:=match w with
 | .box n=>(match O[n]? with
    | some (.lst xs)=>zp9 n xs k x O
    | _=>.stuck)
 | _=>.stuck
noncomputable def CS.setI(o i e:CE):CS:=fun P ρ O=>(((evE P ρ e O).bind fun x O=>(evE P ρ o O).bind fun w O=>(evE P ρ i O).bind fun k O=>zh3 w k x O).lift ρ).bind fun uA S=>.ok .next S
section
variable{G:Gl}{F:Fm}{A:Around}{s:Shared}{β:List Addr}{ρ:Loc}{O:za}
set_option tactic.hygienic true in
theorem zpv{v u z:Value}{w k x:V}(sr:SR G F β ρ O s.heap)(rw_:VR G F.B β s.heap v w)(rk:VR G F.B β s.heap u k)(rx:VR G F.B β s.heap z x) :
 Does G F A s β (setItem v u z) ((zh3 w k x O).lift ρ) (fun uA uA uA uA=>True):=by
 cases w <;> first | trivial | skip
 rename_i n;unfold zh3;dsimp only
 cases hx:O[n]? with
 | none=>trivial
 | some bx=>
   cases bx with
   | dct _=>trivial
   | lst xs=>
     dsimp only;unfold zp9
     cases hk:intV k with
     | none=>trivial
     | some j=>
       cases x <;> first | trivial | skip
       rename_i y;dsimp only;by_cases hj:0<=j/\j < xs.length/\xs.length<=line
       ·rw[af hj];obtain⟨a,hn,rfl⟩:=rw_;refine fG (rk.intV hk) fun t eN=>?_;subst eN;refine fL (kl (sr.br.plain a (ay hn)) (sr.br.at_ n a _ hn hx)) fun vs as hpl r1 q1=>?_;have hsz:vs.size=xs.length:=by rw[<- av,zd r1]
        intro Q E kk;have hline:line < 2 ^ 63:=by decide
        refine zbn hpl hj.1 (by lia) (by rw[hsz];exact hj.2.1) fun h' hl' hs'=>?_;refine fG hl' fun k' e'=>?_;obtain⟨cs,r3,q3⟩:=rx;have hb:Step F.W β s { s with heap:=h' } β->BoxAt h' F.B β a (.lst (xs.set j.toNat y)):=fun st3=>by
         refine fC (zdb (ya sr.br sr.fm st3 r3 q3).1 q3 (z0 sr.br sr.fm st3 r1 q1).1 q1 j.toNat) fun bs r4 q4=>?_;exact⟨_,_,k',e',rfl,rfl,bs,by rw[Array.toList_setIfInBounds];exact r4,q4⟩
        refine fH (SR.setBox (bx:=.lst (xs.set j.toNat y)) (s':={ s with heap:=h' }) sr hn hs' rfl rfl hb ⟨_,e',rfl,rfl⟩) fun st3 sr3=>?_;exact kk _ β () st3 sr3 trivial
       ·rw[ak hj];trivial
theorem zs5{o i value:Expr}{p spos:Pos}{re:R za V}{ro ri:za->R za V}(hs:swapsWith value (some (.Subscript o i p)) spos.line F.env=pure false)
 (h1:Does G F A s β (eval value F.env) (re.lift ρ) (VRel G F)) (h2:∀ s' β' O',SR G F β' ρ O' s'.heap->Does G F A s' β' (eval o F.env) ((ro O').lift ρ) (VRel G F)) (h3:∀ s' β' O',SR G F β' ρ O' s'.heap->Does G F A s' β' (eval i F.env) ((ri O').lift ρ) (VRel G F)) :
 Does G F A s β (exec (.Assign [.Subscript o i p] value spos) F.env) (((re.bind fun x O=>(ro O).bind fun w O=>(ri O).bind fun k O=>zh3 w k x O).lift ρ).bind fun uA S=>.ok .next S) (yu G F):=by
 refine DoesW.seq (T1A:=fun Q E s=>wpAny G.m A (eval value F.env) (fun v s1A=>wpAny G.m A (eval o F.env) (fun ov s2A=>wpAny G.m A (eval i F.env) (fun iv s3A=>wpAny G.m A (setItem ov iv v) Q E s3A) E s2A) E s1A) E s)
  (T2A:=fun uA Q E s'=>Q .next s') (Rel₁:=fun uA uA uA uA=>True) (fun Q E h=>wpAny_Assign_Subscript h hs) ?_ fun s' β' v d S e st sr rv=>Does.leaf sr fun Q E q=>q .next _ (KeepsAll.refl s') rfl
 refine DoesW.seqE (T2A:=fun v Q E s1A=>wpAny G.m A (eval o F.env) (fun ov s2A=>wpAny G.m A (eval i F.env) (fun iv s3A=>wpAny G.m A (setItem ov iv v) Q E s3A) E s2A) E s1A) (fun Q E h=>h) h1 fun s1A β1 v x O1 uA st1A sr1 rx=>?_;refine DoesW.seqE (T1A:=tr G A (eval o F.env)) (T2A:=fun ov Q E s2A=>wpAny G.m A (eval i F.env) (fun iv s3A=>wpAny G.m A (setItem ov iv v) Q E s3A) E s2A) (fun Q E h=>h) (h2 s1A β1 O1 sr1) fun s2A β2 ov w O2 uA st2 sr2 rw_=>?_;refine DoesW.seqE (T1A:=tr G A (eval i F.env)) (T2A:=fun iv=>tr G A (setItem ov iv v)) (fun Q E h=>h) (h3 s2A β2 O2 sr2) fun s3A β3 iv k O3 uA st3 sr3 rk=>?_;exact zpv sr3 (rw_.step sr2.br sr2.fm st3) rk (rx.step sr1.br sr1.fm (st2.trans st3))
end
theorem zrk{cx:Cx}{x y z:Expr}{a b c:CE}{p ps:Pos}(h1:JE cx x a)(h2:JE cx y b)(h3:JE cx z c)(hx:noCompX z=true):JS cx (.Assign [.Subscript x y ps] z p) (.setI a b c):=
 ⟨fun {G A P F s β ρ O} hr sr=>zs5 (ro:=fun O=>evE P ρ a O) (ri:=fun O=>evE P ρ b O) (noCompX.swaps hx _ _ _) (h3.d hr.toHere sr) (fun s' β' O' sr'=>h1.d hr.toHere sr') fun s' β' O' sr'=>h2.d hr.toHere sr'⟩
noncomputable def CE.memo:CE:=fun uA uA O=>.ok (.box O.length) (O++[.dct []])
noncomputable def qh(w k:V)(O:za):Option (Nat×List (MKey×PyData)×MKey):=match w,k with
 | .box n,.d x=>(match O[n]? with
    | some (.dct kvs)=>(keyOf x).map fun q=>(n,kvs,q)
    | _=>none)
 | _,_=>none
inductive ztn(w k:V)(O:za)(n:Nat)(kvs:List (MKey×PyData))(q:MKey):Prop
 | mk (x:PyData) (e1:w=.box n) (e2:k=.d x) (e3:O[n]?=some (.dct kvs)) (e4:keyOf x=some q)
set_option tactic.hygienic true in
theorem wk{w k:V}{O:za}{n:Nat}{kvs:List (MKey×PyData)}{q:MKey}(h:qh w k O=some (n,kvs,q)):ztn w k O n kvs q:=by
 cases w <;> first | (cases h;done) | skip
 rename_i m
 cases k <;> first | (cases h;done) | skip
 rename_i x;have h:(match O[m]? with
  | some (.dct kvs)=>(keyOf x).map fun q=>(m,kvs,q)
  | _=>none)=some (n,kvs,q):=h
 cases e:O[m]? with
 | none=>rw[e] at h;contradiction
 | some b=>
   rw[e] at h
   cases b with
   | lst _=>contradiction
   | dct kv=>
     have h:(keyOf x).map (fun q=>(m,kv,q))=some (n,kvs,q):=h
     cases e':keyOf x with
     | none=>rw[e'] at h;contradiction
     | some q'=>rw[e'] at h;injection h with fu;injection fu with fu fw;subst fu;injection fw with fu fw;subst fu fw;exact⟨x,rfl,rfl,e,e'⟩
noncomputable def notinM(k w:V)(O:za):R za V:=match qh w k O with
 | some (_,kvs,q)=>.ok (.d (.bool !(z5 kvs q).isSome)) O
 | none=>.stuck
noncomputable def getM(w k:V)(O:za):R za V:=match qh w k O with
 | some (_,kvs,q)=>opt ((z5 kvs q).map V.d) O
 | none=>.stuck
noncomputable def setM(w k x:V)(O:za):R za Unit:=match qh w k O,x with
 | some (n,kvs,q),.d y=>if z5 kvs q=none/\kvs.length<=line then .ok () (O.set n (.dct (kvs++[(q,y)]))) else .stuck
 | _,_=>.stuck
noncomputable def CE.notinM(a b:CE):CE:=fun P ρ O=>(evE P ρ a O).bind fun v O=>(evE P ρ b O).bind fun u O=>Mine.notinM v u O
noncomputable def CE.getM(a b:CE):CE:=fun P ρ O=>(evE P ρ a O).bind fun v O=>(evE P ρ b O).bind fun u O=>Mine.getM v u O
noncomputable def CS.setM(o i e:CE):CS:=fun P ρ O=>(((evE P ρ e O).bind fun x O=>(evE P ρ o O).bind fun w O=>(evE P ρ i O).bind fun k O=>Mine.setM w k x O).lift ρ).bind fun uA S=>.ok .next S
section
variable{G:Gl}{F:Fm}{A:Around}{s:Shared}{β:List Addr}{ρ:Loc}{O:za}
theorem zs7{p:Pos}(sr:SR G F β ρ O s.heap):Does G F A s β (eval (.Dict [] [] p) F.env) ((R.ok (V.box O.length) (O++[.dct []])).lift ρ) (VRel G F):=by
 intro Q E k;have hL:s.heap.objs.size≠F.env.locals:=fun e=>by
  obtain⟨m,o,_,_,h,_⟩:=sr.fm.ns;rw[<- e,z9 s] at h;contradiction
 refine wpAny_Dict_empty ?_;have hg:(s.heap.push { cls:=.type "dict",data:=.dict #[] }).get? s.heap.objs.size=some { cls:=.type "dict",data:=.dict #[] }:=aw _ rfl;refine fH (SR.keepNB (bx₀:=.dct []) (s':={ s with heap:=s.heap.push { cls:=.type "dict",data:=.dict #[] } }) (KeepsAll.push s _ s.toks).toL sr (z9 s) ⟨_,_,_,hg,rfl,rfl,⟨rfl,List.nodup_nil⟩,fun i e kv h1 h2=>by simp at h2⟩ ⟨_,hg,rfl,rfl⟩) fun st sr'=>?_;exact k _ _ _ st sr' ⟨_,by rw[<- sr.br.len];simp,rfl⟩
theorem zni{v u:Value}{x y:V}{k:Nat}(ro:Room A k)(sr:SR G F β ρ O s.heap)(rv:VR G F.B β s.heap v x)(ru:VR G F.B β s.heap u y):Does G F A s β (compareOp .NotIn v u) ((notinM x y O).lift ρ) (VRel G F):=by
 unfold notinM
 cases h:qh y x O with
 | none=>trivial
 | some p=>
   obtain⟨n,kvs,q⟩:=p;obtain⟨d,rfl,rfl,e3,e4⟩:=wk h;exact zbr ro sr e3 e4 rv ru
theorem zta{value slice:Expr}{v u:Value}{x y:V}{k:Nat}(ro:Room A k)(hs:∀ l u t p,slice≠.Slice l u t p)(sr:SR G F β ρ O s.heap)(rv:VR G F.B β s.heap v x)(ru:VR G F.B β s.heap u y):Does G F A s β (subscriptTail value slice v u) ((getM x y O).lift ρ) (VRel G F):=by
 unfold getM
 cases h:qh x y O with
 | none=>trivial
 | some p=>
   obtain⟨n,kvs,q⟩:=p;obtain⟨d,rfl,rfl,e3,e4⟩:=wk h;exact zfg ro sr e3 e4 rv ru (xi hs _ _)
set_option tactic.hygienic true in
theorem zs4{v u z:Value}{w k x:V}{r:Nat}(ro:Room A r)(sr:SR G F β ρ O s.heap)(rw_:VR G F.B β s.heap v w)(rk:VR G F.B β s.heap u k)(rx:VR G F.B β s.heap z x):Does G F A s β (setItem v u z) ((setM w k x O).lift ρ) (fun uA uA uA uA=>True):=by
 unfold setM
 cases h:qh w k O with
 | none=>trivial
 | some p=>
   obtain⟨n,kvs,q⟩:=p;obtain⟨d,rfl,rfl,e3,e4⟩:=wk h
   cases x <;> first | trivial | skip
   rename_i y;dsimp only;by_cases hj:z5 kvs q=none/\kvs.length<=line
   ·rw[af hj];obtain⟨D,hd,rfl⟩:=rw_;obtain⟨as,rr,_⟩:=rk;rw[zaq e4] at rr;refine fC (g6 (prog:=G.prog) (w:=G.w) rr) fun a eN hkey=>?_;subst eN;have hm:=ay hd;refine fC (zdw (prog:=G.prog) (w:=G.w) (sr.br.plain D hm) (sr.br.at_ n D _ hd e3)) fun xs hD hv=>?_;have hnone:atKey xs q=none:=by
     refine fx (q9 (k:=q) hv) ?_ ?_
     ·rintro ⟨e1,e2⟩;exact e1
     ·rintro ⟨p,d',bs,e1,e2,_⟩;rw[hj.1] at e2;contradiction
    intro Q E kk;refine wpAny_setItem_heap ro.memo hkey hD (fun h' hD' hs'=>?_) (by rw[hv.1];exact ai hj.2 (by decide));rw[storedH_new hnone] at hD';obtain⟨cs,r3,q3⟩:=rx;have hb:Step F.W β s { s with heap:=h',toks:=s.toks+(ym G.prog G.w).draws q } β->p8 h' F.B β (xs++[(q,a,z)]) (kvs++[(q,y)]):=fun st3=>by
     refine⟨by simp[hv.1],fun i x kv h1 h2=>?_⟩;refine fx (bn i xs.length) ?_ ?_
     ·intro hi;rw[aJ hi] at h1;rw[aJ (by rw[<- hv.1];exact hi)] at h2;obtain⟨e,bs,r,qq⟩:=hv.2 i x kv h1 h2;refine fH (ya sr.br sr.fm st3 r qq) fun p1 p2=>?_;exact⟨e,bs,p1,p2⟩
     ·intro hi;rw[aI hi] at h1;rw[aI (by rw[<- hv.1];exact hi),<- hv.1] at h2;obtain⟨e1,e2⟩ : x=(q,a,z)/\kv=(q,y):=by
       cases e:i - xs.length with
       | zero=>rw[e] at h1 h2;injection h1 with fu;subst fu;injection h2 with fu;subst fu;exact⟨rfl,rfl⟩
       | succ j=>rw[e] at h1;simp at h1
      subst e1;subst e2;refine fH (ya sr.br sr.fm st3 r3 q3) fun p1 p2=>?_;exact⟨rfl,cs,p1,p2⟩
    refine fH (SR.setBox (bx:=.dct (kvs++[(q,y)])) (s':={ s with heap:=h',toks:=s.toks+(ym G.prog G.w).draws q }) sr hd hs' rfl rfl (fun st3=>(zpr hD' (hb st3)).1) (by refine fP hD' fun o es n h1 eQ fy=>?_;refine fI eQ fun fy g1 g2=>?_;exact fJ o h1 g1 g2)) fun st3 sr3=>?_;exact kk _ β () st3 sr3 trivial
   ·rw[ak hj];trivial
theorem zpu{o i value:Expr}{p spos:Pos}{re:R za V}{ro ri:za->R za V}{r:Nat}(rm:Room A r)(hs:swapsWith value (some (.Subscript o i p)) spos.line F.env=pure false)
 (h1:Does G F A s β (eval value F.env) (re.lift ρ) (VRel G F)) (h2:∀ s' β' O',SR G F β' ρ O' s'.heap->Does G F A s' β' (eval o F.env) ((ro O').lift ρ) (VRel G F)) (h3:∀ s' β' O',SR G F β' ρ O' s'.heap->Does G F A s' β' (eval i F.env) ((ri O').lift ρ) (VRel G F)) :
 Does G F A s β (exec (.Assign [.Subscript o i p] value spos) F.env) (((re.bind fun x O=>(ro O).bind fun w O=>(ri O).bind fun k O=>setM w k x O).lift ρ).bind fun uA S=>.ok .next S) (yu G F):=by
 refine DoesW.seq (T1A:=fun Q E s=>wpAny G.m A (eval value F.env) (fun v s1A=>wpAny G.m A (eval o F.env) (fun ov s2A=>wpAny G.m A (eval i F.env) (fun iv s3A=>wpAny G.m A (setItem ov iv v) Q E s3A) E s2A) E s1A) E s)
  (T2A:=fun uA Q E s'=>Q .next s') (Rel₁:=fun uA uA uA uA=>True) (fun Q E h=>wpAny_Assign_Subscript h hs) ?_ fun s' β' v d S e st sr rv=>Does.leaf sr fun Q E q=>q .next _ (KeepsAll.refl s') rfl
 refine DoesW.seqE (T2A:=fun v Q E s1A=>wpAny G.m A (eval o F.env) (fun ov s2A=>wpAny G.m A (eval i F.env) (fun iv s3A=>wpAny G.m A (setItem ov iv v) Q E s3A) E s2A) E s1A) (fun Q E h=>h) h1 fun s1A β1 v x O1 uA st1A sr1 rx=>?_;refine DoesW.seqE (T1A:=tr G A (eval o F.env)) (T2A:=fun ov Q E s2A=>wpAny G.m A (eval i F.env) (fun iv s3A=>wpAny G.m A (setItem ov iv v) Q E s3A) E s2A) (fun Q E h=>h) (h2 s1A β1 O1 sr1) fun s2A β2 ov w O2 uA st2 sr2 rw_=>?_;refine DoesW.seqE (T1A:=tr G A (eval i F.env)) (T2A:=fun iv=>tr G A (setItem ov iv v)) (fun Q E h=>h) (h3 s2A β2 O2 sr2) fun s3A β3 iv k O3 uA st3 sr3 rk=>?_;exact zs4 rm sr3 (rw_.step sr2.br sr2.fm st3) rk (rx.step sr1.br sr1.fm (st2.trans st3))
end
section
variable{cx:Cx}{x y z:Expr}{a b c:CE}{p ps:Pos}
theorem zr9:JE cx (.Dict [] [] p) .memo:=⟨rfl,fun hr sr=>zs7 sr⟩
theorem zsd(h1:JE cx x a)(h2:JE cx y b):JE cx (.Subscript x y p) (.getM a b):=⟨rfl,fun {G A P F s β ρ O} hr sr=>by
 refine DoesW.seqE (T2A:=fun a Q E s1A=>wpAny G.m A (eval y F.env) (fun b s2A=>wpAny G.m A (subscriptTail x y a b) Q E s2A) E s1A) (fun Q E h=>Subscript_ h) (h1.d hr sr) fun s' β' v d O' e st sr rv=>?_;refine DoesW.seqE (T1A:=tr G A (eval y F.env)) (T2A:=fun b=>tr G A (subscriptTail x y v b)) (fun Q E h=>h) (h2.d hr sr) fun s2A β2 u d2A O2 e2A st2 sr2 ru=>?_;exact zta hr.run.ro h2.px.slice sr2 (rv.step sr.br sr.fm st2) ru⟩
theorem zrj(h1:JE cx x a)(h2:JE cx y b)(h3:JE cx z c)(hx:noCompX z=true):JS cx (.Assign [.Subscript x y ps] z p) (.setM a b c):=
 ⟨fun {G A P F s β ρ O} hr sr=>zpu (ro:=fun O=>evE P ρ a O) (ri:=fun O=>evE P ρ b O) hr.run.ro (noCompX.swaps hx _ _ _) (h3.d hr.toHere sr) (fun s' β' O' sr'=>h1.d hr.toHere sr') fun s' β' O' sr'=>h2.d hr.toHere sr'⟩
end
noncomputable def qo(xs:List PyData):List PyData:=xs.zipIdx.map fun p=>.tuple [.int p.2,p.1]
theorem zj1{xs:List PyData}{i:Nat}{x:PyData}(h:(qo xs)[i]?=some x):∃ y,xs[i]?=some y/\x=.tuple [.int i,y]:=by
 unfold qo at h;rw[aU,List.getElem?_zipIdx] at h
 cases e:xs[i]? with
 | none=>rw[e] at h;contradiction
 | some y=>
   rw[e] at h;simp only[cJ,Option.some.injEq,bC] at h;exact fD y rfl h.symm
theorem zdp{xs:List PyData}:(qo xs).length=xs.length:=by simp[qo]
noncomputable def zu9(v:V)(O:za):R za Src:=match v with
 | .d (.list xs)=>.ok (.plain (qo xs)) O
 | _=>.stuck
noncomputable def CI.enum(a:CE):CI:=fun P ρ O=>(evE P ρ a O).bind zu9
section
variable{G:Gl}{F:Fm}{A:Around}{es:List Expr}{kt:Nat}{pt:Pos}(hc:∀ c,∃ C,G.cls c=.ref C)
inductive EnSt(G:Gl)(I it ax:Addr)(xs:List PyData)(i:Nat)(N β:List Addr)(h:Heap):Prop
 | mk (old:Value) (e:IsEnum h I it (i:Int) old) (l:h.IsListIter it ax i) (r:VR G N β h (.ref ax) (.d (.list xs)))
theorem EnSt.itr{I it ax:Addr}{xs:List PyData}{i:Nat}{N β:List Addr}{h:Heap}(st:EnSt G I it ax xs i N β h):∀ z∈[I,it],Itr h z:=fun z hz=>by
 obtain⟨old,e,⟨o,h1,h2,h3⟩,r⟩:=st;refine fx (ag.mp hz) ?_ ?_
 ·rintro rfl;exact fT _ _ _ e rfl rfl
 ·intro hz;rw[ae.mp hz];exact fT o _ _ h1 h2 h3
include hc in
theorem Turns.enum(hh:A.handled=none)(I it ax:Addr)(hne:I≠it)(xs:List PyData):Turns G A (.Tuple es kt pt) I [I,it] (.plain (qo xs)) (EnSt G I it ax xs) where
 itr:=fun i N β h st=>st.itr
 keep:=fun i N N' β β' h h' st k1 k2 uA=>by
  obtain⟨old,e,l,r⟩:=st;exact⟨old,k1 I (by simp) _ e,l.at fun o e=>k1 it (by simp) o e,k2 _ _ r⟩
 item:=fun i N β O s x Q E hx br has st k=>by
  have hitr:=st.itr;obtain⟨old,e,l,r⟩:=st;refine fH (vg r) fun eM fy=>?_;obtain ⟨o,vs,n,h1,h2,h3,as,h4,h5⟩:=eM;refine fC (zj1 hx) fun y hy eO=>?_;subst eO;refine fL (zr h4 h5 (i:=i) hy) fun v cs e1 e2 e3=>?_;refine wpAny_pyNext_enum_item e l ⟨o,h1,h2,n,h3⟩ (x:=v) (by rw[<- aT];exact e1) hne fun h' he' hit' ht' hz' hk'=>?_;refine k _ _ fun Q' E' k'=>wpAny_letOwnedTupleGo_enum he' fun h2A he2A hs2=>?_;have hI:s.heap.objs.size≠I:=cX (aY e);have kz:KeepsZ [I,it] s { s with heap:=h2A,toks:=s.toks+1 }:=⟨rfl,rfl,fun b o hb hbo=>by
   rw[ag,ae,not_or] at hb;exact (hs2.2 b hb.1).trans (hk' b o hb.1 hb.2 hbo)⟩
  have rv:VR G N β h2A v (.d y):=VR.keepZ (x:=.d y) hitr kz.kept hc ⟨cs,e2,e3⟩;refine k' _ kz ?_ ⟨v,he2A,hit'.extBut hs2.extBut hne.symm,VR.keepZ hitr kz.kept hc r⟩;obtain⟨as',r',q'⟩:=rv;exact⟨_,.tuple ((hs2.2 _ hI).trans ht') rfl rfl (.cons (.int _ _) (.cons r' .nil)),by simpa using q'⟩
 done:=fun i N β O s Q E hx br has st k=>by
  obtain⟨old,e,l,r⟩:=st;refine fH (vg r) fun eM fy=>?_;obtain ⟨o,vs,n,h1,h2,h3,as,h4,h5⟩:=eM;refine wpAny_pyNext_enum_end hh e l ⟨o,h1,h2,n,h3⟩ ?_ fun h' he=>k _ ⟨rfl,rfl,fun b o hb hbo=>he b o (fun h=>hb (by simp[h])) hbo⟩;rw[cD];have hx:(qo xs).length=i:=hx;rw[zdp] at hx;rw[<- av,zd h4];exact bX hx
 self:=fun i N β s Q E st q=>by
  obtain⟨old,e,_⟩:=st;exact wpAny_pyIter_enum e q
end
set_option tactic.hygienic true in
theorem zrm{cx:Cx}{x:Expr}{a:CE}{ps q pt p:Pos}{es:List Expr}{kt:Nat}{l:List Stmt}{d:CSs}{t:CT}(h:JE cx x a)(hx:cx.isGlob "enumerate" = true)(h2:JSs cx l d)(hc:chkT cx (ownOf cx.sc) t (.Tuple es kt pt)=true) :
 JS cx (.For (.Tuple es kt pt) (.Call (.Name "enumerate" ps) [x] [] q) l [] p) (.for_ t (.enum a) d):=⟨fun {G A P F s β ρ O} hr sr=>by
 show Does G F A s β _ (if P.hd=true then .stuck else _:R (Loc×za) Fl) _;by_cases hd:P.hd=true
 ·rw[af hd];trivial
 rw[ak hd];have hh:=hr.run.hm (aX.mpr hd);refine fH (hr.run.g.bi ("enumerate",.type "enumerate") (by decide)) fun b1 b2=>?_;refine zqm (r:=evI P ρ (.enum a) O) (evb:=fun ρ O=>evSs P d ρ O) hr.run.g hh hr.fit hr.own hc (fun uA uA uA h=>nomatch h) (fun s' β' ρ' O' sr'=>h2.d hr sr') sr ?_ fun src O' e=>?_
 ·refine DoesW.seqE (T2A:=fun v Q E s=>wpAny G.m A (call (.type "enumerate") [v]) (fun S s1A=>wpAny G.m A (pyIter S) Q E s1A) E s) (fun Q E h'=>?_) (h.d hr.toHere sr) fun s' β' v d O' e st sr' rv=>?_
  ·exact dK rfl (ye hr.run.g sr hr.fit hx b1 b2 (callWith_type1 (co (aK h' (fun v s1A h₁=>dC h₁) (fun uA uA x=>x)) h.px.star) h.px.star rfl))
  ·clear e
   cases d <;> first | trivial | skip
   rename_i z
   cases z <;> first | trivial | skip
   rename_i xs;have rv':=rv;obtain⟨b,rfl,⟨o,vs,n,h1,h2,h3,as,h4,h5⟩,h6⟩:=rv.list_inv;refine DoesW.weaken (T1A:=fun Q E s=>wpAny G.m A (call (.type "enumerate") [.ref b]) (fun S s1A=>wpAny G.m A (pyIter S) Q E s1A) E s) (Does.leaf sr' fun Q E k=>?_) (fun Q E h=>h) fun uA uA uA uA r=>IRel.back (target:=.Tuple es kt pt) st r;refine call_enumerate_list ⟨o,h1,h2,n,h3⟩ fun h' he hl hz hk=>wpAny_pyIter_enum he (k _ { s' with heap:=h' } ⟨rfl,rfl,hk⟩ ⟨_,_,_,rfl,Turns.enum hr.run.g.clsRef hh _ _ b (Nat.succ_ne_self _) xs,⟨_,he,hl,rv'.keepAll hk⟩,fun z hz=>?_⟩);refine bk ?_;refine fx (ag.mp hz) ?_ ?_
   ·rintro rfl;exact cW _
   ·intro hz;rw[ae.mp hz];exact aH _
 ·refine fR (qy e) fun v O1 e' e=>?_;clear e'
  cases v <;> first | (cases e;done) | skip
  rename_i z
  cases z <;> first | (cases e;done) | skip
  injection e with fu fw;subst fu fw;trivial⟩
inductive SqK | lst | tup
noncomputable def SqK.cls:SqK->String
 | .lst=>"list"
 | .tup=>"tuple"
noncomputable def SqK.itc:SqK->String
 | .lst=>"list_iterator"
 | .tup=>"tuple_iterator"
def IsSq(q:SqK)(h:Heap)(a:Addr)(xs:Array Value):Prop:=∃ o,h.get? a=some o/\o.cls=.type q.cls/\∃ n,o.data=.seq xs n
def IsIt(q:SqK)(h:Heap)(i a:Addr)(j:Nat):Prop:=∃ o,h.get? i=some o/\o.cls=.type q.itc/\o.data=.fields #[.ref a,.int j 0]
theorem IsSq.ext{q:SqK}{h h':Heap}{a c:Addr}{xs:Array Value}(x:IsSq q h a xs)(hs:Heap.ExtBut c h h')(hne:a≠c):IsSq q h' a xs:=x.elim fun o r=>⟨o,hs _ _ hne r.1,r.2⟩
theorem IsIt.ext{q:SqK}{h h':Heap}{i a c:Addr}{j:Nat}(x:IsIt q h i a j)(hs:Heap.ExtBut c h h')(hne:i≠c):IsIt q h' i a j:=x.elim fun o r=>⟨o,hs _ _ hne r.1,r.2⟩
structure ZAt(q1 q2:SqK)(h:Heap)(z TI TO i1 i2 t l:Addr)(k:Nat)(f:Value):Prop where
 zip:IsZip h z TI TO f
 ti:IsPair h TI (.ref i1) (.ref i2)
 it1:IsIt q1 h i1 t k
 it2:IsIt q2 h i2 l k
section
variable{prog:Program}{w:World}{A:Around}{E:Value->Shared->Prop}{s:Shared}
theorem zgt{it t:Addr}{i:Nat}{items:Array Value}{x:Value}{Q:Value->Shared->Prop}(hit:IsTupIter s.heap it t i)(ht:IsTup s.heap t items)(hx:items[i]?=some x)
 (hQ:∀ h',IsTupIter h' it t (i+1)->Heap.SameBut it s.heap h'->Q x { s with heap:=h' }):wpAny (model prog w) A (Builtin.SmallTypes.nextOf (.ref it)) Q E s:=by
 refine fN (id hit) fun o ho hc hd=>?_;refine fN ht fun ol hol fy eP=>?_;refine fG eP fun nl hdl=>?_;unfold Builtin.SmallTypes.nextOf;refine aa (bq (name:=Str.ofString "__next__") hit.typeIs eK (a0 eK hit.typeIs entry_tupleiter_next ?_ (args_tupleiter_next _)));show wpAny _ _ (field (.ref it) 0 >>= _) _ _ s;refine aa (bD ho hd (x:=.ref t) rfl ?_);show wpAny _ _ (if (Value.ref t == Value.none)=true then _ else _) _ _ s;rw[ak (show ¬ ((Value.ref t == Value.none)=true) from ao)];refine aa (bD ho hd (x:=.int i 0) rfl (aa (bO hol hdl ?_)));simp only[cw,hx];refine aa (wpAny_setField ho hd (by simp) (ab ⟨x,rfl,ab (hQ _ ?_ (bV ..))⟩));exact⟨_,bo _ ho (Obj.isFreed_of_fields (Obj.data_mapFields hd _)),(Obj.cls_mapFields ..).trans hc,by
  rw[Obj.data_mapFields hd];simp[rawInt]⟩
theorem zce{q:SqK}{it t:Addr}{i:Nat}{items:Array Value}{x:Value}{Q:Value->Shared->Prop}(hit:IsIt q s.heap it t i)(ht:IsSq q s.heap t items)(hx:items[i]?=some x)
 (hQ:∀ h',IsIt q h' it t (i+1)->Heap.SameBut it s.heap h'->Q x { s with heap:=h' }):wpAny (model prog w) A (Builtin.SmallTypes.nextOf (.ref it)) Q E s:=by
 cases q with
 | tup=>exact zgt hit ht hx hQ
 | lst=>exact wpAny_nextOf_list_item hit ht hx hQ
variable{q1 q2:SqK}{z TI TO i1 i2 t l:Addr}{k:Nat}{xs ys:Array Value}{x y a b:Value}
theorem zkp{Q:Option Value->Shared->Prop}(D:ZipApart z TI TO i1 i2 t l)(Z:ZAt q1 q2 s.heap z TI TO i1 i2 t l k .none)(hTO:IsPair s.heap TO a b)(hl1:IsSq q1 s.heap t xs)(hl2:IsSq q2 s.heap l ys)(hx:xs[k]?=some x)(hy:ys[k]?=some y)
 (hQ:∀ h',ZAt q1 q2 h' z TI TO i1 i2 t l (k+1) (rawInt s.heap.objs.size)->IsPair h' TO x y->IsPair h' s.heap.objs.size x y ->
   (∀ c o,c≠z->c≠TO->c≠i1->c≠i2->s.heap.get? c=some o->h'.get? c=some o)->Q (some (.ref s.heap.objs.size)) { s with heap:=h' }) :
 wpAny (model prog w) A (pyNext (.ref z)) Q E s:=by
 obtain⟨hz,hTI,h1,h2⟩:=Z;have hT:s.TypeIs (.ref z) "zip":=⟨_,hz,rfl⟩;unfold pyNext;refine aa (wpAny_attempt (bq (name:=Str.ofString "__next__") hT F.slot_zip_next (a0 F.slot_zip_next hT F.entry_zip_next ?_ (F.args_zip_next_1 _))));show wpAny _ _ (field (.ref z) 2 >>= _) _ _ _;refine aa (bD hz rfl (x:=.bool false) rfl ?_);show wpAny _ _ (field (.ref z) 3 >>= _) _ _ _;refine aa (bD hz rfl (x:=.ref TI) rfl (aa (bO hTI rfl ?_)));show wpAny _ _ (Builtin.SmallTypes.ownedTupleIsFree (.ref z) >>= _) _ _ _;refine aa ?_;unfold Builtin.SmallTypes.ownedTupleIsFree;refine aa (bD hz rfl (x:=.none) rfl (ab ?_));simp only[if_true];refine aa (cT (aa (bD hz rfl (x:=.ref TO) rfl (aa (dP hz (by simp) fun h₁ hz1A hs1=>?_)))));replace hz1A:IsZip h₁ z TI TO .ellipsis:=hz1A;refine aa ?_;simp only[eF,List.zipIdx_nil,bI,bN];refine aa (aa (wpAny_onRaise ?_));show wpAny _ _ (Builtin.SmallTypes.nextOf (.ref i1) >>= _) _ _ _;refine aa (zce (h1.ext hs1.extBut D.i1z) (hl1.ext hs1.extBut D.l1z) hx fun h2A h12A hs2=>ab ?_);have hTO2:IsPair h2A TO a b:=hs2.extBut _ _ D.TOi1 (hs1.extBut _ _ D.TOz hTO);refine aa (bO hTO2 rfl (aa (wpAny_updateSeq_pair hTO2 fun h3A hTO3 hs3=>?_)));replace hTO3:IsPair h3A TO x b:=hTO3;refine aa (wpAny_letGo (ab ?_));refine aa (aa (wpAny_onRaise ?_));show wpAny _ _ (Builtin.SmallTypes.nextOf (.ref i2) >>= _) _ _ _;refine aa (zce (((h2.ext hs1.extBut D.i2z).ext hs2.extBut D.i12.symm).ext hs3.extBut D.TOi2.symm)
  (((hl2.ext hs1.extBut D.l2z).ext hs2.extBut D.l2i1).ext hs3.extBut D.l2TO) hy fun h4A h24 hs4=>ab ?_)
 have hTO4:IsPair h4A TO x b:=hs4.extBut _ _ D.TOi2 hTO3;refine aa (bO hTO4 rfl (aa (wpAny_updateSeq_pair hTO4 fun h5A hTO5 hs5=>?_)));replace hTO5:IsPair h5A TO x y:=hTO5;refine aa (wpAny_letGo (ab (ab ?_)));refine aa (bO hTO5 rfl (aa (wpAny_newTuple ?_)));have hsz:h5A.objs.size=s.heap.objs.size:=by rw[hs5.1,hs4.1,hs3.1,hs2.1,hs1.1]
 have hk5:∀ c o,c≠z->c≠TO->c≠i1->c≠i2->s.heap.get? c=some o->h5A.get? c=some o:=fun c o c1 c2 c3 c4 e=>
  hs5.extBut _ _ c2 (hs4.extBut _ _ c4 (hs3.extBut _ _ c2 (hs2.extBut _ _ c3 (hs1.extBut _ _ c1 e))))
 have hz5:IsZip h5A z TI TO .ellipsis:=hs5.extBut _ _ D.TOz.symm (hs4.extBut _ _ D.i2z.symm (hs3.extBut _ _ D.TOz.symm (hs2.extBut _ _ D.i1z.symm hz1A)));have h15:IsIt q1 h5A i1 t (k+1):=((h12A.ext hs3.extBut D.TOi1.symm).ext hs4.extBut D.i12).ext hs5.extBut D.TOi1.symm;have h25A:IsIt q2 h5A i2 l (k+1):=h24.ext hs5.extBut D.TOi2.symm;have hTI5:IsPair h5A TI (.ref i1) (.ref i2):=hk5 _ _ D.TIz D.TITO D.TIi1 D.TIi2 hTI;have hzlt:z < h5A.objs.size:=aY hz5;show wpAny _ _ (Builtin.SmallTypes.ownedTupleHandOut (.ref z) (.ref h5A.objs.size) >>= _) _ _ _;refine aa ?_;unfold Builtin.SmallTypes.ownedTupleHandOut;have hz6:IsZip (h5A.push { cls:=.type "tuple",data:=.seq #[x,y] }) z TI TO .ellipsis:=ac _ hz5;refine aa (dP hz6 (by simp) fun h7A hz7 hs7=>?_);replace hz7:IsZip h7A z TI TO (rawInt h5A.objs.size):=hz7;refine dP hz7 (by simp) fun h8A hz8 hs8=>?_;replace hz8:IsZip h8A z TI TO (rawInt h5A.objs.size):=hz8;have up:∀ c o,c≠z->h5A.get? c=some o->h8A.get? c=some o:=fun c o c1 e=>hs8.extBut _ _ c1 (hs7.extBut _ _ c1 (ac _ e));have hT8:IsPair h8A h5A.objs.size x y:=hs8.extBut _ _ (cX hzlt) (hs7.extBut _ _ (cX hzlt) (aw _ rfl));rw[hsz] at hz8 hT8;refine ab ⟨_,rfl,?_⟩;rw[hsz];exact ab (hQ h8A ⟨hz8,up _ _ D.TIz hTI5,h15.elim fun o r=>⟨o,up _ _ D.i1z r.1,r.2⟩,h25A.elim fun o r=>⟨o,up _ _ D.i2z r.1,r.2⟩⟩ (up _ _ D.TOz hTO5) hT8 fun c o c1 c2 c3 c4 e=>up c o c1 (hk5 c o c1 c2 c3 c4 e))
theorem zaj{it t:Addr}{i:Nat}{items:Array Value}{Q:Value->Shared->Prop}(hh:A.handled=none)(hit:IsTupIter s.heap it t i)(ht:IsTup s.heap t items)(hx:items[i]?=none)
 (hE:∀ h' e,Heap.ExtBut it s.heap h'->(∃ o,h'.get? e=some o/\o.cls=.type "StopIteration")->E (.ref e) { s with heap:=h' }):wpAny (model prog w) A (Builtin.SmallTypes.nextOf (.ref it)) Q E s:=by
 refine fN (id hit) fun o ho hc hd=>?_;refine fN ht fun ol hol fy eP=>?_;refine fG eP fun nl hdl=>?_;unfold Builtin.SmallTypes.nextOf;refine aa (bq (name:=Str.ofString "__next__") hit.typeIs eK (a0 eK hit.typeIs entry_tupleiter_next ?_ (args_tupleiter_next _)));show wpAny _ _ (field (.ref it) 0 >>= _) _ _ s;refine aa (bD ho hd (x:=.ref t) rfl ?_);show wpAny _ _ (if (Value.ref t == Value.none)=true then _ else _) _ _ s;rw[ak (show ¬ ((Value.ref t == Value.none)=true) from ao)];refine aa (bD ho hd (x:=.int i 0) rfl (aa (bO hol hdl ?_)));simp only[cw,hx];refine aa (cT (aa (wpAny_setField ho hd (by simp) ?_)));show wpAny _ _ (newExc (.type "StopIteration") [] >>= _) _ _ _;refine aa ?_;simp only[newExc,newTuple];refine aa (cr ?_ (by size_fits));refine aa (m:=firstArgMember _ _) (wpAny_of_eq (a:=Value.none) (by first | rfl | (simp only[firstArgMember];rfl)) ?_);refine cr ?_ (by size_fits);simp only[raiseNew];refine aa (wpAny_handled ?_)
 first | rw[show A.in1.handled=none from hh] | rw[hh]
 refine aa (ab (wpAny_throw ?_));exact hE _ _ (((bV ..).extBut.push _).push _) ⟨_,aw _ rfl,rfl⟩
theorem zgu{q:SqK}{it t:Addr}{i:Nat}{items:Array Value}{Q:Value->Shared->Prop}(hh:A.handled=none)(hit:IsIt q s.heap it t i)(ht:IsSq q s.heap t items)(hx:items[i]?=none)
 (hE:∀ h' e,Heap.ExtBut it s.heap h'->(∃ o,h'.get? e=some o/\o.cls=.type "StopIteration")->E (.ref e) { s with heap:=h' }):wpAny (model prog w) A (Builtin.SmallTypes.nextOf (.ref it)) Q E s:=by
 cases q with
 | tup=>exact zaj hh hit ht hx hE
 | lst=>exact wpAny_nextOf_list_end hh hit ht hx hE
theorem zn3{Q:Option Value->Shared->Prop}(hh:A.handled=none)(D:ZipApart z TI TO i1 i2 t l)(Z:ZAt q1 q2 s.heap z TI TO i1 i2 t l k .none)(hl1:IsSq q1 s.heap t xs)(hx:xs[k]?=none)
 (hQ:∀ h',(∀ c o,c≠z->c≠i1->s.heap.get? c=some o->h'.get? c=some o)->Q none { s with heap:=h' }) :
 wpAny (model prog w) A (pyNext (.ref z)) Q E s:=by
 obtain⟨hz,hTI,h1,h2⟩:=Z;have hT:s.TypeIs (.ref z) "zip":=⟨_,hz,rfl⟩;unfold pyNext;refine aa (wpAny_attempt (bq (name:=Str.ofString "__next__") hT F.slot_zip_next (a0 F.slot_zip_next hT F.entry_zip_next ?_ (F.args_zip_next_1 _))));show wpAny _ _ (field (.ref z) 2 >>= _) _ _ _;refine aa (bD hz rfl (x:=.bool false) rfl ?_);show wpAny _ _ (field (.ref z) 3 >>= _) _ _ _;refine aa (bD hz rfl (x:=.ref TI) rfl (aa (bO hTI rfl ?_)));show wpAny _ _ (Builtin.SmallTypes.ownedTupleIsFree (.ref z) >>= _) _ _ _;refine aa ?_;unfold Builtin.SmallTypes.ownedTupleIsFree;refine aa (bD hz rfl (x:=.none) rfl (ab ?_));simp only[if_true];refine aa (cT (aa (bD hz rfl (x:=.ref TO) rfl (aa (dP hz (by simp) fun h₁ hz1A hs1=>?_)))));replace hz1A:IsZip h₁ z TI TO .ellipsis:=hz1A;refine aa ?_;simp only[eF,List.zipIdx_nil,bI,bN];refine aa (aa (wpAny_onRaise ?_));show wpAny _ _ (Builtin.SmallTypes.nextOf (.ref i1) >>= _) _ _ _;refine aa (zgu hh (h1.ext hs1.extBut D.i1z) (hl1.ext hs1.extBut D.l1z) hx fun h2A e hs2 he=>?_);refine fC he fun oe hoe hce=>?_;have hz2A:IsZip h2A z TI TO .ellipsis:=hs2 _ _ D.i1z.symm hz1A;have hez:e≠z:=fun x=>by subst x;rw[hz2A] at hoe;injection hoe with fu;subst fu;simp at hce
 refine dP hz2A (by simp) fun h3A uA hs3=>?_;refine aa (dD (T:="StopIteration") (b:=true) ⟨oe,hs3.extBut _ _ hez hoe,hce⟩ isSubtype_stop ?_);exact ab (hQ h3A fun c o c1 c3 x=>hs3.extBut _ _ c1 (hs2 _ _ c3 (hs1.extBut _ _ c1 x)))
theorem zif{q:SqK}{l:Addr}{xs:Array Value}{Q:Value->Shared->Prop}(hl:IsSq q s.heap l xs)(hQ:Q (.ref s.heap.objs.size) { s with heap:=s.heap.push { cls:=.type q.itc,data:=.fields #[.ref l,.int 0 0] } }):wpAny (model prog w) A (pyIter (.ref l)) Q E s:=by
 cases q with
 | tup=>exact iter_tuple hl hQ
 | lst=>exact ct hl hQ
noncomputable abbrev zH1(q1:SqK)(h:Heap)(l:Addr):Heap:=h.push { cls:=.type q1.itc,data:=.fields #[.ref l,.int 0 0] }
noncomputable abbrev zH2(q1 q2:SqK)(h:Heap)(l t:Addr):Heap:=(zH1 q1 h l).push { cls:=.type q2.itc,data:=.fields #[.ref t,.int 0 0] }
noncomputable abbrev zH3(q1 q2:SqK)(h:Heap)(l t:Addr):Heap:=(zH2 q1 q2 h l t).push { cls:=.type "tuple",data:=.seq #[.ref h.objs.size,.ref (zH1 q1 h l).objs.size] }
noncomputable abbrev zH4(q1 q2:SqK)(h:Heap)(l t:Addr):Heap:=(zH3 q1 q2 h l t).push { cls:=.type "tuple",data:=.seq #[.none,.none] }
noncomputable abbrev zH5(q1 q2:SqK)(h:Heap)(l t:Addr):Heap:=(zH4 q1 q2 h l t).push { cls:=.type "zip",data:=.fields #[.none,.bool false,.bool false,.ref (zH2 q1 q2 h l t).objs.size,.ref (zH3 q1 q2 h l t).objs.size] }
theorem zjm(q1 q2:SqK)(l t:Addr)(xs ys:Array Value) :
 Meets (Builtin.«zip.__new__» ⟨[.type "zip",.ref l,.ref t],[]⟩) (fun uA R s=>IsSq q1 s.heap l xs/\IsSq q2 s.heap t ys /\
  R (.ok (.ret (.ref (zH4 q1 q2 s.heap l t).objs.size))) { s with heap:=zH5 q1 q2 s.heap l t }):=
 .of_wp fun prog w A R s h=>by
  obtain⟨hp,g,d,tk,os⟩:=s;refine fI h fun hl1 hl2 h=>?_;have hsub:=sub_zip;have hL1:IsSq q1 (Shared.heap ⟨hp,g,d,tk,os⟩) l xs:=hl1;have hL2:IsSq q2 (Shared.heap ⟨hp.push { cls:=.type q1.itc,data:=.fields #[.ref l,.int 0 0] },g,d,tk,os⟩) t ys:=let ⟨o,e,r⟩:=hl2;⟨o,ac _ e,r⟩;wp_walk using zif hL1,zif hL2;exact fD _ rfl h
theorem zno{l t:Addr}{Q:Value->Shared->Prop}(hl1:IsSq q1 s.heap l xs)(hl2:IsSq q2 s.heap t ys)
 (h:∀ h' z TI TO i1 i2,ZAt q1 q2 h' z TI TO i1 i2 l t 0 .none->IsPair h' TO .none .none->ZipApart z TI TO i1 i2 l t->(∀ c∈[z,TI,TO,i1,i2],s.heap.get? c=none)->(∀ c o,s.heap.get? c=some o->h'.get? c=some o)->Q (.ref z) { s with heap:=h' }) :
 wpAny (model prog w) A (call (.type "zip") [.ref l,.ref t]) Q E s:=by
 refine callType_new F.called_zip (by decide) (F.typeCall_zip_2 _ _) (F.newCall_zip_2 _ _) (fun obj=>F.args_object_init_3 obj _ _) F.entry_zip_new (zjm q1 q2 l t xs ys) ⟨hl1,hl2,?_⟩;have hl:l < s.heap.objs.size:=by refine fC hl1 fun fy e fy=>?_;exact aY e
 have ht:t < s.heap.objs.size:=by refine fC hl2 fun fy e fy=>?_;exact aY e
 have z1:(zH1 q1 s.heap l).objs.size=s.heap.objs.size+1:=bv ..
 have z2:(zH2 q1 q2 s.heap l t).objs.size=s.heap.objs.size+2:=by rw[bv,z1]
 have z3:(zH3 q1 q2 s.heap l t).objs.size=s.heap.objs.size+3:=by rw[bv,z2]
 have z4:(zH4 q1 q2 s.heap l t).objs.size=s.heap.objs.size+4:=by rw[bv,z3]
 have g5:(zH5 q1 q2 s.heap l t).get? (zH4 q1 q2 s.heap l t).objs.size=some _:=aw _ rfl;have g4:(zH5 q1 q2 s.heap l t).get? (zH3 q1 q2 s.heap l t).objs.size=some _:=ac _ (aw _ rfl);have g3:(zH5 q1 q2 s.heap l t).get? (zH2 q1 q2 s.heap l t).objs.size=some _:=ac _ (ac _ (aw _ rfl));have g2:(zH5 q1 q2 s.heap l t).get? (zH1 q1 s.heap l).objs.size=some _:=ac _ (ac _ (ac _ (aw _ rfl)));have g1:(zH5 q1 q2 s.heap l t).get? s.heap.objs.size=some _:=ac _ (ac _ (ac _ (ac _ (aw _ rfl))));refine⟨⟨_,g5,rfl⟩,h _ _ _ _ _ _ ⟨g5,g3,⟨_,g1,rfl,rfl⟩,⟨_,g2,rfl,rfl⟩⟩ g4 ?_ (fun c hc=>bk ?_) fun c o x=>
  ac _ (ac _ (ac _ (ac _ (ac _ x))))⟩
 ·rw[z4,z3,z2,z1];exact zipApart_new hl ht
 ·simp only[ag,dB,or_false] at hc;rcases hc with rfl | rfl | rfl | rfl | rfl
  ·rw[z4];exact eG _ _
  ·rw[z2];exact eG _ _
  ·rw[z3];exact eG _ _
  ·exact aH _
  ·rw[z1];exact eG _ _
end
inductive Shy(Bd:List PyData->Prop):PyData->Prop
 | none:Shy Bd .none
 | bool (b:Bool):Shy Bd (.bool b)
 | int (i:Int):Shy Bd (.int i)
 | str (x:Str):Shy Bd (.str x)
 | list {xs:List PyData} (h:∀ x∈xs,Shy Bd x):Shy Bd (.list xs)
 | tuple {xs:List PyData} (h:∀ x∈xs,Shy Bd x) (hb:¬ Bd xs):Shy Bd (.tuple xs)
variable{Bd:List PyData->Prop}
theorem Shy.of_list{xs:List PyData}(h:Shy Bd (.list xs)):∀ x∈xs,Shy Bd x:=by cases h;assumption
theorem Shy.of_tuple{xs:List PyData}(h:Shy Bd (.tuple xs)):(∀ x∈xs,Shy Bd x)/\¬ Bd xs:=by cases h;exact⟨by assumption,by assumption⟩
noncomputable def ShyV(Bd:List PyData->Prop):V->Prop
 | .d x=>Shy Bd x
 | .box _=>True
 | .tm _=>False
noncomputable def ShyB(Bd:List PyData->Prop):Box->Prop
 | .lst xs=>∀ x∈xs,Shy Bd x
 | .dct kvs=>∀ kv∈kvs,Shy Bd (wo kv.1)/\Shy Bd kv.2
structure ShyS(Bd:List PyData->Prop)(ρ:Loc)(O:za):Prop where
 loc:∀ v,some v∈ρ->ShyV Bd v
 box:∀ b∈O,ShyB Bd b
theorem Reads.same{h:Heap}{v:Value}{x:PyData}{as:List Addr}(r:Reads h v x as):Shy Bd x->∀ (x':PyData) (as':List Addr),Reads h v x' as'->x'=x:=
 Reads.rec (motive_1:=fun v x as uA=>Shy Bd x->∀ (x':PyData) (as':List Addr),Reads h v x' as'->x'=x) (motive_2:=fun vs xs as uA=>(∀ x∈xs,Shy Bd x)->∀ (xs':List PyData) (as':List Addr),ReadsAll h vs xs' as'->xs'=xs)
  (fun uA x' as' r=>kh r) (fun b uA x' as' r=>by cases r;rfl) (fun i t uA x' as' r=>by cases r;rfl) (fun x t uA x' as' r=>by cases r;rfl)
  (fun h1 h2 h3 uA ih s x' as' r=>by
    cases r with
    | list q1 q2 q3 q4=>rw[h1] at q1;injection q1 with fu;subst fu;rw[h3] at q3;injection q3 with fu fw;subst fu fw;rw[ih s.of_list _ _ q4]
    | tuple q1 q2 q3 q4=>rw[h1] at q1;injection q1 with fu;subst fu;rw[h2] at q2;exact absurd q2 (by simp)
    | dict q1 q2 q3 q4=>rw[h1] at q1;injection q1 with fu;subst fu;rw[h2] at q2;exact absurd q2 (by simp))
  (fun h1 h2 h3 uA ih s x' as' r=>by
    cases r with
    | list q1 q2 q3 q4=>rw[h1] at q1;injection q1 with fu;subst fu;rw[h2] at q2;exact absurd q2 (by simp)
    | tuple q1 q2 q3 q4=>rw[h1] at q1;injection q1 with fu;subst fu;rw[h3] at q3;injection q3 with fu fw;subst fu fw;rw[ih s.of_tuple.1 _ _ q4]
    | dict q1 q2 q3 q4=>rw[h1] at q1;injection q1 with fu;subst fu;rw[h2] at q2;exact absurd q2 (by simp))
  (fun uA uA uA uA uA uA uA s=>nomatch s)
  (fun uA xs' as' r=>wh r)
  (fun uA uA i1 i2 s xs' as' r=>by
    obtain⟨x,ys,_,_,rfl,r1,r2⟩:=xy r;rw[i1 (s _ am) _ _ r1,i2 (fun x hx=>s x (ah _ hx)) _ _ r2]) r
inductive ZOwn(Bd:List PyData->Prop)(h:Heap)(T:Addr):Prop
 | none (e:IsPair h T .none .none):ZOwn Bd h T
 | data (a b:Value) (e:IsPair h T a b) (x y:PyData) (as cs:List Addr) (r1:Reads h a x as) (r2:Reads h b y cs) (s1:Shy Bd x) (s2:Shy Bd y) (hb:Bd [x,y]):ZOwn Bd h T
theorem ZOwn.pair{h:Heap}{T:Addr}(o:ZOwn Bd h T):∃ a b,IsPair h T a b:=by
 cases o with
 | none e=>exact fY _ _ e
 | data a b e=>exact fY a b e
theorem ZOwn.bad{h:Heap}{T:Addr}(hN:Bd [.none,.none])(o:ZOwn Bd h T){ob:Obj}{vs:Array Value}{n:Nat}(e:h.get? T=some ob)(hd:ob.data=.seq vs n){xs:List PyData}{as:List Addr}(r:ReadsAll h vs.toList xs as):Bd xs:=by
 cases o with
 | none e'=>
   have e':h.get? T=_:=e';rw[e] at e';injection e' with fu;subst fu;injection hd with fu fw;subst fu fw
   obtain⟨x,ys,_,_,rfl,r1,r'⟩:=xy r;obtain⟨y,zs,_,_,rfl,r2,r''⟩:=xy r';rw[wh r'',kh r1,kh r2];exact hN
 | data a b e' x y as cs g1 g2 s1 s2 hb=>
   have e':h.get? T=_:=e';rw[e] at e';injection e' with fu;subst fu;injection hd with fu fw;subst fu fw
   obtain⟨x',ys,_,_,rfl,r1,r'⟩:=xy r;obtain⟨y',zs,_,_,rfl,r2,r''⟩:=xy r';rw[wh r'',Reads.same g1 s1 _ _ r1,Reads.same g2 s2 _ _ r2];exact hb
section
variable{G:Gl}{F:Fm}{N β Z:List Addr}{T:Addr}{ρ:Loc}{O:za}{h h':Heap}(hz:∀ z∈Z,Itr h z)(hN:Bd [.none,.none])(ho:ZOwn Bd h T)(hk:∀ b o,b∉Z->b≠T->h.get? b=some o->h'.get? b=some o)
include hz hN ho hk
theorem getS{b:Addr}{o:Obj}(e:h.get? b=some o)(hd:∀ fs,o.data≠.fields fs)(hc:∀ vs n,o.data=.seq vs n->o.cls≠.type "tuple"):h'.get? b=some o:=by
 refine hk b o (notZ hz e hd) (fun hb=>?_) e;obtain⟨x,y,ep⟩:=ho.pair;have ep:h.get? T=_:=ep;rw[<- hb,e] at ep;injection ep with fu;subst fu
 exact hc _ _ rfl rfl
theorem jt{v:Value}{x:PyData}{as:List Addr}(r:Reads h v x as):Shy Bd x->Reads h' v x as:=
 Reads.rec (motive_1:=fun v x as uA=>Shy Bd x->Reads h' v x as) (motive_2:=fun vs xs as uA=>(∀ x∈xs,Shy Bd x)->ReadsAll h' vs xs as)
  (fun uA=>.none) (fun b uA=>.bool b) (fun i t uA=>.int i t) (fun x t uA=>.str x t)
  (fun h1 h2 h3 uA ih s=>.list (getS hz hN ho hk h1 (fun fs q=>by rw[h3] at q;contradiction) fun uA uA uA q=>by rw[h2] at q;exact absurd q (by simp)) h2 h3 (ih s.of_list))
  (fun {a o vs n xs as} h1 h2 h3 r ih s=>.tuple (hk a o (notZ hz h1 fun fs q=>by rw[h3] at q;contradiction) (fun e=>s.of_tuple.2 (ho.bad hN (e ▸ h1) h3 r)) h1) h2 h3 (ih s.of_tuple.1))
  (fun uA uA uA uA uA uA uA s=>nomatch s)
  (fun uA=>.nil) (fun uA uA i1 i2 s=>.cons (i1 (s _ am)) (i2 fun x hx=>s x (ah _ hx))) r
theorem zab{vs:List Value}{xs:List PyData}{as:List Addr}(r:ReadsAll h vs xs as)(s:∀ x∈xs,Shy Bd x):ReadsAll h' vs xs as:=by
 revert s;refine yb (motive:=fun vs xs as=>(∀ x∈xs,Shy Bd x)->ReadsAll h' vs xs as) (fun uA=>.nil) (fun {v d as vs ds bs} r uA ih s=>.cons (jt hz hN ho hk r (s _ am)) (ih fun x hx=>s x (ah _ hx))) r
theorem VR.keepS{v:Value}{x:V}(r:VR G N β h v x)(s:ShyV Bd x):VR G N β h' v x:=by
 cases x with
 | d x=>obtain⟨as,r,q⟩:=r;exact⟨as,jt hz hN ho hk r s,q⟩
 | box n=>exact r
 | tm its=>cases s
theorem BoxAt.keepS{a:Addr}{bx:Box}(r:BoxAt h N β a bx)(s:ShyB Bd bx):BoxAt h' N β a bx:=by
 cases bx with
 | lst xs=>obtain⟨o,vs,n,h1,h2,h3,as,h4,h5⟩:=r;exact⟨o,vs,n,getS hz hN ho hk h1 (fun fs q=>by rw[h3] at q;contradiction) (fun uA uA uA q=>by rw[h2] at q;exact absurd q (by simp)),h2,h3,as,zab hz hN ho hk h4 s,h5⟩
 | dct kvs=>
   obtain⟨o,es,n,h1,h2,h3,h4,h5⟩:=r;refine⟨o,es,n,getS hz hN ho hk h1 (fun fs q=>by rw[h3] at q;contradiction) (fun uA uA q=>by rw[h3] at q;contradiction),h2,h3,h4,fun i e kv he hkv=>?_⟩;obtain⟨hq,as,bs,r1,r2,q⟩:=h5 i e kv he hkv;exact⟨hq,as,bs,jt hz hN ho hk r1 (s _ (ay hkv)).1,jt hz hN ho hk r2 (s _ (ay hkv)).2,q⟩
theorem nsS{L:Addr}{m:Str->Option Value}(x:h.Ns L m):h'.Ns L m:=by
 refine fP x fun o es ep h1 h2 r=>?_;exact fT o es ep (getS hz hN ho hk h1 (fun fs q=>by rw[h2] at q;contradiction) (fun uA uA q=>by rw[h2] at q;contradiction)) h2 r
theorem zqp{c:Addr}{v:Option Value}(x:h.IsCell c v):h'.IsCell c v:=by
 refine fC x fun o h1 h2=>?_;exact fD o (getS hz hN ho hk h1 (fun fs q=>by rw[h2] at q;contradiction) (fun uA uA q=>by rw[h2] at q;contradiction)) h2
theorem SR.keepS(hz0:∀ z∈Z,G.h₀.get? z=none)(hT0:G.h₀.get? T=none)(hzB:∀ z∈Z,z∉F.B)(hTB:T∉F.B)(r:SR G F β ρ O h)(s:ShyS Bd ρ O):SR G F β ρ O h':=by
 have f:=r.fm;refine⟨⟨fun c o e=>hk _ _ (fun hb=>by rw[hz0 c hb] at e;contradiction) (fun hb=>by rw[hb,hT0] at e;contradiction) (r.br.keep c o e),r.br.len,r.br.nodup,r.br.new,fun i a bx h1 h2=>(r.br.at_ i a bx h1 h2).keepS hz hN ho hk (s.box _ (ay h2)),fun a ha=>(r.br.plain a ha).at fun o e=>?_⟩,
  ⟨f.kind,f.globals,f.builtins,f.once,let ⟨m,e⟩:=f.ns;⟨m,nsS hz hN ho hk e⟩,f.nsW,fun x h1=>let ⟨c,v,h3,h4,h5⟩:=f.cell x h1;⟨c,v,h3,zqp hz hN ho hk h4,h5⟩,f.apart,f.sub,f.new,f.notBox,
    fun a ha=>let ⟨o,h1,h2⟩:=f.stor a ha;⟨o,hk _ _ (fun hb=>hzB a hb ha) (fun hb=>hTB (hb ▸ ha)) h1,h2⟩,f.frB,fun a ha=>let ⟨m,e⟩:=f.frs a ha;⟨m,nsS hz hN ho hk e⟩,fun m e=>⟨nsS hz hN ho hk (f.pin m e).1,(f.pin m e).2⟩⟩,
  fun i x v h1 h2=>?_⟩
 ·refine hk a o (r.br.notItr hz (fun b o hb e=>e) ha) (fun hT=>?_) e;refine fC (r.br.alive a ha) fun o' e' hc=>?_;obtain⟨x,y,ep⟩:=ho.pair;have ep:h.get? T=_:=ep;rw[<- hT,e'] at ep;injection ep with fu;subst fu
  refine fx hc (fun hc=>?_) fun hc=>?_ <;> exact absurd hc (by simp)
 ·refine fC (r.get i x v h1 h2) fun val h3 h4=>?_;refine fD val ?_ (h4.keepS hz hN ho hk (s.loc v (ay h2)));refine fx h3 ?_ ?_
  ·rintro ⟨g1,m,g2,g3⟩;exact .inl ⟨g1,m,nsS hz hN ho hk g2,g3⟩
  ·rintro ⟨g1,c,g2,g3⟩;exact .inr ⟨g1,c,g2,zqp hz hN ho hk g3⟩
end
end Mine
end
section
namespace Mine
open PySem PyProof.Rows
theorem zi7{i n:Nat}(h:i < n):n+1 - (i+1) < n+1 - i:=by lia
theorem in5{α:Type}{z a b c d:α}:∀ x∈[z,c,d],x∈[z,a,b,c,d]:=fun uA h=>List.Sublist.subset (.cons_cons _ (.cons _ (.cons _ (List.Sublist.refl _)))) h
theorem all4{α:Type}{p:α->Prop}{a b c d:α}(h1:p a)(h2:p b)(h3:p c)(h4:p d):∀ x∈[a,b,c,d],p x:=fun x hx=>by
 refine fx (ag.mp hx) ?_ ?_;rotate_left;intro hx;rotate_right;rintro rfl
 ·exact h1
 refine fx (ag.mp hx) ?_ ?_;rotate_left;intro hx;rotate_right;rintro rfl
 ·exact h2
 refine fx (ag.mp hx) ?_ ?_
 ·rintro rfl;exact h3
 ·intro hx;rw[ae.mp hx];exact h4
noncomputable def zipT(xs ys:List PyData):List PyData:=List.zipWith (fun x y=>.tuple [x,y]) xs ys
noncomputable def SqK.mk:SqK->List PyData->PyData
 | .lst,xs=>.list xs
 | .tup,xs=>.tuple xs
noncomputable def sqOf:SqK->PyData->Option (List PyData)
 | .lst,.list xs=>some xs
 | .tup,.tuple xs=>some xs
 | _,_=>none
theorem zeb{q:SqK}{x:PyData}{xs:List PyData}(h:sqOf q x=some xs):x=q.mk xs:=by
 cases q <;> cases x <;> first | (cases h;rfl) | contradiction
structure ZOk(Bd:List PyData->Prop)(q1 q2:SqK)(xs ys:List PyData):Prop where
 len:xs.length=ys.length
 sx:Shy Bd (q1.mk xs)
 sy:Shy Bd (q2.mk ys)
 non:Bd [.none,.none]
 bad:∀ (i:Nat) x y,xs[i]?=some x->ys[i]?=some y->Bd [x,y]
theorem Shy.of_sq{Bd:List PyData->Prop}{q:SqK}{xs:List PyData}(h:Shy Bd (q.mk xs)):∀ x∈xs,Shy Bd x:=by
 cases q with
 | lst=>exact Shy.of_list h
 | tup=>exact (Shy.of_tuple h).1
inductive SqV(q:SqK)(h:Heap)(N β:List Addr)(v:Value)(xs:List PyData):Prop
 | mk (a:Addr) (o:Obj) (vs:Array Value) (n:Nat) (hv:v=.ref a) (h1:h.get? a=some o) (h2:o.cls=.type q.cls) (h3:o.data=.seq vs n) (as:List Addr) (h4:ReadsAll h vs.toList xs as) (h5:∀ a∈as,a∉β/\a∉N)
theorem VR.sq_inv{G:Gl}{q:SqK}{h:Heap}{N β:List Addr}{v:Value}{xs:List PyData}(r:VR G N β h v (.d (q.mk xs))):SqV q h N β v xs:=by
 cases q with
 | tup=>obtain⟨a,o,vs,n,e,h1,h2,h3,as,h4,h5⟩:=VR.tuple_inv r;exact⟨a,o,vs,n,e,h1,h2,h3,as,h4,h5⟩
 | lst=>refine fN (VR.list_inv r) fun a e eO fy=>?_;obtain ⟨o,vs,n,h1,h2,h3,as,h4,h5⟩:=eO;exact⟨a,o,vs,n,e,h1,h2,h3,as,h4,h5⟩
noncomputable def xw(Bd:List PyData->Prop)(c:CT)(evb:Loc->za->R (Loc×za) Fl)(x:PyData)(ρ:Loc)(O:za):R (Loc×za) Fl:=@ite _ (ShyS Bd ρ O) (Classical.propDecidable _) (j5 c evb x ρ O) .stuck
noncomputable def zmq(Bd:List PyData->Prop)(q1 q2:SqK)(c:CT)(evb:Loc->za->R (Loc×za) Fl)(o1 o2:Option (List PyData))(S:Loc×za):R (Loc×za) Fl:=match o1,o2 with
 | some xs,some ys=>@ite _ (ZOk Bd q1 q2 xs ys) (Classical.propDecidable _) (zv (.plain (zipT xs ys)) (xw Bd c evb) (zipT xs ys) S.1 S.2) .stuck
 | _,_=>.stuck
noncomputable def zij(Bd:List PyData->Prop)(q1 q2:SqK)(c:CT)(evb:Loc->za->R (Loc×za) Fl)(p:V×V)(S:Loc×za):R (Loc×za) Fl:=match p with
 | (.d x,.d y)=>zmq Bd q1 q2 c evb (sqOf q1 x) (sqOf q2 y) S
 | _=>.stuck
noncomputable def CS.forG(Bd:List PyData->Prop)(q1 q2:SqK)(t:CT)(a b:CE)(c:CSs):CS:=fun P ρ O=>if P.hd=true then .stuck else (((evE P ρ a O).bind fun v O=>(evE P ρ b O).bind fun u O=>.ok (v,u) O).lift ρ).bind (zij Bd q1 q2 t fun ρ O=>evSs P c ρ O)
variable{Bd:List PyData->Prop}{q1 q2:SqK}
theorem zmp{src:Src}{c:CT}{evb:Loc->za->R (Loc×za) Fl}{x:PyData}{xs:List PyData}{ρ:Loc}{O:za}{fl:Fl}{S:Loc×za}(h:zv src (xw Bd c evb) (x::xs) ρ O=.ok fl S):ShyS Bd ρ O/\zn2 src c evb x (zv src (xw Bd c evb) xs) ρ O fl S:=by
 have h:(match xw Bd c evb x ρ O with
  | .ok (.ret v) S=>.ok (.ret v) S
  | .ok .next S=>if src.still S.2 then zv src (xw Bd c evb) xs S.1 S.2 else .stuck
  | _=>.stuck)=R.ok fl S:=h
 by_cases hs:ShyS Bd ρ O
 ·rw[show xw Bd c evb x ρ O=j5 c evb x ρ O from af hs] at h;exact⟨hs,ze7 h⟩
 ·rw[show xw Bd c evb x ρ O=.stuck from ak hs] at h;contradiction
section
variable{G:Gl}{F:Fm}{A:Around}{cx:Cx}{gval:Nat->Option PyData}{gname:Nat->Option Str}
inductive OwnV(G:Gl)(Bd:List PyData->Prop)(N β:List Addr)(h:Heap)(T:Addr):Prop
 | none (e:IsPair h T .none .none):OwnV G Bd N β h T
 | data (a b:Value) (e:IsPair h T a b) (x y:PyData) (r1:VR G N β h a (.d x)) (r2:VR G N β h b (.d y)) (s1:Shy Bd x) (s2:Shy Bd y) (hb:Bd [x,y]):OwnV G Bd N β h T
theorem OwnV.own{N β:List Addr}{h:Heap}{T:Addr}(o:OwnV G Bd N β h T):ZOwn Bd h T:=by
 cases o with
 | none e=>exact .none e
 | data a b e x y r1 r2 s1 s2 hb=>obtain⟨as,r1,_⟩:=r1;obtain⟨cs,r2,_⟩:=r2;exact .data a b e x y as cs r1 r2 s1 s2 hb
inductive TInv(G:Gl)(Bd:List PyData->Prop)(q1 q2:SqK)(F:Fm)(β0:List Addr)(s0:Shared)(z TI TO i1 i2 t l:Addr)(xs ys:List PyData)(go:List PyData->Loc->za->Prop)(k:Nat)(s:Shared):Prop
 | mk (i:Nat) (β:List Addr) (ρ:Loc) (O:za) (hk:k=xs.length+1 - i) (hi:i<=xs.length) (step:Step F.W β0 s0 s β) (sr:SR G F β ρ O s.heap) (Z:ZAt q1 q2 s.heap z TI TO i1 i2 t l i .none) (own:OwnV G Bd F.B β s.heap TO)
    (rt:VR G F.B β s.heap (.ref t) (.d (q1.mk xs))) (rl:VR G F.B β s.heap (.ref l) (.d (q2.mk ys))) (hgo:go ((zipT xs ys).drop i) ρ O)
theorem ZAt.at{h h':Heap}{z TI TO i1 i2 t l:Addr}{k:Nat}{f:Value}(Z:ZAt q1 q2 h z TI TO i1 i2 t l k f)(hk:∀ c∈[z,TI,i1,i2],∀ o,(∀ es n,o.data≠.dict es n)->h.get? c=some o->h'.get? c=some o):ZAt q1 q2 h' z TI TO i1 i2 t l k f:=by
 obtain⟨h1,h2,⟨o4,h4,c4,d4⟩,⟨o5,h5,c5,d5⟩⟩:=Z;exact⟨hk z (.head _) _ (fun uA uA e=>nomatch e) h1,hk TI (.tail _ (.head _)) _ (fun uA uA e=>nomatch e) h2,
  ⟨o4,hk i1 (.tail _ (.tail _ (.head _))) _ (fun uA uA e=>by rw[d4] at e;contradiction) h4,c4,d4⟩,⟨o5,hk i2 (.tail _ (.tail _ (.tail _ (.head _)))) _ (fun uA uA e=>by rw[d5] at e;contradiction) h5,c5,d5⟩⟩
theorem ZAt.itr{h:Heap}{z TI TO i1 i2 t l:Addr}{k:Nat}{f:Value}(Z:ZAt q1 q2 h z TI TO i1 i2 t l k f):∀ c∈[z,i1,i2],Itr h c:=fun c hc=>by
 obtain⟨h1,h2,⟨o4,h4,c4,d4⟩,⟨o5,h5,c5,d5⟩⟩:=Z;refine fx (ag.mp hc) ?_ ?_;rotate_left;intro hc;rotate_right;rintro rfl
 ·exact fT _ _ _ h1 rfl rfl
 refine fx (ag.mp hc) ?_ ?_
 ·rintro rfl;exact fT o4 _ _ h4 c4 d4
 ·intro hc;rw[ae.mp hc];exact fT o5 _ _ h5 c5 d5
theorem BR.notTup{N β:List Addr}{O:za}{h:Heap}(b:BR G N β O h){c:Addr}{x y:Value}(e:IsPair h c x y):c∉β:=fun hc=>by
 refine fC (b.alive c hc) fun o e' hd=>?_;have e:h.get? c=_:=e;rw[e] at e';injection e' with fu;subst fu
 refine fx hd (fun hd=>?_) fun hd=>?_ <;> exact absurd hd (by simp)
theorem ztb{es:List Expr}{kt:Nat}{pt:Pos}{c:CT}{own:Str->Bool}{body:List Stmt}{evb:Loc->za->R (Loc×za) Fl}{xs ys:List PyData}(g:GOk G gval gname)(hh:A.handled=none)(fit:Fits F cx)(hown:∀ x,own x=true->F.own x=true)(hc:chkT cx own c (.Tuple es kt pt)=true)
 (hb:∀ s β ρ O,SR G F β ρ O s.heap->Does G F A s β (execs body F.env) (evb ρ O) (yu G F)) {s:Shared} {β:List Addr} {ρ:Loc} {O:za} {v u:Value} (sr:SR G F β ρ O s.heap) (rv:VR G F.B β s.heap v (.d (q1.mk xs))) (ru:VR G F.B β s.heap u (.d (q2.mk ys))) (ok:ZOk Bd q1 q2 xs ys)
 {fl:Fl} {S:Loc×za} (hgo:zv (.plain (zipT xs ys)) (xw Bd c evb) (zipT xs ys) ρ O=.ok fl S) {Q:Flow->Shared->Prop} {E:Value->Shared->Prop}
 (kk:∀ s' β' f,Step F.W β s s' β'->SR G F β' S.1 S.2 s'.heap->yu G F β' s'.heap f fl->Q f s') :
 wpAny G.m A (call (.type "zip") [v,u]) (fun z s1A=>wpAny G.m A (pyIter z) (fun it s2A=>codeAny G.m A (.forLoop (.Tuple es kt pt) it body [] F.env)
  (fun r s'=>match r with | .ok f=>Q f s' | .error e=>cameBackBy G.m A F.env E e s') s2A) E s1A) E s:=by
 have rv0:=rv;have ru0:=ru;obtain⟨t,ot,vt,nt,rfl,t1,t2,t3,at',t4,t5⟩:=rv.sq_inv;obtain⟨l,ol,vl,nl,rfl,l1,l2,l3,al,l4,l5⟩:=ru.sq_inv;refine zno (q1:=q1) (q2:=q2) ⟨ot,t1,t2,nt,t3⟩ ⟨ol,l1,l2,nl,l3⟩ fun h₁ z TI TO i1 i2 Z hTO D fresh kept=>wpAny_pyIter_zip Z.zip ?_;clear t1 t2 t3 t4 t5 l1 l2 l3 l4 l5;have f0:∀ c∈[z,TI,TO,i1,i2],G.h₀.get? c=none:=fun c hc=>by
  cases e:G.h₀.get? c with
  | none=>rfl
  | some o=>have:=sr.br.keep c o e;rw[fresh c hc] at this;contradiction
 have fB:∀ c∈[z,TI,TO,i1,i2],c∉F.B:=fun c hc hB=>by
  refine fC (sr.fm.stor c hB) fun o e fy=>?_;rw[fresh c hc] at e;contradiction
 have m3:∀ c∈[z,i1,i2],c∈[z,TI,TO,i1,i2]:=in5;have ka:KeepsAll s { s with heap:=h₁ }:=⟨rfl,rfl,kept⟩;refine codeAny_forLoop_any (TInv G Bd q1 q2 F β s z TI TO i1 i2 t l xs ys fun zs ρ O=>zv (.plain (zipT xs ys)) (xw Bd c evb) zs ρ O=.ok fl S) ?_ (xs.length+1) ⟨0,β,ρ,O,rfl,be _,ka.step _ _,sr.keepAll kept,Z,.none hTO,rv0.keepAll kept,ru0.keepAll kept,hgo⟩;clear hgo Z hTO ka rv0 ru0;intro k s' hI;obtain⟨i,β',ρ',O',rfl,hi,step,sr',Z,own,rt,rl,hgo⟩:=hI;have hitr:=Z.itr;have hlz:(zipT xs ys).length=xs.length:=by unfold zipT;rw[List.length_zipWith,<- ok.len,Nat.min_self]
 have rt':=rt;have rl':=rl;obtain⟨t',ot,vt,nt,e,t1,t2,t3,at',t4,t5⟩:=rt.sq_inv;injection e with fu;subst fu
 obtain⟨l',ol,vl,nl,e,l1,l2,l3,al,l4,l5⟩:=rl.sq_inv;injection e with fu;subst fu;by_cases hlt:i < xs.length
 ·have hxi:xs[i]?=some xs[i]:=au hlt;have hly:i < ys.length:=by rw[<- ok.len];exact hlt
  have hyi:ys[i]?=some ys[i]:=au hly;have hzi:(zipT xs ys).drop i=.tuple [xs[i],ys[i]]::(zipT xs ys).drop (i+1):=by
   rw[List.drop_eq_getElem_cons (by rw[hlz];exact hlt)];unfold zipT;rw[List.getElem_zipWith]
  rw[hzi] at hgo;obtain⟨hshy,ρ'',f,S',hbt,he,hrest⟩:=zmp hgo;have sx:Shy Bd xs[i]:=ok.sx.of_sq _ (ay hxi);have sy:Shy Bd ys[i]:=ok.sy.of_sq _ (ay hyi);have hbd:Bd [xs[i],ys[i]]:=ok.bad i _ _ hxi hyi;have hN:=ok.non;generalize xs[i]=x at hxi hbt sx hzi hbd;generalize ys[i]=y at hyi hbt sy hzi hbd;refine fL (zr t4 t5 hxi) fun vx bx x1 x2 x3=>?_;refine fL (zr l4 l5 hyi) fun vy by' y1 y2 y3=>?_;rw[aT] at x1 y1;obtain⟨ta,tb,hTO⟩:=own.own.pair;refine zkp D Z hTO ⟨ot,t1,t2,nt,t3⟩ ⟨ol,l1,l2,nl,l3⟩ x1 y1 fun h2A Z2 hTO2 hT hk2A=>?_;have zlt:s'.heap.objs.size≠z:=cX (aY Z.zip);refine wpAny_letOwnedTupleGo_zip (s:={ s' with heap:=h2A }) Z2.zip fun h3A hz3 hs3=>?_;have hk3:∀ b o,b∉[z,i1,i2]->b≠TO->s'.heap.get? b=some o->h3A.get? b=some o:=fun b o hb hbT e=>by
   exact hs3.extBut _ _ (fun e=>hb (e ▸ .head _)) (hk2A b o (fun e=>hb (e ▸ .head _)) hbT (fun e=>hb (e ▸ .tail _ (.head _))) (fun e=>hb (e ▸ .tail _ (.tail _ (.head _)))) e)
  have Z3:ZAt q1 q2 h3A z TI TO i1 i2 t l (i+1) .none:=by
   obtain⟨_,q2,⟨o4,q4,r4⟩,q5⟩:=Z2;exact⟨hz3,hs3.extBut _ _ D.TIz q2,⟨o4,hs3.extBut _ _ D.i1z q4,r4⟩,q5.ext hs3.extBut D.i2z⟩
  have hTO3:IsPair h3A TO vx vy:=hs3.extBut _ _ D.TOz hTO2;have sr3:SR G F β' ρ' O' h3A:=sr'.keepS hitr hN own.own hk3 (fun c hc=>f0 c (m3 c hc)) (f0 TO (.tail _ (.tail _ (.head _)))) (fun c hc=>fB c (m3 c hc)) (fB TO (.tail _ (.tail _ (.head _)))) hshy;have rx:VR G F.B β' h3A vx (.d x):=VR.keepS hitr hN own.own hk3 (x:=.d x) ⟨bx,x2,x3⟩ sx;have ry:VR G F.B β' h3A vy (.d y):=VR.keepS hitr hN own.own hk3 (x:=.d y) ⟨by',y2,y3⟩ sy;have rt3:=rt'.keepS hitr hN own.own hk3 ok.sx;have rl3:=rl'.keepS hitr hN own.own hk3 ok.sy;have rp:VR G F.B β' h3A (.ref s'.heap.objs.size) (.d (.tuple [x,y])):=by
   obtain⟨as,r1,q1⟩:=id rx;obtain⟨bs,r2,q2⟩:=id ry;exact⟨_,.tuple (hs3.extBut _ _ zlt hT) rfl rfl (.cons r1 (.cons r2 .nil)),fun a ha=>by
    rw[bc] at ha;exact (aj.mp ha).elim (q1 a) (q2 a)⟩
  have step3:Step F.W β s { s' with heap:=h3A } β':=step.thenZ (Z:=[z,TI,TO,i1,i2]) ⟨rfl,rfl,fun b o hb e=>hk3 b o (fun h=>hb (m3 b h)) (fun h=>hb (h ▸ .tail _ (.tail _ (.head _)))) e⟩ fresh;have da:=x6 (A:=A) (s:={ s' with heap:=h3A }) hh fit hown c hc sr3 rp;unfold bindR at da;dsimp only at da;rw[hbt] at da;dsimp only at da;refine da _ _ fun s4A β4 uA st4 sr4 uA=>?_;have db:=hb s4A β4 ρ'' O' sr4;rw[he] at db;refine db _ _ fun s5 β5 f' st5A sr5 rf=>?_;have st:=st4.trans st5A;have step5:=step3.trans st
  cases hrest with
  | ret w e=>
    subst e;refine fC rf ?_;clear rf;intro val eN rv';subst eN;exact kk s5 β5 (.ret val) step5 sr5 ⟨val,rfl,rv'⟩
  | next _ hst hgo=>
    have rf:f'=.next:=rf;subst rf;have nW:∀ c∈[z,TI,TO,i1,i2],c∉F.W:=fun c hc hW=>fB c hc (sr.fm.sub c hW);refine⟨xs.length+1 - (i+1),zi7 hlt,i+1,β5,S'.1,S'.2,rfl,hlt,step5,sr5,Z3.at (all4 (fun o hd e=>st.keptE e (dj sr3.br Z3.itr _ (.head _)) (nW _ (.head _)) hd) (fun o hd e=>st.keptE e (sr3.br.notTup Z3.ti) (nW _ (.tail _ (.head _))) hd) (fun o hd e=>st.keptE e (dj sr3.br Z3.itr _ (.tail _ (.head _))) (nW _ (.tail _ (.tail _ (.tail _ (.head _))))) hd) fun o hd e=>st.keptE e (dj sr3.br Z3.itr _ (.tail _ (.tail _ (.head _)))) (nW _ (.tail _ (.tail _ (.tail _ (.tail _ (.head _)))))) hd),.data vx vy ?_ x y (rx.step sr3.br sr3.fm st) (ry.step sr3.br sr3.fm st) sx sy hbd,rt3.step sr3.br sr3.fm st,rl3.step sr3.br sr3.fm st,hgo⟩;exact st.keptE hTO3 (sr3.br.notTup hTO3) (nW TO (.tail _ (.tail _ (.head _)))) fun uA uA e=>nomatch e
 ·have hie:i=xs.length:=by lia
  have hd:(zipT xs ys).drop i=[]:=by rw[List.drop_eq_nil_iff,hlz,hie];exact aH _
  rw[hd] at hgo;have hgo:Mine.R.ok Fl.next (ρ',O')=Mine.R.ok fl S:=hgo;injection hgo with fu fw;subst fu fw
  have hnone:vt[i]?=none:=by
   rw[<- aT,a7];rw[zd t4,hie];exact aH _
  refine zn3 hh D Z ⟨ot,t1,t2,nt,t3⟩ hnone fun h' hk=>?_;have kz:KeepsZ [z,i1] s' { s' with heap:=h' }:=⟨rfl,rfl,fun b o hb e=>hk b o (fun e=>hb (e ▸ .head _)) (fun e=>hb (e ▸ .tail _ (.head _))) e⟩;have m2:∀ c∈[z,i1],c∈[z,i1,i2]:=fun c hc=>aC [i2] hc;exact wpAny_execs_nil (kk _ β' .next (step.thenZ kz fun c hc=>fresh c (m3 c (m2 c hc))) (sr'.keepZ (fun c hc=>hitr c (m2 c hc)) kz.kept g.clsRef (fun c hc=>f0 c (m3 c (m2 c hc))) fun c hc=>fB c (m3 c (m2 c hc))) rfl)
end
set_option tactic.hygienic true in
theorem zrl{cx:Cx}{x y:Expr}{a b:CE}{c:CSs}{t:CT}{body:List Stmt}{es:List Expr}{pt ps q pos:Pos}{kt:Nat}(h1:JE cx x a)(h2:JE cx y b)(hb:JSs cx body c)(hx:cx.isGlob "zip" = true)(hc:chkT cx (ownOf cx.sc) t (.Tuple es kt pt)=true) :
 JS cx (.For (.Tuple es kt pt) (.Call (.Name "zip" ps) [x,y] [] q) body [] pos) (.forG Bd q1 q2 t a b c):=⟨fun {G A P F s β ρ O} hr sr=>by
 show Does G F A s β _ (if P.hd=true then .stuck else _:R (Loc×za) Fl) _;by_cases hd:P.hd=true
 ·rw[af hd];trivial
 rw[ak hd];have hh:=hr.run.hm (aX.mpr hd);refine fH (hr.run.g.bi ("zip",.type "zip") (by decide)) fun b1 b2=>?_
 let evb:Loc->za->R (Loc×za) Fl:=fun ρ O=>evSs P c ρ O
 have e1:(((evE P ρ a O).bind fun v O=>(evE P ρ b O).bind fun u O=>R.ok (v,u) O).lift ρ).bind (zij Bd q1 q2 t evb)=((evE P ρ a O).lift ρ).bind fun v S=>((evE P ρ b S.2).lift ρ).bind fun u S'=>zij Bd q1 q2 t evb (v,u) (ρ,S'.2):=by
  cases evE P ρ a O with
  | ok v O'=>
    show (((evE P ρ b O').bind fun u O=>R.ok (v,u) O).lift ρ).bind _=((evE P ρ b O').lift ρ).bind _
    cases evE P ρ b O' <;> rfl
  | stuck=>rfl
 rw[e1]
 let tail:Value->Value->WT Flow:=fun v u Q E s=>wpAny G.m A (call (.type "zip") [v,u]) (fun z s1A=>wpAny G.m A (pyIter z) (fun it s2A=>codeAny G.m A (.forLoop (.Tuple es kt pt) it body [] F.env)
  (fun r s'=>match r with | .ok f=>Q f s' | .error e=>cameBackBy G.m A F.env E e s') s2A) E s1A) E s
 refine DoesW.seq (T2A:=fun v Q E s=>wpAny G.m A (eval y F.env) (fun u s1A=>tail v u Q E s1A) E s) (fun Q E h=>?_) (h1.d hr.toHere sr) fun s1A β1 v d S e st sr1 rv=>?_
 ·exact wpAny_For (dK rfl (ye hr.run.g sr hr.fit hx b1 b2 (callWith_type1 (co (aK h (fun v s1A h₁=>co (aK h₁ (fun u s2A h2A=>dC h2A) fun uA uA x=>x) h2.px.star) fun uA uA x=>x) h1.px.star) h1.px.star (by rw[h2.px.star];rfl)))) fun v=>rfl
 ·have hS:S=(ρ,S.2):=by
   cases hv:evE P ρ a O with
   | ok _ _=>rw[hv] at e;injection e with fu fw;subst fu fw;rfl
   | stuck=>rw[hv] at e;contradiction
  rw[hS] at sr1;refine DoesW.seq (T1A:=tr G A (eval y F.env)) (T2A:=fun u=>tail v u) (fun Q E h=>h) (h2.d hr.toHere sr1) fun s2A β2 u d2A S2 e2A st2 sr2 ru=>?_;have hS2A:S2.1=ρ:=by
   cases hv:evE P ρ b S.2 with
   | ok _ _=>rw[hv] at e2A;injection e2A with fu fw;subst fu fw;rfl
   | stuck=>rw[hv] at e2A;contradiction
  rw[hS2A] at sr2;have rv2:=rv.step sr1.br sr1.fm st2;clear rv e e2A
  cases d <;> first | trivial | skip
  rename_i dx
  cases d2A <;> first | trivial | skip
  rename_i dy;show DoesW G F s2A β2 _ (zmq Bd q1 q2 t evb (sqOf q1 dx) (sqOf q2 dy) (ρ,S2.2)) _
  cases hx':sqOf q1 dx with
  | none=>trivial
  | some xs=>
    cases hy':sqOf q2 dy with
    | none=>trivial
    | some ys=>
      rw[zeb hx'] at rv2;rw[zeb hy'] at ru;show DoesW G F s2A β2 _ (@ite _ (ZOk Bd q1 q2 xs ys) (Classical.propDecidable _) (zv (.plain (zipT xs ys)) (xw Bd t evb) (zipT xs ys) ρ S2.2) .stuck) _;by_cases ok:ZOk Bd q1 q2 xs ys
      ·rw[af ok]
       cases hgo:zv (.plain (zipT xs ys)) (xw Bd t evb) (zipT xs ys) ρ S2.2 with
       | stuck=>trivial
       | ok fl S'=>exact fun Q E kk=>ztb hr.run.g hh hr.fit hr.own hc (fun s' β' ρ' O' sr'=>hb.d hr sr') sr2 rv2 ru ok hgo kk
      ·rw[ak ok];trivial⟩
end Mine
end
section
namespace Mine
open PySem PyProof.Rows PySem.W
section
variable{prog:Program}{w:World}
theorem zme{vs:List Value}{is:List Int}(h:IntsAre vs is):ItemsAre (intKind prog w) is vs:=by
 induction h with
 | nil=>exact .nil
 | cons i t _ ih=>exact .cons (by show Value.isInt i (.int i t)=true;unfold Value.isInt;exact aA rfl) ih
theorem zku{h:Heap}{vs:List Value}{xs:List PyData}{as:List Addr}(r:ReadsAll h vs xs as):∀ {kss:List (List Int)},jo xs=some kss->vs.length=kss.length/\∀ (i:Nat) v,vs[i]?=some v->∃ b ks,kss[i]?=some ks/\v=.ref b/\TK (prog:=prog) (w:=w) h ks b:=by
 refine yb (motive:=fun vs xs uA=>∀ {kss:List (List Int)},jo xs=some kss->vs.length=kss.length/\∀ (i:Nat) v,vs[i]?=some v->∃ b ks,kss[i]?=some ks/\v=.ref b/\TK (prog:=prog) (w:=w) h ks b) ?_ ?_ r
 ·intro kss e;injection e with fu;subst fu;exact⟨rfl,fun i v h=>by rw[List.getElem?_nil] at h;contradiction⟩
 ·intro v d as vs ds bs r _ ih kss e;refine fC (aW.mp e) fun p hx e=>?_;refine fC (aD.mp e) fun q hr eO=>?_;subst eO;refine fH (ih hr) fun l k=>?_;refine⟨bR (· + 1) l,fun i u h=>?_⟩
  cases i with
  | succ i=>exact k i u h
  | zero=>
    have h:some v=some u:=h;injection h with fu;subst fu
    have hx:zb1 d=some p:=hx;refine fC (zc5 r hx) fun b eN eO=>?_;subst eN;obtain ⟨o,n,us,g1,g2,g3,g4,_⟩:=eO;exact⟨b,p,rfl,rfl,o,us,n,g1,g2,g3,zme g4⟩
end
noncomputable def zam(x:PyData):Option PyData:=ofList (fun xs=>(jo xs).bind fun kss=>if kss.length<=17 then some (.int (yo kss kss.length).length) else none) x
noncomputable def CE.lenS(a:CE):CE:=fun P ρ O=>if P.hd=true then .stuck else (evE P ρ a O).bind fun v O=>opt (((look O v).bind zam).map .d) O
section
variable{G:Gl}{F:Fm}{A:Around}{s:Shared}{β:List Addr}{ρ:Loc}{O:za}{cx:Cx}{gval:Nat->Option PyData}{gname:Nat->Option Str}
theorem zr4{v:Value}{d:V}{x y:PyData}{k:Nat}(ro:Room A k)(hh:A.handled=none)(sr:SR G F β ρ O s.heap)(rv:VR G F.B β s.heap v d)(hx:look O d=some x)(hy:zam x=some y) :
 DoesW G F s β (fun Q E s=>wpAny G.m A (call (.type "set") [v]) (fun S s1A=>wpAny G.m A (call (.builtin "len") [S]) Q E s1A) E s) (.ok (V.d y) (ρ,O)) (VRel G F):=by
 refine fC (wj (f:=fun xs=>(jo xs).bind fun kss=>if kss.length<=17 then some (.int (yo kss kss.length).length) else none) hy) fun xs eN h=>?_;subst eN;refine fC (aW.mp h) fun kss h1 h=>?_;refine fH (y4 h) fun h17 eN=>?_;subst eN;refine fC (look_list sr rv hx) fun a eN eO=>?_;subst eN;obtain ⟨o,vs,n,e1,e2,e3,as,r,q⟩:=eO;refine fH (zku (prog:=G.prog) (w:=G.w) r h1) fun l hk=>?_;have hu:=ro.c (n:=200);refine Does.leaf sr fun Q E kk=>zbu hh (by lia) ⟨o,e1,e2,n,e3⟩ (by rw[<- av];exact l) (fun i v hv=>hk i v (by rw[<- hv];exact aT)) h17 fun h' tk hS hkeep=>?_;obtain⟨o',ep,t,m,L,ho,hex,hd,ht,hr,hre,hlen,hnd,hent,hmem,hm⟩:=hS;have hsz:(elems L).size=(yo kss kss.length).length:=by rw[<- hlen];unfold elems;rw[dX,aL]
 have hle:=ud kss kss.length;have hfit:t.fits (elems L).size=true:=by
  simp only[SetTable.fits,SetTable.fill,ht.place,ht.dummies,ht.mask,places,elems,aM,aQ,aP];constructor
  ·simp
  ·simp;lia
 refine call_len_set (s:={ s with heap:=h',toks:=tk }) ho hex hd hfit (by rw[hsz];lia) ?_;rw[hsz];exact kk _ _ ⟨rfl,rfl,hkeep⟩ VR.int
theorem zsb{y:Expr}{a:CE}{ps pz q q':Pos}(h:JE cx y a)(hg:(cx.isGlob "len" && cx.isGlob "set")=true):JE cx (.Call (.Name "len" ps) [.Call (.Name "set" pz) [y] [] q'] [] q) (.lenS a):=
 ⟨rfl,fun {G A P F s β ρ O} hr sr=>by
   refine fH (and2 hg) fun hx hz=>?_;show Does G F A s β _ (R.lift ρ (if P.hd=true then .stuck else _:R za V)) _;by_cases hd:P.hd=true
   ·rw[af hd];trivial
   rw[ak hd];have hh:=hr.run.hm (aX.mpr hd);refine fH (hr.run.g.bi ("len",.builtin "len") (by decide)) fun b1 b2=>?_;refine fH (hr.run.g.bi ("set",.type "set") (by decide)) fun c1 c2=>?_;have hne:starEach [Expr.Call (.Name "set" pz) [y] [] q'] F.env=(false,eval (.Call (.Name "set" pz) [y] [] q') F.env)::starEach [] F.env:=rfl;refine DoesW.seqE (T2A:=fun v Q E s=>wpAny G.m A (call (.type "set") [v]) (fun S s1A=>wpAny G.m A (call (.builtin "len") [S]) Q E s1A) E s)
    (fun Q E h'=>?_) (h.d hr sr) fun s' β' val v O' uA st sr' rv=>?_
   ·exact dK rfl (ye hr.run.g sr hr.fit hx b1 b2 (callWith_builtin1 (co (aK (dK rfl (ye hr.run.g sr hr.fit hz c1 c2 (callWith_type1 (co (aK h' (fun v s1A h₁=>dC h₁) (fun uA uA x=>x)) h.px.star) h.px.star rfl))) (fun v s1A h₁=>dC h₁) (fun uA uA x=>x)) hne) hne rfl))
   ·cases hl:(look O' v).bind zam with
    | none=>trivial
    | some y=>
      refine fC (aW.mp hl) fun x h1 h2=>?_;exact zr4 hr.run.ro hh sr' rv h1 h2⟩
end
end Mine
end
section
namespace Mine
open PySem PyProof.Rows
theorem zdh:∀ (r:List Int) (a:Int),(r.foldl max a=a\/r.foldl max a∈r)/\a<=r.foldl max a/\∀ b∈r,b<=r.foldl max a
 | [],a=>⟨.inl rfl,Int.le_refl _,fun uA h=>nomatch h⟩
 | c::r,a=>by
   refine fI (zdh r (max a c)) fun h1 h2 h3=>?_;rw[dI];refine⟨?_,Int.le_trans (Int.le_max_left a c) h2,fun b hb=>?_⟩
   ·refine fx h1 ?_ ?_
    ·intro h1;rw[h1];refine fx (Int.le_total a c) ?_ ?_
     ·intro h;rw[Int.max_eq_right h];exact .inr (.head _)
     ·intro h;rw[Int.max_eq_left h];exact .inl rfl
    ·intro h1;exact .inr (.tail _ h1)
   ·refine fx (ag.mp hb) ?_ ?_
    ·rintro rfl;exact Int.le_trans (Int.le_max_right a b) h2
    ·intro hb;exact h3 b hb
theorem zlq{is:List Int}{M N:Int}(h:maxI is=some M)(h1:N∈is)(h2:∀ a∈is,a<=N):N=M:=by
 cases is with
 | nil=>contradiction
 | cons a r=>
   injection h with fu;subst fu;refine fI (zdh r a) fun g1 g2 g3=>?_;refine Int.le_antisymm ?_ (h2 _ ?_)
   ·refine fx (ag.mp h1) ?_ ?_
    ·rintro rfl;exact g2
    ·intro h1;exact g3 _ h1
   ·refine fx g1 ?_ ?_
    ·intro g1;rw[g1];exact .head _
    ·intro g1;exact .tail _ g1
noncomputable def zlp(xs:List PyData):Option PyData:=(intsOf xs).bind fun is=>(maxI is).map .int
noncomputable def CE.maxL(a:CE):CE:=fun P ρ O=>if P.hd=true then .stuck else (evE P ρ a O).bind fun v O=>opt (((look O v).bind (ofList zlp)).map .d) O
section
variable{G:Gl}{F:Fm}{A:Around}{s:Shared}{β:List Addr}{ρ:Loc}{O:za}
theorem zvk{v:Value}{d:V}(hh:A.handled=none)(sr:SR G F β ρ O s.heap)(rv:VR G F.B β s.heap v d) :
 Does G F A s β (call (.builtin "max") [v]) ((opt (((look O d).bind (ofList zlp)).map V.d) O).lift ρ) (VRel G F):=by
 cases hl:(look O d).bind (ofList zlp) with
 | none=>trivial
 | some y=>
   refine fC (aW.mp hl) fun x h1 h2=>?_;refine fC (wj h2) fun xs eN h=>?_;subst eN;refine fC (aW.mp h) fun is h3 h=>?_;refine fC (aD.mp h) fun M h4 eO=>?_;subst eO;refine fC (look_list sr rv h1) fun a eN eO=>?_;subst eN;obtain ⟨o,vs,n,e1,e2,e3,as,r,q⟩:=eO;have hi:=ints_get r h3;refine fG (AllInts.items (vs:=vs) hi.allInts) fun ys eN=>?_;subst eN;have hn:ys.toList.map (·.1)=is:=by rw[<- nums_intItems,hi.numsOf]
   have hp:0 < ys.size:=by
    rw[<- av,<- aL (f:=(·.1)),hn]
    cases is with
    | nil=>contradiction
    | cons _ _=>exact eg _
   refine Does.leaf sr fun Q E k=>max_intList hh ⟨o,e1,e2,n,e3⟩ hp fun v h' tk hv hk=>?_;refine fG (intItems_at hv) fun t eN=>?_;subst eN;refine fH (argBest_gt (numAt ys) (ys.size - 1)) fun g1 g2=>?_;have hl:is.length=ys.size:=by rw[<- hn,aL,av]
   have hM:numAt ys (argBest (fun i j=>decide (numAt ys i > numAt ys j)) (ys.size - 1))=M:=zlq h4 (by rw[numAt_eq,hn];exact getD_mem (by lia)) fun b hb=>by
    refine fC (mem_getD hb) fun j hj eO=>?_;subst eO;rw[<- hn,<- numAt_eq];exact g2 j (by lia)
   rw[hM];exact k _ _ (yw hk) VR.int
end
theorem zsa{cx:Cx}{x:Expr}{a:CE}{q ps:Pos}(h1:JE cx x a)(hg:cx.isGlob "max" = true):JE cx (.Call (.Name "max" ps) [x] [] q) (.maxL a):=
 ⟨rfl,fun {G A P F s β ρ O} hr sr=>by
   show Does G F A s β _ (R.lift ρ (if P.hd=true then .stuck else _:R za V)) _;by_cases hd:P.hd=true
   ·rw[af hd];trivial
   rw[ak hd];exact zp1 (fv:=.builtin "max") hr.run.g sr hr.fit hg (by decide) (.inl ⟨_,rfl⟩) h1.px.star (h1.d hr sr) fun s' β' v d O' sr' rv=>zvk (hr.run.hm (aX.mpr hd)) sr' rv⟩
section
variable{G:Gl}{F:Fm}{A:Around}{s:Shared}{β:List Addr}{ρ:Loc}{O:za}{cx:Cx}
end
noncomputable def zh7(f:List PyData->Option PyData):PyData->Option PyData
 | .tuple xs=>f xs
 | _=>none
theorem zjj{f:List PyData->Option PyData}{x y:PyData}(h:zh7 f x=some y):∃ xs,x=.tuple xs/\f xs=some y:=by
 cases x <;> first | (cases h;done) | exact fD _ rfl h
noncomputable def wz(xs:List PyData)(lo hi:PyData):Option PyData:=if xs.length<=line then (clip xs.length 0 lo).bind fun l=>(clip xs.length xs.length hi).map fun h=>.tuple (qc xs l h) else none
noncomputable def zog(v l h:V)(O:za):R za V:=match l with
 | .d l=>(match h with
    | .d h=>opt (((look O v).bind (zh7 fun xs=>wz xs l h)).map .d) O
    | _=>.stuck)
 | _=>.stuck
noncomputable def CE.sliceT(a lo hi:CE):CE:=fun P ρ O=>(evE P ρ a O).bind fun v O=>(evE P ρ lo O).bind fun l O=>(evE P ρ hi O).bind fun h O=>zog v l h O
inductive zny(xs:List PyData)(l h y:PyData):Prop
 | mk (a b:Nat) (hl:xs.length<=line) (h1:clip xs.length 0 l=some a) (h2:clip xs.length xs.length h=some b) (e:y=.tuple (qc xs a b))
theorem zef{xs:List PyData}{l h y:PyData}(e:wz xs l h=some y):zny xs l h y:=by
 unfold wz at e;by_cases hl:xs.length<=line
 ·rw[af hl] at e;refine fC (aW.mp e) fun a h1 e=>?_;refine fC (aD.mp e) fun b h2 e=>?_;exact⟨a,b,hl,h1,h2,e.symm⟩
 ·rw[ak hl] at e;contradiction
section
variable{G:Gl}{F:Fm}{A:Around}{s:Shared}{β:List Addr}{ρ:Loc}{O:za}
theorem zge{value:Expr}{lo hi st:Option Expr}{ps:Pos}{vl vu vk:Value}{D:Addr}{o:Obj}{vs:Array Value}{n:Nat}{klo khi kst:Option Int}{ys:List PyData}{us:List Value}{bs:List Addr}{ops:List Value}(sr:SR G F β ρ O s.heap)
 (e1:s.heap.get? D=some o) (e2:o.cls=.type "tuple") (e3:o.data=.seq vs n) (hops:subscripted (.Slice lo hi st ps) false (.ref D) (.ref s.heap.objs.size)=operate ops (getItem (.ref D) (.ref s.heap.objs.size)))
 (hl:vs.size<=sizeLine) (pl:IsPart vl klo) (pu:IsPart vu khi) (pk:IsPart vk kst)
 (hy:(kst=none/\us=(vs.toList.drop (klo.elim 0 (clipAt vs.size))).take (khi.elim vs.size (clipAt vs.size) - klo.elim 0 (clipAt vs.size)))\/(kst=some (-1)/\klo=none/\khi=none/\us=vs.toList.reverse))
 (r2:ReadsAll s.heap us ys bs) (q2:∀ a∈bs,a∉β/\a∉F.B) :
 DoesW G F s β (fun Q E s=>wpAny G.m A (subscriptTail value (.Slice lo hi st ps) (.ref D) (.ref s.heap.objs.size)) Q E { s with heap:=s.heap.push { cls:=.type "slice",data:=.fields #[vl,vu,vk] } }) (.ok (V.d (.tuple ys)) (ρ,O)) (VRel G F):=by
 refine Does.leaf sr fun Q E q=>?_;refine tail_any (T:="tuple") ⟨o,ac _ e1,e2⟩ slot_tuple_getitem.lookup ?_ hops;refine vw (ys:=us) ⟨o,ac _ e1,e2,n,e3⟩ (Heap.IsSliceOf.new ..) pl pu pk hy (fun e=>?_) ?_ hl
 ·exact q _ _ (KeepsAll.push s _ _) ⟨bs,.tuple (ac _ e1) e2 e3 (zt (fun uA uA e=>ac _ e) (e ▸ r2)),q2⟩
 ·exact q _ _ ⟨rfl,rfl,fun b o e=>ac _ (ac _ e)⟩ ⟨bs,.tuple (aw _ rfl) rfl rfl (zt (fun uA uA e=>ac _ (ac _ e)) r2),q2⟩
theorem zj7{value:Expr}{lo hi:Option Expr}{ps:Pos}{v vl vu:Value}{x:V}{l h:PyData}(sr:SR G F β ρ O s.heap)(rv:VR G F.B β s.heap v x)(rl:VR G F.B β s.heap vl (.d l))(rh:VR G F.B β s.heap vu (.d h)) :
 DoesW G F s β (fun Q E s=>wpAny G.m A (subscriptTail value (.Slice lo hi none ps) v (.ref s.heap.objs.size)) Q E { s with heap:=s.heap.push { cls:=.type "slice",data:=.fields #[vl,vu,.none] } })
  ((opt (((look O x).bind (zh7 fun xs=>wz xs l h)).map V.d) O).lift ρ) (VRel G F):=by
 cases h3:(look O x).bind (zh7 fun xs=>wz xs l h) with
 | none=>trivial
 | some c=>
   refine fC (aW.mp h3) fun a h1 h3=>?_;refine fC (zjj h3) fun xs eN h4=>?_;subst eN;obtain⟨a,b,hl,hc1,hc2,rfl⟩:=zef h4;rw[yt h1 fun uA e=>nomatch e] at rv;obtain⟨D,o,vs,n,rfl,e1,e2,e3,as,r1,q1⟩:=rv.tuple_inv;have hsz:vs.size=xs.length:=by rw[<- zd r1,av]
   refine fC (part_of rl hc1) fun klo pl eO=>?_;subst eO;refine fC (part_of rh hc2) fun khi pu eO=>?_;subst eO;refine fC (v4 r1 q1 (klo.elim 0 (clipAt xs.length))) fun b1 s1 t1=>?_;refine fC (vz s1 t1 (khi.elim xs.length (clipAt xs.length) - klo.elim 0 (clipAt xs.length))) fun b2 s2 t2=>?_;exact zge sr e1 e2 e3 rfl (by rw[hsz];exact ai hl (by decide)) pl pu .none (.inl ⟨rfl,rfl⟩) (by rw[hsz];exact s2) t2
end
section
variable{cx:Cx}{x y:Expr}{a b c:CE}{p q ps:Pos}
theorem zma{lo hi:Option Expr}(h1:JE cx x a)(h2:JP cx lo b)(h3:JP cx hi c):JE cx (.Subscript x (.Slice lo hi none ps) p) (.sliceT a b c):=
 ⟨rfl,fun {G A P F s β ρ O} hr sr=>by
 refine DoesW.seqE (T2A:=fun a Q E s1A=>wpAny G.m A (evalPart lo F.env) (fun l s2A=>wpAny G.m A (evalPart hi F.env) (fun u s3A=>
  wpAny G.m A (subscriptTail x (.Slice lo hi none ps) a (.ref s3A.heap.objs.size)) Q E { s3A with heap:=s3A.heap.push { cls:=.type "slice",data:=.fields #[l,u,.none] } }) E s2A) E s1A)
  (fun Q E h=>Subscript_ (aK h (fun a s1A h=>wpAny_Slice (aK h (fun l s2A h=>aK h (fun u s3A h=>ab h) fun uA uA x=>x) fun uA uA x=>x)) fun uA uA x=>x)) (h1.d hr sr) fun s' β' v d O' e st' sr rv=>?_
 refine DoesW.seqE (T1A:=tr G A (evalPart lo F.env)) (T2A:=fun l Q E s2A=>wpAny G.m A (evalPart hi F.env) (fun u s3A=>
  wpAny G.m A (subscriptTail x (.Slice lo hi none ps) v (.ref s3A.heap.objs.size)) Q E { s3A with heap:=s3A.heap.push { cls:=.type "slice",data:=.fields #[l,u,.none] } }) E s2A) (fun Q E h=>h) (h2.d hr sr) fun s2A β2 vl dl O2 e2A st2 sr2 rvl=>?_
 refine DoesW.seqE (T1A:=tr G A (evalPart hi F.env)) (T2A:=fun u Q E s3A=>
  wpAny G.m A (subscriptTail x (.Slice lo hi none ps) v (.ref s3A.heap.objs.size)) Q E { s3A with heap:=s3A.heap.push { cls:=.type "slice",data:=.fields #[vl,u,.none] } }) (fun Q E h=>h) (h3.d hr sr2) fun s3A β3 vh dh O3 e3A st3 sr3 rvh=>?_
 cases dl <;> first | trivial | skip
 cases dh <;> first | trivial | skip
 exact zj7 sr3 (rv.step sr.br sr.fm (st2.trans st3)) (rvl.step sr2.br sr2.fm st3) rvh⟩
end
noncomputable def znu(i j k:Nat)(v:V)(S:Loc×za):R (Loc×za) Fl:=match v with
 | .d (.tuple [x,y,z])=>if i < S.1.length/\j < S.1.length/\k < S.1.length then .ok .next (((S.1.set i (some (.d x))).set j (some (.d y))).set k (some (.d z)),S.2) else .stuck
 | _=>.stuck
noncomputable def CS.asg3(i j k:Nat)(e:CE):CS:=fun P ρ O=>if P.hd=true then .stuck else ((evE P ρ e O).lift ρ).bind (znu i j k)
theorem zun{α:Type}{l:List α}{a b c:α}(hl:l.length=3)(h0:l[0]?=some a)(h1:l[1]?=some b)(h2:l[2]?=some c):l=[a,b,c]:=by
 cases l with
 | nil=>contradiction
 | cons x l=>
   cases l with
   | nil=>contradiction
   | cons y l=>
     cases l with
     | nil=>contradiction
     | cons z l=>
       rw[cy (cY (cY (cY hl))),aN h0,aN h1,aN h2]
inductive R3(h:Heap)(P:Addr->Prop)(vs:List Value)(x y z:PyData):Prop
 | mk (v1 v2 v3:Value) (b1 b2 b3:List Addr) (hv:vs=[v1,v2,v3]) (r1:Reads h v1 x b1) (q1:∀ a∈b1,P a) (r2:Reads h v2 y b2) (q2:∀ a∈b2,P a) (r3:Reads h v3 z b3) (q3:∀ a∈b3,P a)
theorem d9{h:Heap}{P:Addr->Prop}{vs:List Value}{x y z:PyData}{as:List Addr}(r:ReadsAll h vs [x,y,z] as)(q:∀ a∈as,P a):R3 h P vs x y z:=by
 refine fL (zr r q (i:=0) rfl) fun v1 b1 e1 r1 q1=>?_;refine fL (zr r q (i:=1) rfl) fun v2 b2 e2 r2 q2=>?_;refine fL (zr r q (i:=2) rfl) fun v3 b3 e3 r3 q3=>?_;refine⟨v1,v2,v3,b1,b2,b3,?_,r1,q1,r2,q2,r3,q3⟩;exact zun (zd r) e1 e2 e3
set_option tactic.hygienic true in
theorem zrq{cx:Cx}{x:Expr}{a:CE}{p ps pa pb pc:Pos}{kt i j k:Nat}{na nb nc:Str}(h:JE cx x a)(hx:(chkT cx (ownOf cx.sc) (.name i) (.Name na pa) && chkT cx (ownOf cx.sc) (.name j) (.Name nb pb) && chkT cx (ownOf cx.sc) (.name k) (.Name nc pc) && unpX x)=true) :
 JS cx (.Assign [.Tuple [.Name na pa,.Name nb pb,.Name nc pc] kt ps] x p) (.asg3 i j k a):=⟨fun {G A P F s β ρ O} hr sr=>by
 refine fH (and2 hx) fun hx h2=>?_;refine fI (and3 hx) fun ha hb hc=>?_;show Does G F A s β _ (if P.hd=true then .stuck else _:R (Loc×za) Fl) _;by_cases hd:P.hd=true
 ·rw[af hd];trivial
 rw[ak hd];have e:=zd7 (l:=[.Name na pa,.Name nb pb,.Name nc pc]) (k:=kt) (n:=p.line) (ps:=ps) (env:=F.env) h2;have hh:=hr.run.hm (aX.mpr hd);refine DoesW.seq (T2A:=fun v Q E s'=>wpAny G.m A (assign (.Tuple [.Name na pa,.Name nb pb,.Name nc pc] kt ps) F.env v) (fun uA=>Q .next) E s') (fun Q E h=>Assign_Tuple h e.1 e.2) (h.d hr.toHere sr) fun s' β' v d S e st sr rv=>?_
 cases d <;> first | trivial | skip
 rename_i z
 cases z <;> first | trivial | skip
 rename_i l
 match l,rv with
 | [y1,y2,y3],rv=>
   by_cases hl:i < S.1.length/\j < S.1.length/\k < S.1.length
   ·show DoesW G F s' β' _ (if i < S.1.length/\j < S.1.length/\k < S.1.length then _ else _) _;rw[af hl];intro Q E kk;obtain⟨a,o,vs,n,rfl,g1,g2,g3,as,r,q⟩:=rv.tuple_inv;obtain⟨v1,v2,v3,b1,b2,b3,hvs,r1,q1,r2,q2,r3,q3⟩:=d9 r q;have hsz:vs.size=3:=by rw[<- av,hvs];rfl
    refine wt (M:=model G.prog G.w) hh g1 (.inl g2) g3 (by rw[hsz];rfl) rfl fun s1A ka=>?_;show wpAny _ A (assignInOrder [assign (.Name na pa) F.env,assign (.Name nb pb) F.env,assign (.Name nc pc) F.env] vs.toList) _ _ s1A;rw[hvs];have da:=x6 (A:=A) hh hr.fit hr.own (.name i) ha (sr.keepAll ka.kept) (v:=v1) (d:=.d y1) ⟨b1,z7 ka.kept r1,q1⟩;unfold bindR zu at da;dsimp only at da;rw[af hl.1] at da;refine dL (da _ _ fun s2A β2 uA st2 sr2 uA=>?_);have db:=x6 (A:=A) hh hr.fit hr.own (.name j) hb sr2 (v:=v2) (d:=.d y2) (VR.step (sr.keepAll ka.kept).br (sr.keepAll ka.kept).fm st2 ⟨b2,z7 ka.kept r2,q2⟩);unfold bindR zu at db;dsimp only at db;rw[af (by rw[bg];exact hl.2.1)] at db;refine dL (db _ _ fun s3A β3 uA st3 sr3 uA=>?_);have dc:=x6 (A:=A) hh hr.fit hr.own (.name k) hc sr3 (v:=v3) (d:=.d y3) (VR.step (sr.keepAll ka.kept).br (sr.keepAll ka.kept).fm (st2.trans st3) ⟨b3,z7 ka.kept r3,q3⟩);unfold bindR zu at dc;dsimp only at dc;rw[af (by rw[bg,bg];exact hl.2.2)] at dc;refine dL (dc _ _ fun s4A β4 uA st4 sr4 uA=>?_);exact assignInOrder_nil (kk s4A β4 .next ((ka.step _ _).trans ((st2.trans st3).trans st4)) sr4 rfl)
   ·show DoesW G F s' β' _ (if i < S.1.length/\j < S.1.length/\k < S.1.length then _ else _) _;rw[ak hl];trivial
 | [],_=>trivial
 | [_],_=>trivial
 | [_,_],_=>trivial
 | _::_::_::_::_,_=>trivial⟩
section
variable{G:Gl}{F:Fm}{A:Around}{s:Shared}{β:List Addr}{ρ:Loc}{O:za}
end
theorem zi6{cx:Cx}{x y:Expr}{a b:CE}{p:Pos}(h1:JE cx x a)(h2:JE cx y b):JT cx (.Compare x [.NotIn] [y] p) (.notinM a b):=⟨fun {G A P F s β ρ O} hr sr=>by
 have e:tv (evE P ρ (.notinM a b) O)=(evE P ρ a O).bind fun v O=>(evE P ρ b O).bind fun u O=>(Mine.notinM v u O).bind fun c O=>opt (truth c) O:=by
  show tv ((evE P ρ a O).bind fun v O=>(evE P ρ b O).bind fun u O=>Mine.notinM v u O)=_
  cases evE P ρ a O with
  | ok v O=>show R.bind (R.bind (evE P ρ b O) _) _=R.bind (evE P ρ b O) _;cases evE P ρ b O <;> rfl
  | stuck=>rfl
 rw[e];refine DoesW.seqE (T2A:=fun a Q E s1A=>wpAny G.m A (eval y F.env) (fun b s2A=>wpAny G.m A (compareOp .NotIn a b) (fun c s3A=>wpAny G.m A (truthy c) Q E s3A) E s2A) E s1A) (fun Q E h=>wpAny_isTrue_Compare1 h (xj h2.px.set .NotIn)) (h1.d hr sr) fun s' β' v d O' e st sr rv=>?_;refine DoesW.seqE (T1A:=tr G A (eval y F.env)) (T2A:=fun b Q E s2A=>wpAny G.m A (compareOp .NotIn v b) (fun c s3A=>wpAny G.m A (truthy c) Q E s3A) E s2A) (fun Q E h=>h) (h2.d hr sr) fun s2A β2 u d2A O2 e2A st2 sr2 ru=>?_;refine DoesW.seqE (T1A:=tr G A (compareOp .NotIn v u)) (T2A:=fun c=>tr G A (truthy c)) (fun Q E h=>h) (zni hr.run.ro sr2 (rv.step sr.br sr.fm st2) ru) fun s3A β3 c d3A O3 e3A st3 sr3 rc=>?_;exact jj sr3 rc⟩
def badP(xs:List PyData):Prop:=xs=[.none,.none]\/∃ a l,xs=[a,.list l]
end Mine
end
section
namespace Mine.L06
local macro_rules
|`(#[$x])=>`(.cons $x .nil)
|`(#[$x,$ys,*])=>`(.cons $x #[$ys,*])
open PySem Mine
noncomputable def c0:Fn:=⟨3,3,false,#[.ret (.and_ (.prim (.isinst .int) #[.loc 0]) (.and_ (.nt (.prim (.isinst .bool) #[.loc 0])) (.chain .le .le (.loc 1) (.loc 0) (.loc 2))))]⟩
noncomputable def c1:Fn:=⟨1,1,false,#[.ife (.nt (.call 0 #[.loc 0,.glob 0,.glob 1])) .stuck .nil]⟩
noncomputable def c2:Fn:=⟨2,3,false,#[.ret (.and_ (.prim (.isinst .tuple) #[.loc 1]) (.and_ (.cmp .eq (.prim .len #[.loc 1]) (.loc 0)) (.prim .all #[.comp (.call 0 #[.loc 2,.neg (.int 1),.int 1]) (.name 2) (.e (.loc 1)) .nil])))]⟩
noncomputable def c3:Fn:=⟨2,3,false,#[.expr (.call 1 #[.loc 0]),.ife (.or_ (.nt (.prim (.isinst .list) #[.loc 1])) (.nt (.chain .le .le (.int 1) (.prim .len #[.loc 1]) (.glob 2)))) .stuck .nil,.ife (.nt (.prim .all #[.comp (.call 2 #[.loc 0,.loc 2]) (.name 2) (.e (.loc 1)) .nil])) .stuck .nil,.ife (.cmp .lt (.lenS (.loc 1)) (.prim .len #[.loc 1])) .stuck .nil]⟩
noncomputable def c4:Fn:=⟨2,4,false,#[.ife (.or_ (.nt (.prim (.isinst .tuple) #[.loc 1])) (.or_ (.cmp .eq (.prim .len #[.loc 1]) (.int 0)) (.nt (.prim .all #[.comp (.call 0 #[.loc 2,.int 0,.bin .sub (.loc 0) (.int 1)]) (.name 2) (.e (.loc 1)) .nil])))) #[.ret (.bool false)] .nil,.ret (.prim .all #[.comp (.cmp .lt (.idx (.loc 1) (.bin .sub (.loc 3) (.int 1))) (.idx (.loc 1) (.loc 3))) (.name 3) (.range (.int 1) (.prim .len #[.loc 1])) .nil])]⟩
noncomputable def c5:Fn:=⟨2,5,false,#[.ife (.or_ (.nt (.prim (.isinst .tuple) #[.loc 1])) (.cmp .ne (.prim .len #[.loc 1]) (.int 2))) #[.ret (.bool false)] .nil,.asg (.two (.name 2) (.name 3)) (.loc 1),.ife (.or_ (.nt (.call 4 #[.loc 0,.loc 2])) (.or_ (.nt (.call 4 #[.loc 0,.loc 3])) (.cmp .ne (.prim .len #[.loc 2]) (.prim .len #[.loc 3])))) #[.ret (.bool false)] .nil,.ret (.nt (.prim .any #[.comp (.cmp .in_ (.loc 4) (.loc 3)) (.name 4) (.e (.loc 2)) .nil]))]⟩
noncomputable def c6:Fn:=⟨1,4,false,#[.asg (.name 1) (.list #[.tup .nil]),.for_ (.name 2) (.e (.loc 0)) #[.asg (.name 1) (.bin .add (.loc 1) (.comp (.bin .add (.loc 3) (.tup #[.loc 2])) (.name 3) (.e (.loc 1)) .nil))],.ret (.loc 1)]⟩
noncomputable def c7:Fn:=⟨1,5,false,#[.asg (.name 1) (.call 6 #[.listI (.range (.int 0) (.loc 0))]),.asg (.name 2) (.boxed (.list .nil)),.for_ (.name 3) (.e (.loc 1)) #[.for_ (.name 4) (.e (.loc 1)) #[.ife (.and_ (.call 5 #[.loc 0,.tup #[.loc 3,.loc 4]]) (.cmp .lt (.idx (.loc 3) (.int 0)) (.idx (.loc 4) (.int 0)))) #[.expr (.meth .append (.loc 2) #[.tup #[.loc 3,.loc 4]])] .nil]],.ret (.prim .sorted #[.loc 2])]⟩
noncomputable def c8:Fn:=⟨2,7,false,#[.asg (.two (.name 2) (.name 3)) (.loc 0),.asg (.name 4) (.bin .sub (.prim .sum #[.comp (.idx (.loc 1) (.loc 5)) (.name 5) (.e (.loc 2)) .nil]) (.prim .sum #[.comp (.idx (.loc 1) (.loc 6)) (.name 6) (.e (.loc 3)) .nil])),.ife (.cmp .gt (.loc 4) (.int 0)) #[.ret (.int 1)] .nil,.ret (.ite (.cmp .lt (.loc 4) (.int 0)) (.neg (.int 1)) (.int 0))]⟩
noncomputable def c9:Fn:=⟨2,5,false,#[.asg (.name 2) (.boxed (.list .nil)),.for_ (.name 3) (.e (.glob 3)) #[.expr (.meth .append (.loc 2) #[.comp (.loc 4) (.name 4) (.e (.loc 1)) #[.cmp .eq (.call 8 #[.loc 0,.loc 4]) (.loc 3)]])],.ret (.loc 2)]⟩
noncomputable def c10:Fn:=⟨1,3,false,#[.asg (.name 1) (.int 1),.for_ (.name 2) (.range (.int 0) (.loc 0)) #[.asg (.name 1) (.bin .mul (.loc 1) (.int 3))],.ret (.loc 1)]⟩
noncomputable def c11:Fn:=⟨2,2,false,#[.ife (.or_ (.nt (.prim (.isinst .tuple) #[.loc 1])) (.cmp .ne (.prim .len #[.loc 1]) (.int 2))) #[.ret (.bool false)] .nil,.ret (.and_ (.call 5 #[.loc 0,.idx (.loc 1) (.int 0)]) (.call 0 #[.idx (.loc 1) (.int 1),.neg (.int 1),.int 1]))]⟩
noncomputable def c12:Fn:=⟨3,7,false,#[.expr (.call 3 #[.loc 0,.loc 1]),.ife (.or_ (.nt (.prim (.isinst .list) #[.loc 2])) (.or_ (.cmp .gt (.prim .len #[.loc 2]) (.glob 4)) (.nt (.prim .all #[.comp (.call 11 #[.loc 0,.loc 3]) (.name 3) (.e (.loc 2)) .nil])))) .stuck .nil,.ret (.comp (.loc 4) (.name 4) (.e (.loc 1)) #[.prim .all #[.comp (.cmp .eq (.call 8 #[.loc 5,.loc 4]) (.loc 6)) (.two (.name 5) (.name 6)) (.e (.loc 2)) .nil]])]⟩
noncomputable def c13:Fn:=⟨3,4,false,#[.ret (.prim .all #[.comp (.cmp .eq (.call 8 #[.loc 3,.loc 1]) (.call 8 #[.loc 3,.loc 2])) (.name 3) (.e (.loc 0)) .nil])]⟩
noncomputable def c14:Fn:=⟨2,5,false,#[.for_ (.two (.name 2) (.name 3)) (.enum (.loc 1)) #[.for_ (.name 4) (.e (.slice (.loc 1) (.bin .add (.loc 2) (.int 1)) .none)) #[.ife (.call 13 #[.loc 0,.loc 3,.loc 4]) #[.ret (.tup #[.loc 3,.loc 4])] .nil]],.ret .none]⟩
noncomputable def c15:Fn:=⟨5,10,false,#[.asg (.name 5) (.boxed (.list .nil)),.forG badP .tup .lst (.two (.name 6) (.name 7)) (.glob 3) (.call 9 #[.loc 1,.loc 2]) #[.ife (.cmp .eq (.loc 7) (.list .nil)) #[.expr (.meth .append (.loc 5) #[.none])] #[.asg (.two (.name 8) (.name 9)) (.call 17 #[.loc 0,.loc 7,.bin .sub (.loc 3) (.int 1),.loc 4]),.ife (.cmp .eq (.loc 8) (.str (Str.ofString "hold"))) #[.ret (.tup #[.str (Str.ofString "hold"),.tup #[.loc 6,.loc 9]])] .nil,.expr (.meth .append (.loc 5) #[.loc 9])]],.ret (.tup #[.str (Str.ofString "plan"),.tup #[.str (Str.ofString "weigh"),.loc 1,.prim .tuple #[.loc 5]]])]⟩
noncomputable def c16:Fn:=⟨4,8,false,#[.asg (.name 4) (.boxed (.list .nil)),.for_ (.name 5) (.e (.loc 0)) #[.asg (.two (.name 6) (.name 7)) (.call 15 #[.loc 0,.loc 5,.loc 1,.loc 2,.loc 3]),.ife (.cmp .eq (.loc 6) (.str (Str.ofString "plan"))) #[.ret (.tup #[.str (Str.ofString "plan"),.loc 7])] .nil,.expr (.meth .append (.loc 4) #[.loc 7])],.ret (.tup #[.str (Str.ofString "hold"),.tup #[.str (Str.ofString "each"),.prim .tuple #[.loc 4]]])]⟩
noncomputable def c17:Fn:=⟨4,5,false,#[.ife (.cmp .eq (.prim .len #[.loc 1]) (.int 1)) #[.ret (.tup #[.str (Str.ofString "plan"),.tup #[.str (Str.ofString "told"),.idx (.loc 1) (.int 0)]])] .nil,.ife (.cmp .gt (.prim .len #[.loc 1]) (.call 10 #[.loc 2])) #[.ret (.tup #[.str (Str.ofString "hold"),.tup #[.str (Str.ofString "many")]])] .nil,.asg (.name 4) (.tup #[.prim .tuple #[.loc 1],.loc 2]),.ife (.notinM (.loc 4) (.loc 3)) #[.setM (.loc 3) (.loc 4) (.call 16 #[.loc 0,.loc 1,.loc 2,.loc 3])] .nil,.ret (.getM (.loc 3) (.loc 4))]⟩
noncomputable def c18:Fn:=⟨2,7,false,#[.asg (.name 2) .memo,.asg (.name 3) .none,.asg (.name 4) (.int 0),.asg (.two (.name 5) (.name 6)) (.call 17 #[.loc 0,.loc 1,.loc 4,.loc 2]),.while_ (.cmp .eq (.loc 5) (.str (Str.ofString "hold"))) #[.asg (.name 3) (.loc 6),.asg (.name 4) (.bin .add (.loc 4) (.int 1)),.asg (.two (.name 5) (.name 6)) (.call 17 #[.loc 0,.loc 1,.loc 4,.loc 2])],.ret (.tup #[.loc 6,.loc 3,.loc 4])]⟩
noncomputable def c19:Fn:=⟨3,9,false,#[.asg (.name 3) (.call 12 #[.loc 0,.loc 1,.loc 2]),.asg (.name 4) (.call 7 #[.loc 0]),.ife (.cmp .eq (.loc 3) (.list .nil)) #[.ret (.tup #[.str (Str.ofString "none")])] .nil,.asg (.name 5) (.call 14 #[.loc 4,.loc 3]),.ife (.cmp .isnot (.loc 5) .none) #[.ret (.tup #[.str (Str.ofString "alike"),.idx (.loc 5) (.int 0),.idx (.loc 5) (.int 1)])] .nil,.asg3 6 7 8 (.call 18 #[.loc 4,.loc 3]),.ret (.tup #[.str (Str.ofString "plan"),.loc 6,.loc 7])]⟩
noncomputable def c20:Fn:=⟨3,5,false,#[.asg (.name 3) (.call 12 #[.loc 0,.loc 1,.loc 2]),.asg (.name 4) (.call 7 #[.loc 0]),.ife (.or_ (.cmp .eq (.loc 3) (.list .nil)) (.cmp .isnot (.call 14 #[.loc 4,.loc 3]) .none)) #[.ret .none] .nil,.ret (.idx (.call 18 #[.loc 4,.loc 3]) (.int 2))]⟩
noncomputable def c21:Fn:=⟨2,2,false,#[.ife (.cmp .lt (.loc 1) (.prim .len #[.loc 0])) #[.ret (.idx (.loc 0) (.loc 1))] .nil,.ret (.int 0)]⟩
noncomputable def c22:Fn:=⟨2,2,false,#[.ret (.bin .fdiv (.bin .mod (.bin .mul (.bin .add (.bin .add (.call 21 #[.loc 0,.loc 1]) (.bin .mul (.int 7919) (.loc 1))) (.int 13)) (.int 48271)) (.int 2147483647)) (.int 3))]⟩
noncomputable def c23:Fn:=⟨1,1,false,#[.ret (.and_ (.prim (.isinst .int) #[.loc 0]) (.nt (.prim (.isinst .bool) #[.loc 0])))]⟩
noncomputable def c24:Fn:=⟨2,4,false,#[.asg (.name 2) (.int 0),.for_ (.name 3) (.e (.idx (.loc 0) (.int 0))) #[.asg (.name 2) (.bin .add (.loc 2) (.idx (.loc 1) (.loc 3)))],.for_ (.name 3) (.e (.idx (.loc 0) (.int 1))) #[.asg (.name 2) (.bin .sub (.loc 2) (.idx (.loc 1) (.loc 3)))],.ret (.ite (.cmp .gt (.loc 2) (.int 0)) (.int 1) (.ite (.cmp .lt (.loc 2) (.int 0)) (.neg (.int 1)) (.int 0)))]⟩
noncomputable def c25:Fn:=⟨1,9,false,#[.asg (.name 1) (.boxed (.list .nil)),.for_ (.name 2) (.range (.int 0) (.idx (.list #[.int 9,.int 27,.int 81,.int 243]) (.bin .sub (.loc 0) (.int 2)))) #[.asg (.name 3) (.comp (.bin .mod (.bin .fdiv (.loc 2) (.idx (.list #[.int 1,.int 3,.int 9,.int 27,.int 81]) (.loc 6))) (.int 3)) (.name 6) (.range (.int 0) (.loc 0)) .nil),.asg (.name 4) (.prim .tuple #[.comp (.loc 7) (.name 7) (.range (.int 0) (.loc 0)) #[.cmp .eq (.idx (.loc 3) (.loc 7)) (.int 1)]]),.asg (.name 5) (.prim .tuple #[.comp (.loc 8) (.name 8) (.range (.int 0) (.loc 0)) #[.cmp .eq (.idx (.loc 3) (.loc 8)) (.int 2)]]),.ife (.and_ (.cmp .eq (.prim .len #[.loc 4]) (.prim .len #[.loc 5])) (.and_ (.cmp .ne (.loc 4) (.tup .nil)) (.cmp .lt (.idx (.loc 4) (.int 0)) (.idx (.loc 5) (.int 0))))) #[.expr (.meth .append (.loc 1) #[.tup #[.loc 4,.loc 5]])] .nil],.ret (.prim .sorted #[.loc 1])]⟩
noncomputable def c26:Fn:=⟨2,6,false,#[.asg (.name 2) (.boxed (.list .nil)),.for_ (.name 3) (.range (.int 0) (.loc 0)) #[.for_ (.name 4) (.range (.int 0) (.loc 0)) #[.asg (.name 5) (.boxed (.bin .mul (.list #[.int 0]) (.loc 0))),.setI (.loc 5) (.loc 3) (.idx (.list #[.int 1,.neg (.int 1),.idx (.list #[.int 1,.neg (.int 1)]) (.bin .mod (.loc 4) (.int 2)),.int 1,.int 1]) (.loc 1)),.ife (.and_ (.cmp .gt (.loc 1) (.int 2)) (.cmp .ne (.loc 3) (.loc 4))) #[.setI (.loc 5) (.loc 4) (.idx (.list #[.int 1,.neg (.int 1)]) (.bin .sub (.loc 1) (.int 3)))] .nil,.ife (.and_ (.cmp .notin (.prim .tuple #[.loc 5]) (.loc 2)) (.or_ (.cmp .lt (.loc 1) (.int 3)) (.cmp .ne (.loc 3) (.loc 4)))) #[.expr (.meth .append (.loc 2) #[.prim .tuple #[.loc 5]])] .nil]],.ife (.cmp .eq (.loc 1) (.int 2)) #[.expr (.meth .append (.loc 2) #[.bin .mul (.tup #[.int 0]) (.loc 0)])] .nil,.ret (.loc 2)]⟩
noncomputable def c27:Fn:=⟨3,12,false,#[.asg (.name 3) (.call 22 #[.loc 0,.loc 1]),.asg (.name 4) (.min2 (.loc 2) (.idx (.list #[.int 2,.int 3,.int 3,.int 4,.int 4,.int 5]) (.bin .mod (.loc 3) (.int 6)))),.asg (.name 5) (.idx (.list #[.int 9,.int 12,.int 8,.int 5]) (.bin .sub (.loc 4) (.int 2))),.asg (.name 6) (.boxed (.list .nil)),.for_ (.name 7) (.range (.int 0) (.int 12)) #[.asg (.name 8) (.call 22 #[.loc 0,.bin .add (.bin .add (.loc 1) (.int 1)) (.loc 7)]),.expr (.meth .append (.loc 6) #[.prim .tuple #[.comp (.bin .sub (.bin .mod (.bin .fdiv (.loc 8) (.idx (.list #[.int 1,.int 3,.int 9,.int 27,.int 81]) (.loc 11))) (.int 3)) (.int 1)) (.name 11) (.range (.int 0) (.loc 4)) .nil]])],.ife (.cmp .gt (.bin .mod (.bin .fdiv (.loc 3) (.int 6)) (.int 6)) (.int 0)) #[.asg (.name 6) (.call 26 #[.loc 4,.bin .sub (.bin .mod (.bin .fdiv (.loc 3) (.int 6)) (.int 6)) (.int 1)])] .nil,.asg (.name 9) (.boxed (.list .nil)),.asg (.name 8) (.bin .fdiv (.loc 3) (.int 36)),.ife (.and_ (.cmp .gt (.loc 4) (.int 3)) (.and_ (.cmp .eq (.bin .mod (.bin .fdiv (.loc 8) (.int 256)) (.int 4)) (.int 1)) (.cmp .gt (.bin .mod (.bin .fdiv (.loc 3) (.int 6)) (.int 6)) (.int 0)))) #[.asg (.name 5) (.int 12)] .nil,.for_ (.name 7) (.range (.int 0) (.idx (.list #[.bin .add (.int 1) (.bin .mod (.loc 8) (.loc 5)),.loc 5]) (.prim .int #[.and_ (.cmp .eq (.loc 5) (.int 12)) (.cmp .gt (.loc 4) (.int 3))]))) #[.asg (.name 10) (.idx (.loc 6) (.bin .mod (.bin .add (.bin .fdiv (.loc 8) (.int 8)) (.bin .mul (.loc 7) (.bin .add (.int 1) (.bin .mod (.bin .fdiv (.loc 8) (.int 64)) (.int 2))))) (.prim .len #[.loc 6]))),.ife (.cmp .notin (.loc 10) (.loc 9)) #[.expr (.meth .append (.loc 9) #[.loc 10])] .nil],.ret (.tup #[.loc 4,.loc 9])]⟩
noncomputable def c28:Fn:=⟨4,13,false,#[.asg (.name 4) (.call 22 #[.loc 0,.loc 1]),.asg (.name 5) (.call 25 #[.loc 2]),.asg (.name 6) (.boxed (.list .nil)),.for_ (.name 7) (.range (.int 0) (.idx (.list #[.int 0,.int 0,.int 1,.int 2,.int 3]) (.bin .mod (.loc 4) (.int 5)))) #[.asg (.name 8) (.call 22 #[.loc 0,.bin .add (.bin .add (.loc 1) (.int 1)) (.loc 7)]),.asg (.two (.name 9) (.name 10)) (.idx (.loc 5) (.bin .mod (.loc 8) (.prim .len #[.loc 5]))),.asg (.name 11) (.idx (.list #[.tup #[.loc 9,.loc 10],.tup #[.loc 10,.loc 9]]) (.bin .mod (.bin .fdiv (.loc 8) (.int 32)) (.int 2))),.asg (.name 12) (.call 24 #[.loc 11,.idx (.loc 3) (.bin .mod (.bin .fdiv (.loc 4) (.int 5)) (.prim .len #[.loc 3]))]),.ife (.cmp .eq (.bin .mod (.bin .fdiv (.loc 8) (.int 64)) (.int 8)) (.int 1)) #[.asg (.name 12) (.bin .sub (.bin .mod (.bin .fdiv (.loc 8) (.int 512)) (.int 3)) (.int 1))] .nil,.expr (.meth .append (.loc 6) #[.tup #[.loc 11,.loc 12]])],.ret (.loc 6)]⟩
noncomputable def c29:Fn:=⟨2,5,false,#[.ret (.comp (.loc 2) (.name 2) (.e (.loc 0)) #[.cmp .eq (.comp (.int 1) (.two (.name 3) (.name 4)) (.e (.loc 1)) #[.cmp .ne (.call 24 #[.loc 3,.loc 2]) (.loc 4)]) (.list .nil)])]⟩
noncomputable def c30:Fn:=⟨3,4,false,#[.ret (.cmp .eq (.comp (.loc 3) (.name 3) (.e (.loc 0)) #[.cmp .ne (.call 24 #[.loc 3,.loc 1]) (.call 24 #[.loc 3,.loc 2])]) (.list .nil))]⟩
noncomputable def c31:Fn:=⟨2,4,false,#[.for_ (.name 2) (.range (.int 0) (.prim .len #[.loc 1])) #[.for_ (.name 3) (.e (.slice (.loc 1) .none (.loc 2))) #[.ife (.call 30 #[.loc 0,.idx (.loc 1) (.loc 2),.loc 3]) #[.ret (.bool true)] .nil]],.ret (.bool false)]⟩
noncomputable def c32:Fn:=⟨2,3,false,#[.ife (.or_ (.nt (.prim (.isinst .tuple) #[.loc 1])) (.cmp .eq (.loc 1) (.tup .nil))) #[.ret (.bool false)] .nil,.ife (.nt (.prim .all #[.comp (.and_ (.call 23 #[.loc 2]) (.chain .le .lt (.int 0) (.loc 2) (.loc 0))) (.name 2) (.e (.loc 1)) .nil])) #[.ret (.bool false)] .nil,.ret (.cmp .eq (.prim .list #[.loc 1]) (.prim .sortedset #[.loc 1]))]⟩
noncomputable def c33:Fn:=⟨2,2,false,#[.ife (.or_ (.nt (.prim (.isinst .tuple) #[.loc 1])) (.or_ (.cmp .ne (.prim .len #[.loc 1]) (.int 2)) (.nt (.call 32 #[.loc 0,.idx (.loc 1) (.int 0)])))) #[.ret (.bool false)] .nil,.ife (.or_ (.nt (.call 32 #[.loc 0,.idx (.loc 1) (.int 1)])) (.cmp .ne (.prim .len #[.idx (.loc 1) (.int 0)]) (.prim .len #[.idx (.loc 1) (.int 1)]))) #[.ret (.bool false)] .nil,.ret (.cmp .eq (.prim .lenset #[.bin .add (.idx (.loc 1) (.int 0)) (.idx (.loc 1) (.int 1))]) (.bin .mul (.int 2) (.prim .len #[.idx (.loc 1) (.int 0)])))]⟩
noncomputable def c34:Fn:=⟨2,3,false,#[.ret (.and_ (.prim (.isinst .tuple) #[.loc 0]) (.and_ (.cmp .eq (.loc 0) (.loc 1)) (.prim .all #[.comp (.call 23 #[.loc 2]) (.name 2) (.e (.loc 0)) .nil])))]⟩
noncomputable def c35:Fn:=⟨3,7,false,#[.ife (.or_ (.nt (.prim (.isinst .tuple) #[.loc 2])) (.or_ (.cmp .lt (.prim .len #[.loc 2]) (.int 2)) (.nt (.prim (.isinst .str) #[.idx (.loc 2) (.int 0)])))) #[.ret (.bool false)] .nil,.ife (.cmp .eq (.idx (.loc 2) (.int 0)) (.str (Str.ofString "told"))) #[.ret (.and_ (.cmp .eq (.prim .len #[.loc 2]) (.int 2)) (.and_ (.cmp .eq (.prim .len #[.loc 1]) (.int 1)) (.call 34 #[.idx (.loc 2) (.int 1),.idx (.loc 1) (.int 0)])))] .nil,.ife (.or_ (.cmp .ne (.idx (.loc 2) (.int 0)) (.str (Str.ofString "weigh"))) (.or_ (.cmp .ne (.prim .len #[.loc 2]) (.int 3)) (.nt (.call 33 #[.loc 0,.idx (.loc 2) (.int 1)])))) #[.ret (.bool false)] .nil,.ife (.or_ (.nt (.prim (.isinst .tuple) #[.idx (.loc 2) (.int 2)])) (.cmp .ne (.prim .len #[.idx (.loc 2) (.int 2)]) (.int 3))) #[.ret (.bool false)] .nil,.for_ (.name 3) (.range (.int 0) (.int 3)) #[.asg (.name 4) (.comp (.loc 6) (.name 6) (.e (.loc 1)) #[.cmp .eq (.call 24 #[.idx (.loc 2) (.int 1),.loc 6]) (.bin .sub (.loc 3) (.int 1))]),.asg (.name 5) (.idx (.idx (.loc 2) (.int 2)) (.loc 3)),.ife (.or_ (.and_ (.cmp .eq (.loc 4) (.list .nil)) (.cmp .isnot (.loc 5) .none)) (.and_ (.cmp .ne (.loc 4) (.list .nil)) (.nt (.call 35 #[.loc 0,.loc 4,.loc 5])))) #[.ret (.bool false)] .nil],.ret (.bool true)]⟩
noncomputable def c36:Fn:=⟨1,2,false,#[.ife (.cmp .eq (.idx (.loc 0) (.int 0)) (.str (Str.ofString "told"))) #[.ret (.int 0)] .nil,.ret (.bin .add (.int 1) (.maxL (.comp (.call 36 #[.loc 1]) (.name 1) (.e (.idx (.loc 0) (.int 2))) #[.cmp .isnot (.loc 1) .none])))]⟩
noncomputable def c37:Fn:=⟨1,3,false,#[.asg (.name 1) (.int 1),.for_ (.name 2) (.range (.int 0) (.loc 0)) #[.asg (.name 1) (.bin .mul (.int 3) (.loc 1))],.ret (.loc 1)]⟩
noncomputable def c38:Fn:=⟨4,8,false,#[.ife (.or_ (.nt (.prim (.isinst .tuple) #[.loc 3])) (.or_ (.cmp .eq (.loc 3) (.tup .nil)) (.nt (.prim (.isinst .str) #[.idx (.loc 3) (.int 0)])))) #[.ret (.bool false)] .nil,.ife (.cmp .eq (.idx (.loc 3) (.int 0)) (.str (Str.ofString "many"))) #[.ret (.and_ (.cmp .eq (.prim .len #[.loc 3]) (.int 1)) (.cmp .gt (.prim .len #[.loc 1]) (.call 37 #[.loc 2])))] .nil,.ife (.or_ (.cmp .ne (.idx (.loc 3) (.int 0)) (.str (Str.ofString "each"))) (.or_ (.cmp .ne (.prim .len #[.loc 3]) (.int 2)) (.or_ (.cmp .eq (.loc 2) (.int 0)) (.nt (.prim (.isinst .tuple) #[.idx (.loc 3) (.int 1)]))))) #[.ret (.bool false)] .nil,.ife (.cmp .ne (.prim .len #[.idx (.loc 3) (.int 1)]) (.prim .len #[.loc 0])) #[.ret (.bool false)] .nil,.for_ (.name 4) (.range (.int 0) (.prim .len #[.loc 0])) #[.asg (.name 5) (.idx (.idx (.loc 3) (.int 1)) (.loc 4)),.ife (.or_ (.nt (.prim (.isinst .tuple) #[.loc 5])) (.or_ (.cmp .ne (.prim .len #[.loc 5]) (.int 2)) (.or_ (.nt (.call 23 #[.idx (.loc 5) (.int 0)])) (.nt (.chain .le .le (.neg (.int 1)) (.idx (.loc 5) (.int 0)) (.int 1)))))) #[.ret (.bool false)] .nil,.asg (.name 6) (.comp (.loc 7) (.name 7) (.e (.loc 1)) #[.cmp .eq (.call 24 #[.idx (.loc 0) (.loc 4),.loc 7]) (.idx (.loc 5) (.int 0))]),.ife (.nt (.call 38 #[.loc 0,.loc 6,.bin .sub (.loc 2) (.int 1),.idx (.loc 5) (.int 1)])) #[.ret (.bool false)] .nil],.ret (.bool true)]⟩
noncomputable def c39:Fn:=⟨3,5,false,#[.ife (.or_ (.cmp .ne (.prim .len #[.loc 2]) (.int 3)) (.or_ (.cmp .notin (.idx (.loc 2) (.int 1)) (.loc 1)) (.or_ (.cmp .notin (.idx (.loc 2) (.int 2)) (.loc 1)) (.cmp .eq (.idx (.loc 2) (.int 1)) (.idx (.loc 2) (.int 2)))))) #[.ret (.bool false)] .nil,.for_ (.name 3) (.e (.sliceT (.loc 2) (.int 1) .none)) #[.ife (.or_ (.nt (.prim (.isinst .tuple) #[.loc 3])) (.nt (.prim .all #[.comp (.call 23 #[.loc 4]) (.name 4) (.e (.loc 3)) .nil]))) #[.ret (.bool false)] .nil],.ret (.call 30 #[.loc 0,.idx (.loc 2) (.int 1),.idx (.loc 2) (.int 2)])]⟩
noncomputable def c40:Fn:=⟨4,5,false,#[.ife (.or_ (.nt (.prim (.isinst .tuple) #[.loc 3])) (.or_ (.cmp .eq (.loc 3) (.tup .nil)) (.nt (.prim (.isinst .str) #[.idx (.loc 3) (.int 0)])))) #[.ret (.bool false)] .nil,.ife (.cmp .eq (.loc 2) (.list .nil)) #[.ret (.cmp .eq (.loc 3) (.tup #[.str (Str.ofString "none")]))] .nil,.ife (.cmp .eq (.idx (.loc 3) (.int 0)) (.str (Str.ofString "alike"))) #[.ret (.call 39 #[.loc 1,.loc 2,.loc 3])] .nil,.ife (.or_ (.cmp .ne (.idx (.loc 3) (.int 0)) (.str (Str.ofString "plan"))) (.or_ (.cmp .ne (.prim .len #[.loc 3]) (.int 3)) (.nt (.call 35 #[.loc 0,.loc 2,.idx (.loc 3) (.int 1)])))) #[.ret (.bool false)] .nil,.asg (.name 4) (.call 36 #[.idx (.loc 3) (.int 1)]),.ife (.cmp .eq (.loc 4) (.int 0)) #[.ret (.cmp .is (.idx (.loc 3) (.int 2)) .none)] .nil,.ret (.call 38 #[.loc 1,.loc 2,.bin .sub (.loc 4) (.int 1),.idx (.loc 3) (.int 2)])]⟩
noncomputable def c41:Fn:=⟨1,11,false,#[.asg (.two (.name 1) (.name 2)) (.call 27 #[.loc 0,.int 6,.int 5]),.asg (.name 3) (.call 28 #[.loc 0,.int 1,.loc 1,.loc 2]),.asg (.name 4) (.call 29 #[.loc 2,.loc 3]),.asg (.name 5) (.call 25 #[.loc 1]),.asg (.name 6) (.list #[.prim .list #[.loc 2],.prim .list #[.loc 3]]),.asg (.name 7) (.call 20 #[.loc 1,.idx (.loc 6) (.int 0),.idx (.loc 6) (.int 1)]),.asg (.name 8) (.call 19 #[.loc 1,.idx (.loc 6) (.int 0),.idx (.loc 6) (.int 1)]),.ife (.or_ (.nt (.call 40 #[.loc 1,.loc 5,.loc 4,.loc 8])) (.cmp .ne (.loc 6) (.list #[.loc 2,.loc 3]))) #[.ret (.bool false)] .nil,.ife (.cmp .ne (.cmp .eq (.idx (.loc 8) (.int 0)) (.str (Str.ofString "alike"))) (.call 31 #[.loc 5,.loc 4])) #[.ret (.bool false)] .nil,.asg (.name 9) (.ite (.cmp .eq (.idx (.loc 8) (.int 0)) (.str (Str.ofString "plan"))) (.call 36 #[.idx (.loc 8) (.int 1)]) .none),.ife (.or_ (.cmp .ne (.loc 7) (.loc 9)) (.and_ (.cmp .isnot (.loc 9) .none) (.nt (.call 23 #[.loc 7])))) #[.ret (.bool false)] .nil,.asg (.name 10) (.call 19 #[.loc 1,.idx (.loc 6) (.int 0),.idx (.loc 6) (.int 1)]),.ret (.and_ (.cmp .eq (.idx (.loc 10) (.int 0)) (.idx (.loc 8) (.int 0))) (.and_ (.call 40 #[.loc 1,.loc 5,.loc 4,.loc 10]) (.cmp .eq (.call 20 #[.loc 1,.idx (.loc 6) (.int 0),.idx (.loc 6) (.int 1)]) (.loc 9))))]⟩
noncomputable def zsp:List Str:=[("is_among" : Str),("need_count" : Str),("is_case" : Str),("need_cases" : Str),("is_pan" : Str),("is_weighing" : Str),("some_of" : Str),("all_leading" : Str),("came" : Str),("parted" : Str),("threes" : Str),("is_done" : Str),("still_open" : Str),("are_alike" : Str),("alike_of" : Str),("tried" : Str),("by_each" : Str),("looked" : Str),("found_for" : Str),("told" : Str),("least" : Str),("_law_cell_at" : Str),("_law_mixed" : Str),("_law_whole" : Str),("_law_came" : Str),("_law_pans" : Str),("_law_pool" : Str),("_law_puzzle" : Str),("_law_done" : Str),("_law_open" : Str),("_law_alike" : Str),("_law_has_alike" : Str),("_law_is_pan" : Str),("_law_is_weighing" : Str),("_law_is_case_told" : Str),("_law_is_plan" : Str),("_law_length" : Str),("_law_threes" : Str),("_law_is_hold" : Str),("_law_pair_right" : Str),("_law_right" : Str),("law" : Str)]
noncomputable def wn(f:Nat):Option Str:=zsp[f]?
noncomputable def zk4:List (List Str):=[[("thing" : Str),("least" : Str),("most" : Str)],[("many" : Str)],[("many" : Str),("thing" : Str)],[("many" : Str),("cases" : Str)],[("many" : Str),("thing" : Str)],[("many" : Str),("thing" : Str),("left" : Str),("right" : Str)],[("things" : Str),("found" : Str),("one" : Str)],[("many" : Str),("pans" : Str),("found" : Str),("left" : Str),("right" : Str)],[("weighing" : Str),("case" : Str),("left" : Str),("right" : Str),("more" : Str)],[("weighing" : Str),("cases" : Str),("found" : Str),("outcome" : Str)],[("number" : Str),("found" : Str),("turn" : Str)],[("many" : Str),("thing" : Str)],[("many" : Str),("cases" : Str),("done" : Str)],[("pans" : Str),("one" : Str),("other" : Str)],[("pans" : Str),("cases" : Str),("k" : Str),("one" : Str),("other" : Str)],[("pans" : Str),("weighing" : Str),("cases" : Str),("number" : Str),("known" : Str),("parts" : Str),("outcome" : Str),("some" : Str),("word" : Str),("found" : Str)],[("pans" : Str),("cases" : Str),("number" : Str),("known" : Str),("rows" : Str),("weighing" : Str),("word" : Str),("found" : Str)],[("pans" : Str),("cases" : Str),("number" : Str),("known" : Str),("key" : Str)],[("pans" : Str),("cases" : Str),("known" : Str),("hold" : Str),("number" : Str),("word" : Str),("found" : Str)],[("many" : Str),("cases" : Str),("done" : Str),("some" : Str),("pans" : Str),("pair" : Str),("plan" : Str),("hold" : Str),("number" : Str)],[("many" : Str),("cases" : Str),("done" : Str),("some" : Str),("pans" : Str)],[("_law_script" : Str),("_law_k" : Str)],[("_law_script" : Str),("_law_k" : Str)],[("_law_found" : Str)],[("_law_weighing" : Str),("_law_case" : Str),("_law_more" : Str),("_law_one" : Str)],[("_law_many" : Str),("_law_found" : Str),("_law_number" : Str),("_law_sides" : Str),("_law_left" : Str),("_law_right_here" : Str)],[("_law_many" : Str),("_law_kind" : Str),("_law_found" : Str),("_law_one" : Str),("_law_other" : Str),("_law_case" : Str)],[("_law_script" : Str),("_law_at" : Str),("_law_greatest" : Str),("_law_first" : Str),("_law_many" : Str),("_law_most" : Str),("_law_pool_here" : Str),("_law_k" : Str),("_law_number" : Str),("_law_found" : Str),("_law_case" : Str)],[("_law_script" : Str),("_law_at" : Str),("_law_many" : Str),("_law_cases" : Str),("_law_first" : Str),("_law_pans_here" : Str),("_law_found" : Str),("_law_k" : Str),("_law_number" : Str),("_law_left" : Str),("_law_right_here" : Str),("_law_weighing" : Str),("_law_due" : Str)],[("_law_cases" : Str),("_law_done_here" : Str)],[("_law_pans_here" : Str),("_law_one" : Str),("_law_other" : Str)],[("_law_pans_here" : Str),("_law_cases" : Str),("_law_k" : Str),("_law_other" : Str)],[("_law_many" : Str),("_law_thing" : Str)],[("_law_many" : Str),("_law_thing" : Str)],[("_law_thing" : Str),("_law_case" : Str)],[("_law_many" : Str),("_law_cases" : Str),("_law_thing" : Str),("_law_place" : Str),("_law_some" : Str),("_law_part" : Str)],[("_law_plan" : Str)],[("_law_number" : Str),("_law_found" : Str),("_law_turn" : Str)],[("_law_pans_here" : Str),("_law_cases" : Str),("_law_number" : Str),("_law_thing" : Str),("_law_k" : Str),("_law_row" : Str),("_law_some" : Str)],[("_law_pans_here" : Str),("_law_some" : Str),("_law_found" : Str),("_law_case" : Str)],[("_law_many" : Str),("_law_pans_here" : Str),("_law_some" : Str),("_law_found" : Str),("_law_size" : Str)],[("_law_script" : Str),("_law_many" : Str),("_law_cases" : Str),("_law_done_here" : Str),("_law_some" : Str),("_law_pans_here" : Str),("_law_handed" : Str),("_law_first" : Str),("_law_found" : Str),("_law_due" : Str),("_law_again" : Str)]]
noncomputable def j7(f:Nat):List Str:=zk4[f]?.getD []
noncomputable def zsl:List Str:=[("LEAST_THINGS" : Str),("MOST_THINGS" : Str),("MOST_CASES" : Str),("OUTCOMES" : Str),("MOST_DONE" : Str)]
noncomputable def ut(k:Nat):Option Str:=zsl[k]?
noncomputable def zti:List Str:=[]
noncomputable def za8(k:Nat):Option Str:=zti[k]?
noncomputable def table:Nat->Option Fn
 | 0=>some c0
 | 1=>some c1
 | 2=>some c2
 | 3=>some c3
 | 4=>some c4
 | 5=>some c5
 | 6=>some c6
 | 7=>some c7
 | 8=>some c8
 | 9=>some c9
 | 10=>some c10
 | 11=>some c11
 | 12=>some c12
 | 13=>some c13
 | 14=>some c14
 | 15=>some c15
 | 16=>some c16
 | 17=>some c17
 | 18=>some c18
 | 19=>some c19
 | 20=>some c20
 | 21=>some c21
 | 22=>some c22
 | 23=>some c23
 | 24=>some c24
 | 25=>some c25
 | 26=>some c26
 | 27=>some c27
 | 28=>some c28
 | 29=>some c29
 | 30=>some c30
 | 31=>some c31
 | 32=>some c32
 | 33=>some c33
 | 34=>some c34
 | 35=>some c35
 | 36=>some c36
 | 37=>some c37
 | 38=>some c38
 | 39=>some c39
 | 40=>some c40
 | 41=>some c41
 | _+42=>none
noncomputable def zsj:List PyData:=[.int (2),.int (5),.int (12),.tuple [.int (-1),.int (0),.int (1)],.int (20)]
noncomputable def zu5(k:Nat):Option PyData:=zsj[k]?
noncomputable def zl1:Nat:=41
noncomputable def ztl:List Nat:=[0,1,2,3,4,5,6,7,8,9,10,11,12,13,14,15,16,17,18,19,20,21,22,23,24,25,26,27,28,29,30,31,32,33,34,35,36,37,38,39,40,41]
noncomputable def at_(f:Nat):Nat:=ztl[f]?.getD 0
noncomputable def subs(x c:Nat):Option Bool:=match x with
 | _=>none
noncomputable def P:Pg:={ call:=fun uA uA uA uA=>.stuck,hd:=false,gval:=zu5,turns:=200,sub:=subs,srt:=zgb,sets:=true,txt:=fun uA=>none }
end Mine.L06
end
section
namespace Mine.L06
open PySem Mine PyProof.Rows
noncomputable def prog:Program:=PySem.Challenge.pw_uf050003_06
noncomputable def fnOf:Option Stmt->List Stmt×Scope
 | some (.FunctionDef _ _ b _ _ _ s _ _ _)=>(b,s)
 | _=>([],⟨.module,[],false,false,[]⟩)
noncomputable def bd(k:Nat):List Stmt:=(fnOf (prog.main.body[k]?)).1
noncomputable def sp(k:Nat):Scope:=(fnOf (prog.main.body[k]?)).2
noncomputable def cxOf(fn:Fn)(f k:Nat):Cx:={ names:=yr fn (j7 f),sc:=sp k,fname:=wn,gname:=ut,cname:=za8 }
theorem bs:JSs (cxOf c0 0 9) (bd 9) c0.body/\JSs (cxOf c1 1 10) (bd 10) c1.body/\JSs (cxOf c2 2 11) (bd 11) c2.body/\JSs (cxOf c3 3 12) (bd 12) c3.body/\JSs (cxOf c4 4 15) (bd 15) c4.body/\JSs (cxOf c5 5 16) (bd 16) c5.body/\JSs (cxOf c6 6 17) (bd 17) c6.body/\JSs (cxOf c7 7 18) (bd 18) c7.body/\JSs (cxOf c8 8 19) (bd 19) c8.body/\JSs (cxOf c9 9 20) (bd 20) c9.body/\JSs (cxOf c10 10 22) (bd 22) c10.body/\JSs (cxOf c11 11 25) (bd 25) c11.body/\JSs (cxOf c12 12 26) (bd 26) c12.body/\JSs (cxOf c13 13 28) (bd 28) c13.body/\JSs (cxOf c14 14 29) (bd 29) c14.body/\JSs (cxOf c15 15 30) (bd 30) c15.body/\JSs (cxOf c16 16 31) (bd 31) c16.body/\JSs (cxOf c17 17 32) (bd 32) c17.body/\JSs (cxOf c18 18 33) (bd 33) c18.body/\JSs (cxOf c19 19 34) (bd 34) c19.body/\JSs (cxOf c20 20 35) (bd 35) c20.body/\JSs (cxOf c21 21 37) (bd 37) c21.body/\JSs (cxOf c22 22 38) (bd 38) c22.body/\JSs (cxOf c23 23 39) (bd 39) c23.body/\JSs (cxOf c24 24 40) (bd 40) c24.body/\JSs (cxOf c25 25 41) (bd 41) c25.body/\JSs (cxOf c26 26 42) (bd 42) c26.body/\JSs (cxOf c27 27 43) (bd 43) c27.body/\JSs (cxOf c28 28 44) (bd 44) c28.body/\JSs (cxOf c29 29 45) (bd 45) c29.body/\JSs (cxOf c30 30 46) (bd 46) c30.body/\JSs (cxOf c31 31 47) (bd 47) c31.body/\JSs (cxOf c32 32 48) (bd 48) c32.body/\JSs (cxOf c33 33 49) (bd 49) c33.body/\JSs (cxOf c34 34 50) (bd 50) c34.body/\JSs (cxOf c35 35 51) (bd 51) c35.body/\JSs (cxOf c36 36 52) (bd 52) c36.body/\JSs (cxOf c37 37 53) (bd 53) c37.body/\JSs (cxOf c38 38 54) (bd 54) c38.body/\JSs (cxOf c39 39 55) (bd 55) c39.body/\JSs (cxOf c40 40 56) (bd 56) c40.body/\JSs (cxOf c41 41 57) (bd 57) c41.body:=by
 refine⟨?_,?_,?_,?_,?_,?_,?_,?_,?_,?_,?_,?_,?_,?_,?_,?_,?_,?_,?_,?_,?_,?_,?_,?_,?_,?_,?_,?_,?_,?_,?_,?_,?_,?_,?_,?_,?_,?_,?_,?_,?_,?_⟩ <;> apply zh0;all_goals with_reducible repeat' first
  | apply q_nil | apply q_ret | apply q_if | apply zre | apply zh0 | apply zk0 | apply s_ret0 | apply zt1 | apply zt2 | apply zrp | apply s_asgB | apply zrq | apply zro | apply zrj | apply zrk | apply zt4 | apply s_forZ | apply zrl | apply s_forT | apply zrm | apply zt3 | apply zok | apply zrn | apply s_raise | apply s_try
  | apply zi6 | apply ztw | apply zn8 | apply zn7 | apply zq3 | apply zq2 | apply tt_cmpB | apply zq4 | apply zkw | apply tt_ite | apply zoc
  | apply zr9 | apply j_notinM | apply zsd | apply j_minL | apply zr7 | apply zsf | apply zu1 | apply zux | apply zuz | apply zsc | apply zuw | apply j_listB | apply j_dict | apply zuy | apply j_nt | apply zsh | apply zsg | apply j_or2 | apply j_orN | apply zu3 | apply zo2 | apply zu0
  | apply zma | apply j_backT | apply zsa | apply j_lenI | apply zo0 | apply j_back | apply j_idxB | apply zu2 | apply zmb | apply j_isexc | apply zsb | apply j_str1 | apply zr8 | apply zo1 | apply zmc | apply j_clear | apply zse | apply zo3 | apply JK.e
  | apply zr0 | apply zuk | apply zls | apply zot | apply zos
  | apply zsr | apply zpd | apply zo6 | apply zmh | apply zrw | apply zrv | apply zo8 | apply i_rev | apply i_e | apply zt6 | apply zt5
  | exact .inl rfl | exact .inr rfl | kernel_rfl
theorem b0:JSs (cxOf c0 0 9) (bd 9) c0.body:=bs.1
theorem b1:JSs (cxOf c1 1 10) (bd 10) c1.body:=bs.2.1
theorem b2:JSs (cxOf c2 2 11) (bd 11) c2.body:=bs.2.2.1
theorem b3:JSs (cxOf c3 3 12) (bd 12) c3.body:=bs.2.2.2.1
theorem b4:JSs (cxOf c4 4 15) (bd 15) c4.body:=bs.2.2.2.2.1
theorem b5:JSs (cxOf c5 5 16) (bd 16) c5.body:=bs.2.2.2.2.2.1
theorem b6:JSs (cxOf c6 6 17) (bd 17) c6.body:=bs.2.2.2.2.2.2.1
theorem b7:JSs (cxOf c7 7 18) (bd 18) c7.body:=bs.2.2.2.2.2.2.2.1
theorem b8:JSs (cxOf c8 8 19) (bd 19) c8.body:=bs.2.2.2.2.2.2.2.2.1
theorem b9:JSs (cxOf c9 9 20) (bd 20) c9.body:=bs.2.2.2.2.2.2.2.2.2.1
theorem b10:JSs (cxOf c10 10 22) (bd 22) c10.body:=bs.2.2.2.2.2.2.2.2.2.2.1
theorem b11:JSs (cxOf c11 11 25) (bd 25) c11.body:=bs.2.2.2.2.2.2.2.2.2.2.2.1
theorem b12:JSs (cxOf c12 12 26) (bd 26) c12.body:=bs.2.2.2.2.2.2.2.2.2.2.2.2.1
theorem b13:JSs (cxOf c13 13 28) (bd 28) c13.body:=bs.2.2.2.2.2.2.2.2.2.2.2.2.2.1
theorem b14:JSs (cxOf c14 14 29) (bd 29) c14.body:=bs.2.2.2.2.2.2.2.2.2.2.2.2.2.2.1
theorem b15:JSs (cxOf c15 15 30) (bd 30) c15.body:=bs.2.2.2.2.2.2.2.2.2.2.2.2.2.2.2.1
theorem b16:JSs (cxOf c16 16 31) (bd 31) c16.body:=bs.2.2.2.2.2.2.2.2.2.2.2.2.2.2.2.2.1
theorem b17:JSs (cxOf c17 17 32) (bd 32) c17.body:=bs.2.2.2.2.2.2.2.2.2.2.2.2.2.2.2.2.2.1
theorem b18:JSs (cxOf c18 18 33) (bd 33) c18.body:=bs.2.2.2.2.2.2.2.2.2.2.2.2.2.2.2.2.2.2.1
theorem b19:JSs (cxOf c19 19 34) (bd 34) c19.body:=bs.2.2.2.2.2.2.2.2.2.2.2.2.2.2.2.2.2.2.2.1
theorem b20:JSs (cxOf c20 20 35) (bd 35) c20.body:=bs.2.2.2.2.2.2.2.2.2.2.2.2.2.2.2.2.2.2.2.2.1
theorem b21:JSs (cxOf c21 21 37) (bd 37) c21.body:=bs.2.2.2.2.2.2.2.2.2.2.2.2.2.2.2.2.2.2.2.2.2.1
theorem b22:JSs (cxOf c22 22 38) (bd 38) c22.body:=bs.2.2.2.2.2.2.2.2.2.2.2.2.2.2.2.2.2.2.2.2.2.2.1
theorem b23:JSs (cxOf c23 23 39) (bd 39) c23.body:=bs.2.2.2.2.2.2.2.2.2.2.2.2.2.2.2.2.2.2.2.2.2.2.2.1
theorem b24:JSs (cxOf c24 24 40) (bd 40) c24.body:=bs.2.2.2.2.2.2.2.2.2.2.2.2.2.2.2.2.2.2.2.2.2.2.2.2.1
theorem b25:JSs (cxOf c25 25 41) (bd 41) c25.body:=bs.2.2.2.2.2.2.2.2.2.2.2.2.2.2.2.2.2.2.2.2.2.2.2.2.2.1
theorem b26:JSs (cxOf c26 26 42) (bd 42) c26.body:=bs.2.2.2.2.2.2.2.2.2.2.2.2.2.2.2.2.2.2.2.2.2.2.2.2.2.2.1
theorem b27:JSs (cxOf c27 27 43) (bd 43) c27.body:=bs.2.2.2.2.2.2.2.2.2.2.2.2.2.2.2.2.2.2.2.2.2.2.2.2.2.2.2.1
theorem b28:JSs (cxOf c28 28 44) (bd 44) c28.body:=bs.2.2.2.2.2.2.2.2.2.2.2.2.2.2.2.2.2.2.2.2.2.2.2.2.2.2.2.2.1
theorem b29:JSs (cxOf c29 29 45) (bd 45) c29.body:=bs.2.2.2.2.2.2.2.2.2.2.2.2.2.2.2.2.2.2.2.2.2.2.2.2.2.2.2.2.2.1
theorem b30:JSs (cxOf c30 30 46) (bd 46) c30.body:=bs.2.2.2.2.2.2.2.2.2.2.2.2.2.2.2.2.2.2.2.2.2.2.2.2.2.2.2.2.2.2.1
theorem b31:JSs (cxOf c31 31 47) (bd 47) c31.body:=bs.2.2.2.2.2.2.2.2.2.2.2.2.2.2.2.2.2.2.2.2.2.2.2.2.2.2.2.2.2.2.2.1
theorem b32:JSs (cxOf c32 32 48) (bd 48) c32.body:=bs.2.2.2.2.2.2.2.2.2.2.2.2.2.2.2.2.2.2.2.2.2.2.2.2.2.2.2.2.2.2.2.2.1
theorem b33:JSs (cxOf c33 33 49) (bd 49) c33.body:=bs.2.2.2.2.2.2.2.2.2.2.2.2.2.2.2.2.2.2.2.2.2.2.2.2.2.2.2.2.2.2.2.2.2.1
theorem b34:JSs (cxOf c34 34 50) (bd 50) c34.body:=bs.2.2.2.2.2.2.2.2.2.2.2.2.2.2.2.2.2.2.2.2.2.2.2.2.2.2.2.2.2.2.2.2.2.2.1
theorem b35:JSs (cxOf c35 35 51) (bd 51) c35.body:=bs.2.2.2.2.2.2.2.2.2.2.2.2.2.2.2.2.2.2.2.2.2.2.2.2.2.2.2.2.2.2.2.2.2.2.2.1
theorem b36:JSs (cxOf c36 36 52) (bd 52) c36.body:=bs.2.2.2.2.2.2.2.2.2.2.2.2.2.2.2.2.2.2.2.2.2.2.2.2.2.2.2.2.2.2.2.2.2.2.2.2.1
theorem b37:JSs (cxOf c37 37 53) (bd 53) c37.body:=bs.2.2.2.2.2.2.2.2.2.2.2.2.2.2.2.2.2.2.2.2.2.2.2.2.2.2.2.2.2.2.2.2.2.2.2.2.2.1
theorem b38:JSs (cxOf c38 38 54) (bd 54) c38.body:=bs.2.2.2.2.2.2.2.2.2.2.2.2.2.2.2.2.2.2.2.2.2.2.2.2.2.2.2.2.2.2.2.2.2.2.2.2.2.2.1
theorem b39:JSs (cxOf c39 39 55) (bd 55) c39.body:=bs.2.2.2.2.2.2.2.2.2.2.2.2.2.2.2.2.2.2.2.2.2.2.2.2.2.2.2.2.2.2.2.2.2.2.2.2.2.2.2.1
theorem b40:JSs (cxOf c40 40 56) (bd 56) c40.body:=bs.2.2.2.2.2.2.2.2.2.2.2.2.2.2.2.2.2.2.2.2.2.2.2.2.2.2.2.2.2.2.2.2.2.2.2.2.2.2.2.2.1
theorem b41:JSs (cxOf c41 41 57) (bd 57) c41.body:=bs.2.2.2.2.2.2.2.2.2.2.2.2.2.2.2.2.2.2.2.2.2.2.2.2.2.2.2.2.2.2.2.2.2.2.2.2.2.2.2.2.2
theorem zo{f k:Nat}{fn fn':Fn}{d:DefRec}(h:((recsOf prog)[at_ f]?.map fun d=>(d.body,d.scope))=some (bd k,sp k))(hb:JSs (cxOf fn f k) (bd k) fn.body)(hT:some fn=some fn')(hd:(recsOf prog)[at_ f]?=some d) :
 JSs { names:=yr fn' (j7 f),sc:=d.scope,fname:=wn,gname:=ut,cname:=za8 } d.body fn'.body:=by
 injection hT with fu;subst fu;rw[hd] at h;injection h with h;injection h with h1 h2;rw[h1,h2];exact hb
theorem ztk:zbk prog wn ut za8 table j7 at_:=fun f fn d=>match f with
 | 0=>zo (k:=9) (by kernel_rfl) b0
 | 1=>zo (k:=10) (by kernel_rfl) b1
 | 2=>zo (k:=11) (by kernel_rfl) b2
 | 3=>zo (k:=12) (by kernel_rfl) b3
 | 4=>zo (k:=15) (by kernel_rfl) b4
 | 5=>zo (k:=16) (by kernel_rfl) b5
 | 6=>zo (k:=17) (by kernel_rfl) b6
 | 7=>zo (k:=18) (by kernel_rfl) b7
 | 8=>zo (k:=19) (by kernel_rfl) b8
 | 9=>zo (k:=20) (by kernel_rfl) b9
 | 10=>zo (k:=22) (by kernel_rfl) b10
 | 11=>zo (k:=25) (by kernel_rfl) b11
 | 12=>zo (k:=26) (by kernel_rfl) b12
 | 13=>zo (k:=28) (by kernel_rfl) b13
 | 14=>zo (k:=29) (by kernel_rfl) b14
 | 15=>zo (k:=30) (by kernel_rfl) b15
 | 16=>zo (k:=31) (by kernel_rfl) b16
 | 17=>zo (k:=32) (by kernel_rfl) b17
 | 18=>zo (k:=33) (by kernel_rfl) b18
 | 19=>zo (k:=34) (by kernel_rfl) b19
 | 20=>zo (k:=35) (by kernel_rfl) b20
 | 21=>zo (k:=37) (by kernel_rfl) b21
 | 22=>zo (k:=38) (by kernel_rfl) b22
 | 23=>zo (k:=39) (by kernel_rfl) b23
 | 24=>zo (k:=40) (by kernel_rfl) b24
 | 25=>zo (k:=41) (by kernel_rfl) b25
 | 26=>zo (k:=42) (by kernel_rfl) b26
 | 27=>zo (k:=43) (by kernel_rfl) b27
 | 28=>zo (k:=44) (by kernel_rfl) b28
 | 29=>zo (k:=45) (by kernel_rfl) b29
 | 30=>zo (k:=46) (by kernel_rfl) b30
 | 31=>zo (k:=47) (by kernel_rfl) b31
 | 32=>zo (k:=48) (by kernel_rfl) b32
 | 33=>zo (k:=49) (by kernel_rfl) b33
 | 34=>zo (k:=50) (by kernel_rfl) b34
 | 35=>zo (k:=51) (by kernel_rfl) b35
 | 36=>zo (k:=52) (by kernel_rfl) b36
 | 37=>zo (k:=53) (by kernel_rfl) b37
 | 38=>zo (k:=54) (by kernel_rfl) b38
 | 39=>zo (k:=55) (by kernel_rfl) b39
 | 40=>zo (k:=56) (by kernel_rfl) b40
 | 41=>zo (k:=57) (by kernel_rfl) b41
 | _+42=>fun hT uA=>nomatch hT
end Mine.L06
end
section
namespace Mine.L06
open PySem PySem.W PySem.Calls PyProof.Rows Mine
theorem zu7{G:Gl}{p:Program}{loose:List Str}{mean:ExcName->Option Value}{gval:Nat->Option PyData}{gname:Nat->Option Str}{K:W.Frag}(X:K.In G.h₀)(t:Top p loose mean G.mg G.mb G.h₀)(hc:∀ c,∃ C,G.cls c=.ref C)(hb:znq K=true)
 (hv:∀ k d x,gval k=some d->gname k=some x->valOf p x=some d\/∃ v,nsIn K mainGlobals x=some (some v)/\∀ h,K.In h->Reads h v d []):GOk G gval gname where
 nolimit:=t.nolimit
 g:=t.g
 b:=t.b
 gl:=fun k d x h1 h2=>by
  refine fx (hv k d x h1 h2) ?_ ?_
  ·intro h;refine fC (t.const x d h) fun v q1 q2=>?_;exact fD v q1 (q2 _)
  ·rintro ⟨v,h,r⟩;exact fD v (W.mg_of X t.g h) (r _ X)
 clsRef:=hc
 bi:=fun q hq=>by
  have:=aV.mp hb q hq;simp only[aM,aQ,bne_iff_ne,ne_eq] at this;exact⟨W.mg_none_of X t.g this.1.1,by rw[t.builtins _ this.2];exact this.1.2⟩
 digits:=t.nodigits
theorem cl0{G:Gl}:zi5 G P za8:=⟨fun c z h=>(nomatch h),fun c z h=>(nomatch h),fun c z A s env x y np cpos pos yp yk Q E h=>(nomatch h)⟩
noncomputable abbrev oOut:Obj:=PySem.Obj.mk (Value.type "tuple") Option.none (PySem.Data.seq #[Value.int (-1) 294,Value.int 0 295,Value.int 1 296]) #[]
theorem h_gv{p:Program}{K:W.Frag}(h0:valOf p "LEAST_THINGS" = some (.int 2))(h1:valOf p "MOST_THINGS" = some (.int 5))(h2:valOf p "MOST_CASES" = some (.int 12))(h5:valOf p "MOST_DONE" = some (.int 20))(h3:nsIn K mainGlobals "OUTCOMES" = some (some (.ref 88)))(h4:K.lookup 88=some oOut):∀ k d x,P.gval k=some d->ut k=some x->valOf p x=some d\/∃ v,nsIn K mainGlobals x=some (some v)/\∀ h,K.In h->Reads h v d []:=fun k d x e1 e2=>by
 match k,e1,e2 with
 | 0,e1,e2=>injection e1 with fu;subst fu;injection e2 with fu;subst fu;exact .inl h0
 | 1,e1,e2=>injection e1 with fu;subst fu;injection e2 with fu;subst fu;exact .inl h1
 | 2,e1,e2=>injection e1 with fu;subst fu;injection e2 with fu;subst fu;exact .inl h2
 | 3,e1,e2=>
   injection e1 with fu;subst fu;injection e2 with fu;subst fu;exact .inr ⟨_,h3,fun h X=>.tuple (X 88 _ h4) rfl rfl (.cons (.int _ _) (.cons (.int _ _) (.cons (.int _ _) .nil)))⟩
 | 4,e1,e2=>injection e1 with fu;subst fu;injection e2 with fu;subst fu;exact .inl h5
 | n+5,e1,_=>contradiction
theorem h_no:∀ f,42<=f->wn f=none:=fun f hf=>a7 hf
theorem zow{p:Program}{loose:List Str}{mean:ExcName->Option Value}{K:W.Frag}{prog:Program}{w:World}{s:Shared}{mg mb:Str->Option Value}
 (t:Top p loose mean mg mb s.heap) (X:K.In s.heap) (hf:(List.range 42).all (zhc p wn table j7 at_)=true) (hbo:zbk p wn ut za8 table j7 at_) (hb:znq K=true) (hv:∀ k d x,P.gval k=some d->ut k=some x->valOf p x=some d\/∃ v,nsIn K mainGlobals x=some (some v)/\∀ h,K.In h->Reads h v d [])
 (himp:importsNone p=true) {x:Str} (hfx:wn zl1=some x) {script:List Int} {a:Addr} {rs:List Addr} (r0:Reads s.heap (.ref a) (.list (script.map .int)) rs) {d:PyData} {O'':za}
 (hev:zf P table 61 false zl1 [.d (.list (script.map .int))] []=.ok (.d d) O'') {Q:Value->Shared->Prop} {E:Value->Shared->Prop}
 (kk:∀ s' val as,s'.gens=s.gens->s'.os=s.os->(∀ b o,s.heap.get? b=some o->s'.heap.get? b=some o)->Reads s'.heap val d as->Q val s') {fa:Addr} (hmg:mg x=some (.ref fa)):wpAny (model prog w) callerA (call (.ref fa) [.ref a]) Q E s:=
 go_top (G:={ prog:=prog,w:=w,h₀:=s.heap,mg:=mg,mb:=mb,cls:=fun uA=>.ref 0,sys:=let ⟨m,h,_⟩:=(t.seer himp).mods;⟨m,h⟩ }) (zu7 X t (fun uA=>⟨0,rfl⟩) hb hv) (zso t 42 h_no hf hbo) (zrf rfl) zrh cl0 (k:=60) ⟨by decide,by decide,rfl⟩ rfl rfl rfl hfx
  (vals:=[.ref a]) (vs:=[.d (.list (script.map .int))]) (.cons ⟨rs,r0,fun b hb=>⟨fun h=>(nomatch h),fun h=>by rw[ae.mp h] at hb;refine fC (t.seer himp).mods fun m hm fy=>?_;exact zgi hm r0 hb⟩⟩ .nil) hev kk fa hmg
set_option tactic.hygienic true in
theorem holds_of(hE:∀ script:List Int,script.length<=63->∃ O,zf P table 61 false zl1 [.d (.list (script.map .int))] []=.ok (.d (.bool true)) O):PySem.Challenge.rw_uf050003_06.Holds:=by
 w_on
 refine holds_law ws fun said=>?_;refine holds_open (q:=view) (loose:=[]) (Xt:=fun s=>xlAt view [] s && recOk (RowW.records (OpenRow.toRowW (OpenLaw.row PySem.Challenge.rw_uf050003_06))) s) (XP:=XL view []) (Yf:=Hook.obs hook) (Ya:=Hook.val hook) (YP:=Hook.says hook) (N:=4700) ?hl (Hook.of hook) (Hook.keeps hook) (fun s e=>xl_of s (Bool.and_eq_true_iff.mp e).1) XL.keeps (by rfl) (by rfl) (by rfl) (fun s e=>recFacts_of (Bool.and_eq_true_iff.mp e).2) (by rfl) (by assumption) (by decide +kernel) ⟨rfl,rfl,rfl,rfl,rfl,by decide +kernel⟩ ?hw ?hc
 case hw=>w_witness2
 case hl=>exact zov
 case hc=>
  intro w s0 s1A mg mb G Y fa o pm cd doc dV kV ho hd hcd hD hmg hg args vals as hpre hlay hrd hwl hlo;have KX:=kIn_of Y;have X:=(Ground.X G).1;have V:=(Ground.X G).2;refine Ground.open G ?_;intro T B D TE TW;clear hd hcd hD
  wrow_args hpre hlay hrd hwl hlo
  clear Y G X V B D TE TW ho;rename_i script _ _ _ _ _ rs _ a vs _ hL ra _ r0 _ _ hlen _;have hlen':script.length<=63:=by lia
  refine fG (hE script hlen') fun O hev=>?_;refine zow T KX (by kernel_rfl) ztk (by kernel_rfl) (h_gv (by kernel_rfl) (by kernel_rfl) (by kernel_rfl) (by kernel_rfl) (by kernel_rfl) (by kernel_rfl)) (by kernel_rfl) rfl r0 hev ?_ hmg;intro s' val as' hgens hos hkeep hread;have hread':=readsW_of_reads (R:=Challenge.rw_uf050003_06.row.claim.records) (cl:=classAt s0.heap) hread
  cases hread;refine⟨.inl ⟨_,.bool true,[],rfl,fun uA=>rfl,?_,?_,fun uA=>⟨.nil,fun uA h=>(nomatch h)⟩⟩,.of_keep hkeep,hos,.of_eq (hgens.trans hg)⟩
  ·exact hread'
  ·kernel_rfl
end Mine.L06
end
section
namespace Mine
open PySem
theorem za7{ys:List PyData}{turn:PyData->za->R za (Option PyData)}{f:PyData->PyData}{O:za}:∀ (xs acc:List PyData),(∀ x∈xs,turn x O=.ok (some (f x)) O)->yl (.plain ys) turn xs acc O=.ok (.d (.list (acc++xs.map f))) O
 | [],acc,_=>by rw[List.map_nil,bc];rfl
 | x::xs,acc,h=>by
   rw[pw,h x am];show (if (Src.plain ys).still O=true then _ else _)=_;rw[af (show (Src.plain ys).still _=true from rfl),za7 xs _ fun y hy=>h y (ah _ hy)];simp
theorem zaw{α:Type}{ys:List PyData}{turn:PyData->Loc->za->R (Loc×za) Fl}(st:α->Loc×za)(f:α->PyData->α):∀ (xs:List PyData) (a:α),(∀ a,∀ x∈xs,turn x (st a).1 (st a).2=.ok .next (st (f a x))) ->
 zv (.plain ys) turn xs (st a).1 (st a).2=.ok .next (st (xs.foldl f a))
 | [],a,_=>rfl
 | x::xs,a,h=>by
   rw[vn,h a x am];show (if (Src.plain ys).still _=true then _ else _)=_;rw[af (show (Src.plain ys).still _=true from rfl),zaw st f xs (f a x) fun a y hy=>h a y (ah _ hy)];rfl
section
variable{P:Pg}{ρ:Loc}{O:za}{a b c t:CE}{es:CEs}
theorem jc{i:Int}:evE P ρ (.int i) O=.ok (.d (.int i)) O:=rfl
theorem xu{i:Nat}:evE P ρ (.loc i) O=opt (ρ[i]?.join) O:=rfl
theorem zp6:evE P ρ (.tup es) O=(evEs P ρ es O).bind fun vs O=>opt (tupV vs) O:=rfl
theorem p9:evE P ρ (.list es) O=(evEs P ρ es O).bind fun vs O=>opt ((allD vs).map fun xs=>.d (.list xs)) O:=rfl
theorem zn5:evE P ρ (.boxed a) O=(evE P ρ a O).bind boxK:=rfl
theorem x_nt:evE P ρ (.nt a) O=(evE P ρ a O).bind fun v O=>opt ((truth v).map fun b=>.d (.bool !b)) O:=rfl
theorem ztq:evE P ρ (.and_ a b) O=(evE P ρ a O).bind fun v O=>(opt (truth v) O).bind (andK fun O=>evE P ρ b O):=rfl
theorem x_or:evE P ρ (.or_ a b) O=(evE P ρ a O).bind fun v O=>(opt (truth v) O).bind (orK fun O=>evE P ρ b O):=rfl
theorem zht:evE P ρ (.ite t a b) O=(evE P ρ t O).bind fun v O=>(opt (truth v) O).bind (iteK (fun O=>evE P ρ a O) fun O=>evE P ρ b O):=rfl
theorem dm{op:Bop}:evE P ρ (.bin op a b) O=(evE P ρ a O).bind fun v O=>(evE P ρ b O).bind fun u O=>binK op v u O:=rfl
theorem zd4{op:Cop}:evE P ρ (.cmp op a b) O=(evE P ρ a O).bind fun v O=>(evE P ρ b O).bind fun u O=>cmpV op v u O:=rfl
theorem zn4{p q:Cop}:evE P ρ (.chain p q a b c) O=(evE P ρ a O).bind fun v O=>(evE P ρ b O).bind fun u O=>(cmpV p v u O).bind fun t O=>(opt (truth t) O).bind (andK fun O=>(evE P ρ c O).bind fun y O=>cmpV q u y O):=rfl
theorem zby:evE P ρ (.idx a b) O=(evE P ρ a O).bind fun v O=>(evE P ρ b O).bind fun u O=>idxV v u O:=rfl
theorem zhr:evE P ρ (.slice a b c) O=(evE P ρ a O).bind fun v O=>(evE P ρ b O).bind fun l O=>(evE P ρ c O).bind fun h O=>zgf v l h O:=rfl
theorem x_call{f:Nat}:evE P ρ (.call f es) O=(evEs P ρ es O).bind fun vs O=>P.call P.hd f vs O:=rfl
theorem zf4{p:Prim}:evE P ρ (.prim p es) O=if (P.hd && !p.calm)=true then .stuck else (evEs P ρ es O).bind fun vs O=>prim P p vs O:=rfl
theorem zqs{m:Meth}:evE P ρ (.meth m a es) O=(evE P ρ a O).bind fun v O=>if recv m v O then (evEs P ρ es O).bind fun vs O=>meth m v vs O else .stuck:=rfl
theorem k9:evEs P ρ .nil O=.ok [] O:=rfl
theorem jd:evEs P ρ (.cons a es) O=(evE P ρ a O).bind fun v O=>(evEs P ρ es O).bind fun vs O=>.ok (v::vs) O:=rfl
theorem ztp:xl P ρ .nil O=.ok true O:=rfl
theorem zbx:xl P ρ (.cons a es) O=(evE P ρ a O).bind fun v O=>(opt (truth v) O).bind fun t O=>(match t with
 | true=>xl P ρ es O
 | false=>.ok false O):=rfl
theorem x_e:evI P ρ (.e a) O=(evE P ρ a O).bind srcV:=rfl
theorem zoe{n:Nat}{xs:List PyData}(h:O[n]?=some (.lst xs)):srcV (.box n) O=.ok (.box n xs) O:=by unfold srcV;dsimp only;rw[h]
noncomputable def zlf(v u:V)(O:za):R za Src:=(xb v u O).bind fun p O=>.ok (.plain (zl p.1 p.2)) O
theorem xn{i j:Int}(h : -(10 ^ 9)<=i/\i<=10 ^ 9/\-(10 ^ 9)<=j/\j<=10 ^ 9):zlf (.d (.int i)) (.d (.int j)) O=.ok (.plain (zl i j)) O:=by
 have:xb (.d (.int i)) (.d (.int j)) O=.ok (i,j) O:=af h;unfold zlf;rw[this];rfl
theorem q7:evI P ρ (.range a b) O=((evE P ρ a O).bind fun v O=>(evE P ρ b O).bind fun u O=>xb v u O).bind fun p O=>.ok (.plain (zl p.1 p.2)) O:=rfl
theorem zqx{elt:CE}{tgt:CT}{it:CI}{ifs:CEs}{xs:List PyData}{O':za}(hd:P.hd=false)(hit:evI P ρ it O=.ok (.plain xs) O')(hl:xs.length<=line)(f:PyData->PyData)
 (h:∀ x∈xs,∃ ρ',zu tgt (.d x) ρ=some ρ'/\xl P ρ' ifs O'=.ok true O'/\evE P ρ' elt O'=.ok (.d (f x)) O'):evE P ρ (.comp elt tgt it ifs) O=.ok (.d (.list (xs.map f))) O':=by
 show (if P.hd=true then .stuck else _:R za V)=_;rw[ak (by rw[hd];decide),hit];show (if xs.length<=line then _ else _)=_;rw[af hl];refine za7 (f:=f) xs [] fun x hx=>?_;refine fN (h x hx) fun ρ' h1 h2 h3=>?_;unfold xk;rw[h1];dsimp only;rw[h2];simp only[R.bind,h3]
theorem zhs:evS P (.ret a) ρ O=((evE P ρ a O).lift ρ).bind fun v S=>.ok (.ret v) S:=rfl
theorem wq{y:CT}:evS P (.asg y a) ρ O=if (P.hd && !y.isName)=true then .stuck else ((evE P ρ a O).lift ρ).bind (asgR y):=rfl
theorem zbw{p q:CSs}:evS P (.ife t p q) ρ O=(((evE P ρ t O).bind fun v O=>opt (truth v) O).lift ρ).bind (ifeK (fun S=>evSs P p S.1 S.2) fun S=>evSs P q S.1 S.2):=rfl
noncomputable def z6(P:Pg)(y:CT)(p:CSs):PyData->Loc->za->R (Loc×za) Fl:=j5 y fun ρ O=>evSs P p ρ O
theorem jn{y:CT}{it:CI}{p:CSs}:evS P (.for_ y it p) ρ O=if P.hd=true then .stuck else ((evI P ρ it O).lift ρ).bind fun src S=>zv src (z6 P y p) src.xs S.1 S.2:=rfl
theorem zqw:evS P (.expr a) ρ O=((evE P ρ a O).lift ρ).bind fun uA S=>.ok .next S:=rfl
theorem dk:evSs P .nil ρ O=.ok .next (ρ,O):=rfl
theorem jm{s:CS}{ss:CSs}:evSs P (.cons s ss) ρ O=(evS P s ρ O).bind (seqK fun S=>evSs P ss S.1 S.2):=rfl
end
section
variable{P:Pg}{ρ:Loc}{O:za}
theorem zw{σ α β:Type}{a:α}{s:σ}{f:α->σ->R σ β}:(R.ok a s).bind f=f a s:=rfl
theorem kj{α:Type}{a:α}:(R.ok a O).lift ρ=.ok a (ρ,O):=rfl
theorem jy{α:Type}{a:α}:opt (some a) O=.ok a O:=rfl
theorem zc7{b:Bool}:truth (.d (.bool b))=some b:=rfl
theorem zmu{p q:Loc×za->R (Loc×za) Fl}{S:Loc×za}:ifeK p q true S=p S:=rfl
theorem zik{p q:Loc×za->R (Loc×za) Fl}{S:Loc×za}:ifeK p q false S=q S:=rfl
theorem zgj{p:Loc×za->R (Loc×za) Fl}{v:V}{S:Loc×za}:seqK p (.ret v) S=.ok (.ret v) S:=rfl
theorem zgk{p:Loc×za->R (Loc×za) Fl}{S:Loc×za}:seqK p .next S=p S:=rfl
theorem zbe{i:Nat}{v:V}:zu (.name i) v ρ=if i < ρ.length then some (ρ.set i (some v)) else none:=rfl
theorem zd0:allD []=some []:=rfl
theorem zd1{x:PyData}{r:List V}:allD (.d x::r)=(allD r).map (x::·):=rfl
theorem znn:Prim.calm .len=true:=rfl
theorem nm_1{i:Nat}:CT.isName (.name i)=true:=rfl
theorem zeq{p:Prim}{x y:PyData}(h:zcc P p x=some y):prim P p [.d x] O=.ok (.d y) O:=by
 have e:∀ (o:Option PyData),o=some y->(match o with | some y=>R.ok (V.d y) O | none=>.stuck)=R.ok (V.d y) O:=fun o h=>by rw[h]
 cases p with
 | isexc _=>contradiction
 | _=>exact e _ h
theorem zrx{xs:List PyData}(h:xs.length<=line):prim P .len [.d (.tuple xs)] O=.ok (.d (.int xs.length)) O:=zeq (af h)
theorem zde{xs:List PyData}(h:xs.length<=line):prim P .len [.d (.list xs)] O=.ok (.d (.int xs.length)) O:=zeq (af h)
theorem zcu{α:Type}(g:α->Bool):∀ xs:List α,wb (xs.map fun x=>.bool (g x))=some (xs.map g)
 | []=>rfl
 | x::xs=>by rw[a6,wb,zcu g xs];rfl
theorem ints_map{α:Type}(g:α->Int):∀ xs:List α,Mine.intsOf (xs.map fun x=>.int (g x))=some (xs.map g)
 | []=>rfl
 | x::xs=>by rw[a6,Mine.intsOf,ints_map g xs];rfl
theorem ur:∀ xs:List Int,Mine.intsOf (xs.map .int)=some xs
 | []=>rfl
 | x::xs=>by rw[a6,Mine.intsOf,ur xs];rfl
theorem zui{α:Type}{g:α->Bool}{xs:List α}:prim P .all [.d (.list (xs.map fun x=>.bool (g x)))] O=.ok (.d (.bool (xs.all g))) O:=by
 have e:(xs.map g).all id=xs.all g:=by rw[List.all_map];rfl
 rw[<- e];exact zeq (show (wb (xs.map fun x=>.bool (g x))).map (fun bs=>PyData.bool (bs.all id))=_ by rw[zcu];rfl)
theorem zuh{α:Type}{g:α->Int}{xs:List α}:prim P .sum [.d (.list (xs.map fun x=>.int (g x)))] O=.ok (.d (.int (xs.map g).sum)) O:=
 zeq (show (Mine.intsOf (xs.map fun x=>.int (g x))).map (fun is=>PyData.int is.sum)=_ by rw[ints_map];rfl)
theorem zru{xs:List PyData}(h:xs.length<=line):prim P .tuple [.d (.list xs)] O=.ok (.d (.tuple xs)) O:=zeq (af h)
theorem v_eq{x y:PyData}:cmpV .eq (.d x) (.d y) O=opt ((gq .eq x y).map fun b=>.d (.bool b)) O:=rfl
theorem v_ne{x y:PyData}:cmpV .ne (.d x) (.d y) O=opt ((gq .ne x y).map fun b=>.d (.bool b)) O:=rfl
theorem v_lt{x y:Int}:cmpV .lt (.d (.int x)) (.d (.int y)) O=.ok (.d (.bool (decide (x < y)))) O:=rfl
theorem v_le{x y:Int}:cmpV .le (.d (.int x)) (.d (.int y)) O=.ok (.d (.bool (decide (x<=y)))) O:=rfl
theorem v_gt{x y:Int}:cmpV .gt (.d (.int x)) (.d (.int y)) O=.ok (.d (.bool (decide (x > y)))) O:=rfl
theorem kx{x k:PyData}:idxV (.d x) (.d k) O=opt ((idxD x k).map .d) O:=rfl
theorem gg{a b:Int}:binK .add (.d (.int a)) (.d (.int b)) O=.ok (.d (.int (a+b))) O:=rfl
theorem v8{a b:Int}:binK .sub (.d (.int a)) (.d (.int b)) O=.ok (.d (.int (a - b))) O:=rfl
theorem zl9{op:Bop}{x y:PyData}:binK op (.d x) (.d y) O=opt ((zcw op x y).map V.d) O:=rfl
theorem zl7{a b:Int}(h:a.natAbs < 2 ^ 64\/b.natAbs < 2 ^ 64):binK .mul (.d (.int a)) (.d (.int b)) O=.ok (.d (.int (a * b))) O:=by rw[zl9];show opt (Option.map V.d (if _ then _ else _)) O=_;rw[af h];rfl
theorem zdk{a b:Int}(h:b≠0/\b.natAbs < 1073741824):binK .fdiv (.d (.int a)) (.d (.int b)) O=.ok (.d (.int (Int.fdiv a b))) O:=by rw[zl9];show opt (Option.map V.d (if _ then _ else _)) O=_;rw[af h];rfl
theorem zl8{a b:Int}(h:b≠0):binK .mod (.d (.int a)) (.d (.int b)) O=.ok (.d (.int (Int.fmod a b))) O:=by rw[zl9];show opt (Option.map V.d (if _ then _ else _)) O=_;rw[ak h];rfl
theorem zfc{a b:Int}:eqOk (.int a) (.int b)=true:=by unfold eqOk;rfl
theorem zil{a b:Int}:PyData.eqv (.int a) (.int b)=decide (a=b):=by first | rfl | simp[PyData.eqv]
theorem eq_int{a b:Int}:cmpV .eq (.d (.int a)) (.d (.int b)) O=.ok (.d (.bool (decide (a=b)))) O:=by
 show opt (Option.map (fun b=>V.d (.bool b)) (if eqOk (.int a) (.int b)=true then some (PyData.eqv (.int a) (.int b)) else none)) O=_;rw[zfc,zil];rfl
theorem ne_int{a b:Int}:cmpV .ne (.d (.int a)) (.d (.int b)) O=.ok (.d (.bool (!decide (a=b)))) O:=by
 show opt (Option.map (fun b=>V.d (.bool b)) (if eqOk (.int a) (.int b)=true then some (!PyData.eqv (.int a) (.int b)) else none)) O=_;rw[zfc,zil];rfl
end
section
variable{P:Pg}{ρ ρ':Loc}{O O' O'':za}{a b c e t:CE}{es:CEs}{v u:V}
theorem kf(h:evE P ρ e O=.ok v O'):evS P (.expr e) ρ O=.ok .next (ρ,O'):=by rw[zqw,h];rfl
theorem zz{i:Nat}(h:evE P ρ e O=.ok v O')(hi:Nat.blt i ρ.length=true)(hr:ρ.set i (some v)=ρ'):evS P (.asg (.name i) e) ρ O=.ok .next (ρ',O'):=by
 subst hr;rw[wq,h];have:(P.hd && !(CT.name i).isName)=false:=by cases P.hd <;> rfl
 rw[this,ak ao];show (match (if i < ρ.length then some (ρ.set i (some v)) else none) with | some ρ'=>R.ok Fl.next (ρ',O') | none=>.stuck)=_;rw[af (show i < ρ.length from cK hi)]
theorem zx{p:CSs}(h:evE P ρ t O=.ok (.d (.bool false)) O'):evS P (.ife t p .nil) ρ O=.ok .next (ρ,O'):=by rw[zbw,h];rfl
theorem w_if{p q:CSs}{bb:Bool}(h:evE P ρ t O=.ok (.d (.bool bb)) O'):evS P (.ife t p q) ρ O=if bb then evSs P p ρ O' else evSs P q ρ O':=by rw[zbw,h];cases bb <;> rfl
theorem z8(h:evE P ρ e O=.ok v O'):evS P (.ret e) ρ O=.ok (.ret v) (ρ,O'):=by rw[zhs,h];rfl
theorem zc{st:CS}{ss:CSs}(h:evS P st ρ O=.ok .next (ρ',O')):evSs P (.cons st ss) ρ O=evSs P ss ρ' O':=by rw[jm,h];rfl
theorem ze{st:CS}{ss:CSs}{S:Loc×za}(h:evS P st ρ O=.ok (.ret v) S):evSs P (.cons st ss) ρ O=.ok (.ret v) S:=by rw[jm,h];rfl
theorem zi{f:Nat}{vs:List V}{r:R za V}(he:evEs P ρ es O=.ok vs O')(hc:P.call P.hd f vs O'=r):evE P ρ (.call f es) O=r:=by rw[x_call,he];exact hc
theorem zh{vs:List V}(h:evE P ρ a O=.ok v O')(h':evEs P ρ es O'=.ok vs O''):evEs P ρ (.cons a es) O=.ok (v::vs) O'':=by rw[jd,h,zw,h',zw]
theorem w_nt{bb:Bool}(h:evE P ρ a O=.ok (.d (.bool bb)) O'):evE P ρ (.nt a) O=.ok (.d (.bool !bb)) O':=by rw[x_nt,h];rfl
theorem w_or{bb:Bool}(h:evE P ρ a O=.ok (.d (.bool bb)) O'):evE P ρ (.or_ a b) O=if bb then .ok (.d (.bool true)) O' else evE P ρ b O':=by rw[x_or,h];cases bb <;> rfl
theorem w_and{bb:Bool}(h:evE P ρ a O=.ok (.d (.bool bb)) O'):evE P ρ (.and_ a b) O=if bb then evE P ρ b O' else .ok (.d (.bool false)) O':=by rw[ztq,h];cases bb <;> rfl
theorem yf{r:R za V}(h:evE P ρ a O=.ok (.d (.bool false)) O')(h':evE P ρ b O'=r):evE P ρ (.or_ a b) O=r:=(w_or h).trans h'
theorem ztu(h:evE P ρ a O=.ok (.d (.bool true)) O'):evE P ρ (.or_ a b) O=.ok (.d (.bool true)) O':=w_or h
theorem je{r:R za V}(h:evE P ρ a O=.ok (.d (.bool true)) O')(h':evE P ρ b O'=r):evE P ρ (.and_ a b) O=r:=(w_and h).trans h'
theorem zc2(h:evE P ρ a O=.ok (.d (.bool false)) O'):evE P ρ (.and_ a b) O=.ok (.d (.bool false)) O':=w_and h
theorem yj{p:Prim}{r:R za V}(hp:(P.hd && !p.calm)=false)(h:evE P ρ a O=.ok v O')(hr:prim P p [v] O'=r):evE P ρ (.prim p (.cons a .nil)) O=r:=by rw[zf4,hp,ak ao,jd,h,zw,k9,zw,zw];exact hr
theorem zp{op:Cop}{r:R za V}(h1:evE P ρ a O=.ok v O')(h2:evE P ρ b O'=.ok u O'')(h3:cmpV op v u O''=r):evE P ρ (.cmp op a b) O=r:=by rw[zd4,h1,zw,h2,zw];exact h3
theorem yd{op:Bop}{r:R za V}(h1:evE P ρ a O=.ok v O')(h2:evE P ρ b O'=.ok u O'')(h3:binK op v u O''=r):evE P ρ (.bin op a b) O=r:=by rw[dm,h1,zw,h2,zw];exact h3
theorem zy{r:R za V}(h1:evE P ρ a O=.ok v O')(h2:evE P ρ b O'=.ok u O'')(h3:idxV v u O''=r):evE P ρ (.idx a b) O=r:=by rw[zby,h1,zw,h2,zw];exact h3
theorem uc{m:Meth}{vs:List V}{r:R za V}(h1:evE P ρ a O=.ok v O')(hr:recv m v O'=true)(h2:evEs P ρ es O'=.ok vs O'')(h3:meth m v vs O''=r):evE P ρ (.meth m a es) O=r:=by rw[zqs,h1,zw,af hr,h2];exact h3
theorem ul{p:Prim}{x y:PyData}(hv:look O v=some x)(hp:zcc P p x=some y):prim P p [v] O=.ok (.d y) O:=by
 have e:([v].mapM (look O)).bind (v5 P p)=some y:=by rw[List.mapM_cons,hv,List.mapM_nil];exact hp
 have e2:∀ (o:Option PyData),o=some y->(match o with | some y=>R.ok (V.d y) O | none=>.stuck)=R.ok (V.d y) O:=fun o h=>by rw[h]
 cases p with
 | isexc _=>contradiction
 | _=>exact e2 _ e
inductive Seen(O:za):V->List PyData->Prop
 | d (xs:List PyData):Seen O (.d (.list xs)) xs
 | box (n:Nat) (xs:List PyData) (h:O[n]?=some (.lst xs)):Seen O (.box n) xs
theorem Seen.look{xs:List PyData}(h:Seen O v xs):look O v=some (.list xs):=by
 cases h with
 | d xs=>rfl
 | box n xs h=>show (match O[n]? with | some (.lst xs)=>some (PyData.list xs) | _=>none)=_;rw[h]
theorem Seen.src{xs:List PyData}(h:Seen O v xs):∃ src:Src,srcV v O=.ok src O/\src.xs=xs/\src.still O=true:=by
 cases h with
 | d xs=>exact fJ _ rfl rfl rfl
 | box n xs h=>exact fJ _ (zoe h) rfl (by unfold Src.still;exact @aA _ (Classical.propDecidable _) h)
theorem Seen.more{xs:List PyData}{bx:Box}(h:Seen O v xs):Seen (O++[bx]) v xs:=by
 cases h with
 | d xs=>exact .d xs
 | box n xs h=>exact .box n xs (by rw[aJ (ve h)];exact h)
theorem zez{xs:List PyData}(h:Seen O v xs):prim P (.isinst .list) [v] O=.ok (.d (.bool true)) O:=ul h.look rfl
theorem zew{xs:List PyData}(h:Seen O v xs)(hl:xs.length<=line):prim P .len [v] O=.ok (.d (.int xs.length)) O:=ul h.look (af hl)
theorem zcs{src:Src}{turn:PyData->za->R za (Option PyData)}{f:PyData->Option PyData}(hs:src.still O=true):∀ (xs acc:List PyData),(∀ x∈xs,turn x O=.ok (f x) O)->yl src turn xs acc O=.ok (.d (.list (acc++xs.filterMap f))) O
 | [],acc,_=>by rw[List.filterMap_nil,bc];rfl
 | x::xs,acc,h=>by
   rw[pw,h x am];show (if src.still O=true then _ else _)=_;rw[af hs,zcs hs xs _ fun y hy=>h y (ah _ hy),bj]
   cases hx:f x with
   | none=>rw[dE hx];rfl
   | some y=>rw[dF hx];rfl
theorem q8{elt:CE}{tgt:CT}{it:CI}{ifs:CEs}{src:Src}(hd:P.hd=false)(hit:evI P ρ it O=.ok src O)(hs:src.still O=true)(hl:src.xs.length<=line)(f:PyData->Option PyData)
 (h:∀ x∈src.xs,xk tgt (fun ρ O=>xl P ρ ifs O) (fun ρ O=>evE P ρ elt O) ρ x O=.ok (f x) O):evE P ρ (.comp elt tgt it ifs) O=.ok (.d (.list (src.xs.filterMap f))) O:=by
 show (if P.hd=true then .stuck else _:R za V)=_;rw[ak (by rw[hd];decide),hit];show (if src.xs.length<=line then _ else _)=_;rw[af hl];exact zcs hs src.xs [] h
theorem zhu{elt:CE}{tgt:CT}{it:CI}{src:Src}(hd:P.hd=false)(hit:evI P ρ it O=.ok src O)(hs:src.still O=true)(hl:src.xs.length<=line)(f:PyData->PyData)
 (h:∀ x∈src.xs,∃ ρ',zu tgt (.d x) ρ=some ρ'/\evE P ρ' elt O=.ok (.d (f x)) O):evE P ρ (.comp elt tgt it .nil) O=.ok (.d (.list (src.xs.map f))) O:=by
 rw[<- List.filterMap_eq_map];refine q8 hd hit hs hl _ fun x hx=>?_;refine fC (h x hx) fun ρ' h1 h2=>?_;unfold xk;rw[h1];show R.bind (evE P ρ' elt O) _=_;rw[h2];rfl
theorem wp{elt:CE}{tgt:CT}{it:CI}{src:Src}{xs:List PyData}(g:PyData->Bool)(hd:P.hd=false)(hit:evI P ρ it O=.ok src O)(hx:src.xs=xs)(hs:src.still O=true)(hl:xs.length<=line)
 (h:∀ x∈xs,∃ ρ',zu tgt (.d x) ρ=some ρ'/\evE P ρ' elt O=.ok (.d (.bool (g x))) O):evE P ρ (.prim .all (.cons (.comp elt tgt it .nil) .nil)) O=.ok (.d (.bool (xs.all g))) O:=by
 subst hx;refine yj (by rw[hd];rfl) (zhu hd hit hs hl (fun x=>.bool (g x)) h) ?_;exact zui
end
end Mine
end
section
namespace Mine.L06
local macro_rules
|`(#[$x])=>`(.cons $x .nil)
|`(#[$x,$ys,*])=>`(.cons $x #[$ys,*])
open PySem Mine
section
variable{P:Pg}{ρ:Loc}{O:za}{a b c:CE}
theorem zqr:evE P ρ (.min2 a b) O=if P.hd=true then .stuck else (evE P ρ a O).bind fun v O=>(evE P ρ b O).bind fun u O=>minV v u O:=rfl
theorem zqu:evE P ρ (.lenS a) O=if P.hd=true then .stuck else (evE P ρ a O).bind fun v O=>opt (((look O v).bind zam).map .d) O:=rfl
end
noncomputable abbrev PG(k:Nat)(hd:Bool):Pg:={ P with call:=zf P table k,hd:=hd }
theorem ke{k:Nat}{hd:Bool}{f:Nat}{fn:Fn}{args:List V}{O:za}(h:table f=some fn)(hl:args.length=fn.arity/\fn.arity<=fn.slots):zf P table (k+1) hd f args O=evFn (PG k hd) fn args O:=by
 rw[zix,h];exact af hl
section
variable{k:Nat}{hd:Bool}{f:Nat}{fn:Fn}{args:List V}{O:za}{ρ ρ':Loc}{x:PyData}(h:table f=some fn)(hl:args.length=fn.arity/\fn.arity<=fn.slots)(hρ:args.map some++List.replicate (fn.slots - fn.arity) none=ρ)
include h hl hρ
theorem zbc{O':za}(hb:evSs (PG k hd) fn.body ρ O=.ok (.ret (.d x)) (ρ',O++O')):zf P table (k+1) hd f args O=.ok (.d x) O:=by
 rw[ke h hl,evFn,hρ,hb];show R.ok (V.d x) ((O++O').take O.length)=_;rw[List.take_left'];rfl
theorem zj(hb:evSs (PG k hd) fn.body ρ O=.ok (.ret (.d x)) (ρ',O)):zf P table (k+1) hd f args O=.ok (.d x) O:=
 zbc (O':=[]) h hl hρ (by rw[bc];exact hb)
theorem zkf(hb:evSs (PG k hd) fn.body ρ O=.ok .next (ρ',O)):zf P table (k+1) hd f args O=.ok (.d .none) O:=by
 rw[ke h hl,evFn,hρ,hb];show R.ok (V.d .none) (O.take O.length)=_;rw[bh]
end
def good(m:Nat)(c:List Int):Prop:=c.length=m/\∀ i∈c,-1<=i/\i<=1
def m4(m:Nat):Prop:=2<=m/\m<=5
theorem k6{m:Nat}(h:m4 m):m=2\/m=3\/m=4\/m=5:=by have:=h.1;have:=h.2;lia
structure Found(m:Nat)(cs:List (List Int)):Prop where
 good:∀ c∈cs,good m c
 nodup:cs.Nodup
 pos:1<=cs.length
 le:cs.length<=12
noncomputable def caseD(c:List Int):PyData:=.tuple (c.map .int)
noncomputable def zb(cs:List (List Int)):List PyData:=cs.map caseD
theorem zq{cs:List (List Int)}:(zb cs).length=cs.length:=aL _
theorem zax:∀ (kss K:List (List Int)),(K++kss).Nodup->kss.foldl addK K=K++kss
 | [],K,_=>(bc K).symm
 | k::kss,K,h=>by
   have hk:k∉K:=fun hm=>(bT.mp h).2.2 k hm k am rfl;rw[dI];have:addK K k=K++[k]:=by unfold addK;rw[ak hk]
   rw[this,zax kss (K++[k]) (by rw[bj];exact h),bj];rfl
theorem wd:∀ cs:List (List Int),jo (zb cs)=some cs
 | []=>rfl
 | c::cs=>by
   show ((intsOf (c.map .int)).bind fun a=>(jo (zb cs)).map (a::·))=_;rw[ur,wd cs];rfl
theorem zgz{cs:List (List Int)}(h:cs.length<=17)(hn:cs.Nodup):zam (.list (zb cs))=some (.int cs.length):=by
 show ((jo (zb cs)).bind fun kss=>if kss.length<=17 then some (PyData.int (yo kss kss.length).length) else none)=_;rw[wd];show (if cs.length<=17 then _ else _)=_;rw[af h,show yo cs cs.length=cs by unfold yo;rw[bh];exact zax cs [] hn]
noncomputable def allC:Nat->List (List Int)
 | 0=>[[]]
 | n+1=>(allC n).flatMap fun c=>[-1::c,0::c,1::c]
theorem zes:∀ {m:Nat} {c:List Int},good m c->c∈allC m
 | 0,c,h=>by
   have:=List.length_eq_zero_iff.mp h.1;subst this;exact ae.mpr rfl
 | m+1,c,h=>by
   cases c with
   | nil=>cases h.1
   | cons i c=>
     refine bG.mpr ⟨c,zes ⟨cY h.1,fun j hj=>h.2 j (ah _ hj)⟩,?_⟩;have hi:=h.2 i am;have:i = -1\/i=0\/i=1:=by lia
     rcases this with rfl | rfl | rfl <;> simp
theorem km{α β:Type}{f g:α->β}{l:List α}(h:l.map f=l.map g){x:α}(hx:x∈l):f x=g x:=List.map_inj_left.mp h x hx
noncomputable def Tk:Nat->za->za
 | 0,O=>O
 | n+1,O=>Tk n (O.take O.length)
theorem znx:∀ (n:Nat) (O:za),Tk n O=O
 | 0,_=>rfl
 | n+1,O=>by rw[Tk,bh];exact znx n O
abbrev zfs(m k:Nat)(O:za):Prop:=(allC m).map (fun c=>zf P table (k+2) false 2 [.d (.int m),.d (caseD c)] O)=(allC m).map fun uA=>.ok (.d (.bool true)) ((Tk m O).take O.length)
theorem zvu{k:Nat}{O:za}:zfs 2 k O:=by kernel_rfl
theorem zvt{k:Nat}{O:za}:zfs 3 k O:=by kernel_rfl
theorem zvs{k:Nat}{O:za}:zfs 4 k O:=by kernel_rfl
theorem zvr{k:Nat}{O:za}:zfs 5 k O:=by kernel_rfl
theorem zm8{k m:Nat}{c:List Int}{O:za}(hm:m4 m)(h:good m c):zf P table (k+2) false 2 [.d (.int m),.d (caseD c)] O=.ok (.d (.bool true)) O:=by
 have hc:=zes h;have hq:zfs m k O:=by
  rcases k6 hm with rfl | rfl | rfl | rfl
  ·exact zvu
  ·exact zvt
  ·exact zvs
  ·exact zvr
 refine (km hq hc).trans ?_;rw[znx,bh]
theorem zpm{k m:Nat}{O:za}(hm:m4 m):zf P table (k+2) false 1 [.d (.int m)] O=.ok (.d .none) O:=by
 have:zf P table (k+2) false 1 [.d (.int m)] O=.ok (.d .none) ((O.take O.length).take O.length):=by rcases k6 hm with rfl | rfl | rfl | rfl <;> kernel_rfl
 rw[this,bh,bh]
theorem zsz{k m:Nat}{cs:List (List Int)}{v:V}{O:za}(hm:m4 m)(f:Found m cs)(h:Seen O v (zb cs)):zf P table (k+3) false 3 [.d (.int m),v] O=.ok (.d .none) O:=by
 have f1:=f.pos;have f2:=f.le;have hl:(zb cs).length<=line:=by rw[zq];exact ai f.le (by decide)
 obtain⟨src,s1,s2,s3⟩:=h.src;have pl:prim (PG (k+2) false) .len [v] O=.ok (.d (.int cs.length)) O:=by rw[zew h hl,zq]
 have le:evE (PG (k+2) false) [some (.d (.int m)),some v,none] (.prim .len #[.loc 1]) O=.ok (.d (.int cs.length)) O:=yj rfl rfl pl;have d1:decide ((1:Int)<=(cs.length:Int))=true:=aA (by lia);have d2:decide ((cs.length:Int)<=12)=true:=aA (by lia);have d3:decide ((cs.length:Int) < (cs.length:Int))=false:=aF (by lia);have t1:evE (PG (k+2) false) [some (.d (.int m)),some v,none] (.chain .le .le (.int 1) (.prim .len #[.loc 1]) (.glob 2)) O=.ok (.d (.bool true)) O:=by
  rw[zn4,jc,zw,le,zw,v_le,d1];show cmpV .le (.d (.int cs.length)) (.d (.int 12)) O=_;rw[v_le,d2]
 have t2:evE (PG (k+2) false) [some (.d (.int m)),some v,none] (.prim .all #[.comp (.call 2 #[.loc 0,.loc 2]) (.name 2) (.e (.loc 1)) .nil]) O=.ok (.d (.bool true)) O:=by
  have:=wp (P:=PG (k+2) false) (ρ:=[some (.d (.int m)),some v,none]) (elt:=.call 2 #[.loc 0,.loc 2]) (tgt:=.name 2) (it:=.e (.loc 1)) (O:=O) (fun uA=>true) rfl s1 s2 s3 hl fun x hx=>⟨[some (.d (.int m)),some v,some (.d x)],rfl,by
   refine fC (az.mp hx) fun c hc eO=>?_;subst eO;exact zi rfl (zm8 hm (f.good c hc))⟩
  rw[this];congr 4;exact aV.mpr fun uA uA=>rfl
 have t3:evE (PG (k+2) false) [some (.d (.int m)),some v,none] (.lenS (.loc 1)) O=.ok (.d (.int cs.length)) O:=by
  rw[zqu,ak ao];show opt (((look O v).bind zam).map V.d) O=_;rw[h.look];show opt ((zam (.list (zb cs))).map V.d) O=_;rw[zgz (by lia) f.nodup];rfl
 refine zkf (fn:=c3) (ρ':=[some (.d (.int m)),some v,none]) rfl ⟨rfl,by decide⟩ rfl ?_;refine (zc (kf (zi rfl (zpm hm)))).trans ?_;refine (zc (zx (yf (w_nt (yj rfl rfl (zez h))) (w_nt t1)))).trans ?_;refine (zc (zx (w_nt t2))).trans ?_;refine (zc (zx (zp t3 le ?_))).trans rfl;rw[v_lt,d3]
theorem ze4{is:List Int}{j:Nat}(hl:is.length<=line)(hj:j < is.length):idxD (.list (is.map .int)) (.int j)=some (.int (is.getD j 0)):=by
 have e:(is.map PyData.int)[j]?=some (.int (is.getD j 0)):=by
  rw[aU,List.getD_eq_getElem?_getD,au hj];rfl
 unfold idxD items;dsimp only;rw[aL,af hl,af (by lia)];exact e
theorem ze9{a:Int}{n:Nat}(hn:0 < n):∃ j:Nat,j < n/\Int.fmod a (n:Int)=(j:Int):=by
 have h1:Int.fmod a (n:Int)=a % (n:Int):=Int.fmod_eq_emod_of_nonneg _ (by lia);have h2:=Int.emod_nonneg a (show (n:Int)≠0 by lia);have h3:=Int.emod_lt_of_pos a (show (0:Int) < n by lia);exact fD (a % (n:Int)).toNat (by lia) (by rw[h1];lia)
theorem zdn{xs:List PyData}{j n:Nat}(hx:xs.length=n)(hl:n<=line)(hj:j < n):∃ y∈xs,idxD (.list xs) (.int j)=some y:=by
 have hj':j < xs.length:=by lia
 refine fD (xs[j]) (dA hj') ?_;unfold idxD items;dsimp only;rw[hx,af hl,af (by lia)];exact au hj'
theorem zgv{a:Int}{n:Nat}{O:za}(hn:0 < n):∃ j:Nat,j < n/\Int.fmod a (n:Int)=(j:Int)/\binK .mod (.d (.int a)) (.d (.int (n:Int))) O=.ok (.d (.int (j:Int))) O:=by
 refine fC (ze9 (a:=a) hn) fun j hj e=>?_;exact fJ j hj e (by rw[zl8 (by lia),e])
theorem zs3{k:Nat}{s:List Int}{j:Nat}{O:za}(hs:s.length<=63):zf P table (k+1) false 21 [.d (.list (s.map .int)),.d (.int j)] O=.ok (.d (.int (s.getD j 0))) O:=by
 refine zj (fn:=c21) (ρ:=[some (.d (.list (s.map .int))),some (.d (.int j))]) (ρ':=[some (.d (.list (s.map .int))),some (.d (.int j))]) rfl ⟨rfl,by decide⟩ rfl ?_;have hlen:(s.map PyData.int).length<=line:=by rw[aL];exact ai hs (by decide)
 by_cases h:j < s.length
 ·have hd:decide ((j:Int) < ((s.map PyData.int).length:Int))=true:=aA (by rw[aL];lia);simp only[c21,jc,xu,zd4,zby,zf4,k9,jd,zhs,zbw,dk,jm,zw,kj,jy,zc7,zmu,zgj,v_lt,kx,cJ,ca,bt,bu,cO,cb,a9,cB,znn,zde hlen,hd,ze4 (ai hs (by decide)) h]
 ·have hd:decide ((j:Int) < ((s.map PyData.int).length:Int))=false:=aF (by rw[aL];lia);have e:s.getD j 0=0:=by rw[List.getD_eq_getElem?_getD,a7 (by lia)];rfl
  simp only[c21,jc,xu,zd4,zby,zf4,k9,jd,zhs,zbw,dk,jm,zw,kj,jy,zc7,zik,zgj,zgk,v_lt,ca,bt,bu,cO,cb,a9,cB,znn,zde hlen,hd,e]
noncomputable def mixI(s:List Int)(j:Nat):Int:=Int.fdiv (Int.fmod ((s.getD j 0+7919 * (j:Int)+13) * 48271) 2147483647) 3
theorem df{k:Nat}{s:List Int}{j:Nat}{O:za}(hs:s.length<=63):zf P table (k+2) false 22 [.d (.list (s.map .int)),.d (.int j)] O=.ok (.d (.int (mixI s j))) O:=by
 refine zj (fn:=c22) (ρ:=[some (.d (.list (s.map .int))),some (.d (.int j))]) (ρ':=[some (.d (.list (s.map .int))),some (.d (.int j))]) rfl ⟨rfl,by decide⟩ rfl ?_;have e1:∀ n:Int,binK .mul (.d (.int 7919)) (.d (.int n)) O=.ok (.d (.int (7919 * n))) O:=fun n=>zl7 (.inl (by decide));have e2:∀ n:Int,binK .mul (.d (.int n)) (.d (.int 48271)) O=.ok (.d (.int (n * 48271))) O:=fun n=>zl7 (.inr (by decide));have e3:∀ n:Int,binK .mod (.d (.int n)) (.d (.int 2147483647)) O=.ok (.d (.int (Int.fmod n 2147483647))) O:=fun n=>zl8 (by decide);have e4:∀ n:Int,binK .fdiv (.d (.int n)) (.d (.int 3)) O=.ok (.d (.int (Int.fdiv n 3))) O:=fun n=>zdk ⟨by decide,by decide⟩;simp only[c22,jc,xu,dm,x_call,k9,jd,zhs,dk,jm,zw,kj,jy,zgj,gg,ca,bt,bu,zs3 hs,e1,e2,e3,e4,mixI]
noncomputable def w7(m j:Nat):List (List Int):=match zf P table 1 false 26 [.d (.int m),.d (.int j)] [] with
 | .ok (.d (.list xs)) _=>(jo xs).getD []
 | _=>[]
noncomputable def mjs:List (Nat×Nat):=[2,3,4,5].flatMap fun m=>[0,1,2,3,4].map fun j=>(m,j)
theorem zh9{m j:Nat}(hm:m4 m)(hj:j < 5):(m,j)∈mjs:=by
 have h2:j=0\/j=1\/j=2\/j=3\/j=4:=by lia
 exact bG.mpr ⟨m,by rcases k6 hm with rfl | rfl | rfl | rfl <;> simp,az.mpr ⟨j,by rcases h2 with rfl | rfl | rfl | rfl | rfl <;> simp,rfl⟩⟩
noncomputable def zmn(m:Nat)(c:List Int):Bool:=c.length == m && c.all fun i=>decide (-1<=i) && decide (i<=1)
theorem zha{m:Nat}{c:List Int}(h:zmn m c=true):good m c:=by
 unfold zmn at h;rw[aM,aQ] at h;refine⟨h.1,fun i hi=>?_⟩;have:=aV.mp h.2 i hi;rw[aM,aP,aP] at this;exact this
theorem zli:(mjs.all fun p=>(w7 p.1 p.2).all (zmn p.1) && decide (1<=(w7 p.1 p.2).length) && decide ((w7 p.1 p.2).length<=30))=true:=by kernel_rfl
theorem zjf{m j:Nat}(hm:m4 m)(hj:j < 5):(∀ c∈w7 m j,good m c)/\1<=(w7 m j).length/\(w7 m j).length<=30:=by
 have h:=aV.mp zli _ (zh9 hm hj);rw[aM,aM,aP,aP] at h;exact⟨fun c hc=>zha (aV.mp h.1.1 c hc),h.1.2,h.2⟩
theorem zom{k:Nat}{xs:List PyData}:mjs.map (fun p=>zf P table (k+1) false 26 [.d (.int p.1),.d (.int p.2)] [Box.lst xs])=mjs.map fun p=>.ok (.d (.list (zb (w7 p.1 p.2)))) [Box.lst xs]:=by kernel_rfl
theorem zsx{k m j:Nat}{xs:List PyData}(hm:m4 m)(hj:j < 5):zf P table (k+1) false 26 [.d (.int m),.d (.int j)] [Box.lst xs]=.ok (.d (.list (zb (w7 m j)))) [Box.lst xs]:=km zom (zh9 hm hj)
theorem pn{ys:List PyData}{turn:PyData->Loc->za->R (Loc×za) Fl}(I:Nat->Loc->za->Prop):∀ (xs:List PyData) (i:Nat) (ρ:Loc) (O:za),(∀ j x,xs[j]?=some x->∀ ρ O,I (i+j) ρ O->∃ ρ' O',turn x ρ O=.ok .next (ρ',O')/\I (i+j+1) ρ' O')->I i ρ O ->
 ∃ ρ' O',zv (.plain ys) turn xs ρ O=.ok .next (ρ',O')/\I (i+xs.length) ρ' O'
 | [],i,ρ,O,_,hi=>⟨ρ,O,rfl,hi⟩
 | x::xs,i,ρ,O,h,hi=>by
   refine fR (h 0 x rfl ρ O hi) fun ρ' O' e hi'=>?_;obtain⟨ρ2,O2,e2A,hi2⟩:=pn I xs (i+1) ρ' O' (fun j y hy ρ O hI=>by
    have:=h (j+1) y hy ρ O (by rw[show i+(j+1)=i+1+j by lia];exact hI);rwa [show i+(j+1)+1=i+1+j+1 by lia] at this) hi'
   refine fV ρ2 O2 ?_ (by rw[aR,show i+(xs.length+1)=i+1+xs.length by lia];exact hi2);rw[vn,e];show (if (Src.plain ys).still _=true then _ else _)=_;rw[af (show (Src.plain ys).still _=true from rfl)];exact e2A
theorem zac{a n:Int}{j:Nat}{x:PyData}(h:(zl a n)[j]?=some x):x=.int (a+j):=by
 unfold zl at h;rw[aU] at h;refine fC (aD.mp h) fun i hi eO=>?_;subst eO;have:=aE.mp hi;obtain⟨h1,h2⟩:=this;rw[List.getElem_range] at h2;rw[h2]
theorem xm{a n:Int}:(zl a n).length=(n - a).toNat:=by unfold zl;rw[aL,List.length_range]
noncomputable def toI:PyData->Int
 | .int n=>n
 | _=>0
noncomputable def pow3:List Int:=[1,3,9,27,81]
noncomputable def gu(n:Int)(m:Nat):List Int:=(List.range m).map fun i=>Int.fmod (Int.fdiv n (pow3.getD i 0)) 3 - 1
theorem zbb{n:Int}{m:Nat}:good m (gu n m):=by
 refine⟨by unfold gu;rw[aL,List.length_range],fun i hi=>?_⟩;unfold gu at hi;refine fC (az.mp hi) fun j fy eO=>?_;subst eO;refine fC (ze9 (a:=Int.fdiv n (pow3.getD j 0)) (n:=3) (by decide)) fun t ht e=>?_;have e:Int.fmod (Int.fdiv n (pow3.getD j 0)) 3=(t:Int):=e;rw[e];lia
theorem zkc{k:Nat}{ρ:Loc}{O:za}{n:Int}{m:Nat}{a b c:Nat}(hm:m4 m)(hc:c < ρ.length)(hac:a≠c)(ha:ρ[a]?=some (some (.d (.int n))))(hb:ρ[b]?=some (some (.d (.int m)))) :
 evE (PG k false) ρ (.comp (.bin .sub (.bin .mod (.bin .fdiv (.loc a) (.idx (.list #[.int 1,.int 3,.int 9,.int 27,.int 81]) (.loc c))) (.int 3)) (.int 1)) (.name c) (.range (.int 0) (.loc b)) .nil) O=.ok (.d (.list ((gu n m).map .int))) O:=by
 have key:(gu n m).map PyData.int=(zl 0 m).map fun x=>.int (Int.fmod (Int.fdiv n (pow3.getD (toI x).toNat 0)) 3 - 1):=by
  unfold gu zl;rw[cI,cI];have:((m:Int) - 0).toNat=m:=by lia
  rw[this];refine cz fun i hi=>?_;show PyData.int _=PyData.int (Int.fmod (Int.fdiv n (pow3.getD (toI (.int ((0:Int)+i))).toNat 0)) 3 - 1);have:(toI (.int ((0:Int)+i))).toNat=i:=by show ((0:Int)+i).toNat=i;lia
  rw[this]
 rw[key];have hm5:=hm.2;have hb':opt (ρ[b]?.join) O=.ok (.d (.int m)) O:=by rw[hb];rfl
 refine zqx rfl (O':=O) (xs:=zl 0 m) (by
  simp only[q7,jc,xu,hb',zw];exact xn (by lia)) (by rw[xm];exact ai (show ((m:Int) - 0).toNat<=5 by assumption) (by decide)) _ fun x hx=>⟨ρ.set c (some (.d x)),af hc,ztp,?_⟩
 refine fC (az.mp hx) fun i' hi' eO=>?_;subst eO;rw[aZ] at hi';have e0:((0:Int)+(i':Int))=(i':Int):=by lia
 have hi5:i' < 5:=by exact Nat.lt_of_lt_of_le (by assumption) (by assumption)
 have ip:idxD (.list [.int 1,.int 3,.int 9,.int 27,.int 81]) (.int (i':Int))=some (.int (pow3.getD i' 0)):=ze4 (is:=pow3) (by decide) hi5;have hp3:pow3.getD i' 0≠0/\(pow3.getD i' 0).natAbs < 1073741824:=by
  have:i'=0\/i'=1\/i'=2\/i'=3\/i'=4:=by lia
  rcases this with rfl | rfl | rfl | rfl | rfl <;> decide
 have fp:binK .fdiv (.d (.int n)) (.d (.int (pow3.getD i' 0))) O=.ok (.d (.int (Int.fdiv n (pow3.getD i' 0)))) O:=zdk hp3;have m3:∀ z:Int,binK .mod (.d (.int z)) (.d (.int 3)) O=.ok (.d (.int (Int.fmod z 3))) O:=fun z=>zl8 (by decide);have et:(toI (.int (i':Int))).toNat=i':=by show (i':Int).toNat=i';lia
 rw[e0];have h1:opt ((ρ.set c (some (.d (.int (i':Int)))))[a]?.join) O=.ok (.d (.int n)) O:=by rw[cn (Ne.symm hac),ha];rfl
 have h2:opt ((ρ.set c (some (.d (.int (i':Int)))))[c]?.join) O=.ok (.d (.int (i':Int))) O:=by rw[bY hc];rfl
 simp only[dm,zby,p9,jd,k9,jc,xu,h1,h2,zw,jy,zd1,zd0,cJ,kx,ip,fp,m3,v8,et]
theorem app0{xs:List PyData}{x:PyData}(h:xs.length < line):meth .append (.box 0) [.d x] [Box.lst xs]=.ok (.d .none) [Box.lst (xs++[x])]:=by
 show (if xs.length < line then _ else _)=_;rw[af h];rfl
theorem app1{b:Box}{xs:List PyData}{x:PyData}(h:xs.length < line):meth .append (.box 1) [.d x] [b,Box.lst xs]=.ok (.d .none) [b,Box.lst (xs++[x])]:=by
 show (if xs.length < line then _ else _)=_;rw[af h];rfl
theorem gs{cs:List (List Int)}{c:List Int}:zb cs++[.tuple (c.map .int)]=zb (cs++[c]):=by unfold zb;rw[eL];rfl
theorem dv{c b:Int}{O:za}(h:b≠0/\b.natAbs < 1073741824):binK .fdiv (.d (.int c)) (.d (.int b)) O=.ok (.d (.int (Int.fdiv c b))) O:=zdk h
theorem md(a:Int)(n:Nat)(O:za)(hn:0 < n):∃ j:Nat,j < n/\binK .mod (.d (.int a)) (.d (.int (n:Int))) O=.ok (.d (.int (j:Int))) O:=let ⟨j,hj,_,e⟩:=zgv (a:=a) (O:=O) hn;⟨j,hj,e⟩
noncomputable def x4:CSs:=#[.asg (.name 8) (.call 22 #[.loc 0,.bin .add (.bin .add (.loc 1) (.int 1)) (.loc 7)]),.expr (.meth .append (.loc 6) #[.prim .tuple #[.comp (.bin .sub (.bin .mod (.bin .fdiv (.loc 8) (.idx (.list #[.int 1,.int 3,.int 9,.int 27,.int 81]) (.loc 11))) (.int 3)) (.int 1)) (.name 11) (.range (.int 0) (.loc 4)) .nil]])]
noncomputable def L1(s:List Int)(n0:Int)(m w:Nat)(pv:V)(a b:Option V):Loc:=[some (.d (.list (s.map .int))),some (.d (.int 6)),some (.d (.int 5)),some (.d (.int n0)),some (.d (.int m)),some (.d (.int w)),some pv,a,b,none,none,none]
inductive AtD(s:List Int)(n0:Int)(m w:Nat)(i:Nat):Loc->za->Prop
 | mk (a b:Option V) (cs:List (List Int)) (g:∀ c∈cs,good m c) (len:cs.length=i):AtD s n0 m w i (L1 s n0 m w (.box 0) a b) [Box.lst (zb cs)]
theorem zrc{k:Nat}{s:List Int}{n0:Int}{m w i:Nat}{ρ:Loc}{O:za}(hs:s.length<=63)(hm:m4 m)(hi:i < 100)(h:AtD s n0 m w i ρ O) :
 ∃ ρ' O',z6 (PG (k+2) false) (.name 7) x4 (.int (0+(i:Int))) ρ O=.ok .next (ρ',O')/\AtD s n0 m w (i+1) ρ' O':=by
 obtain⟨a,b,cs,g,len⟩:=h;have n1:=df (k:=k) (j:=7+i) (O:=[Box.lst (zb cs)]) hs;rw[show ((7+i:Nat):Int)=(6:Int)+1+(0+(i:Int)) by lia] at n1;generalize mixI s (7+i)=n at n1;have hl':(zb cs).length < line:=by rw[zq,len];exact cf hi (by decide)
 have cc:=zkc (k:=k+2) (ρ:=L1 s n0 m w (.box 0) (some (.d (.int (0+(i:Int))))) (some (.d (.int n)))) (O:=[Box.lst (zb cs)]) (n:=n) (m:=m) (a:=8) (b:=4) (c:=11) hm (by show 11 < 12;decide) (by decide) rfl rfl;have ap:=app0 (x:=.tuple ((gu n m).map .int)) hl';rw[gs] at ap;refine fV (L1 s n0 m w (.box 0) (some (.d (.int (0+(i:Int))))) (some (.d (.int n)))) _ ?_ (.mk _ _ (cs++[gu n m]) (fun c hc=>(aj.mp hc).elim (g c) fun h=>ae.mp h ▸ zbb) (by rw[ba,len];rfl));show evSs (PG (k+2) false) x4 (L1 s n0 m w (.box 0) (some (.d (.int (0+(i:Int))))) b) [Box.lst (zb cs)]=_;unfold x4;exact (zc (zz (ρ':=L1 s n0 m w (.box 0) (some (.d (.int (0+(i:Int))))) (some (.d (.int n)))) (zi rfl n1) rfl rfl)).trans ((zc (kf (uc rfl rfl (zh (yj rfl cc (zru (by rw[aL,(zbb (n:=n) (m:=m)).1];exact ai hm.2 (by decide)))) rfl) ap))).trans rfl)
theorem zr5{k:Nat}{s:List Int}{n0:Int}{m w:Nat}(hs:s.length<=63)(hm:m4 m):∃ a b cs,zv (.plain (zl 0 12)) (z6 (PG (k+2) false) (.name 7) x4) (zl 0 12) (L1 s n0 m w (.box 0) none none) [Box.lst []]=.ok .next (L1 s n0 m w (.box 0) a b,[Box.lst (zb cs)])/\(∀ c∈cs,good m c)/\cs.length=12:=by
 obtain⟨ρ',O',e,h⟩:=pn (ys:=zl 0 12) (turn:=z6 (PG (k+2) false) (.name 7) x4) (AtD s n0 m w) (zl 0 12) 0 (L1 s n0 m w (.box 0) none none) [Box.lst []]
  (fun j x hx ρ O h=>by
    have hj:j < 12:=by have:=(aE.mp hx).1;rw[xm] at this;exact this
    rw[zac hx];rw[bC] at h ⊢
    exact zrc hs hm (by lia) h) (.mk none none [] (fun uA h=>nomatch h) rfl)
 obtain⟨a,b,cs,g,len⟩:=h;exact fT a b cs e g (by rw[len,xm];rfl)
theorem za0{a c:List Int}:PyData.eqv (caseD a) (caseD c)=decide (a=c):=qn a c
theorem x0{c:List Int}:(caseD c).canLay0=true:=lays c
theorem j9:∀ cs:List (List Int),PyData.canLayAll0 (zb cs)=true
 | []=>rfl
 | c::cs=>by
   show ((caseD c).canLay0 && PyData.canLayAll0 (zb cs))=true;rw[x0,j9 cs];rfl
theorem za4(c:List Int):(caseD c).depth<=1:=bM (qp c)
theorem zfz{c:List Int}:∀ cs:List (List Int),((zb cs).any fun y=>PyData.eqv y (caseD c))=decide (c∈cs)
 | []=>rfl
 | a::cs=>by
   show (PyData.eqv (caseD a) (caseD c) || (zb cs).any fun y=>PyData.eqv y (caseD c))=_;rw[zfz cs,za0];by_cases h:a=c
   ·subst h;simp
   ·have h':¬ c=a:=fun e=>h e.symm;simp[h,h']
theorem ze3{c:List Int}{cs:List (List Int)}:inD (caseD c) (zb cs)=some (decide (c∈cs)):=by
 unfold inD;have h:=za4 c;rw[x0,j9,zfz,af];rw[aA (show (caseD c).depth<=100 by lia)];rfl
theorem zrz{b:Box}{c:List Int}{cs:List (List Int)}:cmpV .notin (.d (caseD c)) (.box 1) [b,Box.lst (zb cs)]=.ok (.d (.bool !decide (c∈cs))) [b,Box.lst (zb cs)]:=by
 show opt (((inD (caseD c) (zb cs)).map (!·)).map fun b=>V.d (.bool b)) _=_;rw[ze3];rfl
theorem xo{k:Nat}{v:V}{xs:List PyData}{O:za}(h:look O v=some (.list xs))(hl:xs.length<=line):prim (PG k false) .len [v] O=.ok (.d (.int xs.length)) O:=ul h (af hl)
theorem zmi{v:V}{k x:PyData}{O:za}(h:look O v=some x):idxV v (.d k) O=opt ((idxD x k).map .d) O:=by
 show opt (((look O v).bind fun x=>idxD x k).map V.d) O=_;rw[h];rfl
noncomputable def ji:CSs:=#[.asg (.name 10) (.idx (.loc 6) (.bin .mod (.bin .add (.bin .fdiv (.loc 8) (.int 8)) (.bin .mul (.loc 7) (.bin .add (.int 1) (.bin .mod (.bin .fdiv (.loc 8) (.int 64)) (.int 2))))) (.prim .len #[.loc 6]))),.ife (.cmp .notin (.loc 10) (.loc 9)) #[.expr (.meth .append (.loc 9) #[.loc 10])] .nil]
noncomputable def L2(s:List Int)(n0 nn:Int)(m w:Nat)(pv:V)(a b:Option V):Loc:=[some (.d (.list (s.map .int))),some (.d (.int 6)),some (.d (.int 5)),some (.d (.int n0)),some (.d (.int m)),some (.d (.int w)),some pv,a,some (.d (.int nn)),some (.box 1),b,none]
def zd2(pv:V)(b0:Box)(pcs:List (List Int)):Prop:=∀ b1,look [b0,b1] pv=some (.list (zb pcs))
inductive AtP(s:List Int)(n0 nn:Int)(m w:Nat)(pv:V)(b0:Box)(i:Nat):Loc->za->Prop
 | mk (a b:Option V) (cs:List (List Int)) (g:∀ c∈cs,good m c) (nd:cs.Nodup) (le:cs.length<=i) (pos:0 < i->1<=cs.length):AtP s n0 nn m w pv b0 i (L2 s n0 nn m w pv a b) [b0,Box.lst (zb cs)]
theorem zq9{k:Nat}{s:List Int}{n0 nn:Int}{m w i:Nat}{pv:V}{b0:Box}{ρ:Loc}{O:za}{pcs:List (List Int)}(hp:zd2 pv b0 pcs)(h1:1<=pcs.length)(h2:pcs.length<=100)(hg:∀ c∈pcs,good m c)(hi:i < 100)(h:AtP s n0 nn m w pv b0 i ρ O) :
 ∃ ρ' O',z6 (PG (k+2) false) (.name 7) ji (.int (0+(i:Int))) ρ O=.ok .next (ρ',O')/\AtP s n0 nn m w pv b0 (i+1) ρ' O':=by
 obtain⟨a,b,cs,g,nd,le,pos⟩:=h;have hlp:(zb pcs).length<=line:=by rw[zq];exact ai h2 (by decide)
 have pl:=xo (k:=k+2) (hp (Box.lst (zb cs))) hlp;refine fC (md (Int.fdiv nn 64) 2 [b0,Box.lst (zb cs)] (by decide)) fun j2 fy e2=>?_;refine fC (md (Int.fdiv nn 8+(0+(i:Int)) * (1+(j2:Int))) (zb pcs).length [b0,Box.lst (zb cs)] (by rw[zq];exact h1)) fun j hj ej=>?_;refine fC (zdn (xs:=zb pcs) rfl hlp hj) fun y hy ey=>?_;refine fC (az.mp hy) fun c hc eO=>?_;subst eO;have ix:=zmi (k:=.int (j:Int)) (hp (Box.lst (zb cs)));rw[ey] at ix;have ap:=app1 (b:=b0) (x:=caseD c) (xs:=zb cs) (by rw[zq];exact bK le (cf hi (by decide)));have apc:zb cs++[caseD c]=zb (cs++[c]):=gs;rw[apc] at ap;have e10:evS (PG (k+2) false) (.asg (.name 10) (.idx (.loc 6) (.bin .mod (.bin .add (.bin .fdiv (.loc 8) (.int 8)) (.bin .mul (.loc 7) (.bin .add (.int 1) (.bin .mod (.bin .fdiv (.loc 8) (.int 64)) (.int 2))))) (.prim .len #[.loc 6])))) (L2 s n0 nn m w pv (some (.d (.int (0+(i:Int))))) b) [b0,Box.lst (zb cs)]=.ok .next (L2 s n0 nn m w pv (some (.d (.int (0+(i:Int))))) (some (.d (caseD c))),[b0,Box.lst (zb cs)]):=
  zz (zy rfl (yd (yd (yd rfl rfl (dv (by decide))) (yd rfl (yd rfl (yd (yd rfl rfl (dv (by decide))) rfl e2) gg) (zl7 (.inl (by lia)))) gg) (yj rfl rfl pl) ej) ix) rfl rfl
 have ht:evE (PG (k+2) false) (L2 s n0 nn m w pv (some (.d (.int (0+(i:Int))))) (some (.d (caseD c)))) (.cmp .notin (.loc 10) (.loc 9)) [b0,Box.lst (zb cs)]=.ok (.d (.bool !decide (c∈cs))) [b0,Box.lst (zb cs)]:=zp rfl rfl zrz;refine fV (L2 s n0 nn m w pv (some (.d (.int (0+(i:Int))))) (some (.d (caseD c)))) [b0,Box.lst (zb (if c∈cs then cs else cs++[c]))] ?_ ?_
 ·show evSs (PG (k+2) false) ji (L2 s n0 nn m w pv (some (.d (.int (0+(i:Int))))) b) [b0,Box.lst (zb cs)]=_;unfold ji;refine (zc e10).trans ?_;by_cases hcm:c∈cs
  ·rw[aA hcm] at ht;rw[af hcm];exact (zc (zx ht)).trans rfl
  ·rw[aF hcm] at ht;rw[ak hcm];have happ:evS (PG (k+2) false) (.expr (.meth .append (.loc 9) #[.loc 10])) (L2 s n0 nn m w pv (some (.d (.int (0+(i:Int))))) (some (.d (caseD c)))) [b0,Box.lst (zb cs)]=.ok .next (L2 s n0 nn m w pv (some (.d (.int (0+(i:Int))))) (some (.d (caseD c))),[b0,Box.lst (zb (cs++[c]))]):=kf (uc rfl rfl (zh rfl rfl) ap);rw[jm,w_if ht];show R.bind (evSs (PG (k+2) false) #[.expr (.meth .append (.loc 9) #[.loc 10])] _ _) _=_;rw[zc happ];rfl
 ·by_cases hcm:c∈cs
  ·rw[af hcm];exact .mk _ _ cs g nd (cP le) fun uA=>List.length_pos_of_mem hcm
  ·rw[ak hcm];refine .mk _ _ (cs++[c]) (fun d hd=>(aj.mp hd).elim (g d) fun h=>ae.mp h ▸ hg c hc) (bT.mpr ⟨nd,by simp,fun a ha b hb=>by rw[ae.mp hb];exact fun e=>hcm (e ▸ ha)⟩) ?_ fun uA=>?_
   ·rw[ba];exact bM le
   ·rw[ba];exact Nat.le_add_left _ _
theorem zr3{k:Nat}{s:List Int}{n0 nn:Int}{m w n:Nat}{pv:V}{b0:Box}{a:Option V}{pcs:List (List Int)}(hp:zd2 pv b0 pcs)(h1:1<=pcs.length)(h2:pcs.length<=100)(hg:∀ c∈pcs,good m c)(hn:1<=n/\n<=12) :
 ∃ ρ' O',zv (.plain (zl 0 n)) (z6 (PG (k+2) false) (.name 7) ji) (zl 0 n) (L2 s n0 nn m w pv a none) [b0,Box.lst []]=.ok .next (ρ',O')/\AtP s n0 nn m w pv b0 n ρ' O':=by
 obtain⟨ρ',O',e,h⟩:=pn (ys:=zl 0 n) (turn:=z6 (PG (k+2) false) (.name 7) ji) (AtP s n0 nn m w pv b0) (zl 0 n) 0 (L2 s n0 nn m w pv a none) [b0,Box.lst []]
  (fun j x hx ρ O h=>by
    have hj:j < n:=by have:=(aE.mp hx).1;rw[xm] at this;assumption
    rw[zac hx];rw[bC] at h ⊢
    exact zq9 hp h1 h2 hg (by lia) h) (.mk a none [] (fun uA h=>nomatch h) List.nodup_nil (aH _) fun h=>absurd h (cM 0))
 refine fV ρ' O' e ?_;rwa [xm,show (0:Nat)+((n:Int) - 0).toNat=n by lia] at h
noncomputable def zek:CSs:=#[.for_ (.name 7) (.range (.int 0) (.idx (.list #[.bin .add (.int 1) (.bin .mod (.loc 8) (.loc 5)),.loc 5]) (.prim .int #[.and_ (.cmp .eq (.loc 5) (.int 12)) (.cmp .gt (.loc 4) (.int 3))]))) ji,.ret (.tup #[.loc 4,.loc 9])]
theorem zqd{k:Nat}{b:Bool}{O:za}:prim (PG k false) .int [.d (.bool b)] O=.ok (.d (.int (if b then 1 else 0))) O:=rfl
theorem zf6{P:Pg}{ρ:Loc}{O:za}{a b:CE}(h:∃ x,evE P ρ a O=.ok (.d (.bool x)) O)(h':∃ x,evE P ρ b O=.ok (.d (.bool x)) O):∃ x,evE P ρ (.and_ a b) O=.ok (.d (.bool x)) O:=by
 refine fG h fun x e=>?_
 cases x with
 | true=>exact let ⟨y,e'⟩:=h';⟨y,je e e'⟩
 | false=>exact fz false (zc2 e)
theorem zpi{k:Nat}{s:List Int}{n0 nn:Int}{m w:Nat}{pv:V}{b0:Box}{a:Option V}{pcs:List (List Int)}(hp:zd2 pv b0 pcs)(h1:1<=pcs.length)(h2:pcs.length<=100)(hg:∀ c∈pcs,good m c)(hw:1<=w/\w<=12) :
 ∃ ρ' cs,evSs (PG (k+2) false) zek (L2 s n0 nn m w pv a none) [b0,Box.lst []]=.ok (.ret (.tm [.x (.int m),.b 1])) (ρ',[b0,Box.lst (zb cs)])/\Found m cs:=by
 refine fC (md nn w [b0,Box.lst []] (by lia)) fun j hj ej=>?_;refine fG (zf6 (P:=PG (k+2) false) (ρ:=L2 s n0 nn m w pv a none) (O:=[b0,Box.lst []]) (a:=.cmp .eq (.loc 5) (.int 12)) (b:=.cmp .gt (.loc 4) (.int 3)) ⟨_,zp rfl rfl eq_int⟩ ⟨_,zp rfl rfl v_gt⟩) fun bb hb=>?_;have hn:∃ n:Nat,(1<=n/\n<=12)/\evE (PG (k+2) false) (L2 s n0 nn m w pv a none) (.idx (.list #[.bin .add (.int 1) (.bin .mod (.loc 8) (.loc 5)),.loc 5]) (.prim .int #[.and_ (.cmp .eq (.loc 5) (.int 12)) (.cmp .gt (.loc 4) (.int 3))])) [b0,Box.lst []]=.ok (.d (.int (n:Int))) [b0,Box.lst []]:=by
  have hl:evE (PG (k+2) false) (L2 s n0 nn m w pv a none) (.list #[.bin .add (.int 1) (.bin .mod (.loc 8) (.loc 5)),.loc 5]) [b0,Box.lst []]=.ok (.d (.list [.int ((1+j:Nat):Int),.int (w:Int)])) [b0,Box.lst []]:=by
   rw[p9,zh (yd rfl (yd rfl rfl ej) gg) rfl,show (1:Int)+(j:Int)=((1+j:Nat):Int) by lia];rfl
  cases bb with
  | true=>exact fD w hw (zy hl (yj rfl hb zqd) rfl)
  | false=>exact fD (1+j) (by lia) (zy hl (yj rfl hb zqd) rfl)
 refine fC hn fun n hn en=>?_;refine fR (zr3 (k:=k) (s:=s) (n0:=n0) (nn:=nn) (m:=m) (w:=w) (n:=n) (a:=a) hp h1 h2 hg hn) fun ρ' O' ef hat=>?_;have hI:evI (PG (k+2) false) (L2 s n0 nn m w pv a none) (.range (.int 0) (.idx (.list #[.bin .add (.int 1) (.bin .mod (.loc 8) (.loc 5)),.loc 5]) (.prim .int #[.and_ (.cmp .eq (.loc 5) (.int 12)) (.cmp .gt (.loc 4) (.int 3))]))) [b0,Box.lst []]=.ok (.plain (zl 0 n)) [b0,Box.lst []]:=by
  rw[q7,jc,zw,en,zw];exact xn (by lia)
 obtain⟨a',b',cs,g,nd,le,pos⟩:=hat;refine⟨L2 s n0 nn m w pv a' b',cs,?_,g,nd,pos hn.1,ai le hn.2⟩;generalize zl 0 (n:Int)=rs at ef hI;unfold zek;refine (zc ?_).trans (ze (z8 rfl));rw[jn,ak ao,hI];exact ef
noncomputable def zel:CSs:=(.cons (.asg (.name 9) (.boxed (.list .nil))) (.cons (.asg (.name 8) (.bin .fdiv (.loc 3) (.int 36))) (.cons (.ife (.and_ (.cmp .gt (.loc 4) (.int 3)) (.and_ (.cmp .eq (.bin .mod (.bin .fdiv (.loc 8) (.int 256)) (.int 4)) (.int 1)) (.cmp .gt (.bin .mod (.bin .fdiv (.loc 3) (.int 6)) (.int 6)) (.int 0)))) #[.asg (.name 5) (.int 12)] .nil) zek)))
theorem ziq{k:Nat}{s:List Int}{n0:Int}{m w:Nat}{pv:V}{b0:Box}{a b:Option V}{pcs:List (List Int)}(hp:zd2 pv b0 pcs)(h1:1<=pcs.length)(h2:pcs.length<=100)(hg:∀ c∈pcs,good m c)(hw:1<=w/\w<=12) :
 ∃ ρ' cs,evSs (PG (k+2) false) zel (L1 s n0 m w pv a b) [b0]=.ok (.ret (.tm [.x (.int m),.b 1])) (ρ',[b0,Box.lst (zb cs)])/\Found m cs:=by
 have st:=fun w hw=>zpi (k:=k) (s:=s) (n0:=n0) (nn:=Int.fdiv n0 36) (w:=w) (a:=a) hp h1 h2 hg hw;refine fC (md (Int.fdiv (Int.fdiv n0 36) 256) 4 [b0,Box.lst []] (by decide)) fun j4 fy e4=>?_;refine fC (md (Int.fdiv n0 6) 6 [b0,Box.lst []] (by decide)) fun j6 fy e6=>?_;have t2:∃ x,evE (PG (k+2) false) (L2 s n0 (Int.fdiv n0 36) m w pv a none) (.cmp .eq (.bin .mod (.bin .fdiv (.loc 8) (.int 256)) (.int 4)) (.int 1)) [b0,Box.lst []]=.ok (.d (.bool x)) [b0,Box.lst []]:=⟨_,zp (yd (yd rfl rfl (dv (by decide))) rfl e4) rfl eq_int⟩;have t3:∃ x,evE (PG (k+2) false) (L2 s n0 (Int.fdiv n0 36) m w pv a none) (.cmp .gt (.bin .mod (.bin .fdiv (.loc 3) (.int 6)) (.int 6)) (.int 0)) [b0,Box.lst []]=.ok (.d (.bool x)) [b0,Box.lst []]:=⟨_,zp (yd (yd rfl rfl (dv (by decide))) rfl e6) rfl v_gt⟩;refine fG (zf6 (a:=.cmp .gt (.loc 4) (.int 3)) ⟨_,zp rfl rfl v_gt⟩ (zf6 t2 t3)) fun bb ht=>?_;have s12:evSs (PG (k+2) false) zel (L1 s n0 m w pv a b) [b0]=(evS (PG (k+2) false) (.ife (.and_ (.cmp .gt (.loc 4) (.int 3)) (.and_ (.cmp .eq (.bin .mod (.bin .fdiv (.loc 8) (.int 256)) (.int 4)) (.int 1)) (.cmp .gt (.bin .mod (.bin .fdiv (.loc 3) (.int 6)) (.int 6)) (.int 0)))) #[.asg (.name 5) (.int 12)] .nil) (L2 s n0 (Int.fdiv n0 36) m w pv a none) [b0,Box.lst []]).bind (seqK fun S=>evSs (PG (k+2) false) zek S.1 S.2):=by
  unfold zel;exact (zc (zz (v:=.box 1) (O':=[b0,Box.lst []]) rfl rfl rfl)).trans (zc (zz (yd rfl rfl (dv (by decide))) rfl rfl))
 rw[s12]
 cases bb with
 | false=>rw[zx ht];exact st w hw
 | true=>
   have h12:evS (PG (k+2) false) (.asg (.name 5) (.int 12)) (L2 s n0 (Int.fdiv n0 36) m w pv a none) [b0,Box.lst []]=.ok .next (L2 s n0 (Int.fdiv n0 36) m 12 pv a none,[b0,Box.lst []]):=zz rfl rfl rfl;rw[w_if ht];show ∃ ρ' cs,R.bind (evSs (PG (k+2) false) #[.asg (.name 5) (.int 12)] _ _) _=_/\_;rw[zc h12];exact st 12 ⟨by decide,by decide⟩
theorem zsq{m:Nat}{cs:List (List Int)}{b0:Box}:fin 0 false (.tm [.x (.int m),.b 1]) [b0,Box.lst (zb cs)]=.ok (.d (.tuple [.int m,.list (zb cs)])) []:=rfl
noncomputable def zem:CSs:=(.cons (.ife (.cmp .gt (.bin .mod (.bin .fdiv (.loc 3) (.int 6)) (.int 6)) (.int 0)) #[.asg (.name 6) (.call 26 #[.loc 4,.bin .sub (.bin .mod (.bin .fdiv (.loc 3) (.int 6)) (.int 6)) (.int 1)])] .nil) zel)
theorem zpj{k:Nat}{s:List Int}{n0:Int}{m w:Nat}{a b:Option V}{dcs:List (List Int)}(hm:m4 m)(hw:1<=w/\w<=12)(hdg:∀ c∈dcs,good m c)(hdl:dcs.length=12) :
 ∃ ρ' b0 cs,evSs (PG (k+2) false) zem (L1 s n0 m w (.box 0) a b) [Box.lst (zb dcs)]=.ok (.ret (.tm [.x (.int m),.b 1])) (ρ',[b0,Box.lst (zb cs)])/\Found m cs:=by
 have d6:∀ O,binK .fdiv (.d (.int n0)) (.d (.int 6)) O=.ok (.d (.int (Int.fdiv n0 6))) O:=fun O=>zdk ⟨by decide,by decide⟩;refine fN (zgv (a:=Int.fdiv n0 6) (n:=6) (O:=[Box.lst (zb dcs)]) (by decide)) fun j6 hj6 fy ej=>?_;have ej:binK .mod (.d (.int (Int.fdiv n0 6))) (.d (.int 6)) [Box.lst (zb dcs)]=.ok (.d (.int (j6:Int))) [Box.lst (zb dcs)]:=ej
 cases hq:decide ((j6:Int) > 0) with
 | false=>
   refine fR (ziq (k:=k) (s:=s) (n0:=n0) (m:=m) (w:=w) (pv:=.box 0) (b0:=Box.lst (zb dcs)) (a:=a) (b:=b) (pcs:=dcs) (fun uA=>rfl) (by lia) (by lia) hdg hw) fun ρ' cs e f=>?_;unfold L1 at e;exact fA ρ' (Box.lst (zb dcs)) cs (by unfold zem L1;simp only[jc,xu,dm,zd4,x_call,k9,jd,wq,zbw,dk,jm,zw,kj,jy,zc7,zik,zgk,v_gt,ca,bt,bu,cO,cb,a9,cB,nm_1,d6,ej,hq,e]) f
 | true=>
   have hj1:1<=j6:=by have:=bp hq;lia
   refine fI (zjf (m:=m) (j:=j6 - 1) hm (by lia)) fun pg pp pl=>?_;have ep:=zsx (k:=k+1) (m:=m) (j:=j6 - 1) (xs:=zb dcs) hm (by lia);generalize w7 m (j6 - 1)=pcs at pg pp pl ep;have ejj:((j6:Int) - 1)=((j6 - 1:Nat):Int):=by lia
   refine fR (ziq (k:=k) (s:=s) (n0:=n0) (m:=m) (w:=w) (pv:=.d (.list (zb pcs))) (b0:=Box.lst (zb dcs)) (a:=a) (b:=b) (pcs:=pcs) (fun uA=>rfl) pp (by lia) pg hw) fun ρ' cs e f=>?_;unfold L1 at e;exact fA ρ' (Box.lst (zb dcs)) cs (by unfold zem L1;simp only[jc,xu,dm,zd4,x_call,k9,jd,wq,zbw,dk,jm,zw,kj,jy,zc7,zmu,zgk,v_gt,v8,ca,bt,bu,cO,cb,a9,if_true,cB,nm_1,asgR,zbe,dQ,dR,aR,dS,Nat.reduceAdd,Nat.reduceLT,bC,d6,ej,hq,ejj,ep,e]) f
theorem zj5{k:Nat}{s:List Int}{n0:Int}{m w:Nat}(hs:s.length<=63)(hm:m4 m):∃ a b cs,evS (PG (k+2) false) (.for_ (.name 7) (.range (.int 0) (.int 12)) x4) (L1 s n0 m w (.box 0) none none) [Box.lst []]=.ok .next (L1 s n0 m w (.box 0) a b,[Box.lst (zb cs)])/\(∀ c∈cs,good m c)/\cs.length=12:=by
 refine fP (zr5 (k:=k) (s:=s) (n0:=n0) (m:=m) (w:=w) hs hm) fun a b cs ed hg hl=>?_;refine fT a b cs ?_ hg hl;have hI:evI (PG (k+2) false) (L1 s n0 m w (.box 0) none none) (.range (.int 0) (.int 12)) [Box.lst []]=.ok (.plain (zl 0 12)) [Box.lst []]:=by
  simp only[q7,jc,zw];exact xn (by decide)
 generalize zl 0 12=rs at ed hI;rw[jn,ak ao,hI];exact ed
theorem ztj:c27.body=(.cons (.asg (.name 3) (.call 22 #[.loc 0,.loc 1])) (.cons (.asg (.name 4) (.min2 (.loc 2) (.idx (.list #[.int 2,.int 3,.int 3,.int 4,.int 4,.int 5]) (.bin .mod (.loc 3) (.int 6))))) (.cons (.asg (.name 5) (.idx (.list #[.int 9,.int 12,.int 8,.int 5]) (.bin .sub (.loc 4) (.int 2)))) (.cons (.asg (.name 6) (.boxed (.list .nil))) (.cons (.for_ (.name 7) (.range (.int 0) (.int 12)) x4) zem))))):=by
 unfold c27 zem zel zek x4 ji;rfl
theorem tb1{k:Nat}{s:List Int}{n0:Int}(n1:zf P table (k+2) false 22 [.d (.list (s.map .int)),.d (.int 6)] []=.ok (.d (.int n0)) []):evS (PG (k+2) false) (.asg (.name 3) (.call 22 #[.loc 0,.loc 1])) [some (.d (.list (s.map .int))),some (.d (.int 6)),some (.d (.int 5)),none,none,none,none,none,none,none,none,none] []=.ok .next ([some (.d (.list (s.map .int))),some (.d (.int 6)),some (.d (.int 5)),some (.d (.int n0)),none,none,none,none,none,none,none,none],[]):=by
 simp only[xu,x_call,k9,jd,wq,zw,kj,jy,ca,bt,bu,cO,cb,a9,if_true,cB,nm_1,asgR,zbe,dQ,dR,aR,dS,Nat.reduceAdd,Nat.reduceLT,bC,n1]
theorem tb2{k:Nat}{s:List Int}{n0:Int}{m x i6:Nat}(hx:minV (.d (.int 5)) (.d (.int (x:Int))) []=.ok (.d (.int (m:Int))) [])(e6:binK .mod (.d (.int n0)) (.d (.int 6)) []=.ok (.d (.int (i6:Int))) [])(em:idxD (.list [.int 2,.int 3,.int 3,.int 4,.int 4,.int 5]) (.int (i6:Int))=some (.int (x:Int))):evS (PG (k+2) false) (.asg (.name 4) (.min2 (.loc 2) (.idx (.list #[.int 2,.int 3,.int 3,.int 4,.int 4,.int 5]) (.bin .mod (.loc 3) (.int 6))))) [some (.d (.list (s.map .int))),some (.d (.int 6)),some (.d (.int 5)),some (.d (.int n0)),none,none,none,none,none,none,none,none] []=.ok .next ([some (.d (.list (s.map .int))),some (.d (.int 6)),some (.d (.int 5)),some (.d (.int n0)),some (.d (.int m)),none,none,none,none,none,none,none],[]):=by
 simp only[jc,xu,p9,dm,zby,k9,jd,wq,zw,kj,jy,kx,zd0,zd1,cJ,ca,bt,bu,cO,cb,a9,if_true,cB,nm_1,asgR,zbe,dQ,dR,aR,dS,Nat.reduceAdd,Nat.reduceLT,bC,zqr,e6,em,hx]
theorem tb3{k:Nat}{s:List Int}{n0:Int}{m w:Nat}(ew:idxD (.list [.int 9,.int 12,.int 8,.int 5]) (.int ((m:Int) - 2))=some (.int (w:Int))):evS (PG (k+2) false) (.asg (.name 5) (.idx (.list #[.int 9,.int 12,.int 8,.int 5]) (.bin .sub (.loc 4) (.int 2)))) [some (.d (.list (s.map .int))),some (.d (.int 6)),some (.d (.int 5)),some (.d (.int n0)),some (.d (.int m)),none,none,none,none,none,none,none] []=.ok .next ([some (.d (.list (s.map .int))),some (.d (.int 6)),some (.d (.int 5)),some (.d (.int n0)),some (.d (.int m)),some (.d (.int w)),none,none,none,none,none,none],[]):=by
 simp only[jc,xu,p9,dm,zby,k9,jd,wq,zw,kj,jy,kx,v8,zd0,zd1,cJ,ca,bt,bu,cO,cb,a9,if_true,cB,nm_1,asgR,zbe,dQ,dR,aR,dS,Nat.reduceAdd,Nat.reduceLT,bC,ew]
theorem tb4{k:Nat}{s:List Int}{n0:Int}{m w:Nat}:evS (PG (k+2) false) (.asg (.name 6) (.boxed (.list .nil))) [some (.d (.list (s.map .int))),some (.d (.int 6)),some (.d (.int 5)),some (.d (.int n0)),some (.d (.int m)),some (.d (.int w)),none,none,none,none,none,none] []=.ok .next (L1 s n0 m w (.box 0) none none,[Box.lst []]):=by
 have bl:boxK (.d (.list [])) []=.ok (.box 0) [Box.lst []]:=rfl;unfold L1;simp only[p9,zn5,k9,wq,zw,kj,jy,zd0,cJ,cO,cb,a9,if_true,cB,nm_1,asgR,zbe,dQ,dR,aR,dS,Nat.reduceAdd,Nat.reduceLT,bC,bl]
theorem zj2{k:Nat}{s:List Int}{n0:Int}{m w x i6:Nat}(hs:s.length<=63)(n1:zf P table (k+2) false 22 [.d (.list (s.map .int)),.d (.int 6)] []=.ok (.d (.int n0)) [])(e6:binK .mod (.d (.int n0)) (.d (.int 6)) []=.ok (.d (.int (i6:Int))) [])(hm:m4 m)
 (em:idxD (.list [.int 2,.int 3,.int 3,.int 4,.int 4,.int 5]) (.int (i6:Int))=some (.int (x:Int))) (hx:minV (.d (.int 5)) (.d (.int (x:Int))) []=.ok (.d (.int (m:Int))) []) (hw:1<=w/\w<=12) (ew:idxD (.list [.int 9,.int 12,.int 8,.int 5]) (.int ((m:Int) - 2))=some (.int (w:Int))) :
 ∃ ρ' b0 cs,evSs (PG (k+2) false) c27.body [some (.d (.list (s.map .int))),some (.d (.int 6)),some (.d (.int 5)),none,none,none,none,none,none,none,none,none] []=.ok (.ret (.tm [.x (.int m),.b 1])) (ρ',[b0,Box.lst (zb cs)])/\Found m cs:=by
 refine fP (zj5 (k:=k) (s:=s) (n0:=n0) (m:=m) (w:=w) hs hm) fun a b dcs ed hdg hdl=>?_;refine fO (zpj (k:=k) (s:=s) (n0:=n0) (m:=m) (w:=w) (a:=a) (b:=b) hm hw hdg hdl) fun ρ' b0 cs e f=>?_;refine fA ρ' b0 cs ?_ f;rw[ztj,zc (tb1 n1),zc (tb2 hx e6 em),zc (tb3 ew),zc tb4,zc ed];exact e
theorem zm0{k:Nat}{s:List Int}(hs:s.length<=63):∃ m cs,m4 m/\m<=5/\Found m cs/\zf P table (k+3) false 27 [.d (.list (s.map .int)),.d (.int 6),.d (.int 5)] []=.ok (.d (.tuple [.int m,.list (zb cs)])) []:=by
 have n1:zf P table (k+2) false 22 [.d (.list (s.map .int)),.d (.int 6)] []=.ok (.d (.int (mixI s 6))) []:=df (k:=k) (j:=6) (O:=[]) hs;generalize mixI s 6=n0 at n1;refine fN (zgv (a:=n0) (n:=6) (O:=[]) (by decide)) fun i6 h6 fy e6=>?_;have e6:binK .mod (.d (.int n0)) (.d (.int 6)) []=.ok (.d (.int (i6:Int))) []:=e6;have hm:∃ m x:Nat,m4 m/\m<=5/\idxD (.list [.int 2,.int 3,.int 3,.int 4,.int 4,.int 5]) (.int (i6:Int))=some (.int (x:Int))/\minV (.d (.int 5)) (.d (.int (x:Int))) []=.ok (.d (.int (m:Int))) []:=by
  have:i6=0\/i6=1\/i6=2\/i6=3\/i6=4\/i6=5:=by lia
  rcases this with rfl | rfl | rfl | rfl | rfl | rfl
  ·exact fU 2 2 ⟨by decide,by decide⟩ (by decide) rfl rfl
  ·exact fU 3 3 ⟨by decide,by decide⟩ (by decide) rfl rfl
  ·exact fU 3 3 ⟨by decide,by decide⟩ (by decide) rfl rfl
  ·exact fU 4 4 ⟨by decide,by decide⟩ (by decide) rfl rfl
  ·exact fU 4 4 ⟨by decide,by decide⟩ (by decide) rfl rfl
  ·exact fU 5 5 ⟨by decide,by decide⟩ (by decide) rfl rfl
 refine fQ hm fun m x hm hm3 em hx=>?_;have hw:∃ w:Nat,(1<=w/\w<=12)/\idxD (.list [.int 9,.int 12,.int 8,.int 5]) (.int ((m:Int) - 2))=some (.int (w:Int)):=by
  have:m=2\/m=3\/m=4\/m=5:=by have:=hm.1;have:=hm.2;lia
  rcases this with rfl | rfl | rfl | rfl
  ·exact fD 9 ⟨by decide,by decide⟩ rfl
  ·exact fD 12 ⟨by decide,by decide⟩ rfl
  ·exact fD 8 ⟨by decide,by decide⟩ rfl
  ·exact fD 5 ⟨by decide,by decide⟩ rfl
 refine fC hw fun w hw ew=>?_;refine fO (zj2 hs n1 e6 hm em hx hw ew) fun ρ' b0 cs e f=>?_;refine fU m cs hm hm3 f ?_;rw[ke (fn:=c27) rfl ⟨rfl,by decide⟩];unfold evFn;show (match evSs (PG (k+2) false) c27.body [some (.d (.list (s.map .int))),some (.d (.int 6)),some (.d (.int 5)),none,none,none,none,none,none,none,none,none] [] with | .ok (.ret v) S=>fin 0 false v S.2 | .ok .next S=>.ok (.d .none) (S.2.take 0) | .stuck=>.stuck)=_;rw[e];exact zsq
noncomputable def sgn(d:Int):Int:=if d > 0 then 1 else if d < 0 then -1 else 0
theorem zrg (d:Int) : -1<=sgn d/\sgn d<=1:=by unfold sgn;repeat' split
                                              all_goals lia
noncomputable def jp(cs is:List Int):Int:=(is.map fun i=>cs.getD i.toNat 0).sum
noncomputable def wOf(is js:List Int):PyData:=.tuple [.tuple (is.map .int),.tuple (js.map .int)]
structure InR(m:Nat)(is:List Int):Prop where
 len:is.length<=2
 at_:∀ i∈is,0<=i/\i < (m:Int)
theorem zi0{m:Nat}{cs is:List Int}{i:Int}(hm:m4 m)(hc:good m cs)(h:InR m is)(hi:i∈is):idxD (caseD cs) (.int i)=some (.int (cs.getD i.toNat 0)):=by
 have hb:=h.at_ i hi;have hl:=hc.1;have hj:i.toNat < cs.length:=by lia
 have h5:cs.length<=line:=by rw[hl];exact ai hm.2 (by decide)
 unfold caseD idxD items;dsimp only;rw[aL,af h5,af hb.1,aU,List.getD_eq_getElem?_getD,au hj];rfl
theorem zqk{k:Nat}{m:Nat}{cs ls:List Int}{a b:Nat}{ρ:Loc}{O:za}(hm:m4 m)(hc:good m cs)(hr:InR m ls)(ha:Nat.blt a ρ.length=true)(ha1:a≠1)(h1:ρ[1]?=some (some (.d (caseD cs))))(hb:ρ[b]?=some (some (.d (.tuple (ls.map .int))))) :
 evE (PG k false) ρ (.prim .sum #[.comp (.idx (.loc 1) (.loc a)) (.name a) (.e (.loc b)) .nil]) O=.ok (.d (.int (jp cs ls))) O:=by
 have ha:a < ρ.length:=cK ha;have hl:(ls.map PyData.int).length<=line:=by rw[aL];exact ai hr.len (by decide)
 have hI:evI (PG k false) ρ (.e (.loc b)) O=.ok (.plain (ls.map .int)) O:=by rw[x_e,xu,hb];rfl
 refine yj rfl (zhu rfl hI rfl hl (fun x=>.int (cs.getD (toI x).toNat 0)) fun x hx=>⟨ρ.set a (some (.d x)),af ha,?_⟩) ?_
 ·refine fC (az.mp hx) fun i hi eO=>?_;subst eO;have e1:evE (PG k false) (ρ.set a (some (.d (.int i)))) (.loc 1) O=.ok (.d (caseD cs)) O:=by rw[xu,cn ha1,h1];rfl
  have e2:evE (PG k false) (ρ.set a (some (.d (.int i)))) (.loc a) O=.ok (.d (.int i)) O:=by rw[xu,bY ha];rfl
  refine zy e1 e2 ?_;rw[kx,zi0 hm hc hr hi];rfl
 ·refine (zuh (g:=fun x=>cs.getD (toI x).toNat 0)).trans ?_;rw[show ((Src.plain (ls.map PyData.int)).xs.map fun x=>cs.getD (toI x).toNat 0).sum=jp cs ls by show ((ls.map PyData.int).map _).sum=_;rw[cI];rfl]
theorem zkq{P:Pg}{ρ ρ':Loc}{O O':za}{e:CE}{t:CT}{v:V}(hd:P.hd=false)(h:evE P ρ e O=.ok v O')(hb:zu t v ρ=some ρ'):evS P (.asg t e) ρ O=.ok .next (ρ',O'):=by
 rw[wq,hd,Bool.false_and,ak ao,h];show asgR t v (ρ,O')=_;unfold asgR;rw[hb]
theorem zsv{k:Nat}{a b c e f g:Option V}{O:za}{d:Int}:evSs (PG k false) #[.ife (.cmp .gt (.loc 4) (.int 0)) #[.ret (.int 1)] .nil,.ret (.ite (.cmp .lt (.loc 4) (.int 0)) (.neg (.int 1)) (.int 0))] [a,b,c,e,some (.d (.int d)),f,g] O=.ok (.ret (.d (.int (sgn d)))) ([a,b,c,e,some (.d (.int d)),f,g],O):=by
 have h1:evE (PG k false) [a,b,c,e,some (.d (.int d)),f,g] (.cmp .gt (.loc 4) (.int 0)) O=.ok (.d (.bool (decide (d > 0)))) O:=rfl;have h2:evE (PG k false) [a,b,c,e,some (.d (.int d)),f,g] (.cmp .lt (.loc 4) (.int 0)) O=.ok (.d (.bool (decide (d < 0)))) O:=rfl;unfold sgn;by_cases hg:d > 0
 ·rw[af hg];rw[aA hg] at h1;exact ze ((w_if h1).trans rfl)
 ·rw[ak hg];rw[aF hg] at h1;refine (zc (zx h1)).trans (ze (z8 ?_));rw[zht,h2];by_cases hl:d < 0
  ·rw[af hl,aA hl];rfl
  ·rw[ak hl,aF hl];rfl
theorem zna{k m:Nat}{cs is js:List Int}{O:za}(hm:m4 m)(hc:good m cs)(hi:InR m is)(hj:InR m js):zf P table (k+1) false 8 [.d (wOf is js),.d (caseD cs)] O=.ok (.d (.int (sgn (jp cs is - jp cs js)))) O:=by
 have k1:=zqk (k:=k) (a:=5) (b:=2) (O:=O) (ρ:=[some (.d (wOf is js)),some (.d (caseD cs)),some (.d (.tuple (is.map .int))),some (.d (.tuple (js.map .int))),none,none,none]) hm hc hi rfl (by decide) rfl rfl;have k2:=zqk (k:=k) (a:=6) (b:=3) (O:=O) (ρ:=[some (.d (wOf is js)),some (.d (caseD cs)),some (.d (.tuple (is.map .int))),some (.d (.tuple (js.map .int))),none,none,none]) hm hc hj rfl (by decide) rfl rfl;refine zj (fn:=c8) rfl ⟨rfl,by decide⟩ rfl ((zc (zkq rfl rfl rfl)).trans ((zc (zz (yd k1 k2 v8) rfl rfl)).trans zsv))
noncomputable def zkz(g:Int->Int->Int)(cs:List Int)(a:Int×Option V)(x:PyData):Int×Option V:=(g a.1 (cs.getD (toI x).toNat 0),some (V.d x))
theorem l_sum{k m:Nat}{op:Bop}{g:Int->Int->Int}{cs ls:List Int}{w:V}{i:CE}{O:za}{n:Int}{z:Option V}(hg:∀ a b,binK op (.d (.int a)) (.d (.int b)) O=.ok (.d (.int (g a b))) O)(hm:m4 m)(hc:good m cs)(hr:InR m ls)
 (hi:∀ n z,evE (PG k false) [some w,some (.d (caseD cs)),some (.d (.int n)),z] i O=.ok (.d (.tuple (ls.map .int))) O) :
 ∃ z',evS (PG k false) (.for_ (.name 3) (.e i) #[.asg (.name 2) (.bin op (.loc 2) (.idx (.loc 1) (.loc 3)))]) [some w,some (.d (caseD cs)),some (.d (.int n)),z] O=.ok .next ([some w,some (.d (caseD cs)),some (.d (.int ((ls.map fun i=>cs.getD i.toNat 0).foldl g n))),z'],O):=by
 refine fz ((ls.map PyData.int).foldl (zkz g cs) (n,z)).2 ?_;have e1:∀ (ls:List Int) (a:Int×Option V),((ls.map PyData.int).foldl (zkz g cs) a).1=(ls.map fun i=>cs.getD i.toNat 0).foldl g a.1:=fun ls=>by
  induction ls with
  | nil=>exact fun a=>rfl
  | cons x ls ih=>exact fun a=>ih _
 have:=zaw (ys:=ls.map PyData.int) (turn:=z6 (PG k false) (.name 3) #[.asg (.name 2) (.bin op (.loc 2) (.idx (.loc 1) (.loc 3)))]) (fun a:Int×Option V=>([some w,some (.d (caseD cs)),some (.d (.int a.1)),a.2],O)) (zkz g cs) (ls.map PyData.int) (n,z) fun a x hx=>by
  refine fC (az.mp hx) fun i hi eO=>?_;subst eO;refine (zc (zz (ρ:=[some w,some (.d (caseD cs)),some (.d (.int a.1)),some (.d (.int i))]) (yd rfl (zy rfl rfl ?_) (hg _ _)) rfl rfl)).trans rfl;rw[kx,zi0 hm hc hr hi];rfl
 rw[e1] at this;rw[jn,ak ao,x_e,hi];exact this
theorem zpg{k:Nat}{a b c:Option V}{O:za}{d:Int}:evSs (PG k false) #[.ret (.ite (.cmp .gt (.loc 2) (.int 0)) (.int 1) (.ite (.cmp .lt (.loc 2) (.int 0)) (.neg (.int 1)) (.int 0)))] [a,b,some (.d (.int d)),c] O=.ok (.ret (.d (.int (sgn d)))) ([a,b,some (.d (.int d)),c],O):=by
 have h1:evE (PG k false) [a,b,some (.d (.int d)),c] (.cmp .gt (.loc 2) (.int 0)) O=.ok (.d (.bool (decide (d > 0)))) O:=rfl;have h2:evE (PG k false) [a,b,some (.d (.int d)),c] (.cmp .lt (.loc 2) (.int 0)) O=.ok (.d (.bool (decide (d < 0)))) O:=rfl;refine ze (z8 ?_);unfold sgn;rw[zht,h1];by_cases hg:d > 0
 ·rw[af hg,aA hg];rfl
 ·rw[ak hg,aF hg];show evE (PG k false) [a,b,some (.d (.int d)),c] (.ite (.cmp .lt (.loc 2) (.int 0)) (.neg (.int 1)) (.int 0)) O=_;rw[zht,h2];by_cases hl:d < 0
  ·rw[af hl,aA hl];rfl
  ·rw[ak hl,aF hl];rfl
theorem fold_add:∀ (l:List Int) (a:Int),l.foldl (· + ·) a=a+l.sum
 | [],a=>by simp
 | x::l,a=>by rw[dI,fold_add l,List.sum_cons];lia
theorem ze8:∀ (l:List Int) (a:Int),l.foldl (· - ·) a=a - l.sum
 | [],a=>by simp
 | x::l,a=>by rw[dI,ze8 l,List.sum_cons];lia
theorem zdu{k m:Nat}{cs is js:List Int}{O:za}(hm:m4 m)(hc:good m cs)(hi:InR m is)(hj:InR m js):zf P table (k+1) false 24 [.d (wOf is js),.d (caseD cs)] O=.ok (.d (.int (sgn (jp cs is - jp cs js)))) O:=by
 refine fG (l_sum (k:=k) (op:=.add) (g:=(· + ·)) (w:=.d (wOf is js)) (i:=.idx (.loc 0) (.int 0)) (O:=O) (n:=0) (z:=none) (fun uA uA=>gg) hm hc hi fun uA uA=>rfl) fun z1 e1=>?_;rw[fold_add,Int.zero_add] at e1;refine fG (l_sum (k:=k) (op:=.sub) (g:=(· - ·)) (w:=.d (wOf is js)) (i:=.idx (.loc 0) (.int 1)) (O:=O) (n:=(is.map fun i=>cs.getD i.toNat 0).sum) (z:=z1) (fun uA uA=>v8) hm hc hj fun uA uA=>rfl) fun z2 e2=>?_;rw[ze8] at e2;exact zj (fn:=c24) rfl ⟨rfl,by decide⟩ rfl ((zc (zz rfl rfl rfl)).trans ((zc e1).trans ((zc e2).trans zpg)))
noncomputable def dueI:Nat->List (List Int×List Int)
 | 2=>[([0],[1])]
 | 3=>[([0],[1]),([0],[2]),([1],[2])]
 | 4=>[([0],[1]),([0],[2]),([0],[3]),([0,1],[2,3]),([0,2],[1,3]),([0,3],[1,2]),([1],[2]),([1],[3]),([2],[3])]
 | 5=>[([0],[1]),([0],[2]),([0],[3]),([0],[4]),([0,1],[2,3]),([0,1],[2,4]),([0,1],[3,4]),([0,2],[1,3]),([0,2],[1,4]),([0,2],[3,4]),([0,3],[1,2]),([0,3],[1,4]),([0,3],[2,4]),([0,4],[1,2]),([0,4],[1,3]),([0,4],[2,3]),([1],[2]),([1],[3]),([1],[4]),([1,2],[3,4]),([1,3],[2,4]),([1,4],[2,3]),([2],[3]),([2],[4]),([3],[4])]
 | _=>[]
noncomputable def due(m:Nat):List PyData:=(dueI m).map fun p=>wOf p.1 p.2
noncomputable def wsI(m:Nat):List (List Int×List Int):=(dueI m).flatMap fun p=>[(p.1,p.2),(p.2,p.1)]
noncomputable def panB(m:Nat)(is:List Int):Bool:=decide (is.length<=2) && is.all fun i=>decide (0<=i) && decide (i < (m:Int))
theorem zh6{m:Nat}{is:List Int}(h:panB m is=true):InR m is:=by
 unfold panB at h;rw[aM,aP] at h;refine⟨h.1,fun i hi=>?_⟩;have:=aV.mp h.2 i hi;rwa [aM,aP,aP] at this
theorem zqy{m:Nat}(hm:m4 m):((wsI m).all fun p=>panB m p.1 && panB m p.2 && (wsI m).contains (p.2,p.1))=true:=by
 rcases k6 hm with rfl | rfl | rfl | rfl <;> decide +kernel
noncomputable abbrev Dn:=List Int×List Int×Int
noncomputable def dnD(d:Dn):PyData:=.tuple [wOf d.1 d.2.1,.int d.2.2]
noncomputable def dnsD(ds:List Dn):List PyData:=ds.map dnD
structure OkD(m:Nat)(d:Dn):Prop where
 w:(d.1,d.2.1)∈wsI m
 o : -1<=d.2.2/\d.2.2<=1
structure OkW(m:Nat)(p:List Int×List Int):Prop where
 l:InR m p.1
 r:InR m p.2
 t:(p.2,p.1)∈wsI m
theorem u4{m:Nat}{p:List Int×List Int}(hm:m4 m)(h:p∈wsI m):OkW m p:=by
 have:=aV.mp (zqy hm) p h;rw[aM,aM] at this;exact⟨zh6 this.1.1,zh6 this.1.2,List.contains_iff_mem.mp this.2⟩
noncomputable def ztv(d:Dn):Dn:=(d.2.1,d.1,0 - d.2.2)
theorem OkD.turn{m:Nat}{d:Dn}(hm:m4 m)(h:OkD m d):OkD m (ztv d):=⟨(u4 hm h.w).t,by have:=h.o;show -1<=0 - d.2.2/\0 - d.2.2<=1;lia⟩
noncomputable def znw(m:Nat):List Dn:=(wsI m).flatMap fun p=>[(p.1,p.2,-1),(p.1,p.2,0),(p.1,p.2,1)]
theorem OkD.mem{m:Nat}{d:Dn}(h:OkD m d):d∈znw m:=by
 obtain⟨is,js,o⟩:=d;refine bG.mpr ⟨(is,js),h.w,?_⟩;have ho:=h.o;have:o = -1\/o=0\/o=1:=by show o = -1\/o=0\/o=1;have : -1<=o/\o<=1:=ho;lia
 rcases this with rfl | rfl | rfl <;> simp
noncomputable def tkA(n:Nat)(O:za):za:=(Tk n O).take O.length
noncomputable def tkW(n:Nat)(O:za):za:=(tkA n (tkA n O)).take O.length
noncomputable def tkD(n:Nat)(O:za):za:=((tkW n O).take (tkW n O).length).take O.length
theorem zq7(n:Nat)(O:za):tkW n O=O:=by
 have hA:∀ O,tkA n O=O:=fun O=>by unfold tkA;rw[znx,bh]
 unfold tkW;rw[hA,hA,bh]
theorem zq8(n:Nat)(O:za):tkD n O=O:=by
 unfold tkD;rw[zq7,bh,bh]
abbrev zff(m k:Nat)(O:za):Prop:=(znw m).map (fun d=>zf P table (k+4) false 11 [.d (.int m),.d (dnD d)] O)=(znw m).map fun d=>.ok (.d (.bool true)) (tkD d.1.length O)
theorem zvg{k:Nat}{O:za}:zff 2 k O:=by kernel_rfl
theorem zvf{k:Nat}{O:za}:zff 3 k O:=by kernel_rfl
theorem zve{k:Nat}{O:za}:zff 4 k O:=by kernel_rfl
theorem zvd{k:Nat}{O:za}:zff 5 k O:=by kernel_rfl
theorem zm7{k m:Nat}{d:Dn}{O:za}(hm:m4 m)(h:OkD m d):zf P table (k+4) false 11 [.d (.int m),.d (dnD d)] O=.ok (.d (.bool true)) O:=by
 have hq:zff m k O:=by
  rcases k6 hm with rfl | rfl | rfl | rfl
  ·exact zvg
  ·exact zvf
  ·exact zve
  ·exact zvd
 refine (km hq h.mem).trans ?_;rw[zq8]
noncomputable def gv(d:Dn)(c:List Int):Int:=sgn (jp c d.1 - jp c d.2.1)
noncomputable def v6(ds:List Dn)(c:List Int):Bool:=ds.all fun d=>decide (gv d c=d.2.2)
noncomputable def xa(cs:List (List Int))(ds:List Dn):List (List Int):=cs.filter (v6 ds)
noncomputable def unC:PyData->List Int
 | .tuple xs=>xs.map toI
 | _=>[]
theorem ww(l:List Int):(l.map PyData.int).map toI=l:=by
 rw[cI];exact (cz fun uA uA=>rfl).trans (List.map_id l)
theorem jf(c:List Int):unC (caseD c)=c:=ww c
noncomputable def unW:PyData->List Int×List Int
 | .tuple [l,r]=>(unC l,unC r)
 | _=>([],[])
noncomputable def unD:PyData->Dn
 | .tuple [w,o]=>((unW w).1,(unW w).2,toI o)
 | _=>([],[],0)
theorem zc4(d:Dn):unD (dnD d)=d:=by
 obtain⟨is,js,o⟩:=d;show (((is.map PyData.int).map toI,(js.map PyData.int).map toI,o):Dn)=_;rw[ww,ww]
noncomputable def qm(ds:List Dn)(x:PyData):Option PyData:=if v6 ds (unC x) then some x else none
theorem jv(ds:List Dn):∀ cs:List (List Int),(zb cs).filterMap (qm ds)=zb (xa cs ds)
 | []=>rfl
 | c::cs=>by
   show (caseD c::zb cs).filterMap (qm ds)=_;unfold xa
   cases h:v6 ds c with
   | true=>rw[dF (show qm ds (caseD c)=some (caseD c) by unfold qm;rw[jf,h];rfl),jv ds cs,List.filter_cons_of_pos h];rfl
   | false=>rw[dE (show qm ds (caseD c)=none by unfold qm;rw[jf,h];rfl),jv ds cs,List.filter_cons_of_neg (by rw[h];decide)];rfl
structure Dns(m:Nat)(ds:List Dn):Prop where
 ok:∀ d∈ds,OkD m d
 le:ds.length<=20
theorem kc{ds:List Dn}:(dnsD ds).length=ds.length:=aL _
noncomputable abbrev R8(m:Nat)(v u:V)(a b c e:Option V):Loc:=[some (.d (.int m)),some v,some u,a,b,c,e]
theorem zhh{k m:Nat}{ds:List Dn}{c:List Int}{v u:V}{O:za}(hm:m4 m)(hc:good m c)(hd:Dns m ds)(hu:Seen O u (dnsD ds)) :
 evE (PG (k+4) false) (R8 m v u none (some (.d (caseD c))) none none) (.prim .all #[.comp (.cmp .eq (.call 8 #[.loc 5,.loc 4]) (.loc 6)) (.two (.name 5) (.name 6)) (.e (.loc 2)) .nil]) O=.ok (.d (.bool (v6 ds c))) O:=by
 obtain⟨src,s1,s2,s3⟩:=hu.src;have hl:(dnsD ds).length<=line:=by rw[kc];exact ai hd.le (by decide)
 have:=wp (P:=PG (k+4) false) (ρ:=R8 m v u none (some (.d (caseD c))) none none) (elt:=.cmp .eq (.call 8 #[.loc 5,.loc 4]) (.loc 6)) (tgt:=.two (.name 5) (.name 6)) (it:=.e (.loc 2)) (O:=O) (fun y=>decide (gv (unD y) c=(unD y).2.2)) rfl s1 s2 s3 hl fun x hx=>by
  refine fC (az.mp hx) fun d hdm eO=>?_;subst eO;have w:=u4 hm (hd.ok d hdm).w;refine fD (R8 m v u none (some (.d (caseD c))) (some (.d (wOf d.1 d.2.1))) (some (.d (.int d.2.2)))) rfl ?_;rw[zc4];exact zp (zi rfl (zna hm hc w.l w.r)) rfl eq_int
 rw[this];unfold v6 dnsD;rw[List.all_map];congr 4;funext d;show decide (gv (unD (dnD d)) c=(unD (dnD d)).2.2)=_;rw[zc4]
theorem zj3{k m:Nat}{cs:List (List Int)}{ds:List Dn}{v u:V}{O:za}(hm:m4 m)(f:Found m cs)(hd:Dns m ds)(hv:Seen O v (zb cs))(hu:Seen O u (dnsD ds)) :
 evE (PG (k+4) false) (R8 m v u none none none none) (.comp (.loc 4) (.name 4) (.e (.loc 1)) #[.prim .all #[.comp (.cmp .eq (.call 8 #[.loc 5,.loc 4]) (.loc 6)) (.two (.name 5) (.name 6)) (.e (.loc 2)) .nil]]) O=.ok (.d (.list (zb (xa cs ds)))) O:=by
 obtain⟨src,s1,s2,s3⟩:=hv.src;have hl:(zb cs).length<=line:=by rw[zq];exact ai f.le (by decide)
 have:=q8 (P:=PG (k+4) false) (ρ:=R8 m v u none none none none) (elt:=.loc 4) (tgt:=.name 4) (it:=.e (.loc 1)) (ifs:=.cons (.prim .all #[.comp (.cmp .eq (.call 8 #[.loc 5,.loc 4]) (.loc 6)) (.two (.name 5) (.name 6)) (.e (.loc 2)) .nil]) .nil) (O:=O) rfl s1 s3 (by rw[s2];exact hl) (qm ds) fun x hx=>by
  rw[s2] at hx;refine fC (az.mp hx) fun c hc eO=>?_;subst eO;have ht:=zhh (k:=k) (v:=v) hm (f.good c hc) hd hu;show R.bind (xl (PG (k+4) false) (R8 m v u none (some (.d (caseD c))) none none) _ O) _=_;rw[zbx,ht];unfold qm;rw[jf]
  cases v6 ds c <;> rfl
 rw[this,s2,jv]
theorem zm3{k m:Nat}{cs:List (List Int)}{ds:List Dn}{v u:V}{O:za}(hm:m4 m)(f:Found m cs)(hd:Dns m ds)(hv:Seen O v (zb cs))(hu:Seen O u (dnsD ds)) :
 zf P table (k+5) false 12 [.d (.int m),v,u] O=.ok (.d (.list (zb (xa cs ds)))) O:=by
 obtain⟨src,s1,s2,s3⟩:=hu.src;have hl:(dnsD ds).length<=line:=by rw[kc];exact ai hd.le (by decide)
 have hle:=hd.le;have t1:evE (PG (k+4) false) (R8 m v u none none none none) (.cmp .gt (.prim .len #[.loc 2]) (.glob 4)) O=.ok (.d (.bool false)) O:=by
  refine zp (yj rfl rfl (zew hu hl)) rfl ?_;show R.ok (V.d (.bool (decide (((dnsD ds).length:Int) > 20)))) O=_;rw[aF (by rw[kc];lia)]
 have t2:evE (PG (k+4) false) (R8 m v u none none none none) (.prim .all #[.comp (.call 11 #[.loc 0,.loc 3]) (.name 3) (.e (.loc 2)) .nil]) O=.ok (.d (.bool true)) O:=by
  have:=wp (P:=PG (k+4) false) (ρ:=R8 m v u none none none none) (elt:=.call 11 #[.loc 0,.loc 3]) (tgt:=.name 3) (it:=.e (.loc 2)) (O:=O) (fun uA=>true) rfl s1 s2 s3 hl fun x hx=>⟨R8 m v u (some (.d x)) none none none,rfl,by
   refine fC (az.mp hx) fun d hdm eO=>?_;subst eO;exact zi rfl (zm7 hm (hd.ok d hdm))⟩
  rw[this];congr 4;exact aV.mpr fun uA uA=>rfl
 refine zj (fn:=c12) (ρ':=R8 m v u none none none none) rfl ⟨rfl,by decide⟩ rfl ?_;refine (zc (kf (zi rfl (zsz (k:=k+1) hm f hv)))).trans ?_;refine (zc (zx (yf (w_nt (yj rfl rfl (zez hu))) (yf t1 (w_nt t2))))).trans ?_;exact ze (z8 (zj3 hm f hd hv hu))
theorem zug{k:Nat}:zf P table (k+1) false 25 [.d (.int 2)] []=.ok (.d (.list (due 2))) []:=by kernel_rfl
theorem zuf{k:Nat}:zf P table (k+1) false 25 [.d (.int 3)] []=.ok (.d (.list (due 3))) []:=by kernel_rfl
theorem zue{k:Nat}:zf P table (k+1) false 25 [.d (.int 4)] []=.ok (.d (.list (due 4))) []:=by kernel_rfl
theorem zud{k:Nat}:zf P table (k+1) false 25 [.d (.int 5)] []=.ok (.d (.list (due 5))) []:=by kernel_rfl
theorem zm2{k m:Nat}(hm:m4 m):zf P table (k+1) false 25 [.d (.int m)] []=.ok (.d (.list (due m))) []:=by
 rcases k6 hm with rfl | rfl | rfl | rfl
 ·exact zug
 ·exact zuf
 ·exact zue
 ·exact zud
theorem zis{m:Nat}(hm:m4 m):0 < (due m).length/\(due m).length<=line:=by rcases k6 hm with rfl | rfl | rfl | rfl <;> decide +kernel
theorem zpo{m:Nat}{x:PyData}(h:x∈due m):∃ p:List Int×List Int,x=wOf p.1 p.2/\(p.1,p.2)∈wsI m/\(p.2,p.1)∈wsI m:=by
 refine fC (az.mp h) fun p hp eO=>?_;subst eO;exact fJ p rfl (bG.mpr ⟨p,hp,by simp⟩) (bG.mpr ⟨p,hp,by simp⟩)
noncomputable abbrev R18(s:List Int)(m:Nat)(cs:List (List Int))(n0:Int)(a b c d e f:Option V):Loc:=[some (.d (.list (s.map .int))),some (.d (.int 1)),some (.d (.int m)),some (.d (.list (zb cs))),some (.d (.int n0)),some (.d (.list (due m))),some (.box 0),a,b,c,d,e,f]
section
variable{k:Nat}{s:List Int}{m:Nat}{cs:List (List Int)}{n0 n:Int}{a b c d e f:Option V}{O:za}
theorem q1{i:Nat}(hs:s.length<=63):∃ n,evS (PG (k+2) false) (.asg (.name 8) (.call 22 #[.loc 0,.bin .add (.bin .add (.loc 1) (.int 1)) (.loc 7)])) (R18 s m cs n0 (some (.d (.int (0+(i:Int))))) b c d e f) O=.ok .next (R18 s m cs n0 (some (.d (.int (0+(i:Int))))) (some (.d (.int n))) c d e f,O):=by
 refine fz (mixI s (2+i)) (zz (zi rfl ?_) rfl rfl);show zf P table (k+2) false 22 [.d (.list (s.map .int)),.d (.int (1+1+(0+(i:Int))))] O=_;rw[show ((1:Int)+1+(0+(i:Int)))=((2+i:Nat):Int) by lia];exact df hs
theorem q2(hm:m4 m):∃ is js,(is,js)∈wsI m/\(js,is)∈wsI m/\evS (PG k false) (.asg (.two (.name 9) (.name 10)) (.idx (.loc 5) (.bin .mod (.loc 8) (.prim .len #[.loc 5])))) (R18 s m cs n0 a (some (.d (.int n))) c d e f) O=.ok .next (R18 s m cs n0 a (some (.d (.int n))) (some (.d (.tuple (is.map .int)))) (some (.d (.tuple (js.map .int)))) e f,O):=by
 refine fH (zis hm) fun h1 h2=>?_;refine fC (md n (due m).length O h1) fun j hj ej=>?_;refine fC (zdn (xs:=due m) rfl h2 hj) fun y hy ey=>?_;refine fN (zpo hy) fun p eN w1 w2=>?_;subst eN;exact fK p.1 p.2 w1 w2 (zkq rfl (zy rfl (yd rfl (yj rfl rfl (zde h2)) ej) (by rw[kx,ey];rfl)) rfl)
theorem q3{is js:List Int}(w1:(is,js)∈wsI m)(w2:(js,is)∈wsI m):∃ p:List Int×List Int,p∈wsI m/\evS (PG k false) (.asg (.name 11) (.idx (.list #[.tup #[.loc 9,.loc 10],.tup #[.loc 10,.loc 9]]) (.bin .mod (.bin .fdiv (.loc 8) (.int 32)) (.int 2)))) (R18 s m cs n0 a (some (.d (.int n))) (some (.d (.tuple (is.map .int)))) (some (.d (.tuple (js.map .int)))) e f) O=.ok .next (R18 s m cs n0 a (some (.d (.int n))) (some (.d (.tuple (is.map .int)))) (some (.d (.tuple (js.map .int)))) (some (.d (wOf p.1 p.2))) f,O):=by
 refine fC (md (Int.fdiv n 32) 2 O (by decide)) fun j hj ej=>?_;have:j=0\/j=1:=by lia
 refine fx this ?_ ?_<;>clear this
 ·rintro rfl;exact fD _ w1 (zz (zy rfl (yd (yd rfl rfl (dv (by decide))) rfl ej) rfl) rfl rfl)
 ·rintro rfl;exact fD _ w2 (zz (zy rfl (yd (yd rfl rfl (dv (by decide))) rfl ej) rfl) rfl rfl)
theorem q4{p:List Int×List Int}(hm:m4 m)(hf:Found m cs)(hp:p∈wsI m):∃ o:Int,(-1<=o/\o<=1)/\evS (PG (k+1) false) (.asg (.name 12) (.call 24 #[.loc 11,.idx (.loc 3) (.bin .mod (.bin .fdiv (.loc 4) (.int 5)) (.prim .len #[.loc 3]))])) (R18 s m cs n0 a (some (.d (.int n))) c d (some (.d (wOf p.1 p.2))) f) O=.ok .next (R18 s m cs n0 a (some (.d (.int n))) c d (some (.d (wOf p.1 p.2))) (some (.d (.int o))),O):=by
 have hl:(zb cs).length<=line:=by rw[zq];exact ai hf.le (by decide)
 refine fC (md (Int.fdiv n0 5) (zb cs).length O (by rw[zq];exact hf.pos)) fun j hj ej=>?_;refine fC (zdn (xs:=zb cs) rfl hl hj) fun y hy ey=>?_;refine fC (az.mp hy) fun cc hc eO=>?_;subst eO;have w:=u4 hm hp;exact fD _ (zrg _) (zz (zi (zh rfl (zh (zy rfl (yd (yd rfl rfl (dv (by decide))) (yj rfl rfl (zde hl)) ej) (by rw[kx,ey];rfl)) rfl)) (zdu hm (hf.good cc hc) w.l w.r)) rfl rfl)
theorem q5{o:Int}(ho : -1<=o/\o<=1):∃ o':Int,(-1<=o'/\o'<=1)/\evS (PG k false) (.ife (.cmp .eq (.bin .mod (.bin .fdiv (.loc 8) (.int 64)) (.int 8)) (.int 1)) #[.asg (.name 12) (.bin .sub (.bin .mod (.bin .fdiv (.loc 8) (.int 512)) (.int 3)) (.int 1))] .nil) (R18 s m cs n0 a (some (.d (.int n))) c d e (some (.d (.int o)))) O=.ok .next (R18 s m cs n0 a (some (.d (.int n))) c d e (some (.d (.int o'))),O):=by
 refine fC (md (Int.fdiv n 64) 8 O (by decide)) fun j hj ej=>?_;refine fC (md (Int.fdiv n 512) 3 O (by decide)) fun i hi ei=>?_;have ht:evE (PG k false) (R18 s m cs n0 a (some (.d (.int n))) c d e (some (.d (.int o)))) (.cmp .eq (.bin .mod (.bin .fdiv (.loc 8) (.int 64)) (.int 8)) (.int 1)) O=.ok (.d (.bool (decide ((j:Int)=1)))) O:=zp (yd (yd rfl rfl (dv (by decide))) rfl ej) rfl eq_int;by_cases h:(j:Int)=1
 ·rw[aA h] at ht;refine fD ((i:Int) - 1) (by lia) ((w_if ht).trans ?_);exact (zc (zz (yd (yd (yd rfl rfl (dv (by decide))) rfl ei) rfl v8) rfl rfl)).trans rfl
 ·rw[aF h] at ht;exact fD o ho (zx ht)
theorem znc{ds:List Dn}{x:Dn}:dnsD ds++[dnD x]=dnsD (ds++[x]):=by unfold dnsD;rw[eL];rfl
theorem q6{p:List Int×List Int}{o:Int}{ds:List Dn}(hl:ds.length < 10):evS (PG k false) (.expr (.meth .append (.loc 6) #[.tup #[.loc 11,.loc 12]])) (R18 s m cs n0 a b c d (some (.d (wOf p.1 p.2))) (some (.d (.int o)))) [Box.lst (dnsD ds)]=.ok .next (R18 s m cs n0 a b c d (some (.d (wOf p.1 p.2))) (some (.d (.int o))),[Box.lst (dnsD (ds++[(p.1,p.2,o)]))]):=by
 have ap:=app0 (xs:=dnsD ds) (x:=dnD (p.1,p.2,o)) (by rw[kc];exact cf hl (by decide));rw[znc] at ap;exact kf (v:=.d .none) ap
end
noncomputable def doneBody:CSs:=#[.asg (.name 8) (.call 22 #[.loc 0,.bin .add (.bin .add (.loc 1) (.int 1)) (.loc 7)]),.asg (.two (.name 9) (.name 10)) (.idx (.loc 5) (.bin .mod (.loc 8) (.prim .len #[.loc 5]))),.asg (.name 11) (.idx (.list #[.tup #[.loc 9,.loc 10],.tup #[.loc 10,.loc 9]]) (.bin .mod (.bin .fdiv (.loc 8) (.int 32)) (.int 2))),.asg (.name 12) (.call 24 #[.loc 11,.idx (.loc 3) (.bin .mod (.bin .fdiv (.loc 4) (.int 5)) (.prim .len #[.loc 3]))]),.ife (.cmp .eq (.bin .mod (.bin .fdiv (.loc 8) (.int 64)) (.int 8)) (.int 1)) #[.asg (.name 12) (.bin .sub (.bin .mod (.bin .fdiv (.loc 8) (.int 512)) (.int 3)) (.int 1))] .nil,.expr (.meth .append (.loc 6) #[.tup #[.loc 11,.loc 12]])]
inductive At18(s:List Int)(m:Nat)(cs:List (List Int))(n0:Int)(i:Nat):Loc->za->Prop
 | mk (a b c d e f:Option V) (ds:List Dn) (ok:∀ d∈ds,OkD m d) (len:ds.length=i):At18 s m cs n0 i (R18 s m cs n0 a b c d e f) [Box.lst (dnsD ds)]
theorem zrd{k i:Nat}{s:List Int}{m:Nat}{cs:List (List Int)}{n0:Int}{ρ:Loc}{O:za}(hs:s.length<=63)(hm:m4 m)(hf:Found m cs)(hi:i < 10)(h:At18 s m cs n0 i ρ O):∃ ρ' O',z6 (PG (k+2) false) (.name 7) doneBody (.int (0+(i:Int))) ρ O=.ok .next (ρ',O')/\At18 s m cs n0 (i+1) ρ' O':=by
 obtain⟨a,b,c,d,e,f,ds,ok,len⟩:=h;refine fG (q1 (k:=k) (s:=s) (m:=m) (cs:=cs) (n0:=n0) (i:=i) (b:=b) (c:=c) (d:=d) (e:=e) (f:=f) (O:=[Box.lst (dnsD ds)]) hs) fun n e1=>?_;refine fL (q2 (k:=k+2) (s:=s) (cs:=cs) (n0:=n0) (n:=n) (a:=some (.d (.int (0+(i:Int))))) (c:=c) (d:=d) (e:=e) (f:=f) (O:=[Box.lst (dnsD ds)]) hm) fun is js w1 w2 e2=>?_;refine fC (q3 (k:=k+2) (s:=s) (cs:=cs) (n0:=n0) (n:=n) (a:=some (.d (.int (0+(i:Int))))) (e:=e) (f:=f) (O:=[Box.lst (dnsD ds)]) w1 w2) fun p hp e3=>?_;refine fC (q4 (k:=k+1) (s:=s) (n0:=n0) (n:=n) (a:=some (.d (.int (0+(i:Int))))) (c:=some (.d (.tuple (is.map .int)))) (d:=some (.d (.tuple (js.map .int)))) (f:=f) (O:=[Box.lst (dnsD ds)]) hm hf hp) fun o ho e4=>?_;refine fC (q5 (k:=k+2) (s:=s) (m:=m) (cs:=cs) (n0:=n0) (n:=n) (a:=some (.d (.int (0+(i:Int))))) (c:=some (.d (.tuple (is.map .int)))) (d:=some (.d (.tuple (js.map .int)))) (e:=some (.d (wOf p.1 p.2))) (O:=[Box.lst (dnsD ds)]) ho) fun o' ho' e5=>?_;refine fV _ _ ?_ (.mk (some (.d (.int (0+(i:Int))))) (some (.d (.int n))) (some (.d (.tuple (is.map .int)))) (some (.d (.tuple (js.map .int)))) (some (.d (wOf p.1 p.2))) (some (.d (.int o'))) (ds++[(p.1,p.2,o')]) (fun x hx=>?_) (by rw[ba,len];rfl))
 ·show evSs (PG (k+2) false) doneBody (R18 s m cs n0 (some (.d (.int (0+(i:Int))))) b c d e f) [Box.lst (dnsD ds)]=_;unfold doneBody;exact (zc e1).trans ((zc e2).trans ((zc e3).trans ((zc e4).trans ((zc e5).trans ((zc (q6 (by lia))).trans rfl)))))
 ·refine fx (aj.mp hx) ?_ ?_
  ·intro hx;exact ok x hx
  ·intro hx;rw[ae.mp hx];exact⟨hp,ho'⟩
theorem zr6{k n:Nat}{s:List Int}{m:Nat}{cs:List (List Int)}{n0:Int}(hs:s.length<=63)(hm:m4 m)(hf:Found m cs)(hn:n<=10):∃ ρ' O',zv (.plain (zl 0 n)) (z6 (PG (k+2) false) (.name 7) doneBody) (zl 0 n) (R18 s m cs n0 none none none none none none) [Box.lst []]=.ok .next (ρ',O')/\At18 s m cs n0 n ρ' O':=by
 obtain⟨ρ',O',e,h⟩:=pn (ys:=zl 0 n) (turn:=z6 (PG (k+2) false) (.name 7) doneBody) (fun i ρ O=>At18 s m cs n0 i ρ O) (zl 0 n) 0 (R18 s m cs n0 none none none none none none) [Box.lst []]
  (fun j x hx ρ O h=>by
    have hj:j < n:=by have:=(aE.mp hx).1;rw[xm] at this;assumption
    rw[zac hx];rw[bC] at h ⊢
    exact zrd hs hm hf (by exact Nat.lt_of_lt_of_le (by assumption) (by assumption)) h) (.mk _ _ _ _ _ _ [] (fun uA h=>nomatch h) rfl)
 refine fV ρ' O' e ?_;rw[xm] at h;rwa [show (0:Nat)+((n:Int) - 0).toNat=n by lia] at h
theorem zs2{k:Nat}{s:List Int}{m:Nat}{cs:List (List Int)}(hs:s.length<=63)(hm:m4 m)(hf:Found m cs):∃ ds:List Dn,(∀ d∈ds,OkD m d)/\ds.length<=3/\zf P table (k+3) false 28 [.d (.list (s.map .int)),.d (.int 1),.d (.int m),.d (.list (zb cs))] []=.ok (.d (.list (dnsD ds))) []:=by
 have n1:zf P table (k+2) false 22 [.d (.list (s.map .int)),.d (.int 1)] []=.ok (.d (.int (mixI s 1))) []:=df (k:=k) (j:=1) (O:=[]) hs;generalize mixI s 1=n0 at n1;refine fC (md n0 5 [Box.lst []] (by decide)) fun j hj ej=>?_;have hn:∃ n:Nat,n<=3/\idxD (.list [.int 0,.int 0,.int 1,.int 2,.int 3]) (.int (j:Int))=some (.int (n:Int)):=by
  have:j=0\/j=1\/j=2\/j=3\/j=4:=by lia
  rcases this with rfl | rfl | rfl | rfl | rfl
  ·exact fD 0 (by decide) rfl
  ·exact fD 0 (by decide) rfl
  ·exact fD 1 (by decide) rfl
  ·exact fD 2 (by decide) rfl
  ·exact fD 3 (by decide) rfl
 refine fC hn fun n hn en=>?_;refine fR (zr6 (k:=k) (n:=n) (n0:=n0) hs hm hf (by lia)) fun ρ' O' el hat=>?_;have hI:evI (PG (k+2) false) (R18 s m cs n0 none none none none none none) (.range (.int 0) (.idx (.list #[.int 0,.int 0,.int 1,.int 2,.int 3]) (.bin .mod (.loc 4) (.int 5)))) [Box.lst []]=.ok (.plain (zl 0 n)) [Box.lst []]:=by
  have:evE (PG (k+2) false) (R18 s m cs n0 none none none none none none) (.idx (.list #[.int 0,.int 0,.int 1,.int 2,.int 3]) (.bin .mod (.loc 4) (.int 5))) [Box.lst []]=.ok (.d (.int (n:Int))) [Box.lst []]:=zy rfl (yd rfl rfl ej) (by rw[kx,en];rfl);rw[q7,jc,zw,this,zw];exact xn (by lia)
 generalize zl 0 (n:Int)=rs at el hI;obtain⟨a,b,c,d,e,f,ds,ok,len⟩:=hat;refine fJ ds ok (by lia) ?_;have hfor:evS (PG (k+2) false) (.for_ (.name 7) (.range (.int 0) (.idx (.list #[.int 0,.int 0,.int 1,.int 2,.int 3]) (.bin .mod (.loc 4) (.int 5)))) doneBody) (R18 s m cs n0 none none none none none none) [Box.lst []]=.ok .next (R18 s m cs n0 a b c d e f,[Box.lst (dnsD ds)]):=by
  rw[jn,ak ao,hI];exact el
 have hb:evSs (PG (k+2) false) c28.body [some (.d (.list (s.map .int))),some (.d (.int 1)),some (.d (.int m)),some (.d (.list (zb cs))),none,none,none,none,none,none,none,none,none] []=.ok (.ret (.box 0)) (R18 s m cs n0 a b c d e f,[Box.lst (dnsD ds)]):=
  (zc (zz (zi rfl n1) rfl rfl)).trans ((zc (zz (zi rfl (zm2 (k:=k+1) hm)) rfl rfl)).trans ((zc (zz (v:=.box 0) (O':=[Box.lst []]) rfl rfl rfl)).trans ((zc hfor).trans (ze (z8 rfl)))))
 rw[ke (fn:=c28) rfl ⟨rfl,by decide⟩];unfold evFn;show (match evSs (PG (k+2) false) c28.body [some (.d (.list (s.map .int))),some (.d (.int 1)),some (.d (.int m)),some (.d (.list (zb cs))),none,none,none,none,none,none,none,none,none] [] with | .ok (.ret v) S=>fin 0 false v S.2 | .ok .next S=>.ok (.d .none) (S.2.take 0) | .stuck=>.stuck)=_;rw[hb];rfl
structure Lay(n:Nat)(x:PyData):Prop where
 lay:x.canLay0=true
 depth:x.depth<=n
theorem lay_all{n:Nat}:∀ (xs:List PyData),(∀ x∈xs,Lay n x)->PyData.canLayAll0 xs=true/\PyData.depthAll xs<=n
 | [],_=>⟨rfl,be _⟩
 | x::xs,h=>by
   refine fH (lay_all xs fun y hy=>h y (ah _ hy)) fun h1 h2=>?_;have hx:=h x am;refine⟨?_,eB.mpr ⟨hx.depth,h2⟩⟩;show (x.canLay0 && PyData.canLayAll0 xs)=true;rw[hx.lay,h1];rfl
theorem Lay.list{n:Nat}{xs:List PyData}(h:∀ x∈xs,Lay n x):Lay (n+1) (.list xs):=⟨(lay_all xs h).1,bM (lay_all xs h).2⟩
theorem Lay.eq{n:Nat}{x:PyData}(h:Lay n x)(hn:n<=100):gq .eq x x=some true/\gq .ne x x=some false:=by
 have h3:eqOk x x=true:=by
  unfold eqOk;rw[h.lay,aA (by rw[Nat.min_self];exact ai h.depth hn)];rfl
 refine⟨?_,?_⟩
 ·show (if eqOk x x=true then some (PyData.eqv x x) else none)=_;rw[af h3,PySem.SeqAt.eqv_refl x h.lay]
 ·show (if eqOk x x=true then some (!PyData.eqv x x) else none)=_;rw[af h3,PySem.SeqAt.eqv_refl x h.lay];rfl
theorem xd(cs:List (List Int)):∀ x∈zb cs,Lay 10 x:=fun x hx=>by
 refine fC (az.mp hx) fun c fy eO=>?_;subst eO;exact⟨x0,ai (za4 c) (by decide)⟩
theorem za2{f:PyData->Option PyData}:∀ xs:List PyData,(xs.filterMap f).isEmpty=xs.all fun x=>(f x).isNone
 | []=>rfl
 | x::xs=>by
   cases h:f x with
   | none=>rw[dE h,za2 xs,eH,h];rfl
   | some y=>rw[dF h,eH,h];rfl
theorem uv{xs ys:List PyData}(h1:PyData.canLayAll0 xs=true)(h2:PyData.canLayAll0 ys=true)(h3:(PyData.list ys).depth<=100):eqOk (.list xs) (.list ys)=true:=by
 unfold eqOk;rw[show (PyData.list xs).canLay0=true from h1,show (PyData.list ys).canLay0=true from h2,aA (ai (Nat.min_le_right _ _) h3)];rfl
theorem de{xs:List PyData}{O:za}(h:∀ x∈xs,Lay 10 x):cmpV .eq (.d (.list xs)) (.d (.list [])) O=.ok (.d (.bool xs.isEmpty)) O:=by
 rw[v_eq];show opt (Option.map _ (if eqOk (.list xs) (.list [])=true then some (PyData.eqv (.list xs) (.list [])) else none)) O=_;rw[af (uv (Lay.list h).lay rfl (by decide))]
 cases xs <;> rfl
noncomputable def gp(c:List Int)(y:PyData):Option PyData:=if gv (unD y) c=(unD y).2.2 then none else some (.int 1)
theorem zla{c:List Int}{ds:List Dn}:((dnsD ds).filterMap (gp c)).isEmpty=v6 ds c:=by
 rw[za2];unfold v6 dnsD;rw[List.all_map];congr 1;funext d;show (gp c (dnD d)).isNone=_;unfold gp;rw[zc4];by_cases h:gv d c=d.2.2
 ·rw[af h,aA h];rfl
 ·rw[ak h,aF h];rfl
theorem zk9{c:List Int}{ys:List PyData}:∀ x∈ys.filterMap (gp c),Lay 10 x:=fun x hx=>by
 refine fC (List.mem_filterMap.mp hx) fun y fy e=>?_;unfold gp at e;by_cases h:gv (unD y) c=(unD y).2.2
 ·rw[af h] at e;contradiction
 ·rw[ak h] at e;injection e with fu;subst fu;exact⟨rfl,be _⟩
noncomputable abbrev R19(cs:List (List Int))(ds:List Dn)(a b c:Option V):Loc:=[some (.d (.list (zb cs))),some (.d (.list (dnsD ds))),a,b,c]
theorem zsw{k m:Nat}{cs:List (List Int)}{ds:List Dn}{c:List Int}{O:za}(hm:m4 m)(hc:good m c)(hd:Dns m ds) :
 evE (PG (k+1) false) (R19 cs ds (some (.d (caseD c))) none none) (.cmp .eq (.comp (.int 1) (.two (.name 3) (.name 4)) (.e (.loc 1)) #[.cmp .ne (.call 24 #[.loc 3,.loc 2]) (.loc 4)]) (.list .nil)) O=.ok (.d (.bool (v6 ds c))) O:=by
 have hl:(dnsD ds).length<=line:=by rw[kc];exact ai hd.le (by decide)
 have:=q8 (P:=PG (k+1) false) (ρ:=R19 cs ds (some (.d (caseD c))) none none) (elt:=.int 1) (tgt:=.two (.name 3) (.name 4)) (it:=.e (.loc 1)) (ifs:=.cons (.cmp .ne (.call 24 #[.loc 3,.loc 2]) (.loc 4)) .nil) (src:=.plain (dnsD ds)) (O:=O) rfl rfl rfl hl (gp c) fun x hx=>by
  refine fC (az.mp hx) fun d hdm eO=>?_;subst eO;have w:=u4 hm (hd.ok d hdm).w;have ht:evE (PG (k+1) false) (R19 cs ds (some (.d (caseD c))) (some (.d (wOf d.1 d.2.1))) (some (.d (.int d.2.2)))) (.cmp .ne (.call 24 #[.loc 3,.loc 2]) (.loc 4)) O=.ok (.d (.bool (!decide (gv d c=d.2.2)))) O:=zp (zi rfl (zdu hm hc w.l w.r)) rfl ne_int;show R.bind (xl (PG (k+1) false) (R19 cs ds (some (.d (caseD c))) (some (.d (wOf d.1 d.2.1))) (some (.d (.int d.2.2)))) _ O) _=_;rw[zbx,ht];unfold gp;rw[zc4];by_cases h:gv d c=d.2.2
  ·rw[af h,aA h];rfl
  ·rw[ak h,aF h];rfl
 refine zp this rfl ?_;refine (de zk9).trans ?_;show R.ok (V.d (.bool ((dnsD ds).filterMap (gp c)).isEmpty)) O=_;rw[zla]
theorem zpl{k m:Nat}{cs:List (List Int)}{ds:List Dn}{O:za}(hm:m4 m)(f:Found m cs)(hd:Dns m ds):zf P table (k+2) false 29 [.d (.list (zb cs)),.d (.list (dnsD ds))] O=.ok (.d (.list (zb (xa cs ds)))) O:=by
 have hl:(zb cs).length<=line:=by rw[zq];exact ai f.le (by decide)
 have:=q8 (P:=PG (k+1) false) (ρ:=R19 cs ds none none none) (elt:=.loc 2) (tgt:=.name 2) (it:=.e (.loc 0)) (ifs:=.cons (.cmp .eq (.comp (.int 1) (.two (.name 3) (.name 4)) (.e (.loc 1)) #[.cmp .ne (.call 24 #[.loc 3,.loc 2]) (.loc 4)]) (.list .nil)) .nil) (src:=.plain (zb cs)) (O:=O) rfl rfl rfl hl (qm ds) fun x hx=>by
  refine fC (az.mp hx) fun c hc eO=>?_;subst eO;have ht:=zsw (k:=k) (cs:=cs) (O:=O) hm (f.good c hc) hd;show R.bind (xl (PG (k+1) false) (R19 cs ds (some (.d (caseD c))) none none) _ O) _=_;rw[zbx,ht];unfold qm;rw[jf]
  cases v6 ds c <;> rfl
 rw[show (Src.plain (zb cs)).xs.filterMap (qm ds)=zb (xa cs ds) from jv ds cs] at this;exact zj (fn:=c29) rfl ⟨rfl,by decide⟩ rfl (ze (z8 this))
theorem zdq{k:Nat}{i:Int}{O:za}:zf P table (k+1) false 23 [.d (.int i)] O=.ok (.d (.bool true)) O:=zj (fn:=c23) (ρ':=[some (.d (.int i))]) rfl ⟨rfl,by decide⟩ rfl rfl
noncomputable abbrev Cs:=List (List Int)
noncomputable abbrev Wg:=List Int×List Int
noncomputable def yg(w:Wg)(c:List Int):Int:=sgn (jp c w.1 - jp c w.2)
noncomputable def zg(w:Wg)(o:Int)(cs:Cs):Cs:=cs.filter fun c=>decide (yg w c=o)
theorem zb6(d:Int):sgn d = -1\/sgn d=0\/sgn d=1:=by
 unfold sgn;by_cases h:d > 0
 ·rw[af h];exact .inr (.inr rfl)
 ·rw[ak h];by_cases h:d < 0
  ·rw[af h];exact .inl rfl
  ·rw[ak h];exact .inr (.inl rfl)
theorem zep(w:Wg):∀ cs:Cs,(zg w (-1) cs).length+(zg w 0 cs).length+(zg w 1 cs).length=cs.length
 | []=>rfl
 | c::cs=>by
   have ih:=zep w cs;unfold zg at ih ⊢
   rw[List.filter_cons,List.filter_cons,List.filter_cons];rcases zb6 (jp c w.1 - jp c w.2) with h | h | h
   ·have h:yg w c = -1:=h;rw[h,af (by decide),ak (by decide),ak (by decide)];simp only[aR];lia
   ·have h:yg w c=0:=h;rw[h,ak (by decide),af (by decide),ak (by decide)];simp only[aR];lia
   ·have h:yg w c=1:=h;rw[h,ak (by decide),ak (by decide),af (by decide)];simp only[aR];lia
noncomputable def outs:List Int:=[-1,0,1]
noncomputable def solv(ws:List Wg):Nat->Cs->Bool
 | 0,cs=>cs.length == 1
 | n+1,cs=>cs.length == 1 || (decide (cs.length<=3 ^ (n+1)) && ws.any fun w=>outs.all fun o=>(zg w o cs).isEmpty || solv ws n (zg w o cs))
variable{ws:List Wg}
theorem xx{n:Nat}{cs:Cs}(h:cs.length=1):solv ws n cs=true:=by
 cases n with
 | zero=>exact aQ.mpr h
 | succ n=>unfold solv;rw[h];rfl
theorem solv_succ{n:Nat}{cs:Cs}:solv ws (n+1) cs=true↔cs.length=1\/cs.length<=3 ^ (n+1)/\∃ w∈ws,∀ o∈outs,zg w o cs=[]\/solv ws n (zg w o cs)=true:=by
 show (cs.length == 1 || (decide (cs.length<=3 ^ (n+1)) && ws.any fun w=>outs.all fun o=>(zg w o cs).isEmpty || solv ws n (zg w o cs)))=true↔_;rw[cj,aM,aQ,aP,List.any_eq_true];simp only[aV,cj,cC]
theorem zee{cs:Cs}:∀ {n:Nat},solv ws n cs=true->cs.length<=3 ^ n
 | 0,h=>bX (aQ.mp h)
 | n+1,h=>by
   refine fx (solv_succ.mp h) ?_ ?_
   ·intro h;rw[h];exact Nat.one_le_pow _ _ (by decide)
   ·intro h;exact h.1
theorem zb4:∀ {n:Nat} {cs:Cs},solv ws n cs=true->solv ws (n+1) cs=true
 | 0,cs,h=>xx (aQ.mp h)
 | n+1,cs,h=>by
   refine fx (solv_succ.mp h) ?_ ?_
   ·intro h;exact xx h
   ·rintro ⟨h1,w,hw,h⟩;refine solv_succ.mpr (.inr ⟨ai h1 (Nat.pow_le_pow_right (by decide) (cW _)),w,hw,fun o ho=>(h o ho).imp id zb4⟩)
theorem zh1{n m:Nat}{cs:Cs}(h:solv ws n cs=true)(hm:n<=m):solv ws m cs=true:=by
 refine fG (Nat.exists_eq_add_of_le hm) fun k eN=>?_;subst eN
 induction k with
 | zero=>exact h
 | succ k ih=>exact zb4 (ih (eG _ _))
theorem zed:∀ {n:Nat} {cs cs':Cs},solv ws n cs=true->cs'.Sublist cs->cs'≠[]->solv ws n cs'=true
 | 0,cs,cs',h,hs,hn=>by
   have h:cs.length=1:=aQ.mp h;have:=hs.length_le;have:0 < cs'.length:=List.length_pos_iff.mpr hn;exact aQ.mpr (by lia)
 | n+1,cs,cs',h,hs,hn=>by
   have hp:0 < cs'.length:=List.length_pos_iff.mpr hn;have hl:=hs.length_le;refine fx (solv_succ.mp h) ?_ ?_
   ·intro h;exact xx (by lia)
   ·rintro ⟨h1,w,hw,h⟩;refine solv_succ.mpr (.inr ⟨ai hl h1,w,hw,fun o ho=>?_⟩);by_cases he:zg w o cs'=[]
    ·exact .inl he
    ·refine fx (h o ho) ?_ ?_
     ·intro h;have:=(hs.filter fun c=>decide (yg w c=o));unfold zg at h he;rw[h] at this;exact absurd (List.sublist_nil.mp this) he
     ·intro h;exact .inr (zed h (hs.filter _) he)
theorem wy{n:Nat}{w:Wg}{cs:Cs}(hw:w∈ws)(h:∀ o∈outs,zg w o cs=[]\/solv ws n (zg w o cs)=true):solv ws (n+1) cs=true:=by
 have le:∀ o∈outs,(zg w o cs).length<=3 ^ n:=fun o ho=>by
  refine fx (h o ho) ?_ ?_
  ·intro h;rw[h];exact be _
  ·intro h;exact zee h
 have h1:=le (-1) (by decide);have h2:=le 0 (by decide);have h3:=le 1 (by decide);have:=zep w cs;exact solv_succ.mpr (.inr ⟨by rw[Nat.pow_succ];lia,w,hw,h⟩)
noncomputable def yc(ws:List Wg)(a b:List Int):Bool:=ws.all fun w=>decide (yg w a=yg w b)
def Pw(ws:List Wg)(cs:Cs):Prop:=cs.Pairwise fun a b=>yc ws a b=false
theorem Pw.solv{cs:Cs}:∀ {vs:List Wg},(∀ v∈vs,v∈ws)->∀ {cs:Cs},Pw vs cs->cs≠[]->solv ws vs.length cs=true
 | [],_,cs,hp,hn=>by
   cases cs with
   | nil=>exact absurd rfl hn
   | cons a l=>cases l with
     | nil=>exact xx rfl
     | cons b l=>exact absurd ((aG.mp hp).1 b (.head _)) (by intro h;contradiction)
 | w::vs,hv,cs,hp,hn=>by
   refine wy (hv w (.head _)) fun o uA=>?_;by_cases he:zg w o cs=[]
   ·exact .inl he
   ·refine .inr (Pw.solv (cs:=cs) (fun v h=>hv v (.tail _ h)) ?_ he);have h1:Pw (w::vs) (zg w o cs):=hp.sublist bW;refine List.Pairwise.imp_of_mem (R:=fun a b=>yc (w::vs) a b=false) (fun {a b} ha hb h=>?_) h1;have ha:yg w a=o:=bp (bJ.mp ha).2;have hb:yg w b=o:=bp (bJ.mp hb).2;unfold yc at h;rw[eH,ha,hb,aA rfl,Bool.true_and] at h;exact h
structure Least(ws:List Wg)(n:Nat)(cs:Cs):Prop where
 yes:solv ws n cs=true
 no:∀ k,k < n->solv ws k cs=false
theorem Least.le{n k:Nat}{cs:Cs}(h:Least ws n cs)(hk:solv ws k cs=true):n<=k:=by
 refine fx (bn k n) ?_ ?_
 ·intro hl;rw[h.no k hl] at hk;contradiction
 ·intro hl;exact hl
theorem Least.one{n:Nat}{cs:Cs}(h:Least ws n cs)(hl:cs.length=1):n=0:=Nat.le_zero.mp (h.le (xx hl))
theorem Least.part{n k:Nat}{w:Wg}{o:Int}{cs:Cs}(h:Least ws n cs)(hk:Least ws k (zg w o cs))(he:zg w o cs≠[]):k<=n:=hk.le (zed h.yes bW he)
theorem Least.step{n:Nat}{cs:Cs}{M:Wg->Nat}(h:Least ws n cs)(hl:cs.length≠1)(hM:∀ w∈ws,(∀ o∈outs,zg w o cs=[]\/solv ws (M w) (zg w o cs)=true)/\∀ k,(∀ o∈outs,zg w o cs=[]\/solv ws k (zg w o cs)=true)->M w<=k) :
 ∃ w∈ws,n=M w+1/\∀ v∈ws,M w<=M v:=by
 cases n with
 | zero=>exact absurd (aQ.mp h.yes) hl
 | succ n=>
   refine fx (solv_succ.mp h.yes) ?_ ?_
   ·intro h';exact absurd h' hl
   ·rintro ⟨_,w,hw,h'⟩;have low:∀ v∈ws,n<=M v:=fun v hv=>dT (h.le (wy hv (hM v hv).1));have e:n=M w:=dO (low w hw) ((hM w hw).2 n h');exact fJ w hw (by rw[e]) (fun v hv=>e ▸ low v hv)
theorem zgr{ws:List Wg}:∀ (n:Nat) {cs:Cs},Pw ws cs->cs≠[]->cs.length<=n+1->solv ws n cs=true
 | n,cs,hp,hn,hl=>by
   cases cs with
   | nil=>exact absurd rfl hn
   | cons a l=>
     cases l with
     | nil=>exact xx rfl
     | cons b l=>
       cases n with
       | zero=>exact absurd hl (by simp)
       | succ n=>
         have hab:yc ws a b=false:=(aG.mp hp).1 b (.head _);refine fC (List.all_eq_false.mp hab) fun w hw hd=>?_;rw [aP] at hd;refine wy hw fun o uA=>?_;by_cases he:zg w o (a::b::l)=[]
         ·exact .inl he
         ·refine .inr (zgr n (hp.sublist bW) he ?_);have hs:(zg w o (a::b::l)).Sublist (a::b::l):=bW;refine fx (bn (zg w o (a::b::l)).length (a::b::l).length) ?_ ?_
          ·intro h;lia
          ·intro h;have e:=hs.eq_of_length (dO hs.length_le h);have ha:a∈zg w o (a::b::l):=by rw [e];exact am
           have hb:b∈zg w o (a::b::l):=by rw [e];exact ah _ am
           exact absurd ((bp (bJ.mp ha).2).trans (bp (bJ.mp hb).2).symm) hd
end Mine.L06
end
section
namespace Mine.L06
local macro_rules
|`(#[$x])=>`(.cons $x .nil)
|`(#[$x,$ys,*])=>`(.cons $x #[$ys,*])
open PySem Mine
theorem mem_part{w:Wg}{o:Int}{cs:Cs}{c:List Int}:c∈zg w o cs↔c∈cs/\yg w c=o:=by unfold zg;rw[bJ,aP]
noncomputable abbrev wD(w:Wg):PyData:=wOf w.1 w.2
noncomputable def po(w:Wg)(o:Int)(x:PyData):Option PyData:=if decide (yg w (unC x)=o) then some x else none
theorem ql(w:Wg)(o:Int):∀ cs:Cs,(zb cs).filterMap (po w o)=zb (zg w o cs)
 | []=>rfl
 | c::cs=>by
   show (caseD c::zb cs).filterMap (po w o)=_;unfold zg
   cases h:decide (yg w c=o) with
   | true=>rw[dF (show po w o (caseD c)=some (caseD c) by unfold po;rw[jf,h];rfl),ql w o cs,List.filter_cons_of_pos (p:=fun c=>decide (yg w c=o)) h];rfl
   | false=>rw[dE (show po w o (caseD c)=none by unfold po;rw[jf,h];rfl),ql w o cs,List.filter_cons_of_neg (p:=fun c=>decide (yg w c=o)) (by rw[h];decide)];rfl
structure Ok12(m:Nat)(cs:Cs):Prop where
 good:∀ c∈cs,good m c
 le:cs.length<=12
theorem Ok12.part{m:Nat}{cs:Cs}(h:Ok12 m cs)(w:Wg)(o:Int):Ok12 m (zg w o cs):=⟨fun c hc=>h.good c (mem_part.mp hc).1,ai (List.length_filter_le _ _) h.le⟩
theorem Ok12.line{m:Nat}{cs:Cs}(h:Ok12 m cs):(zb cs).length<=line:=by rw[zq];exact ai h.le (by decide)
theorem zhg{k f m a b:Nat}{w:Wg}{o:Int}{cs:Cs}{wx ox:CE}{ρ:Loc}{O:za}(h:Ok12 m cs)(hf:∀ c,good m c->zf P table k false f [.d (wD w),.d (caseD c)] O=.ok (.d (.int (yg w c))) O)(ha:Nat.blt a ρ.length=true)
 (hb:ρ[b]?=some (some (.d (.list (zb cs))))) (hw:∀ x,evE (PG k false) (ρ.set a (some (.d x))) wx O=.ok (.d (wD w)) O) (ho:∀ x,evE (PG k false) (ρ.set a (some (.d x))) ox O=.ok (.d (.int o)) O) :
 evE (PG k false) ρ (.comp (.loc a) (.name a) (.e (.loc b)) #[.cmp .eq (.call f #[wx,.loc a]) ox]) O=.ok (.d (.list (zb (zg w o cs)))) O:=by
 have ha:a < ρ.length:=cK ha;have hI:evI (PG k false) ρ (.e (.loc b)) O=.ok (.plain (zb cs)) O:=by rw[x_e,xu,hb];rfl
 have:=q8 (P:=PG k false) (ρ:=ρ) (elt:=.loc a) (tgt:=.name a) (it:=.e (.loc b)) (ifs:=.cons (.cmp .eq (.call f #[wx,.loc a]) ox) .nil) (O:=O) rfl hI rfl h.line (po w o) fun x hx=>by
  refine fC (az.mp hx) fun c hc eO=>?_;subst eO;have ea:evE (PG k false) (ρ.set a (some (.d (caseD c)))) (.loc a) O=.ok (.d (caseD c)) O:=by rw[xu,bY ha];rfl
  have et:evE (PG k false) (ρ.set a (some (.d (caseD c)))) (.cmp .eq (.call f #[wx,.loc a]) ox) O=.ok (.d (.bool (decide (yg w c=o)))) O:=zp (zi (zh (hw _) (zh ea rfl)) (hf c (h.good c hc))) (ho _) eq_int;unfold xk zu;rw[af ha];show R.bind (xl (PG k false) (ρ.set a (some (.d (caseD c)))) _ O) _=_;rw[zbx,et];unfold po;rw[jf]
  cases decide (yg w c=o) with
  | true=>
    show R.bind (evE (PG k false) (ρ.set a (some (.d (caseD c)))) (.loc a) O) _=_;rw[ea];rfl
  | false=>rfl
 rw[this];show R.ok (V.d (.list ((zb cs).filterMap (po w o)))) O=_;rw[ql]
theorem zhe{k m:Nat}{w:Wg}{O:za}(hm:m4 m)(hw:w∈wsI m)(c:List Int)(hc:good m c):zf P table (k+1) false 8 [.d (wD w),.d (caseD c)] O=.ok (.d (.int (yg w c))) O:=zna hm hc (u4 hm hw).l (u4 hm hw).r
theorem g9{k m:Nat}{w:Wg}{O:za}(hm:m4 m)(hw:w∈wsI m)(c:List Int)(hc:good m c):zf P table (k+1) false 24 [.d (wD w),.d (caseD c)] O=.ok (.d (.int (yg w c))) O:=zdu hm hc (u4 hm hw).l (u4 hm hw).r
theorem yx{ys:List PyData}{turn:PyData->Loc->za->R (Loc×za) Fl}{x:PyData}{xs:List PyData}{ρ ρ':Loc}{O O':za}(h:turn x ρ O=.ok .next (ρ',O')):zv (.plain ys) turn (x::xs) ρ O=zv (.plain ys) turn xs ρ' O':=by
 rw[vn,h];exact af rfl
theorem zkg{k:Nat}{f:Nat}{fn:Fn}{args:List V}{O:za}{ρ ρ':Loc}{xs:List PyData}(h:table f=some fn)(hl:args.length=fn.arity/\fn.arity<=fn.slots)(hρ:args.map some++List.replicate (fn.slots - fn.arity) none=ρ)(hk:fn.keep=false)
 (hb:evSs (PG k false) fn.body ρ O=.ok (.ret (.box O.length)) (ρ',O++[.lst xs])):zf P table (k+1) false f args O=.ok (.d (.list xs)) O:=by
 rw[ke h hl,evFn,hρ,hb];show zay O.length fn.keep O.length (O++[.lst xs])=_;unfold zay;rw[ak (cM _),hk,aI (aH _),cH];show R.ok (V.d (.list xs)) ((O++[Box.lst xs]).take O.length)=_;rw[List.take_left'];rfl
theorem zgh{O:za}{a b:Box}:(O++[a]).set O.length b=O++[b]:=by rw[List.set_append_right _ _ (aH _),cH];rfl
theorem appN{O:za}{xs:List PyData}{x:PyData}(h:xs.length < line):meth .append (.box O.length) [.d x] (O++[Box.lst xs])=.ok (.d .none) (O++[Box.lst (xs++[x])]):=by
 show (match (O++[Box.lst xs])[O.length]? with | some (.lst xs)=>_ | _=>_)=_;rw[aI (aH _),cH];show (if xs.length < line then R.ok (V.d .none) ((O++[Box.lst xs]).set O.length (.lst (xs++[x]))) else _)=_;rw[af h,zgh]
theorem recN{O:za}{xs:List PyData}:recv .append (.box O.length) (O++[Box.lst xs])=true:=by
 show ze0 (O++[Box.lst xs]) O.length=true;unfold ze0;rw[aI (aH _),cH];rfl
noncomputable def zuc:CSs:=.cons (.expr (.meth .append (.loc 2) #[.comp (.loc 4) (.name 4) (.e (.loc 1)) #[.cmp .eq (.call 8 #[.loc 0,.loc 4]) (.loc 3)]])) .nil
theorem dp{k m:Nat}{w:Wg}{o:Int}{cs:Cs}{z:Option V}{xs:List PyData}{O:za}(hm:m4 m)(hw:w∈wsI m)(h:Ok12 m cs)(hx:xs.length < line) :
 z6 (PG (k+1) false) (.name 3) zuc (.int o) [some (.d (wD w)),some (.d (.list (zb cs))),some (.box O.length),z,none] (O++[Box.lst xs])=.ok .next ([some (.d (wD w)),some (.d (.list (zb cs))),some (.box O.length),some (.d (.int o)),none],O++[Box.lst (xs++[.list (zb (zg w o cs))])]):=by
 have ep:=zhg (k:=k+1) (a:=4) (b:=1) (w:=w) (o:=o) (wx:=.loc 0) (ox:=.loc 3) (ρ:=[some (.d (wD w)),some (.d (.list (zb cs))),some (.box O.length),some (.d (.int o)),none]) (O:=O++[Box.lst xs]) h (zhe hm hw) rfl rfl (fun uA=>rfl) fun uA=>rfl;exact (zc (ρ:=[some (.d (wD w)),some (.d (.list (zb cs))),some (.box O.length),some (.d (.int o)),none]) (kf (uc rfl recN (zh ep rfl) (appN hx)))).trans rfl
noncomputable def zai(w:Wg)(cs:Cs):List PyData:=[.list (zb (zg w (-1) cs)),.list (zb (zg w 0 cs)),.list (zb (zg w 1 cs))]
theorem zm1{k m:Nat}{w:Wg}{cs:Cs}{O:za}(hm:m4 m)(hw:w∈wsI m)(h:Ok12 m cs):zf P table (k+2) false 9 [.d (wD w),.d (.list (zb cs))] O=.ok (.d (.list (zai w cs))) O:=by
 refine zkg (fn:=c9) rfl ⟨rfl,by decide⟩ rfl rfl ((zc (zz (v:=.box O.length) (O':=O++[Box.lst []]) rfl rfl rfl)).trans ((zc (ρ':=[some (.d (wD w)),some (.d (.list (zb cs))),some (.box O.length),some (.d (.int 1)),none]) (O':=O++[Box.lst (zai w cs)]) ?_).trans (ze (z8 rfl))));rw[jn,ak ao];exact (yx (dp hm hw h (by show 0 < 1000000;decide))).trans ((yx (dp hm hw h (by show 1 < 1000000;decide))).trans ((yx (dp hm hw h (by show 2 < 1000000;decide))).trans rfl))
theorem zmz{k n:Nat}{O:za}(hn:n<=11):zf P table (k+1) false 10 [.d (.int n)] O=.ok (.d (.int ((3 ^ n:Nat):Int))) O:=by
 have key:(List.range 12).map (fun n:Nat=>zf P table (k+1) false 10 [.d (.int n)] O)=(List.range 12).map fun n:Nat=>.ok (.d (.int ((3 ^ n:Nat):Int))) (O.take O.length):=by kernel_rfl
 rw[km key (aZ.mpr (cS hn)),bh]
theorem zur{k:Nat}:zf P table (k+4) false 7 [.d (.int (2:Nat))] []=.ok (.d (.list (due 2))) []:=by kernel_rfl
theorem zuq{k:Nat}:zf P table (k+4) false 7 [.d (.int (3:Nat))] []=.ok (.d (.list (due 3))) []:=by kernel_rfl
theorem zup{k:Nat}:zf P table (k+4) false 7 [.d (.int (4:Nat))] []=.ok (.d (.list (due 4))) []:=by kernel_rfl
noncomputable def p5:List (List Int):=[0,1,2,3,4].foldl (fun f o=>f++f.map (·++[o])) [[]]
noncomputable def ok5(l r:List Int):Bool:=l.length == r.length && l.all (fun i=>!r.contains i) && (match l,r with
 | i::_,j::_=>decide (i < j)
 | _,_=>false)
noncomputable def acc5(a:Nat):List PyData:=(p5.take a).flatMap fun l=>(p5.filter (ok5 l)).map fun r=>wOf l r
noncomputable def st5:Nat->Loc
 | 0=>[some (.d (.int (5:Nat))),some (.d (.list (zb p5))),some (.box 0),none,none]
 | a+1=>[some (.d (.int (5:Nat))),some (.d (.list (zb p5))),some (.box 0),some (.d (caseD ((p5[a]?).getD []))),some (.d (caseD [0,1,2,3,4]))]
noncomputable def zch:CSs:=#[.for_ (.name 4) (.e (.loc 1)) #[.ife (.and_ (.call 5 #[.loc 0,.tup #[.loc 3,.loc 4]]) (.cmp .lt (.idx (.loc 3) (.int 0)) (.idx (.loc 4) (.int 0)))) #[.expr (.meth .append (.loc 2) #[.tup #[.loc 3,.loc 4]])] .nil]]
abbrev Q5(k a:Nat):Prop:=zv (.plain (zb p5)) (z6 (PG (k+3) false) (.name 3) zch) (zb ((p5.drop a).take 4)) (st5 a) [Box.lst (acc5 a)]=.ok .next (st5 (a+4),[Box.lst (acc5 (a+4))])
theorem q5_0{k:Nat}:Q5 k 0:=by kernel_rfl
theorem q5_4{k:Nat}:Q5 k 4:=by kernel_rfl
theorem q5_8{k:Nat}:Q5 k 8:=by kernel_rfl
theorem zub{k:Nat}:Q5 k 12:=by kernel_rfl
theorem zua{k:Nat}:Q5 k 16:=by kernel_rfl
theorem zt9{k:Nat}:Q5 k 20:=by kernel_rfl
theorem zt8{k:Nat}:Q5 k 24:=by kernel_rfl
theorem zt7{k:Nat}:Q5 k 28:=by kernel_rfl
theorem xf{zs:List PyData}{turn:PyData->Loc->za->R (Loc×za) Fl}{ys:List PyData}{ρ':Loc}{O':za}:∀ {xs:List PyData} {ρ:Loc} {O:za},zv (.plain zs) turn xs ρ O=.ok .next (ρ',O')->zv (.plain zs) turn (xs++ys) ρ O=zv (.plain zs) turn ys ρ' O'
 | [],ρ,O,h=>by injection h with fu fw;cases fu;injection fw with fu fw;subst fu fw;rfl
 | x::xs,ρ,O,h=>by
   rw[List.cons_append,vn];rw[vn] at h
   cases ht:turn x ρ O with
   | stuck=>rw[ht] at h;contradiction
   | ok f S=>
     rw[ht] at h
     cases f with
     | ret v=>cases h
     | next=>exact xf (xs:=xs) h
theorem zsn{k:Nat}{B:CSs}{ρ:Loc}{O:za}{i j:Nat}{xs:List PyData}(h:evI (PG k false) ρ (.e (.loc i)) O=.ok (.plain xs) O):evS (PG k false) (.for_ (.name j) (.e (.loc i)) B) ρ O=zv (.plain xs) (z6 (PG k false) (.name j) B) xs ρ O:=by
 rw[jn,ak ao,h];rfl
noncomputable def zqf:CSs:=#[.asg (.name 1) (.call 6 #[.listI (.range (.int 0) (.loc 0))]),.asg (.name 2) (.boxed (.list .nil)),.for_ (.name 3) (.e (.loc 1)) zch,.ret (.prim .sorted #[.loc 2])]
theorem zlz{k:Nat}{xs ys zs:List PyData}{ρ':Loc}(e1:evE (PG (k+3) false) [some (.d (.int (5:Nat))),none,none,none,none] (.call 6 #[.listI (.range (.int 0) (.loc 0))]) []=.ok (.d (.list xs)) [])(h:zv (.plain xs) (z6 (PG (k+3) false) (.name 3) zch) xs [some (.d (.int (5:Nat))),some (.d (.list xs)),some (.box 0),none,none] [Box.lst []]=.ok .next (ρ',[Box.lst ys]))(h2:evE (PG (k+3) false) ρ' (.loc 2) [Box.lst ys]=.ok (.box 0) [Box.lst ys])(er:prim (PG (k+3) false) .sorted [.box 0] [Box.lst ys]=.ok (.d (.list zs)) [Box.lst ys]):zf P table (k+4) false 7 [.d (.int (5:Nat))] []=.ok (.d (.list zs)) []:=by
 have s1:evS (PG (k+3) false) (.asg (.name 1) (.call 6 #[.listI (.range (.int 0) (.loc 0))])) [some (.d (.int (5:Nat))),none,none,none,none] []=.ok .next ([some (.d (.int (5:Nat))),some (.d (.list xs)),none,none,none],[]):=zz e1 rfl rfl;have s2:evS (PG (k+3) false) (.asg (.name 2) (.boxed (.list .nil))) [some (.d (.int (5:Nat))),some (.d (.list xs)),none,none,none] []=.ok .next ([some (.d (.int (5:Nat))),some (.d (.list xs)),some (.box 0),none,none],[Box.lst []]):=zz (v:=.box 0) (O':=[Box.lst []]) rfl rfl rfl;have s3:evS (PG (k+3) false) (.for_ (.name 3) (.e (.loc 1)) zch) [some (.d (.int (5:Nat))),some (.d (.list xs)),some (.box 0),none,none] [Box.lst []]=.ok .next (ρ',[Box.lst ys]):=(zsn rfl).trans h;have s4:evSs (PG (k+3) false) #[.ret (.prim .sorted #[.loc 2])] ρ' [Box.lst ys]=.ok (.ret (.d (.list zs))) (ρ',[Box.lst ys]):=ze (z8 (yj rfl h2 er));have eb:c7.body=zqf:=by kernel_rfl
 have hb:evSs (PG (k+3) false) zqf [some (.d (.int (5:Nat))),none,none,none,none] []=.ok (.ret (.d (.list zs))) (ρ',[Box.lst ys]):=(zc s1).trans ((zc s2).trans ((zc s3).trans s4));exact zbc (fn:=c7) (O':=[Box.lst ys]) rfl ⟨rfl,by decide⟩ rfl (by rw[eb];exact hb)
theorem zuo{k:Nat}:zf P table (k+4) false 7 [.d (.int (5:Nat))] []=.ok (.d (.list (due 5))) []:=by
 have e1:evE (PG (k+3) false) [some (.d (.int (5:Nat))),none,none,none,none] (.call 6 #[.listI (.range (.int 0) (.loc 0))]) []=.ok (.d (.list (zb p5))) []:=by kernel_rfl
 have h:zv (.plain (zb p5)) (z6 (PG (k+3) false) (.name 3) zch) (zb p5) (st5 0) [Box.lst []]=.ok .next (st5 32,[Box.lst (acc5 32)]):=by
  show zv (.plain (zb p5)) (z6 (PG (k+3) false) (.name 3) zch) (zb ((p5.drop 0).take 4)++(zb ((p5.drop 4).take 4)++(zb ((p5.drop 8).take 4)++(zb ((p5.drop 12).take 4)++(zb ((p5.drop 16).take 4)++(zb ((p5.drop 20).take 4)++(zb ((p5.drop 24).take 4)++zb ((p5.drop 28).take 4)))))))) (st5 0) [Box.lst (acc5 0)]=_;rw[xf q5_0,xf q5_4,xf q5_8,xf zub,xf zua,xf zt9,xf zt8,zt7]
 have er:prim (PG (k+3) false) .sorted [.box 0] [Box.lst (acc5 32)]=.ok (.d (.list (due 5))) [Box.lst (acc5 32)]:=by kernel_rfl
 exact zlz e1 h rfl er
theorem zm5{k m:Nat}(hm:m4 m):zf P table (k+4) false 7 [.d (.int m)] []=.ok (.d (.list (due m))) []:=by
 rcases k6 hm with rfl | rfl | rfl | rfl
 ·exact zur
 ·exact zuq
 ·exact zup
 ·exact zuo
theorem zhw(w:Wg):unW (wD w)=w:=Prod.ext (ww w.1) (ww w.2)
theorem zpn{k m:Nat}{a b:List Int}{O:za}(hm:m4 m)(ha:good m a)(hb:good m b):zf P table (k+2) false 13 [.d (.list (due m)),.d (caseD a),.d (caseD b)] O=.ok (.d (.bool (yc (dueI m) a b))) O:=by
 have hl:(due m).length<=line:=by rcases k6 hm with rfl | rfl | rfl | rfl <;> decide
 have hc:=wp (P:=PG (k+1) false) (ρ:=[some (.d (.list (due m))),some (.d (caseD a)),some (.d (caseD b)),none]) (elt:=.cmp .eq (.call 8 #[.loc 3,.loc 1]) (.call 8 #[.loc 3,.loc 2])) (tgt:=.name 3) (it:=.e (.loc 0)) (O:=O) (src:=.plain (due m)) (fun x=>decide (yg (unW x) a=yg (unW x) b)) rfl rfl rfl rfl hl fun x hx=>⟨[some (.d (.list (due m))),some (.d (caseD a)),some (.d (caseD b)),some (.d x)],rfl,by
  refine fC (az.mp hx) fun w hw eO=>?_;subst eO;have hw':w∈wsI m:=bG.mpr ⟨w,hw,.head _⟩;rw[zhw];exact zp (zi rfl (zhe hm hw' a ha)) (zi rfl (zhe hm hw' b hb)) eq_int⟩
 refine zj (fn:=c13) rfl ⟨rfl,by decide⟩ rfl (ze (z8 (hc.trans ?_)));congr 3;show ((dueI m).map fun p=>wOf p.1 p.2).all _=_;unfold yc;rw[List.all_map];congr 1;funext w;show decide (yg (unW (wD w)) a=yg (unW (wD w)) b)=_;rw[zhw]
inductive Pl where
 | no
 | told (c:List Int)
 | weigh (w:Wg) (a b c:Pl)
noncomputable abbrev sT:Str:=Str.ofString "told"
noncomputable abbrev sW:Str:=Str.ofString "weigh"
noncomputable def Pl.toD:Pl->PyData
 | .no=>.none
 | .told c=>.tuple [.str sT,caseD c]
 | .weigh w a b c=>.tuple [.str sW,wD w,.tuple [a.toD,b.toD,c.toD]]
noncomputable def Pl.fits(m:Nat):Pl->Cs->Prop
 | .no,cs=>cs=[]
 | .told c,cs=>cs=[c]
 | .weigh w a b c,cs=>w∈dueI m/\cs≠[]/\a.fits m (zg w (-1) cs)/\b.fits m (zg w 0 cs)/\c.fits m (zg w 1 cs)
noncomputable def Pl.hgt:Pl->Nat
 | .weigh _ a b c=>max a.hgt (max b.hgt c.hgt)+1
 | _=>0
inductive PlR(m n:Nat)(cs:Cs)(y:PyData):Prop
 | mk (p:Pl) (e:y=p.toD) (fit:p.fits m cs) (le:p.hgt<=n)
noncomputable def gw{α:Type}(Q:α->PyData->Prop):List α->List PyData->Prop
 | [],ys=>ys=[]
 | w::ws,ys=>∃ y zs,ys=y::zs/\Q w y/\gw Q ws zs
noncomputable abbrev zcf:PyData:=.tuple [.str (Str.ofString "many")]
noncomputable abbrev y5(ys:List PyData):PyData:=.tuple [.str (Str.ofString "each"),.tuple ys]
noncomputable abbrev rowD(o:Int)(y:PyData):PyData:=.tuple [.int o,y]
noncomputable def Hd(m:Nat):Nat->Cs->PyData->Prop
 | 0,cs,y=>3 ^ 0 < cs.length/\y=zcf
 | n+1,cs,y=>(3 ^ (n+1) < cs.length/\y=zcf)\/∃ ys,y=y5 ys/\gw (fun w y=>∃ o z,y=rowD o z/\o∈outs/\Hd m n (zg w o cs) z) (dueI m) ys
theorem Hd.many{m:Nat}{cs:Cs}:∀ {n:Nat},3 ^ n < cs.length->Hd m n cs zcf
 | 0,h=>⟨h,rfl⟩
 | n+1,h=>.inl ⟨h,rfl⟩
def Row(m n:Nat)(cs:Cs)(w:Wg)(y:PyData):Prop:=∃ o z,y=rowD o z/\o∈outs/\Hd m n (zg w o cs) z
theorem Hd.tup{m:Nat}{cs:Cs}{y:PyData}:∀ {n:Nat},Hd m n cs y->∃ xs,y=.tuple xs
 | 0,h=>⟨_,h.2⟩
 | n+1,h=>by
   refine fx h ?_ ?_
   ·intro h;exact fz _ h.2
   ·rintro ⟨ys,h,_⟩;exact fz _ h
noncomputable def Rs(m n:Nat)(cs:Cs):Bool->PyData->Prop
 | true,y=>PlR m n cs y
 | false,y=>Hd m n cs y
theorem Rs.nl{m n:Nat}{cs:Cs}{b:Bool}{y:PyData}(h:Rs m n cs b y)(l:List PyData):y≠.list l:=by
 cases b with
 | true=>obtain⟨p,rfl,_,_⟩:=h;cases p <;> exact fun h=>nomatch h
 | false=>refine fG (Hd.tup h) fun xs eN=>?_;subst eN;exact fun h=>nomatch h
structure Mild(Bd:List PyData->Prop):Prop where
 one:∀ x,¬ Bd [x]
 nil:¬ Bd []
 more:∀ x y z l,¬ Bd (x::y::z::l)
 str:∀ s y,(∀ l,y≠.list l)->¬ Bd [.str s,y]
 int:∀ i j,¬ Bd [.int i,.int j]
 row:∀ i xs,¬ Bd [.int i,.tuple xs]
 key:∀ xs i,¬ Bd [.tuple xs,.int i]
 pans:∀ (a b:List Int),¬ Bd [.tuple (a.map .int),.tuple (b.map .int)]
 rows:∀ i xs j ys,¬ Bd [rowD i xs,rowD j ys]
set_option tactic.hygienic true in
theorem mildP:Mild badP:=by
 constructor <;> intros <;> rintro (h | ⟨_,_,h⟩) <;> cases h;rename_i h;exact h _ rfl
section
variable{Bd:List PyData->Prop}
theorem kg{x y:PyData}(hx:Shy Bd x)(hy:Shy Bd y)(h:¬ Bd [x,y]):Shy Bd (.tuple [x,y]):=.tuple (fun z hz=>by
 refine fx (ag.mp hz) ?_ ?_
 ·rintro rfl;exact hx
 ·intro hz;rw[ae.mp hz];exact hy) h
variable(M:Mild Bd)
include M
theorem uf{x y z:PyData}(hx:Shy Bd x)(hy:Shy Bd y)(hz:Shy Bd z):Shy Bd (.tuple [x,y,z]):=.tuple (fun u hu=>by
 refine fx (ag.mp hu) ?_ ?_
 ·rintro rfl;exact hx
 ·intro hu;refine fx (ag.mp hu) ?_ ?_
  ·rintro rfl;exact hy
  ·intro hu;rw[ae.mp hu];exact hz) (M.more _ _ _ _)
theorem qe(l:List Int):Shy Bd (.tuple (l.map .int)):=by
 refine .tuple (fun x hx=>?_) ?_
 ·refine fC (az.mp hx) fun i fy eO=>?_;subst eO;exact .int i
 ·match l with
  | []=>exact M.nil
  | [_]=>exact M.one _
  | [i,j]=>exact M.int i j
  | _::_::_::_=>exact M.more _ _ _ _
theorem ja(cs:Cs):Shy Bd (.list (zb cs)):=.list fun x hx=>by
 refine fC (az.mp hx) fun c fy eO=>?_;subst eO;exact qe M c
theorem zk6(w:Wg):Shy Bd (wD w):=kg (qe M w.1) (qe M w.2) (M.pans _ _)
theorem zoi(m:Nat):Shy Bd (.list (due m)):=.list fun x hx=>by
 refine fC (az.mp hx) fun w fy eO=>?_;subst eO;exact zk6 M w
theorem qd:∀ p:Pl,Shy Bd p.toD
 | .no=>.none
 | .told c=>kg (.str _) (qe M c) (M.str _ _ fun uA h=>nomatch h)
 | .weigh w a b c=>uf M (.str _) (zk6 M w) (uf M (qd a) (qd b) (qd c))
theorem zei{m n:Nat}{cs:Cs}(ih:∀ {cs:Cs} {y:PyData},Hd m n cs y->Shy Bd y):∀ {ws:List Wg} {ys:List PyData},gw (Row m n cs) ws ys->(∀ y∈ys,Shy Bd y)/\¬ Bd ys
 | [],ys,h=>by subst h;exact⟨fun uA h=>(nomatch h),M.nil⟩
 | w::ws,ys,h=>by
   refine fL h ?_;clear h;intro y zs eO hr h;subst eO;refine fL hr ?_;clear hr;intro o z eO _ hz;subst eO;obtain⟨xs,rfl⟩:=hz.tup;refine⟨fun x hx=>?_,?_⟩
   ·refine fx (ag.mp hx) ?_ ?_
    ·rintro rfl;exact kg (.int o) (ih hz) (M.row _ _)
    ·intro hx;exact (zei ih h).1 x hx
   ·match ws,zs,h with
    | [],zs,h=>have h:zs=[]:=h;subst h;exact M.one _
    | _::_,zs,h=>
      refine fL h ?_;clear h;intro _ zs' eO hr _;subst eO;refine fL hr ?_;clear hr;intro o' z' eO _ hz';subst eO
      cases zs' with
      | nil=>exact M.rows _ _ _ _
      | cons _ _=>exact M.more _ _ _ _
theorem dz{m:Nat}:∀ {n:Nat} {cs:Cs} {y:PyData},Hd m n cs y->Shy Bd y
 | 0,cs,y,h=>by rw[h.2];exact .tuple (fun x hx=>by rw[ae.mp hx];exact .str _) (M.one _)
 | n+1,cs,y,h=>by
   refine fx h ?_ ?_<;>clear h
   ·intro h;rw[h.2];exact .tuple (fun x hx=>by rw[ae.mp hx];exact .str _) (M.one _)
   ·rintro ⟨ys,rfl,h⟩;refine fH (zei M (fun h=>dz h) h) fun h1 h2=>?_;exact kg (.str _) (.tuple h1 h2) (M.str _ _ fun uA h=>nomatch h)
theorem Rs.shy{m n:Nat}{cs:Cs}{b:Bool}{y:PyData}(h:Rs m n cs b y):Shy Bd y:=by
 cases b with
 | true=>obtain⟨p,rfl,_,_⟩:=h;exact qd M p
 | false=>exact dz M h
end
noncomputable def word(b:Bool):PyData:=.str (if b then Str.ofString "plan" else Str.ofString "hold")
noncomputable def resD(b:Bool)(y:PyData):PyData:=.tuple [word b,y]
theorem zlg(b:Bool)(O:za):cmpV .eq (.d (word b)) (.d (.str (Str.ofString "hold"))) O=.ok (.d (.bool !b)) O:=by cases b <;> kernel_rfl
theorem zrs(b:Bool)(O:za):cmpV .eq (.d (word b)) (.d (.str (Str.ofString "plan"))) O=.ok (.d (.bool b)) O:=by cases b <;> kernel_rfl
theorem zeh(b:Bool):Shy badP (word b):=.str _
theorem zoh(q:MKey):Shy badP (wo q):=kg (.tuple (fun x hx=>by
 refine fC (az.mp hx) fun c fy eO=>?_;subst eO;exact qe mildP c) fun h=>by
 refine fx h ?_ ?_
 ·intro h;rcases q with ⟨q,_⟩
  cases q with
  | nil=>contradiction
  | cons _ _=>injection h with h _;contradiction
 ·rintro ⟨a,l,h⟩;rcases q with ⟨q,_⟩
  cases q with
  | nil=>contradiction
  | cons _ q=>cases q with
    | nil=>injection h with _ h;contradiction
    | cons _ _=>injection h with _ h;injection h with h _;contradiction) (.int _) (mildP.key _ _)
noncomputable def allK:Cs->List MKey
 | []=>(List.range 12).map fun n:Nat=>([],(n:Int))
 | c::l=>allK l++(allK l).map fun q=>(c::q.1,q.2)
theorem zf0:∀ C:Cs,(allK C).length=12 * 2 ^ C.length
 | []=>rfl
 | c::l=>by
   show (allK l++(allK l).map _).length=_;rw[ba,aL,zf0 l,aR,Nat.pow_succ];lia
theorem znv{s C:Cs}{n:Nat}(h:s.Sublist C)(hn:n<=11):(s,(n:Int))∈allK C:=by
 induction h with
 | slnil=>exact az.mpr ⟨n,aZ.mpr (cS hn),rfl⟩
 | cons c _ ih=>exact aC _ ih
 | cons_cons c _ ih=>exact aq _ (az.mpr ⟨_,ih,rfl⟩)
theorem nodup_le{α:Type}[DecidableEq α]:∀ {l L:List α},l.Nodup->(∀ a∈l,a∈L)->l.length<=L.length
 | [],L,_,_=>be _
 | a::l,L,hn,hs=>by
   have ha:=hs a (.head _);have ih:=nodup_le (L:=L.erase a) (bw.mp hn).2 fun b hb=>(List.mem_erase_of_ne (fun e:b=a=>(bw.mp hn).1 (e ▸ hb))).mpr (hs b (.tail _ hb));rw[List.length_erase_of_mem ha] at ih;have:=List.length_pos_of_mem ha;rw[aR];lia
structure InC(m:Nat)(C cs:Cs):Prop extends Ok12 m cs where
 sub:cs.Sublist C
theorem InC.part{m:Nat}{C cs:Cs}(h:InC m C cs)(w:Wg)(o:Int):InC m C (zg w o cs):=⟨h.toOk12.part w o,bW.trans h.sub⟩
structure Mem(m:Nat)(C:Cs)(kvs:List (MKey×PyData)):Prop where
 ok:∀ kv∈kvs,∃ n:Nat,kv.1.2=n/\∃ y,kv.2=resD (solv (dueI m) n kv.1.1) y/\Rs m n kv.1.1 (solv (dueI m) n kv.1.1) y
 keys:∀ kv∈kvs,kv.1∈allK C
 nodup:(kvs.map (·.1)).Nodup
 small:C.length<=12
theorem Mem.len{m:Nat}{C:Cs}{kvs:List (MKey×PyData)}(h:Mem m C kvs):kvs.length<=line:=by
 have:=nodup_le h.nodup fun q hq=>by refine fC (az.mp hq) fun kv hkv eO=>?_;subst eO;exact h.keys kv hkv
 rw[aL,zf0] at this;have hp:2 ^ C.length<=2 ^ 12:=Nat.pow_le_pow_right (by decide) h.small;exact ai this (ai (Nat.mul_le_mul_left 12 hp) (by decide))
theorem Mem.find{m n:Nat}{C cs:Cs}{kvs:List (MKey×PyData)}{x:PyData}(h:Mem m C kvs)(e:z5 kvs (cs,(n:Int))=some x):∃ y,x=resD (solv (dueI m) n cs) y/\Rs m n cs (solv (dueI m) n cs) y:=by
 refine fC (aD.mp e) fun kv h1 eO=>?_;subst eO;have h2:kv.1=(cs,(n:Int)):=bp (List.find?_some (p:=fun kv:MKey×PyData=>decide (kv.1=(cs,(n:Int)))) h1);refine fC (h.ok kv (List.mem_of_find?_eq_some h1)) fun n' e1 eO=>?_;refine fC eO fun y e2 hy=>?_;rw[h2] at e1 e2 hy;have:n'=n:=(Int.ofNat.inj e1).symm;subst this;exact fD y e2 hy
theorem Mem.add{m n:Nat}{C cs:Cs}{kvs:List (MKey×PyData)}{y:PyData}(h:Mem m C kvs)(hy:Rs m n cs (solv (dueI m) n cs) y)(hc:cs.Sublist C)(hn:n<=11)(hd:z5 kvs (cs,(n:Int))=none):Mem m C (kvs++[((cs,(n:Int)),resD (solv (dueI m) n cs) y)]):=⟨fun kv hkv=>by
 refine fx (aj.mp hkv) ?_ ?_
 ·intro hkv;exact h.ok kv hkv
 ·intro hkv;rw[ae.mp hkv];exact⟨n,rfl,y,rfl,hy⟩,fun kv hkv=>by
 refine fx (aj.mp hkv) ?_ ?_
 ·intro hkv;exact h.keys kv hkv
 ·intro hkv;rw[ae.mp hkv];exact znv hc hn,by
 rw[eL];refine bT.mpr ⟨h.nodup,List.pairwise_singleton _ _,fun a ha b hb e=>?_⟩;refine fC (az.mp ha) fun kv hkv eO=>?_;subst eO;rw[ae.mp hb] at e;have:=List.find?_eq_none.mp (Option.map_eq_none_iff.mp hd) kv hkv;exact this (aA e),h.small⟩
theorem zj6{kvs:List (MKey×PyData)}{q:MKey}{x:PyData}(h:z5 kvs q=none):z5 (kvs++[(q,x)]) q=some x:=by
 unfold z5 at h ⊢
 rw[Option.map_eq_none_iff] at h;rw[List.find?_append,h,Option.none_or];rw[List.find?_cons,aA rfl];rfl
theorem zfh{kvs:List (MKey×PyData)}{q q':MKey}{x:PyData}(h:q≠q'):z5 (kvs++[(q,x)]) q'=z5 kvs q':=by
 unfold z5;rw[List.find?_append];have:List.find? (fun kv:MKey×PyData=>decide (kv.1=q')) [(q,x)]=none:=by rw[List.find?_cons,aF h];rfl
 rw[this,Option.or_none]
structure Ok(m:Nat)(C:Cs)(d:Nat)(O:za)(kvs:List (MKey×PyData)):Prop where
 at_:O[d]?=some (.dct kvs)
 mem:Mem m C kvs
 shy:∀ b∈O,ShyB badP b
theorem set_same{O:za}{d:Nat}{b:Box}(h:O[d]?=some b):O.set d b=O:=by
 obtain⟨hlt,e⟩:=aE.mp h;rw[<- e];exact List.set_getElem_self hlt
section
variable{m d n:Nat}{C:Cs}{O:za}{kvs kvs':List (MKey×PyData)}
theorem Ok.lt(h:Ok m C d O kvs):d < O.length:=(aE.mp h.at_).1
theorem Ok.push{b:Box}(h:Ok m C d O kvs)(hb:ShyB badP b):Ok m C d (O++[b]) kvs:=⟨by rw[aJ h.lt];exact h.at_,h.mem,fun x hx=>by
 refine fx (aj.mp hx) ?_ ?_
 ·intro hx;exact h.shy x hx
 ·intro hx;rw[ae.mp hx];exact hb⟩
theorem Ok.set_push{b x:Box}(h:Ok m C d O kvs):(O++[b]).set d x=O.set d x++[b]:=List.set_append_left _ _ h.lt
theorem Mem.shy(h:Mem m C kvs):ShyB badP (.dct kvs):=fun kv hkv=>by
 refine fC (h.ok kv hkv) fun fy fy eO=>?_;refine fC eO fun y e hy=>?_;rw[e];exact⟨zoh _,kg (zeh _) (hy.shy mildP) (mildP.str _ _ hy.nl)⟩
theorem Ok.set(h:Ok m C d O kvs)(hm:Mem m C kvs'):Ok m C d (O.set d (.dct kvs')) kvs':=⟨bY h.lt,hm,fun x hx=>by
 refine fx (List.mem_or_eq_of_mem_set hx) ?_ ?_
 ·intro hx;exact h.shy x hx
 ·rintro rfl;exact hm.shy⟩
inductive Gives(m:Nat)(C:Cs)(n d:Nat)(O:za)(kvs:List (MKey×PyData))(b:Bool)(Q:PyData->Prop)(r:R za V):Prop
 | mk (y:PyData) (kvs':List (MKey×PyData)) (e:r=.ok (.d (resD b y)) (O.set d (.dct kvs'))) (ny:Q y) (mem:Mem m C kvs') (old:∀ q:MKey,(n:Int) < q.2->z5 kvs' q=z5 kvs q)
end
theorem qw{k:Nat}{f:Nat}{fn:Fn}{args:List V}{O O1 O':za}{ρ ρ':Loc}{x:PyData}(h:table f=some fn)(hl:args.length=fn.arity/\fn.arity<=fn.slots)(hρ:args.map some++List.replicate (fn.slots - fn.arity) none=ρ)
 (hn:O1.length=O.length) (hb:evSs (PG k false) fn.body ρ O=.ok (.ret (.d x)) (ρ',O1++O')):zf P table (k+1) false f args O=.ok (.d x) O1:=by
 rw[ke h hl,evFn,hρ,hb];show R.ok (V.d x) ((O1++O').take O.length)=_;rw[<- hn,List.take_left'];rfl
theorem dn{P:Pg}{ρ ρ':Loc}{O O':za}{e:CE}{t:CT}{v:V}(hd:P.hd=false)(h:evE P ρ e O=.ok v O')(hb:zu t v ρ=some ρ'):evS P (.asg t e) ρ O=.ok .next (ρ',O'):=by
 rw[wq,ak (by rw[hd,Bool.false_and];decide),h];show asgR t v (ρ,O')=_;unfold asgR;rw[show (ρ,O').1=ρ from rfl,hb]
def LookS(m:Nat)(C:Cs)(n lev:Nat):Prop:=∀ (k:Nat) (cs:Cs) (O:za) (d:Nat) (kvs:List (MKey×PyData)),InC m C cs->cs≠[]->Ok m C d O kvs ->
 Gives m C n d O kvs (solv (dueI m) n cs) (Rs m n cs (solv (dueI m) n cs)) (zf P table (k+lev) false 17 [.d (.list (due m)),.d (.list (zb cs)),.d (.int (n:Int)),.box d] O)
def ShyO(a:Option V):Prop:=∀ v,a=some v->ShyV badP v
theorem va:ShyO none:=fun uA h=>nomatch h
theorem uh{x:PyData}(h:Shy badP x):ShyO (some (.d x)):=fun v e=>by injection e with fu;subst fu;exact h
noncomputable abbrev RT(m n:Nat)(w:Wg)(cs:Cs)(d L:Nat)(a b c e:Option V):Loc:=[some (.d (.list (due m))),some (.d (wD w)),some (.d (.list (zb cs))),some (.d (.int ((n+1:Nat):Int))),some (.box d),some (.box L),a,b,c,e]
noncomputable def tryB:CSs:=#[.ife (.cmp .eq (.loc 7) (.list .nil)) #[.expr (.meth .append (.loc 5) #[.none])] #[.asg (.two (.name 8) (.name 9)) (.call 17 #[.loc 0,.loc 7,.bin .sub (.loc 3) (.int 1),.loc 4]),.ife (.cmp .eq (.loc 8) (.str (Str.ofString "hold"))) #[.ret (.tup #[.str (Str.ofString "hold"),.tup #[.loc 6,.loc 9]])] .nil,.expr (.meth .append (.loc 5) #[.loc 9])]]
noncomputable def okP(m n:Nat)(w:Wg)(cs:Cs)(o:Int):Bool:=(zg w o cs).isEmpty || solv (dueI m) n (zg w o cs)
section
variable{m n lev k d:Nat}{w:Wg}{C cs:Cs}{O:za}{kvs:List (MKey×PyData)}
theorem zk7{Bd:List PyData->Prop}(h:∀ b∈O,ShyB Bd b):ShyS Bd [] O:=⟨fun uA h=>(nomatch h),h⟩
theorem ug{Bd:List PyData->Prop}{ρ:Loc}{a:Option V}(h:∀ v,a=some v->ShyV Bd v)(hr:ShyS Bd ρ O):ShyS Bd (a::ρ) O:=⟨fun v hv=>(ag.mp hv).elim (fun e=>h v e.symm) (hr.loc v),hr.box⟩
theorem zc8{Bd:List PyData->Prop}{ρ:Loc}{x:PyData}(h:Shy Bd x)(hr:ShyS Bd ρ O):ShyS Bd (some (.d x)::ρ) O:=ug (fun v e=>by injection e with fu;subst fu;exact h) hr
theorem zk8{Bd:List PyData->Prop}{ρ:Loc}{i:Nat}(hr:ShyS Bd ρ O):ShyS Bd (some (.box i)::ρ) O:=ug (fun v e=>by injection e with fu;subst fu;trivial) hr
theorem zt0{L:Nat}{a b c e:Option V}(ha:ShyO a)(hb:ShyO b)(hc:ShyO c)(he:ShyO e)(hO:∀ b∈O,ShyB badP b):ShyS badP (RT m n w cs d L a b c e) O:=
 zc8 (zoi mildP m) (zc8 (zk6 mildP w) (zc8 (ja mildP cs) (zc8 (.int _) (zk8 (zk8 (ug ha (ug hb (ug hc (ug he (zk7 hO))))))))))
inductive zvx(m:Nat)(C:Cs)(n:Nat)(w:Wg)(cs:Cs)(d:Nat)(O:za)(kvs:List (MKey×PyData))(xs:List PyData)(o:Int)(r:R (Loc×za) Fl):Prop
 | next (kvs':List (MKey×PyData)) (mem:Mem m C kvs') (old:∀ q:MKey,(n:Int) < q.2->z5 kvs' q=z5 kvs q) (hb:okP m n w cs o=true) (x:PyData) (hx:PlR m n (zg w o cs) x) (a b c e:Option V) (ha:ShyO a) (hbb:ShyO b) (hc:ShyO c) (he:ShyO e)
    (h:r=.ok .next (RT m n w cs d O.length a b c e,O.set d (.dct kvs')++[Box.lst (xs++[x])]))
 | ret (kvs':List (MKey×PyData)) (mem:Mem m C kvs') (old:∀ q:MKey,(n:Int) < q.2->z5 kvs' q=z5 kvs q) (hb:okP m n w cs o=false) (y:PyData) (hy:Row m n cs w y) (ρ':Loc)
    (h:r=.ok (.ret (.d (resD false y))) (ρ',O.set d (.dct kvs')++[Box.lst xs]))
theorem ztx(L1:LookS m C n lev){o:Int}{xs:List PyData}{a b c e:Option V}(ho:o∈outs)(h:InC m C cs)(ok:Ok m C d O kvs)(hxs:∀ x∈xs,Shy badP x)(hl:xs.length < line)(ha:ShyO a)(hb:ShyO b)(hc:ShyO c)(he:ShyO e) :
 zvx m C n w cs d O kvs xs o (xw badP (.two (.name 6) (.name 7)) (fun ρ O=>evSs (PG (k+lev) false) tryB ρ O) (.tuple [.int o,.list (zb (zg w o cs))]) (RT m n w cs d O.length a b c e) (O++[Box.lst xs])):=by
 have ok1:Ok m C d (O++[Box.lst xs]) kvs:=ok.push hxs;have hp:=h.part w o;have e0:xw badP (.two (.name 6) (.name 7)) (fun ρ O=>evSs (PG (k+lev) false) tryB ρ O) (.tuple [.int o,.list (zb (zg w o cs))]) (RT m n w cs d O.length a b c e) (O++[Box.lst xs])=evSs (PG (k+lev) false) tryB (RT m n w cs d O.length (some (.d (.int o))) (some (.d (.list (zb (zg w o cs))))) c e) (O++[Box.lst xs]):=by
  unfold xw;rw[af (zt0 ha hb hc he ok1.shy)];rfl
 rw[e0];have et:evE (PG (k+lev) false) (RT m n w cs d O.length (some (.d (.int o))) (some (.d (.list (zb (zg w o cs))))) c e) (.cmp .eq (.loc 7) (.list .nil)) (O++[Box.lst xs])=.ok (.d (.bool (zg w o cs).isEmpty)) (O++[Box.lst xs]):=by
  refine zp rfl rfl ((de (xd _)).trans ?_);congr 3;unfold zb;rw[List.isEmpty_map]
 cases hem:(zg w o cs).isEmpty with
 | true=>
   rw[hem] at et;refine .next kvs ok.mem (fun uA uA=>rfl) (by unfold okP;rw[hem];rfl) .none ⟨.no,rfl,cC.mp hem,be _⟩ _ _ c e (uh (.int o)) (uh (ja mildP (zg w o cs))) hc he ?_;rw[set_same ok.at_];exact (zc ((w_if et).trans ((af rfl).trans ((zc (kf (uc rfl recN (zh rfl rfl) (appN hl)))).trans rfl)))).trans rfl
 | false=>
   rw[hem] at et;have hne:zg w o cs≠[]:=fun e=>by rw[e] at hem;contradiction
   obtain⟨y,kvs',e1,ny,mem,old⟩:=L1 k (zg w o cs) _ d kvs hp hne ok1;have hnum:((n+1:Nat):Int) - 1=(n:Int):=by lia
   have es:evS (PG (k+lev) false) (.asg (.two (.name 8) (.name 9)) (.call 17 #[.loc 0,.loc 7,.bin .sub (.loc 3) (.int 1),.loc 4])) (RT m n w cs d O.length (some (.d (.int o))) (some (.d (.list (zb (zg w o cs))))) c e) (O++[Box.lst xs]) =
    .ok .next (RT m n w cs d O.length (some (.d (.int o))) (some (.d (.list (zb (zg w o cs))))) (some (.d (word (solv (dueI m) n (zg w o cs))))) (some (.d y)),O.set d (.dct kvs')++[Box.lst xs]):=by
    refine dn rfl (zi (zh rfl (zh rfl (zh (yd rfl rfl v8) (zh rfl rfl)))) ?_) (v:=.d (resD (solv (dueI m) n (zg w o cs)) y)) rfl;rw[hnum,<- ok.set_push];exact e1
   have eq:=zlg (solv (dueI m) n (zg w o cs)) (O.set d (.dct kvs')++[Box.lst xs]);have hlen:(O.set d (.dct kvs')).length=O.length:=bg
   cases hb':solv (dueI m) n (zg w o cs) with
   | true=>
     rw[hb'] at eq es ny;refine .next kvs' mem old (by unfold okP;rw[hb',Bool.or_true]) y ny _ _ _ _ (uh (.int o)) (uh (ja mildP (zg w o cs))) (uh (zeh true)) (uh (Rs.shy mildP ny)) ?_;have er:recv .append (.box O.length) (O.set d (.dct kvs')++[Box.lst xs])=true:=by rw[<- hlen];exact recN
     have ea:meth .append (.box O.length) [.d y] (O.set d (.dct kvs')++[Box.lst xs])=.ok (.d .none) (O.set d (.dct kvs')++[Box.lst (xs++[y])]):=by rw[<- hlen];exact appN hl
     exact (zc ((w_if et).trans ((ak ao).trans ((zc es).trans ((zc (zx (zp rfl rfl eq))).trans ((zc (kf (uc rfl er (zh rfl rfl) ea))).trans rfl)))))).trans rfl
   | false=>
     rw[hb'] at eq es ny;refine .ret kvs' mem old (by unfold okP;rw[hb',hem];rfl) (.tuple [.int o,y]) ⟨o,y,rfl,ho,ny⟩ (RT m n w cs d O.length (some (.d (.int o))) (some (.d (.list (zb (zg w o cs))))) (some (.d (word false))) (some (.d y))) ?_;exact ze ((w_if et).trans ((ak ao).trans ((zc es).trans (ze ((w_if (zp rfl rfl eq)).trans ((af rfl).trans (ze (z8 rfl))))))))
inductive TryR(m:Nat)(C:Cs)(n:Nat)(w:Wg)(cs:Cs)(d:Nat)(O:za)(kvs:List (MKey×PyData))(xs:List PyData)(os:List Int)(r:R (Loc×za) Fl):Prop
 | next (kvs':List (MKey×PyData)) (mem:Mem m C kvs') (old:∀ q:MKey,(n:Int) < q.2->z5 kvs' q=z5 kvs q) (hb:os.all (okP m n w cs)=true) (ys:List PyData) (hy:gw (fun o=>PlR m n (zg w o cs)) os ys) (a b c e:Option V)
    (h:r=.ok .next (RT m n w cs d O.length a b c e,O.set d (.dct kvs')++[Box.lst (xs++ys)]))
 | ret (kvs':List (MKey×PyData)) (mem:Mem m C kvs') (old:∀ q:MKey,(n:Int) < q.2->z5 kvs' q=z5 kvs q) (hb:os.all (okP m n w cs)=false) (y:PyData) (hy:Row m n cs w y) (ρ':Loc) (xs':List PyData)
    (h:r=.ok (.ret (.d (resD false y))) (ρ',O.set d (.dct kvs')++[Box.lst xs']))
theorem vm{ys:List PyData}{turn:PyData->Loc->za->R (Loc×za) Fl}{x:PyData}{xs:List PyData}{ρ:Loc}{O:za}{v:V}{S:Loc×za}(h:turn x ρ O=.ok (.ret v) S):zv (.plain ys) turn (x::xs) ρ O=.ok (.ret v) S:=by
 rw[vn,h]
theorem zqg(L1:LookS m C n lev)(h:InC m C cs){zs:List PyData}:∀ (os:List Int) (O:za) (kvs:List (MKey×PyData)) (xs:List PyData) (a b c e:Option V),(∀ o∈os,o∈outs)->Ok m C d O kvs->(∀ x∈xs,Shy badP x)->xs.length+os.length < line->ShyO a->ShyO b->ShyO c->ShyO e ->
 TryR m C n w cs d O kvs xs os (zv (.plain zs) (xw badP (.two (.name 6) (.name 7)) (fun ρ O=>evSs (PG (k+lev) false) tryB ρ O)) (os.map fun o=>.tuple [.int o,.list (zb (zg w o cs))]) (RT m n w cs d O.length a b c e) (O++[Box.lst xs]))
 | [],O,kvs,xs,a,b,c,e,_,ok,_,_,_,_,_,_=>.next kvs ok.mem (fun uA uA=>rfl) rfl [] rfl a b c e (by rw[bc,set_same ok.at_];rfl)
 | o::os,O,kvs,xs,a,b,c,e,ho,ok,hxs,hl,ha,hb,hc,he=>by
   rw[aR] at hl;rcases ztx (k:=k) (w:=w) (o:=o) L1 (ho o (.head _)) h ok hxs (by lia) ha hb hc he with ⟨kvs1,mem1,old1,hb1,x,hx,a',b',c',e',ha',hb',hc',he',h₁⟩ | ⟨kvs1,mem1,old1,hb1,y,hy,ρ',h₁⟩
   ·have ok1A:=ok.set mem1;have hlen:(O.set d (.dct kvs1)).length=O.length:=bg;have ih:=zqg (zs:=zs) L1 h os (O.set d (.dct kvs1)) kvs1 (xs++[x]) a' b' c' e' (fun z hz=>ho z (.tail _ hz)) ok1A (fun z hz=>by
     refine fx (aj.mp hz) ?_ ?_
     ·intro hz;exact hxs z hz
     ·intro hz;rw[ae.mp hz];obtain⟨p,e,_,_⟩:=hx;rw[e];exact qd mildP p) (by rw[ba,eo];lia) ha' hb' hc' he'
    rw[hlen] at ih;rw[a6,yx h₁];rcases ih with ⟨kvs',mem,old,hb2,ys,hy,a2A,b2A,c2A,e2A,h2A⟩ | ⟨kvs',mem,old,hb2,y,hy,ρ',xs',h2A⟩
    ·refine .next kvs' mem (fun q hq=>(old q hq).trans (old1 q hq)) (by rw[eH,hb1,hb2];rfl) (x::ys) ⟨x,ys,rfl,hx,hy⟩ a2A b2A c2A e2A ?_;rw[h2A,hlen,List.set_set,bj];rfl
    ·refine .ret kvs' mem (fun q hq=>(old q hq).trans (old1 q hq)) (by rw[eH,hb1,hb2];rfl) y hy ρ' xs' ?_;rw[h2A,List.set_set]
   ·refine .ret kvs1 mem1 old1 (by rw[eH,hb1];rfl) y hy ρ' xs ?_;rw[a6,vm h₁]
theorem zqv{Bd:List PyData->Prop}{q1 q2:SqK}{P:Pg}{ρ:Loc}{O O1 O2:za}{t:CT}{a b:CE}{c:CSs}{xs ys:List PyData}(hd:P.hd=false)(h1:evE P ρ a O=.ok (.d (q1.mk xs)) O1)(h2:evE P ρ b O1=.ok (.d (q2.mk ys)) O2)(ok:ZOk Bd q1 q2 xs ys):evS P (.forG Bd q1 q2 t a b c) ρ O=zv (.plain (zipT xs ys)) (xw Bd t fun ρ O=>evSs P c ρ O) (zipT xs ys) ρ O2:=by
 show (if P.hd=true then .stuck else (((evE P ρ a O).bind fun v O=>(evE P ρ b O).bind fun u O=>.ok (v,u) O).lift ρ).bind (zij Bd q1 q2 t fun ρ O=>evSs P c ρ O))=_;rw[ak (by rw[hd];exact ao),h1,zw,h2];show zmq Bd q1 q2 t (fun ρ O=>evSs P c ρ O) (sqOf q1 (q1.mk xs)) (sqOf q2 (q2.mk ys)) (ρ,O2)=_;have e1:∀ {q:SqK} {xs:List PyData},sqOf q (q.mk xs)=some xs:=fun {q xs}=>by cases q <;> rfl
 rw[e1,e1];exact af ok
theorem zdr{P:Pg}{ρ:Loc}{a b:CE}{x y:PyData}{O O' O'':za}(h1:evE P ρ a O=.ok (.d x) O')(h2:evE P ρ b O'=.ok (.d y) O''):evE P ρ (.tup #[a,b]) O=.ok (.d (.tuple [x,y])) O'':=by
 rw[zp6,zh h1 (zh h2 rfl)];rfl
theorem zst{P:Pg}{ρ:Loc}{a b c:CE}{x y z:PyData}{O O' O'' O3:za}(h1:evE P ρ a O=.ok (.d x) O')(h2:evE P ρ b O'=.ok (.d y) O'')(h3:evE P ρ c O''=.ok (.d z) O3):evE P ρ (.tup #[a,b,c]) O=.ok (.d (.tuple [x,y,z])) O3:=by
 rw[zp6,zh h1 (zh h2 (zh h3 rfl))];rfl
theorem zkv{k:Nat}{O:za}{xs:List PyData}(hl:xs.length<=line):prim (PG k false) .tuple [.box O.length] (O++[Box.lst xs])=.ok (.d (.tuple xs)) (O++[Box.lst xs]):=by
 refine ul (x:=.list xs) ?_ (af hl);show v7 (O++[Box.lst xs]) O.length=_;unfold v7;rw[aI (aH _),cH];rfl
theorem zjh{Bd:List PyData->Prop}(M:Mild Bd){w:Wg}{cs:Cs}:Shy Bd (.list (zai w cs)):=.list fun x hx=>by
 refine fx (ag.mp hx) ?_ ?_;rotate_left;intro hx;rotate_right;rintro rfl
 ·exact ja M _
 refine fx (ag.mp hx) ?_ ?_
 ·rintro rfl;exact ja M _
 ·intro hx;rw[ae.mp hx];exact ja M _
theorem zjg{w:Wg}{cs:Cs}{i:Nat}{x:PyData}(h:(zai w cs)[i]?=some x):∃ cs,x=.list (zb cs):=by
 have hx:=ay h;refine fx (ag.mp hx) ?_ ?_;rotate_left;intro hx;rotate_right;rintro rfl
 ·exact fz _ rfl
 refine fx (ag.mp hx) ?_ ?_
 ·rintro rfl;exact fz _ rfl
 ·intro hx;exact fz _ (ae.mp hx)
noncomputable def TQ(m n:Nat)(w:Wg)(cs:Cs):Bool->PyData->Prop
 | true,y=>PlR m (n+1) cs y
 | false,y=>Row m n cs w y
theorem zpf(L1:LookS m C n lev)(hm:m4 m)(hw:w∈dueI m)(h:InC m C cs)(hne:cs≠[])(hlev:2<=lev)(ok:Ok m C d O kvs) :
 Gives m C n d O kvs (outs.all (okP m n w cs)) (TQ m n w cs (outs.all (okP m n w cs))) (zf P table (k+lev+1) false 15 [.d (.list (due m)),.d (wD w),.d (.list (zb cs)),.d (.int ((n+1:Nat):Int)),.box d] O):=by
 refine fG (Nat.exists_eq_add_of_le' hlev) fun l' eN=>?_;subst eN;have hw':w∈wsI m:=bG.mpr ⟨w,hw,.head _⟩;have hz:ZOk badP .tup .lst [.int (-1),.int 0,.int 1] (zai w cs):=⟨rfl,uf mildP (.int (-1)) (.int 0) (.int 1),zjh mildP,.inl rfl,fun i x y uA hy=>by
  refine fG (zjg hy) fun c eN=>?_;subst eN;exact .inr ⟨_,_,rfl⟩⟩
 have lp:=zqg (k:=k) (d:=d) (w:=w) (zs:=outs.map fun o=>.tuple [.int o,.list (zb (zg w o cs))]) L1 h outs O kvs [] none none none none (fun uA h=>h) ok (fun uA h=>nomatch h) (by show 3 < 1000000;decide) va va va va;have ef:evS (PG (k+(l' + 2)) false) (.forG badP .tup .lst (.two (.name 6) (.name 7)) (.glob 3) (.call 9 #[.loc 1,.loc 2]) tryB) (RT m n w cs d O.length none none none none) (O++[Box.lst []])=zv (.plain (outs.map fun o=>.tuple [.int o,.list (zb (zg w o cs))])) (xw badP (.two (.name 6) (.name 7)) (fun ρ O=>evSs (PG (k+(l' + 2)) false) tryB ρ O)) (outs.map fun o=>.tuple [.int o,.list (zb (zg w o cs))]) (RT m n w cs d O.length none none none none) (O++[Box.lst []]):=
  zqv (q1:=.tup) (q2:=.lst) rfl rfl (zi rfl (zm1 (k:=k+l') hm hw' h.toOk12)) hz
 have hlen:∀ kvs',(O.set d (.dct kvs')).length=O.length:=fun uA=>bg;rcases lp with ⟨kvs',mem,old,hb,ys,hy,a,b,c,e,h₁⟩ | ⟨kvs',mem,old,hb,y,hy,ρ',xs',h₁⟩
 ·rw[hb];refine fL hy ?_;clear hy;intro y1 ys eO eP hy;subst eO;obtain ⟨p1,rfl,f1,l1⟩:=eP;refine fL hy ?_;clear hy;intro y2 ys eO eP hy;subst eO;obtain ⟨p2,rfl,f2,l2⟩:=eP;refine fL hy ?_;clear hy;intro y3 ys eO eP hy;subst eO;obtain ⟨p3,rfl,f3,l3⟩:=eP;have hy:ys=[]:=hy;subst hy;refine⟨(Pl.weigh w p1 p2 p3).toD,kvs',?_,⟨.weigh w p1 p2 p3,rfl,⟨hw,hne,f1,f2,f3⟩,bM (eB.mpr ⟨l1,eB.mpr ⟨l2,l3⟩⟩)⟩,mem,old⟩;refine qw (fn:=c15) (O':=[Box.lst ([]++[p1.toD,p2.toD,p3.toD])]) rfl ⟨rfl,by decide⟩ rfl (hlen kvs') ((zc (zz (v:=.box O.length) (O':=O++[Box.lst []]) rfl rfl rfl)).trans ((zc (ef.trans h₁)).trans (ze (z8 ?_))));have et:evE (PG (k+(l' + 2)) false) (RT m n w cs d O.length a b c e) (.prim .tuple #[.loc 5]) (O.set d (.dct kvs')++[Box.lst ([]++[p1.toD,p2.toD,p3.toD])])=.ok (.d (.tuple [p1.toD,p2.toD,p3.toD])) (O.set d (.dct kvs')++[Box.lst ([]++[p1.toD,p2.toD,p3.toD])]):=yj rfl rfl (by rw[<- hlen kvs'];exact zkv (by show 3<=1000000;decide));exact zdr rfl (zst rfl rfl et)
 ·rw[hb];exact⟨y,kvs',qw (fn:=c15) rfl ⟨rfl,by decide⟩ rfl (hlen kvs') ((zc (zz (v:=.box O.length) (O':=O++[Box.lst []]) rfl rfl rfl)).trans (ze (ef.trans h₁))),hy,mem,old⟩
end
noncomputable abbrev RE(m n:Nat)(cs:Cs)(d L:Nat)(a b c:Option V):Loc:=[some (.d (.list (due m))),some (.d (.list (zb cs))),some (.d (.int ((n+1:Nat):Int))),some (.box d),some (.box L),a,b,c]
noncomputable def zio:CSs:=#[.asg (.two (.name 6) (.name 7)) (.call 15 #[.loc 0,.loc 5,.loc 1,.loc 2,.loc 3]),.ife (.cmp .eq (.loc 6) (.str (Str.ofString "plan"))) #[.ret (.tup #[.str (Str.ofString "plan"),.loc 7])] .nil,.expr (.meth .append (.loc 4) #[.loc 7])]
noncomputable def trB(m n:Nat)(cs:Cs)(w:Wg):Bool:=outs.all (okP m n w cs)
section
variable{m n lev k d:Nat}{C cs:Cs}{O:za}{kvs:List (MKey×PyData)}
inductive zvy(m:Nat)(C:Cs)(n:Nat)(w:Wg)(cs:Cs)(d:Nat)(O:za)(kvs:List (MKey×PyData))(xs:List PyData)(r:R (Loc×za) Fl):Prop
 | next (kvs':List (MKey×PyData)) (mem:Mem m C kvs') (old:∀ q:MKey,(n:Int) < q.2->z5 kvs' q=z5 kvs q) (hb:trB m n cs w=false) (y:PyData) (hy:Row m n cs w y) (a b c:Option V)
    (h:r=.ok .next (RE m n cs d O.length a b c,O.set d (.dct kvs')++[Box.lst (xs++[y])]))
 | ret (kvs':List (MKey×PyData)) (mem:Mem m C kvs') (old:∀ q:MKey,(n:Int) < q.2->z5 kvs' q=z5 kvs q) (hb:trB m n cs w=true) (y:PyData) (hy:PlR m (n+1) cs y) (ρ':Loc)
    (h:r=.ok (.ret (.d (resD true y))) (ρ',O.set d (.dct kvs')++[Box.lst xs]))
theorem zrb(L1:LookS m C n lev)(hm:m4 m){w:Wg}(hw:w∈dueI m)(h:InC m C cs)(hne:cs≠[])(hlev:2<=lev){xs:List PyData}{a b c:Option V}(ok:Ok m C d O kvs)(hxs:∀ x∈xs,Shy badP x)(hl:xs.length < line) :
 zvy m C n w cs d O kvs xs (z6 (PG (k+lev+1) false) (.name 5) zio (wD w) (RE m n cs d O.length a b c) (O++[Box.lst xs])):=by
 have ok1:Ok m C d (O++[Box.lst xs]) kvs:=ok.push hxs;obtain⟨y,kvs',e1,ny,mem,old⟩:=zpf (k:=k) L1 hm hw h hne hlev ok1;have es:evS (PG (k+lev+1) false) (.asg (.two (.name 6) (.name 7)) (.call 15 #[.loc 0,.loc 5,.loc 1,.loc 2,.loc 3])) (RE m n cs d O.length (some (.d (wD w))) b c) (O++[Box.lst xs])=.ok .next (RE m n cs d O.length (some (.d (wD w))) (some (.d (word (trB m n cs w)))) (some (.d y)),O.set d (.dct kvs')++[Box.lst xs]):=by
  refine dn rfl (zi (zh rfl (zh rfl (zh rfl (zh rfl (zh rfl rfl))))) ?_) (v:=.d (resD (trB m n cs w) y)) rfl;rw[<- ok.set_push];exact e1
 have eq:=zrs (trB m n cs w) (O.set d (.dct kvs')++[Box.lst xs]);have hlen:(O.set d (.dct kvs')).length=O.length:=bg;have ny:TQ m n w cs (trB m n cs w) y:=ny
 cases hb:trB m n cs w with
 | true=>
   rw[hb] at es eq ny;refine .ret kvs' mem old hb y ny (RE m n cs d O.length (some (.d (wD w))) (some (.d (word true))) (some (.d y))) ?_;exact (zc es).trans (ze ((w_if (zp rfl rfl eq)).trans ((af rfl).trans (ze (z8 rfl)))))
 | false=>
   rw[hb] at es eq ny;have er:recv .append (.box O.length) (O.set d (.dct kvs')++[Box.lst xs])=true:=by rw[<- hlen];exact recN
   have ea:meth .append (.box O.length) [.d y] (O.set d (.dct kvs')++[Box.lst xs])=.ok (.d .none) (O.set d (.dct kvs')++[Box.lst (xs++[y])]):=by rw[<- hlen];exact appN hl
   refine .next kvs' mem old hb y ny (some (.d (wD w))) (some (.d (word false))) (some (.d y)) ?_;exact (zc es).trans ((zc (zx (zp rfl rfl eq))).trans ((zc (kf (uc rfl er (zh rfl rfl) ea))).trans rfl))
inductive EachL(m:Nat)(C:Cs)(n:Nat)(cs:Cs)(d:Nat)(O:za)(kvs:List (MKey×PyData))(xs:List PyData)(ws:List Wg)(r:R (Loc×za) Fl):Prop
 | next (kvs':List (MKey×PyData)) (mem:Mem m C kvs') (old:∀ q:MKey,(n:Int) < q.2->z5 kvs' q=z5 kvs q) (hb:ws.any (trB m n cs)=false) (ys:List PyData) (hl:ys.length=ws.length) (hy:gw (Row m n cs) ws ys) (a b c:Option V)
    (h:r=.ok .next (RE m n cs d O.length a b c,O.set d (.dct kvs')++[Box.lst (xs++ys)]))
 | ret (kvs':List (MKey×PyData)) (mem:Mem m C kvs') (old:∀ q:MKey,(n:Int) < q.2->z5 kvs' q=z5 kvs q) (hb:ws.any (trB m n cs)=true) (y:PyData) (hy:PlR m (n+1) cs y) (ρ':Loc) (xs':List PyData)
    (h:r=.ok (.ret (.d (resD true y))) (ρ',O.set d (.dct kvs')++[Box.lst xs']))
theorem zl5(L1:LookS m C n lev)(hm:m4 m)(h:InC m C cs)(hne:cs≠[])(hlev:2<=lev){zs:List PyData}:∀ (ws:List Wg) (O:za) (kvs:List (MKey×PyData)) (xs:List PyData) (a b c:Option V),(∀ w∈ws,w∈dueI m)->Ok m C d O kvs->(∀ x∈xs,Shy badP x)->xs.length+ws.length < line ->
 EachL m C n cs d O kvs xs ws (zv (.plain zs) (z6 (PG (k+lev+1) false) (.name 5) zio) (ws.map fun p=>wOf p.1 p.2) (RE m n cs d O.length a b c) (O++[Box.lst xs]))
 | [],O,kvs,xs,a,b,c,_,ok,_,_=>.next kvs ok.mem (fun uA uA=>rfl) rfl [] rfl rfl a b c (by rw[bc,set_same ok.at_];rfl)
 | w::ws,O,kvs,xs,a,b,c,hw,ok,hxs,hl=>by
   rw[aR] at hl;rcases zrb (k:=k) (a:=a) (b:=b) (c:=c) L1 hm (hw w (.head _)) h hne hlev ok hxs (by lia) with ⟨kvs1,mem1,old1,hb1,y,hy1,a',b',c',h₁⟩ | ⟨kvs1,mem1,old1,hb1,y,hy,ρ',h₁⟩
   ·have ok1A:=ok.set mem1;have hlen:(O.set d (.dct kvs1)).length=O.length:=bg;have ih:=zl5 (zs:=zs) L1 hm h hne hlev ws (O.set d (.dct kvs1)) kvs1 (xs++[y]) a' b' c' (fun v hv=>hw v (.tail _ hv)) ok1A (fun z hz=>by
     refine fx (aj.mp hz) ?_ ?_
     ·intro hz;exact hxs z hz
     ·intro hz;rw[ae.mp hz];refine fL hy1 fun o z e fy hz=>?_;obtain⟨xs,e2⟩:=hz.tup;rw[e];exact kg (.int o) (dz mildP hz) (by rw[e2];exact mildP.row _ _)) (by rw[ba,eo];lia)
    rw[hlen] at ih;rw[a6,yx h₁];rcases ih with ⟨kvs',mem,old,hb2,ys,hl',hy,a2A,b2A,c2A,h2A⟩ | ⟨kvs',mem,old,hb2,y',hy,ρ',xs',h2A⟩
    ·refine .next kvs' mem (fun q hq=>(old q hq).trans (old1 q hq)) (by rw[dH,hb1,hb2];rfl) (y::ys) (by rw[aR,aR,hl']) ⟨y,ys,rfl,hy1,hy⟩ a2A b2A c2A ?_;rw[h2A,hlen,List.set_set,bj];rfl
    ·refine .ret kvs' mem (fun q hq=>(old q hq).trans (old1 q hq)) (by rw[dH,hb1,hb2];rfl) y' hy ρ' xs' ?_;rw[h2A,List.set_set]
   ·refine .ret kvs1 mem1 old1 (by rw[dH,hb1];rfl) y hy ρ' xs ?_;rw[a6,vm h₁]
theorem zs1(L1:LookS m C n lev)(hm:m4 m)(hw3:(dueI m).length<=25)(h:InC m C cs)(hne:cs≠[])(hlev:2<=lev)(ok:Ok m C d O kvs) :
 Gives m C n d O kvs ((dueI m).any (trB m n cs)) (Rs m (n+1) cs ((dueI m).any (trB m n cs))) (zf P table (k+lev+2) false 16 [.d (.list (due m)),.d (.list (zb cs)),.d (.int ((n+1:Nat):Int)),.box d] O):=by
 have lp:=zl5 (k:=k) (d:=d) (zs:=due m) L1 hm h hne hlev (dueI m) O kvs [] none none none (fun uA h=>h) ok (fun uA h=>nomatch h) (bK (by rw[dS,bC];exact hw3) (by show 25 < 1000000;decide));have ef:evS (PG (k+lev+1) false) (.for_ (.name 5) (.e (.loc 0)) zio) (RE m n cs d O.length none none none) (O++[Box.lst []])=zv (.plain (due m)) (z6 (PG (k+lev+1) false) (.name 5) zio) ((dueI m).map fun p=>wOf p.1 p.2) (RE m n cs d O.length none none none) (O++[Box.lst []]):=by
  rw[jn,ak ao];rfl
 have hlen:∀ kvs',(O.set d (.dct kvs')).length=O.length:=fun uA=>bg;rcases lp with ⟨kvs',mem,old,hb,ys,hl,hy,a,b,c,h₁⟩ | ⟨kvs',mem,old,hb,y,hy,ρ',xs',h₁⟩
 ·rw[hb];refine ⟨.tuple [.str (Str.ofString "each"),.tuple ys],kvs',?_,.inr ⟨ys,rfl,hy⟩,mem,old⟩;have et:evE (PG (k+lev+1) false) (RE m n cs d O.length a b c) (.prim .tuple #[.loc 4]) (O.set d (.dct kvs')++[Box.lst ([]++ys)])=.ok (.d (.tuple ys)) (O.set d (.dct kvs')++[Box.lst ([]++ys)]):=yj rfl rfl (by rw[<- hlen kvs'];exact zkv (by show ys.length<=_;rw[hl];exact ai hw3 (by decide)));exact qw (fn:=c16) (O':=[Box.lst ([]++ys)]) rfl ⟨rfl,by decide⟩ rfl (hlen kvs') ((zc (zz (v:=.box O.length) (O':=O++[Box.lst []]) rfl rfl rfl)).trans ((zc (ef.trans h₁)).trans (ze (z8 (zdr rfl (zdr rfl et))))))
 ·rw[hb];exact⟨y,kvs',qw (fn:=c16) rfl ⟨rfl,by decide⟩ rfl (hlen kvs') ((zc (zz (v:=.box O.length) (O':=O++[Box.lst []]) rfl rfl rfl)).trans (ze (ef.trans h₁))),hy,mem,old⟩
end
noncomputable abbrev RL(m n:Nat)(cs:Cs)(d:Nat)(a:Option V):Loc:=[some (.d (.list (due m))),some (.d (.list (zb cs))),some (.d (.int (n:Int))),some (.box d),a]
noncomputable def keyD(n:Nat)(cs:Cs):PyData:=.tuple [.tuple (zb cs),.int (n:Int)]
section
variable{m n lev k d:Nat}{C cs:Cs}{O:za}{kvs:List (MKey×PyData)}
theorem g7(h:O[d]?=some (.dct kvs)):qh (.box d) (.d (keyD n cs)) O=some (d,kvs,(cs,(n:Int))):=by
 show (match O[d]? with
  | some (.dct kvs)=>(keyOf (keyD n cs)).map fun q=>(d,kvs,q)
  | _=>none)=_
 rw[h];show (keyOf (keyD n cs)).map (fun q=>(d,kvs,q))=_;have:keyOf (keyD n cs)=some (cs,(n:Int)):=by
  show (jo (zb cs)).map (fun kss=>(kss,(n:Int)))=_;rw[wd];rfl
 rw[this];rfl
theorem zdt(h:InC m C cs){a:Option V}:evE (PG k false) (RL m n cs d a) (.cmp .eq (.prim .len #[.loc 1]) (.int 1)) O=.ok (.d (.bool (decide ((cs.length:Int)=1)))) O:=by
 refine zp (yj rfl rfl (xo rfl h.line)) rfl (eq_int.trans ?_);rw[zq]
theorem zm4(h:InC m C cs)(hn:n<=11){a:Option V}:evE (PG (k+1) false) (RL m n cs d a) (.cmp .gt (.prim .len #[.loc 1]) (.call 10 #[.loc 2])) O=.ok (.d (.bool (decide ((cs.length:Int) > ((3 ^ n:Nat):Int))))) O:=by
 refine zp (yj rfl rfl (xo rfl h.line)) (zi rfl (zmz hn)) (v_gt.trans ?_);rw[zq]
theorem zet(h:InC m C cs)(hl:cs.length=1)(ok:Ok m C d O kvs):Gives m C n d O kvs (solv (dueI m) n cs) (Rs m n cs (solv (dueI m) n cs)) (zf P table (k+1) false 17 [.d (.list (due m)),.d (.list (zb cs)),.d (.int (n:Int)),.box d] O):=by
 refine fG (List.length_eq_one_iff.mp hl) fun c eN=>?_;subst eN;rw[xx rfl];refine ⟨.tuple [.str (Str.ofString "told"),caseD c],kvs,?_,⟨.told c,rfl,rfl,be _⟩,ok.mem,fun uA uA=>rfl⟩;rw[set_same ok.at_];exact zj (fn:=c17) (ρ':=RL m n [c] d none) rfl ⟨rfl,by decide⟩ rfl (ze ((w_if (zdt h)).trans ((af rfl).trans (ze (z8 rfl)))))
theorem zcg(h:InC m C cs)(hn:n<=11)(hl:3 ^ n < cs.length)(ok:Ok m C d O kvs):Gives m C n d O kvs (solv (dueI m) n cs) (Rs m n cs (solv (dueI m) n cs)) (zf P table (k+2) false 17 [.d (.list (due m)),.d (.list (zb cs)),.d (.int (n:Int)),.box d] O):=by
 have h1:1 < cs.length:=bK (Nat.one_le_pow _ _ (by decide)) hl;have hs:solv (dueI m) n cs=false:=aX.mpr fun e=>eA.mpr (zee e) hl;rw[hs];refine ⟨.tuple [.str (Str.ofString "many")],kvs,?_,Hd.many hl,ok.mem,fun uA uA=>rfl⟩;rw[set_same ok.at_];have e1:=zdt (k:=k+1) (n:=n) (d:=d) (O:=O) h (a:=none);rw[aF (by lia)] at e1;have e2:=zm4 (k:=k) (d:=d) (O:=O) h hn (a:=none);rw[aA (show (cs.length:Int) > ((3 ^ n:Nat):Int) from Int.ofNat_lt.mpr hl)] at e2;exact zj (fn:=c17) (ρ':=RL m n cs d none) rfl ⟨rfl,by decide⟩ rfl ((zc (zx e1)).trans (ze ((w_if e2).trans ((af rfl).trans (ze (z8 rfl))))))
theorem zum:LookS m C 0 2:=fun k cs O d kvs h hne ok=>by
 by_cases hl:cs.length=1
 ·exact zet (k:=k+1) h hl ok
 ·exact zcg h (by decide) (by have:0 < cs.length:=List.length_pos_iff.mpr hne;show 1 < cs.length;lia) ok
theorem zul(L1:LookS m C n lev)(hm:m4 m)(hw3:(dueI m).length<=25)(hlev:2<=lev)(hn:n+1<=11):LookS m C (n+1) (lev+3):=fun k cs O d kvs h hne ok=>by
 by_cases hl:cs.length=1
 ·exact zet (k:=k+lev+2) h hl ok
 by_cases h3:3 ^ (n+1) < cs.length
 ·exact zcg (k:=k+lev+1) h hn h3 ok
 have hs:solv (dueI m) (n+1) cs=(dueI m).any (trB m n cs):=by
  show (cs.length == 1 || (decide (cs.length<=3 ^ (n+1)) && (dueI m).any (trB m n cs)))=_;rw[beq_false_of_ne hl,aA (eE h3)];rfl
 have e1:=zdt (k:=k+lev+2) (n:=n+1) (d:=d) (O:=O) h (a:=none);rw[aF (by lia)] at e1;have e2:=zm4 (k:=k+lev+1) (d:=d) (O:=O) h hn (a:=none);rw[aF (show ¬ (cs.length:Int) > ((3 ^ (n+1):Nat):Int) from fun q=>h3 (Int.ofNat_lt.mp q))] at e2;have ek:evS (PG (k+lev+2) false) (.asg (.name 4) (.tup #[.prim .tuple #[.loc 1],.loc 2])) (RL m (n+1) cs d none) O=.ok .next (RL m (n+1) cs d (some (.d (keyD (n+1) cs))),O):=
  zz (zdr (yj rfl rfl (ul (x:=.list (zb cs)) rfl (af h.line))) rfl) rfl rfl
 have en:evE (PG (k+lev+2) false) (RL m (n+1) cs d (some (.d (keyD (n+1) cs)))) (.notinM (.loc 4) (.loc 3)) O=.ok (.d (.bool !(z5 kvs (cs,((n+1:Nat):Int))).isSome)) O:=by
  show Mine.notinM (.d (keyD (n+1) cs)) (.box d) O=_;unfold Mine.notinM;rw[g7 ok.at_]
 have pre:∀ {r:R (Loc×za) Fl} {ss:CSs},evSs (PG (k+lev+2) false) ss (RL m (n+1) cs d (some (.d (keyD (n+1) cs)))) O=r->evSs (PG (k+lev+2) false) (.cons (.ife (.cmp .eq (.prim .len #[.loc 1]) (.int 1)) #[.ret (.tup #[.str (Str.ofString "plan"),.tup #[.str (Str.ofString "told"),.idx (.loc 1) (.int 0)]])] .nil) (.cons (.ife (.cmp .gt (.prim .len #[.loc 1]) (.call 10 #[.loc 2])) #[.ret (.tup #[.str (Str.ofString "hold"),.tup #[.str (Str.ofString "many")]])] .nil) (.cons (.asg (.name 4) (.tup #[.prim .tuple #[.loc 1],.loc 2])) ss))) (RL m (n+1) cs d none) O=r:=
  fun h=>(zc (zx e1)).trans ((zc (zx e2)).trans ((zc ek).trans h))
 rw[hs]
 cases hd:z5 kvs (cs,((n+1:Nat):Int)) with
 | some x=>
   rw[hd] at en;refine fC (ok.mem.find hd) fun y eN hy=>?_;subst eN;rw[hs] at hd hy;refine⟨y,kvs,?_,hy,ok.mem,fun uA uA=>rfl⟩;rw[set_same ok.at_];refine zj (fn:=c17) (ρ':=RL m (n+1) cs d (some (.d (keyD (n+1) cs)))) rfl ⟨rfl,by decide⟩ rfl (pre ((zc (zx en)).trans (ze (z8 ?_))));show Mine.getM (.box d) (.d (keyD (n+1) cs)) O=_;unfold Mine.getM;rw[g7 ok.at_];show opt ((z5 kvs (cs,((n+1:Nat):Int))).map V.d) O=_;rw[hd];rfl
 | none=>
   rw[hd] at en;obtain⟨y,kvs1,ee,hy,mem1,old1⟩:=zs1 (k:=k) L1 hm hw3 h hne hlev ok;have ok1A:=ok.set mem1;have hd1A:z5 kvs1 (cs,((n+1:Nat):Int))=none:=(old1 _ (by show (n:Int) < ((n+1:Nat):Int);lia)).trans hd;have mem2:Mem m C (kvs1++[((cs,((n+1:Nat):Int)),resD (solv (dueI m) (n+1) cs) y)]):=mem1.add (by rw[hs];exact hy) h.sub hn hd1A;rw[hs] at mem2;have eset:evS (PG (k+lev+2) false) (.setM (.loc 3) (.loc 4) (.call 16 #[.loc 0,.loc 1,.loc 2,.loc 3])) (RL m (n+1) cs d (some (.d (keyD (n+1) cs)))) O=.ok .next (RL m (n+1) cs d (some (.d (keyD (n+1) cs))),O.set d (.dct (kvs1++[((cs,((n+1:Nat):Int)),resD ((dueI m).any (trB m n cs)) y)]))):=by
    have ec:evE (PG (k+lev+2) false) (RL m (n+1) cs d (some (.d (keyD (n+1) cs)))) (.call 16 #[.loc 0,.loc 1,.loc 2,.loc 3]) O=.ok (.d (resD ((dueI m).any (trB m n cs)) y)) (O.set d (.dct kvs1)):=zi rfl ee;show R.bind (R.lift _ (R.bind (evE (PG (k+lev+2) false) (RL m (n+1) cs d (some (.d (keyD (n+1) cs)))) (.call 16 #[.loc 0,.loc 1,.loc 2,.loc 3]) O) _)) _=_;rw[ec];show R.bind (R.lift _ (Mine.setM (.box d) (.d (keyD (n+1) cs)) (.d (resD ((dueI m).any (trB m n cs)) y)) (O.set d (.dct kvs1)))) _=_;unfold Mine.setM;rw[g7 ok1A.at_];show R.bind (R.lift _ (if z5 kvs1 (cs,((n+1:Nat):Int))=none/\kvs1.length<=line then _ else _)) _=_;rw[af ⟨hd1A,mem1.len⟩];show R.ok _ (_,(O.set d (.dct kvs1)).set d _)=_;rw[List.set_set]
   have hlen:(O.set d (.dct (kvs1++[((cs,((n+1:Nat):Int)),resD ((dueI m).any (trB m n cs)) y)]))).length=O.length:=bg;refine⟨y,_,?_,hy,mem2,fun q hq=>?_⟩
   ·refine qw (fn:=c17) (O':=[]) (ρ':=RL m (n+1) cs d (some (.d (keyD (n+1) cs)))) rfl ⟨rfl,by decide⟩ rfl hlen (pre ((zc ((w_if en).trans ((af rfl).trans ((zc eset).trans rfl)))).trans (ze (z8 ?_))));show Mine.getM (.box d) (.d (keyD (n+1) cs)) (O.set d _)=_;unfold Mine.getM;rw[g7 (ok.set mem2).at_,bc];show opt ((z5 _ (cs,((n+1:Nat):Int))).map V.d) _=_;rw[zj6 hd1A];rfl
   ·rw[zfh (fun e=>by rw[<- e] at hq;exact absurd hq (Int.lt_irrefl _))];exact old1 q (by have:((n+1:Nat):Int) < q.2:=hq;lia)
end
noncomputable abbrev R14(m:Nat)(cs:Cs)(a b c:Option V):Loc:=[some (.d (.list (due m))),some (.d (.list (zb cs))),a,b,c]
noncomputable def wm:CSs:=.cons (.ife (.call 13 #[.loc 0,.loc 3,.loc 4]) #[.ret (.tup #[.loc 3,.loc 4])] .nil) .nil
noncomputable def um:CSs:=.cons (.for_ (.name 4) (.e (.slice (.loc 1) (.bin .add (.loc 2) (.int 1)) .none)) wm) .nil
section
variable{m k:Nat}{cs:Cs}{O:za}
inductive PairR(m:Nat)(cs:Cs)(x y:PyData):Prop
 | mk (a b:List Int) (ex:x=caseD a) (ey:y=caseD b) (ha:a∈cs) (hb:b∈cs) (al:yc (dueI m) a b=true) (ne:a≠b)
theorem PairR.more{c:List Int}{x y:PyData}(h:PairR m cs x y):PairR m (c::cs) x y:=by
 obtain⟨a,b,ex,ey,ha,hb,al,ne⟩:=h;exact⟨a,b,ex,ey,.tail _ ha,.tail _ hb,al,ne⟩
theorem zie(hm:m4 m){a:List Int}(ha:good m a){i:Option V}{zs:List PyData}:∀ (l:Cs),(∀ c∈l,good m c)->∀ e:Option V,
 (l.any (yc (dueI m) a)=false/\∃ e',zv (.plain zs) (z6 (PG (k+2) false) (.name 4) wm) (zb l) (R14 m cs i (some (.d (caseD a))) e) O=.ok .next (R14 m cs i (some (.d (caseD a))) e',O)) \/
 (l.any (yc (dueI m) a)=true/\∃ b ρ',b∈l/\yc (dueI m) a b=true/\zv (.plain zs) (z6 (PG (k+2) false) (.name 4) wm) (zb l) (R14 m cs i (some (.d (caseD a))) e) O=.ok (.ret (.d (.tuple [caseD a,caseD b]))) (ρ',O))
 | [],_,e=>.inl ⟨rfl,e,rfl⟩
 | c::l,hl,e=>by
   have et:evE (PG (k+2) false) (R14 m cs i (some (.d (caseD a))) (some (.d (caseD c)))) (.call 13 #[.loc 0,.loc 3,.loc 4]) O=.ok (.d (.bool (yc (dueI m) a c))) O:=zi rfl (zpn hm ha (hl c (.head _)))
   cases hb:yc (dueI m) a c with
   | true=>
     rw[hb] at et;have h1:z6 (PG (k+2) false) (.name 4) wm (caseD c) (R14 m cs i (some (.d (caseD a))) e) O=.ok (.ret (.d (.tuple [caseD a,caseD c]))) (R14 m cs i (some (.d (caseD a))) (some (.d (caseD c))),O):=
      ze (P:=PG (k+2) false) (ρ:=R14 m cs i (some (.d (caseD a))) (some (.d (caseD c)))) ((w_if et).trans ((af rfl).trans (ze (z8 rfl))))
     exact .inr ⟨by rw[dH,hb];rfl,c,_,.head _,hb,vm h1⟩
   | false=>
     rw[hb] at et;have h1:z6 (PG (k+2) false) (.name 4) wm (caseD c) (R14 m cs i (some (.d (caseD a))) e) O=.ok .next (R14 m cs i (some (.d (caseD a))) (some (.d (caseD c))),O):=
      (zc (P:=PG (k+2) false) (ρ:=R14 m cs i (some (.d (caseD a))) (some (.d (caseD c)))) (zx et)).trans rfl
     have hany:(c::l).any (yc (dueI m) a)=l.any (yc (dueI m) a):=by rw[dH,hb];rfl
     rw[hany,show zb (c::l)=caseD c::zb l from rfl,yx h1];exact (zie hm ha l (fun c hc=>hl c (.tail _ hc)) _).imp id fun ⟨h1,b,ρ',h2,h3⟩=>⟨h1,b,ρ',.tail _ h2,h3⟩
theorem zs0(h:Ok12 m cs){i:Nat}(hi:i < cs.length){b c:Option V}:evE (PG k false) (R14 m cs (some (.d (.int (i:Int)))) b c) (.slice (.loc 1) (.bin .add (.loc 2) (.int 1)) .none) O=.ok (.d (.list (zb (cs.drop (i+1))))) O:=by
 have hc:clipAt (zb cs).length ((i:Int)+1)=i+1:=by
  have:=clipAt_cast (zb cs).length ((i:Int)+1);rw[ak (by lia),zq] at this;rw[zq];lia
 have ea:evE (PG k false) (R14 m cs (some (.d (.int (i:Int)))) b c) (.bin .add (.loc 2) (.int 1)) O=.ok (.d (.int ((i:Int)+1))) O:=yd rfl rfl gg;rw[zhr,show evE (PG k false) (R14 m cs (some (.d (.int (i:Int)))) b c) (.loc 1) O=.ok (.d (.list (zb cs))) O from rfl,zw,ea,zw];show opt ((jq (zb cs) (.int ((i:Int)+1)) .none).map V.d) O=_;unfold jq;rw[af h.line];show R.ok (V.d (.list (qc (zb cs) (clipAt (zb cs).length ((i:Int)+1)) (zb cs).length))) O=_;rw[hc];unfold qc;rw[cE (by rw[List.length_drop];exact aH _)];unfold zb;rw[List.map_drop]
theorem any_alike{a:List Int}{l:Cs}:l.any (yc (dueI m) a)=false↔∀ b∈l,yc (dueI m) a b=false:=by
 rw[List.any_eq_false];exact⟨fun h b hb=>aX.mpr (h b hb),fun h b hb=>aX.mp (h b hb)⟩
theorem zid(hm:m4 m)(h:Ok12 m cs){zs:List PyData}:∀ (l:Cs) (i:Nat) (a b e:Option V),l.Nodup->cs.drop i=l ->
 (Pw (dueI m) l/\∃ a' b' e',zv (.plain zs) (z6 (PG (k+2) false) (.two (.name 2) (.name 3)) um) ((l.zipIdx i).map fun p=>.tuple [.int (p.2:Int),caseD p.1]) (R14 m cs a b e) O=.ok .next (R14 m cs a' b' e',O)) \/
 (¬ Pw (dueI m) l/\∃ x y ρ',PairR m l x y/\zv (.plain zs) (z6 (PG (k+2) false) (.two (.name 2) (.name 3)) um) ((l.zipIdx i).map fun p=>.tuple [.int (p.2:Int),caseD p.1]) (R14 m cs a b e) O=.ok (.ret (.d (.tuple [x,y]))) (ρ',O))
 | [],i,a,b,e,_,_=>.inl ⟨List.Pairwise.nil,a,b,e,rfl⟩
 | c::l,i,a,b,e,hn,hd=>by
   have hi:i < cs.length:=Nat.lt_of_not_le fun q=>by rw[List.drop_eq_nil_of_le q] at hd;contradiction
   have hd':cs.drop (i+1)=l:=by rw[<- List.drop_drop,hd];rfl
   have hmem:∀ x∈c::l,x∈cs:=fun x hx=>List.mem_of_mem_drop (hd ▸ hx);have hg:∀ x∈l,good m x:=fun x hx=>h.good x (hmem x (.tail _ hx));have ef:evS (PG (k+2) false) (.for_ (.name 4) (.e (.slice (.loc 1) (.bin .add (.loc 2) (.int 1)) .none)) wm) (R14 m cs (some (.d (.int (i:Int)))) (some (.d (caseD c))) e) O=zv (.plain (zb l)) (z6 (PG (k+2) false) (.name 4) wm) (zb l) (R14 m cs (some (.d (.int (i:Int)))) (some (.d (caseD c))) e) O:=by
    rw[jn,ak ao,x_e,zs0 h hi,hd'];rfl
   rw[eF,a6];refine fx (zie (k:=k) (cs:=cs) (O:=O) (i:=some (.d (.int (i:Int)))) (zs:=zb l) hm (h.good c (hmem c (.head _))) l hg e) ?_ ?_
   ·rintro ⟨hb,e',h1⟩;have ht:z6 (PG (k+2) false) (.two (.name 2) (.name 3)) um (.tuple [.int (i:Int),caseD c]) (R14 m cs a b e) O=.ok .next (R14 m cs (some (.d (.int (i:Int)))) (some (.d (caseD c))) e',O):=
     (zc (P:=PG (k+2) false) (ρ:=R14 m cs (some (.d (.int (i:Int)))) (some (.d (caseD c))) e) (ef.trans h1)).trans rfl
    rw[yx ht];have hp:Pw (dueI m) (c::l)↔Pw (dueI m) l:=by
     unfold Pw;rw[aG];exact⟨fun h=>h.2,fun h=>⟨any_alike.mp hb,h⟩⟩
    rw[hp];exact (zid hm h l (i+1) _ _ _ (bw.mp hn).2 hd').imp id fun ⟨h1,x,y,ρ',h2,h3⟩=>⟨h1,x,y,ρ',h2.more,h3⟩
   ·rintro ⟨hb,x,ρ',hx,hal,h1⟩;have ht:z6 (PG (k+2) false) (.two (.name 2) (.name 3)) um (.tuple [.int (i:Int),caseD c]) (R14 m cs a b e) O=.ok (.ret (.d (.tuple [caseD c,caseD x]))) (ρ',O):=
     ze (P:=PG (k+2) false) (ρ:=R14 m cs (some (.d (.int (i:Int)))) (some (.d (caseD c))) e) (ef.trans h1)
    refine .inr ⟨fun hp=>?_,_,_,_,⟨c,x,rfl,rfl,.head _,.tail _ hx,hal,fun e=>(bw.mp hn).1 (e ▸ hx)⟩,vm ht⟩;rw[any_alike.mpr (aG.mp hp).1] at hb;contradiction
theorem zcq(hm:m4 m)(h:Ok12 m cs)(hn:cs.Nodup):(Pw (dueI m) cs/\zf P table (k+3) false 14 [.d (.list (due m)),.d (.list (zb cs))] O=.ok (.d .none) O)\/(¬ Pw (dueI m) cs/\∃ x y,PairR m cs x y/\zf P table (k+3) false 14 [.d (.list (due m)),.d (.list (zb cs))] O=.ok (.d (.tuple [x,y])) O):=by
 have ee:qo (zb cs)=(cs.zipIdx 0).map fun p=>.tuple [.int (p.2:Int),caseD p.1]:=by
  unfold qo zb;rw[List.zipIdx_map,cI];rfl
 have ef:evS (PG (k+2) false) (.for_ (.two (.name 2) (.name 3)) (.enum (.loc 1)) um) (R14 m cs none none none) O=zv (.plain (qo (zb cs))) (z6 (PG (k+2) false) (.two (.name 2) (.name 3)) um) ((cs.zipIdx 0).map fun p=>.tuple [.int (p.2:Int),caseD p.1]) (R14 m cs none none none) O:=by
  rw[jn,ak ao,<- ee];rfl
 refine fx (zid (k:=k) (O:=O) (zs:=qo (zb cs)) hm h cs 0 none none none hn rfl) ?_ ?_
 ·rintro ⟨hp,a',b',e',h1⟩;exact .inl ⟨hp,zj (fn:=c14) rfl ⟨rfl,by decide⟩ rfl ((zc (ef.trans h1)).trans (ze (z8 rfl)))⟩
 ·rintro ⟨hp,x,y,ρ',pr,h1⟩;exact .inr ⟨hp,x,y,pr,zj (fn:=c14) rfl ⟨rfl,by decide⟩ rfl (ze (ef.trans h1))⟩
end
section
variable{m n lev k d:Nat}{C cs:Cs}{O:za}{kvs:List (MKey×PyData)}
theorem LookS.more{lev':Nat}(h:LookS m C n lev)(hl:lev<=lev'):LookS m C n lev':=fun k cs O d kvs h1 h2 h3=>by
 refine fG (Nat.exists_eq_add_of_le' hl) fun j eN=>?_;subst eN;obtain⟨y,kvs',e,ny,mem,old⟩:=h (k+j) cs O d kvs h1 h2 h3;exact⟨y,kvs',by rw[<- Nat.add_assoc];exact e,ny,mem,old⟩
theorem zlx(hm:m4 m)(hw3:(dueI m).length<=25):∀ n,n<=11->LookS m C n (3 * n+2)
 | 0,_=>zum
 | n+1,hn=>zul (zlx hm hw3 n (Nat.le_of_succ_le hn)) hm hw3 (by lia) hn
theorem zeu(hm:m4 m)(hw3:(dueI m).length<=25){n:Nat}(hn:n<=11):LookS m C n 35:=(zlx hm hw3 n hn).more (by lia)
noncomputable def Held(m:Nat)(cs:Cs):Nat->PyData->Prop
 | 0,h=>h=.none
 | n+1,h=>Hd m n cs h
inductive WhR(m:Nat)(cs:Cs)(N:Nat)(O:za)(r:R (Loc×za) Fl):Prop
 | mk (kvs':List (MKey×PyData)) (h y:PyData) (hh:Held m cs N h) (hy:PlR m N cs y) (e:r=.ok .next ([some (.d (.list (due m))),some (.d (.list (zb cs))),some (.box O.length),some (.d h),some (.d (.int (N:Int))),some (.d (word true)),some (.d y)],O++[.dct kvs']))
noncomputable abbrev RF(m:Nat)(cs:Cs)(d:Nat)(h a b c:Option V):Loc:=[some (.d (.list (due m))),some (.d (.list (zb cs))),some (.box d),h,a,b,c]
noncomputable def zf5:CSs:=#[.asg (.name 3) (.loc 6),.asg (.name 4) (.bin .add (.loc 4) (.int 1)),.asg (.two (.name 5) (.name 6)) (.call 17 #[.loc 0,.loc 1,.loc 4,.loc 2])]
noncomputable def whT(k:Nat)(ρ:Loc)(O:za):R (Loc×za) Bool:=((evE (PG k false) ρ (.cmp .eq (.loc 5) (.str (Str.ofString "hold"))) O).bind fun v O=>opt (truth v) O).lift ρ
theorem zhv{b:Bool}{h a c:Option V}:whT k (RF m cs d h a (some (.d (word b))) c) O=.ok (!b) (RF m cs d h a (some (.d (word b))) c,O):=by
 have e:evE (PG k false) (RF m cs d h a (some (.d (word b))) c) (.cmp .eq (.loc 5) (.str (Str.ofString "hold"))) O=.ok (.d (.bool !b)) O:=zp rfl rfl (zlg b O);unfold whT;rw[e];rfl
theorem zn6{turn:Loc->za->R (Loc×za) Fl}{test:Loc->za->R (Loc×za) Bool}{t:Nat}{ρ ρ':Loc}{O O':za}(h:turn ρ O=.ok .next (ρ',O')) :
 (match (R.ok (!false) (ρ,O):R (Loc×za) Bool) with
   | .ok false S=>R.ok Fl.next S
   | .ok true S=>(match turn S.1 S.2 with
      | .ok (.ret v) S=>R.ok (Fl.ret v) S
      | .ok .next S=>xh test turn t S.1 S.2
      | _=>.stuck)
   | _=>.stuck)=xh test turn t ρ' O':=by
 show (match turn ρ O with
        | .ok (.ret v) S=>R.ok (Fl.ret v) S
        | .ok .next S=>xh test turn t S.1 S.2
        | _=>.stuck)=_
 rw[h]
theorem zic(LA:∀ n,n<=11->LookS m C n 35)(h:InC m C cs)(hne:cs≠[]){N:Nat}(hN:N<=11)(hL:Least (dueI m) N cs):∀ (r t j:Nat) (kvs:List (MKey×PyData)) (hh:PyData) (y:PyData),N=j+r->r < t->Ok m C O.length (O++[.dct kvs]) kvs->Held m cs j hh->Rs m j cs (solv (dueI m) j cs) y ->
 WhR m cs N O (xh (whT (k+35)) (fun ρ O=>evSs (PG (k+35) false) zf5 ρ O) t (RF m cs O.length (some (.d hh)) (some (.d (.int (j:Int)))) (some (.d (word (solv (dueI m) j cs)))) (some (.d y))) (O++[.dct kvs]))
 | 0,0,_,_,_,_,_,h,_,_,_=>absurd h (cM _)
 | 0,t+1,j,kvs,hh,y,e,_,_,g1,g2=>by
   have e:N=j:=e;subst e;rw[hL.yes] at g2;refine⟨kvs,hh,y,g1,g2,?_⟩;rw[ub,zhv,hL.yes];rfl
 | r+1,0,_,_,_,_,_,h,_,_,_=>absurd h (cL _)
 | r+1,t+1,j,kvs,hh,y,e,ht,ok,g1,g2=>by
   have hs:solv (dueI m) j cs=false:=hL.no j (by lia);obtain⟨y1A,kvs1,e1A,ny,mem,old⟩:=LA (j+1) (by lia) k cs _ O.length kvs h hne ok;have hset:(O++[Box.dct kvs]).set O.length (.dct kvs1)=O++[.dct kvs1]:=zgh;rw[hset] at e1A;have ok1A:Ok m C O.length (O++[.dct kvs1]) kvs1:=hset ▸ ok.set mem;rw[hs] at g2;obtain⟨kvs',h',y',q1,q2,ih⟩:=zic LA h hne hN hL r t (j+1) kvs1 y y1A (by lia) (by exact Nat.le_of_lt_succ (by assumption)) ok1A g2 ny;refine⟨kvs',h',y',q1,q2,?_⟩;have hb:evSs (PG (k+35) false) zf5 (RF m cs O.length (some (.d hh)) (some (.d (.int (j:Int)))) (some (.d (word (solv (dueI m) j cs)))) (some (.d y))) (O++[.dct kvs])=.ok .next (RF m cs O.length (some (.d y)) (some (.d (.int ((j+1:Nat):Int)))) (some (.d (word (solv (dueI m) (j+1) cs)))) (some (.d y1A)),O++[.dct kvs1]):=by
    refine (zc (zz rfl rfl rfl)).trans ((zc (zz (yd rfl rfl gg) rfl rfl)).trans ((zc (dn rfl (zi rfl e1A) (v:=.d (resD (solv (dueI m) (j+1) cs) y1A)) rfl)).trans rfl))
   rw[ub,zhv,hs];rw[hs] at hb;exact (zn6 hb).trans ih
theorem kq{ws:List Wg}{cs:Cs}:∀ N,solv ws N cs=true->∃ n,n<=N/\Least ws n cs
 | 0,h=>⟨0,aH _,h,fun k hk=>absurd hk (cL _)⟩
 | N+1,h=>by
   cases hb:solv ws N cs with
   | true=>refine fC (kq N hb) fun n h1 h2=>?_;exact fD n (cP h1) h2
   | false=>exact⟨N+1,aH _,h,fun k hk=>aX.mpr fun e=>by rw[zh1 e (bU hk)] at hb;cases hb⟩
inductive zto(m:Nat)(cs:Cs)(N:Nat)(O:za)(r:R za V):Prop
 | mk (y h:PyData) (hy:PlR m N cs y) (hh:Held m cs N h) (e:r=.ok (.d (.tuple [y,h,.int (N:Int)])) O)
theorem za3(LA:∀ n,n<=11->LookS m C n 35)(h:InC m C cs)(hne:cs≠[]){N:Nat}(hN:N<=11)(hL:Least (dueI m) N cs)(hC:C.length<=12)(hO:∀ b∈O,ShyB badP b):zto m cs N O (zf P table (k+36) false 18 [.d (.list (due m)),.d (.list (zb cs))] O):=by
 have ok0:Ok m C O.length (O++[.dct []]) []:=⟨by rw[aI (aH _),cH];rfl,⟨fun uA h=>(nomatch h),fun uA h=>(nomatch h),.nil,hC⟩,fun b hb=>by
  refine fx (aj.mp hb) ?_ ?_
  ·intro hb;exact hO b hb
  ·intro hb;rw[ae.mp hb];exact fun uA h=>nomatch h⟩
 obtain⟨y1A,kvs1,e1A,ny,mem,old⟩:=LA 0 (by decide) k cs _ O.length [] h hne ok0;have hset:(O++[Box.dct []]).set O.length (.dct kvs1)=O++[.dct kvs1]:=zgh;rw[hset] at e1A;have ok1A:Ok m C O.length (O++[.dct kvs1]) kvs1:=hset ▸ ok0.set mem;obtain⟨kvs',h',y',q1,q2,hw⟩:=zic (k:=k) (O:=O) LA h hne hN hL N 200 0 kvs1 .none y1A (by lia) (by lia) ok1A rfl ny;refine⟨y',h',q2,q1,?_⟩;refine zbc (fn:=c18) (ρ':=RF m cs O.length (some (.d h')) (some (.d (.int (N:Int)))) (some (.d (word true))) (some (.d y'))) (O':=[.dct kvs']) rfl ⟨rfl,by decide⟩ rfl ?_;refine (zc (zz (v:=.box O.length) (O':=O++[.dct []]) rfl rfl rfl)).trans ((zc (zz rfl rfl rfl)).trans ((zc (zz rfl rfl rfl)).trans ?_));refine (zc (dn rfl (zi rfl e1A) (v:=.d (resD (solv (dueI m) 0 cs) y1A)) rfl)).trans ?_;have hw:evS (PG (k+35) false) (.while_ (.cmp .eq (.loc 5) (.str (Str.ofString "hold"))) zf5) (RF m cs O.length (some (.d .none)) (some (.d (.int ((0:Nat):Int)))) (some (.d (word (solv (dueI m) 0 cs)))) (some (.d y1A))) (O++[.dct kvs1])=_:=hw;exact (zc hw).trans (ze (z8 rfl))
inductive zhq(m:Nat)(so:Cs)(x:PyData):Prop
 | none (h:so=[]\/¬ Pw (dueI m) so) (e:x=.none)
 | some (n:Nat) (hne:so≠[]) (hp:Pw (dueI m) so) (hl:Least (dueI m) n so) (e:x=.int (n:Int))
inductive zi2(m:Nat)(so:Cs)(x:PyData):Prop
 | none (h:so=[]) (e:x=.tuple [.str (Str.ofString "none")])
 | alike (hne:so≠[]) (hp:¬ Pw (dueI m) so) (a b:PyData) (pr:PairR m so a b) (e:x=.tuple [.str (Str.ofString "alike"),a,b])
 | plan (n:Nat) (hne:so≠[]) (hN:n<=11) (hp:Pw (dueI m) so) (hl:Least (dueI m) n so) (y h:PyData) (hy:PlR m n so y) (hh:Held m so n h) (e:x=.tuple [.str (Str.ofString "plan"),y,h])
theorem znb{m:Nat}(hm:m4 m):(dueI m).length<=25:=by
 rcases k6 hm with rfl | rfl | rfl | rfl <;> decide
theorem Ok12.open_{cs:Cs}{ds:List Dn}(f:Found m cs):Ok12 m (xa cs ds):=⟨fun c hc=>f.good c (bJ.mp hc).1,ai (List.length_filter_le _ _) f.le⟩
theorem zdv{so:Cs}{P:Pg}{ρ:Loc}{a:CE}(h:evE P ρ a O=.ok (.d (.list (zb so))) O):evE P ρ (.cmp .eq a (.list .nil)) O=.ok (.d (.bool so.isEmpty)) O:=by
 refine zp h rfl ((de (xd _)).trans ?_);congr 3;unfold zb;rw[List.isEmpty_map]
theorem zpk(hm:m4 m){cs:Cs}{ds:List Dn}(f:Found m cs)(hd:Dns m ds):∃ x,zf P table (k+37) false 20 [.d (.int m),.d (.list (zb cs)),.d (.list (dnsD ds))] []=.ok (.d x) []/\zhq m (xa cs ds) x:=by
 have hso:Ok12 m (xa cs ds):=.open_ f;have e1:=zm3 (k:=k+31) (O:=[]) hm f hd (.d _) (.d _);have e2:=zm5 (k:=k+32) hm;have e3:evE (PG (k+36) false) [some (.d (.int m)),some (.d (.list (zb cs))),some (.d (.list (dnsD ds))),some (.d (.list (zb (xa cs ds)))),some (.d (.list (due m)))] (.cmp .eq (.loc 3) (.list .nil)) []=.ok (.d (.bool (xa cs ds).isEmpty)) []:=zdv rfl;have pre:∀ {r:R (Loc×za) Fl} {ss:CSs},evSs (PG (k+36) false) ss [some (.d (.int m)),some (.d (.list (zb cs))),some (.d (.list (dnsD ds))),some (.d (.list (zb (xa cs ds)))),some (.d (.list (due m)))] []=r->evSs (PG (k+36) false) (.cons (.asg (.name 3) (.call 12 #[.loc 0,.loc 1,.loc 2])) (.cons (.asg (.name 4) (.call 7 #[.loc 0])) ss)) [some (.d (.int m)),some (.d (.list (zb cs))),some (.d (.list (dnsD ds))),none,none] []=r:=
  fun h=>(zc (zz (zi rfl e1) rfl rfl)).trans ((zc (zz (zi rfl e2) rfl rfl)).trans h)
 cases hem:(xa cs ds).isEmpty with
 | true=>
   rw[hem] at e3;exact fD .none (zj (fn:=c20) rfl ⟨rfl,by decide⟩ rfl (pre (ze ((w_if (ztu e3)).trans ((af rfl).trans (ze (z8 rfl))))))) (.none (.inl (cC.mp hem)) rfl)
 | false=>
   rw[hem] at e3;have hne:xa cs ds≠[]:=fun e=>by rw[e] at hem;contradiction
   refine fx (zcq (k:=k+33) (O:=[]) hm hso (f.nodup.sublist bW)) ?_ ?_
   ·rintro ⟨hp,e4⟩;refine fC (kq _ (zgr 11 hp hne (ai hso.le (by decide)))) fun N hN hL=>?_;obtain⟨y,h',_,_,e5⟩:=za3 (k:=k) (O:=[]) (fun n hn=>zeu hm (znb hm) hn) ⟨hso,List.Sublist.refl _⟩ hne hN hL hso.le (fun uA h=>nomatch h);refine fD (.int (N:Int)) (zj (fn:=c20) rfl ⟨rfl,by decide⟩ rfl (pre ((zc (zx (yf e3 (zp (zi rfl e4) rfl rfl)))).trans (ze (z8 (zy (zi rfl e5) rfl rfl)))))) (.some N hne hp hL rfl)
   ·rintro ⟨hp,x,y,pr,e4⟩;exact fD .none (zj (fn:=c20) rfl ⟨rfl,by decide⟩ rfl (pre (ze ((w_if (yf e3 (zp (zi rfl e4) rfl rfl))).trans ((af rfl).trans (ze (z8 rfl))))))) (.none (.inr hp) rfl)
theorem zq0{P:Pg}{ρ ρ':Loc}{O O':za}{e:CE}{i j k:Nat}{v:V}(hd:P.hd=false)(h:evE P ρ e O=.ok v O')(hb:znu i j k v (ρ,O')=.ok .next (ρ',O')):evS P (.asg3 i j k e) ρ O=.ok .next (ρ',O'):=by
 show (if P.hd=true then .stuck else ((evE P ρ e O).lift ρ).bind (znu i j k))=_;rw[ak (by rw[hd];exact ao),h];exact hb
theorem zsu(hm:m4 m){cs:Cs}{ds:List Dn}(f:Found m cs)(hd:Dns m ds):∃ x,zf P table (k+37) false 19 [.d (.int m),.d (.list (zb cs)),.d (.list (dnsD ds))] []=.ok (.d x) []/\zi2 m (xa cs ds) x:=by
 have hso:Ok12 m (xa cs ds):=.open_ f;have e1:=zm3 (k:=k+31) (O:=[]) hm f hd (.d _) (.d _);have e2:=zm5 (k:=k+32) hm;have e3:evE (PG (k+36) false) [some (.d (.int m)),some (.d (.list (zb cs))),some (.d (.list (dnsD ds))),some (.d (.list (zb (xa cs ds)))),some (.d (.list (due m))),none,none,none,none] (.cmp .eq (.loc 3) (.list .nil)) []=.ok (.d (.bool (xa cs ds).isEmpty)) []:=zdv rfl;have pre:∀ {r:R (Loc×za) Fl} {ss:CSs},evSs (PG (k+36) false) ss [some (.d (.int m)),some (.d (.list (zb cs))),some (.d (.list (dnsD ds))),some (.d (.list (zb (xa cs ds)))),some (.d (.list (due m))),none,none,none,none] []=r->evSs (PG (k+36) false) (.cons (.asg (.name 3) (.call 12 #[.loc 0,.loc 1,.loc 2])) (.cons (.asg (.name 4) (.call 7 #[.loc 0])) ss)) [some (.d (.int m)),some (.d (.list (zb cs))),some (.d (.list (dnsD ds))),none,none,none,none,none,none] []=r:=
  fun h=>(zc (zz (zi rfl e1) rfl rfl)).trans ((zc (zz (zi rfl e2) rfl rfl)).trans h)
 cases hem:(xa cs ds).isEmpty with
 | true=>
   rw[hem] at e3;exact fD _ (zj (fn:=c19) rfl ⟨rfl,by decide⟩ rfl (pre (ze ((w_if e3).trans ((af rfl).trans (ze (z8 rfl))))))) (.none (cC.mp hem) rfl)
 | false=>
   rw[hem] at e3;have hne:xa cs ds≠[]:=fun e=>by rw[e] at hem;contradiction
   refine fx (zcq (k:=k+33) (O:=[]) hm hso (f.nodup.sublist bW)) ?_ ?_
   ·rintro ⟨hp,e4⟩;refine fC (kq _ (zgr 11 hp hne (ai hso.le (by decide)))) fun N hN hL=>?_;obtain⟨y,h',q1,q2,e5⟩:=za3 (k:=k) (O:=[]) (fun n hn=>zeu hm (znb hm) hn) ⟨hso,List.Sublist.refl _⟩ hne hN hL hso.le (fun uA h=>nomatch h);refine fD _ (zj (fn:=c19) rfl ⟨rfl,by decide⟩ rfl (pre ((zc (zx e3)).trans ((zc (zz (zi rfl e4) rfl rfl)).trans ((zc (zx (zp rfl rfl rfl))).trans ((zc (zq0 rfl (zi rfl e5) rfl)).trans (ze (z8 rfl)))))))) (.plan N hne hN hp hL y h' q1 q2 rfl)
   ·rintro ⟨hp,x,y,pr,e4⟩;exact fD _ (zj (fn:=c19) rfl ⟨rfl,by decide⟩ rfl (pre ((zc (zx e3)).trans ((zc (zz (zi rfl e4) rfl rfl)).trans (ze ((w_if (zp rfl rfl rfl)).trans ((af rfl).trans (ze (z8 rfl))))))))) (.alike hne hp x y pr rfl)
end
theorem kr:∀ a b:Cs,PyData.eqvAll (zb a) (zb b)=decide (a=b)
 | [],[]=>rfl
 | [],_::_=>rfl
 | _::_,[]=>rfl
 | c::a,e::b=>by
   show (PyData.eqv (caseD c) (caseD e) && PyData.eqvAll (zb a) (zb b))=_;rw[za0,kr a b,<- Bool.decide_and];exact decide_eq_decide.mpr List.cons_eq_cons.symm
theorem zkd{a b:Cs}{O:za}:cmpV .eq (.d (.list (zb a))) (.d (.list (zb b))) O=.ok (.d (.bool (decide (a=b)))) O:=by
 rw[v_eq];show opt (Option.map _ (if eqOk (.list (zb a)) (.list (zb b))=true then some (PyData.eqvAll (zb a) (zb b)) else none)) O=_;rw[af (uv (j9 a) (j9 b) (ai (Lay.list (xd b)).depth (by decide))),kr];rfl
theorem zoq{cs:Cs}{O:za}:cmpV .ne (.d (.list (zb cs))) (.d (.list [])) O=.ok (.d (.bool (!decide (cs=[])))) O:=by
 rw[v_ne];show opt (Option.map _ (if eqOk (.list (zb cs)) (.list [])=true then some (!PyData.eqvAll (zb cs) (zb [])) else none)) O=_;rw[af (uv (j9 cs) rfl (by decide)),kr];rfl
theorem q_TT{O:za}:cmpV .eq (.d (.str sT)) (.d (.str sT)) O=.ok (.d (.bool true)) O:=by kernel_rfl
theorem q_WT{O:za}:cmpV .eq (.d (.str sW)) (.d (.str sT)) O=.ok (.d (.bool false)) O:=by kernel_rfl
theorem n_WW{O:za}:cmpV .ne (.d (.str sW)) (.d (.str sW)) O=.ok (.d (.bool false)) O:=by kernel_rfl
section
variable{m k:Nat}{cs ps:Cs}{p q:Pl}{a b:Option V}
theorem Pl.fits_nil(h:p.fits m []):p=.no:=by
 cases p with
 | no=>rfl
 | told c=>exact nomatch h
 | weigh w a b c=>exact absurd rfl h.2.1
noncomputable def Pl.isNo:Pl->Bool
 | .no=>true
 | _=>false
theorem Pl.fits_ne(h:p.fits m cs)(hc:cs≠[]):p.isNo=false:=by
 cases p with
 | no=>exact absurd h hc
 | told c=>rfl
 | weigh w a b c=>rfl
noncomputable def optI(p:Pl):List Int:=if p.isNo then [] else [(p.hgt:Int)]
theorem zal{i:Int}(h:i∈optI p):i=p.hgt:=by
 unfold optI at h
 cases hn:p.isNo with
 | true=>rw[hn] at h;cases h
 | false=>rw[hn] at h;exact ae.mp h
theorem zdf{M:Int}(h0:0<=M)(h:∀ i∈optI p,i<=M):(p.hgt:Int)<=M:=by
 cases p with
 | no=>exact h0
 | told c=>exact h0
 | weigh w a b c=>exact h _ (.head _)
theorem zjn:∀ {l:List Int},l≠[]->∃ M,maxI l=some M/\M∈l/\∀ a∈l,a<=M
 | [],h=>absurd rfl h
 | a::r,_=>by
   refine fI (zdh r a) fun h1 h2 h3=>?_;refine fJ _ rfl ?_ (fun b hb=>?_)
   ·refine fx h1 ?_ ?_
    ·intro h1;rw[h1];exact .head _
    ·intro h1;exact .tail _ h1
   ·refine fx (ag.mp hb) ?_ ?_
    ·rintro rfl;exact h2
    ·intro hb;exact h3 b hb
theorem zor{w:Wg}{a b c:Pl}(h:(Pl.weigh w a b c).fits m cs)(hne:cs≠[]):maxI (optI a++(optI b++optI c))=some ((max a.hgt (max b.hgt c.hgt):Nat):Int):=by
 refine f5 h fun hw fy ha hb hd=>?_;have hL:optI a++(optI b++optI c)≠[]:=fun e=>by
  refine fG (List.exists_mem_of_ne_nil _ hne) fun k hk=>?_;refine fH (List.append_eq_nil_iff.mp e) fun e1 e2=>?_;refine fH (List.append_eq_nil_iff.mp e2) fun e2 e3=>?_;have no:∀ {p:Pl} {o:Int},p.fits m (zg w o cs)->optI p=[]->yg w k≠o:=fun {p o} hp hn ho=>by
   have:p.isNo=false:=Pl.fits_ne hp fun e=>by have:=mem_part.mpr ⟨hk,ho⟩;rw[e] at this;cases this
   unfold optI at hn;rw[this] at hn;contradiction
  rcases zb6 (jp k w.1 - jp k w.2) with h | h | h
  ·exact no ha e1 h
  ·exact no hb e2 h
  ·exact no hd e3 h
 refine fN (zjn hL) fun M hM hin hle=>?_;rw[hM];have hm:M=(a.hgt:Int)\/M=b.hgt\/M=c.hgt:=by
  refine fx (aj.mp hin) (fun h=>?_) fun h=>?_
  ·exact .inl (zal h)
  refine fx (aj.mp h) ?_ ?_
  ·intro h;exact .inr (.inl (zal h))
  ·intro h;exact .inr (.inr (zal h))
 have h0:0<=M:=by rcases hm with rfl | rfl | rfl <;> exact Int.natCast_nonneg _
 have l1:=zdf h0 fun i hi=>hle i (aC (bs:=optI b++optI c) (as:=optI a) hi);have l2:=zdf h0 fun i hi=>hle i (aq (optI a) (aC (optI c) hi));have l3:=zdf h0 fun i hi=>hle i (aq (optI a) (aq (optI b) hi));refine fG (Int.eq_ofNat_of_zero_le h0) fun N eN=>?_;subst eN;refine bR (fun n:Nat=>some (n:Int)) (dO ?_ (eB.mpr ⟨Int.ofNat_le.mp l1,eB.mpr ⟨Int.ofNat_le.mp l2,Int.ofNat_le.mp l3⟩⟩));rcases hm with h | h | h
 ·exact Int.ofNat.inj h ▸ bm _ _
 ·exact Int.ofNat.inj h ▸ ai (bm _ _) (a5 _ _)
 ·exact Int.ofNat.inj h ▸ ai (a5 _ _) (a5 _ _)
noncomputable def optP(p:Pl):Option PyData:=if p.isNo then none else some (.int p.hgt)
theorem un:(optP p).toList=(optI p).map .int:=by
 unfold optP optI
 cases p.isNo <;> rfl
theorem t_len(h:p.isNo=false->zf P table k false 36 [.d p.toD] []=.ok (.d (.int p.hgt)) []) :
 xk (.name 1) (fun ρ O=>xl (PG k false) ρ #[.cmp .isnot (.loc 1) .none] O) (fun ρ O=>evE (PG k false) ρ (.call 36 #[.loc 1]) O) [a,none] p.toD []=.ok (optP p) []:=by
 have hi:evE (PG k false) [a,some (.d p.toD)] (.cmp .isnot (.loc 1) .none) []=.ok (.d (.bool (!p.isNo))) []:=by
  cases p <;> rfl
 show R.bind (xl (PG k false) [a,some (.d p.toD)] #[.cmp .isnot (.loc 1) .none] []) _=_;rw[zbx,hi];unfold optP
 cases hn:p.isNo with
 | true=>rfl
 | false=>
   show R.bind (evE (PG k false) [a,some (.d p.toD)] (.call 36 #[.loc 1]) []) _=_;rw[zi rfl (h hn)];rfl
theorem zqt{P:Pg}{ρ:Loc}{O O':za}{a:CE}{is:List Int}{M:Int}(hd:P.hd=false)(h:evE P ρ a O=.ok (.d (.list (is.map .int))) O')(hM:maxI is=some M):evE P ρ (.maxL a) O=.ok (.d (.int M)) O':=by
 show (if P.hd=true then .stuck else _:R za V)=_;rw[ak (by rw[hd];decide),h];show opt (((intsOf (is.map .int)).bind fun is=>(maxI is).map PyData.int).map V.d) O'=_;rw[ur];show opt (((maxI is).map PyData.int).map V.d) O'=_;rw[hM];rfl
theorem zvq{src:Src}{turn:PyData->za->R za (Option PyData)}{x1 x2 x3:PyData}{y1 y2 y3:Option PyData}{O:za}(hs:src.still O=true)(h1:turn x1 O=.ok y1 O)(h2:turn x2 O=.ok y2 O)(h3:turn x3 O=.ok y3 O) :
 yl src turn [x1,x2,x3] [] O=.ok (.d (.list (y1.toList++(y2.toList++y3.toList)))) O:=by
 have st:∀ {x:PyData} {y:Option PyData} {xs acc:List PyData},turn x O=.ok y O->yl src turn (x::xs) acc O=yl src turn xs (acc++y.toList) O:=fun h=>by rw[pw,h];exact af hs
 rw[st h1,st h2,st h3,bj,bj,List.nil_append];rfl
theorem Pl.ne_of(h:p.fits m cs)(hn:p.isNo=false):cs≠[]:=fun e=>by
 subst e;rw[Pl.fits_nil h] at hn;contradiction
theorem zir:∀ (p:Pl) (cs:Cs),p.fits m cs->cs≠[]->∀ k,zf P table (k+p.hgt+1) false 36 [.d p.toD] []=.ok (.d (.int p.hgt)) []
 | .no,cs,h,hne,_=>absurd h hne
 | .told c,cs,h,_,k=>zj (fn:=c36) rfl ⟨rfl,by decide⟩ rfl (ze ((w_if (bb:=true) (zp rfl rfl q_TT)).trans rfl))
 | .weigh w a b c,cs,h,hne,k=>by
   have hM:=zor h hne;refine f5 h fun hw fy ha hb hd=>?_;have up:∀ {p:Pl} {l:Cs},p.fits m l->p.hgt<=max a.hgt (max b.hgt c.hgt)->(l≠[]->∀ k,zf P table (k+p.hgt+1) false 36 [.d p.toD] []=.ok (.d (.int p.hgt)) [])->p.isNo=false->zf P table (k+max a.hgt (max b.hgt c.hgt)+1) false 36 [.d p.toD] []=.ok (.d (.int p.hgt)) []:=fun {p l} hp hle ih hn=>by
    have:=ih (Pl.ne_of hp hn) (k+(max a.hgt (max b.hgt c.hgt) - p.hgt));rwa [show k+(max a.hgt (max b.hgt c.hgt) - p.hgt)+p.hgt+1=k+max a.hgt (max b.hgt c.hgt)+1 by lia] at this
   have t1:=t_len (a:=some (.d (Pl.weigh w a b c).toD)) (up ha (bm _ _) (zir a _ ha));have t2:=t_len (a:=some (.d (Pl.weigh w a b c).toD)) (up hb (ai (bm _ _) (a5 _ _)) (zir b _ hb));have t3:=t_len (a:=some (.d (Pl.weigh w a b c).toD)) (up hd (ai (a5 _ _) (a5 _ _)) (zir c _ hd));have hc:=zvq (src:=.plain [a.toD,b.toD,c.toD]) rfl t1 t2 t3;rw[un,un,un,<- eL,<- eL] at hc;have hk:((Pl.weigh w a b c).hgt:Int)=1+((max a.hgt (max b.hgt c.hgt):Nat):Int):=by show ((_+1:Nat):Int)=_;lia
   rw[hk];refine zj (fn:=c36) rfl ⟨rfl,by decide⟩ rfl ((zc (zx (zp rfl rfl q_WT))).trans (ze (z8 (yd rfl (zqt rfl ?_ hM) gg))));exact hc
theorem Pl.solv:∀ (p:Pl) (cs:Cs),p.fits m cs->cs≠[]->solv (dueI m) p.hgt cs=true
 | .no,cs,h,hne=>absurd h hne
 | .told c,cs,h,_=>by have h:cs=[c]:=h;subst h;exact xx rfl
 | .weigh w a b c,cs,h,hne=>by
   refine f5 h fun hw fy ha hb hd=>?_;have up:∀ {p:Pl} {l:Cs},(l≠[]->Mine.L06.solv (dueI m) p.hgt l=true)->p.hgt<=max a.hgt (max b.hgt c.hgt)->l=[]\/Mine.L06.solv (dueI m) (max a.hgt (max b.hgt c.hgt)) l=true:=fun {p l} ih hle=>by
    by_cases hl:l=[]
    ·exact .inl hl
    ·exact .inr (zh1 (ih hl) hle)
   refine wy hw fun o ho=>?_;refine fx (ag.mp ho) ?_ ?_;rotate_left;intro ho;rotate_right;rintro rfl
   ·exact up (Pl.solv a _ ha) (bm _ _)
   refine fx (ag.mp ho) ?_ ?_
   ·rintro rfl;exact up (Pl.solv b _ hb) (ai (bm _ _) (a5 _ _))
   ·intro ho;rw[ae.mp ho];exact up (Pl.solv c _ hd) (ai (a5 _ _) (a5 _ _))
end
theorem zpp{m:Nat}(hm:m4 m):∀ x∈due m,Lay 10 x:=by
 have h:((due m).all fun x=>x.canLay0 && decide (x.depth<=10))=true:=by rcases k6 hm with rfl | rfl | rfl | rfl <;> decide +kernel
 intro x hx;have:=aV.mp h x hx;rw[aM,aP] at this;exact⟨this.1,this.2⟩
noncomputable def zaz(a b:List Int)(x:PyData):Option PyData:=if yg (unW x) a=yg (unW x) b then none else some x
section
variable{m k n:Nat}{cs:Cs}{a b:List Int}
theorem znd:((due m).filterMap (zaz a b)).isEmpty=yc (dueI m) a b:=by
 rw[za2];show ((dueI m).map fun p=>wOf p.1 p.2).all _=_;unfold yc;rw[List.all_map];congr 1;funext w;show (zaz a b (wD w)).isNone=_;unfold zaz;rw[zhw];by_cases h:yg w a=yg w b
 ·rw[af h,aA h];rfl
 ·rw[ak h,aF h];rfl
theorem zfe(hm:m4 m)(ha:good m a)(hb:good m b):zf P table (k+2) false 30 [.d (.list (due m)),.d (caseD a),.d (caseD b)] []=.ok (.d (.bool (yc (dueI m) a b))) []:=by
 have hl:(due m).length<=line:=(zis hm).2;have hc:=q8 (P:=PG (k+1) false) (ρ:=[some (.d (.list (due m))),some (.d (caseD a)),some (.d (caseD b)),none]) (elt:=.loc 3) (tgt:=.name 3) (it:=.e (.loc 0)) (ifs:=.cons (.cmp .ne (.call 24 #[.loc 3,.loc 1]) (.call 24 #[.loc 3,.loc 2])) .nil) (O:=[]) (src:=.plain (due m)) rfl rfl rfl hl (zaz a b) fun x hx=>by
  refine fC (az.mp hx) fun w hw eO=>?_;subst eO;have hw':w∈wsI m:=bG.mpr ⟨w,hw,.head _⟩;have et:evE (PG (k+1) false) [some (.d (.list (due m))),some (.d (caseD a)),some (.d (caseD b)),some (.d (wD w))] (.cmp .ne (.call 24 #[.loc 3,.loc 1]) (.call 24 #[.loc 3,.loc 2])) []=.ok (.d (.bool (!decide (yg w a=yg w b)))) []:=zp (zi rfl (g9 hm hw' a ha)) (zi rfl (g9 hm hw' b hb)) ne_int;show R.bind (xl (PG (k+1) false) [some (.d (.list (due m))),some (.d (caseD a)),some (.d (caseD b)),some (.d (wD w))] _ []) _=_;rw[zbx,et];unfold zaz;rw[zhw];by_cases h:yg w a=yg w b
  ·rw[af h,aA h];rfl
  ·rw[ak h,aF h];rfl
 refine zj (fn:=c30) rfl ⟨rfl,by decide⟩ rfl (ze (z8 (zp hc rfl ((de fun x hx=>?_).trans ?_))))
 ·refine fC (List.mem_filterMap.mp hx) fun z hz e=>?_;unfold zaz at e;by_cases h:yg (unW z) a=yg (unW z) b
  ·rw[af h] at e;contradiction
  ·rw[ak h] at e;injection e with fu;subst fu;exact zpp hm _ hz
 ·show R.ok (V.d (.bool ((due m).filterMap (zaz a b)).isEmpty)) []=_;rw[znd]
noncomputable abbrev R36(m:Nat)(cs:Cs)(a b:Option V):Loc:=[some (.d (.list (due m))),some (.d (.list (zb cs))),a,b]
noncomputable def inB:CSs:=.cons (.ife (.call 30 #[.loc 0,.idx (.loc 1) (.loc 2),.loc 3]) #[.ret (.bool true)] .nil) .nil
noncomputable def outB:CSs:=.cons (.for_ (.name 3) (.e (.slice (.loc 1) .none (.loc 2))) inB) .nil
theorem zsi{i:Nat}{c:List Int}(h:Ok12 m cs)(hi:cs[i]?=some c):idxV (.d (.list (zb cs))) (.d (.int (i:Int))) []=.ok (.d (caseD c)) []:=by
 have e:(zb cs)[i]?=some (caseD c):=by unfold zb;rw[aU,hi];rfl
 rw[kx];have e2:idxD (.list (zb cs)) (.int (i:Int))=some (caseD c):=by
  unfold idxD items;dsimp only;rw[af h.line,af (Int.natCast_nonneg i),cw];exact e
 rw[e2];rfl
theorem zk5{P:Pg}{ρ:Loc}{O:za}{a b:CE}{i:Nat}(h:Ok12 m cs)(ha:evE P ρ a O=.ok (.d (.list (zb cs))) O)(hb:evE P ρ b O=.ok (.d (.int (i:Int))) O):evE P ρ (.slice a .none b) O=.ok (.d (.list (zb (cs.take i)))) O:=by
 have hc:clipAt (zb cs).length (i:Int)=min i cs.length:=by
  have:=clipAt_cast (zb cs).length (i:Int);rw[ak (by lia),zq] at this;rw[zq];lia
 rw[zhr,ha,zw,show evE P ρ .none O=.ok (.d .none) O from rfl,zw,hb,zw];show opt ((jq (zb cs) .none (.int (i:Int))).map V.d) O=_;unfold jq;rw[af h.line];show R.ok (V.d (.list (qc (zb cs) 0 (clipAt (zb cs).length (i:Int))))) O=_;rw[hc];unfold qc zb;rw[List.drop_zero,Nat.sub_zero,<- List.map_take,List.take_eq_take_min (i:=i)]
theorem zbf:yc (dueI m) a b=yc (dueI m) b a:=by
 unfold yc;congr 1;funext w;exact decide_eq_decide.mpr eq_comm
theorem l_in(hm:m4 m)(h:Ok12 m cs){i:Nat}{c:List Int}(hi:cs[i]?=some c)(hc:good m c){zs:List PyData}:∀ (l:Cs),(∀ c∈l,good m c)->∀ e:Option V,
 (l.any (yc (dueI m) c)=false/\∃ e',zv (.plain zs) (z6 (PG (k+2) false) (.name 3) inB) (zb l) (R36 m cs (some (.d (.int (i:Int)))) e) []=.ok .next (R36 m cs (some (.d (.int (i:Int)))) e',[])) \/
 (l.any (yc (dueI m) c)=true/\∃ ρ',zv (.plain zs) (z6 (PG (k+2) false) (.name 3) inB) (zb l) (R36 m cs (some (.d (.int (i:Int)))) e) []=.ok (.ret (.d (.bool true))) (ρ',[]))
 | [],_,e=>.inl ⟨rfl,e,rfl⟩
 | b::l,hl,e=>by
   have et:evE (PG (k+2) false) (R36 m cs (some (.d (.int (i:Int)))) (some (.d (caseD b)))) (.call 30 #[.loc 0,.idx (.loc 1) (.loc 2),.loc 3]) []=.ok (.d (.bool (yc (dueI m) c b))) []:=zi (zh rfl (zh (zy rfl rfl (zsi h hi)) (zh rfl rfl))) (zfe hm hc (hl b (.head _)))
   cases hb:yc (dueI m) c b with
   | true=>
     rw[hb] at et;have h1:z6 (PG (k+2) false) (.name 3) inB (caseD b) (R36 m cs (some (.d (.int (i:Int)))) e) []=.ok (.ret (.d (.bool true))) (R36 m cs (some (.d (.int (i:Int)))) (some (.d (caseD b))),[]):=
      ze (P:=PG (k+2) false) (ρ:=R36 m cs (some (.d (.int (i:Int)))) (some (.d (caseD b)))) ((w_if et).trans ((af rfl).trans (ze (z8 rfl))))
     exact .inr ⟨by rw[dH,hb];rfl,_,vm h1⟩
   | false=>
     rw[hb] at et;have h1:z6 (PG (k+2) false) (.name 3) inB (caseD b) (R36 m cs (some (.d (.int (i:Int)))) e) []=.ok .next (R36 m cs (some (.d (.int (i:Int)))) (some (.d (caseD b))),[]):=
      (zc (P:=PG (k+2) false) (ρ:=R36 m cs (some (.d (.int (i:Int)))) (some (.d (caseD b)))) (zx et)).trans rfl
     have hany:(b::l).any (yc (dueI m) c)=l.any (yc (dueI m) c):=by rw[dH,hb];rfl
     rw[hany,show zb (b::l)=caseD b::zb l from rfl,yx h1];exact l_in hm h hi hc l (fun c hc=>hl c (.tail _ hc)) _
theorem zqh(hm:m4 m)(h:Ok12 m cs){zs:List PyData}:∀ (l:Cs) (i:Nat) (a b:Option V),cs.drop i=l->Pw (dueI m) (cs.take i) ->
 (Pw (dueI m) cs/\∃ a' b',zv (.plain zs) (z6 (PG (k+2) false) (.name 2) outB) ((l.zipIdx i).map fun p=>.int (p.2:Int)) (R36 m cs a b) []=.ok .next (R36 m cs a' b',[])) \/
 (¬ Pw (dueI m) cs/\∃ ρ',zv (.plain zs) (z6 (PG (k+2) false) (.name 2) outB) ((l.zipIdx i).map fun p=>.int (p.2:Int)) (R36 m cs a b) []=.ok (.ret (.d (.bool true))) (ρ',[]))
 | [],i,a,b,hd,hp=>.inl ⟨by rwa [cE (List.drop_eq_nil_iff.mp hd)] at hp,a,b,rfl⟩
 | c::l,i,a,b,hd,hp=>by
   have hi:cs[i]?=some c:=by
    have:(cs.drop i)[0]?=some c:=by rw[hd];rfl
    rwa [List.getElem?_drop,Nat.add_zero] at this
   have hd':cs.drop (i+1)=l:=by rw[<- List.drop_drop,hd];rfl
   have ht:cs.take (i+1)=cs.take i++[c]:=by rw[List.take_succ,hi];rfl
   have hc:good m c:=h.good c (ay hi);have ef:evS (PG (k+2) false) (.for_ (.name 3) (.e (.slice (.loc 1) .none (.loc 2))) inB) (R36 m cs (some (.d (.int (i:Int)))) b) []=zv (.plain (zb (cs.take i))) (z6 (PG (k+2) false) (.name 3) inB) (zb (cs.take i)) (R36 m cs (some (.d (.int (i:Int)))) b) []:=by
    rw[jn,ak ao,x_e,zk5 h rfl rfl];rfl
   rw[eF,a6];refine fx (l_in (k:=k) (zs:=zb (cs.take i)) hm h hi hc (cs.take i) (fun x hx=>h.good x (cU hx)) b) ?_ ?_
   ·rintro ⟨hb,e',h1⟩;have ht1:z6 (PG (k+2) false) (.name 2) outB (.int (i:Int)) (R36 m cs a b) []=.ok .next (R36 m cs (some (.d (.int (i:Int)))) e',[]):=
     (zc (P:=PG (k+2) false) (ρ:=R36 m cs (some (.d (.int (i:Int)))) b) (ef.trans h1)).trans rfl
    rw[yx ht1];refine zqh hm h l (i+1) _ _ hd' ?_;rw[ht];refine bF.mpr ⟨hp,List.pairwise_singleton _ _,fun x hx y hy=>?_⟩;rw[ae.mp hy,zbf];exact any_alike.mp hb x hx
   ·rintro ⟨hb,ρ',h1⟩;have ht1:z6 (PG (k+2) false) (.name 2) outB (.int (i:Int)) (R36 m cs a b) []=.ok (.ret (.d (.bool true))) (ρ',[]):=
     ze (P:=PG (k+2) false) (ρ:=R36 m cs (some (.d (.int (i:Int)))) b) (ef.trans h1)
    refine .inr ⟨fun hpw=>?_,ρ',vm ht1⟩;have hpw:Pw (dueI m) (cs.take (i+1)):=hpw.sublist (List.take_sublist _ _);rw[ht] at hpw;have:=(bF.mp hpw).2.2;rw[any_alike.mpr fun x hx=>by rw[zbf];exact this x hx c (.head _)] at hb;contradiction
theorem zhi(hm:m4 m)(h:Ok12 m cs):(Pw (dueI m) cs/\zf P table (k+3) false 31 [.d (.list (due m)),.d (.list (zb cs))] []=.ok (.d (.bool false)) [])\/(¬ Pw (dueI m) cs/\zf P table (k+3) false 31 [.d (.list (due m)),.d (.list (zb cs))] []=.ok (.d (.bool true)) []):=by
 have er:zl 0 ((zb cs).length:Int)=(cs.zipIdx 0).map fun p=>.int (p.2:Int):=by
  rw[show (fun p:List Int×Nat=>PyData.int (p.2:Int))=(fun i:Nat=>PyData.int (i:Int))∘Prod.snd from rfl,<- cI,List.zipIdx_map_snd,<- List.range_eq_range',zq];unfold zl;rw[Int.sub_zero,cw];exact cz fun i uA=>by rw[Int.zero_add]
 have hI:evI (PG (k+2) false) (R36 m cs none none) (.range (.int 0) (.prim .len #[.loc 1])) []=.ok (.plain (zl 0 ((zb cs).length:Int))) []:=by
  have:evE (PG (k+2) false) (R36 m cs none none) (.prim .len #[.loc 1]) []=.ok (.d (.int ((zb cs).length:Int))) []:=yj rfl rfl (xo rfl h.line);rw[q7,jc,zw,this,zw];have:=h.le;exact xn (by rw[zq];lia)
 have ef:evS (PG (k+2) false) (.for_ (.name 2) (.range (.int 0) (.prim .len #[.loc 1])) outB) (R36 m cs none none) []=zv (.plain ((cs.zipIdx 0).map fun p=>.int (p.2:Int))) (z6 (PG (k+2) false) (.name 2) outB) ((cs.zipIdx 0).map fun p=>.int (p.2:Int)) (R36 m cs none none) []:=by
  rw[jn,ak ao,hI,er];rfl
 refine fx (zqh (k:=k) (zs:=(cs.zipIdx 0).map fun p=>.int (p.2:Int)) hm h cs 0 none none rfl List.Pairwise.nil) ?_ ?_
 ·rintro ⟨hp,a',b',h1⟩;exact .inl ⟨hp,zj (fn:=c31) rfl ⟨rfl,by decide⟩ rfl ((zc (ef.trans h1)).trans (ze (z8 rfl)))⟩
 ·rintro ⟨hp,ρ',h1⟩;exact .inr ⟨hp,zj (fn:=c31) rfl ⟨rfl,by decide⟩ rfl (ze (ef.trans h1))⟩
end
theorem zj4{k n:Nat}(hn:n<=11):zf P table (k+1) false 37 [.d (.int n)] []=.ok (.d (.int ((3 ^ n:Nat):Int))) []:=by
 have key:(List.range 12).map (fun n:Nat=>zf P table (k+1) false 37 [.d (.int n)] [])=(List.range 12).map fun n:Nat=>.ok (.d (.int ((3 ^ n:Nat):Int))) []:=by kernel_rfl
 exact km key (aZ.mpr (cS hn))
abbrev wQ(m k:Nat):Prop:=(dueI m).map (fun w=>zf P table (k+3) false 33 [.d (.int m),.d (wD w)] [])=(dueI m).map fun w=>.ok (.d (.bool true)) []
theorem wq2{k:Nat}:wQ 2 k:=by kernel_rfl
theorem wq3{k:Nat}:wQ 3 k:=by kernel_rfl
theorem wq4{k:Nat}:wQ 4 k:=by kernel_rfl
theorem wq5{k:Nat}:wQ 5 k:=by kernel_rfl
theorem zvb{k m:Nat}{w:Wg}(hm:m4 m)(hw:w∈dueI m):zf P table (k+3) false 33 [.d (.int m),.d (wD w)] []=.ok (.d (.bool true)) []:=by
 rcases k6 hm with rfl | rfl | rfl | rfl
 ·exact km wq2 hw
 ·exact km wq3 hw
 ·exact km wq4 hw
 ·exact km wq5 hw
theorem zin{a b:List Int}{O:za}:cmpV .eq (.d (caseD a)) (.d (caseD b)) O=.ok (.d (.bool (decide (a=b)))) O:=by
 rw[v_eq];show opt (Option.map _ (if eqOk (caseD a) (caseD b)=true then some (PyData.eqv (caseD a) (caseD b)) else none)) O=_;have hb:∀ c,Lay 10 (caseD c):=fun c=>xd [c] _ (.head _);rw[af (by unfold eqOk;rw[(hb a).lay,(hb b).lay,aA (ai (Nat.min_le_right _ _) (ai (hb b).depth (by decide)))];rfl),za0];rfl
theorem zcx{P':Nat}{ρ:Loc}{c:List Int}{a b:Nat}(ha:Nat.blt b ρ.length=true)(hb:ρ[a]?=some (some (.d (caseD c))))(hl:c.length<=5):evE (PG (P' + 1) false) ρ (.prim .all #[.comp (.call 23 #[.loc b]) (.name b) (.e (.loc a)) .nil]) []=.ok (.d (.bool true)) []:=by
 have ha:b < ρ.length:=cK ha;have hI:evI (PG (P' + 1) false) ρ (.e (.loc a)) []=.ok (.plain (c.map .int)) []:=by rw[x_e,xu,hb];rfl
 have:=wp (P:=PG (P' + 1) false) (ρ:=ρ) (elt:=.call 23 #[.loc b]) (tgt:=.name b) (it:=.e (.loc a)) (O:=[]) (fun uA=>true) rfl hI rfl rfl (by show (c.map PyData.int).length<=line;rw[aL];exact ai hl (by decide)) fun x hx=>by
  refine fC (az.mp hx) fun i fy eO=>?_;subst eO;have ea:evE (PG (P' + 1) false) (ρ.set b (some (.d (.int i)))) (.loc b) []=.ok (.d (.int i)) []:=by rw[xu,bY ha];rfl
  exact fD (ρ.set b (some (.d (.int i)))) (af ha) (zi (zh ea rfl) (zdq (k:=P')))
 rw[this];congr 3;exact aV.mpr fun uA uA=>rfl
theorem zav{m:Nat}{c:List Int}(hm:m4 m)(h:good m c):c.length<=5:=by have:=hm.2;have:=h.1;lia
theorem zhj{k m:Nat}{c:List Int}(hm:m4 m)(h:good m c):zf P table (k+2) false 34 [.d (caseD c),.d (caseD c)] []=.ok (.d (.bool true)) []:=
 zj (fn:=c34) (ρ':=[some (.d (caseD c)),some (.d (caseD c)),none]) rfl ⟨rfl,by decide⟩ rfl (ze (z8 (je rfl (je ((zp rfl rfl zin).trans (by rw[aA rfl])) (zcx (c:=c) rfl rfl (zav hm h))))))
noncomputable abbrev RP(m:Nat)(cs:Cs)(d:PyData)(a b c:Option V):Loc:=[some (.d (.int m)),some (.d (.list (zb cs))),some (.d d),a,b,c,none]
noncomputable def zqa:CSs:=#[.asg (.name 4) (.comp (.loc 6) (.name 6) (.e (.loc 1)) #[.cmp .eq (.call 24 #[.idx (.loc 2) (.int 1),.loc 6]) (.bin .sub (.loc 3) (.int 1))]),.asg (.name 5) (.idx (.idx (.loc 2) (.int 2)) (.loc 3)),.ife (.or_ (.and_ (.cmp .eq (.loc 4) (.list .nil)) (.cmp .isnot (.loc 5) .none)) (.and_ (.cmp .ne (.loc 4) (.list .nil)) (.nt (.call 35 #[.loc 0,.loc 4,.loc 5])))) #[.ret (.bool false)] .nil]
section
variable{m k:Nat}{cs ps:Cs}{p q:Pl}
theorem zf9(hm:m4 m)(h:Ok12 m cs){w:Wg}(hw:w∈dueI m){a b c p:Pl}{i o:Int}(hi:i - 1=o)(hx:idxV (.d (.tuple [a.toD,b.toD,c.toD])) (.d (.int i)) []=.ok (.d p.toD) [])(hf:p.fits m (zg w o cs))(hc:zg w o cs≠[]->zf P table (k+1) false 35 [.d (.int m),.d (.list (zb (zg w o cs))),.d p.toD] []=.ok (.d (.bool true)) []){x y z:Option V} :
 z6 (PG (k+1) false) (.name 3) zqa (.int i) (RP m cs (Pl.weigh w a b c).toD x y z) []=.ok .next (RP m cs (Pl.weigh w a b c).toD (some (.d (.int i))) (some (.d (.list (zb (zg w o cs))))) (some (.d p.toD)),[]):=by
 have hw':w∈wsI m:=bG.mpr ⟨w,hw,.head _⟩;have ep:=zhg (k:=k+1) (f:=24) (a:=6) (b:=1) (w:=w) (o:=o) (wx:=.idx (.loc 2) (.int 1)) (ox:=.bin .sub (.loc 3) (.int 1)) (ρ:=RP m cs (Pl.weigh w a b c).toD (some (.d (.int i))) y z) (O:=[]) h (g9 hm hw') rfl rfl (fun uA=>zy rfl rfl rfl) fun uA=>(yd rfl rfl v8).trans (by rw[hi]);have e1:evE (PG (k+1) false) (RP m cs (Pl.weigh w a b c).toD (some (.d (.int i))) (some (.d (.list (zb (zg w o cs))))) (some (.d p.toD))) (.cmp .eq (.loc 4) (.list .nil)) []=.ok (.d (.bool (decide (zg w o cs=[])))) []:=zp rfl rfl (zkd (b:=[]));have e2:evE (PG (k+1) false) (RP m cs (Pl.weigh w a b c).toD (some (.d (.int i))) (some (.d (.list (zb (zg w o cs))))) (some (.d p.toD))) (.cmp .ne (.loc 4) (.list .nil)) []=.ok (.d (.bool (!decide (zg w o cs=[])))) []:=zp rfl rfl zoq;refine (zc (P:=PG (k+1) false) (ρ:=RP m cs (Pl.weigh w a b c).toD (some (.d (.int i))) y z) (zz ep rfl rfl)).trans ((zc (zz (zy (zy rfl rfl rfl) rfl hx) rfl rfl)).trans ?_);by_cases he:zg w o cs=[]
 ·rw[he] at hf e1 e2 ⊢
  rw[aA rfl] at e1 e2;have hp:=Pl.fits_nil hf;subst hp;exact (zc (zx (yf (je e1 rfl) (zc2 e2)))).trans rfl
 ·rw[aF he] at e1 e2;exact (zc (zx (yf (zc2 e1) (je e2 (w_nt (bb:=true) (zi rfl (hc he))))))).trans rfl
theorem zds(hm:m4 m):∀ (p:Pl) (cs:Cs),p.fits m cs->Ok12 m cs->cs≠[]->∀ k,zf P table (k+p.hgt+4) false 35 [.d (.int m),.d (.list (zb cs)),.d p.toD] []=.ok (.d (.bool true)) []
 | .no,cs,h,_,hne,_=>absurd h hne
 | .told c,cs,h,hc,_,k=>by
   have h:cs=[c]:=h;subst h;have hg:good m c:=hc.good c (.head _);exact zj (fn:=c35) (ρ':=RP m [c] (Pl.told c).toD none none none) rfl ⟨rfl,by decide⟩ rfl ((zc (zx rfl)).trans (ze ((w_if (bb:=true) (zp rfl rfl q_TT)).trans (ze (z8 (je rfl (je rfl (zi (zh (zy rfl rfl rfl) (zh (zy rfl rfl rfl) rfl)) (zhj (k:=k+1) hm hg)))))))))
 | .weigh w a b c,cs,h,hc,hne,k=>by
   refine f5 h fun hw fy ha hb hd=>?_;have up:∀ {p:Pl} {o:Int},p.fits m (zg w o cs)->p.hgt<=max a.hgt (max b.hgt c.hgt)->(Ok12 m (zg w o cs)->zg w o cs≠[]->∀ k,zf P table (k+p.hgt+4) false 35 [.d (.int m),.d (.list (zb (zg w o cs))),.d p.toD] []=.ok (.d (.bool true)) [])->zg w o cs≠[]->zf P table (k+max a.hgt (max b.hgt c.hgt)+3+1) false 35 [.d (.int m),.d (.list (zb (zg w o cs))),.d p.toD] []=.ok (.d (.bool true)) []:=fun {p o} hp hle ih hn=>by
    have:=ih (hc.part w o) hn (k+(max a.hgt (max b.hgt c.hgt) - p.hgt));rwa [show k+(max a.hgt (max b.hgt c.hgt) - p.hgt)+p.hgt+4=k+max a.hgt (max b.hgt c.hgt)+3+1 by lia] at this
   have u1:=up ha (bm _ _) (zds hm a _ ha);have u2:=up hb (ai (bm _ _) (a5 _ _)) (zds hm b _ hb);have u3:=up hd (ai (a5 _ _) (a5 _ _)) (zds hm c _ hd);have ef:evS (PG (k+max a.hgt (max b.hgt c.hgt)+4) false) (.for_ (.name 3) (.range (.int 0) (.int 3)) zqa) (RP m cs (Pl.weigh w a b c).toD none none none) []=.ok .next (RP m cs (Pl.weigh w a b c).toD (some (.d (.int 2))) (some (.d (.list (zb (zg w 1 cs))))) (some (.d c.toD)),[]):=by
    rw[jn,ak ao];exact (yx (ys:=[.int 0,.int 1,.int 2]) (xs:=[.int 1,.int 2]) (zf9 (i:=0) (k:=k+max a.hgt (max b.hgt c.hgt)+3) hm hc hw (by decide) rfl ha u1)).trans ((yx (xs:=[.int 2]) (zf9 (i:=1) (k:=k+max a.hgt (max b.hgt c.hgt)+3) hm hc hw (by decide) rfl hb u2)).trans ((yx (zf9 (i:=2) (k:=k+max a.hgt (max b.hgt c.hgt)+3) hm hc hw (by decide) rfl hd u3)).trans rfl))
   exact zj (fn:=c35) rfl ⟨rfl,by decide⟩ rfl ((zc (zx rfl)).trans ((zc (zx (zp rfl rfl q_WT))).trans ((zc (zx (yf (zp rfl rfl n_WW) (yf rfl (w_nt (bb:=true) (zi rfl (zvb (k:=k+max a.hgt (max b.hgt c.hgt)+1) hm hw))))))).trans ((zc (zx rfl)).trans ((zc ef).trans (ze (z8 rfl)))))))
end
noncomputable abbrev sM:Str:=Str.ofString "many"
noncomputable abbrev sE:Str:=Str.ofString "each"
theorem q_MM{O:za}:cmpV .eq (.d (.str sM)) (.d (.str sM)) O=.ok (.d (.bool true)) O:=by kernel_rfl
theorem q_EM{O:za}:cmpV .eq (.d (.str sE)) (.d (.str sM)) O=.ok (.d (.bool false)) O:=by kernel_rfl
theorem n_EE{O:za}:cmpV .ne (.d (.str sE)) (.d (.str sE)) O=.ok (.d (.bool false)) O:=by kernel_rfl
theorem zex{m n:Nat}{cs:Cs}(ih:∀ {cs:Cs} {y:PyData},Hd m n cs y->y.canLay0=true):∀ {ws:List Wg} {ys:List PyData},gw (Row m n cs) ws ys->PyData.canLayAll0 ys=true
 | [],ys,h=>by subst h;rfl
 | w::ws,ys,h=>by
   refine fL h ?_;clear h;intro y zs eO hr h;subst eO;refine fL hr ?_;clear hr;intro o z eO _ hz;subst eO;show ((true && (z.canLay0 && true)) && PyData.canLayAll0 zs)=true;rw[zex ih h,ih hz];rfl
theorem zap{m:Nat}:∀ {n:Nat} {cs:Cs} {y:PyData},Hd m n cs y->y.canLay0=true
 | 0,cs,y,h=>by rw[h.2];decide +kernel
 | n+1,cs,y,h=>by
   refine fx h ?_ ?_<;>clear h
   ·intro h;rw[h.2];decide +kernel
   ·rintro ⟨ys,rfl,h⟩;show ((PyData.str (Str.ofString "each")).canLay0 && (PyData.canLayAll0 ys && true))=true;rw[zex (fun h=>zap h) h];decide +kernel
theorem each_nil{ys:List PyData}{O:za}(h:(y5 ys).canLay0=true):cmpV .eq (.d (y5 ys)) (.d (.tuple [])) O=.ok (.d (.bool false)) O:=by
 have hk:eqOk (y5 ys) (.tuple [])=true:=by
  unfold eqOk;rw[h,aA (ai (Nat.min_le_right _ _) (by decide))];decide +kernel
 rw[v_eq];show opt (Option.map _ (if eqOk (y5 ys) (.tuple [])=true then some (PyData.eqv (y5 ys) (.tuple [])) else none)) O=_;rw[af hk];rfl
noncomputable abbrev RH(m n:Nat)(cs:Cs)(y:PyData)(a b c:Option V):Loc:=[some (.d (.list (due m))),some (.d (.list (zb cs))),some (.d (.int (n:Int))),some (.d y),a,b,c,none]
noncomputable def zmk:CSs:=#[.asg (.name 5) (.idx (.idx (.loc 3) (.int 1)) (.loc 4)),.ife (.or_ (.nt (.prim (.isinst .tuple) #[.loc 5])) (.or_ (.cmp .ne (.prim .len #[.loc 5]) (.int 2)) (.or_ (.nt (.call 23 #[.idx (.loc 5) (.int 0)])) (.nt (.chain .le .le (.neg (.int 1)) (.idx (.loc 5) (.int 0)) (.int 1)))))) #[.ret (.bool false)] .nil,.asg (.name 6) (.comp (.loc 7) (.name 7) (.e (.loc 1)) #[.cmp .eq (.call 24 #[.idx (.loc 0) (.loc 4),.loc 7]) (.idx (.loc 5) (.int 0))]),.ife (.nt (.call 38 #[.loc 0,.loc 6,.bin .sub (.loc 2) (.int 1),.idx (.loc 5) (.int 1)])) #[.ret (.bool false)] .nil]
theorem zmj{xs:List PyData}{x:PyData}{i:Nat}{O:za}(hl:xs.length<=line)(h:xs[i]?=some x):idxV (.d (.list xs)) (.d (.int (i:Int))) O=.ok (.d x) O:=by
 rw[kx];have e2:idxD (.list xs) (.int (i:Int))=some x:=by
  unfold idxD items;dsimp only;rw[af hl,af (Int.natCast_nonneg i),cw];exact h
 rw[e2];rfl
theorem zig{xs:List PyData}{x:PyData}{i:Nat}{O:za}(hl:xs.length<=line)(h:xs[i]?=some x):idxV (.d (.tuple xs)) (.d (.int (i:Int))) O=.ok (.d x) O:=by
 rw[kx];have e2:idxD (.tuple xs) (.int (i:Int))=some x:=by
  unfold idxD items;dsimp only;rw[af hl,af (Int.natCast_nonneg i),cw];exact h
 rw[e2];rfl
section
variable{m k n:Nat}{cs:Cs}{y:PyData}
theorem zej{α:Type}{Q:α->PyData->Prop}:∀ {ws:List α} {ys:List PyData},gw Q ws ys->ys.length=ws.length
 | [],ys,h=>by have h:ys=[]:=h;subst h;rfl
 | w::ws,ys,h=>by
   refine fL h ?_;clear h;intro y zs eO _ h;subst eO;rw[aR,aR,zej h]
theorem zlr{O:za}:cmpV .eq (.d zcf) (.d (.tuple [])) O=.ok (.d (.bool false)) O:=by kernel_rfl
theorem zcn(h:Ok12 m cs)(hn:n<=11)(hl:3 ^ n < cs.length):zf P table (k+2) false 38 [.d (.list (due m)),.d (.list (zb cs)),.d (.int (n:Int)),.d zcf] []=.ok (.d (.bool true)) []:=by
 have e:evE (PG (k+1) false) (RH m n cs zcf none none none) (.cmp .gt (.prim .len #[.loc 1]) (.call 37 #[.loc 2])) []=.ok (.d (.bool true)) []:=by
  refine (zp (yj rfl rfl (xo rfl h.line)) (zi rfl (zj4 hn)) v_gt).trans ?_;rw[zq,aA (Int.ofNat_lt.mpr hl)]
 exact zj (fn:=c38) rfl ⟨rfl,by decide⟩ rfl ((zc (zx (yf (w_nt (bb:=true) rfl) (yf (zp rfl rfl zlr) (w_nt (bb:=true) rfl))))).trans (ze ((w_if (bb:=true) (zp rfl rfl q_MM)).trans (ze (z8 (je rfl e))))))
theorem zra(hm:m4 m)(h:Ok12 m cs){ys:List PyData}(hyl:ys.length<=line)(hdl:(due m).length<=line){i:Nat}{w:Wg}{row:PyData}(hw:w∈dueI m)(hwi:(due m)[i]?=some (wD w))(hri:ys[i]?=some row)(hr:Row m n cs w row)
 (ih:∀ {cs:Cs} {y:PyData},Hd m n cs y->Ok12 m cs->zf P table (k+1) false 38 [.d (.list (due m)),.d (.list (zb cs)),.d (.int (n:Int)),.d y] []=.ok (.d (.bool true)) []) {a b c:Option V} :
 ∃ b' c',z6 (PG (k+1) false) (.name 4) zmk (.int (i:Int)) (RH m (n+1) cs (y5 ys) a b c) []=.ok .next (RH m (n+1) cs (y5 ys) (some (.d (.int (i:Int)))) b' c',[]):=by
 refine fL hr ?_;clear hr;intro o z eO ho hz;subst eO;have hw':w∈wsI m:=bG.mpr ⟨w,hw,.head _⟩;have hnum:((n+1:Nat):Int) - 1=(n:Int):=by lia
 refine fY (some (.d (rowD o z))) (some (.d (.list (zb (zg w o cs))))) ?_;have ep:=zhg (k:=k+1) (f:=24) (a:=7) (b:=1) (w:=w) (o:=o) (wx:=.idx (.loc 0) (.loc 4)) (ox:=.idx (.loc 5) (.int 0)) (ρ:=RH m (n+1) cs (y5 ys) (some (.d (.int (i:Int)))) (some (.d (rowD o z))) c) (O:=[]) h (g9 hm hw') rfl rfl (fun uA=>zy rfl rfl (zmj hdl hwi)) fun uA=>zy rfl rfl rfl;have ech:evE (PG (k+1) false) (RH m (n+1) cs (y5 ys) (some (.d (.int (i:Int)))) (some (.d (rowD o z))) c) (.chain .le .le (.neg (.int 1)) (.idx (.loc 5) (.int 0)) (.int 1)) []=.ok (.d (.bool true)) []:=by
  refine fx (ag.mp ho) ?_ ?_;rotate_left;intro ho;rotate_right;rintro rfl
  ·rfl
  refine fx (ag.mp ho) ?_ ?_
  ·rintro rfl;rfl
  ·intro ho;rw[ae.mp ho];rfl
 have ew:evE (PG (k+1) false) (RH m (n+1) cs (y5 ys) (some (.d (.int (i:Int)))) (some (.d (rowD o z))) c) (.call 23 #[.idx (.loc 5) (.int 0)]) []=.ok (.d (.bool true)) []:=zi (zh (zy rfl rfl rfl) rfl) (zdq (k:=k));have ec:evE (PG (k+1) false) (RH m (n+1) cs (y5 ys) (some (.d (.int (i:Int)))) (some (.d (rowD o z))) (some (.d (.list (zb (zg w o cs)))))) (.call 38 #[.loc 0,.loc 6,.bin .sub (.loc 2) (.int 1),.idx (.loc 5) (.int 1)]) []=.ok (.d (.bool true)) []:=by
  refine zi (zh rfl (zh rfl (zh (yd rfl rfl v8) (zh (zy rfl rfl rfl) rfl)))) ?_;rw[hnum];exact ih hz (h.part w o)
 exact (zc (P:=PG (k+1) false) (ρ:=RH m (n+1) cs (y5 ys) (some (.d (.int (i:Int)))) b c) (zz (zy (zy rfl rfl rfl) rfl (zig hyl hri)) rfl rfl)).trans ((zc (zx (yf (w_nt (bb:=true) rfl) (yf rfl (yf (w_nt (bb:=true) ew) (w_nt (bb:=true) ech)))))).trans ((zc (zz ep rfl rfl)).trans ((zc (zx (w_nt (bb:=true) ec))).trans rfl)))
theorem zl4(hm:m4 m)(h:Ok12 m cs){ys:List PyData}(hyl:ys.length<=line)(hdl:(due m).length<=line){us:List PyData}
 (ih:∀ {cs:Cs} {y:PyData},Hd m n cs y->Ok12 m cs->zf P table (k+1) false 38 [.d (.list (due m)),.d (.list (zb cs)),.d (.int (n:Int)),.d y] []=.ok (.d (.bool true)) []):∀ (ws:List Wg) (zs:List PyData) (i:Nat) (a b c:Option V),(dueI m).drop i=ws->ys.drop i=zs->gw (Row m n cs) ws zs ->
 ∃ a' b' c',zv (.plain us) (z6 (PG (k+1) false) (.name 4) zmk) ((ws.zipIdx i).map fun p=>.int (p.2:Int)) (RH m (n+1) cs (y5 ys) a b c) []=.ok .next (RH m (n+1) cs (y5 ys) a' b' c',[])
 | [],zs,i,a,b,c,_,_,_=>⟨a,b,c,rfl⟩
 | w::ws,zs,i,a,b,c,hd,hz,hr=>by
   refine fL hr ?_;clear hr;intro row zs eO hrow hr;subst eO;have hwi:(dueI m)[i]?=some w:=by
    have:((dueI m).drop i)[0]?=some w:=by rw[hd];rfl
    rwa [List.getElem?_drop,Nat.add_zero] at this
   have hri:ys[i]?=some row:=by
    have:(ys.drop i)[0]?=some row:=by rw[hz];rfl
    rwa [List.getElem?_drop,Nat.add_zero] at this
   have hdi:(due m)[i]?=some (wD w):=by
    show ((dueI m).map wD)[i]?=_;rw[aU,hwi];rfl
   refine fW (zra (k:=k) (a:=a) (b:=b) (c:=c) hm h hyl hdl (ay hwi) hdi hri hrow ih) fun b' c' e=>?_;refine fW (zl4 hm h hyl hdl (us:=us) ih ws zs (i+1) (some (.d (.int (i:Int)))) b' c' (by rw[<- List.drop_drop,hd];rfl) (by rw[<- List.drop_drop,hz];rfl) hr) fun a2A b2A eO=>?_;refine fG eO fun c2A e2A=>?_;rw[eF,a6];exact⟨a2A,b2A,c2A,(yx e).trans e2A⟩
theorem zle{α:Type}{l:List α}:zl 0 (l.length:Int)=(l.zipIdx 0).map fun p=>.int (p.2:Int):=by
 rw[show (fun p:α×Nat=>PyData.int (p.2:Int))=(fun i:Nat=>PyData.int (i:Int))∘Prod.snd from rfl,<- cI,List.zipIdx_map_snd,<- List.range_eq_range'];unfold zl;rw[Int.sub_zero,cw];exact cz fun i uA=>by rw[Int.zero_add]
theorem zm9(hm:m4 m):∀ {n:Nat} {cs:Cs} {y:PyData},n<=11->Hd m n cs y->Ok12 m cs->zf P table (k+n+2) false 38 [.d (.list (due m)),.d (.list (zb cs)),.d (.int (n:Int)),.d y] []=.ok (.d (.bool true)) []
 | 0,cs,y,hn,hy,h=>by rw[hy.2];exact zcn h hn hy.1
 | n+1,cs,y,hn,hy,h=>by
   refine fx hy ?_ ?_<;>clear hy
   ·rintro ⟨hl,rfl⟩;exact zcn (k:=k+n+1) h hn hl
   ·rintro ⟨ys,rfl,hy⟩;have hlen:ys.length=(dueI m).length:=zej hy;have h25:=znb hm;have hdm:(due m).length=(dueI m).length:=aL _;have hyl:ys.length<=line:=by rw[hlen];exact ai h25 (by decide)
    have hdl:(due m).length<=line:=by rw[hdm];exact ai h25 (by decide)
    have el:∀ {q:Nat},evE (PG q false) (RH m (n+1) cs (y5 ys) none none none) (.prim .len #[.loc 0]) []=.ok (.d (.int ((dueI m).length:Int))) []:=by
     intro q;refine (yj rfl rfl (xo rfl hdl)).trans ?_;rw[hdm]
    have ey:evE (PG (k+n+2) false) (RH m (n+1) cs (y5 ys) none none none) (.prim .len #[.idx (.loc 3) (.int 1)]) []=.ok (.d (.int ((dueI m).length:Int))) []:=by
     refine (yj rfl (zy rfl rfl rfl) (zrx hyl)).trans ?_;rw[hlen]
    have e4:evE (PG (k+n+2) false) (RH m (n+1) cs (y5 ys) none none none) (.cmp .ne (.prim .len #[.idx (.loc 3) (.int 1)]) (.prim .len #[.loc 0])) []=.ok (.d (.bool false)) []:=(zp ey el ne_int).trans (by rw[aA rfl];rfl);have e0:evE (PG (k+n+2) false) (RH m (n+1) cs (y5 ys) none none none) (.cmp .eq (.loc 2) (.int 0)) []=.ok (.d (.bool false)) []:=(zp rfl rfl eq_int).trans (by rw[aF (by lia)]);have hly:(y5 ys).canLay0=true:=zap (m:=m) (n:=n+1) (cs:=cs) (.inr ⟨ys,rfl,hy⟩);have eT:evE (PG (k+n+2) false) (RH m (n+1) cs (y5 ys) none none none) (.cmp .eq (.loc 3) (.tup .nil)) []=.ok (.d (.bool false)) []:=zp rfl rfl (each_nil hly);have hI:evI (PG (k+n+2) false) (RH m (n+1) cs (y5 ys) none none none) (.range (.int 0) (.prim .len #[.loc 0])) []=.ok (.plain (zl 0 ((dueI m).length:Int))) []:=by
     rw[q7,jc,zw,el,zw];exact xn (by lia)
    refine fW (zl4 (k:=k+n+1) (us:=zl 0 ((dueI m).length:Int)) hm h hyl hdl (fun h1 h2=>zm9 hm (by exact Nat.le_of_lt (by assumption)) h1 h2) (dueI m) ys 0 none none none rfl rfl hy) fun a b eO=>?_;refine fG eO fun c e=>?_;have ef:evS (PG (k+n+2) false) (.for_ (.name 4) (.range (.int 0) (.prim .len #[.loc 0])) zmk) (RH m (n+1) cs (y5 ys) none none none) []=.ok .next (RH m (n+1) cs (y5 ys) a b c,[]):=by
     rw[jn,ak ao,hI,<- e,<- zle];rfl
    exact zj (fn:=c38) rfl ⟨rfl,by decide⟩ rfl ((zc (zx (yf (w_nt (bb:=true) rfl) (yf eT (w_nt (bb:=true) rfl))))).trans ((zc (zx (zp rfl rfl q_EM))).trans ((zc (zx (yf (zp rfl rfl n_EE) (yf rfl (yf e0 (w_nt (bb:=true) rfl)))))).trans ((zc (zx e4)).trans ((zc ef).trans (ze (z8 rfl)))))))
end
noncomputable abbrev sN:Str:=Str.ofString "none"
noncomputable abbrev sA:Str:=Str.ofString "alike"
noncomputable abbrev sP:Str:=Str.ofString "plan"
noncomputable abbrev zh8:PyData:=.tuple [.str sN]
noncomputable abbrev q0(x y:PyData):PyData:=.tuple [.str sA,x,y]
noncomputable abbrev zaf(x y:PyData):PyData:=.tuple [.str sP,x,y]
theorem q_AA{O:za}:cmpV .eq (.d (.str sA)) (.d (.str sA)) O=.ok (.d (.bool true)) O:=by kernel_rfl
theorem q_PA{O:za}:cmpV .eq (.d (.str sP)) (.d (.str sA)) O=.ok (.d (.bool false)) O:=by kernel_rfl
theorem q_NA{O:za}:cmpV .eq (.d (.str sN)) (.d (.str sA)) O=.ok (.d (.bool false)) O:=by kernel_rfl
theorem q_PP{O:za}:cmpV .eq (.d (.str sP)) (.d (.str sP)) O=.ok (.d (.bool true)) O:=by kernel_rfl
theorem q_AP{O:za}:cmpV .eq (.d (.str sA)) (.d (.str sP)) O=.ok (.d (.bool false)) O:=by kernel_rfl
theorem q_NP{O:za}:cmpV .eq (.d (.str sN)) (.d (.str sP)) O=.ok (.d (.bool false)) O:=by kernel_rfl
theorem q_NN{O:za}:cmpV .eq (.d (.str sN)) (.d (.str sN)) O=.ok (.d (.bool true)) O:=by kernel_rfl
theorem n_PP{O:za}:cmpV .ne (.d (.str sP)) (.d (.str sP)) O=.ok (.d (.bool false)) O:=by kernel_rfl
theorem q_none{O:za}:cmpV .eq (.d zh8) (.d zh8) O=.ok (.d (.bool true)) O:=by kernel_rfl
theorem zln{O:za}:cmpV .eq (.d zh8) (.d (.tuple [])) O=.ok (.d (.bool false)) O:=by kernel_rfl
theorem zhy{x:PyData}{xs:List PyData}{O:za}(h:(PyData.tuple (x::xs)).canLay0=true):cmpV .eq (.d (.tuple (x::xs))) (.d (.tuple [])) O=.ok (.d (.bool false)) O:=by
 have hk:eqOk (.tuple (x::xs)) (.tuple [])=true:=by
  unfold eqOk;rw[h,aA (ai (Nat.min_le_right _ _) (by decide))];decide +kernel
 rw[v_eq];show opt (Option.map _ (if eqOk (.tuple (x::xs)) (.tuple [])=true then some (PyData.eqv (.tuple (x::xs)) (.tuple [])) else none)) O=_;rw[af hk];rfl
theorem pe:∀ p:Pl,p.toD.canLay0=true
 | .no=>rfl
 | .told c=>by
   show ((PyData.str sT).canLay0 && ((caseD c).canLay0 && true))=true;rw[x0];decide +kernel
 | .weigh w a b c=>by
   show ((PyData.str sW).canLay0 && ((((caseD w.1).canLay0 && ((caseD w.2).canLay0 && true))) && ((a.toD.canLay0 && (b.toD.canLay0 && (c.toD.canLay0 && true))) && true)))=true;rw[x0,x0,pe a,pe b,pe c];decide +kernel
theorem Held.lay{m n:Nat}{cs:Cs}{h:PyData}(hh:Held m cs n h):h.canLay0=true:=by
 cases n with
 | zero=>have hh:h=.none:=hh;subst hh;rfl
 | succ n=>exact zap (show Hd m n cs h from hh)
theorem h8{c:List Int}{cs:Cs}{O:za}:cmpV .notin (.d (caseD c)) (.d (.list (zb cs))) O=.ok (.d (.bool !decide (c∈cs))) O:=by
 show opt (((inD (caseD c) (zb cs)).map (!·)).map fun b=>V.d (.bool b)) _=_;rw[ze3];rfl
noncomputable abbrev R39(m:Nat)(so:Cs)(t:PyData)(x:Option V):Loc:=[some (.d (.list (due m))),some (.d (.list (zb so))),some (.d t),x,none]
noncomputable def zqc:CSs:=#[.ife (.or_ (.nt (.prim (.isinst .tuple) #[.loc 3])) (.nt (.prim .all #[.comp (.call 23 #[.loc 4]) (.name 4) (.e (.loc 3)) .nil]))) #[.ret (.bool false)] .nil]
section
variable{m k n:Nat}{cs so:Cs}{ds:List Dn}{s:List Int}
theorem zky{t:PyData}{c:List Int}(hl:c.length<=5){x:Option V}:z6 (PG (k+1) false) (.name 3) zqc (caseD c) (R39 m so t x) []=.ok .next (R39 m so t (some (.d (caseD c))),[]):=
 (zc (P:=PG (k+1) false) (ρ:=R39 m so t (some (.d (caseD c)))) (zx (yf (w_nt (bb:=true) rfl) (w_nt (bb:=true) (zcx (c:=c) rfl rfl hl))))).trans rfl
theorem zsy(hm:m4 m)(h:Ok12 m so){x y:PyData}(pr:PairR m so x y):zf P table (k+3) false 39 [.d (.list (due m)),.d (.list (zb so)),.d (q0 x y)] []=.ok (.d (.bool true)) []:=by
 obtain⟨a,b,rfl,rfl,ha,hb,al,ne⟩:=pr;have ga:=h.good a ha;have gb:=h.good b hb;have n1:evE (PG (k+2) false) (R39 m so (q0 (caseD a) (caseD b)) none) (.cmp .notin (.idx (.loc 2) (.int 1)) (.loc 1)) []=.ok (.d (.bool false)) []:=(zp (zy rfl rfl rfl) rfl h8).trans (by rw[aA ha];rfl);have n2:evE (PG (k+2) false) (R39 m so (q0 (caseD a) (caseD b)) none) (.cmp .notin (.idx (.loc 2) (.int 2)) (.loc 1)) []=.ok (.d (.bool false)) []:=(zp (zy rfl rfl rfl) rfl h8).trans (by rw[aA hb];rfl);have n3:evE (PG (k+2) false) (R39 m so (q0 (caseD a) (caseD b)) none) (.cmp .eq (.idx (.loc 2) (.int 1)) (.idx (.loc 2) (.int 2))) []=.ok (.d (.bool false)) []:=(zp (zy rfl rfl rfl) (zy rfl rfl rfl) zin).trans (by rw[aF ne]);have ef:evS (PG (k+2) false) (.for_ (.name 3) (.e (.sliceT (.loc 2) (.int 1) .none)) zqc) (R39 m so (q0 (caseD a) (caseD b)) none) []=.ok .next (R39 m so (q0 (caseD a) (caseD b)) (some (.d (caseD b))),[]):=by
  rw[jn,ak ao];exact (yx (ys:=[caseD a,caseD b]) (xs:=[caseD b]) (zky (k:=k+1) (zav hm ga))).trans ((yx (zky (k:=k+1) (zav hm gb))).trans rfl)
 have el:=zfe (k:=k) hm ga gb;rw[al] at el;exact zj (fn:=c39) rfl ⟨rfl,by decide⟩ rfl ((zc (zx (yf rfl (yf n1 (yf n2 n3))))).trans ((zc ef).trans (ze (z8 (zi (zh rfl (zh (zy rfl rfl rfl) (zh (zy rfl rfl rfl) rfl))) el)))))
noncomputable abbrev R40(m:Nat)(so:Cs)(t:PyData)(x:Option V):Loc:=[some (.d (.int m)),some (.d (.list (due m))),some (.d (.list (zb so))),some (.d t),x]
theorem PlR.plan{y:PyData}(h:PlR m n so y)(hl:Least (dueI m) n so)(hne:so≠[]):∃ p:Pl,y=p.toD/\p.fits m so/\p.hgt=n:=by
 obtain⟨p,e,fit,le⟩:=h;exact fJ p e fit (dO le (eE fun hlt=>by have:=hl.no _ hlt;rw[Pl.solv p so fit hne] at this;contradiction))
theorem zm6{p:Pl}(fit:p.fits m so)(hne:so≠[])(hp:p.hgt=n)(hn:n<=11):zf P table (k+16) false 36 [.d p.toD] []=.ok (.d (.int (n:Int))) []:=by
 have el:=zir p so fit hne (k+15 - p.hgt);rw[show k+15 - p.hgt+p.hgt+1=k+16 by lia,hp] at el;exact el
theorem zph(hm:m4 m)(h:Ok12 m so){t:PyData}(ht:zi2 m so t):zf P table (k+17) false 40 [.d (.int m),.d (.list (due m)),.d (.list (zb so)),.d t] []=.ok (.d (.bool true)) []:=by
 have e0:∀ {t:PyData} {x:Option V},evE (PG (k+16) false) (R40 m so t x) (.cmp .eq (.loc 2) (.list .nil)) []=.ok (.d (.bool so.isEmpty)) []:=zdv rfl
 cases ht with
 | none hs e=>
   subst e;subst hs;exact zj (fn:=c40) rfl ⟨rfl,by decide⟩ rfl ((zc (zx (yf (w_nt (bb:=true) rfl) (yf (zp rfl rfl zln) (w_nt (bb:=true) rfl))))).trans (ze ((w_if (e0 (t:=zh8) (x:=none))).trans ((af rfl).trans (ze (z8 (zp rfl rfl q_none)))))))
 | alike hne hp a b pr e=>
   subst e;have hem:so.isEmpty=false:=aX.mpr fun h=>hne (cC.mp h);rw[hem] at e0;have hly:(q0 a b).canLay0=true:=by
    obtain⟨a,b,rfl,rfl,_⟩:=pr;show ((PyData.str sA).canLay0 && ((caseD a).canLay0 && ((caseD b).canLay0 && true)))=true;rw[x0,x0];decide +kernel
   exact zj (fn:=c40) rfl ⟨rfl,by decide⟩ rfl ((zc (zx (yf (w_nt (bb:=true) rfl) (yf (zp rfl rfl (zhy hly)) (w_nt (bb:=true) rfl))))).trans ((zc (zx (e0 (t:=q0 a b) (x:=none)))).trans (ze ((w_if (bb:=true) (zp (zy rfl rfl rfl) rfl q_AA)).trans (ze (z8 (zi rfl (zsy (k:=k+13) hm h pr))))))))
 | plan n hne hN hp hl y hh hy hd e=>
   subst e;have hem:so.isEmpty=false:=aX.mpr fun h=>hne (cC.mp h);rw[hem] at e0;refine fN (hy.plan hl hne) fun p eN fit hpn=>?_;subst eN;have hly:(zaf p.toD hh).canLay0=true:=by
    show ((PyData.str sP).canLay0 && (p.toD.canLay0 && (hh.canLay0 && true)))=true;rw[pe,Held.lay hd];decide +kernel
   have ep:=zds hm p so fit h hne (k+12 - p.hgt);rw[show k+12 - p.hgt+p.hgt+4=k+16 by lia] at ep;have e3:evE (PG (k+16) false) (R40 m so (zaf p.toD hh) none) (.or_ (.cmp .ne (.idx (.loc 3) (.int 0)) (.str (Str.ofString "plan"))) (.or_ (.cmp .ne (.prim .len #[.loc 3]) (.int 3)) (.nt (.call 35 #[.loc 0,.loc 2,.idx (.loc 3) (.int 1)])))) []=.ok (.d (.bool false)) []:=
    yf (zp (zy rfl rfl rfl) rfl n_PP) (yf rfl (w_nt (bb:=true) (zi (zh rfl (zh rfl (zh (zy rfl rfl rfl) rfl))) ep)))
   have e4:evS (PG (k+16) false) (.asg (.name 4) (.call 36 #[.idx (.loc 3) (.int 1)])) (R40 m so (zaf p.toD hh) none) []=.ok .next (R40 m so (zaf p.toD hh) (some (.d (.int (n:Int)))),[]):=zz (zi (zh (zy rfl rfl rfl) rfl) (zm6 (k:=k) fit hne hpn hN)) rfl rfl;have e5:evE (PG (k+16) false) (R40 m so (zaf p.toD hh) (some (.d (.int (n:Int))))) (.cmp .eq (.loc 4) (.int 0)) []=.ok (.d (.bool (decide ((n:Int)=0)))) []:=zp rfl rfl eq_int;refine zj (fn:=c40) (ρ':=R40 m so (zaf p.toD hh) (some (.d (.int (n:Int))))) rfl ⟨rfl,by decide⟩ rfl ((zc (zx (yf (w_nt (bb:=true) rfl) (yf (zp rfl rfl (zhy hly)) (w_nt (bb:=true) rfl))))).trans ((zc (zx (e0 (t:=zaf p.toD hh) (x:=none)))).trans ((zc (zx (zp (zy rfl rfl rfl) rfl q_PA))).trans ((zc (zx e3)).trans ((zc e4).trans ?_)))))
   cases n with
   | zero=>
     have hd:hh=.none:=hd;subst hd;exact ze ((w_if e5).trans ((af rfl).trans (ze (z8 (zp (zy rfl rfl rfl) rfl rfl)))))
   | succ n=>
     rw[aF (by lia)] at e5;have hnum:((n+1:Nat):Int) - 1=(n:Int):=by lia
     have eh:=zm9 (k:=k+14 - n) hm (n:=n) (by exact Nat.le_of_lt (by assumption)) (show Hd m n so hh from hd) h;rw[show k+14 - n+n+2=k+16 by lia] at eh;refine (zc (zx e5)).trans (ze (z8 (zi (zh rfl (zh rfl (zh (yd rfl rfl v8) (zh (zy rfl rfl rfl) rfl)))) ?_)));rw[hnum];exact eh
noncomputable abbrev ze6(cs:Cs)(ds:List Dn):PyData:=.list [.list (zb cs),.list (dnsD ds)]
noncomputable abbrev R41(s:List Int)(m:Nat)(cs:Cs)(ds:List Dn)(so:Cs)(x t:PyData)(a b:Option V):Loc:=[some (.d (.list (s.map .int))),some (.d (.int m)),some (.d (.list (zb cs))),some (.d (.list (dnsD ds))),some (.d (.list (zb so))),some (.d (.list (due m))),some (.d (ze6 cs ds)),some (.d x),some (.d t),a,b]
noncomputable def endB:CSs:=#[.ife (.or_ (.nt (.call 40 #[.loc 1,.loc 5,.loc 4,.loc 8])) (.cmp .ne (.loc 6) (.list #[.loc 2,.loc 3]))) #[.ret (.bool false)] .nil,.ife (.cmp .ne (.cmp .eq (.idx (.loc 8) (.int 0)) (.str (Str.ofString "alike"))) (.call 31 #[.loc 5,.loc 4])) #[.ret (.bool false)] .nil,.asg (.name 9) (.ite (.cmp .eq (.idx (.loc 8) (.int 0)) (.str (Str.ofString "plan"))) (.call 36 #[.idx (.loc 8) (.int 1)]) .none),.ife (.or_ (.cmp .ne (.loc 7) (.loc 9)) (.and_ (.cmp .isnot (.loc 9) .none) (.nt (.call 23 #[.loc 7])))) #[.ret (.bool false)] .nil,.asg (.name 10) (.call 19 #[.loc 1,.idx (.loc 6) (.int 0),.idx (.loc 6) (.int 1)]),.ret (.and_ (.cmp .eq (.idx (.loc 10) (.int 0)) (.idx (.loc 8) (.int 0))) (.and_ (.call 40 #[.loc 1,.loc 5,.loc 4,.loc 10]) (.cmp .eq (.call 20 #[.loc 1,.idx (.loc 6) (.int 0),.idx (.loc 6) (.int 1)]) (.loc 9))))]
theorem Least.eq{ws:List Wg}{a b:Nat}(h1:Least ws a so)(h2:Least ws b so):a=b:=by
 rcases Nat.lt_trichotomy a b with h | h | h
 ·have:=h2.no a h;rw[h1.yes] at this;contradiction
 ·exact h
 ·have:=h1.no b h;rw[h2.yes] at this;contradiction
inductive zvv(k:Nat)(m:Nat)(so:Cs)(t x:PyData):Prop
 | mk (w:Str) (xs:List PyData) (bA bP:Bool) (e:t=.tuple (.str w::xs)) (hl:(xs.length:Nat)<=2) (qA:∀ O,cmpV .eq (.d (.str w)) (.d (.str sA)) O=.ok (.d (.bool bA)) O) (qP:∀ O,cmpV .eq (.d (.str w)) (.d (.str sP)) O=.ok (.d (.bool bP)) O) (qq:∀ O,cmpV .eq (.d (.str w)) (.d (.str w)) O=.ok (.d (.bool true)) O)
    (al:zf P table (k+37) false 31 [.d (.list (due m)),.d (.list (zb so))] []=.ok (.d (.bool bA)) [])
    (len:(bP=false/\x=.none)\/∃ (p:Pl) (h:PyData) (n:Nat),bP=true/\xs=[p.toD,h]/\x=.int (n:Int)/\p.fits m so/\p.hgt=n/\n<=11/\so≠[])
theorem zqz(hm:m4 m)(h:Ok12 m so){t x:PyData}(ht:zi2 m so t)(hx:zhq m so x):zvv k m so t x:=by
 have hal:=zhi (k:=k+34) hm h
 cases ht with
 | none hs e=>
   have hp:Pw (dueI m) so:=by rw[hs];exact List.Pairwise.nil
   refine fx hal ?_ ?_
   ·rintro ⟨_,al⟩;refine⟨sN,[],false,false,e,by decide,fun uA=>q_NA,fun uA=>q_NP,fun uA=>q_NN,al,.inl ⟨rfl,?_⟩⟩
    cases hx with
    | none _ e=>exact e
    | some n hne _ _ _=>exact (hne hs).elim
   ·rintro ⟨hn,_⟩;exact (hn hp).elim
 | alike hne hp a b pr e=>
   refine fx hal ?_ ?_
   ·rintro ⟨hy,_⟩;exact (hp hy).elim
   ·rintro ⟨_,al⟩;refine⟨sA,[a,b],true,false,e,by show 2<=2;decide,fun uA=>q_AA,fun uA=>q_AP,fun uA=>q_AA,al,.inl ⟨rfl,?_⟩⟩
    cases hx with
    | none _ e=>exact e
    | some n _ hp' _ _=>exact (hp hp').elim
 | plan n hne hN hp hl y hh hy hd e=>
   refine fx hal ?_ ?_
   ·rintro ⟨_,al⟩;refine fN (hy.plan hl hne) fun p eN fit hpn=>?_;subst eN;refine⟨sP,[p.toD,hh],false,true,e,by show 2<=2;decide,fun uA=>q_PA,fun uA=>q_PP,fun uA=>q_PP,al,.inr ⟨p,hh,n,rfl,rfl,?_,fit,hpn,hN,hne⟩⟩
    cases hx with
    | none hb _=>exact (hb.elim hne fun h=>h hp).elim
    | some n' _ _ hl' e=>rw[e,hl.eq hl']
   ·rintro ⟨hn,_⟩;exact (hn hp).elim
theorem idx0{w:Str}{xs:List PyData}{O:za}(hl:xs.length<=2):idxV (.d (.tuple (.str w::xs))) (.d (.int 0)) O=.ok (.d (.str w)) O:=zig (i:=0) (by rw[aR];exact ai (bM hl) (by decide)) rfl
theorem Lay.tup{n:Nat}{x y:PyData}(hx:Lay n x)(hy:Lay n y):Lay (n+1) (.tuple [x,y]):=
 have h:∀ z∈[x,y],Lay n z:=fun z hz=>by
  refine fx (ag.mp hz) ?_ ?_
  ·rintro rfl;exact hx
  ·intro hz;rw[ae.mp hz];exact hy
 ⟨(lay_all _ h).1,bM (lay_all _ h).2⟩
theorem Lay.mono{n n':Nat}{x:PyData}(h:Lay n x)(hn:n<=n'):Lay n' x:=⟨h.lay,ai h.depth hn⟩
theorem zr1(d:Dn):Lay 12 (dnD d):=Lay.tup (n:=11) (Lay.tup (xd [d.1] _ (.head _)) (xd [d.2.1] _ (.head _))) ⟨rfl,be _⟩
theorem zo9{O:za}:cmpV .ne (.d (ze6 cs ds)) (.d (ze6 cs ds)) O=.ok (.d (.bool false)) O:=by
 have hl:Lay 14 (ze6 cs ds):=Lay.list fun x hx=>by
  refine fx (ag.mp hx) ?_ ?_
  ·rintro rfl;exact (Lay.list (xd cs)).mono (by decide)
  ·intro hx;rw[ae.mp hx];exact Lay.list fun x hx=>by refine fC (az.mp hx) fun d fy eO=>?_;subst eO;exact zr1 d
 rw[v_ne,(hl.eq (by decide)).2];rfl
theorem zvc(hm:m4 m)(hd:∀ d∈ds,OkD m d)(h:Ok12 m so){t x:PyData}(ht:zi2 m so t)(hx:zhq m so x)(et:zf P table (k+37) false 19 [.d (.int m),.d (.list (zb cs)),.d (.list (dnsD ds))] []=.ok (.d t) [])(ex:zf P table (k+37) false 20 [.d (.int m),.d (.list (zb cs)),.d (.list (dnsD ds))] []=.ok (.d x) []) :
 ∃ ρ',evSs (PG (k+37) false) endB (R41 s m cs ds so x t none none) []=.ok (.ret (.d (.bool true))) (ρ',[]):=by
 have er:=zph (k:=k+20) hm h ht;obtain⟨w,xs,bA,bP,rfl,hxl,qA,qP,qq,al,len⟩:=zqz (k:=k) hm h ht hx;have i0:∀ {a b:Option V},evE (PG (k+37) false) (R41 s m cs ds so x (.tuple (.str w::xs)) a b) (.idx (.loc 8) (.int 0)) []=.ok (.d (.str w)) []:=zy rfl rfl (idx0 hxl);have e1:evE (PG (k+37) false) (R41 s m cs ds so x (.tuple (.str w::xs)) none none) (.or_ (.nt (.call 40 #[.loc 1,.loc 5,.loc 4,.loc 8])) (.cmp .ne (.loc 6) (.list #[.loc 2,.loc 3]))) []=.ok (.d (.bool false)) []:=
  yf (w_nt (bb:=true) (zi rfl er)) (zp rfl rfl zo9)
 have e2:evE (PG (k+37) false) (R41 s m cs ds so x (.tuple (.str w::xs)) none none) (.cmp .ne (.cmp .eq (.idx (.loc 8) (.int 0)) (.str (Str.ofString "alike"))) (.call 31 #[.loc 5,.loc 4])) []=.ok (.d (.bool false)) []:=
  zp (zp i0 rfl (qA _)) (zi rfl al) (by cases bA <;> rfl)
 have e3:evE (PG (k+37) false) (R41 s m cs ds so x (.tuple (.str w::xs)) none none) (.ite (.cmp .eq (.idx (.loc 8) (.int 0)) (.str (Str.ofString "plan"))) (.call 36 #[.idx (.loc 8) (.int 1)]) .none) []=.ok (.d x) []:=by
  have et:evE (PG (k+37) false) (R41 s m cs ds so x (.tuple (.str w::xs)) none none) (.cmp .eq (.idx (.loc 8) (.int 0)) (.str (Str.ofString "plan"))) []=.ok (.d (.bool bP)) []:=zp i0 rfl (qP _);rw[zht,et];refine fx len ?_ ?_<;>clear len
  ·rintro ⟨rfl,rfl⟩;rfl
  ·rintro ⟨p,hh,n,rfl,rfl,rfl,fit,hpn,hN,hne⟩;show evE (PG (k+37) false) (R41 s m cs ds so (.int (n:Int)) (.tuple [.str w,p.toD,hh]) none none) (.call 36 #[.idx (.loc 8) (.int 1)]) []=_;exact zi (zh (zy rfl rfl rfl) rfl) (zm6 (k:=k+21) fit hne hpn hN)
 have e4:evE (PG (k+37) false) (R41 s m cs ds so x (.tuple (.str w::xs)) (some (.d x)) none) (.or_ (.cmp .ne (.loc 7) (.loc 9)) (.and_ (.cmp .isnot (.loc 9) .none) (.nt (.call 23 #[.loc 7])))) []=.ok (.d (.bool false)) []:=by
  refine fx len ?_ ?_<;>clear len
  ·rintro ⟨_,rfl⟩;exact yf (zp rfl rfl rfl) (zc2 rfl)
  ·rintro ⟨p,hh,n,_,_,rfl,_⟩;exact yf ((zp rfl rfl ne_int).trans (by rw[aA rfl];rfl)) (je rfl (w_nt (bb:=true) (zi rfl (zdq (k:=k+36)))))
 have eq:cmpV .eq (.d x) (.d x) []=.ok (.d (.bool true)) []:=by
  refine fx len ?_ ?_<;>clear len
  ·rintro ⟨_,rfl⟩;rfl
  ·rintro ⟨p,hh,n,_,_,rfl,_⟩;exact eq_int.trans (by rw[aA rfl])
 exact fz _ ((zc (zx e1)).trans ((zc (zx e2)).trans ((zc (zz e3 rfl rfl)).trans ((zc (zx e4)).trans ((zc (zz (zi (zh rfl (zh (zy rfl rfl rfl) (zh (zy rfl rfl rfl) rfl))) et) rfl rfl)).trans (ze (z8 (je (zp (zy rfl rfl (idx0 hxl)) i0 (qq _)) (je (zi rfl er) (zp (zi (zh rfl (zh (zy rfl rfl rfl) (zh (zy rfl rfl rfl) rfl))) ex) rfl eq))))))))))
theorem look_list{q:Nat}{ρ:Loc}{O:za}{a:CE}{xs:List PyData}(h:xs.length<=line)(ha:evE (PG q false) ρ a O=.ok (.d (.list xs)) O):evE (PG q false) ρ (.prim .list #[a]) O=.ok (.d (.list xs)) O:=
 yj rfl ha (ul (x:=.list xs) rfl (af h))
set_option maxHeartbeats 4000000 in
theorem zva(hs:s.length<=63):zf P table (k+38) false 41 [.d (.list (s.map .int))] []=.ok (.d (.bool true)) []:=by
 refine fQ (zm0 (k:=k+34) hs) fun m cs hm h5 f e1=>?_;refine fN (zs2 (k:=k+34) hs hm f) fun ds hd hdl e2=>?_;have hD:Dns m ds:=⟨hd,ai hdl (by decide)⟩;have e3:=zpl (k:=k+35) (O:=[]) hm f hD;have ep:=zm2 (k:=k+36) hm;refine fC (zsu (k:=k) hm f hD) fun t et ht=>?_;refine fC (zpk (k:=k) hm f hD) fun x ex hx=>?_;refine fG (zvc (k:=k) (s:=s) (cs:=cs) hm hd (Ok12.open_ f) ht hx et ex) fun ρ' er=>?_;have hc:(zb cs).length<=line:=by rw[zq];exact ai f.le (by decide)
 have hl:(dnsD ds).length<=line:=by rw[kc];exact ai hdl (by decide)
 have eh:∀ {a b c d:Option V},evE (PG (k+37) false) [some (.d (.list (s.map .int))),some (.d (.int m)),some (.d (.list (zb cs))),some (.d (.list (dnsD ds))),some (.d (.list (zb (xa cs ds)))),some (.d (.list (due m))),none,a,b,c,d] (.list #[.prim .list #[.loc 2],.prim .list #[.loc 3]]) []=.ok (.d (ze6 cs ds)) []:=fun {a b c d}=>by
  rw[p9,zh (look_list hc rfl) (zh (look_list hl rfl) rfl)];rfl
 exact zj (fn:=c41) rfl ⟨rfl,by decide⟩ rfl ((zc (dn rfl (zi rfl e1) rfl)).trans ((zc (zz (zi rfl e2) rfl rfl)).trans ((zc (zz (zi rfl e3) rfl rfl)).trans ((zc (zz (zi rfl ep) rfl rfl)).trans ((zc (zz eh rfl rfl)).trans ((zc (zz (zi (zh rfl (zh (zy rfl rfl rfl) (zh (zy rfl rfl rfl) rfl))) ex) rfl rfl)).trans ((zc (zz (zi (zh rfl (zh (zy rfl rfl rfl) (zh (zy rfl rfl rfl) rfl))) et) rfl rfl)).trans er)))))))
end
theorem holds:PySem.Challenge.rw_uf050003_06.Holds:=holds_of fun script h=>⟨_,zva (k:=23) h⟩
end Mine.L06
end
end
theorem PySem.Challenge.cw_uf050003_06_holds : PySem.Challenge.rw_uf050003_06.Holds :=
  Mine.L06.holds
